import Derived.Test.YtgnljbdobbahkaaDoorSp1
namespace Ge
open Go Gx
def lineP (id : ByteArray) (c n m : Nat) : List UInt8 := bl id ++ (UInt8.ofNat c :: (leb n ++ leb m))
def longP (q : PSt) (blobs more : Nat) : Nat := q.1.length + (leb blobs).length + q.2.1.length + more + 8
def itP (q : PSt) (c : Nat) (t : ByteArray) : It := (idB c (bl t), ⟨#[]⟩, (c : Int), (q.1.length : Int), ((encP c (bl t)).length : Int), (t.size : Int))
def lineA (c : Nat) (t : ByteArray) : List UInt8 := lineP (idB c (bl t)) c (encP c (bl t)).length t.size
def longA (q : PSt) (c : Nat) (t : ByteArray) : Nat := longP q (q.2.2.1.length + 1) ((encP c (bl t)).length + (lineA c t).length)
def tooP (lim : Int) (q : PSt) (c : Nat) (t : ByteArray) : Bool := decide ((lim < (longA q c t : Int) ∧ 0 < q.2.2.1.length) ∨ 65536 < longA q c t ∨ 4096 ≤ q.2.2.1.length)
def addQ (q : PSt) (c : Nat) (t : ByteArray) : PSt := (q.1 ++ encP c (bl t), q.2.1 ++ lineA c t, q.2.2.1 ++ [itP q c t], ptM (idB c (bl t)) t q.2.2.2.length q.2.2.2)
noncomputable def addV (lim : Int) (q : PSt) (c : Nat) (t : ByteArray) : (ByteArray × Int) × PSt :=
 match lkM (idB c (bl t)) q.2.2.2 with
 | some _ => ((⟨#[]⟩, 6), q)
 | none => if tooP lim q c t = true then ((⟨#[]⟩, 2), q) else ((idB c (bl t), 0), addQ q c t)
section
variable {k pb mb : Nat} {H H' : AHeap} {s1 s2 si : Slc} {lim : Int} {q : PSt}
theorem pshort_spec (D : CallF) (hk : 20 ≤ k) (n : Nat) (hn : n < 9223372036854775808) (h : AHeap) : Gx.Wp (pack_short k D (n : Int) h) fun z => z.1 = bA (leb n) ∧ Keeps h z.2 := by
 simp only [pack_short]
 exact .call (short_spec D hk n hn h) fun r ⟨e, k1⟩ => .of ⟨by rw [e], k1⟩
theorem plong_spec (B : PB H pb mb s1 s2 si lim q) (D : CallF) (hk : 20 ≤ k) {n m : Nat} (hn : n ≤ 1000000) (hm : m ≤ 1000000) (h1 : q.1.length ≤ 1000000) (h2 : q.2.1.length ≤ 1000000) :
  Gx.Wp (pack_Builder_long k D (some ⟨pb, 0, none⟩) (n : Int) (m : Int) H) fun z => z.1 = (longP q n m : Int) ∧ Keeps H z.2 := by
 simp only [pack_Builder_long]
 refine .bnd rfl (.bnd (B.len1 D) (.call (pshort_spec D hk n (by omega) H) fun r3 ⟨e3, k3⟩ => .bnd rfl (.bnd ((B.keeps k3).len2 D) (.of ⟨?_, k3⟩))))
 rw [e3]
 have ll : (leb n).length ≤ 4 := leb_len 3 n (by omega)
 show IntKind.wrap .i64 (IntKind.wrap .i64 (IntKind.wrap .i64 (IntKind.wrap .i64 ((q.1.length : Int) + ((leb n).length : Int)) + (q.2.1.length : Int)) + (m : Int)) + 8) = _
 rw [Gx.w64 ((q.1.length : Int) + ((leb n).length : Int)) (by omega), Gx.w64 (((q.1.length : Int) + ((leb n).length : Int)) + (q.2.1.length : Int)) (by omega), Gx.w64 ((((q.1.length : Int) + ((leb n).length : Int)) + (q.2.1.length : Int)) + (m : Int)) (by omega), Gx.w64 _ (by omega)]
 unfold longP; omega
theorem PB.push (B : PB H pb mb s1 s2 si lim q) (x : It) (hl : q.2.2.1.length ≤ 100000) :
  ∃ s' h', appendA 6 64 57 (H.new (.cells (itC x) 57 true 0)) si (itC x) 1 = some (s', h') ∧ ∃ h2, st1 ⟨pb, 0 + 5, none⟩ (.slice s'.a s'.len s'.cap) h' = some h2 ∧ PB h2 pb mb s1 s2 s' lim (q.1, q.2.1, q.2.2.1 ++ [x], q.2.2.2) ∧ Chg (fun y => y = pb ∨ ofS si y) H h2 := by
 have hm := B.mlt
 have hlt := B.lt
 obtain ⟨s', h', a, A', c, d⟩ := B.A3.push itC_len itC_one x (bytes := 64) (by decide) (by omega) (by omega)
 have nx := c.nx
 obtain ⟨p1, p2, g, h1, h2⟩ := B.g
 have no : ∀ y, ofS si y → pb + 1 ≤ y ∧ y < H.next ∧ ∃ cc, H.get y = some (.cells cc 57 true 0) := fun y ⟨b, hb, e⟩ => by
  have := B.A3.lt b hb
  exact ⟨by omega, by omega, by rw [e]; exact accW_cells B.A3 hb⟩
 have g' := c.got hlt (fun w => by have := no _ w; omega) g
 have n1 : ∀ {s : Slc} {l : List UInt8} {z : Addr}, Acc encB 5 (pb + 1) H s l → s.a = some z → ¬ ofS si z.block := fun A hz w => by
  obtain ⟨_, _, cc, gg⟩ := no _ w
  obtain ⟨c1, g1⟩ := acc_cells A hz
  rw [g1] at gg; cases gg
 refine ⟨s', h', a, _, st1_of g' (by simp [pCells]) rfl, ⟨⟨p1, p2, by simp [pCells], h1, h2⟩, (B.A1.chg c fun z hz => n1 B.A1 hz).chg (S := (· = pb)) (Chg.set (.inr rfl)) fun z hz e => by have := (B.A1.lt z hz).2; have e : z.block = pb := e; omega,
  (B.A2.chg c fun z hz => n1 B.A2 hz).chg (S := (· = pb)) (Chg.set (.inr rfl)) fun z hz e => by have := (B.A2.lt z hz).2; have e : z.block = pb := e; omega,
  A'.chg (S := (· = pb)) (Chg.set (.inr rfl)) fun z hz e => by have := (A'.lt z hz).2; have e : z.block = pb := e; omega,
  (B.M.chg c hm.2 fun w => ?_).chg (S := (· = pb)) (Chg.set (.inr rfl)) (by omega) (by omega), by show pb < h'.next; omega, by show pb < mb ∧ mb < h'.next; omega, B.ap⟩, ?_⟩
 ·obtain ⟨_, _, cc, gg⟩ := no _ w
  have g2 : H.get mb = some (.map _ _) := B.M
  rw [gg] at g2; cases g2
 ·exact Chg.trans (c.wk fun y _ w => .inr w) (Chg.set (.inr (.inl rfl)))
theorem PB.upd (B : PB H pb mb s1 s2 si lim q) (id t : ByteArray) : ∃ h', updE H mb (.string id) (.string t) = some h' ∧ PB h' pb mb s1 s2 si lim (q.1, q.2.1, q.2.2.1, ptM id t q.2.2.2.length q.2.2.2) ∧ Chg (· = mb) H h' := by
 have hm := B.mlt
 have hlt := B.lt
 obtain ⟨h', u1, u2, u3, u4⟩ := B.M.upd (n := id) (fun e _ => keyEq_S id e.1) t
 obtain ⟨p1, p2, g, h1, h2⟩ := B.g
 have nM : ∀ {z : Nat} {c : List Value} {e : TypeId}, H.get z = some (.cells c e true 0) → ¬ z = mb := fun g w => by
  have g2 : H.get mb = some (.map _ _) := B.M
  rw [← w, g] at g2; cases g2
 refine ⟨h', u1, ⟨⟨p1, p2, u3.got hlt (by omega) g, h1, h2⟩, B.A1.chg u3 fun z hz => ?_, B.A2.chg u3 fun z hz => ?_, B.A3.chg u3 fun z hz => ?_, u2, by omega, by omega, B.ap⟩, u3⟩
 ·obtain ⟨c, g⟩ := acc_cells B.A1 hz; exact nM g
 ·obtain ⟨c, g⟩ := acc_cells B.A2 hz; exact nM g
 ·obtain ⟨c, g⟩ := accW_cells B.A3 hz; exact nM g
theorem decA5 (a : ByteArray) (b c d e : Int) : decC [.s, .i .i64, .i .i64, .i .i64, .i .i64] [.string a, .int .i64 b, .int .i64 c, .int .i64 d, .int .i64 e] = some (a, b, c, d, e) := rfl
theorem add_spec14 (B : PB H pb mb s1 s2 si lim q) (D : CallF) (kg : KG 0 H) (hk : 1200000 ≤ k) {c : Nat} (hc : c = 1 ∨ c = 2) {t : ByteArray} (ht : t.size ≤ 65536) (hq1 : q.1.length ≤ 65536) (hq2 : q.2.1.length ≤ 65536) (hq3 : q.2.2.1.length ≤ 4096) :
  Gx.Wp (pack_Builder_Add k D (some ⟨pb, 0, none⟩) (c : Int) t H) fun z => z.1 = (addV lim q c t).1 ∧ ∃ s1' s2' si', PB z.2 pb mb s1' s2' si' lim (addV lim q c t).2 ∧ Chg (OwnP pb mb s1 s2 si) H z.2 := by
 simp only [pack_Builder_Add]
 have hn : isK (c : Int) = true := by unfold isK; simp only [decide_eq_true_eq]; omega
 have bt : (bl t).length = t.size := bl_length t
 obtain ⟨el1, el2⟩ := encP_len (c := c) (t := bl t) (by omega)
 refine .call (bencode_spec D hk) fun r1 ⟨q1, k1⟩ => ?_
 rw [encV_yes hn (by omega), Int.toNat_natCast] at q1
 rw [q1]
 refine .ifn (by simp) (.call (bid_spec D (kg.chg k1 fun f => f) (by omega) (by omega) (by omega)) fun r2 ⟨q2, k2⟩ => ?_)
 rw [idV_yes hn, Int.toNat_natCast] at q2
 rw [q2]
 have k12 := k1.trans k2
 have B2 := B.keeps k12
 obtain ⟨s, es⟩ : ∃ s : List UInt8, s = encP c (bl t) := ⟨_, rfl⟩
 have ss : (⟨⟨s⟩⟩ : ByteArray).size = s.length := size_mk _
 rw [← es] at el1 el2
 have lk := B2.M.look (n := idB c (bl t)) (fun e _ => keyEq_S _ e.1) (dec := decS) (dv := fun v : ByteArray => v) (fun v => rfl) (z := .string ⟨#[]⟩) (z0 := ⟨#[]⟩) rfl
 refine .bnd rfl (.bnd B2.ldm (.bnd lk ?_))
 unfold addV
 cases hl : lkM (idB c (bl t)) q.2.2.2 with
 | some v =>
  refine .ifp rfl (.of ⟨rfl, s1, s2, si, B2, Chg.keeps k12⟩)
 | none =>
  refine .ifn (by decide) ?_
  dsimp only
  rw [← es]
  obtain ⟨h6, e6⟩ : ∃ h6, h6 = AHeap.resv r2.2 1 := ⟨_, rfl⟩
  have k6 : Keeps r2.2 h6 := ⟨by rw [e6]; show r2.2.next ≤ r2.2.next + 1; omega, fun b hb _ => by rw [e6]; rfl⟩
  rw [← e6]
  refine .call (pshort_spec D (by omega) s.length (by omega) h6) fun r7 ⟨q7, k7⟩ => .call (pshort_spec D (by omega) t.size (by omega) r7.2) fun r8 ⟨q8, k8⟩ => ?_
  rw [wrapK hn, Int.toNat_natCast, q7, q8]
  have k28 : Keeps r2.2 r8.2 := (k6.trans k7).trans k8
  obtain ⟨h9, e9⟩ : ∃ h9, h9 = AHeap.set r8.2 (r2.2.next + 0) (.cells [encB (UInt8.ofNat c)] 5 true 0) := ⟨_, rfl⟩
  have g9 : h9.get (r2.2.next + 0) = some (.cells [encB (UInt8.ofNat c)] 5 true 0) := by rw [e9]; simp
  have k9 : Keeps r2.2 h9 := by rw [e9]; exact Keeps.set k28 (by omega)
  rw [← e9]
  have ob : bytesOf h9 ⟨some ⟨r2.2.next + 0, 0, some 0⟩, 1, 1⟩ = some ⟨⟨[UInt8.ofNat c]⟩⟩ := bytesOf_out (l := [UInt8.ofNat c]) g9
  have l7 : (leb s.length).length ≤ 4 := leb_len 3 s.length (by omega)
  have l8 : (leb t.size).length ≤ 4 := leb_len 3 t.size (by omega)
  have ln : ((idB c (bl t) ++ (⟨⟨[UInt8.ofNat c]⟩⟩ : ByteArray)) ++ bA (leb s.length)) ++ bA (leb t.size) = ⟨⟨lineA c t⟩⟩ := by
   apply bl_inj
   rw [bl_mk]
   unfold lineA lineP
   rw [← es]
   simp [bl, bA]
  have lls : (lineA c t).length = 33 + (leb s.length).length + (leb t.size).length := by
   unfold lineA lineP
   rw [← es]
   simp only [List.length_append, List.length_cons]
   have : (bl (idB c (bl t))).length = 32 := rfl
   omega
  refine .bnd ob (.gp ⟨_, g9, fun H0 hH => bnd (show bytesOf H0 ⟨some ⟨r2.2.next + 0, 0, some 0⟩, 1, 1⟩ = some ⟨⟨[UInt8.ofNat c]⟩⟩ from bytesOf_out (l := [UInt8.ofNat c]) hH) rfl⟩ ?_)
  have i32 : (idB c (bl t)).size = 32 := rfl
  refine .ifp (show 32 + 1 ≤ _ by omega) (.ifp (show ((idB c (bl t) ++ (⟨⟨[UInt8.ofNat c]⟩⟩ : ByteArray)).size + (bA (leb s.length)).size ≤ _) by rw [ByteArray.size_append]; show 32 + 1 + (leb s.length).length ≤ _; omega)
   (.ifp (show (((idB c (bl t) ++ (⟨⟨[UInt8.ofNat c]⟩⟩ : ByteArray)) ++ bA (leb s.length)).size + (bA (leb t.size)).size ≤ _) by rw [ByteArray.size_append, ByteArray.size_append]; show 32 + 1 + (leb s.length).length + (leb t.size).length ≤ _; omega) ?_))
  rw [ln]
  have B9 := B2.keeps k9
  have kz := k12.trans k9
  refine .bnd rfl (.bnd B9.ld3 ?_)
  have sil : si.len = q.2.2.1.length := (B9.A3.row itC_len).len
  rw [sil, Gx.w1 (by omega), show (⟨⟨lineA c t⟩⟩ : ByteArray).size = (lineA c t).length from size_mk _, ss, show IntKind.wrap .i64 ((s.length : Int) + ((lineA c t).length : Int)) = ((s.length + (lineA c t).length : Nat) : Int) by rw [Gx.w64 _ (by omega)]; omega]
  refine .call (plong_spec B9 D (by omega) (by omega) (by omega) (by omega) (by omega)) fun r16 ⟨q16, k16⟩ => Wp.jn fun j25 h25 => ?_
  have eL : longP q (q.2.2.1.length + 1) (s.length + (lineA c t).length) = longA q c t := by unfold longA; rw [← es]
  rw [eL] at q16
  rw [q16]
  have B16 := B9.keeps k16
  have kH16 := kz.trans k16
  have J : ∀ y, y = tooP lim q c t → Gx.Wp (j25 (some ⟨pb, 0, none⟩) (c : Int) t (idB c (bl t)) ⟨⟨s⟩⟩ ⟨⟨lineA c t⟩⟩ y r16.2) fun z => z.1 = (if tooP lim q c t = true then (((⟨#[]⟩ : ByteArray), (2 : Int)), q) else ((idB c (bl t), 0), addQ q c t)).1 ∧ ∃ s1' s2' si', PB z.2 pb mb s1' s2' si' lim (if tooP lim q c t = true then (((⟨#[]⟩ : ByteArray), (2 : Int)), q) else ((idB c (bl t), 0), addQ q c t)).2 ∧ Chg (OwnP pb mb s1 s2 si) H z.2 := fun y hy => by
   rw [h25]
   cases hT : tooP lim q c t with
   | true => exact .ifp (hy.trans hT) (.of ⟨rfl, s1, s2, si, B16, Chg.keeps kH16⟩)
   | false =>
    have hbig : longA q c t ≤ 65536 ∧ q.2.2.1.length < 4096 := by
     unfold tooP at hT
     simp only [decide_eq_false_iff_not] at hT
     omega
    have hlong : q.1.length + q.2.1.length + s.length + (lineA c t).length ≤ 65536 := by
     have := hbig.1
     unfold longA longP at this
     rw [← es] at this
     omega
    refine .ifn (by rw [hy, hT]; decide) (.bnd rfl (.bnd (B16.len1 D) (Wp.newE fun h28 e28 k28' n28 g28 => Wp.stL g28 rfl rfl rfl (by decide) fun h29 c29 n29 g29 => ?_)))
    have k29 : Keeps r16.2 h29 := k28'.keepsS c29 fun y hy => by have hy : y = r16.2.next := hy; omega
    have B29 := B16.keeps k29
    refine .bnd (sldA_at g29 rfl) (.bnd (decA5 _ _ _ _ _) (Wp.newE fun h32 e32 k32 n32 g32 => ?_))
    obtain ⟨x, ex⟩ : ∃ x : It, x = itP q c t := ⟨_, rfl⟩
    have exc : itC x = [.string (idB c (bl t)), .string ⟨#[]⟩, .int .i64 (c : Int), .int .i64 (q.1.length : Int), .int .i64 (s.length : Int), .int .i64 (t.size : Int)] := by rw [ex, es]; rfl
    have e32' : h32 = h29.new (.cells (itC x) 57 true 0) := by rw [e32, exc]; rfl
    have B32 := B29.keeps k32
    refine .bnd rfl (.bnd B32.ld3 (.gp (ssw1 (by dsimp only; rw [B29.ld3]; rfl)) ?_))
    obtain ⟨s', h', a, h2, b, B2', c2'⟩ := B29.push x (by omega)
    rw [← e32'] at a
    have er : Gx.rdS 6 ⟨some ⟨h29.next, 0, some 0⟩, 1, 1⟩ h32 = some (itC x) := by rw [e32']; exact rdS_oneW itC_len x 57
    refine .bnd er (.bnd a (.bnd rfl (.bnd b (.bnd rfl (.bnd B2'.ldm (.bnd rfl ?_))))))
    obtain ⟨h43, u, B43, c43⟩ := B2'.upd (idB c (bl t)) t
    refine .bnd u (.bnd rfl (.call (B43.put1 D ⟨⟨s⟩⟩ (by rw [ss]; show 2 * (q.1.length + s.length) ≤ _; omega)) fun r46 ⟨s1', B46, c46⟩ => .bnd rfl (.call (B46.put2 D ⟨⟨lineA c t⟩⟩ (by rw [size_mk]; show 2 * (q.2.1.length + (lineA c t).length) ≤ _; omega)) fun r48 ⟨s2', B48, c48⟩ => .of ⟨rfl, s1', s2', s', ?_, ?_⟩)))
    ·rw [bl_mk, bl_mk] at B48
     have : (addQ q c t) = (q.1 ++ s, q.2.1 ++ lineA c t, q.2.2.1 ++ [x], ptM (idB c (bl t)) t q.2.2.2.length q.2.2.2) := by unfold addQ; rw [ex, es]
     rw [if_neg (by decide), this]
     exact B48
    ·exact ((((Chg.keeps (kH16.trans k29)).trans (c2'.wk fun y _ w => w.elim .inl fun w => .inr (.inr (.inr (.inr w))))).trans (c43.wk fun y _ w => .inr (.inl w))).trans (c46.wk fun y _ w => w.elim .inl fun w => .inr (.inr (.inl w)))).trans (c48.wk fun y _ w => w.elim .inl fun w => .inr (.inr (.inr (.inl w))))
  have eT : tooP lim q c t = decide ((lim < (longA q c t : Int) ∧ 0 < q.2.2.1.length) ∨ 65536 < longA q c t ∨ 4096 ≤ q.2.2.1.length) := rfl
  refine .bnd rfl (.bnd B16.ldl ?_)
  by_cases c1 : (longA q c t : Int) > lim
  ·refine .ifp (by simpa using c1) (.bnd rfl (.bnd B16.ld3 ?_))
   rw [sil]
   by_cases c2 : 0 < q.2.2.1.length
   ·exact .ifp (decide_eq_true (show ((q.2.2.1.length : Int) > 0) by omega)) (J _ (by rw [eT, decide_eq_true (.inl ⟨c1, c2⟩)]))
   ·refine .ifn (fun w => by have w : ((q.2.2.1.length : Int) > 0) := of_decide_eq_true w; omega) ?_
    by_cases c3 : 65536 < longA q c t
    ·exact .ifp (by simp; omega) (J _ (by rw [eT, decide_eq_true (.inr (.inl c3))]))
    ·refine .ifn (by simp; omega) (.bnd rfl (.bnd B16.ld3 (J _ ?_)))
     rw [eT, sil]
     apply decide_eq_decide.2
     omega
  ·refine .ifn (by simpa using c1) ?_
   by_cases c3 : 65536 < longA q c t
   ·exact .ifp (by simp; omega) (J _ (by rw [eT, decide_eq_true (.inr (.inl c3))]))
   ·refine .ifn (by simp; omega) (.bnd rfl (.bnd B16.ld3 (J _ ?_)))
    rw [eT, sil]
    apply decide_eq_decide.2
    omega
end
end Ge
namespace Ge
open Go Gx
theorem bstr {k pb o base : Nat} {H : AHeap} {c : List Value} {e : TypeId} {s : Slc} {l : List UInt8} (D : CallF) (g : H.get pb = some (.cells c e true 0)) (hs : c[o + 1]? = some (.slice s.a s.len s.cap)) (A : Acc encB 5 base H s l) (hl : l.length < 9223372036854775808) :
  Gx.Wp (strings_Builder_String k D (some ⟨pb, o, none⟩) H) fun z => z.1 = bA l ∧ Chg (ofS s) H z.2 ∧ z.2.next = H.next := by
 simp only [strings_Builder_String]
 have hsl : s.len = l.length := A.row.1
 have gl : ldL ⟨pb, o + 1, none⟩ H = some s := sldL_at g hs
 rcases A.st with ⟨rfl, rfl⟩ | ⟨b, gg⟩
 ·refine .bnd rfl (.bnd gl (.bnd rfl (.bnd rfl (.bnd gl (.bnd (show unsA 5 none ((0 : Nat) : Int) H = some (⟨#[]⟩, H) from rfl) (.of ⟨rfl, .refl _ _, rfl⟩))))))
 ·have gb : H.get b = some (.cells (l.map encB) 5 true 0) := gg.blk
  have hp : 0 < l.length := List.length_pos_iff.2 gg.ne
  have e1 : sliceP s = some (some ⟨b, 0, none⟩) := by
   rw [gg.s]
   unfold sliceP
   have : Nat.beq l.length 0 = false := by
    cases c : Nat.beq l.length 0 with
    | false => rfl
    | true => have := Nat.eq_of_beq_eq_true c; omega
   simp only [this, cond_false]
  have e2 : unsA 5 (some ⟨b, 0, none⟩) (s.len : Int) H = some (bA l, H.set b (.cells (l.map encB) 5 true (max 0 l.length))) := by
   unfold unsA
   rw [hsl, if_neg (by omega)]
   simp only [gb]
   rw [if_pos ⟨trivial, by omega, by omega, trivial, by simp, by omega⟩, Int.toNat_natCast, List.take_of_length_le (by simp), unbytesS_map]
   rfl
  exact .bnd rfl (.bnd gl (.bnd e1 (.bnd rfl (.bnd gl (.bnd e2 (.of ⟨rfl, Chg.set (.inr ⟨⟨b, 0, some 2⟩, by rw [gg.s], rfl⟩), rfl⟩))))))
def endB : List UInt8 := [80, 69, 78, 68]
def dirB (q : PSt) : List UInt8 := leb q.2.2.1.length ++ q.2.1
def finB (q : PSt) : List UInt8 := q.1 ++ (dirB q ++ (Ge.B.fixL (dirB q).length 4 ++ endB))
def setP (id : ByteArray) (x : It) : It := (x.1, id, x.2.2)
noncomputable def finI (q : PSt) : List It := q.2.2.1.map (setP ⟨⟨digest (finB q)⟩⟩)
theorem flat_setP (id : ByteArray) : ∀ (xs : List It) (i : Nat) (x : It), xs[i]? = some x → (xs.flatMap itC).set (i * 6 + 1) (.string id) = (xs.set i (setP id x)).flatMap itC
 | [], i, x, h => by simp at h
 | y :: ys, 0, x, h => by simp at h; subst h; rfl
 | y :: ys, i + 1, x, h => by
  rw [List.flatMap_cons, List.set_cons_succ, List.flatMap_cons, List.set_append_right _ _ (by rw [itC_len]; omega), itC_len, show (i + 1) * 6 + 1 - 6 = i * 6 + 1 by omega, flat_setP id ys i x (by simpa using h)]
section
variable {k pb mb : Nat} {H H' : AHeap} {s1 s2 si : Slc} {lim : Int} {q : PSt}
theorem fin_loop (D : CallF) {j20 : (Option Addr) → ByteArray → Slc → AHeap → Option ((ByteArray × Slc) × AHeap)} {Q : (ByteArray × Slc) × AHeap → Prop} {b : Option Addr} {s id : ByteArray} {h0 : AHeap} {ib : Nat} {its : List It} (hl : its.length ≤ 100000) (bot) :
  ∀ (d i : Nat) (H : AHeap), i + d = its.length → H.get ib = some (.cells (((its.take i).map (setP id) ++ its.drop i).flatMap itC) 57 true 0) → Chg (· = ib) h0 H → H.next = h0.next →
  (∀ H', H'.get ib = some (.cells ((its.map (setP id)).flatMap itC) 57 true 0) → Chg (· = ib) h0 H' → H'.next = h0.next → Gx.Wp (j20 b s ⟨some ⟨ib, 0, some 7⟩, its.length, its.length⟩ H') Q) →
  Gx.Wp (iterK bot (d + 1) (pack_Builder_Finish_l0b k D j20) b s ⟨some ⟨ib, 0, some 7⟩, its.length, its.length⟩ id (its.length : Int) (i : Int) H) Q := by
 intro d
 induction d with
 | zero =>
  intro i H hd g c n J
  rw [iterK_s]; simp only [pack_Builder_Finish_l0b]
  refine .ifn (by simp; omega) (J H ?_ c n)
  rw [List.take_of_length_le (by omega), List.drop_of_length_le (by omega), List.append_nil] at g
  exact g
 | succ d ih =>
  intro i H hd g c n J
  rw [iterK_s]; simp only [pack_Builder_Finish_l0b]
  obtain ⟨x, hx⟩ := isome (l := its) (i := i) (by omega)
  have ei : idxL 6 (⟨some ⟨ib, 0, some 7⟩, its.length, its.length⟩ : Slc) (i : Int) = some ⟨ib, i * 6, none⟩ := by
   simp only [idxL]
   rw [if_pos (by omega), Int.toNat_natCast, Nat.zero_add]
  refine .ifp (by simp; omega) (.bnd ei ?_)
  have hL : ((its.take i).map (setP id) ++ its.drop i)[i]? = some x := by
   have l1 : ((its.take i).map (setP id)).length = i := by rw [List.length_map, List.length_take]; omega
   rw [List.getElem?_append_right (by rw [l1]; exact Nat.le_refl _), l1, Nat.sub_self, List.getElem?_drop, Nat.add_zero]
   exact hx
  have hset := flat_setP id _ i x hL
  have hn : ((its.take i).map (setP id) ++ its.drop i).set i (setP id x) = (its.take (i + 1)).map (setP id) ++ its.drop (i + 1) := by
   have l1 : ((its.take i).map (setP id)).length = i := by rw [List.length_map, List.length_take]; omega
   rw [List.set_append_right _ _ (by rw [l1]; exact Nat.le_refl _), l1, Nat.sub_self, dropc hx, List.set_cons_zero, List.take_add_one, hx, List.map_append, List.append_assoc]
   rfl
  refine Wp.st g ?_ rfl fun H1 c1 n1 g1 => ?_
  ·rw [flatW_length itC_len, List.length_append, List.length_map, List.length_take, List.length_drop]
   show i * 6 + 1 + 0 < _
   rw [show min i its.length + (its.length - i) = its.length by omega]; omega
  ·rw [Nat.add_zero, hset, hn] at g1
   rw [Gx.w1 (by omega)]
   exact ih (i + 1) H1 (by omega) g1 (c.trans c1) (by omega) J
theorem finish_spec (B : PB H pb mb s1 s2 si lim q) (D : CallF) (kg : KG 0 H) (hp : 0 < pb) (hk : 1200000 ≤ k) (hq1 : q.1.length ≤ 65536) (hq2 : q.2.1.length ≤ 65536) (hq3 : q.2.2.1.length ≤ 4096) :
  Gx.Wp (pack_Builder_Finish k D (some ⟨pb, 0, none⟩) H) fun z =>
   if q.2.2.1 = [] then z.1 = (⟨#[]⟩, ⟨none, 0, 0⟩) ∧ z.2 = H
   else z.1 = (⟨⟨finB q⟩⟩, si) ∧ AccW 6 itC 57 (pb + 1) z.2 si (finI q) ∧ (∃ mb' s1', PB z.2 pb mb' s1' ⟨none, 0, 0⟩ ⟨none, 0, 0⟩ lim st0P) ∧ Chg (OwnP pb mb s1 s2 si) H z.2 := by
 simp only [pack_Builder_Finish]
 have sil : si.len = q.2.2.1.length := (B.A3.row itC_len).len
 refine .bnd rfl (.bnd B.ld3 ?_)
 rw [sil]
 by_cases c0 : q.2.2.1 = []
 ·refine .ifp (by rw [c0]; rfl) (.of ?_)
  rw [if_pos c0]; exact ⟨rfl, rfl⟩
 have hlen : 0 < q.2.2.1.length := List.length_pos_iff.2 c0
 refine .ifn (fun w => absurd (eq_of_beq w) (by omega)) ?_
 suffices hh : Gx.Wp _ fun z : (ByteArray × Slc) × AHeap => z.1 = (⟨⟨finB q⟩⟩, si) ∧ AccW 6 itC 57 (pb + 1) z.2 si (finI q) ∧ (∃ mb' s1', PB z.2 pb mb' s1' ⟨none, 0, 0⟩ ⟨none, 0, 0⟩ lim st0P) ∧ Chg (OwnP pb mb s1 s2 si) H z.2 from hh.mono fun z hz => by rw [if_neg c0]; exact hz
 refine .bnd rfl (.bnd B.ld3 ?_)
 rw [sil]
 have ll : (leb q.2.2.1.length).length ≤ 4 := leb_len 3 _ (by omega)
 refine .call (pshort_spec D (by omega) q.2.2.1.length (by omega) H) fun r5 ⟨q5, k5⟩ => ?_
 have B5 := B.keeps k5
 obtain ⟨p1, p2, g5, h1, h2⟩ := B5.g
 refine .bnd rfl (.call (bstr (o := 3) D g5 rfl B5.A2 (by omega)) fun r7 ⟨q7, c7, n7⟩ => ?_)
 have lt5 := B5.lt
 have g7 := c7.got lt5 (fun ⟨a, ha, e⟩ => by have := (B5.A2.lt a ha).2; omega) g5
 have A17 : Acc encB 5 (pb + 1) r7.2 s1 q.1 := B5.A1.chg c7 fun a ha ⟨b, hb, e⟩ => B5.ap a b ha hb e
 have A37 : AccW 6 itC 57 (pb + 1) r7.2 si q.2.2.1 := B5.A3.chg c7 fun a ha => B5.ne13 B5.A2 ha
 have ed : r5.1 ++ r7.1 = ⟨⟨dirB q⟩⟩ := by rw [q5, q7]; exact Ge.B.ba_app _ _
 have ld : (dirB q).length = (leb q.2.2.1.length).length + q.2.1.length := List.length_append
 refine .ifp (by rw [q5, q7]; show (leb q.2.2.1.length).length + q.2.1.length ≤ _; omega) ?_
 rw [ed, show (⟨⟨dirB q⟩⟩ : ByteArray).size = (dirB q).length from size_mk _]
 obtain ⟨h8, e8, k8⟩ := Ge.B.nfix_spec (kf := k) (by omega) D (dirB q).length 4 r7.2 (by omega) (by omega) (by omega)
 rw [if_pos (by omega)] at e8
 refine .bnd e8 ?_
 have g8 := k8.got (by omega) g7
 have A18 := A17.keeps k8
 have A38 := A37.keeps k8
 refine .bnd rfl (.call (bstr (o := 0) D g8 rfl A18 (by omega)) fun r10 ⟨q10, c10, n10⟩ => ?_)
 have n8 := k8.nx
 have n10 : r10.2.next = h8.next := n10
 have n8' : r7.2.next ≤ h8.next := n8
 have g10 := c10.got (show pb < h8.next by omega) (fun ⟨a, ha, e⟩ => by have := (A18.lt a ha).2; omega) g8
 have A310 : AccW 6 itC 57 (pb + 1) r10.2 si q.2.2.1 := A38.chg c10 fun a ha ⟨b, hb, e⟩ => by
  obtain ⟨c1, g1⟩ := acc_cells A18 hb
  obtain ⟨c2, g2⟩ := accW_cells A38 ha
  rw [e, g1] at g2; cases g2
 have fl : (Ge.B.fixL (dirB q).length 4).length = 4 := Ge.B.fixL_length _ _
 have ef : ((r10.1 ++ (⟨⟨dirB q⟩⟩ : ByteArray)) ++ (⟨⟨Ge.B.fixL (dirB q).length 4⟩⟩ : ByteArray)) ++ (⟨#[80, 69, 78, 68]⟩ : ByteArray) = ⟨⟨finB q⟩⟩ := by
  rw [q10]
  apply bl_inj
  rw [bl_mk]
  unfold finB
  simp [bl, bA, endB]
 refine .ifp (by rw [q10]; show q.1.length + (dirB q).length ≤ _; omega) (.ifp (by rw [q10, ByteArray.size_append]; show q.1.length + (dirB q).length + (Ge.B.fixL (dirB q).length 4).length ≤ _; omega)
  (.ifp (by rw [q10, ByteArray.size_append, ByteArray.size_append]; show q.1.length + (dirB q).length + (Ge.B.fixL (dirB q).length 4).length + 4 ≤ _; omega) ?_))
 dsimp only
 rw [ef]
 have lF : (finB q).length = q.1.length + ((dirB q).length + (4 + 4)) := by unfold finB; simp only [List.length_append, fl]; rfl
 refine Wp.newE fun h12 e12 k12 n12 g12 => ?_
 have R12 : Row encS h12 ⟨some ⟨r10.2.next, 0, some 0⟩, 1, 1⟩ [⟨⟨finB q⟩⟩] := Row.of_block (enc := encS) (xs := [⟨⟨finB q⟩⟩]) g12 (by omega) fun i z hz => by
  match i with
  | 0 => simp at hz; subst hz; rfl
  | i + 1 => simp at hz
 have kg12 : KG 0 h12 := by
  refine KG.chg (KG.chg (KG.chg (KG.chg (KG.chg kg k5 fun f => f) c7 fun ⟨a, ha, e⟩ => ?_) k8 fun f => f) c10 fun ⟨a, ha, e⟩ => ?_) k12 fun f => f
  ·have := (B5.A2.lt a ha).2; omega
  ·have := (A18.lt a ha).2; omega
 have ec : Ge.B.catL [(⟨⟨finB q⟩⟩ : ByteArray)] = finB q := by simp [Ge.B.catL, bl]
 refine .call (Ge.B.sum_spec (by omega) D kg12 R12 (by rw [ec]; omega) (by rw [ec]; omega) (by simp; omega) (by simp)) fun r13 ⟨q13, k13⟩ => ?_
 rw [ec] at q13
 have g13 := Keeps.got (k12.trans k13) (by omega) g10
 have A313 := A310.keeps (k12.trans k13)
 refine .bnd rfl (.bnd (sldL_at g13 rfl) (Wp.jn fun j20 h20 => ?_))
 rw [q13, show (⟨si.a, si.len, si.cap⟩ : Slc) = si from rfl, sil]
 rcases A313.st with ⟨_, w⟩ | ⟨ib, e1, e2, e3⟩
 ·exact absurd w c0
 have hib := A313.lt ⟨ib, 0, some 7⟩ (by rw [e1])
 rw [e1]
 unfold pack_Builder_Finish_l0
 obtain ⟨bot, eb⟩ := iterK_of (fun _ _ _ _ _ _ _ => none) (pack_Builder_Finish_l0b k D j20) (show q.2.2.1.length + 1 ≤ k by omega)
 rw [eb, show (0 : Int) = ((0 : Nat) : Int) from rfl]
 have n12' := k12.nx
 have n13 := k13.nx
 refine fin_loop D (h0 := r13.2) (by omega) bot q.2.2.1.length 0 r13.2 (by omega) (by rw [List.take_zero, List.map_nil, List.nil_append, List.drop_zero]; exact e2) (Chg.refl _ _) rfl fun H' g' c' n' => ?_
 rw [h20]
 have gp := c'.got (by omega) (by have := hib.2; show ¬ pb = ib; simp only [] at this; omega) g13
 refine .call (empty_spec (lim := lim) D gp (by omega) rfl) fun r21 ⟨mb', s1', B', c21⟩ => .of ⟨rfl, ⟨.inr ⟨ib, by simp [finI], ?_, by simp [finI, c0]⟩, fun a ha => ?_⟩, ⟨mb', s1', B'⟩, ?_⟩
 ·have hib2 := hib.2
  simp only [] at hib2
  exact c21.got (by have := hib.1; simp only [] at this; omega) (show ¬ ib = pb by omega) g'
 ·cases ha
  have n21 := c21.nx
  have := hib.1; have := hib.2
  simp only [] at *
  omega
 ·exact ((((((Chg.keeps k5).trans (c7.wk fun y _ w => .inr (.inr (.inr (.inl w))))).trans (Chg.keeps k8)).trans (c10.wk fun y _ w => .inr (.inr (.inl w)))).trans (Chg.keeps (k12.trans k13))).trans (c'.wk fun y _ w => .inr (.inr (.inr (.inr ⟨⟨ib, 0, some 7⟩, rfl, w⟩))))).trans (c21.wk fun y _ w => .inl w)
end
end Ge
namespace Ge
open Go Gx
section
variable {k : Nat} {h : AHeap}
end
end Ge
namespace Ge
open Go Gx
end Ge
namespace Ge.B
open Go Gx Go.Proofs
def Rdr (h : AHeap) (b : Nat) (s : ByteArray) (e : Int) : Prop := h.get b = some (.cells [.string s, .int .i64 e] 157 true 0)
theorem Rdr.chg {S : Nat → Prop} {h h' : AHeap} {b : Nat} {s : ByteArray} {e : Int} (R : Rdr h b s e) (c : Chg S h h') (hb : ¬ S b) (hl : b < h.next) : Rdr h' b s e := (c.oth b hl hb).trans R
def OnlyB (b : Nat) : Nat → Prop := fun x => x = b
theorem read_spec (k : Nat) (D : CallF) (s : ByteArray) (h : AHeap) : num_Read k D s h = some (some ⟨h.next, 0, none⟩, h.new (.cells [.string s, .int .i64 0] 157 true 0)) := rfl
theorem fail_spec (k : Nat) (D : CallF) {h : AHeap} {b : Nat} {s : ByteArray} {e : Int} (R : Rdr h b s e) (c : Int) :
  ∃ h', num_Reader_Fail k D (some ⟨b, 0, none⟩) c h = some ((), h') ∧ Rdr h' b s (if e = 0 then c else e) ∧ Chg (OnlyB b) h h' := by
 simp only [num_Reader_Fail, Option.bind_some]
 by_cases he : e = 0
 ·subst he
  refine ⟨h.set b (.cells [.string s, .int .i64 c] 157 true 0), ?_, by simp [Rdr], Chg.set (.inr rfl)⟩
  refine bnd (ldI_at R rfl) ?_
  refine ifp (by decide) ?_
  refine bnd (st1_of (o := 1) R (by simp) rfl) rfl
 ·refine ⟨h, ?_, by rw [if_neg he]; exact R, Chg.refl _ _⟩
  refine bnd (ldI_at R rfl) ?_
  exact ifn (by simpa using he) rfl
theorem left_spec (k : Nat) (D : CallF) {h : AHeap} {b : Nat} {s : ByteArray} {e : Int} (R : Rdr h b s e) : num_Reader_Left k D (some ⟨b, 0, none⟩) h = some ((s.size : Int), h) := by
 simp only [num_Reader_Left, Option.bind_some]
 exact bnd (ldS_at R rfl) rfl
theorem err_spec (k : Nat) (D : CallF) {h : AHeap} {b : Nat} {s : ByteArray} {e : Int} (R : Rdr h b s e) : num_Reader_Err k D (some ⟨b, 0, none⟩) h = some (e, h) := by
 simp only [num_Reader_Err, Option.bind_some]
 exact bnd (ldI_at R rfl) rfl
def rdE (s : ByteArray) (e n : Int) : Int := if e ≠ 0 then e else if n < 0 then 1 else if n > s.size then 10 else 0
def rdOut (s : ByteArray) (e n : Int) : ByteArray := if rdE s e n = 0 then ⟨⟨(bl s).take n.toNat⟩⟩ else ⟨#[]⟩
def rdRest (s : ByteArray) (e n : Int) : ByteArray := if rdE s e n = 0 then ⟨⟨(bl s).drop n.toNat⟩⟩ else s
theorem rbytes_spec (k : Nat) (D : CallF) {h : AHeap} {b : Nat} {s : ByteArray} {e : Int} (R : Rdr h b s e) (n : Int) :
  ∃ h', num_Reader_Bytes k D (some ⟨b, 0, none⟩) n h = some (rdOut s e n, h') ∧ Rdr h' b (rdRest s e n) (rdE s e n) ∧ Chg (OnlyB b) h h' := by
 simp only [num_Reader_Bytes]
 have go : ∀ (h1 : AHeap) (e1 : Int), Rdr h1 b s e1 → Chg (OnlyB b) h h1 → e1 = rdE s e n →
   ∃ h', ((some (⟨b, 0, none⟩ : Addr)).bind fun p5 => (ldI .i64 (⟨p5.block, p5.off + 1, none⟩ : Addr) h1).bind fun x6 =>
    (if (x6 != 0) = true then some ((⟨#[]⟩ : ByteArray), h1)
    else ((some (⟨b, 0, none⟩ : Addr)).bind fun p7 => (ldS (⟨p7.block, p7.off + 0, none⟩ : Addr) h1).bind fun x8 => (Gx.subS x8 none (some n)).bind fun s9 =>
     (some (⟨b, 0, none⟩ : Addr)).bind fun p10 => (ldS (⟨p10.block, p10.off + 0, none⟩ : Addr) h1).bind fun x11 => (Gx.subS x11 (some n) none).bind fun s12 =>
     (some (⟨b, 0, none⟩ : Addr)).bind fun p13 => (st1 (⟨p13.block, p13.off + 0, none⟩ : Addr) (.string s12) h1).bind fun h14 => some (s9, h14)))) = some (rdOut s e n, h') ∧ Rdr h' b (rdRest s e n) (rdE s e n) ∧ Chg (OnlyB b) h h' := by
  intro h1 e1 R1 c1 he
  by_cases h0 : rdE s e n = 0
  ·rw [h0] at he; subst he
   have hn : 0 ≤ n ∧ n ≤ s.size := by
    unfold rdE at h0
    split at h0
    ·rename_i q; exact absurd h0 q
    ·split at h0
     ·cases h0
     ·split at h0
      ·cases h0
      ·omega
   obtain ⟨m, rfl⟩ : ∃ m : Nat, n = m := ⟨n.toNat, by omega⟩
   refine ⟨h1.set b (.cells [.string ⟨⟨(bl s).drop m⟩⟩, .int .i64 0] 157 true 0), ?_, ?_, c1.trans (Chg.set (.inr rfl))⟩
   ·refine bnd rfl ?_
    refine bnd (ldI_at R1 rfl) ?_
    refine ifn (by decide) ?_
    refine bnd rfl ?_
    refine bnd (ldS_at R1 rfl) ?_
    refine bnd (subS_of (j := m) (i := 0) rfl rfl (by omega) (by omega)) ?_
    refine bnd rfl ?_
    refine bnd (ldS_at R1 rfl) ?_
    refine bnd (subS_of (j := s.size) (i := m) rfl rfl (by omega) (by omega)) ?_
    refine bnd rfl ?_
    refine bnd (st1_of (o := 0) R1 (by simp) rfl) ?_
    unfold rdOut
    have e0 : (bl s).take s.size = bl s := List.take_of_length_le (by rw [bl_length]; omega)
    rw [if_pos h0, List.drop_zero, Int.toNat_natCast, e0]
    rfl
   ·unfold rdRest
    rw [if_pos h0, h0, Int.toNat_natCast]
    simp [Rdr]
  ·refine ⟨h1, ?_, ?_, c1⟩
   ·refine bnd rfl ?_
    refine bnd (ldI_at R1 rfl) ?_
    refine ifp (by rw [he]; simpa using h0) ?_
    unfold rdOut; rw [if_neg h0]
   ·unfold rdRest; rw [if_neg h0, ← he]; exact R1
 by_cases hn : n < 0
 ·obtain ⟨h1, r1, R1, c1⟩ := fail_spec k D R 1
  obtain ⟨h', g1, g2, g3⟩ := go h1 _ R1 c1 (by unfold rdE; by_cases he : e = 0 <;> simp [he, hn])
  refine ⟨h', ?_, g2, g3⟩
  refine jn ?_
  refine ifp (decide_eq_true hn) ?_
  exact bnd r1 g1
 ·by_cases hl : n > s.size
  ·obtain ⟨h1, r1, R1, c1⟩ := fail_spec k D R 10
   obtain ⟨h', g1, g2, g3⟩ := go h1 _ R1 c1 (by unfold rdE; by_cases he : e = 0 <;> simp [he, hn, hl])
   refine ⟨h', ?_, g2, g3⟩
   refine jn ?_
   refine ifn (by simpa using hn) ?_
   refine bnd (left_spec k D R) ?_
   refine ifp (decide_eq_true hl) ?_
   exact bnd r1 g1
  ·obtain ⟨h', g1, g2, g3⟩ := go h _ R (Chg.refl _ _) (by unfold rdE; by_cases he : e = 0 <;> simp [he, hn, hl])
   refine ⟨h', ?_, g2, g3⟩
   refine jn ?_
   refine ifn (by simpa using hn) ?_
   refine bnd (left_spec k D R) ?_
   refine ifn (by simpa using hl) ?_
   exact g1
abbrev rxT := Int → Slc → Int → Int → AHeap → Option ((Int) × AHeap)
theorem rfixed_l0 (K : Nat) (D : CallF) (j) (bot : rxT) {h : AHeap} {b cap : Nat} {sp : Option Nat} {l : List UInt8} {e : TypeId} {r : Bool} {fz : Nat} (hb : h.get b = some (.cells (l.map encB) e r fz)) (hl : l.length ≤ 7) : ∀ (m i a : Nat), i + m = l.length → a < 256 ^ i →
  iterK bot (m + 1) (num_Reader_Fixed_l0b K D j) (a : Int) (⟨some ⟨b, 0, sp⟩, l.length, cap⟩ : Slc) (l.length : Int) (i : Int) h = j ((numL a (l.drop i) : Nat) : Int) h
 | 0, i, a, hi, ha => by
  obtain rfl : i = l.length := by omega
  rw [iterK_s]; simp only [num_Reader_Fixed_l0b]
  refine ifn (by simp) ?_
  rw [List.drop_length]; rfl
 | m + 1, i, a, hi, ha => by
  rw [iterK_s]; simp only [num_Reader_Fixed_l0b]
  refine ifp (by simp; omega) ?_
  obtain ⟨x, hx⟩ := isome (l := l) (i := i) (by omega)
  refine bnd (idxL_out (by omega)) ?_
  refine bnd (rdB_out hb hx) ?_
  have hx' : x.toNat < 256 := UInt8.toNat_lt x
  have hbd := num_step ha (show i < l.length by omega) hl
  have e1 : Go.bits .or .i64 (IntKind.wrap .i64 ((a : Int) * 256)) (IntKind.wrap .i64 (x.toNat : Int)) = ((a * 256 + x.toNat : Nat) : Int) := by
   rw [w64 ((a : Int) * 256) (by omega), w64 (x.toNat : Int) (by omega)]
   have := bits_join .i64 63 (by decide) wraps_i64 8 ((a : Int) * 256) (x.toNat : Int) (by omega) (by omega) (by omega) (by omega) (by omega) (by omega)
   rw [this]; omega
  rw [e1, w1 (by omega), dropc hx]
  exact rfixed_l0 K D j bot hb hl m (i + 1) _ (by omega) (num_step2 ha)
theorem rfixed_spec {kf : Nat} (hkf : 9 ≤ kf) (D : CallF) {h : AHeap} {b : Nat} {s : ByteArray} {e : Int} (R : Rdr h b s e) (n : Nat) (h1 : 1 ≤ n) (h7 : n ≤ 7) (hbl : b < h.next) :
  ∃ h', num_Reader_Fixed kf D (some ⟨b, 0, none⟩) (n : Int) h = some (((numL 0 (bl (rdOut s e n)) : Nat) : Int), h') ∧ Rdr h' b (rdRest s e n) (rdE s e n) ∧ Chg (OnlyB b) h h' := by
 simp only [num_Reader_Fixed]
 obtain ⟨g, r1, R1, c1⟩ := rbytes_spec kf D R (n : Int)
 have hg : b < g.next := Nat.lt_of_lt_of_le hbl c1.nx
 have kn : Keeps g (g.new (.cells (bytesL (rdOut s e n)) 5 true 18446744073709551616)) := Keeps.new _ _
 refine ⟨g.new (.cells (bytesL (rdOut s e n)) 5 true 18446744073709551616), ?_, R1.chg kn (fun f => f) hg, c1.trans (Chg.keeps kn)⟩
 refine jn ?_
 refine jn ?_
 refine ifn (by simp <;> omega) ?_
 refine ifn (by simp <;> omega) ?_
 refine jn ?_
 refine bnd r1 ?_
 unfold num_Reader_Fixed_l0
 have hlen : (bl (rdOut s e n)).length ≤ 7 := by
  unfold rdOut
  split
  ·rw [bl_mk]; simp; omega
  ·exact Nat.zero_le _
 have hsz := bl_length (rdOut s e n)
 obtain ⟨bot', e2⟩ := iterK_of (α := rxT) (fun _ _ _ _ _ => none) (num_Reader_Fixed_l0b kf D fun (n5 : Int) (h6 : AHeap) => some (n5, h6)) (show (rdOut s e n).size + 1 ≤ kf by omega)
 rw [e2]
 have := rfixed_l0 kf D (fun (n5 : Int) (h6 : AHeap) => some (n5, h6)) bot' (h := g.new (.cells (bytesL (rdOut s e n)) 5 true 18446744073709551616)) (b := g.next) (cap := (rdOut s e n).size) (sp := some 2) (l := bl (rdOut s e n)) (e := 5) (r := true) (fz := 18446744073709551616) (by simp [bytesL_bl]) hlen (rdOut s e n).size 0 0 (by omega) (by decide)
 rw [hsz] at this
 refine this.trans ?_
 rw [List.drop_zero]
end Ge.B
namespace Ge
open Go Gx
def partsP (l : List UInt8) : Option (Nat × List UInt8) :=
 if l.length ≤ 65536 ∧ 14 ≤ l.length ∧ l.take 5 = magicB ∧ l.drop (l.length - 4) = endB then
  if l.length - 8 - 5 < B.numL 0 ((l.drop (l.length - 8)).take 4) then none
  else some (l.length - 8 - B.numL 0 ((l.drop (l.length - 8)).take 4), (l.take (l.length - 8)).drop (l.length - 8 - B.numL 0 ((l.drop (l.length - 8)).take 4)))
 else none
abbrev Ln := ByteArray × Nat × Nat × Nat
def opL (s : Rd) : Ln × Rd :=
 let a := opB 32 s
 let b := opF a.2
 let c := opS 65536 b.2
 let d := opS 65536 c.2
 ((a.1, b.1, c.1, d.1), d.2)
def itL (pid : ByteArray) (at' : Nat) (x : Ln) : It := (x.1, pid, (x.2.1 : Int), (at' : Int), (x.2.2.1 : Int), (x.2.2.2 : Int))
def linesP (pid : ByteArray) (fr : Nat) : Nat → Rd → Nat → List (ByteArray × Bool × Nat) → Option (List It × Rd × Nat)
 | 0, st, at', _ => some ([], st, at')
 | n + 1, st, at', es =>
  if (opL st).2.isSome = true ∧ ((opL st).1.2.1 = 1 ∨ (opL st).1.2.1 = 2) ∧ 1 ≤ (opL st).1.2.2.1 ∧ (opL st).1.2.2.1 ≤ fr - at' ∧ (lkM (opL st).1.1 es).getD false = false then
   (linesP pid fr n (opL st).2 (at' + (opL st).1.2.2.1) (ptM (opL st).1.1 true es.length es)).map fun p => (itL pid at' (opL st).1 :: p.1, p.2)
  else none
def parseK (l : List UInt8) : Option (List It) :=
 match partsP l with
 | none => none
 | some (fr, dir) => match linesP ⟨⟨digest l⟩⟩ fr (opS 4096 (some dir)).1 (opS 4096 (some dir)).2 5 [] with
  | some (its, st, at') => if st = some [] ∧ at' = fr then some its else none
  | none => none
def bV (b : Bool) : Value := .bool b
section
variable {k rb : Nat} {h H H' : AHeap} {st : Rd}
theorem pitem_spec (D : CallF) (hk : 20 ≤ k) (hr : rb < H.next) (P : PRd H rb st) : Gx.Wp (pack_item k D (some ⟨rb, 0, none⟩) H) fun z => z.1 = ((opL st).1.1, ⟨#[]⟩, ((opL st).1.2.1 : Int), 0, ((opL st).1.2.2.1 : Int), ((opL st).1.2.2.2 : Int)) ∧ PRd z.2 rb (opL st).2 ∧ Chg (· = rb) H z.2 := by
 simp only [pack_item]
 obtain ⟨a, sa, ea⟩ : ∃ a sa, opB 32 st = (a, sa) := ⟨_, _, rfl⟩
 obtain ⟨c, sc, ec⟩ : ∃ c sc, opF sa = (c, sc) := ⟨_, _, rfl⟩
 obtain ⟨d, sd, ed⟩ : ∃ d sd, opS 65536 sc = (d, sd) := ⟨_, _, rfl⟩
 obtain ⟨e, se, ee⟩ : ∃ e se, opS 65536 sd = (e, se) := ⟨_, _, rfl⟩
 have eI : opL st = ((a, c, d, e), se) := by
  unfold opL
  simp only [ea, ec, ed, ee]
 rw [eI]
 refine Wp.newE fun h1 e1 k1 n1 g1 => .call (rbytes_spec D (P.keeps hr k1) 32) fun r2 ⟨q2, P2, c2⟩ => ?_
 rw [ea] at q2 P2
 rw [q2]
 have n2 := c2.nx
 have c02 : Chg (· = rb) H r2.2 := Chg.trans (Chg.keeps k1) c2
 have g2 := c2.got (by omega) (by omega) g1
 refine Wp.newE fun h3 e3 k3 n3 g3 => Wp.stL g3 rfl rfl rfl (by decide) fun h4 c4 n4 g4 => ?_
 have k4 : Keeps r2.2 h4 := k3.keepsS c4 fun y hy => by have hy : y = r2.2.next := hy; omega
 have P4 := P2.keeps (by omega) k4
 have c04 : Chg (· = rb) H h4 := Chg.trans c02 (Chg.keeps k4)
 have g24 := k4.got (by omega) g2
 refine .call (rfixed_spec D hk (by omega) P4) fun r7 ⟨q7, P7, c7⟩ => ?_
 rw [ec] at q7 P7
 rw [q7]
 have n7 := c7.nx
 have gx7 := c7.got (by omega) (by omega) g4
 have g27 := c7.got (by omega) (by omega) g24
 have c07 : Chg (· = rb) H r7.2 := Chg.trans c04 c7
 refine Wp.st gx7 (by simp) rfl fun h8 c8 n8 g8 => ?_
 have P8 := P7.chg (by omega) c8 (by omega)
 have g28 := c8.got (by omega) (by omega) g27
 have c08 := chgB c07 c8 (by omega)
 refine .call (rshort_spec D hk P8 65536) fun r9 ⟨q9, P9, c9⟩ => ?_
 rw [ed] at q9 P9
 rw [q9]
 have n9 := c9.nx
 have gx9 := c9.got (by omega) (by omega) g8
 have g29 := c9.got (by omega) (by omega) g28
 have c09 : Chg (· = rb) H r9.2 := Chg.trans c08 c9
 refine Wp.st gx9 (by simp) rfl fun h10 c10 n10 g10 => ?_
 have P10 := P9.chg (by omega) c10 (by omega)
 have g210 := c10.got (by omega) (by omega) g29
 have c010 := chgB c09 c10 (by omega)
 refine .call (rshort_spec D hk P10 65536) fun r11 ⟨q11, P11, c11⟩ => ?_
 rw [ee] at q11 P11
 rw [q11]
 have n11 := c11.nx
 have gx11 := c11.got (by omega) (by omega) g10
 have g211 := c11.got (by omega) (by omega) g210
 have c011 : Chg (· = rb) H r11.2 := Chg.trans c010 c11
 refine Wp.st gx11 (by simp) rfl fun h12 c12 n12 g12 => ?_
 have P12 := P11.chg (by omega) c12 (by omega)
 have g212 := c12.got (by omega) (by omega) g211
 have c012 := chgB c011 c12 (by omega)
 refine .bnd (sldA_at g12 rfl) (.bnd (decI6 (a, ⟨#[]⟩, (c : Int), 0, (d : Int), (e : Int))) ?_)
 refine Wp.stL g212 rfl rfl rfl (by decide) fun h13 c13 n13 g13 => ?_
 have P13 := P12.chg (by omega) c13 (by omega)
 have c013 := chgB c012 c13 (Nat.le_refl _)
 exact .bnd (sldA_at g13 rfl) (.bnd (decI6 (a, ⟨#[]⟩, (c : Int), 0, (d : Int), (e : Int))) (.of ⟨rfl, P13, c013⟩))
theorem prefix_spec (D : CallF) (s p : ByteArray) : strings_HasPrefix k D s p h = some (decide ((bl s).take p.size = bl p), h) := by
 simp only [strings_HasPrefix, internal_stringslite_HasPrefix]
 have bs : (bl s).length = s.size := bl_length s
 have bp : (bl p).length = p.size := bl_length p
 by_cases c : p.size ≤ s.size
 ·refine bnd (ifp (by simp; omega) (bnd (subS_of (i := 0) (j := p.size) rfl rfl (by omega) c) rfl)) ?_
  rw [List.drop_zero]
  congr 2
  rw [ba_beq]
  exact decide_eq_decide.2 ⟨fun q => congrArg bl q, fun q => bl_inj q⟩
 ·refine bnd (ifn (by simp; omega) rfl) ?_
  congr 2
  symm
  refine decide_eq_false fun q => ?_
  have := congrArg List.length q
  rw [List.length_take] at this
  omega
theorem suffix_spec (D : CallF) (s p : ByteArray) (hs : s.size ≤ 1000000) (hp : p.size ≤ s.size) : strings_HasSuffix k D s p h = some (decide ((bl s).drop (s.size - p.size) = bl p), h) := by
 simp only [strings_HasSuffix, internal_stringslite_HasSuffix]
 have bs : (bl s).length = s.size := bl_length s
 refine bnd (v := (decide ((bl s).drop (s.size - p.size) = bl p), h)) (ifp (by simp; omega) ?_) rfl
 rw [show IntKind.wrap .i64 ((s.size : Int) - (p.size : Int)) = ((s.size - p.size : Nat) : Int) by rw [Gx.w64 _ (by omega)]; omega]
 refine bnd (subS_of (i := s.size - p.size) (j := s.size) rfl rfl (by omega) (Nat.le_refl _)) ?_
 rw [List.take_of_length_le (by omega)]
 congr 2
 rw [ba_beq]
 exact decide_eq_decide.2 ⟨fun q => congrArg bl q, fun q => bl_inj q⟩
theorem parts_spec (D : CallF) (hk : 20 ≤ k) (s : ByteArray) : Gx.Wp (pack_parts k D s h) fun z => Keeps h z.2 ∧ match partsP (bl s) with
  | some (fr, dir) => z.1 = ((fr : Int), ⟨⟨dir⟩⟩, true)
  | none => z.1.2.2 = false := by
 simp only [pack_parts]
 refine Wp.jn fun j4 h4 => ?_
 have bs : (bl s).length = s.size := bl_length s
 have bad : ∀ y, y = true → partsP (bl s) = none → Gx.Wp (j4 s y h) fun z => Keeps h z.2 ∧ match partsP (bl s) with
   | some (fr, dir) => z.1 = ((fr : Int), ⟨⟨dir⟩⟩, true)
   | none => z.1.2.2 = false := fun y hy hn => by
  rw [h4, hn]
  exact .ifp hy (.of ⟨Chg.refl _ _, rfl⟩)
 by_cases c1 : 65536 < s.size
 ·exact .ifp (by simp; omega) (bad true rfl (by unfold partsP; rw [if_neg (fun q => by omega)]))
 refine .ifn (by simp; omega) ?_
 by_cases c2 : s.size < 14
 ·exact .ifp (by simp; omega) (bad true rfl (by unfold partsP; rw [if_neg (fun q => by omega)]))
 refine .ifn (by simp; omega) (.bnd (prefix_spec D s _) ?_)
 have p5 : (⟨#[71, 82, 84, 80, 1]⟩ : ByteArray).size = 5 := rfl
 have p4 : (⟨#[80, 69, 78, 68]⟩ : ByteArray).size = 4 := rfl
 rw [p5, show bl (⟨#[71, 82, 84, 80, 1]⟩ : ByteArray) = magicB from rfl]
 by_cases c3 : (bl s).take 5 = magicB
 rotate_left
 ·exact .ifp (by rw [decide_eq_false c3]; rfl) (bad true rfl (by unfold partsP; rw [if_neg (fun q => c3 q.2.2.1)]))
 refine .ifn (by rw [decide_eq_true c3]; simp) (.bnd (suffix_spec D s _ (by omega) (by rw [p4]; omega)) ?_)
 rw [p4, show bl (⟨#[80, 69, 78, 68]⟩ : ByteArray) = endB from rfl]
 by_cases c4 : (bl s).drop (s.size - 4) = endB
 rotate_left
 ·exact bad _ (by rw [decide_eq_false c4]; rfl) (by unfold partsP; rw [if_neg (fun q => c4 (by rw [← bs]; exact q.2.2.2))])
 rw [decide_eq_true c4, h4]
 refine .ifn (by simp) ?_
 rw [show IntKind.wrap .i64 ((s.size : Int) - 8) = ((s.size - 8 : Nat) : Int) by rw [Gx.w64 _ (by omega)]; omega]
 refine .bnd (subS_of (i := 0) (j := s.size - 8) rfl rfl (by omega) (by omega)) ?_
 rw [List.drop_zero]
 have s5 : (⟨⟨(bl s).take (s.size - 8)⟩⟩ : ByteArray).size = s.size - 8 := by rw [size_mk, List.length_take]; omega
 rw [s5]
 refine .bnd (subS_of (i := s.size - 8) (j := s.size) rfl rfl (by omega) (by omega)) ?_
 rw [List.take_of_length_le (by omega)]
 obtain ⟨l8, e8⟩ : ∃ l8, l8 = (bl s).drop (s.size - 8) := ⟨_, rfl⟩
 have ll8 : l8.length = 8 := by rw [e8, List.length_drop]; omega
 rw [← e8]
 refine .bnd (Ge.B.read_spec k D ⟨⟨l8⟩⟩ h) ?_
 obtain ⟨h7, e7⟩ : ∃ h7, h7 = h.new (.cells [.string (⟨⟨l8⟩⟩ : ByteArray), .int .i64 0] 157 true 0) := ⟨_, rfl⟩
 rw [← e7]
 have R7 : Ge.B.Rdr h7 h.next ⟨⟨l8⟩⟩ 0 := by rw [Ge.B.Rdr, e7]; simp
 have k7 : Keeps h h7 := by rw [e7]; exact Keeps.new _ _
 obtain ⟨h8, f1, f2, f3⟩ := Ge.B.rfixed_spec (kf := k) (by omega) D R7 4 (by omega) (by omega) (by rw [e7]; show h.next < h.next + 1; omega)
 have k8 : Keeps h h8 := k7.keepsS f3 fun y hy => by have hy : y = h.next := hy; omega
 have eN : Ge.B.numL 0 (bl (Ge.B.rdOut ⟨⟨l8⟩⟩ 0 (4 : Nat))) = Ge.B.numL 0 (((bl s).drop ((bl s).length - 8)).take 4) := by
  have e0 : Ge.B.rdE ⟨⟨l8⟩⟩ 0 ((4 : Nat) : Int) = 0 := by
   unfold Ge.B.rdE
   rw [size_mk, ll8]; decide
  unfold Ge.B.rdOut
  rw [if_pos e0, bl_mk, bl_mk, bs, ← e8]
  rfl
 have eP : partsP (bl s) = if (bl s).length - 8 - 5 < Ge.B.numL 0 (((bl s).drop ((bl s).length - 8)).take 4) then none
  else some ((bl s).length - 8 - Ge.B.numL 0 (((bl s).drop ((bl s).length - 8)).take 4), ((bl s).take ((bl s).length - 8)).drop ((bl s).length - 8 - Ge.B.numL 0 (((bl s).drop ((bl s).length - 8)).take 4))) := by
  unfold partsP
  rw [if_pos ⟨by omega, by omega, c3, by rw [bs]; exact c4⟩]
 refine .bnd f1 ?_
 rw [eN]
 obtain ⟨m, em⟩ : ∃ m, m = Ge.B.numL 0 (((bl s).drop ((bl s).length - 8)).take 4) := ⟨_, rfl⟩
 rw [← em] at eP ⊢
 rw [eP]
 have hm32 : m < 4294967296 := by
  rw [em]
  have := Ge.B.numL_lt (((bl s).drop ((bl s).length - 8)).take 4)
  have l4 : (((bl s).drop ((bl s).length - 8)).take 4).length = 4 := by rw [List.length_take, List.length_drop]; omega
  rw [l4] at this
  exact this
 simp only []
 rw [show IntKind.wrap .i64 (((s.size - 8 : Nat) : Int) - 5) = ((s.size - 8 - 5 : Nat) : Int) by rw [Gx.w64 _ (by omega)]; omega]
 by_cases c5 : (bl s).length - 8 - 5 < m
 ·rw [if_pos c5]
  exact .ifp (by simp; omega) (.of ⟨k8, rfl⟩)
 ·rw [if_neg c5]
  refine .ifn (by simp; omega) ?_
  rw [show IntKind.wrap .i64 (((s.size - 8 : Nat) : Int) - (m : Int)) = ((s.size - 8 - m : Nat) : Int) by rw [Gx.w64 _ (by omega)]; omega]
  refine .bnd (subS_of (s := ⟨⟨(bl s).take (s.size - 8)⟩⟩) (i := s.size - 8 - m) (j := s.size - 8) (by rw [Option.getD_none, s5]) rfl (by omega) (by omega)) (.of ⟨k8, ?_⟩)
  rw [show bl (⟨⟨(bl s).take (s.size - 8)⟩⟩ : ByteArray) = (bl s).take (s.size - 8) from rfl, List.take_take, Nat.min_self, bs]
end
end Ge
namespace Ge
open Go Gx
structure PL (h0 H : AHeap) (rb mb : Nat) (st : Rd) (es : List (ByteArray × Bool × Nat)) (o : Slc) (its : List It) : Prop where
 kp : Keeps h0 H
 R : PRd H rb st
 M : MapAt sK bV H mb es
 A : AccW 6 itC 57 (mb + 1) H o its
 lr : rb < mb
 lm : mb < H.next
 h0r : h0.next ≤ rb
section
variable {k rb mb : Nat} {h0 H H' : AHeap} {st : Rd} {es : List (ByteArray × Bool × Nat)} {o : Slc} {its : List It}
theorem PL.keeps (P : PL h0 H rb mb st es o its) (c : Keeps H H') : PL h0 H' rb mb st es o its :=
 have := P.lr; have := P.lm; have := c.nx
 ⟨P.kp.trans c, P.R.keeps (by omega) c, P.M.chg c P.lm (fun f => f), P.A.keeps c, P.lr, by omega, P.h0r⟩
theorem PL.red (P : PL h0 H rb mb st es o its) (c : Chg (· = rb) H H') {st' : Rd} (R : PRd H' rb st') : PL h0 H' rb mb st' es o its :=
 have := P.lr; have := P.lm; have := c.nx; have := P.h0r
 ⟨P.kp.keepsS c fun y hy => (by have hy : y = rb := hy; omega), R, P.M.chg c P.lm (by omega), P.A.chg c fun a ha e => (by have := (P.A.lt a ha).2; have e : a.block = rb := e; omega), P.lr, by omega, P.h0r⟩
theorem kind_dec (n : Nat) : (((n : Int) == 1) = true ↔ n = 1) ∧ (((n : Int) == 2) = true ↔ n = 2) := by
 constructor
 ·constructor
  ·intro h; have := eq_of_beq h; omega
  ·intro h; subst h; rfl
 ·constructor
  ·intro h; have := eq_of_beq h; omega
  ·intro h; subst h; rfl
theorem opS_le (most : Nat) (st : Rd) : (opS most st).1 ≤ most := by
 unfold opS
 cases h : st.bind (pS most) with
 | none => simp
 | some x =>
  obtain ⟨n, l⟩ := x
  simp only []
  cases st with
  | none => cases h
  | some l0 => exact (pS_suf h).1
theorem lines_no {pid : ByteArray} {fr d at' : Nat} (h : ¬ ((opL st).2.isSome = true ∧ ((opL st).1.2.1 = 1 ∨ (opL st).1.2.1 = 2) ∧ 1 ≤ (opL st).1.2.2.1 ∧ (opL st).1.2.2.1 ≤ fr - at' ∧ (lkM (opL st).1.1 es).getD false = false)) : linesP pid fr (d + 1) st at' es = none := by
 unfold linesP; rw [if_neg h]
theorem lines_loop (D : CallF) (hk : 20 ≤ k) {pid : ByteArray} {fr : Nat} (hfr : fr ≤ 70000) {j12 : Int → (Option Addr) → Int → Slc → AHeap → Option ((Slc × Int) × AHeap)} {Q : (Slc × Int) × AHeap → Prop} {many : Nat} (hmany : many ≤ 4096) (bot) :
  ∀ (d i at' : Nat) (st : Rd) (es : List (ByteArray × Bool × Nat)) (o : Slc) (its : List It) (H : AHeap), i + d = many → at' ≤ fr → its.length = i → PL h0 H rb mb st es o its →
  (linesP pid fr d st at' es = none → ∀ H', Keeps h0 H' → Q ((⟨none, 0, 0⟩, 140), H')) →
  (∀ its' st' at'' H' o' es', linesP pid fr d st at' es = some (its', st', at'') → PL h0 H' rb mb st' es' o' (its ++ its') → Gx.Wp (j12 (fr : Int) (some ⟨rb, 0, none⟩) (at'' : Int) o' H') Q) →
  Gx.Wp (iterK bot (d + 1) (pack_Parse_l0b k D j12) (fr : Int) (some ⟨rb, 0, none⟩) (at' : Int) pid (some mb) o (many : Int) (i : Int) H) Q := by
 intro d
 induction d with
 | zero =>
  intro i at' st es o its H hd hat hl P _ hgood
  rw [iterK_s]; simp only [pack_Parse_l0b]
  refine .ifn (by simp; omega) (hgood [] st at' H o es rfl ?_)
  rw [List.append_nil]; exact P
 | succ d ih =>
  intro i at' st es o its H hd hat hl P hbad hgood
  rw [iterK_s]; simp only [pack_Parse_l0b]
  have plr := P.lr; have plm := P.lm; have ph := P.h0r
  refine .ifp (by simp; omega) (.call (pitem_spec D hk (by omega) P.R) fun r28 ⟨q28, R28, c28⟩ => ?_)
  have P28 := P.red c28 R28
  have n28 := c28.nx
  obtain ⟨ln, eln⟩ : ∃ ln, ln = (opL st).1 := ⟨_, rfl⟩
  obtain ⟨st', est⟩ : ∃ st', st' = (opL st).2 := ⟨_, rfl⟩
  rw [← eln] at q28
  rw [← est] at R28 P28
  rw [q28]
  dsimp only
  have b65 : ln.2.2.1 ≤ 65536 := by rw [eln]; exact opS_le _ _
  obtain ⟨xb, exb⟩ : ∃ xb, xb = r28.2.next := ⟨_, rfl⟩
  refine Wp.newE fun h29 e29 k29 n29 g29 => Wp.stL g29 rfl rfl rfl (by decide) fun h30 c30 n30 g30 => Wp.jn fun j42 h42 => ?_
  have k30 : Keeps r28.2 h30 := k29.keepsS c30 fun y hy => by have hy : y = r28.2.next := hy; omega
  have P30 := P28.keeps k30
  rw [← exb] at g30 ⊢
  have J42 : ∀ kd : Bool, (kd = true ↔ (ln.2.1 = 1 ∨ ln.2.1 = 2)) → Gx.Wp (j42 (fr : Int) (some ⟨rb, 0, none⟩) (at' : Int) pid (some mb) o (some ⟨xb, 0, none⟩) kd (many : Int) (i : Int) h30) Q := fun kd hkd => by
   rw [h42]
   refine Wp.jn fun j54 h54 => ?_
   have bad54 : ∀ y, y = true → linesP pid fr (d + 1) st at' es = none → Gx.Wp (j54 (fr : Int) (some ⟨rb, 0, none⟩) (at' : Int) pid (some mb) o (some ⟨xb, 0, none⟩) (many : Int) (i : Int) y h30) Q := fun y hy hn => by
    rw [h54]
    exact .ifp hy (.of (hbad hn h30 P30.kp))
   obtain ⟨S, e, gR, hS, he, hl'⟩ := P30.R
   refine .bnd (err_spec D gR) ?_
   by_cases c1 : e = 0
   rotate_left
   ·exact .ifp (by simpa using c1) (bad54 _ rfl (lines_no fun w => c1 (he.2 (by rw [est]; exact w.1))))
   have hsome : st'.isSome = true := he.1 c1
   refine .ifn (by simp [c1]) ?_
   by_cases c2 : ln.2.1 = 1 ∨ ln.2.1 = 2
   rotate_left
   ·exact .ifp (by rw [show kd = false by cases kd with | false => rfl | true => exact absurd (hkd.1 rfl) c2]; rfl) (bad54 _ rfl (lines_no fun w => c2 (by rw [eln]; exact w.2.1)))
   refine .ifn (by rw [hkd.2 c2]; decide) (.bnd rfl (.bnd (sldI_at (o := 0 + 1 + 3) g30 rfl) ?_))
   by_cases c3 : 1 ≤ ln.2.2.1
   rotate_left
   ·exact .ifp (decide_eq_true (by omega)) (bad54 _ rfl (lines_no fun w => c3 (by rw [eln]; exact w.2.2.1)))
   refine .ifn (fun w => by have := of_decide_eq_true w; omega) (.bnd rfl (.bnd (sldI_at (o := 0 + 1 + 3) g30 rfl) ?_))
   rw [show IntKind.wrap .i64 ((fr : Int) - (at' : Int)) = ((fr - at' : Nat) : Int) by rw [Gx.w64 _ (by omega)]; omega]
   by_cases c4 : ln.2.2.1 ≤ fr - at'
   rotate_left
   ·exact .ifp (decide_eq_true (by omega)) (bad54 _ rfl (lines_no fun w => c4 (by rw [eln]; exact w.2.2.2.1)))
   refine .ifn (fun w => by have := of_decide_eq_true w; omega) (.bnd rfl (.bnd (ldS_at (o := 0 + 0) g30 rfl) ?_))
   have lk : lookE decB (.bool false) h30 (some mb) (.string ln.1) = some ((lkM ln.1 es).getD false, (lkM ln.1 es).isSome) := by
    have := P30.M.look (n := ln.1) (fun e _ => keyEq_S _ e.1) (dec := decB) (dv := fun v : Bool => v) (fun v => rfl) (z := .bool false) (z0 := false) rfl
    refine this.trans ?_
    cases lkM ln.1 es <;> rfl
   refine .bnd lk ?_
   cases c5 : (lkM ln.1 es).getD false with
   | true => exact bad54 _ rfl (lines_no fun w => by rw [← eln, c5] at w; exact absurd w.2.2.2.2 (by decide))
   | false =>
    have eL : linesP pid fr (d + 1) st at' es = (linesP pid fr d st' (at' + ln.2.2.1) (ptM ln.1 true es.length es)).map fun p => (itL pid at' ln :: p.1, p.2) := by
     conv => lhs; unfold linesP
     rw [← eln, ← est, if_pos ⟨hsome, c2, c3, c4, c5⟩]
    rw [eL] at hbad hgood
    rw [h54]
    refine .ifn (by simp) (.bnd rfl (.bnd (ldS_at (o := 0 + 0) g30 rfl) (.bnd rfl ?_)))
    obtain ⟨h57, u1, u2, u3, u4⟩ := P30.M.upd (n := ln.1) (fun e _ => keyEq_S _ e.1) true
    have n30' := k30.nx
    have g57 := u3.got (by omega) (by omega) g30
    refine .bnd u1 (.bnd rfl (Wp.st g57 (by simp) rfl fun h60 c60 n60 g60 => .bnd rfl (Wp.st g60 (by simp) rfl fun h62 c62 n62 g62 => .bnd rfl (.bnd (sldI_at (o := 0 + 1 + 3) g62 rfl) (.bnd rfl ?_)))))
    obtain ⟨x, ex⟩ : ∃ x : It, x = itL pid at' ln := ⟨_, rfl⟩
    have exc : itC x = [.string ln.1, .string pid, .int .i64 (ln.2.1 : Int), .int .i64 (at' : Int), .int .i64 (ln.2.2.1 : Int), .int .i64 (ln.2.2.2 : Int)] := by rw [ex]; rfl
    have cA : Chg (· = mb) r28.2 h62 := Chg.beh (T := (· = xb)) (Chg.beh (T := (· = xb)) ((Chg.keeps k30).trans u3) c60 fun y hy e => by have e : y = xb := e; omega) c62 fun y hy e => by have e : y = xb := e; omega
    have R62 := R28.chg (by omega) cA (show ¬ rb = mb by omega)
    have A62 := P28.A.chg cA fun a ha e => by have := (P28.A.lt a ha).2; have e : a.block = mb := e; omega
    have M62 := (u2.chg c60 (by omega) (show ¬ mb = xb by omega)).chg c62 (by omega) (show ¬ mb = xb by omega)
    have k62 : Keeps h0 h62 := P28.kp.keepsS cA fun y hy => by have hy : y = mb := hy; omega
    obtain ⟨s', h', a, A', c', d'⟩ := A62.push itC_len itC_one x (bytes := 64) (by decide) (by omega) (by omega)
    refine .bnd (sldA_at g62 rfl) (.bnd (decI6 (ln.1, pid, (ln.2.1 : Int), (at' : Int), (ln.2.2.1 : Int), (ln.2.2.2 : Int))) (Wp.newE fun h68 e68 k68 n68 g68 => ?_))
    have e68' : h68 = h62.new (.cells (itC x) 57 true 0) := by rw [e68, exc]
    rw [← e68'] at a
    have er : Gx.rdS 6 ⟨some ⟨h62.next, 0, some 0⟩, 1, 1⟩ h68 = some (itC x) := by rw [e68']; exact rdS_oneW itC_len x 57
    refine .bnd er (.bnd a ?_)
    rw [show IntKind.wrap .i64 ((at' : Int) + (ln.2.2.1 : Int)) = ((at' + ln.2.2.1 : Nat) : Int) by rw [Gx.w64 _ (by omega)]; omega, Gx.w1 (by omega)]
    have no : ∀ y, ofS o y → mb + 1 ≤ y := fun y ⟨b, hb, e⟩ => by have := (A62.lt b hb).2; omega
    have nx' := c'.nx
    have P' : PL h0 h' rb mb st' (ptM ln.1 true es.length es) s' (its ++ [x]) :=
     ⟨k62.keepsS c' fun y hy => by have := no y hy; omega, R62.chg (by omega) c' (fun w => by have := no _ w; omega), M62.chg c' (by omega) (fun w => by have := no _ w; omega), A', plr, by omega, ph⟩
    refine ih (i + 1) (at' + ln.2.2.1) st' _ s' (its ++ [x]) h' (by omega) (by omega) (by simp; omega) P' (fun hn => hbad (by rw [hn]; rfl)) fun its' st'' at'' H' o' es' hs PP => ?_
    refine hgood (x :: its') st'' at'' H' o' es' (by rw [hs, ex]; rfl) ?_
    rw [List.append_assoc] at PP
    exact PP
  have kd := kind_dec ln.2.1
  refine .bnd (sldI_at g30 rfl) ?_
  by_cases ck : ln.2.1 = 1
  ·exact .ifp (kd.1.2 ck) (J42 true (by simp [ck]))
  ·refine .ifn (fun w => ck (kd.1.1 w)) (.bnd (sldI_at g30 rfl) (J42 _ ?_))
   rw [kd.2]
   omega
theorem parse_spec14 (D : CallF) {h : AHeap} (kg : KG 0 h) (hk : 1200000 ≤ k) (s : ByteArray) : Gx.Wp (pack_Parse k D s h) fun z => Keeps h z.2 ∧ match parseK (bl s) with
  | some its => ∃ sl, z.1 = (sl, 0) ∧ AccW 6 itC 57 h.next z.2 sl its
  | none => z.1 = (⟨none, 0, 0⟩, 140) := by
 simp only [pack_Parse]
 have bs : (bl s).length = s.size := bl_length s
 refine .call (parts_spec D (by omega) s) fun r1 ⟨k1, q1⟩ => ?_
 cases hp : partsP (bl s) with
 | none =>
  rw [hp] at q1
  have e : parseK (bl s) = none := by unfold parseK; rw [hp]
  rw [e]
  exact .ifp (by rw [q1]; rfl) (.of ⟨k1, rfl⟩)
 | some x =>
  obtain ⟨fr, dir⟩ := x
  rw [hp] at q1
  simp only [] at q1
  rw [q1]
  have hpf : fr ≤ 65536 ∧ 5 ≤ fr ∧ dir.length ≤ 65536 ∧ s.size ≤ 65536 := by
   unfold partsP at hp
   split at hp
   ·rename_i c
    split at hp
    ·cases hp
    ·rename_i c2
     cases hp
     refine ⟨by omega, by omega, ?_, by omega⟩
     rw [List.length_drop, List.length_take]; omega
   ·cases hp
  have eK : parseK (bl s) = match linesP ⟨⟨digest (bl s)⟩⟩ fr (opS 4096 (some dir)).1 (opS 4096 (some dir)).2 5 [] with
   | some (its, st, at') => if st = some [] ∧ at' = fr then some its else none
   | none => none := by unfold parseK; rw [hp] <;> rfl
  refine .ifn (by simp) (.bnd (Ge.B.read_spec k D ⟨⟨dir⟩⟩ r1.2) ?_)
  obtain ⟨h2, e2⟩ : ∃ h2, h2 = r1.2.new (.cells [.string (⟨⟨dir⟩⟩ : ByteArray), .int .i64 0] 157 true 0) := ⟨_, rfl⟩
  have k2 : Keeps r1.2 h2 := e2 ▸ Keeps.new _ _
  have g2 : h2.get r1.2.next = some (.cells [.string (⟨⟨dir⟩⟩ : ByteArray), .int .i64 0] 157 true 0) := by rw [e2]; simp
  have n2 : h2.next = r1.2.next + 1 := by rw [e2]; rfl
  rw [← e2]
  have P2 : PRd h2 r1.2.next (some dir) := PRd.ok (l := dir) g2 (by omega)
  refine .call (rshort_spec D (by omega) P2 4096) fun r3 ⟨q3, P3, c3⟩ => Wp.newE fun h4 e4 k4 n4 g4 => ?_
  have n3 := c3.nx
  have nk1 := k1.nx
  have k3 : Keeps r1.2 r3.2 := k2.keepsS c3 fun y hy => by have hy : y = r1.2.next := hy; omega
  have R4 : Row encS h4 ⟨some ⟨r3.2.next, 0, some 0⟩, 1, 1⟩ [s] := Row.of_block (enc := encS) (xs := [s]) g4 (by omega) fun i z hz => by
   match i with
   | 0 => simp at hz; subst hz; rfl
   | i + 1 => simp at hz
  have ec : Ge.B.catL [s] = bl s := by simp [Ge.B.catL]
  refine .call (Ge.B.sum_spec (by omega) D (((kg.chg k1 fun f => f).chg k3 fun f => f).chg k4 fun f => f) R4 (by rw [ec]; omega) (by rw [ec]; omega) (by simp; omega) (by simp)) fun r5 ⟨q5, k5⟩ => ?_
  rw [ec] at q5
  rw [q5, q3]
  have n5 := k5.nx
  refine Wp.newE fun h6 e6 k6 n6 g6 => Wp.jn fun j12 h12 => ?_
  have k36 : Keeps r3.2 h6 := (k4.trans k5).trans k6
  have P6 : PL h h6 r1.2.next r5.2.next (opS 4096 (some dir)).2 [] ⟨none, 0, 0⟩ [] :=
   ⟨(k1.trans k3).trans k36, P3.keeps (by omega) k36, g6, AccW.nil _ _ _ _ _, by omega, by omega, nk1⟩
  unfold pack_Parse_l0
  have hm := opS_le 4096 (some dir)
  obtain ⟨bot, eb⟩ := iterK_of (fun _ _ _ _ _ _ _ _ _ => none) (pack_Parse_l0b k D j12) (show (opS 4096 (some dir)).1 + 1 ≤ k by omega)
  rw [eb, show (0 : Int) = ((0 : Nat) : Int) from rfl, show (5 : Int) = ((5 : Nat) : Int) from rfl]
  refine lines_loop D (by omega) (by omega) hm bot _ 0 5 _ [] ⟨none, 0, 0⟩ [] h6 (by omega) hpf.2.1 rfl P6 (fun hn H' kk => ?_) fun its' st' at'' H' o' es' hs PP => ?_
  ·rw [eK, hn]
   exact ⟨kk, rfl⟩
  ·rw [List.nil_append] at PP
   rw [hs] at eK
   simp only [] at eK
   rw [h12]
   refine Wp.jn fun j16 h16 => .call (rend_spec D PP.R) fun r17 ⟨q17, c17⟩ => ?_
   have bad : ∀ y, y = true → parseK (bl s) = none → Gx.Wp (j16 o' y r17.2) fun z => Keeps h z.2 ∧ match parseK (bl s) with
     | some its => ∃ sl, z.1 = (sl, 0) ∧ AccW 6 itC 57 h.next z.2 sl its
     | none => z.1 = (⟨none, 0, 0⟩, 140) := fun y hy hn => by
    rw [h16, hn]
    exact .ifp hy (.of ⟨PP.kp.keepsS c17 fun y hy => by have hy : y = r1.2.next := hy; omega, rfl⟩)
   by_cases c1 : st' = some []
   rotate_left
   ·exact .ifp (by simp; exact fun w => c1 (q17.1 w)) (bad true rfl (by rw [eK, if_neg (fun w => c1 w.1)]))
   refine .ifn (by rw [q17.2 c1]; decide) ?_
   by_cases c2 : at'' = fr
   rotate_left
   ·exact bad _ (by simp; omega) (by rw [eK, if_neg (fun w => c2 w.2)])
   rw [eK, if_pos ⟨c1, c2⟩, h16]
   refine .ifn (by rw [c2]; simp) (.of ⟨PP.kp.keepsS c17 fun y hy => by have hy : y = r1.2.next := hy; omega, o', rfl, ?_⟩)
   have A := PP.A.chg c17 fun a ha e => by have := (PP.A.lt a ha).2; have := PP.lr; have e : a.block = r1.2.next := e; omega
   exact ⟨A.st, fun a ha => ⟨(A.lt a ha).1, by have := (A.lt a ha).2; have := PP.lr; omega⟩⟩
end
end Ge
namespace Ge
open Go Gx
abbrev Tx := Nat × ByteArray
def okT (x : Tx) : Prop := (x.1 = 1 ∨ x.1 = 2) ∧ x.2.size ≤ 60000
def blobsP (ts : List Tx) : List UInt8 := ts.flatMap fun x => encP x.1 (bl x.2)
def linesB (ts : List Tx) : List UInt8 := ts.flatMap fun x => lineA x.1 x.2
def idT (x : Tx) : ByteArray := idB x.1 (bl x.2)
def lenT (x : Tx) : Nat := (encP x.1 (bl x.2)).length
def itsOf (pid : ByteArray) : List Tx → Nat → List It
 | [], _ => []
 | x :: r, off => (idT x, pid, (x.1 : Int), (off : Int), (lenT x : Int), (x.2.size : Int)) :: itsOf pid r (off + lenT x)
theorem itsOf_len (pid : ByteArray) : ∀ (ts : List Tx) (off : Nat), (itsOf pid ts off).length = ts.length
 | [], _ => rfl
 | x :: r, off => by simp [itsOf, itsOf_len pid r]
theorem itsOf_app (pid : ByteArray) (x : Tx) : ∀ (ts : List Tx) (off : Nat), itsOf pid (ts ++ [x]) off = itsOf pid ts off ++ [(idT x, pid, (x.1 : Int), ((off + (blobsP ts).length : Nat) : Int), (lenT x : Int), (x.2.size : Int))]
 | [], off => by simp [itsOf, blobsP]
 | y :: r, off => by
  rw [List.cons_append, itsOf, itsOf_app pid x r, itsOf, List.cons_append]
  have : (blobsP (y :: r)).length = lenT y + (blobsP r).length := by unfold blobsP lenT; rw [List.flatMap_cons, List.length_append]
  rw [this, show off + lenT y + (blobsP r).length = off + (lenT y + (blobsP r).length) by omega]
theorem itsOf_set (pid p2 : ByteArray) : ∀ (ts : List Tx) (off : Nat), (itsOf pid ts off).map (setP p2) = itsOf p2 ts off
 | [], _ => rfl
 | x :: r, off => by rw [itsOf, List.map_cons, itsOf_set pid p2 r]; rfl
structure GoodP (q : PSt) (ts : List Tx) : Prop where
 b : q.1 = magicB ++ blobsP ts
 d : q.2.1 = linesB ts
 i : q.2.2.1 = itsOf ⟨#[]⟩ ts 5
 m : ∀ id, lkM id q.2.2.2 = none ↔ id ∉ ts.map idT
 n : (ts.map idT).Nodup
 k : ∀ x ∈ ts, okT x
theorem GoodP.nil : GoodP st0P [] := ⟨by simp [st0P, blobsP], rfl, rfl, fun id => by simp [st0P, lkM], List.nodup_nil, fun x hx => by cases hx⟩
theorem GoodP.add {q : PSt} {ts : List Tx} (G : GoodP q ts) {c : Nat} {t : ByteArray} (hx : okT (c, t)) (hn : lkM (idB c (bl t)) q.2.2.2 = none) : GoodP (addQ q c t) (ts ++ [(c, t)]) := by
 have hid := (G.m (idB c (bl t))).1 hn
 refine ⟨?_, ?_, ?_, fun id => ?_, ?_, fun x h => ?_⟩
 ·show q.1 ++ encP c (bl t) = _
  rw [G.b, List.append_assoc]; simp [blobsP]
 ·show q.2.1 ++ lineA c t = _
  rw [G.d]; simp [linesB]
 ·show q.2.2.1 ++ [itP q c t] = _
  rw [G.i, itsOf_app]
  congr 2
  unfold itP
  rw [G.b, List.length_append]
  rfl
 ·show lkM id (ptM (idB c (bl t)) t q.2.2.2.length q.2.2.2) = none ↔ _
  rw [lkM_ptM, List.map_append, List.mem_append]
  by_cases e : id = idB c (bl t)
  ·rw [if_pos e]
   constructor
   ·intro h; cases h
   ·intro h; exact absurd (.inr (by rw [e]; simp [idT])) h
  ·rw [if_neg e, G.m id]
   constructor
   ·rintro h (w | w)
    ·exact h w
    ·simp [idT] at w; exact e w
   ·intro h w; exact h (.inl w)
 ·rw [List.map_append, List.nodup_append]
  refine ⟨G.n, by simp, fun a ha b hb e => ?_⟩
  simp [idT] at hb
  rw [hb] at e
  exact hid (e ▸ ha)
 ·rcases List.mem_append.1 h with h | h
  ·exact G.k x h
  ·rw [List.mem_singleton.1 h]; exact hx
theorem lineA_len (c : Nat) (t : ByteArray) (ht : t.size ≤ 60000) : (lineA c t).length ≤ 39 ∧ 35 ≤ (lineA c t).length := by
 have bt : (bl t).length = t.size := bl_length t
 obtain ⟨e1, e2⟩ := encP_len (c := c) (t := bl t) (by omega)
 have l1 := leb_len 2 (encP c (bl t)).length (by omega)
 have l2 := leb_len 2 t.size (by omega)
 have p1 := leb_pos (encP c (bl t)).length
 have p2 := leb_pos t.size
 unfold lineA lineP
 simp only [List.length_append, List.length_cons]
 have : (bl (idB c (bl t))).length = 32 := rfl
 omega
theorem opL_line {x : Tx} (h : okT x) (r : List UInt8) : opL (some (lineA x.1 x.2 ++ r)) = ((idT x, x.1, lenT x, x.2.size), some r) := by
 obtain ⟨hc, hs⟩ := h
 have bt : (bl x.2).length = x.2.size := bl_length x.2
 obtain ⟨e1, e2⟩ := encP_len (c := x.1) (t := bl x.2) (by omega)
 have e32 : (bl (idT x)).length = 32 := rfl
 have eq : lineA x.1 x.2 ++ r = bl (idT x) ++ (UInt8.ofNat x.1 :: (leb (lenT x) ++ (leb x.2.size ++ r))) := by
  unfold lineA lineP idT lenT
  simp
 have oB : opB 32 (some (lineA x.1 x.2 ++ r)) = (idT x, some (UInt8.ofNat x.1 :: (leb (lenT x) ++ (leb x.2.size ++ r)))) := by
  rw [eq]
  unfold opB
  simp only []
  rw [if_pos (by rw [List.length_append, e32]; omega), ← e32, List.take_left, List.drop_left]
  rfl
 have oc : (UInt8.ofNat x.1).toNat = x.1 := by rw [UInt8.toNat_ofNat']; omega
 have oS : ∀ {n : Nat} (r : List UInt8), n ≤ 65536 → opS 65536 (some (leb n ++ r)) = (n, some r) := fun r hn => by
  unfold opS
  rw [Option.bind_some, pS_ofl hn]
 unfold opL
 simp only [oB]
 have oF : opF (some (UInt8.ofNat x.1 :: (leb (lenT x) ++ (leb x.2.size ++ r)))) = (x.1, some (leb (lenT x) ++ (leb x.2.size ++ r))) := by
  unfold opF; simp only []; rw [oc]
 simp only [oF]
 rw [oS (n := lenT x) _ (by unfold lenT; omega)]
 simp only []
 rw [oS _ (by omega)]
theorem lines_back (pid : ByteArray) (fr : Nat) : ∀ (ts : List Tx) (at' : Nat) (es : List (ByteArray × Bool × Nat)), (∀ x ∈ ts, okT x) → (ts.map idT).Nodup → (∀ x ∈ ts, lkM (idT x) es = none) → at' + (blobsP ts).length ≤ fr →
  linesP pid fr ts.length (some (linesB ts)) at' es = some (itsOf pid ts at', some [], at' + (blobsP ts).length)
 | [], at', es, _, _, _, _ => by simp [linesP, linesB, itsOf, blobsP]
 | x :: r, at', es, hk, hn, he, hl => by
  have hx := hk x (by simp)
  have bt : (bl x.2).length = x.2.size := bl_length x.2
  obtain ⟨e1, e2⟩ := encP_len (c := x.1) (t := bl x.2) (by have := hx.2; omega)
  have lb : (blobsP (x :: r)).length = lenT x + (blobsP r).length := by unfold blobsP lenT; rw [List.flatMap_cons, List.length_append]
  have ll : linesB (x :: r) = lineA x.1 x.2 ++ linesB r := by unfold linesB; rw [List.flatMap_cons]
  rw [List.map_cons, List.nodup_cons] at hn
  rw [ll, List.length_cons]
  unfold linesP
  rw [opL_line hx]
  have hle : 1 ≤ lenT x := by unfold lenT; omega
  rw [if_pos ⟨rfl, hx.1, hle, by show lenT x ≤ fr - at'; omega, by show (lkM (idT x) es).getD false = false; rw [he x (by simp)]; rfl⟩]
  show (linesP pid fr r.length (some (linesB r)) (at' + lenT x) (ptM (idT x) true es.length es)).map _ = _
  rw [lines_back pid fr r (at' + lenT x) _ (fun y hy => hk y (by simp [hy])) hn.2 (fun y hy => ?_) (by omega)]
  ·rw [Option.map_some, lb, show at' + lenT x + (blobsP r).length = at' + (lenT x + (blobsP r).length) by omega]
   rfl
  ·rw [lkM_ptM, if_neg (fun e => hn.1 (by rw [← e]; exact List.mem_map_of_mem hy)), he y (by simp [hy])]
theorem parse_fin {q : PSt} {ts : List Tx} (G : GoodP q ts) (hts : ts.length ≤ 4096) (hl : (finB q).length ≤ 65536) (hne : ts ≠ []) : parseK (finB q) = some (finI q) := by
 have hlen : 0 < ts.length := List.length_pos_iff.2 hne
 have li : q.2.2.1.length = ts.length := by rw [G.i, itsOf_len]
 have l1 : q.1.length = 5 + (blobsP ts).length := by rw [G.b, List.length_append]; rfl
 have ll := leb_pos q.2.2.1.length
 have dl : (dirB q).length = (leb q.2.2.1.length).length + q.2.1.length := List.length_append
 have fl : (B.fixL (dirB q).length 4).length = 4 := B.fixL_length _ _
 have lF : (finB q).length = q.1.length + ((dirB q).length + (4 + 4)) := by unfold finB; simp only [List.length_append, fl]; rfl
 have e8 : (finB q).length - 8 = q.1.length + (dirB q).length := by omega
 have d8 : (finB q).drop (q.1.length + (dirB q).length) = B.fixL (dirB q).length 4 ++ endB := by
  unfold finB
  rw [← List.append_assoc, ← List.length_append, List.drop_left]
 have t8 : (finB q).take (q.1.length + (dirB q).length) = q.1 ++ dirB q := by
  unfold finB
  rw [← List.append_assoc, ← List.length_append, List.take_left]
 have n4 : B.numL 0 ((B.fixL (dirB q).length 4 ++ endB).take 4) = (dirB q).length := by
  rw [List.take_append_of_le_length (by omega), List.take_of_length_le (by omega), B.num_fix, Nat.mod_eq_of_lt (by omega)]
 have hp : partsP (finB q) = some (q.1.length, dirB q) := by
  unfold partsP
  rw [e8, d8, n4, t8]
  have h1 : (finB q).take 5 = magicB := by
   unfold finB
   rw [G.b, List.append_assoc, List.take_append_of_le_length (by decide)]; rfl
  have h2 : (finB q).drop ((finB q).length - 4) = endB := by
   have e : finB q = (q.1 ++ (dirB q ++ B.fixL (dirB q).length 4)) ++ endB := by unfold finB; simp
   have e4 : (finB q).length - 4 = (q.1 ++ (dirB q ++ B.fixL (dirB q).length 4)).length := by simp only [List.length_append, fl]; omega
   rw [e4, e, List.drop_left]
  rw [if_pos ⟨hl, by omega, h1, h2⟩, if_neg (by omega), show q.1.length + (dirB q).length - (dirB q).length = q.1.length by omega, List.drop_left]
 unfold parseK
 rw [hp]
 simp only []
 have oS : opS 4096 (some (dirB q)) = (ts.length, some (linesB ts)) := by
  unfold opS dirB
  rw [Option.bind_some, li, G.d]
  have : pS 4096 (leb ts.length ++ linesB ts) = some (ts.length, linesB ts) := by
   unfold pS
   rw [lebQ_of 8 _ (by omega) (fun h => by cases h)]
   simp; omega
  rw [this]
 rw [oS]
 simp only []
 rw [lines_back _ _ ts 5 [] G.k G.n (fun x _ => rfl) (by omega)]
 simp only []
 rw [if_pos ⟨trivial, by omega⟩]
 unfold finI
 rw [G.i, itsOf_set]
end Ge
namespace Ge
open Go Gx
section
variable {k pb mb : Nat} {H H' : AHeap} {s1 s2 si : Slc} {lim : Int} {q : PSt}
theorem accS_cells {base : Nat} {s : Slc} {l : List ByteArray} {a : Addr} (A : Acc encS 9 base H s l) (ha : s.a = some a) : ∃ c, H.get a.block = some (.cells c 9 true 0) := by
 rcases A.st with ⟨h, _⟩ | ⟨b, g⟩
 ·rw [h] at ha; cases ha
 ·rw [g.s] at ha; cases ha; exact ⟨_, g.blk⟩
end
theorem GoodP.sizes {q : PSt} {ts : List Tx} (G : GoodP q ts) {m : Nat} (hm : m ≤ 3000) (h : ∀ x ∈ ts, x.2.size ≤ m) : q.1.length ≤ 5 + (m + 4) * ts.length ∧ q.2.1.length ≤ 39 * ts.length ∧ q.2.2.1.length = ts.length := by
 have h1 : ∀ ts : List Tx, (∀ x ∈ ts, okT x ∧ x.2.size ≤ m) → (blobsP ts).length ≤ (m + 4) * ts.length ∧ (linesB ts).length ≤ 39 * ts.length := fun ts => by
  induction ts with
  | nil => intro _; exact ⟨by simp [blobsP], by simp [linesB]⟩
  | cons x r ih =>
   intro hx
   obtain ⟨i1, i2⟩ := ih fun y hy => hx y (by simp [hy])
   have hx0 := hx x (by simp)
   have bt : (bl x.2).length = x.2.size := bl_length x.2
   have el := (encP_len (c := x.1) (t := bl x.2) (by omega)).1
   have ll := (lineA_len x.1 x.2 hx0.1.2).1
   have e1 : (blobsP (x :: r)).length = (encP x.1 (bl x.2)).length + (blobsP r).length := by unfold blobsP; rw [List.flatMap_cons, List.length_append]
   have e2 : (linesB (x :: r)).length = (lineA x.1 x.2).length + (linesB r).length := by unfold linesB; rw [List.flatMap_cons, List.length_append]
   rw [e1, e2, List.length_cons, Nat.mul_succ, Nat.mul_succ]
   omega
 obtain ⟨a, b⟩ := h1 ts fun x hx => ⟨G.k x hx, h x hx⟩
 refine ⟨?_, by rw [G.d]; exact b, by rw [G.i, itsOf_len]⟩
 rw [G.b, List.length_append]
 show 5 + _ ≤ _
 omega
structure L1 (h H : AHeap) (pb mb : Nat) (s1 s2 si w ids : Slc) (q : PSt) (ts : List Tx) : Prop where
 kp : Keeps h H
 hp : h.next ≤ pb
 B : PB H pb mb s1 s2 si 65536 q
 G : GoodP q ts
 sm : ∀ x ∈ ts, x.2.size ≤ 300
 W : Acc encS 9 h.next H w (ts.map (·.2))
 I : Acc encS 9 h.next H ids (ts.map idT)
 ap : ApartS w ids
section
variable {k pb : Nat} {h : AHeap} {texts : Slc} {xs : List ByteArray}
end
end Ge
namespace Ge
open Go Gx
section
variable {k : Nat} {h : AHeap}
end
end Ge
namespace Ge
open Go Gx
def zI : List Value := [.string ⟨#[]⟩, .string ⟨#[]⟩, .int .i64 0, .int .i64 0, .int .i64 0, .int .i64 0]
theorem zI_len (n : Nat) : (zerosL n zI).length = n * 6 := by rw [zerosL_eq]; simp [List.length_flatten, zI]
theorem zI_drop (n m : Nat) : (zerosL n zI).drop (m * 6) = zerosL (n - m) zI := by
 rw [zerosL_eq, zerosL_eq]
 induction m generalizing n with
 | zero => simp
 | succ m ih =>
  cases n with
  | zero => simp
  | succ n =>
   rw [List.replicate_succ, List.flatten_cons, show (m + 1) * 6 = zI.length + m * 6 by rw [show zI.length = 6 from rfl]; omega, List.drop_length_add_append, ih]
   congr 2; omega
def flatTo (F : Nat → List It) (i : Nat) : List It := (List.range i).flatMap F
def allF (F : Nat → List It) : List It := flatTo F 256
theorem flatTo_s (F : Nat → List It) (i : Nat) : flatTo F (i + 1) = flatTo F i ++ F i := by simp [flatTo, List.range_succ]
theorem flatTo_len (F : Nat → List It) : ∀ i, (flatTo F i).length = cntTo F i
 | 0 => rfl
 | i + 1 => by rw [flatTo_s, List.length_append, flatTo_len F i, cntTo_s]
theorem cntTo_mono (F : Nat → List It) {i j : Nat} (h : i ≤ j) : cntTo F i ≤ cntTo F j := by
 induction j with
 | zero =>
  have : i = 0 := by omega
  subst this; exact Nat.le_refl _
 | succ j ih =>
  by_cases e : i = j + 1
  ·subst e; exact Nat.le_refl _
  ·rw [cntTo_s]; have := ih (by omega); omega
section
variable {k base tb : Nat} {h : AHeap} {sl : Nat → Slc} {F : Nat → List It} {s : Slc} {xs : List It}
theorem SlotR.rdS (A : SlotR base h tb s xs) : Gx.rdS 6 s h = some (xs.flatMap itC) := by
 rcases A with ⟨rfl, rfl⟩ | ⟨b, sp, cap, R, A⟩
 ·rfl
 ·rw [A.s]
  simp only [Gx.rdS]
  rw [rdL_ok A.blk (by rw [List.length_append, flat_len]; omega), List.drop_zero, show xs.length * 6 = (xs.flatMap itC).length from (flat_len xs).symm, List.take_left']
  rfl
theorem cut_tail (l ys : List It) (n m : Nat) (hm : m = l.length) : (l.flatMap itC ++ zerosL n zI).drop (0 + m * 6 + (ys.flatMap itC).length) = zerosL (n - ys.length) zI := by
 subst hm
 rw [List.drop_append, List.drop_of_length_le (by rw [flat_len]; omega), List.nil_append, flat_len, flat_len, show 0 + l.length * 6 + ys.length * 6 - l.length * 6 = ys.length * 6 by omega, zI_drop]
theorem grow_spec (D : CallF) (n : Nat) (hn : n ≤ 1000000000) (h : AHeap) : slices_Grow_api_Item_api_Item k D ⟨none, 0, 0⟩ (n : Int) h =
  some (if n = 0 then (⟨none, 0, 0⟩, h) else (⟨some ⟨h.next, 0, some 7⟩, 0, n⟩, h.new (.cells (zerosL n zI) 57 true 0))) := by
 simp only [slices_Grow_api_Item_api_Item]
 refine jn (ifn (by simp) (jn (bnd rfl ?_)))
 have e0 : IntKind.wrap .i64 (0 - ((0 : Nat) : Int)) = 0 := by decide
 have e1 : IntKind.wrap .i64 ((n : Int) - 0) = (n : Int) := by rw [Gx.w64 _ (by omega)]; omega
 dsimp only
 rw [show (((0 : Nat) : Int) : Int) = 0 from rfl] at *
 rw [show IntKind.wrap .i64 ((0 : Int) - 0) = 0 from rfl, e1]
 by_cases c : n = 0
 ·subst c
  exact ifn (by decide) (by rfl)
 ·rw [if_neg c]
  refine ifp (by simp; omega) (bnd rfl (bnd (v := ⟨none, 0, 0⟩) rfl (ifp (by omega) ?_)))
  have ea : appendA 6 64 57 h ⟨none, 0, 0⟩ (zerosL (n : Int).toNat zI) (n : Int).toNat = some (⟨some ⟨h.next, 0, some 7⟩, n, n⟩, h.new (.cells (zerosL n zI) 57 true 0)) := by
   unfold appendA
   rw [Int.toNat_natCast, if_neg (by show ¬ 0 + n ≤ 0; omega), if_pos (by show 2 * (0 + n) * 64 ≤ 281474976710656 ∧ 1 ≤ 64; omega)]
  refine bnd ea (bnd (subL_hi (hi := 0) (by rfl) (Nat.zero_le _)) rfl)
theorem all_spec (hk : 300 ≤ k) (D : CallF) (T : Tab base h tb sl F) (hN : cntTo F 256 ≤ 1000000000) :
  Gx.Wp (lookup_Table_All k D (some ⟨tb, 0, none⟩) h) fun z => AccW 6 itC 57 h.next z.2 z.1 (allF F) ∧ Keeps h z.2 := by
 simp only [lookup_Table_All]
 have es : Gx.subA 256 1 ⟨tb, 0 + 0, none⟩ none none none = some ⟨some ⟨tb, 0, some 0⟩, 256, 256⟩ := rfl
 refine .bnd rfl (.bnd es ?_)
 suffices hs : Gx.Wp (slices_Concat_api_Item_api_Item k D ⟨some ⟨tb, 0, some 0⟩, 256, 256⟩ h) fun z => AccW 6 itC 57 h.next z.2 z.1 (allF F) ∧ Keeps h z.2 from .call hs fun r q => .of q
 simp only [slices_Concat_api_Item_api_Item]
 have hix : ∀ i : Nat, i < 256 → Gx.idxL 1 ⟨some ⟨tb, 0, some 0⟩, 256, 256⟩ (i : Int) = some ⟨tb, i, none⟩ := fun i hi => by
  simp only [idxL]
  rw [if_pos (by omega)]
  simp
 refine Gx.Wp.jn fun j4 h4 => ?_
 unfold slices_Concat_api_Item_api_Item_l1
 obtain ⟨bot, eb⟩ := iterK_of (fun _ _ _ _ _ _ => none) (slices_Concat_api_Item_api_Item_l1b k D j4) (show 256 + 1 ≤ k by omega)
 rw [eb]
 have cm : ∀ i, i ≤ 256 → cntTo F i ≤ 1000000000 := fun i hi => Nat.le_trans (cntTo_mono F hi) hN
 have loop : ∀ (d i : Nat), i + d = 256 → Gx.Wp (iterK bot (d + 1) (slices_Concat_api_Item_api_Item_l1b k D j4) ⟨some ⟨tb, 0, some 0⟩, 256, 256⟩ (cntTo F i : Int) ⟨some ⟨tb, 0, some 0⟩, 256, 256⟩ 256 (i : Int) h) fun z => AccW 6 itC 57 h.next z.2 z.1 (allF F) ∧ Keeps h z.2 := fun d => by
  induction d with
  | succ d ih =>
   intro i hd
   rw [iterK_s]; simp only [slices_Concat_api_Item_api_Item_l1b]
   have S := T.slot i (by omega)
   have hc := cm (i + 1) (by omega)
   rw [cntTo_s] at hc
   refine .ifp (by simp; omega) (Gx.Wp.jn fun j32 h32 => .bnd (hix i (by omega)) (.bnd (sldL_at T.blk (tabC_get _ (by omega))) ?_))
   have ew : IntKind.wrap .i64 ((cntTo F i : Int) + ((sl i).len : Int)) = (cntTo F (i + 1) : Int) := by
    rw [Gx.w64 _ (by rw [S.len]; omega), cntTo_s, S.len]; omega
   dsimp only
   rw [ew]
   refine .ifn (by simp) ?_
   rw [h32]
   dsimp only
   rw [Gx.w1 (by omega)]
   exact ih (i + 1) (by omega)
  | zero =>
   intro i hd
   obtain rfl : i = 256 := by omega
   rw [iterK_s]; simp only [slices_Concat_api_Item_api_Item_l1b]
   refine .ifn (by decide) ?_
   rw [h4]
   refine .bnd (grow_spec D (cntTo F 256) hN h) (Gx.Wp.jn fun j8 h8 => ?_)
   unfold slices_Concat_api_Item_api_Item_l0
   obtain ⟨bot2, eb2⟩ := iterK_of (fun _ _ _ _ _ => none) (slices_Concat_api_Item_api_Item_l0b k D j8) (show 256 + 1 ≤ k by omega)
   rw [eb2]
   by_cases c0 : cntTo F 256 = 0
   ·rw [if_pos c0]
    have hz : ∀ i, i < 256 → F i = [] := fun i hi => by
     have := cntTo_mono F (show i + 1 ≤ 256 by omega)
     rw [cntTo_s] at this
     exact List.length_eq_zero_iff.1 (by omega)
    have fin : ∀ (d i : Nat), i + d = 256 → Gx.Wp (iterK bot2 (d + 1) (slices_Concat_api_Item_api_Item_l0b k D j8) ⟨none, 0, 0⟩ ⟨some ⟨tb, 0, some 0⟩, 256, 256⟩ 256 (i : Int) h) fun z => AccW 6 itC 57 h.next z.2 z.1 (allF F) ∧ Keeps h z.2 := fun d => by
     induction d with
     | zero =>
      intro i hd
      obtain rfl : i = 256 := by omega
      rw [iterK_s]; simp only [slices_Concat_api_Item_api_Item_l0b]
      refine .ifn (by decide) ?_
      rw [h8]
      have : allF F = [] := List.length_eq_zero_iff.1 (by unfold allF; rw [flatTo_len]; exact c0)
      rw [this]
      exact .of ⟨AccW.nil _ _ _ _ _, .refl _ _⟩
     | succ d ih =>
      intro i hd
      rw [iterK_s]; simp only [slices_Concat_api_Item_api_Item_l0b]
      have S := T.slot i (by omega)
      have hl : (sl i).len = 0 := by rw [S.len, hz i (by omega)]; rfl
      refine .ifp (by simp; omega) (.bnd (hix i (by omega)) (.bnd (sldL_at T.blk (tabC_get _ (by omega))) (.bnd S.rdS ?_)))
      have ea : appendA 6 64 57 h ⟨none, 0, 0⟩ ((F i).flatMap itC) (sl i).len = some (⟨none, 0, 0⟩, h) := by
       unfold appendA
       rw [hl, if_pos (Nat.le_refl _)]
      refine .bnd ea ?_
      rw [Gx.w1 (by omega)]
      exact ih (i + 1) (by omega)
    exact fin 256 0 (by omega)
   ·rw [if_neg c0]
    have fin : ∀ (d i : Nat) (H : AHeap), i + d = 256 → Keeps h H → h.next < H.next → H.get h.next = some (.cells ((flatTo F i).flatMap itC ++ zerosL (cntTo F 256 - cntTo F i) zI) 57 true 0) →
      Gx.Wp (iterK bot2 (d + 1) (slices_Concat_api_Item_api_Item_l0b k D j8) ⟨some ⟨h.next, 0, some 7⟩, cntTo F i, cntTo F 256⟩ ⟨some ⟨tb, 0, some 0⟩, 256, 256⟩ 256 (i : Int) H) fun z => AccW 6 itC 57 h.next z.2 z.1 (allF F) ∧ Keeps h z.2 := fun d => by
     induction d with
     | zero =>
      intro i H hd kp hlt hg
      obtain rfl : i = 256 := by omega
      rw [iterK_s]; simp only [slices_Concat_api_Item_api_Item_l0b]
      refine .ifn (by decide) ?_
      rw [h8]
      have hl : (allF F).length = cntTo F 256 := flatTo_len F 256
      rw [Nat.sub_self, show zerosL 0 zI = [] from rfl, List.append_nil] at hg
      refine .of ⟨⟨.inr ⟨h.next, by rw [hl], hg, fun e => c0 (by rw [← hl, e]; rfl)⟩, fun a ha => by cases ha; exact ⟨hlt, Nat.le_refl _⟩⟩, kp⟩
     | succ d ih =>
      intro i H hd kp hlt hg
      rw [iterK_s]; simp only [slices_Concat_api_Item_api_Item_l0b]
      have T' := T.keeps kp
      have S := T'.slot i (by omega)
      have hcm := cntTo_mono F (show i + 1 ≤ 256 by omega)
      rw [cntTo_s] at hcm
      have ef : flatTo F (i + 1) = flatTo F i ++ F i := flatTo_s F i
      have elen : ((flatTo F i).flatMap itC).length = cntTo F i * 6 := by rw [flat_len, flatTo_len]
      refine .ifp (by simp; omega) (.bnd (hix i (by omega)) (.bnd (sldL_at T'.blk (tabC_get _ (by omega))) (.bnd S.rdS ?_)))
      by_cases ce : F i = []
      ·have hl : (sl i).len = 0 := by rw [S.len, ce]; rfl
       have ea : appendA 6 64 57 H ⟨some ⟨h.next, 0, some 7⟩, cntTo F i, cntTo F 256⟩ ((F i).flatMap itC) (sl i).len = some (⟨some ⟨h.next, 0, some 7⟩, cntTo F i, cntTo F 256⟩, H) := by
        unfold appendA
        rw [hl, if_pos (by show cntTo F i + 0 ≤ cntTo F 256; omega)]
        rfl
       refine .bnd ea ?_
       rw [Gx.w1 (by omega)]
       have e2 : cntTo F (i + 1) = cntTo F i := by rw [cntTo_s, ce]; rfl
       have := ih (i + 1) H (by omega) kp hlt (by rw [ef, ce, List.append_nil, e2]; exact hg)
       rw [e2] at this
       exact this
      ·have hne : (F i).flatMap itC ≠ [] := fun e => by
        have := flat_len (F i)
        rw [e] at this
        exact ce (List.length_eq_zero_iff.1 (by simp at this; omega))
       have hlz : (F i).length ≠ 0 := fun e => ce (List.length_eq_zero_iff.1 e)
       have hclen : ((flatTo F i).flatMap itC ++ zerosL (cntTo F 256 - cntTo F i) zI).length = cntTo F 256 * 6 := by
        rw [List.length_append, elen, zI_len]; omega
       have ew := wrL_ok (o := 0 + cntTo F i * 6) (vs := (F i).flatMap itC) hg (by rw [hclen, flat_len, Nat.zero_add, ← Nat.add_mul]; exact Nat.mul_le_mul_right _ hcm) (flat_one _) hne
       have esp : splice ((flatTo F i).flatMap itC ++ zerosL (cntTo F 256 - cntTo F i) zI) (0 + cntTo F i * 6) ((F i).flatMap itC) = (flatTo F (i + 1)).flatMap itC ++ zerosL (cntTo F 256 - cntTo F (i + 1)) zI := by
        unfold splice
        have e1 : ((flatTo F i).flatMap itC ++ zerosL (cntTo F 256 - cntTo F i) zI).take (0 + cntTo F i * 6) = (flatTo F i).flatMap itC := by rw [Nat.zero_add, ← elen, List.take_left']; rfl
        have e2 := cut_tail (flatTo F i) (F i) (cntTo F 256 - cntTo F i) (cntTo F i) (flatTo_len F i).symm
        rw [Nat.sub_sub, ← cntTo_s F i] at e2
        rw [e1, e2, ef, List.flatMap_append]
       rw [esp] at ew
       have ea : appendA 6 64 57 H ⟨some ⟨h.next, 0, some 7⟩, cntTo F i, cntTo F 256⟩ ((F i).flatMap itC) (sl i).len = some (⟨some ⟨h.next, 0, some 7⟩, cntTo F (i + 1), cntTo F 256⟩, H.set h.next (.cells ((flatTo F (i + 1)).flatMap itC ++ zerosL (cntTo F 256 - cntTo F (i + 1)) zI) 57 true 0)) := by
        unfold appendA
        rw [S.len, if_pos (by show cntTo F i + (F i).length ≤ cntTo F 256; exact hcm)]
        simp only
        rw [if_neg hlz, ew, cntTo_s F i]
        rfl
       refine .bnd ea ?_
       rw [Gx.w1 (by omega)]
       exact ih (i + 1) _ (by omega) (kp.set (Nat.le_refl _)) (by simpa using hlt) (by simp)
    have := fin 256 0 (h.new (.cells (zerosL (cntTo F 256) zI) 57 true 0)) (by omega) (Keeps.new h _) (by simp) (by simp [flatTo, cntTo])
    exact this
 exact loop 256 0 (by omega)
end
end Ge
namespace Ge
open Go Gx
theorem lines_ok (pid : ByteArray) (hp : pid.size = 32) (fr : Nat) (hf : fr ≤ 65536) : ∀ (n : Nat) (st : Rd) (at' : Nat) (es : List (ByteArray × Bool × Nat)) {its st' at''}, at' ≤ fr → linesP pid fr n st at' es = some (its, st', at'') → (∀ x ∈ its, okI x) ∧ its.length = n
 | 0, st, at', es, its, st', at'', _, h => by
  simp only [linesP] at h
  cases h
  exact ⟨fun x hx => (List.not_mem_nil hx).elim, rfl⟩
 | n + 1, st, at', es, its, st', at'', hat, h => by
  unfold linesP at h
  split at h
  ·rename_i c
   cases hq : linesP pid fr n (opL st).2 (at' + (opL st).1.2.2.1) (ptM (opL st).1.1 true es.length es) with
   | none => rw [hq] at h; cases h
   | some y =>
    obtain ⟨a, b, d⟩ := y
    rw [hq] at h
    simp only [Option.map_some, Option.some.injEq, Prod.mk.injEq] at h
    obtain ⟨rfl, _, _⟩ := h
    obtain ⟨i1, i2⟩ := lines_ok pid hp fr hf n _ _ _ (by omega) hq
    refine ⟨fun x hx => ?_, by simp [i2]⟩
    rcases List.mem_cons.1 hx with rfl | hx
    ·have hsz : (opL st).1.1.size = 32 := by
      have hs := c.1
      unfold opL at hs ⊢
      simp only [] at hs ⊢
      cases hst : st with
      | none => rw [hst] at hs; simp [opB, opF, opS] at hs
      | some l =>
       rw [hst] at hs
       unfold opB at hs ⊢
       simp only [] at hs ⊢
       by_cases c32 : 32 ≤ l.length
       ·rw [if_pos c32]; show (bA (l.take 32)).size = 32; rw [bA_size, List.length_take]; omega
       ·rw [if_neg c32] at hs; simp [opF, opS] at hs
     have hd : (opL st).1.2.2.2 ≤ 65536 := opS_le 65536 _
     refine ⟨hsz, hp, ?_, ?_, ?_, ?_⟩
     ·show ((opL st).1.2.1 : Int) = 1 ∨ ((opL st).1.2.1 : Int) = 2
      omega
     ·show 0 ≤ (at' : Int) ∧ (at' : Int) ≤ 65536
      omega
     ·show 1 ≤ ((opL st).1.2.2.1 : Int) ∧ ((opL st).1.2.2.1 : Int) ≤ 65536
      omega
     ·show 0 ≤ ((opL st).1.2.2.2 : Int) ∧ ((opL st).1.2.2.2 : Int) ≤ 65536
      omega
    ·exact i1 x hx
  ·cases h
theorem parse_okI {l : List UInt8} {its : List It} (h : parseK l = some its) : (∀ x ∈ its, okI x) ∧ its.length ≤ 4096 := by
 unfold parseK at h
 cases hp : partsP l with
 | none => rw [hp] at h; cases h
 | some x =>
  obtain ⟨fr, dir⟩ := x
  rw [hp] at h
  simp only [] at h
  have hpf : fr ≤ 65536 ∧ 5 ≤ fr := by
   unfold partsP at hp
   split at hp
   ·rename_i c
    split at hp
    ·cases hp
    ·rename_i c2
     cases hp
     omega
   ·cases hp
  cases he : linesP ⟨⟨digest l⟩⟩ fr (opS 4096 (some dir)).1 (opS 4096 (some dir)).2 5 [] with
  | none => rw [he] at h; cases h
  | some y =>
   obtain ⟨its', st, at'⟩ := y
   rw [he] at h
   simp only [] at h
   split at h
   ·cases h
    obtain ⟨a, b⟩ := lines_ok ⟨⟨digest l⟩⟩ rfl fr hpf.1 _ _ _ _ hpf.2 he
    exact ⟨a, by rw [b]; exact opS_le 4096 _⟩
   ·cases h
def emptyT : Nat → List It := fun _ => []
noncomputable def stepR (F : Nat → List It) (p : ByteArray) : Nat → List It := match parseK (bl p) with
 | some its => addL F its
 | none => F
noncomputable def rebF (ps : List ByteArray) : Nat → List It := ps.foldl stepR emptyT
theorem rebF_snoc (ps : List ByteArray) (p : ByteArray) : rebF (ps ++ [p]) = stepR (rebF ps) p := by simp [rebF]
theorem emptyT_rises : RisesT emptyT := fun _ _ => List.Pairwise.nil
theorem stepR_ok {F : Nat → List It} {n : Nat} (h1 : RisesT F) (h2 : MaxT F n) (p : ByteArray) : RisesT (stepR F p) ∧ MaxT (stepR F p) (n + 4096) := by
 unfold stepR
 cases hp : parseK (bl p) with
 | none => exact ⟨h1, fun i hi => by have := h2 i hi; show (F i).length ≤ _; omega⟩
 | some its =>
  have := (parse_okI hp).2
  exact ⟨addL_rises h1, fun i hi => by have := addL_max (xs := its) h2 i hi; show (addL F its i).length ≤ _; omega⟩
theorem rebF_ok : ∀ (ps : List ByteArray), RisesT (rebF ps) ∧ MaxT (rebF ps) (4096 * ps.length) := by
 have gen : ∀ (ps : List ByteArray) (F : Nat → List It) (n : Nat), RisesT F → MaxT F n → RisesT (ps.foldl stepR F) ∧ MaxT (ps.foldl stepR F) (n + 4096 * ps.length) := fun ps => by
  induction ps with
  | nil => intro F n h1 h2; exact ⟨h1, h2⟩
  | cons p r ih =>
   intro F n h1 h2
   obtain ⟨a, b⟩ := stepR_ok h1 h2 p
   obtain ⟨c, d⟩ := ih _ _ a b
   refine ⟨c, fun i hi => ?_⟩
   have := d i hi
   rw [List.length_cons]
   show ((r.foldl stepR (stepR F p)) i).length ≤ _
   omega
 intro ps
 obtain ⟨a, b⟩ := gen ps emptyT 0 emptyT_rises (fun i _ => Nat.zero_le _)
 exact ⟨a, fun i hi => by have := b i hi; show ((ps.foldl stepR emptyT) i).length ≤ _; omega⟩
noncomputable def badN : Nat → List ByteArray → List Int
 | _, [] => []
 | i, p :: ps => match parseK (bl p) with
  | some _ => badN (i + 1) ps
  | none => (i : Int) :: badN (i + 1) ps
theorem badN_snoc : ∀ (ps : List ByteArray) (i : Nat) (p : ByteArray), badN i (ps ++ [p]) = badN i ps ++ (match parseK (bl p) with | some _ => [] | none => [((i + ps.length : Nat) : Int)])
 | [], i, p => by
  simp only [List.nil_append, badN, List.length_nil, Nat.add_zero]
 | q :: r, i, p => by
  simp only [List.cons_append, badN]
  rw [badN_snoc r (i + 1) p, List.length_cons, show i + 1 + r.length = i + (r.length + 1) by omega]
  cases parseK (bl q) <;> rfl
section
variable {k base tb : Nat} {H H' : AHeap} {sl : Nat → Slc} {F : Nat → List It}
theorem Tab.other (T : Tab base H tb sl F) {y : Nat} {c : List Value} {e : TypeId} {r : Bool} {fz : Nat} (g : H.get y = some (.cells c e r fz)) (h1 : e ≠ 125) (h2 : e ≠ 57) : ¬ TOwn tb sl y := by
 rintro (h | ⟨i, hi, a, ha, h⟩)
 ·rw [h, T.blk] at g; cases g; exact h1 rfl
 ·rcases T.slot i hi with ⟨e1, _⟩ | ⟨b, sp, cap, R, A⟩
  ·rw [e1] at ha; cases ha
  ·have e1 := A.s
   rw [e1] at ha
   cases ha
   have gg := A.blk
   rw [← h] at g
   rw [gg] at g
   cases g
   exact h2 rfl
end
end Ge
namespace Ge
open Go Gx
theorem accI_cells {base : Nat} {H : AHeap} {s : Slc} {l : List Int} {a : Addr} (A : Acc encI 3 base H s l) (ha : s.a = some a) : ∃ c, H.get a.block = some (.cells c 3 true 0) := by
 rcases A.st with ⟨h, _⟩ | ⟨b, g⟩
 ·rw [h] at ha; cases ha
 ·rw [g.s] at ha; cases ha; exact ⟨_, g.blk⟩
section
variable {k : Nat} {h : AHeap} {packs : Slc} {ps : List ByteArray}
theorem reb_loop (kg : KG 0 h) (hk : 1200000 ≤ k) (R : Row encS h packs ps) (hl : ps.length ≤ 100) {j5 : (Option Addr) → Slc → AHeap → Option (((Option Addr) × Slc) × AHeap)} (hj : j5 = fun (t2 : Option Addr) (bad3 : Slc) (h4 : AHeap) => some ((t2, bad3), h4)) (bot) :
  ∀ (d i : Nat) (bad : Slc) (H : AHeap) (sl : Nat → Slc), i + d = ps.length → Keeps h H → Tab h.next H h.next sl (rebF (ps.take i)) → Acc encI 3 h.next H bad (badN 0 (ps.take i)) →
  Gx.Wp (iterK bot (d + 1) (index_Rebuild_l0b k (DD k) j5) (some ⟨h.next, 0, none⟩) bad packs (packs.len : Int) (i : Int) H) fun z => z.1.1 = some ⟨h.next, 0, none⟩ ∧ (∃ sl, Tab h.next z.2 h.next sl (rebF ps)) ∧ Acc encI 3 h.next z.2 z.1.2 (badN 0 ps) ∧ Keeps h z.2 := by
 have pl : packs.len = ps.length := R.1
 intro d
 induction d with
 | zero =>
  intro i bad H sl hd kp T A
  rw [iterK_s]; simp only [index_Rebuild_l0b]
  rw [List.take_of_length_le (by omega)] at T A
  refine .ifn (by rw [pl]; simp; omega) ?_
  rw [hj]
  exact .of ⟨rfl, ⟨sl, T⟩, A, kp⟩
 | succ d ih =>
  intro i bad H sl hd kp T A
  rw [iterK_s]; simp only [index_Rebuild_l0b]
  obtain ⟨p, hp⟩ := isome (l := ps) (i := i) (by omega)
  obtain ⟨q, a1, a2⟩ := (R.keeps kp).ldS hp
  have et : ps.take (i + 1) = ps.take i ++ [p] := by rw [List.take_add_one, hp]; rfl
  refine .ifp (by rw [pl]; simp; omega) (Wp.jn fun j19 h19 => .bnd a1 (.bnd a2 ?_))
  refine .call (parse_spec14 (DD k) (kg.chg kp fun f => f) hk p) fun r22 ⟨k22, q22⟩ => ?_
  have T22 := T.keeps k22
  have A22 := A.keeps k22
  have kz := kp.trans k22
  have go : ∀ bad' H' sl', Keeps h H' → Tab h.next H' h.next sl' (rebF (ps.take (i + 1))) → Acc encI 3 h.next H' bad' (badN 0 (ps.take (i + 1))) → Gx.Wp (j19 (some ⟨h.next, 0, none⟩) bad' packs (packs.len : Int) (i : Int) H') fun z => z.1.1 = some ⟨h.next, 0, none⟩ ∧ (∃ sl, Tab h.next z.2 h.next sl (rebF ps)) ∧ Acc encI 3 h.next z.2 z.1.2 (badN 0 ps) ∧ Keeps h z.2 := fun bad' H' sl' kk TT AA => by
   rw [h19]
   dsimp only
   rw [Gx.w1 (by omega)]
   exact ih (i + 1) bad' H' sl' (by omega) kk TT AA
  have hlt : (ps.take i).length = i := by rw [List.length_take]; omega
  have hbl : ∀ (n : Nat) (l : List ByteArray), (badN n l).length ≤ l.length := fun n l => by
   induction l generalizing n with
   | nil => simp [badN]
   | cons x r ih2 =>
    simp only [badN]
    cases parseK (bl x) with
    | none => simp only [List.length_cons]; have := ih2 (n + 1); omega
    | some _ => simp only [List.length_cons]; have := ih2 (n + 1); omega
  cases hk0 : parseK (bl p) with
  | none =>
   rw [hk0] at q22
   simp only [] at q22
   rw [q22]
   refine .ifp (by simp) (Wp.newE fun h23 e23 k23 n23 g23 => ?_)
   have hb0 := hbl 0 (ps.take i)
   obtain ⟨s', h24, b1, b2, A', c', d'⟩ := Acc.pushK A22 (fun _ => rfl) (i : Int) (bytes := 8) e23 (by omega) (by decide) kz.nx
   refine .bnd b1 (.bnd b2 (go s' h24 sl ?_ ?_ ?_))
   ·exact kz.keepsS c' fun y ⟨a, ha, e⟩ => by rw [e]; exact (A22.lt a ha).2
   ·have : rebF (ps.take (i + 1)) = rebF (ps.take i) := by rw [et, rebF_snoc]; unfold stepR; rw [hk0]
    rw [this]
    exact T22.chg c' fun y hy ⟨a, ha, e⟩ => by
     obtain ⟨c, g⟩ := accI_cells A22 ha
     rw [← e] at g
     exact T22.other g (by decide) (by decide) hy
   ·have : badN 0 (ps.take (i + 1)) = badN 0 (ps.take i) ++ [(i : Int)] := by rw [et, badN_snoc, hk0, hlt, Nat.zero_add]
    rw [this]; exact A'
  | some its =>
   rw [hk0] at q22
   obtain ⟨s, q22, As⟩ := q22
   rw [q22]
   obtain ⟨ok1, ok2⟩ := parse_okI hk0
   obtain ⟨rf1, rf2⟩ := rebF_ok (ps.take i)
   rw [hlt] at rf2
   have Hn := T.lt
   refine .ifn (by simp) (.call (add_spec (N := 4096 * i) (by omega) (As.row itC_len) (by omega) (by omega) (fun a ha w => by have := (As.lt a ha).2; have := (T.own w).2; omega) kz.nx T22 rf1 rf2 ok1) fun r26 ⟨_, sl', T', c', _⟩ => go bad r26.2 sl' ?_ ?_ ?_)
   ·exact kz.keepsS c' fun y hy => (T22.own hy).1
   ·have : rebF (ps.take (i + 1)) = addL (rebF (ps.take i)) its := by rw [et, rebF_snoc]; unfold stepR; rw [hk0]
    rw [this]; exact T'
   ·have : badN 0 (ps.take (i + 1)) = badN 0 (ps.take i) := by rw [et, badN_snoc, hk0, List.append_nil]
    rw [this]
    exact A22.chg c' fun a ha w => by
     obtain ⟨c, g⟩ := accI_cells A22 ha
     exact T22.other g (by decide) (by decide) w
theorem rebuild_spec (kg : KG 0 h) (hk : 1200000 ≤ k) (R : Row encS h packs ps) (hl : ps.length ≤ 100) :
  Gx.Wp (index_Rebuild k (DD k) packs h) fun z => z.1.1 = some ⟨h.next, 0, none⟩ ∧ (∃ sl, Tab h.next z.2 h.next sl (rebF ps)) ∧ Acc encI 3 h.next z.2 z.1.2 (badN 0 ps) ∧ Keeps h z.2 := by
 simp only [index_Rebuild]
 obtain ⟨h1, e1, k1, T1⟩ := new_spec k (DD k) h
 refine .bnd e1 (Wp.jn fun j5 h5 => ?_)
 unfold index_Rebuild_l0
 obtain ⟨bot, eb⟩ := iterK_of (fun _ _ _ _ _ _ => none) (index_Rebuild_l0b k (DD k) j5) (show ps.length + 1 ≤ k by omega)
 rw [eb, show (0 : Int) = ((0 : Nat) : Int) from rfl]
 have kg' := kg
 have := reb_loop (k := k) kg hk R hl h5 bot ps.length 0 ⟨none, 0, 0⟩ h1 (fun _ => ⟨none, 0, 0⟩) (by omega) k1 T1 (Acc.nil _ _ _ _)
 exact this
end
theorem sameI_true {k : Nat} {h : AHeap} (D : CallF) {a b : Slc} {its : List It} (Ra : RowW 6 itC h a its) (Rb : RowW 6 itC h b its) (hl : its.length ≤ 1000000000) (hk : its.length + 2 ≤ k) : law16_sameItems k D a b h = some (true, h) := by
 simp only [law16_sameItems]
 have la := Ra.len; have lb := Rb.len
 refine ifn (by rw [la, lb]; simp) (jn ?_)
 obtain ⟨j2, hj⟩ : ∃ j2, j2 = (fun (h1 : AHeap) => some (true, h1)) := ⟨_, rfl⟩
 rw [← hj]
 unfold law16_sameItems_l0
 obtain ⟨bot, eb⟩ := iterK_of (fun _ _ _ _ => none) (law16_sameItems_l0b k D j2) (show its.length + 1 ≤ k by omega)
 rw [eb]
 have loop : ∀ d i : Nat, i + d = its.length → iterK bot (d + 1) (law16_sameItems_l0b k D j2) a b (i : Int) h = some (true, h) := fun d => by
  induction d with
  | zero =>
   intro i hd
   rw [iterK_s]; simp only [law16_sameItems_l0b]
   refine ifn (by rw [la]; simp; omega) ?_
   rw [hj]
  | succ d ih =>
   intro i hd
   rw [iterK_s]; simp only [law16_sameItems_l0b]
   obtain ⟨x, hx⟩ := isome (l := its) (i := i) (by omega)
   obtain ⟨pa, a1, a2, _⟩ := Ra.ld itC_len (by decide) hx
   obtain ⟨pb, b1, b2, _⟩ := Rb.ld itC_len (by decide) hx
   refine ifp (by rw [la]; simp; omega) (bnd a1 (bnd a2 (bnd (decI6 x) (bnd b1 (bnd b2 (bnd (decI6 x) ?_))))))
   refine ifn (by simp [ba_beq]) ?_
   rw [Gx.w1 (by omega)]
   exact ih (i + 1) (by omega)
 exact loop its.length 0 (by omega)
theorem ints_true {k : Nat} {h : AHeap} (D : CallF) {a b : Slc} {xs : List Int} (Ra : Row encI h a xs) (Rb : Row encI h b xs) (hl : xs.length ≤ 1000000000) (hk : xs.length + 2 ≤ k) : book_SameInts k D a b h = some (true, h) := by
 simp only [book_SameInts]
 have la : a.len = xs.length := Ra.1
 have lb : b.len = xs.length := Rb.1
 refine ifn (by rw [la, lb]; simp) (jn ?_)
 obtain ⟨j2, hj⟩ : ∃ j2, j2 = (fun (h1 : AHeap) => some (true, h1)) := ⟨_, rfl⟩
 rw [← hj]
 unfold book_SameInts_l0
 obtain ⟨bot, eb⟩ := iterK_of (fun _ _ _ _ => none) (book_SameInts_l0b k D j2) (show xs.length + 1 ≤ k by omega)
 rw [eb]
 have loop : ∀ d i : Nat, i + d = xs.length → iterK bot (d + 1) (book_SameInts_l0b k D j2) a b (i : Int) h = some (true, h) := fun d => by
  induction d with
  | zero =>
   intro i hd
   rw [iterK_s]; simp only [book_SameInts_l0b]
   refine ifn (by rw [la]; simp; omega) ?_
   rw [hj]
  | succ d ih =>
   intro i hd
   rw [iterK_s]; simp only [book_SameInts_l0b]
   obtain ⟨x, hx⟩ := isome (l := xs) (i := i) (by omega)
   obtain ⟨pa, a1, a2⟩ := Ra.ldI hx
   obtain ⟨pb, b1, b2⟩ := Rb.ldI hx
   refine ifp (by rw [la]; simp; omega) (bnd a1 (bnd a2 (bnd b1 (bnd b2 (ifn (by simp) ?_)))))
   rw [Gx.w1 (by omega)]
   exact ih (i + 1) (by omega)
 exact loop xs.length 0 (by omega)
structure NL (h : AHeap) (t : Slc) (tss : List (List ByteArray)) : Prop where
 len : t.len = tss.length
 at' : ∀ (i : Nat) (l : List ByteArray), tss[i]? = some l → ∃ q s, idxL 1 t (i : Int) = some q ∧ q.block < h.next ∧ ldL q h = some s ∧ Row encS h s l
theorem NL.keeps {h h' : AHeap} {t : Slc} {tss : List (List ByteArray)} (N : NL h t tss) (k : Keeps h h') : NL h' t tss :=
 ⟨N.len, fun i l hl => by
  obtain ⟨q, s, a, b, c, d⟩ := N.at' i l hl
  refine ⟨q, s, a, Nat.lt_of_lt_of_le b k.nx, ?_, d.keeps k⟩
  have := k.oth q.block b fun f => f
  simp only [ldL, AHeap.rd1, this] at c ⊢
  exact c⟩
section
variable {k pb : Nat} {h h0 : AHeap} {texts : Slc} {tss : List (List ByteArray)}
theorem radd_loop (D : CallF) (kg : KG 0 h) (kp0 : Keeps h h0) (hk : 1200000 ≤ k) (N : NL h texts tss) {i : Nat} {l : List ByteArray} (hi : tss[i]? = some l) {j64 : Slc → ByteArray → Slc → (Option Addr) → Int → (Option Addr) → AHeap → Option (Bool × AHeap)} {Q : Bool × AHeap → Prop} (junk : ByteArray) (packs : Slc) (t : Option Addr) (hpb : h0.next ≤ pb)
  (J : ∀ H mb s1 s2 si q ts, Keeps h0 H → PB H pb mb s1 s2 si 16384 q → GoodP q ts → (∀ x ∈ ts, x.2.size ≤ 100) → ts.length ≤ 10 → Gx.Wp (j64 texts junk packs t (i : Int) (some ⟨pb, 0, none⟩) H) Q) (bot) :
  ∀ (d kv : Nat) (H : AHeap) (mb : Nat) (s1 s2 si : Slc) (q : PSt) (ts : List Tx), kv + d = min 10 l.length → ts.length ≤ kv → Keeps h0 H → PB H pb mb s1 s2 si 16384 q → GoodP q ts → (∀ x ∈ ts, x.2.size ≤ 100) →
  Gx.Wp (iterK bot (d + 1) (law16_IndexRebuilds_l1b k D j64) texts junk packs t (i : Int) (some ⟨pb, 0, none⟩) (kv : Int) H) Q := by
 intro d
 induction d with
 | zero =>
  intro kv H mb s1 s2 si q ts hd ht kp B G sm
  rw [iterK_s]; simp only [law16_IndexRebuilds_l1b]
  refine Wp.jn fun j88 h88 => ?_
  obtain ⟨p, s, a1, _, a3, a4⟩ := (N.keeps (kp0.trans kp)).at' i l hi
  have sl : s.len = l.length := a4.1
  refine .bnd a1 (.bnd a3 ?_)
  rw [sl]
  by_cases c : kv < l.length
  ·refine .ifp (decide_eq_true (by omega)) ?_
   rw [h88, decide_eq_false (by omega)]
   exact .ifn (by decide) (J H mb s1 s2 si q ts kp B G sm (by omega))
  ·refine .ifn (fun w => by have := of_decide_eq_true w; omega) ?_
   rw [h88]
   exact .ifn (by decide) (J H mb s1 s2 si q ts kp B G sm (by omega))
 | succ d ih =>
  intro kv H mb s1 s2 si q ts hd ht kp B G sm
  rw [iterK_s]; simp only [law16_IndexRebuilds_l1b]
  refine Wp.jn fun j88 h88 => ?_
  obtain ⟨p, s, a1, _, a3, a4⟩ := (N.keeps (kp0.trans kp)).at' i l hi
  have sl : s.len = l.length := a4.1
  obtain ⟨tx, hx⟩ := isome (l := l) (i := kv) (by omega)
  obtain ⟨p2, b1, b2⟩ := a4.ldS hx
  refine .bnd a1 (.bnd a3 ?_)
  rw [sl]
  refine .ifp (decide_eq_true (by omega)) ?_
  rw [h88, decide_eq_true (show (kv : Int) < 10 by omega)]
  refine .ifp rfl (Wp.jn fun j97 h97 => .bnd a1 (.bnd a3 (.bnd b1 (.bnd b2 ?_))))
  have go : ∀ H mb s1 s2 si q ts, ts.length ≤ kv + 1 → Keeps h0 H → PB H pb mb s1 s2 si 16384 q → GoodP q ts → (∀ x ∈ ts, x.2.size ≤ 100) → Gx.Wp (j97 texts junk packs t (i : Int) (some ⟨pb, 0, none⟩) (kv : Int) H) Q := fun H mb s1 s2 si q ts ht kp B G sm => by
   rw [h97]
   dsimp only
   rw [Gx.w1 (by omega)]
   exact ih (kv + 1) H mb s1 s2 si q ts (by omega) ht kp B G sm
  by_cases c1 : (tx.size : Int) ≤ 100
  rotate_left
  ·exact .ifn (fun w => c1 (of_decide_eq_true w)) (go H mb s1 s2 si q ts (by omega) kp B G sm)
  refine .ifp (decide_eq_true c1) (.bnd a1 (.bnd a3 (.bnd b1 (.bnd b2 ?_))))
  obtain ⟨z1, z2, z3⟩ := G.sizes (m := 100) (by omega) sm
  refine .call (add_spec14 B D (kg.chg (kp0.trans kp) fun f => f) hk (c := 1) (.inl rfl) (t := tx) (by omega) (by omega) (by omega) (by omega)) fun r106 ⟨q106, s1', s2', si', B', c'⟩ => ?_
  have kz : Keeps h0 r106.2 := kp.keepsS c' fun y hy => Nat.le_trans hpb (B.ge hy).1
  cases hl : lkM (idB 1 (bl tx)) q.2.2.2 with
  | some v =>
   have ev : addV 16384 q 1 tx = ((⟨#[]⟩, 6), q) := by unfold addV; rw [hl]
   rw [ev] at B'
   exact go r106.2 mb s1' s2' si' q ts (by omega) kz B' G sm
  | none =>
   have bt : (bl tx).length = tx.size := bl_length tx
   have el := (encP_len (c := 1) (t := bl tx) (by omega)).1
   have ll := (lineA_len 1 tx (by omega)).1
   have lb : (leb (q.2.2.1.length + 1)).length ≤ 3 := leb_len 2 _ (by omega)
   have hT : tooP 16384 q 1 tx = false := by
    unfold tooP longA longP
    refine decide_eq_false ?_
    omega
   have ev : addV 16384 q 1 tx = ((idB 1 (bl tx), 0), addQ q 1 tx) := by unfold addV; rw [hl]; simp only []; rw [hT, if_neg (by decide)]
   rw [ev] at B'
   refine go r106.2 mb s1' s2' si' _ (ts ++ [(1, tx)]) (by simp; omega) kz B' (G.add ⟨.inl rfl, by show tx.size ≤ 60000; omega⟩ hl) fun x hx => ?_
   rcases List.mem_append.1 hx with hx | hx
   ·exact sm x hx
   ·rw [List.mem_singleton.1 hx]; show tx.size ≤ 100; omega
end
end Ge
namespace Ge
open Go Gx
theorem badN_ok : ∀ (ps : List ByteArray) (i : Nat), (∀ p ∈ ps, ∃ its, parseK (bl p) = some its) → badN i ps = []
 | [], _, _ => rfl
 | p :: r, i, hp => by
  obtain ⟨its, e⟩ := hp p (by simp)
  simp only [badN, e]
  exact badN_ok r (i + 1) fun x hx => hp x (by simp [hx])
theorem junk_none {l : List UInt8} : parseK (l ++ [120]) = none := by
 have : partsP (l ++ [120]) = none := by
  unfold partsP
  refine if_neg fun ⟨_, h14, _, h⟩ => ?_
  have e : l ++ [120] = (l ++ [120]).take ((l ++ [120]).length - 4) ++ (l ++ [120]).drop ((l ++ [120]).length - 4) := (List.take_append_drop _ _).symm
  rw [h] at e
  have := congrArg List.getLast? e
  simp [endB] at this
 unfold parseK
 rw [this]
theorem NL.of_rep {h : AHeap} {s : Slc} {l : List (List ByteArray)} (r : Rep h (.list (.list .str)) l [.slice s.a s.len s.cap]) : NL h s l := by
 obtain ⟨sl, e, hl, hb, hx⟩ := r
 simp at e
 obtain ⟨e1, e2, e3⟩ := e
 refine ⟨e2.trans hl, fun i x hi => ?_⟩
 have hlt : i < l.length := (List.getElem?_eq_some_iff.1 hi).1
 obtain ⟨a, c, ee, r, fz, cx, h1, h2, h3, h4, h5⟩ := hx i x hi
 have h5' := h5
 obtain ⟨s2, hc, _⟩ := h5'
 have hv := h4 0 (.slice s2.a s2.len s2.cap) (by rw [hc]; rfl)
 rw [show (DT.list DT.str).w = 1 from rfl, Nat.mul_one, Nat.add_zero] at hv
 rw [hc] at h5
 have ea : s.a = some a := e1.trans h1
 refine ⟨⟨a.block, a.off + i, none⟩, s2, ?_, hb a h1, ?_, h5.rowS⟩
 ·simp only [idxL, ea]
  rw [if_pos (by omega)]
  simp
 ·simp only [ldL, AHeap.rd1, h2]
  rw [Option.bind_eq_some_iff]
  exact ⟨_, hv, rfl⟩
section
variable {k : Nat} {h : AHeap} {texts : Slc} {tss : List (List ByteArray)}
theorem outer_loop (kg : KG 0 h) (hk : 5000000 ≤ k) (N : NL h texts tss) (junk : ByteArray) {j12 : ByteArray → Slc → (Option Addr) → AHeap → Option (Bool × AHeap)} {Q : Bool × AHeap → Prop}
  (J : ∀ H packs sl ps, Keeps h H → Tab h.next H h.next sl (rebF ps) → Acc encS 9 h.next H packs ps → (∀ p ∈ ps, ∃ its, parseK (bl p) = some its) → ps.length ≤ 4 → Gx.Wp (j12 junk packs (some ⟨h.next, 0, none⟩) H) Q) (bot) :
  ∀ (d i : Nat) (H : AHeap) (packs : Slc) (sl : Nat → Slc) (ps : List ByteArray), i + d = min 4 tss.length → ps.length ≤ i → Keeps h H → Tab h.next H h.next sl (rebF ps) → Acc encS 9 h.next H packs ps → (∀ p ∈ ps, ∃ its, parseK (bl p) = some its) →
  Gx.Wp (iterK bot (d + 1) (law16_IndexRebuilds_l0b k (DD k) j12) texts junk packs (some ⟨h.next, 0, none⟩) (i : Int) H) Q := by
 have tl := N.len
 intro d
 induction d with
 | zero =>
  intro i H packs sl ps hd hp kp T A hall
  rw [iterK_s]; simp only [law16_IndexRebuilds_l0b]
  refine Wp.jn fun j39 h39 => ?_
  have fin := J H packs sl ps kp T A hall (by omega)
  by_cases c : i < tss.length
  ·refine .ifp (decide_eq_true (by omega)) ?_
   rw [h39, decide_eq_false (by omega)]
   exact .ifn (by decide) fin
  ·refine .ifn (fun w => by have := of_decide_eq_true w; omega) ?_
   rw [h39]
   exact .ifn (by decide) fin
 | succ d ih =>
  intro i H packs sl ps hd hp kp T A hall
  rw [iterK_s]; simp only [law16_IndexRebuilds_l0b]
  refine Wp.jn fun j39 h39 => ?_
  obtain ⟨l, hl⟩ := isome (l := tss) (i := i) (by omega)
  refine .ifp (decide_eq_true (by omega)) ?_
  rw [h39, decide_eq_true (show (i : Int) < 4 by omega)]
  refine .ifp rfl (Wp.jn fun j46 h46 => .call (new_spec14 (DD k) (lim := 16384)) fun r47 ⟨k47, q47⟩ => Wp.jn fun j56 h56 => ?_)
  have go : ∀ packs' H' sl' ps', ps'.length ≤ i + 1 → Keeps h H' → Tab h.next H' h.next sl' (rebF ps') → Acc encS 9 h.next H' packs' ps' → (∀ p ∈ ps', ∃ its, parseK (bl p) = some its) → Gx.Wp (j46 texts junk packs' (some ⟨h.next, 0, none⟩) (i : Int) H') Q := fun packs' H' sl' ps' h1 h2 h3 h4 h5 => by
   rw [h46]
   dsimp only
   rw [Gx.w1 (by omega)]
   exact ih (i + 1) H' packs' sl' ps' (by omega) h1 h2 h3 h4 h5
  rw [if_pos (by omega)] at q47
  obtain ⟨q47, mb, s1, B⟩ := q47
  rw [q47]
  refine .ifn (by simp) ?_
  rw [h56]
  refine .ifn (by simp) (Wp.jn fun j64 h64 => ?_)
  unfold law16_IndexRebuilds_l1
  obtain ⟨bot2, eb⟩ := iterK_of (fun _ _ _ _ _ _ _ _ => none) (law16_IndexRebuilds_l1b k (DD k) j64) (show min 10 l.length + 1 ≤ k by omega)
  rw [eb]
  refine radd_loop (pb := H.next) (DD k) kg kp (by omega) N hl junk packs (some ⟨h.next, 0, none⟩) (Nat.le_refl _) ?_ bot2 (min 10 l.length) 0 r47.2 mb s1 _ _ _ [] (by omega) (by simp) k47 B GoodP.nil (fun x hx => (List.not_mem_nil hx).elim)
  intro H' mb s1 s2 si q ts kp1 B G sm ht
  rw [h64]
  have kH := kp.trans kp1
  obtain ⟨z1, z2, z3⟩ := G.sizes (m := 100) (by omega) sm
  have hpos : 0 < H.next := by have := kg.lt; have := kp.nx; omega
  refine .call (finish_spec B (DD k) (kg.chg kH fun f => f) hpos (by omega) (by omega) (by omega) (by omega)) fun r65 q65 => ?_
  by_cases c0 : q.2.2.1 = []
  ·rw [if_pos c0] at q65
   obtain ⟨q65, e65⟩ := q65
   rw [q65, e65]
   exact .ifp (by rw [ba_beq]; simp) (go packs H' sl ps (by omega) kH (T.keeps kp1) (A.keeps kp1) hall)
  rw [if_neg c0] at q65
  obtain ⟨q65, As, _, c65⟩ := q65
  have hts : ts ≠ [] := fun e => c0 (List.length_eq_zero_iff.1 (by rw [z3, e]; rfl))
  have fl : (finB q).length ≤ 65536 := by
   have lb : (leb q.2.2.1.length).length ≤ 3 := leb_len 2 _ (by omega)
   unfold finB dirB
   simp only [List.length_append, Ge.B.fixL_length]
   have : endB.length = 4 := rfl
   omega
  have hpk := parse_fin G (by omega) fl hts
  rw [q65]
  refine .ifn (fun w => ?_) ?_
  ·rw [ba_beq] at w
   have w := of_decide_eq_true w
   have : (finB q).length = 0 := congrArg (fun z : ByteArray => z.data.toList.length) w
   unfold finB at this
   simp only [List.length_append] at this
   have : endB.length = 4 := rfl
   omega
  have kz65 : Keeps H r65.2 := kp1.keepsS c65 fun y hy => (B.ge hy).1
  have T65 := T.keeps kz65
  have A65 := A.keeps kz65
  have kh65 := kp.trans kz65
  refine Wp.newE fun h66 e66 k66 n66 g66 => ?_
  obtain ⟨s', h67, b1, b2, A', c', d'⟩ := Acc.pushK A65 (fun _ => rfl) (⟨⟨finB q⟩⟩ : ByteArray) (bytes := 16) e66 (by omega) (by decide) kh65.nx
  refine .bnd b1 (.bnd b2 ?_)
  have T67 : Tab h.next h67 h.next sl (rebF ps) := T65.chg c' fun y hy ⟨a, ha, e⟩ => by
   obtain ⟨c, g⟩ := accS_cells A65 ha
   rw [← e] at g
   exact T65.other g (by decide) (by decide) hy
  have As67 : AccW 6 itC 57 (H.next + 1) h67 si (finI q) := As.chg c' fun a ha ⟨b, hb, e⟩ => by
   have := (As.lt a ha).2
   have := (A.lt b hb).1
   omega
  have kz67 : Keeps h h67 := kh65.keepsS c' fun y ⟨a, ha, e⟩ => by rw [e]; exact (A65.lt a ha).2
  obtain ⟨ok1, ok2⟩ := parse_okI hpk
  obtain ⟨rf1, rf2⟩ := rebF_ok ps
  refine .call (add_spec (N := 4096 * ps.length) (by omega) (As67.row itC_len) (by omega) (by omega) (fun a ha w => by have := (As67.lt a ha).2; have := (T.own w).2; omega) kz67.nx T67 rf1 rf2 ok1) fun r69 ⟨q69, sl', T', c69, _⟩ => ?_
  rw [q69]
  refine .ifn (by simp) (go s' r69.2 sl' (ps ++ [(⟨⟨finB q⟩⟩ : ByteArray)]) (by simp; omega) ?_ ?_ ?_ ?_)
  ·exact kz67.keepsS c69 fun y hy => (T67.own hy).1
  ·have : rebF (ps ++ [(⟨⟨finB q⟩⟩ : ByteArray)]) = addL (rebF ps) (finI q) := by
    rw [rebF_snoc]
    unfold stepR
    rw [show bl (⟨⟨finB q⟩⟩ : ByteArray) = finB q from rfl, hpk]
   rw [this]; exact T'
  ·exact A'.chg c69 fun a ha w => by
    obtain ⟨c, g⟩ := accS_cells A' ha
    exact T67.other g (by decide) (by decide) w
  ·intro p hp
   rcases List.mem_append.1 hp with hp | hp
   ·exact hall p hp
   ·rw [List.mem_singleton.1 hp]; exact ⟨_, hpk⟩
theorem rebuilds_true (kg : KG 0 h) (hk : 5000000 ≤ k) (N : NL h texts tss) (junk : ByteArray) : Gx.Wp (law16_IndexRebuilds k (DD k) texts junk h) fun z => z.1 = true := by
 simp only [law16_IndexRebuilds]
 refine Wp.jn fun j5 h5 => .call (works16 (by omega) h) fun r109 ⟨q109, k109⟩ => ?_
 rw [q109]
 refine .ifn (by simp) ?_
 rw [h5]
 by_cases hj : (junk.size : Int) > 200
 ·rw [decide_eq_true hj]
  refine .ifp rfl (.call (works16 (by omega) _) fun r6 ⟨q6, _⟩ => .of q6)
 rw [decide_eq_false hj]
 refine .ifn (by decide) ?_
 obtain ⟨h7, e7, k7, T7⟩ := new_spec k (DD k) r109.2
 refine .bnd e7 (.ifn (by simp) (Wp.jn fun j12 h12 => ?_))
 have kg1 := kg.chg k109 fun f => f
 unfold law16_IndexRebuilds_l0
 obtain ⟨bot, eb⟩ := iterK_of (fun _ _ _ _ _ _ => none) (law16_IndexRebuilds_l0b k (DD k) j12) (show min 4 tss.length + 1 ≤ k by omega)
 rw [eb]
 refine outer_loop kg1 hk (N.keeps k109) junk ?_ bot (min 4 tss.length) 0 h7 ⟨none, 0, 0⟩ (fun _ => ⟨none, 0, 0⟩) [] (by omega) (Nat.le_refl _) k7 T7 (Acc.nil _ _ _ _) (fun p hp => (List.not_mem_nil hp).elim)
 intro H packs sl ps kp T A hall hl
 rw [h12]
 obtain ⟨s13, e13⟩ : ∃ s13, s13 = (((⟨#[71, 82, 84, 80]⟩ : ByteArray) ++ junk) ++ (⟨#[120]⟩ : ByteArray)) := ⟨_, rfl⟩
 dsimp only
 rw [← e13]
 have z1 : (⟨#[71, 82, 84, 80]⟩ : ByteArray).size + junk.size ≤ 9223372036854775807 := by show 4 + junk.size ≤ _; omega
 have z2 : ((⟨#[71, 82, 84, 80]⟩ : ByteArray) ++ junk).size + (⟨#[120]⟩ : ByteArray).size ≤ 9223372036854775807 := by
  rw [ByteArray.size_append]; show 4 + junk.size + 1 ≤ _; omega
 have pj : parseK (bl s13) = none := by
  rw [e13, show bl ((((⟨#[71, 82, 84, 80]⟩ : ByteArray) ++ junk) ++ (⟨#[120]⟩ : ByteArray))) = bl ((⟨#[71, 82, 84, 80]⟩ : ByteArray) ++ junk) ++ [120] from by simp [bl]]
  exact junk_none
 refine .ifp z1 (.ifp z2 (Wp.newE fun h14 e14 k14 n14 g14 => ?_))
 obtain ⟨s', h15, b1, b2, A', c', d'⟩ := Acc.pushK A (fun _ => rfl) s13 (bytes := 16) e14 (by omega) (by decide) kp.nx
 refine .bnd b1 (.bnd b2 ?_)
 have T15 : Tab r109.2.next h15 r109.2.next sl (rebF ps) := T.chg c' fun y hy ⟨a, ha, e⟩ => by
  obtain ⟨c, g⟩ := accS_cells A ha
  rw [← e] at g
  exact T.other g (by decide) (by decide) hy
 have k15 : Keeps r109.2 h15 := kp.keepsS c' fun y ⟨a, ha, e⟩ => by rw [e]; exact (A.lt a ha).2
 have kg15 := kg1.chg k15 fun f => f
 refine .call (rebuild_spec kg15 (by omega) A'.row (by simp; omega)) fun r17 ⟨q17, ⟨sl2, T17⟩, A17, k17⟩ => .ifp z1 (.ifp z2 (.call (parse_spec14 (DD k) (kg15.chg k17 fun f => f) (by omega) s13) fun r19 ⟨k19, q19⟩ => ?_))
 rw [pj] at q19
 simp only [] at q19
 rw [q17, q19]
 refine .ifp rfl (.ifn (by simp) ?_)
 have er : rebF (ps ++ [s13]) = rebF ps := by rw [rebF_snoc]; unfold stepR; rw [pj]
 have ebn : badN 0 (ps ++ [s13]) = [(ps.length : Int)] := by rw [badN_snoc, pj, badN_ok ps 0 hall]; simp
 rw [er] at T17
 rw [ebn] at A17
 have cn : cntTo (rebF ps) 256 ≤ 256 * (4096 * ps.length) := cntTo_le (rebF_ok ps).2 256 (Nat.le_refl _)
 have cl : (allF (rebF ps)).length = cntTo (rebF ps) 256 := flatTo_len _ _
 refine .call (all_spec (by omega) (DD k) (T17.keeps k19) (by omega)) fun r20 ⟨A20, k20⟩ => .call (all_spec (by omega) (DD k) (T15.keeps ((k17.trans k19).trans k20)) (by omega)) fun r21 ⟨A21, k21⟩ => .bnd (sameI_true (DD k) ((A20.keeps k21).row itC_len) (A21.row itC_len) (by omega) (by omega)) (.ifp rfl (Wp.newE fun h23 e23 k23 n23 g23 => ?_))
 have pl : packs.len = ps.length := A.row.1
 have R23 : Row encI h23 ⟨some ⟨r21.2.next, 0, some 0⟩, 1, 1⟩ [(ps.length : Int)] := Row.of_block (enc := encI) (xs := [(ps.length : Int)]) g23 (by have n23 : h23.next = r21.2.next + 1 := n23; omega) fun i z hz => by
  match i with
  | 0 => simp at hz; subst hz; simp [encI, pl]
  | i + 1 => simp at hz
 have R17 : Row encI h23 r17.1.2 [(ps.length : Int)] := (A17.keeps (((k19.trans k20).trans k21).trans k23)).row
 exact .bnd (ints_true (DD k) R17 R23 (by simp) (by simp; omega)) (.of rfl)
theorem rebuilds_T (hk : 5000000 ≤ k) (kg : KG 0 h) (R : Rep h (.list (.list .str)) tss [.slice texts.a texts.len texts.cap]) (junk : ByteArray) : ∃ h', law16_IndexRebuilds k (DD k) texts junk h = some (true, h') := tru (rebuilds_true kg hk (NL.of_rep R) junk)
end
end Ge
