import Derived.Test.YtmhahnefniiipaaSp1
namespace Gs
open Go Gx
theorem TSet_set {ss : List Tb} {i : Nat} {s : Tb} {p : RSt} (hi : ss[i]? = some s) (y : Nat) : TSet (ss.set i (s.1, p)) y ↔ TSet ss y := by
 constructor
 ·rintro ⟨t, ht, q⟩
  rcases List.mem_or_eq_of_mem_set ht with ht | rfl
  ·exact ⟨t, ht, q⟩
  ·exact ⟨s, mem_of hi, q⟩
 ·rintro ⟨t, ht, q⟩
  obtain ⟨j, hj⟩ := List.getElem?_of_mem ht
  by_cases c : j = i
  ·subst c
   rw [hi] at hj; cases hj
   have hlt := (List.getElem?_eq_some_iff.1 hi).1
   exact ⟨(s.1, p), List.mem_of_getElem? (i := j) (by rw [List.getElem?_set]; simp [hlt]), q⟩
  ·exact ⟨t, List.mem_of_getElem? (i := j) (by rw [List.getElem?_set_ne (fun z => c z.symm)]; exact hj), q⟩
theorem RAnswer_spec {k : Nat} (D : CallF) {h : AHeap} {sl : Slc} {m : Nat} {ss : List Tb} (T : Rts h sl m ss) (r : Rq) (hm : m ≤ 100000) (hk : m + 1 < k) (hk2 : 100 < k) (ht : ∀ t ∈ ss, ∀ n d, totR (lyR n d t.2.L) ≤ 1152921504606846976 ∨ fitsC n d ≠ 0) :
  Gx.Wp (ref08_Answer k D sl r h) fun z => Chg (TSet ss) h z.2 ∧ Rts z.2 sl (m + 1) (ansR ss r).1 ∧ z.1.1 = (ansR ss r).2.1 ∧ z.1.2.1 = (ansR ss r).2.2.1 ∧ Acc encS 9 h.next z.2 z.1.2.2 (ansR ss r).2.2.2 := by
 obtain ⟨st, kind, n, d⟩ := r
 simp only [ref08_Answer]
 obtain ⟨H1, e1⟩ : ∃ H1, H1 = h.new (.cells [.int .i64 st, .int .i64 kind, .string n, .string d] 32 true 0) := ⟨_, rfl⟩
 rw [← e1]
 obtain ⟨H2, e2⟩ : ∃ H2, H2 = H1.new (.cells [.int .i64 0, .string ⟨#[]⟩, .slice none 0 0] 29 true 0) := ⟨_, rfl⟩
 rw [← e2]
 have k1 : Keeps h H1 := e1 ▸ Keeps.new h _
 have k2 : Keeps h H2 := k1.trans (e2 ▸ Keeps.new H1 _)
 have n1 : H1.next = h.next + 1 := by rw [e1]; rfl
 have n2 : H2.next = h.next + 2 := by rw [e2]; simp [n1]
 have rq : H2.get h.next = some (.cells [.int .i64 st, .int .i64 kind, .string n, .string d] 32 true 0) := by
  rw [e2]; simp only [AHeap.get_new]; rw [if_neg (by omega), e1]; simp
 have rs : H2.get H1.next = some (.cells [.int .i64 0, .string ⟨#[]⟩, .slice none 0 0] 29 true 0) := by rw [e2]; simp
 have T2 := T.keeps k2
 have len : sl.len = ss.length := T.rd.1
 refine Gx.Wp.jn fun j8 h8 => Gx.Wp.bnd (sldI_at rq rfl) ?_
 have bad : ansR ss (st, kind, n, d) = (ss, (1, nob, [])) → Gx.Wp (j8 sl (some ⟨h.next, 0, none⟩) (some ⟨H1.next, 0, none⟩) true H2) fun z => Chg (TSet ss) h z.2 ∧ Rts z.2 sl (m + 1) (ansR ss (st, kind, n, d)).1 ∧ z.1.1 = (ansR ss (st, kind, n, d)).2.1 ∧ z.1.2.1 = (ansR ss (st, kind, n, d)).2.2.1 ∧ Acc encS 9 h.next z.2 z.1.2.2 (ansR ss (st, kind, n, d)).2.2.2 := by
  intro ea
  subst h8
  refine Gx.Wp.ifp rfl (Gx.Wp.bnd rfl ?_)
  refine fin3 rs rfl 1 ⟨#[]⟩ ⟨none, 0, 0⟩ ?_
  have kf : Keeps h (H2.set H1.next (.cells [.int .i64 1, .string ⟨#[]⟩, .slice none 0 0] 29 true 0)) := Chg.beh (T := (· = H1.next)) k2 (Chg.set (.inr rfl)) fun y hy q => by omega
  rw [ea]
  have Tf := T.keeps kf
  exact ⟨Chg.keeps kf, ⟨Tf.rd, Tf.fr, fun i s hi => ⟨(Tf.st i s hi).1, ⟨Nat.le_succ_of_le (Tf.st i s hi).2.l, Nat.le_succ_of_le (Tf.st i s hi).2.c, (Tf.st i s hi).2.f⟩⟩, Tf.ap⟩, rfl, rfl, Acc.nil _ _ _ _⟩
 by_cases c1 : st < 0
 ·refine Gx.Wp.ifp (by simpa using c1) (bad ?_)
  unfold ansR; rw [if_pos c1]
 refine Gx.Wp.ifn (by simpa using c1) (Gx.Wp.bnd (sldI_at rq rfl) ?_)
 obtain ⟨i, rfl⟩ : ∃ i : Nat, st = (i : Int) := ⟨st.toNat, by omega⟩
 by_cases c2 : ss.length ≤ i
 ·refine Gx.Wp.ifp (by rw [len]; simp; omega) (bad ?_)
  unfold ansR
  rw [if_neg c1]
  show (match ss[((i : Nat) : Int).toNat]? with | none => _ | some s => _) = _
  rw [Int.toNat_natCast, List.getElem?_eq_none c2]
 obtain ⟨s, hsi⟩ := isome (l := ss) (i := i) (by omega)
 refine Gx.Wp.ifn (by rw [len]; simp; omega) (Gx.Wp.bnd (sldI_at rq rfl) ?_)
 obtain ⟨q, q1, q2, _⟩ := T2.rd.rd hsi
 have ldp : Gx.ldP q H2 = some (some ⟨s.1, 0, none⟩) := by simp only [Gx.ldP, q2]; rfl
 refine Gx.Wp.bnd q1 (Gx.Wp.bnd ldp ?_)
 subst h8
 refine Gx.Wp.ifn (fun z => by cases z) (Gx.Wp.bnd rfl (Gx.Wp.bnd (sldI_at rq rfl) (Gx.Wp.bnd q1 (Gx.Wp.bnd ldp (Gx.Wp.bnd rfl (Gx.Wp.bnd (sldA_at rq rfl) (Gx.Wp.bnd rfl ?_)))))))
 obtain ⟨sR, sB⟩ := T2.st i s hsi
 refine Gx.Wp.call (rDo_spec D sR i kind n d (by have := sB.l; omega) (by have := sB.c; omega) sB.f (by have := sB.l; omega) hk2 (fun _ => ht s (mem_of hsi) n d)) fun r21 hq => ?_
 obtain ⟨a1, a2, A, c, s1⟩ := hq
 rw [a1, a2]
 refine Gx.Wp.bnd rfl ?_
 have inS : ∀ y, y = s.1 → TSet ss y := fun y z => ⟨s, mem_of hsi, z⟩
 have lts : ∀ y, TSet ss y → y < h.next := by
  rintro y ⟨t, ht, z⟩
  obtain ⟨j, hj⟩ := List.getElem?_of_mem ht
  have := ((T.st j t hj).1).lt
  omega
 have rs2 : r21.2.get H1.next = some (.cells [.int .i64 0, .string ⟨#[]⟩, .slice none 0 0] 29 true 0) := (c.oth _ (by omega) (fun z => by have := lts _ (inS _ z); omega)).trans rs
 refine fin3 rs2 rfl _ _ _ ?_
 have ea : ansR ss ((i : Int), kind, n, d) = (ss.set i (s.1, (s.2.doS kind n d).1), (((s.2.doS kind n d).2.1 : Int), (s.2.doS kind n d).2.2.1, (s.2.doS kind n d).2.2.2)) := by
  unfold ansR
  rw [if_neg c1]
  show (match ss[((i : Nat) : Int).toNat]? with | none => _ | some s => _) = _
  rw [Int.toNat_natCast, hsi]
 rw [ea]
 have nA := c.nx
 have cS : Chg (TSet ss) h r21.2 := (Chg.keeps k2).trans (c.wk fun y _ z => inS y z)
 have cF : Chg (TSet ss) h (r21.2.set H1.next (.cells [.int .i64 ((s.2.doS kind n d).2.1 : Int), .string (s.2.doS kind n d).2.2.1, .slice r21.1.2.2.a r21.1.2.2.len r21.1.2.2.cap] 29 true 0)) := Chg.beh (T := (· = H1.next)) cS (Chg.set (.inr rfl)) fun y hy z => by omega
 obtain ⟨HF, eF⟩ : ∃ HF, HF = r21.2.set H1.next (.cells [.int .i64 ((s.2.doS kind n d).2.1 : Int), .string (s.2.doS kind n d).2.2.1, .slice r21.1.2.2.a r21.1.2.2.len r21.1.2.2.cap] 29 true 0) := ⟨_, rfl⟩
 rw [← eF] at cF ⊢
 have cl : Chg (· = H1.next) r21.2 HF := eF ▸ Chg.set (.inr rfl)
 have hlt := (List.getElem?_eq_some_iff.1 hsi).1
 refine ⟨cF, ⟨?_, ?_, ?_, ?_⟩, rfl, rfl, ⟨(A.chg cl fun a ha z => by have := (A.lt a ha).2; omega).st, fun a ha => ⟨Nat.lt_of_lt_of_le (A.lt a ha).1 cl.nx, by have := (A.lt a ha).2; omega⟩⟩⟩
 ·-- the list is the same
  have R : Row encT1 HF sl ss := Row.chg T.rd cF T.fr
  refine ⟨by rw [R.1]; simp, fun j t hj => ?_⟩
  by_cases cj : j = i
  ·subst cj
   rw [List.getElem?_set] at hj
   simp [hlt] at hj
   subst hj
   exact R.2 j s hsi
  ·rw [List.getElem?_set_ne (fun z => cj z.symm)] at hj
   exact R.2 j t hj
 ·intro a ha z
  exact T.fr a ha ((TSet_set hsi _).1 z)
 ·intro j t hj
  by_cases cj : j = i
  ·subst cj
   rw [List.getElem?_set] at hj
   simp [hlt] at hj
   subst hj
   obtain ⟨d1, d2, d3⟩ := rdo_len s.2 kind n d
   refine ⟨s1.apartE cl fun y hy => ⟨by have := lts s.1 (inS _ rfl); show y ≠ s.1; omega, by subst hy; exact ⟨_, _, _, _, rs2, by decide⟩⟩, ⟨?_, ?_, ?_⟩⟩
   ·have := sB.l; show (s.2.doS kind n d).1.L.length ≤ _; omega
   ·have := sB.c; show (s.2.doS kind n d).1.many ≤ _; omega
   ·have := sB.f; show (s.2.doS kind n d).1.fails ≤ _; omega
  ·rw [List.getElem?_set_ne (fun z => cj z.symm)] at hj
   obtain ⟨tR, tB⟩ := T2.st j t hj
   have p1 := T.ap i j s t hsi hj (fun z => cj z.symm)
   obtain ⟨c0, g0⟩ := sR.ty
   have q1 := tR.apartE c fun y hy => ⟨by subst hy; exact p1, by subst hy; exact ⟨_, _, _, _, g0, by decide⟩⟩
   exact ⟨q1.apartE cl fun y hy => ⟨by have := lts t.1 ⟨t, mem_of hj, rfl⟩; show y ≠ t.1; omega, by subst hy; exact ⟨_, _, _, _, rs2, by decide⟩⟩, ⟨by have := tB.l; omega, by have := tB.c; omega, tB.f⟩⟩
 ·intro a b s' t' ha hb hab
  have back : ∀ (j : Nat) u, (ss.set i (s.1, (s.2.doS kind n d).1))[j]? = some u → ∃ v, ss[j]? = some v ∧ u.1 = v.1 := by
   intro j u hu
   by_cases cj : j = i
   ·subst cj
    rw [List.getElem?_set] at hu
    simp [hlt] at hu
    subst hu
    exact ⟨s, hsi, rfl⟩
   ·rw [List.getElem?_set_ne (fun z => cj z.symm)] at hu
    exact ⟨u, hu, rfl⟩
  obtain ⟨u, hu, u1⟩ := back a s' ha
  obtain ⟨v, hv, v1⟩ := back b t' hb
  have := T.ap a b u v hu hv hab
  rw [u1, v1]; exact this
end Gs
namespace Gs
open Go Gx
def ansRL : List Rq → List Tb → List Tb × List Ry
 | [], ts => (ts, [])
 | q :: qs, ts => ((ansRL qs (ansR ts q).1).1, (ansR ts q).2 :: (ansRL qs (ansR ts q).1).2)
theorem both_all : ∀ {qs : List Rq} {ss : List Sb} {ts : List Tb}, Bth ss ts → (ansL qs ss).2 = (ansRL qs ts).2 ∧ Bth (ansL qs ss).1 (ansRL qs ts).1
 | [], _, _, B => ⟨rfl, B⟩
 | q :: qs, ss, ts, B => by
  obtain ⟨B', e⟩ := B.ans q
  obtain ⟨h1, h2⟩ := both_all (qs := qs) B'
  exact ⟨by simp only [ansL, ansRL, e, h1], h2⟩
theorem ansRL_snoc : ∀ (qs : List Rq) (q : Rq) (ts : List Tb), ansRL (qs ++ [q]) ts = ((ansR (ansRL qs ts).1 q).1, (ansRL qs ts).2 ++ [(ansR (ansRL qs ts).1 q).2])
 | [], q, ts => rfl
 | r :: qs, q, ts => by simp only [List.cons_append, ansRL, ansRL_snoc qs q]
theorem ansRL_len : ∀ (qs : List Rq) (ts : List Tb), (ansRL qs ts).2.length = qs.length
 | [], _ => rfl
 | q :: qs, ts => by simp only [ansRL, List.length_cons, ansRL_len qs]
theorem TSet_ans (ts : List Tb) (r : Rq) (y : Nat) : TSet (ansR ts r).1 y ↔ TSet ts y := by
 unfold ansR
 split
 ·exact Iff.rfl
 ·split
  ·exact Iff.rfl
  ·rename_i s hs; exact TSet_set hs y
theorem tot_rel {p : PS} {r : RSt} (R : Rel p r) (hl : r.L.length ≤ 1048576) (n d : ByteArray) : totR (lyR n d r.L) ≤ 1152921504606846976 ∨ fitsC n d ≠ 0 := by
 by_cases c : fitsC n d = 0
 ·obtain ⟨hn, hd, _⟩ := fits0 c
  have RL := R.lay hn hd
  have t1 : Gs.tot (pt n d p.cl p.es) = totR (lyR n d r.L) := RL.tot
  have t2 := tot_pt (n := n) (d := d) (cl := p.cl) p.es
  have t3 := tot_le R.g
  have := R.len
  exact .inl (by omega)
 ·exact .inr c
theorem Bth.tot {ss : List Sb} {ts : List Tb} {h : AHeap} {sl : Slc} {m : Nat} (B : Bth ss ts) (T : Rts h sl m ts) (hm : m ≤ 100000) : ∀ t ∈ ts, ∀ n d, totR (lyR n d t.2.L) ≤ 1152921504606846976 ∨ fitsC n d ≠ 0 := by
 intro t ht n d
 obtain ⟨i, hi⟩ := List.getElem?_of_mem ht
 obtain ⟨s, hs⟩ := isome (l := ss) (i := i) (by rw [B.len]; exact (List.getElem?_eq_some_iff.1 hi).1)
 exact tot_rel (B.rel i s t hs hi) (by have := (T.st i t hi).2.l; omega) n d
theorem Rts.apartE {S : Nat → Prop} {h h' : AHeap} {sl : Slc} {m : Nat} {ts : List Tb} (T : Rts h sl m ts) (c : Chg S h h') (hS : ∀ y, S y → ¬ TSet ts y ∧ ∃ c e rw fz, h.get y = some (.cells c e rw fz) ∧ e ≠ 124) (ha : ∀ a, sl.a = some a → ¬ S a.block) : Rts h' sl m ts :=
 ⟨Row.chg T.rd c ha, T.fr, fun i t hi => ⟨(T.st i t hi).1.apartE c fun y hy => ⟨fun e => (hS y hy).1 ⟨t, mem_of hi, e⟩, (hS y hy).2⟩, (T.st i t hi).2⟩, T.ap⟩
end Gs
namespace Gs
open Go Gx
theorem rdo_names (r : RSt) (kind : Int) (n d : ByteArray) : (r.doS kind n d).2.2.2.length ≤ r.L.length := by
 have fl := List.length_filter_le (starts n) (r.L.map (·.1))
 rw [List.length_map] at fl
 unfold RSt.doS
 repeat' split
 all_goals first | exact fl | exact Nat.zero_le _
theorem ansR_names {ts : List Tb} {m : Nat} (h : ∀ t ∈ ts, t.2.L.length ≤ m) (q : Rq) : (ansR ts q).2.2.2.length ≤ m := by
 unfold ansR
 split
 ·exact Nat.zero_le _
 ·split
  ·exact Nat.zero_le _
  ·rename_i s hs
   exact Nat.le_trans (rdo_names _ _ _ _) (h s (mem_of hs))
section
variable {k : Nat} {h0 : AHeap} {kb : Nat} {r sl lk : Slc} {qs : List Rq} {ts0 : List Tb} {ss0 : List Sb}
structure Doc (h0 : AHeap) (kb : Nat) (r lk : Slc) (qs : List Rq) (ts0 : List Tb) (i : Nat) (h : AHeap) : Prop where
 t : Rts h r i (ansRL (qs.take i) ts0).1
 l : LR h kb lk i (Rz.of (ansRL (qs.take i) ts0).2)
 b : idsL (ansRL (qs.take i) ts0).2 ≤ i * 100000
 s : ∀ y, TSet (ansRL (qs.take i) ts0).1 y ↔ TSet ts0 y
 c : Chg (fun y => TSet ts0 y ∨ y = kb) h0 h
theorem Doc.step (D : CallF) {i : Nat} {h : AHeap} (S : Doc h0 kb r lk qs ts0 i h) (hr : ∀ a, r.a = some a → a.block ≠ kb) (B : Bth ss0 ts0) (low : ∀ y, TSet ts0 y → y < kb) {q : Rq} (hq : qs[i]? = some q) (hi : i ≤ 100) (hk : 200 < k)
  {R : Type} {Q : R → Prop} {f : AHeap → Option R} (hf : ∀ h', Doc h0 kb r lk qs ts0 (i + 1) h' → Gx.Wp (f h') Q) :
  Gx.Wp ((ref08_Answer k D r (q.1, q.2.1, q.2.2.1, q.2.2.2) h).bind fun r106 => (ref08_List_Give k D (some ⟨kb, 0, none⟩) (r106.1.1, r106.1.2.1, r106.1.2.2) r106.2).bind fun r107 => f r107.2) Q := by
 have Bi := (both_all (qs := qs.take i) B).2
 have e1 : qs.take (i + 1) = qs.take i ++ [q] := by rw [List.take_add_one, hq]; rfl
 have len := ansRL_len (qs.take i) ts0
 have li : (qs.take i).length ≤ i := by simp; omega
 refine Gx.Wp.call (RAnswer_spec D S.t q (by omega) (by omega) (by omega) (Bi.tot S.t (by omega))) fun a ha => ?_
 obtain ⟨ca, Ta, v1, v2, Aa⟩ := ha
 have nm := ansR_names (ts := (ansRL (qs.take i) ts0).1) (m := i) (fun t ht => by
  obtain ⟨j, hj⟩ := List.getElem?_of_mem ht
  exact (S.t.st j t hj).2.l) q
 have La := S.l.below ca fun y hy => low y ((S.s y).1 hy)
 have na := ca.nx
 have lk0 := S.l.lt
 rw [v1, v2]
 refine Gx.Wp.call (LGive_spec D La Aa.row (fun b hb => by have := (Aa.lt b hb).2; omega) (by omega) (by have := zof_n (ansRL (qs.take i) ts0).2; omega) (by rw [zof_ids]; have := S.b; omega) (by rw [zof_texts, List.length_map]; omega)) fun w hw => ?_
 obtain ⟨cw, Lw⟩ := hw
 obtain ⟨s', t', gb, _⟩ := La.blk
 refine hf w.2 ⟨?_, ?_, ?_, fun y => ?_, S.c.trans ((ca.wk fun y _ z => .inl ((S.s y).1 z)).trans (cw.wk fun y _ z => .inr z))⟩
 ·rw [e1, ansRL_snoc]
  exact Ta.apartE cw (fun y hy => ⟨fun z => by have := low y ((S.s y).1 ((TSet_ans _ q y).1 z)); omega, by subst hy; exact ⟨_, _, _, _, gb, by decide⟩⟩) fun a ha => hr a ha
 ·rw [e1, ansRL_snoc, zof_snoc]; exact Lw
 ·rw [e1, ansRL_snoc, idsL_app]
  have := S.b
  simp only [idsL]; omega
 ·rw [e1, ansRL_snoc]; exact (TSet_ans _ q y).trans (S.s y)
end
section
variable {k : Nat} {s r : Slc} {ss : List Sb} {ts : List Tb}
end
end Gs
namespace Gs
open Go Gx
end Gs
namespace Gs
open Go Gx
end Gs
namespace Gs
open Go Gx
noncomputable def DD (k : Nat) : CallF := lvl k 60
theorem DD_sound (k : Nat) : CSound Go.Proofs.Try.prog 0 (DD k) := lvl_sound k 60
end Gs
namespace Gs
open Go Gx
def jobAt (qs : List Rq) (ss : List Sb) (i : Nat) : Prg := askAll (qs.drop i) (ansL (qs.take i) ss).2 fun ys => finP (Rz.of ys)
theorem ansL_snoc : ∀ (qs : List Rq) (q : Rq) (ss : List Sb), ansL (qs ++ [q]) ss = ((ansS (ansL qs ss).1 q).1, (ansL qs ss).2 ++ [(ansS (ansL qs ss).1 q).2])
 | [], q, ss => rfl
 | r :: qs, q, ss => by simp only [List.cons_append, ansL, ansL_snoc qs q]
theorem ansL_set (y : Nat) : ∀ (qs : List Rq) (ss : List Sb), SSet (ansL qs ss).1 y ↔ SSet ss y
 | [], _ => Iff.rfl
 | q :: qs, ss => (ansL_set y qs _).trans (SSet_ans ss q y)
theorem jobAt_next {qs : List Rq} {i : Nat} {q : Rq} (hq : qs[i]? = some q) : qs.take (i + 1) = qs.take i ++ [q] := by rw [List.take_add_one, hq]; rfl
theorem jobAt_ask {qs : List Rq} {ss : List Sb} {i : Nat} {q : Rq} (hq : qs[i]? = some q) : ∃ kk, jobAt qs ss i = .ask q kk ∧ kk (ansS (ansL (qs.take i) ss).1 q).2 = jobAt qs ss (i + 1) := by
 refine ⟨fun y => askAll (qs.drop (i + 1)) ((ansL (qs.take i) ss).2 ++ [y]) fun ys => finP (Rz.of ys), ?_, ?_⟩
 ·unfold jobAt; rw [dropc hq]; rfl
 ·unfold jobAt; rw [jobAt_next hq, ansL_snoc]
theorem jobAt_over {qs : List Rq} {ss : List Sb} {i : Nat} (hi : i ≤ qs.length) : (jobAt qs ss i).over = decide (i = qs.length) := by
 by_cases c : i = qs.length
 ·subst c
  unfold jobAt
  rw [List.drop_length, decide_eq_true rfl]; rfl
 ·obtain ⟨q, hq⟩ := isome (l := qs) (i := i) (by omega)
  obtain ⟨kk, e, _⟩ := jobAt_ask (ss := ss) hq
  rw [e, decide_eq_false c]; rfl
def TF (O : Nat → Prop) (jb : Nat) (ss : List Sb) (sl : Slc) (y : Nat) : Prop := JSet O jb y ∨ SSet ss y ∨ ofS sl y
structure TJ (k : Nat) (qs : List Rq) (ss : List Sb) (jb : Nat) (sl : Slc) (i : Nat) (O : Nat → Prop) (h : AHeap) : Prop where
 j : JobP (lvl k) 4 jb (jobAt qs ss i) i O h
 s : Sts h sl i (ansL (qs.take i) ss).1
 d : ∀ y, SSet ss y → ¬ JSet O jb y
 e : ∀ a, sl.a = some a → ¬ JSet O jb a.block
 lt : ∀ y, TF O jb ss sl y → y < h.next
theorem TJ.chg {S : Nat → Prop} {k : Nat} {qs : List Rq} {ss : List Sb} {jb : Nat} {sl : Slc} {i : Nat} {O : Nat → Prop} {h h' : AHeap} (J : TJ k qs ss jb sl i O h) (c : Chg S h h') (hs : ∀ y, TF O jb ss sl y → ¬ S y) : TJ k qs ss jb sl i O h' :=
 ⟨J.j.chg c fun y hy => hs y (.inl hy), J.s.chg c (fun y hy => hs y (.inr (.inl ((ansL_set y _ _).1 hy)))) fun a ha => hs _ (.inr (.inr ⟨a, ha, rfl⟩)), J.d, J.e, fun y hy => Nat.lt_of_lt_of_le (J.lt y hy) c.nx⟩
theorem TJ.run {k n : Nat} (hn : 4 ≤ n) (hk : 100000 < k) {qs : List Rq} {ss : List Sb} {jb : Nat} {sl : Slc} {i : Nat} {O : Nat → Prop} {h : AHeap} (J : TJ k qs ss jb sl i O h) (hi : i < qs.length) (hq : qs.length ≤ 1000) (hnm : ∀ q ∈ qs, NameOk k q) :
  Gx.Wp (port_Run k (lvl k n) (some ⟨jb, 0, none⟩) sl 1 h) fun z => ∃ O', z.1 = (1, if i + 1 = qs.length then 0 else 2) ∧ TJ k qs ss jb sl (i + 1) O' z.2 ∧ Chg (TF O jb ss sl) h z.2 ∧ ∀ y, TF O' jb ss sl y → TF O jb ss sl y ∨ h.next ≤ y := by
 obtain ⟨q, hqi⟩ := isome hi
 obtain ⟨kk, e1, e2⟩ := jobAt_ask (ss := ss) hqi
 have sS : ∀ y, SSet (ansL (qs.take i) ss).1 y ↔ SSet ss y := fun y => ansL_set y _ _
 have R : RunR k 1 (jobAt qs ss i) (ansL (qs.take i) ss).1 (jobAt qs ss (i + 1)) (ansS (ansL (qs.take i) ss).1 q).1 1 := by
  rw [e1]
  refine RunR.step (most := 0) (s := 0) (hnm q (mem_of hqi)) ?_
  rw [e2]; exact .stop
 refine Gx.Wp.mono (Run_P (L := lvl k) (N := 4) hn R J.j J.s (fun y hy => ?_) (fun a ha => ?_) (by omega) (by omega) (by omega)) fun z hz => ?_
 ·have hy := (sS y).1 hy
  exact ⟨J.lt y (.inr (.inl hy)), J.d y hy⟩
 ·exact ⟨J.lt _ (.inr (.inr ⟨a, ha, rfl⟩)), J.e a ha⟩
 ·obtain ⟨O', v, j', sub, far, sset, s', c⟩ := hz
  have hov := jobAt_over (qs := qs) (ss := ss) (i := i + 1) (by omega)
  have nx := c.nx
  have fr : ∀ y, JSet O' jb y → JSet O jb y ∨ h.next ≤ y := fun y hy => hy.elim (fun hy => (far y hy).imp .inl id) fun hy => .inl (.inr hy)
  refine ⟨O', ?_, ⟨j', ?_, fun y hy z => ?_, fun a ha z => ?_, fun y hy => ?_⟩, c.wk fun y _ z => z.elim (fun z => .inr (.inl ((sS y).1 z))) fun z => .inl (.inl z), fun y hy => ?_⟩
  ·rw [v, hov]
   by_cases ce : i + 1 = qs.length <;> simp [ce]
  ·rw [jobAt_next hqi, ansL_snoc]; exact s'
  ·rcases fr y z with z | z
   ·exact J.d y hy z
   ·have := J.lt y (.inr (.inl hy)); omega
  ·rcases fr _ z with z | z
   ·exact J.e a ha z
   ·have := J.lt _ (.inr (.inr ⟨a, ha, rfl⟩)); omega
  ·rcases hy with hy | hy
   ·rcases hy with hy | rfl
    ·exact j'.lt y hy
    ·exact j'.lj
   ·exact Nat.lt_of_lt_of_le (J.lt y (.inr hy)) nx
  ·rcases hy with hy | hy
   ·exact (fr y hy).imp .inl id
   ·exact .inl (.inr hy)
theorem TJ.begin {k : Nat} {qs : List Rq} {base q : Nat} {h hj : AHeap} {s r : Slc} {ss : List Sb} {ts : List Tb} (M : Mk base q h s r ss ts) (hq : q ≤ 1073741824) {jb : Nat} {O : Nat → Prop} (J : JobP (lvl k) 4 jb (listP qs) 0 O hj) (kp : Keeps h hj) (h1 : ∀ y, O y → h.next ≤ y) (h2 : h.next ≤ jb) : TJ k qs ss jb s 0 O hj := by
 have nx := kp.nx
 refine ⟨J, (M.sts hq).keeps kp, fun y hy z => ?_, fun a ha z => ?_, fun y hy => ?_⟩
 ·have := M.sset hy
  exact z.elim (fun z => by have := h1 y z; omega) fun z => by omega
 ·have := M.ls ha
  exact z.elim (fun z => by have := h1 _ z; omega) fun z => by omega
 ·rcases hy with (hy | rfl) | hy | ⟨a, ha, rfl⟩
  ·exact J.lt y hy
  ·exact J.lj
  ·have := M.sset hy; omega
  ·have := M.ls ha; omega
theorem ansL_same : ∀ {qs : List Rq} {ss uu : List Sb}, ss.map (·.2.2) = uu.map (·.2.2) → (ansL qs ss).2 = (ansL qs uu).2 ∧ (ansL qs ss).1.map (·.2.2) = (ansL qs uu).1.map (·.2.2)
 | [], _, _, e => ⟨rfl, e⟩
 | q :: qs, ss, uu, e => by
  have one : (ansS ss q).2 = (ansS uu q).2 ∧ (ansS ss q).1.map (·.2.2) = (ansS uu q).1.map (·.2.2) := by
   unfold ansS
   by_cases c : q.1 < 0
   ·rw [if_pos c, if_pos c]; exact ⟨rfl, e⟩
   ·rw [if_neg c, if_neg c]
    have g : (ss[q.1.toNat]?).map (·.2.2) = (uu[q.1.toNat]?).map (·.2.2) := by rw [← List.getElem?_map, ← List.getElem?_map, e]
    cases hs : ss[q.1.toNat]? with
    | none =>
     rw [hs] at g
     cases hu : uu[q.1.toNat]? with
     | none => exact ⟨rfl, e⟩
     | some u => rw [hu] at g; cases g
    | some s =>
     rw [hs] at g
     cases hu : uu[q.1.toNat]? with
     | none => rw [hu] at g; cases g
     | some u =>
      rw [hu] at g
      have g : s.2.2 = u.2.2 := by simpa using g
      simp only
      rw [g]
      exact ⟨rfl, by rw [List.map_set, List.map_set, e]⟩
  obtain ⟨h1, h2⟩ := ansL_same (qs := qs) one.2
  simp only [ansL]
  exact ⟨by rw [one.1, h1], h2⟩
end Gs
namespace Gs
open Go Gx
theorem encI_one (x : Int) : one (encI x) = true := rfl
def firstC (but : List Int) : List Int → Int
 | [] => 0
 | c :: cs => if c = 0 ∨ c ∈ but then firstC but cs else c
theorem firstC_skip {but cs : List Int} {x : Int} (h : x = 0 ∨ x ∈ but) : firstC but (x :: cs) = firstC but cs := if_pos h
theorem firstC_hit {but cs : List Int} {x : Int} (h : ¬ (x = 0 ∨ x ∈ but)) : firstC but (x :: cs) = x := if_neg h
def goodC (cs : List Int) : Nat := cs.countP (· == 0)
theorem may_spec9 (k : Nat) (D : CallF) (n : Int) (h : AHeap) : fan_may k D n h = some (decide (1 ≤ n ∧ n ≤ 255), h) := by
 simp only [fan_may]
 by_cases c : 1 ≤ n
 ·rw [if_pos (by simpa using c)]; simp [c]
 ·rw [if_neg (by simpa using c)]; simp; omega
section
variable {k : Nat} {D : CallF}
theorem codes_spec {h : AHeap} {sl : Slc} {xs : List Rp} (R : RowW 3 encP h sl xs) (hl : xs.length ≤ 1048576) (hk : xs.length < k) : Gx.Wp (fan_codes k D sl h) fun z => Keeps h z.2 ∧ Acc encI 24 h.next z.2 z.1 (xs.map (·.1)) := by
 simp only [fan_codes]
 refine Gx.Wp.jn fun j hj => ?_
 unfold fan_codes_l0
 obtain ⟨bot, eb⟩ := iterK_of (fun _ _ _ _ _ => none) (fan_codes_l0b k D j) (show xs.length + 1 ≤ k by omega)
 rw [eb, R.len]
 have loop : ∀ (d i : Nat) (o : Slc) (h' : AHeap), i + d = xs.length → Keeps h h' → Acc encI 24 h.next h' o ((xs.take i).map (·.1)) → Gx.Wp (iterK bot (d + 1) (fan_codes_l0b k D j) o sl (xs.length : Int) (i : Int) h') fun z => Keeps h z.2 ∧ Acc encI 24 h.next z.2 z.1 (xs.map (·.1)) := fun d => by
  induction d with
  | zero =>
   intro i o h' hd kp A
   obtain rfl : i = xs.length := by omega
   rw [List.take_length] at A
   rw [iterK_s]; simp only [fan_codes_l0b]
   subst hj
   exact Gx.Wp.ifn (by simp) (Gx.Wp.of ⟨kp, A⟩)
  | succ d ih =>
   intro i o h' hd kp A
   rw [iterK_s]; simp only [fan_codes_l0b]
   have np := kp.nx
   obtain ⟨x, hx⟩ := isome (l := xs) (i := i) (by omega)
   obtain ⟨p, b1, b2, _, _⟩ := (R.keeps kp).ld encP_len (by decide) hx
   refine Gx.Wp.ifp (by simp; omega) (Gx.Wp.bnd b1 (Gx.Wp.bnd b2 (Gx.Wp.bnd rfl (Gx.Wp.new fun H1 k1 n1 g1 => Gx.Wp.stL (sp := none) g1 rfl rfl rfl (by decide) fun H2 c2 n2 g2 => Gx.Wp.bnd (sldI_at g2 rfl) (Gx.Wp.newE fun H3 e3 k3 n3 g3 => ?_)))))
   have k2 : Keeps h' H2 := Chg.beh (T := (· = h'.next)) k1 c2 fun y hy q => by omega
   obtain ⟨s', h9, a1, a2, A', c9, d9⟩ := Acc.pushK (A.keeps k2) encI_one x.1 (bytes := 8) e3 (by simp; omega) (by decide) (by omega)
   refine Gx.Wp.bnd a1 (Gx.Wp.bnd a2 ?_)
   rw [Gx.w1 (by omega)]
   refine ih (i + 1) s' h9 (by omega) (Chg.beh (kp.trans k2) c9 fun y hy ⟨a, ha, q⟩ => by have := (A.lt a ha).2; omega) ?_
   rw [show xs.take (i + 1) = xs.take i ++ [x] by rw [List.take_add_one, hx]; rfl, List.map_append]
   exact A'
 exact loop xs.length 0 _ h (by omega) (.refl _ _) (Acc.nil _ _ _ _)
theorem good_spec {h : AHeap} {sl : Slc} {cs : List Int} (R : Row encI h sl cs) (hl : cs.length < 9223372036854775807) (hk : cs.length < k) : fan_good k D sl h = some ((goodC cs : Int), h) := by
 simp only [fan_good]
 refine jn ?_
 unfold fan_good_l0
 generalize hj : (fun (n1 : Int) (h2 : AHeap) => some (n1, h2)) = j
 obtain ⟨bot, eb⟩ := iterK_of (fun _ _ _ _ _ => none) (fan_good_l0b k D j) (show cs.length + 1 ≤ k by omega)
 rw [eb, R.1]
 have loop : ∀ (d i : Nat), i + d = cs.length → iterK bot (d + 1) (fan_good_l0b k D j) (goodC (cs.take i) : Int) sl (cs.length : Int) (i : Int) h = some ((goodC cs : Int), h) := fun d => by
  induction d with
  | zero =>
   intro i hd
   obtain rfl : i = cs.length := by omega
   rw [iterK_s, List.take_length]; simp only [fan_good_l0b]
   subst hj
   exact ifn (by simp) rfl
  | succ d ih =>
   intro i hd
   rw [iterK_s]; simp only [fan_good_l0b]
   obtain ⟨x, hx⟩ := isome (l := cs) (i := i) (by omega)
   obtain ⟨p, b1, b2⟩ := R.ldI hx
   have e : cs.take (i + 1) = cs.take i ++ [x] := by rw [List.take_add_one, hx]; rfl
   have gl : goodC (cs.take i) ≤ i := Nat.le_trans (List.countP_le_length) (by simp; omega)
   have := ih (i + 1) (by omega)
   refine ifp (by simp; omega) (jn (bnd b1 (bnd b2 ?_)))
   rw [e] at this
   by_cases c : x = 0
   ·refine ifp (by simpa using c) ?_
    dsimp only
    rw [Gx.w1 (by omega), Gx.w1 (by omega)]
    have g : goodC (cs.take i ++ [x]) = goodC (cs.take i) + 1 := by simp [goodC, c]
    rw [g] at this; exact this
   ·refine ifn (by simpa using c) ?_
    dsimp only
    rw [Gx.w1 (by omega)]
    have g : goodC (cs.take i ++ [x]) = goodC (cs.take i) := by simp [goodC, c]
    rw [g] at this; exact this
 have := loop cs.length 0 (by omega)
 simpa [goodC] using this
theorem contains_spec {h : AHeap} {sl : Slc} {cs : List Int} (R : Row encI h sl cs) (v : Int) (hl : cs.length < 9223372036854775807) (hk : cs.length < k) : slices_Contains_api_Code_api_Code k D sl v h = some (decide (v ∈ cs), h) := by
 have idx : ∃ r : Int, slices_Index_api_Code_api_Code k D sl v h = some (r, h) ∧ decide (r ≥ 0) = decide (v ∈ cs) := by
  simp only [slices_Index_api_Code_api_Code, joinK]
  unfold slices_Index_api_Code_api_Code_l0
  generalize hj : (fun (h1 : AHeap) => some ((-1 : Int), h1)) = j
  obtain ⟨bot, eb⟩ := iterK_of (fun _ _ _ _ _ => none) (slices_Index_api_Code_api_Code_l0b k D j) (show cs.length + 1 ≤ k by omega)
  rw [eb, R.1]
  have loop : ∀ (d i : Nat), i + d = cs.length → (∀ x ∈ cs.take i, x ≠ v) → ∃ r : Int, iterK bot (d + 1) (slices_Index_api_Code_api_Code_l0b k D j) sl v (cs.length : Int) (i : Int) h = some (r, h) ∧ decide (r ≥ 0) = decide (v ∈ cs) := fun d => by
   induction d with
   | zero =>
    intro i hd no
    obtain rfl : i = cs.length := by omega
    rw [List.take_length] at no
    rw [iterK_s]; simp only [slices_Index_api_Code_api_Code_l0b]
    subst hj
    refine ⟨-1, ifn (by simp) rfl, ?_⟩
    rw [decide_eq_false (by omega), decide_eq_false (fun z => no v z rfl)]
   | succ d ih =>
    intro i hd no
    rw [iterK_s]; simp only [slices_Index_api_Code_api_Code_l0b]
    obtain ⟨x, hx⟩ := isome (l := cs) (i := i) (by omega)
    obtain ⟨p, b1, b2⟩ := R.ldI hx
    by_cases c : v = x
    ·refine ⟨i, ifp (by simp; omega) (bnd b1 (bnd b2 (ifp (by simpa using c) rfl))), ?_⟩
     rw [decide_eq_true (by omega), decide_eq_true (c ▸ mem_of hx)]
    ·obtain ⟨r, hr, hd'⟩ := ih (i + 1) (by omega) (fun y hy => by
      rw [show cs.take (i + 1) = cs.take i ++ [x] by rw [List.take_add_one, hx]; rfl] at hy
      rcases List.mem_append.1 hy with hy | hy
      ·exact no y hy
      ·simp at hy; subst hy; exact fun z => c z.symm)
     refine ⟨r, ifp (by simp; omega) (bnd b1 (bnd b2 (ifn (by simpa using c) ?_))), hd'⟩
     rw [Gx.w1 (by omega)]; exact hr
  exact loop cs.length 0 (by omega) (by simp)
 obtain ⟨r, e, d⟩ := idx
 simp only [slices_Contains_api_Code_api_Code]
 rw [e]
 show some (decide (r ≥ 0), h) = _
 rw [d]
theorem first_spec {h : AHeap} {sl bl' : Slc} {cs but : List Int} (R : Row encI h sl cs) (B : Row encI h bl' but) (hl : cs.length < 9223372036854775807) (hk : cs.length < k) (hl2 : but.length < 9223372036854775807) (hk2 : but.length < k) : fan_First k D sl bl' h = some (firstC but cs, h) := by
 simp only [fan_First, joinK]
 unfold fan_First_l0
 generalize hj : (fun (h1 : AHeap) => some ((0 : Int), h1)) = j
 obtain ⟨bot, eb⟩ := iterK_of (fun _ _ _ _ _ => none) (fan_First_l0b k D j) (show cs.length + 1 ≤ k by omega)
 rw [eb, R.1]
 have loop : ∀ (d i : Nat), i + d = cs.length → iterK bot (d + 1) (fan_First_l0b k D j) bl' sl (cs.length : Int) (i : Int) h = some (firstC but (cs.drop i), h) := fun d => by
  induction d with
  | zero =>
   intro i hd
   obtain rfl : i = cs.length := by omega
   rw [iterK_s, List.drop_length]; simp only [fan_First_l0b]
   subst hj
   exact ifn (by simp) rfl
  | succ d ih =>
   intro i hd
   rw [iterK_s]; simp only [fan_First_l0b]
   obtain ⟨x, hx⟩ := isome (l := cs) (i := i) (by omega)
   obtain ⟨p, b1, b2⟩ := R.ldI hx
   refine ifp (by simp; omega) (bnd b1 (bnd b2 (jn ?_)))
   rw [dropc hx]
   by_cases c : x = 0
   ·rw [firstC_skip (.inl c)]
    refine ifn (by simp [c]) (ifn (fun z => by cases z) ?_)
    rw [Gx.w1 (by omega)]; exact ih (i + 1) (by omega)
   ·refine ifp (by simp [c]) (bnd (contains_spec B x hl2 hk2) ?_)
    by_cases c2 : x ∈ but
    ·rw [firstC_skip (.inr c2)]
     refine ifn (by simp [c2]) ?_
     rw [Gx.w1 (by omega)]; exact ih (i + 1) (by omega)
    ·rw [firstC_hit (fun z => z.elim c c2)]
     exact ifp (by simp [c2]) rfl
 exact loop cs.length 0 (by omega)
end
end Gs
namespace Gs
open Go Gx
theorem splice_app {a b c d : List Value} (h : d.length = b.length) : splice (a ++ b ++ c) a.length d = a ++ d ++ c := by
 unfold splice
 have e1 : (a ++ b ++ c).take a.length = a := by rw [List.append_assoc, List.take_left']; rfl
 have e2 : (a ++ b ++ c).drop (a.length + d.length) = c := by rw [show a.length + d.length = (a ++ b).length by simp [h], List.drop_left']; rfl
 rw [e1, e2]
theorem split_at {xs : List Rq} {i : Nat} {x : Rq} (hx : xs[i]? = some x) : xs = xs.take i ++ x :: xs.drop (i + 1) := by rw [← dropc hx, List.take_append_drop]
theorem flat_at {xs : List Rq} {i : Nat} {x : Rq} (hx : xs[i]? = some x) : xs.flatMap encQ = (xs.take i).flatMap encQ ++ encQ x ++ (xs.drop (i + 1)).flatMap encQ := by
 conv => lhs; rw [split_at hx]
 rw [List.flatMap_append, List.flatMap_cons, List.append_assoc]
theorem flat_len {xs : List Rq} {i : Nat} (hi : i ≤ xs.length) : ((xs.take i).flatMap encQ).length = i * 4 := by
 rw [flatW_length encQ_len, List.length_take, Nat.min_eq_left hi]
theorem set_split {xs : List Rq} {i : Nat} {x y : Rq} (hx : xs[i]? = some x) : (xs.set i y).flatMap encQ = (xs.take i).flatMap encQ ++ encQ y ++ (xs.drop (i + 1)).flatMap encQ := by
 have hi := (List.getElem?_eq_some_iff.1 hx).1
 rw [flat_at (xs := xs.set i y) (i := i) (x := y) (by rw [List.getElem?_set]; simp [hi]), List.take_set_of_le (Nat.le_refl _), List.drop_set_of_lt (Nat.lt_succ_self _)]
theorem stQ {h : AHeap} {b i : Nat} {xs : List Rq} {x y : Rq} (hb : h.get b = some (.cells (xs.flatMap encQ) 32 true 0)) (hx : xs[i]? = some x) :
  Gx.stL 4 ⟨b, i * 4, none⟩ (encQ y) h = some (h.set b (.cells ((xs.set i y).flatMap encQ) 32 true 0)) := by
 have hi := (List.getElem?_eq_some_iff.1 hx).1
 have := stL_part (cs := encQ y) (o := i * 4) (sp := none) hb (by simp [encQ]) (by rw [flatW_length encQ_len, encQ_len]; omega) (encQ_one y)
 rw [encQ_len] at this
 rw [this]
 congr 3
 rw [flat_at hx, set_split hx]
 have := splice_app (a := (xs.take i).flatMap encQ) (b := encQ x) (c := (xs.drop (i + 1)).flatMap encQ) (d := encQ y) rfl
 rw [flat_len (Nat.le_of_lt hi)] at this
 exact this
theorem stQ1 {h : AHeap} {b i j : Nat} {xs : List Rq} {x y : Rq} {v : Value} (hb : h.get b = some (.cells (xs.flatMap encQ) 32 true 0)) (hx : xs[i]? = some x) (hj : j < 4) (hv : one v = true) (hy : (encQ x).set j v = encQ y) :
  Gx.st1 ⟨b, i * 4 + j, none⟩ v h = some (h.set b (.cells ((xs.set i y).flatMap encQ) 32 true 0)) := by
 have hi := (List.getElem?_eq_some_iff.1 hx).1
 rw [st1_sb hb (by rw [flatW_length encQ_len]; omega) hv]
 congr 3
 rw [flat_at hx, set_split hx, ← hy, List.set_append_left, List.set_append_right, flat_len (Nat.le_of_lt hi)]
 ·simp
 ·rw [flat_len (Nat.le_of_lt hi)]; omega
 ·rw [List.length_append, flat_len (Nat.le_of_lt hi), encQ_len]; omega
theorem zerosQ (n : Nat) : zerosL n [.int .i64 0, .int .i64 0, .string ⟨#[]⟩, .string ⟨#[]⟩] = (List.replicate n q0).flatMap encQ := by
 show (List.replicate n [_, _, _, _]).flatten = _
 rw [List.flatMap, List.map_replicate]; rfl
theorem map_set {α : Type} (n i : Nat) (f : Nat → α) (v : α) : ((List.range n).map f).set i v = (List.range n).map fun j => if j = i then v else f j := by
 apply List.ext_getElem?
 intro j
 rw [List.getElem?_set]
 simp only [List.getElem?_map, List.length_map, List.length_range]
 by_cases hj : j < n
 ·rw [List.getElem?_range hj]
  by_cases e : i = j
  ·subst e; simp [hj]
  ·have : ¬ j = i := fun z => e z.symm
   simp [e, this]
 ·have : (List.range n)[j]? = none := List.getElem?_eq_none (by simp; omega)
  rw [this]
  by_cases e : i = j
  ·subst e; simp [hj]
  ·simp [e]
def may (n : Int) : Bool := decide (1 ≤ n ∧ n ≤ 255)
def askL (n : Int) (kind : Int) (name data : ByteArray) : List Rq := if may n = true then (List.range n.toNat).map (fun i : Nat => ((i : Int), kind, name, data)) else []
section
variable {k : Nat} {D : CallF}
theorem ask_spec {h : AHeap} (n kind : Int) (name data : ByteArray) (hk : 256 < k) : Gx.Wp (fan_ask k D n (0, kind, name, data) h) fun z => Keeps h z.2 ∧
  ((may n = false ∧ z.1 = nils) ∨ (may n = true ∧ ∃ b, z.1 = ⟨some ⟨b, 0, some 0⟩, n.toNat, n.toNat⟩ ∧ h.next ≤ b ∧ b < z.2.next ∧ z.2.get b = some (.cells ((askL n kind name data).flatMap encQ) 32 true 0))) := by
 simp only [fan_ask]
 refine Gx.Wp.new fun H1 k1 n1 g1 => Gx.Wp.bnd (may_spec9 k D n H1) ?_
 by_cases c : 1 ≤ n ∧ n ≤ 255
 ·rw [decide_eq_true c]
  have hm : may n = true := decide_eq_true c
  obtain ⟨m, rfl⟩ : ∃ m : Nat, n = (m : Int) := ⟨n.toNat, by omega⟩
  refine Gx.Wp.ifn (fun z => by cases z) (Gx.Wp.ifp ⟨by omega, by omega, by omega, by omega⟩ (Gx.Wp.new fun H3 k3 n3 g3 => Gx.Wp.jn fun j hj => ?_))
  rw [zerosQ, Int.toNat_natCast] at g3
  unfold fan_ask_l0
  obtain ⟨bot, eb⟩ := iterK_of (fun _ _ _ _ _ => none) (fan_ask_l0b k D j) (show m + 1 ≤ k by omega)
  rw [eb, Int.toNat_natCast]
  dsimp only at n3 g3 k3 ⊢
  have q3 := k3.got (by omega) g1
  have loop : ∀ (d i : Nat) (h' : AHeap), i + d = m → Chg (· = H1.next) H3 h' → h'.next = H3.next → h'.get H1.next = some (.cells (((List.range m).map fun j => if j < i then ((j : Int), kind, name, data) else q0).flatMap encQ) 32 true 0) →
    Gx.Wp (iterK bot (d + 1) (fan_ask_l0b k D j) (some ⟨h.next, 0, none⟩) ⟨some ⟨H1.next, 0, some 0⟩, m, m⟩ (m : Int) (i : Int) h') fun z => Keeps h z.2 ∧ ((may (m : Int) = false ∧ z.1 = nils) ∨ (may (m : Int) = true ∧ ∃ b, z.1 = ⟨some ⟨b, 0, some 0⟩, m, m⟩ ∧ h.next ≤ b ∧ b < z.2.next ∧ z.2.get b = some (.cells ((askL (m : Int) kind name data).flatMap encQ) 32 true 0))) := fun d => by
   induction d with
   | zero =>
    intro i h' hd c' n' g'
    obtain rfl : i = m := by omega
    rw [iterK_s]; simp only [fan_ask_l0b]
    subst hj
    refine Gx.Wp.ifn (by simp) (Gx.Wp.of ⟨Chg.beh (T := (· = H1.next)) (k1.trans k3) c' fun y hy q => by omega, .inr ⟨hm, H1.next, rfl, by omega, by dsimp only; omega, ?_⟩⟩)
    rw [g']
    unfold askL
    rw [if_pos hm, Int.toNat_natCast]
    congr 3
    refine List.map_congr_left fun j hj => ?_
    rw [if_pos (by simpa using hj)]
   | succ d ih =>
    intro i h' hd c' n' g'
    rw [iterK_s]; simp only [fan_ask_l0b]
    have q' := c'.got (by omega) (by omega) q3
    have hix : ((List.range m).map fun j => if j < i then ((j : Int), kind, name, data) else q0)[i]? = some q0 := by
     rw [List.getElem?_map, List.getElem?_range (by omega)]; simp
    have ix : Gx.idxL 4 (⟨some ⟨H1.next, 0, some 0⟩, m, m⟩ : Slc) (i : Int) = some ⟨H1.next, i * 4, none⟩ := by
     simp only [idxL]
     rw [if_pos (by omega)]
     simp
    refine Gx.Wp.ifp (by simp; omega) (Gx.Wp.bnd rfl (Gx.Wp.bnd (sldA_at q' rfl) (Gx.Wp.bnd rfl (Gx.Wp.bnd ix ?_))))
    refine Gx.Wp.bnd (stQ (y := (0, kind, name, data)) g' hix) (Gx.Wp.bnd ix ?_)
    have hix2 : (((List.range m).map fun j => if j < i then ((j : Int), kind, name, data) else q0).set i (0, kind, name, data))[i]? = some (0, kind, name, data) := by
     rw [List.getElem?_set]; simp; omega
    refine Gx.Wp.bnd (stQ1 (j := 0) (y := ((i : Int), kind, name, data)) (sset_get _ _ _) hix2 (by decide) rfl rfl) ?_
    rw [Gx.w1 (by omega)]
    refine ih (i + 1) _ (by omega) (c'.trans ((Chg.set (S := (· = H1.next)) (.inr rfl)).trans (Chg.set (S := (· = H1.next)) (.inr rfl)))) n' ?_
    rw [sset_get]
    congr 3
    rw [List.set_set, map_set]
    refine List.map_congr_left fun j hj => ?_
    by_cases e : j = i
    ·subst e; simp
    ·by_cases e2 : j < i
     ·rw [if_neg e, if_pos e2, if_pos (by omega)]
     ·rw [if_neg e, if_neg e2, if_neg (by omega)]
  refine loop m 0 H3 (by omega) (Chg.refl _ _) rfl ?_
  rw [g3]
  congr 3
  simp only [Nat.not_lt_zero, if_false]
  rw [List.map_const', List.length_range]
 ·rw [decide_eq_false c]
  exact Gx.Wp.ifp rfl (Gx.Wp.of ⟨k1, .inl ⟨decide_eq_false c, rfl⟩⟩)
end
end Gs
namespace Gs
open Go Gx
def ThenC (L : Nat → CallF) (N c ib : Nat) (g : Nat) (x y : Array Value) (len : Nat) (K : List Int → Prg) (O : Nat → Prop) (h : AHeap) : Prop :=
 ∀ n, c ≤ n → ∀ (P : Nat → Prop) (h' : AHeap) (m st : Nat) (q : Rq), (∀ y, O y → P y) → Agr (But O ib) h h' → (∀ y, P y → y < m) → m ≤ h'.next → P ib → h'.get ib = some (.cells (ioC q .nilFunc false 0 0 nils nils st) 130 true 0) →
  ∀ (cs : List Int) (sl : Slc), Row encI h' sl cs → cs.length = len → (∀ a, sl.a = some a → m ≤ a.block ∧ a.block < h'.next) →
  Does (L n) g x y [.slice sl.a sl.len sl.cap] h' fun h'' => Chg (In P m) h' h'' ∧ IoQ L N ib (K cs) st (Gr P m h'') h''
def codesY (ys : List Ry) : List Int := ys.map (·.1)
theorem say_codes {h : AHeap} {xs : List Rp} {ys : List Ry} (S : Say h xs ys) : xs.map (·.1) = codesY ys := by
 apply List.ext_getElem?
 intro i
 simp only [codesY, List.getElem?_map]
 by_cases hi : i < xs.length
 ·obtain ⟨x, hx⟩ := isome hi
  obtain ⟨y, hy⟩ := isome (l := ys) (i := i) (by rw [← S.1]; exact hi)
  rw [hx, hy]
  simp [(S.2 i x y hx hy).1]
 ·rw [List.getElem?_eq_none (by omega), List.getElem?_eq_none (by rw [← S.1]; omega)]; rfl
section
variable {k N c ib b len : Nat} {g : Nat} {x y : Array Value} {K : List Int → Prg} {O : Nat → Prop} {h : AHeap}
theorem then_codes {X : Slc → Option Addr → AHeap → Nat → Option (Unit × AHeap)} {gn : Nat} (hgn : gn ∈ closL) (hX : ∀ (n : Nat) (sl : Slc) (a : Option Addr) (h : AHeap), ∀ (R : Type) (κ : Value → AHeap → Option R), lvl k (n + 1) R gn ([.slice sl.a sl.len sl.cap] ++ [.pointer a]) h κ = (X sl a h n).bind fun r => κ (.tuple ⟨[]⟩) r.2)
  (hW : ∀ (n : Nat) (sl : Slc) (h' : AHeap) (Q : Unit × AHeap → Prop) (s2 : Slc) (h2 : AHeap), fan_codes k (lvl k n) sl h' = some (s2, h2) → Keeps h' h2 → h'.get b = some (.cells [.func (.func g) x y] 145 true 0) → b < h'.next →
   (∀ h3, Does (lvl k n) g x y [.slice s2.a s2.len s2.cap] h2 (fun h'' => h'' = h3) → Q ((), h3)) → (∃ h3, Does (lvl k n) g x y [.slice s2.a s2.len s2.cap] h2 (fun h'' => h'' = h3)) → Gx.Wp (X sl (some ⟨b, 0, none⟩) h' n) Q)
  (T : ThenC (lvl k) N c ib g x y len K O h) (ob : But O ib b) (hb : h.get b = some (.cells [.func (.func g) x y] 145 true 0)) (hl : len ≤ 1048576) (hk : len < k) :
  ThenP (lvl k) N (c + 1) ib gn ⟨[]⟩ ⟨[ptr b]⟩ len (fun ys => K (codesY ys)) O h := by
 intro n hn P h' m st q sub ag lt hm hP hio ys xs sl R S hys ow so sm
 obtain ⟨n', rfl⟩ : ∃ n', n = n' + 1 := ⟨n - 1, by omega⟩
 have lb := lt _ (sub _ ob.1)
 have hb' := (ag.eq _ ob).trans hb
 have lx : xs.length = len := by rw [S.1]; exact hys
 refine Does.of (X := X sl (some ⟨b, 0, none⟩) h' n') hgn (fun R κ => hX n' sl _ h' R κ) ?_
 obtain ⟨z, hz, k1, A⟩ := codes_spec (k := k) (D := lvl k n') R (by omega) (by omega)
 rw [say_codes S] at A
 have n1 := k1.nx
 have li := lt _ hP
 have d := T n' (by omega) P z.2 m st q sub (ag.trans (chg_agr k1 (fun y o => by have := lt _ (sub _ o.1); omega) fun y o f => f)) lt (by omega) hP (k1.got (by omega) hio) (codesY ys) z.1 A.row (by simp [codesY, hys]) (fun a ha => ⟨by have := (A.lt a ha).2; omega, (A.lt a ha).1⟩)
 obtain ⟨hg, h3, qq, e⟩ := d
 refine hW n' sl h' _ z.1 z.2 hz k1 hb' (by omega) (fun h4 d4 => ?_) ⟨h3, hg, h3, rfl, e⟩
 obtain ⟨_, h5, rfl, e5⟩ := d4
 have : h3 = h5 := by
  have := (e AHeap fun _ h => some h).symm.trans (e5 AHeap fun _ h => some h)
  exact Option.some.inj this
 subst this
 obtain ⟨c3, i3⟩ := qq
 exact ⟨(Chg.keeps k1).trans c3, i3⟩
theorem run_does {D : CallF} {g : Nat} {x y : Array Value} {args : List Value} {h : AHeap} {es : List Ent} (hes : apartC es = true) {Q : Unit × AHeap → Prop} (w : ∃ h3, Does D g x y args h fun h'' => h'' = h3) (k : ∀ h3, Does D g x y args h (fun h'' => h'' = h3) → Q ((), h3)) :
  Gx.Wp (callD (mkC D es) (.func (.func g) x y) args h fun _ h8 => some ((), h8)) Q := by
 obtain ⟨h3, d⟩ := w
 exact Does.wp d hes fun h4 e4 => by subst e4; exact Gx.Wp.of (k _ d)
theorem then123 (T : ThenC (lvl k) N c ib g x y len K O h) (ob : But O ib b) (hb : h.get b = some (.cells [.func (.func g) x y] 145 true 0)) (hl : len ≤ 1048576) (hk : len < k) : ThenP (lvl k) N (c + 1) ib 123 ⟨[]⟩ ⟨[ptr b]⟩ len (fun ys => K (codesY ys)) O h := by
 refine then_codes (X := fun sl a h n => fan_Puts_1 k (lvl k n) sl a h) (by decide) (fun n sl a h R κ => rfl) (fun n sl h' Q s2 h2 e k1 hb' lb q w => ?_) T ob hb hl hk
 simp only [fan_Puts_1]
 refine Gx.Wp.bnd e (Gx.Wp.bnd rfl (Gx.Wp.bnd (ldV_at (k1.got lb hb') rfl) (Gx.Wp.gp (ssw1 (bnd rfl (bnd (ldV_at hb' rfl) rfl))) ?_)))
 exact run_does (by kernel_rfl) w q
theorem then126 (T : ThenC (lvl k) N c ib g x y len K O h) (ob : But O ib b) (hb : h.get b = some (.cells [.func (.func g) x y] 145 true 0)) (hl : len ≤ 1048576) (hk : len < k) : ThenP (lvl k) N (c + 1) ib 126 ⟨[]⟩ ⟨[ptr b]⟩ len (fun ys => K (codesY ys)) O h := by
 refine then_codes (X := fun sl a h n => fan_Dels_1 k (lvl k n) sl a h) (by decide) (fun n sl a h R κ => rfl) (fun n sl h' Q s2 h2 e k1 hb' lb q w => ?_) T ob hb hl hk
 simp only [fan_Dels_1]
 refine Gx.Wp.bnd e (Gx.Wp.bnd rfl (Gx.Wp.bnd (ldV_at (k1.got lb hb') rfl) (Gx.Wp.gp (ssw1 (bnd rfl (bnd (ldV_at hb' rfl) rfl))) ?_)))
 exact run_does (by kernel_rfl) w q
theorem then86 {b1 : Nat} (ob : But O ib b1) (hb : h.get b1 = some (.cells [ptr ib] 80 true 0)) (hl : len ≤ 1048576) (hk : len < k) : ThenC (lvl k) N 1 ib 86 ⟨[]⟩ ⟨[ptr b1]⟩ len (fun cs => finP ⟨firstC [] cs, goodC cs, [], []⟩) O h := by
 intro n hn P h' m st q sub ag lt hm hP hio cs sl R hcs ow
 obtain ⟨n', rfl⟩ : ∃ n', n = n' + 1 := ⟨n - 1, by omega⟩
 have lb := lt _ (sub _ ob.1)
 have li := lt _ hP
 have hb' := (ag.eq _ ob).trans hb
 refine Does.of (X := fan_PutJob_1_1 k (lvl k n') sl (some ⟨b1, 0, none⟩) h') (by decide) (fun R κ => rfl) ?_
 simp only [fan_PutJob_1_1]
 have hnil : Row encI h' (⟨none, 0, 0⟩ : Slc) [] := ⟨rfl, fun i x hx => by simp at hx⟩
 refine Gx.Wp.bnd (first_spec R hnil (by omega) (by omega) (by decide) (by show 0 < k; omega)) (Gx.Wp.bnd (good_spec R (by omega) (by omega)) (Gx.Wp.bnd rfl (Gx.Wp.bnd (ldP_at hb' rfl) (Gx.Wp.gp ?_ ?_))))
 ·intro H hH
  simp at hH
  rcases hH with rfl | rfl <;> exact bnd rfl (bnd (ldP_at hb' rfl) rfl)
 ·refine Gx.Wp.call (End_spec (lvl k n') hio (by dsimp only; omega)) fun z hz => Gx.Wp.of ?_
  obtain ⟨c1, g1⟩ := hz
  exact ⟨c1.wk fun y _ q => .inl (q ▸ hP), fun _ _ => trivial, .inl ⟨q, nils, nils, g1, ⟨rfl, fun i x hx => by simp at hx⟩, ⟨rfl, fun i x hx => by simp at hx⟩, (fun a ha => by cases ha), (fun a ha => by cases ha)⟩⟩
end
end Gs
namespace Gs
open Go Gx
def putsL (name : ByteArray) (data : List ByteArray) : List Rq := if may data.length = true then (List.range data.length).map (fun i : Nat => ((i : Int), (1 : Int), name, (data[i]?).getD nob)) else []
theorem putsL_len {name : ByteArray} {data : List ByteArray} : (putsL name data).length ≤ 255 := by
 unfold putsL
 split
 ·rename_i h
  have : 1 ≤ (data.length : Int) ∧ (data.length : Int) ≤ 255 := by simpa [may] using h
  simp; omega
 ·exact Nat.zero_le _
theorem askL_len {n kind : Int} {name data : ByteArray} : (askL n kind name data).length ≤ 255 := by
 unfold askL
 split
 ·rename_i h
  have : 1 ≤ n ∧ n ≤ 255 := by simpa [may] using h
  simp; omega
 ·exact Nat.zero_le _
section
variable {k N c ib : Nat} {g : Nat} {x y : Array Value} {K : List Int → Prg} {O : Nat → Prop} {h : AHeap}
theorem ThenC.frame {len : Nat} {L : Nat → CallF} {P : Nat → Prop} {h2 : AHeap} (T : ThenC L N c ib g x y len K O h) (sub : ∀ y, O y → P y) (a : Agr (But O ib) h h2) : ThenC L N c ib g x y len K P h2 :=
 fun n hn P' h' m st q s ag => T n hn P' h' m st q (fun y o => s y (sub y o)) (a.trans (ag.wk fun y o => ⟨sub y o.1, o.2⟩))
theorem ThenC.none {len : Nat} {L : Nat → CallF} (T : ∀ len, ThenC L N c ib g x y len K O h) : ThenC L N c ib g x y len K O h := T len
theorem Puts_io {n st m : Nat} {q : Rq} {name : ByteArray} {dsl : Slc} {data : List ByteArray} (hN : c + 4 ≤ N) (hn : c + 3 ≤ n) (hk : 1000 < k) (T : ThenC (lvl k) N c ib g x y (putsL name data).length K O h) (hO : O ib) (lt : ∀ y, O y → y < m) (hm : m ≤ h.next)
  (hio : h.get ib = some (.cells (ioC q .nilFunc false 0 0 nils nils st) 130 true 0)) (R : Row encS h dsl data) :
  Gx.Wp (fan_Puts k (lvl k n) (some ⟨ib, 0, none⟩) name dsl (.func (.func g) x y) h) fun z => Chg (In O m) h z.2 ∧ IoQ (lvl k) N ib (askAll (putsL name data) [] fun ys => K (codesY ys)) st (Gr O m z.2) z.2 := by
 simp only [fan_Puts]
 have ec : (Value.func (.func g) x y).cells.toList = [.func (.func g) x y] := rfl
 rw [ec]
 have li := lt _ hO
 refine Gx.Wp.new fun H1 k1 n1 g1 => Gx.Wp.call (ask_spec _ 1 name ⟨#[]⟩ (by omega)) fun r2 q2 => ?_
 obtain ⟨k2, q2⟩ := q2
 have n2 := k2.nx
 rw [R.1] at q2
 have fin : ∀ (l : Slc) (H : AHeap), Keeps H1 H → RowW 4 encQ H l (putsL name data) → Gx.Wp ((port_IO_All k (lvl k n) (some ⟨ib, 0, none⟩) l (.func (.func 123) ⟨[]⟩ ⟨[.pointer (some ⟨h.next, 0, none⟩)]⟩) H).bind fun r8 => some ((), r8.2)) fun z => Chg (In O m) h z.2 ∧ IoQ (lvl k) N ib (askAll (putsL name data) [] fun ys => K (codesY ys)) st (Gr O m z.2) z.2 := by
  intro l H kH RH
  have nH := kH.nx
  have kk : Keeps h H := k1.trans kH
  have T2 : ThenC (lvl k) N c ib g x y (putsL name data).length K (fun y => O y ∨ y = h.next) H := T.frame (fun y o => .inl o) (chg_agr kk (fun y o => by have := lt _ o.1; omega) fun y o f => f)
  have hl : (putsL name data).length ≤ 255 := putsL_len
  have A := All_io (k := k) (N := N) (c := c + 1) (n := n) (qs := putsL name data) (l := l) (O := fun y => O y ∨ y = h.next) (m := H.next) (by omega) (by omega) (then123 T2 ⟨.inr rfl, by omega⟩ (kH.got (by omega) g1) (by omega) (by omega)) (.inl hO) (fun y o => by rcases o with o | o; have := lt y o; omega; omega) (Nat.le_refl _) (kk.got (by omega) hio) RH (by omega)
  refine Gx.Wp.call A fun z hz => Gx.Wp.of ?_
  obtain ⟨cz, iz⟩ := hz
  have nz := cz.nx
  refine ⟨Chg.beh (Chg.keeps kk) cz fun y hy o => ?_, iz.mono fun y o => ?_⟩
  ·rcases o with (o | o) | o
   ·exact .inl o
   ·omega
   ·omega
  ·rcases o with (o | o) | o
   ·exact .inl o
   ·exact .inr ⟨by omega, by dsimp only; omega⟩
   ·exact .inr ⟨by omega, o.2⟩
 refine Gx.Wp.jn fun j7 hj => ?_
 unfold fan_Puts_l0
 rcases q2 with ⟨hm0, e2⟩ | ⟨hm1, b, e2, hb1, hb2, hb⟩
 ·rw [e2]
  obtain ⟨bot, eb⟩ := iterK_of (fun _ _ _ _ _ _ _ => none) (fan_Puts_l0b k (lvl k n) j7) (show 0 + 1 ≤ k by omega)
  rw [eb, iterK_s]; simp only [fan_Puts_l0b]
  subst hj
  have e0 : putsL name data = [] := by unfold putsL; rw [if_neg (by rw [hm0]; decide)]
  exact Gx.Wp.ifn (by decide) (fin nils r2.2 k2 (by rw [e0]; exact ⟨rfl, fun i x hx => by simp at hx⟩))
 ·have hmm : 1 ≤ (data.length : Int) ∧ (data.length : Int) ≤ 255 := by simpa [may] using hm1
  rw [Int.toNat_natCast] at e2
  rw [e2]
  obtain ⟨bot, eb⟩ := iterK_of (fun _ _ _ _ _ _ _ => none) (fan_Puts_l0b k (lvl k n) j7) (show data.length + 1 ≤ k by omega)
  rw [eb]
  have loop : ∀ (d i : Nat) (H : AHeap), i + d = data.length → Chg (· = b) r2.2 H → H.get b = some (.cells (((List.range data.length).map fun j : Nat => ((j : Int), (1 : Int), name, if j < i then (data[j]?).getD nob else nob)).flatMap encQ) 32 true 0) →
    Gx.Wp (iterK bot (d + 1) (fan_Puts_l0b k (lvl k n) j7) (some ⟨ib, 0, none⟩) dsl (some ⟨h.next, 0, none⟩) ⟨some ⟨b, 0, some 0⟩, data.length, data.length⟩ (data.length : Int) (i : Int) H) fun z => Chg (In O m) h z.2 ∧ IoQ (lvl k) N ib (askAll (putsL name data) [] fun ys => K (codesY ys)) st (Gr O m z.2) z.2 := fun d => by
   induction d with
   | zero =>
    intro i H hd cH gH
    obtain rfl : i = data.length := by omega
    rw [iterK_s]; simp only [fan_Puts_l0b]
    subst hj
    have e1 : ((List.range data.length).map fun j : Nat => ((j : Int), (1 : Int), name, if j < data.length then (data[j]?).getD nob else nob)) = putsL name data := by
     unfold putsL
     rw [if_pos hm1]
     refine List.map_congr_left fun j hj => ?_
     rw [if_pos (by simpa using hj)]
    rw [e1] at gH
    have hn := cH.nx
    have RQ := rowW_blk (cap := data.length) (sp := some 0) encQ_len gH (by omega) (Nat.le_refl _)
    rw [List.take_length] at RQ
    have lq : (putsL name data).length = data.length := by rw [← e1]; simp
    rw [lq] at RQ
    exact Gx.Wp.ifn (by simp) (fin _ H (Chg.beh (T := (· = b)) k2 cH fun y hy o => by omega) RQ)
   | succ d ih =>
    intro i H hd cH gH
    rw [iterK_s]; simp only [fan_Puts_l0b]
    have kk : Keeps h H := Chg.beh (T := (· = b)) (k1.trans k2) cH fun y hy o => by omega
    obtain ⟨dt, hdt⟩ := isome (l := data) (i := i) (by omega)
    obtain ⟨p, p1, p2⟩ := (Row.keeps R kk).ldS hdt
    have hix : ((List.range data.length).map fun j : Nat => ((j : Int), (1 : Int), name, if j < i then (data[j]?).getD nob else nob))[i]? = some ((i : Int), (1 : Int), name, nob) := by
     rw [List.getElem?_map, List.getElem?_range (by omega)]; simp
    have ix : Gx.idxL 4 (⟨some ⟨b, 0, some 0⟩, data.length, data.length⟩ : Slc) (i : Int) = some ⟨b, i * 4, none⟩ := by
     simp only [idxL]
     rw [if_pos (by omega)]
     simp
    refine Gx.Wp.ifp (by simp; omega) (Gx.Wp.bnd p1 (Gx.Wp.bnd p2 (Gx.Wp.bnd ix (Gx.Wp.bnd (stQ1 (j := 3) (y := ((i : Int), (1 : Int), name, dt)) gH hix (by decide) rfl rfl) ?_))))
    rw [Gx.w1 (by omega)]
    refine ih (i + 1) _ (by omega) (cH.trans (Chg.set (.inr rfl))) ?_
    rw [sset_get]
    congr 3
    rw [map_set]
    refine List.map_congr_left fun j hj => ?_
    by_cases e : j = i
    ·subst e; simp [hdt]
    ·by_cases e2 : j < i
     ·rw [if_neg e, if_pos e2, if_pos (by omega)]
     ·rw [if_neg e, if_neg e2, if_neg (by omega)]
  refine loop data.length 0 r2.2 (by omega) (Chg.refl _ _) ?_
  rw [hb]
  congr 3
  unfold askL
  rw [if_pos hm1, Int.toNat_natCast]
  rfl
end
end Gs
namespace Gs
open Go Gx
def fanP (n : Int) (p : Prg) : Prg := if may n = true then p else finP ⟨1, 0, [], []⟩
theorem fanJob {k N n : Nat} (hn : 2 ≤ n) {n0 : Int} {g : Nat} {x y : Array Value} {p : Prg} {h : AHeap}
  (run : may n0 = true → ∀ (h' : AHeap) (ib : Nat), Keeps h h' → h.next ≤ ib → ib < h'.next → h'.get ib = some (.cells (ioC q0 .nilFunc false 0 0 nils nils 0) 130 true 0) →
   Does (lvl k (n - 1)) g x y [ptr ib] h' fun h'' => Chg (In (fun y => y = ib) h'.next) h' h'' ∧ IoQ (lvl k) N ib p 0 (Gr (fun y => y = ib) h'.next h'') h'') :
  Gx.Wp (fan_job k (lvl k n) n0 (.func (.func g) x y) h) fun z => ∃ jb O, z.1 = some ⟨jb, 0, none⟩ ∧ Keeps h z.2 ∧ JobP (lvl k) N jb (fanP n0 p) 0 O z.2 ∧ (∀ y, O y → h.next ≤ y) ∧ h.next ≤ jb := by
 simp only [fan_job]
 have ec : (Value.func (.func g) x y).cells.toList = [.func (.func g) x y] := rfl
 rw [ec]
 refine Gx.Wp.new fun H1 k1 n1 g1 => Gx.Wp.new fun H2 k2 n2 g2 => ?_
 obtain ⟨n', rfl⟩ : ∃ n', n = n' + 1 := ⟨n - 1, by omega⟩
 obtain ⟨ib, eib⟩ : ∃ ib, ib = H2.next := ⟨_, rfl⟩
 refine Gx.Wp.call (Start_P (L := lvl k) (N := N) (p := fanP n0 p) (O := fun _ => False) (fun y f => f.elim) fun h' kp h2 hio => ?_) fun r hr => ?_
 ·rw [← eib] at hio h2 ⊢
  refine Does.of (X := fan_job_1 k (lvl k n') (some ⟨ib, 0, none⟩) (some ⟨h.next, 0, none⟩) (some ⟨H1.next, 0, none⟩) h') (by decide) (fun R κ => rfl) ?_
  simp only [fan_job_1]
  have np := kp.nx
  have b1 := kp.got (by omega) (k2.got (by omega) g1)
  have b2 := kp.got (by omega) g2
  refine Gx.Wp.bnd rfl (Gx.Wp.bnd (sldI_at b1 rfl) (Gx.Wp.bnd (may_spec9 k _ n0 h') ?_))
  by_cases c : 1 ≤ n0 ∧ n0 ≤ 255
  ·have hm : may n0 = true := decide_eq_true c
   rw [decide_eq_true c]
   refine Gx.Wp.ifn (fun z => by cases z) (Gx.Wp.bnd rfl (Gx.Wp.bnd (ldV_at b2 rfl) ?_))
   refine Does.wp (run hm h' ib ((k1.trans k2).trans kp) (by omega) h2 hio) (by kernel_rfl) fun h6 q6 => Gx.Wp.of ?_
   unfold fanP
   rw [if_pos hm]
   exact ⟨q6.1.wk fun y _ z => z.imp .inr id, q6.2.mono fun y z => z.imp .inr id⟩
  ·have hm : may n0 = false := decide_eq_false c
   rw [decide_eq_false c]
   refine Gx.Wp.ifp rfl (Gx.Wp.call (End_spec (lvl k n') hio (by dsimp only; omega)) fun z hz => Gx.Wp.of ?_)
   obtain ⟨c1, g1'⟩ := hz
   unfold fanP
   rw [if_neg (by rw [hm]; decide)]
   exact ⟨c1.wk fun y _ q => .inl (.inr q), fun _ _ => trivial, .inl ⟨q0, nils, nils, g1', ⟨rfl, fun i x hx => by simp at hx⟩, ⟨rfl, fun i x hx => by simp at hx⟩, (fun a ha => by cases ha), (fun a ha => by cases ha)⟩⟩
 ·obtain ⟨jb, O, e, c, J, _, far, hj⟩ := hr
  exact Gx.Wp.of ⟨jb, O, e, (k1.trans k2).trans (c.wk fun y _ f => f), J, fun y o => (far y o).elim (fun f => f.elim) fun q => by omega, by omega⟩
def codesZ (cs : List Int) : Rz := ⟨firstC [] cs, goodC cs, [], []⟩
def putP (name : ByteArray) (data : List ByteArray) : Prg := fanP data.length (askAll (putsL name data) [] fun ys => finP (codesZ (codesY ys)))
theorem PutJob_P {k n : Nat} (hn : 8 ≤ n) (hk : 1000 < k) {h : AHeap} {name : ByteArray} {dsl : Slc} {data : List ByteArray} (R : Row encS h dsl data) (hl : data.length ≤ 1099511627776) :
  Gx.Wp (fan_PutJob k (lvl k n) name dsl h) fun z => ∃ jb O, z.1 = some ⟨jb, 0, none⟩ ∧ Keeps h z.2 ∧ JobP (lvl k) 5 jb (putP name data) 0 O z.2 ∧ (∀ y, O y → h.next ≤ y) ∧ h.next ≤ jb := by
 simp only [fan_PutJob]
 refine Gx.Wp.new fun H1 k1 n1 g1 => Gx.Wp.new fun H2 k2 n2 g2 => Gx.Wp.bnd (sldL_at g2 rfl) ?_
 refine Gx.Wp.call (cloneS_acc (lvl k n) (s := ⟨dsl.a, dsl.len, dsl.cap⟩) (Row.keeps R (k1.trans k2)) hl) fun r4 q4 => ?_
 obtain ⟨k4, R4, f4⟩ := q4
 have n4 := k4.nx
 refine Gx.Wp.st (sp := none) (k4.got (by omega) g2) (by show 0 < 1; omega) rfl fun H5 (c5 : Chg (· = H1.next) r4.2 H5) n5 g5 => ?_
 have g5 : H5.get H1.next = some (.cells [.slice r4.1.a r4.1.len r4.1.cap] 22 true 0) := g5
 refine Gx.Wp.bnd (sldL_at g5 rfl) ?_
 have R5 : Row encS H5 ⟨r4.1.a, r4.1.len, r4.1.cap⟩ data := Row.chg R4 c5 fun a ha q => by have := f4 a ha; omega
 have len : ((⟨r4.1.a, r4.1.len, r4.1.cap⟩ : Slc).len : Int) = (data.length : Int) := by rw [R5.1]
 rw [len]
 have k5 : Keeps h H5 := Chg.beh (T := (· = H1.next)) ((k1.trans k2).trans k4) c5 fun y hy q => by omega
 have nm5 := c5.got (by omega) (by omega) (k4.got (by omega) (k2.got (by omega) g1))
 obtain ⟨n', rfl⟩ : ∃ n', n = n' + 2 := ⟨n - 2, by omega⟩
 refine Gx.Wp.call (fanJob (N := 5) (p := askAll (putsL name data) [] fun ys => finP (codesZ (codesY ys))) (by omega) fun hm h' ib kp h1 h2 hio => ?_) fun z hz => ?_
 ·refine Does.of (X := fan_PutJob_1 k (lvl k n') (some ⟨ib, 0, none⟩) (some ⟨h.next, 0, none⟩) (some ⟨H1.next, 0, none⟩) h') (by decide) (fun R κ => rfl) ?_
  simp only [fan_PutJob_1]
  have np := kp.nx
  refine Gx.Wp.new fun H7 k7 n7 g7 => Gx.Wp.bnd (ldP_at g7 rfl) (Gx.Wp.bnd rfl (Gx.Wp.bnd (ldS_at (k7.got (by omega) (kp.got (by omega) nm5)) rfl) (Gx.Wp.bnd rfl (Gx.Wp.bnd (sldL_at (k7.got (by omega) (kp.got (by omega) g5)) rfl) ?_))))
  have hl2 : (putsL name data).length ≤ 255 := putsL_len
  have P := Puts_io (k := k) (N := 5) (c := 1) (n := n') (ib := ib) (O := fun y => y = ib ∨ y = h'.next) (m := H7.next) (h := H7) (name := name) (dsl := ⟨r4.1.a, r4.1.len, r4.1.cap⟩) (data := data) (K := fun cs => finP (codesZ cs)) (by omega) (by omega) hk (then86 (b1 := h'.next) ⟨.inr rfl, by omega⟩ g7 (by omega) (by omega)) (.inl rfl) (fun y q => by omega) (Nat.le_refl _) (k7.got (by omega) hio) (Row.keeps R5 (kp.trans k7))
  refine Gx.Wp.call P fun z hz => Gx.Wp.of ?_
  obtain ⟨c, i⟩ := hz
  have nz := c.nx
  refine ⟨Chg.beh (Chg.keeps k7) c fun y hy q => ?_, i.mono fun y q => ?_⟩
  ·rcases q with (q | q) | q
   ·exact .inl q
   ·exact .inr (by omega)
   ·exact .inr (by omega)
  ·rcases q with (q | q) | q
   ·exact .inl q
   ·exact .inr ⟨by omega, by dsimp only; omega⟩
   ·exact .inr ⟨by omega, q.2⟩
 ·obtain ⟨jb, O, e, kz, J, far, hj⟩ := hz
  have := k5.nx
  exact Gx.Wp.of ⟨jb, O, e, k5.trans kz, J, fun y o => by have := far y o; omega, by omega⟩
theorem run9 {L : Nat → CallF} {k n N jb : Nat} (hn : N ≤ n) {sl : Slc} {p p' : Prg} {ss ss' : List Sb} {s m st : Nat} {O : Nat → Prop} {h : AHeap} (R : RunR k 300 p ss p' ss' s) (J : JobP L N jb p st O h) (T : Sts h sl m ss) (lts : ∀ y, SSet ss y → y < h.next ∧ ¬ JSet O jb y) (hsl : ∀ a, sl.a = some a → a.block < h.next ∧ ¬ JSet O jb a.block)
  (hm : m + s ≤ 100000) (hk : m + s < k) (hss : st + s ≤ 1048576) (l1 : p'.res.ids.length ≤ 1099511627776) (l2 : p'.res.texts.length ≤ 1099511627776) :
  Gx.Wp (law09_run k (L n) (some ⟨jb, 0, none⟩) sl h) fun z => ∃ O', z.1.2 = p'.over ∧ ResOk z.2 p'.res z.1.1 ∧ JobP L N jb p' (st + s) O' z.2 ∧ (∀ y, O' y → O y ∨ h.next ≤ y) ∧ (∀ y, SSet ss' y ↔ SSet ss y) ∧ Sts z.2 sl (m + s) ss' ∧ Chg (fun y => SSet ss y ∨ O y) h z.2 := by
 simp only [law09_run]
 refine Gx.Wp.new fun H1 k1 n1 g1 => Gx.Wp.ifn (fun z => by cases z) ?_
 have jl := J.lj
 have ol := J.lt
 refine Gx.Wp.call (Run_P (L := L) hn R (J.chg k1 fun _ _ f => f) (T.keeps k1) (fun y hy => ⟨by have := (lts y hy).1; omega, (lts y hy).2⟩) (fun a ha => ⟨by have := (hsl a ha).1; omega, (hsl a ha).2⟩) hm hk hss) fun r5 q5 => ?_
 obtain ⟨O', v, J5, sub, far, sset, T5, c5⟩ := q5
 have n5 := c5.nx
 refine Gx.Wp.call (Result_F (L n) J5 l1 l2) fun r6 q6 => ?_
 obtain ⟨⟨k6, o6⟩, fa, fb⟩ := q6
 have nin : ¬ (SSet ss h.next ∨ O h.next) := fun z => z.elim (fun z => by have := (lts _ z).1; omega) fun z => by have := ol _ z; omega
 have g6 := k6.got (by omega) (c5.got (by omega) nin g1)
 have n6 := k6.nx
 refine Gx.Wp.stL (sp := none) g6 rfl rfl rfl (by decide) fun H7 c7 n7 g7 => Gx.Wp.bnd (sldA_at g7 rfl) (Gx.Wp.bnd rfl (Gx.Wp.of ?_))
 have nO : ¬ O' h.next := fun z => (far _ z).elim (fun z => by have := ol _ z; omega) fun z => by omega
 have cA : Chg (fun y => SSet ss y ∨ O y) h H7 := Chg.beh (T := (· = h.next)) ((Chg.keeps k1).trans (c5.trans (Chg.keeps k6))) c7 fun y hy q => by omega
 refine ⟨O', ?_, ?_, (J5.chg k6 fun _ _ f => f).chg c7 (fun y hy q => ?_), fun y o => (far y o).imp id fun q => by omega, sset, (T5.keeps k6).chg c7 (fun y hy q => ?_) (fun a ha q => ?_), cA⟩
 ·dsimp only
  rw [v]
  cases p'.over <;> rfl
 ·obtain ⟨o1, o2, o3, o4, o5, o6', o7⟩ := o6
  exact ⟨o1, o2, o3, Row.chg o4 c7 fun a ha q => by have := fa a ha; omega, Row.chg o5 c7 fun a ha q => by have := fb a ha; omega, o6', o7⟩
 ·rcases hy with hy | hy
  ·exact nO (q ▸ hy)
  ·omega
 ·have := (lts y ((sset y).1 hy)).1; omega
 ·have := (hsl a ha).1; omega
end Gs
namespace Gs
open Go Gx
structure Yd (base q : Nat) (h : AHeap) (s : Slc) (ss : List Sb) : Prop where
 As : Acc encB 23 base h s ss
 sr : ∀ t ∈ ss, SR h t.1 t.2.1 (ps0 q) ∧ t.2.2 = ps0 q ∧ base ≤ t.1 ∧ base ≤ t.2.1
 aps : ss.Pairwise fun s t => ¬ SB s.1 s.2.1 t.1 ∧ ¬ SB s.1 s.2.1 t.2.1
theorem Yd.nil (base q : Nat) (h : AHeap) : Yd base q h nils [] := ⟨Acc.nil _ _ _ _, (fun t ht => by simp at ht), .nil⟩
section
variable {base q : Nat} {h : AHeap} {s : Slc} {ss : List Sb}
theorem Yd.push (M : Yd base q h s ss) (hl : ss.length ≤ 1000) (hb : base ≤ h.next) {h1 H : AHeap} (k1 : Keeps h h1) (s1 : SR h1 (h.next + 1) h.next (ps0 q)) (eH : H = h1.new (.cells [ptr (h.next + 1)] 23 true 0)) :
  ∃ s' h' x, rdS 1 (⟨some ⟨h1.next, 0, some 0⟩, 1, 1⟩ : Slc) H = some [ptr (h.next + 1)] ∧ appendA 1 8 23 H s [ptr (h.next + 1)] 1 = some (s', h') ∧ Yd base q h' s' (ss ++ [x]) ∧ Chg (fun y => base ≤ y) h h' := by
 have n1 := k1.nx
 have lt1 := s1.lt
 obtain ⟨x, ex⟩ : ∃ x : Sb, x = (h.next + 1, h.next, ps0 q) := ⟨_, rfl⟩
 have As := M.As.keeps k1
 obtain ⟨s', h3, r3, a3, As', c3, d3⟩ := Acc.pushK As encB_one x (bytes := 8) (H := H) (by rw [eH, ex]; rfl) (by omega) (by decide) (by omega)
 rw [ex] at r3 a3
 have sk : ∀ y, ofS s y → ∃ m c, h1.get y = some (.cells (.pointer m :: c) 23 true 0) := fun y ⟨a, ha, q⟩ => q ▸ accP_blk encB_ptr As ha
 refine ⟨s', h3, x, r3, a3, ⟨As', fun t ht => ?_, List.pairwise_append.2 ⟨M.aps, by simp, fun a ha b hb => ?_⟩⟩, Chg.beh (T := fun y => base ≤ y) (Chg.keeps k1) (c3.wk fun y _ ⟨a, ha, q⟩ => by have := (As.lt a ha).2; omega) fun y hy z => z⟩
 ·have S2 : SR h1 t.1 t.2.1 (ps0 q) ∧ t.2.2 = ps0 q ∧ base ≤ t.1 ∧ base ≤ t.2.1 := by
   rcases List.mem_append.1 ht with ht | ht
   ·obtain ⟨b1, b2, b3⟩ := M.sr t ht
    exact ⟨b1.keeps k1, b2, b3⟩
   ·simp at ht; subst ht ex
    exact ⟨s1, rfl, by dsimp only; omega, hb⟩
  obtain ⟨b1, b2, b3⟩ := S2
  exact ⟨b1.chg c3 (fun z => by obtain ⟨m, c, g⟩ := sk _ z; exact b1.notP g (.inl rfl)) fun z => by obtain ⟨m, c, g⟩ := sk _ z; exact b1.notP g (.inr rfl), b2, b3⟩
 ·simp at hb; subst hb ex
  have := (M.sr a ha).1.lt
  exact ⟨fun z => by rcases z with z | z <;> simp only at z <;> omega, fun z => by rcases z with z | z <;> simp only at z <;> omega⟩
theorem Yd.sts (M : Yd base q h s ss) (hq : q ≤ 1073741824) : Sts h s 0 ss := by
 refine ⟨M.As.row, fun a ha z => ?_, fun i t hi => ?_, fun i j a b hi hj hij => ?_⟩
 ·obtain ⟨t, ht, z⟩ := z
  obtain ⟨m, c, g⟩ := accP_blk encB_ptr M.As ha
  exact ((M.sr t ht).1).notP g z
 ·obtain ⟨b1, b2, _⟩ := M.sr t (mem_of hi)
  rw [b2]
  exact ⟨b1, good0, Nat.le_refl _, Nat.le_refl _, Nat.zero_le _, hq⟩
 ·refine pair_of M.aps (fun a b ha hb z => ?_) hi hj hij
  obtain ⟨z1, z2⟩ := z
  refine ⟨fun w => ?_, fun w => ?_⟩
  ·rcases w with w | w
   ·exact z1 (.inl w.symm)
   ·exact z2 (.inl w.symm)
  ·rcases w with w | w
   ·exact z1 (.inr w.symm)
   ·exact z2 (.inr w.symm)
theorem Yd.sset (M : Yd base q h s ss) {y : Nat} (z : SSet ss y) : base ≤ y ∧ y < h.next := by
 obtain ⟨t, ht, z⟩ := z
 obtain ⟨b1, b2, b3, b4⟩ := M.sr t ht
 have := b1.lt
 rcases z with rfl | rfl <;> omega
theorem Yd.ls (M : Yd base q h s ss) {a : Addr} (ha : s.a = some a) : base ≤ a.block ∧ a.block < h.next ∧ ¬ SSet ss a.block := by
 have b := M.As.lt a ha
 obtain ⟨m, c, g⟩ := accP_blk encB_ptr M.As ha
 exact ⟨b.2, b.1, fun ⟨t, ht, z⟩ => ((M.sr t ht).1).notP g z⟩
theorem Yd.maps (M : Yd base q h s ss) : ss.map (·.2.2) = List.replicate ss.length (ps0 q) := by
 have := List.eq_replicate_of_mem (l := ss.map (·.2.2)) (a := ps0 q) fun x hx => by
  obtain ⟨t, ht, rfl⟩ := List.mem_map.1 hx
  exact (M.sr t ht).2.1
 rw [List.length_map] at this
 exact this
end
theorem yard9 {k : Nat} (D : CallF) {h : AHeap} (n : Nat) (hn : n ≤ 1000) (hk : 1001 < k) : Gx.Wp (law09_yard k D (n : Int) h) fun z => ∃ ss, Yd h.next 1048576 z.2 z.1 ss ∧ Keeps h z.2 ∧ ss.length = n := by
 simp only [law09_yard]
 refine Gx.Wp.jn fun j hj => ?_
 unfold law09_yard_l0
 obtain ⟨bot, eb⟩ := iterK_of (fun _ _ _ _ => none) (law09_yard_l0b k D j) (show n + 1 ≤ k by omega)
 rw [eb]
 have loop : ∀ (d i : Nat) (s : Slc) (h' : AHeap) (ss : List Sb), i + d = n → ss.length = i → Yd h.next 1048576 h' s ss → h.next ≤ h'.next → Chg (fun y => h.next ≤ y) h h' → Gx.Wp (iterK bot (d + 1) (law09_yard_l0b k D j) s (n : Int) (i : Int) h') fun z => ∃ ss, Yd h.next 1048576 z.2 z.1 ss ∧ Keeps h z.2 ∧ ss.length = n := fun d => by
  induction d with
  | zero =>
   intro i s h' ss hd hl M hn' c
   rw [iterK_s]; simp only [law09_yard_l0b]
   subst hj
   exact Gx.Wp.ifn (by simp; omega) (Gx.Wp.of ⟨ss, M, ⟨c.nx, fun x hx _ => c.oth x hx (by omega)⟩, by omega⟩)
  | succ d ih =>
   intro i s h' ss hd hl M hn' c
   rw [iterK_s]; simp only [law09_yard_l0b]
   obtain ⟨h1, e1, k1, s1⟩ := New_spec (k := k) D (h := h') (q := 1048576) (by decide)
   refine Gx.Wp.ifp (by simp; omega) (Gx.Wp.bnd e1 (Gx.Wp.ifn (fun z => by cases z) (Gx.Wp.newE fun H eH kH nH gH => ?_)))
   obtain ⟨s', h3, x, r3, a3, M', c3⟩ := M.push (by omega) hn' k1 s1 eH
   refine Gx.Wp.bnd r3 (Gx.Wp.bnd a3 ?_)
   rw [Gx.w1 (by omega)]
   exact ih (i + 1) s' h3 _ (by omega) (by simp [hl]) M' (by have := c3.nx; omega) (c.trans c3)
 exact loop n 0 nils h [] (by omega) rfl (Yd.nil _ _ _) (Nat.le_refl _) (Chg.refl _ _)
def d9 : List ByteArray := [⟨#[120]⟩, ⟨#[121]⟩]
def q9 : List Rq := putsL ⟨#[97]⟩ d9
theorem ans9 : (ansL q9 [(0, 0, ps0 1048576), (0, 0, ps0 1048576)]).2 = [(0, nob, []), (0, nob, [])] := by kernel_rfl
theorem put9 : putP ⟨#[97]⟩ d9 = askAll q9 [] fun ys => finP (codesZ (codesY ys)) := by
 unfold putP fanP
 rw [if_pos (show may (d9.length : Int) = true by kernel_rfl)]; rfl
theorem works9 {k : Nat} (hk : 2000 < k) {h : AHeap} : Gx.Wp (law09_works k (lvl k 60) h) fun z => z.1 = true ∧ Keeps h z.2 := by
 simp only [law09_works]
 refine Gx.Wp.call (yard9 (lvl k 60) 2 (by decide) (by omega)) fun r1 h1 => ?_
 obtain ⟨ss, M, k1, l1⟩ := h1
 have n1 := k1.nx
 have some1 : ∃ a, r1.1.a = some a := by
  rcases M.As.st with ⟨_, e⟩ | ⟨b, g⟩
  ·rw [e] at l1; cases l1
  ·exact ⟨_, by rw [g.s]⟩
 obtain ⟨a1, ha1⟩ := some1
 refine Gx.Wp.ifn (by rw [ha1]; exact fun z => by cases z) (Gx.Wp.new fun H2 k2 n2 g2 => ?_)
 have R2 : Row encS H2 ⟨some ⟨r1.2.next, 0, some 0⟩, 2, 2⟩ d9 := row_lit d9 (e := 9) (r := true) (fz := 0) g2 (by omega)
 refine Gx.Wp.call (PutJob_P (n := 60) (by decide) (by omega) R2 (by decide)) fun r3 h3 => ?_
 obtain ⟨jb, O, ej, k3, J, far, hj⟩ := h3
 rw [ej]
 have n3 := k3.nx
 have jl := J.lj
 have same := ansL_same (qs := q9) (ss := ss) (uu := [(0, 0, ps0 1048576), (0, 0, ps0 1048576)]) (by rw [M.maps, l1]; rfl)
 have RR' : RunR k 300 (putP ⟨#[97]⟩ d9) ss (finP (codesZ [0, 0])) (ansL q9 ss).1 (0 + q9.length) := by
  rw [put9]
  have w := run_all (k := k) (K := fun ys => finP (codesZ (codesY ys))) (most := 298) (qs := q9) (acc := []) (ss := ss) (p' := finP (codesZ [0, 0])) (ss' := (ansL q9 ss).1) (s := 0) (fun q hq => ?_) ?_
  ·rw [show 298 + q9.length = 300 by kernel_rfl] at w
   exact w
  ·simp only [q9, putsL] at hq
   rw [if_pos (by rfl)] at hq
   obtain ⟨i, _, rfl⟩ := List.mem_map.1 hq
   exact ⟨by show 1 < k; omega, by show 1 ≤ _; decide⟩
  ·rw [List.nil_append, same.1, ans9]
   exact RunR.over
 refine Gx.Wp.call (run9 (L := lvl k) (N := 5) (n := 60) (by decide) RR' J ((M.sts (by decide)).keeps (k2.trans k3)) (fun y hy => ?_) (fun a ha => ?_) (by decide) (by show 0 + 2 < k; omega) (by decide) (by decide) (by decide)) fun r4 h4 => ?_
 ·have := M.sset hy
  exact ⟨by omega, fun z => z.elim (fun z => by have := far y z; omega) fun z => by omega⟩
 ·have := M.ls ha
  exact ⟨by omega, fun z => z.elim (fun z => by have := far _ z; omega) fun z => by omega⟩
 obtain ⟨O', v1, o4, J4, _, _, T4, c4⟩ := h4
 have n4 := c4.nx
 refine Gx.Wp.new fun H5 k5 n5 g5 => Gx.Wp.stL (sp := none) g5 rfl rfl rfl (by decide) fun H6 c6 n6 g6 => ?_
 have k6 : Keeps r4.2 H6 := Chg.beh (T := (· = r4.2.next)) k5 c6 fun y hy q => by omega
 refine Gx.Wp.ifp (by rw [v1]; rfl) (Gx.Wp.bnd (Steps_P _ (J4.chg k6 fun _ _ f => f)) (Gx.Wp.ifp (by rfl) (Gx.Wp.bnd (sldI_at g6 rfl) (Gx.Wp.ifp (by rw [o4.2.2.1]; rfl) (Gx.Wp.bnd (sldI_at g6 rfl) (Gx.Wp.of ⟨?_, ?_⟩))))))
 ·dsimp only
  rw [o4.1]; rfl
 ·refine (Chg.beh (k1.trans (k2.trans k3)) c4 fun y hy z => ?_).trans k6
  rcases z with z | z
  ·have := M.sset z; omega
  ·have := far y z; omega
end Gs
namespace Gs
open Go Gx
section
variable {k : Nat} {D : CallF}
end
end Gs
namespace Gs
open Go Gx
section
variable {k N c ib len : Nat} {g : Nat} {x y : Array Value} {O : Nat → Prop} {h : AHeap}
theorem ThenP.frame {L : Nat → CallF} {K : List Ry → Prg} {P : Nat → Prop} {h2 : AHeap} (T : ThenP L N c ib g x y len K O h) (sub : ∀ y, O y → P y) (a : Agr (But O ib) h h2) : ThenP L N c ib g x y len K P h2 :=
 fun n hn P' h' m st q s ag => T n hn P' h' m st q (fun y o => s y (sub y o)) (a.trans (ag.wk fun y o => ⟨sub y o.1, o.2⟩))
theorem askAll_io {n st m : Nat} {q : Rq} {K : List Ry → Prg} {n0 kind : Int} {name : ByteArray} (hN : c + 3 ≤ N) (hn : c + 2 ≤ n) (hk : 1000 < k) (T : ThenP (lvl k) N c ib g x y (askL n0 kind name nob).length K O h) (hO : O ib) (lt : ∀ y, O y → y < m) (hm : m ≤ h.next)
  (hio : h.get ib = some (.cells (ioC q .nilFunc false 0 0 nils nils st) 130 true 0)) :
  Gx.Wp ((fan_ask k (lvl k n) n0 (0, kind, name, ⟨#[]⟩) h).bind fun r1 => (port_IO_All k (lvl k n) (some ⟨ib, 0, none⟩) r1.1 (.func (.func g) x y) r1.2).bind fun r2 => some ((), r2.2)) fun z => Chg (In O m) h z.2 ∧ IoQ (lvl k) N ib (askAll (askL n0 kind name nob) [] K) st (Gr O m z.2) z.2 := by
 have li := lt _ hO
 refine Gx.Wp.call (ask_spec n0 kind name ⟨#[]⟩ (by omega)) fun r1 q1 => ?_
 obtain ⟨k1, q1⟩ := q1
 have n1 := k1.nx
 have hl : (askL n0 kind name nob).length ≤ 255 := askL_len
 have R1 : RowW 4 encQ r1.2 r1.1 (askL n0 kind name nob) := by
  rcases q1 with ⟨hm0, e⟩ | ⟨hm1, b, e, hb1, hb2, hb⟩
  ·rw [e]
   have : askL n0 kind name nob = [] := by unfold askL; rw [if_neg (by rw [hm0]; decide)]
   rw [this]
   exact ⟨rfl, fun i x hx => by simp at hx⟩
  ·have lq : (askL n0 kind name nob).length = n0.toNat := by unfold askL; rw [if_pos hm1]; simp
   have RQ := rowW_blk (cap := n0.toNat) (n := n0.toNat) (sp := some 0) encQ_len hb hb2 (by rw [show askL n0 kind name ⟨#[]⟩ = askL n0 kind name nob from rfl, lq]; exact Nat.le_refl _)
   rw [List.take_of_length_le (by rw [show askL n0 kind name ⟨#[]⟩ = askL n0 kind name nob from rfl, lq]; exact Nat.le_refl _)] at RQ
   rw [e]; exact RQ
 have T2 : ThenP (lvl k) N c ib g x y (askL n0 kind name nob).length K O r1.2 := T.frame (fun y o => o) (chg_agr k1 (fun y o => by have := lt _ o.1; omega) fun y o f => f)
 refine Gx.Wp.call (All_io (k := k) (N := N) (c := c) (n := n) (O := O) (m := r1.2.next) hN hn T2 hO (fun y o => by have := lt y o; omega) (Nat.le_refl _) (k1.got (by omega) hio) R1 (by omega)) fun z hz => Gx.Wp.of ?_
 obtain ⟨cz, iz⟩ := hz
 refine ⟨Chg.beh (Chg.keeps k1) cz fun y hy o => ?_, iz.mono fun y o => ?_⟩
 ·rcases o with o | o
  ·exact .inl o
  ·omega
 ·rcases o with o | o
  ·exact .inl o
  ·exact .inr ⟨by omega, o.2⟩
end
theorem nilI (h : AHeap) : Row encI h (⟨none, 0, 0⟩ : Slc) [] := ⟨rfl, fun i x hx => by simp at hx⟩
theorem nilS' (h : AHeap) : Row encS h (⟨none, 0, 0⟩ : Slc) [] := ⟨rfl, fun i x hx => by simp at hx⟩
section
variable {k N ib len b1 : Nat} {O : Nat → Prop} {h : AHeap}
def codesD (cs : List Int) : Rz := ⟨if firstC [5] cs = 0 ∧ goodC cs = 0 then 5 else firstC [5] cs, goodC cs, [], []⟩
theorem then97 (ob : But O ib b1) (hb : h.get b1 = some (.cells [ptr ib] 80 true 0)) (hl : len ≤ 1048576) (hk : len < k) (hk1 : 1 < k) : ThenC (lvl k) N 1 ib 97 ⟨[]⟩ ⟨[ptr b1]⟩ len (fun cs => finP (codesD cs)) O h := by
 intro n hn P h' m st q sub ag lt hm hP hio cs sl R hcs ow
 obtain ⟨n', rfl⟩ : ∃ n', n = n' + 1 := ⟨n - 1, by omega⟩
 have lb := lt _ (sub _ ob.1)
 have li := lt _ hP
 have hb' := (ag.eq _ ob).trans hb
 refine Does.of (X := fan_DelJob_1_1 k (lvl k n') sl (some ⟨b1, 0, none⟩) h') (by decide) (fun R κ => rfl) ?_
 simp only [fan_DelJob_1_1]
 refine Gx.Wp.new fun H1 k1 n1 g1 => ?_
 have B : Row encI H1 (⟨some ⟨h'.next, 0, some 0⟩, 1, 1⟩ : Slc) [5] := ⟨rfl, fun i x hx => by
  cases i with
  | zero => cases hx; exact ⟨⟨h'.next, 0, some 0⟩, _, _, _, _, rfl, by show h'.next < H1.next; omega, g1, rfl⟩
  | succ i => simp at hx⟩
 refine Gx.Wp.bnd (first_spec (Row.keeps R k1) B (by omega) (by omega) (by decide) (by show 1 < k; omega)) (Gx.Wp.bnd (good_spec (Row.keeps R k1) (by omega) (by omega)) (Gx.Wp.new fun H2 k2 n2 g2 => Gx.Wp.stL (sp := none) g2 rfl rfl rfl (by decide) fun H3 c3 n3 g3 => ?_))
 have k3 : Keeps h' H3 := Chg.beh (T := (· = H1.next)) (k1.trans k2) c3 fun y hy q => by omega
 dsimp only at g3 n3 ⊢
 refine Gx.Wp.jn fun j hj => ?_
 have fin : ∀ (cd : Int) (H : AHeap), Chg (· = H1.next) H3 H → H.get H1.next = some (.cells [.int .i64 cd, .string ⟨#[]⟩, .int .i64 (goodC cs), .slice none 0 0, .slice none 0 0, .slice none 0 0, .slice none 0 0] 60 true 0) → cd = (codesD cs).code →
   Gx.Wp (j (some ⟨b1, 0, none⟩) (some ⟨H1.next, 0, none⟩) H) fun z => Chg (In P m) h' z.2 ∧ IoQ (lvl k) N ib (finP (codesD cs)) st (Gr P m z.2) z.2 := by
  intro cd H cH gH hcd
  have kH : Keeps h' H := Chg.beh (T := (· = H1.next)) k3 cH fun y hy q => by omega
  have nH := kH.nx
  subst hj
  refine Gx.Wp.bnd rfl (Gx.Wp.bnd (ldP_at (kH.got (by omega) hb') rfl) (Gx.Wp.bnd rfl (Gx.Wp.bnd (sldA_at gH rfl) (Gx.Wp.bnd rfl ?_))))
  refine Gx.Wp.call (End_spec (lvl k n') (kH.got (by omega) hio) (by omega)) fun z hz => Gx.Wp.of ?_
  obtain ⟨c1, g1⟩ := hz
  rw [hcd] at g1
  exact ⟨(Chg.keeps kH).trans (c1.wk fun y _ q => .inl (q ▸ hP)), fun _ _ => trivial, .inl ⟨q, nils, nils, g1, nilS' _, nilS' _, (fun a ha => by cases ha), (fun a ha => by cases ha)⟩⟩
 refine Gx.Wp.jn fun j20 hj20 => Gx.Wp.bnd (sldI_at g3 rfl) ?_
 by_cases c0 : firstC [5] cs = 0
 ·refine Gx.Wp.ifp (by simpa using c0) (Gx.Wp.bnd (sldI_at g3 rfl) ?_)
  subst hj20
  by_cases c1 : goodC cs = 0
  ·refine Gx.Wp.ifp (by simpa using c1) (Gx.Wp.bnd rfl (Gx.Wp.st (sp := none) g3 (by show 0 < 7; omega) rfl fun H4 (c4 : Chg (· = H1.next) H3 H4) n4 g4 => fin 5 H4 c4 ?_ ?_))
   ·exact g4
   ·simp [codesD, c0, c1]
  ·refine Gx.Wp.ifn (by simpa using c1) (fin _ H3 (Chg.refl _ _) g3 ?_)
   simp [codesD, c0, c1]
 ·refine Gx.Wp.ifn (by simpa using c0) ?_
  subst hj20
  exact Gx.Wp.ifn (fun z => by cases z) (fin _ H3 (Chg.refl _ _) g3 (by simp [codesD, c0]))
def codesG (ys : List Ry) : Rz := ⟨firstC [] (codesY ys), goodC (codesY ys), [], ys.map (·.2.1)⟩
theorem then90 (ob : But O ib b1) (hb : h.get b1 = some (.cells [ptr ib] 80 true 0)) (hl : len ≤ 1048576) (hk : len < k) : ThenP (lvl k) N 1 ib 90 ⟨[]⟩ ⟨[ptr b1]⟩ len (fun ys => finP (codesG ys)) O h := by
 intro n hn P h' m st q sub ag lt hm hP hio ys xs sl R S hys ow so sm
 obtain ⟨n', rfl⟩ : ∃ n', n = n' + 1 := ⟨n - 1, by omega⟩
 have lb := lt _ (sub _ ob.1)
 have li := lt _ hP
 have hb' := (ag.eq _ ob).trans hb
 have lx : xs.length = len := by rw [S.1]; exact hys
 refine Does.of (X := fan_GetJob_1_1 k (lvl k n') sl (some ⟨b1, 0, none⟩) h') (by decide) (fun R κ => rfl) ?_
 simp only [fan_GetJob_1_1]
 refine Gx.Wp.call (codes_spec (k := k) (D := lvl k n') R (by omega) (by omega)) fun r1 q1 => ?_
 obtain ⟨k1, A1⟩ := q1
 rw [say_codes S] at A1
 have n1 := k1.nx
 have lc : (codesY ys).length = len := by simp [codesY, hys]
 refine Gx.Wp.bnd (first_spec A1.row (nilI _) (by omega) (by omega) (by decide) (by show 0 < k; omega)) (Gx.Wp.bnd (good_spec A1.row (by omega) (by omega)) (Gx.Wp.new fun H2 k2 n2 g2 => Gx.Wp.stL (sp := none) g2 rfl rfl rfl (by decide) fun H3 c3 n3 g3 => ?_))
 have k3 : Keeps h' H3 := Chg.beh (T := (· = r1.2.next)) (k1.trans k2) c3 fun y hy q => by omega
 dsimp only at g3 n3 n2 ⊢
 obtain ⟨rb, erb⟩ : ∃ rb, rb = r1.2.next := ⟨_, rfl⟩
 rw [← erb] at g3 n2 ⊢
 refine Gx.Wp.jn fun j hj => ?_
 unfold fan_GetJob_1_1_l0
 obtain ⟨bot, eb⟩ := iterK_of (fun _ _ _ _ _ _ => none) (fan_GetJob_1_1_l0b k (lvl k n') j) (show xs.length + 1 ≤ k by omega)
 rw [eb, R.len]
 have loop : ∀ (d i : Nat) (H : AHeap) (o : Slc), i + d = xs.length → Keeps h' H → rb < H.next → H.get rb = some (.cells [.int .i64 (firstC [] (codesY ys)), .string ⟨#[]⟩, .int .i64 (goodC (codesY ys)), .slice none 0 0, .slice o.a o.len o.cap, .slice none 0 0, .slice none 0 0] 60 true 0) →
   Acc encS 9 (rb + 1) H o ((ys.take i).map (·.2.1)) →
   Gx.Wp (iterK bot (d + 1) (fan_GetJob_1_1_l0b k (lvl k n') j) (some ⟨b1, 0, none⟩) (some ⟨rb, 0, none⟩) sl (xs.length : Int) (i : Int) H) fun z => Chg (In P m) h' z.2 ∧ IoQ (lvl k) N ib (finP (codesG ys)) st (Gr P m z.2) z.2 := fun d => by
  induction d with
  | zero =>
   intro i H o hd kH lr gH A
   obtain rfl : i = xs.length := by omega
   rw [List.take_of_length_le (by rw [S.1]; exact Nat.le_refl _)] at A
   have nH := kH.nx
   rw [iterK_s]; simp only [fan_GetJob_1_1_l0b]
   subst hj
   refine Gx.Wp.ifn (by simp) (Gx.Wp.bnd rfl (Gx.Wp.bnd (ldP_at (kH.got (by omega) hb') rfl) (Gx.Wp.bnd rfl (Gx.Wp.bnd (sldA_at gH rfl) (Gx.Wp.bnd rfl ?_)))))
   refine Gx.Wp.call (End_spec (lvl k n') (kH.got (by omega) hio) (by omega)) fun z hz => Gx.Wp.of ?_
   obtain ⟨c1, g1⟩ := hz
   refine ⟨(Chg.keeps kH).trans (c1.wk fun y _ q => .inl (q ▸ hP)), fun _ _ => trivial, .inl ⟨q, nils, o, g1, nilS' _, ?_, (fun a ha => by cases ha), fun a ha => ?_⟩⟩
   ·exact (A.chg c1 fun a ha q => by have := (A.lt a ha).2; omega).row
   ·have := A.lt a ha
    have := c1.nx
    exact ⟨.inr ⟨by omega, by dsimp only; omega⟩, by omega⟩
  | succ d ih =>
   intro i H o hd kH lr gH A
   rw [iterK_s]; simp only [fan_GetJob_1_1_l0b]
   have nH := kH.nx
   obtain ⟨x, hx⟩ := isome (l := xs) (i := i) (by omega)
   obtain ⟨y, hy⟩ := isome (l := ys) (i := i) (by rw [← S.1]; omega)
   obtain ⟨s1, s2, s3⟩ := S.2 i x y hx hy
   obtain ⟨p, b1', b2, _, _⟩ := (R.keeps kH).ld encP_len (by decide) hx
   refine Gx.Wp.ifp (by simp; omega) (Gx.Wp.bnd b1' (Gx.Wp.bnd b2 (Gx.Wp.bnd rfl (Gx.Wp.new fun H4 k4 n4 g4 => Gx.Wp.stL (sp := none) g4 rfl rfl rfl (by decide) fun H5 c5 n5 g5 => ?_))))
   dsimp only at g5 n5 ⊢
   have k5 : Keeps H H5 := Chg.beh (T := (· = H.next)) k4 c5 fun y hy q => by omega
   have gr5 := k5.got lr gH
   refine Gx.Wp.bnd rfl (Gx.Wp.bnd (sldL_at gr5 rfl) (Gx.Wp.bnd (ldS_at g5 rfl) (Gx.Wp.newE fun H6 e6 k6 n6 g6 => ?_)))
   obtain ⟨s', h9, a1, a2, A', c9, d9⟩ := Acc.pushK (A.keeps k5) encS_one x.2.1 (bytes := 16) e6 (by simp; omega) (by decide) (by omega)
   refine Gx.Wp.bnd a1 (Gx.Wp.bnd a2 ?_)
   have nr : ¬ ofS o rb := fun ⟨a, ha, q⟩ => by have := (A.lt a ha).2; omega
   have gr9 := c9.got (by omega) nr gr5
   have n9 := c9.nx
   refine Gx.Wp.bnd rfl (Gx.Wp.st (sp := none) gr9 (by show 4 < 7; omega) rfl fun H7 (c7 : Chg (· = rb) h9 H7) n7 g7 => ?_)
   rw [Gx.w1 (by omega)]
   refine ih (i + 1) H7 s' (by omega) (Chg.beh (T := (· = rb)) (Chg.beh (kH.trans k5) c9 fun y hy ⟨a, ha, q⟩ => by have := (A.lt a ha).2; omega) c7 fun y hy q => by omega) (by dsimp only at n7; omega) g7 ?_
   rw [show ys.take (i + 1) = ys.take i ++ [y] by rw [List.take_add_one, hy]; rfl, List.map_append]
   rw [s2] at A'
   exact A'.chg c7 fun a ha q => by have := (A'.lt a ha).2; omega
 refine loop xs.length 0 H3 nils (by omega) k3 (by omega) g3 (Acc.nil _ _ _ _)
end
def getP (n : Int) (name : ByteArray) : Prg := fanP n (askAll (askL n 2 name nob) [] fun ys => finP (codesG ys))
def delP (n : Int) (name : ByteArray) : Prg := fanP n (askAll (askL n 4 name nob) [] fun ys => finP (codesD (codesY ys)))
theorem GetJob_P {k n : Nat} (hn : 8 ≤ n) (hk : 1000 < k) {h : AHeap} {n0 : Int} {name : ByteArray} :
  Gx.Wp (fan_GetJob k (lvl k n) n0 name h) fun z => ∃ jb O, z.1 = some ⟨jb, 0, none⟩ ∧ Keeps h z.2 ∧ JobP (lvl k) 5 jb (getP n0 name) 0 O z.2 ∧ (∀ y, O y → h.next ≤ y) ∧ h.next ≤ jb := by
 simp only [fan_GetJob]
 refine Gx.Wp.new fun H1 k1 n1 g1 => Gx.Wp.new fun H2 k2 n2 g2 => Gx.Wp.bnd (sldI_at (k2.got (by omega) g1) rfl) ?_
 obtain ⟨n', rfl⟩ : ∃ n', n = n' + 2 := ⟨n - 2, by omega⟩
 refine Gx.Wp.call (fanJob (N := 5) (p := askAll (askL n0 2 name nob) [] fun ys => finP (codesG ys)) (by omega) fun hm h' ib kp h1 h2 hio => ?_) fun z hz => ?_
 ·refine Does.of (X := fan_GetJob_1 k (lvl k n') (some ⟨ib, 0, none⟩) (some ⟨h.next, 0, none⟩) (some ⟨H1.next, 0, none⟩) h') (by decide) (fun R κ => rfl) ?_
  simp only [fan_GetJob_1]
  have np := kp.nx
  refine Gx.Wp.new fun H7 k7 n7 g7 => Gx.Wp.bnd (ldP_at g7 rfl) (Gx.Wp.bnd rfl (Gx.Wp.bnd (sldI_at (k7.got (by omega) (kp.got (by omega) (k2.got (by omega) g1))) rfl) (Gx.Wp.bnd rfl (Gx.Wp.bnd (ldS_at (k7.got (by omega) (kp.got (by omega) g2)) rfl) ?_))))
  have hl2 : (askL n0 2 name nob).length ≤ 255 := askL_len
  have P := askAll_io (k := k) (N := 5) (c := 1) (n := n') (ib := ib) (O := fun y => y = ib ∨ y = h'.next) (m := H7.next) (h := H7) (n0 := n0) (kind := 2) (name := name) (K := fun ys => finP (codesG ys)) (by omega) (by omega) hk (then90 (b1 := h'.next) ⟨.inr rfl, by omega⟩ g7 (by omega) (by omega)) (.inl rfl) (fun y q => by omega) (Nat.le_refl _) (k7.got (by omega) hio)
  simp only [fan_Gets]
  refine Gx.Wp.call P fun z hz => Gx.Wp.of ?_
  obtain ⟨c, i⟩ := hz
  have nz := c.nx
  refine ⟨Chg.beh (Chg.keeps k7) c fun y hy q => ?_, i.mono fun y q => ?_⟩
  ·rcases q with (q | q) | q
   ·exact .inl q
   ·exact .inr (by omega)
   ·exact .inr (by omega)
  ·rcases q with (q | q) | q
   ·exact .inl q
   ·exact .inr ⟨by omega, by dsimp only; omega⟩
   ·exact .inr ⟨by omega, q.2⟩
 ·obtain ⟨jb, O, e, kz, J, far, hj⟩ := hz
  exact Gx.Wp.of ⟨jb, O, e, (k1.trans k2).trans kz, J, fun y o => by have := far y o; omega, by omega⟩
theorem DelJob_P {k n : Nat} (hn : 9 ≤ n) (hk : 1000 < k) {h : AHeap} {n0 : Int} {name : ByteArray} :
  Gx.Wp (fan_DelJob k (lvl k n) n0 name h) fun z => ∃ jb O, z.1 = some ⟨jb, 0, none⟩ ∧ Keeps h z.2 ∧ JobP (lvl k) 5 jb (delP n0 name) 0 O z.2 ∧ (∀ y, O y → h.next ≤ y) ∧ h.next ≤ jb := by
 simp only [fan_DelJob]
 refine Gx.Wp.new fun H1 k1 n1 g1 => Gx.Wp.new fun H2 k2 n2 g2 => Gx.Wp.bnd (sldI_at (k2.got (by omega) g1) rfl) ?_
 obtain ⟨n', rfl⟩ : ∃ n', n = n' + 2 := ⟨n - 2, by omega⟩
 refine Gx.Wp.call (fanJob (N := 5) (p := askAll (askL n0 4 name nob) [] fun ys => finP (codesD (codesY ys))) (by omega) fun hm h' ib kp h1 h2 hio => ?_) fun z hz => ?_
 ·refine Does.of (X := fan_DelJob_1 k (lvl k n') (some ⟨ib, 0, none⟩) (some ⟨h.next, 0, none⟩) (some ⟨H1.next, 0, none⟩) h') (by decide) (fun R κ => rfl) ?_
  simp only [fan_DelJob_1]
  have np := kp.nx
  refine Gx.Wp.new fun H7 k7 n7 g7 => Gx.Wp.bnd (ldP_at g7 rfl) (Gx.Wp.bnd rfl (Gx.Wp.bnd (sldI_at (k7.got (by omega) (kp.got (by omega) (k2.got (by omega) g1))) rfl) (Gx.Wp.bnd rfl (Gx.Wp.bnd (ldS_at (k7.got (by omega) (kp.got (by omega) g2)) rfl) ?_))))
  have hl2 : (askL n0 4 name nob).length ≤ 255 := askL_len
  have W : Gx.Wp (fan_Dels k (lvl k n') (some ⟨ib, 0, none⟩) n0 name (.func (.func 97) ⟨[]⟩ ⟨[.pointer (some ⟨h'.next, 0, none⟩)]⟩) H7) fun z => H7.next < z.2.next ∧ Chg (In (fun y => y = ib ∨ y = h'.next ∨ y = H7.next) H7.next) H7 z.2 ∧ IoQ (lvl k) 5 ib (askAll (askL n0 4 name nob) [] fun ys => finP (codesD (codesY ys))) 0 (Gr (fun y => y = ib ∨ y = h'.next ∨ y = H7.next) H7.next z.2) z.2 := by
   simp only [fan_Dels]
   have ec : (Value.func (.func 97) ⟨[]⟩ ⟨[.pointer (some ⟨h'.next, 0, none⟩)]⟩).cells.toList = [.func (.func 97) ⟨[]⟩ ⟨[.pointer (some ⟨h'.next, 0, none⟩)]⟩] := rfl
   rw [ec]
   refine Gx.Wp.new fun H8 k8 n8 g8 => ?_
   have g78 := k8.got (by omega) g7
   have P := askAll_io (k := k) (N := 5) (c := 2) (n := n') (ib := ib) (O := fun y => y = ib ∨ y = h'.next ∨ y = H7.next) (m := H8.next) (h := H8) (n0 := n0) (kind := 4) (name := name) (K := fun ys => finP (codesD (codesY ys))) (by omega) (by omega) hk
    (then126 (K := fun cs => finP (codesD cs)) (O := fun y => y = ib ∨ y = h'.next ∨ y = H7.next) (then97 (b1 := h'.next) ⟨.inr (.inl rfl), by omega⟩ g78 (by omega) (by omega) (by omega)) ⟨.inr (.inr rfl), by omega⟩ g8 (by omega) (by omega)) (.inl rfl) (fun y q => by omega) (Nat.le_refl _) (k8.got (by omega) (k7.got (by omega) hio))
   refine Gx.Wp.mono P fun z hz => ?_
   obtain ⟨c, i⟩ := hz
   have nz := c.nx
   exact ⟨by omega, Chg.beh (Chg.keeps k8) c fun y hy q => q.elim .inl fun q => by omega, i.mono fun y q => q.imp id fun q => ⟨by omega, q.2⟩⟩
  refine Gx.Wp.call W fun z hz => Gx.Wp.of ?_
  obtain ⟨lz, c, i⟩ := hz
  have nz := c.nx
  refine ⟨Chg.beh (Chg.keeps k7) c fun y hy q => ?_, i.mono fun y q => ?_⟩
  ·rcases q with (q | q | q) | q
   ·exact .inl q
   ·exact .inr (by omega)
   ·exact .inr (by omega)
   ·exact .inr (by omega)
  ·rcases q with (q | q | q) | q
   ·exact .inl q
   ·exact .inr ⟨by omega, by dsimp only; omega⟩
   ·exact .inr ⟨by omega, by dsimp only; omega⟩
   ·exact .inr ⟨by omega, q.2⟩
 ·obtain ⟨jb, O, e, kz, J, far, hj⟩ := hz
  exact Gx.Wp.of ⟨jb, O, e, (k1.trans k2).trans kz, J, fun y o => by have := far y o; omega, by omega⟩
end Gs
namespace Gs
open Go Gx
instance memD (n : ByteArray) (ks : List ByteArray) : Decidable (n ∈ ks) := decidable_of_iff (ks.any (fun k => decide (k = n)) = true) (by simp)
def ad (n : ByteArray) (ks : List ByteArray) : List ByteArray := if n ∈ ks then ks else ks ++ [n]
def uni : List ByteArray → List ByteArray → List ByteArray
 | [], ks => ks
 | n :: ns, ks => uni ns (ad n ks)
def namesA : List Ry → List ByteArray → List ByteArray
 | [], ks => ks
 | y :: ys, ks => namesA ys (uni y.2.2 ks)
def nmK (ks : List ByteArray) : List ByteArray := ((ks.map bl).mergeSort leB).map ba
def namesY (ys : List Ry) : List ByteArray := nmK (namesA ys [])
def encN : List ByteArray → Nat → List (Value × Value × Nat)
 | [], _ => []
 | k :: ks, i => (.string k, .bool true, i) :: encN ks (i + 1)
theorem encN_keys : ∀ (ks : List ByteArray) (i : Nat), (encN ks i).map (·.1) = ks.map Value.string
 | [], _ => rfl
 | k :: ks, i => by simp [encN, encN_keys ks (i + 1)]
theorem encN_app : ∀ (ks : List ByteArray) (n : ByteArray) (i : Nat), encN (ks ++ [n]) i = encN ks i ++ [(.string n, .bool true, i + ks.length)]
 | [], _, _ => rfl
 | k :: ks, n, i => by simp only [List.cons_append, encN, encN_app ks n (i + 1), List.length_cons]; rw [show i + 1 + ks.length = i + (ks.length + 1) by omega]
theorem encN_find (n : ByteArray) : ∀ (ks : List ByteArray) (b i : Nat), (n ∉ ks ∧ findE (.string n) (encN ks b) i = some none) ∨ (n ∈ ks ∧ ∃ j, findE (.string n) (encN ks b) i = some (some (i + j, .bool true)) ∧ (encN ks b).modify j (fun e => (.string n, .bool true, e.2.2)) = encN ks b)
 | [], _, _ => .inl ⟨by simp, rfl⟩
 | k :: ks, b, i => by
  by_cases h : k = n
  ·subst h
   have hb : (k == k) = true := by rw [ba_beq]; simp
   exact .inr ⟨by simp, 0, by simp only [encN, findE, keyEq, hb]; rfl, rfl⟩
  ·have hb : (n == k) = false := by rw [ba_beq]; simpa using fun q => h q.symm
   have e : findE (.string n) (encN (k :: ks) b) i = findE (.string n) (encN ks (b + 1)) (i + 1) := by simp only [encN, findE, keyEq, hb]
   rcases encN_find n ks (b + 1) (i + 1) with ⟨h1, h2⟩ | ⟨h1, j, h2, h3⟩
   ·exact .inl ⟨by simp [h1]; exact fun q => h q.symm, e.trans h2⟩
   ·refine .inr ⟨by simp [h1], j + 1, by rw [e, h2, show i + 1 + j = i + (j + 1) by omega], ?_⟩
    simp only [encN, List.modify_succ_cons, h3]
theorem updN {h : AHeap} {r : Nat} {ks : List ByteArray} (hm : h.get r = some (.map (encN ks 0) ks.length)) (n : ByteArray) : ∃ h', updE h r (.string n) (.bool true) = some h' ∧ Chg (· = r) h h' ∧ h'.next = h.next ∧ h'.get r = some (.map (encN (ad n ks) 0) (ad n ks).length) := by
 rcases encN_find n ks 0 0 with ⟨h1, h2⟩ | ⟨h1, j, h2, h3⟩
 ·refine ⟨_, by simp only [updE, hm, h2]; rfl, Chg.set (.inr rfl), rfl, ?_⟩
  rw [sset_get, ad, if_neg h1, encN_app]; simp
 ·refine ⟨_, by simp only [updE, hm, h2]; rfl, Chg.set (.inr rfl), rfl, ?_⟩
  rw [sset_get, ad, if_pos h1, Nat.zero_add, h3]
theorem ad_nodup {n : ByteArray} {ks : List ByteArray} (h : ks.Nodup) : (ad n ks).Nodup := by
 unfold ad
 split
 ·exact h
 ·rename_i q
  exact List.nodup_append.2 ⟨h, by simp, fun a ha b hb => by simp at hb; subst hb; exact fun e => q (e ▸ ha)⟩
theorem uni_nodup : ∀ {ns ks : List ByteArray}, ks.Nodup → (uni ns ks).Nodup
 | [], _, h => h
 | _ :: ns, _, h => uni_nodup (ns := ns) (ad_nodup h)
theorem namesA_nodup : ∀ {ys : List Ry} {ks : List ByteArray}, ks.Nodup → (namesA ys ks).Nodup
 | [], _, h => h
 | _ :: ys, _, h => namesA_nodup (ys := ys) (uni_nodup h)
theorem mem_ad {n x : ByteArray} {ks : List ByteArray} : x ∈ ad n ks ↔ x ∈ ks ∨ x = n := by
 unfold ad
 split
 ·rename_i q; exact ⟨.inl, fun h => h.elim id fun e => e ▸ q⟩
 ·simp
theorem mem_uni {x : ByteArray} : ∀ {ns ks : List ByteArray}, x ∈ uni ns ks ↔ x ∈ ks ∨ x ∈ ns
 | [], _ => by simp [uni]
 | n :: ns, ks => by
  simp only [uni, mem_uni (ns := ns), mem_ad, List.mem_cons]
  exact ⟨fun h => h.elim (fun h => h.imp id .inl) fun h => .inr (.inr h), fun h => h.elim (fun h => .inl (.inl h)) fun h => h.elim (fun h => .inl (.inr h)) .inr⟩
theorem mem_namesA {x : ByteArray} : ∀ {ys : List Ry} {ks : List ByteArray}, x ∈ namesA ys ks ↔ x ∈ ks ∨ ∃ y ∈ ys, x ∈ y.2.2
 | [], _ => by simp [namesA]
 | y :: ys, ks => by
  simp only [namesA, mem_namesA (ys := ys), mem_uni, List.mem_cons]
  constructor
  ·rintro ((h | h) | ⟨z, hz, h⟩)
   ·exact .inl h
   ·exact .inr ⟨y, .inl rfl, h⟩
   ·exact .inr ⟨z, .inr hz, h⟩
  ·rintro (h | ⟨z, rfl | hz, h⟩)
   ·exact .inl (.inl h)
   ·exact .inl (.inr h)
   ·exact .inr ⟨z, hz, h⟩
theorem ad_len (n : ByteArray) (ks : List ByteArray) : (ad n ks).length ≤ ks.length + 1 := by
 unfold ad
 split
 ·omega
 ·simp
theorem uni_len : ∀ (ns ks : List ByteArray), (uni ns ks).length ≤ ks.length + ns.length
 | [], _ => Nat.le_refl _
 | n :: ns, ks => by
  have h1 := uni_len ns (ad n ks)
  have h2 := ad_len n ks
  simp only [uni, List.length_cons]; omega
theorem nmK_len (ks : List ByteArray) : (nmK ks).length = ks.length := by simp [nmK]
theorem uni_snoc (n : ByteArray) : ∀ (ns ks : List ByteArray), uni (ns ++ [n]) ks = ad n (uni ns ks)
 | [], _ => rfl
 | m :: ns, ks => by simp only [List.cons_append, uni, uni_snoc n ns]
theorem namesA_snoc (y : Ry) : ∀ (ys : List Ry) (ks : List ByteArray), namesA (ys ++ [y]) ks = uni y.2.2 (namesA ys ks)
 | [], _ => rfl
 | z :: ys, ks => by simp only [List.cons_append, namesA, namesA_snoc y ys]
theorem births_lt : ∀ (ks : List ByteArray) (i : Nat), ∀ e ∈ encN ks i, i ≤ e.2.2 ∧ e.2.2 < i + ks.length
 | [], _, e, h => by cases h
 | k :: ks, i, e, h => by
  rcases List.mem_cons.1 h with rfl | h
  ·simp
  ·have := births_lt ks (i + 1) e h
   simp only [List.length_cons]; omega
theorem births_nodup : ∀ (ks : List ByteArray) (i : Nat), ((encN ks i).map (·.2.2)).Nodup
 | [], _ => .nil
 | k :: ks, i => by
  simp only [encN, List.map_cons, List.nodup_cons]
  refine ⟨fun h => ?_, births_nodup ks (i + 1)⟩
  obtain ⟨e, he, q⟩ := List.mem_map.1 h
  have := births_lt ks (i + 1) e he
  omega
theorem goodN {ks : List ByteArray} (hn : ks.Nodup) (hs : ∀ s ∈ ks, s.size ≤ 1048576) (hl : ks.length ≤ 8796093022208) : mapGood (encN ks 0) ks.length ks = true := by
 simp only [mapGood, Bool.and_eq_true, decide_eq_true_eq, List.all_eq_true]
 refine ⟨⟨⟨⟨sizes_of fun s h => by have := hs s h; omega, hn⟩, births_nodup ks 0⟩, fun e he => by have := births_lt ks 0 e he; omega⟩, by omega⟩
theorem sortedN {h : AHeap} {bx rb : Nat} {ks : List ByteArray} {t : TypeId} (hb : h.get bx = some (.cells [.map (some rb)] t true 0)) (hm : h.get rb = some (.map (encN ks 0) ks.length)) (hn : ks.Nodup) (hs : ∀ s ∈ ks, s.size ≤ 1048576) (hl : ks.length ≤ 8796093022208) :
  ∃ s h', sortedA 135 9 [.func (.func 135) ⟨[]⟩ ⟨[.pointer (some ⟨bx, 0, none⟩)]⟩] h = some (s, h') ∧ Keeps h h' ∧ Acc encS 9 h.next h' s (nmK ks) := by
 have hbm : boxMap h bx = some (some rb) := by simp only [boxMap, hb]
 have hk : keysL (encN ks 0) = some ks := by simp only [keysL, encN_keys, unstrs_map]
 have hg := goodN hn hs hl
 cases ks with
 | nil =>
  refine ⟨⟨none, 0, 0⟩, h, ?_, Chg.refl _ _, by rw [List.eq_nil_of_length_eq_zero (nmK_len [])]; exact Acc.nil _ _ _ _⟩
  simp only [sortedA, hbm, hm, hk, hg]; rfl
 | cons e es =>
  have hne : nmK (e :: es) ≠ [] := fun q => by have := nmK_len (e :: es); rw [q] at this; simp at this
  refine ⟨⟨some ⟨h.next, 0, some 2⟩, (nmK (e :: es)).length, (nmK (e :: es)).length⟩, h.new (outB encS 9 (nmK (e :: es))), ?_, Keeps.new h _, ⟨.inr ⟨h.next, Grown.of hne⟩, fun a ha => by cases ha; simp⟩⟩
  have hs' : srt (e :: es) = (nmK (e :: es)).map encS := by simp only [srt, nmK, List.map_map]; rfl
  simp only [sortedA, hbm, hm, hk, hg]
  simp only [cond_true, decide_true, Bool.and_self, hs', nmK_len, List.length_cons, outB]
def ThenL (L : Nat → CallF) (N c ib : Nat) (g : Nat) (x y : Array Value) (len : Nat) (K : List ByteArray → List Int → Prg) (O : Nat → Prop) (h : AHeap) : Prop :=
 ∀ n, c ≤ n → ∀ (P : Nat → Prop) (h' : AHeap) (m st : Nat) (q : Rq), (∀ y, O y → P y) → Agr (But O ib) h h' → (∀ y, P y → y < m) → m ≤ h'.next → P ib → h'.get ib = some (.cells (ioC q .nilFunc false 0 0 nils nils st) 130 true 0) →
  ∀ (ns : List ByteArray) (nl : Slc) (cs : List Int) (sl : Slc), Row encS h' nl ns → (∀ a, nl.a = some a → m ≤ a.block ∧ a.block < h'.next) → Row encI h' sl cs → cs.length = len → (∀ a, sl.a = some a → m ≤ a.block ∧ a.block < h'.next) →
  Does (L n) g x y [.slice nl.a nl.len nl.cap, .slice sl.a sl.len sl.cap] h' fun h'' => Chg (In P m) h' h'' ∧ IoQ L N ib (K ns cs) st (Gr P m h'') h''
section
variable {k N c ib b len : Nat} {g : Nat} {x y : Array Value} {K : List ByteArray → List Int → Prg} {O : Nat → Prop} {h : AHeap}
theorem listsJ_l1 {D : CallF} (bot) {h0 : AHeap} {sl : Slc} {ns : List ByteArray} {mb : Nat} (R : Row encS h0 sl ns) (hmb : h0.next ≤ mb) (hl : ns.length ≤ 1048576) {Q : Unit × AHeap → Prop} {J} {a1 : Slc} {y1 : Option Addr} {y2 : Slc} {v1 v2 : Int} {ks0 : List ByteArray}
  (hJ : ∀ H, Keeps h0 H → mb < H.next → H.get mb = some (.map (encN (uni ns ks0) 0) (uni ns ks0).length) → Gx.Wp (J a1 y1 (some mb) y2 v1 v2 H) Q) :
  ∀ (d i : Nat) (H : AHeap), i + d = ns.length → Keeps h0 H → mb < H.next → H.get mb = some (.map (encN (uni (ns.take i) ks0) 0) (uni (ns.take i) ks0).length) → Gx.Wp (iterK bot (d + 1) (fan_Lists_1_l1b k D J) a1 y1 (some mb) y2 v1 v2 sl (ns.length : Int) (i : Int) H) Q := fun d => by
 induction d with
 | zero =>
  intro i H hd kH lm gH
  obtain rfl : i = ns.length := by omega
  rw [List.take_length] at gH
  rw [iterK_s]; simp only [fan_Lists_1_l1b]
  exact Gx.Wp.ifn (by simp) (hJ H kH lm gH)
 | succ d ih =>
  intro i H hd kH lm gH
  rw [iterK_s]; simp only [fan_Lists_1_l1b]
  obtain ⟨x, hx⟩ := isome (l := ns) (i := i) (by omega)
  obtain ⟨p, b1, b2⟩ := (Row.keeps R kH).ldS hx
  obtain ⟨H2, e2, c2, n2, g2⟩ := updN gH x
  refine Gx.Wp.ifp (by simp; omega) (Gx.Wp.bnd b1 (Gx.Wp.bnd b2 (Gx.Wp.bnd rfl (Gx.Wp.bnd e2 ?_))))
  rw [Gx.w1 (by omega)]
  refine ih (i + 1) H2 (by omega) (Chg.beh kH c2 fun y hy q => by omega) (by omega) ?_
  rw [show ns.take (i + 1) = ns.take i ++ [x] by rw [List.take_add_one, hx]; rfl, uni_snoc]
  exact g2
theorem then124 (T : ThenL (lvl k) N c ib g x y len K O h) (ob : But O ib b) (hb : h.get b = some (.cells [.func (.func g) x y] 149 true 0)) (hl : len ≤ 1048576) (hk : len < k) (hk2 : 1048577 < k) : ThenP (lvl k) N (c + 1) ib 124 ⟨[]⟩ ⟨[ptr b]⟩ len (fun ys => K (namesY ys) (codesY ys)) O h := by
 intro n hn P h' m st q sub ag lt hm hP hio ys xs sl R S hys ow so sm
 obtain ⟨n', rfl⟩ : ∃ n', n = n' + 1 := ⟨n - 1, by omega⟩
 have lb := lt _ (sub _ ob.1)
 have li := lt _ hP
 have hb' := (ag.eq _ ob).trans hb
 have lx : xs.length = len := by rw [S.1]; exact hys
 refine Does.of (X := fan_Lists_1 k (lvl k n') sl (some ⟨b, 0, none⟩) h') (by decide) (fun R κ => rfl) ?_
 simp only [fan_Lists_1]
 refine Gx.Wp.new fun H1 k1 n1 g1 => Gx.Wp.jn fun j hj => ?_
 unfold fan_Lists_1_l0
 obtain ⟨bot, eb⟩ := iterK_of (fun _ _ _ _ _ _ _ => none) (fan_Lists_1_l0b k (lvl k n') j) (show xs.length + 1 ≤ k by omega)
 rw [eb, R.len]
 have loop : ∀ (d i : Nat) (H : AHeap), i + d = xs.length → Keeps h' H → h'.next < H.next → H.get h'.next = some (.map (encN (namesA (ys.take i) []) 0) (namesA (ys.take i) []).length) → (namesA (ys.take i) []).length ≤ i * 1048576 →
   Gx.Wp (iterK bot (d + 1) (fan_Lists_1_l0b k (lvl k n') j) sl (some ⟨b, 0, none⟩) (some h'.next) sl (xs.length : Int) (i : Int) H) fun z => Chg (In P m) h' z.2 ∧ IoQ (lvl k) N ib (K (namesY ys) (codesY ys)) st (Gr P m z.2) z.2 := fun d => by
  induction d with
  | zero =>
   intro i H hd kH lm gH lk
   obtain rfl : i = xs.length := by omega
   rw [List.take_of_length_le (by rw [S.1]; exact Nat.le_refl _)] at gH lk
   have nH := kH.nx
   rw [iterK_s]; simp only [fan_Lists_1_l0b]
   subst hj
   refine Gx.Wp.ifn (by simp) ?_
   obtain ⟨H2, e2⟩ : ∃ H2, H2 = H.new (.cells [.map (some h'.next)] 168 true 0) := ⟨_, rfl⟩
   have kk : maps_Keys_map_string_bool_string_bool k (lvl k n') (some h'.next) H = some (.func (.func 135) ⟨[]⟩ ⟨[.pointer (some ⟨H.next, 0, none⟩)]⟩, H2) := by rw [e2]; rfl
   have k2 : Keeps H H2 := e2 ▸ Keeps.new H _
   have n2 : H2.next = H.next + 1 := by rw [e2]; rfl
   have g2 : H2.get H.next = some (.cells [.map (some h'.next)] 168 true 0) := by rw [e2]; simp
   have hbn : ∀ s ∈ namesA ys [], s.size ≤ 1048576 := fun s hs => by
    rcases mem_namesA.1 hs with hs | ⟨y, hy, hs⟩
    ·cases hs
    ·exact (sm y hy).s s hs
   obtain ⟨ns, H3, e3, k3, A3⟩ := sortedN g2 (k2.got lm gH) (namesA_nodup .nil) hbn (by omega)
   have n3 := k3.nx
   have kH2 : Keeps h' H2 := kH.trans k2
   have kH3 : Keeps h' H3 := kH2.trans k3
   refine Gx.Wp.bnd kk (Gx.Wp.bnd e3 (Gx.Wp.call (codes_spec (k := k) (D := lvl k n') (R.keeps kH3) (by omega) (by omega)) fun r4 q4 => ?_))
   obtain ⟨k4, A4⟩ := q4
   rw [say_codes S] at A4
   have n4 := k4.nx
   dsimp only at n4
   have kH4 : Keeps h' r4.2 := kH3.trans k4
   have hb4 := kH4.got (by omega) hb'
   refine Gx.Wp.bnd rfl (Gx.Wp.bnd (ldV_at hb4 rfl) (Gx.Wp.gp ?_ ?_))
   ·intro H5 hH
    simp at hH
    rcases hH with rfl | rfl | rfl
    ·exact bnd rfl (bnd (ldV_at (kH3.got (by omega) hb') rfl) rfl)
    ·exact bnd rfl (bnd (ldV_at (kH2.got (by omega) hb') rfl) rfl)
    ·exact bnd rfl (bnd (ldV_at (kH.got (by omega) hb') rfl) rfl)
   ·have d := T n' (by omega) P r4.2 m st q sub (ag.trans (chg_agr kH4 (fun y o => by have := lt _ (sub _ o.1); omega) fun y o f => f)) lt (by omega) hP (kH4.got (by omega) hio) (namesY ys) ns (codesY ys) r4.1 (Row.keeps A3.row k4) (fun a ha => by have := A3.lt a ha; omega) A4.row (by simp [codesY, hys]) (fun a ha => by have := A4.lt a ha; dsimp only at this; omega)
    refine Does.wp d (by kernel_rfl) fun h5 q5 => Gx.Wp.of ⟨(Chg.keeps kH4).trans q5.1, q5.2⟩
  | succ d ih =>
   intro i H hd kH lm gH lk
   rw [iterK_s]; simp only [fan_Lists_1_l0b]
   have nH := kH.nx
   obtain ⟨x, hx⟩ := isome (l := xs) (i := i) (by omega)
   obtain ⟨y, hy⟩ := isome (l := ys) (i := i) (by rw [← S.1]; omega)
   obtain ⟨s1, s2, s3⟩ := S.2 i x y hx hy
   have sy := (sm y (mem_of hy)).n
   obtain ⟨p, b1', b2, _, _⟩ := (R.keeps kH).ld encP_len (by decide) hx
   refine Gx.Wp.ifp (by simp; omega) (Gx.Wp.jn fun J hJ => Gx.Wp.bnd b1' (Gx.Wp.bnd b2 (Gx.Wp.bnd rfl (Gx.Wp.new fun H4 k4 n4 g4 => Gx.Wp.stL (sp := none) g4 rfl rfl rfl (by decide) fun H5 c5 n5 g5 => ?_))))
   dsimp only at g5 n5 ⊢
   have k5 : Keeps H H5 := Chg.beh (T := (· = H.next)) k4 c5 fun y hy q => by omega
   have kH5 := kH.trans k5
   refine Gx.Wp.bnd (sldL_at g5 rfl) ?_
   unfold fan_Lists_1_l1
   obtain ⟨bot', eb'⟩ := iterK_of (fun _ _ _ _ _ _ _ _ _ _ => none) (fan_Lists_1_l1b k (lvl k n') J) (show y.2.2.length + 1 ≤ k by omega)
   rw [eb', show ((⟨x.2.2.a, x.2.2.len, x.2.2.cap⟩ : Slc).len : Int) = (y.2.2.length : Int) by rw [s3.1]]
   refine listsJ_l1 bot' (h0 := h') (mb := h'.next) (sl := ⟨x.2.2.a, x.2.2.len, x.2.2.cap⟩) s3 (Nat.le_refl _) sy (ks0 := namesA (ys.take i) []) (fun H6 k6 l6 g6 => ?_) y.2.2.length 0 H5 (by omega) kH5 (by omega) (k5.got (by omega) gH)
   subst hJ
   dsimp only
   rw [Gx.w1 (by omega)]
   have et : ys.take (i + 1) = ys.take i ++ [y] := by rw [List.take_add_one, hy]; rfl
   refine ih (i + 1) H6 (by omega) k6 l6 ?_ ?_
   ·rw [et, namesA_snoc]; exact g6
   ·rw [et, namesA_snoc]
    have := uni_len y.2.2 (namesA (ys.take i) [])
    omega
 exact loop xs.length 0 H1 (by omega) k1 (by omega) g1 (by simp [namesA])
def namesZ (ns : List ByteArray) (cs : List Int) : Rz := ⟨firstC [] cs, goodC cs, ns, []⟩
theorem then94 {b1 : Nat} (ob : But O ib b1) (hb : h.get b1 = some (.cells [ptr ib] 80 true 0)) (hl : len ≤ 1048576) (hk : len < k) : ThenL (lvl k) N 1 ib 94 ⟨[]⟩ ⟨[ptr b1]⟩ len (fun ns cs => finP (namesZ ns cs)) O h := by
 intro n hn P h' m st q sub ag lt hm hP hio ns nl cs sl RN own R hcs ow
 obtain ⟨n', rfl⟩ : ∃ n', n = n' + 1 := ⟨n - 1, by omega⟩
 have lb := lt _ (sub _ ob.1)
 have li := lt _ hP
 have hb' := (ag.eq _ ob).trans hb
 refine Does.of (X := fan_ListJob_1_1 k (lvl k n') nl sl (some ⟨b1, 0, none⟩) h') (by decide) (fun R κ => rfl) ?_
 simp only [fan_ListJob_1_1]
 refine Gx.Wp.bnd (first_spec R (nilI _) (by omega) (by omega) (by decide) (by show 0 < k; omega)) (Gx.Wp.bnd (good_spec R (by omega) (by omega)) (Gx.Wp.bnd rfl (Gx.Wp.bnd (ldP_at hb' rfl) (Gx.Wp.gp ?_ ?_))))
 ·intro H hH
  simp at hH
  rcases hH with rfl | rfl <;> exact bnd rfl (bnd (ldP_at hb' rfl) rfl)
 ·refine Gx.Wp.call (End_spec (lvl k n') hio (by dsimp only; omega)) fun z hz => Gx.Wp.of ?_
  obtain ⟨c1, g1⟩ := hz
  have n1 := c1.nx
  dsimp only at n1
  refine ⟨c1.wk fun y _ q => .inl (q ▸ hP), fun _ _ => trivial, .inl ⟨q, nl, nils, g1, Row.chg RN c1 fun a ha q => by have := own a ha; omega, nilS' _, fun a ha => ?_, (fun a ha => by cases ha)⟩⟩
  have := own a ha
  exact ⟨.inr ⟨by omega, by dsimp only; omega⟩, by omega⟩
end
def lstP (n : Int) (begin : ByteArray) : Prg := fanP n (askAll (askL n 3 begin nob) [] fun ys => finP (namesZ (namesY ys) (codesY ys)))
theorem ListJob_P {k n : Nat} (hn : 9 ≤ n) (hk : 1048577 < k) {h : AHeap} {n0 : Int} {name : ByteArray} :
  Gx.Wp (fan_ListJob k (lvl k n) n0 name h) fun z => ∃ jb O, z.1 = some ⟨jb, 0, none⟩ ∧ Keeps h z.2 ∧ JobP (lvl k) 5 jb (lstP n0 name) 0 O z.2 ∧ (∀ y, O y → h.next ≤ y) ∧ h.next ≤ jb := by
 simp only [fan_ListJob]
 refine Gx.Wp.new fun H1 k1 n1 g1 => Gx.Wp.new fun H2 k2 n2 g2 => Gx.Wp.bnd (sldI_at (k2.got (by omega) g1) rfl) ?_
 obtain ⟨n', rfl⟩ : ∃ n', n = n' + 2 := ⟨n - 2, by omega⟩
 refine Gx.Wp.call (fanJob (N := 5) (p := askAll (askL n0 3 name nob) [] fun ys => finP (namesZ (namesY ys) (codesY ys))) (by omega) fun hm h' ib kp h1 h2 hio => ?_) fun z hz => ?_
 ·refine Does.of (X := fan_ListJob_1 k (lvl k n') (some ⟨ib, 0, none⟩) (some ⟨h.next, 0, none⟩) (some ⟨H1.next, 0, none⟩) h') (by decide) (fun R κ => rfl) ?_
  simp only [fan_ListJob_1]
  have np := kp.nx
  refine Gx.Wp.new fun H7 k7 n7 g7 => Gx.Wp.bnd (ldP_at g7 rfl) (Gx.Wp.bnd rfl (Gx.Wp.bnd (sldI_at (k7.got (by omega) (kp.got (by omega) (k2.got (by omega) g1))) rfl) (Gx.Wp.bnd rfl (Gx.Wp.bnd (ldS_at (k7.got (by omega) (kp.got (by omega) g2)) rfl) ?_))))
  have hl2 : (askL n0 3 name nob).length ≤ 255 := askL_len
  have W : Gx.Wp (fan_Lists k (lvl k n') (some ⟨ib, 0, none⟩) n0 name (.func (.func 94) ⟨[]⟩ ⟨[.pointer (some ⟨h'.next, 0, none⟩)]⟩) H7) fun z => H7.next < z.2.next ∧ Chg (In (fun y => y = ib ∨ y = h'.next ∨ y = H7.next) H7.next) H7 z.2 ∧ IoQ (lvl k) 5 ib (askAll (askL n0 3 name nob) [] fun ys => finP (namesZ (namesY ys) (codesY ys))) 0 (Gr (fun y => y = ib ∨ y = h'.next ∨ y = H7.next) H7.next z.2) z.2 := by
   simp only [fan_Lists]
   have ec : (Value.func (.func 94) ⟨[]⟩ ⟨[.pointer (some ⟨h'.next, 0, none⟩)]⟩).cells.toList = [.func (.func 94) ⟨[]⟩ ⟨[.pointer (some ⟨h'.next, 0, none⟩)]⟩] := rfl
   rw [ec]
   refine Gx.Wp.new fun H8 k8 n8 g8 => ?_
   have g78 := k8.got (by omega) g7
   have P := askAll_io (k := k) (N := 5) (c := 2) (n := n') (ib := ib) (O := fun y => y = ib ∨ y = h'.next ∨ y = H7.next) (m := H8.next) (h := H8) (n0 := n0) (kind := 3) (name := name) (K := fun ys => finP (namesZ (namesY ys) (codesY ys))) (by omega) (by omega) (by omega)
    (then124 (K := fun ns cs => finP (namesZ ns cs)) (O := fun y => y = ib ∨ y = h'.next ∨ y = H7.next) (then94 (b1 := h'.next) ⟨.inr (.inl rfl), by omega⟩ g78 (by omega) (by omega)) ⟨.inr (.inr rfl), by omega⟩ g8 (by omega) (by omega) hk) (.inl rfl) (fun y q => by omega) (Nat.le_refl _) (k8.got (by omega) (k7.got (by omega) hio))
   refine Gx.Wp.mono P fun z hz => ?_
   obtain ⟨c, i⟩ := hz
   have nz := c.nx
   exact ⟨by omega, Chg.beh (Chg.keeps k8) c fun y hy q => q.elim .inl fun q => by omega, i.mono fun y q => q.imp id fun q => ⟨by omega, q.2⟩⟩
  refine Gx.Wp.call W fun z hz => Gx.Wp.of ?_
  obtain ⟨lz, c, i⟩ := hz
  have nz := c.nx
  refine ⟨Chg.beh (Chg.keeps k7) c fun y hy q => ?_, i.mono fun y q => ?_⟩
  ·rcases q with (q | q | q) | q
   ·exact .inl q
   ·exact .inr (by omega)
   ·exact .inr (by omega)
   ·exact .inr (by omega)
  ·rcases q with (q | q | q) | q
   ·exact .inl q
   ·exact .inr ⟨by omega, by dsimp only; omega⟩
   ·exact .inr ⟨by omega, by dsimp only; omega⟩
   ·exact .inr ⟨by omega, q.2⟩
 ·obtain ⟨jb, O, e, kz, J, far, hj⟩ := hz
  exact Gx.Wp.of ⟨jb, O, e, (k1.trans k2).trans kz, J, fun y o => by have := far y o; omega, by omega⟩
end Gs
namespace Gs
open Go Gx
def N9 : ByteArray := ⟨#[110, 97, 109, 101]⟩
def na9 : ByteArray := ⟨#[110, 97]⟩
def St9 (p : PS) : Option ByteArray → Prop
 | none => p.quota = 1048576 ∧ p.fails = 0 ∧ p.down = false ∧ p.es = []
 | some d => p.quota = 1048576 ∧ p.fails = 0 ∧ p.down = false ∧ d.size ≤ 200 ∧ ∃ b, p.es = [(N9, d, b)]
def Vw (n : Nat) (ss : List Sb) (f : Nat → Option ByteArray) : Prop := ss.length = n ∧ ∀ i s, ss[i]? = some s → St9 s.2.2 (f i)
def eachQ (kind : Int) (name : ByteArray) (dat : Nat → ByteArray) (n : Nat) : List Rq := (List.range n).map fun i : Nat => ((i : Int), kind, name, dat i)
theorem eachQ_s (kind : Int) (name : ByteArray) (dat : Nat → ByteArray) (n : Nat) : eachQ kind name dat (n + 1) = eachQ kind name dat n ++ [((n : Int), kind, name, dat n)] := by
 simp [eachQ, List.range_succ]
theorem each9 {kind : Int} {name : ByteArray} {dat : Nat → ByteArray} {n : Nat} {ss : List Sb} {f f' : Nat → Option ByteArray} {an : Nat → Ry} (V : Vw n ss f) : ∀ (m : Nat), m ≤ n → (∀ i < m, ∀ p, St9 p (f i) → St9 (p.doS kind name (dat i)).1 (f' i) ∧ ((((p.doS kind name (dat i)).2.1 : Nat) : Int), (p.doS kind name (dat i)).2.2.1, (p.doS kind name (dat i)).2.2.2) = an i) →
  Vw n (ansL (eachQ kind name dat m) ss).1 (fun i => if i < m then f' i else f i) ∧ (ansL (eachQ kind name dat m) ss).2 = (List.range m).map an
 | 0, _, _ => ⟨⟨V.1, fun i s h => by dsimp only; rw [if_neg (by omega)]; exact V.2 i s h⟩, rfl⟩
 | m + 1, hm, ok => by
  obtain ⟨V2, a2⟩ := each9 V m (by omega) fun i hi => ok i (by omega)
  rw [eachQ_s, ansL_snoc]
  obtain ⟨s, hs⟩ := isome (l := (ansL (eachQ kind name dat m) ss).1) (i := m) (by rw [V2.1]; omega)
  have q := V2.2 m s hs
  dsimp only at q
  rw [if_neg (by omega)] at q
  obtain ⟨o1, o2⟩ := ok m (by omega) s.2.2 q
  have e : ansS (ansL (eachQ kind name dat m) ss).1 ((m : Int), kind, name, dat m) = ((ansL (eachQ kind name dat m) ss).1.set m (s.1, s.2.1, (s.2.2.doS kind name (dat m)).1), an m) := by
   unfold ansS
   rw [if_neg (by simp)]
   simp only [Int.toNat_natCast, hs]
   rw [← o2]
  rw [e]
  refine ⟨⟨by simp [V2.1], fun i t hi => ?_⟩, by rw [List.range_succ, List.map_append, a2]; rfl⟩
  dsimp only at hi
  rw [List.getElem?_set] at hi
  dsimp only
  by_cases c : m = i
  ·subst c
   rw [if_pos rfl, if_pos (by rw [V2.1]; omega)] at hi
   cases hi
   rw [if_pos (by omega)]
   exact o1
  ·rw [if_neg c] at hi
   have := V2.2 i t hi
   dsimp only at this
   by_cases c2 : i < m
   ·rw [if_pos c2] at this; rw [if_pos (by omega)]; exact this
   ·rw [if_neg c2] at this; rw [if_neg (by omega)]; exact this
theorem may9 : mayB N9 = true := by kernel_rfl
theorem N9_size : N9.size = 4 := by kernel_rfl
theorem lk9 (d : ByteArray) (b : Nat) : lk N9 [(N9, d, b)] = some d := by simp [lk]
section
variable {p : PS} {d : ByteArray} {x : Option ByteArray}
theorem sput9 (hd : d.size ≤ 200) (q : St9 p x) : St9 (p.doS 1 N9 d).1 (some d) ∧ ((((p.doS 1 N9 d).2.1 : Nat) : Int), (p.doS 1 N9 d).2.2.1, (p.doS 1 N9 d).2.2.2) = (0, nob, []) := by
 have ft : fitsC N9 d = 0 := by unfold fitsC; rw [may9]; simp; omega
 have big : ∀ p : PS, St9 p x → ¬ (p.quota + room N9 p.es < tot p.es + (N9.size + d.size)) := by
  intro p q
  have := N9_size
  cases x with
  | none =>
   obtain ⟨q1, q2, q3, q4⟩ := q
   rw [q1, q4]; simp only [tot]; omega
  | some y =>
   obtain ⟨q1, q2, q3, hy, b, q4⟩ := q
   rw [q1, q4]; simp only [tot]; omega
 have up : St9 p.up x := by cases x <;> exact q
 have g := big p.up up
 have e : p.up.putS N9 d = (p.up.lay N9 d, 0) := by
  unfold PS.putS
  rw [if_neg (fun z => z ft), if_neg g]
 have dn : p.down = false ∧ p.fails = 0 := by cases x <;> exact ⟨q.2.2.1, q.2.1⟩
 have eD : p.doS 1 N9 d = (p.up.lay N9 d, 0, nob, []) := by
  unfold PS.doS
  rw [if_neg (by rw [dn.1]; decide), if_neg (by rw [dn.2]; decide), if_pos rfl, e]
 rw [eD]
 refine ⟨?_, rfl⟩
 cases x with
 | none =>
  obtain ⟨q1, q2, q3, q4⟩ := q
  exact ⟨q1, q2, q3, hd, p.up.cl, by show pt N9 d p.up.cl p.es = _; rw [q4]; rfl⟩
 | some y =>
  obtain ⟨q1, q2, q3, hy, b, q4⟩ := q
  exact ⟨q1, q2, q3, hd, b, by show pt N9 d p.up.cl p.es = _; rw [q4]; simp [pt]⟩
theorem sget9 (q : St9 p (some d)) : St9 (p.doS 2 N9 nob).1 (some d) ∧ ((((p.doS 2 N9 nob).2.1 : Nat) : Int), (p.doS 2 N9 nob).2.2.1, (p.doS 2 N9 nob).2.2.2) = (0, d, []) := by
 obtain ⟨q1, q2, q3, hd, b, q4⟩ := q
 have eD : p.doS 2 N9 nob = (p.up, 0, d, []) := by
  unfold PS.doS
  rw [if_neg (by rw [q3]; decide), if_neg (by rw [q2]; decide), if_neg (by decide), if_pos rfl, q4, lk9]
  rfl
 rw [eD]
 exact ⟨⟨q1, q2, q3, hd, b, q4⟩, rfl⟩
def has9 (x : Option ByteArray) : List ByteArray := if x.isSome then [N9] else []
theorem nm1 (d : ByteArray) (b : Nat) : nm [(N9, d, b)] = [N9] := by
 have : nm [(N9, d, b)] = ([bl N9].mergeSort leB).map ba := rfl
 rw [this, List.mergeSort_singleton]; rfl
theorem slst9 {w : ByteArray} (hw : starts w N9 = true) (q : St9 p x) : St9 (p.doS 3 w nob).1 x ∧ ((((p.doS 3 w nob).2.1 : Nat) : Int), (p.doS 3 w nob).2.2.1, (p.doS 3 w nob).2.2.2) = (0, nob, has9 x) := by
 have dn : p.down = false ∧ p.fails = 0 := by cases x <;> exact ⟨q.2.2.1, q.2.1⟩
 have eD : p.doS 3 w nob = (p.up, 0, nob, (nm p.es).filter (starts w)) := by
  unfold PS.doS
  rw [if_neg (by rw [dn.1]; decide), if_neg (by rw [dn.2]; decide), if_neg (by decide), if_neg (by decide), if_pos rfl]
 rw [eD]
 refine ⟨by cases x <;> exact q, ?_⟩
 cases x with
 | none =>
  obtain ⟨q1, q2, q3, q4⟩ := q
  have : nm [] = [] := List.eq_nil_of_length_eq_zero (nm_len [])
  rw [q4, this]; rfl
 | some y =>
  obtain ⟨q1, q2, q3, hy, b, q4⟩ := q
  rw [q4, nm1, List.filter_cons_of_pos hw]; rfl
theorem sdel9 (q : St9 p x) : St9 (p.doS 4 N9 nob).1 none ∧ ((((p.doS 4 N9 nob).2.1 : Nat) : Int), (p.doS 4 N9 nob).2.2.1, (p.doS 4 N9 nob).2.2.2) = (if x.isSome then 0 else 5, nob, []) := by
 have dn : p.down = false ∧ p.fails = 0 := by cases x <;> exact ⟨q.2.2.1, q.2.1⟩
 have eD : p.doS 4 N9 nob = ((p.up.delS N9).1, (p.up.delS N9).2, nob, []) := by
  unfold PS.doS
  rw [if_neg (by rw [dn.1]; decide), if_neg (by rw [dn.2]; decide), if_neg (by decide), if_neg (by decide), if_neg (by decide), if_pos rfl]
 rw [eD]
 cases x with
 | none =>
  obtain ⟨q1, q2, q3, q4⟩ := q
  have : p.up.delS N9 = (p.up, 5) := by
   unfold PS.delS
   rw [show p.up.es = [] from q4]; rfl
  rw [this]
  exact ⟨⟨q1, q2, q3, q4⟩, rfl⟩
 | some y =>
  obtain ⟨q1, q2, q3, hy, b, q4⟩ := q
  have : p.up.delS N9 = ({ p.up with es := rm N9 p.up.es }, 0) := by
   unfold PS.delS
   rw [if_pos (by rw [show p.up.es = [(N9, y, b)] from q4, lk9]; rfl)]
  rw [this]
  exact ⟨⟨q1, q2, q3, by show rm N9 p.es = []; rw [q4]; simp [rm]⟩, rfl⟩
end
theorem firstC_none {but : List Int} : ∀ {cs : List Int}, (∀ c ∈ cs, c = 0 ∨ c ∈ but) → firstC but cs = 0
 | [], _ => rfl
 | c :: cs, h => by
  rw [firstC_skip (h c (by simp))]
  exact firstC_none fun x hx => h x (List.mem_cons_of_mem _ hx)
theorem goodC_all {cs : List Int} (h : ∀ c ∈ cs, c = 0) : goodC cs = cs.length := by
 unfold goodC
 rw [List.countP_eq_length]
 intro c hc
 simp [h c hc]
theorem codesY_map (an : Nat → Ry) (n : Nat) : codesY ((List.range n).map an) = (List.range n).map fun i => (an i).1 := by simp [codesY]
theorem goodC_lt : ∀ (m n : Nat), goodC ((List.range m).map fun i => if i < n then (0 : Int) else 5) = min m n
 | 0, n => by simp [goodC]
 | m + 1, n => by
  have ih := goodC_lt m n
  unfold goodC at ih ⊢
  rw [List.range_succ, List.map_append, List.countP_append, ih]
  by_cases c : m < n
  ·simp [c]; omega
  ·simp [c]; omega
theorem only9 : ∀ {l : List ByteArray}, l.Nodup → (∀ x, x ∈ l ↔ x = N9) → l = [N9]
 | [], _, h => absurd ((h N9).2 rfl) (by simp)
 | [x], _, h => by rw [(h x).1 (by simp)]
 | x :: y :: l, n, h => by
  have h1 := (h x).1 (by simp)
  have h2 := (h y).1 (by simp)
  rw [List.nodup_cons] at n
  exact absurd (by rw [h1, h2]; simp) n.1
theorem names9 {an : Nat → Ry} {n m : Nat} (hn : 1 ≤ n) (hm : n ≤ m) (ha : ∀ i, (an i).2.2 = if i < n then [N9] else []) : namesY ((List.range m).map an) = [N9] := by
 have : namesA ((List.range m).map an) [] = [N9] := by
  refine only9 (namesA_nodup .nil) fun x => ?_
  rw [mem_namesA]
  constructor
  ·rintro (h | ⟨y, hy, h⟩)
   ·cases h
   ·obtain ⟨i, _, rfl⟩ := List.mem_map.1 hy
    rw [ha i] at h
    split at h
    ·simpa using h
    ·cases h
  ·rintro rfl
   refine .inr ⟨an 0, List.mem_map.2 ⟨0, by simp; omega, rfl⟩, ?_⟩
   rw [ha 0, if_pos (by omega)]; simp
 unfold namesY nmK
 rw [this, List.map_cons, List.map_nil, List.mergeSort_singleton]; rfl
theorem names0 {an : Nat → Ry} {m : Nat} (ha : ∀ i, (an i).2.2 = []) : namesY ((List.range m).map an) = [] := by
 have : namesA ((List.range m).map an) [] = [] := by
  rw [List.eq_nil_iff_forall_not_mem]
  intro x hx
  rcases mem_namesA.1 hx with h | ⟨y, hy, h⟩
  ·cases h
  ·obtain ⟨i, _, rfl⟩ := List.mem_map.1 hy
   rw [ha i] at h; cases h
 unfold namesY nmK
 rw [this]; simp
end Gs
namespace Gs
open Go Gx
theorem run9F {L : Nat → CallF} {k n N jb : Nat} (hn : N ≤ n) {sl : Slc} {p p' : Prg} {ss ss' : List Sb} {s m st : Nat} {O : Nat → Prop} {h : AHeap} (R : RunR k 300 p ss p' ss' s) (J : JobP L N jb p st O h) (T : Sts h sl m ss) (lts : ∀ y, SSet ss y → y < h.next ∧ ¬ JSet O jb y) (hsl : ∀ a, sl.a = some a → a.block < h.next ∧ ¬ JSet O jb a.block)
  (hm : m + s ≤ 100000) (hk : m + s < k) (hss : st + s ≤ 1048576) (l1 : p'.res.ids.length ≤ 1099511627776) (l2 : p'.res.texts.length ≤ 1099511627776) :
  Gx.Wp (law09_run k (L n) (some ⟨jb, 0, none⟩) sl h) fun z => ∃ O', z.1.2 = p'.over ∧ ResOk z.2 p'.res z.1.1 ∧ JobP L N jb p' (st + s) O' z.2 ∧ (∀ y, O' y → O y ∨ h.next ≤ y) ∧ (∀ y, SSet ss' y ↔ SSet ss y) ∧ Sts z.2 sl (m + s) ss' ∧ Chg (fun y => SSet ss y ∨ O y) h z.2 ∧ (∀ a, z.1.1.2.2.2.1.a = some a → h.next ≤ a.block) ∧ ∀ a, z.1.1.2.2.2.2.1.a = some a → h.next ≤ a.block := by
 simp only [law09_run]
 refine Gx.Wp.new fun H1 k1 n1 g1 => Gx.Wp.ifn (fun z => by cases z) ?_
 have jl := J.lj
 have ol := J.lt
 refine Gx.Wp.call (Run_P (L := L) hn R (J.chg k1 fun _ _ f => f) (T.keeps k1) (fun y hy => ⟨by have := (lts y hy).1; omega, (lts y hy).2⟩) (fun a ha => ⟨by have := (hsl a ha).1; omega, (hsl a ha).2⟩) hm hk hss) fun r5 q5 => ?_
 obtain ⟨O', v, J5, sub, far, sset, T5, c5⟩ := q5
 have n5 := c5.nx
 refine Gx.Wp.call (Result_F (L n) J5 l1 l2) fun r6 q6 => ?_
 obtain ⟨⟨k6, o6⟩, fa, fb⟩ := q6
 have nin : ¬ (SSet ss h.next ∨ O h.next) := fun z => z.elim (fun z => by have := (lts _ z).1; omega) fun z => by have := ol _ z; omega
 have g6 := k6.got (by omega) (c5.got (by omega) nin g1)
 have n6 := k6.nx
 refine Gx.Wp.stL (sp := none) g6 rfl rfl rfl (by decide) fun H7 c7 n7 g7 => Gx.Wp.bnd (sldA_at g7 rfl) (Gx.Wp.bnd rfl (Gx.Wp.of ?_))
 have nO : ¬ O' h.next := fun z => (far _ z).elim (fun z => by have := ol _ z; omega) fun z => by omega
 have cA : Chg (fun y => SSet ss y ∨ O y) h H7 := Chg.beh (T := (· = h.next)) ((Chg.keeps k1).trans (c5.trans (Chg.keeps k6))) c7 fun y hy q => by omega
 refine ⟨O', ?_, ?_, (J5.chg k6 fun _ _ f => f).chg c7 (fun y hy q => ?_), fun y o => (far y o).imp id fun q => by omega, sset, (T5.keeps k6).chg c7 (fun y hy q => ?_) (fun a ha q => ?_), cA, fun a ha => by have := fa a ha; omega, fun a ha => by have := fb a ha; omega⟩
 ·dsimp only
  rw [v]
  cases p'.over <;> rfl
 ·obtain ⟨o1, o2, o3, o4, o5, o6', o7⟩ := o6
  exact ⟨o1, o2, o3, Row.chg o4 c7 fun a ha q => by have := fa a ha; omega, Row.chg o5 c7 fun a ha q => by have := fb a ha; omega, o6', o7⟩
 ·rcases hy with hy | hy
  ·exact nO (q ▸ hy)
  ·omega
 ·have := (lts y ((sset y).1 hy)).1; omega
 ·have := (hsl a ha).1; omega
def Res9 (top : Nat) (H : AHeap) (b : Nat) (r : Rz) : Prop := ∃ i t, H.get b = some (.cells [.int .i64 r.code, .string ⟨#[]⟩, .int .i64 r.n, .slice i.a i.len i.cap, .slice t.a t.len t.cap, .slice none 0 0, .slice none 0 0] 60 true 0) ∧ top ≤ b ∧ b < H.next ∧ Row encS H i r.ids ∧ (∀ a, i.a = some a → top ≤ a.block) ∧ Row encS H t r.texts ∧ (∀ a, t.a = some a → top ≤ a.block)
theorem Res9.chg {S : Nat → Prop} {top : Nat} {h H : AHeap} {b : Nat} {r : Rz} (x : Res9 top h b r) (c : Chg S h H) (s : ∀ y, S y → y < top) : Res9 top H b r := by
 obtain ⟨i, t, g, b1, b2, r1, o1, r2, o2⟩ := x
 exact ⟨i, t, c.got b2 (fun q => by have := s _ q; omega) g, b1, Nat.lt_of_lt_of_le b2 c.nx, Row.chg r1 c fun a ha q => by have := o1 a ha; have := s _ q; omega, o1, Row.chg r2 c fun a ha q => by have := o2 a ha; have := s _ q; omega, o2⟩
structure Run9 (h0 : AHeap) (top : Nat) (h : AHeap) (sl : Slc) (m : Nat) (ss : List Sb) : Prop where
 T : Sts h sl m ss
 ge : top ≤ h.next
 set : ∀ y, SSet ss y → h0.next ≤ y ∧ y < top
 sl : ∀ a, sl.a = some a → a.block < top ∧ ¬ SSet ss a.block
 keep : Keeps h0 h
theorem go9 {k m s top : Nat} {h0 : AHeap} {R : Type} {Q : R → Prop} {mk : AHeap → Option (Option Addr × AHeap)} {h : AHeap} {sl : Slc} {p p' : Prg} {ss ss' : List Sb}
  (W : Gx.Wp (mk h) fun z => ∃ jb O, z.1 = some ⟨jb, 0, none⟩ ∧ Keeps h z.2 ∧ JobP (lvl k) 5 jb p 0 O z.2 ∧ (∀ y, O y → h.next ≤ y) ∧ h.next ≤ jb)
  (RR : RunR k 300 p ss p' ss' s) (G : Run9 h0 top h sl m ss) (hm : m + s ≤ 10000) (hk : 100000 < k) (l1 : p'.res.ids.length ≤ 1099511627776) (l2 : p'.res.texts.length ≤ 1099511627776)
  {F : ((ResT × Bool) × AHeap) → AHeap → Option R}
  (hF : ∀ (r : (ResT × Bool) × AHeap) (H : AHeap), r.1.2 = p'.over → Res9 top H r.2.next p'.res → Run9 h0 top H sl (m + s) ss' → (∀ b x, Res9 top h b x → Res9 top H b x) → Gx.Wp (F r H) Q) :
  Gx.Wp ((mk h).bind fun r11 => (law09_run k (lvl k 60) r11.1 sl r11.2).bind fun r12 => newK r12.2 (.cells [.int .i64 0, .string ⟨#[]⟩, .int .i64 0, .slice none 0 0, .slice none 0 0, .slice none 0 0, .slice none 0 0] 60 true 0) fun h13 =>
   (stL 7 (⟨r12.2.next, 0, none⟩ : Addr) [.int .i64 r12.1.1.1, .string r12.1.1.2.1, .int .i64 r12.1.1.2.2.1, .slice r12.1.1.2.2.2.1.a r12.1.1.2.2.2.1.len r12.1.1.2.2.2.1.cap, .slice r12.1.1.2.2.2.2.1.a r12.1.1.2.2.2.2.1.len r12.1.1.2.2.2.2.1.cap, .slice r12.1.1.2.2.2.2.2.1.a r12.1.1.2.2.2.2.2.1.len r12.1.1.2.2.2.2.2.1.cap, .slice r12.1.1.2.2.2.2.2.2.a r12.1.1.2.2.2.2.2.2.len r12.1.1.2.2.2.2.2.2.cap] h13).bind fun h14 => F r12 h14) Q := by
 refine Gx.Wp.call W fun r1 q1 => ?_
 obtain ⟨jb, O, e1, k1, J, far, hj⟩ := q1
 rw [e1]
 have n1 := k1.nx
 have ge := G.ge
 have jl := J.lj
 refine Gx.Wp.call (run9F (L := lvl k) (N := 5) (n := 60) (by decide) RR J (G.T.keeps k1) (fun y hy => ?_) (fun a ha => ?_) (by omega) (by omega) (by omega) l1 l2) fun r2 q2 => ?_
 ·have := G.set y hy
  exact ⟨by omega, fun z => z.elim (fun z => by have := far y z; omega) fun z => by omega⟩
 ·have := G.sl a ha
  exact ⟨by omega, fun z => z.elim (fun z => by have := far _ z; omega) fun z => by omega⟩
 obtain ⟨O', v, ⟨o1, o2, o3, o4, o5, o6, o7⟩, J2, _, sset, T2, c2, f1, f2⟩ := q2
 have n2 := c2.nx
 refine Gx.Wp.new fun H3 k3 n3 g3 => Gx.Wp.stL (sp := none) g3 rfl rfl rfl (by decide) fun H4 c4 n4 g4 => ?_
 have k4 : Keeps r2.2 H4 := Chg.beh (T := (· = r2.2.next)) k3 c4 fun y hy q => by omega
 have cT : Chg (fun y => SSet ss y) h H4 := by
  refine Chg.trans (Chg.beh (T := fun y => SSet ss y ∨ O y) ((Chg.keeps k1)) c2 fun y hy z => z.elim id fun z => by have := far y z; omega) (Chg.keeps k4)
 have ks : Keeps h0 H4 := ⟨Nat.le_trans G.keep.nx cT.nx, fun x hx _ => by
  have := cT.oth x (Nat.lt_of_lt_of_le hx G.keep.nx) (fun q => by have := (G.set x q).1; omega)
  exact this.trans (G.keep.oth x hx fun f => f)⟩
 refine hF r2 H4 v ⟨r2.1.1.2.2.2.1, r2.1.1.2.2.2.2.1, ?_, by omega, by omega, Row.keeps o4 k4, fun a ha => by have := f1 a ha; omega, Row.keeps o5 k4, fun a ha => by have := f2 a ha; omega⟩ ⟨T2.keeps k4, by omega, fun y hy => G.set y ((sset y).1 hy), fun a ha => ⟨(G.sl a ha).1, fun z => (G.sl a ha).2 ((sset _).1 z)⟩, ks⟩ fun b x hx => hx.chg cT fun y hy => (G.set y hy).2
 rw [g4, o1, o2, o3, o6, o7]; rfl
theorem eachQ_len (kind : Int) (name : ByteArray) (dat : Nat → ByteArray) (n : Nat) : (eachQ kind name dat n).length = n := by simp [eachQ]
theorem eachQ_ok {k : Nat} {kind : Int} {name : ByteArray} {dat : Nat → ByteArray} {n : Nat} (hk : 100 < k) (hn : name.size ≤ 96) : ∀ q ∈ eachQ kind name dat n, NameOk k q := by
 intro q hq
 obtain ⟨i, _, rfl⟩ := List.mem_map.1 hq
 exact ⟨by dsimp only; omega, by dsimp only; omega⟩
theorem runE {k n : Nat} {kind : Int} {name : ByteArray} {dat : Nat → ByteArray} {ss : List Sb} {K : List Ry → Rz} {an : Nat → Ry} (hk : 100 < k) (hn : name.size ≤ 96) (hl : n ≤ 300) (ha : (ansL (eachQ kind name dat n) ss).2 = (List.range n).map an) :
  RunR k 300 (askAll (eachQ kind name dat n) [] fun ys => finP (K ys)) ss (finP (K ((List.range n).map an))) (ansL (eachQ kind name dat n) ss).1 n := by
 have w := run_all (k := k) (K := fun ys => finP (K ys)) (most := 300 - n) (qs := eachQ kind name dat n) (acc := []) (ss := ss) (p' := finP (K ((List.range n).map an))) (ss' := (ansL (eachQ kind name dat n) ss).1) (s := 0) (eachQ_ok hk hn) ?_
 ·rw [eachQ_len, Nat.zero_add, Nat.sub_add_cancel hl] at w
  exact w
 ·rw [List.nil_append, ha]
  exact RunR.over
theorem may20 {n : Nat} (h1 : 1 ≤ n) (h2 : n ≤ 20) : may (n : Int) = true := by
 unfold may
 exact decide_eq_true ⟨by omega, by omega⟩
theorem putE {name : ByteArray} {data : List ByteArray} (h1 : 1 ≤ data.length) (h2 : data.length ≤ 20) : putP name data = askAll (eachQ 1 name (fun i => (data[i]?).getD nob) data.length) [] fun ys => finP (codesZ (codesY ys)) := by
 unfold putP fanP
 rw [if_pos (may20 h1 h2)]
 unfold putsL
 rw [if_pos (may20 h1 h2)]; rfl
theorem askE {n : Nat} {kind : Int} {name : ByteArray} (h1 : 1 ≤ n) (h2 : n ≤ 20) : askL (n : Int) kind name nob = eachQ kind name (fun _ => nob) n := by
 unfold askL
 rw [if_pos (may20 h1 h2)]; rfl
theorem getE {n : Nat} {name : ByteArray} (h1 : 1 ≤ n) (h2 : n ≤ 20) : getP (n : Int) name = askAll (eachQ 2 name (fun _ => nob) n) [] fun ys => finP (codesG ys) := by
 unfold getP fanP
 rw [if_pos (may20 h1 h2), askE h1 h2]
theorem delE' {n : Nat} {name : ByteArray} (h1 : 1 ≤ n) (h2 : n ≤ 20) : delP (n : Int) name = askAll (eachQ 4 name (fun _ => nob) n) [] fun ys => finP (codesD (codesY ys)) := by
 unfold delP fanP
 rw [if_pos (may20 h1 h2), askE h1 h2]
theorem lstE {n : Nat} {name : ByteArray} (h1 : 1 ≤ n) (h2 : n ≤ 20) : lstP (n : Int) name = askAll (eachQ 3 name (fun _ => nob) n) [] fun ys => finP (namesZ (namesY ys) (codesY ys)) := by
 unfold lstP fanP
 rw [if_pos (may20 h1 h2), askE h1 h2]
end Gs
namespace Gs
open Go Gx
section
variable {k n : Nat} {ss : List Sb} {xs : List ByteArray}
theorem dat_map (xs : List ByteArray) : (List.range xs.length).map (fun i => (xs[i]?).getD nob) = xs := by
 apply List.ext_getElem?
 intro i
 rw [List.getElem?_map]
 by_cases hi : i < xs.length
 ·rw [List.getElem?_range hi]
  obtain ⟨x, hx⟩ := isome hi
  rw [hx]; simp [hx]
 ·rw [List.getElem?_eq_none (by simp; omega), List.getElem?_eq_none (by omega)]; rfl
theorem Vw.congr {f g : Nat → Option ByteArray} (V : Vw n ss f) (e : ∀ i, f i = g i) : Vw n ss g := ⟨V.1, fun i s h => e i ▸ V.2 i s h⟩
theorem stPut (hk : 100 < k) {f : Nat → Option ByteArray} (V : Vw 20 ss f) (hf : ∀ i, xs.length ≤ i → f i = none) (h1 : 1 ≤ xs.length) (h2 : xs.length ≤ 20) (hx : ∀ x ∈ xs, x.size ≤ 200) :
  ∃ ss', RunR k 300 (putP N9 xs) ss (finP ⟨0, xs.length, [], []⟩) ss' xs.length ∧ Vw 20 ss' fun i => xs[i]? := by
 obtain ⟨V', a⟩ := each9 (kind := 1) (name := N9) (dat := fun i => (xs[i]?).getD nob) (f' := fun i => xs[i]?) (an := fun _ => (0, nob, [])) V xs.length h2 fun i hi p q => by
  obtain ⟨x, ex⟩ := isome hi
  rw [ex]
  exact sput9 (hx x (mem_of ex)) q
 have R := runE (k := k) (kind := 1) (name := N9) (dat := fun i => (xs[i]?).getD nob) (n := xs.length) (K := fun ys => codesZ (codesY ys)) hk (by rw [N9_size]; decide) (by omega) a
 rw [← putE h1 h2] at R
 have e : codesZ (codesY ((List.range xs.length).map fun _ => ((0, nob, []) : Ry))) = ⟨0, xs.length, [], []⟩ := by
  rw [codesY_map]
  have z : ∀ c ∈ (List.range xs.length).map (fun _ => (0 : Int)), c = 0 := fun c hc => by obtain ⟨_, _, rfl⟩ := List.mem_map.1 hc; rfl
  unfold codesZ
  rw [firstC_none (fun c hc => .inl (z c hc)), goodC_all z]; simp
 rw [e] at R
 refine ⟨_, R, V'.congr fun i => ?_⟩
 by_cases c : i < xs.length
 ·rw [if_pos c]
 ·rw [if_neg c, hf i (by omega), List.getElem?_eq_none (by omega)]
theorem stGet (hk : 100 < k) (V : Vw 20 ss fun i => xs[i]?) (h1 : 1 ≤ xs.length) (h2 : xs.length ≤ 20) : ∃ ss', RunR k 300 (getP (xs.length : Int) N9) ss (finP ⟨0, xs.length, [], xs⟩) ss' xs.length ∧ Vw 20 ss' fun i => xs[i]? := by
 obtain ⟨V', a⟩ := each9 (kind := 2) (name := N9) (dat := fun _ => nob) (f' := fun i => xs[i]?) (an := fun i => (0, (xs[i]?).getD nob, [])) V xs.length h2 fun i hi p q => by
  obtain ⟨x, ex⟩ := isome hi
  rw [ex] at q ⊢
  exact sget9 q
 have R := runE (k := k) (kind := 2) (name := N9) (dat := fun _ => nob) (n := xs.length) (K := codesG) hk (by rw [N9_size]; decide) (by omega) a
 rw [← getE h1 h2] at R
 have e : codesG ((List.range xs.length).map fun i => ((0, (xs[i]?).getD nob, []) : Ry)) = ⟨0, xs.length, [], xs⟩ := by
  unfold codesG
  rw [codesY_map, List.map_map]
  have z : ∀ c ∈ (List.range xs.length).map (fun _ => (0 : Int)), c = 0 := fun c hc => by obtain ⟨_, _, rfl⟩ := List.mem_map.1 hc; rfl
  rw [firstC_none (fun c hc => .inl (z c hc)), goodC_all z]
  have := dat_map xs
  simp only [List.length_map, List.length_range]
  congr 1
 rw [e] at R
 refine ⟨_, R, V'.congr fun i => ?_⟩
 by_cases c : i < xs.length
 ·rw [if_pos c]
 ·rw [if_neg c]
theorem stList (hk : 100 < k) {w : ByteArray} (hw : starts w N9 = true) (hs : w.size ≤ 96) (V : Vw 20 ss fun i => xs[i]?) (h2 : xs.length ≤ 20) : ∃ ss', RunR k 300 (lstP 20 w) ss (finP ⟨0, 20, if xs.length = 0 then [] else [N9], []⟩) ss' 20 ∧ Vw 20 ss' fun i => xs[i]? := by
 obtain ⟨V', a⟩ := each9 (kind := 3) (name := w) (dat := fun _ => nob) (f' := fun i => xs[i]?) (an := fun i => (0, nob, has9 xs[i]?)) V 20 (Nat.le_refl _) fun i hi p q => slst9 hw q
 have R := runE (k := k) (kind := 3) (name := w) (dat := fun _ => nob) (n := 20) (K := fun ys => namesZ (namesY ys) (codesY ys)) hk hs (by omega) a
 rw [← lstE (by decide) (by decide)] at R
 have e : namesZ (namesY ((List.range 20).map fun i => ((0, nob, has9 xs[i]?) : Ry))) (codesY ((List.range 20).map fun i => ((0, nob, has9 xs[i]?) : Ry))) = ⟨0, 20, if xs.length = 0 then [] else [N9], []⟩ := by
  unfold namesZ
  rw [codesY_map]
  have z : ∀ c ∈ (List.range 20).map (fun _ => (0 : Int)), c = 0 := fun c hc => by obtain ⟨_, _, rfl⟩ := List.mem_map.1 hc; rfl
  rw [firstC_none (fun c hc => .inl (z c hc)), goodC_all z]
  have nn : namesY ((List.range 20).map fun i => ((0, nob, has9 xs[i]?) : Ry)) = if xs.length = 0 then [] else [N9] := by
   by_cases c : xs.length = 0
   ·rw [if_pos c]
    refine names0 fun i => ?_
    dsimp only
    rw [List.getElem?_eq_none (by omega)]; rfl
   ·rw [if_neg c]
    refine names9 (n := xs.length) (by omega) h2 fun i => ?_
    dsimp only
    by_cases q : i < xs.length
    ·obtain ⟨x, ex⟩ := isome q
     rw [ex, if_pos q]; rfl
    ·rw [List.getElem?_eq_none (by omega), if_neg q]; rfl
  rw [nn]; simp
 rw [e] at R
 refine ⟨_, R, V'.congr fun i => ?_⟩
 by_cases c : i < 20
 ·rw [if_pos c]
 ·rw [if_neg c]
theorem stDel (hk : 100 < k) (V : Vw 20 ss fun i => xs[i]?) (h2 : xs.length ≤ 20) : ∃ ss', RunR k 300 (delP 20 N9) ss (finP ⟨if xs.length = 0 then 5 else 0, xs.length, [], []⟩) ss' 20 ∧ Vw 20 ss' fun i => ([] : List ByteArray)[i]? := by
 obtain ⟨V', a⟩ := each9 (kind := 4) (name := N9) (dat := fun _ => nob) (f' := fun i => none) (an := fun i => (if xs[i]?.isSome then 0 else 5, nob, [])) V 20 (Nat.le_refl _) fun i hi p q => sdel9 q
 have R := runE (k := k) (kind := 4) (name := N9) (dat := fun _ => nob) (n := 20) (K := fun ys => codesD (codesY ys)) hk (by rw [N9_size]; decide) (by omega) a
 rw [← delE' (by decide) (by decide)] at R
 have e : codesD (codesY ((List.range 20).map fun i => ((if xs[i]?.isSome then 0 else 5, nob, []) : Ry))) = ⟨if xs.length = 0 then 5 else 0, xs.length, [], []⟩ := by
  rw [codesY_map]
  have em : ((List.range 20).map fun i => if xs[i]?.isSome then (0 : Int) else 5) = (List.range 20).map fun i => if i < xs.length then (0 : Int) else 5 := by
   refine List.map_congr_left fun i _ => ?_
   by_cases q : i < xs.length
   ·obtain ⟨x, ex⟩ := isome q
    rw [ex, if_pos q]; rfl
   ·rw [List.getElem?_eq_none (by omega), if_neg q]; rfl
  dsimp only
  rw [em]
  unfold codesD
  have g := goodC_lt 20 xs.length
  rw [Nat.min_eq_right h2] at g
  rw [g, firstC_none fun c hc => by
   obtain ⟨i, _, rfl⟩ := List.mem_map.1 hc
   by_cases q : i < xs.length
   ·rw [if_pos q]; exact .inl rfl
   ·rw [if_neg q]; exact .inr (by simp)]
  by_cases c : xs.length = 0
  ·rw [if_pos ⟨rfl, c⟩, if_pos c]
  ·rw [if_neg (fun z => c z.2), if_neg c]
 rw [e] at R
 refine ⟨_, R, V'.congr fun i => ?_⟩
 by_cases c : i < 20
 ·rw [if_pos c]; rfl
 ·rw [if_neg c, List.getElem?_eq_none (by omega)]; rfl
theorem st_na : starts na9 N9 = true := by kernel_rfl
theorem st_no (n : ByteArray) : starts nob n = true := by
 unfold starts
 exact decide_eq_true (by rfl)
theorem Yd.vw {base : Nat} {h : AHeap} {s : Slc} (M : Yd base 1048576 h s ss) (hl : ss.length = n) : Vw n ss fun _ => none := by
 refine ⟨hl, fun i t ht => ?_⟩
 rw [(M.sr t (mem_of ht)).2.1]
 exact ⟨rfl, rfl, rfl, rfl⟩
end
end Gs
namespace Gs
open Go Gx
section
variable {k : Nat}
theorem fb_l0 {D : CallF} (bot) {h0 : AHeap} {sl : Slc} {xs : List ByteArray} (R : Row encS h0 sl xs) {b0 : Bool} (hl : xs.length ≤ 20) {J} {Q : Bool × AHeap → Prop} (hT : Q (true, h0)) (hJ : (∀ x ∈ xs, x.size ≤ 200) → Gx.Wp (J sl b0 h0) Q) :
  ∀ (d i : Nat), i + d = xs.length → (∀ x ∈ xs.take i, x.size ≤ 200) → Gx.Wp (iterK bot (d + 1) (law09_FanBack_l0b k D J) sl b0 sl (xs.length : Int) (i : Int) h0) Q := fun d => by
 induction d with
 | zero =>
  intro i hd ok
  obtain rfl : i = xs.length := by omega
  rw [List.take_length] at ok
  rw [iterK_s]; simp only [law09_FanBack_l0b]
  exact Gx.Wp.ifn (by simp) (hJ ok)
 | succ d ih =>
  intro i hd ok
  rw [iterK_s]; simp only [law09_FanBack_l0b]
  obtain ⟨x, hx⟩ := isome (l := xs) (i := i) (by omega)
  obtain ⟨p, b1, b2⟩ := R.ldS hx
  refine Gx.Wp.ifp (by simp; omega) (Gx.Wp.bnd b1 (Gx.Wp.bnd b2 ?_))
  by_cases c : 200 < x.size
  ·exact Gx.Wp.ifp (by simp; omega) (Gx.Wp.of hT)
  ·refine Gx.Wp.ifn (by simp; omega) ?_
   rw [Gx.w1 (by omega)]
   refine ih (i + 1) (by omega) fun y hy => ?_
   rw [show xs.take (i + 1) = xs.take i ++ [x] by rw [List.take_add_one, hx]; rfl] at hy
   rcases List.mem_append.1 hy with hy | hy
   ·exact ok y hy
   ·simp at hy; subst hy; omega
theorem fanBack_ok (hk : 2000000 ≤ k) {h : AHeap} {sl : Slc} {data : List ByteArray} (R : Row encS h sl data) (C : Cuts sl) (again : Bool) : Gx.Wp (law09_FanBack k (lvl k 60) sl again h) fun z => z.1 = true := by
 simp only [law09_FanBack]
 refine Gx.Wp.call (works9 (by omega)) fun r1 q1 => ?_
 obtain ⟨w1, k1⟩ := q1
 rw [w1]
 refine Gx.Wp.ifn (fun z => by cases z) (Gx.Wp.jn fun j5 hj5 => ?_)
 have main : ∀ (s : Slc) (xs : List ByteArray), Row encS r1.2 s xs → xs.length ≤ 20 → Gx.Wp (j5 s again r1.2) fun z => z.1 = true := by
  intro s xs R hl
  subst hj5
  refine Gx.Wp.jn fun j9 hj9 => ?_
  unfold law09_FanBack_l0
  obtain ⟨bot, eb⟩ := iterK_of (fun _ _ _ _ _ _ => none) (law09_FanBack_l0b k (lvl k 60) j9) (show xs.length + 1 ≤ k by omega)
  rw [eb, R.1]
  refine fb_l0 bot R hl (Q := fun z => z.1 = true) rfl (fun hx => ?_) xs.length 0 (by omega) (by simp)
  subst hj9
  refine Gx.Wp.call (yard9 (lvl k 60) 20 (by decide) (by omega)) fun r10 q10 => ?_
  obtain ⟨ss, M, k10, l10⟩ := q10
  have n10 := k10.nx
  have G : Run9 r1.2 r10.2.next r10.2 r10.1 0 ss := ⟨M.sts (by decide), Nat.le_refl _, fun y hy => M.sset hy, fun a ha => ⟨(M.ls ha).2.1, (M.ls ha).2.2⟩, k10⟩
  by_cases c : xs.length = 0
  ·have e : putP N9 xs = finP ⟨1, 0, [], []⟩ := by
    have : xs = [] := List.eq_nil_of_length_eq_zero c
    subst this; rfl
   have P := PutJob_P (k := k) (n := 60) (by decide) (by omega) (name := N9) (Row.keeps R k10) (by omega)
   rw [e] at P
   refine go9 (mk := fun H => fan_PutJob k (lvl k 60) N9 s H) (s := 0) P RunR.over G (by omega) (by omega) (Nat.zero_le _) (Nat.zero_le _) fun r12 H e1 X1 G1 _ => ?_
   obtain ⟨i, t, g, _⟩ := X1
   exact Gx.Wp.ifp (by simp [R.1, c]) (Gx.Wp.ifp e1 (Gx.Wp.bnd (sldI_at g rfl) (Gx.Wp.of rfl)))
  ·have h1 : 1 ≤ xs.length := by omega
   obtain ⟨ss1, R1, V1⟩ := stPut (k := k) (by omega) (M.vw l10) (fun _ _ => rfl) h1 hl hx
   refine go9 (mk := fun H => fan_PutJob k (lvl k 60) N9 s H) (PutJob_P (by decide) (by omega) (Row.keeps R k10) (by omega)) R1 G (by omega) (by omega) (Nat.zero_le _) (Nat.zero_le _) fun r12 H1 e1 X1 G1 _ => ?_
   have nz : ¬ ((s.len : Int) == 0) = true := by
    rw [R.1]; intro q
    have : (xs.length : Int) = 0 := by simpa only [beq_iff_eq] using q
    omega
   refine Gx.Wp.ifn nz ?_
   have e1 : r12.1.2 = true := e1
   rw [R.1, e1]
   refine Gx.Wp.jn fun j22 hj22 => ?_
   have rest : ∀ (H : AHeap) (m : Nat) (ss1 : List Sb), m ≤ 100 → Run9 r1.2 r10.2.next H r10.1 m ss1 → Vw 20 ss1 (fun i => xs[i]?) → Res9 r10.2.next H r12.2.next ⟨0, xs.length, [], []⟩ →
     Gx.Wp (j22 s (xs.length : Int) r10.1 (some ⟨r12.2.next, 0, none⟩) true H) fun z => z.1 = true := by
    intro H m ss1 hm G V X1
    subst hj22
    obtain ⟨ss2, R2, V2⟩ := stGet (k := k) (by omega) V h1 hl
    refine go9 (mk := fun H => fan_GetJob k (lvl k 60) (xs.length : Int) N9 H) (GetJob_P (by decide) (by omega)) R2 G (by omega) (by omega) (Nat.zero_le _) (by show xs.length ≤ _; omega) fun r24 H2 e2 X2 G2 c2 => ?_
    obtain ⟨ss3, R3, V3⟩ := stList (k := k) (by omega) st_na (by decide) V2 hl
    rw [if_neg c] at R3
    refine go9 (mk := fun H => fan_ListJob k (lvl k 60) 20 na9 H) (ListJob_P (by decide) (by omega)) R3 G2 (by omega) (by omega) (by decide) (Nat.zero_le _) fun r28 H3 e3 X3 G3 c3 => ?_
    obtain ⟨ss4, R4, V4⟩ := stDel (k := k) (by omega) V3 hl
    rw [if_neg c] at R4
    refine go9 (mk := fun H => fan_DelJob k (lvl k 60) 20 N9 H) (DelJob_P (by decide) (by omega)) R4 G3 (by omega) (by omega) (Nat.zero_le _) (Nat.zero_le _) fun r32 H4 e4 X4 G4 c4 => ?_
    obtain ⟨ss5, R5, V5⟩ := stDel (k := k) (by omega) V4 (Nat.zero_le _)
    have R5 : RunR k 300 (delP 20 N9) ss4 (finP ⟨5, 0, [], []⟩) ss5 20 := R5
    refine go9 (mk := fun H => fan_DelJob k (lvl k 60) 20 N9 H) (DelJob_P (by decide) (by omega)) R5 G4 (by omega) (by omega) (Nat.zero_le _) (Nat.zero_le _) fun r36 H5 e5 X5 G5 c5 => ?_
    obtain ⟨ss6, R6, V6⟩ := stList (k := k) (by omega) (st_no _) (by decide) V5 (Nat.zero_le _)
    have R6 : RunR k 300 (lstP 20 nob) ss5 (finP ⟨0, 20, [], []⟩) ss6 20 := R6
    refine go9 (mk := fun H => fan_ListJob k (lvl k 60) 20 nob H) (ListJob_P (by decide) (by omega)) R6 G5 (by omega) (by omega) (by decide) (Nat.zero_le _) fun r40 H6 e6 X6 G6 c6 => ?_
    have Y1 := c6 _ _ (c5 _ _ (c4 _ _ (c3 _ _ (c2 _ _ X1))))
    have Y2 := c6 _ _ (c5 _ _ (c4 _ _ (c3 _ _ X2)))
    have Y3 := c6 _ _ (c5 _ _ (c4 _ _ X3))
    have Y4 := c6 _ _ (c5 _ _ X4)
    have Y5 := c6 _ _ X5
    obtain ⟨i1, t1, g1, _⟩ := Y1
    obtain ⟨i2, t2, g2, _, b2, _, _, T2, _⟩ := Y2
    obtain ⟨i3, t3, g3, _, b3, I3, _, _, _⟩ := Y3
    obtain ⟨i4, t4, g4, _, b4, _⟩ := Y4
    obtain ⟨i5, t5, g5, _, b5, _⟩ := Y5
    obtain ⟨i6, t6, g6, _, b6, I6, _⟩ := X6
    have Rd := Row.keeps R G6.keep
    have T2 : Row encS H6 t2 xs := T2
    have I3 : Row encS H6 i3 [N9] := I3
    have I6 : Row encS H6 i6 [] := I6
    refine Gx.Wp.ifp rfl (Gx.Wp.ifp e2 (Gx.Wp.ifp e3 (Gx.Wp.ifp e4 (Gx.Wp.ifp e5 (Gx.Wp.ifp e6 (Gx.Wp.bnd rfl (Gx.Wp.bnd (sldI_at g1 rfl) (Gx.Wp.ifp (by rfl) (Gx.Wp.bnd rfl (Gx.Wp.bnd (sldI_at g1 rfl) (Gx.Wp.ifp (by simp) ?_)))))))))))
    refine Gx.Wp.bnd (sldI_at g2 rfl) (Gx.Wp.ifp (by rfl) (Gx.Wp.bnd (sldL_at g2 rfl) (Gx.Wp.bnd (sameS_spec (lvl k 60) (a := ⟨t2.a, t2.len, t2.cap⟩) T2 Rd (by omega) (by omega)) (Gx.Wp.ifp rfl (Gx.Wp.bnd (sldL_at g3 rfl) ?_)))))
    refine Gx.Wp.new fun H7 k7 n7 g7 => ?_
    have k7 : Keeps H6 H7 := k7
    have n7 : H7.next = H6.next + 1 := n7
    have Rn : Row encS H7 (⟨some ⟨H6.next, 0, some 0⟩, 1, 1⟩ : Slc) [N9] := row_lit [N9] (e := 9) (r := true) (fz := 0) g7 (by omega)
    refine Gx.Wp.bnd (sameS_spec (lvl k 60) (a := ⟨i3.a, i3.len, i3.cap⟩) (Row.keeps I3 k7) Rn (by show 1 < k; omega) (by decide)) (Gx.Wp.ifp rfl ?_)
    refine Gx.Wp.bnd (sldI_at (k7.got b3 g3) rfl) (Gx.Wp.ifp (by rfl) (Gx.Wp.bnd (sldI_at (k7.got b4 g4) rfl) (Gx.Wp.ifp (by rfl) (Gx.Wp.bnd (sldI_at (k7.got b4 g4) rfl) (Gx.Wp.ifp (by show ((xs.length : Int) == (xs.length : Int)) = true; simp) (Gx.Wp.bnd (sldI_at (k7.got b5 g5) rfl) (Gx.Wp.ifp (by rfl) (Gx.Wp.bnd (sldL_at (k7.got b6 g6) rfl) (Gx.Wp.of ?_)))))))))
    show (((i6.len : Nat) : Int) == 0) = true
    rw [I6.1]; rfl
   cases again with
   | false => exact Gx.Wp.ifn (fun z => by cases z) (rest H1 _ ss1 (by omega) G1 V1 X1)
   | true =>
    refine Gx.Wp.ifp rfl ?_
    obtain ⟨ss2, R2, V2⟩ := stPut (k := k) (xs := xs) (by omega) V1 (fun i hi => List.getElem?_eq_none hi) h1 hl hx
    refine go9 (mk := fun H => fan_PutJob k (lvl k 60) N9 s H) (PutJob_P (by decide) (by omega) (Row.keeps R G1.keep) (by omega)) R2 G1 (by omega) (by omega) (Nat.zero_le _) (Nat.zero_le _) fun r59 H2 e2 X2 G2 c2 => ?_
    have e2 : r59.1.2 = true := e2
    refine Gx.Wp.jn fun j69 hj69 => ?_
    obtain ⟨i, t, g, _⟩ := X2
    refine Gx.Wp.ifn (by rw [e2]; decide) (Gx.Wp.bnd (sldI_at g rfl) ?_)
    subst hj69
    refine Gx.Wp.ifn (by show ¬ ((xs.length : Int) != (xs.length : Int)) = true; simp) ?_
    exact rest H2 _ ss2 (by omega) G2 V2 (c2 _ _ X1)
 by_cases c : 20 < data.length
 ·refine Gx.Wp.ifp (by rw [R.1]; simp; omega) ?_
  rcases cut_of C (w := 1) (n := 20) (by rw [R.1]; exact c) with e | e
  ·refine Gx.Wp.bnd e ?_
   refine main _ (data.take 20) ?_ (by simp; omega)
   have := Row.keeps R k1
   obtain ⟨sa, sn, sc⟩ := sl
   rw [← List.take_append_drop 20 data] at this
   have R20 := Row.take (cap' := sc) this
   rw [List.length_take, Nat.min_eq_left (by omega)] at R20
   exact R20
  ·obtain ⟨x, hx⟩ := isome (l := data) (i := 0) (by omega)
   obtain ⟨b, _, _, _, _, h1, _⟩ := R.2 0 x hx
   rw [e] at h1; cases h1
 ·exact Gx.Wp.ifn (by rw [R.1]; simp; omega) (main sl data (Row.keeps R k1) (by omega))
theorem fanBack_rep (hk : 2000000 ≤ k) {h : AHeap} {sl : Slc} {data : List ByteArray} (R : Row encS h sl data) (C : Cuts sl) (again : Bool) : ∃ h', law09_FanBack k (DD k) sl again h = some (true, h') := by
 obtain ⟨⟨r, h'⟩, e, q⟩ := fanBack_ok hk R C again
 obtain rfl : r = true := q
 exact ⟨h', e⟩
end
end Gs
