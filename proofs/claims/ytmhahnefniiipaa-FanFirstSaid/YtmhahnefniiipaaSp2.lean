import Derived.Test.YtmhahnefniiipaaSp1
namespace Gs
open Go Gx
theorem TSet_set {ss : List Tb} {i : Nat} {s : Tb} {p : RSt} (hi : ss[i]? = some s) (y : Nat) : TSet (ss.set i (s.1, p)) y ↔ TSet ss y := by
 constructor
 ·rintro ⟨t, ht, q⟩
  rcases List.mem_or_eq_of_mem_set ht with ht | rfl
  ·exact ⟨t, ht, q⟩
  ·exact ⟨s, mem_of hi, q⟩
 ·rintro ⟨t, ht, q⟩
  obtain ⟨j, hj⟩ := List.getElem?_of_mem ht
  by_cases c : j = i
  ·subst c
   rw [hi] at hj; cases hj
   have hlt := (List.getElem?_eq_some_iff.1 hi).1
   exact ⟨(s.1, p), List.mem_of_getElem? (i := j) (by rw [List.getElem?_set]; simp [hlt]), q⟩
  ·exact ⟨t, List.mem_of_getElem? (i := j) (by rw [List.getElem?_set_ne (fun z => c z.symm)]; exact hj), q⟩
theorem RAnswer_spec {k : Nat} (D : CallF) {h : AHeap} {sl : Slc} {m : Nat} {ss : List Tb} (T : Rts h sl m ss) (r : Rq) (hm : m ≤ 100000) (hk : m + 1 < k) (hk2 : 100 < k) (ht : ∀ t ∈ ss, ∀ n d, totR (lyR n d t.2.L) ≤ 1152921504606846976 ∨ fitsC n d ≠ 0) :
  Gx.Wp (ref08_Answer k D sl r h) fun z => Chg (TSet ss) h z.2 ∧ Rts z.2 sl (m + 1) (ansR ss r).1 ∧ z.1.1 = (ansR ss r).2.1 ∧ z.1.2.1 = (ansR ss r).2.2.1 ∧ Acc encS 9 h.next z.2 z.1.2.2 (ansR ss r).2.2.2 := by
 obtain ⟨st, kind, n, d⟩ := r
 simp only [ref08_Answer]
 obtain ⟨H1, e1⟩ : ∃ H1, H1 = h.new (.cells [.int .i64 st, .int .i64 kind, .string n, .string d] 32 true 0) := ⟨_, rfl⟩
 rw [← e1]
 obtain ⟨H2, e2⟩ : ∃ H2, H2 = H1.new (.cells [.int .i64 0, .string ⟨#[]⟩, .slice none 0 0] 29 true 0) := ⟨_, rfl⟩
 rw [← e2]
 have k1 : Keeps h H1 := e1 ▸ Keeps.new h _
 have k2 : Keeps h H2 := k1.trans (e2 ▸ Keeps.new H1 _)
 have n1 : H1.next = h.next + 1 := by rw [e1]; rfl
 have n2 : H2.next = h.next + 2 := by rw [e2]; simp [n1]
 have rq : H2.get h.next = some (.cells [.int .i64 st, .int .i64 kind, .string n, .string d] 32 true 0) := by
  rw [e2]; simp only [AHeap.get_new]; rw [if_neg (by omega), e1]; simp
 have rs : H2.get H1.next = some (.cells [.int .i64 0, .string ⟨#[]⟩, .slice none 0 0] 29 true 0) := by rw [e2]; simp
 have T2 := T.keeps k2
 have len : sl.len = ss.length := T.rd.1
 refine Gx.Wp.jn fun j8 h8 => Gx.Wp.bnd (sldI_at rq rfl) ?_
 have bad : ansR ss (st, kind, n, d) = (ss, (1, nob, [])) → Gx.Wp (j8 sl (some ⟨h.next, 0, none⟩) (some ⟨H1.next, 0, none⟩) true H2) fun z => Chg (TSet ss) h z.2 ∧ Rts z.2 sl (m + 1) (ansR ss (st, kind, n, d)).1 ∧ z.1.1 = (ansR ss (st, kind, n, d)).2.1 ∧ z.1.2.1 = (ansR ss (st, kind, n, d)).2.2.1 ∧ Acc encS 9 h.next z.2 z.1.2.2 (ansR ss (st, kind, n, d)).2.2.2 := by
  intro ea
  subst h8
  refine Gx.Wp.ifp rfl (Gx.Wp.bnd rfl ?_)
  refine fin3 rs rfl 1 ⟨#[]⟩ ⟨none, 0, 0⟩ ?_
  have kf : Keeps h (H2.set H1.next (.cells [.int .i64 1, .string ⟨#[]⟩, .slice none 0 0] 29 true 0)) := Chg.beh (T := (· = H1.next)) k2 (Chg.set (.inr rfl)) fun y hy q => by omega
  rw [ea]
  have Tf := T.keeps kf
  exact ⟨Chg.keeps kf, ⟨Tf.rd, Tf.fr, fun i s hi => ⟨(Tf.st i s hi).1, ⟨Nat.le_succ_of_le (Tf.st i s hi).2.l, Nat.le_succ_of_le (Tf.st i s hi).2.c, (Tf.st i s hi).2.f⟩⟩, Tf.ap⟩, rfl, rfl, Acc.nil _ _ _ _⟩
 by_cases c1 : st < 0
 ·refine Gx.Wp.ifp (by simpa using c1) (bad ?_)
  unfold ansR; rw [if_pos c1]
 refine Gx.Wp.ifn (by simpa using c1) (Gx.Wp.bnd (sldI_at rq rfl) ?_)
 obtain ⟨i, rfl⟩ : ∃ i : Nat, st = (i : Int) := ⟨st.toNat, by omega⟩
 by_cases c2 : ss.length ≤ i
 ·refine Gx.Wp.ifp (by rw [len]; simp; omega) (bad ?_)
  unfold ansR
  rw [if_neg c1]
  show (match ss[((i : Nat) : Int).toNat]? with | none => _ | some s => _) = _
  rw [Int.toNat_natCast, List.getElem?_eq_none c2]
 obtain ⟨s, hsi⟩ := isome (l := ss) (i := i) (by omega)
 refine Gx.Wp.ifn (by rw [len]; simp; omega) (Gx.Wp.bnd (sldI_at rq rfl) ?_)
 obtain ⟨q, q1, q2, _⟩ := T2.rd.rd hsi
 have ldp : Gx.ldP q H2 = some (some ⟨s.1, 0, none⟩) := by simp only [Gx.ldP, q2]; rfl
 refine Gx.Wp.bnd q1 (Gx.Wp.bnd ldp ?_)
 subst h8
 refine Gx.Wp.ifn (fun z => by cases z) (Gx.Wp.bnd rfl (Gx.Wp.bnd (sldI_at rq rfl) (Gx.Wp.bnd q1 (Gx.Wp.bnd ldp (Gx.Wp.bnd rfl (Gx.Wp.bnd (sldA_at rq rfl) (Gx.Wp.bnd rfl ?_)))))))
 obtain ⟨sR, sB⟩ := T2.st i s hsi
 refine Gx.Wp.call (rDo_spec D sR i kind n d (by have := sB.l; omega) (by have := sB.c; omega) sB.f (by have := sB.l; omega) hk2 (fun _ => ht s (mem_of hsi) n d)) fun r21 hq => ?_
 obtain ⟨a1, a2, A, c, s1⟩ := hq
 rw [a1, a2]
 refine Gx.Wp.bnd rfl ?_
 have inS : ∀ y, y = s.1 → TSet ss y := fun y z => ⟨s, mem_of hsi, z⟩
 have lts : ∀ y, TSet ss y → y < h.next := by
  rintro y ⟨t, ht, z⟩
  obtain ⟨j, hj⟩ := List.getElem?_of_mem ht
  have := ((T.st j t hj).1).lt
  omega
 have rs2 : r21.2.get H1.next = some (.cells [.int .i64 0, .string ⟨#[]⟩, .slice none 0 0] 29 true 0) := (c.oth _ (by omega) (fun z => by have := lts _ (inS _ z); omega)).trans rs
 refine fin3 rs2 rfl _ _ _ ?_
 have ea : ansR ss ((i : Int), kind, n, d) = (ss.set i (s.1, (s.2.doS kind n d).1), (((s.2.doS kind n d).2.1 : Int), (s.2.doS kind n d).2.2.1, (s.2.doS kind n d).2.2.2)) := by
  unfold ansR
  rw [if_neg c1]
  show (match ss[((i : Nat) : Int).toNat]? with | none => _ | some s => _) = _
  rw [Int.toNat_natCast, hsi]
 rw [ea]
 have nA := c.nx
 have cS : Chg (TSet ss) h r21.2 := (Chg.keeps k2).trans (c.wk fun y _ z => inS y z)
 have cF : Chg (TSet ss) h (r21.2.set H1.next (.cells [.int .i64 ((s.2.doS kind n d).2.1 : Int), .string (s.2.doS kind n d).2.2.1, .slice r21.1.2.2.a r21.1.2.2.len r21.1.2.2.cap] 29 true 0)) := Chg.beh (T := (· = H1.next)) cS (Chg.set (.inr rfl)) fun y hy z => by omega
 obtain ⟨HF, eF⟩ : ∃ HF, HF = r21.2.set H1.next (.cells [.int .i64 ((s.2.doS kind n d).2.1 : Int), .string (s.2.doS kind n d).2.2.1, .slice r21.1.2.2.a r21.1.2.2.len r21.1.2.2.cap] 29 true 0) := ⟨_, rfl⟩
 rw [← eF] at cF ⊢
 have cl : Chg (· = H1.next) r21.2 HF := eF ▸ Chg.set (.inr rfl)
 have hlt := (List.getElem?_eq_some_iff.1 hsi).1
 refine ⟨cF, ⟨?_, ?_, ?_, ?_⟩, rfl, rfl, ⟨(A.chg cl fun a ha z => by have := (A.lt a ha).2; omega).st, fun a ha => ⟨Nat.lt_of_lt_of_le (A.lt a ha).1 cl.nx, by have := (A.lt a ha).2; omega⟩⟩⟩
 ·-- the list is the same
  have R : Row encT1 HF sl ss := Row.chg T.rd cF T.fr
  refine ⟨by rw [R.1]; simp, fun j t hj => ?_⟩
  by_cases cj : j = i
  ·subst cj
   rw [List.getElem?_set] at hj
   simp [hlt] at hj
   subst hj
   exact R.2 j s hsi
  ·rw [List.getElem?_set_ne (fun z => cj z.symm)] at hj
   exact R.2 j t hj
 ·intro a ha z
  exact T.fr a ha ((TSet_set hsi _).1 z)
 ·intro j t hj
  by_cases cj : j = i
  ·subst cj
   rw [List.getElem?_set] at hj
   simp [hlt] at hj
   subst hj
   obtain ⟨d1, d2, d3⟩ := rdo_len s.2 kind n d
   refine ⟨s1.apartE cl fun y hy => ⟨by have := lts s.1 (inS _ rfl); show y ≠ s.1; omega, by subst hy; exact ⟨_, _, _, _, rs2, by decide⟩⟩, ⟨?_, ?_, ?_⟩⟩
   ·have := sB.l; show (s.2.doS kind n d).1.L.length ≤ _; omega
   ·have := sB.c; show (s.2.doS kind n d).1.many ≤ _; omega
   ·have := sB.f; show (s.2.doS kind n d).1.fails ≤ _; omega
  ·rw [List.getElem?_set_ne (fun z => cj z.symm)] at hj
   obtain ⟨tR, tB⟩ := T2.st j t hj
   have p1 := T.ap i j s t hsi hj (fun z => cj z.symm)
   obtain ⟨c0, g0⟩ := sR.ty
   have q1 := tR.apartE c fun y hy => ⟨by subst hy; exact p1, by subst hy; exact ⟨_, _, _, _, g0, by decide⟩⟩
   exact ⟨q1.apartE cl fun y hy => ⟨by have := lts t.1 ⟨t, mem_of hj, rfl⟩; show y ≠ t.1; omega, by subst hy; exact ⟨_, _, _, _, rs2, by decide⟩⟩, ⟨by have := tB.l; omega, by have := tB.c; omega, tB.f⟩⟩
 ·intro a b s' t' ha hb hab
  have back : ∀ (j : Nat) u, (ss.set i (s.1, (s.2.doS kind n d).1))[j]? = some u → ∃ v, ss[j]? = some v ∧ u.1 = v.1 := by
   intro j u hu
   by_cases cj : j = i
   ·subst cj
    rw [List.getElem?_set] at hu
    simp [hlt] at hu
    subst hu
    exact ⟨s, hsi, rfl⟩
   ·rw [List.getElem?_set_ne (fun z => cj z.symm)] at hu
    exact ⟨u, hu, rfl⟩
  obtain ⟨u, hu, u1⟩ := back a s' ha
  obtain ⟨v, hv, v1⟩ := back b t' hb
  have := T.ap a b u v hu hv hab
  rw [u1, v1]; exact this
end Gs
namespace Gs
open Go Gx
def ansRL : List Rq → List Tb → List Tb × List Ry
 | [], ts => (ts, [])
 | q :: qs, ts => ((ansRL qs (ansR ts q).1).1, (ansR ts q).2 :: (ansRL qs (ansR ts q).1).2)
theorem both_all : ∀ {qs : List Rq} {ss : List Sb} {ts : List Tb}, Bth ss ts → (ansL qs ss).2 = (ansRL qs ts).2 ∧ Bth (ansL qs ss).1 (ansRL qs ts).1
 | [], _, _, B => ⟨rfl, B⟩
 | q :: qs, ss, ts, B => by
  obtain ⟨B', e⟩ := B.ans q
  obtain ⟨h1, h2⟩ := both_all (qs := qs) B'
  exact ⟨by simp only [ansL, ansRL, e, h1], h2⟩
theorem ansRL_snoc : ∀ (qs : List Rq) (q : Rq) (ts : List Tb), ansRL (qs ++ [q]) ts = ((ansR (ansRL qs ts).1 q).1, (ansRL qs ts).2 ++ [(ansR (ansRL qs ts).1 q).2])
 | [], q, ts => rfl
 | r :: qs, q, ts => by simp only [List.cons_append, ansRL, ansRL_snoc qs q]
theorem ansRL_len : ∀ (qs : List Rq) (ts : List Tb), (ansRL qs ts).2.length = qs.length
 | [], _ => rfl
 | q :: qs, ts => by simp only [ansRL, List.length_cons, ansRL_len qs]
theorem TSet_ans (ts : List Tb) (r : Rq) (y : Nat) : TSet (ansR ts r).1 y ↔ TSet ts y := by
 unfold ansR
 split
 ·exact Iff.rfl
 ·split
  ·exact Iff.rfl
  ·rename_i s hs; exact TSet_set hs y
theorem tot_rel {p : PS} {r : RSt} (R : Rel p r) (hl : r.L.length ≤ 1048576) (n d : ByteArray) : totR (lyR n d r.L) ≤ 1152921504606846976 ∨ fitsC n d ≠ 0 := by
 by_cases c : fitsC n d = 0
 ·obtain ⟨hn, hd, _⟩ := fits0 c
  have RL := R.lay hn hd
  have t1 : Gs.tot (pt n d p.cl p.es) = totR (lyR n d r.L) := RL.tot
  have t2 := tot_pt (n := n) (d := d) (cl := p.cl) p.es
  have t3 := tot_le R.g
  have := R.len
  exact .inl (by omega)
 ·exact .inr c
theorem Bth.tot {ss : List Sb} {ts : List Tb} {h : AHeap} {sl : Slc} {m : Nat} (B : Bth ss ts) (T : Rts h sl m ts) (hm : m ≤ 100000) : ∀ t ∈ ts, ∀ n d, totR (lyR n d t.2.L) ≤ 1152921504606846976 ∨ fitsC n d ≠ 0 := by
 intro t ht n d
 obtain ⟨i, hi⟩ := List.getElem?_of_mem ht
 obtain ⟨s, hs⟩ := isome (l := ss) (i := i) (by rw [B.len]; exact (List.getElem?_eq_some_iff.1 hi).1)
 exact tot_rel (B.rel i s t hs hi) (by have := (T.st i t hi).2.l; omega) n d
theorem Rts.apartE {S : Nat → Prop} {h h' : AHeap} {sl : Slc} {m : Nat} {ts : List Tb} (T : Rts h sl m ts) (c : Chg S h h') (hS : ∀ y, S y → ¬ TSet ts y ∧ ∃ c e rw fz, h.get y = some (.cells c e rw fz) ∧ e ≠ 124) (ha : ∀ a, sl.a = some a → ¬ S a.block) : Rts h' sl m ts :=
 ⟨Row.chg T.rd c ha, T.fr, fun i t hi => ⟨(T.st i t hi).1.apartE c fun y hy => ⟨fun e => (hS y hy).1 ⟨t, mem_of hi, e⟩, (hS y hy).2⟩, (T.st i t hi).2⟩, T.ap⟩
end Gs
namespace Gs
open Go Gx
theorem rdo_names (r : RSt) (kind : Int) (n d : ByteArray) : (r.doS kind n d).2.2.2.length ≤ r.L.length := by
 have fl := List.length_filter_le (starts n) (r.L.map (·.1))
 rw [List.length_map] at fl
 unfold RSt.doS
 repeat' split
 all_goals first | exact fl | exact Nat.zero_le _
theorem ansR_names {ts : List Tb} {m : Nat} (h : ∀ t ∈ ts, t.2.L.length ≤ m) (q : Rq) : (ansR ts q).2.2.2.length ≤ m := by
 unfold ansR
 split
 ·exact Nat.zero_le _
 ·split
  ·exact Nat.zero_le _
  ·rename_i s hs
   exact Nat.le_trans (rdo_names _ _ _ _) (h s (mem_of hs))
section
variable {k : Nat} {h0 : AHeap} {kb : Nat} {r sl lk : Slc} {qs : List Rq} {ts0 : List Tb} {ss0 : List Sb}
structure Doc (h0 : AHeap) (kb : Nat) (r lk : Slc) (qs : List Rq) (ts0 : List Tb) (i : Nat) (h : AHeap) : Prop where
 t : Rts h r i (ansRL (qs.take i) ts0).1
 l : LR h kb lk i (Rz.of (ansRL (qs.take i) ts0).2)
 b : idsL (ansRL (qs.take i) ts0).2 ≤ i * 100000
 s : ∀ y, TSet (ansRL (qs.take i) ts0).1 y ↔ TSet ts0 y
 c : Chg (fun y => TSet ts0 y ∨ y = kb) h0 h
theorem Doc.step (D : CallF) {i : Nat} {h : AHeap} (S : Doc h0 kb r lk qs ts0 i h) (hr : ∀ a, r.a = some a → a.block ≠ kb) (B : Bth ss0 ts0) (low : ∀ y, TSet ts0 y → y < kb) {q : Rq} (hq : qs[i]? = some q) (hi : i ≤ 100) (hk : 200 < k)
  {R : Type} {Q : R → Prop} {f : AHeap → Option R} (hf : ∀ h', Doc h0 kb r lk qs ts0 (i + 1) h' → Gx.Wp (f h') Q) :
  Gx.Wp ((ref08_Answer k D r (q.1, q.2.1, q.2.2.1, q.2.2.2) h).bind fun r106 => (ref08_List_Give k D (some ⟨kb, 0, none⟩) (r106.1.1, r106.1.2.1, r106.1.2.2) r106.2).bind fun r107 => f r107.2) Q := by
 have Bi := (both_all (qs := qs.take i) B).2
 have e1 : qs.take (i + 1) = qs.take i ++ [q] := by rw [List.take_add_one, hq]; rfl
 have len := ansRL_len (qs.take i) ts0
 have li : (qs.take i).length ≤ i := by simp; omega
 refine Gx.Wp.call (RAnswer_spec D S.t q (by omega) (by omega) (by omega) (Bi.tot S.t (by omega))) fun a ha => ?_
 obtain ⟨ca, Ta, v1, v2, Aa⟩ := ha
 have nm := ansR_names (ts := (ansRL (qs.take i) ts0).1) (m := i) (fun t ht => by
  obtain ⟨j, hj⟩ := List.getElem?_of_mem ht
  exact (S.t.st j t hj).2.l) q
 have La := S.l.below ca fun y hy => low y ((S.s y).1 hy)
 have na := ca.nx
 have lk0 := S.l.lt
 rw [v1, v2]
 refine Gx.Wp.call (LGive_spec D La Aa.row (fun b hb => by have := (Aa.lt b hb).2; omega) (by omega) (by have := zof_n (ansRL (qs.take i) ts0).2; omega) (by rw [zof_ids]; have := S.b; omega) (by rw [zof_texts, List.length_map]; omega)) fun w hw => ?_
 obtain ⟨cw, Lw⟩ := hw
 obtain ⟨s', t', gb, _⟩ := La.blk
 refine hf w.2 ⟨?_, ?_, ?_, fun y => ?_, S.c.trans ((ca.wk fun y _ z => .inl ((S.s y).1 z)).trans (cw.wk fun y _ z => .inr z))⟩
 ·rw [e1, ansRL_snoc]
  exact Ta.apartE cw (fun y hy => ⟨fun z => by have := low y ((S.s y).1 ((TSet_ans _ q y).1 z)); omega, by subst hy; exact ⟨_, _, _, _, gb, by decide⟩⟩) fun a ha => hr a ha
 ·rw [e1, ansRL_snoc, zof_snoc]; exact Lw
 ·rw [e1, ansRL_snoc, idsL_app]
  have := S.b
  simp only [idsL]; omega
 ·rw [e1, ansRL_snoc]; exact (TSet_ans _ q y).trans (S.s y)
end
section
variable {k : Nat} {s r : Slc} {ss : List Sb} {ts : List Tb}
end
end Gs
namespace Gs
open Go Gx
end Gs
namespace Gs
open Go Gx
end Gs
namespace Gs
open Go Gx
noncomputable def DD (k : Nat) : CallF := lvl k 60
theorem DD_sound (k : Nat) : CSound Go.Proofs.Try.prog 0 (DD k) := lvl_sound k 60
end Gs
namespace Gs
open Go Gx
def jobAt (qs : List Rq) (ss : List Sb) (i : Nat) : Prg := askAll (qs.drop i) (ansL (qs.take i) ss).2 fun ys => finP (Rz.of ys)
theorem ansL_snoc : ∀ (qs : List Rq) (q : Rq) (ss : List Sb), ansL (qs ++ [q]) ss = ((ansS (ansL qs ss).1 q).1, (ansL qs ss).2 ++ [(ansS (ansL qs ss).1 q).2])
 | [], q, ss => rfl
 | r :: qs, q, ss => by simp only [List.cons_append, ansL, ansL_snoc qs q]
theorem ansL_set (y : Nat) : ∀ (qs : List Rq) (ss : List Sb), SSet (ansL qs ss).1 y ↔ SSet ss y
 | [], _ => Iff.rfl
 | q :: qs, ss => (ansL_set y qs _).trans (SSet_ans ss q y)
theorem jobAt_next {qs : List Rq} {i : Nat} {q : Rq} (hq : qs[i]? = some q) : qs.take (i + 1) = qs.take i ++ [q] := by rw [List.take_add_one, hq]; rfl
theorem jobAt_ask {qs : List Rq} {ss : List Sb} {i : Nat} {q : Rq} (hq : qs[i]? = some q) : ∃ kk, jobAt qs ss i = .ask q kk ∧ kk (ansS (ansL (qs.take i) ss).1 q).2 = jobAt qs ss (i + 1) := by
 refine ⟨fun y => askAll (qs.drop (i + 1)) ((ansL (qs.take i) ss).2 ++ [y]) fun ys => finP (Rz.of ys), ?_, ?_⟩
 ·unfold jobAt; rw [dropc hq]; rfl
 ·unfold jobAt; rw [jobAt_next hq, ansL_snoc]
theorem jobAt_over {qs : List Rq} {ss : List Sb} {i : Nat} (hi : i ≤ qs.length) : (jobAt qs ss i).over = decide (i = qs.length) := by
 by_cases c : i = qs.length
 ·subst c
  unfold jobAt
  rw [List.drop_length, decide_eq_true rfl]; rfl
 ·obtain ⟨q, hq⟩ := isome (l := qs) (i := i) (by omega)
  obtain ⟨kk, e, _⟩ := jobAt_ask (ss := ss) hq
  rw [e, decide_eq_false c]; rfl
def TF (O : Nat → Prop) (jb : Nat) (ss : List Sb) (sl : Slc) (y : Nat) : Prop := JSet O jb y ∨ SSet ss y ∨ ofS sl y
structure TJ (k : Nat) (qs : List Rq) (ss : List Sb) (jb : Nat) (sl : Slc) (i : Nat) (O : Nat → Prop) (h : AHeap) : Prop where
 j : JobP (lvl k) 4 jb (jobAt qs ss i) i O h
 s : Sts h sl i (ansL (qs.take i) ss).1
 d : ∀ y, SSet ss y → ¬ JSet O jb y
 e : ∀ a, sl.a = some a → ¬ JSet O jb a.block
 lt : ∀ y, TF O jb ss sl y → y < h.next
theorem TJ.chg {S : Nat → Prop} {k : Nat} {qs : List Rq} {ss : List Sb} {jb : Nat} {sl : Slc} {i : Nat} {O : Nat → Prop} {h h' : AHeap} (J : TJ k qs ss jb sl i O h) (c : Chg S h h') (hs : ∀ y, TF O jb ss sl y → ¬ S y) : TJ k qs ss jb sl i O h' :=
 ⟨J.j.chg c fun y hy => hs y (.inl hy), J.s.chg c (fun y hy => hs y (.inr (.inl ((ansL_set y _ _).1 hy)))) fun a ha => hs _ (.inr (.inr ⟨a, ha, rfl⟩)), J.d, J.e, fun y hy => Nat.lt_of_lt_of_le (J.lt y hy) c.nx⟩
theorem TJ.run {k n : Nat} (hn : 4 ≤ n) (hk : 100000 < k) {qs : List Rq} {ss : List Sb} {jb : Nat} {sl : Slc} {i : Nat} {O : Nat → Prop} {h : AHeap} (J : TJ k qs ss jb sl i O h) (hi : i < qs.length) (hq : qs.length ≤ 1000) (hnm : ∀ q ∈ qs, NameOk k q) :
  Gx.Wp (port_Run k (lvl k n) (some ⟨jb, 0, none⟩) sl 1 h) fun z => ∃ O', z.1 = (1, if i + 1 = qs.length then 0 else 2) ∧ TJ k qs ss jb sl (i + 1) O' z.2 ∧ Chg (TF O jb ss sl) h z.2 ∧ ∀ y, TF O' jb ss sl y → TF O jb ss sl y ∨ h.next ≤ y := by
 obtain ⟨q, hqi⟩ := isome hi
 obtain ⟨kk, e1, e2⟩ := jobAt_ask (ss := ss) hqi
 have sS : ∀ y, SSet (ansL (qs.take i) ss).1 y ↔ SSet ss y := fun y => ansL_set y _ _
 have R : RunR k 1 (jobAt qs ss i) (ansL (qs.take i) ss).1 (jobAt qs ss (i + 1)) (ansS (ansL (qs.take i) ss).1 q).1 1 := by
  rw [e1]
  refine RunR.step (most := 0) (s := 0) (hnm q (mem_of hqi)) ?_
  rw [e2]; exact .stop
 refine Gx.Wp.mono (Run_P (L := lvl k) (N := 4) hn R J.j J.s (fun y hy => ?_) (fun a ha => ?_) (by omega) (by omega) (by omega)) fun z hz => ?_
 ·have hy := (sS y).1 hy
  exact ⟨J.lt y (.inr (.inl hy)), J.d y hy⟩
 ·exact ⟨J.lt _ (.inr (.inr ⟨a, ha, rfl⟩)), J.e a ha⟩
 ·obtain ⟨O', v, j', sub, far, sset, s', c⟩ := hz
  have hov := jobAt_over (qs := qs) (ss := ss) (i := i + 1) (by omega)
  have nx := c.nx
  have fr : ∀ y, JSet O' jb y → JSet O jb y ∨ h.next ≤ y := fun y hy => hy.elim (fun hy => (far y hy).imp .inl id) fun hy => .inl (.inr hy)
  refine ⟨O', ?_, ⟨j', ?_, fun y hy z => ?_, fun a ha z => ?_, fun y hy => ?_⟩, c.wk fun y _ z => z.elim (fun z => .inr (.inl ((sS y).1 z))) fun z => .inl (.inl z), fun y hy => ?_⟩
  ·rw [v, hov]
   by_cases ce : i + 1 = qs.length <;> simp [ce]
  ·rw [jobAt_next hqi, ansL_snoc]; exact s'
  ·rcases fr y z with z | z
   ·exact J.d y hy z
   ·have := J.lt y (.inr (.inl hy)); omega
  ·rcases fr _ z with z | z
   ·exact J.e a ha z
   ·have := J.lt _ (.inr (.inr ⟨a, ha, rfl⟩)); omega
  ·rcases hy with hy | hy
   ·rcases hy with hy | rfl
    ·exact j'.lt y hy
    ·exact j'.lj
   ·exact Nat.lt_of_lt_of_le (J.lt y (.inr hy)) nx
  ·rcases hy with hy | hy
   ·exact (fr y hy).imp .inl id
   ·exact .inl (.inr hy)
theorem ansL_same : ∀ {qs : List Rq} {ss uu : List Sb}, ss.map (·.2.2) = uu.map (·.2.2) → (ansL qs ss).2 = (ansL qs uu).2 ∧ (ansL qs ss).1.map (·.2.2) = (ansL qs uu).1.map (·.2.2)
 | [], _, _, e => ⟨rfl, e⟩
 | q :: qs, ss, uu, e => by
  have one : (ansS ss q).2 = (ansS uu q).2 ∧ (ansS ss q).1.map (·.2.2) = (ansS uu q).1.map (·.2.2) := by
   unfold ansS
   by_cases c : q.1 < 0
   ·rw [if_pos c, if_pos c]; exact ⟨rfl, e⟩
   ·rw [if_neg c, if_neg c]
    have g : (ss[q.1.toNat]?).map (·.2.2) = (uu[q.1.toNat]?).map (·.2.2) := by rw [← List.getElem?_map, ← List.getElem?_map, e]
    cases hs : ss[q.1.toNat]? with
    | none =>
     rw [hs] at g
     cases hu : uu[q.1.toNat]? with
     | none => exact ⟨rfl, e⟩
     | some u => rw [hu] at g; cases g
    | some s =>
     rw [hs] at g
     cases hu : uu[q.1.toNat]? with
     | none => rw [hu] at g; cases g
     | some u =>
      rw [hu] at g
      have g : s.2.2 = u.2.2 := by simpa using g
      simp only
      rw [g]
      exact ⟨rfl, by rw [List.map_set, List.map_set, e]⟩
  obtain ⟨h1, h2⟩ := ansL_same (qs := qs) one.2
  simp only [ansL]
  exact ⟨by rw [one.1, h1], h2⟩
end Gs
namespace Gs
open Go Gx
theorem encI_one (x : Int) : one (encI x) = true := rfl
def firstC (but : List Int) : List Int → Int
 | [] => 0
 | c :: cs => if c = 0 ∨ c ∈ but then firstC but cs else c
theorem firstC_skip {but cs : List Int} {x : Int} (h : x = 0 ∨ x ∈ but) : firstC but (x :: cs) = firstC but cs := if_pos h
theorem firstC_hit {but cs : List Int} {x : Int} (h : ¬ (x = 0 ∨ x ∈ but)) : firstC but (x :: cs) = x := if_neg h
def goodC (cs : List Int) : Nat := cs.countP (· == 0)
theorem may_spec9 (k : Nat) (D : CallF) (n : Int) (h : AHeap) : fan_may k D n h = some (decide (1 ≤ n ∧ n ≤ 255), h) := by
 simp only [fan_may]
 by_cases c : 1 ≤ n
 ·rw [if_pos (by simpa using c)]; simp [c]
 ·rw [if_neg (by simpa using c)]; simp; omega
section
variable {k : Nat} {D : CallF}
theorem codes_spec {h : AHeap} {sl : Slc} {xs : List Rp} (R : RowW 3 encP h sl xs) (hl : xs.length ≤ 1048576) (hk : xs.length < k) : Gx.Wp (fan_codes k D sl h) fun z => Keeps h z.2 ∧ Acc encI 24 h.next z.2 z.1 (xs.map (·.1)) := by
 simp only [fan_codes]
 refine Gx.Wp.jn fun j hj => ?_
 unfold fan_codes_l0
 obtain ⟨bot, eb⟩ := iterK_of (fun _ _ _ _ _ => none) (fan_codes_l0b k D j) (show xs.length + 1 ≤ k by omega)
 rw [eb, R.len]
 have loop : ∀ (d i : Nat) (o : Slc) (h' : AHeap), i + d = xs.length → Keeps h h' → Acc encI 24 h.next h' o ((xs.take i).map (·.1)) → Gx.Wp (iterK bot (d + 1) (fan_codes_l0b k D j) o sl (xs.length : Int) (i : Int) h') fun z => Keeps h z.2 ∧ Acc encI 24 h.next z.2 z.1 (xs.map (·.1)) := fun d => by
  induction d with
  | zero =>
   intro i o h' hd kp A
   obtain rfl : i = xs.length := by omega
   rw [List.take_length] at A
   rw [iterK_s]; simp only [fan_codes_l0b]
   subst hj
   exact Gx.Wp.ifn (by simp) (Gx.Wp.of ⟨kp, A⟩)
  | succ d ih =>
   intro i o h' hd kp A
   rw [iterK_s]; simp only [fan_codes_l0b]
   have np := kp.nx
   obtain ⟨x, hx⟩ := isome (l := xs) (i := i) (by omega)
   obtain ⟨p, b1, b2, _, _⟩ := (R.keeps kp).ld encP_len (by decide) hx
   refine Gx.Wp.ifp (by simp; omega) (Gx.Wp.bnd b1 (Gx.Wp.bnd b2 (Gx.Wp.bnd rfl (Gx.Wp.new fun H1 k1 n1 g1 => Gx.Wp.stL (sp := none) g1 rfl rfl rfl (by decide) fun H2 c2 n2 g2 => Gx.Wp.bnd (sldI_at g2 rfl) (Gx.Wp.newE fun H3 e3 k3 n3 g3 => ?_)))))
   have k2 : Keeps h' H2 := Chg.beh (T := (· = h'.next)) k1 c2 fun y hy q => by omega
   obtain ⟨s', h9, a1, a2, A', c9, d9⟩ := Acc.pushK (A.keeps k2) encI_one x.1 (bytes := 8) e3 (by simp; omega) (by decide) (by omega)
   refine Gx.Wp.bnd a1 (Gx.Wp.bnd a2 ?_)
   rw [Gx.w1 (by omega)]
   refine ih (i + 1) s' h9 (by omega) (Chg.beh (kp.trans k2) c9 fun y hy ⟨a, ha, q⟩ => by have := (A.lt a ha).2; omega) ?_
   rw [show xs.take (i + 1) = xs.take i ++ [x] by rw [List.take_add_one, hx]; rfl, List.map_append]
   exact A'
 exact loop xs.length 0 _ h (by omega) (.refl _ _) (Acc.nil _ _ _ _)
theorem good_spec {h : AHeap} {sl : Slc} {cs : List Int} (R : Row encI h sl cs) (hl : cs.length < 9223372036854775807) (hk : cs.length < k) : fan_good k D sl h = some ((goodC cs : Int), h) := by
 simp only [fan_good]
 refine jn ?_
 unfold fan_good_l0
 generalize hj : (fun (n1 : Int) (h2 : AHeap) => some (n1, h2)) = j
 obtain ⟨bot, eb⟩ := iterK_of (fun _ _ _ _ _ => none) (fan_good_l0b k D j) (show cs.length + 1 ≤ k by omega)
 rw [eb, R.1]
 have loop : ∀ (d i : Nat), i + d = cs.length → iterK bot (d + 1) (fan_good_l0b k D j) (goodC (cs.take i) : Int) sl (cs.length : Int) (i : Int) h = some ((goodC cs : Int), h) := fun d => by
  induction d with
  | zero =>
   intro i hd
   obtain rfl : i = cs.length := by omega
   rw [iterK_s, List.take_length]; simp only [fan_good_l0b]
   subst hj
   exact ifn (by simp) rfl
  | succ d ih =>
   intro i hd
   rw [iterK_s]; simp only [fan_good_l0b]
   obtain ⟨x, hx⟩ := isome (l := cs) (i := i) (by omega)
   obtain ⟨p, b1, b2⟩ := R.ldI hx
   have e : cs.take (i + 1) = cs.take i ++ [x] := by rw [List.take_add_one, hx]; rfl
   have gl : goodC (cs.take i) ≤ i := Nat.le_trans (List.countP_le_length) (by simp; omega)
   have := ih (i + 1) (by omega)
   refine ifp (by simp; omega) (jn (bnd b1 (bnd b2 ?_)))
   rw [e] at this
   by_cases c : x = 0
   ·refine ifp (by simpa using c) ?_
    dsimp only
    rw [Gx.w1 (by omega), Gx.w1 (by omega)]
    have g : goodC (cs.take i ++ [x]) = goodC (cs.take i) + 1 := by simp [goodC, c]
    rw [g] at this; exact this
   ·refine ifn (by simpa using c) ?_
    dsimp only
    rw [Gx.w1 (by omega)]
    have g : goodC (cs.take i ++ [x]) = goodC (cs.take i) := by simp [goodC, c]
    rw [g] at this; exact this
 have := loop cs.length 0 (by omega)
 simpa [goodC] using this
theorem contains_spec {h : AHeap} {sl : Slc} {cs : List Int} (R : Row encI h sl cs) (v : Int) (hl : cs.length < 9223372036854775807) (hk : cs.length < k) : slices_Contains_api_Code_api_Code k D sl v h = some (decide (v ∈ cs), h) := by
 have idx : ∃ r : Int, slices_Index_api_Code_api_Code k D sl v h = some (r, h) ∧ decide (r ≥ 0) = decide (v ∈ cs) := by
  simp only [slices_Index_api_Code_api_Code, joinK]
  unfold slices_Index_api_Code_api_Code_l0
  generalize hj : (fun (h1 : AHeap) => some ((-1 : Int), h1)) = j
  obtain ⟨bot, eb⟩ := iterK_of (fun _ _ _ _ _ => none) (slices_Index_api_Code_api_Code_l0b k D j) (show cs.length + 1 ≤ k by omega)
  rw [eb, R.1]
  have loop : ∀ (d i : Nat), i + d = cs.length → (∀ x ∈ cs.take i, x ≠ v) → ∃ r : Int, iterK bot (d + 1) (slices_Index_api_Code_api_Code_l0b k D j) sl v (cs.length : Int) (i : Int) h = some (r, h) ∧ decide (r ≥ 0) = decide (v ∈ cs) := fun d => by
   induction d with
   | zero =>
    intro i hd no
    obtain rfl : i = cs.length := by omega
    rw [List.take_length] at no
    rw [iterK_s]; simp only [slices_Index_api_Code_api_Code_l0b]
    subst hj
    refine ⟨-1, ifn (by simp) rfl, ?_⟩
    rw [decide_eq_false (by omega), decide_eq_false (fun z => no v z rfl)]
   | succ d ih =>
    intro i hd no
    rw [iterK_s]; simp only [slices_Index_api_Code_api_Code_l0b]
    obtain ⟨x, hx⟩ := isome (l := cs) (i := i) (by omega)
    obtain ⟨p, b1, b2⟩ := R.ldI hx
    by_cases c : v = x
    ·refine ⟨i, ifp (by simp; omega) (bnd b1 (bnd b2 (ifp (by simpa using c) rfl))), ?_⟩
     rw [decide_eq_true (by omega), decide_eq_true (c ▸ mem_of hx)]
    ·obtain ⟨r, hr, hd'⟩ := ih (i + 1) (by omega) (fun y hy => by
      rw [show cs.take (i + 1) = cs.take i ++ [x] by rw [List.take_add_one, hx]; rfl] at hy
      rcases List.mem_append.1 hy with hy | hy
      ·exact no y hy
      ·simp at hy; subst hy; exact fun z => c z.symm)
     refine ⟨r, ifp (by simp; omega) (bnd b1 (bnd b2 (ifn (by simpa using c) ?_))), hd'⟩
     rw [Gx.w1 (by omega)]; exact hr
  exact loop cs.length 0 (by omega) (by simp)
 obtain ⟨r, e, d⟩ := idx
 simp only [slices_Contains_api_Code_api_Code]
 rw [e]
 show some (decide (r ≥ 0), h) = _
 rw [d]
theorem first_spec {h : AHeap} {sl bl' : Slc} {cs but : List Int} (R : Row encI h sl cs) (B : Row encI h bl' but) (hl : cs.length < 9223372036854775807) (hk : cs.length < k) (hl2 : but.length < 9223372036854775807) (hk2 : but.length < k) : fan_First k D sl bl' h = some (firstC but cs, h) := by
 simp only [fan_First, joinK]
 unfold fan_First_l0
 generalize hj : (fun (h1 : AHeap) => some ((0 : Int), h1)) = j
 obtain ⟨bot, eb⟩ := iterK_of (fun _ _ _ _ _ => none) (fan_First_l0b k D j) (show cs.length + 1 ≤ k by omega)
 rw [eb, R.1]
 have loop : ∀ (d i : Nat), i + d = cs.length → iterK bot (d + 1) (fan_First_l0b k D j) bl' sl (cs.length : Int) (i : Int) h = some (firstC but (cs.drop i), h) := fun d => by
  induction d with
  | zero =>
   intro i hd
   obtain rfl : i = cs.length := by omega
   rw [iterK_s, List.drop_length]; simp only [fan_First_l0b]
   subst hj
   exact ifn (by simp) rfl
  | succ d ih =>
   intro i hd
   rw [iterK_s]; simp only [fan_First_l0b]
   obtain ⟨x, hx⟩ := isome (l := cs) (i := i) (by omega)
   obtain ⟨p, b1, b2⟩ := R.ldI hx
   refine ifp (by simp; omega) (bnd b1 (bnd b2 (jn ?_)))
   rw [dropc hx]
   by_cases c : x = 0
   ·rw [firstC_skip (.inl c)]
    refine ifn (by simp [c]) (ifn (fun z => by cases z) ?_)
    rw [Gx.w1 (by omega)]; exact ih (i + 1) (by omega)
   ·refine ifp (by simp [c]) (bnd (contains_spec B x hl2 hk2) ?_)
    by_cases c2 : x ∈ but
    ·rw [firstC_skip (.inr c2)]
     refine ifn (by simp [c2]) ?_
     rw [Gx.w1 (by omega)]; exact ih (i + 1) (by omega)
    ·rw [firstC_hit (fun z => z.elim c c2)]
     exact ifp (by simp [c2]) rfl
 exact loop cs.length 0 (by omega)
theorem rfirst_spec {h : AHeap} {sl bl' : Slc} {cs but : List Int} (R : Row encI h sl cs) (B : Row encI h bl' but) (hl : cs.length < 9223372036854775807) (hk : cs.length < k) (hl2 : but.length < 9223372036854775807) (hk2 : but.length < k) : ref09_First k D sl bl' h = some (firstC but cs, h) := by
 simp only [ref09_First, joinK]
 unfold ref09_First_l0
 generalize hj : (fun (h1 : AHeap) => some ((0 : Int), h1)) = j
 obtain ⟨bot, eb⟩ := iterK_of (fun _ _ _ _ => none) (ref09_First_l0b k D j) (show cs.length + 1 ≤ k by omega)
 rw [eb]
 have loop : ∀ (d i : Nat), i + d = cs.length → iterK bot (d + 1) (ref09_First_l0b k D j) sl bl' (i : Int) h = some (firstC but (cs.drop i), h) := fun d => by
  induction d with
  | zero =>
   intro i hd
   obtain rfl : i = cs.length := by omega
   rw [iterK_s, List.drop_length]; simp only [ref09_First_l0b]
   subst hj
   exact ifn (by rw [R.1]; simp) rfl
  | succ d ih =>
   intro i hd
   rw [iterK_s]; simp only [ref09_First_l0b]
   obtain ⟨x, hx⟩ := isome (l := cs) (i := i) (by omega)
   obtain ⟨p, b1, b2⟩ := R.ldI hx
   refine ifp (by rw [R.1]; simp; omega) (jn (bnd b1 (bnd b2 (jn ?_))))
   rw [dropc hx]
   simp only [firstC]
   generalize hJ : (fun (codes15 : Slc) (but16 : Slc) (i17 : Int) (skip18 : Bool) (h19 : AHeap) => _) = J
   unfold ref09_First_l1
   obtain ⟨bot', eb'⟩ := iterK_of (fun _ _ _ _ _ _ => none) (ref09_First_l1b k D J) (show but.length + 1 ≤ k by omega)
   rw [eb']
   have fin : ∀ sk : Bool, sk = decide (x = 0 ∨ x ∈ but) → J sl bl' (i : Int) sk h = some (if x = 0 ∨ x ∈ but then firstC but (cs.drop (i + 1)) else x, h) := by
    intro sk hs
    subst hJ
    by_cases c : x = 0 ∨ x ∈ but
    ·rw [decide_eq_true c] at hs; subst hs
     rw [if_pos c]
     refine ifn (fun z => by cases z) ?_
     rw [Gx.w1 (by omega)]; exact ih (i + 1) (by omega)
    ·rw [decide_eq_false c] at hs; subst hs
     rw [if_neg c]
     exact ifp rfl (bnd b1 (bnd b2 rfl))
   have inner : ∀ (e c : Nat) (sk : Bool), c + e = but.length → sk = decide (x = 0 ∨ x ∈ but.take c) → iterK bot' (e + 1) (ref09_First_l1b k D J) sl bl' (i : Int) sk (c : Int) h = some (if x = 0 ∨ x ∈ but then firstC but (cs.drop (i + 1)) else x, h) := fun e => by
    induction e with
    | zero =>
     intro c sk hc hs
     obtain rfl : c = but.length := by omega
     rw [List.take_length] at hs
     rw [iterK_s]; simp only [ref09_First_l1b]
     exact ifn (by rw [B.1]; simp) (fin sk hs)
    | succ e ihe =>
     intro c sk hc hs
     rw [iterK_s]; simp only [ref09_First_l1b]
     obtain ⟨y, hy⟩ := isome (l := but) (i := c) (by omega)
     obtain ⟨q, d1, d2⟩ := B.ldI hy
     have et : but.take (c + 1) = but.take c ++ [y] := by rw [List.take_add_one, hy]; rfl
     refine ifp (by rw [B.1]; simp; omega) (jn ?_)
     cases sk with
     | true =>
      refine ifp rfl ?_
      dsimp only
      rw [Gx.w1 (by omega)]
      refine ihe (c + 1) true (by omega) ?_
      have : x = 0 ∨ x ∈ but.take c := by simpa using hs.symm
      rw [et, decide_eq_true (this.imp id fun z => List.mem_append_left _ z)]
     | false =>
      have no : ¬ (x = 0 ∨ x ∈ but.take c) := by simpa using hs.symm
      refine ifn (fun z => by cases z) (bnd b1 (bnd b2 (bnd d1 (bnd d2 ?_))))
      dsimp only
      rw [Gx.w1 (by omega)]
      refine ihe (c + 1) _ (by omega) ?_
      rw [et]
      have n1 : x ≠ 0 := fun z => no (.inl z)
      have n2 : x ∉ but.take c := fun z => no (.inr z)
      simp [n1, n2]; rfl
   refine inner but.length 0 _ (by omega) ?_
   simp; rfl
 exact loop cs.length 0 (by omega)
end
end Gs
namespace Gs
open Go Gx
theorem splice_app {a b c d : List Value} (h : d.length = b.length) : splice (a ++ b ++ c) a.length d = a ++ d ++ c := by
 unfold splice
 have e1 : (a ++ b ++ c).take a.length = a := by rw [List.append_assoc, List.take_left']; rfl
 have e2 : (a ++ b ++ c).drop (a.length + d.length) = c := by rw [show a.length + d.length = (a ++ b).length by simp [h], List.drop_left']; rfl
 rw [e1, e2]
theorem split_at {xs : List Rq} {i : Nat} {x : Rq} (hx : xs[i]? = some x) : xs = xs.take i ++ x :: xs.drop (i + 1) := by rw [← dropc hx, List.take_append_drop]
theorem flat_at {xs : List Rq} {i : Nat} {x : Rq} (hx : xs[i]? = some x) : xs.flatMap encQ = (xs.take i).flatMap encQ ++ encQ x ++ (xs.drop (i + 1)).flatMap encQ := by
 conv => lhs; rw [split_at hx]
 rw [List.flatMap_append, List.flatMap_cons, List.append_assoc]
theorem flat_len {xs : List Rq} {i : Nat} (hi : i ≤ xs.length) : ((xs.take i).flatMap encQ).length = i * 4 := by
 rw [flatW_length encQ_len, List.length_take, Nat.min_eq_left hi]
theorem set_split {xs : List Rq} {i : Nat} {x y : Rq} (hx : xs[i]? = some x) : (xs.set i y).flatMap encQ = (xs.take i).flatMap encQ ++ encQ y ++ (xs.drop (i + 1)).flatMap encQ := by
 have hi := (List.getElem?_eq_some_iff.1 hx).1
 rw [flat_at (xs := xs.set i y) (i := i) (x := y) (by rw [List.getElem?_set]; simp [hi]), List.take_set_of_le (Nat.le_refl _), List.drop_set_of_lt (Nat.lt_succ_self _)]
theorem stQ {h : AHeap} {b i : Nat} {xs : List Rq} {x y : Rq} (hb : h.get b = some (.cells (xs.flatMap encQ) 32 true 0)) (hx : xs[i]? = some x) :
  Gx.stL 4 ⟨b, i * 4, none⟩ (encQ y) h = some (h.set b (.cells ((xs.set i y).flatMap encQ) 32 true 0)) := by
 have hi := (List.getElem?_eq_some_iff.1 hx).1
 have := stL_part (cs := encQ y) (o := i * 4) (sp := none) hb (by simp [encQ]) (by rw [flatW_length encQ_len, encQ_len]; omega) (encQ_one y)
 rw [encQ_len] at this
 rw [this]
 congr 3
 rw [flat_at hx, set_split hx]
 have := splice_app (a := (xs.take i).flatMap encQ) (b := encQ x) (c := (xs.drop (i + 1)).flatMap encQ) (d := encQ y) rfl
 rw [flat_len (Nat.le_of_lt hi)] at this
 exact this
theorem stQ1 {h : AHeap} {b i j : Nat} {xs : List Rq} {x y : Rq} {v : Value} (hb : h.get b = some (.cells (xs.flatMap encQ) 32 true 0)) (hx : xs[i]? = some x) (hj : j < 4) (hv : one v = true) (hy : (encQ x).set j v = encQ y) :
  Gx.st1 ⟨b, i * 4 + j, none⟩ v h = some (h.set b (.cells ((xs.set i y).flatMap encQ) 32 true 0)) := by
 have hi := (List.getElem?_eq_some_iff.1 hx).1
 rw [st1_sb hb (by rw [flatW_length encQ_len]; omega) hv]
 congr 3
 rw [flat_at hx, set_split hx, ← hy, List.set_append_left, List.set_append_right, flat_len (Nat.le_of_lt hi)]
 ·simp
 ·rw [flat_len (Nat.le_of_lt hi)]; omega
 ·rw [List.length_append, flat_len (Nat.le_of_lt hi), encQ_len]; omega
theorem zerosQ (n : Nat) : zerosL n [.int .i64 0, .int .i64 0, .string ⟨#[]⟩, .string ⟨#[]⟩] = (List.replicate n q0).flatMap encQ := by
 show (List.replicate n [_, _, _, _]).flatten = _
 rw [List.flatMap, List.map_replicate]; rfl
theorem map_set {α : Type} (n i : Nat) (f : Nat → α) (v : α) : ((List.range n).map f).set i v = (List.range n).map fun j => if j = i then v else f j := by
 apply List.ext_getElem?
 intro j
 rw [List.getElem?_set]
 simp only [List.getElem?_map, List.length_map, List.length_range]
 by_cases hj : j < n
 ·rw [List.getElem?_range hj]
  by_cases e : i = j
  ·subst e; simp [hj]
  ·have : ¬ j = i := fun z => e z.symm
   simp [e, this]
 ·have : (List.range n)[j]? = none := List.getElem?_eq_none (by simp; omega)
  rw [this]
  by_cases e : i = j
  ·subst e; simp [hj]
  ·simp [e]
def may (n : Int) : Bool := decide (1 ≤ n ∧ n ≤ 255)
def askL (n : Int) (kind : Int) (name data : ByteArray) : List Rq := if may n = true then (List.range n.toNat).map (fun i : Nat => ((i : Int), kind, name, data)) else []
section
variable {k : Nat} {D : CallF}
theorem ask_spec {h : AHeap} (n kind : Int) (name data : ByteArray) (hk : 256 < k) : Gx.Wp (fan_ask k D n (0, kind, name, data) h) fun z => Keeps h z.2 ∧
  ((may n = false ∧ z.1 = nils) ∨ (may n = true ∧ ∃ b, z.1 = ⟨some ⟨b, 0, some 0⟩, n.toNat, n.toNat⟩ ∧ h.next ≤ b ∧ b < z.2.next ∧ z.2.get b = some (.cells ((askL n kind name data).flatMap encQ) 32 true 0))) := by
 simp only [fan_ask]
 refine Gx.Wp.new fun H1 k1 n1 g1 => Gx.Wp.bnd (may_spec9 k D n H1) ?_
 by_cases c : 1 ≤ n ∧ n ≤ 255
 ·rw [decide_eq_true c]
  have hm : may n = true := decide_eq_true c
  obtain ⟨m, rfl⟩ : ∃ m : Nat, n = (m : Int) := ⟨n.toNat, by omega⟩
  refine Gx.Wp.ifn (fun z => by cases z) (Gx.Wp.ifp ⟨by omega, by omega, by omega, by omega⟩ (Gx.Wp.new fun H3 k3 n3 g3 => Gx.Wp.jn fun j hj => ?_))
  rw [zerosQ, Int.toNat_natCast] at g3
  unfold fan_ask_l0
  obtain ⟨bot, eb⟩ := iterK_of (fun _ _ _ _ _ => none) (fan_ask_l0b k D j) (show m + 1 ≤ k by omega)
  rw [eb, Int.toNat_natCast]
  dsimp only at n3 g3 k3 ⊢
  have q3 := k3.got (by omega) g1
  have loop : ∀ (d i : Nat) (h' : AHeap), i + d = m → Chg (· = H1.next) H3 h' → h'.next = H3.next → h'.get H1.next = some (.cells (((List.range m).map fun j => if j < i then ((j : Int), kind, name, data) else q0).flatMap encQ) 32 true 0) →
    Gx.Wp (iterK bot (d + 1) (fan_ask_l0b k D j) (some ⟨h.next, 0, none⟩) ⟨some ⟨H1.next, 0, some 0⟩, m, m⟩ (m : Int) (i : Int) h') fun z => Keeps h z.2 ∧ ((may (m : Int) = false ∧ z.1 = nils) ∨ (may (m : Int) = true ∧ ∃ b, z.1 = ⟨some ⟨b, 0, some 0⟩, m, m⟩ ∧ h.next ≤ b ∧ b < z.2.next ∧ z.2.get b = some (.cells ((askL (m : Int) kind name data).flatMap encQ) 32 true 0))) := fun d => by
   induction d with
   | zero =>
    intro i h' hd c' n' g'
    obtain rfl : i = m := by omega
    rw [iterK_s]; simp only [fan_ask_l0b]
    subst hj
    refine Gx.Wp.ifn (by simp) (Gx.Wp.of ⟨Chg.beh (T := (· = H1.next)) (k1.trans k3) c' fun y hy q => by omega, .inr ⟨hm, H1.next, rfl, by omega, by dsimp only; omega, ?_⟩⟩)
    rw [g']
    unfold askL
    rw [if_pos hm, Int.toNat_natCast]
    congr 3
    refine List.map_congr_left fun j hj => ?_
    rw [if_pos (by simpa using hj)]
   | succ d ih =>
    intro i h' hd c' n' g'
    rw [iterK_s]; simp only [fan_ask_l0b]
    have q' := c'.got (by omega) (by omega) q3
    have hix : ((List.range m).map fun j => if j < i then ((j : Int), kind, name, data) else q0)[i]? = some q0 := by
     rw [List.getElem?_map, List.getElem?_range (by omega)]; simp
    have ix : Gx.idxL 4 (⟨some ⟨H1.next, 0, some 0⟩, m, m⟩ : Slc) (i : Int) = some ⟨H1.next, i * 4, none⟩ := by
     simp only [idxL]
     rw [if_pos (by omega)]
     simp
    refine Gx.Wp.ifp (by simp; omega) (Gx.Wp.bnd rfl (Gx.Wp.bnd (sldA_at q' rfl) (Gx.Wp.bnd rfl (Gx.Wp.bnd ix ?_))))
    refine Gx.Wp.bnd (stQ (y := (0, kind, name, data)) g' hix) (Gx.Wp.bnd ix ?_)
    have hix2 : (((List.range m).map fun j => if j < i then ((j : Int), kind, name, data) else q0).set i (0, kind, name, data))[i]? = some (0, kind, name, data) := by
     rw [List.getElem?_set]; simp; omega
    refine Gx.Wp.bnd (stQ1 (j := 0) (y := ((i : Int), kind, name, data)) (sset_get _ _ _) hix2 (by decide) rfl rfl) ?_
    rw [Gx.w1 (by omega)]
    refine ih (i + 1) _ (by omega) (c'.trans ((Chg.set (S := (· = H1.next)) (.inr rfl)).trans (Chg.set (S := (· = H1.next)) (.inr rfl)))) n' ?_
    rw [sset_get]
    congr 3
    rw [List.set_set, map_set]
    refine List.map_congr_left fun j hj => ?_
    by_cases e : j = i
    ·subst e; simp
    ·by_cases e2 : j < i
     ·rw [if_neg e, if_pos e2, if_pos (by omega)]
     ·rw [if_neg e, if_neg e2, if_neg (by omega)]
  refine loop m 0 H3 (by omega) (Chg.refl _ _) rfl ?_
  rw [g3]
  congr 3
  simp only [Nat.not_lt_zero, if_false]
  rw [List.map_const', List.length_range]
 ·rw [decide_eq_false c]
  exact Gx.Wp.ifp rfl (Gx.Wp.of ⟨k1, .inl ⟨decide_eq_false c, rfl⟩⟩)
end
end Gs
namespace Gs
open Go Gx
def ThenC (L : Nat → CallF) (N c ib : Nat) (g : Nat) (x y : Array Value) (len : Nat) (K : List Int → Prg) (O : Nat → Prop) (h : AHeap) : Prop :=
 ∀ n, c ≤ n → ∀ (P : Nat → Prop) (h' : AHeap) (m st : Nat) (q : Rq), (∀ y, O y → P y) → Agr (But O ib) h h' → (∀ y, P y → y < m) → m ≤ h'.next → P ib → h'.get ib = some (.cells (ioC q .nilFunc false 0 0 nils nils st) 130 true 0) →
  ∀ (cs : List Int) (sl : Slc), Row encI h' sl cs → cs.length = len → (∀ a, sl.a = some a → m ≤ a.block ∧ a.block < h'.next) →
  Does (L n) g x y [.slice sl.a sl.len sl.cap] h' fun h'' => Chg (In P m) h' h'' ∧ IoQ L N ib (K cs) st (Gr P m h'') h''
def codesY (ys : List Ry) : List Int := ys.map (·.1)
theorem say_codes {h : AHeap} {xs : List Rp} {ys : List Ry} (S : Say h xs ys) : xs.map (·.1) = codesY ys := by
 apply List.ext_getElem?
 intro i
 simp only [codesY, List.getElem?_map]
 by_cases hi : i < xs.length
 ·obtain ⟨x, hx⟩ := isome hi
  obtain ⟨y, hy⟩ := isome (l := ys) (i := i) (by rw [← S.1]; exact hi)
  rw [hx, hy]
  simp [(S.2 i x y hx hy).1]
 ·rw [List.getElem?_eq_none (by omega), List.getElem?_eq_none (by rw [← S.1]; omega)]; rfl
section
variable {k N c ib b len : Nat} {g : Nat} {x y : Array Value} {K : List Int → Prg} {O : Nat → Prop} {h : AHeap}
theorem then_codes {X : Slc → Option Addr → AHeap → Nat → Option (Unit × AHeap)} {gn : Nat} (hgn : gn ∈ closL) (hX : ∀ (n : Nat) (sl : Slc) (a : Option Addr) (h : AHeap), ∀ (R : Type) (κ : Value → AHeap → Option R), lvl k (n + 1) R gn ([.slice sl.a sl.len sl.cap] ++ [.pointer a]) h κ = (X sl a h n).bind fun r => κ (.tuple ⟨[]⟩) r.2)
  (hW : ∀ (n : Nat) (sl : Slc) (h' : AHeap) (Q : Unit × AHeap → Prop) (s2 : Slc) (h2 : AHeap), fan_codes k (lvl k n) sl h' = some (s2, h2) → Keeps h' h2 → h'.get b = some (.cells [.func (.func g) x y] 145 true 0) → b < h'.next →
   (∀ h3, Does (lvl k n) g x y [.slice s2.a s2.len s2.cap] h2 (fun h'' => h'' = h3) → Q ((), h3)) → (∃ h3, Does (lvl k n) g x y [.slice s2.a s2.len s2.cap] h2 (fun h'' => h'' = h3)) → Gx.Wp (X sl (some ⟨b, 0, none⟩) h' n) Q)
  (T : ThenC (lvl k) N c ib g x y len K O h) (ob : But O ib b) (hb : h.get b = some (.cells [.func (.func g) x y] 145 true 0)) (hl : len ≤ 1048576) (hk : len < k) :
  ThenP (lvl k) N (c + 1) ib gn ⟨[]⟩ ⟨[ptr b]⟩ len (fun ys => K (codesY ys)) O h := by
 intro n hn P h' m st q sub ag lt hm hP hio ys xs sl R S hys ow so sm
 obtain ⟨n', rfl⟩ : ∃ n', n = n' + 1 := ⟨n - 1, by omega⟩
 have lb := lt _ (sub _ ob.1)
 have hb' := (ag.eq _ ob).trans hb
 have lx : xs.length = len := by rw [S.1]; exact hys
 refine Does.of (X := X sl (some ⟨b, 0, none⟩) h' n') hgn (fun R κ => hX n' sl _ h' R κ) ?_
 obtain ⟨z, hz, k1, A⟩ := codes_spec (k := k) (D := lvl k n') R (by omega) (by omega)
 rw [say_codes S] at A
 have n1 := k1.nx
 have li := lt _ hP
 have d := T n' (by omega) P z.2 m st q sub (ag.trans (chg_agr k1 (fun y o => by have := lt _ (sub _ o.1); omega) fun y o f => f)) lt (by omega) hP (k1.got (by omega) hio) (codesY ys) z.1 A.row (by simp [codesY, hys]) (fun a ha => ⟨by have := (A.lt a ha).2; omega, (A.lt a ha).1⟩)
 obtain ⟨hg, h3, qq, e⟩ := d
 refine hW n' sl h' _ z.1 z.2 hz k1 hb' (by omega) (fun h4 d4 => ?_) ⟨h3, hg, h3, rfl, e⟩
 obtain ⟨_, h5, rfl, e5⟩ := d4
 have : h3 = h5 := by
  have := (e AHeap fun _ h => some h).symm.trans (e5 AHeap fun _ h => some h)
  exact Option.some.inj this
 subst this
 obtain ⟨c3, i3⟩ := qq
 exact ⟨(Chg.keeps k1).trans c3, i3⟩
theorem run_does {D : CallF} {g : Nat} {x y : Array Value} {args : List Value} {h : AHeap} {es : List Ent} (hes : apartC es = true) {Q : Unit × AHeap → Prop} (w : ∃ h3, Does D g x y args h fun h'' => h'' = h3) (k : ∀ h3, Does D g x y args h (fun h'' => h'' = h3) → Q ((), h3)) :
  Gx.Wp (callD (mkC D es) (.func (.func g) x y) args h fun _ h8 => some ((), h8)) Q := by
 obtain ⟨h3, d⟩ := w
 exact Does.wp d hes fun h4 e4 => by subst e4; exact Gx.Wp.of (k _ d)
theorem then123 (T : ThenC (lvl k) N c ib g x y len K O h) (ob : But O ib b) (hb : h.get b = some (.cells [.func (.func g) x y] 145 true 0)) (hl : len ≤ 1048576) (hk : len < k) : ThenP (lvl k) N (c + 1) ib 123 ⟨[]⟩ ⟨[ptr b]⟩ len (fun ys => K (codesY ys)) O h := by
 refine then_codes (X := fun sl a h n => fan_Puts_1 k (lvl k n) sl a h) (by decide) (fun n sl a h R κ => rfl) (fun n sl h' Q s2 h2 e k1 hb' lb q w => ?_) T ob hb hl hk
 simp only [fan_Puts_1]
 refine Gx.Wp.bnd e (Gx.Wp.bnd rfl (Gx.Wp.bnd (ldV_at (k1.got lb hb') rfl) (Gx.Wp.gp (ssw1 (bnd rfl (bnd (ldV_at hb' rfl) rfl))) ?_)))
 exact run_does (by kernel_rfl) w q
theorem then86 {b1 : Nat} (ob : But O ib b1) (hb : h.get b1 = some (.cells [ptr ib] 80 true 0)) (hl : len ≤ 1048576) (hk : len < k) : ThenC (lvl k) N 1 ib 86 ⟨[]⟩ ⟨[ptr b1]⟩ len (fun cs => finP ⟨firstC [] cs, goodC cs, [], []⟩) O h := by
 intro n hn P h' m st q sub ag lt hm hP hio cs sl R hcs ow
 obtain ⟨n', rfl⟩ : ∃ n', n = n' + 1 := ⟨n - 1, by omega⟩
 have lb := lt _ (sub _ ob.1)
 have li := lt _ hP
 have hb' := (ag.eq _ ob).trans hb
 refine Does.of (X := fan_PutJob_1_1 k (lvl k n') sl (some ⟨b1, 0, none⟩) h') (by decide) (fun R κ => rfl) ?_
 simp only [fan_PutJob_1_1]
 have hnil : Row encI h' (⟨none, 0, 0⟩ : Slc) [] := ⟨rfl, fun i x hx => by simp at hx⟩
 refine Gx.Wp.bnd (first_spec R hnil (by omega) (by omega) (by decide) (by show 0 < k; omega)) (Gx.Wp.bnd (good_spec R (by omega) (by omega)) (Gx.Wp.bnd rfl (Gx.Wp.bnd (ldP_at hb' rfl) (Gx.Wp.gp ?_ ?_))))
 ·intro H hH
  simp at hH
  rcases hH with rfl | rfl <;> exact bnd rfl (bnd (ldP_at hb' rfl) rfl)
 ·refine Gx.Wp.call (End_spec (lvl k n') hio (by dsimp only; omega)) fun z hz => Gx.Wp.of ?_
  obtain ⟨c1, g1⟩ := hz
  exact ⟨c1.wk fun y _ q => .inl (q ▸ hP), fun _ _ => trivial, .inl ⟨q, nils, nils, g1, ⟨rfl, fun i x hx => by simp at hx⟩, ⟨rfl, fun i x hx => by simp at hx⟩, (fun a ha => by cases ha), (fun a ha => by cases ha)⟩⟩
end
end Gs
namespace Gs
open Go Gx
def putsL (name : ByteArray) (data : List ByteArray) : List Rq := if may data.length = true then (List.range data.length).map (fun i : Nat => ((i : Int), (1 : Int), name, (data[i]?).getD nob)) else []
theorem putsL_len {name : ByteArray} {data : List ByteArray} : (putsL name data).length ≤ 255 := by
 unfold putsL
 split
 ·rename_i h
  have : 1 ≤ (data.length : Int) ∧ (data.length : Int) ≤ 255 := by simpa [may] using h
  simp; omega
 ·exact Nat.zero_le _
section
variable {k N c ib : Nat} {g : Nat} {x y : Array Value} {K : List Int → Prg} {O : Nat → Prop} {h : AHeap}
theorem ThenC.frame {len : Nat} {L : Nat → CallF} {P : Nat → Prop} {h2 : AHeap} (T : ThenC L N c ib g x y len K O h) (sub : ∀ y, O y → P y) (a : Agr (But O ib) h h2) : ThenC L N c ib g x y len K P h2 :=
 fun n hn P' h' m st q s ag => T n hn P' h' m st q (fun y o => s y (sub y o)) (a.trans (ag.wk fun y o => ⟨sub y o.1, o.2⟩))
theorem ThenC.none {len : Nat} {L : Nat → CallF} (T : ∀ len, ThenC L N c ib g x y len K O h) : ThenC L N c ib g x y len K O h := T len
theorem Puts_io {n st m : Nat} {q : Rq} {name : ByteArray} {dsl : Slc} {data : List ByteArray} (hN : c + 4 ≤ N) (hn : c + 3 ≤ n) (hk : 1000 < k) (T : ThenC (lvl k) N c ib g x y (putsL name data).length K O h) (hO : O ib) (lt : ∀ y, O y → y < m) (hm : m ≤ h.next)
  (hio : h.get ib = some (.cells (ioC q .nilFunc false 0 0 nils nils st) 130 true 0)) (R : Row encS h dsl data) :
  Gx.Wp (fan_Puts k (lvl k n) (some ⟨ib, 0, none⟩) name dsl (.func (.func g) x y) h) fun z => Chg (In O m) h z.2 ∧ IoQ (lvl k) N ib (askAll (putsL name data) [] fun ys => K (codesY ys)) st (Gr O m z.2) z.2 := by
 simp only [fan_Puts]
 have ec : (Value.func (.func g) x y).cells.toList = [.func (.func g) x y] := rfl
 rw [ec]
 have li := lt _ hO
 refine Gx.Wp.new fun H1 k1 n1 g1 => Gx.Wp.call (ask_spec _ 1 name ⟨#[]⟩ (by omega)) fun r2 q2 => ?_
 obtain ⟨k2, q2⟩ := q2
 have n2 := k2.nx
 rw [R.1] at q2
 have fin : ∀ (l : Slc) (H : AHeap), Keeps H1 H → RowW 4 encQ H l (putsL name data) → Gx.Wp ((port_IO_All k (lvl k n) (some ⟨ib, 0, none⟩) l (.func (.func 123) ⟨[]⟩ ⟨[.pointer (some ⟨h.next, 0, none⟩)]⟩) H).bind fun r8 => some ((), r8.2)) fun z => Chg (In O m) h z.2 ∧ IoQ (lvl k) N ib (askAll (putsL name data) [] fun ys => K (codesY ys)) st (Gr O m z.2) z.2 := by
  intro l H kH RH
  have nH := kH.nx
  have kk : Keeps h H := k1.trans kH
  have T2 : ThenC (lvl k) N c ib g x y (putsL name data).length K (fun y => O y ∨ y = h.next) H := T.frame (fun y o => .inl o) (chg_agr kk (fun y o => by have := lt _ o.1; omega) fun y o f => f)
  have hl : (putsL name data).length ≤ 255 := putsL_len
  have A := All_io (k := k) (N := N) (c := c + 1) (n := n) (qs := putsL name data) (l := l) (O := fun y => O y ∨ y = h.next) (m := H.next) (by omega) (by omega) (then123 T2 ⟨.inr rfl, by omega⟩ (kH.got (by omega) g1) (by omega) (by omega)) (.inl hO) (fun y o => by rcases o with o | o; have := lt y o; omega; omega) (Nat.le_refl _) (kk.got (by omega) hio) RH (by omega)
  refine Gx.Wp.call A fun z hz => Gx.Wp.of ?_
  obtain ⟨cz, iz⟩ := hz
  have nz := cz.nx
  refine ⟨Chg.beh (Chg.keeps kk) cz fun y hy o => ?_, iz.mono fun y o => ?_⟩
  ·rcases o with (o | o) | o
   ·exact .inl o
   ·omega
   ·omega
  ·rcases o with (o | o) | o
   ·exact .inl o
   ·exact .inr ⟨by omega, by dsimp only; omega⟩
   ·exact .inr ⟨by omega, o.2⟩
 refine Gx.Wp.jn fun j7 hj => ?_
 unfold fan_Puts_l0
 rcases q2 with ⟨hm0, e2⟩ | ⟨hm1, b, e2, hb1, hb2, hb⟩
 ·rw [e2]
  obtain ⟨bot, eb⟩ := iterK_of (fun _ _ _ _ _ _ _ => none) (fan_Puts_l0b k (lvl k n) j7) (show 0 + 1 ≤ k by omega)
  rw [eb, iterK_s]; simp only [fan_Puts_l0b]
  subst hj
  have e0 : putsL name data = [] := by unfold putsL; rw [if_neg (by rw [hm0]; decide)]
  exact Gx.Wp.ifn (by decide) (fin nils r2.2 k2 (by rw [e0]; exact ⟨rfl, fun i x hx => by simp at hx⟩))
 ·have hmm : 1 ≤ (data.length : Int) ∧ (data.length : Int) ≤ 255 := by simpa [may] using hm1
  rw [Int.toNat_natCast] at e2
  rw [e2]
  obtain ⟨bot, eb⟩ := iterK_of (fun _ _ _ _ _ _ _ => none) (fan_Puts_l0b k (lvl k n) j7) (show data.length + 1 ≤ k by omega)
  rw [eb]
  have loop : ∀ (d i : Nat) (H : AHeap), i + d = data.length → Chg (· = b) r2.2 H → H.get b = some (.cells (((List.range data.length).map fun j : Nat => ((j : Int), (1 : Int), name, if j < i then (data[j]?).getD nob else nob)).flatMap encQ) 32 true 0) →
    Gx.Wp (iterK bot (d + 1) (fan_Puts_l0b k (lvl k n) j7) (some ⟨ib, 0, none⟩) dsl (some ⟨h.next, 0, none⟩) ⟨some ⟨b, 0, some 0⟩, data.length, data.length⟩ (data.length : Int) (i : Int) H) fun z => Chg (In O m) h z.2 ∧ IoQ (lvl k) N ib (askAll (putsL name data) [] fun ys => K (codesY ys)) st (Gr O m z.2) z.2 := fun d => by
   induction d with
   | zero =>
    intro i H hd cH gH
    obtain rfl : i = data.length := by omega
    rw [iterK_s]; simp only [fan_Puts_l0b]
    subst hj
    have e1 : ((List.range data.length).map fun j : Nat => ((j : Int), (1 : Int), name, if j < data.length then (data[j]?).getD nob else nob)) = putsL name data := by
     unfold putsL
     rw [if_pos hm1]
     refine List.map_congr_left fun j hj => ?_
     rw [if_pos (by simpa using hj)]
    rw [e1] at gH
    have hn := cH.nx
    have RQ := rowW_blk (cap := data.length) (sp := some 0) encQ_len gH (by omega) (Nat.le_refl _)
    rw [List.take_length] at RQ
    have lq : (putsL name data).length = data.length := by rw [← e1]; simp
    rw [lq] at RQ
    exact Gx.Wp.ifn (by simp) (fin _ H (Chg.beh (T := (· = b)) k2 cH fun y hy o => by omega) RQ)
   | succ d ih =>
    intro i H hd cH gH
    rw [iterK_s]; simp only [fan_Puts_l0b]
    have kk : Keeps h H := Chg.beh (T := (· = b)) (k1.trans k2) cH fun y hy o => by omega
    obtain ⟨dt, hdt⟩ := isome (l := data) (i := i) (by omega)
    obtain ⟨p, p1, p2⟩ := (Row.keeps R kk).ldS hdt
    have hix : ((List.range data.length).map fun j : Nat => ((j : Int), (1 : Int), name, if j < i then (data[j]?).getD nob else nob))[i]? = some ((i : Int), (1 : Int), name, nob) := by
     rw [List.getElem?_map, List.getElem?_range (by omega)]; simp
    have ix : Gx.idxL 4 (⟨some ⟨b, 0, some 0⟩, data.length, data.length⟩ : Slc) (i : Int) = some ⟨b, i * 4, none⟩ := by
     simp only [idxL]
     rw [if_pos (by omega)]
     simp
    refine Gx.Wp.ifp (by simp; omega) (Gx.Wp.bnd p1 (Gx.Wp.bnd p2 (Gx.Wp.bnd ix (Gx.Wp.bnd (stQ1 (j := 3) (y := ((i : Int), (1 : Int), name, dt)) gH hix (by decide) rfl rfl) ?_))))
    rw [Gx.w1 (by omega)]
    refine ih (i + 1) _ (by omega) (cH.trans (Chg.set (.inr rfl))) ?_
    rw [sset_get]
    congr 3
    rw [map_set]
    refine List.map_congr_left fun j hj => ?_
    by_cases e : j = i
    ·subst e; simp [hdt]
    ·by_cases e2 : j < i
     ·rw [if_neg e, if_pos e2, if_pos (by omega)]
     ·rw [if_neg e, if_neg e2, if_neg (by omega)]
  refine loop data.length 0 r2.2 (by omega) (Chg.refl _ _) ?_
  rw [hb]
  congr 3
  unfold askL
  rw [if_pos hm1, Int.toNat_natCast]
  rfl
end
end Gs
namespace Gs
open Go Gx
def fanP (n : Int) (p : Prg) : Prg := if may n = true then p else finP ⟨1, 0, [], []⟩
theorem fanJob {k N n : Nat} (hn : 2 ≤ n) {n0 : Int} {g : Nat} {x y : Array Value} {p : Prg} {h : AHeap}
  (run : may n0 = true → ∀ (h' : AHeap) (ib : Nat), Keeps h h' → h.next ≤ ib → ib < h'.next → h'.get ib = some (.cells (ioC q0 .nilFunc false 0 0 nils nils 0) 130 true 0) →
   Does (lvl k (n - 1)) g x y [ptr ib] h' fun h'' => Chg (In (fun y => y = ib) h'.next) h' h'' ∧ IoQ (lvl k) N ib p 0 (Gr (fun y => y = ib) h'.next h'') h'') :
  Gx.Wp (fan_job k (lvl k n) n0 (.func (.func g) x y) h) fun z => ∃ jb O, z.1 = some ⟨jb, 0, none⟩ ∧ Keeps h z.2 ∧ JobP (lvl k) N jb (fanP n0 p) 0 O z.2 ∧ (∀ y, O y → h.next ≤ y) ∧ h.next ≤ jb := by
 simp only [fan_job]
 have ec : (Value.func (.func g) x y).cells.toList = [.func (.func g) x y] := rfl
 rw [ec]
 refine Gx.Wp.new fun H1 k1 n1 g1 => Gx.Wp.new fun H2 k2 n2 g2 => ?_
 obtain ⟨n', rfl⟩ : ∃ n', n = n' + 1 := ⟨n - 1, by omega⟩
 obtain ⟨ib, eib⟩ : ∃ ib, ib = H2.next := ⟨_, rfl⟩
 refine Gx.Wp.call (Start_P (L := lvl k) (N := N) (p := fanP n0 p) (O := fun _ => False) (fun y f => f.elim) fun h' kp h2 hio => ?_) fun r hr => ?_
 ·rw [← eib] at hio h2 ⊢
  refine Does.of (X := fan_job_1 k (lvl k n') (some ⟨ib, 0, none⟩) (some ⟨h.next, 0, none⟩) (some ⟨H1.next, 0, none⟩) h') (by decide) (fun R κ => rfl) ?_
  simp only [fan_job_1]
  have np := kp.nx
  have b1 := kp.got (by omega) (k2.got (by omega) g1)
  have b2 := kp.got (by omega) g2
  refine Gx.Wp.bnd rfl (Gx.Wp.bnd (sldI_at b1 rfl) (Gx.Wp.bnd (may_spec9 k _ n0 h') ?_))
  by_cases c : 1 ≤ n0 ∧ n0 ≤ 255
  ·have hm : may n0 = true := decide_eq_true c
   rw [decide_eq_true c]
   refine Gx.Wp.ifn (fun z => by cases z) (Gx.Wp.bnd rfl (Gx.Wp.bnd (ldV_at b2 rfl) ?_))
   refine Does.wp (run hm h' ib ((k1.trans k2).trans kp) (by omega) h2 hio) (by kernel_rfl) fun h6 q6 => Gx.Wp.of ?_
   unfold fanP
   rw [if_pos hm]
   exact ⟨q6.1.wk fun y _ z => z.imp .inr id, q6.2.mono fun y z => z.imp .inr id⟩
  ·have hm : may n0 = false := decide_eq_false c
   rw [decide_eq_false c]
   refine Gx.Wp.ifp rfl (Gx.Wp.call (End_spec (lvl k n') hio (by dsimp only; omega)) fun z hz => Gx.Wp.of ?_)
   obtain ⟨c1, g1'⟩ := hz
   unfold fanP
   rw [if_neg (by rw [hm]; decide)]
   exact ⟨c1.wk fun y _ q => .inl (.inr q), fun _ _ => trivial, .inl ⟨q0, nils, nils, g1', ⟨rfl, fun i x hx => by simp at hx⟩, ⟨rfl, fun i x hx => by simp at hx⟩, (fun a ha => by cases ha), (fun a ha => by cases ha)⟩⟩
 ·obtain ⟨jb, O, e, c, J, _, far, hj⟩ := hr
  exact Gx.Wp.of ⟨jb, O, e, (k1.trans k2).trans (c.wk fun y _ f => f), J, fun y o => (far y o).elim (fun f => f.elim) fun q => by omega, by omega⟩
def codesZ (cs : List Int) : Rz := ⟨firstC [] cs, goodC cs, [], []⟩
def putP (name : ByteArray) (data : List ByteArray) : Prg := fanP data.length (askAll (putsL name data) [] fun ys => finP (codesZ (codesY ys)))
theorem PutJob_P {k n : Nat} (hn : 8 ≤ n) (hk : 1000 < k) {h : AHeap} {name : ByteArray} {dsl : Slc} {data : List ByteArray} (R : Row encS h dsl data) (hl : data.length ≤ 1099511627776) :
  Gx.Wp (fan_PutJob k (lvl k n) name dsl h) fun z => ∃ jb O, z.1 = some ⟨jb, 0, none⟩ ∧ Keeps h z.2 ∧ JobP (lvl k) 5 jb (putP name data) 0 O z.2 ∧ (∀ y, O y → h.next ≤ y) ∧ h.next ≤ jb := by
 simp only [fan_PutJob]
 refine Gx.Wp.new fun H1 k1 n1 g1 => Gx.Wp.new fun H2 k2 n2 g2 => Gx.Wp.bnd (sldL_at g2 rfl) ?_
 refine Gx.Wp.call (cloneS_acc (lvl k n) (s := ⟨dsl.a, dsl.len, dsl.cap⟩) (Row.keeps R (k1.trans k2)) hl) fun r4 q4 => ?_
 obtain ⟨k4, R4, f4⟩ := q4
 have n4 := k4.nx
 refine Gx.Wp.st (sp := none) (k4.got (by omega) g2) (by show 0 < 1; omega) rfl fun H5 (c5 : Chg (· = H1.next) r4.2 H5) n5 g5 => ?_
 have g5 : H5.get H1.next = some (.cells [.slice r4.1.a r4.1.len r4.1.cap] 22 true 0) := g5
 refine Gx.Wp.bnd (sldL_at g5 rfl) ?_
 have R5 : Row encS H5 ⟨r4.1.a, r4.1.len, r4.1.cap⟩ data := Row.chg R4 c5 fun a ha q => by have := f4 a ha; omega
 have len : ((⟨r4.1.a, r4.1.len, r4.1.cap⟩ : Slc).len : Int) = (data.length : Int) := by rw [R5.1]
 rw [len]
 have k5 : Keeps h H5 := Chg.beh (T := (· = H1.next)) ((k1.trans k2).trans k4) c5 fun y hy q => by omega
 have nm5 := c5.got (by omega) (by omega) (k4.got (by omega) (k2.got (by omega) g1))
 obtain ⟨n', rfl⟩ : ∃ n', n = n' + 2 := ⟨n - 2, by omega⟩
 refine Gx.Wp.call (fanJob (N := 5) (p := askAll (putsL name data) [] fun ys => finP (codesZ (codesY ys))) (by omega) fun hm h' ib kp h1 h2 hio => ?_) fun z hz => ?_
 ·refine Does.of (X := fan_PutJob_1 k (lvl k n') (some ⟨ib, 0, none⟩) (some ⟨h.next, 0, none⟩) (some ⟨H1.next, 0, none⟩) h') (by decide) (fun R κ => rfl) ?_
  simp only [fan_PutJob_1]
  have np := kp.nx
  refine Gx.Wp.new fun H7 k7 n7 g7 => Gx.Wp.bnd (ldP_at g7 rfl) (Gx.Wp.bnd rfl (Gx.Wp.bnd (ldS_at (k7.got (by omega) (kp.got (by omega) nm5)) rfl) (Gx.Wp.bnd rfl (Gx.Wp.bnd (sldL_at (k7.got (by omega) (kp.got (by omega) g5)) rfl) ?_))))
  have hl2 : (putsL name data).length ≤ 255 := putsL_len
  have P := Puts_io (k := k) (N := 5) (c := 1) (n := n') (ib := ib) (O := fun y => y = ib ∨ y = h'.next) (m := H7.next) (h := H7) (name := name) (dsl := ⟨r4.1.a, r4.1.len, r4.1.cap⟩) (data := data) (K := fun cs => finP (codesZ cs)) (by omega) (by omega) hk (then86 (b1 := h'.next) ⟨.inr rfl, by omega⟩ g7 (by omega) (by omega)) (.inl rfl) (fun y q => by omega) (Nat.le_refl _) (k7.got (by omega) hio) (Row.keeps R5 (kp.trans k7))
  refine Gx.Wp.call P fun z hz => Gx.Wp.of ?_
  obtain ⟨c, i⟩ := hz
  have nz := c.nx
  refine ⟨Chg.beh (Chg.keeps k7) c fun y hy q => ?_, i.mono fun y q => ?_⟩
  ·rcases q with (q | q) | q
   ·exact .inl q
   ·exact .inr (by omega)
   ·exact .inr (by omega)
  ·rcases q with (q | q) | q
   ·exact .inl q
   ·exact .inr ⟨by omega, by dsimp only; omega⟩
   ·exact .inr ⟨by omega, q.2⟩
 ·obtain ⟨jb, O, e, kz, J, far, hj⟩ := hz
  have := k5.nx
  exact Gx.Wp.of ⟨jb, O, e, k5.trans kz, J, fun y o => by have := far y o; omega, by omega⟩
theorem run9 {L : Nat → CallF} {k n N jb : Nat} (hn : N ≤ n) {sl : Slc} {p p' : Prg} {ss ss' : List Sb} {s m st : Nat} {O : Nat → Prop} {h : AHeap} (R : RunR k 300 p ss p' ss' s) (J : JobP L N jb p st O h) (T : Sts h sl m ss) (lts : ∀ y, SSet ss y → y < h.next ∧ ¬ JSet O jb y) (hsl : ∀ a, sl.a = some a → a.block < h.next ∧ ¬ JSet O jb a.block)
  (hm : m + s ≤ 100000) (hk : m + s < k) (hss : st + s ≤ 1048576) (l1 : p'.res.ids.length ≤ 1099511627776) (l2 : p'.res.texts.length ≤ 1099511627776) :
  Gx.Wp (law09_run k (L n) (some ⟨jb, 0, none⟩) sl h) fun z => ∃ O', z.1.2 = p'.over ∧ ResOk z.2 p'.res z.1.1 ∧ JobP L N jb p' (st + s) O' z.2 ∧ (∀ y, O' y → O y ∨ h.next ≤ y) ∧ (∀ y, SSet ss' y ↔ SSet ss y) ∧ Sts z.2 sl (m + s) ss' ∧ Chg (fun y => SSet ss y ∨ O y) h z.2 := by
 simp only [law09_run]
 refine Gx.Wp.new fun H1 k1 n1 g1 => Gx.Wp.ifn (fun z => by cases z) ?_
 have jl := J.lj
 have ol := J.lt
 refine Gx.Wp.call (Run_P (L := L) hn R (J.chg k1 fun _ _ f => f) (T.keeps k1) (fun y hy => ⟨by have := (lts y hy).1; omega, (lts y hy).2⟩) (fun a ha => ⟨by have := (hsl a ha).1; omega, (hsl a ha).2⟩) hm hk hss) fun r5 q5 => ?_
 obtain ⟨O', v, J5, sub, far, sset, T5, c5⟩ := q5
 have n5 := c5.nx
 refine Gx.Wp.call (Result_F (L n) J5 l1 l2) fun r6 q6 => ?_
 obtain ⟨⟨k6, o6⟩, fa, fb⟩ := q6
 have nin : ¬ (SSet ss h.next ∨ O h.next) := fun z => z.elim (fun z => by have := (lts _ z).1; omega) fun z => by have := ol _ z; omega
 have g6 := k6.got (by omega) (c5.got (by omega) nin g1)
 have n6 := k6.nx
 refine Gx.Wp.stL (sp := none) g6 rfl rfl rfl (by decide) fun H7 c7 n7 g7 => Gx.Wp.bnd (sldA_at g7 rfl) (Gx.Wp.bnd rfl (Gx.Wp.of ?_))
 have nO : ¬ O' h.next := fun z => (far _ z).elim (fun z => by have := ol _ z; omega) fun z => by omega
 have cA : Chg (fun y => SSet ss y ∨ O y) h H7 := Chg.beh (T := (· = h.next)) ((Chg.keeps k1).trans (c5.trans (Chg.keeps k6))) c7 fun y hy q => by omega
 refine ⟨O', ?_, ?_, (J5.chg k6 fun _ _ f => f).chg c7 (fun y hy q => ?_), fun y o => (far y o).imp id fun q => by omega, sset, (T5.keeps k6).chg c7 (fun y hy q => ?_) (fun a ha q => ?_), cA⟩
 ·dsimp only
  rw [v]
  cases p'.over <;> rfl
 ·obtain ⟨o1, o2, o3, o4, o5, o6', o7⟩ := o6
  exact ⟨o1, o2, o3, Row.chg o4 c7 fun a ha q => by have := fa a ha; omega, Row.chg o5 c7 fun a ha q => by have := fb a ha; omega, o6', o7⟩
 ·rcases hy with hy | hy
  ·exact nO (q ▸ hy)
  ·omega
 ·have := (lts y ((sset y).1 hy)).1; omega
 ·have := (hsl a ha).1; omega
end Gs
namespace Gs
open Go Gx
structure Yd (base q : Nat) (h : AHeap) (s : Slc) (ss : List Sb) : Prop where
 As : Acc encB 23 base h s ss
 sr : ∀ t ∈ ss, SR h t.1 t.2.1 (ps0 q) ∧ t.2.2 = ps0 q ∧ base ≤ t.1 ∧ base ≤ t.2.1
 aps : ss.Pairwise fun s t => ¬ SB s.1 s.2.1 t.1 ∧ ¬ SB s.1 s.2.1 t.2.1
theorem Yd.nil (base q : Nat) (h : AHeap) : Yd base q h nils [] := ⟨Acc.nil _ _ _ _, (fun t ht => by simp at ht), .nil⟩
section
variable {base q : Nat} {h : AHeap} {s : Slc} {ss : List Sb}
theorem Yd.push (M : Yd base q h s ss) (hl : ss.length ≤ 1000) (hb : base ≤ h.next) {h1 H : AHeap} (k1 : Keeps h h1) (s1 : SR h1 (h.next + 1) h.next (ps0 q)) (eH : H = h1.new (.cells [ptr (h.next + 1)] 23 true 0)) :
  ∃ s' h' x, rdS 1 (⟨some ⟨h1.next, 0, some 0⟩, 1, 1⟩ : Slc) H = some [ptr (h.next + 1)] ∧ appendA 1 8 23 H s [ptr (h.next + 1)] 1 = some (s', h') ∧ Yd base q h' s' (ss ++ [x]) ∧ Chg (fun y => base ≤ y) h h' := by
 have n1 := k1.nx
 have lt1 := s1.lt
 obtain ⟨x, ex⟩ : ∃ x : Sb, x = (h.next + 1, h.next, ps0 q) := ⟨_, rfl⟩
 have As := M.As.keeps k1
 obtain ⟨s', h3, r3, a3, As', c3, d3⟩ := Acc.pushK As encB_one x (bytes := 8) (H := H) (by rw [eH, ex]; rfl) (by omega) (by decide) (by omega)
 rw [ex] at r3 a3
 have sk : ∀ y, ofS s y → ∃ m c, h1.get y = some (.cells (.pointer m :: c) 23 true 0) := fun y ⟨a, ha, q⟩ => q ▸ accP_blk encB_ptr As ha
 refine ⟨s', h3, x, r3, a3, ⟨As', fun t ht => ?_, List.pairwise_append.2 ⟨M.aps, by simp, fun a ha b hb => ?_⟩⟩, Chg.beh (T := fun y => base ≤ y) (Chg.keeps k1) (c3.wk fun y _ ⟨a, ha, q⟩ => by have := (As.lt a ha).2; omega) fun y hy z => z⟩
 ·have S2 : SR h1 t.1 t.2.1 (ps0 q) ∧ t.2.2 = ps0 q ∧ base ≤ t.1 ∧ base ≤ t.2.1 := by
   rcases List.mem_append.1 ht with ht | ht
   ·obtain ⟨b1, b2, b3⟩ := M.sr t ht
    exact ⟨b1.keeps k1, b2, b3⟩
   ·simp at ht; subst ht ex
    exact ⟨s1, rfl, by dsimp only; omega, hb⟩
  obtain ⟨b1, b2, b3⟩ := S2
  exact ⟨b1.chg c3 (fun z => by obtain ⟨m, c, g⟩ := sk _ z; exact b1.notP g (.inl rfl)) fun z => by obtain ⟨m, c, g⟩ := sk _ z; exact b1.notP g (.inr rfl), b2, b3⟩
 ·simp at hb; subst hb ex
  have := (M.sr a ha).1.lt
  exact ⟨fun z => by rcases z with z | z <;> simp only at z <;> omega, fun z => by rcases z with z | z <;> simp only at z <;> omega⟩
theorem Yd.sts (M : Yd base q h s ss) (hq : q ≤ 1073741824) : Sts h s 0 ss := by
 refine ⟨M.As.row, fun a ha z => ?_, fun i t hi => ?_, fun i j a b hi hj hij => ?_⟩
 ·obtain ⟨t, ht, z⟩ := z
  obtain ⟨m, c, g⟩ := accP_blk encB_ptr M.As ha
  exact ((M.sr t ht).1).notP g z
 ·obtain ⟨b1, b2, _⟩ := M.sr t (mem_of hi)
  rw [b2]
  exact ⟨b1, good0, Nat.le_refl _, Nat.le_refl _, Nat.zero_le _, hq⟩
 ·refine pair_of M.aps (fun a b ha hb z => ?_) hi hj hij
  obtain ⟨z1, z2⟩ := z
  refine ⟨fun w => ?_, fun w => ?_⟩
  ·rcases w with w | w
   ·exact z1 (.inl w.symm)
   ·exact z2 (.inl w.symm)
  ·rcases w with w | w
   ·exact z1 (.inr w.symm)
   ·exact z2 (.inr w.symm)
theorem Yd.sset (M : Yd base q h s ss) {y : Nat} (z : SSet ss y) : base ≤ y ∧ y < h.next := by
 obtain ⟨t, ht, z⟩ := z
 obtain ⟨b1, b2, b3, b4⟩ := M.sr t ht
 have := b1.lt
 rcases z with rfl | rfl <;> omega
theorem Yd.ls (M : Yd base q h s ss) {a : Addr} (ha : s.a = some a) : base ≤ a.block ∧ a.block < h.next ∧ ¬ SSet ss a.block := by
 have b := M.As.lt a ha
 obtain ⟨m, c, g⟩ := accP_blk encB_ptr M.As ha
 exact ⟨b.2, b.1, fun ⟨t, ht, z⟩ => ((M.sr t ht).1).notP g z⟩
theorem Yd.maps (M : Yd base q h s ss) : ss.map (·.2.2) = List.replicate ss.length (ps0 q) := by
 have := List.eq_replicate_of_mem (l := ss.map (·.2.2)) (a := ps0 q) fun x hx => by
  obtain ⟨t, ht, rfl⟩ := List.mem_map.1 hx
  exact (M.sr t ht).2.1
 rw [List.length_map] at this
 exact this
end
theorem yard9 {k : Nat} (D : CallF) {h : AHeap} (n : Nat) (hn : n ≤ 1000) (hk : 1001 < k) : Gx.Wp (law09_yard k D (n : Int) h) fun z => ∃ ss, Yd h.next 1048576 z.2 z.1 ss ∧ Keeps h z.2 ∧ ss.length = n := by
 simp only [law09_yard]
 refine Gx.Wp.jn fun j hj => ?_
 unfold law09_yard_l0
 obtain ⟨bot, eb⟩ := iterK_of (fun _ _ _ _ => none) (law09_yard_l0b k D j) (show n + 1 ≤ k by omega)
 rw [eb]
 have loop : ∀ (d i : Nat) (s : Slc) (h' : AHeap) (ss : List Sb), i + d = n → ss.length = i → Yd h.next 1048576 h' s ss → h.next ≤ h'.next → Chg (fun y => h.next ≤ y) h h' → Gx.Wp (iterK bot (d + 1) (law09_yard_l0b k D j) s (n : Int) (i : Int) h') fun z => ∃ ss, Yd h.next 1048576 z.2 z.1 ss ∧ Keeps h z.2 ∧ ss.length = n := fun d => by
  induction d with
  | zero =>
   intro i s h' ss hd hl M hn' c
   rw [iterK_s]; simp only [law09_yard_l0b]
   subst hj
   exact Gx.Wp.ifn (by simp; omega) (Gx.Wp.of ⟨ss, M, ⟨c.nx, fun x hx _ => c.oth x hx (by omega)⟩, by omega⟩)
  | succ d ih =>
   intro i s h' ss hd hl M hn' c
   rw [iterK_s]; simp only [law09_yard_l0b]
   obtain ⟨h1, e1, k1, s1⟩ := New_spec (k := k) D (h := h') (q := 1048576) (by decide)
   refine Gx.Wp.ifp (by simp; omega) (Gx.Wp.bnd e1 (Gx.Wp.ifn (fun z => by cases z) (Gx.Wp.newE fun H eH kH nH gH => ?_)))
   obtain ⟨s', h3, x, r3, a3, M', c3⟩ := M.push (by omega) hn' k1 s1 eH
   refine Gx.Wp.bnd r3 (Gx.Wp.bnd a3 ?_)
   rw [Gx.w1 (by omega)]
   exact ih (i + 1) s' h3 _ (by omega) (by simp [hl]) M' (by have := c3.nx; omega) (c.trans c3)
 exact loop n 0 nils h [] (by omega) rfl (Yd.nil _ _ _) (Nat.le_refl _) (Chg.refl _ _)
def d9 : List ByteArray := [⟨#[120]⟩, ⟨#[121]⟩]
def q9 : List Rq := putsL ⟨#[97]⟩ d9
theorem ans9 : (ansL q9 [(0, 0, ps0 1048576), (0, 0, ps0 1048576)]).2 = [(0, nob, []), (0, nob, [])] := by kernel_rfl
theorem put9 : putP ⟨#[97]⟩ d9 = askAll q9 [] fun ys => finP (codesZ (codesY ys)) := by
 unfold putP fanP
 rw [if_pos (show may (d9.length : Int) = true by kernel_rfl)]; rfl
theorem works9 {k : Nat} (hk : 2000 < k) {h : AHeap} : Gx.Wp (law09_works k (lvl k 60) h) fun z => z.1 = true ∧ Keeps h z.2 := by
 simp only [law09_works]
 refine Gx.Wp.call (yard9 (lvl k 60) 2 (by decide) (by omega)) fun r1 h1 => ?_
 obtain ⟨ss, M, k1, l1⟩ := h1
 have n1 := k1.nx
 have some1 : ∃ a, r1.1.a = some a := by
  rcases M.As.st with ⟨_, e⟩ | ⟨b, g⟩
  ·rw [e] at l1; cases l1
  ·exact ⟨_, by rw [g.s]⟩
 obtain ⟨a1, ha1⟩ := some1
 refine Gx.Wp.ifn (by rw [ha1]; exact fun z => by cases z) (Gx.Wp.new fun H2 k2 n2 g2 => ?_)
 have R2 : Row encS H2 ⟨some ⟨r1.2.next, 0, some 0⟩, 2, 2⟩ d9 := row_lit d9 (e := 9) (r := true) (fz := 0) g2 (by omega)
 refine Gx.Wp.call (PutJob_P (n := 60) (by decide) (by omega) R2 (by decide)) fun r3 h3 => ?_
 obtain ⟨jb, O, ej, k3, J, far, hj⟩ := h3
 rw [ej]
 have n3 := k3.nx
 have jl := J.lj
 have same := ansL_same (qs := q9) (ss := ss) (uu := [(0, 0, ps0 1048576), (0, 0, ps0 1048576)]) (by rw [M.maps, l1]; rfl)
 have RR' : RunR k 300 (putP ⟨#[97]⟩ d9) ss (finP (codesZ [0, 0])) (ansL q9 ss).1 (0 + q9.length) := by
  rw [put9]
  have w := run_all (k := k) (K := fun ys => finP (codesZ (codesY ys))) (most := 298) (qs := q9) (acc := []) (ss := ss) (p' := finP (codesZ [0, 0])) (ss' := (ansL q9 ss).1) (s := 0) (fun q hq => ?_) ?_
  ·rw [show 298 + q9.length = 300 by kernel_rfl] at w
   exact w
  ·simp only [q9, putsL] at hq
   rw [if_pos (by rfl)] at hq
   obtain ⟨i, _, rfl⟩ := List.mem_map.1 hq
   exact ⟨by show 1 < k; omega, by show 1 ≤ _; decide⟩
  ·rw [List.nil_append, same.1, ans9]
   exact RunR.over
 refine Gx.Wp.call (run9 (L := lvl k) (N := 5) (n := 60) (by decide) RR' J ((M.sts (by decide)).keeps (k2.trans k3)) (fun y hy => ?_) (fun a ha => ?_) (by decide) (by show 0 + 2 < k; omega) (by decide) (by decide) (by decide)) fun r4 h4 => ?_
 ·have := M.sset hy
  exact ⟨by omega, fun z => z.elim (fun z => by have := far y z; omega) fun z => by omega⟩
 ·have := M.ls ha
  exact ⟨by omega, fun z => z.elim (fun z => by have := far _ z; omega) fun z => by omega⟩
 obtain ⟨O', v1, o4, J4, _, _, T4, c4⟩ := h4
 have n4 := c4.nx
 refine Gx.Wp.new fun H5 k5 n5 g5 => Gx.Wp.stL (sp := none) g5 rfl rfl rfl (by decide) fun H6 c6 n6 g6 => ?_
 have k6 : Keeps r4.2 H6 := Chg.beh (T := (· = r4.2.next)) k5 c6 fun y hy q => by omega
 refine Gx.Wp.ifp (by rw [v1]; rfl) (Gx.Wp.bnd (Steps_P _ (J4.chg k6 fun _ _ f => f)) (Gx.Wp.ifp (by rfl) (Gx.Wp.bnd (sldI_at g6 rfl) (Gx.Wp.ifp (by rw [o4.2.2.1]; rfl) (Gx.Wp.bnd (sldI_at g6 rfl) (Gx.Wp.of ⟨?_, ?_⟩))))))
 ·dsimp only
  rw [o4.1]; rfl
 ·refine (Chg.beh (k1.trans (k2.trans k3)) c4 fun y hy z => ?_).trans k6
  rcases z with z | z
  ·have := M.sset z; omega
  ·have := far y z; omega
end Gs
namespace Gs
open Go Gx
section
variable {k : Nat} {D : CallF}
theorem ff_l1 (bot) {h0 : AHeap} {sl b l2 : Slc} {cs : List Int} (R : Row encI h0 sl cs) (hl : cs.length ≤ 17592186044416) {Q : Bool × AHeap → Prop} {J : Slc → Slc → Slc → AHeap → Option (Bool × AHeap)} (hJ : ∀ o h, Keeps h0 h → Acc encI 24 h0.next h o cs → Gx.Wp (J b o l2 h) Q) :
  ∀ (d i : Nat) (o : Slc) (h : AHeap), i + d = cs.length → Keeps h0 h → Acc encI 24 h0.next h o (cs.take i) → Gx.Wp (iterK bot (d + 1) (law09_FanFirst_l1b k D J) sl b o l2 (i : Int) h) Q := fun d => by
 induction d with
 | zero =>
  intro i o h hd kp A
  obtain rfl : i = cs.length := by omega
  rw [List.take_length] at A
  rw [iterK_s]; simp only [law09_FanFirst_l1b]
  exact Gx.Wp.ifn (by rw [R.1]; simp) (hJ o h kp A)
 | succ d ih =>
  intro i o h hd kp A
  rw [iterK_s]; simp only [law09_FanFirst_l1b]
  have np := kp.nx
  obtain ⟨x, hx⟩ := isome (l := cs) (i := i) (by omega)
  obtain ⟨p, b1, b2⟩ := (Row.keeps R kp).ldI hx
  refine Gx.Wp.ifp (by rw [R.1]; simp; omega) (Gx.Wp.bnd b1 (Gx.Wp.bnd b2 (Gx.Wp.newE fun H3 e3 k3 n3 g3 => ?_)))
  obtain ⟨s', h9, a1, a2, A', c9, d9⟩ := Acc.pushK A encI_one x (bytes := 8) e3 (by simp; omega) (by decide) (by omega)
  refine Gx.Wp.bnd a1 (Gx.Wp.bnd a2 ?_)
  rw [Gx.w1 (by omega)]
  refine ih (i + 1) s' h9 (by omega) (Chg.beh kp c9 fun y hy ⟨a, ha, q⟩ => by have := (A.lt a ha).2; omega) ?_
  rw [show cs.take (i + 1) = cs.take i ++ [x] by rw [List.take_add_one, hx]; rfl]
  exact A'
theorem ff_l0 (bot) {h0 : AHeap} {sl l1 : Slc} {cs : List Int} (R : Row encI h0 sl cs) (hl : cs.length ≤ 17592186044416) {Q : Bool × AHeap → Prop} {J : Slc → Slc → AHeap → Option (Bool × AHeap)} (hJ : ∀ o h, Keeps h0 h → Acc encI 24 h0.next h o cs → Gx.Wp (J l1 o h) Q) :
  ∀ (d i : Nat) (o : Slc) (h : AHeap), i + d = cs.length → Keeps h0 h → Acc encI 24 h0.next h o (cs.take i) → Gx.Wp (iterK bot (d + 1) (law09_FanFirst_l0b k D J) sl l1 o (i : Int) h) Q := fun d => by
 induction d with
 | zero =>
  intro i o h hd kp A
  obtain rfl : i = cs.length := by omega
  rw [List.take_length] at A
  rw [iterK_s]; simp only [law09_FanFirst_l0b]
  exact Gx.Wp.ifn (by rw [R.1]; simp) (hJ o h kp A)
 | succ d ih =>
  intro i o h hd kp A
  rw [iterK_s]; simp only [law09_FanFirst_l0b]
  have np := kp.nx
  obtain ⟨x, hx⟩ := isome (l := cs) (i := i) (by omega)
  obtain ⟨p, b1, b2⟩ := (Row.keeps R kp).ldI hx
  refine Gx.Wp.ifp (by rw [R.1]; simp; omega) (Gx.Wp.bnd b1 (Gx.Wp.bnd b2 (Gx.Wp.newE fun H3 e3 k3 n3 g3 => ?_)))
  obtain ⟨s', h9, a1, a2, A', c9, d9⟩ := Acc.pushK A encI_one x (bytes := 8) e3 (by simp; omega) (by decide) (by omega)
  refine Gx.Wp.bnd a1 (Gx.Wp.bnd a2 ?_)
  rw [Gx.w1 (by omega)]
  refine ih (i + 1) s' h9 (by omega) (Chg.beh kp c9 fun y hy ⟨a, ha, q⟩ => by have := (A.lt a ha).2; omega) ?_
  rw [show cs.take (i + 1) = cs.take i ++ [x] by rw [List.take_add_one, hx]; rfl]
  exact A'
end
theorem first_ok {k : Nat} {h : AHeap} {s0 s1 : Slc} {cs but : List Int} (R : Row encI h s0 cs) (B : Row encI h s1 but) (hl : cs.length ≤ 17592186044416) (hl2 : but.length ≤ 17592186044416) (hk : cs.length + but.length + 100000 ≤ k) :
  Gx.Wp (law09_FanFirst k (lvl k 60) s0 s1 h) fun z => z.1 = true := by
 simp only [law09_FanFirst]
 refine Gx.Wp.jn fun j5 h5 => ?_
 unfold law09_FanFirst_l1
 obtain ⟨bot, eb⟩ := iterK_of (fun _ _ _ _ _ _ => none) (law09_FanFirst_l1b k (lvl k 60) j5) (show cs.length + 1 ≤ k by omega)
 rw [eb]
 refine ff_l1 bot R hl (fun o h1 k1 A1 => ?_) cs.length 0 _ h (by omega) (.refl _ _) (Acc.nil _ _ _ _)
 subst h5
 refine Gx.Wp.jn fun j9 h9 => ?_
 unfold law09_FanFirst_l0
 obtain ⟨bot', eb'⟩ := iterK_of (fun _ _ _ _ _ => none) (law09_FanFirst_l0b k (lvl k 60) j9) (show but.length + 1 ≤ k by omega)
 rw [eb']
 refine ff_l0 bot' (Row.keeps B k1) hl2 (fun o2 h2 k2 A2 => ?_) but.length 0 _ h1 (by omega) (.refl _ _) (Acc.nil _ _ _ _)
 subst h9
 refine Gx.Wp.bnd (first_spec (A1.keeps k2).row A2.row (by omega) (by omega) (by omega) (by omega)) (Gx.Wp.bnd (rfirst_spec (A1.keeps k2).row A2.row (by omega) (by omega) (by omega) (by omega)) (Gx.Wp.ifp (by simp) ?_))
 exact Gx.Wp.call (works9 (by omega)) fun r hr => Gx.Wp.of hr.1
theorem first_rep {k : Nat} {l0 l1 : List Int} (hk : l0.length + l1.length + 100000 ≤ k) {h : AHeap} {s0 s1 : Slc} (R : Row encI h s0 l0) (hl : l0.length ≤ 17592186044416) (B : Row encI h s1 l1) (hl2 : l1.length ≤ 17592186044416) : ∃ h', law09_FanFirst k (DD k) s0 s1 h = some (true, h') := by
 obtain ⟨⟨r, h'⟩, e, q⟩ := first_ok R B hl hl2 hk
 obtain rfl : r = true := q
 exact ⟨h', e⟩
end Gs
