import Derived.Test.YtcacldakplomnaaGreatSp2
namespace Gq
open Go Gx Go.Proofs
theorem bl_app (a b : ByteArray) : bl (a ++ b) = bl a ++ bl b := by simp [bl]
theorem enc2_len (x : Prt) : (enc2 x).length = 2 := rfl
theorem enc2_one (x : Prt) : allOne (enc2 x) = true := rfl
def chkP (k m : Nat) (n : Int) : List Prt → Int
 | [] => 0
 | x :: l => if goodP k m n x ≠ 0 then goodP k m n x else chkP k m n l
theorem unl_chk (k m : Nat) (n : Int) : ∀ (ps out : List Prt), unl k m n ps out = if chkP k m n ps ≠ 0 then ([], chkP k m n ps) else (ps.foldl (takeP k) out, 0)
 | [], out => by simp [unl, chkP]
 | x :: l, out => by
  have e1 : unl k m n (x :: l) out = if goodP k m n x ≠ 0 then ([], goodP k m n x) else unl k m n l (takeP k out x) := rfl
  have e2 : chkP k m n (x :: l) = if goodP k m n x ≠ 0 then goodP k m n x else chkP k m n l := rfl
  by_cases h : goodP k m n x ≠ 0
  ·rw [if_pos h] at e1 e2
   rw [e1, e2, if_pos h]
  ·rw [if_neg h] at e1 e2
   rw [e1, e2, unl_chk k m n l (takeP k out x)]; rfl
theorem fold_full {k : Nat} : ∀ (l out : List Prt), k ≤ out.length → l.foldl (takeP k) out = out
 | [], _, _ => rfl
 | x :: l, out, h => by
  have ht : takeP k out x = out := by unfold takeP; rw [if_neg]; rintro ⟨_, q⟩; omega
  rw [List.foldl_cons, ht]; exact fold_full l out h
theorem rul_l1 (K : Nat) (D : CallF) (j) (bot) {Q : Slc × AHeap → Prop} (p : Option Addr) (l o : Slc) {h : AHeap} {ps out : List Prt} (R : RowW 2 enc2 h l ps) (Ro : RowW 2 enc2 h o out) (hl : out.length ≤ 100000) {i : Nat} {x : Prt} (hx : ps[i]? = some x)
  (hj : Gx.Wp (j p l o (i : Int) (decide (x.1 ∈ idxs out)) h) Q) :
  ∀ (d t : Nat) (b : Bool), t + d = out.length → (b || decide (x.1 ∈ idxs (out.drop t))) = decide (x.1 ∈ idxs out) → Gx.Wp (iterK bot (d + 1) (ref05_Plan_unlike_l1b K D j) p l o (i : Int) b (t : Int) h) Q := fun d => by
 induction d with
 | zero =>
  intro t b ht hb
  rw [iterK_s]; simp only [ref05_Plan_unlike_l1b]
  obtain rfl : t = out.length := by omega
  rw [List.drop_length] at hb
  have hb : b = decide (x.1 ∈ idxs out) := by simpa [idxs] using hb
  subst hb
  exact Gx.Wp.ifn (by rw [Ro.len]; simp) hj
 | succ d ih =>
  intro t b ht hb
  rw [iterK_s]; simp only [ref05_Plan_unlike_l1b]
  refine Gx.Wp.ifp (by rw [Ro.len]; simp; omega) ?_
  refine Gx.Wp.jn fun j2 hj2 => ?_
  obtain ⟨y, hy⟩ := isome (l := out) (i := t) (by omega)
  rw [dropc hy] at hb
  have ex : idxs (y :: out.drop (t + 1)) = y.1 :: idxs (out.drop (t + 1)) := rfl
  rw [ex] at hb
  cases b with
  | true =>
   refine Gx.Wp.ifp rfl ?_
   subst hj2
   simp only
   rw [Gx.w1 (by omega)]
   exact ih (t + 1) true (by omega) (by simpa using hb)
  | false =>
   refine Gx.Wp.ifn (by decide) ?_
   obtain ⟨q, q1, _, q2, _⟩ := Ro.ld enc2_len (by decide) hy
   obtain ⟨r, r1, _, r2, _⟩ := R.ld enc2_len (by decide) hx
   refine Gx.Wp.bnd q1 (Gx.Wp.bnd (q2 0 .i64 y.1 rfl) (Gx.Wp.bnd r1 (Gx.Wp.bnd (r2 0 .i64 x.1 rfl) ?_)))
   subst hj2
   simp only
   rw [Gx.w1 (by omega)]
   refine ih (t + 1) _ (by omega) ?_
   rw [← hb, Bool.eq_iff_iff]
   simp only [Bool.or_eq_true, beq_iff_eq, decide_eq_true_eq, Bool.false_or, List.mem_cons]
   exact ⟨fun a => a.imp Eq.symm id, fun a => a.imp Eq.symm id⟩
theorem rul_l0 {k0 : Nat} (D : CallF) (bot) {h0 : AHeap} {pb B k m : Nat} (p : PR h0 pb B k m) (hk : k ≤ 255) {l : Slc} {ps : List Prt} (R : RowW 2 enc2 h0 l ps) (hps : ps.length ≤ 100000) (hk0 : ps.length < k0) :
  ∀ (d i : Nat) (o : Slc) (out : List Prt) (h : AHeap), i + d = ps.length → out.length ≤ i → Keeps h0 h → AccW 2 enc2 36 h0.next h o out →
   Gx.Wp (iterK bot (d + 1) (ref05_Plan_unlike_l0b k0 D fun (out1 : Slc) (h2 : AHeap) => some (out1, h2)) (some ⟨pb, 0, none⟩) l o (i : Int) h) fun q => Keeps h0 q.2 ∧ AccW 2 enc2 36 h0.next q.2 q.1 ((ps.drop i).foldl (takeP k) out) := fun d => by
 induction d with
 | zero =>
  intro i o out h hi ho kp A
  rw [iterK_s]; simp only [ref05_Plan_unlike_l0b]
  obtain rfl : i = ps.length := by omega
  refine Gx.Wp.jn fun j hj => ?_
  refine Gx.Wp.ifn (by rw [R.len]; simp) ?_
  subst hj
  rw [List.drop_length]
  exact Gx.Wp.ifn (by decide) (Gx.Wp.of ⟨kp, A⟩)
 | succ d ih =>
  intro i o out h hi ho kp A
  rw [iterK_s]; simp only [ref05_Plan_unlike_l0b]
  refine Gx.Wp.jn fun j hj => ?_
  refine Gx.Wp.ifp (by rw [R.len]; simp; omega) ?_
  have ph := p.keeps kp
  have len := (A.row enc2_len).len
  refine Gx.Wp.bnd rfl (Gx.Wp.bnd (ldI_at ph.blk rfl) ?_)
  by_cases c : out.length < k
  ·obtain ⟨x, hx⟩ := isome (l := ps) (i := i) (by omega)
   have e1 : decide ((o.len : Int) < (k : Int)) = true := by rw [len]; simpa using c
   rw [e1]
   subst hj
   refine Gx.Wp.ifp rfl ?_
   refine Gx.Wp.jn fun j2 hj2 => ?_
   refine Gx.Wp.jn fun j3 hj3 => ?_
   unfold ref05_Plan_unlike_l1
   obtain ⟨bot1, eb⟩ := iterK_of (fun _ _ _ _ _ _ _ => none) (ref05_Plan_unlike_l1b k0 D j3) (show out.length + 1 ≤ k0 by omega)
   rw [eb]
   have Rh := R.keeps kp
   refine rul_l1 k0 D j3 bot1 _ l o Rh (A.row enc2_len) (by omega) hx ?_ out.length 0 false (by omega) (by simp)
   subst hj3
   rw [dropc hx, List.foldl_cons]
   by_cases t : x.1 ∈ idxs out
   ·have ht : takeP k out x = out := by unfold takeP; rw [if_neg fun q => q.1 t]
    rw [ht]
    refine Gx.Wp.ifn (by simp [t]) ?_
    subst hj2
    simp only
    rw [Gx.w1 (by omega)]
    exact ih (i + 1) o out h (by omega) (by omega) kp A
   ·have ht : takeP k out x = out ++ [x] := by unfold takeP; rw [if_pos ⟨t, c⟩]
    rw [ht]
    refine Gx.Wp.ifp (by simp [t]) ?_
    obtain ⟨q, q1, q2, _, _⟩ := Rh.ld enc2_len (by decide) hx
    refine Gx.Wp.bnd q1 (Gx.Wp.bnd q2 (Gx.Wp.bnd (dec2 x) ?_))
    refine Gx.Wp.bnd (rdS_oneW enc2_len x _) ?_
    obtain ⟨s', h', a1, A2, c2, _⟩ := A.push enc2_len enc2_one x (bytes := 24) (by decide) (by omega) kp.nx
    refine Gx.Wp.bnd a1 ?_
    subst hj2
    simp only
    rw [Gx.w1 (by omega)]
    exact ih (i + 1) s' (out ++ [x]) h' (by omega) (by simp; omega) (Chg.beh kp c2 fun y hy ⟨a, ha, e⟩ => by have := (A.lt a ha).2; omega) A2
  ·have e1 : decide ((o.len : Int) < (k : Int)) = false := by rw [len]; simpa using c
   rw [e1]
   subst hj
   rw [fold_full _ _ (by omega)]
   exact Gx.Wp.ifn (by decide) (Gx.Wp.of ⟨kp, A⟩)
theorem runlike_spec {k0 : Nat} (D : CallF) {h : AHeap} {pb B k m : Nat} (p : PR h pb B k m) (hk : k ≤ 255) {l : Slc} {ps : List Prt} (R : RowW 2 enc2 h l ps) (hps : ps.length ≤ 100000) (hk0 : ps.length < k0) :
  Gx.Wp (ref05_Plan_unlike k0 D (some ⟨pb, 0, none⟩) l h) fun q => Keeps h q.2 ∧ AccW 2 enc2 36 h.next q.2 q.1 (ps.foldl (takeP k) []) := by
 simp only [ref05_Plan_unlike]
 refine Gx.Wp.jn fun j hj => ?_
 unfold ref05_Plan_unlike_l0
 obtain ⟨bot, eb⟩ := iterK_of (fun _ _ _ _ _ => none) (ref05_Plan_unlike_l0b k0 D j) (show ps.length + 1 ≤ k0 by omega)
 rw [eb]
 subst hj
 exact rul_l0 D bot p hk R hps hk0 ps.length 0 _ [] h (by omega) (by simp) (Chg.refl _ _) (AccW.nil _ _ _ _ _)
theorem rjn_l2 {k0 : Nat} (D : CallF) (j) (bot) {Q : (ByteArray × Int) × AHeap → Prop} {h : AHeap} {pb B k m : Nat} (p : PR h pb B k m) (hR : k + m ≤ 255) {l : Slc} {ps : List Prt} (R : RowW 2 enc2 h l ps) (hps : ps.length ≤ 100000) (long n : Int)
  (hno : chkP k m n ps ≠ 0 → Q ((⟨#[]⟩, chkP k m n ps), h)) (hok : chkP k m n ps = 0 → Gx.Wp (j (some ⟨pb, 0, none⟩) l long h) Q) :
  ∀ (d i : Nat), i + d = ps.length → chkP k m n (ps.drop i) = chkP k m n ps → Gx.Wp (iterK bot (d + 1) (ref05_Plan_Join_l2b k0 D j) (some ⟨pb, 0, none⟩) l long n (i : Int) h) Q := fun d => by
 induction d with
 | zero =>
  intro i hi he
  rw [iterK_s]; simp only [ref05_Plan_Join_l2b]
  obtain rfl : i = ps.length := by omega
  rw [List.drop_length] at he
  exact Gx.Wp.ifn (by rw [R.len]; simp) (hok he.symm)
 | succ d ih =>
  intro i hi he
  rw [iterK_s]; simp only [ref05_Plan_Join_l2b]
  refine Gx.Wp.ifp (by rw [R.len]; simp; omega) ?_
  obtain ⟨x, hx⟩ := isome (l := ps) (i := i) (by omega)
  obtain ⟨q, q1, _, q2, q3⟩ := R.ld enc2_len (by decide) hx
  rw [dropc hx] at he
  simp only [chkP] at he
  refine Gx.Wp.jn fun j2 hj2 => ?_
  have l0 := q2 0 .i64 x.1 rfl
  refine Gx.Wp.bnd q1 (Gx.Wp.bnd l0 ?_)
  have key : ∀ y : Bool, (y = true ↔ ¬ (0 ≤ x.1 ∧ x.1 < ((k + m : Nat) : Int))) → Gx.Wp (j2 (some ⟨pb, 0, none⟩) l long n (i : Int) y h) Q := by
   intro y hy
   subst hj2
   by_cases g1 : 0 ≤ x.1 ∧ x.1 < ((k + m : Nat) : Int)
   ·have hy0 : y = false := by cases y with | true => exact absurd g1 (hy.1 rfl) | false => rfl
    subst hy0
    refine Gx.Wp.ifn (by decide) ?_
    refine Gx.Wp.bnd q1 (Gx.Wp.bnd (q3 1 x.2 rfl) ?_)
    by_cases g2 : (x.2.size : Int) = n
    ·refine Gx.Wp.ifn (by simpa using g2) ?_
     have hg : goodP k m n x = 0 := by unfold goodP; rw [if_neg (by simpa using g1), if_neg (by simpa using g2)]
     rw [if_neg (by simpa using hg)] at he
     rw [Gx.w1 (by omega)]
     exact ih (i + 1) (by omega) he
    ·refine Gx.Wp.ifp (by simpa using g2) ?_
     have hg : goodP k m n x = 4 := by unfold goodP; rw [if_neg (by simpa using g1), if_pos (by simpa using g2)]
     rw [if_pos (by rw [hg]; decide), hg] at he
     rw [← he] at hno
     exact Gx.Wp.of (hno (by decide))
   ·have hy0 : y = true := hy.2 g1
    subst hy0
    refine Gx.Wp.ifp rfl ?_
    have hg : goodP k m n x = 1 := by unfold goodP; rw [if_pos (by simpa using g1)]
    rw [if_pos (by rw [hg]; decide), hg] at he
    rw [← he] at hno
    exact Gx.Wp.of (hno (by decide))
  by_cases c : x.1 < 0
  ·exact Gx.Wp.ifp (by simpa using c) (key true ⟨fun _ q => by omega, fun _ => rfl⟩)
  ·refine Gx.Wp.ifn (by simpa using c) ?_
   refine Gx.Wp.bnd q1 (Gx.Wp.bnd l0 (Gx.Wp.bnd rfl (Gx.Wp.bnd (ldI_at p.blk rfl) (Gx.Wp.bnd rfl (Gx.Wp.bnd (ldI_at p.blk rfl) ?_)))))
   rw [w64 ((k : Int) + (m : Int)) (by omega)]
   refine key _ ?_
   rw [decide_eq_true_eq]
   omega
theorem rjn_l1 {k0 : Nat} (D : CallF) (j) (bot) {Q : (ByteArray × Int) × AHeap → Prop} {h0 : AHeap} {l : Slc} {qs : List Prt} (R : RowW 2 enc2 h0 l qs) (hq : qs.length ≤ 1000) (p : Option Addr) (long : Int)
  (hj : ∀ rs ds h, Keeps h0 h → Acc encI 3 h0.next h rs (idxs qs) → Acc encS 9 h0.next h ds (datas qs) → Gx.Wp (j p long rs ds h) Q) :
  ∀ (d i : Nat) (h : AHeap) (rs ds : Slc), i + d = qs.length → Keeps h0 h → Acc encI 3 h0.next h rs (idxs (qs.take i)) → Acc encS 9 h0.next h ds (datas (qs.take i)) → ApartS rs ds →
  Gx.Wp (iterK bot (d + 1) (ref05_Plan_Join_l1b k0 D j) p l long rs ds (i : Int) h) Q := fun d => by
 induction d with
 | zero =>
  intro i h rs ds hi kh A Bd _
  obtain rfl : i = qs.length := by omega
  rw [List.take_length] at A Bd
  rw [iterK_s]; simp only [ref05_Plan_Join_l1b]
  exact Gx.Wp.ifn (by rw [R.len]; simp) (hj rs ds h kh A Bd)
 | succ d ih =>
  intro i h rs ds hi kh A Bd ap
  rw [iterK_s]; simp only [ref05_Plan_Join_l1b]
  refine Gx.Wp.ifp (by rw [R.len]; simp; omega) ?_
  obtain ⟨x, hx⟩ := isome (l := qs) (i := i) (by omega)
  obtain ⟨q, q1, _, q2, _⟩ := (R.keeps kh).ld enc2_len (by decide) hx
  refine Gx.Wp.bnd q1 (Gx.Wp.bnd (q2 0 .i64 x.1 rfl) (Gx.Wp.bnd rdS_one ?_))
  have n0 := kh.nx
  obtain ⟨rs2, h1, a1, A1, c1, r1⟩ := A.push (bytes := 8) (fun _ => rfl) x.1 (by simp [idxs]; omega) (by decide) n0
  refine Gx.Wp.bnd a1 ?_
  have B1 : Acc encS 9 h0.next h1 ds (datas (qs.take i)) := Bd.chg c1 (fun a ha e => by
   obtain ⟨a2, ha2, he⟩ := e
   exact ap a2 a ha2 ha he.symm)
  have kh1 : Keeps h0 h1 := Chg.beh kh c1 (fun w hw e => by
   obtain ⟨a2, ha2, rfl⟩ := e
   have := (A.lt a2 ha2).2; omega)
  obtain ⟨q', q1', _, _, q3⟩ := (R.keeps kh1).ld enc2_len (by decide) hx
  refine Gx.Wp.bnd q1' (Gx.Wp.bnd (q3 1 x.2 rfl) (Gx.Wp.bnd rdS_one ?_))
  obtain ⟨ds2, h2, b1, B2, c2, r2⟩ := B1.push (bytes := 16) encS_one x.2 (by simp [datas]; omega) (by decide) kh1.nx
  refine Gx.Wp.bnd b1 ?_
  have hap : ∀ a b, rs2.a = some a → ds.a = some b → a.block ≠ b.block := fun a b ha hb e => by
   have := r1 a ha
   have := (Bd.lt b hb).1
   omega
  have A2 : Acc encI 3 h0.next h2 rs2 (idxs (qs.take i) ++ [x.1]) := A1.chg c2 (fun a ha e => by
   obtain ⟨a2, ha2, he⟩ := e
   exact hap a a2 ha ha2 he)
  have e1 : idxs (qs.take i) ++ [x.1] = idxs (qs.take (i + 1)) := take_map (f := fun z : Prt => z.1) hx
  have e2 : datas (qs.take i) ++ [x.2] = datas (qs.take (i + 1)) := take_map (f := fun z : Prt => z.2) hx
  rw [e1] at A2
  rw [e2] at B2
  rw [Gx.w1 (by omega)]
  refine ih (i + 1) h2 rs2 ds2 (by omega) (Chg.beh kh1 c2 fun w hw e => by
   obtain ⟨a2, ha2, rfl⟩ := e
   have := (B1.lt a2 ha2).2; omega) A2 B2 fun a b ha hb e => ?_
  have := (A1.lt a ha).1
  have := r2 b hb
  omega
theorem rjn_l0 {k0 : Nat} (hk0 : 70000 ≤ k0) (D : CallF) (j) (bot) {Q : (ByteArray × Int) × AHeap → Prop} {hs : AHeap} {pb B k m : Nat} (p : PR hs pb B k m) (hk : 0 < k) (hk2 : k ≤ 255) {ab B2 : Nat} {sp : Option Nat} (hsp : spOk sp 1 = true) {qs : List Prt} (hlen : qs.length = k) {n : Nat} (hsz : ∀ x ∈ qs, x.2.size = n) (hn : n ≤ 66000)
  (hps : ∀ i, i < k → (pieceA k qs i).size = n)
  (b1 : hs.get ab = some (.cells (mcell (k : Int) (k : Int) (whole B2 (k * k) sp)) 57 true 0)) (b2 : ab < hs.next) (d1 : hs.get B2 = some (outB encI 3 (matN (k * k) (invR k qs)))) (d2 : B2 < hs.next)
  {ds : Slc} (Rd : Row encS hs ds (datas qs)) (long : Int) (hj : ∀ h, Keeps hs h → Gx.Wp (j long ⟨⟨flatB (piecesA k qs)⟩⟩ h) Q) :
  ∀ (d i : Nat) (h : AHeap) (s : ByteArray), i + d = k → Keeps hs h → s = ⟨⟨flatB ((List.range i).map (pieceA k qs))⟩⟩ →
  Gx.Wp (iterK bot (d + 1) (ref05_Plan_Join_l0b k0 D j) (some ⟨pb, 0, none⟩) long ds (some ⟨ab, 0, none⟩) s (i : Int) h) Q := fun d => by
 induction d with
 | zero =>
  intro i h s hi kh hse
  obtain rfl : i = k := by omega
  rw [iterK_s]; simp only [ref05_Plan_Join_l0b]
  refine Gx.Wp.bnd rfl (Gx.Wp.bnd (ldI_at (p.keeps kh).blk rfl) ?_)
  rw [hse]
  exact Gx.Wp.ifn (by simp) (hj h kh)
 | succ d ih =>
  intro i h s hi kh hse
  rw [iterK_s]; simp only [ref05_Plan_Join_l0b]
  have ph := p.keeps kh
  have e1 : h.get ab = some (.cells (mcell (k : Int) (k : Int) (whole B2 (k * k) sp)) 57 true 0) := (kh.oth _ b2 fun f => f).trans b1
  have g1 : h.get B2 = some (outB encI 3 (matN (k * k) (invR k qs))) := (kh.oth _ d2 fun f => f).trans d1
  have hle : i * k + k ≤ k * k := by have := Nat.mul_le_mul_right k (show i + 1 ≤ k by omega); rw [Nat.succ_mul] at this; exact this
  have hN : k * k ≤ 65025 := Nat.le_trans (Nat.mul_le_mul hk2 hk2) (by decide)
  refine Gx.Wp.bnd rfl (Gx.Wp.bnd (ldI_at ph.blk rfl) ?_)
  refine Gx.Wp.ifp (by simp; omega) ?_
  have hL : ldL (⟨ab, 0 + 2, none⟩ : Addr) h = some (whole B2 (k * k) sp) := by simp [ldL, AHeap.rd1, e1, mcell, decL, whole]
  refine Gx.Wp.bnd rfl (Gx.Wp.bnd hL (Gx.Wp.bnd rfl (Gx.Wp.bnd (ldI_at ph.blk rfl) (Gx.Wp.bnd rfl (Gx.Wp.bnd (ldI_at ph.blk rfl) (Gx.Wp.bnd (subL_rowS hsp hk hle (by omega) (by omega)) ?_))))))
  have Rc := matN_rowR g1 (Nat.lt_of_lt_of_le d2 kh.nx) hle (k * k - i * k) sp
  have dl : (datas qs).length = k := by simp [datas, hlen]
  have rl : ((List.range k).map fun j => ((invR k qs (i * k + j) : Nat) : Int)).length = k := by simp
  have mb : ∀ s ∈ datas qs, s.size ≤ 66000 := fun s hs => by
   obtain ⟨x, hx, rfl⟩ := List.mem_map.1 hs
   rw [hsz x hx]; exact hn
  obtain ⟨h2, r2, k2⟩ := rmix_spec (k := k0) (by omega) D (Rd.keeps kh) Rc (by rw [dl]; omega) (by rw [rl]; omega) (fun x hx => by have := mb x hx; omega) (by rw [dl]; omega) (by rw [rl]; omega) (fun x hx => by have := mb x hx; omega)
  refine Gx.Wp.bnd r2 ?_
  have hpi : (mixA (datas qs) ((List.range k).map fun j => ((invR k qs (i * k + j) : Nat) : Int))).1 = pieceA k qs i := rfl
  simp only [hpi]
  have fl : (flatB ((List.range i).map (pieceA k qs))).length = i * n := by
   have := flat_size (n := n) ((List.range i).map (pieceA k qs)) (fun x hx => by
    obtain ⟨t, ht, rfl⟩ := List.mem_map.1 hx
    exact hps t (by have := List.mem_range.1 ht; omega))
   rw [List.length_map, List.length_range] at this
   exact this
  have hin : i * n ≤ 255 * 66000 := Nat.mul_le_mul (by omega) hn
  have ssz : s.size = i * n := by rw [hse, size_mk, fl]
  refine Gx.Wp.ifp (by rw [ssz, hps i (by omega)]; omega) ?_
  rw [Gx.w1 (by omega)]
  refine ih (i + 1) h2 _ (by omega) (kh.trans k2) ?_
  apply bl_inj
  rw [hse, bl_app]
  show flatB ((List.range i).map (pieceA k qs)) ++ bl (pieceA k qs i) = flatB ((List.range (i + 1)).map (pieceA k qs))
  rw [List.range_succ, List.map_append]
  simp [flatB]
theorem cut_sub {k m : Nat} (hk : 0 < k) (hR : k + m ≤ 255) {ps : List Prt} {long : Int} (hl : 0 ≤ long ∧ long ≤ 65536) (g : GoodK k m (nE k long.toNat) ps) : Gx.subS (⟨⟨flatB (piecesA k ps)⟩⟩ : ByteArray) none (some long) = some (cutA k ps long) := by
 have pl : (piecesA k ps).length = k := by simp [piecesA]
 have fl : (flatB (piecesA k ps)).length = k * nE k long.toNat := by
  have := flat_size (n := nE k long.toNat) (piecesA k ps) (fun x hx => by
   obtain ⟨i, hi, rfl⟩ := List.mem_map.1 hx
   exact pieceA_size hk hR g (List.mem_range.1 hi))
  rw [pl] at this; exact this
 have hge := nE_ge hk long.toNat
 have hsz : (⟨⟨flatB (piecesA k ps)⟩⟩ : ByteArray).size = k * nE k long.toNat := by rw [size_mk, fl]
 have := subS_of (s := (⟨⟨flatB (piecesA k ps)⟩⟩ : ByteArray)) (lo := none) (hi := some long) (i := 0) (j := long.toNat) (by simp; omega) rfl (by omega) (by rw [hsz]; exact hge)
 rw [this, List.drop_zero]; rfl
theorem rjoin_spec {k0 : Nat} (hk0 : 200000 ≤ k0) (D : CallF) {h : AHeap} {pb B k m : Nat} (p : PR h pb B k m) (hk : 0 < k) (hR : k + m ≤ 255) {l : Slc} {ps : List Prt} (R : RowW 2 enc2 h l ps) (hps : ps.length ≤ 100000) (long : Int) :
  Gx.Wp (ref05_Plan_Join k0 D (some ⟨pb, 0, none⟩) l long h) fun q => q.1 = joinP k m ps long ∧ Keeps h q.2 := by
 simp only [ref05_Plan_Join]
 refine Gx.Wp.bnd (reach_spec k0 D p hk (by omega) long) ?_
 by_cases ce : (eachA k long).2 = 0
 ·refine Gx.Wp.ifn (by simpa using ce) ?_
  refine Gx.Wp.jn fun j hj => ?_
  unfold ref05_Plan_Join_l2
  obtain ⟨bot2, e2⟩ := iterK_of (fun _ _ _ _ _ _ => none) (ref05_Plan_Join_l2b k0 D j) (show ps.length + 1 ≤ k0 by omega)
  rw [e2]
  have eU : unlA k m ps long = unl k m (eachA k long).1 ps [] := by unfold unlA; rw [if_neg (by simpa using ce)]
  rw [unl_chk] at eU
  refine rjn_l2 D j bot2 p hR R hps long (eachA k long).1 (fun hc => ?_) (fun hc => ?_) ps.length 0 (by omega) rfl
  ·refine ⟨?_, Chg.refl _ _⟩
   rw [if_pos hc] at eU
   unfold joinP
   rw [eU, if_pos hc]
  ·rw [if_neg (by simpa using hc)] at eU
   subst hj
   refine Gx.Wp.call (runlike_spec (k0 := k0) D p (by omega) R hps (by omega)) fun q ⟨k1, A1⟩ => ?_
   obtain ⟨o, h1⟩ := q
   simp only at k1 A1 ⊢
   have p1 := p.keeps k1
   refine Gx.Wp.bnd rfl (Gx.Wp.bnd (ldI_at p1.blk rfl) ?_)
   have olen := (A1.row enc2_len).len
   by_cases c2 : (ps.foldl (takeP k) []).length < k
   ·refine Gx.Wp.ifp (by rw [olen]; simpa using c2) (Gx.Wp.of ⟨?_, k1⟩)
    unfold joinP
    rw [eU, if_neg (by simp), if_pos c2]
   ·refine Gx.Wp.ifn (by rw [olen]; simpa using c2) ?_
    obtain ⟨hl, g⟩ := unlA_good (m := m) hk (ps := ps) (long := long) (by rw [eU]) (by rw [eU]; exact c2)
    rw [eU] at g
    have g : GoodK k m (nE k long.toNat) (ps.foldl (takeP k) []) := g
    have hle := nE_le hk long.toNat
    have hn2 : nE k long.toNat ≤ k * nE k long.toNat := Nat.le_mul_of_pos_left _ hk
    have hjp : joinP k m ps long = (cutA k (ps.foldl (takeP k) []) long, 0) := by
     unfold joinP
     rw [eU, if_neg (by simp), if_neg c2]
    rw [hjp]
    generalize hqs : ps.foldl (takeP k) [] = qs at *
    refine Gx.Wp.jn fun j2 hj2 => ?_
    unfold ref05_Plan_Join_l1
    obtain ⟨bot1, e1⟩ := iterK_of (fun _ _ _ _ _ _ _ => none) (ref05_Plan_Join_l1b k0 D j2) (show qs.length + 1 ≤ k0 by rw [g.len]; omega)
    rw [e1]
    refine rjn_l1 D j2 bot1 (A1.row enc2_len) (by rw [g.len]; omega) _ long ?_ qs.length 0 h1 _ _ (by omega) (Chg.refl _ _) (Acc.nil _ _ _ _) (Acc.nil _ _ _ _) (fun a b ha _ => by cases ha)
    intro rs ds h2 k2 A2 B2
    subst hj2
    have p2 := p1.keeps k2
    refine Gx.Wp.bnd rfl ?_
    have q1 : ldA 3 (⟨pb, 0 + 2, none⟩ : Addr) h2 = some (mcell ((k + m : Nat) : Int) (k : Int) (whole B ((k + m) * k) (some 0))) := by
     simp only [ldA, AHeap.rdL, p2.blk]; rfl
    refine Gx.Wp.bnd q1 (Gx.Wp.bnd rfl ?_)
    obtain ⟨full, hE, hok, _⟩ := g.full hk hR
    have hil : (idxs qs).length = k := by simp [idxs, g.len]
    have hN : (k + m) * k ≤ 65025 := Nat.le_trans (Nat.mul_le_mul hR (show k ≤ 255 by omega)) (by decide)
    have hkk : k * k ≤ 65025 := Nat.le_trans (Nat.mul_le_mul (show k ≤ 255 by omega) (show k ≤ 255 by omega)) (by decide)
    have M1 : Mx h2 B ((k + m) * k) (cauN k) := ⟨by rw [← mat_cauN]; exact p2.mat, p2.lb, cauN_El hk⟩
    obtain ⟨h3, X, r3, O3, k3⟩ := rpick_spec hk0 D (r := ((k + m : Nat) : Int)) (c := (k : Int)) (M1.row (sp := some 0)) (by rw [show (matN ((k + m) * k) (cauN k)).length = (k + m) * k from mat_length _ _]; omega) A2.row
    refine Gx.Wp.bnd r3 ?_
    rw [pickP_ok (R := k + m) (C := k) (by omega) hR (by omega) (by omega) (cauN_El hk) (by omega) (by omega) hok, hil] at O3
    obtain ⟨⟨xr, xc, xs⟩, xcode⟩ := X
    have o1 : xr = (k : Int) := O3.r
    have o2 : xc = (k : Int) := O3.c
    have oI : InM h3 xs (matN (k * k) (pickF k (cauN k) (natOf (idxs qs)))) := O3.inm
    subst o1 o2
    let h4 := h3.new (.cells [.int .i64 0, .int .i64 0, .slice none 0 0] 57 true 0)
    let h5 := h4.set h3.next (.cells (mcell (k : Int) (k : Int) xs) 57 true 0)
    have k4 : Keeps h3 h4 := Keeps.new _ _
    have k5 : Keeps h3 h5 := Keeps.set k4 (Nat.le_refl _)
    have b5 : h5.get h3.next = some (.cells (mcell (k : Int) (k : Int) xs) 57 true 0) := sset_get _ _ _
    have st5 : stL 3 (⟨h3.next, 0, none⟩ : Addr) (mcell (k : Int) (k : Int) xs) h4 = some h5 := sstL_at (h := h4) (b := h3.next) (c := [.int .i64 0, .int .i64 0, .slice none 0 0]) (e := 57) (by simp [h4]) rfl rfl rfl (by decide)
    refine Gx.Wp.bnd st5 (Gx.Wp.bnd (sldA_at b5 rfl) (Gx.Wp.bnd rfl ?_))
    obtain ⟨h6, Y, r6, O6, k6⟩ := rinverse_spec hk0 D (h := h5) (r := (k : Int)) (c := (k : Int)) (oI.row.keeps k5) (by rw [show (matN (k * k) (pickF k (cauN k) (natOf (idxs qs)))).length = k * k from mat_length _ _]; omega)
    refine Gx.Wp.bnd r6 ?_
    rw [invP_ok (by omega) (by omega) hE, if_pos full] at O6
    obtain ⟨⟨yr, yc, ys⟩, ycode⟩ := Y
    have u1 : yr = (k : Int) := O6.r
    have u2 : yc = (k : Int) := O6.c
    have uI : InM h6 ys (matN (k * k) (invR k qs)) := O6.inm
    have uoff : ∀ a, ys.a = some a → h5.next ≤ a.block := O6.off
    subst u1 u2
    have hEI : El (k * k) (invR k qs) := invU_El hk hE
    obtain ⟨B6, sp, hys, hsp, M6⟩ := uI.mx (by have := Nat.mul_pos hk hk; omega) hEI
    have uB6 : h5.next ≤ B6 := uoff ⟨B6, 0, sp⟩ (by rw [hys]; rfl)
    subst hys
    have n5 : h5.next = h3.next + 1 := rfl
    have b6 : h6.get h3.next = some (.cells (mcell (k : Int) (k : Int) xs) 57 true 0) := (k6.oth _ (by omega) fun f => f).trans b5
    let h7 := h6.set h3.next (.cells (mcell (k : Int) (k : Int) (whole B6 (k * k) sp)) 57 true 0)
    have st7 : stL 3 (⟨h3.next, 0, none⟩ : Addr) (mcell (k : Int) (k : Int) (whole B6 (k * k) sp)) h6 = some h7 := sstL_at b6 rfl rfl rfl (by decide)
    refine Gx.Wp.bnd st7 ?_
    have b7 : h7.get h3.next = some (.cells (mcell (k : Int) (k : Int) (whole B6 (k * k) sp)) 57 true 0) := sset_get _ _ _
    have c7 : Chg (· = h3.next) h6 h7 := Chg.set (.inr rfl)
    have K3 : Keeps h h3 := k1.trans (k2.trans k3)
    have K7 : Keeps h3 h7 := Chg.beh (k5.trans k6) c7 fun x hx e => by have e : x = h3.next := e; omega
    have p7 : PR h7 pb B k m := (p2.keeps k3).keeps K7
    have d7 : h7.get B6 = some (outB encI 3 (matN (k * k) (invR k qs))) := (c7.oth _ M6.lt fun e => by have e : B6 = h3.next := e; omega).trans M6.blk
    have m6 := k6.nx
    refine Gx.Wp.jn fun j3 hj3 => ?_
    unfold ref05_Plan_Join_l0
    obtain ⟨bot0, e0⟩ := iterK_of (fun _ _ _ _ _ _ _ => none) (ref05_Plan_Join_l0b k0 D j3) (show k + 1 ≤ k0 by omega)
    rw [e0]
    refine rjn_l0 (by omega) D j3 bot0 p7 hk (by omega) hsp g.len g.sz (by omega) (fun i hi => pieceA_size hk hR g hi) b7 (by show h3.next < h6.next; omega) d7 M6.lt ((B2.row.keeps k3).keeps K7) long ?_ k 0 h7 _ (by omega) (Chg.refl _ _) rfl
    intro h8 k8
    subst hj3
    exact Gx.Wp.bnd (cut_sub hk hR hl g) (Gx.Wp.of ⟨rfl, K3.trans (K7.trans k8)⟩)
 ·refine Gx.Wp.ifp (by simpa using ce) (Gx.Wp.of ⟨?_, Chg.refl _ _⟩)
  have eU : unlA k m ps long = ([], (eachA k long).2) := by unfold unlA; rw [if_pos (by simpa using ce)]
  unfold joinP
  rw [eU, if_pos (by simpa using ce)]
end Gq
namespace Gq
open Go Gx Go.Proofs
theorem chk_not50 (k m : Nat) (n : Int) : ∀ ps : List Prt, chkP k m n ps ≠ 50
 | [] => by simp [chkP]
 | x :: l => by
  have e : chkP k m n (x :: l) = if goodP k m n x ≠ 0 then goodP k m n x else chkP k m n l := rfl
  rw [e]
  by_cases h : goodP k m n x ≠ 0
  ·rw [if_pos h]
   unfold goodP
   split
   ·decide
   ·split <;> decide
  ·rw [if_neg h]; exact chk_not50 k m n l
theorem each_not50 (k : Nat) (long : Int) : (eachA k long).2 ≠ 50 := by
 unfold eachA
 split <;> simp
theorem unlA_not50 (k m : Nat) (ps : List Prt) (long : Int) : (unlA k m ps long).2 ≠ 50 := by
 unfold unlA
 split
 ·exact each_not50 k long
 ·rw [unl_chk]
  split
  ·exact chk_not50 k m _ ps
  ·simp
theorem rshards_spec {k0 : Nat} (hk0 : 70000 ≤ k0) (D : CallF) {h : AHeap} {pb B k m : Nat} (p : PR h pb B k m) (hk : 0 < k) (hR : k + m ≤ 255) (s : ByteArray) (hs : s.size ≤ 65536) :
  ∃ h' o, ref05_Plan_Shards k0 D (some ⟨pb, 0, none⟩) s h = some (o, h') ∧ Keeps h h' ∧ Acc encS 9 h.next h' o (shardsL k m s) := by
 obtain ⟨h1, o1, r1, k1, A1⟩ := rpieces_spec hk0 D p hk (by omega) s hs
 let h2 := h1.new (.cells [] 9 true 0)
 have k2 : Keeps h1 h2 := Keeps.new _ _
 have R2 : Row encS h2 o1 (piecesL k s) := A1.row.keeps k2
 have hne : piecesL k s ≠ [] := by
  intro e
  have := congrArg List.length e
  rw [piecesL_length] at this
  simp at this
  omega
 let h3 := h2.new (outB encS 9 (piecesL k s))
 have k3 : Keeps h2 h3 := Keeps.new _ _
 have G := Grown.of (enc := encS) (e := 9) (h := h2) hne
 have p3 := p.keeps (k1.trans (k2.trans k3))
 have hol : o1.len = k := by rw [R2.1, piecesL_length]
 have rap : appendA 1 16 9 h2 (⟨some ⟨h1.next, 0, some 0⟩, 0, 0⟩ : Slc) ((piecesL k s).map encS) o1.len = some (⟨some ⟨h2.next, 0, some 2⟩, k, k⟩, h3) := by
  rw [hol]
  unfold appendA
  rw [if_neg (by show ¬ 0 + k ≤ 0; omega), if_pos (by show 2 * (0 + k) * 16 ≤ _ ∧ _; omega)]
  simp only [Nat.zero_mul, AHeap.rdL, Option.bind_some, List.nil_append, Nat.zero_add]
  rfl
 have hl3 : ∀ a, o1.a = some a → a.block < h2.next := fun a ha => Nat.lt_of_lt_of_le (A1.lt a ha).1 k2.nx
 have Gk : Grown encS 9 h3 h2.next ⟨some ⟨h2.next, 0, some 2⟩, k, k⟩ (piecesL k s) := by
  have e : (piecesL k s).length = k := piecesL_length k s
  rw [e] at G; exact G
 have Ak : Acc encS 9 h2.next h3 ⟨some ⟨h2.next, 0, some 2⟩, k, k⟩ ((List.range (k + 0)).map (shardB k s)) := by
  rw [Nat.add_zero, pieces_range]
  exact ⟨.inr ⟨h2.next, Gk⟩, fun a ha => by cases ha; exact ⟨by show h2.next < h2.next + 1; omega, Nat.le_refl _⟩⟩
 obtain ⟨bot1, e1⟩ := iterK_of (α := rs0T) (fun _ _ _ _ _ => none) (ref05_Plan_Shards_l0b k0 D fun (out5 : Slc) (h6 : AHeap) => some (out5, h6)) (show m + 1 ≤ k0 by omega)
 obtain ⟨h', o', r, k', A'⟩ := rshards_l0 hk0 D (fun (out5 : Slc) (h6 : AHeap) => some (out5, h6)) bot1 hk hR s hs o1 hl3 R2 m 0 h3 ⟨some ⟨h2.next, 0, some 2⟩, k, k⟩ (by omega) (p.keeps (k1.trans k2)) k3 Ak
 refine ⟨h', o', ?_, k1.trans (k2.trans k'), ⟨A'.st, fun a ha => ⟨(A'.lt a ha).1, Nat.le_trans (k1.trans k2).nx (A'.lt a ha).2⟩⟩⟩
 simp only [ref05_Plan_Shards]
 refine bnd r1 (bnd R2.rdS (bnd rap ?_))
 refine jn ?_
 refine bnd rfl (bnd (ldI_at p3.blk rfl) ?_)
 unfold ref05_Plan_Shards_l0
 rw [e1]
 exact r
theorem cut_size {k : Nat} {ps : List Prt} {long : Int} (hl : 0 ≤ long ∧ long ≤ 65536) : (cutA k ps long).size ≤ 65536 := by
 unfold cutA
 rw [size_mk, List.length_take]
 omega
theorem rshard_spec {k0 : Nat} (hk0 : 200000 ≤ k0) (D : CallF) {h : AHeap} {pb B k m : Nat} (p : PR h pb B k m) (hk : 0 < k) (hR : k + m ≤ 255) {l : Slc} {ps : List Prt} (R : RowW 2 enc2 h l ps) (hps : ps.length ≤ 100000) (long i : Int) :
  Gx.Wp (ref05_Plan_Shard k0 D (some ⟨pb, 0, none⟩) l long i h) fun q => q.1 = shardP k m ps long i ∧ Keeps h q.2 := by
 simp only [ref05_Plan_Shard]
 refine Gx.Wp.call (rjoin_spec hk0 D p hk hR R hps long) fun q ⟨z1, k1⟩ => ?_
 obtain ⟨jv, h1⟩ := q
 simp only at z1 k1 ⊢
 subst z1
 have p1 := p.keeps k1
 refine Gx.Wp.jn fun j hj => ?_
 have n50 := unlA_not50 k m ps long
 have good : (unlA k m ps long).2 = 0 → ∀ y : Bool, y = false → Gx.Wp (j (some ⟨pb, 0, none⟩) i (joinP k m ps long).1 (joinP k m ps long).2 y h1) fun q => q.1 = shardP k m ps long i ∧ Keeps h q.2 := by
  intro hc y hy
  subst hj hy
  refine Gx.Wp.ifn (by decide) ?_
  refine Gx.Wp.jn fun j2 hj2 => ?_
  have key : ∀ y : Bool, (y = true ↔ ¬ (0 ≤ i ∧ i < ((k + m : Nat) : Int))) → Gx.Wp (j2 (some ⟨pb, 0, none⟩) i (joinP k m ps long).1 (joinP k m ps long).2 y h1) fun q => q.1 = shardP k m ps long i ∧ Keeps h q.2 := by
   intro y hy
   subst hj2
   by_cases ci : 0 ≤ i ∧ i < ((k + m : Nat) : Int)
   ·have hy0 : y = false := by
     cases y with
     | true => exact absurd ci (hy.1 rfl)
     | false => rfl
    subst hy0
    refine Gx.Wp.ifn (by decide) ?_
    by_cases c2 : (unlA k m ps long).1.length < k
    ·have ej : joinP k m ps long = (⟨#[]⟩, 50) := by unfold joinP; rw [if_neg (by simpa using hc), if_pos c2]
     rw [ej]
     refine Gx.Wp.ifp (by decide) (Gx.Wp.of ⟨?_, k1⟩)
     unfold shardP
     rw [if_neg (by simpa using hc), if_neg (by simpa using ci), if_pos c2]
    ·have ej : joinP k m ps long = (cutA k (unlA k m ps long).1 long, 0) := by unfold joinP; rw [if_neg (by simpa using hc), if_neg c2]
     rw [ej]
     refine Gx.Wp.ifn (by simp) ?_
     obtain ⟨hl, _⟩ := unlA_good hk hc c2
     obtain ⟨h2, o, r2, k2, A2⟩ := rshards_spec (k0 := k0) (by omega) D p1 hk hR (cutA k (unlA k m ps long).1 long) (cut_size hl)
     refine Gx.Wp.bnd r2 ?_
     obtain ⟨t, ht⟩ : ∃ t : Nat, i = t := ⟨i.toNat, by omega⟩
     subst ht
     obtain ⟨q, i1, i2⟩ := A2.row.ldS (shards_get (i := t) _ (by omega))
     refine Gx.Wp.bnd i1 (Gx.Wp.bnd i2 (Gx.Wp.of ⟨?_, k1.trans k2⟩))
     unfold shardP
     rw [if_neg (by simpa using hc), if_neg (by simpa using ci), if_neg c2, Int.toNat_natCast]
   ·have hy0 : y = true := hy.2 ci
    subst hy0
    refine Gx.Wp.ifp rfl (Gx.Wp.of ⟨?_, k1⟩)
    unfold shardP
    rw [if_neg (by simpa using hc), if_pos ci]
  by_cases c : i < 0
  ·exact Gx.Wp.ifp (by simpa using c) (key true ⟨fun _ q => by omega, fun _ => rfl⟩)
  ·refine Gx.Wp.ifn (by simpa using c) ?_
   refine Gx.Wp.bnd rfl (Gx.Wp.bnd (ldI_at p1.blk rfl) (Gx.Wp.bnd rfl (Gx.Wp.bnd (ldI_at p1.blk rfl) ?_)))
   rw [w64 ((k : Int) + (m : Int)) (by omega)]
   refine key _ ?_
   rw [decide_eq_true_eq]
   omega
 by_cases hc : (unlA k m ps long).2 = 0
 ·by_cases c2 : (unlA k m ps long).1.length < k
  ·have ej : (joinP k m ps long).2 = 50 := by unfold joinP; rw [if_neg (by simpa using hc), if_pos c2]
   refine Gx.Wp.ifp (by simp [ej]) ?_
   exact good hc _ (by simp [ej])
  ·have ej : (joinP k m ps long).2 = 0 := by unfold joinP; rw [if_neg (by simpa using hc), if_neg c2]
   exact Gx.Wp.ifn (by simp [ej]) (good hc false rfl)
 ·have ej : joinP k m ps long = (⟨#[]⟩, (unlA k m ps long).2) := by unfold joinP; rw [if_pos (by simpa using hc)]
  rw [ej]
  refine Gx.Wp.ifp (by simpa using hc) ?_
  have e5 : ((unlA k m ps long).2 != 50) = true := by simpa using n50
  simp only [e5]
  subst hj
  refine Gx.Wp.ifp rfl (Gx.Wp.of ⟨?_, k1⟩)
  unfold shardP
  rw [if_pos (by simpa using hc)]
theorem few_l0 {k0 : Nat} (D : CallF) (j : AHeap → Option (Bool × AHeap)) (bot) {h : AHeap} {l : Slc} {ps : List Prt} (R : RowW 2 enc2 h l ps) (hps : ps.length ≤ 1000) (hj : j h = some (true, h)) :
  ∀ (d i : Nat), i + d = ps.length → ∃ b, iterK bot (d + 1) (law05_few_l0b k0 D j) l (i : Int) h = some (b, h)
 | 0, i, hi => by
  obtain rfl : i = ps.length := by omega
  refine ⟨true, ?_⟩
  rw [iterK_s]; simp only [law05_few_l0b]
  exact ifn (by rw [R.len]; simp) hj
 | d + 1, i, hi => by
  obtain ⟨x, hx⟩ := isome (l := ps) (i := i) (by omega)
  obtain ⟨q, q1, _, _, q3⟩ := R.ld enc2_len (by decide) hx
  obtain ⟨b, e⟩ := few_l0 D j bot R hps hj d (i + 1) (by omega)
  by_cases c : x.2.size > 300
  ·refine ⟨false, ?_⟩
   rw [iterK_s]; simp only [law05_few_l0b]
   exact ifp (by rw [R.len]; simp; omega) (bnd q1 (bnd (q3 1 x.2 rfl) (ifp (by simp; omega) rfl)))
  ·refine ⟨b, ?_⟩
   rw [iterK_s]; simp only [law05_few_l0b]
   refine ifp (by rw [R.len]; simp; omega) (bnd q1 (bnd (q3 1 x.2 rfl) (ifn (by simp; omega) ?_)))
   rw [w1 (by omega)]
   exact e
theorem few_spec {k0 : Nat} (hk0 : 1000 ≤ k0) (D : CallF) {h : AHeap} {l : Slc} {ps : List Prt} (R : RowW 2 enc2 h l ps) : ∃ b, law05_few k0 D l h = some (b, h) ∧ (b = true → ps.length ≤ 20) := by
 simp only [law05_few]
 by_cases c : ps.length > 20
 ·exact ⟨false, ifp (by rw [R.len]; simp; omega) rfl, fun e => by cases e⟩
 ·obtain ⟨bot, eb⟩ := iterK_of (fun _ _ _ => none) (law05_few_l0b k0 D fun h1 => some (true, h1)) (show ps.length + 1 ≤ k0 by omega)
  obtain ⟨b, e⟩ := few_l0 (k0 := k0) D (fun h1 => some (true, h1)) bot R (by omega) rfl ps.length 0 (by omega)
  refine ⟨b, ifn (by rw [R.len]; simp; omega) (jn ?_), fun _ => by omega⟩
  unfold law05_few_l0
  rw [eb]
  exact e
theorem jo_l0 {k0 : Nat} (D : CallF) (j) (bot) {h : AHeap} {l own : Slc} {ps : List Prt} (R : RowW 2 enc2 h l ps) (Ro : RowW 2 enc2 h own ps) (hps : ps.length ≤ 1000) (hj : Tru (j h) true) :
  ∀ (d i : Nat), i + d = ps.length → Tru (iterK bot (d + 1) (law05_StripeJoins_l0b k0 D j) l own (i : Int) h) true
 | 0, i, hi => by
  obtain rfl : i = ps.length := by omega
  rw [iterK_s]; simp only [law05_StripeJoins_l0b]
  exact Tru.ifn (by rw [R.len]; simp) hj
 | d + 1, i, hi => by
  obtain ⟨x, hx⟩ := isome (l := ps) (i := i) (by omega)
  obtain ⟨q, q1, q2, _, _⟩ := R.ld enc2_len (by decide) hx
  obtain ⟨r, r1, r2, _, _⟩ := Ro.ld enc2_len (by decide) hx
  rw [iterK_s]; simp only [law05_StripeJoins_l0b]
  refine Tru.ifp (by rw [R.len]; simp; omega) (Tru.bnd r1 (Tru.bnd r2 (Tru.bnd (dec2 x) (Tru.bnd q1 (Tru.bnd q2 (Tru.bnd (dec2 x) (Tru.ifn (by simp [ba_beq]) ?_)))))))
  rw [w1 (by omega)]
  exact jo_l0 D j bot R Ro hps hj d (i + 1) (by omega)
theorem jo_l1 {k0 : Nat} (D : CallF) (j) (bot) {h0 : AHeap} {l : Slc} {ps : List Prt} (R : RowW 2 enc2 h0 l ps) (hps : ps.length ≤ 1000) (a p r : Option Addr)
  (hj : ∀ own kv h, Keeps h0 h → AccW 2 enc2 35 h0.next h own ps → AccW 2 enc2 36 h0.next h kv ps → Tru (j l a p r own kv h) true) :
  ∀ (d i : Nat) (own kv : Slc) (h : AHeap), i + d = ps.length → Keeps h0 h → AccW 2 enc2 35 h0.next h own (ps.take i) → AccW 2 enc2 36 h0.next h kv (ps.take i) → (∀ a b, own.a = some a → kv.a = some b → a.block ≠ b.block) →
   Tru (iterK bot (d + 1) (law05_StripeJoins_l1b k0 D j) l a p r own kv (i : Int) h) true
 | 0, i, own, kv, h, hi, kp, A, B, ap => by
  obtain rfl : i = ps.length := by omega
  rw [List.take_length] at A B
  rw [iterK_s]; simp only [law05_StripeJoins_l1b]
  exact Tru.ifn (by rw [R.len]; simp) (hj own kv h kp A B)
 | d + 1, i, own, kv, h, hi, kp, A, B, ap => by
  obtain ⟨x, hx⟩ := isome (l := ps) (i := i) (by omega)
  obtain ⟨q, q1, q2, _, _⟩ := (R.keeps kp).ld enc2_len (by decide) hx
  rw [iterK_s]; simp only [law05_StripeJoins_l1b]
  refine Tru.ifp (by rw [R.len]; simp; omega) (Tru.bnd q1 (Tru.bnd q2 (Tru.bnd (dec2 x) (Tru.bnd (rdS_oneW enc2_len x _) ?_))))
  obtain ⟨o2, h1, e1, A1, c1, n1⟩ := A.push enc2_len enc2_one x (bytes := 24) (by decide) (by rw [List.length_take]; omega) kp.nx
  refine Tru.bnd e1 ?_
  have kp1 : Keeps h0 h1 := Chg.beh kp c1 fun y hy ⟨a, ha, e⟩ => by have := (A.lt a ha).2; omega
  have B1 : AccW 2 enc2 36 h0.next h1 kv (ps.take i) := B.chg c1 fun a ha ⟨b, hb, e⟩ => ap b a hb ha e.symm
  obtain ⟨r, r1, _, r3, r4⟩ := (R.keeps kp1).ld enc2_len (by decide) hx
  refine Tru.bnd r1 (Tru.bnd (r3 0 .i64 x.1 rfl) (Tru.bnd r1 (Tru.bnd (r4 1 x.2 rfl) (Tru.bnd (rdS_oneW enc2_len x _) ?_))))
  obtain ⟨v2, h3, e3, B3, c3, n3⟩ := B1.push enc2_len enc2_one x (bytes := 24) (by decide) (by rw [List.length_take]; omega) kp1.nx
  refine Tru.bnd e3 ?_
  have apo : ∀ a b, o2.a = some a → kv.a = some b → a.block ≠ b.block := fun a b ha hb => by
   have := n1 a ha
   have := (B.lt b hb).1
   omega
  have A3 := A1.chg c3 fun a ha ⟨b, hb, e⟩ => apo a b ha hb e
  rw [w1 (by omega)]
  refine jo_l1 D j bot R hps _ _ _ hj d (i + 1) o2 v2 h3 (by omega) (Chg.beh kp1 c3 fun y hy ⟨a, ha, e⟩ => by have := (B1.lt a ha).2; omega) ?_ ?_ fun a b ha hb => ?_
  ·rw [List.take_add_one, hx]; exact A3
  ·rw [List.take_add_one, hx]; exact B3
  ·have := n3 b hb
   have := (A1.lt a ha).1
   omega
theorem joins_true {k0 : Nat} (hk0 : 200000 ≤ k0) (sh : Int × Int) {h : AHeap} {l : Slc} {ps : List Prt} (R : RowW 2 enc2 h l ps) (at' : Int × Int) : Tru (law05_StripeJoins k0 (DD k0) sh l at' h) true := by
 obtain ⟨a, b⟩ := sh
 simp only [law05_StripeJoins]
 obtain ⟨h1, e1⟩ : ∃ h1, h1 = h.new (.cells [.int .i64 a, .int .i64 b] 22 true 0) := ⟨_, rfl⟩
 rw [← e1]
 obtain ⟨h2, e2⟩ : ∃ h2, h2 = h1.new (.cells [.int .i64 at'.1, .int .i64 at'.2] 22 true 0) := ⟨_, rfl⟩
 rw [← e2]
 have k1 : Keeps h h1 := e1 ▸ Keeps.new h _
 have k2 : Keeps h1 h2 := e2 ▸ Keeps.new h1 _
 have n1 : h1.next = h.next + 1 := by rw [e1]; rfl
 have n2 : h2.next = h1.next + 1 := by rw [e2]; rfl
 have g1 : h2.get h.next = some (.cells [.int .i64 a, .int .i64 b] 22 true 0) := by rw [k2.oth _ (by omega) (fun f => f), e1]; simp
 have g2 : h2.get h1.next = some (.cells [.int .i64 at'.1, .int .i64 at'.2] 22 true 0) := by rw [e2]; simp
 have R2 := R.keeps (k1.trans k2)
 have la : ∀ {g : AHeap}, Keeps h2 g → ldI .i64 ⟨h.next, 0, none⟩ g = some a := fun kk => ldI_at ((kk.oth _ (by omega) (fun f => f)).trans g1) rfl
 have lb : ∀ {g : AHeap}, Keeps h2 g → ldI .i64 ⟨h.next, 1, none⟩ g = some b := fun kk => ldI_at ((kk.oth _ (by omega) (fun f => f)).trans g1) rfl
 have lc : ∀ {g : AHeap}, Keeps h2 g → ldI .i64 ⟨h1.next, 0, none⟩ g = some at'.1 := fun kk => ldI_at ((kk.oth _ (by omega) (fun f => f)).trans g2) rfl
 have ld : ∀ {g : AHeap}, Keeps h2 g → ldI .i64 ⟨h1.next, 1, none⟩ g = some at'.2 := fun kk => ldI_at ((kk.oth _ (by omega) (fun f => f)).trans g2) rfl
 refine Tru.jn fun j hj => ?_
 have key : ∀ y : Bool, (y = false → ps.length ≤ 20) → Tru (j l (some ⟨h.next, 0, none⟩) (some ⟨h1.next, 0, none⟩) y h2) true := by
  intro y hy
  subst hj
  cases y with
  | true =>
   obtain ⟨h', r, _⟩ := sworks_spec (k0 := k0) (by omega) h2
   exact Tru.ifp rfl (Tru.bnd r Tru.of)
  | false =>
   have hps := hy rfl
   refine Tru.ifn (by decide) ?_
   refine Tru.bnd rfl (Tru.bnd (la (Chg.refl _ _)) (Tru.bnd rfl (Tru.bnd (lb (Chg.refl _ _)) ?_)))
   by_cases hv : a < 1 ∨ b < 0 ∨ a > 255 ∨ b > 255 - a
   ·obtain ⟨h3, r3, k3⟩ := snew_no (k0 := k0) h2 hv
    obtain ⟨h4, r4, k4⟩ := rsnew_no (k0 := k0) (DD k0) h3 hv
    obtain ⟨h5, r5, k5⟩ := sworks_spec (k0 := k0) (by omega) h4
    refine Tru.bnd r3 (Tru.bnd rfl (Tru.bnd (la k3) (Tru.bnd rfl (Tru.bnd (lb k3) (Tru.bnd r4 ?_)))))
    refine Tru.jn fun j2 hj2 => ?_
    refine Tru.ifn (by simp) (Tru.bnd r5 ?_)
    subst hj2
    exact Tru.ifn (by simp) (Tru.ifp rfl Tru.of)
   ·obtain ⟨k, rfl⟩ : ∃ k : Nat, a = k := ⟨a.toNat, by omega⟩
    obtain ⟨m, rfl⟩ : ∃ m : Nat, b = m := ⟨b.toNat, by omega⟩
    have hk : 0 < k := by omega
    have hR : k + m ≤ 255 := by omega
    obtain ⟨h3, pb, f2, B, sb, fb, r3, p3, k3, a1, a2, a3, a4, a5⟩ := snew_spec (k0 := k0) (by omega) h2 hk hR
    obtain ⟨h4, pr, Br, r4, p4, k4, c1, c2⟩ := rsnew_spec (k0 := k0) (by omega) (DD k0) h3 hk hR
    obtain ⟨h5, r5, k5⟩ := sworks_spec (k0 := k0) (by omega) h4
    refine Tru.bnd r3 (Tru.bnd rfl (Tru.bnd (la k3) (Tru.bnd rfl (Tru.bnd (lb k3) (Tru.bnd r4 ?_)))))
    refine Tru.jn fun j2 hj2 => ?_
    refine Tru.ifn (by simp) (Tru.bnd r5 ?_)
    subst hj2
    refine Tru.ifn (by simp) (Tru.ifn (by simp) ?_)
    refine Tru.jn fun j3 hj3 => ?_
    unfold law05_StripeJoins_l1
    obtain ⟨bot1, eb1⟩ := iterK_of (fun _ _ _ _ _ _ _ _ => none) (law05_StripeJoins_l1b k0 (DD k0) j3) (show ps.length + 1 ≤ k0 by omega)
    rw [eb1]
    have k35 := k4.trans k5
    have K5 := k3.trans k35
    have p5 := p3.keeps k35
    have q5 := p4.keeps k5
    have l1 := p5.lp; have l2 := p5.lf; have l3 := p5.lb; have l4 := p5.spc.ls; have l5 := p5.spc.lf
    refine jo_l1 (DD k0) j3 bot1 (R2.keeps K5) (by omega) _ _ _ ?_ ps.length 0 _ _ h5 (by omega) (Chg.refl _ _) (AccW.nil _ _ _ _ _) (AccW.nil _ _ _ _ _) (fun a b ha _ => by cases ha)
    intro own kv h6 k6 A B6
    subst hj3
    have K6 := K5.trans k6
    have lo : ∀ a, own.a = some a → h5.next ≤ a.block := fun a ha => (A.lt a ha).2
    have lk : ∀ a, kv.a = some a → h5.next ≤ a.block := fun a ha => (B6.lt a ha).2
    have Ro : Row2 h6 own ps := ⟨(A.row enc2_len).len, fun i x hx => by
     obtain ⟨a, c, e, r, fz, z1, z2, z3, z4⟩ := (A.row enc2_len).at' i x hx
     exact ⟨a, c, e, r, fz, z1, z2, z3, z4 0 _ rfl, z4 1 _ rfl⟩⟩
    obtain ⟨h7, r7, p7, c7⟩ := sjoin_spec hk0 (p5.keeps k6) hk hR Ro (by omega) at'.1
    have cw7 : ∀ {x : Nat}, x < h2.next → ¬ (x = f2 ∨ x = fb) := fun hx e => by rcases e with e | e <;> omega
    have K7 : Keeps h2 h7 := Chg.beh K6 c7 fun x hx e => cw7 hx e
    have q6 := q5.keeps k6
    have nf : ∀ {x : Nat}, h3.next ≤ x → ¬ (x = f2 ∨ x = fb) := fun hx e => by
     have u1 := p3.lf; have u2 := p3.spc.lf
     rcases e with e | e <;> omega
    have q7 := q6.chg c7 (nf c1) (nf c2)
    have ho5 : h3.next ≤ h5.next := k35.nx
    have B7 := B6.chg c7 fun a ha => nf (Nat.le_trans ho5 (lk a ha))
    obtain ⟨⟨jv, h8⟩, r8, z8, k8⟩ := rjoin_spec hk0 (DD k0) q7 hk hR (B7.row enc2_len) (by omega) at'.1
    simp only at z8 k8
    subst z8
    have p8 := p7.keeps k8
    have Ro8 : Row2 h8 own ps := (Ro.chg c7 fun a ha => nf (Nat.le_trans ho5 (lo a ha))).keeps k8
    obtain ⟨h9, r9, p9, c9⟩ := sshard_spec hk0 p8 hk hR Ro8 (by omega) at'.1 at'.2
    have K8 := K7.trans k8
    have K9 : Keeps h2 h9 := Chg.beh K8 c9 fun x hx e => cw7 hx e
    have q9 := (q7.keeps k8).chg c9 (nf c1) (nf c2)
    have B9 := (B7.keeps k8).chg c9 fun a ha => nf (Nat.le_trans ho5 (lk a ha))
    have A9 := (((A.chg c7 fun a ha => nf (Nat.le_trans ho5 (lo a ha))).keeps k8).chg c9 fun a ha => nf (Nat.le_trans ho5 (lo a ha)))
    obtain ⟨⟨sv, h10⟩, r10, z10, k10⟩ := rshard_spec hk0 (DD k0) q9 hk hR (B9.row enc2_len) (by omega) at'.1 at'.2
    simp only at z10 k10
    subst z10
    refine Tru.bnd rfl (Tru.bnd (lc K6) (Tru.bnd r7 (Tru.bnd rfl (Tru.bnd (lc K7) (Tru.bnd r8 ?_)))))
    refine Tru.bnd rfl (Tru.bnd (lc K8) (Tru.bnd rfl (Tru.bnd (ld K8) (Tru.bnd r9 ?_))))
    refine Tru.bnd rfl (Tru.bnd (lc K9) (Tru.bnd rfl (Tru.bnd (ld K9) (Tru.bnd r10 ?_))))
    refine Tru.jn fun j4 hj4 => ?_
    refine Tru.ifn (by simp [ba_beq]) (Tru.ifn (by simp) (Tru.ifn (by simp [ba_beq]) ?_))
    subst hj4
    refine Tru.ifn (by simp) ?_
    refine Tru.jn fun j5 hj5 => ?_
    unfold law05_StripeJoins_l0
    obtain ⟨bot0, eb0⟩ := iterK_of (fun _ _ _ _ => none) (law05_StripeJoins_l0b k0 (DD k0) j5) (show ps.length + 1 ≤ k0 by omega)
    rw [eb0]
    refine jo_l0 (DD k0) j5 bot0 (R2.keeps (K9.trans k10)) ((A9.keeps k10).row enc2_len) (by omega) ?_ ps.length 0 (by omega)
    subst hj5
    exact Tru.of
 obtain ⟨fb, fe, ff⟩ := few_spec (k0 := k0) (by omega) (DD k0) R2
 have fin : Tru ((law05_few k0 (DD k0) l h2).bind fun r => j l (some ⟨h.next, 0, none⟩) (some ⟨h1.next, 0, none⟩) (!r.1) r.2) true := Tru.bnd fe (key _ fun e => ff (by simpa using e))
 have mid : Tru ((ldI .i64 (⟨h.next, 1, none⟩ : Addr) h2).bind fun x107 => (if (decide (x107 > 8)) = true then ((ldI .i64 (⟨h.next, 1, none⟩ : Addr) h2).bind fun x109 => (if (decide (x109 ≤ 255)) = true then j l (some ⟨h.next, 0, none⟩) (some ⟨h1.next, 0, none⟩) true h2 else ((law05_few k0 (DD k0) l h2).bind fun r110 => j l (some ⟨h.next, 0, none⟩) (some ⟨h1.next, 0, none⟩) (!r110.1) r110.2))) else ((law05_few k0 (DD k0) l h2).bind fun r111 => j l (some ⟨h.next, 0, none⟩) (some ⟨h1.next, 0, none⟩) (!r111.1) r111.2))) true := by
  refine Tru.bnd (lb (Chg.refl _ _)) ?_
  by_cases c3 : b > 8
  ·refine Tru.ifp (by simpa using c3) (Tru.bnd (lb (Chg.refl _ _)) ?_)
   by_cases c4 : b ≤ 255
   ·exact Tru.ifp (by simpa using c4) (key true fun e => by cases e)
   ·exact Tru.ifn (by simpa using c4) fin
  ·exact Tru.ifn (by simpa using c3) fin
 refine Tru.bnd (la (Chg.refl _ _)) ?_
 by_cases c1 : a > 12
 ·refine Tru.ifp (by simpa using c1) (Tru.bnd (la (Chg.refl _ _)) ?_)
  by_cases c2 : a ≤ 255
  ·exact Tru.ifp (by simpa using c2) (key true fun e => by cases e)
  ·exact Tru.ifn (by simpa using c2) mid
 ·exact Tru.ifn (by simpa using c1) mid
def prT : DT := .pair (.int .i64) (.pair .str .unit)
def prF (x : prT.V) : Prt := (x.1, x.2.1)
theorem prT_cells {h : AHeap} (x : prT.V) (cs : List Value) (r : Rep h prT x cs) : cs = enc2 (prF x) := by
 obtain ⟨_, _, rfl, rfl, _, _, rfl, rfl, rfl⟩ := r
 rfl
theorem joins_rep {k0 : Nat} (hk0 : 200000 ≤ k0) (sh : Int × Int) {h : AHeap} {l : Slc} {xs : List prT.V} (R : Rep h (.list prT) xs [.slice l.a l.len l.cap]) (at' : Int × Int) : Tru (law05_StripeJoins k0 (DD k0) sh l at' h) true :=
 joins_true hk0 sh (R.rowW (f := prF) (enc := enc2) prT_cells) at'
end Gq
