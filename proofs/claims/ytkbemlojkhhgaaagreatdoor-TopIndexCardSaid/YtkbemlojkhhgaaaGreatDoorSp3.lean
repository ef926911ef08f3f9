import Derived.LaidMore
import Derived.MakeChecks
import Derived.Test.YtkbemlojkhhgaaaGreatDoorSp2
namespace Gg
open Go Gx
theorem Chg.kill1 {S : Nat → Prop} {h : AHeap} {b : Nat} (hb : S b) : Chg S h (h.kill b) := ⟨Nat.le_refl _, fun x _ hs => by
 rw [AHeap.get_kill, if_neg (by intro e; subst e; exact hs hb)]⟩
theorem zyr_ {h : AHeap} {b : Nat} {t : ByteArray} {e : TypeId} {r : Bool} {fz : Nat} (g : h.get b = some (.cells [.string t] e r fz)) : ldS ⟨b, 0, none⟩ h = some t := by
 simp [ldS, AHeap.rd1, g, decS]
structure CI (h0 H : AHeap) (lb ob sb xb : Nat) (vals : List (Nat × Value)) (o : Slc) (rest : ByteArray) (cs : List ByteArray) : Prop where
 kp : zc_ h0 H
 gl : H.get lb = some (.loop .ready none vals zU_)
 go : H.get ob = some (.cells [.slice o.a o.len o.cap] 23 true 0)
 gs : H.get sb = some (.cells [.string rest] 9 true 0)
 gx : H.get xb = some (.cells [.int .i64 5, .int .i64 3, .int .i64 50] 27 true 0)
 A : Acc encS 9 (lb + 1) H o cs
 l1 : h0.next ≤ ob
 l2 : ob < xb
 l3 : xb < sb
 l4 : sb < lb
 l5 : lb < H.next
noncomputable def zMq_ (ob : Nat) : Nat → HdF := fun b14 _ as16 h17 K18 =>
 appA [(20, .s)] as16 (fun (y19 : ByteArray) (h20 : AHeap) =>
 rfB b14 h20 fun h21 =>
 (ldL (⟨ob, 0, none⟩ : Addr) h21).bind fun x22 =>
 newK h21 ((.cells [.string y19] 9 true 0)) fun h23 =>
 (rdS 1 (⟨(some ⟨h21.next, 0, some 0⟩), 1, 1⟩ : Slc) h23).bind fun n25 =>
 (zl_ 1 16 9 h23 x22 n25 1).bind fun r24 =>
 (st1 (⟨ob, 0, none⟩ : Addr) (.slice r24.1.a r24.1.len r24.1.cap) r24.2).bind fun h26 =>
 rfE b14 none h26 K18) h17
theorem zPA_ {ob b : Nat} {R : Type} {y : ByteArray} {h : AHeap} {κ : Value → AHeap → Option R} : zMq_ ob b R [.string y] h κ = rfB b h fun h21 =>
 (ldL (⟨ob, 0, none⟩ : Addr) h21).bind fun x22 =>
 newK h21 ((.cells [.string y] 9 true 0)) fun h23 =>
 (rdS 1 (⟨(some ⟨h21.next, 0, some 0⟩), 1, 1⟩ : Slc) h23).bind fun n25 =>
 (zl_ 1 16 9 h23 x22 n25 1).bind fun r24 =>
 (st1 (⟨ob, 0, none⟩ : Addr) (.slice r24.1.a r24.1.len r24.1.cap) r24.2).bind fun h26 =>
 rfE b none h26 κ := rfl
section
variable {k : Nat} {h0 H : AHeap} {lb ob sb xb : Nat} {vals : List (Nat × Value)} {o : Slc} {rest : ByteArray} {cs : List ByteArray}
theorem zzB_ {R : Type} {Q : R → Prop} (I : CI h0 H lb ob sb xb vals o rest cs) (hc : cs.length ≤ 100000) (y : ByteArray) {κ : Value → AHeap → Option R} (J : ∀ o' H', CI h0 H' lb ob sb xb vals o' rest (cs ++ [y]) → Gx.Wp (κ (.bool true) H') Q) :
  Gx.Wp (zMq_ ob lb R [.string y] H κ) Q := by
 have := I.l1; have := I.l2; have := I.l3; have := I.l4; have := I.l5
 rw [zPA_, zBD_ I.gl]
 obtain ⟨H1, e1⟩ : ∃ H1, H1 = H.set lb (.loop .busy none vals zU_) := ⟨_, rfl⟩
 rw [← e1]
 have c1 : Chg (· = lb) H H1 := by rw [e1]; exact Chg.set (.inr rfl)
 have n1 : H1.next = H.next := by rw [e1]; rfl
 have gl1 : H1.get lb = some (.loop .busy none vals zU_) := by rw [e1]; simp
 have A1 : Acc encS 9 (lb + 1) H1 o cs := I.A.chg c1 fun a ha e => by have := (I.A.lt a ha).2; omega
 have go1 := c1.got (by omega) (by omega) I.go
 refine .bnd (zB_ (o := 0) go1 rfl) (Wp.newE fun H2 e2 k2 n2 g2 => ?_)
 obtain ⟨o', H3, r3, a3, A3, c3, d3⟩ := A1.pushK (fun _ => rfl) y e2 (bytes := 16) (by omega) (by decide) (by omega)
 have no : ∀ z, z ≤ lb → ¬ ofS o z := fun z hz ⟨a, ha, e⟩ => by have := (I.A.lt a ha).2; omega
 have n3 := c3.nx
 refine .bnd r3 (.bnd a3 (Wp.st (c3.got (by omega) (no _ (by omega)) go1) (by simp) rfl fun H4 c4 n4 g4 => ?_))
 have n4 : H4.next = H3.next := n4
 have c4 : Chg (· = ob) H3 H4 := c4
 have gl4 := c4.got (x := lb) (by omega) (by omega) (c3.got (by omega) (no _ (Nat.le_refl _)) gl1)
 rw [zCD_ gl4]
 show Gx.Wp (κ (.bool true) (H4.set lb (.loop .ready none vals zU_))) Q
 have c5 : Chg (· = lb) H4 (H4.set lb (.loop .ready none vals zU_)) := Chg.set (.inr rfl)
 have n5 : (H4.set lb (.loop .ready none vals zU_)).next = H4.next := rfl
 refine J o' _ ⟨?_, by simp, c5.got (by omega) (by omega) (by simpa using g4), ?_, ?_, ?_, I.l1, I.l2, I.l3, I.l4, by rw [n5]; omega⟩
 ·have q1 : zc_ h0 H1 := I.kp.keepsS c1 fun z hz => (by have hz : z = lb := hz; omega)
  have q3 : zc_ h0 H3 := q1.keepsS c3 fun z hz => by
   obtain ⟨a, ha, e⟩ := hz
   have := (I.A.lt a ha).2; omega
  have q4 : zc_ h0 H4 := q3.keepsS c4 fun z hz => (by have hz : z = ob := hz; omega)
  exact q4.keepsS c5 fun z hz => (by have hz : z = lb := hz; omega)
 ·exact c5.got (by omega) (by omega) (c4.got (by omega) (by omega) (c3.got (by omega) (no _ (by omega)) (c1.got (by omega) (by omega) I.gs)))
 ·exact c5.got (by omega) (by omega) (c4.got (by omega) (by omega) (c3.got (by omega) (no _ (by omega)) (c1.got (by omega) (by omega) I.gx)))
 ·exact (A3.chg c4 fun a ha e => by have := (A3.lt a ha).2; omega).chg c5 fun a ha e => by have := (A3.lt a ha).2; omega
structure ChP (text : List UInt8) (cs : List ByteArray) : Prop where
 cat : cs.flatMap bl = text
 each : ∀ c ∈ cs, 0 < c.size ∧ c.size ≤ 50
 len : 5 * cs.length ≤ text.length + 4
theorem zOw_ (hk : 60 ≤ k) {C0 : za_} {text : List UInt8} (ht : text.length ≤ 100000) (M : KM h0) (bot) :
  ∀ (d : Nat) (H : AHeap) (o : Slc) (rest : ByteArray) (cs : List ByteArray), rest.size ≤ d → CI h0 H lb ob sb xb vals o rest cs → cs.flatMap bl ++ bl rest = text → (∀ c ∈ cs, 0 < c.size ∧ c.size ≤ 50) → 5 * cs.length ≤ text.length - rest.size + 4 → (0 < rest.size → 5 * cs.length ≤ text.length - rest.size) →
  Gx.Wp (zi_ bot (d + 1) (zfb_ k (yC lb (rfH vals zU_ lb (zMq_ ob lb)) C0)) (.func (.yield lb) #[] #[]) (some ⟨sb, 0, none⟩) (some ⟨xb, 0, none⟩) H) fun z => ∃ o' cs', CI h0 z.2 lb ob sb xb vals o' ⟨#[]⟩ cs' ∧ ChP text cs' := by
 intro d
 induction d with
 | zero =>
  intro H o rest cs hr I hcat heach hlen hlen2
  have hre : bl rest = [] := List.length_eq_zero_iff.1 (by have := zh_ rest; omega)
  have hr0 : rest = ⟨#[]⟩ := by
   have : rest = ⟨⟨bl rest⟩⟩ := rfl
   rw [this, hre]
  subst hr0
  show Gx.Wp (zfb_ k _ (zi_ bot 0 _) _ _ _ H) _
  unfold zfb_
  refine .bnd rfl (.bnd (zyr_ I.gs) (.ifn (by decide) (.of ⟨o, cs, I, ?_, heach, by omega⟩)))
  rw [← hcat, hre, List.append_nil]
 | succ d ih =>
  intro H o rest cs hr I hcat heach hlen hlen2
  show Gx.Wp (zfb_ k _ (zi_ bot (d + 1) _) _ _ _ H) _
  unfold zfb_
  refine .bnd rfl (.bnd (zyr_ I.gs) ?_)
  have br : (bl rest).length = rest.size := zh_ rest
  by_cases hz : rest.size = 0
  ·have hre : bl rest = [] := List.length_eq_zero_iff.1 (by omega)
   have hr0 : rest = ⟨#[]⟩ := by
    have : rest = ⟨⟨bl rest⟩⟩ := rfl
    rw [this, hre]
   subst hr0
   refine .ifn (by decide) (.of ⟨o, cs, I, ?_, heach, by omega⟩)
   rw [← hcat, hre, List.append_nil]
  ·have hne : (!(rest == (⟨#[]⟩ : ByteArray))) = true := by
    rw [zOe_, decide_eq_false (fun e => hz (by rw [e]; rfl))]; rfl
   have hrt : rest.size ≤ text.length := by rw [← hcat, List.length_append, br]; omega
   refine .ifp hne (.bnd rfl (.bnd (zA_ I.gx rfl) (.bnd (a := ((5, 3, 50) : Int × Int × Int)) rfl (.bnd rfl (.bnd (zyr_ I.gs) (.call (zGy_ _ hk (M.keeps I.kp) (by omega)) fun r13 ⟨n, en, n1, n2, n3, kn⟩ => ?_))))))
   have nx := kn.nx
   have := I.l1; have := I.l2; have := I.l3; have := I.l4; have := I.l5
   have I1 : CI h0 r13.2 lb ob sb xb vals o rest cs := ⟨I.kp.trans kn, kn.got (by omega) I.gl, kn.got (by omega) I.go, kn.got (by omega) I.gs, kn.got (by omega) I.gx, I.A.keeps kn, I.l1, I.l2, I.l3, I.l4, by omega⟩
   rw [en]
   refine .bnd rfl (.bnd (zyr_ I1.gs) (.bnd (zFb_ (i := 0) (j := n) rfl rfl (by omega) n2) ?_))
   rw [zgh_, zpC_ (fun e he => by simp at he; subst he; show (93 : Nat) < 18446744073709551616; decide), zED_ I1.gl]
   obtain ⟨c, hc⟩ : ∃ c : ByteArray, c = ⟨⟨((bl rest).take n).drop 0⟩⟩ := ⟨_, rfl⟩
   have bc : bl c = (bl rest).take n := by rw [hc]; show ((bl rest).take n).drop 0 = _; rw [List.drop_zero]
   have cz : c.size = n := by rw [← zh_ c, bc, List.length_take]; omega
   rw [← hc]
   refine zzB_ I1 (by omega) c fun o' H' I' => ?_
   refine .bnd (a := true) rfl (.ifn (by decide) ?_)
   refine .bnd rfl (.bnd (zyr_ I'.gs) (.bnd (zFb_ (i := n) (j := rest.size) rfl rfl n2 (Nat.le_refl _)) (.bnd rfl ?_)))
   refine Wp.st I'.gs (by simp) rfl fun H2 c2 m2 g2 => ?_
   obtain ⟨t, ht2⟩ : ∃ t : ByteArray, t = ⟨⟨((bl rest).take rest.size).drop n⟩⟩ := ⟨_, rfl⟩
   have bt : bl t = (bl rest).drop n := by rw [ht2]; show ((bl rest).take rest.size).drop n = _; rw [List.take_of_length_le (by omega)]
   have tz : t.size = rest.size - n := by rw [← zh_ t, bt, List.length_drop, br]
   rw [← ht2] at g2
   have := I'.l5
   have I2 : CI h0 H2 lb ob sb xb vals o' t (cs ++ [c]) := ⟨I'.kp.keepsS c2 fun z hz => (by have hz : z = sb := hz; omega), c2.got (by omega) (by omega) I'.gl, c2.got (by omega) (by omega) I'.go, by simpa using g2, c2.got (by omega) (by omega) I'.gx,
    I'.A.chg c2 fun a ha e => (by have := (I'.A.lt a ha).2; have e : a.block = sb := e; omega), I.l1, I.l2, I.l3, I.l4, by omega⟩
   refine ih H2 o' t (cs ++ [c]) (by omega) I2 ?_ (fun x hx => ?_) (by rw [List.length_append, tz]; simp; omega) (fun q => by rw [List.length_append, tz]; simp; omega)
   ·rw [List.flatMap_append, List.append_assoc, ← hcat, bt]
    congr 1
    simp only [List.flatMap_cons, List.flatMap_nil, List.append_nil, bc]
    exact List.take_append_drop n (bl rest)
   ·rcases List.mem_append.1 hx with hx | hx
    ·exact heach x hx
    ·simp at hx; subst hx; omega
theorem zsy_ {R : Type} {C : za_} {h : AHeap} {a b : Addr} {H : Nat → HdF} {κ : Option Code → AHeap → Option R} : rfS (zdf_ k) C [92] zU_ vals H (.func (.func 92) ⟨[]⟩ ⟨[.pointer (some a), .pointer (some b)]⟩) h κ =
  (zvf_ k (yC h.next (rfH vals zU_ h.next (H h.next)) C) (.func (.yield h.next) #[] #[]) (some a) (some b) (h.new (.loop .ready none vals zU_))).bind fun r => match r.2.get h.next with
   | some (.loop st p _ _) => bif zay_ st then none else κ p (r.2.kill h.next)
   | _ => none := rfl
theorem zKw_ {h : AHeap} (D : za_) {text : ByteArray} (ht : text.size ≤ 100000) (hk : text.size + 100 ≤ k) (M : KM h) : Gx.Wp (zyg_ k D (5, 3, 50) text h) fun z => z.1.2 = 0 ∧ ∃ cs, Acc encS 9 h.next z.2 z.1.1 cs ∧ ChP (bl text) cs ∧ zc_ h z.2 := by
 simp only [zyg_]
 refine Wp.new fun h1 k1 n1 g1 => .bnd (zA_ g1 rfl) (.bnd (a := ((5, 3, 50) : Int × Int × Int)) rfl (.call (zRv_ D h1) fun r4 ⟨q4, k4⟩ => .ifn (by rw [q4]; decide) (.ifn (by simp; omega) (Wp.new fun h5 k5 n5 g5 => Wp.jn fun j8 hj => ?_))))
 have x4 := k4.nx
 have gx5 := k5.got (by omega) (k4.got (by omega) g1)
 refine .bnd (zA_ gx5 rfl) (.bnd (a := ((5, 3, 50) : Int × Int × Int)) rfl ?_)
 simp only [zeg_]
 refine .call (P := fun z => ∃ h6, zc_ h5 h6 ∧ h6.next = h5.next + 1 ∧ h6.get h5.next = some (.cells [.int .i64 5, .int .i64 3, .int .i64 50] 27 true 0) ∧ zc_ h6 z.2 ∧ z.2.next = h6.next + 1 ∧ z.2.get h6.next = some (.cells [.string text] 9 true 0) ∧ z.1 = .func (.func 92) ⟨[]⟩ ⟨[.pointer (some ⟨h6.next, 0, none⟩), .pointer (some ⟨h5.next, 0, none⟩)]⟩)
  (Wp.new fun h6 k6 n6 g6 => Wp.new fun h7 k7 n7 g7 => .of ⟨h6, k6, n6, g6, k7, n7, g7, rfl⟩) fun r13 ⟨h6, k6, n6, g6, k7, n7, g7, e13⟩ => ?_
 rw [e13]
 show Gx.Wp (rfS (zdf_ k) (zff_ k D) [92] zU_ [(7, .pointer (some (⟨r4.2.next, 0, none⟩ : Addr)))] (zMq_ r4.2.next) (.func (.func 92) ⟨[]⟩ ⟨[.pointer (some ⟨h6.next, 0, none⟩), .pointer (some ⟨h5.next, 0, none⟩)]⟩) r13.2 _) _
 rw [zsy_]
 obtain ⟨hL, eL⟩ : ∃ hL, hL = r13.2.new (.loop .ready none [(7, .pointer (some (⟨r4.2.next, 0, none⟩ : Addr)))] zU_) := ⟨_, rfl⟩
 have kL : zc_ r13.2 hL := by rw [eL]; exact zc_.new _ _
 have nL : hL.next = r13.2.next + 1 := by rw [eL]; rfl
 rw [← eL]
 have kk : zc_ h5 r13.2 := k6.trans k7
 have I : CI h hL r13.2.next r4.2.next h6.next h5.next [(7, .pointer (some (⟨r4.2.next, 0, none⟩ : Addr)))] ⟨none, 0, 0⟩ text [] := ⟨((((k1.trans k4).trans k5).trans k6).trans k7).trans kL, by rw [eL]; simp, zc_.got (kk.trans kL) (by omega) g5, kL.got (by omega) g7, zc_.got (k7.trans kL) (by omega) g6, Acc.nil _ _ _ _, by omega, by omega, by omega, by omega, by omega⟩
 unfold zvf_ zng_
 obtain ⟨bot, eb⟩ := zq_ (fun _ _ _ _ => none) (zfb_ k (yC r13.2.next (rfH [(7, .pointer (some (⟨r4.2.next, 0, none⟩ : Addr)))] zU_ r13.2.next (zMq_ r4.2.next r13.2.next)) (zff_ k D))) (show text.size + 1 ≤ k by omega)
 rw [eb]
 refine .call (zOw_ (k := k) (C0 := zff_ k D) (by omega) (text := bl text) (by rw [zh_]; exact ht) M bot text.size hL ⟨none, 0, 0⟩ text [] (Nat.le_refl _) I (by simp) (fun c hc => by cases hc) (by simp) (by simp)) fun r ⟨o, cs, I', Ch⟩ => ?_
 have := I'.l1; have := I'.l2; have := I'.l3; have := I'.l4; have := I'.l5
 simp only [I'.gl]
 show Gx.Wp (j8 (some ⟨r4.2.next, 0, none⟩) (r.2.kill r13.2.next)) _
 rw [hj]
 have ck : Chg (· = r13.2.next) r.2 (r.2.kill r13.2.next) := Chg.kill1 rfl
 refine .bnd rfl (.bnd (zB_ (o := 0) (ck.got (by omega) (by omega) I'.go) rfl) (.of ⟨rfl, cs, ?_, Ch, I'.kp.keepsS ck fun z hz => (by have hz : z = r13.2.next := hz; omega)⟩))
 have A := I'.A.chg ck fun a ha e => (by have := (I'.A.lt a ha).2; have e : a.block = r13.2.next := e; omega)
 exact ⟨A.st, fun a ha => ⟨(A.lt a ha).1, by have := (A.lt a ha).2; omega⟩⟩
end
end Gg

namespace Gg
open Go Gx
section
variable {k : Nat} {h : AHeap}
def qX : PSt := addQ st0P 1 ⟨#[120]⟩
theorem zHt_ : encP 1 (bl ⟨#[120]⟩) = [1, 1, 120] := by decide +kernel
theorem zfE_ : (leb 3).length = 1 := by rw [zIh_ (by omega)]; rfl
theorem zJv_ : (zpb_ 1 ⟨#[120]⟩).length = 35 := by
 unfold zpb_ zbp_
 rw [zHt_]
 simp only [List.length_append, List.length_cons, List.length_nil]
 have e : (bl (idB 1 (bl ⟨#[120]⟩))).length = 32 := rfl
 have e2 : (⟨#[120]⟩ : ByteArray).size = 1 := rfl
 rw [e, e2, zfE_, leb1]
theorem zXD_ : addV 100 st0P 1 ⟨#[120]⟩ = ((idB 1 (bl ⟨#[120]⟩), 0), qX) := by
 have hL : zMd_ st0P 1 ⟨#[120]⟩ = 52 := by
  unfold zMd_ zqd_
  rw [zJv_, zHt_]
  show 5 + (leb 1).length + 0 + (3 + 35) + 8 = 52
  rw [leb1]
 have hT : tooP 100 st0P 1 ⟨#[120]⟩ = false := by
  unfold tooP
  refine decide_eq_false ?_
  rw [hL]
  show ¬ ((100 < ((52 : Nat) : Int) ∧ 0 < 0) ∨ 65536 < 52 ∨ 4096 ≤ 0)
  decide
 have hN : lkM (idB 1 (bl ⟨#[120]⟩)) st0P.2.2.2 = none := rfl
 unfold addV
 rw [hN]
 simp only []
 rw [hT, if_neg (by decide)]; rfl
theorem zhE_ : (finB qX).length = 52 := by
 unfold finB dirB
 simp only [List.length_append, Gg.B.fixL_length]
 have e1 : qX.1.length = 8 := by
  show (zxg_ ++ encP 1 (bl ⟨#[120]⟩)).length = 8
  rw [zHt_]; rfl
 have e2 : qX.2.1.length = 35 := by
  show ([] ++ zpb_ 1 ⟨#[120]⟩).length = 35
  rw [List.nil_append, zJv_]
 have e3 : qX.2.2.1.length = 1 := rfl
 rw [e1, e2, e3, leb1]; rfl
theorem zHD_ : GoodP qX [(1, ⟨#[120]⟩)] := GoodP.nil.add (c := 1) (t := ⟨#[120]⟩) ⟨.inl rfl, by decide⟩ rfl
theorem zxy_ (D : za_) (kg : KG 0 h) (hk : 1200000 ≤ k) : Gx.Wp (zxk_ k D h) fun z => z.1 = true ∧ zc_ h z.2 := by
 simp only [zxk_]
 refine .call (zEr_ (lim := 100) D) fun r1 ⟨k1, q1⟩ => Wp.jn fun j5 h5 => ?_
 rw [if_pos (by decide)] at q1
 obtain ⟨q1, mb, s1, B⟩ := q1
 rw [q1]
 refine .ifn (by simp) ?_
 rw [h5]
 refine .ifn (by simp) (.call (zSl_ B D (kg.chg k1 fun f => f) hk (c := 1) (.inl rfl) (t := ⟨#[120]⟩) (by decide) (by decide) (by decide) (by decide)) fun r6 ⟨q6, s1', s2', si', B6, c6⟩ => ?_)
 rw [zXD_] at q6 B6
 have kg6 : KG 0 r6.2 := (kg.chg k1 fun f => f).chg c6 (fun w => by have := (B.ge w).1; have := kg.lt; omega)
 have lq : qX.2.2.1 ≠ [] := fun q => by cases q
 have hb1 : qX.1.length ≤ 65536 := by
  show (zxg_ ++ encP 1 (bl ⟨#[120]⟩)).length ≤ _
  rw [zHt_]; decide
 have hb2 : qX.2.1.length ≤ 65536 := by
  show ([] ++ zpb_ 1 ⟨#[120]⟩).length ≤ _
  rw [List.nil_append, zJv_]; decide
 refine .call (zTk_ B6 D kg6 (by have := kg.lt; omega) hk hb1 hb2 (by show 1 ≤ 4096; decide)) fun r7 q7 => ?_
 rw [if_neg lq] at q7
 obtain ⟨q7, A7, _, c7⟩ := q7
 rw [q7]
 have kz : zc_ h r7.2 := (k1.keepsS c6 fun y hy => (B.ge hy).1).keepsS c7 fun y hy => (B6.ge hy).1
 have kg7 : KG 0 r7.2 := kg.chg kz fun f => f
 have R7 := A7.row zG_
 have sl : si'.len = 1 := by rw [R7.len]; rfl
 refine .call (zWn_ D kg7 hk ⟨⟨finB qX⟩⟩) fun r8 ⟨k8, q8⟩ => ?_
 have ep : zoc_ (bl ⟨⟨finB qX⟩⟩) = some (finI qX) := zzs_ zHD_ (by decide) (by rw [zhE_]; decide) (by simp)
 rw [ep] at q8
 obtain ⟨s8, e8, A8⟩ := q8
 rw [e8]
 have R8 := A8.row zG_
 obtain ⟨x, hx⟩ : ∃ x, (finI qX)[0]? = some x := ⟨_, rfl⟩
 obtain ⟨p, b1, b2, _, _⟩ := (R7.keeps k8).ld zG_ (by decide) hx
 obtain ⟨p', b1', b2', _, _⟩ := R8.ld zG_ (by decide) hx
 refine .ifp rfl (.ifp (by show ((si'.len : Int) == 1) = true; rw [sl]; rfl) (.ifp (by show ((s8.len : Int) == 1) = true; rw [R8.len]; rfl) (.bnd b1 (.bnd b2 (.bnd (zvb_ x) (.bnd b1' (.bnd b2' (.bnd (zvb_ x) (.of ⟨?_, kz.trans k8⟩)))))))))
 simp [zOe_]
end
noncomputable def id1 (c : ByteArray) : ByteArray := idB 1 (bl c)
noncomputable def zib_ (p : PSt × List Tx) : ByteArray := ⟨⟨finB p.1⟩⟩
def zsh_ (q : PSt) : Prop := zqd_ q q.2.2.1.length 0 ≤ 300
theorem zss_ : ∀ ts : List Tx, (∀ x ∈ ts, okT x) → 35 * ts.length ≤ (zbd_ ts).length
 | [], _ => by simp [zbd_]
 | x :: r, h => by
  have h1 := zss_ r fun y hy => h y (by simp [hy])
  have h2 := (zEs_ x.1 x.2 (h x (by simp)).2).2
  have e : (zbd_ (x :: r)).length = (zpb_ x.1 x.2).length + (zbd_ r).length := by unfold zbd_; rw [List.flatMap_cons, List.length_append]
  rw [e, List.length_cons]; omega
theorem znu_ (q : PSt) : (finB q).length = zqd_ q q.2.2.1.length 0 := by
 unfold finB dirB zqd_
 simp only [List.length_append, Gg.B.fixL_length]
 show _ + (_ + (4 + 4)) = _
 omega
theorem zwh_ {q : PSt} {ts : List Tx} (G : GoodP q ts) (S : zsh_ q) : q.1.length ≤ 300 ∧ q.2.1.length ≤ 300 ∧ q.2.2.1.length = ts.length ∧ ts.length ≤ 300 ∧ (finB q).length ≤ 300 := by
 have hf := znu_ q
 have hl := zss_ ts G.k
 have hi : q.2.2.1.length = ts.length := by rw [G.i, zPi_]
 have hd := G.d
 unfold zsh_ at S
 rw [S |> fun _ => hf]
 refine ⟨?_, ?_, hi, ?_, S⟩
 ·unfold zqd_ at S; omega
 ·unfold zqd_ at S; omega
 ·unfold zqd_ at S; rw [hd] at S; omega
theorem zrs_ : zsh_ st0P := by
 unfold zsh_ zqd_
 show 5 + (leb 0).length + 0 + 0 + 8 ≤ 300
 have := zJb_ 2 0 (by omega)
 omega
theorem zYu_ {q : PSt} {ts : List Tx} (G : GoodP q ts) (S : zsh_ q) {t : ByteArray} (ht : t.size ≤ 50) (hn : lkM (id1 t) q.2.2.2 = none) :
  (addV 300 q 1 t = ((⟨#[]⟩, 2), q) ∧ ts ≠ []) ∨ (addV 300 q 1 t = ((id1 t, 0), addQ q 1 t) ∧ zsh_ (addQ q 1 t)) := by
 obtain ⟨s1, s2, s3, s4, _⟩ := zwh_ G S
 have bt : (bl t).length = t.size := zh_ t
 have el := (zZh_ (c := 1) (t := bl t) (by omega)).1
 have ll := (zEs_ 1 t (by omega)).1
 have lb : (leb (q.2.2.1.length + 1)).length ≤ 3 := zJb_ 2 _ (by omega)
 have hL : zqd_ (addQ q 1 t) (addQ q 1 t).2.2.1.length 0 = zMd_ q 1 t := by
  unfold zqd_ zMd_
  have e1 : (addQ q 1 t).1 = q.1 ++ encP 1 (bl t) := rfl
  have e2 : (addQ q 1 t).2.1 = q.2.1 ++ zpb_ 1 t := rfl
  have e3 : (addQ q 1 t).2.2.1 = q.2.2.1 ++ [itP q 1 t] := rfl
  rw [e1, e2, e3]
  unfold zqd_
  simp only [List.length_append, List.length_cons, List.length_nil, Nat.zero_add]
  omega
 unfold addV
 have hn' : lkM (idB 1 (bl t)) q.2.2.2 = none := hn
 rw [hn']
 simp only []
 by_cases c : tooP 300 q 1 t = true
 ·rw [if_pos c]
  refine .inl ⟨rfl, fun e => ?_⟩
  subst e
  unfold tooP at c
  have c := of_decide_eq_true c
  have z : q.2.2.1.length = 0 := by rw [s3]; rfl
  unfold zMd_ zqd_ at c
  rcases c with c | c | c
  ·omega
  ·omega
  ·omega
 ·rw [if_neg c]
  refine .inr ⟨rfl, ?_⟩
  unfold zsh_
  rw [hL]
  unfold tooP at c
  by_cases z : q.2.2.1.length = 0
  ·have z1 : ts = [] := List.length_eq_zero_iff.1 (by omega)
   have b1 : q.1.length = 5 := by rw [G.b, z1]; rfl
   have b2 : q.2.1.length = 0 := by rw [G.d, z1]; rfl
   unfold zMd_ zqd_
   omega
  ·by_cases w : zMd_ q 1 t ≤ 300
   ·exact w
   ·exact absurd (decide_eq_true (.inl ⟨by omega, by omega⟩)) c
structure PkOk (cs : List ByteArray) (p : PSt × List Tx) : Prop where
 G : GoodP p.1 p.2
 S : zsh_ p.1
 ne : p.2 ≠ []
 tx : ∀ x ∈ p.2, x.1 = 1 ∧ x.2 ∈ cs
def totP (packs : List (PSt × List Tx)) : Nat := (packs.map fun p => p.2.length).sum
theorem zQs_ (packs : List (PSt × List Tx)) (p : PSt × List Tx) : totP (packs ++ [p]) = totP packs + p.2.length := by simp [totP]
abbrev zEg_ := List (ByteArray × ByteArray × Nat)
structure PP (pre : List ByteArray) (letv : Bool) (packs : List (PSt × List Tx)) (q : PSt) (ts : List Tx) (es : zEg_) : Prop where
 G : GoodP q ts
 S : zsh_ q
 tx : ∀ x ∈ ts, x.1 = 1 ∧ x.2 ∈ pre
 pk : ∀ p ∈ packs, PkOk pre p
 seen : ∀ id c, lkM id es = some c → id1 c = id
 all : ∀ c ∈ pre, lkM (id1 c) es ≠ none
 cov : ∀ id c, lkM id es = some c → (1, c) ∈ ts ∨ ∃ p ∈ packs, (1, c) ∈ p.2
 inn : ∀ x ∈ ts, lkM (idT x) es ≠ none
 lv : letv = false → ∀ c ∈ pre, lkM (id1 c) es = some c
 np : packs.length + (if ts = [] then 0 else 1) ≤ pre.length
 tot : totP packs + ts.length ≤ pre.length
section
variable {pre : List ByteArray} {letv : Bool} {packs : List (PSt × List Tx)} {q : PSt} {ts : List Tx} {es : zEg_} {c : ByteArray}
theorem PP.nil : PP [] false [] st0P [] [] := ⟨.nil, zrs_, (fun _ h => (List.not_mem_nil h).elim), (fun _ h => (List.not_mem_nil h).elim), (fun _ _ h => by cases h), (fun _ h => (List.not_mem_nil h).elim), (fun _ _ h => by cases h), (fun _ h => (List.not_mem_nil h).elim), (fun _ _ h => (List.not_mem_nil h).elim), by simp, by simp [totP]⟩
theorem PkOk.more {p : PSt × List Tx} (h : PkOk pre p) : PkOk (pre ++ [c]) p := ⟨h.G, h.S, h.ne, fun x hx => ⟨(h.tx x hx).1, List.mem_append_left _ (h.tx x hx).2⟩⟩
theorem PP.dup {c0 : ByteArray} (P : PP pre letv packs q ts es) (hl : lkM (id1 c) es = some c0) {lv' : Bool} (h' : lv' = false → letv = false ∧ c0 = c) : PP (pre ++ [c]) lv' packs q ts es := by
 refine ⟨P.G, P.S, fun x hx => ⟨(P.tx x hx).1, List.mem_append_left _ (P.tx x hx).2⟩, fun p hp => (P.pk p hp).more, P.seen, fun x hx => ?_, P.cov, P.inn, fun e x hx => ?_, by have := P.np; rw [List.length_append]; omega, by have := P.tot; rw [List.length_append]; omega⟩
 ·rcases List.mem_append.1 hx with hx | hx
  ·exact P.all x hx
  ·rw [List.mem_singleton.1 hx, hl]; simp
 ·obtain ⟨a, b⟩ := h' e
  rcases List.mem_append.1 hx with hx | hx
  ·exact P.lv a x hx
  ·rw [List.mem_singleton.1 hx, hl, b]
theorem PP.fresh (P : PP pre letv packs q ts es) (hn : lkM (id1 c) es = none) : lkM (id1 c) q.2.2.2 = none := by
 rw [P.G.m]
 intro hm
 obtain ⟨x, hx, e⟩ := List.mem_map.1 hm
 exact P.inn x hx (by rw [e]; exact hn)
theorem okc (hc : c.size ≤ 50) : okT (1, c) := ⟨.inl rfl, by show c.size ≤ 60000; omega⟩
theorem PP.put (_P : PP pre letv packs q ts es) (hn : lkM (id1 c) es = none) :
  (∀ id x, lkM id (ptM (id1 c) c es.length es) = some x → (id = id1 c ∧ x = c) ∨ lkM id es = some x) ∧ (∀ id, lkM id es ≠ none → lkM id (ptM (id1 c) c es.length es) = lkM id es) ∧ lkM (id1 c) (ptM (id1 c) c es.length es) = some c := by
 refine ⟨fun id x h => ?_, fun id h => ?_, ?_⟩
 ·rw [zZg_] at h
  split at h
  ·cases h; exact .inl ⟨by assumption, rfl⟩
  ·exact .inr h
 ·rw [zZg_, if_neg (by intro e; rw [e] at h; exact h hn)]
 ·rw [zZg_, if_pos rfl]
theorem PP.add (P : PP pre letv packs q ts es) (hn : lkM (id1 c) es = none) (hc : c.size ≤ 50) (hs : zsh_ (addQ q 1 c)) : PP (pre ++ [c]) letv packs (addQ q 1 c) (ts ++ [(1, c)]) (ptM (id1 c) c es.length es) := by
 obtain ⟨p1, p2, p3⟩ := P.put hn
 refine ⟨P.G.add (okc hc) (P.fresh hn), hs, fun x hx => ?_, fun p hp => (P.pk p hp).more, fun id x h => ?_, fun x hx => ?_, fun id x h => ?_, fun x hx => ?_, fun e x hx => ?_, ?_, ?_⟩
 ·rcases List.mem_append.1 hx with hx | hx
  ·exact ⟨(P.tx x hx).1, List.mem_append_left _ (P.tx x hx).2⟩
  ·rw [List.mem_singleton.1 hx]; exact ⟨rfl, by simp⟩
 ·rcases p1 id x h with ⟨a, b⟩ | a
  ·rw [a, b]
  ·exact P.seen id x a
 ·rcases List.mem_append.1 hx with hx | hx
  ·rw [p2 _ (P.all x hx)]; exact P.all x hx
  ·rw [List.mem_singleton.1 hx, p3]; simp
 ·rcases p1 id x h with ⟨a, b⟩ | a
  ·rw [b]; exact .inl (by simp)
  ·rcases P.cov id x a with w | w
   ·exact .inl (List.mem_append_left _ w)
   ·exact .inr w
 ·rcases List.mem_append.1 hx with hx | hx
  ·rw [p2 _ (P.inn x hx)]; exact P.inn x hx
  ·rw [List.mem_singleton.1 hx]
   show lkM (id1 c) _ ≠ none
   rw [p3]; simp
 ·rcases List.mem_append.1 hx with hx | hx
  ·rw [p2 _ (P.all x hx)]; exact P.lv e x hx
  ·rw [List.mem_singleton.1 hx, p3]
 ·have := P.np
  rw [if_neg (by simp), List.length_append, List.length_singleton]
  split at this <;> omega
 ·have := P.tot
  rw [List.length_append, List.length_append, List.length_singleton, List.length_singleton]; omega
theorem PP.fin (P : PP pre letv packs q ts es) (hn : lkM (id1 c) es = none) (hc : c.size ≤ 50) (ne : ts ≠ []) (hs : zsh_ (addQ st0P 1 c)) : PP (pre ++ [c]) letv (packs ++ [(q, ts)]) (addQ st0P 1 c) [(1, c)] (ptM (id1 c) c es.length es) := by
 obtain ⟨p1, p2, p3⟩ := P.put hn
 have G' : GoodP (addQ st0P 1 c) [(1, c)] := GoodP.nil.add (okc hc) rfl
 refine ⟨G', hs, fun x hx => ?_, fun p hp => ?_, fun id x h => ?_, fun x hx => ?_, fun id x h => ?_, fun x hx => ?_, fun e x hx => ?_, ?_, ?_⟩
 ·rw [List.mem_singleton.1 hx]; exact ⟨rfl, by simp⟩
 ·rcases List.mem_append.1 hp with hp | hp
  ·exact (P.pk p hp).more
  ·rw [List.mem_singleton.1 hp]
   exact PkOk.more ⟨P.G, P.S, ne, P.tx⟩
 ·rcases p1 id x h with ⟨a, b⟩ | a
  ·rw [a, b]
  ·exact P.seen id x a
 ·rcases List.mem_append.1 hx with hx | hx
  ·rw [p2 _ (P.all x hx)]; exact P.all x hx
  ·rw [List.mem_singleton.1 hx, p3]; simp
 ·rcases p1 id x h with ⟨a, b⟩ | a
  ·rw [b]; exact .inl (by simp)
  ·rcases P.cov id x a with w | ⟨p, hp, w⟩
   ·exact .inr ⟨(q, ts), by simp, w⟩
   ·exact .inr ⟨p, List.mem_append_left _ hp, w⟩
 ·rw [List.mem_singleton.1 hx]
  show lkM (id1 c) _ ≠ none
  rw [p3]; simp
 ·rcases List.mem_append.1 hx with hx | hx
  ·rw [p2 _ (P.all x hx)]; exact P.lv e x hx
  ·rw [List.mem_singleton.1 hx, p3]
 ·have := P.np
  rw [if_neg ne] at this
  rw [if_neg (by simp), List.length_append, List.length_append, List.length_singleton, List.length_singleton]
  omega
 ·have := P.tot
  rw [zQs_, List.length_append, List.length_singleton, List.length_singleton]
  show totP packs + ts.length + 1 ≤ _
  omega
end
structure PartsP (text : List UInt8) (ps idl : List ByteArray) (letv : Bool) (cs : List ByteArray) (packs : List (PSt × List Tx)) : Prop where
 ch : ChP text cs
 ids : idl = cs.map id1
 ps : ps = packs.map zib_
 pk : ∀ p ∈ packs, PkOk cs p
 cov : letv = false → ∀ c ∈ cs, ∃ p ∈ packs, (1, c) ∈ p.2
 inj : letv = false → ∀ c ∈ cs, ∀ c' ∈ cs, id1 c = id1 c' → c = c'
 np : packs.length ≤ cs.length
 tot : totP packs ≤ cs.length
theorem PP.done {text : List UInt8} {cs : List ByteArray} {letv : Bool} {packs : List (PSt × List Tx)} {q : PSt} {ts : List Tx} {es : zEg_} (P : PP cs letv packs q ts es) (ch : ChP text cs) :
  PartsP text ((packs ++ (if ts = [] then [] else [(q, ts)])).map zib_) (cs.map id1) letv cs (packs ++ (if ts = [] then [] else [(q, ts)])) := by
 refine ⟨ch, rfl, rfl, fun p hp => ?_, fun e c hc => ?_, fun e c hc c' hc' h => ?_, ?_, ?_⟩
 ·rcases List.mem_append.1 hp with hp | hp
  ·exact P.pk p hp
  ·split at hp
   ·cases hp
   ·rename_i ne
    rw [List.mem_singleton.1 hp]
    exact ⟨P.G, P.S, ne, P.tx⟩
 ·rcases P.cov _ _ (P.lv e c hc) with w | ⟨p, hp, w⟩
  ·have ne : ts ≠ [] := fun e => by rw [e] at w; cases w
   exact ⟨(q, ts), by rw [if_neg ne]; simp, w⟩
  ·exact ⟨p, List.mem_append_left _ hp, w⟩
 ·have a := P.lv e c hc
  have b := P.lv e c' hc'
  rw [h, b] at a
  cases a; rfl
 ·have := P.np
  rw [List.length_append]
  split
  ·rename_i ne; rw [if_pos ne] at this; simp; omega
  ·rename_i ne; rw [if_neg ne] at this; simp; omega
 ·have := P.tot
  split
  ·rw [List.append_nil]; omega
  ·rw [zQs_]; exact this
structure PH (h0 H : AHeap) (pb mb : Nat) (s1 s2 si out ids l : Slc) (sb : Nat) (q : PSt) (ps idl cs : List ByteArray) (es : zEg_) : Prop where
 kp : zc_ h0 H
 hp : h0.next ≤ pb
 B : PB H pb mb s1 s2 si 300 q
 O : Gx.Acc encS 9 sb H out ps
 I : Gx.Acc encS 9 sb H ids idl
 L : Gx.Acc encS 9 h0.next H l cs
 M : zsc_ sK sK H sb es
 ap : zFu_ out ids
 ll : ∀ a, l.a = some a → a.block < sb
 s1 : h0.next ≤ sb
 s2 : sb < H.next
 sm : sb ≠ mb
section
variable {k : Nat} {h0 H H' : AHeap} {pb mb mb' : Nat} {s1 s2 si s1' s2' si' out ids l : Slc} {sb : Nat} {q q' : PSt} {ps idl cs : List ByteArray} {es : zEg_}
theorem PH.notOwn (P : PH h0 H pb mb s1 s2 si out ids l sb q ps idl cs es) : ¬ OwnP pb mb s1 s2 si sb := by
 have M : H.get sb = some (.map (es.map (encM sK sK)) es.length) := P.M
 rintro (h | h | ⟨a, ha, h⟩ | ⟨a, ha, h⟩ | ⟨a, ha, h⟩)
 ·obtain ⟨p1, p2, g, _⟩ := P.B.g
  rw [h, g] at M; cases M
 ·exact P.sm h
 ·obtain ⟨c, g⟩ := zsd_ P.B.A1 ha
  rw [h, g] at M; cases M
 ·obtain ⟨c, g⟩ := zsd_ P.B.A2 ha
  rw [h, g] at M; cases M
 ·obtain ⟨c, g⟩ := zbg_ P.B.A3 ha
  rw [h, g] at M; cases M
theorem PH.keeps (P : PH h0 H pb mb s1 s2 si out ids l sb q ps idl cs es) (c : zc_ H H') : PH h0 H' pb mb s1 s2 si out ids l sb q ps idl cs es :=
 ⟨P.kp.trans c, P.hp, P.B.keeps c, P.O.keeps c, P.I.keeps c, P.L.keeps c, P.M.chg c P.s2 (fun f => f), P.ap, P.ll, P.s1, Nat.lt_of_lt_of_le P.s2 c.nx, P.sm⟩
theorem PH.own (P : PH h0 H pb mb s1 s2 si out ids l sb q ps idl cs es) (c : Chg (OwnP pb mb s1 s2 si) H H') (B' : PB H' pb mb' s1' s2' si' 300 q') (hm : sb ≠ mb') : PH h0 H' pb mb' s1' s2' si' out ids l sb q' ps idl cs es :=
 ⟨P.kp.keepsS c fun _ hy => Nat.le_trans P.hp (P.B.ge hy).1, P.hp, B', P.O.chg c fun a ha => P.B.notS P.O _ ⟨a, ha, rfl⟩, P.I.chg c fun a ha => P.B.notS P.I _ ⟨a, ha, rfl⟩, P.L.chg c fun a ha => P.B.notS P.L _ ⟨a, ha, rfl⟩,
  P.M.chg c P.s2 P.notOwn, P.ap, P.ll, P.s1, Nat.lt_of_lt_of_le P.s2 c.nx, hm⟩
theorem zTu_ {base : Nat} {s : Slc} {xs : List ByteArray} (A : Gx.Acc encS 9 base H s xs) {y : Nat} {es : zEg_} (M : zsc_ sK sK H y es) : ¬ ofS s y := fun ⟨a, ha, e⟩ => by
 obtain ⟨c, g⟩ := zxh_ A ha
 have M : H.get y = some (.map _ _) := M
 rw [e, g] at M; cases M
theorem PH.pushI (P : PH h0 H pb mb s1 s2 si out ids l sb q ps idl cs es) (x : ByteArray) {H1 : AHeap} (e1 : H1 = H.new (.cells [.string x] 9 true 0)) (hl : idl.length ≤ 100000) :
  ∃ s' h', rdS 1 (⟨some ⟨H.next, 0, some 0⟩, 1, 1⟩ : Slc) H1 = some [encS x] ∧ zl_ 1 16 9 H1 ids [encS x] 1 = some (s', h') ∧ PH h0 h' pb mb s1 s2 si out s' l sb q ps (idl ++ [x]) cs es := by
 obtain ⟨s', h', a2, b2, I2, c2, d2⟩ := P.I.pushK (fun _ => rfl) x (bytes := 16) e1 (by omega) (by decide) (by have := P.s2; omega)
 have ni := P.B.notS P.I
 refine ⟨s', h', a2, b2, P.kp.keepsS c2 fun _ ⟨a, ha, e⟩ => (by have := (P.I.lt a ha).2; have := P.s1; omega), P.hp, P.B.chgO c2 fun y hy w => ni y w hy, P.O.chg c2 fun a ha ⟨b, hb, e⟩ => P.ap a b ha hb e, I2, P.L.chg c2 fun a ha ⟨b, hb, e⟩ => by have := P.ll a ha; have := (P.I.lt b hb).2; omega,
  P.M.chg c2 P.s2 (zTu_ P.I P.M), fun a b ha hb e => by have := d2 b hb; have := (P.O.lt a ha).1; omega, P.ll, P.s1, Nat.lt_of_lt_of_le P.s2 c2.nx, P.sm⟩
theorem PH.pushO (P : PH h0 H pb mb s1 s2 si out ids l sb q ps idl cs es) (x : ByteArray) {H1 : AHeap} (e1 : H1 = H.new (.cells [.string x] 9 true 0)) (hl : ps.length ≤ 100000) :
  ∃ s' h', rdS 1 (⟨some ⟨H.next, 0, some 0⟩, 1, 1⟩ : Slc) H1 = some [encS x] ∧ zl_ 1 16 9 H1 out [encS x] 1 = some (s', h') ∧ PH h0 h' pb mb s1 s2 si s' ids l sb q (ps ++ [x]) idl cs es := by
 obtain ⟨s', h', a2, b2, I2, c2, d2⟩ := P.O.pushK (fun _ => rfl) x (bytes := 16) e1 (by omega) (by decide) (by have := P.s2; omega)
 have ni := P.B.notS P.O
 refine ⟨s', h', a2, b2, P.kp.keepsS c2 fun y ⟨a, ha, e⟩ => (by have := (P.O.lt a ha).2; have := P.s1; omega), P.hp, P.B.chgO c2 fun y hy w => ni y w hy, I2, P.I.chg c2 fun a ha ⟨b, hb, e⟩ => P.ap b a hb ha e.symm, P.L.chg c2 fun a ha ⟨b, hb, e⟩ => by have := P.ll a ha; have := (P.O.lt b hb).2; omega,
  P.M.chg c2 P.s2 (zTu_ P.O P.M), fun a b ha hb e => by have := d2 a ha; have := (P.I.lt b hb).1; omega, P.ll, P.s1, Nat.lt_of_lt_of_le P.s2 c2.nx, P.sm⟩
theorem PH.upd (P : PH h0 H pb mb s1 s2 si out ids l sb q ps idl cs es) (id x : ByteArray) : ∃ h', updE H sb (.string id) (.string x) = some h' ∧ PH h0 h' pb mb s1 s2 si out ids l sb q ps idl cs (ptM id x es.length es) := by
 obtain ⟨h', u1, u2, u3, u4⟩ := P.M.upd (n := id) (fun e _ => zeh_ id e.1) x
 have no := P.notOwn
 have nc : ∀ {base : Nat} {s : Slc} {xs : List ByteArray}, Gx.Acc encS 9 base H s xs → ∀ a, s.a = some a → ¬ a.block = sb := fun A a ha e => zTu_ A P.M ⟨a, ha, e.symm⟩
 refine ⟨h', u1, P.kp.keepsS u3 fun y hy => (by have hy : y = sb := hy; have := P.s1; omega), P.hp, P.B.chgO u3 fun y hy w => no (by have w : y = sb := w; exact w ▸ hy), P.O.chg u3 fun a ha => nc P.O a ha, P.I.chg u3 fun a ha => nc P.I a ha, P.L.chg u3 fun a ha => nc P.L a ha, u2, P.ap, P.ll, P.s1, by rw [u4]; exact P.s2, P.sm⟩
end
section
variable {k : Nat} {h0 : AHeap} {pb sb : Nat} {l : Slc} {cs : List ByteArray}
theorem zGv_ {H : AHeap} {a b : Nat} {es : zEg_} (M : zsc_ sK sK H a es) (M' : zsc_ sK sK H b ([] : zEg_)) (ne : es ≠ []) : a ≠ b := by
 intro e
 subst e
 have M : H.get a = some (.map (es.map (encM sK sK)) es.length) := M
 have M' : H.get a = some (.map [] 0) := M'
 rw [M'] at M
 simp only [Option.some.injEq, ABlk.map.injEq] at M
 exact ne (List.length_eq_zero_iff.1 M.2.symm)
theorem zIx_ (D : za_) (kg : KG 0 h0) (hk : 1200000 ≤ k) (hcs : cs.length ≤ 400) (hsz : ∀ c ∈ cs, c.size ≤ 50) (hpb : 0 < pb) {j20 : Slc → Slc → Bool → (Option Addr) → AHeap → Option ((Slc × Slc × Bool) × AHeap)} {Q : (Slc × Slc × Bool) × AHeap → Prop}
  (J : ∀ H mb s1 s2 si out ids letv packs q ts es, PH h0 H pb mb s1 s2 si out ids l sb q (packs.map zib_) (cs.map id1) cs es → PP cs letv packs q ts es → Gx.Wp (j20 out ids letv (some ⟨pb, 0, none⟩) H) Q) (bot) :
  ∀ (d i : Nat) (H : AHeap) (mb : Nat) (s1 s2 si out ids : Slc) (letv : Bool) (packs : List (PSt × List Tx)) (q : PSt) (ts : List Tx) (es : zEg_), i + d = cs.length →
  PH h0 H pb mb s1 s2 si out ids l sb q (packs.map zib_) ((cs.take i).map id1) cs es → PP (cs.take i) letv packs q ts es →
  Gx.Wp (zi_ bot (d + 1) (zgf_ k D j20) out ids letv (some ⟨pb, 0, none⟩) (some sb) l (cs.length : Int) (i : Int) H) Q := by
 intro d
 induction d with
 | zero =>
  intro i H mb s1 s2 si out ids letv packs q ts es hd P PPp
  rw [zg_]; simp only [zgf_]
  refine .ifn (fun w => by have := of_decide_eq_true w; omega) ?_
  rw [List.take_of_length_le (by omega)] at P PPp
  exact J H mb s1 s2 si out ids letv packs q ts es P PPp
 | succ d ih =>
  intro i H mb s1 s2 si out ids letv packs q ts es hd P PPp
  rw [zg_]; simp only [zgf_]
  refine .ifp (decide_eq_true (by omega)) (Wp.jn fun j49 h49 => ?_)
  obtain ⟨c, hx⟩ := zv_ (l := cs) (i := i) (by omega)
  have hc : c.size ≤ 50 := hsz c (List.mem_of_getElem? hx)
  have tk : cs.take (i + 1) = cs.take i ++ [c] := by rw [List.take_add_one, hx]; rfl
  have go : ∀ H mb s1 s2 si out ids letv packs q ts es, PH h0 H pb mb s1 s2 si out ids l sb q (packs.map zib_) ((cs.take i).map id1 ++ [id1 c]) cs es → PP (cs.take i ++ [c]) letv packs q ts es →
    Gx.Wp (j49 out ids letv (some ⟨pb, 0, none⟩) (some sb) l (cs.length : Int) (i : Int) H) Q := fun H mb s1 s2 si out ids letv packs q ts es P PPp => by
   rw [h49]
   dsimp only
   rw [Gx.w1 (by omega)]
   refine ih (i + 1) H mb s1 s2 si out ids letv packs q ts es (by omega) ?_ ?_
   ·rw [tk, List.map_append]; exact P
   ·rw [tk]; exact PPp
  have il : ((cs.take i).map id1).length = i := by rw [List.length_map, List.length_take]; omega
  have pl : (packs.map zib_).length ≤ 400 := by
   rw [List.length_map]
   have := PPp.np
   rw [List.length_take] at this; omega
  obtain ⟨p0, a0, b0⟩ := P.L.row.ldS hx
  refine .bnd a0 (.bnd b0 (.call (zBq_ (n := 1) D (kg.chg P.kp fun f => f) (by omega) (by omega) (by omega)) fun r52 ⟨q52, k52⟩ => ?_))
  have P1 := P.keeps k52
  have e52 : r52.1 = (id1 c, 0) := by rw [q52]; exact zpp_ (n := 1) rfl
  rw [e52]
  refine Wp.newE fun h53 e53 k53 n53 g53 => ?_
  obtain ⟨ids', h54, a2, b2, P2⟩ := P1.pushI (id1 c) e53 (by omega)
  refine .bnd a2 (.bnd b2 ?_)
  have lk := P2.M.look (n := id1 c) (fun e _ => zeh_ (id1 c) e.1) (dec := decS) (dv := fun v : ByteArray => v) (fun v => rfl) (z := .string ⟨#[]⟩) (z0 := ⟨#[]⟩) rfl
  refine .bnd lk ?_
  cases hl : lkM (id1 c) es with
  | some c0 =>
   refine .ifp rfl ?_
   cases letv with
   | true => exact .ifp rfl (go h54 mb s1 s2 si out ids' true packs q ts es P2 (PPp.dup hl fun e => by cases e))
   | false =>
    refine .ifn (by decide) (go h54 mb s1 s2 si out ids' _ packs q ts es P2 (PPp.dup hl fun e => ⟨rfl, ?_⟩))
    dsimp only at e
    rw [zOe_] at e
    simpa using e
  | none =>
   refine .ifn (by simp) (.bnd rfl ?_)
   obtain ⟨h57, u57, P3⟩ := P2.upd (id1 c) c
   obtain ⟨z1, z2, z3, z4, z5⟩ := zwh_ PPp.G PPp.S
   refine .bnd u57 (.call (zSl_ P3.B D (kg.chg P3.kp fun f => f) hk (c := 1) (.inl rfl) (t := c) (by omega) (by omega) (by omega) (by omega)) fun r59 ⟨q59, s1', s2', si', B', c'⟩ => Wp.jn fun j70 h70 => ?_)
   have hn := PPp.fresh hl
   have np := PPp.put hl
   have fin : ∀ H mb s1 s2 si out packs q ts, PH h0 H pb mb s1 s2 si out ids' l sb q (packs.map zib_) ((cs.take i).map id1 ++ [id1 c]) cs (ptM (id1 c) c es.length es) → PP (cs.take i ++ [c]) letv packs q ts (ptM (id1 c) c es.length es) →
     Gx.Wp (j70 out ids' letv (some ⟨pb, 0, none⟩) (some sb) 0 l (cs.length : Int) (i : Int) H) Q := fun H mb s1 s2 si out packs q ts P PPp => by
    rw [h70]
    exact .ifn (by simp) (go H mb s1 s2 si out ids' letv packs q ts _ P PPp)
   rcases zYu_ PPp.G PPp.S hc hn with ⟨e, ne⟩ | ⟨e, S'⟩
   ·rw [e] at q59 B'
    rw [q59]
    replace B' : PB r59.2 pb mb s1' s2' si' 300 q := B'
    have P4 := P3.own c' B' P3.sm
    refine .ifp rfl (.call (zTk_ B' D (kg.chg P4.kp fun f => f) hpb hk (by omega) (by omega) (by omega)) fun r71 q71 => ?_)
    have qn : q.2.2.1 ≠ [] := fun e => by
     have : ts.length = 0 := by rw [← z3, e]; rfl
     exact ne (List.length_eq_zero_iff.1 this)
    rw [if_neg qn] at q71
    obtain ⟨e71, _, ⟨mb', s1'', B''⟩, c''⟩ := q71
    have M' := P4.M.chg c'' P4.s2 P4.notOwn
    have es' : ptM (id1 c) c es.length es ≠ [] := fun w => by have := np.2.2; rw [w] at this; cases this
    have P5 := P4.own c'' B'' (zGv_ M' B''.M es')
    rw [e71]
    refine Wp.newE fun h72 e72 k72 n72 g72 => ?_
    obtain ⟨out', h73, a6, b6, P6⟩ := P5.pushO (zib_ (q, ts)) e72 (by omega)
    refine .bnd a6 (.bnd b6 (.call (zSl_ P6.B D (kg.chg P6.kp fun f => f) hk (c := 1) (.inl rfl) (t := c) (by omega) (by decide) (by decide) (by decide)) fun r75 ⟨q75, t1', t2', ti', B7, c7⟩ => ?_))
    rcases zYu_ GoodP.nil zrs_ hc rfl with ⟨_, ne0⟩ | ⟨e7, S7⟩
    ·exact absurd rfl ne0
    rw [e7] at q75 B7
    rw [q75]
    have P7 := P6.own c7 B7 P6.sm
    have em : packs.map zib_ ++ [zib_ (q, ts)] = (packs ++ [(q, ts)]).map zib_ := by rw [List.map_append]; rfl
    rw [em] at P7
    exact fin r75.2 _ _ _ _ _ _ _ _ P7 (PPp.fin hl hc ne S7)
   ·rw [e] at q59 B'
    rw [q59]
    exact .ifn (by simp) (fin r59.2 _ _ _ _ _ _ _ _ (P3.own c' B' P3.sm) (PPp.add hl hc S'))
theorem zSv_ {h : AHeap} (D : za_) (kg : KG 0 h) (km : KM h) (hk : 1200000 ≤ k) {text : ByteArray} (ht : text.size ≤ 1500) :
  Gx.Wp (zBk_ k D (5, 3, 50) text h) fun z => zc_ h z.2 ∧ ∃ ps idl cs packs, Gx.Acc encS 9 h.next z.2 z.1.1 ps ∧ Gx.Acc encS 9 h.next z.2 z.1.2.1 idl ∧ PartsP (bl text) ps idl z.1.2.2 cs packs := by
 simp only [zBk_]
 refine Wp.new fun h1 k1 n1 g1 => .call (zEr_ (lim := 300) D) fun r2 ⟨k2, q2⟩ => ?_
 rw [if_pos (by decide)] at q2
 obtain ⟨q2, mb, s1, B⟩ := q2
 refine .bnd (zA_ (k2.got (by omega) g1) rfl) (.bnd (a := ((5, 3, 50) : Int × Int × Int)) rfl (.call (zKw_ D (by omega) (by omega) ((km.keeps k1).keeps k2)) fun r5 ⟨q5, cs, A5, Ch, k5⟩ => Wp.jn fun j13 h13 => ?_))
 have bt : (bl text).length = text.size := zh_ text
 have hl := Ch.len
 rw [q2]
 refine .ifn (by simp) (.ifn (by simp) ?_)
 rw [q5, h13]
 refine .ifn (by simp) (Wp.new fun h14 k14 n14 g14 => Wp.jn fun j20 h20 => ?_)
 have x1 := k1.nx; have x2 := k2.nx; have x5 := k5.nx
 have kk : zc_ h r5.2 := (k1.trans k2).trans k5
 have A14 := A5.keeps k14
 have B14 := (B.keeps k5).keeps k14
 have mlt := ((B.keeps k5)).mlt
 have L : Gx.Acc encS 9 h.next h14 r5.1.1 cs := ⟨A14.st, fun a ha => ⟨(A14.lt a ha).1, by have := (A14.lt a ha).2; omega⟩⟩
 have P : PH h h14 h1.next mb s1 ⟨none, 0, 0⟩ ⟨none, 0, 0⟩ ⟨none, 0, 0⟩ ⟨none, 0, 0⟩ r5.1.1 r5.2.next st0P [] [] cs [] :=
  ⟨kk.trans k14, by omega, B14, Acc.nil _ _ _ _, Acc.nil _ _ _ _, L, g14, (fun a b ha => by cases ha), (fun a ha => (A5.lt a ha).1), by omega, by omega, by omega⟩
 unfold zRo_
 obtain ⟨bot, eb⟩ := zq_ (fun _ _ _ _ _ _ _ _ _ => none) (zgf_ k D j20) (show cs.length + 1 ≤ k by omega)
 have il : (r5.1.1.len : Int) = (cs.length : Int) := by rw [A5.row.1]
 rw [eb, il, show (0 : Int) = ((0 : Nat) : Int) from rfl]
 refine zIx_ D kg hk (by omega) (fun c hc => (Ch.each c hc).2) (by have := kg.lt; omega) (fun H mb s1 s2 si out ids letv packs q ts es P PPp => ?_) bot cs.length 0 h14 mb s1 _ _ _ _ false [] st0P [] [] (by omega) P PP.nil
 rw [h20]
 refine Wp.jn fun j25 h25 => ?_
 obtain ⟨z1, z2, z3, z4, z5⟩ := zwh_ PPp.G PPp.S
 have fin : ∀ {H' : AHeap} {out' : Slc} {ps : List ByteArray}, zc_ h H' → Gx.Acc encS 9 r5.2.next H' out' ps → Gx.Acc encS 9 r5.2.next H' ids (cs.map id1) → ps = (packs ++ (if ts = [] then [] else [(q, ts)])).map zib_ →
   Gx.Wp (j25 out' ids letv H') fun z => zc_ h z.2 ∧ ∃ ps idl cs packs, Gx.Acc encS 9 h.next z.2 z.1.1 ps ∧ Gx.Acc encS 9 h.next z.2 z.1.2.1 idl ∧ PartsP (bl text) ps idl z.1.2.2 cs packs := fun {H' out' ps} kp O I e => by
  rw [h25]
  show Gx.Wp (some ((out', ids, letv), H')) _
  refine .of ⟨kp, _, _, cs, packs ++ (if ts = [] then [] else [(q, ts)]), ⟨O.st, fun a ha => ⟨(O.lt a ha).1, by have := (O.lt a ha).2; omega⟩⟩, ⟨I.st, fun a ha => ⟨(I.lt a ha).1, by have := (I.lt a ha).2; omega⟩⟩, ?_⟩
  rw [e]
  exact PPp.done Ch
 refine .call (zTk_ P.B D (kg.chg P.kp fun f => f) (by have := kg.lt; omega) hk (by omega) (by omega) (by omega)) fun r26 q26 => ?_
 by_cases hts : ts = []
 ·have qn : q.2.2.1 = [] := List.length_eq_zero_iff.1 (by rw [z3, hts]; rfl)
  rw [if_pos qn] at q26
  obtain ⟨e26, e26'⟩ := q26
  rw [e26, e26']
  refine .ifn (by decide) (fin P.kp P.O P.I ?_)
  rw [if_pos hts, List.append_nil]
 ·have qn : q.2.2.1 ≠ [] := fun e => by
   have : ts.length = 0 := by rw [← z3, e]; rfl
   exact hts (List.length_eq_zero_iff.1 this)
  rw [if_neg qn] at q26
  obtain ⟨e26, _, ⟨mb', s1'', B''⟩, c''⟩ := q26
  have M' := P.M.chg c'' P.s2 P.notOwn
  have hes : es ≠ [] := fun w => by
   obtain ⟨x, hx⟩ : ∃ x, x ∈ ts := List.exists_mem_of_ne_nil ts hts
   have := PPp.inn x hx
   rw [w] at this
   exact this rfl
  have P5 := P.own c'' B'' (zGv_ M' B''.M hes)
  rw [e26]
  have bne : (!((⟨⟨finB q⟩⟩ : ByteArray) == (⟨#[]⟩ : ByteArray))) = true := by
   rw [zOe_, decide_eq_false]; rfl
   intro e
   have := congrArg ByteArray.size e
   rw [zXb_, znu_] at this
   unfold zqd_ at this
   have e0 : (⟨#[]⟩ : ByteArray).size = 0 := rfl
   omega
  refine .ifp bne (Wp.newE fun h27 e27 k27 n27 g27 => ?_)
  have pl : (packs.map zib_).length ≤ 100000 := by
   rw [List.length_map]
   have := PPp.np
   omega
  obtain ⟨out', h28, a6, b6, P6⟩ := P5.pushO (zib_ (q, ts)) e27 pl
  refine .bnd a6 (.bnd b6 (fin P6.kp P6.O P6.I ?_))
  rw [if_neg hts, List.map_append]; rfl
end
noncomputable def dg (x : ByteArray) : ByteArray := ⟨⟨zKi_ (bl x)⟩⟩
section
variable {k : Nat} {h : AHeap}
theorem zFk_ {H : AHeap} (D : za_) (kg : KG 0 H) (hk : 20000 ≤ k) {b : Nat} {x : ByteArray} (g : H.get b = some (.cells [.string x] 9 true 0)) (hl : b < H.next) (hx : x.size ≤ 100000) :
  Gx.Wp (zNe_ k D (⟨some ⟨b, 0, some 0⟩, 1, 1⟩ : Slc) H) fun z => z.1 = dg x ∧ zc_ H z.2 := by
 have R : Row encS H ⟨some ⟨b, 0, some 0⟩, 1, 1⟩ [x] := Row.of_block (enc := encS) (xs := [x]) g hl fun i z hz => by
  match i with
  | 0 => simp at hz; subst hz; rfl
  | i + 1 => simp at hz
 have ec : Gg.B.catL [x] = bl x := by simp [Gg.B.catL]
 have bx : (bl x).length = x.size := zh_ x
 refine .mono (Gg.B.sum_spec (by omega) D kg R (by rw [ec]; omega) (by rw [ec]; omega) (by simp; omega) (by simp)) fun r ⟨q, k1⟩ => ⟨?_, k1⟩
 rw [ec] at q
 exact q
def zMt_ (a b : ByteArray) : Prop := dg a = dg b → a = b
theorem zEx_ (h : AHeap) (m : Nat) : zc_ h (h.resv m) := ⟨Nat.le_add_right _ _, fun _ _ _ => rfl⟩
theorem zuC_ (D : za_) (kg : KG 0 h) (hk : 20000 ≤ k) {l : Slc} {ps : List ByteArray} (R : Row encS h l ps) (hn : ps.length ≤ 100000) (hsz : ∀ x ∈ ps, x.size ≤ 100000) {i n : Nat} (hi : i < ps.length) {x : ByteArray} (hx : ps[i]? = some x)
  {j12 : Slc → Int → Int → AHeap → Option (Bool × AHeap)} {Q : Bool × AHeap → Prop} (J : ∀ H, zc_ h H → (∀ (k : Nat) y, k < i → ps[k]? = some y → zMt_ x y) → Gx.Wp (j12 l (n : Int) (i : Int) H) Q) (T : ∀ H, zc_ h H → Q (true, H)) (bot) :
  ∀ (d j : Nat) (H : AHeap), j + d = i → zc_ h H → (∀ (k : Nat) y, k < j → ps[k]? = some y → zMt_ x y) → Gx.Wp (zi_ bot (d + 1) (zAf_ k D j12) l (i : Int) (n : Int) (i : Int) (i : Int) (j : Int) H) Q := by
 intro d
 induction d with
 | zero =>
  intro j H hd kp hc
  rw [zg_]; simp only [zAf_]
  obtain rfl : j = i := by omega
  exact .ifn (fun w => by have := of_decide_eq_true w; omega) (J H kp hc)
 | succ d ih =>
  intro j H hd kp hc
  rw [zg_]; simp only [zAf_]
  refine .ifp (decide_eq_true (by omega)) (Wp.jn fun j29 h29 => ?_)
  obtain ⟨y, hy⟩ := zv_ (l := ps) (i := j) (by omega)
  have k30 := kp.trans (zEx_ H 2)
  have n30 : (H.resv 2).next = H.next + 2 := rfl
  obtain ⟨h30, e30⟩ : ∃ h30, h30 = H.resv 2 := ⟨_, rfl⟩
  rw [← e30] at k30 n30 ⊢
  have ld : ∀ {H' : AHeap}, zc_ h H' → ∃ p, idxL 1 l (i : Int) = some p ∧ Gx.ldS p H' = some x := fun kk => (R.keeps kk).ldS hx
  have ldy : ∀ {H' : AHeap}, zc_ h H' → ∃ p, idxL 1 l (j : Int) = some p ∧ Gx.ldS p H' = some y := fun kk => (R.keeps kk).ldS hy
  obtain ⟨p, a1, b1⟩ := ld k30
  obtain ⟨p', a2, b2⟩ := ldy k30
  refine .bnd a1 (.bnd b1 (.bnd a2 (.bnd b2 ?_)))
  have go : ∀ H' : AHeap, zc_ h H' → zMt_ x y → Gx.Wp (j29 l (i : Int) (n : Int) (i : Int) (i : Int) (j : Int) false H') Q := fun H' kk nc => by
   rw [h29]
   refine .ifn (by decide) ?_
   rw [Gx.w1 (by omega)]
   refine ih (j + 1) H' (by omega) kk fun k' z hk' hz => ?_
   by_cases e : k' = j
   ·subst e; rw [hy] at hz; cases hz; exact nc
   ·exact hc k' z (by omega) hz
  by_cases e : x = y
  ·exact .ifn (by rw [zOe_, decide_eq_true e]; decide) (go h30 k30 fun _ => e)
  ·refine .ifp (by rw [zOe_, decide_eq_false e]; rfl) (.bnd a1 (.bnd b1 ?_))
   have lo : h.next ≤ H.next := kp.nx
   obtain ⟨h37, e37⟩ : ∃ h37, h37 = AHeap.set h30 (H.next + 0) (.cells [.string x] 9 true 0) := ⟨_, rfl⟩
   have k37 : zc_ h h37 := by rw [e37]; exact zc_.set k30 (by omega)
   have g37 : h37.get (H.next + 0) = some (.cells [.string x] 9 true 0) := by rw [e37]; simp
   have n37 : h37.next = H.next + 2 := by rw [e37]; exact n30
   rw [← e37]
   refine .call (zFk_ D (kg.chg k37 fun f => f) hk g37 (by omega) (hsz x (List.mem_of_getElem? hx))) fun r38 ⟨q38, k38⟩ => .bnd a2 ?_
   have kk38 := k37.trans k38
   have l38 : Gx.ldS p' r38.2 = some y := by obtain ⟨p2, a3, b3⟩ := ldy kk38; rw [a2] at a3; cases a3; exact b3
   have l37 : Gx.ldS p' h37 = some y := by obtain ⟨p2, a3, b3⟩ := ldy k37; rw [a2] at a3; cases a3; exact b3
   refine .bnd l38 (.gp (fun HH hH => ?_) ?_)
   ·simp only [List.mem_cons, List.not_mem_nil, or_false] at hH
    rcases hH with z | z
    ·rw [z]; dsimp only; rw [l37]; rfl
    ·rw [z]; dsimp only; rw [b2]; rfl
   have n38 := k38.nx
   obtain ⟨h43, e43⟩ : ∃ h43, h43 = AHeap.set r38.2 (H.next + 1) (.cells [.string y] 9 true 0) := ⟨_, rfl⟩
   have k43 : zc_ h h43 := by rw [e43]; exact zc_.set kk38 (by omega)
   have g43 : h43.get (H.next + 1) = some (.cells [.string y] 9 true 0) := by rw [e43]; simp
   have n43 : h43.next = r38.2.next := by rw [e43]; rfl
   rw [← e43]
   refine .call (zFk_ D (kg.chg k43 fun f => f) hk g43 (by omega) (hsz y (List.mem_of_getElem? hy))) fun r44 ⟨q44, k44⟩ => ?_
   have kk44 := k43.trans k44
   rw [q38, q44, zOe_]
   by_cases c : dg x = dg y
   ·rw [decide_eq_true c, h29]
    exact .ifp rfl (.of (T _ kk44))
   ·rw [decide_eq_false c]
    exact go _ kk44 fun w => absurd w c
theorem zuA_ (D : za_) (kg : KG 0 h) (hk : 120000 ≤ k) {l : Slc} {ps : List ByteArray} (R : Row encS h l ps) (hn : ps.length ≤ 100000) (hsz : ∀ x ∈ ps, x.size ≤ 100000) :
  Gx.Wp (zUl_ k D l h) fun z => zc_ h z.2 ∧ (z.1 = false → ∀ x ∈ ps, ∀ y ∈ ps, dg x = dg y → x = y) := by
 simp only [zUl_]
 refine Wp.jn fun j2 h2 => ?_
 have il : (l.len : Int) = (ps.length : Int) := by rw [R.1]
 have loop : ∀ (bot) (d i : Nat) (H : AHeap), i + d = ps.length → zc_ h H → (∀ (i' k' : Nat) x y, i' < i → k' < i' → ps[i']? = some x → ps[k']? = some y → zMt_ x y) →
   Gx.Wp (zi_ bot (d + 1) (zHf_ k D j2) l (ps.length : Int) (i : Int) H) fun z => zc_ h z.2 ∧ (z.1 = false → ∀ x ∈ ps, ∀ y ∈ ps, dg x = dg y → x = y) := fun bot d => by
  induction d with
  | zero =>
   intro i H hd kp hc
   rw [zg_]; simp only [zHf_]
   refine .ifn (fun w => by have := of_decide_eq_true w; omega) ?_
   rw [h2]
   refine .of ⟨kp, fun _ x hx y hy e => ?_⟩
   obtain ⟨a, ha⟩ := List.getElem?_of_mem hx
   obtain ⟨b, hb⟩ := List.getElem?_of_mem hy
   have la := (List.getElem?_eq_some_iff.1 ha).1
   have lb := (List.getElem?_eq_some_iff.1 hb).1
   rcases Nat.lt_trichotomy a b with w | w | w
   ·exact (hc b a y x (by omega) w hb ha e.symm).symm
   ·subst w; rw [ha] at hb; cases hb; rfl
   ·exact hc a b x y (by omega) w ha hb e
  | succ d ih =>
   intro i H hd kp hc
   rw [zg_]; simp only [zHf_]
   refine .ifp (decide_eq_true (by omega)) (Wp.jn fun j12 h12 => ?_)
   obtain ⟨x, hx⟩ := zv_ (l := ps) (i := i) (by omega)
   unfold zLp_
   obtain ⟨bot', eb⟩ := zq_ (fun _ _ _ _ _ _ _ => none) (zAf_ k D j12) (show i + 1 ≤ k by omega)
   rw [eb, show (0 : Int) = ((0 : Nat) : Int) from rfl]
   refine zuC_ (h := h) D kg (by omega) R hn hsz (by omega) hx (fun H' kk nc => ?_) (fun H' kk => ⟨kk, fun w => by cases w⟩) bot' i 0 H (by omega) kp (fun _ _ w => by omega)
   rw [h12]
   dsimp only
   rw [Gx.w1 (by omega)]
   refine ih (i + 1) H' (by omega) kk fun i' k' x' y' h1 h2 h3 h4 => ?_
   by_cases e : i' = i
   ·subst e; rw [hx] at h3; cases h3; exact nc k' y' h2 h4
   ·exact hc i' k' x' y' (by omega) h2 h3 h4
 unfold zUp_
 obtain ⟨bot, eb⟩ := zq_ (fun _ _ _ _ => none) (zHf_ k D j2) (show ps.length + 1 ≤ k by omega)
 rw [eb, il, show (0 : Int) = ((0 : Nat) : Int) from rfl]
 exact loop bot ps.length 0 h (by omega) (.refl _ _) fun _ _ _ _ w => by omega
end
theorem zyi_ {its : List It} (h : ∀ x ∈ its, okI x) (hl : its.length ≤ 800) : ¬ tooB [] its := by
 have a := zJb_ 2 0 (by decide)
 have b := zJb_ 2 its.length (by omega)
 have e := zDj_ h
 have e2 : (zW_ [] its).length ≤ 65536 := by
  simp only [zW_, List.length_append, zSd_, List.length_cons, List.length_nil, supB, List.flatMap_nil, Nat.zero_add] at e ⊢
  omega
 rintro (q | q | q)
 ·simp at q
 ·omega
 ·omega
theorem zZz_ : ∀ {its : List It}, (∀ x ∈ its, okI x) → its.length ≤ 800 → zLb_ [] its = ([], [], its) := by
 intro its h hl
 have key : ∀ n, n ≤ its.length → zLb_ [] (its.take n) = ([], [], its.take n) := fun n => by
  induction n with
  | zero => intro _; rfl
  | succ n ih =>
   intro hn
   obtain ⟨x, hx⟩ := zv_ (l := its) (i := n) (by omega)
   have et : its.take (n + 1) = its.take n ++ [x] := by rw [List.take_add_one, hx]; rfl
   rw [et, zHr_, ih (by omega)]
   unfold zFi_
   rw [if_neg]
   simp only []
   rw [← et]
   exact zyi_ (fun y hy => h y (List.mem_of_mem_take hy)) (by rw [List.length_take]; omega)
 have := key its.length (Nat.le_refl _)
 rwa [List.take_length] at this
theorem zfA_ {its : List It} (h : ∀ x ∈ its, okI x) (hr : zWb_ its) : chkF [] its = 0 := zdq_.2 ⟨⟨fun _ h => (List.not_mem_nil h).elim, h⟩, List.Pairwise.nil, hr⟩
theorem zcA_ {its : List It} (h : ∀ x ∈ its, okI x) (hl : its.length ≤ 800) (hr : zWb_ its) : zmg_ [] its = ([bA (zW_ [] its)], 0) := by
 unfold zmg_
 rw [if_pos (zfA_ h hr), if_neg (zyi_ (its := []) (fun _ h => (List.not_mem_nil h).elim) (by simp)), zZz_ h hl]
 rfl
theorem zYy_ {its : List It} (h : ∀ x ∈ its, okI x) (hl : its.length ≤ 800) (hr : zWb_ its) : decF (bl (bA (zW_ [] its))) = some ([], its) := zkA_ (zfA_ h hr) (zyi_ h hl)
def fC (p : Slc × Slc) : List Value := [.slice p.1.a p.1.len p.1.cap, .slice p.2.a p.2.len p.2.cap]
theorem zhr_ (p : Slc × Slc) : (fC p).length = 2 := rfl
theorem zwD_ (p : Slc × Slc) : zI_ (fC p) = true := rfl
theorem zqC_ (p : Slc × Slc) : decC [.l, .l] (fC p) = some p := rfl
section
variable {k : Nat} {h H H' : AHeap} {its : List It} {s : Slc}
theorem zOo_ {S : Nat → Prop} (R : RowW 6 itC H s its) (c : Chg S H H') (hs : its ≠ [] → ∀ a, s.a = some a → ¬ S a.block) : RowW 6 itC H' s its := by
 cases its with
 | nil => exact ⟨R.len, fun i x hx => by simp at hx⟩
 | cons y ys => exact R.chg c (hs (by simp))
theorem zSr_ (R : RowW 6 itC H s its) (ne : its ≠ []) : ∀ a, s.a = some a → a.block < H.next := by
 intro a ha
 cases its with
 | nil => exact absurd rfl ne
 | cons y ys =>
  obtain ⟨a', _, _, _, _, h1, h2, _⟩ := R.at' 0 y rfl
  rw [h1] at ha; cases ha; exact h2
structure MI (h H : AHeap) (ob : Nat) (l : Slc) (fl : List (Slc × Slc)) (its : List It) : Prop where
 kp : zc_ h H
 M : zsc_ sK bV H ob ([] : List (ByteArray × Bool × Nat))
 A : AccW 2 fC 38 (ob + 1) H l fl
 s1 : h.next ≤ ob
 s2 : ob < H.next
 fe : ∀ p ∈ fl, p.1.len = 0 ∧ RowW 6 itC H p.2 its ∧ (its ≠ [] → ∀ a, p.2.a = some a → ¬ ofS l a.block)
theorem zZA_ (hk : 30000 ≤ k) {files : Slc} {fs : List ByteArray} (R : Row encS h files fs) (hf : ∀ x ∈ fs, decF (bl x) = some ([], its)) (hn : fs.length ≤ 1000) {ob : Nat} {j7 : Slc → Slc → (Option Nat) → Slc → AHeap → Option (((Option Addr) × Slc × Int) × AHeap)} {Q : ((Option Addr) × Slc × Int) × AHeap → Prop}
  (J : ∀ H l fl, fl.length = fs.length → MI h H ob l fl its → Gx.Wp (j7 files ⟨none, 0, 0⟩ (some ob) l H) Q) (bot) :
  ∀ (d i : Nat) (H : AHeap) (l : Slc) (fl : List (Slc × Slc)), i + d = fs.length → fl.length = i → MI h H ob l fl its →
  Gx.Wp (zi_ bot (d + 1) (zee_ k (DD k) j7) files ⟨none, 0, 0⟩ (some ob) l files (fs.length : Int) (i : Int) H) Q := by
 intro d
 induction d with
 | zero =>
  intro i H l fl hd hl P
  rw [zg_]; simp only [zee_]
  exact .ifn (fun w => by have := of_decide_eq_true w; omega) (J H l fl (by omega) P)
 | succ d ih =>
  intro i H l fl hd hl P
  rw [zg_]; simp only [zee_]
  refine .ifp (decide_eq_true (by omega)) (Wp.jn fun j65 h65 => ?_)
  obtain ⟨f, hx⟩ := zv_ (l := fs) (i := i) (by omega)
  obtain ⟨p0, a0, b0⟩ := (R.keeps P.kp).ldS hx
  refine .bnd a0 (.bnd b0 (.call (ztw_ (by omega) f H) fun r68 ⟨q68, _, k68⟩ => ?_))
  obtain ⟨z1, z2, z3, z4, z5⟩ := q68 _ (hf f (List.mem_of_getElem? hx))
  refine Wp.new fun h69 k69 n69 g69 => Wp.stL g69 rfl rfl rfl (by decide) fun h70 c70 n70 g70 => ?_
  rw [z1]
  refine .ifn (by simp) (.bnd (zA_ g70 rfl) (.bnd (zqC_ r68.1.1) ?_))
  have k70 : zc_ r68.2 h70 := k69.keepsS c70 fun y hy => (by have hy : y = r68.2.next := hy; omega)
  have x68 := k68.nx
  have kk : zc_ H h70 := k68.trans k70
  have A70 := P.A.keeps kk
  have n70' : h70.next = r68.2.next + 1 := by omega
  refine Wp.newE fun h73 e73 k73 n73 g73 => ?_
  have s2 := P.s2; have s1 := P.s1
  obtain ⟨l', h74, a2, A74, c74, d74⟩ := A70.push zhr_ zwD_ r68.1.1 (bytes := 48) (by decide) (by omega) (by have := kk.nx; omega)
  have e73' : h73 = h70.new (.cells (fC r68.1.1) 38 true 0) := e73
  have rd : rdS 2 (⟨some ⟨h70.next, 0, some 0⟩, 1, 1⟩ : Slc) h73 = some (fC r68.1.1) := by rw [e73']; exact zTg_ zhr_ r68.1.1 38
  rw [← e73'] at a2
  refine .bnd rd (.bnd a2 ?_)
  have lb : ∀ a, l.a = some a → a.block < H.next := fun a ha => (P.A.lt a ha).1
  have gfile : h74.get r68.2.next = some (.cells (fC r68.1.1) 38 true 0) := c74.got (by omega) (fun ⟨a, ha, e⟩ => by have := lb a ha; omega) g70
  refine .bnd (zB_ (o := 0) gfile rfl) ?_
  unfold ztl_
  obtain ⟨bot', eb⟩ := zq_ (fun _ _ _ _ _ _ _ _ _ _ _ => none) (zGh_ k (DD k) j65) (show 0 + 1 ≤ k by omega)
  have hz : r68.1.1.1.len = 0 := z2.1
  rw [eb, zg_]
  simp only [zGh_]
  refine .ifn (by rw [hz]; decide) ?_
  rw [h65]
  dsimp only
  rw [Gx.w1 (by omega)]
  have n74 := c74.nx
  have kp74 : zc_ h h74 := (P.kp.trans kk).keepsS c74 fun y ⟨a, ha, e⟩ => by have := (A70.lt a ha).2; omega
  refine ih (i + 1) h74 l' (fl ++ [r68.1.1]) (by omega) (by rw [List.length_append, hl]; rfl) ⟨kp74, ?_, A74, s1, by have := kk.nx; omega, fun p hp => ?_⟩
  ·exact zsc_.chg (P.M.chg kk s2 (fun f => f)) c74 (by have := kk.nx; omega) fun ⟨a, ha, e⟩ => by have := (A70.lt a ha).2; omega
  ·rcases List.mem_append.1 hp with hp | hp
   ·obtain ⟨w1, w2, w3⟩ := P.fe p hp
    have w2' : RowW 6 itC h70 p.2 its := zOo_ w2 kk fun _ _ _ f => f
    refine ⟨w1, zOo_ w2' c74 fun ne a ha => w3 ne a ha, fun ne a ha ⟨b, hb, e⟩ => ?_⟩
    have := d74 b hb
    have := zSr_ w2' ne a ha
    omega
   ·rw [List.mem_singleton.1 hp]
    have w2' : RowW 6 itC h70 r68.1.1.2 its := z3.keeps k70
    refine ⟨hz, zOo_ w2' c74 fun ne a ha ⟨b, hb, e⟩ => ?_, fun ne a ha ⟨b, hb, e⟩ => ?_⟩
    ·have := lb b hb
     have := z5 a ha
     omega
    ·have := d74 b hb
     have := zSr_ w2' ne a ha
     omega
end
noncomputable def filT (its : List It) (n : Nat) : Nat → List It := if n = 0 then zX_ else addL zX_ its
theorem zum_ (its : List It) (n : Nat) : zgc_ (filT its n) := by
 unfold filT
 split
 ·exact zSc_
 ·exact zKc_ zSc_
theorem zcC_ (its : List It) (n : Nat) : MaxT (filT its n) its.length := by
 unfold filT
 split
 ·exact fun i _ => Nat.zero_le _
 ·have := zFj_ (xs := its) (F := zX_) (n := 0) (fun i _ => Nat.le_refl _)
  rwa [Nat.zero_add] at this
theorem zHs_ (its : List It) (n : Nat) : ∀ i, i < 256 → addL (filT its n) its i = filT its (n + 1) i := by
 refine zWw_ (zKc_ (zum_ its n)) (zum_ its (n + 1)) fun i x hi => ?_
 have e : filT its (n + 1) = addL zX_ its := if_neg (by omega)
 rw [e]
 unfold filT
 split
 ·exact Iff.rfl
 ·rw [zCj_]
  constructor
  ·rintro (h | h)
   ·exact zCj_.2 (.inl h)
   ·exact h
  ·exact fun h => .inr h
section
variable {k : Nat} {h H H' : AHeap} {its : List It} {s : Slc}
theorem zGd_.low {base base' tb : Nat} {xs : List It} (A : zGd_ base h tb s xs) (hb : base' ≤ base) : zGd_ base' h tb s xs := by
 rcases A with A | ⟨b, sp, cap, R, A⟩
 ·exact .inl A
 ·exact .inr ⟨b, sp, cap, R, A.s, A.blk, A.one, Nat.le_trans hb A.ge, A.lt, A.ne, A.le, A.room, A.sp⟩
theorem zwC_ (hk : 1 ≤ k) (D : za_) (hs : s.len = 0) (tb : Nat) (H : AHeap) : Gx.Wp (zQb_ k D (some ⟨tb, 0, none⟩) s H) fun z => z.1 = 0 ∧ z.2 = H := by
 simp only [zQb_]
 refine Wp.jn fun j4 h4 => ?_
 unfold zrf_
 obtain ⟨bot, eb⟩ := zq_ (fun _ _ _ _ _ _ => none) (zxb_ k D j4) (show 0 + 1 ≤ k by omega)
 rw [eb, zg_]
 simp only [zxb_]
 refine .ifn (by rw [hs]; decide) ?_
 rw [h4]
 refine Wp.jn fun j6 h6 => ?_
 unfold ztf_
 obtain ⟨bot', eb'⟩ := zq_ (fun _ _ _ _ _ => none) (zsb_ k D j6) (show 0 + 1 ≤ k by omega)
 rw [eb', zg_]
 simp only [zsb_]
 refine .ifn (by rw [hs]; decide) ?_
 rw [h6]
 exact .of ⟨rfl, rfl⟩
theorem ziD_ (hk : its.length + its.length + 200 ≤ k) (hl : its.length ≤ 100000) {base tb : Nat} {sl : Nat → Slc} {n : Nat} (R : RowW 6 itC H s its) (hs : its ≠ [] → ∀ a, s.a = some a → a.block < base) (hb : base ≤ H.next) (T : Tab base H tb sl (filT its n)) (ok : ∀ x ∈ its, okI x) :
  Gx.Wp (zQb_ k (DD k) (some ⟨tb, 0, none⟩) s H) fun z => ∃ sl', Tab base z.2 tb sl' (filT its (n + 1)) ∧ Chg (TOwn tb sl) H z.2 ∧ ∀ y, TOwn tb sl' y → H.next ≤ y ∨ TOwn tb sl y := by
 by_cases e : its = []
 ·refine .mono (zwC_ (by omega) (DD k) (by rw [R.len, e]; rfl) tb H) fun z ⟨_, z2⟩ => ?_
  rw [z2]
  refine ⟨sl, T.ext fun i hi => ?_, .refl _ _, fun y hy => .inr hy⟩
  rw [← zHs_ its n i hi, e]; rfl
 ·refine .mono (zLv_ (by omega) R (N := its.length) (by omega) (by omega) (fun a ha w => ?_) hb T (zum_ its n) (zcC_ its n) ok) fun z ⟨_, sl', T', c', o'⟩ => ⟨sl', T'.ext (zHs_ its n), c', o'⟩
  have := hs e a ha
  have := (T.own w).1
  omega
theorem zVB_ (kg : KG 0 h) (hk : 200000 ≤ k) (hi : its.length ≤ 800) (ok : ∀ x ∈ its, okI x) {files l : Slc} {fs : List ByteArray} {fl : List (Slc × Slc)} {ob tb : Nat} (R : Row encS h files fs) (hsz : ∀ x ∈ fs, x.size ≤ 100000) (hn : fs.length ≤ 1000) (M : zsc_ sK bV h ob ([] : List (ByteArray × Bool × Nat))) (hob : ob < h.next)
  (L : RowW 2 fC h l fl) (hfl : fl.length = fs.length) (fe : ∀ p ∈ fl, RowW 6 itC h p.2 its)
  {j12 : (Option Addr) → Slc → AHeap → Option (((Option Addr) × Slc × Int) × AHeap)} {Q : ((Option Addr) × Slc × Int) × AHeap → Prop}
  (J : ∀ H sl c xs, zc_ h H → Tab h.next H tb sl (filT its fs.length) → Gx.Acc encS 9 h.next H c xs → xs.length ≤ fs.length → Gx.Wp (j12 (some ⟨tb, 0, none⟩) c H) Q) (bot) :
  ∀ (d i : Nat) (H : AHeap) (sl : Nat → Slc) (c : Slc) (xs : List ByteArray), i + d = fs.length → zc_ h H → Tab h.next H tb sl (filT its i) → Gx.Acc encS 9 h.next H c xs → xs.length ≤ i →
  Gx.Wp (zi_ bot (d + 1) (zde_ k (DD k) j12) files (some ⟨tb, 0, none⟩) c (some ob) l (fs.length : Int) (i : Int) H) Q := by
 intro d
 induction d with
 | zero =>
  intro i H sl c xs hd kp T A hx
  rw [zg_]; simp only [zde_]
  obtain rfl : i = fs.length := by omega
  exact .ifn (fun w => by have := of_decide_eq_true w; omega) (J H sl c xs kp T A hx)
 | succ d ih =>
  intro i H sl c xs hd kp T A hxs
  rw [zg_]; simp only [zde_]
  refine .ifp (decide_eq_true (by omega)) (Wp.jn fun j32 h32 => ?_)
  obtain ⟨f, hx⟩ := zv_ (l := fs) (i := i) (by omega)
  obtain ⟨p, hp⟩ := zv_ (l := fl) (i := i) (by omega)
  obtain ⟨q, b1, b2, _, _⟩ := (L.keeps kp).ld zhr_ (by decide) hp
  refine .bnd b1 (.bnd b2 (.bnd (zqC_ p) (Wp.new fun h36 k36 n36 g36 => Wp.stL g36 rfl rfl rfl (by decide) fun h37 c37 n37 g37 => ?_)))
  have k37 : zc_ H h37 := k36.keepsS c37 fun y hy => (by have hy : y = H.next := hy; omega)
  have n37' : h37.next = H.next + 1 := by omega
  obtain ⟨p0, a0, b0⟩ := (R.keeps (kp.trans k37)).ldS hx
  refine .bnd a0 (.bnd b0 (Wp.newE fun h40 e40 k40 n40 g40 => ?_))
  have k040 : zc_ h h40 := (kp.trans k37).trans k40
  refine .call (zFk_ (DD k) (kg.chg k040 fun f => f) (by omega) g40 (by omega) (hsz f (List.mem_of_getElem? hx))) fun r41 ⟨q41, k41⟩ => ?_
  have x41 := k41.nx
  have kz : zc_ H r41.2 := (k37.trans k40).trans k41
  have k0 : zc_ h r41.2 := kp.trans kz
  have M41 := M.chg k0 hob (fun f => f)
  have lk := M41.look (n := r41.1) (fun e he => by cases he) (dec := decB) (dv := fun v : Bool => v) (fun v => rfl) (z := .bool false) (z0 := false) rfl
  refine .bnd lk (.ifn (by simp [lkM]) (.bnd (zB_ (o := 1) (zc_.got (k40.trans k41) (by omega) g37) rfl) ?_))
  have w2 : RowW 6 itC r41.2 p.2 its := (fe p (List.mem_of_getElem? hp)).keeps k0
  have x0 := kp.nx
  refine .call (ziD_ (by omega) (by omega) w2 (fun ne a ha => zSr_ (fe p (List.mem_of_getElem? hp)) ne a ha) (by have := k0.nx; omega) (T.keeps kz) ok) fun r44 ⟨sl', T', c', o'⟩ => ?_
  have A41 := A.keeps kz
  have A44 : Gx.Acc encS 9 h.next r44.2 c xs := A41.chg c' fun a ha w => by
   obtain ⟨cc, g⟩ := zxh_ A41 ha
   exact (T.keeps kz).other g (by decide) (by decide) w
  have k44 : zc_ h r44.2 := k0.keepsS c' fun y hy => ((T.keeps kz).own hy).1
  refine Wp.newE fun h45 e45 k45 n45 g45 => ?_
  obtain ⟨s', h46, a2, b2', A46, c46, d46⟩ := A44.pushK (fun _ => rfl) r41.1 (bytes := 16) e45 (by omega) (by decide) k44.nx
  refine .bnd a2 (.bnd b2' ?_)
  rw [h32]
  dsimp only
  rw [Gx.w1 (by omega)]
  refine ih (i + 1) h46 sl' s' (xs ++ [r41.1]) (by omega) (k44.keepsS c46 fun y ⟨a, ha, e⟩ => by rw [e]; exact (A44.lt a ha).2) (T'.chg c46 fun y hy ⟨a, ha, e⟩ => ?_) A46 (by rw [List.length_append]; simp; omega)
  obtain ⟨cc, g⟩ := zxh_ A44 ha
  rw [e] at hy
  exact T'.other g (by decide) (by decide) hy
theorem zdy_ (kg : KG 0 h) (hk : 200000 ≤ k) (hi : its.length ≤ 800) (ok : ∀ x ∈ its, okI x) {files : Slc} {fs : List ByteArray} (R : Row encS h files fs) (hf : ∀ x ∈ fs, decF (bl x) = some ([], its)) (hsz : ∀ x ∈ fs, x.size ≤ 100000) (hn : fs.length ≤ 1000) :
  Gx.Wp (zpi_ k (DD k) files h) fun z => ∃ tb, z.1.1 = some ⟨tb, 0, none⟩ ∧ z.1.2.2 = 0 ∧ (∃ sl, Tab h.next z.2 tb sl (filT its fs.length)) ∧ zc_ h z.2 := by
 simp only [zpi_]
 refine Wp.new fun h1 k1 n1 g1 => Wp.jn fun j7 h7 => ?_
 unfold zcl_
 obtain ⟨bot, eb⟩ := zq_ (fun _ _ _ _ _ _ _ _ => none) (zee_ k (DD k) j7) (show fs.length + 1 ≤ k by omega)
 have il : (files.len : Int) = (fs.length : Int) := by rw [R.1]
 rw [eb, il, show (0 : Int) = ((0 : Nat) : Int) from rfl]
 refine zZA_ (by omega) R hf hn (fun H l fl hl P => ?_) bot fs.length 0 h1 ⟨none, 0, 0⟩ [] (by omega) rfl ⟨k1, g1, AccW.nil _ _ _ _ _, Nat.le_refl _, by omega, fun p hp => (List.not_mem_nil hp).elim⟩
 rw [h7]
 obtain ⟨h8, e8, k8, T8⟩ := zPu_ k (DD k) H
 refine .bnd e8 (Wp.jn fun j12 h12 => ?_)
 have L := P.A.row zhr_
 unfold zil_
 obtain ⟨bot', eb'⟩ := zq_ (fun _ _ _ _ _ _ _ _ => none) (zde_ k (DD k) j12) (show fs.length + 1 ≤ k by omega)
 have ll : (l.len : Int) = (fs.length : Int) := by rw [L.len, hl]
 rw [eb', ll, show (0 : Int) = ((0 : Nat) : Int) from rfl]
 refine zVB_ (h := H) (kg.chg P.kp fun f => f) hk hi ok (R.keeps P.kp) hsz hn P.M P.s2 L hl (fun p hp => (P.fe p hp).2.1) (fun H2 sl c xs kp2 T A hx => ?_) bot' fs.length 0 h8 _ ⟨none, 0, 0⟩ [] (by omega) k8 T8 (Acc.nil _ _ _ _) (by simp)
 rw [h12]
 obtain ⟨h13, s1, A13, c13⟩ := zxB_ A (by omega)
 refine .bnd s1 ?_
 have no : ∀ {H' : AHeap} {xs' : List ByteArray} {sl : Nat → Slc}, Gx.Acc encS 9 H.next H' c xs' → Tab H.next H' H.next sl (filT its fs.length) → ∀ y, TOwn H.next sl y → ¬ ofS c y := fun A T y hy ⟨a, ha, e⟩ => by
  obtain ⟨cc, g⟩ := zxh_ A ha
  rw [e] at hy
  exact T.other g (by decide) (by decide) hy
 have T13 := T.chg c13 (no A T)
 refine .call (zfu_ (DD k) A13 (by rw [zGi_]; omega) (by rw [zGi_]; omega)) fun r14 ⟨_, _, _, c14⟩ => .of ⟨H.next, rfl, rfl, ⟨sl, ?_⟩, ?_⟩
 ·have T14 := T13.chg c14 (no A13 T13)
  have := P.kp.nx
  exact ⟨T14.blk, T14.lt, by omega, fun i hi => (T14.slot i hi).low this, T14.apart⟩
 ·exact (P.kp.trans kp2).keepsS (c13.beh c14 fun y _ hy => hy) fun y ⟨a, ha, e⟩ => (by have := (A.lt a ha).2; have := P.kp.nx; omega)
end
noncomputable def itsP (packs : List (PSt × List Tx)) : List It := packs.flatMap fun p => finI p.1
theorem zbq_ {q : PSt} {ts : List Tx} (G : GoodP q ts) : finI q = znd_ (dg ⟨⟨finB q⟩⟩) ts 5 := by
 unfold finI
 rw [G.i, zRn_]; rfl
section
variable {cs : List ByteArray} {packs : List (PSt × List Tx)} {p : PSt × List Tx}
theorem PkOk.parse (h : PkOk cs p) : zoc_ (bl (zib_ p)) = some (finI p.1) := by
 obtain ⟨_, _, _, z4, z5⟩ := zwh_ h.G h.S
 exact zzs_ h.G (by omega) (by omega) h.ne
theorem PkOk.size (h : PkOk cs p) : (zib_ p).size ≤ 300 := by
 obtain ⟨_, _, _, z4, z5⟩ := zwh_ h.G h.S
 show (finB p.1).length ≤ 300
 exact z5
theorem zFs_ : ∀ {packs : List (PSt × List Tx)} (F : Nat → List It), (∀ p ∈ packs, PkOk cs p) → (packs.map zib_).foldl zYe_ F = addL F (itsP packs)
 | [], F, _ => rfl
 | p :: r, F, h => by
  rw [List.map_cons, List.foldl_cons]
  have e : zYe_ F (zib_ p) = addL F (finI p.1) := by
   unfold zYe_
   rw [(h p (by simp)).parse]
  rw [e, zFs_ _ fun p hp => h p (by simp [hp])]
  have e2 : itsP (p :: r) = finI p.1 ++ itsP r := by unfold itsP; rw [List.flatMap_cons]
  rw [e2, zNA_]
theorem zMs_ : ∀ {packs : List (PSt × List Tx)} (i : Nat), (∀ p ∈ packs, PkOk cs p) → badN i (packs.map zib_) = []
 | [], _, _ => rfl
 | p :: r, i, h => by
  rw [List.map_cons]
  unfold badN
  rw [(h p (by simp)).parse]
  exact zMs_ (i + 1) fun p hp => h p (by simp [hp])
theorem zjx_ (h : ∀ p ∈ packs, PkOk cs p) : ∀ x ∈ itsP packs, okI x := fun x hx => by
 obtain ⟨p, hp, hx⟩ := List.mem_flatMap.1 hx
 exact (zQo_ (h p hp).parse).1 x hx
theorem zRt_ : ∀ {packs : List (PSt × List Tx)}, (∀ p ∈ packs, PkOk cs p) → (itsP packs).length ≤ totP packs
 | [], _ => by simp [itsP]
 | p :: r, h => by
  have h1 := zRt_ (packs := r) fun q hq => h q (List.mem_cons_of_mem _ hq)
  have e : (finI p.1).length = p.2.length := by rw [zbq_ (h p (by simp)).G, zPi_]
  have e2 : (itsP (p :: r)).length = (finI p.1).length + (itsP r).length := by unfold itsP; rw [List.flatMap_cons, List.length_append]
  have e3 : totP (p :: r) = p.2.length + totP r := by simp [totP]
  omega
theorem zSy_ (pid : ByteArray) {ts : List Tx} {off : Nat} {x : It} (h : x ∈ znd_ pid ts off) : ∃ (i : Nat) (t : Tx), ts[i]? = some t ∧ x = (idT t, pid, (t.1 : Int), ((off + (zH_ (ts.take i)).length : Nat) : Int), (lenT t : Int), (t.2.size : Int)) := by
 obtain ⟨i, hi⟩ := List.getElem?_of_mem h
 have hl := (List.getElem?_eq_some_iff.1 hi).1
 rw [zPi_] at hl
 refine ⟨i, ts[i], by simp [hl], ?_⟩
 have := zDo_ pid ts off i ts[i] (by simp [hl])
 rw [hi] at this
 exact Option.some.inj this
theorem zWu_ (F : Nat → List It) (x : It) : ∀ n, zw_ (addF F x) n ≤ zw_ F n + (if idx x.1 < n then 1 else 0)
 | 0 => by simp [zw_]
 | n + 1 => by
  have ih := zWu_ F x n
  rw [zwd_, zwd_]
  by_cases e : n = idx x.1
  ·have : (addF F x n).length ≤ (F n).length + 1 := by
    unfold addF upd
    rw [if_pos e, ← e]
    exact zkx_ _ _
   rw [if_neg (by omega)] at ih
   rw [if_pos (by omega)]
   omega
  ·have : addF F x n = F n := by unfold addF upd; rw [if_neg e]
   rw [this]
   split at ih
   ·rw [if_pos (by omega)]; omega
   ·rw [if_neg (by omega)]; omega
theorem zqq_ (n : Nat) (hn : n = 256) : ∀ (xs : List It) (F : Nat → List It), zw_ (addL F xs) n ≤ zw_ F n + xs.length
 | [], F => Nat.le_refl _
 | x :: xs, F => by
  have h1 := zqq_ n hn xs (addF F x)
  have h2 := zWu_ F x n
  have h3 : idx x.1 < n := by rw [hn]; exact zIi_ _
  rw [if_pos h3] at h2
  have e : addL F (x :: xs) = addL (addF F x) xs := by unfold addL; rw [List.foldl_cons]
  rw [e, List.length_cons]; omega
theorem zvr_ : zw_ zX_ 256 = 0 := zRC_ fun _ _ => rfl
theorem zyA_ : InT zX_ := fun _ _ _ h => by cases h
theorem zgC_ {F : Nat → List It} {x : It} : x ∈ allF F ↔ ∃ i, i < 256 ∧ x ∈ F i := by
 have key : ∀ n, x ∈ zRb_ F n ↔ ∃ i, i < n ∧ x ∈ F i := fun n => by
  induction n with
  | zero => simp [zRb_]
  | succ n ih =>
   rw [zWh_, List.mem_append, ih]
   constructor
   ·rintro (⟨i, h1, h2⟩ | h)
    ·exact ⟨i, by omega, h2⟩
    ·exact ⟨n, by omega, h⟩
   ·rintro ⟨i, h1, h2⟩
    by_cases e : i = n
    ·subst e; exact .inr h2
    ·exact .inl ⟨i, by omega, h2⟩
 exact key 256
theorem zfi_ {its : List It} {x : It} {i : Nat} : x ∈ addL zX_ its i ↔ x ∈ its ∧ i = idx x.1 := by
 rw [zCj_]
 constructor
 ·rintro (h | h)
  ·exact h
  ·cases h
 ·exact .inl
theorem zpu_ {its : List It} {x : It} : x ∈ allF (addL zX_ its) ↔ x ∈ its := by
 rw [zgC_]
 constructor
 ·rintro ⟨i, _, h⟩
  exact (zfi_.1 h).1
 ·exact fun h => ⟨idx x.1, zIi_ _, zfi_.2 ⟨h, rfl⟩⟩
theorem zVD_ {its : List It} {n : Nat} (hn : n ≠ 0) : ∀ i, i < 256 → filT (allF (addL zX_ its)) n i = addL zX_ its i := by
 have e : filT (allF (addL zX_ its)) n = addL zX_ (allF (addL zX_ its)) := if_neg hn
 rw [e]
 exact zWw_ (zKc_ zSc_) (zKc_ zSc_) fun i x hi => by rw [zfi_, zfi_, zpu_]
theorem zMy_ (its : List It) : zWb_ (allF (addL zX_ its)) := zSx_ (zKc_ zSc_) (zAC_ zyA_)
theorem ziB_ (its : List It) : (allF (addL zX_ its)).length ≤ its.length := by
 unfold allF
 rw [zVd_]
 have := zqq_ 256 rfl its zX_
 rw [zvr_] at this
 omega
theorem zFC_ {xs : List It} {id : ByteArray} {p : Pl} (h : getL xs id = (p, true)) : (id, p) ∈ xs := by
 unfold getL zGe_ at h
 split at h
 ·cases h
 ·rename_i p' l e
  cases h
  have : p ∈ (xs.filter fun y => decide (y.1 = id)).map (·.2) := by rw [e]; simp
  obtain ⟨y, hy, rfl⟩ := List.mem_map.1 this
  obtain ⟨h1, h2⟩ := List.mem_filter.1 hy
  have : y.1 = id := by simpa using h2
  rw [← this]; exact h1
theorem PartsP.find {text : List UInt8} {ps idl : List ByteArray} {letv : Bool} (P : PartsP text ps idl letv cs packs) (hl : letv = false) {c : ByteArray} (hc : c ∈ cs) {F : Nat → List It} (hF : ∀ i, i < 256 → F i = addL zX_ (itsP packs) i) :
  ∃ p ∈ packs, ∃ off : Nat, getL (F (idx (id1 c))) (id1 c) = ((dg (zib_ p), (1 : Int), (off : Int), ((encP 1 (bl c)).length : Int), (c.size : Int)), true) ∧
   ((bl (zib_ p)).drop off).take (encP 1 (bl c)).length = encP 1 (bl c) ∧ off + (encP 1 (bl c)).length ≤ (zib_ p).size ∧ okI (id1 c, (dg (zib_ p), (1 : Int), (off : Int), ((encP 1 (bl c)).length : Int), (c.size : Int))) := by
 rw [hF _ (zIi_ _)]
 obtain ⟨p, hp, hx⟩ := P.cov hl c hc
 obtain ⟨i, hi⟩ := List.getElem?_of_mem hx
 have G := (P.pk p hp).G
 have hz := zDo_ (dg ⟨⟨finB p.1⟩⟩) p.2 5 i (1, c) hi
 obtain ⟨z, ez⟩ : ∃ z : It, z = (idT (1, c), dg ⟨⟨finB p.1⟩⟩, ((1 : Nat) : Int), ((5 + (zH_ (p.2.take i)).length : Nat) : Int), (lenT (1, c) : Int), (c.size : Int)) := ⟨_, rfl⟩
 have zm : z ∈ itsP packs := List.mem_flatMap.2 ⟨p, hp, by rw [zbq_ G, ez]; exact List.mem_of_getElem? hz⟩
 have zi : z.1 = id1 c := by rw [ez]; rfl
 have zt : z ∈ addL zX_ (itsP packs) (idx (id1 c)) := zfi_.2 ⟨zm, by rw [zi]⟩
 obtain ⟨pl, e1, _⟩ := zOz_ ((zKc_ (xs := itsP packs) zSc_) _ (zIi_ _)) zt
 rw [zi] at e1
 have hin := (zfi_.1 (zFC_ e1)).1
 obtain ⟨p', hp', hy⟩ := List.mem_flatMap.1 hin
 have G' := (P.pk p' hp').G
 rw [zbq_ G'] at hy
 obtain ⟨j, t, ht, ey⟩ := zSy_ _ hy
 obtain ⟨t1, t2⟩ := (P.pk p' hp').tx t (List.mem_of_getElem? ht)
 have et : t = (1, t.2) := by rw [← t1]
 have eid : id1 c = id1 t.2 := by
  have := congrArg Prod.fst ey
  have w : idT t = id1 t.2 := by unfold idT id1; rw [t1]
  exact Eq.trans this w
 have ec : c = t.2 := P.inj hl c hc t.2 t2 eid
 rw [et, ← ec] at ht ey
 obtain ⟨s1, s2⟩ := zFz_ G' ht
 have epl : pl = (dg (zib_ p'), (1 : Int), ((5 + (zH_ (p'.2.take j)).length : Nat) : Int), ((encP 1 (bl c)).length : Int), (c.size : Int)) := congrArg Prod.snd ey
 refine ⟨p', hp', 5 + (zH_ (p'.2.take j)).length, by rw [e1, epl], s1, s2, ?_⟩
 rw [← epl]
 exact zjx_ P.pk _ hin
end
theorem Wp.both {R : Type} {x : Option R} {P Q : R → Prop} (h1 : Gx.Wp x P) (h2 : Gx.Wp x Q) : Gx.Wp x fun r => P r ∧ Q r := by
 obtain ⟨r, e, p⟩ := h1
 obtain ⟨r', e', q⟩ := h2
 rw [e] at e'
 cases e'
 exact ⟨r, e, p, q⟩
theorem Wp.when {R : Type} {x : Option R} {P Q : R → Prop} {b : Bool} (h1 : Gx.Wp x P) (h2 : b = false → Gx.Wp x Q) : Gx.Wp x fun r => P r ∧ (b = false → Q r) := by
 cases b with
 | true => exact h1.mono fun r p => ⟨p, fun e => by cases e⟩
 | false => exact (Wp.both h1 (h2 rfl)).mono fun r p => ⟨p.1, fun _ => p.2⟩
section
variable {k : Nat} {h : AHeap}
theorem zPx_ (D : za_) (kg : KG 0 h) (hk : 1200000 ≤ k) {s : ByteArray} (hs : s.size ≤ 4000) (pl : Pl) (id : ByteArray) : Gx.Wp (zKf_ k D s pl id h) fun z => zc_ h z.2 ∧ (z.1.2.2 = 0 → (z.1.2.1.size : Int) = pl.2.2.2.2) := by
 obtain ⟨pid, kd, off, lg, sz⟩ := pl
 simp only [zKf_]
 refine Wp.newE fun h1 e1' k1 n1 g1 => Wp.jn fun j7 h7 => ?_
 have bad : ∀ a, Gx.Wp (j7 s id a true h1) fun z => zc_ h z.2 ∧ (z.1.2.2 = 0 → (z.1.2.1.size : Int) = sz) := fun a => by
  rw [h7]
  exact .ifp rfl (.of ⟨k1, fun w => by cases w⟩)
 refine .bnd (zp_ (o := 2) g1 rfl) ?_
 by_cases c1 : off < 0
 ·exact .ifp (decide_eq_true c1) (bad _)
 refine .ifn (fun w => c1 (of_decide_eq_true w)) (.bnd (zp_ (o := 3) g1 rfl) ?_)
 by_cases c2 : lg < 0
 ·exact .ifp (decide_eq_true c2) (bad _)
 refine .ifn (fun w => c2 (of_decide_eq_true w)) (.bnd (zp_ (o := 2) g1 rfl) ?_)
 by_cases c3 : off > (s.size : Int)
 ·exact .ifp (decide_eq_true c3) (bad _)
 refine .ifn (fun w => c3 (of_decide_eq_true w)) (.bnd (zp_ (o := 3) g1 rfl) (.bnd (zp_ (o := 2) g1 rfl) ?_))
 rw [Gx.w64 _ (by omega)]
 by_cases c4 : lg > (s.size : Int) - off
 ·rw [decide_eq_true c4]; exact bad _
 rw [decide_eq_false c4, h7]
 refine .ifn (by decide) (.bnd rfl (.bnd (zp_ (o := 0 + 2) g1 rfl) (.bnd rfl (.bnd (zp_ (o := 0 + 2) g1 rfl) (.bnd rfl (.bnd (zp_ (o := 0 + 3) g1 rfl) ?_))))))
 obtain ⟨o, rfl⟩ : ∃ o : Nat, off = (o : Int) := ⟨off.toNat, by omega⟩
 obtain ⟨n, rfl⟩ : ∃ n : Nat, lg = (n : Int) := ⟨lg.toNat, by omega⟩
 rw [show IntKind.wrap .i64 ((o : Int) + (n : Int)) = ((o + n : Nat) : Int) by rw [Gx.w64 _ (by omega)]; omega]
 have bs : (bl s).length = s.size := zh_ s
 refine .bnd (zFb_ (i := o) (j := o + n) rfl rfl (by omega) (by omega)) ?_
 have hz : (⟨⟨((bl s).take (o + n)).drop o⟩⟩ : ByteArray).size ≤ 4000 := by
  rw [zXb_, List.length_drop, List.length_take]; omega
 refine .call (zRs_ D (kg.chg k1 fun f => f) hk hz id) fun r15 ⟨_, k15⟩ => ?_
 have g15 := k15.got (by omega) g1
 by_cases c5 : r15.1.2.2 = 0
 rotate_left
 ·exact .ifp (by simpa using c5) (.of ⟨k1.trans k15, fun w => absurd w c5⟩)
 refine .ifn (by simp [c5]) (Wp.jn fun j20 h20 => .bnd rfl (.bnd (zp_ (o := 0 + 1) g15 rfl) ?_))
 have bad2 : ∀ a b, Gx.Wp (j20 a b true r15.2) fun z => zc_ h z.2 ∧ (z.1.2.2 = 0 → (z.1.2.1.size : Int) = sz) := fun a b => by
  rw [h20]
  exact .ifp rfl (.of ⟨k1.trans k15, fun w => by cases w⟩)
 by_cases c6 : r15.1.1 = kd
 rotate_left
 ·exact .ifp (by simpa using c6) (bad2 _ _)
 refine .ifn (by simp [c6]) (.bnd rfl (.bnd (zp_ (o := 0 + 4) g15 rfl) ?_))
 by_cases c7 : (r15.1.2.1.size : Int) = sz
 ·rw [show ((r15.1.2.1.size : Int) != sz) = false by simp [c7], h20]
  exact .ifn (by decide) (.of ⟨k1.trans k15, fun _ => c7⟩)
 ·rw [show ((r15.1.2.1.size : Int) != sz) = true by simpa using c7]
  exact bad2 _ _
structure OfP (ps : List ByteArray) (i : Nat) (es : zEg_) : Prop where
 all : ∀ s ∈ ps.take i, ∃ s', lkM (dg s) es = some s' ∧ s' ∈ ps ∧ dg s' = dg s
 mem : ∀ id v, lkM id es = some v → v ∈ ps
theorem zIC_ (D : za_) (kg : KG 0 h) (hk : 200000 ≤ k) {l : Slc} {ps : List ByteArray} (R : Row encS h l ps) (hn : ps.length ≤ 100000) (hsz : ∀ x ∈ ps, x.size ≤ 100000) {ob : Nat} (hob : h.next ≤ ob) {text : ByteArray} {ids : Slc} {letv : Bool} {t m : Option Addr} {e : Int}
  {j34 : ByteArray → Slc → Slc → Bool → (Option Addr) → Int → (Option Addr) → (Option Nat) → AHeap → Option (Bool × AHeap)} {Q : Bool × AHeap → Prop}
  (J : ∀ H es, zc_ h H → zsc_ sK sK H ob es → ob < H.next → OfP ps ps.length es → Gx.Wp (j34 text l ids letv t e m (some ob) H) Q) (bot) :
  ∀ (d i : Nat) (H : AHeap) (es : zEg_), i + d = ps.length → zc_ h H → zsc_ sK sK H ob es → ob < H.next → OfP ps i es →
  Gx.Wp (zi_ bot (d + 1) (zBd_ k D j34) text l ids letv t e m (some ob) l (ps.length : Int) (i : Int) H) Q := by
 intro d
 induction d with
 | zero =>
  intro i H es hd kp M lt P
  rw [zg_]; simp only [zBd_]
  obtain rfl : i = ps.length := by omega
  exact .ifn (fun w => by have := of_decide_eq_true w; omega) (J H es kp M lt P)
 | succ d ih =>
  intro i H es hd kp M lt P
  rw [zg_]; simp only [zBd_]
  refine .ifp (decide_eq_true (by omega)) ?_
  obtain ⟨x, hx⟩ := zv_ (l := ps) (i := i) (by omega)
  have xm := List.mem_of_getElem? hx
  obtain ⟨p0, a0, b0⟩ := (R.keeps kp).ldS hx
  refine .bnd a0 (.bnd b0 (Wp.new fun h1 k1 n1 g1 => .call (zFk_ D (kg.chg (kp.trans k1) fun f => f) (by omega) g1 (by omega) (hsz x xm)) fun r ⟨q, k2⟩ => .bnd rfl ?_))
  have kk : zc_ H r.2 := k1.trans k2
  have M2 := M.chg kk lt (fun f => f)
  obtain ⟨h', u1, u2, u3, u4⟩ := M2.upd (n := r.1) (fun e _ => zeh_ r.1 e.1) x
  rw [Gx.w1 (by omega)]
  have et : ps.take (i + 1) = ps.take i ++ [x] := by rw [List.take_add_one, hx]; rfl
  refine .bnd u1 (ih (i + 1) h' _ (by omega) ((kp.trans kk).keepsS u3 fun y hy => (by have hy : y = ob := hy; omega)) u2 (by have := kk.nx; omega) ⟨fun s hs => ?_, fun id v hv => ?_⟩)
  ·rw [zZg_, q]
   by_cases c : dg s = dg x
   ·rw [if_pos c]; exact ⟨x, rfl, xm, c.symm⟩
   ·rw [if_neg c]
    rw [et] at hs
    rcases List.mem_append.1 hs with hs | hs
    ·exact P.all s hs
    ·rw [List.mem_singleton.1 hs] at c; exact absurd rfl c
  ·rw [zZg_] at hv
   split at hv
   ·cases hv; exact xm
   ·exact P.mem id v hv
end
theorem zWD_ {h : AHeap} {b : Nat} {t : ByteArray} {c : List Value} {e : TypeId} {r : Bool} {fz : Nat} (g : h.get b = some (.cells (.string t :: c) e r fz)) : ldS ⟨b, 0, none⟩ h = some t := by
 simp [ldS, AHeap.rd1, g, decS]
section
variable {k : Nat} {h : AHeap}
theorem zFx_ (kg : KG 0 h) (hk : 1200000 ≤ k) {ids : Slc} {cs : List ByteArray} (R : Row encS h ids (cs.map id1)) (hl : cs.length ≤ 400) {base tb : Nat} {sl : Nat → Slc} {F : Nat → List It} (T : Tab base h tb sl F) (hr : zgc_ F) {N : Nat} (hm : MaxT F N) (hN : N ≤ 1000000)
  {ofb : Nat} {es : zEg_} (M : zsc_ sK sK h ofb es) (hofb : ofb < h.next) (hes : ∀ id v, lkM id es = some v → v.size ≤ 300) {lt : Bool} {text : ByteArray}
  (find : lt = false → ∀ c ∈ cs, c.size ≤ 50 ∧ ∃ (s : ByteArray) (off : Nat), getL (F (idx (id1 c))) (id1 c) = ((dg s, (1 : Int), (off : Int), ((encP 1 (bl c)).length : Int), (c.size : Int)), true) ∧
   ((bl s).drop off).take (encP 1 (bl c)).length = encP 1 (bl c) ∧ off + (encP 1 (bl c)).length ≤ s.size ∧ okI (id1 c, (dg s, (1 : Int), (off : Int), ((encP 1 (bl c)).length : Int), (c.size : Int))) ∧ lkM (dg s) es = some s ∧ s.size ≤ 300)
  (hcat : lt = false → cs.flatMap bl = bl text)
  {j57 : ByteArray → Bool → (Option Addr) → AHeap → Option (Bool × AHeap)} (hj : j57 = fun (text53 : ByteArray) (letv54 : Bool) (out55 : Option Addr) (h56 : AHeap) =>
   (zK_ k (DD k) out55 h56).bind fun r58 => if (r58.1 == text53) = true then some (true, r58.2) else some (letv54, r58.2)) (bot) :
  ∀ (d i : Nat) (H : AHeap) (s : Slc) (l : List UInt8), i + d = cs.length → zc_ h H → BuS h.next H h.next s l → (lt = false → l = (cs.take i).flatMap bl) → l.length ≤ 65536 * i →
  Gx.Wp (zi_ bot (d + 1) (zxd_ k (DD k) j57) text lt (some ⟨tb, 0, none⟩) (some ofb) (some ⟨h.next, 0, none⟩) ids (cs.length : Int) (i : Int) H) fun z => z.1 = true := by
 intro d
 induction d with
 | zero =>
  intro i H s l hd kp B hlt hsz
  rw [zg_]; simp only [zxd_]
  refine .ifn (fun w => by have := of_decide_eq_true w; omega) ?_
  rw [hj]
  refine .call (zBo_ (DD k) B (by omega)) fun r ⟨e, _⟩ => ?_
  cases lt with
  | true =>
   by_cases c : (r.1 == text) = true
   ·exact .ifp c (.of rfl)
   ·exact .ifn c (.of rfl)
  | false =>
   refine .ifp ?_ (.of rfl)
   rw [e, hlt rfl, List.take_of_length_le (by omega), hcat rfl, zOe_]
   exact decide_eq_true rfl
 | succ d ih =>
  intro i H s l hd kp B hlt hsz
  rw [zg_]; simp only [zxd_]
  refine .ifp (decide_eq_true (by omega)) ?_
  obtain ⟨c, hc⟩ := zv_ (l := cs) (i := i) (by omega)
  have cm := List.mem_of_getElem? hc
  have hx : (cs.map id1)[i]? = some (id1 c) := by rw [List.getElem?_map, hc]; rfl
  obtain ⟨p0, a0, b0⟩ := (R.keeps kp).ldS hx
  refine .bnd a0 (.bnd b0 (.call (zbB_ (T.keeps kp) hr hm (by omega) (by omega) (id1 c)) fun r71 ⟨q71, k71⟩ => ?_))
  obtain ⟨pl, ok, epl⟩ : ∃ pl ok, getL (F (idx (id1 c))) (id1 c) = (pl, ok) := ⟨_, _, rfl⟩
  rw [epl] at q71
  rw [q71]
  refine Wp.new fun h72 k72 n72 g72 => Wp.stL g72 rfl rfl rfl (by decide) fun h73 c73 n73 g73 => ?_
  have k73 : zc_ r71.2 h73 := k72.keepsS c73 fun y hy => (by have hy : y = r71.2.next := hy; omega)
  have kk : zc_ H h73 := k71.trans k73
  have kp73 := kp.trans kk
  refine .bnd (zWD_ g73) ?_
  have lk := (M.chg kp73 hofb (fun f => f)).look (n := pl.1) (fun e _ => zeh_ pl.1 e.1) (dec := decS) (dv := fun v : ByteArray => v) (fun v => rfl) (z := .string ⟨#[]⟩) (z0 := ⟨#[]⟩) rfl
  obtain ⟨pv, lk2, ev, esz⟩ : ∃ pv : ByteArray × Bool, zuc_ decS (.string ⟨#[]⟩) h73 (some ofb) (.string pl.1) = some pv ∧ (∀ v, lkM pl.1 es = some v → pv.1 = v) ∧ pv.1.size ≤ 300 := by
   refine ⟨_, lk, ?_⟩
   cases hq : lkM pl.1 es with
   | some v => exact ⟨(fun v' e => by cases e; rfl), hes _ _ hq⟩
   | none => exact ⟨(fun v' e => by cases e), by decide⟩
  refine .bnd lk2 ?_
  obtain ⟨sv, hsv⟩ : ∃ sv, sv = pv.1 := ⟨_, rfl⟩
  rw [← hsv] at ev esz ⊢
  refine .bnd (zA_ g73 rfl) (.bnd (zcp_ pl) ?_)
  have good : lt = false → ∃ (off : Nat), pl = (dg sv, (1 : Int), (off : Int), ((encP 1 (bl c)).length : Int), (c.size : Int)) ∧ ok = true ∧ ((bl sv).drop off).take (encP 1 (bl c)).length = encP 1 (bl c) ∧ off + (encP 1 (bl c)).length ≤ sv.size ∧ okI (id1 c, pl) ∧ c.size ≤ 50 := fun e => by
   obtain ⟨c50, s', off, f1, f2, f3, f4, f5, f6⟩ := find e c cm
   rw [epl] at f1
   have e1 := congrArg Prod.fst f1
   have e2 := congrArg Prod.snd f1
   simp only at e1 e2
   have es' : sv = s' := ev s' (by rw [e1]; exact f5)
   subst es'
   exact ⟨off, e1, e2, f2, f3, by rw [e1]; exact f4, c50⟩
  have wb : Gx.Wp (zKf_ k (DD k) sv pl (id1 c) h73) fun z => (zc_ h73 z.2 ∧ (z.1.2.2 = 0 → (z.1.2.1.size : Int) = pl.2.2.2.2)) ∧ (lt = false → z.1 = ((1 : Int), c, 0)) := by
   refine Wp.when (zPx_ (DD k) (kg.chg kp73 fun f => f) hk (by omega) pl (id1 c)) fun e => ?_
   obtain ⟨off, f1, _, f2, f3, _, c50⟩ := good e
   rw [f1]
   exact (zCw_ (DD k) (kg.chg kp73 fun f => f) hk (by omega) (c := 1) (.inl rfl) (t := c) (pid := dg sv) (by omega) f3 f2).mono fun z q => q.1
  refine .call wb fun r78 ⟨⟨k78, z78⟩, w78⟩ => Wp.jn fun j90 h90 => ?_
  have stop : ∀ (x : ByteArray) (H' : AHeap), lt = true → Gx.Wp (j90 text lt (some ⟨tb, 0, none⟩) (some ofb) (some ⟨h.next, 0, none⟩) x ids (cs.length : Int) (i : Int) true H') fun z => z.1 = true := fun x H' e => by
   rw [h90]
   exact .ifp rfl (.of e)
  have kt : lt = true ∨ lt = false := by cases lt <;> simp
  by_cases c1 : ok = true
  rotate_left
  ·refine .ifp (by simpa using c1) (stop _ _ ?_)
   rcases kt with e | e
   ·exact e
   ·obtain ⟨_, _, f, _⟩ := good e; exact absurd f c1
  refine .ifn (by simp [c1]) ?_
  by_cases c2 : r78.1.2.2 = 0
  rotate_left
  ·refine .ifp (by simpa using c2) (stop _ _ ?_)
   rcases kt with e | e
   ·exact e
   ·exact absurd (by rw [w78 e]) c2
  refine .ifn (by simp [c2]) (.bnd (zA_ (k78.got (by omega) g73) rfl) (.bnd (zcp_ pl) (.call (zem_ k (DD k) (id1 c, pl) r78.2) fun r94 ⟨q94, k94⟩ => ?_)))
  rw [q94]
  by_cases c3 : okI (id1 c, pl)
  rotate_left
  ·rw [show (chkI (id1 c, pl) != 0) = true by unfold chkI; rw [if_neg c3]; rfl]
   refine stop _ _ ?_
   rcases kt with e | e
   ·exact e
   ·obtain ⟨_, _, _, _, _, f, _⟩ := good e; exact absurd f c3
  rw [show (chkI (id1 c, pl) != 0) = false by unfold chkI; rw [if_pos c3]; rfl, h90]
  have size : r78.1.2.1.size ≤ 65536 := by
   have := z78 c2
   have := c3.2.2.2.2.2.2
   simp only at this
   omega
  have kz : zc_ H r94.2 := (kk.trans k78).trans k94
  have B' := B.keeps kz
  refine .ifn (by decide) (.call (zbe_ (DD k) B' r78.1.2.1 (by omega)) fun r91 ⟨s', B2, c2', _⟩ => ?_)
  rw [Gx.w1 (by omega)]
  have lb : (bl r78.1.2.1).length = r78.1.2.1.size := zh_ _
  have tk : cs.take (i + 1) = cs.take i ++ [c] := by rw [List.take_add_one, hc]; rfl
  refine ih (i + 1) r91.2 s' _ (by omega) ((kp.trans kz).keepsS c2' fun y hy => (B'.own hy).1) B2 (fun e => ?_) (by rw [List.length_append]; omega)
  rw [tk, List.flatMap_append, hlt e, w78 e]
  simp
end
section
variable {k : Nat} {h : AHeap}
theorem zet_ (kg : KG 0 h) (km : KM h) (hk : 3000000 ≤ k) (text : ByteArray) (turned : Bool) : Gx.Wp (zEf_ k (DD k) text turned h) fun z => z.1 = true := by
 simp only [zEf_]
 refine .call (zxy_ (DD k) kg (by omega)) fun r1 ⟨q1, k1⟩ => .ifn (by rw [q1]; decide) ?_
 by_cases hsz : text.size ≤ 1500
 rotate_left
 ·exact .ifp (decide_eq_true (by omega)) (.of rfl)
 refine .ifn (fun w => by have := of_decide_eq_true w; omega) ?_
 have kg1 := kg.chg k1 fun f => f
 refine .call (zSv_ (DD k) kg1 (km.keeps k1) (by omega) hsz) fun r2 ⟨k2, ps, idl, cs, packs, Ap, Ai, P⟩ => ?_
 have bt : (bl text).length = text.size := zh_ text
 have hcl := P.ch.len
 have hpl : ps.length ≤ 400 := by have := P.np; rw [P.ps, List.length_map]; omega
 have kg2 := kg1.chg k2 fun f => f
 have pz : ∀ x ∈ ps, x.size ≤ 300 := fun x hx => by
  rw [P.ps] at hx
  obtain ⟨p, hp, rfl⟩ := List.mem_map.1 hx
  exact (P.pk p hp).size
 refine .call (zPt_ kg2 (by omega) Ap.row hpl) fun r3 ⟨q3, ⟨sl3, T3⟩, A3, k3⟩ => Wp.jn fun j12 h12 => ?_
 have eF : rebF ps = addL zX_ (itsP packs) := by unfold rebF; rw [P.ps]; exact zFs_ _ P.pk
 have eB : badN 0 ps = [] := by rw [P.ps]; exact zMs_ 0 P.pk
 rw [eF] at T3
 rw [eB] at A3
 have l3 : r3.1.2.len = 0 := A3.row.1
 rw [q3]
 refine .ifn (by simp) ?_
 rw [l3, show decide (((0 : Nat) : Int) > 0) = false from rfl, h12]
 refine .ifn (by decide) ?_
 have kg3 := kg2.chg k3 fun f => f
 obtain ⟨its, eits⟩ : ∃ its, its = itsP packs := ⟨_, rfl⟩
 rw [← eits] at T3
 have ok : ∀ x ∈ its, okI x := by rw [eits]; exact zjx_ P.pk
 have il : its.length ≤ 400 := by
  have h1 := zRt_ P.pk
  have h2 := P.tot
  rw [eits]; omega
 have cF : zw_ (addL zX_ its) 256 ≤ its.length := by
  have := zqq_ 256 rfl its zX_
  rw [zvr_] at this; omega
 refine .call (zeC_ (by omega) (DD k) T3 (by omega)) fun r13 ⟨A13, k13⟩ => ?_
 have all_ok : ∀ x ∈ allF (addL zX_ its), okI x := fun x hx => ok x (zpu_.1 hx)
 have all_len := ziB_ its
 have all_r := zMy_ its
 have kg13 := kg3.chg k13 fun f => f
 refine .call (zCx_ (k := k) (by omega) (Row.nil encS r13.2 none 0) (A13.row zG_) (by simp; omega) (by simp; omega) (by omega) (fun a ha => by cases ha)) fun r14 ⟨q14, A14, k14⟩ => ?_
 rw [zcA_ all_ok (by omega) all_r] at q14 A14
 refine .ifn (by rw [q14]; simp) (Wp.jn fun j22 h22 => ?_)
 have k314 := k3.trans k13
 have rest : ∀ (files : Slc) (fs : List ByteArray) (H : AHeap), zc_ r13.2 H → Row encS H files fs → fs.length ≠ 0 → fs.length ≤ 10 → (∀ x ∈ fs, x = bA (zW_ [] (allF (addL zX_ its)))) →
   Gx.Wp (j22 text r2.1.1 r2.1.2.1 r2.1.2.2 (some ⟨r2.2.next, 0, none⟩) files H) fun z => z.1 = true := fun files fs H kH R hne hfl hfs => by
  rw [h22]
  have kgH := kg13.chg kH fun f => f
  have fsz : (bA (zW_ [] (allF (addL zX_ its)))).size ≤ 100000 := by
   rw [zWc_]
   have := zyi_ all_ok (by omega)
   unfold tooB at this
   omega
  refine .call (zdy_ kgH (by omega) (its := allF (addL zX_ its)) (by omega) all_ok R (fun x hx => by rw [hfs x hx]; exact zYy_ all_ok (by omega) all_r) (fun x hx => by rw [hfs x hx]; exact fsz) (by omega)) fun r23 ⟨tb, e1, e2, ⟨sl23, T23⟩, k23⟩ => ?_
  have F23 := zVD_ (its := its) hne
  have T23' := T23.ext F23
  have kgM := kgH.chg k23 fun f => f
  refine Wp.new fun h24 k24 n24 g24 => Wp.jn fun j34 h34 => ?_
  have Rps : Row encS r23.2 r2.1.1 ps := (Ap.row.keeps ((k314.trans kH).trans k23))
  unfold zok_
  obtain ⟨bot, eb⟩ := zq_ (fun _ _ _ _ _ _ _ _ _ _ _ _ => none) (zBd_ k (DD k) j34) (show ps.length + 1 ≤ k by omega)
  have pl : (r2.1.1.len : Int) = (ps.length : Int) := by rw [Ap.row.1]
  rw [eb, pl, e1, e2, show (0 : Int) = ((0 : Nat) : Int) from rfl]
  refine zIC_ (h := r23.2) (DD k) kgM (by omega) Rps (by omega) (fun x hx => by have := pz x hx; omega) (Nat.le_refl _) (fun H2 es kp2 M2 lt2 O2 => ?_) bot ps.length 0 h24 [] (by omega) k24 g24 (by omega) ⟨fun s hs => (by simp at hs), fun _ _ w => by cases w⟩
  rw [h34]
  refine Wp.jn fun j43 h43 => ?_
  have kg5 := kgM.chg kp2 fun f => f
  have kall : zc_ r2.2 H2 := ((k314.trans kH).trans k23).trans kp2
  have fin : ∀ (lt : Bool) (H3 : AHeap), zc_ H2 H3 → (lt = false → r2.1.2.2 = false ∧ ∀ x ∈ ps, ∀ y ∈ ps, dg x = dg y → x = y) →
    Gx.Wp (j43 text r2.1.2.1 lt (some ⟨r2.2.next, 0, none⟩) 0 (some ⟨tb, 0, none⟩) (some r23.2.next) H3) fun z => z.1 = true := fun lt H3 k3' hlt => by
   rw [h43]
   refine Wp.jn fun j51 h51 => .ifn (by decide) (.ifn (by simp) ?_)
   have kx := kp2.trans k3'
   have Tm := T23'.keeps kx
   have Tt := T3.keeps ((k13.trans kH).trans (k23.trans kx))
   refine .call (zyv_ (by omega) (DD k) Tm (by omega)) fun r95 ⟨e95, e95'⟩ => ?_
   rw [e95']
   refine .call (zyv_ (by omega) (DD k) Tt (by omega)) fun r96 ⟨e96, e96'⟩ => ?_
   rw [e95, e96, e96', h51]
   refine .ifn (by simp) (Wp.new fun h52 k52 n52 g52 => Wp.jn fun j57 h57 => ?_)
   have B := BuS.new H3 g52 n52
   unfold zmk_
   obtain ⟨bot2, eb2⟩ := zq_ (fun _ _ _ _ _ _ _ _ _ => none) (zxd_ k (DD k) j57) (show cs.length + 1 ≤ k by omega)
   have Ri : Row encS H3 r2.1.2.1 (cs.map id1) := by
    have := Ai.row.keeps (kall.trans k3')
    rw [P.ids] at this; exact this
   have li : (r2.1.2.1.len : Int) = (cs.length : Int) := by rw [Ri.1, List.length_map]
   rw [eb2, li, show (0 : Int) = ((0 : Nat) : Int) from rfl]
   have mlt : r23.2.next < H3.next := Nat.lt_of_lt_of_le lt2 k3'.nx
   refine zFx_ (h := H3) (kg5.chg k3' fun f => f) (by omega) Ri (by omega) Tm (zKc_ zSc_) (N := its.length) (fun i hi => ?_) (by omega) (M2.chg k3' lt2 (fun f => f)) mlt (fun id v hv => pz v (O2.mem id v hv)) (fun e c hc => ?_) (fun _ => P.ch.cat) h57 bot2 cs.length 0 h52 ⟨none, 0, 0⟩ [] (by omega) k52 B (fun _ => rfl) (Nat.zero_le _)
   ·have := zFj_ (xs := its) (F := zX_) (n := 0) (fun i _ => Nat.le_refl _) i hi
    omega
   ·obtain ⟨e1', uniq⟩ := hlt e
    obtain ⟨p, hp, off, f1, f2, f3, f4⟩ := P.find e1' hc (F := addL zX_ its) (fun i _ => by rw [eits])
    have pm : zib_ p ∈ ps := by rw [P.ps]; exact List.mem_map.2 ⟨p, hp, rfl⟩
    obtain ⟨s', g1, g2, g3⟩ := O2.all (zib_ p) (by rw [List.take_length]; exact pm)
    have es' : s' = zib_ p := uniq s' g2 (zib_ p) pm g3
    rw [es'] at g1
    exact ⟨(P.ch.each c hc).2, zib_ p, off, f1, f2, f3, f4, g1, pz _ pm⟩
  by_cases cl : r2.1.2.2 = true
  ·exact .ifp cl (fin true H2 (.refl _ _) fun e => by cases e)
  ·refine .ifn cl (.call (zuA_ (DD k) kg5 (by omega) (Rps.keeps kp2) (by omega) (fun x hx => by have := pz x hx; omega)) fun r97 ⟨k97, q97⟩ => ?_)
   exact fin r97.1 r97.2 k97 fun e => ⟨by simpa using cl, q97 e⟩
 by_cases ct : turned = true
 ·refine .ifp ct (.bnd A14.row.rdS ?_)
  obtain ⟨s', h', a1, A', c', d'⟩ := A14.app (fun _ => rfl) [bA (zW_ [] (allF (addL zX_ its)))] (bytes := 16) (by simp) (by decide) k14.nx
  have ln : r14.1.1.len = 1 := A14.row.1
  rw [ln]
  exact .bnd a1 (rest s' _ h' (k14.keepsS c' fun y ⟨a, ha, e⟩ => by rw [e]; exact (A14.lt a ha).2) A'.row (by simp) (by simp) (fun x hx => by simpa using hx))
 ·exact .ifn ct (rest r14.1.1 _ r14.2 k14 A14.row (by simp) (by simp) (fun x hx => by simpa using hx))
end
end Gg
namespace Gg
open Go Gx Go.RowKit Go.ChangeShapes Go.WideShapes
theorem zgy_ {P : Program} {W : World} {name : String} {d : DataW Unit} {rest : List (String × DataW Unit)} {g : Nat} {t e i64 u64 : TypeId} {f0 f1 : Field} {a b c z : Int} (hg : P.globalNamed name = some g) (ht : (P.globals[g]?).map (·.type) = some t) (hu : P.underlying t = some (.array 2 e)) (he : P.underlying e = some (.struct #[f0, f1])) (hce : P.cellsOf e = 2) (hct : P.cellsOf t = 4)
  (ho0 : f0.offset = 0) (ho1 : f1.offset = 1) (ht0 : f0.type = i64) (ht1 : f1.type = u64) (hi : P.underlying i64 = some (.int .i64)) (hui : P.underlying u64 = some (.int .u64)) (hci : P.cellsOf i64 = 1) (hcu : P.cellsOf u64 = 1)
  (hd : d = .agg [.agg [.lit (.int .i64 a), .lit (.int .u64 b)], .agg [.lit (.int .i64 c), .lit (.int .u64 z)]]) (h : laidMet P ((name, d) :: rest) W) :
  ∃ ty fz, W.heap[g]? = some (.cells #[.int .i64 a, .int .u64 b, .int .i64 c, .int .u64 z] ty fz) := by
 obtain ⟨ps, ⟨g0, t0, cs0, f0', p0, q0, hg0, ht0', hv0, hd0, _, _⟩, _⟩ := h
 obtain rfl := Option.some.inj (hg.symm.trans hg0)
 obtain rfl := Option.some.inj (ht.symm.trans ht0')
 obtain ⟨xs, m, rfl, hx1, hlen, hxl, hel⟩ := DataW.trod_array hu hd0
 rw [hct] at hlen
 have two : ∀ (i : Nat) (x : DataW Unit × List MemPlace), i < 2 → xs[i]? = some x → ∃ p q, x.1 = .agg [.lit (.int .i64 p), .lit (.int .u64 q)] ∧ cs0.toList[i * 2]? = some (.int .i64 p) ∧ cs0.toList[i * 2 + 1]? = some (.int .u64 q) := fun i x hi2 hx => by
  have e1 := hel i hi2
  rw [hce, hx] at e1
  obtain ⟨y0, y1, n, rfl, hl, w0, w1⟩ := trod_struct2 he e1
  rw [ho0, ht0, hci] at w0
  rw [ho1, ht1, hcu] at w1
  obtain ⟨p, a1, a2, _⟩ := DataW.trod_int hi w0
  obtain ⟨q, b1, b2, _⟩ := DataW.trod_int hui w1
  refine ⟨p, q, by simp [a2, b2], ?_, ?_⟩
  ·have := congrArg (fun z => z[0]?) a1
   simpa [List.getElem?_take, List.getElem?_drop] using this
  ·have := congrArg (fun z => z[0]?) b1
   simpa [List.getElem?_take, List.getElem?_drop] using this
 obtain ⟨x0, h0⟩ := zv_ (l := xs) (i := 0) (by omega)
 obtain ⟨x1, h1⟩ := zv_ (l := xs) (i := 1) (by omega)
 obtain ⟨p, q, e0, c0, c1⟩ := two 0 x0 (by omega) h0
 obtain ⟨p', q', e1, c2, c3⟩ := two 1 x1 (by omega) h1
 have ex : xs = [x0, x1] := by
  match xs, hxl, h0, h1 with
  | [u, v], _, h0, h1 => simp at h0 h1; rw [h0, h1]
 simp only [Prod.mk.injEq] at hx1
 have e2 := hx1.1
 rw [hd, ex] at e2
 simp only [List.map_cons, List.map_nil, e0, e1] at e2
 simp only [DataW.agg.injEq, List.cons.injEq, and_true, DataW.lit.injEq, Lit.int.injEq, true_and] at e2
 obtain ⟨⟨rfl, rfl⟩, rfl, rfl⟩ := e2
 obtain ⟨ty, fz, hO⟩ := zXz_ hg0 hv0
 refine ⟨ty, fz, ?_⟩
 rw [hO]
 have : cs0 = #[.int .i64 a, .int .u64 b, .int .i64 c, .int .u64 z] := by
  apply Array.ext'
  match cs0.toList, hlen, c0, c1, c2, c3 with
  | [u0, u1, u2, u3], _, c0, c1, c2, c3 =>
   simp at c0 c1 c2 c3
   rw [c0, c1, c2, c3]
 rw [this]
theorem Start.two {w : World} {arr : Array Value} {ty ty' : TypeId} {fz fz' : Nat × Nat} {l : List UInt32} (hO : w.heap[0]? = some (.cells arr ty fz)) (hl : ∀ (i : Nat) (x : UInt32), l[i]? = some x → arr[i]? = some (.int .u32 (x.toNat : Int))) (hM : w.heap[1]? = some (.cells ⟨mixC⟩ ty' fz')) :
  ∃ μ, Start w μ ⟨2, fun b => if b = 0 then some (.cells (l.map encU) ty false 0) else if b = 1 then some (.cells mixC ty' false 0) else none⟩ 2 := by
 refine ⟨fun b => if b < 2 then some (b, 0, if b = 0 then arr.size else 4) else none, ⟨fun b B hb => ?_, fun b₁ b₂ B₁ B₂ p₁ p₂ h1 h2 _ hr _ _ => ?_, fun b B hb => ?_, fun x hx => ⟨_, if_pos hx⟩, Nat.le_refl _⟩, fun b hb => ?_, fun b B hb => ?_⟩
 ·simp only at hb
  split at hb
  ·rename_i e; subst e; cases hb
   refine ⟨0, 0, arr.size, _, by simp, hO, rfl, rfl, fun i v hv => ?_, fun hf => (by cases hf), fun _ q => absurd rfl q⟩
   rw [List.getElem?_map] at hv
   cases hx : l[i]? with
   | none => rw [hx] at hv; cases hv
   | some x =>
    rw [hx] at hv; cases hv
    exact ⟨_, by rw [Nat.zero_add]; exact hl i x hx, .int _ _⟩
  ·split at hb
   ·rename_i hn e; subst e; cases hb
    refine ⟨1, 0, 4, _, by simp, hM, rfl, rfl, fun i v hv => ⟨v, by rw [Nat.zero_add]; simpa using hv, ?_⟩, fun hf => (by cases hf), fun _ q => absurd rfl q⟩
    match i with
    | 0 => simp [mixC] at hv; subst hv; exact .int _ _
    | 1 => simp [mixC] at hv; subst hv; exact .int _ _
    | 2 => simp [mixC] at hv; subst hv; exact .int _ _
    | 3 => simp [mixC] at hv; subst hv; exact .int _ _
    | i + 4 => simp [mixC] at hv
   ·cases hb
 ·simp only at h1
  split at h1
  ·cases h1; cases hr
  ·split at h1
   ·cases h1; cases hr
   ·cases h1
 ·simp only at hb
  split at hb
  ·rename_i e; subst e; show 0 < 2; omega
  ·split at hb
   ·rename_i e; subst e; show 1 < 2; omega
   ·cases hb
 ·have hb : 2 ≤ b := hb
  exact if_neg (by omega)
 ·simp only at hb
  split at hb
  ·cases hb; rfl
  ·split at hb
   ·cases hb; rfl
   ·cases hb
theorem zrD_ (ty ty' : TypeId) : KG 0 ⟨2, fun b => if b = 0 then some (.cells (shaK.map encU) ty false 0) else if b = 1 then some (.cells mixC ty' false 0) else none⟩ := by
 refine ⟨by show 0 < 2; omega, _, _, _, _, rfl, fun i hi => ?_⟩
 have hl : shaK.length = 64 := rfl
 obtain ⟨x, hx⟩ := zv_ (l := shaK) (i := i) (by rw [hl]; exact hi)
 rw [List.getElem?_map, hx]
 unfold kAt
 rw [hx]; rfl
theorem zzD_ (l : List Value) (ty ty' : TypeId) : KM ⟨2, fun b => if b = 0 then some (.cells l ty false 0) else if b = 1 then some (.cells mixC ty' false 0) else none⟩ := ⟨by show 1 < 2; omega, ty', false, 0, rfl⟩
theorem zUD_ {k : Nat} {h : AHeap} (hk : 3000000 ≤ k) (kg : KG 0 h) (km : KM h) (text : ByteArray) (turned : Bool) : ∃ h', zEf_ k (DD k) text turned h = some (true, h') := by
 obtain ⟨r, e, q⟩ := zet_ kg km hk text turned
 exact ⟨r.2, by rw [e]; congr 1; exact Prod.ext q rfl⟩
end Gg
