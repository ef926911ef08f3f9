import Derived.Scope
import Derived.KernelRfl
import Derived.Defers
import Derived.Laws.LoneSync
import Derived.Below
import Derived.Lib.Repeat
import Derived.Lib.Join
import Derived.Sort.KeysCollected
import Derived.Lib.Overlaps
import Derived.Lib.Builder
import Derived.SizedLaws
import Derived.SliceStrings
import Derived.ChangeSlices
import Derived.ChangeOld
import Derived.Carry
import Derived.OpenShut
import Derived.ShutString
import Derived.DataReads
import Derived.Sort.Grow
import Derived.Test.YtgnljbdobbahkaaGx2
namespace Gx
open Go
section
variable {ds : List Deferred} {G : Nat} {P : Program} {R : Type} {r : R} {C : CallF} {ops : Array Oper} {ms : List Nat} {n : Nat}
theorem dgop_sound {base : Nat} {e : RG} {o : Oper} {f : PFr} {h : AHeap} {hs : List AHeap} {κ : Value → AHeap → Option R} (hC : CSound P G C) (hr : ropOf P G o = some e.d.ro.op) (hga : e.gh = none → allocB e.d.ro.op = false) (hft : Fits n ops e.d o)
  (hw : WantS G n ops o (keepF e.d.looks f) true) (hd : dgop C base e.gh e.own e.d.ro.op e.d.win (keepF e.d.looks f) h hs κ = some r) :
  ∃ v h1, κ v h1 = some r ∧ h.next ≤ h1.next ∧ DoneG P G n ops base e f h hs v h1 := by
 obtain ⟨d, gh, own⟩ := e
 cases gh with
 | some j =>
  simp only [dgop] at hd
  split at hd
  ·rename_i q hq
   have hr' := hr
   have hq : d.ro.op = .a q := hq
   rw [show (RG.mk d (some j) own).d.ro.op = .a q from hq] at hr'
   unfold ropOf at hr'
   split at hr'
   ·cases hr'
   ·split at hr'
    ·cases hr'
    ·split at hr'
     ·rename_i q' hq'
      cases hr'
      obtain ⟨B, mk, hk, hs'⟩ := dalloc_sound hq' hd
      exact ⟨_, _, hk, Nat.le_refl _, .inr (.inl ⟨by simp only [hq]; rfl, j, some B, rfl, ⟨o, hft, hw, mk, hs', rfl⟩, rfl⟩)⟩
     ·split at hr' <;> cases hr'
  ·cases hd
 | none =>
  cases own with
  | some j =>
   simp only [dgop] at hd
   split at hd
   ·rename_i q hq
    have hq : d.ro.op = .l q := hq
    have hr' := hr
    rw [show (RG.mk d none (some j)).d.ro.op = .l q from hq] at hr'
    unfold ropOf at hr'
    split at hr'
    ·cases hr'
    ·split at hr'
     ·rename_i l hl
      cases hr'
      have rd : ∀ {R : Type} {r : R} {H : AHeap} {κ : Value → Option R}, dread q (keepF d.looks f) H κ = some r → ∃ v, κ v = some r ∧ CalmS P G o (keepF d.looks f) H v := fun hd => by
       obtain ⟨v, hk, hs'⟩ := dread_sound hl hd
       exact ⟨v, hk, fun μ a w fr s => hs' μ w a s fr⟩
      obtain ⟨v, hk, hS⟩ := rd hd
      obtain ⟨⟨B, hB, hww⟩, hk⟩ := guardP_some hk
      refine ⟨v, h, hk, Nat.le_refl _, .inr (.inr ⟨by simp only [hq]; rfl, rfl, o, hft, .inr ⟨hw, fun H hH => ?_⟩⟩)⟩
      obtain ⟨B', h1, h2⟩ := hH
      rw [hB] at h1; cases h1
      obtain ⟨v', e, hS'⟩ := rd (hww H h2)
      cases e; exact hS'
     ·split at hr'
      ·cases hr'
      ·split at hr' <;> cases hr'
   ·cases hd
  | none =>
   simp only [dgop] at hd
   have hga := hga rfl
   simp only at hr hga hd hw hft
   cases hop : d.ro.op with
   | p q =>
    rw [hop] at hr hd
    unfold ropOf at hr
    split at hr
    ·rename_i p hp
     cases hr
     simp only [ddop] at hd
     obtain ⟨v, hk, hs'⟩ := dpure_sound hp hd
     refine ⟨v, h, hk, Nat.le_refl _, .inr (.inr ⟨by simp only [hop]; rfl, rfl, o, hft, .inr ⟨hw, fun H _ μ a w fr s => ?_⟩⟩)⟩
     obtain ⟨v', h1, h2⟩ := hs' μ H w a s fr
     exact ⟨v', h1, h2⟩
    ·split at hr
     ·cases hr
     ·split at hr
      ·cases hr
      ·split at hr <;> cases hr
   | l q =>
    rw [hop] at hr hd
    unfold ropOf at hr
    split at hr
    ·cases hr
    ·split at hr
     ·rename_i l hl
      cases hr
      have rd : ∀ {R : Type} {r : R} {H : AHeap} {κ : Value → Option R}, dread q (keepF d.looks f) H κ = some r → ∃ v, κ v = some r ∧ CalmS P G o (keepF d.looks f) H v := fun hd => by
       obtain ⟨v, hk, hs'⟩ := dread_sound hl hd
       exact ⟨v, hk, fun μ a w fr s => hs' μ w a s fr⟩
      cases hwin : d.win with
      | zero =>
       rw [hwin] at hd
       obtain ⟨v, hk, hS⟩ := rd hd
       refine ⟨v, h, hk, Nat.le_refl _, .inr (.inr ⟨by simp only [hop]; rfl, rfl, o, hft, .inr ⟨hw, fun H hH => ?_⟩⟩)⟩
       have hH := hH (by simp only [hop]; rfl)
       simp [hwin] at hH
       rw [hH]; exact hS
      | succ win =>
       rw [hwin] at hd
       simp only [ddop] at hd
       obtain ⟨v, hk, hS⟩ := rd hd
       obtain ⟨hww, hk⟩ := guardP_some hk
       refine ⟨v, h, hk, Nat.le_refl _, .inr (.inr ⟨by simp only [hop]; rfl, rfl, o, hft, .inr ⟨hw, fun H hH => ?_⟩⟩)⟩
       have hH := hH (by simp only [hop]; rfl)
       simp only [hwin] at hH
       rw [List.take_succ_cons] at hH
       rcases List.mem_cons.1 hH with rfl | hH
       ·exact hS
       ·obtain ⟨v', e, hS'⟩ := rd (hww H hH)
        cases e; exact hS'
     ·split at hr
      ·cases hr
      ·split at hr <;> cases hr
   | a q => rw [hop] at hga; cases hga
   | e q =>
    rw [hop] at hr hd
    obtain ⟨v, h1, hk, hS⟩ := dop_sound hC hr (κ := κ) (h := h) (f := keepF d.looks f) (by simpa only [ddop, dop] using hd)
    exact ⟨v, h1, hk, hS.1, .inl ⟨by simp only [actG, hop]; rfl, o, hft, .inr ⟨hw, hS⟩⟩⟩
theorem gdraw_tr (hC : CSound P G C) {base : Nat} : ∀ (es : List RG) (f : PFr) (h : AHeap) (hs : List AHeap) (κ : PFr → AHeap → Option R),
  (∀ e ∈ es, (e.gh = none → allocB e.d.ro.op = false) ∧ (∀ j, e.gh = some j → serB e.d.ro.op = true) ∧ ∃ o, ops[e.d.idx]? = some o ∧ roOf P G n ops o = some (stripO e.d.ro) ∧ e.d.looks = o.looksAt ops) → gdraw C base es f h hs κ = some r →
  ∃ f' h', κ f' h' = some r ∧ TrG P G n ops base (es.map fun e => (e, none)) f h hs f' h'
 | [], f, h, hs, κ, _, hd => ⟨f, h, hd, rfl, rfl⟩
 | e :: es, f, h, hs, κ, hes, hd => by
  obtain ⟨hga, hgs, o, ho, hro, hlk⟩ := hes e (List.mem_cons_self ..)
  have hes' := fun e' he' => hes e' (List.mem_cons_of_mem _ he')
  unfold roOf at hro
  split at hro
  ·cases hro
  ·rename_i rop hrop
   split at hro
   ·rename_i hdst
    have hdn : ∀ x, o.dst = some x → x < n := fun x hx => by rw [hx] at hdst; simpa [dstOk] using hdst
    have perform : ∀ (hdd : e.d.ro.dst = o.dst) (hop : e.d.ro.op = rop), WantS G n ops o (keepF e.d.looks f) true → dgop C base e.gh e.own e.d.ro.op e.d.win (keepF e.d.looks f) h hs (fun v h' => tagK e.d.ro.tag v fun v => gdraw C base es (pput f e.d.ro.dst v) h' (bif serB e.d.ro.op then h :: hs else hs) κ) = some r →
      ∃ f' h', κ f' h' = some r ∧ TrG P G n ops base ((e, none) :: es.map fun e => (e, none)) f h hs f' h' := by
     intro hdd hop hw hd
     have ft : Fits n ops e.d o := ⟨ho, hdd.symm, hdn⟩
     obtain ⟨v, h1, hk, hn, hS⟩ := dgop_sound hC (hop ▸ hrop) hga ft hw hd
     obtain ⟨f', h', hk', tr⟩ := gdraw_tr hC es _ h1 _ κ hes' (tagK_some hk)
     exact ⟨f', h', hk', v, h1, hn, hS, tr⟩
    have skip : ∀ (hdd : e.d.ro.dst = o.dst), e.d.ro.guard ≠ none → WantS G n ops o (keepF e.d.looks f) false → gdraw C base es (pput f e.d.ro.dst undef) h (bif serB e.d.ro.op then h :: hs else hs) κ = some r →
      ∃ f' h', κ f' h' = some r ∧ TrG P G n ops base ((e, none) :: es.map fun e => (e, none)) f h hs f' h' := by
     intro hdd hgne hw hd
     obtain ⟨f', h', hk', tr⟩ := gdraw_tr hC es _ h _ κ hes' hd
     have ft : Fits n ops e.d o := ⟨ho, hdd.symm, hdn⟩
     refine ⟨f', h', hk', undef, h, Nat.le_refl _, ?_, tr⟩
     cases hgh : e.gh with
     | some j => exact .inr (.inl ⟨hgs j hgh, j, none, hgh, ⟨o, ft, ⟨hw, rfl⟩, hgne⟩, rfl⟩)
     | none =>
      cases hs' : serB e.d.ro.op with
      | true => exact .inl ⟨by unfold actG; rw [hs', hgh]; rfl, o, ft, .inl ⟨hw, rfl, rfl⟩⟩
      | false => exact .inr (.inr ⟨hs', rfl, o, ft, .inl ⟨hw, rfl⟩⟩)
    split at hro
    ·rename_i hgd
     have e0 : stripO e.d.ro = ⟨o.dst, rop, none, none⟩ := by simpa using hro.symm
     have q1 : e.d.ro.dst = o.dst := congrArg RO.dst e0
     have q2 : e.d.ro.op = rop := congrArg RO.op e0
     have q3 : e.d.ro.guard = none := congrArg RO.guard e0
     simp only [gdraw, q3] at hd
     exact perform q1 q2 (fun h μ a w _ => by simp [Region.wanted, hgd]) hd
    ·rename_i jj want hgd
     split at hro
     ·rename_i g hg
      have e0 : stripO e.d.ro = ⟨o.dst, rop, some (g, want), none⟩ := by simpa using hro.symm
      have q1 : e.d.ro.dst = o.dst := congrArg RO.dst e0
      have q2 : e.d.ro.op = rop := congrArg RO.op e0
      have q3 : e.d.ro.guard = some (g, want) := congrArg RO.guard e0
      have hgm : memB g e.d.looks = true := by
       rw [memB_iff, hlk]
       unfold Oper.looksAt
       rw [hgd]; simp only; rw [hg]; simp
      have hkg : keepF e.d.looks f g = f g := by unfold keepF; rw [hgm]; rfl
      simp only [gdraw, q3] at hd
      split at hd
      ·rename_i b hb
       have hy : ∀ {ds : List Deferred} (h : AHeap) (μ : BMap) (a : Act) (w : World), At ds G μ (keepF e.d.looks f) h n a w → yielded ops a.tmps jj = some b := fun h μ a w at_ => (guard_yield at_ hg (hkg.trans hb)).1 b rfl
       split at hd
       ·rename_i hbt; subst hbt
        rw [pset_self hb] at hd
        cases want with
        | true => exact perform q1 q2 (fun h μ a w at_ => by simp [Region.wanted, hgd, hy h μ a w at_]) hd
        | false => exact skip q1 (by rw [q3]; simp) (fun h μ a w at_ => by simp [Region.wanted, hgd, hy h μ a w at_]) hd
       ·rename_i hbf
        simp only [Bool.not_eq_true] at hbf; subst hbf
        rw [pset_self hb] at hd
        cases want with
        | true => exact skip q1 (by rw [q3]; simp) (fun h μ a w at_ => by simp [Region.wanted, hgd, hy h μ a w at_]) hd
        | false => exact perform q1 q2 (fun h μ a w at_ => by simp [Region.wanted, hgd, hy h μ a w at_]) hd
      ·rename_i vs hb
       exact skip q1 (by rw [q3]; simp) (fun h μ a w at_ => by simp [Region.wanted, hgd, (guard_yield at_ hg (hkg.trans hb)).2 _ rfl]) hd
      ·cases hd
     ·cases hro
   ·cases hro
theorem serB_alloc {o : ROp} (h : allocB o = true) : serB o = true := by cases o <;> first | rfl | cases h
theorem rgsOf_ok : ∀ {is : List Nat} {ps es : List RG}, rgsOf P G n ops ms ps is = some es → MsOk ops ms →
  es.map (·.d.idx) = is ∧ (∀ e ∈ es, ∃ o, ops[e.d.idx]? = some o ∧ roOf P G n ops o = some e.d.ro ∧ e.d.looks = o.looksAt ops) ∧ (∀ L, GoodG ops ms L ps es) ∧
  (∀ e ∈ es, (e.gh = none → allocB e.d.ro.op = false) ∧ ∀ j, e.gh = some j → serB e.d.ro.op = true) ∧
  (∀ pre e post, es = pre ++ e :: post → (∀ j, e.gh = some j → j = (pre.reverse ++ ps).countP ghB) ∧ (e.own = none → loadB e.d.ro.op = true → ∀ p ∈ pre.reverse ++ ps, ghB p = true → bitB (ms.getD e.d.idx 0) p.d.idx = true → ∃ x ∈ pre.reverse ++ ps, actG x = true ∧ bitB (ms.getD e.d.idx 0) x.d.idx = true ∧ bitB (ms.getD x.d.idx 0) p.d.idx = true) ∧ (∀ j, e.own = some j → loadB e.d.ro.op = true ∧ ∃ p ∈ pre.reverse ++ ps, p.gh = some j ∧ p.d.ro.guard = none ∧ noActTo (pre.reverse ++ ps) p.d.idx = true ∧ bitB (ms.getD e.d.idx 0) p.d.idx = true))
 | [], ps, es, h, _ => by
  simp [rgsOf] at h; subst h
  exact ⟨rfl, (fun e he => nomatch he), (fun L => trivial), (fun e he => nomatch he), fun pre e post he => by cases pre <;> cases he⟩
 | i :: is, ps, es, h, hms => by
  simp only [rgsOf] at h
  split at h
  ·cases h
  ·rename_i e he
   cases hk : okG ops ms ps e
   ·rw [hk] at h; cases h
   ·rw [hk] at h
    simp only [cond_true, Option.map_eq_some_iff] at h
    obtain ⟨es', h', rfl⟩ := h
    obtain ⟨r1, r2, r3, r4, r5⟩ := rgsOf_ok h' hms
    unfold rgOf at he
    split at he
    ·cases he
    ·rename_i o ho
     split at he
     ·cases he
     ·rename_i ro hro
      simp only [Option.some.injEq] at he
      subst he
      unfold okG at hk
      simp only [Bool.and_eq_true, ho] at hk
      obtain ⟨⟨⟨k1, k2⟩, k3⟩, k4⟩ := hk
      refine ⟨by simp [r1], fun e he => ?_, fun L => ⟨⟨fun j hj => ?_, fun p hp => ?_, Nat.le_refl _⟩, r3 L⟩, fun e he => ?_, fun pre e post hpe => ?_⟩
      ·rcases List.mem_cons.1 he with rfl | he
       ·exact ⟨o, ho, hro, rfl⟩
       ·exact r2 e he
      ·obtain ⟨o', x, ho', hx, hb, rfl⟩ := hj
       simp only [ho, Option.some.injEq] at ho'; subst ho'
       have := List.all_eq_true.1 k1 x hx
       rw [hb] at this
       simp only [Bool.not_true, Bool.false_or, List.any_eq_true] at this
       obtain ⟨p, hp, hpe⟩ := this
       exact .inr ⟨p, hp, Nat.eq_of_beq_eq_true hpe⟩
      ·have := List.all_eq_true.1 k2 p hp
       simp only [Bool.and_eq_true, Bool.or_eq_true, Bool.not_eq_true'] at this
       refine ⟨fun e => ?_, this.2.imp (hms _ _) fun h => ⟨h.1, h.2⟩⟩
       have h1 := this.1
       simp only at e
       rw [e, Nat.beq_refl] at h1; cases h1
      ·rcases List.mem_cons.1 he with rfl | he
       ·simp only
        cases ha : allocB ro.op with
        | true => exact ⟨(fun h => by cases h), fun j _ => serB_alloc ha⟩
        | false => exact ⟨(fun _ => rfl), fun j h => by cases h⟩
       ·exact r4 e he
      ·cases pre with
       | nil =>
        simp only [List.nil_append, List.cons.injEq] at hpe
        obtain ⟨rfl, rfl⟩ := hpe
        simp only [List.reverse_nil, List.nil_append]
        refine ⟨fun j hj => ?_, fun hon hl p hp hg hb => ?_, fun j hj => ?_⟩
        ·cases ha : allocB ro.op with
         | true => rw [ha] at hj; cases hj; rfl
         | false => rw [ha] at hj; cases hj
        ·have hon' : (bif loadB ro.op then ownOf ms i (o.looksAt ops) ps ps else none) = none := hon
         rw [hon', hl] at k3
         simp only [noneB, Bool.not_true, Bool.false_or] at k3
         have := List.all_eq_true.1 k3 p hp
         rw [hg, hb] at this
         simp only [Bool.not_true, Bool.false_or, acrossG, List.any_eq_true, Bool.and_eq_true] at this
         obtain ⟨x, hx, ⟨hx1, hx2⟩, hx3⟩ := this
         exact ⟨x, hx, hx1, hx2, hx3⟩
        ·have hj' : (bif loadB ro.op then ownOf ms i (o.looksAt ops) ps ps else none) = some j := hj
         rw [hj'] at k4
         simp only [noneB, Bool.false_or, Bool.and_eq_true, List.any_eq_true] at k4
         obtain ⟨k4, p, hp, k5⟩ := k4
         unfold ownB at k5
         simp only [Bool.and_eq_true] at k5
         obtain ⟨⟨⟨k5, k6⟩, k7⟩, k8⟩ := k5
         refine ⟨k4, p, hp, ?_, ?_, k7, k8⟩
         ·cases hg : p.gh with
          | none => rw [hg] at k5; cases k5
          | some x => rw [hg] at k5; rw [Nat.eq_of_beq_eq_true k5]
         ·cases hg : p.d.ro.guard with
          | none => rfl
          | some x => rw [hg] at k6; cases k6
       | cons q pre =>
        simp only [List.cons_append, List.cons.injEq] at hpe
        obtain ⟨rfl, hpe⟩ := hpe
        have := r5 pre e post hpe
        rw [List.reverse_cons, List.append_assoc]
        exact this
theorem pairwise_of {α : Type} {R : α → α → Prop} : ∀ {es : List α}, (∀ pre p mid e post, es = pre ++ p :: (mid ++ e :: post) → R p e) → es.Pairwise R
 | [], _ => .nil
 | x :: es, h => .cons (fun y hy => by
   obtain ⟨a, b, rfl⟩ := List.append_of_mem hy
   exact h [] x a y b rfl) (pairwise_of fun pre p mid e post he => h (x :: pre) p mid e post (by rw [he]; rfl))
theorem anc_ahead {es : List RG} (hd : ∀ pre e post, es = pre ++ e :: post → ∀ j, Direct ops j e.d.idx → ∃ p ∈ pre, p.d.idx = j) {j i : Nat} (h : Anc ops j i) : ∀ pre e post, es = pre ++ e :: post → e.d.idx = i → ∃ p ∈ pre, p.d.idx = j := by
 induction h with
 | one h => rintro pre e post he rfl; exact hd pre e post he _ h
 | more h hdir ih =>
  rintro pre e post he rfl
  obtain ⟨p, hp, rfl⟩ := hd pre e post he _ hdir
  obtain ⟨a, b, rfl⟩ := List.append_of_mem hp
  obtain ⟨q, hq, hqj⟩ := ih a p (b ++ e :: post) (by rw [he]; simp) rfl
  exact ⟨q, by simp [hq], hqj⟩
theorem sub3 {α : Type} {p x e : α} {es : List α} (h : [p, x, e].Sublist es) : ∃ pre post, es = pre ++ e :: post ∧ [p, x].Sublist pre := by
 have : ([p, x] ++ [e]).Sublist es := h
 obtain ⟨l1, l2, rfl, h1, h2⟩ := List.append_sublist_iff.1 this
 obtain ⟨a, b, rfl⟩ := List.append_of_mem (h2.subset (List.mem_cons_self ..))
 exact ⟨l1 ++ a, b, by simp, h1.trans (List.sublist_append_left _ _)⟩
theorem noAct_ok {x p : RG} : ∀ {ps : List RG}, (ps.Pairwise fun p e => p.d.idx ≠ e.d.idx) → [x, p].Sublist ps → noActTo ps p.d.idx = true → actG x = false
 | [], _, h, _ => by cases h
 | z :: ps, pw, h, ha => by
  obtain ⟨p1, p2⟩ := List.pairwise_cons.1 pw
  simp only [noActTo] at ha
  cases h with
  | cons _ h =>
   cases hz : Nat.beq z.d.idx p.d.idx with
   | true => exact absurd (Nat.eq_of_beq_eq_true hz) (p1 p (h.subset (by simp)))
   | false =>
    rw [hz] at ha
    simp only [cond_false, Bool.and_eq_true] at ha
    exact noAct_ok p2 h ha.2
  | cons_cons _ h =>
   cases hz : Nat.beq x.d.idx p.d.idx with
   | true => exact absurd (Nat.eq_of_beq_eq_true hz) (p1 p (h.subset (by simp)))
   | false =>
    rw [hz] at ha
    simp only [cond_false, Bool.and_eq_true, Bool.not_eq_true'] at ha
    exact ha.1
theorem gdraw_sound (hC : CSound P G C) {rid m : Nat} {es es0 : List RG} (hr : gdrawOf P G n ops = some es0) (hs : es.map stripG = es0) (hm0 : m = es0.countP ghB) {f : PFr} {h : AHeap} {κ : PFr → AHeap → Option R} (hd : gdraw C h.next es f (h.resv m) [] κ = some r) :
  ∃ f' h', κ f' h' = some r ∧ RunS P G n (.region rid ops true) f h .normal f' h' := by
 unfold gdrawOf at hr
 simp only at hr
 cases hc : (P.follows .mixedOrders && (List.range ops.size).all (fun i => memB i (orderOf ops.size (ancsOf ops.toList []) ((List.range ops.size).filter (isEff P G n ops)) [])) && Nat.beq (orderOf ops.size (ancsOf ops.toList []) ((List.range ops.size).filter (isEff P G n ops)) []).length ops.size)
 ·rw [hc] at hr; cases hr
 ·rw [hc] at hr
  simp only [cond_true] at hr
  simp only [Bool.and_eq_true] at hc
  obtain ⟨⟨hm, hall⟩, hcl⟩ := hc
  have hms : MsOk ops (ancsOf ops.toList []) := ancs_ok
  obtain ⟨r1, r2, r3, r4, r5⟩ := rgsOf_ok hr hms
  have i1 : ∀ e : RG, (stripG e).d.idx = e.d.idx := fun _ => rfl
  have i2 : ∀ e : RG, (stripG e).gh = e.gh := fun _ => rfl
  have i3 : ∀ e : RG, (stripG e).d.ro.op = e.d.ro.op := fun _ => rfl
  have hes : ∀ e ∈ es, (e.gh = none → allocB e.d.ro.op = false) ∧ (∀ j, e.gh = some j → serB e.d.ro.op = true) ∧ ∃ o, ops[e.d.idx]? = some o ∧ roOf P G n ops o = some (stripO e.d.ro) ∧ e.d.looks = o.looksAt ops := fun e he => by
   have hmem : stripG e ∈ es0 := by rw [← hs]; exact List.mem_map_of_mem he
   obtain ⟨o, q1, q2, q3⟩ := r2 _ hmem
   obtain ⟨g1, g2⟩ := r4 _ hmem
   exact ⟨g1, g2, o, q1, q2, q3⟩
  have hidx : es.map (·.d.idx) = es0.map (·.d.idx) := by rw [← hs, List.map_map]; rfl
  have gm : ∀ {L : Nat → Prop} {es ps : List RG}, GoodG ops (ancsOf ops.toList []) L (ps.map stripG) (es.map stripG) → GoodG ops (ancsOf ops.toList []) L ps es := by
   intro L es
   induction es with
   | nil => intro _ _; trivial
   | cons e es ih =>
    intro ps hg
    obtain ⟨⟨g1, g2, g3⟩, g4⟩ := hg
    refine ⟨⟨fun j hj => ?_, fun p hp => g2 (stripG p) (List.mem_map_of_mem hp), ?_⟩, ih (ps := e :: ps) g4⟩
    ·rcases g1 j hj with h | ⟨p, hp, hpj⟩
     ·exact .inl h
     ·obtain ⟨q, hq, rfl⟩ := List.mem_map.1 hp
      exact .inr ⟨q, hq, hpj⟩
    ·rw [List.countP_map] at g3
     exact g3
  have hg : ∀ L, GoodG ops (ancsOf ops.toList []) L [] es := fun L => gm (ps := []) (by rw [hs]; exact r3 L)
  have split0 : ∀ pre e post, es = pre ++ e :: post → es0 = pre.map stripG ++ stripG e :: post.map stripG := fun pre e post he => by rw [← hs, he]; simp
  have cntS : ∀ l : List RG, (l.map stripG).countP ghB = l.countP ghB := fun l => by rw [List.countP_map]; rfl
  have hat : ∀ pre e post, es = pre ++ e :: post → OkAtG ops (ancsOf ops.toList []) (fun _ => False) (pre.reverse ++ []) e := fun pre e post he => GoodG.at (by rw [← he]; exact hg _)
  have hdir : ∀ pre e post, es = pre ++ e :: post → ∀ j, Direct ops j e.d.idx → ∃ p ∈ pre, p.d.idx = j := fun pre e post he j hj => by
   rcases (hat pre e post he).1 j hj with h | ⟨p, hp, hpj⟩
   ·exact h.elim
   ·exact ⟨p, by simpa using hp, hpj⟩
  have hgh : ∀ pre e post, es = pre ++ e :: post → ∀ j, e.gh = some j → j = pre.countP ghB := fun pre e post he j hj => by
   have := (r5 _ _ _ (split0 pre e post he)).1 j hj
   rw [List.append_nil, List.countP_reverse, cntS] at this
   exact this
  have hpw : es.Pairwise fun p e => p.d.idx ≠ e.d.idx := pairwise_of fun pre p mid e post he => by
   have he' : es = (pre ++ p :: mid) ++ e :: post := by rw [he]; simp
   exact ((hat _ _ _ he').2.1 p (by simp)).1
  have T : Told ops (ancsOf ops.toList []) es := by
   refine ⟨hpw, pairwise_of fun pre p mid e post he ha => ?_, pairwise_of fun pre p mid e post he j h1 h2 => ?_, fun e he => (hes e he).2.1, fun e he hon hl p hp hpg hb => ?_, fun e he j hj => ?_, fun p x e hsub j hpj hej => ?_⟩
   ·have he' : es = (pre ++ p :: mid) ++ e :: post := by rw [he]; simp
    obtain ⟨q, hq, hqe⟩ := anc_ahead hdir ha pre p (mid ++ e :: post) he rfl
    exact ((hat _ _ _ he').2.1 q (by simp [hq])).1 hqe
   ·have he' : es = (pre ++ p :: mid) ++ e :: post := by rw [he]; simp
    have c1 := hgh _ _ _ he j h1
    have c2 := hgh _ _ _ he' j h2
    rw [List.countP_append, List.countP_cons] at c2
    have : ghB p = true := by unfold ghB; rw [h1]
    rw [this] at c2
    simp at c2
    omega
   ·obtain ⟨pre, post, hsp⟩ := List.append_of_mem he
    have ha : Anc ops p.d.idx e.d.idx := hms _ _ hb
    obtain ⟨q, hq, hqp⟩ := anc_ahead hdir ha pre e post hsp rfl
    have := dist_rg hpw (x := q) (y := p) (by rw [hsp]; simp [hq]) hp hqp
    subst this
    obtain ⟨x, hx, x1, x2, x3⟩ := (r5 _ _ _ (split0 pre e post hsp)).2.1 hon hl (stripG q) (by simp only [List.append_nil, List.mem_reverse]; exact List.mem_map_of_mem hq) hpg hb
    simp only [List.append_nil, List.mem_reverse, List.mem_map] at hx
    obtain ⟨x', hx', rfl⟩ := hx
    exact ⟨x', by rw [hsp]; simp [hx'], x1, hms _ _ x2, hms _ _ x3⟩
   ·obtain ⟨pre, post, hsp⟩ := List.append_of_mem he
    obtain ⟨p, hp, p1, p2, _, p4⟩ := ((r5 _ _ _ (split0 pre e post hsp)).2.2 j hj).2
    simp only [List.append_nil, List.mem_reverse, List.mem_map] at hp
    obtain ⟨p', hp', rfl⟩ := hp
    refine ⟨p', ?_, p1, p2, hms _ _ p4⟩
    rw [hsp]
    exact (List.singleton_sublist.2 hp').append (List.singleton_sublist.2 (List.mem_cons_self ..))
   ·obtain ⟨pre, post, hsp, hsub2⟩ := sub3 hsub
    obtain ⟨p0, hp0, q1, q2, q3, q4⟩ := ((r5 _ _ _ (split0 pre e post hsp)).2.2 j hej).2
    simp only [List.append_nil, List.mem_reverse, List.mem_map] at hp0
    obtain ⟨p0', hp0', rfl⟩ := hp0
    have hp : p ∈ pre := hsub2.subset (by simp)
    have : p = p0' := by
     obtain ⟨a, b, hab⟩ := List.append_of_mem hp
     obtain ⟨a', b', hab'⟩ := List.append_of_mem hp0'
     have c1 := hgh a p (b ++ e :: post) (by rw [hsp, hab]; simp) j hpj
     have c2 := hgh a' p0' (b' ++ e :: post) (by rw [hsp, hab']; simp) j q1
     have e1 : pre.countP ghB = pre.countP ghB := rfl
     rcases List.append_eq_append_iff.1 (hab.symm.trans hab') with ⟨c, h1, h2⟩ | ⟨c, h1, h2⟩
     ·cases c with
      | nil => simp at h2; exact h2.1
      | cons z c =>
       simp only [List.cons_append, List.cons.injEq] at h2
       obtain ⟨rfl, h2⟩ := h2
       rw [h1, List.countP_append, List.countP_cons] at c2
       have : ghB p = true := by unfold ghB; rw [hpj]
       rw [this] at c2; simp at c2; omega
     ·cases c with
      | nil => simp at h2; exact h2.1.symm
      | cons z c =>
       simp only [List.cons_append, List.cons.injEq] at h2
       obtain ⟨rfl, h2⟩ := h2
       rw [h1, List.countP_append, List.countP_cons] at c1
       have : ghB p0' = true := by unfold ghB; rw [show p0'.gh = some j from q1]
       rw [this] at c1; simp at c1; omega
    subst this
    have hnod : (pre.map stripG).reverse.Pairwise fun p e => p.d.idx ≠ e.d.idx := by
     rw [List.pairwise_reverse, List.pairwise_map]
     rw [hsp] at hpw
     exact (List.pairwise_append.1 hpw).1.imp fun h x => h x.symm
    have := noAct_ok (ps := (pre.map stripG).reverse) hnod (x := stripG x) (p := stripG p) (by
     have := (hsub2.map stripG).reverse
     simpa using this) (by simpa using q3)
    exact this
  obtain ⟨f', h', hk, tr⟩ := gdraw_tr (ops := ops) (n := n) hC es f (h.resv m) [] κ hes hd
  have hlt : ∀ e ∈ es, e.d.idx < ops.size := fun e he => by
   obtain ⟨_, _, o, q1, _⟩ := hes e he
   exact (Array.getElem?_eq_some_iff.1 q1).1
  have hmem : ∀ i, i < ops.size → ∃ e ∈ es, e.d.idx = i := fun i hi => by
   have := memB_iff.1 (List.all_eq_true.1 hall i (List.mem_range.2 hi))
   rw [← r1, ← hidx] at this
   obtain ⟨e, he, hei⟩ := List.mem_map.1 this
   exact ⟨e, he, hei⟩
  have hlen : es.length = ops.size := by
   have : (es.map (·.d.idx)).length = ops.size := by rw [hidx, r1, Nat.eq_of_beq_eq_true hcl]
   simpa using this
  have hnx : h.next + m ≤ h'.next := tr.next
  have ghlt : ∀ e ∈ es, ∀ j, e.gh = some j → j < m := fun e he j hj => by
   obtain ⟨pre, post, he'⟩ := List.append_of_mem he
   have c1 := hgh pre e post he' j hj
   rw [hm0, ← hs, cntS, he', List.countP_append, List.countP_cons]
   have : ghB e = true := by unfold ghB; rw [hj]
   rw [this]
   simp
   omega
  refine ⟨f', h', hk, by omega, fun {ds} μ a w t z => wp_region_any hm ?_⟩
  have sd := Step.drew t.sim
  have st : Step G μ h w μ (h.resv m) { w with drawn := w.drawn + 1 } :=
   ⟨⟨sd.sim.blk, sd.sim.inj, fun b B hb => Nat.lt_of_lt_of_le (sd.sim.lt b B hb) (Nat.le_add_right _ _), sd.sim.glob, Nat.le_trans sd.sim.gle (Nat.le_add_right _ _)⟩, Nat.le_add_right _ _, fun _ _ => rfl, rfl, rfl, rfl, Nat.le_refl _, fun _ _ _ => rfl,
    fun b B p hb hn _ => absurd (t.sim.lt b B hb) (by omega), fun b B' hb _ => ⟨B', hb, id⟩⟩
  refine any_soundG hms T rfl t.sim.gle ops.size (es.map fun e => (e, none)) _ f (h.resv m) [] f' h' μ a _ ?_ (by simp) ?_ (fun e he => ?_) (fun e s he => ?_) (fun e he j hj => ?_) (fun i hi => ?_) (fun i j hi => ?_) (fun p s he => ?_) ?_ tr ⟨fun e B j he => ?_, fun e j he hj => ?_, fun e B j e' B' j' p p' he => ?_⟩ ⟨st.sim, t.fr, t.df, t.sz⟩ st (fun b hb1 hb2 => z b (Nat.le_trans (Nat.le_add_right _ _) hb1) hb2) fun μ' a' w' at' st' => ⟨rfl, μ', at', st'⟩
  ·unfold open'
   rw [List.countP_map, ← hlen]
   exact List.countP_eq_length.2 fun _ _ => rfl
  ·rw [List.map_map]
   have : (es.map ((fun x : It => x.1) ∘ fun e => (e, none))) = es := by
    rw [show ((fun x : It => x.1) ∘ fun e : RG => ((e, none) : It)) = id from rfl, List.map_id]
   rw [this]
   exact List.Sublist.refl _
  ·obtain ⟨e', he', rfl⟩ := List.mem_map.1 he
   exact hlt e' he'
  ·obtain ⟨e', he', h1⟩ := List.mem_map.1 he
   cases h1
  ·obtain ⟨e', he', h1⟩ := List.mem_map.1 he
   cases h1
   obtain ⟨p, hp, hpj, _⟩ := T.own e he' j hj
   exact ⟨p, none, List.mem_map.2 ⟨p, hp.subset (by simp), rfl⟩, hpj⟩
  ·simp only [Array.getD_eq_getD_getElem?, Array.getElem?_replicate, hi, if_true, Option.getD_some, true_iff]
   obtain ⟨e, he, hei⟩ := hmem i hi
   exact ⟨e, List.mem_map.2 ⟨e, he, rfl⟩, hei⟩
  ·rw [Array.getD_eq_getD_getElem?, Array.getElem?_replicate] at hi
   split at hi <;> simp at hi
  ·obtain ⟨e', he', h1⟩ := List.mem_map.1 he
   cases h1
  ·rw [List.map_map]
   have : (es.map ((fun x : It => x.1) ∘ fun e => (e, none))) = es := by
    rw [show ((fun x : It => x.1) ∘ fun e : RG => ((e, none) : It)) = id from rfl, List.map_id]
   rw [this]
   exact hg _
  ·obtain ⟨e', he', h1⟩ := List.mem_map.1 he
   cases h1
  ·obtain ⟨e', he', h1⟩ := List.mem_map.1 he
   cases h1
   have := ghlt e he' j hj
   refine ⟨by show h.next + j < h.next + m; omega, ?_, z _ (by omega) (by omega)⟩
   show h.get (h.next + j) = none
   cases hq : h.get (h.next + j) with
   | none => rfl
   | some B => have := t.sim.lt _ _ hq; omega
  ·obtain ⟨e'', he', h1⟩ := List.mem_map.1 he
   cases h1
end
end Gx
namespace Gx
open Go
section
variable {ds : List Deferred} {G : Nat} {P : Program} {R : Type} {r : R} {C : CallF}
theorem appL_const {L : Slots} {f : PFr} {h : AHeap} (e : appL L f (constL (fun _ => (none : Option R)) L) h = some r) : False := by
 induction L generalizing f h with
 | nil => simp [appL, constL] at e
 | cons p L ih =>
  obtain ⟨s, t⟩ := p
  simp only [appL, constL] at e
  split at e
  ·simp only [Option.bind_eq_some_iff] at e
   obtain ⟨x, _, e⟩ := e
   exact ih e
  ·cases e
theorem appL_lam {L : Slots} : ∀ {f f0 : PFr} {b : PFr → AHeap → Option R} {h : AHeap}, (∀ s v, f0 s = some v → f s = some v) → appL L f (lamL L f0 b) h = some r →
  ∃ g, (∀ s v, g s = some v → f s = some v) ∧ b g h = some r := by
 induction L with
 | nil => intro f f0 b h hs e; exact ⟨f0, hs, e⟩
 | cons p L ih =>
  obtain ⟨s, t⟩ := p
  intro f f0 b h hs e
  simp only [appL, lamL] at e
  split at e
  ·rename_i v hv
   simp only [Option.bind_eq_some_iff] at e
   obtain ⟨x, hx, e⟩ := e
   have hx' := LTy.enc_dec hx
   refine ih (fun s' v' h' => ?_) e
   unfold pset at h'
   cases hb : Nat.beq s' s
   ·rw [hb] at h'; exact hs _ _ h'
   ·rw [hb] at h'
    have : s' = s := Nat.eq_of_beq_eq_true hb
    subst this; cases h'; rw [hx']; exact hv
  ·cases e
theorem rcode_region {n id : Nat} {ops : Array Oper} {draw : Bool} {x : RCode} (h : rcodeOf P G n (.region id ops draw) = some x) : (∃ ros, x = .region ros) ∨ (∃ es, x = .draw es) ∨ (∃ m es, x = .gdraw m es) := by
 simp only [rcodeOf] at h
 split at h
 ·unfold drawC at h
  split at h
  ·cases h; exact .inr (.inl ⟨_, rfl⟩)
  ·split at h
   ·cases h; exact .inr (.inr ⟨_, _, rfl⟩)
   ·cases h
 ·rw [Option.map_eq_some_iff] at h
  obtain ⟨ros, _, rfl⟩ := h
  exact .inl ⟨_, rfl⟩
theorem rcode_region_t {n : Nat} {ops : Array Oper} {ros : List RO} (h : drawC P G n ops = some (.region ros)) : False := by
 unfold drawC at h
 split at h
 ·cases h
 ·split at h <;> cases h
theorem rounds_mono {c : Code} {Q Q' : Exit → Act → World → Prop} (hq : ∀ x a w, Q x a w → Q' x a w) : ∀ (m : Nat) (a : Act) (w : World), Code.rounds P c Q m a w → Code.rounds P c Q' m a w
 | 0, _, _, h => h
 | m + 1, a, w, h => by
  rw [rounds_succ] at h ⊢
  refine wp_mono h fun e a w he => ?_
  cases e <;> first | exact rounds_mono hq m a w he | exact hq _ _ _ he
theorem den_sound (hC : CSound P G C) {n k : Nat} : ∀ (rc : RCode) (c : Code) (f : PFr) (h : AHeap) (κ : AExit → PFr → AHeap → Option R) (r : R), rcodeOf P G n c = some (strip rc) → den C k rc f h κ = some r →
  ∃ e f' h', κ e f' h' = some r ∧ RunS P G n c f h e f' h' := by
 intro rc
 induction rc with
 | skip =>
  intro c f h κ r hc hd
  refine ⟨.normal, f, h, hd, Nat.le_refl _, fun μ a w t z => ?_⟩
  cases c with
  | skip => exact wp_skip ⟨rfl, μ, t, .refl t.sim⟩
  | label l => exact wp_label ⟨rfl, μ, t, .refl t.sim⟩
  | region id ops draw => obtain ⟨_, e⟩ | ⟨_, e⟩ | ⟨_, _, e⟩ := rcode_region hc <;> simp [strip] at e
  | seq a b => simp only [rcodeOf] at hc; split at hc <;> (try cases hc); split at hc <;> simp [strip] at hc
  | cond c a b => simp only [rcodeOf] at hc; split at hc <;> (try cases hc); split at hc <;> simp [strip] at hc
  | block id c => simp [rcodeOf, strip] at hc
  | loop c => simp [rcodeOf, strip] at hc
  | scope c => simp [rcodeOf, strip] at hc
  | exit id => simp [rcodeOf, strip] at hc
  | ret => simp [rcodeOf, strip] at hc
  | goto l => simp [rcodeOf, strip] at hc
  | refuse w => simp [rcodeOf, strip] at hc
  | rangeFunc _ _ _ _ => simp [rcodeOf, strip] at hc
 | region ros =>
  intro c f h κ r hc hd
  cases c with
  | region id ops draw =>
   simp only [rcodeOf] at hc
   cases draw with
   | true => exact (rcode_region_t (by simpa [strip] using hc)).elim
   | false =>
    simp [strip] at hc
    obtain ⟨f', h', hk, hn, hrun⟩ := dops_sound hC (n := n) (ops := ops) ops.toList (List.range ops.size) ros f h (fun f h => κ .normal f h) (by simp) (fun i o hi => by
     have hlt : i < ops.size := by simpa using (List.getElem?_eq_some_iff.1 hi).1
     exact ⟨i, by simp [hlt], by simpa using hi⟩) hc hd
    refine ⟨.normal, f', h', hk, hn, fun μ a w t z => wp_region (wpOps_mono (fun x a' w' ⟨e, q⟩ => ⟨e, q⟩) _ _ _ (hrun μ a w t z))⟩
  | skip => simp [rcodeOf, strip] at hc
  | label l => simp [rcodeOf, strip] at hc
  | seq a b => simp only [rcodeOf] at hc; split at hc <;> (try cases hc); split at hc <;> simp [strip] at hc
  | cond c a b => simp only [rcodeOf] at hc; split at hc <;> (try cases hc); split at hc <;> simp [strip] at hc
  | block id c => simp [rcodeOf, strip] at hc
  | loop c => simp [rcodeOf, strip] at hc
  | scope c => simp [rcodeOf, strip] at hc
  | exit id => simp [rcodeOf, strip] at hc
  | ret => simp [rcodeOf, strip] at hc
  | goto l => simp [rcodeOf, strip] at hc
  | refuse w => simp [rcodeOf, strip] at hc
  | rangeFunc _ _ _ _ => simp [rcodeOf, strip] at hc
 | draw es =>
  intro c f h κ r hc hd
  cases c with
  | region id ops draw =>
   simp only [rcodeOf] at hc
   cases draw with
   | false => simp [strip] at hc
   | true =>
    simp only [if_true, strip, drawC] at hc
    split at hc
    ·rename_i es0 h1
     simp only [Option.some.injEq, RCode.draw.injEq] at hc
     obtain ⟨f', h', hk, hrun⟩ := draw_sound hC h1 hc.symm hd
     exact ⟨.normal, f', h', hk, hrun⟩
    ·split at hc <;> simp at hc
  | skip => simp [rcodeOf, strip] at hc
  | label l => simp [rcodeOf, strip] at hc
  | seq a b => simp only [rcodeOf] at hc; split at hc <;> (try cases hc); split at hc <;> simp [strip] at hc
  | cond c a b => simp only [rcodeOf] at hc; split at hc <;> (try cases hc); split at hc <;> simp [strip] at hc
  | block id c => simp [rcodeOf, strip] at hc
  | loop c => simp [rcodeOf, strip] at hc
  | scope c => simp [rcodeOf, strip] at hc
  | exit id => simp [rcodeOf, strip] at hc
  | ret => simp [rcodeOf, strip] at hc
  | goto l => simp [rcodeOf, strip] at hc
  | refuse w => simp [rcodeOf, strip] at hc
  | rangeFunc _ _ _ _ => simp [rcodeOf, strip] at hc
 | gdraw m es =>
  intro c f h κ r hc hd
  cases c with
  | region id ops draw =>
   simp only [rcodeOf] at hc
   cases draw with
   | false => simp [strip] at hc
   | true =>
    simp only [if_true, strip, drawC] at hc
    split at hc
    ·simp at hc
    ·split at hc
     ·rename_i es0 h1
      simp only [Option.some.injEq, RCode.gdraw.injEq] at hc
      obtain ⟨f', h', hk, hrun⟩ := gdraw_sound hC h1 hc.2.symm hc.1.symm hd
      exact ⟨.normal, f', h', hk, hrun⟩
     ·simp at hc
  | skip => simp [rcodeOf, strip] at hc
  | label l => simp [rcodeOf, strip] at hc
  | seq a b => simp only [rcodeOf] at hc; split at hc <;> (try cases hc); split at hc <;> simp [strip] at hc
  | cond c a b => simp only [rcodeOf] at hc; split at hc <;> (try cases hc); split at hc <;> simp [strip] at hc
  | block id c => simp [rcodeOf, strip] at hc
  | loop c => simp [rcodeOf, strip] at hc
  | scope c => simp [rcodeOf, strip] at hc
  | exit id => simp [rcodeOf, strip] at hc
  | ret => simp [rcodeOf, strip] at hc
  | goto l => simp [rcodeOf, strip] at hc
  | refuse w => simp [rcodeOf, strip] at hc
  | rangeFunc _ _ _ _ => simp [rcodeOf, strip] at hc
 | seq ra rb iha ihb =>
  intro c f h κ r hc hd
  obtain ⟨a, b, rfl, ha, hb⟩ : ∃ a b, c = .seq a b ∧ rcodeOf P G n a = some (strip ra) ∧ rcodeOf P G n b = some (strip rb) := by
   cases c <;> simp only [rcodeOf] at hc <;> (try (simp [strip] at hc; done))
   case region id ops d => obtain ⟨_, e⟩ | ⟨_, e⟩ | ⟨_, _, e⟩ := rcode_region (id := id) (draw := d) hc <;> simp [strip] at e
   case seq a b =>
    split at hc
    ·cases hc
    ·rename_i x hx
     split at hc
     ·cases hc
     ·rename_i y hy; simp [strip] at hc; exact ⟨a, b, rfl, by rw [hx, hc.1], by rw [hy, hc.2]⟩
   case cond c a b => split at hc <;> (try cases hc); split at hc <;> simp [strip] at hc
  simp only [den] at hd
  obtain ⟨e1, f1, h1, hk1, hn1, hr1⟩ := iha a f h _ r ha hd
  cases e1 with
  | normal =>
   obtain ⟨e2, f2, h2, hk2, hn2, hr2⟩ := ihb b f1 h1 κ r hb hk1
   refine ⟨e2, f2, h2, hk2, Nat.le_trans hn1 hn2, fun μ a' w t z => ?_⟩
   refine wp_seq (wp_mono (hr1 μ a' w t (z.le hn2)) ?_)
   rintro e a1 w1 ⟨rfl, μ1, t1, s1⟩
   refine wp_mono (hr2 μ1 a1 w1 t1 (s1.zed z)) ?_
   rintro e a2 w2 ⟨rfl, μ2, t2, s2⟩
   exact ⟨rfl, μ2, t2, s1.trans s2⟩
  | exit i =>
   refine ⟨.exit i, f1, h1, hk1, hn1, fun μ a' w t z => wp_seq (wp_mono (hr1 μ a' w t z) ?_)⟩
   rintro e a1 w1 ⟨rfl, q⟩; exact ⟨rfl, q⟩
  | ret =>
   refine ⟨.ret, f1, h1, hk1, hn1, fun μ a' w t z => wp_seq (wp_mono (hr1 μ a' w t z) ?_)⟩
   rintro e a1 w1 ⟨rfl, q⟩; exact ⟨rfl, q⟩
 | cond o ra rb iha ihb =>
  intro c f h κ r hc hd
  obtain ⟨a, b, rfl, ha, hb⟩ : ∃ a b, c = .cond o a b ∧ rcodeOf P G n a = some (strip ra) ∧ rcodeOf P G n b = some (strip rb) := by
   cases c <;> simp only [rcodeOf] at hc <;> (try (simp [strip] at hc; done))
   case region id ops d => obtain ⟨_, e⟩ | ⟨_, e⟩ | ⟨_, _, e⟩ := rcode_region (id := id) (draw := d) hc <;> simp [strip] at e
   case seq a b => split at hc <;> (try cases hc); split at hc <;> simp [strip] at hc
   case cond c a b =>
    split at hc
    ·cases hc
    ·rename_i x hx
     split at hc
     ·cases hc
     ·rename_i y hy; simp [strip] at hc; exact ⟨a, b, by rw [hc.1], by rw [hx, hc.2.1], by rw [hy, hc.2.2]⟩
  simp only [den] at hd
  split at hd
  ·rename_i t
   split at hd
   ·rename_i x hx
    have hev : ∀ {ds : List Deferred} (μ : BMap) (a' : Act) (w : World), At ds G μ f h n a' w → a'.eval (.tmp t) = .bool x := fun μ a' w at_ => by
     have := at_.fr t _ hx
     exact vr_bool this
    split at hd
    ·rename_i hxt; subst hxt
     obtain ⟨e1, f1, h1, hk1, hr1⟩ := iha a _ h κ r ha hd
     exact ⟨e1, f1, h1, hk1, hr1.1, fun μ a' w at_ z => wp_cond (hev μ a' w at_) ((hr1.weaken (pset_same hx)).2 μ a' w at_ z)⟩
    ·rename_i hxf
     simp only [Bool.not_eq_true] at hxf; subst hxf
     obtain ⟨e1, f1, h1, hk1, hr1⟩ := ihb b _ h κ r hb hd
     exact ⟨e1, f1, h1, hk1, hr1.1, fun μ a' w at_ z => wp_cond (hev μ a' w at_) ((hr1.weaken (pset_same hx)).2 μ a' w at_ z)⟩
   ·cases hd
  ·rename_i x
   cases x with
   | true =>
    obtain ⟨e1, f1, h1, hk1, hr1⟩ := iha a f h κ r ha hd
    exact ⟨e1, f1, h1, hk1, hr1.1, fun μ a' w at_ z => wp_cond (t := true) rfl (hr1.2 μ a' w at_ z)⟩
   | false =>
    obtain ⟨e1, f1, h1, hk1, hr1⟩ := ihb b f h κ r hb hd
    exact ⟨e1, f1, h1, hk1, hr1.1, fun μ a' w at_ z => wp_cond (t := false) rfl (hr1.2 μ a' w at_ z)⟩
  ·cases hd
 | scope ra iha =>
  intro c f h κ r hc hd
  obtain ⟨a, rfl, ha⟩ : ∃ a, c = .scope a ∧ rcodeOf P G n a = some (strip ra) := by
   cases c <;> simp only [rcodeOf] at hc <;> (try (simp [strip] at hc; done))
   case region id ops d => obtain ⟨_, e⟩ | ⟨_, e⟩ | ⟨_, _, e⟩ := rcode_region (id := id) (draw := d) hc <;> simp [strip] at e
   case seq a b => split at hc <;> (try cases hc); split at hc <;> simp [strip] at hc
   case cond c a b => split at hc <;> (try cases hc); split at hc <;> simp [strip] at hc
   case scope a =>
    simp only [Option.map_eq_some_iff] at hc
    obtain ⟨x, hx, e⟩ := hc
    simp [strip] at e
    exact ⟨a, rfl, by rw [hx, e]⟩
  simp only [den] at hd
  obtain ⟨e1, f1, h1, hk1, hn1, hr1⟩ := iha a f h _ r ha hd
  refine ⟨e1, f1, h1, hk1, hn1, fun μ a' w t z => wp_scope_straight (wp_mono (hr1 μ a' w t z) ?_)⟩
  rintro e a1 w1 ⟨rfl, q⟩
  cases e1 <;> exact ⟨rfl, q⟩
 | block id ra iha =>
  intro c f h κ r hc hd
  obtain ⟨a, rfl, ha⟩ : ∃ a, c = .block id a ∧ rcodeOf P G n a = some (strip ra) := by
   cases c <;> simp only [rcodeOf] at hc <;> (try (simp [strip] at hc; done))
   case region id ops d => obtain ⟨_, e⟩ | ⟨_, e⟩ | ⟨_, _, e⟩ := rcode_region (id := id) (draw := d) hc <;> simp [strip] at e
   case seq a b => split at hc <;> (try cases hc); split at hc <;> simp [strip] at hc
   case cond c a b => split at hc <;> (try cases hc); split at hc <;> simp [strip] at hc
   case block id' a =>
    simp only [Option.map_eq_some_iff] at hc
    obtain ⟨x, hx, e⟩ := hc
    simp [strip] at e
    exact ⟨a, by rw [e.1], by rw [hx, e.2]⟩
  simp only [den] at hd
  obtain ⟨e1, f1, h1, hk1, hn1, hr1⟩ := iha a f h _ r ha hd
  cases e1 with
  | normal =>
   refine ⟨.normal, f1, h1, hk1, hn1, fun μ a' w t z => wp_block (wp_mono (hr1 μ a' w t z) ?_)⟩
   rintro e a1 w1 ⟨rfl, q⟩; exact ⟨rfl, q⟩
  | ret =>
   refine ⟨.ret, f1, h1, hk1, hn1, fun μ a' w t z => wp_block (wp_mono (hr1 μ a' w t z) ?_)⟩
   rintro e a1 w1 ⟨rfl, q⟩; exact ⟨rfl, q⟩
  | exit i =>
   simp only at hk1
   cases hb : Nat.beq i id
   ·rw [hb] at hk1
    have hne : i ≠ id := fun e => by subst e; rw [Nat.beq_refl] at hb; cases hb
    refine ⟨.exit i, f1, h1, hk1, hn1, fun μ a' w t z => wp_block (wp_mono (hr1 μ a' w t z) ?_)⟩
    rintro e a1 w1 ⟨rfl, q⟩
    simp only [exitOf, Exit.inBlock, hne, if_false]
    exact ⟨trivial, q⟩
   ·rw [hb] at hk1
    have he : i = id := Nat.eq_of_beq_eq_true hb
    subst he
    refine ⟨.normal, f1, h1, hk1, hn1, fun μ a' w t z => wp_block (wp_mono (hr1 μ a' w t z) ?_)⟩
    rintro e a1 w1 ⟨rfl, q⟩
    simp only [exitOf, Exit.inBlock, if_true]
    exact ⟨trivial, q⟩
 | loop L ra iha =>
  intro c f h κ r hc hd
  obtain ⟨a, rfl, ha⟩ : ∃ a, c = .loop a ∧ rcodeOf P G n a = some (strip ra) := by
   cases c <;> simp only [rcodeOf] at hc <;> (try (simp [strip] at hc; done))
   case region id ops d => obtain ⟨_, e⟩ | ⟨_, e⟩ | ⟨_, _, e⟩ := rcode_region (id := id) (draw := d) hc <;> simp [strip] at e
   case seq a b => split at hc <;> (try cases hc); split at hc <;> simp [strip] at hc
   case cond c a b => split at hc <;> (try cases hc); split at hc <;> simp [strip] at hc
   case loop a =>
    simp only [Option.map_eq_some_iff] at hc
    obtain ⟨x, hx, e⟩ := hc
    simp [strip] at e
    exact ⟨a, rfl, by rw [hx, e]⟩
  simp only [den] at hd
  have key : ∀ (m : Nat) (f : PFr) (h : AHeap), appL L f (iterK (constL (fun _ => none) L) m fun rec => lamL L noFr fun f h => den C k ra f h fun e f h => match e with
    | .normal => appL L f rec h
    | .exit i => κ (.exit i) f h
    | .ret => κ .ret f h) h = some r →
    ∃ e f' h', e ≠ .normal ∧ κ e f' h' = some r ∧ h.next ≤ h'.next ∧ ∀ {ds : List Deferred} (μ : BMap) (a' : Act) (w : World), At ds G μ f h n a' w → Zed μ h.next h'.next →
     Code.rounds P a (fun x a' w' => x = exitOf e ∧ ∃ μ', At ds G μ' f' h' n a' w' ∧ Step G μ h w μ' h' w') m a' w := by
   intro m
   induction m with
   | zero => intro f h hd; exact (appL_const hd).elim
   | succ m ihm =>
    intro f h hd
    simp only [iterK] at hd
    obtain ⟨g, hg, hd⟩ := appL_lam (fun s v hv => by cases hv) hd
    obtain ⟨e1, f1, h1, hk1, hr1⟩ := iha a g h _ r ha hd
    have hr1 := hr1.weaken hg
    obtain ⟨hn1, hr1⟩ := hr1
    cases e1 with
    | normal =>
     obtain ⟨e2, f2, h2, hne, hk2, hn2, hr2⟩ := ihm f1 h1 hk1
     refine ⟨e2, f2, h2, hne, hk2, Nat.le_trans hn1 hn2, fun μ a' w t z => ?_⟩
     rw [rounds_succ]
     refine wp_mono (hr1 μ a' w t (z.le hn2)) ?_
     rintro e a1 w1 ⟨rfl, μ1, t1, s1⟩
     refine rounds_mono ?_ _ _ _ (hr2 μ1 a1 w1 t1 (s1.zed z))
     rintro e a2 w2 ⟨rfl, μ2, t2, s2⟩
     exact ⟨rfl, μ2, t2, s1.trans s2⟩
    | exit i =>
     refine ⟨.exit i, f1, h1, by simp, hk1, hn1, fun μ a' w t z => ?_⟩
     rw [rounds_succ]
     refine wp_mono (hr1 μ a' w t z) ?_
     rintro e a1 w1 ⟨rfl, q⟩; exact ⟨rfl, q⟩
    | ret =>
     refine ⟨.ret, f1, h1, by simp, hk1, hn1, fun μ a' w t z => ?_⟩
     rw [rounds_succ]
     refine wp_mono (hr1 μ a' w t z) ?_
     rintro e a1 w1 ⟨rfl, q⟩; exact ⟨rfl, q⟩
  obtain ⟨e, f', h', _, hk, hn, hr⟩ := key k f h hd
  exact ⟨e, f', h', hk, hn, fun μ a' w t z => wp_loop_rounds k (hr μ a' w t z)⟩
 | join L ra iha =>
  intro c f h κ r hc hd
  simp only [den, joinK] at hd
  have hc' : rcodeOf P G n c = some (strip ra) := hc
  obtain ⟨e1, f1, h1, hk1, hr1⟩ := iha c f h _ r hc' hd
  cases e1 with
  | normal =>
   obtain ⟨g, hg, hk⟩ := appL_lam (fun s v hv => by cases hv) hk1
   refine ⟨.normal, g, h1, hk, hr1.1, fun μ a' w t z => wp_mono (hr1.2 μ a' w t z) ?_⟩
   rintro e a1 w1 ⟨rfl, μ1, t1, s1⟩
   exact ⟨rfl, μ1, t1.weaken hg, s1⟩
  | exit i => exact ⟨.exit i, f1, h1, hk1, hr1⟩
  | ret => exact ⟨.ret, f1, h1, hk1, hr1⟩
 | exit id =>
  intro c f h κ r hc hd
  obtain rfl : c = .exit id := by
   cases c <;> simp only [rcodeOf] at hc <;> (try (simp [strip] at hc; done))
   case region id ops d => obtain ⟨_, e⟩ | ⟨_, e⟩ | ⟨_, _, e⟩ := rcode_region (id := id) (draw := d) hc <;> simp [strip] at e
   case seq a b => split at hc <;> (try cases hc); split at hc <;> simp [strip] at hc
   case cond c a b => split at hc <;> (try cases hc); split at hc <;> simp [strip] at hc
   case exit i => simp [strip] at hc; rw [hc]
  exact ⟨.exit id, f, h, hd, Nat.le_refl _, fun μ a' w t z => wp_exit ⟨rfl, μ, t, .refl t.sim⟩⟩
 | ret =>
  intro c f h κ r hc hd
  obtain rfl : c = .ret := by
   cases c <;> simp only [rcodeOf] at hc <;> (try (simp [strip] at hc; done))
   case region id ops d => obtain ⟨_, e⟩ | ⟨_, e⟩ | ⟨_, _, e⟩ := rcode_region (id := id) (draw := d) hc <;> simp [strip] at e
   case seq a b => split at hc <;> (try cases hc); split at hc <;> simp [strip] at hc
   case cond c a b => split at hc <;> (try cases hc); split at hc <;> simp [strip] at hc
   case ret => rfl
  exact ⟨.ret, f, h, hd, Nat.le_refl _, fun μ a' w t z => wp_ret ⟨rfl, μ, t, .refl t.sim⟩⟩
 | stuck =>
  intro c f h κ r hc hd
  simp [den] at hd
end
end Gx
namespace Gx
open Go
abbrev TupT : Slots → Type
 | [] => Unit
 | [(_, t)] => t.T
 | (_, t) :: p :: L => t.T × TupT (p :: L)
def encT : (L : Slots) → TupT L → List Value
 | [], _ => []
 | [(_, t)], x => [t.enc x]
 | (_, t) :: p :: L, x => t.enc x.1 :: encT (p :: L) x.2
def retV : List Value → Value
 | [v] => v
 | l => .tuple ⟨l⟩
def resV {X : Type} (s : Nat) (c : Option LTy) (f : PFr) (h : AHeap) (g : Value → Option X) : Option X :=
 match f s with
 | some v => match c with
  | none => g v
  | some T => match v with
   | .pointer p => p.bind fun a => dload T a h g
   | _ => none
 | none => none
def resT {X : Type} : (L : Slots) → List (Option LTy) → PFr → AHeap → (TupT L → Option X) → Option X
 | [], [], _, _, g => g ()
 | [(s, t)], [c], f, h, g => resV s c f h fun v => (t.dec v).bind g
 | (s, t) :: p :: L, c :: cs, f, h, g => resV s c f h fun v => (t.dec v).bind fun x => resT (p :: L) cs f h fun y => g (x, y)
 | _, _, _, _, _ => none
def argFr (args : List Value) : PFr := fun s => args[s]?
noncomputable def denF (C : CallF) (k : Nat) (rc : RCode) (rs : Slots) (cs : List (Option LTy)) (args : List Value) (h : AHeap) : Option (TupT rs × AHeap) :=
 den C k rc (argFr args) h fun e f h => match e with
  | .exit _ => none
  | .normal => resT rs cs f h fun x => some (x, h)
  | .ret => resT rs cs f h fun x => some (x, h)
def curF {X : Type} : (L : Slots) → (List Value → AHeap → Option X) → FnL L (AHeap → Option X)
 | [], b => b []
 | (_, t) :: L, b => fun x => curF L fun vs => b (t.enc x :: vs)
def appA {X : Type} : (L : Slots) → List Value → FnL L (AHeap → Option X) → AHeap → Option X
 | [], [], g, h => g h
 | (_, t) :: L, v :: vs, g, h => (t.dec v).bind fun x => appA L vs (g x) h
 | [], _ :: _, _, _ => none
 | _ :: _, [], _, _ => none
structure Ent where
 id : FuncId
 run : (R : Type) → List Value → AHeap → (Value → AHeap → Option R) → Option R
def entOf (id : FuncId) (ps rs : Slots) (f : FnL ps (AHeap → Option (TupT rs × AHeap))) : Ent :=
 ⟨id, fun _ args h κ => (appA ps args f h).bind fun r => κ (retV (encT rs r.1)) r.2⟩
def EntOk (P : Program) (G : Nat) (e : Ent) : Prop :=
 ∀ (R : Type) (args : List Value) (h : AHeap) (κ : Value → AHeap → Option R) (r : R), e.run R args h κ = some r → ∃ v h', κ v h' = some r ∧ FnS P G e.id args h v h'
def mkC (D : CallF) : List Ent → CallF
 | [] => D
 | e :: es => fun R g args h κ => bif Nat.beq g e.id then e.run R args h κ else mkC D es R g args h κ
def noC : CallF := fun _ _ _ _ _ => none
def EntsOk (P : Program) (G : Nat) : List Ent → Prop
 | [] => True
 | e :: es => EntOk P G e ∧ EntsOk P G es
section
variable {G : Nat} {P : Program}
theorem noC_sound : CSound P G noC := fun _ _ _ _ _ _ h => by cases h
theorem mkC_sound {D : CallF} (hD : CSound P G D) : ∀ {es : List Ent}, EntsOk P G es → CSound P G (mkC D es)
 | [], _ => hD
 | e :: es, hes => fun R g args h κ r hr => by
  simp only [mkC] at hr
  cases hb : Nat.beq g e.id
  ·rw [hb] at hr; exact mkC_sound hD hes.2 R g args h κ r hr
  ·rw [hb] at hr
   have he : g = e.id := Nat.eq_of_beq_eq_true hb
   subst he; exact hes.1 R args h κ r hr
def ResV (f : PFr) (h : AHeap) (s : Nat) (c : Option LTy) (v : Value) : Prop :=
 match c with
 | none => f s = some v
 | some T => ∃ a, f s = some (.pointer (some a)) ∧ dload T a h some = some v
def ResR (f : PFr) (h : AHeap) : Slots → List (Option LTy) → List Value → Prop
 | [], [], [] => True
 | (s, _) :: L, c :: cs, v :: vs => ResV f h s c v ∧ ResR f h L cs vs
 | _, _, _ => False
theorem dload_id {R : Type} {t : LTy} {a : Addr} {h : AHeap} {κ : Value → Option R} {r : R} (hd : dload t a h κ = some r) : ∃ v, κ v = some r ∧ dload t a h some = some v := by
 obtain ⟨v, h1, _, h2⟩ := dload_some hd
 exact ⟨v, h1, h2 h (by cases t <;> rfl) some⟩
theorem resV_some {X : Type} {s : Nat} {c : Option LTy} {f : PFr} {h : AHeap} {g : Value → Option X} {r : X} (hr : resV s c f h g = some r) : ∃ v, g v = some r ∧ ResV f h s c v := by
 unfold resV at hr
 split at hr
 ·rename_i v hv
  cases c with
  | none => exact ⟨v, hr, hv⟩
  | some T =>
   simp only at hr
   split at hr
   ·rename_i p
    simp only [Option.bind_eq_some_iff] at hr
    obtain ⟨a, rfl, hr⟩ := hr
    obtain ⟨v', h1, h2⟩ := dload_id hr
    exact ⟨v', h1, a, hv, h2⟩
   ·cases hr
 ·cases hr
theorem resT_some {X : Type} : ∀ {L : Slots} {cs : List (Option LTy)} {f : PFr} {h : AHeap} {g : TupT L → Option X} {r : X}, resT L cs f h g = some r → ∃ x, g x = some r ∧ ResR f h L cs (encT L x)
 | [], [], f, h, g, r, e => ⟨(), e, trivial⟩
 | [(s, t)], [c], f, h, g, r, e => by
  simp only [resT] at e
  obtain ⟨v, h1, h2⟩ := resV_some e
  simp only [Option.bind_eq_some_iff] at h1
  obtain ⟨x, hx, hg⟩ := h1
  refine ⟨x, hg, ?_, trivial⟩
  rw [LTy.enc_dec hx]; exact h2
 | (s, t) :: p :: L, c :: cs, f, h, g, r, e => by
  simp only [resT] at e
  obtain ⟨v, h1, h2⟩ := resV_some e
  simp only [Option.bind_eq_some_iff] at h1
  obtain ⟨x, hx, hg⟩ := h1
  obtain ⟨y, hy, hR⟩ := resT_some hg
  refine ⟨(x, y), hy, ?_, hR⟩
  rw [LTy.enc_dec hx]; exact h2
 | [], _ :: _, _, _, _, _, e => by simp [resT] at e
 | [_], [], _, _, _, _, e => by simp [resT] at e
 | [_], _ :: _ :: _, _, _, _, _, e => by simp [resT] at e
 | _ :: _ :: _, [], _, _, _, _, e => by simp [resT] at e
theorem appA_cur {X : Type} : ∀ {L : Slots} {args : List Value} {b : List Value → AHeap → Option X} {h : AHeap} {r : X}, appA L args (curF L b) h = some r → b args h = some r
 | [], [], b, h, r, e => e
 | (s, t) :: L, v :: vs, b, h, r, e => by
  simp only [appA, curF, Option.bind_eq_some_iff] at e
  obtain ⟨x, hx, e⟩ := e
  have := appA_cur e
  rw [LTy.enc_dec hx] at this
  exact this
 | [], _ :: _, b, h, r, e => by simp [appA] at e
 | _ :: _, [], b, h, r, e => by simp [appA] at e
def resOk (P : Program) : List ResultVar → Slots → List (Option LTy) → Bool
 | [], [], [] => true
 | .tmp t :: l, (s, _) :: L, none :: cs => Nat.beq t s && resOk P l L cs
 | .cell t ty :: l, (s, _) :: L, some T :: cs => Nat.beq t s && decide (ltyOf P ty = some T) && resOk P l L cs
 | _, _, _ => false
theorem loadVar_ok {t : TypeId} {T : LTy} {μ : BMap} {h : AHeap} {w : World} (hT : ltyOf P t = some T) (s : Sim G μ h w) {ad : Addr} {p' v : Value} (hv : VR μ (.pointer (some ad)) p') (hd : dload T ad h some = some v) :
  ∃ v', (do loadVar t (← asAddr p') : Sem Value).run P w = .ok v' w ∧ VR μ v v' := by
 obtain ⟨v0, hk, hv0, _⟩ := dload_some hd
 cases hk
 obtain ⟨b, o, c, d, z, rfl, he, hm⟩ := vr_ptr hv
 subst he
 cases T
 case st ts => exact (ltyOf_st hT).elim
 case agg n =>
  obtain ⟨l, hl, rfl⟩ := hv0
  obtain ⟨h1, h2⟩ := ltyOf_agg hT
  obtain ⟨vs', q1, q2, _⟩ := s.loads (P := P) hm hl
  exact ⟨_, by simp [asAddr, loadVar, run_isAgg h1, run_sizeOf' h2, q1], .agg_list q2⟩
 all_goals
  obtain ⟨v', q1, q2⟩ := s.cell hm hv0
  exact ⟨v', by simp [asAddr, loadVar, run_isAgg (ltyOf_one hT (fun n e => by cases e)), q1], q2⟩
theorem run_results {fn : Func} {rs : Slots} {cs : List (Option LTy)} (hr : resOk P fn.results.toList rs cs = true) {μ : BMap} {f : PFr} {tmps : Array Value} (fr : FR μ f tmps) {h : AHeap} {w : World} (sim : Sim G μ h w) {vals : List Value}
  (hx : ResR f h rs cs vals) : ∃ v', (results fn tmps).run P w = .ok v' w ∧ VR μ (retV vals) v' := by
 let F : ResultVar → Sem Value := (fun | .tmp t => pure (tmps.getD t undef) | .cell a t => do loadVar t (← asAddr (tmps.getD a undef)) : ResultVar → Sem Value)
 let g : ResultVar → Value := fun r => match (F r).run P w with | .ok v _ => v | _ => undef
 have gok : ∀ r v, (F r).run P w = .ok v w → g r = v := fun r v e => by simp only [g, e]
 have key : ∀ (l : List ResultVar) (L : Slots) (cs : List (Option LTy)) (vs : List Value), resOk P l L cs = true → ResR f h L cs vs →
   (∀ r ∈ l, (F r).run P w = .ok (g r) w) ∧ VRs μ vs (l.map g) := by
  intro l
  induction l with
  | nil =>
   intro L cs vs h1 h2
   cases L <;> cases cs <;> simp [resOk] at h1
   cases vs with
   | nil => exact ⟨fun r hr => (by cases hr), VRs.nil μ⟩
   | cons _ _ => simp [ResR] at h2
  | cons r l ih =>
   intro L cs vs h1 h2
   cases L with
   | nil => cases r <;> simp [resOk] at h1
   | cons p L =>
    obtain ⟨s, t⟩ := p
    cases cs with
    | nil => cases r <;> simp [resOk] at h1
    | cons c cs =>
    cases vs with
    | nil => simp [ResR] at h2
    | cons v vs =>
    simp only [ResR] at h2
    have main : ∃ v', (F r).run P w = .ok v' w ∧ VR μ v v' := by
     cases r with
     | tmp tt =>
      cases c with
      | some _ => simp [resOk] at h1
      | none =>
       simp only [resOk, Bool.and_eq_true] at h1
       have hts : tt = s := Nat.eq_of_beq_eq_true h1.1
       subst hts
       exact ⟨_, rfl, fr _ _ h2.1⟩
     | cell tt ty =>
      cases c with
      | none => simp [resOk] at h1
      | some T =>
       simp only [resOk, Bool.and_eq_true] at h1
       have hts : tt = s := Nat.eq_of_beq_eq_true h1.1.1
       subst hts
       obtain ⟨a, ha, hd⟩ := h2.1
       exact loadVar_ok (of_decide_eq_true h1.1.2) sim (fr _ _ ha) hd
    have tl : resOk P l L cs = true := by
     cases r <;> cases c <;> simp only [resOk, Bool.and_eq_true] at h1 <;> first | exact h1.2 | cases h1
    obtain ⟨k1, k2⟩ := ih L cs vs tl h2.2
    obtain ⟨v', q1, q2⟩ := main
    have e := gok _ _ q1
    refine ⟨fun r' hr' => ?_, ?_⟩
    ·rcases List.mem_cons.1 hr' with rfl | hr'
     ·rw [q1, e]
     ·exact k1 r' hr'
    ·simp only [List.map_cons]
     exact .cons (e ▸ q2) k2
 obtain ⟨k1, k2⟩ := key fn.results.toList rs cs vals hr hx
 have hm := run_mapMA (P := P) F g w fn.results (fun r hr => k1 r hr)
 have hrun : (results fn tmps).run P w = .ok (if h : (fn.results.map g).size = 1 then (fn.results.map g)[0] else .tuple (fn.results.map g)) w := by
  unfold results
  simp only [Sem.run_bind]
  erw [hm]
  rfl
 have fin : ∀ (A : Array Value) (vs : List Value), VRs μ vs A.toList → VR μ (retV vs) (if h : A.size = 1 then A[0] else .tuple A) := by
  intro A vs k2
  obtain ⟨al⟩ := A
  match vs, al, k2 with
  | [], al, k2 =>
   have := k2.nil_inv; subst this
   simp [retV]
   exact .tuple_list (.nil μ)
  | [v], al, k2 =>
   obtain ⟨v', t, e, h1, h2⟩ := k2.cons_inv
   have := h2.nil_inv; subst this
   simp only at e; subst e
   simpa [retV] using h1
  | v :: v2 :: vs, al, k2 =>
   have hl2 := k2.1
   rw [dif_neg (by simp at hl2 ⊢; omega)]
   exact .tuple_list k2
 refine ⟨_, hrun, fin _ _ ?_⟩
 have hlist : (fn.results.map g).toList = fn.results.toList.map g := by simp
 rw [hlist]; exact k2
theorem fnS_of {fn : Func} {g : FuncId} {c : Code} {rc : RCode} {rs : Slots} {cs : List (Option LTy)} {C : CallF} {k : Nat} {args : List Value} {h h' : AHeap} {x : TupT rs} (hC : CSound P G C) (hf : P.funcs[g]? = some fn) (hb : fn.body = some c)
  (hname : (fn.name == "runtime.NumGoroutine") = false) (hcode : rcodeOf P G fn.ntmps c = some (strip rc)) (hres : resOk P fn.results.toList rs cs = true) (hd : denF C k rc rs cs args h = some (x, h')) :
  FnS P G g args h (retV (encT rs x)) h' := by
 unfold denF at hd
 obtain ⟨e, f', h1, hk, hn, hrun⟩ := den_sound hC rc c (argFr args) h _ _ hcode hd
 have hex : (e = .normal ∨ e = .ret) ∧ resT rs cs f' h1 (fun x => some (x, h1)) = some (x, h') := by
  cases e with
  | normal => exact ⟨.inl rfl, hk⟩
  | ret => exact ⟨.inr rfl, hk⟩
  | exit i => simp at hk
 obtain ⟨he, hk⟩ := hex
 obtain ⟨x', hx', hR⟩ := resT_some hk
 simp only [Option.some.injEq, Prod.mk.injEq] at hx'
 obtain ⟨rfl, rfl⟩ := hx'
 refine ⟨hn, fun μ w args' s z hv o a next Q hnext => ?_⟩
 have hcall : (callFunc g ⟨args'⟩).run P w = .ok (.enter g ⟨args'⟩) w := by
  have hne : ¬ fn.name = "runtime.NumGoroutine" := by simpa using hname
  simp [callFunc, hf, hne, hb]
 rw [hcall, Oper.upon_enter]
 refine calls_of_wp hf hb (wp_mono (hrun μ _ w ⟨s, fun t v ht => ?_, rfl, ?_⟩ z) ?_)
 ·-- the arguments' slots
  simp only [argFr] at ht
  obtain ⟨v', q1, q2⟩ := hv.get ht
  have hlt : t < args'.length := (List.getElem?_eq_some_iff.1 q1).1
  rw [Array.getD_eq_getD_getElem?, Array.getElem?_append_left (by simpa using hlt)]
  have : (⟨args'⟩ : Array Value)[t]? = some v' := by simpa using q1
  rw [this]; exact q2
 ·simp; omega
 ·rintro y a1 w1 ⟨rfl, μ1, at1, st⟩
  obtain ⟨v', r1, r2⟩ := run_results (P := P) hres at1.fr at1.sim hR
  have : bodyPost P fn (fun e w'' => match e with
    | .returned v => next (a.put o.dst v) w''
    | .panicked chain => Q (.panic chain) a w''
    | .outgrown => LetsOut Q) .ret a1 w1 := ⟨at1.df, v', r1, hnext v' w1 ⟨μ1, r2, st⟩⟩
  rcases he with rfl | rfl
  ·exact this
  ·exact this
theorem entOf_ok {fn : Func} {id : FuncId} {c : Code} {rc : RCode} {ps rs : Slots} {cs : List (Option LTy)} {C : CallF} {k : Nat} {f : FnL ps (AHeap → Option (TupT rs × AHeap))} (hC : CSound P G C) (hf : P.funcs[id]? = some fn) (hb : fn.body = some c)
  (hname : (fn.name == "runtime.NumGoroutine") = false) (hcode : rcodeOf P G fn.ntmps c = some (strip rc)) (hres : resOk P fn.results.toList rs cs = true)
  (hrfl : curF ps (fun args h => denF C k rc rs cs args h) = f) : EntOk P G (entOf id ps rs f) := by
 intro R args h κ r hr
 simp only [entOf, Option.bind_eq_some_iff] at hr
 obtain ⟨⟨x, h'⟩, hx, hk⟩ := hr
 rw [← hrfl] at hx
 exact ⟨_, h', hk, fnS_of hC hf hb hname hcode hres (appA_cur hx)⟩
end
end Gx
namespace Gx
open Go
inductive AT where
 | n
 | j (L : Slots) (t : AT)
 | s (a b : AT)
 | b (a : AT)
 | l (L : Slots) (a : AT)
 | r (tags : List (Nat × LTy))
def tagAt : List (Nat × LTy) → Nat → Option LTy
 | [], _ => none
 | (i, t) :: l, m => bif Nat.beq i m then some t else tagAt l m
def tagO (t : Option LTy) (o : RO) : RO := ⟨o.dst, o.op, o.guard, t⟩
def tagR (ts : List (Nat × LTy)) : Nat → List RO → List RO
 | _, [] => []
 | m, o :: l => tagO (tagAt ts m) o :: tagR ts (m + 1) l
def tagD (ts : List (Nat × LTy)) : Nat → List RD → List RD
 | _, [] => []
 | m, e :: l => ⟨e.idx, tagO (tagAt ts m) e.ro, e.looks, e.win⟩ :: tagD ts (m + 1) l
def tagG (ts : List (Nat × LTy)) : Nat → List RG → List RG
 | _, [] => []
 | m, e :: l => ⟨⟨e.d.idx, tagO (tagAt ts m) e.d.ro, e.d.looks, e.d.win⟩, e.gh, e.own⟩ :: tagG ts (m + 1) l
def an : AT → RCode → RCode
 | .n, c => c
 | .j L t, c => .join L (an t c)
 | .s x y, c => match c with
  | .seq a b => .seq (an x a) (an y b)
  | .cond o a b => .cond o (an x a) (an y b)
  | c => c
 | .b x, c => match c with
  | .block i a => .block i (an x a)
  | .scope a => .scope (an x a)
  | c => c
 | .l L x, c => match c with
  | .loop _ a => .loop L (an x a)
  | c => c
 | .r ts, c => match c with
  | .region os => .region (tagR ts 0 os)
  | .draw es => .draw (tagD ts 0 es)
  | .gdraw m es => .gdraw m (tagG ts 0 es)
  | c => c
def rOf (P : Program) (G : Nat) (f : Func) : RCode := (f.body.bind (rcodeOf P G f.ntmps)).getD .stuck
section
variable {G : Nat} {P : Program}
theorem EntsOk.none : EntsOk P G [] := trivial
theorem EntsOk.more {e : Ent} {es : List Ent} (h : EntOk P G e) (hs : EntsOk P G es) : EntsOk P G (e :: es) := ⟨h, hs⟩
theorem entOf_ok2 {fn : Func} {id : FuncId} {rc : RCode} {ps rs : Slots} {cs : List (Option LTy)} {C : CallF} {k : Nat} {f : FnL ps (AHeap → Option (TupT rs × AHeap))} (hC : CSound P G C) (hf : P.funcs[id]? = some fn)
  (hname : (fn.name == "runtime.NumGoroutine") = false) (hcode : fn.body.bind (rcodeOf P G fn.ntmps) = some (strip rc)) (hres : resOk P fn.results.toList rs cs = true)
  (hrfl : curF ps (fun args h => denF C k rc rs cs args h) = f) : EntOk P G (entOf id ps rs f) := by
 cases hb : fn.body with
 | none => rw [hb] at hcode; cases hcode
 | some c => rw [hb] at hcode; exact entOf_ok hC hf hb hname hcode hres hrfl
end
end Gx
namespace Gx
open Go
section
variable {G : Nat} {P : Program}
theorem fnS_value {g : FuncId} {args : List Value} {h h' : AHeap} {v : Value} (hn : h.next ≤ h'.next)
  (k : ∀ (μ : BMap) (w : World) (args' : List Value), Sim G μ h w → Zed μ h.next h'.next → VRs μ args args' → ∃ μ' v' w', (callFunc g ⟨args'⟩).run P w = .ok (.value v') w' ∧ VR μ' v v' ∧ Step G μ h w μ' h' w') : FnS P G g args h v h' := by
 refine ⟨hn, fun μ w args' s z hv o a next Q hnext => ?_⟩
 obtain ⟨μ', v', w', h1, h2, h3⟩ := k μ w args' s z hv
 rw [h1, Oper.upon_value]
 exact hnext v' w' ⟨μ', h2, h3⟩
theorem VR.unit {μ : BMap} : VR μ (.tuple ⟨[]⟩) (.tuple ⟨[]⟩) := .tuple_list (.nil μ)
variable {f : FuncId} {fn : Func}
theorem VRs.one_inv {μ : BMap} {v : Value} {l : List Value} (h : VRs μ [v] l) : ∃ v', l = [v'] ∧ VR μ v v' := by
 obtain ⟨v', t, e, h1, h2⟩ := h.cons_inv
 have := h2.nil_inv; subst this
 exact ⟨v', e, h1⟩
theorem VRs.two_inv {μ : BMap} {v u : Value} {l : List Value} (h : VRs μ [v, u] l) : ∃ v' u', l = [v', u'] ∧ VR μ v v' ∧ VR μ u u' := by
 obtain ⟨v', t, e, h1, h2⟩ := h.cons_inv
 obtain ⟨u', rfl, h3⟩ := h2.one_inv
 exact ⟨v', u', e, h1, h3⟩
theorem st1_next {a : Addr} {v : Value} {h h' : AHeap} (hs : st1 a v h = some h') : h'.next = h.next := by
 unfold st1 AHeap.wr1 at hs
 split at hs
 ·split at hs
  ·cases hs; rfl
  ·cases hs
 ·cases hs
end
end Gx
namespace Gx
open Go
section
variable {G : Nat} {P : Program} {R : Type} {r : R} {C : CallF}
structure OnceC where
 id : FuncId
 ro0 : List RO
 ro1 : List RO
 g1 : FuncId
 a1 : List Operand
 ro2 : List RO
 t : Nat
 ro3 : List RO
 g2 : FuncId
 a2 : List Operand
 ro4 : List RO
structure OnceFits (P : Program) (G : Nat) (fn : Func) (o : OnceC) : Prop where
 ex : ∃ (i0 i1 i2 i3 i4 : Nat) (p0 p1 p2 p3 p4 : Array Oper) (pre1 pre3 : List Oper) (d1 d3 : Oper) (b1 b3 : Array Operand) (t1 t3 : Array TypeId),
  fn.body = some (.seq (.region i0 p0 false) (.seq (.region i1 p1 false) (.seq (.region i2 p2 false) (.cond (.tmp o.t) (.seq (.region i3 p3 false) (.region i4 p4 false)) .skip)))) ∧
  rosOf P G fn.ntmps p0 p0.toList = some (o.ro0.map stripO) ∧ rosOf P G fn.ntmps p2 p2.toList = some (o.ro2.map stripO) ∧ rosOf P G fn.ntmps p4 p4.toList = some (o.ro4.map stripO) ∧
  p1.toList = pre1 ++ [d1] ∧ d1.op = .defer ⟨.value (.func o.g1), b1, t1⟩ ∧ d1.guard = none ∧ d1.dst = none ∧ rosOf P G fn.ntmps p1 pre1 = some (o.ro1.map stripO) ∧ opsG G b1.toList = true ∧ b1.toList = o.a1 ∧
  p3.toList = pre3 ++ [d3] ∧ d3.op = .defer ⟨.value (.func o.g2), b3, t3⟩ ∧ d3.guard = none ∧ d3.dst = none ∧ rosOf P G fn.ntmps p3 pre3 = some (o.ro3.map stripO) ∧ opsG G b3.toList = true ∧ b3.toList = o.a2
end
end Gx
namespace Gx
open Go Go.RowKit
section
variable {G : Nat} {P : Program}
def repB (s : ByteArray) (n : Nat) : ByteArray := ⟨(Lib.repeatL s.data.toList n).toArray⟩
end
end Gx
namespace Gx
open Go Go.RowKit
open Go.Proofs (encStr)
section
variable {G : Nat} {P : Program}
theorem fnS_callsN {g : FuncId} {fn : Func} {c : Code} {args : List Value} {h h' : AHeap} {v : Value} (hf : P.funcs[g]? = some fn) (hb : fn.body = some c) (hname : (fn.name == "runtime.NumGoroutine") = false) (hn : h.next ≤ h'.next)
  (k : ∀ (μ : BMap) (w : World) (args' : List Value), Sim G μ h w → Zed μ h.next h'.next → VRs μ args args' → Calls P g ⟨args'⟩ w fun e w' => ∃ μ' v', e = .returned v' ∧ VR μ' v v' ∧ Step G μ h w μ' h' w') : FnS P G g args h v h' := by
 refine ⟨hn, fun μ w args' s z hv o a next Q hnext => ?_⟩
 have hcall : (callFunc g ⟨args'⟩).run P w = .ok (.enter g ⟨args'⟩) w := by
  have hne : ¬ fn.name = "runtime.NumGoroutine" := by simpa using hname
  simp [callFunc, hf, hne, hb]
 rw [hcall, Oper.upon_enter]
 refine (k μ w args' s z hv).mono ?_
 rintro e w' ⟨μ', v', rfl, h1, h2⟩
 exact hnext v' w' ⟨μ', h1, h2⟩
def srt (ks : List ByteArray) : List Value := ((ks.map (·.data.toList)).mergeSort leB).map encStr
structure SortedC (P : Program) (f gk : FuncId) (e : TypeId) : Prop where
 cS : ∀ (bx b : Nat) (es : Array MapEntry) (clock : Nat) (ks : List ByteArray) (w : World), w.cell? ⟨bx, 0, none⟩ = some (.map (some b)) → w.heap[b]? = some (.map es clock) → es.toList.map (·.key) = ks.map Value.string →
  (∀ s ∈ ks, s.size ≤ 9223372036854775807) → MapKept.Stamped es clock → ks.length * 16 ≤ 140737488355328 →
  Calls P f #[.func (.func gk) #[] #[.pointer (some ⟨bx, 0, none⟩)]] w fun x w' => ∃ v, x = .returned v ∧ w'.ownsRow w.heap.size e 1 v ks.length (srt ks) ∧ (v = .slice none 0 0 ↔ ks = []) ∧ Below w.heap.size w w'
 cN : ∀ (bx : Nat) (w : World), w.cell? ⟨bx, 0, none⟩ = some (.map none) →
  Calls P f #[.func (.func gk) #[] #[.pointer (some ⟨bx, 0, none⟩)]] w fun x w' => x = .returned (.slice none 0 0) ∧ Below w.heap.size w w'
end
end Gx
namespace Gx
open Go Go.RowKit
section
variable {G : Nat} {P : Program} {f : FuncId} {fn : Func}
def idxB (s : ByteArray) (c : Int) : Int :=
 match (List.range s.size).find? fun i => s[i]! == UInt8.ofNat c.toNat with
 | some i => (i : Int)
 | none => -1
def eIdxB (id : FuncId) : Ent := ⟨id, fun _ args h κ => match args with
 | [.string s, .int k c] => bif decide (k = .u8) then κ (.int .i64 (idxB s c)) h else none
 | _ => none⟩
theorem idxB_ok (hf : P.funcs[f]? = some fn) (hname : (fn.name == "runtime.NumGoroutine") = false) (hb : fn.body.isNone = true) (hn : Extern.findNext fn = none)
  (he : Extern.find fn = some Extern.BytealgIndexByte.indexByte) : EntOk P G (eIdxB f) := by
 intro R args h κ r hr
 simp only [eIdxB] at hr
 split at hr
 ·rename_i s k c
  by_cases hk : k = IntKind.u8
  ·subst hk
   simp only [decide_true, cond_true] at hr
   refine ⟨_, h, hr, fnS_value (Nat.le_refl _) fun μ w args' sm z hv => ?_⟩
   obtain ⟨p', u', rfl, hp, hu⟩ := hv.two_inv
   have := vr_int hu; subst this
   have := vr_str hp; subst this
   refine ⟨μ, .int .i64 (idxB s c), w, ?_, .int _ _, .refl sm⟩
   have hrun : (Extern.BytealgIndexByte.indexByte #[.string s, .int .u8 c]).run P w = .ok (.int .i64 (idxB s c)) w := by
    have hdef : Extern.BytealgIndexByte.indexByte #[.string s, .int .u8 c] = (do
     let b ← Extern.Bytes.bytesOf (.string s)
     let c ← Extern.Bytes.asByte (.int .u8 c)
     match (List.range b.size).find? fun i => b[i]! == c with
     | some i => pure (goInt i)
     | none => pure (goInt (-1))) := rfl
    rw [hdef]
    simp only [Extern.Bytes.bytesOf, Extern.Bytes.asByte, Sem.run_bind, Sem.run_pure, Result.andThen_ok, idxB]
    have e1 : c.toNat.toUInt8 = UInt8.ofNat c.toNat := rfl
    rw [e1]
    cases (List.range s.size).find? fun i => s[i]! == UInt8.ofNat c.toNat <;> simp [goInt]
   have e2 : (⟨[.string s, .int .u8 c]⟩ : Array Value) = #[.string s, .int .u8 c] := rfl
   rw [e2]
   show (callFunc f _).run P w = _
   rw [run_callFunc_extern hf hname hb hn he, hrun]
   rfl
  ·simp [hk] at hr
 ·cases hr
def tabIn (e o n : Nat) : List (Nat × Nat × Nat) → Bool
 | [] => false
 | x :: l => (Nat.beq x.1 e && Nat.beq x.2.1 o && Nat.ble x.2.2 n) || tabIn e o n l
theorem tabIn_mem {e o n : Nat} : ∀ {l : List (Nat × Nat × Nat)}, tabIn e o n l = true → ∃ s, (e, o, s) ∈ l ∧ s ≤ n
 | [], h => by cases h
 | x :: l, h => by
  simp only [tabIn, Bool.or_eq_true, Bool.and_eq_true] at h
  rcases h with ⟨⟨h1, h2⟩, h3⟩ | h
  ·have h1 := Nat.eq_of_beq_eq_true h1
   have h2 := Nat.eq_of_beq_eq_true h2
   obtain ⟨a, b, c⟩ := x
   simp only at h1 h2 h3
   subst h1; subst h2
   exact ⟨c, List.mem_cons_self, Nat.le_of_ble_eq_true h3⟩
  ·obtain ⟨s, h1, h2⟩ := tabIn_mem h
   exact ⟨s, List.mem_cons_of_mem _ h1, h2⟩
def ccA (tab : List (Nat × Nat × Nat)) (a : Addr) (h : AHeap) : Option AHeap :=
 match h.get a.block with
 | some (.cells c e true _) => if tabIn e a.off c.length tab = true ∧ a.spot = none then
   match c[a.off]? with
   | some (.pointer none) => st1 a (.pointer (some a)) h
   | some (.pointer (some b)) => if b = a then some h else none
   | _ => none
  else none
 | _ => none
def eCC (id : FuncId) (tab : List (Nat × Nat × Nat)) : Ent := ⟨id, fun _ args h κ => match args with
 | [.pointer p] => p.bind fun a => (ccA tab a h).bind fun h' => κ (.tuple ⟨[]⟩) h'
 | _ => none⟩
theorem cc_ok {tab : List (Nat × Nat × Nat)} {tb : TypeId} {c0 : Code} (hf : P.funcs[f]? = some fn) (hb : fn.body = some c0) (hname : (fn.name == "runtime.NumGoroutine") = false)
  (hused : ∀ (b o : Nat) (w : World), w.cell? ⟨b, o, none⟩ = some (.pointer (some ⟨b, o, none⟩)) → Calls P f #[.pointer (some ⟨b, o, none⟩)] w fun e w' => e = .returned (.tuple #[]) ∧ w' = w)
  (hfresh : ∀ (b o : Nat) (w : World) (T : TypeId) (z : Nat), w.cell? ⟨b, o, none⟩ = some (.pointer none) → w.shape? b = some (T, z) → o < z → liesAt P P.depth T (z / P.cellsOf T) o tb 1 = true → w.frozen? ⟨b, o, none⟩ = false →
   Calls P f #[.pointer (some ⟨b, o, none⟩)] w fun e w' => e = .returned (.tuple #[]) ∧ w' = w.setCell ⟨b, o, none⟩ (.pointer (some ⟨b, o, none⟩)))
  (htab : ∀ x ∈ tab, P.cellsOf x.1 = x.2.2 ∧ 0 < x.2.2 ∧ ∀ N, liesAt P P.depth x.1 (N + 1) x.2.1 tb 1 = true) : EntOk P G (eCC f tab) := by
 intro R args h κ r hr
 simp only [eCC] at hr
 split at hr
 ·rename_i p
  simp only [Option.bind_eq_some_iff] at hr
  obtain ⟨a, rfl, h', hA, hr⟩ := hr
  unfold ccA at hA
  split at hA
  ·rename_i c e fz hget
   split at hA
   ·rename_i hc
    obtain ⟨htb, hsp⟩ := hc
    obtain ⟨s, hmem, hle⟩ := tabIn_mem htb
    obtain ⟨t1, t2, t3⟩ := htab _ hmem
    simp only at t1 t2 t3
    have inv : ∀ {μ : BMap} {w : World} {args' : List Value}, Sim G μ h w → VRs μ [.pointer (some a)] args' → ∃ cb z c', a = ⟨a.block, a.off, none⟩ ∧ args' = [.pointer (some ⟨cb, a.off, none⟩)] ∧ μ a.block = some (cb, 0, z) ∧ (∃ lo hi, w.heap[cb]? = some (.cells c' e (lo, hi))) ∧ c'.size = z ∧
      (∀ (i : Nat) (v : Value), c[i]? = some v → ∃ v', c'[i]? = some v' ∧ VR μ v v') := by
     intro μ w args' sm hv
     obtain ⟨p', rfl, hp⟩ := hv.one_inv
     obtain ⟨b, o, cb, d, z, rfl, rfl, hm⟩ := vr_ptr hp
     simp only at hget
     obtain ⟨c', lo, hi, hO, hz, hcc, hrw⟩ := sm.obj hget hm
     obtain ⟨rfl, _⟩ := hrw rfl
     exact ⟨cb, z, c', rfl, by simp, hm, ⟨lo, hi, hO⟩, hz, fun i v hi => by simpa using hcc i v hi⟩
    split at hA
    ·rename_i hcell
     have hlt : a.off < c.length := (List.getElem?_eq_some_iff.1 hcell).1
     have hnx := st1_next hA
     refine ⟨_, h', hr, fnS_callsN hf hb hname (Nat.le_of_eq hnx.symm) fun μ w args' sm zd hv => ?_⟩
     obtain ⟨cb, z, c', ea, rfl, hm, ⟨lo, hi, hO⟩, hz, hcc⟩ := inv sm hv
     obtain ⟨v', q1, q2⟩ := hcc _ _ hcell
     have e0 : v' = .pointer none := by cases q2; rfl
     subst e0
     have hlen : c.length ≤ z := by
      have : c.length - 1 < c.length := by omega
      obtain ⟨v', q3, _⟩ := hcc _ _ (List.getElem?_eq_getElem this)
      have := (Array.getElem?_eq_some_iff.1 q3).1
      omega
     have hcl : w.cell? ⟨cb, a.off, none⟩ = some (.pointer none) := by rw [cell_of_heap hO]; exact q1
     obtain ⟨w', r1, r2⟩ := sm.store1 (P := P) (o := a.off) (v' := .pointer (some ⟨cb, 0 + a.off, none⟩)) hm hA (by rw [ea]; exact .ptr hm)
     simp only [Nat.zero_add] at r1
     rw [run_store P w _ _ _ rfl, hcl] at r1
     simp only at r1
     cases hz2 : w.frozen? ⟨cb, a.off, none⟩ with
     | true => rw [hz2] at r1; simp at r1
     | false =>
      rw [hz2] at r1; simp at r1; subst r1
      have hN : ∃ N, z / P.cellsOf e = N + 1 := ⟨z / s - 1, by
       rw [t1]
       have : 1 ≤ z / s := (Nat.one_le_div_iff t2).2 (by omega)
       omega⟩
      obtain ⟨N, hN⟩ := hN
      refine (hfresh cb a.off w e z hcl (by simp [World.shape?, hO, hz]) (by omega) (by rw [hN]; exact t3 N) hz2).mono ?_
      rintro e' w' ⟨rfl, rfl⟩
      exact ⟨μ, _, rfl, .unit, r2⟩
    ·rename_i b hcell
     split at hA
     ·rename_i hba
      subst hba
      cases hA
      refine ⟨_, h, hr, fnS_callsN hf hb hname (Nat.le_refl _) fun μ w args' sm zd hv => ?_⟩
      obtain ⟨cb, z, c', ea, rfl, hm, ⟨lo, hi, hO⟩, hz, hcc⟩ := inv sm hv
      obtain ⟨v', q1, q2⟩ := hcc _ _ hcell
      obtain ⟨b1, o1, cb1, d1, z1, e1, rfl, hm1⟩ := vr_ptr q2
      have hb1 : b.block = b1 := by rw [e1]
      have ho1 : b.off = o1 := by rw [e1]
      subst hb1; subst ho1
      rw [hm] at hm1; cases hm1
      refine (hused cb b.off w (by rw [cell_of_heap hO, q1]; simp)).mono ?_
      rintro e' w' ⟨rfl, rfl⟩
      exact ⟨μ, _, rfl, .unit, .refl sm⟩
     ·cases hA
    ·cases hA
   ·cases hA
  ·cases hA
 ·cases hr
end
end Gx
namespace Gx
open Go Go.RowKit
section
variable {G : Nat} {P : Program}
theorem rdL_ok {h : AHeap} {b o n : Nat} {c : List Value} {e : TypeId} {r : Bool} {fz : Nat} (hb : h.get b = some (.cells c e r fz)) (hle : o + n ≤ c.length) : h.rdL b o n = some ((c.drop o).take n) := by
 unfold AHeap.rdL
 cases n with
 | zero => simp
 | succ n => simp only [hb]; rw [if_pos hle]
variable {sz bytes : Nat} {el : TypeId} {Z : List Value}
theorem AHeap.ext' {h h' : AHeap} (hn : h.next = h'.next) (hg : ∀ x, h.get x = h'.get x) : h = h' := by
 cases h; cases h'
 simp only at hn hg
 subst hn
 congr 1
 funext x
 exact hg x
end
end Gx
namespace Gx
open Go Go.RowKit
section
variable {G : Nat} {P : Program}
theorem FnS.calls {fn : Func} {g : FuncId} {args : List Value} {h h' : AHeap} {v : Value} (hF : FnS P G g args h v h') (hf : P.funcs[g]? = some fn) (hb : fn.body.isSome = true) (hname : (fn.name == "runtime.NumGoroutine") = false)
  {μ : BMap} {w : World} {args' : List Value} (s : Sim G μ h w) (z : Zed μ h.next h'.next) (hv : VRs μ args args') :
  Calls P g ⟨args'⟩ w fun e w' => ∃ v' μ', e = .returned v' ∧ VR μ' v v' ∧ Step G μ h w μ' h' w' := by
 have hcall : (callFunc g ⟨args'⟩).run P w = .ok (.enter g ⟨args'⟩) w := by
  have hne : ¬ fn.name = "runtime.NumGoroutine" := by simpa using hname
  obtain ⟨c, hc⟩ := Option.isSome_iff_exists.1 hb
  simp [callFunc, hf, hne, hc]
 have := hF.2 μ w args' s z hv ⟨some 0, .move (.tmp 0), 0, "", #[], none⟩ { tmps := #[undef], defers := [] }
  (fun a' w' => ∃ v' μ', a'.tmps = #[v'] ∧ VR μ' v v' ∧ Step G μ h w μ' h' w') (fun _ _ _ => False) (fun v' w' ⟨μ', h1, h2⟩ => ⟨v', μ', by simp [Act.put], h1, h2⟩)
 rw [hcall, Oper.upon_enter] at this
 refine Calls.mono this fun e w' he => ?_
 cases e with
 | returned u =>
  obtain ⟨v', μ', e, h1, h2⟩ := he
  simp [Act.put] at e
  subst e
  exact ⟨_, μ', rfl, h1, h2⟩
 | panicked ch => exact he.elim
 | outgrown => obtain ⟨_, _, hh⟩ := he; exact hh.elim
theorem Step.below {μ μ' : BMap} {h h' : AHeap} {w w' : World} (st : Step G μ h w μ' h' w') (hro : ∀ b B, h.get b = some B → B.isRW = false) : Below w.heap.size w w' :=
 ⟨st.os, st.tape, st.output, st.size, fun k hk => st.old k hk fun b B p hb hrw => by rw [hro b B hb] at hrw; cases hrw⟩
def h0 : AHeap := ⟨0, fun _ => none⟩
theorem sim0 (w : World) : Sim 0 (fun _ => none) h0 w :=
 ⟨(fun _ _ h => nomatch h), (fun _ _ _ _ _ _ h => nomatch h), (fun _ _ h => nomatch h), (fun g h => absurd h (Nat.not_lt_zero g)), Nat.le_refl _⟩
theorem law_calls {fn : Func} {g : FuncId} {e : Ent} (he : EntOk P G e) (hg : e.id = g) (hf : P.funcs[g]? = some fn) (hb : fn.body.isSome = true) (hname : (fn.name == "runtime.NumGoroutine") = false) {args : List Value} {h : AHeap}
  (hrun : e.run Bool args h (fun v _ => match v with | .bool b => some b | _ => none) = some true) {μ : BMap} {w : World} {args' : List Value} (s : Sim G μ h w) (z : ∀ b, h.next ≤ b → μ b = none) (hv : VRs μ args args') (hro : ∀ b B, h.get b = some B → B.isRW = false) :
  Calls P g ⟨args'⟩ w fun e w' => e = .returned (.bool true) ∧ Below w.heap.size w w' := by
 obtain ⟨v, h', hk, hF⟩ := he Bool args h _ true hrun
 subst hg
 refine Calls.mono (hF.calls hf hb hname s (fun b hb _ => z b hb) hv) ?_
 rintro e w' ⟨v', μ', rfl, h1, h2⟩
 refine ⟨?_, h2.below hro⟩
 split at hk
 ·cases hk; rw [vr_bool h1]
 ·cases hk
end
end Gx
namespace Gx
open Go Go.RowKit Go.ChangeShapes Go.WideShapes
structure Start (w : World) (μ : BMap) (h : AHeap) (G : Nat := 0) : Prop where
 sim : Sim G μ h w
 z : ∀ b, h.next ≤ b → μ b = none
 ro : ∀ b B, h.get b = some B → B.isRW = false
theorem Start.zero (w : World) : Start w (fun _ => none) h0 := ⟨sim0 w, fun _ _ => rfl, fun b B hb => by cases hb⟩
theorem put_self (μ : BMap) (b : Nat) (p : Nat × Nat × Nat) : (μ.put b p) b = some p := by simp [BMap.put]
theorem Start.add {G : Nat} {w : World} {μ : BMap} {h : AHeap} (S : Start w μ h G) {c d : Nat} {arr : Array Value} {e : TypeId} {fz : Nat × Nat} (hO : w.heap[c]? = some (.cells arr e fz)) {cs : List Value}
  (hc : ∀ (i : Nat) v, cs[i]? = some v → ∃ v', arr[d + i]? = some v' ∧ VR μ v v') : Start w (μ.put h.next (c, d, arr.size)) (h.new (.cells cs e false 0)) G := by
 have le := BMap.put_le (p := (c, d, arr.size)) (S.z h.next (Nat.le_refl _))
 refine ⟨⟨fun b B hb => ?_, fun b₁ b₂ B₁ B₂ p₁ p₂ h1 h2 _ hr _ _ => ?_, fun b B hb => ?_, fun g hg => let ⟨z, hz⟩ := S.sim.glob g hg; ⟨z, le _ _ hz⟩, Nat.le_trans S.sim.gle (by simp)⟩, fun b hb => ?_, fun b B hb => ?_⟩
 ·rw [AHeap.get_new] at hb
  split at hb
  ·rename_i e'; subst e'; cases hb
   exact ⟨c, d, arr.size, _, put_self _ _ _, hO, rfl, rfl, fun i v hv => let ⟨v', h1, h2⟩ := hc i v hv; ⟨v', h1, h2.mono le⟩, fun hf => by cases hf⟩
  ·obtain ⟨c', d', z', O', hm, hO', hr⟩ := S.sim.blk b B hb
   exact ⟨c', d', z', O', le _ _ hm, hO', hr.mono le⟩
 ·rw [AHeap.get_new] at h1
  split at h1
  ·cases h1; cases hr
  ·rw [S.ro b₁ B₁ h1] at hr; cases hr
 ·rw [AHeap.get_new] at hb
  split at hb
  ·rename_i e'; subst e'; simp
  ·have := S.sim.lt b B hb; simp; omega
 ·simp only [AHeap.next_new] at hb
  have : b ≠ h.next := by omega
  simp only [BMap.put, this, if_false]
  exact S.z b (by omega)
 ·rw [AHeap.get_new] at hb
  split at hb
  ·cases hb; rfl
  ·exact S.ro b B hb
def AHeap.hole (h : AHeap) : AHeap := ⟨h.next + 1, h.get⟩
theorem Start.hole {G : Nat} {w : World} {μ : BMap} {h : AHeap} (S : Start w μ h G) (p : Nat × Nat × Nat) : Start w (μ.put h.next p) h.hole G := by
 have le := BMap.put_le (p := p) (S.z h.next (Nat.le_refl _))
 refine ⟨⟨fun b B hb => ?_, fun b₁ b₂ B₁ B₂ p₁ p₂ h1 h2 _ hr _ _ => ?_, fun b B hb => ?_, fun g hg => let ⟨z, hz⟩ := S.sim.glob g hg; ⟨z, le _ _ hz⟩, Nat.le_trans S.sim.gle (Nat.le_succ _)⟩, fun b hb => ?_, fun b B hb => S.ro b B hb⟩
 ·obtain ⟨c', d', z', O', hm, hO', hr⟩ := S.sim.blk b B hb
  exact ⟨c', d', z', O', le _ _ hm, hO', hr.mono le⟩
 ·rw [S.ro b₁ B₁ h1] at hr; cases hr
 ·have := S.sim.lt b B hb
  show b < h.next + 1
  omega
 ·have hb : h.next + 1 ≤ b := hb
  have : b ≠ h.next := by omega
  simp only [BMap.put, this, if_false]
  exact S.z b (by omega)
theorem Keeps.hole (h : AHeap) : Keeps h h.hole := ⟨Nat.le_succ _, fun _ _ _ => rfl⟩
structure More (w : World) (μ : BMap) (h : AHeap) (μ' : BMap) (h' : AHeap) (G : Nat := 0) : Prop where
 st : Start w μ' h' G
 le : BLe μ μ'
 kp : Keeps h h'
theorem Start.row {G : Nat} {α : Type} {enc : α → Value} (pl : ∀ x, plainV (enc x) = true) {w : World} {μ : BMap} {h : AHeap} (S : Start w μ h G) {a : Addr} {len cap : Nat} {zs : List α} (hz : zs.length = cap) (hl : len ≤ cap)
  (hc : ∀ (i : Nat) x, zs[i]? = some x → w.cell? (a.add i) = some (enc x)) :
  ∃ μ' h' s, More w μ h μ' h' G ∧ VR μ' (.slice s.a s.len s.cap) (.slice (some a) len cap) ∧ Row enc h' s (zs.take len) ∧ ∀ b, s.a = some b → b.block < h'.next ∧ h.next ≤ b.block := by
 by_cases h0 : cap = 0
 ·obtain rfl : len = 0 := by omega
  have hzn : zs = [] := List.length_eq_zero_iff.1 (hz.trans h0)
  refine ⟨_, h.hole, ⟨some ⟨h.next, 0, none⟩, 0, 0⟩, ⟨S.hole (0, 0, 0), BMap.put_le (S.z _ (Nat.le_refl _)), .hole h⟩, ?_, ?_, ?_⟩
  ·subst h0; exact .empty fun _ => rfl
  ·rw [hzn]; exact Row.nil _ _ _ _
  ·intro b hb; cases hb; exact ⟨Nat.lt_succ_self _, Nat.le_refl _⟩
 ·obtain ⟨x0, hx0⟩ := isome (l := zs) (i := 0) (by omega)
  have c0 := hc 0 x0 hx0
  obtain ⟨b, off, sp⟩ := a
  have hsp : sp = none := by simpa [Addr.add] using World.cell?_spot c0
  subst hsp
  have cell : ∀ (i : Nat) x, zs[i]? = some x → w.cell? ⟨b, off + i, none⟩ = some (enc x) := fun i x hx => by rw [← add_plain]; exact hc i x hx
  obtain ⟨arr, e, fz, hO⟩ : ∃ arr e fz, w.heap[b]? = some (.cells arr e fz) := by
   have := cell 0 x0 hx0
   unfold World.cell? at this
   split at this
   ·rename_i c e fz hh; exact ⟨c, e, fz, hh⟩
   ·cases this
  have arrs : ∀ (i : Nat) x, zs[i]? = some x → arr[off + i]? = some (enc x) := fun i x hx => by
   have := cell i x hx
   unfold World.cell? at this
   rw [hO] at this
   simpa using this
  have A := S.add (d := off) (cs := zs.map enc) hO (fun i v hv => by
   rw [List.getElem?_map] at hv
   cases hx : zs[i]? with
   | none => rw [hx] at hv; cases hv
   | some x => rw [hx] at hv; cases hv; exact ⟨_, arrs i x hx, .of_plain (pl x)⟩)
  refine ⟨_, _, ⟨some ⟨h.next, 0, none⟩, len, cap⟩, ⟨A, BMap.put_le (S.z _ (Nat.le_refl _)), Keeps.new h _⟩, ?_, ?_, ?_⟩
  ·exact .slice (put_self _ _ _) rfl
  ·have := Row.of_block (enc := enc) (h := h.new (.cells (zs.map enc) e false 0)) (xs := zs.take len) (b := h.next) (o := 0) (sp := none) (cap := cap) (c := zs.map enc) (e := e) (r := false) (fz := 0) (by simp) (by simp) (fun i x hx => by
    rw [Nat.zero_add, List.getElem?_map]
    rw [List.getElem?_take] at hx
    split at hx
    ·rw [hx]; rfl
    ·cases hx)
   rw [List.length_take, hz, Nat.min_eq_left hl] at this
   exact this
  ·intro b hb; cases hb; simp
section
variable {H : Type} {enc : TypeId × Value → H} {P : Program} {w : World} {r : Reach} {base : Nat} {t e : TypeId} {v : Value} {d : DataW H} {ps : List MemPlace} {μ : BMap} {h : AHeap}
theorem trodAll_after (hl : laidOutB P = true) {W' : World} (hb : Below w.heap.size w W') : ∀ {ts : List TypeId} {vs : List Value} {ds : List (DataW H)} {ps : List MemPlace}, (∀ t ∈ ts, P.readableRec t = true ∧ t < P.types.size) →
  DataW.TrodAll enc P w 0 (fun _ => true) true ts vs ds ps → DataW.TrodAll enc P W' 0 (fun b => decide (b < w.heap.size)) true ts vs ds ps
 | [], [], [], ps, _, h => h
 | t :: ts, v :: vs, d :: ds, ps, hr, h => by
  have hlt := DataW.TrodAll.lt h
  obtain ⟨p, q, h1, h2, rfl⟩ := h
  exact ⟨p, q, Below.trod hl (hr t (by simp)).1 (hr t (by simp)).2 h1 hb (fun x hx => hlt x (by simp [hx])), trodAll_after hl hb (fun t ht => hr t (by simp [ht])) h2, rfl⟩
 | [], [], _ :: _, _, _, h => nomatch h
 | [], _ :: _, [], _, _, h => nomatch h
 | [], _ :: _, _ :: _, _, _, h => nomatch h
 | _ :: _, [], [], _, _, h => nomatch h
 | _ :: _, [], _ :: _, _, _, h => nomatch h
 | _ :: _, _ :: _, [], _, _, h => nomatch h
end
end Gx
namespace Gx
open Go Go.RowKit Go.ChangeShapes Go.WideShapes
inductive DT where
 | int (k : IntKind) | bool | str | unit
 | pair (a b : DT)
 | list (t : DT)
def DT.w : DT → Nat
 | .int _ => 1
 | .bool => 1
 | .str => 1
 | .unit => 0
 | .pair a b => a.w + b.w
 | .list _ => 1
abbrev DT.V : DT → Type
 | .int _ => Int
 | .bool => Bool
 | .str => ByteArray
 | .unit => Unit
 | .pair a b => a.V × b.V
 | .list t => List t.V
def Rep (h : AHeap) : (t : DT) → t.V → List Value → Prop
 | .int k, x, cs => cs = [.int k x] ∧ (Lit.int k x).wf = true
 | .bool, x, cs => cs = [.bool x]
 | .str, x, cs => cs = [.string x] ∧ x.size ≤ 9223372036854775807
 | .unit, _, cs => cs = []
 | .pair a b, x, cs => ∃ c1 c2, cs = c1 ++ c2 ∧ Rep h a x.1 c1 ∧ Rep h b x.2 c2
 | .list t, xs, cs => ∃ sl : Slc, cs = [.slice sl.a sl.len sl.cap] ∧ sl.len = xs.length ∧ (∀ a, sl.a = some a → a.block < h.next) ∧
   ∀ (i : Nat) (x : t.V), xs[i]? = some x → ∃ a c e r fz cx, sl.a = some a ∧ h.get a.block = some (.cells c e r fz) ∧ cx.length = t.w ∧ (∀ (j : Nat) (v : Value), cx[j]? = some v → c[a.off + i * t.w + j]? = some v) ∧ Rep h t x cx
theorem Rep.len {h : AHeap} : ∀ {t : DT} {x : t.V} {cs : List Value}, Rep h t x cs → cs.length = t.w
 | .int _, _, _, e => by rw [show _ = _ from e.1]; rfl
 | .bool, _, _, e => by rw [show _ = _ from e]; rfl
 | .str, _, _, e => by rw [show _ = _ from e.1]; rfl
 | .unit, _, _, e => by rw [show _ = _ from e]; rfl
 | .pair a b, _, _, ⟨c1, c2, e, h1, h2⟩ => by rw [e, List.length_append, Rep.len h1, Rep.len h2]; rfl
 | .list t, _, _, ⟨sl, e, _⟩ => by rw [e]; rfl
theorem Rep.keeps {h h' : AHeap} (k : Keeps h h') : ∀ {t : DT} {x : t.V} {cs : List Value}, Rep h t x cs → Rep h' t x cs
 | .int _, _, _, e => e
 | .bool, _, _, e => e
 | .str, _, _, e => e
 | .unit, _, _, e => e
 | .pair _ _, _, _, ⟨c1, c2, e, h1, h2⟩ => ⟨c1, c2, e, h1.keeps k, h2.keeps k⟩
 | .list _, _, _, ⟨sl, e, hl, hb, hx⟩ => ⟨sl, e, hl, fun a ha => Nat.lt_of_lt_of_le (hb a ha) k.nx, fun i x hi => by
   obtain ⟨a, c, ee, r, fz, cx, h1, h2, h3, h4, h5⟩ := hx i x hi
   exact ⟨a, c, ee, r, fz, cx, h1, (k.oth _ (hb a h1) fun f => f).trans h2, h3, h4, h5.keeps k⟩⟩
def shFs (P : Program) (g : TypeId → Option DT) : Nat → List Field → Option DT
 | _, [] => some .unit
 | off, f :: fs => if f.offset = off then (match g f.type with
   | some t => if P.cellsOf f.type = t.w then (match shFs P g (off + t.w) fs with
    | some r => some (.pair t r)
    | none => none) else none
   | none => none) else none
def repT (t : DT) : Nat → DT
 | 0 => .unit
 | n + 1 => .pair t (repT t n)
theorem repT_w (t : DT) : ∀ n, (repT t n).w = n * t.w
 | 0 => by simp [repT, DT.w]
 | n + 1 => by rw [repT, DT.w, repT_w t n, Nat.succ_mul, Nat.add_comm]
def shapeOf (P : Program) : Nat → TypeId → Option DT
 | 0, _ => none
 | d + 1, t => match P.underlying t with
  | some (.int k) => some (.int k)
  | some .bool => some .bool
  | some .string => some .str
  | some (.struct fs) => (match shFs P (shapeOf P d) 0 fs.toList with
    | some r => if P.cellsOf t = r.w then some r else none
    | none => none)
  | some (.array n e) => (match shapeOf P d e with
    | some r => if P.cellsOf e = r.w ∧ P.cellsOf t = n * r.w then some (repT r n) else none
    | none => none)
  | some (.slice e) => (match shapeOf P d e with
    | some r => if P.cellsOf e = r.w ∧ 0 < r.w then some (.list r) else none
    | none => none)
  | _ => none
section
variable {H : Type} {enc : TypeId × Value → H} {P : Program} {w : World} {G : Nat}
theorem More.refl {μ : BMap} {h : AHeap} (S : Start w μ h G) : More w μ h μ h G := ⟨S, .refl _, .refl _ _⟩
theorem More.trans {μ μ1 μ2 : BMap} {h h1 h2 : AHeap} (a : More w μ h μ1 h1 G) (b : More w μ1 h1 μ2 h2 G) : More w μ h μ2 h2 G := ⟨b.st, a.le.trans b.le, a.kp.trans b.kp⟩
def Opened (w : World) (G : Nat) (μ : BMap) (h : AHeap) (T : DT) (cs' : List Value) : Prop :=
 ∃ μ' h' v cs, More w μ h μ' h' G ∧ VRs μ' cs cs' ∧ Rep h' T v cs
def OpenAt (enc : TypeId × Value → H) (P : Program) (w : World) (G d : Nat) : Prop :=
 ∀ (t : TypeId) (T : DT), shapeOf P d t = some T → ∀ (μ : BMap) (h : AHeap), Start w μ h G → ∀ (n : Nat) (cs' : List Value) (x : DataW H × List MemPlace), DataW.trod enc P w 0 (fun _ => true) true n t cs' = some x → Opened w G μ h T cs'
theorem Opened.pair {μ : BMap} {h : AHeap} {a b : DT} {l : List Value} {off : Nat} (o1 : Opened w G μ h a ((l.drop off).take a.w))
  (o2 : ∀ μ' h', More w μ h μ' h' G → Opened w G μ' h' b ((l.drop (off + a.w)).take b.w)) : Opened w G μ h (.pair a b) ((l.drop off).take (a.w + b.w)) := by
 obtain ⟨μ1, h1, v1, c1, m1, r1, p1⟩ := o1
 obtain ⟨μ2, h2, v2, c2, m2, r2, p2⟩ := o2 μ1 h1 m1
 refine ⟨μ2, h2, (v1, v2), c1 ++ c2, m1.trans m2, ?_, c1, c2, rfl, p1.keeps m2.kp, p2⟩
 rw [List.take_add, List.drop_drop]
 exact (r1.mono m2.le).append r2
theorem open_fields {d : Nat} (ih : OpenAt enc P w G d) {n : Nat} {l : List Value} : ∀ (fs : List Field) (off : Nat) (T : DT), shFs P (shapeOf P d) off fs = some T →
  (∀ (i : Nat) f, fs[i]? = some f → ∃ x, DataW.trod enc P w 0 (fun _ => true) true n f.type ((l.drop f.offset).take (P.cellsOf f.type)) = some x) → ∀ (μ : BMap) (h : AHeap), Start w μ h G → Opened w G μ h T ((l.drop off).take T.w)
 | [], off, T, hs, _, μ, h, S => by
  simp only [shFs, Option.some.injEq] at hs; subst hs
  exact ⟨μ, h, (), [], .refl S, by simp [DT.w]; exact .nil _, rfl⟩
 | f :: fs, off, T, hs, hx, μ, h, S => by
  simp only [shFs] at hs
  split at hs
  ·rename_i ho
   split at hs
   ·rename_i t ht
    split at hs
    ·rename_i hw
     split at hs
     ·rename_i r hr
      cases hs
      obtain ⟨x, q⟩ := hx 0 f rfl
      rw [ho, hw] at q
      exact .pair (ih _ _ ht μ h S _ _ _ q) fun μ' h' m => open_fields ih fs _ r hr (fun i f' hi => hx (i + 1) f' (by simpa using hi)) μ' h' m.st
     ·cases hs
    ·cases hs
   ·cases hs
  ·cases hs
theorem open_items {d : Nat} (ih : OpenAt enc P w G d) {e : TypeId} {t : DT} (he : shapeOf P d e = some t) {n : Nat} {l : List Value} : ∀ (m k : Nat),
  (∀ i, i < m → ∃ x, DataW.trod enc P w 0 (fun _ => true) true n e ((l.drop ((k + i) * t.w)).take t.w) = some x) → ∀ (μ : BMap) (h : AHeap), Start w μ h G → Opened w G μ h (repT t m) ((l.drop (k * t.w)).take (repT t m).w)
 | 0, k, _, μ, h, S => ⟨μ, h, (), [], .refl S, by simp [repT, DT.w]; exact .nil _, rfl⟩
 | m + 1, k, hx, μ, h, S => by
  obtain ⟨x, q⟩ := hx 0 (by omega)
  rw [Nat.add_zero] at q
  refine .pair (ih _ _ he μ h S _ _ _ q) fun μ' h' mm => ?_
  rw [← Nat.succ_mul]
  exact open_items ih he m (k + 1) (fun i hi => by
   obtain ⟨x, q⟩ := hx (i + 1) (by omega)
   exact ⟨x, by rw [show k + 1 + i = k + (i + 1) by omega]; exact q⟩) μ' h' mm.st
theorem open_seq {T : DT} {ci : Nat → List Value} : ∀ (m : Nat), (∀ i, i < m → ∀ (μ : BMap) (h : AHeap), Start w μ h G → Opened w G μ h T (ci i)) → ∀ (μ : BMap) (h : AHeap), Start w μ h G →
  ∃ μ' h', ∃ (vs : List T.V) (cc : List (List Value)), More w μ h μ' h' G ∧ vs.length = m ∧ cc.length = m ∧ ∀ i, i < m → ∃ v c, vs[i]? = some v ∧ cc[i]? = some c ∧ VRs μ' c (ci i) ∧ Rep h' T v c
 | 0, _, μ, h, S => ⟨μ, h, [], [], .refl S, rfl, rfl, fun i hi => by omega⟩
 | m + 1, hx, μ, h, S => by
  obtain ⟨μ1, h1, vs, cc, m1, l1, l2, a1⟩ := open_seq m (fun i hi => hx i (by omega)) μ h S
  obtain ⟨μ2, h2, v, c, m2, r2, p2⟩ := hx m (by omega) μ1 h1 m1.st
  refine ⟨μ2, h2, vs ++ [v], cc ++ [c], m1.trans m2, by simp [l1], by simp [l2], fun i hi => ?_⟩
  by_cases hm : i < m
  ·obtain ⟨v', c', q1, q2, q3, q4⟩ := a1 i hm
   exact ⟨v', c', by rw [List.getElem?_append_left (by omega)]; exact q1, by rw [List.getElem?_append_left (by omega)]; exact q2, q3.mono m2.le, q4.keeps m2.kp⟩
  ·obtain rfl : i = m := by omega
   exact ⟨v, c, by rw [← l1]; simp, by rw [← l2]; simp, r2, p2⟩
theorem flatten_at {W : Nat} : ∀ {cc : List (List Value)}, (∀ c ∈ cc, c.length = W) → ∀ {i : Nat} {c : List Value}, cc[i]? = some c → ∀ (j : Nat) (v : Value), c[j]? = some v → cc.flatten[i * W + j]? = some v
 | [], _, i, c, h, _, _, _ => by simp at h
 | x :: cc, hw, 0, c, h, j, v, hv => by
  simp at h; subst h
  have hj : j < x.length := (List.getElem?_eq_some_iff.1 hv).1
  rw [List.flatten_cons, Nat.zero_mul, Nat.zero_add, List.getElem?_append_left hj]; exact hv
 | x :: cc, hw, i + 1, c, h, j, v, hv => by
  have := flatten_at (fun c hc => hw c (List.mem_cons_of_mem _ hc)) (cc := cc) (i := i) (c := c) (by simpa using h) j v hv
  have hx := hw x (List.mem_cons_self ..)
  rw [List.flatten_cons, List.getElem?_append_right (by rw [hx, Nat.succ_mul]; omega), hx, show (i + 1) * W + j - W = i * W + j by rw [Nat.succ_mul]; omega]
  exact this
theorem flatten_from {W : Nat} : ∀ {cc : List (List Value)}, (∀ c ∈ cc, c.length = W) → ∀ {k : Nat} {v : Value}, cc.flatten[k]? = some v → ∃ i j c, cc[i]? = some c ∧ c[j]? = some v ∧ k = i * W + j
 | [], _, k, v, h => by simp at h
 | x :: cc, hw, k, v, h => by
  have hx := hw x (List.mem_cons_self ..)
  rw [List.flatten_cons] at h
  by_cases hk : k < x.length
  ·rw [List.getElem?_append_left hk] at h
   exact ⟨0, k, x, rfl, h, by simp⟩
  ·rw [List.getElem?_append_right (by omega)] at h
   obtain ⟨i, j, c, h1, h2, h3⟩ := flatten_from (fun c hc => hw c (List.mem_cons_of_mem _ hc)) h
   exact ⟨i + 1, j, c, by simpa using h1, h2, by rw [Nat.succ_mul]; omega⟩
theorem add_add (a : Addr) (m j : Nat) : (a.add m).add j = a.add (m + j) := by
 simp only [Addr.add]
 by_cases h1 : m = 0
 ·subst h1; simp
 ·by_cases h2 : j = 0
  ·subst h2; simp
  ·simp [h1, h2, Nat.add_assoc]
theorem open_all : ∀ d, OpenAt enc P w G d
 | 0 => fun t T h => by simp [shapeOf] at h
 | d + 1 => by
  intro t T hT μ h S n cs' x hf
  simp only [shapeOf] at hT
  split at hT
  ·rename_i k hk
   cases hT
   obtain ⟨m, rfl, _, hw⟩ := DataW.trod_int hk hf
   exact ⟨μ, h, m, [.int k m], .refl S, .cons (.int _ _) (.nil _), rfl, hw⟩
  ·rename_i hk
   cases hT
   obtain ⟨m, rfl, _⟩ := DataW.trod_bool hk hf
   exact ⟨μ, h, m, [.bool m], .refl S, .cons (.bool _) (.nil _), rfl⟩
  ·rename_i hk
   cases hT
   obtain ⟨m, rfl, _, hw⟩ := DataW.trod_string hk hf
   exact ⟨μ, h, m, [.string m], .refl S, .cons (.str _) (.nil _), rfl, hw⟩
  ·rename_i fs hk
   split at hT
   ·rename_i r hr
    split at hT
    ·rename_i hw
     have hT := Option.some.inj hT
     subst hT
     obtain ⟨xs, m, rfl, _, hl, hxl, hall⟩ := DataW.trod_struct hk hf
     have := open_fields (open_all d) (l := cs') (n := m) fs.toList 0 r hr (fun i f hi => by
      have hi' : fs[i]? = some f := by simpa using hi
      have hlt : i < xs.length := by rw [hxl]; exact (Array.getElem?_eq_some_iff.1 hi').1
      exact ⟨xs[i], by rw [hall i f hi']; simp [hlt]⟩) μ h S
     rw [List.drop_zero, ← hw, ← hl, List.take_length] at this
     exact this
    ·cases hT
   ·cases hT
  ·rename_i m e hk
   split at hT
   ·rename_i r hr
    split at hT
    ·rename_i hw
     cases hT
     obtain ⟨xs, mm, rfl, _, hl, hxl, hall⟩ := DataW.trod_array hk hf
     have := open_items (open_all d) hr (l := cs') (n := mm) m 0 (fun i hi => by
      refine ⟨xs[i]'(by omega), ?_⟩
      have := hall i hi
      rw [hw.1] at this
      rw [Nat.zero_add, this]; simp [hxl, hi]) μ h S
     rw [Nat.zero_mul, List.drop_zero, repT_w, ← hw.2, ← hl, List.take_length] at this
     exact this
    ·cases hT
   ·cases hT
  ·rename_i e hk
   split at hT
   ·rename_i r hr
    split at hT
    ·rename_i hw
     cases hT
     obtain ⟨hwc, hw0⟩ := hw
     rcases DataW.trod_slice hk hf with ⟨rfl, _⟩ | ⟨a, len, cap, elems, rest, m, _, rfl, _, _, hl, _, hlen, hel, hsp, _⟩
     ·exact ⟨μ, h, [], [.slice none 0 0], .refl S, .cons .nilSlice (.nil _), ⟨none, 0, 0⟩, rfl, rfl, (fun a ha => by cases ha), fun i x hx => by simp at hx⟩
     ·obtain ⟨hrl, hrest⟩ := hsp rfl
      have each : ∀ i, i < cap → ∃ ci x, w.cells? 0 (a.add (i * r.w)) r.w = some ci ∧ DataW.trod enc P w 0 (fun _ => true) true m e ci = some x := by
       intro i hi
       have hb : ∃ x, (w.cells? 0 (a.add (i * P.cellsOf e)) (P.cellsOf e)).bind (DataW.trod enc P w 0 (fun _ => true) true m e) = some x := by
        by_cases hil : i < len
        ·exact ⟨elems[i]'(by omega), by rw [hel i hil]; simp [hlen, hil]⟩
        ·have := hrest (i - len) (by omega)
         rw [show len + (i - len) = i by omega] at this
         exact ⟨rest[i - len]'(by omega), by rw [this]; simp⟩
       obtain ⟨x, hx⟩ := hb
       rw [hwc] at hx
       obtain ⟨ci, h1, h2⟩ := Option.bind_eq_some_iff.1 hx
       exact ⟨ci, x, h1, h2⟩
      have each' : ∀ i, i < cap → ((w.cells? 0 (a.add (i * r.w)) r.w).getD []).length = r.w ∧ (∀ j, j < r.w → w.cell? (a.add (i * r.w + j)) = ((w.cells? 0 (a.add (i * r.w)) r.w).getD [])[j]?) := by
       intro i hi
       obtain ⟨ci, x, h1, _⟩ := each i hi
       obtain ⟨_, q1, q2⟩ := World.cells?_some h1
       rw [h1, Option.getD_some]
       refine ⟨q1, fun j hj => ?_⟩
       have := q2 j hj
       rw [← this]
       rw [add_add]
      obtain ⟨μ1, h1, vs, cc, m1, lv, lc, al⟩ := open_seq (T := r) (ci := fun i => (w.cells? 0 (a.add (i * r.w)) r.w).getD []) cap (fun i hi μ h S => by
       obtain ⟨ci, x, q1, q2⟩ := each i hi
       simp only [q1, Option.getD_some]
       exact open_all d _ _ hr μ h S _ _ _ q2) μ h S
      have S1 := m1.st
      by_cases h0 : cap = 0
      ·subst h0
       obtain rfl : len = 0 := by omega
       refine ⟨_, h1.hole, [], [.slice (some ⟨h1.next, 0, none⟩) 0 0], ⟨S1.hole (0, 0, 0), m1.le.trans (BMap.put_le (S1.z _ (Nat.le_refl _))), m1.kp.trans (Keeps.hole h1)⟩, .cons (.empty fun _ => rfl) (.nil _), ⟨some ⟨h1.next, 0, none⟩, 0, 0⟩, rfl, rfl, fun a ha => ?_, fun i x hx => by simp at hx⟩
       cases ha; exact Nat.lt_succ_self _
      ·have c0 : ∃ v, w.cell? (a.add 0) = some v := by
        have := (each' 0 (by omega)).2 0 hw0
        rw [Nat.zero_mul] at this
        have hlt : 0 < ((w.cells? 0 (a.add 0) r.w).getD []).length := by
         have := (each' 0 (by omega)).1
         rw [Nat.zero_mul] at this; omega
        refine ⟨((w.cells? 0 (a.add 0) r.w).getD [])[0], ?_⟩
        rw [this]; simp [hlt]
       obtain ⟨v0, c0⟩ := c0
       obtain ⟨b, off, sp⟩ := a
       have hsp : sp = none := by simpa [Addr.add] using World.cell?_spot c0
       subst hsp
       obtain ⟨arr, ee, fz, hO⟩ : ∃ arr e fz, w.heap[b]? = some (.cells arr e fz) := by
        have := c0
        rw [add_plain] at this
        unfold World.cell? at this
        split at this
        ·rename_i c e fz hh; exact ⟨c, e, fz, hh⟩
        ·cases this
       have hcc : ∀ c ∈ cc, c.length = r.w := by
        intro c hc
        obtain ⟨i, hi⟩ := List.mem_iff_getElem?.1 hc
        have hlt : i < cap := by rw [← lc]; exact (List.getElem?_eq_some_iff.1 hi).1
        obtain ⟨v, c', _, q2, _, q4⟩ := al i hlt
        rw [hi] at q2; cases q2
        exact q4.len
       have A := S1.add (d := off) (cs := cc.flatten) hO (fun k v hv => by
        obtain ⟨i, j, c, q1, q2, rfl⟩ := flatten_from hcc hv
        have hlt : i < cap := by rw [← lc]; exact (List.getElem?_eq_some_iff.1 q1).1
        obtain ⟨v', c', _, r2, r3, _⟩ := al i hlt
        rw [q1] at r2; cases r2
        obtain ⟨u, u1, u2⟩ := r3.get q2
        have hj : j < r.w := by
         have := (List.getElem?_eq_some_iff.1 u1).1
         rw [(each' i hlt).1] at this; exact this
        have hc := (each' i hlt).2 j hj
        rw [u1, add_plain] at hc
        unfold World.cell? at hc
        rw [hO] at hc
        exact ⟨u, by simpa using hc, u2⟩)
       refine ⟨_, _, vs.take len, [.slice (some ⟨h1.next, 0, none⟩) len cap], ⟨A, m1.le.trans (BMap.put_le (S1.z _ (Nat.le_refl _))), m1.kp.trans (Keeps.new h1 _)⟩, .cons (.slice (put_self _ _ _) rfl) (.nil _), ⟨some ⟨h1.next, 0, none⟩, len, cap⟩, rfl, ?_, fun a ha => ?_, fun i x hx => ?_⟩
       ·show len = _; rw [List.length_take]; omega
       ·cases ha; simp
       ·rw [List.getElem?_take] at hx
        split at hx
        ·rename_i hi
         obtain ⟨v, c, q1, q2, _, q4⟩ := al i (by omega)
         rw [hx] at q1; cases q1
         refine ⟨_, cc.flatten, ee, false, 0, c, rfl, by simp, q4.len, fun j u hu => ?_, q4.keeps (Keeps.new h1 _)⟩
         rw [Nat.zero_add]
         exact flatten_at hcc q2 j u hu
        ·cases hx
    ·cases hT
   ·cases hT
  ·cases hT
theorem Start.data {μ : BMap} {h : AHeap} (S : Start w μ h G) {t : TypeId} {T : DT} {d : Nat} (hT : shapeOf P d t = some T) {v : Value} {dd : DataW H} {ps : List MemPlace} (hd : DataW.Trod enc P w 0 (fun _ => true) true t v dd ps) :
  ∃ μ' h' x cs, More w μ h μ' h' G ∧ VRs μ' cs v.cells.toList ∧ Rep h' T x cs := by
 obtain ⟨fuel, hf⟩ := hd
 obtain ⟨μ', h', x, cs, m, r, p⟩ := open_all d t T hT μ h S _ _ _ hf
 exact ⟨μ', h', x, cs, m, r, p⟩
end
theorem Rep.rowS {h : AHeap} {s : Slc} {xs : List ByteArray} (r : Rep h (.list .str) xs [.slice s.a s.len s.cap]) : Row encS h s xs := by
 obtain ⟨sl, e, hl, hb, hx⟩ := r
 simp at e
 obtain ⟨e1, e2, e3⟩ := e
 refine ⟨e2.trans hl, fun i x hi => ?_⟩
 obtain ⟨a, c, ee, r, fz, cx, h1, h2, _, h4, h5⟩ := hx i x hi
 have h5 : cx = [.string x] := h5.1
 have := h4 0 (.string x) (by rw [h5]; rfl)
 rw [DT.w, Nat.mul_one, Nat.add_zero] at this
 exact ⟨a, c, ee, r, fz, e1.trans h1, hb a h1, h2, this⟩
theorem Rep.each {h : AHeap} {t : DT} {xs : List t.V} {s : Slc} (r : Rep h (.list t) xs [.slice s.a s.len s.cap]) : ∀ x ∈ xs, ∃ cs, Rep h t x cs := by
 obtain ⟨sl, e, hl, hb, hx⟩ := r
 intro x hx'
 obtain ⟨i, hi⟩ := List.getElem?_of_mem hx'
 obtain ⟨a, c, ee, r, fz, cx, _, _, _, _, h5⟩ := hx i x hi
 exact ⟨cx, h5⟩
theorem Rep.lt {h : AHeap} {t : DT} {xs : List t.V} {s : Slc} (r : Rep h (.list t) xs [.slice s.a s.len s.cap]) : ∀ a, s.a = some a → a.block < h.next := by
 obtain ⟨sl, e, hl, hb, hx⟩ := r
 simp at e
 obtain ⟨e1, e2, e3⟩ := e
 intro a ha
 exact hb a (e1.symm.trans ha)
end Gx
namespace Gx
open Go Go.RowKit Go.ChangeShapes Go.WideShapes
section
variable {H : Type} {enc : TypeId × Value → H} {P : Program} {w : World} {r : Reach} {base : Nat} {t e : TypeId} {v : Value} {d : DataW H} {ps : List MemPlace} {μ : BMap} {h : AHeap}
end
end Gx
namespace Gx
open Go Go.RowKit Go.ChangeShapes Go.WideShapes
section
variable {H : Type} {enc : TypeId × Value → H} {P : Program} {w : World} {r : Reach} {base : Nat} {t e : TypeId} {v : Value} {d : DataW H} {ps : List MemPlace} {μ : BMap}
end
end Gx
namespace Gx
open Go Go.RowKit Go.ChangeShapes Go.WideShapes
section
variable {H : Type} {enc : TypeId × Value → H} {P : Program} {w : World} {r : Reach} {base : Nat} {t e : TypeId} {v : Value} {d : DataW H} {ps : List MemPlace}
end
end Gx
namespace Gx
open Go Go.RowKit
open Go.Sort (Holds putRow putCells mapBlock onCells grow)
open Go.Proofs (encStr)
section
variable {G : Nat} {P : Program}
structure SortC (P : Program) (f : FuncId) : Prop where
 cS : ∀ (blk off cap : Nat) (ss : List (List UInt8)) (w : World), Holds encStr w blk off ss.toArray → blk < w.heap.size → ss.length < 4611686018427387904 →
  Calls P f #[.slice (some ⟨blk, off, none⟩) ss.length cap] w fun e w' => e = .returned (.tuple #[]) ∧ ∃ n os, w' = grow (putRow encStr (Sort.ahead w n) blk off (ss.mergeSort fun x y => decide (x ≤ y)).toArray) os
 cN : ∀ (p : Option Addr) (cap : Nat) (w : World), Calls P f #[.slice p 0 cap] w fun e w' => e = .returned (.tuple #[]) ∧ w' = w
end
end Gx
namespace Gx
open Go Go.RowKit Go.ChangeShapes Go.WideShapes
section
variable {H : Type} {enc : TypeId × Value → H} {P : Program} {w : World} {G : Nat}
end
end Gx
namespace Gx
open Go Go.RowKit Go.ChangeShapes Go.WideShapes
section
variable {H : Type} {enc : TypeId × Value → H} {P : Program} {w : World} {G : Nat}
def Cuts (s : Slc) : Prop := s.len = 0 ∨ (s.len ≤ s.cap ∧ ∀ b, s.a = some b → b.spot = none)
theorem VR.clean {μ : BMap} {s : Slc} {a : Option Addr} {n m : Nat} (h : VR μ (.slice s.a s.len s.cap) (.slice a n m)) (hm : n ≤ m) :
  ∃ s' : Slc, VR μ (.slice s'.a s'.len s'.cap) (.slice a n m) ∧ s'.len = s.len ∧ (∀ b, s'.a = some b → ∃ b', s.a = some b' ∧ b'.block = b.block ∧ b'.off = b.off) ∧ (∀ b', s.a = some b' → ∃ b, s'.a = some b ∧ b'.block = b.block ∧ b'.off = b.off) ∧ Cuts s' := by
 obtain ⟨sa, sl, sc⟩ := s
 dsimp only at h ⊢
 cases h with
 | nilSlice => exact ⟨⟨none, 0, 0⟩, .nilSlice, rfl, (fun b hb => by cases hb), (fun b hb => by cases hb), .inl rfl⟩
 | slice hμ hc =>
  rename_i b o c d z sp
  exact ⟨⟨some ⟨b, o, none⟩, _, _⟩, .slice hμ rfl, rfl, (fun b hb => by cases hb; exact ⟨_, rfl, rfl, rfl⟩), (fun b hb => by cases hb; exact ⟨_, rfl, rfl, rfl⟩), .inr ⟨hm, (fun b hb => by cases hb; rfl)⟩⟩
 | empty hc => exact ⟨⟨_, 0, 0⟩, .empty hc, rfl, fun b hb => ⟨b, hb, rfl, rfl⟩, fun b hb => ⟨b, hb, rfl, rfl⟩, .inl rfl⟩
theorem trod_cap {t e : TypeId} (ht : P.underlying t = some (.slice e)) {a : Option Addr} {len cap : Nat} {dd : DataW H} {ps : List MemPlace} (hd : DataW.Trod enc P w 0 (fun _ => true) true t (.slice a len cap) dd ps) : len ≤ cap := by
 obtain ⟨fuel, hf⟩ := hd
 rcases DataW.trod_slice ht hf with ⟨h0, _⟩ | ⟨a', len', cap', elems, rest, n, hh⟩
 ·simp [Value.cells] at h0
  obtain ⟨_, rfl, rfl⟩ := h0
  exact Nat.le_refl _
 ·obtain ⟨_, h1, _, _, h4, h5, _⟩ := hh
  simp [Value.cells] at h1
  obtain ⟨_, rfl, rfl⟩ := h1
  omega
end
end Gx
namespace Gx
open Go Go.RowKit Go.ChangeShapes Go.WideShapes
section
variable {H : Type} {enc : TypeId × Value → H} {P : Program} {w : World} {G : Nat}
end
end Gx
namespace Gx
open Go Go.RowKit Go.ChangeShapes Go.WideShapes
mutual
 def bulkD {H : Type} : DataW H → Nat
 | .lit (.string bytes) => bytes.length + 1
 | .lit _ => 1
 | .nil => 1
 | .ptr d => bulkD d + 1
 | .slice elems spare => bulkL elems + bulkL spare + 1
 | .agg parts => bulkL parts + 1
 | .iface _ d => bulkD d + 1
 | .map entries => bulkE entries + 1
 | .held _ => 1
 def bulkL {H : Type} : List (DataW H) → Nat
 | [] => 0
 | d :: r => bulkD d + bulkL r
 def bulkE {H : Type} : List (Lit × DataW H) → Nat
 | [] => 0
 | x :: r => bulkX x + bulkE r
 def bulkX {H : Type} : Lit × DataW H → Nat
 | (.string bytes, d) => bytes.length + bulkD d + 1
 | (_, d) => bulkD d + 1
end
def szV : (t : DT) → t.V → Nat
 | .int _, _ => 1
 | .bool, _ => 1
 | .str, x => x.size + 1
 | .unit, _ => 0
 | .pair a b, x => szV a x.1 + szV b x.2
 | .list t, xs => sumL (xs.map (szV t)) + 1
where
 sumL : List Nat → Nat
 | [] => 0
 | n :: l => n + sumL l
section
variable {H : Type} {enc : TypeId × Value → H} {P : Program} {w : World} {G : Nat}
def OpenedB (w : World) (G : Nat) (μ : BMap) (h : AHeap) (T : DT) (cs' : List Value) (B : Nat) : Prop :=
 ∃ μ' h' v cs, More w μ h μ' h' G ∧ VRs μ' cs cs' ∧ Rep h' T v cs ∧ szV T v ≤ B
def OpenAtB (enc : TypeId × Value → H) (P : Program) (w : World) (G d : Nat) : Prop :=
 ∀ (t : TypeId) (T : DT), shapeOf P d t = some T → ∀ (μ : BMap) (h : AHeap), Start w μ h G → ∀ (n : Nat) (cs' : List Value) (x : DataW H × List MemPlace), DataW.trod enc P w 0 (fun _ => true) true n t cs' = some x → OpenedB w G μ h T cs' (bulkD x.1)
theorem OpenedB.pair {μ : BMap} {h : AHeap} {a b : DT} {l : List Value} {off B1 B2 : Nat} (o1 : OpenedB w G μ h a ((l.drop off).take a.w) B1)
  (o2 : ∀ μ' h', More w μ h μ' h' G → OpenedB w G μ' h' b ((l.drop (off + a.w)).take b.w) B2) : OpenedB w G μ h (.pair a b) ((l.drop off).take (a.w + b.w)) (B1 + B2) := by
 obtain ⟨μ1, h1, v1, c1, m1, r1, p1, z1⟩ := o1
 obtain ⟨μ2, h2, v2, c2, m2, r2, p2, z2⟩ := o2 μ1 h1 m1
 refine ⟨μ2, h2, (v1, v2), c1 ++ c2, m1.trans m2, ?_, ⟨c1, c2, rfl, p1.keeps m2.kp, p2⟩, Nat.add_le_add z1 z2⟩
 rw [List.take_add, List.drop_drop]
 exact (r1.mono m2.le).append r2
theorem open_fieldsB {d : Nat} (ih : OpenAtB enc P w G d) {n : Nat} {l : List Value} : ∀ (fs : List Field) (off : Nat) (T : DT) (xs : List (DataW H × List MemPlace)), shFs P (shapeOf P d) off fs = some T → xs.length = fs.length →
  (∀ (i : Nat) f x, fs[i]? = some f → xs[i]? = some x → DataW.trod enc P w 0 (fun _ => true) true n f.type ((l.drop f.offset).take (P.cellsOf f.type)) = some x) → ∀ (μ : BMap) (h : AHeap), Start w μ h G → OpenedB w G μ h T ((l.drop off).take T.w) (bulkL (xs.map (·.1)))
 | [], off, T, xs, hs, _, _, μ, h, S => by
  simp only [shFs, Option.some.injEq] at hs; subst hs
  exact ⟨μ, h, (), [], .refl S, by simp [DT.w]; exact .nil _, rfl, Nat.zero_le _⟩
 | f :: fs, off, T, [], hs, hl, _, μ, h, S => by simp at hl
 | f :: fs, off, T, x :: xs, hs, hl, hx, μ, h, S => by
  simp only [shFs] at hs
  split at hs
  ·rename_i ho
   split at hs
   ·rename_i t ht
    split at hs
    ·rename_i hw
     split at hs
     ·rename_i r hr
      cases hs
      have q := hx 0 f x rfl rfl
      rw [ho, hw] at q
      exact .pair (ih _ _ ht μ h S _ _ _ q) fun μ' h' m => open_fieldsB ih fs _ r xs hr (by simpa using hl) (fun i f' x' hi hj => hx (i + 1) f' x' (by simpa using hi) (by simpa using hj)) μ' h' m.st
     ·cases hs
    ·cases hs
   ·cases hs
  ·cases hs
theorem open_itemsB {d : Nat} (ih : OpenAtB enc P w G d) {e : TypeId} {t : DT} (he : shapeOf P d e = some t) {n : Nat} {l : List Value} : ∀ (m k : Nat) (xs : List (DataW H × List MemPlace)), xs.length = m →
  (∀ i x, xs[i]? = some x → DataW.trod enc P w 0 (fun _ => true) true n e ((l.drop ((k + i) * t.w)).take t.w) = some x) → ∀ (μ : BMap) (h : AHeap), Start w μ h G → OpenedB w G μ h (repT t m) ((l.drop (k * t.w)).take (repT t m).w) (bulkL (xs.map (·.1)))
 | 0, k, xs, _, _, μ, h, S => ⟨μ, h, (), [], .refl S, by simp [repT, DT.w]; exact .nil _, rfl, Nat.zero_le _⟩
 | m + 1, k, [], hl, _, μ, h, S => by simp at hl
 | m + 1, k, x :: xs, hl, hx, μ, h, S => by
  have q := hx 0 x rfl
  rw [Nat.add_zero] at q
  refine .pair (ih _ _ he μ h S _ _ _ q) fun μ' h' mm => ?_
  rw [← Nat.succ_mul]
  exact open_itemsB ih he m (k + 1) xs (by simpa using hl) (fun i x' hi => by
   have q := hx (i + 1) x' (by simpa using hi)
   rw [show k + 1 + i = k + (i + 1) by omega]; exact q) μ' h' mm.st
theorem open_seqB {T : DT} {ci : Nat → List Value} {Bi : Nat → Nat} : ∀ (m : Nat), (∀ i, i < m → ∀ (μ : BMap) (h : AHeap), Start w μ h G → OpenedB w G μ h T (ci i) (Bi i)) → ∀ (μ : BMap) (h : AHeap), Start w μ h G →
  ∃ μ' h', ∃ (vs : List T.V) (cc : List (List Value)), More w μ h μ' h' G ∧ vs.length = m ∧ cc.length = m ∧ ∀ i, i < m → ∃ v c, vs[i]? = some v ∧ cc[i]? = some c ∧ VRs μ' c (ci i) ∧ Rep h' T v c ∧ szV T v ≤ Bi i
 | 0, _, μ, h, S => ⟨μ, h, [], [], .refl S, rfl, rfl, fun i hi => by omega⟩
 | m + 1, hx, μ, h, S => by
  obtain ⟨μ1, h1, vs, cc, m1, l1, l2, a1⟩ := open_seqB m (fun i hi => hx i (by omega)) μ h S
  obtain ⟨μ2, h2, v, c, m2, r2, p2, z2⟩ := hx m (by omega) μ1 h1 m1.st
  refine ⟨μ2, h2, vs ++ [v], cc ++ [c], m1.trans m2, by simp [l1], by simp [l2], fun i hi => ?_⟩
  by_cases hm : i < m
  ·obtain ⟨v', c', q1, q2, q3, q4, q5⟩ := a1 i hm
   exact ⟨v', c', by rw [List.getElem?_append_left (by omega)]; exact q1, by rw [List.getElem?_append_left (by omega)]; exact q2, q3.mono m2.le, q4.keeps m2.kp, q5⟩
  ·obtain rfl : i = m := by omega
   exact ⟨v, c, by rw [← l1]; simp, by rw [← l2]; simp, r2, p2, z2⟩
theorem sumL_le {T : DT} : ∀ (vs : List T.V) (ds : List (DataW H)), vs.length ≤ ds.length → (∀ (i : Nat) v d, vs[i]? = some v → ds[i]? = some d → szV T v ≤ bulkD d) → szV.sumL (vs.map (szV T)) ≤ bulkL ds
 | [], _, _, _ => Nat.zero_le _
 | v :: vs, [], h, _ => by simp at h
 | v :: vs, d :: ds, h, hx => by
  have h1 := hx 0 v d rfl rfl
  have h2 := sumL_le vs ds (by simpa using h) fun i v' d' a b => hx (i + 1) v' d' (by simpa using a) (by simpa using b)
  simp only [List.map_cons, szV.sumL, bulkL]; omega
theorem open_allB : ∀ d, OpenAtB enc P w G d
 | 0 => fun t T h => by simp [shapeOf] at h
 | d + 1 => by
  intro t T hT μ h S n cs' x hf
  simp only [shapeOf] at hT
  split at hT
  ·rename_i k hk
   cases hT
   obtain ⟨m, rfl, rfl, hw⟩ := DataW.trod_int hk hf
   exact ⟨μ, h, m, [.int k m], .refl S, .cons (.int _ _) (.nil _), ⟨rfl, hw⟩, Nat.le_refl _⟩
  ·rename_i hk
   cases hT
   obtain ⟨m, rfl, rfl⟩ := DataW.trod_bool hk hf
   exact ⟨μ, h, m, [.bool m], .refl S, .cons (.bool _) (.nil _), rfl, Nat.le_refl _⟩
  ·rename_i hk
   cases hT
   obtain ⟨m, rfl, rfl, hw⟩ := DataW.trod_string hk hf
   exact ⟨μ, h, m, [.string m], .refl S, .cons (.str _) (.nil _), ⟨rfl, hw⟩, Nat.le_refl _⟩
  ·rename_i fs hk
   split at hT
   ·rename_i r hr
    split at hT
    ·rename_i hw
     have hT := Option.some.inj hT
     subst hT
     obtain ⟨xs, m, rfl, rfl, hl, hxl, hall⟩ := DataW.trod_struct hk hf
     have := open_fieldsB (open_allB d) (l := cs') (n := m) fs.toList 0 r xs hr (by simpa using hxl) (fun i f x hi hj => by
      have hi' : fs[i]? = some f := by simpa using hi
      rw [hall i f hi', hj]) μ h S
     rw [List.drop_zero, ← hw, ← hl, List.take_length] at this
     obtain ⟨μ', h', v, cs, a1, a2, a3, a4⟩ := this
     exact ⟨μ', h', v, cs, a1, a2, a3, Nat.le_succ_of_le a4⟩
    ·cases hT
   ·cases hT
  ·rename_i m e hk
   split at hT
   ·rename_i r hr
    split at hT
    ·rename_i hw
     cases hT
     obtain ⟨xs, mm, rfl, rfl, hl, hxl, hall⟩ := DataW.trod_array hk hf
     have := open_itemsB (open_allB d) hr (l := cs') (n := mm) m 0 xs hxl (fun i x hi => by
      have hlt : i < m := by rw [← hxl]; exact (List.getElem?_eq_some_iff.1 hi).1
      have := hall i hlt
      rw [hw.1] at this
      rw [Nat.zero_add, this, hi]) μ h S
     rw [Nat.zero_mul, List.drop_zero, repT_w, ← hw.2, ← hl, List.take_length] at this
     obtain ⟨μ', h', v, cs, a1, a2, a3, a4⟩ := this
     exact ⟨μ', h', v, cs, a1, a2, a3, Nat.le_succ_of_le a4⟩
    ·cases hT
   ·cases hT
  ·rename_i e hk
   split at hT
   ·rename_i r hr
    split at hT
    ·rename_i hw
     cases hT
     obtain ⟨hwc, hw0⟩ := hw
     rcases DataW.trod_slice hk hf with ⟨rfl, rfl⟩ | ⟨a, len, cap, elems, rest, m, _, rfl, rfl, _, hl, _, hlen, hel, hsp, _⟩
     ·exact ⟨μ, h, [], [.slice none 0 0], .refl S, .cons .nilSlice (.nil _), ⟨⟨none, 0, 0⟩, rfl, rfl, (fun a ha => by cases ha), fun i x hx => by simp at hx⟩, Nat.le_refl _⟩
     ·obtain ⟨hrl, hrest⟩ := hsp rfl
      have each : ∀ i, i < cap → ∃ ci x, (elems ++ rest)[i]? = some x ∧ w.cells? 0 (a.add (i * r.w)) r.w = some ci ∧ DataW.trod enc P w 0 (fun _ => true) true m e ci = some x := by
       intro i hi
       have hb : ∃ x, (elems ++ rest)[i]? = some x ∧ (w.cells? 0 (a.add (i * P.cellsOf e)) (P.cellsOf e)).bind (DataW.trod enc P w 0 (fun _ => true) true m e) = some x := by
        by_cases hil : i < len
        ·exact ⟨elems[i]'(by omega), by rw [List.getElem?_append_left (by omega)]; simp [hlen, hil], by rw [hel i hil]; simp [hlen, hil]⟩
        ·have := hrest (i - len) (by omega)
         rw [show len + (i - len) = i by omega] at this
         exact ⟨rest[i - len]'(by omega), by rw [List.getElem?_append_right (by omega), hlen]; simp, by rw [this]; simp⟩
       obtain ⟨x, he, hx⟩ := hb
       rw [hwc] at hx
       obtain ⟨ci, h1, h2⟩ := Option.bind_eq_some_iff.1 hx
       exact ⟨ci, x, he, h1, h2⟩
      have each' : ∀ i, i < cap → ((w.cells? 0 (a.add (i * r.w)) r.w).getD []).length = r.w ∧ (∀ j, j < r.w → w.cell? (a.add (i * r.w + j)) = ((w.cells? 0 (a.add (i * r.w)) r.w).getD [])[j]?) := by
       intro i hi
       obtain ⟨ci, x, _, h1, _⟩ := each i hi
       obtain ⟨_, q1, q2⟩ := World.cells?_some h1
       rw [h1, Option.getD_some]
       refine ⟨q1, fun j hj => ?_⟩
       have := q2 j hj
       rw [← this]
       rw [add_add]
      obtain ⟨μ1, h1, vs, cc, m1, lv, lc, al⟩ := open_seqB (T := r) (ci := fun i => (w.cells? 0 (a.add (i * r.w)) r.w).getD []) (Bi := fun i => ((elems ++ rest)[i]?.map fun x => bulkD x.1).getD 0) cap (fun i hi μ h S => by
       obtain ⟨ci, x, q0, q1, q2⟩ := each i hi
       simp only [q0, q1, Option.getD_some, Option.map_some]
       exact open_allB d _ _ hr μ h S _ _ _ q2) μ h S
      have S1 := m1.st
      by_cases h0 : cap = 0
      ·subst h0
       obtain rfl : len = 0 := by omega
       refine ⟨_, h1.hole, [], [.slice (some ⟨h1.next, 0, none⟩) 0 0], ⟨S1.hole (0, 0, 0), m1.le.trans (BMap.put_le (S1.z _ (Nat.le_refl _))), m1.kp.trans (Keeps.hole h1)⟩, .cons (.empty fun _ => rfl) (.nil _), ⟨⟨some ⟨h1.next, 0, none⟩, 0, 0⟩, rfl, rfl, fun a ha => ?_, fun i x hx => by simp at hx⟩, by simp [szV, szV.sumL, bulkD]⟩
       cases ha; exact Nat.lt_succ_self _
      ·have c0 : ∃ v, w.cell? (a.add 0) = some v := by
        have := (each' 0 (by omega)).2 0 hw0
        rw [Nat.zero_mul] at this
        have hlt : 0 < ((w.cells? 0 (a.add 0) r.w).getD []).length := by
         have := (each' 0 (by omega)).1
         rw [Nat.zero_mul] at this; omega
        refine ⟨((w.cells? 0 (a.add 0) r.w).getD [])[0], ?_⟩
        rw [this]; simp [hlt]
       obtain ⟨v0, c0⟩ := c0
       obtain ⟨b, off, sp⟩ := a
       have hsp : sp = none := by simpa [Addr.add] using World.cell?_spot c0
       subst hsp
       obtain ⟨arr, ee, fz, hO⟩ : ∃ arr e fz, w.heap[b]? = some (.cells arr e fz) := by
        have := c0
        rw [add_plain] at this
        unfold World.cell? at this
        split at this
        ·rename_i c e fz hh; exact ⟨c, e, fz, hh⟩
        ·cases this
       have hcc : ∀ c ∈ cc, c.length = r.w := by
        intro c hc
        obtain ⟨i, hi⟩ := List.mem_iff_getElem?.1 hc
        have hlt : i < cap := by rw [← lc]; exact (List.getElem?_eq_some_iff.1 hi).1
        obtain ⟨v, c', _, q2, _, q4, _⟩ := al i hlt
        rw [hi] at q2; cases q2
        exact q4.len
       have A := S1.add (d := off) (cs := cc.flatten) hO (fun k v hv => by
        obtain ⟨i, j, c, q1, q2, rfl⟩ := flatten_from hcc hv
        have hlt : i < cap := by rw [← lc]; exact (List.getElem?_eq_some_iff.1 q1).1
        obtain ⟨v', c', _, r2, r3, _, _⟩ := al i hlt
        rw [q1] at r2; cases r2
        obtain ⟨u, u1, u2⟩ := r3.get q2
        have hj : j < r.w := by
         have := (List.getElem?_eq_some_iff.1 u1).1
         rw [(each' i hlt).1] at this; exact this
        have hc := (each' i hlt).2 j hj
        rw [u1, add_plain] at hc
        unfold World.cell? at hc
        rw [hO] at hc
        exact ⟨u, by simpa using hc, u2⟩)
       refine ⟨_, _, vs.take len, [.slice (some ⟨h1.next, 0, none⟩) len cap], ⟨A, m1.le.trans (BMap.put_le (S1.z _ (Nat.le_refl _))), m1.kp.trans (Keeps.new h1 _)⟩, .cons (.slice (put_self _ _ _) rfl) (.nil _), ⟨⟨some ⟨h1.next, 0, none⟩, len, cap⟩, rfl, ?_, fun a ha => ?_, fun i x hx => ?_⟩, ?_⟩
       ·show len = _; rw [List.length_take]; omega
       ·cases ha; simp
       ·rw [List.getElem?_take] at hx
        split at hx
        ·rename_i hi
         obtain ⟨v, c, q1, q2, _, q4, _⟩ := al i (by omega)
         rw [hx] at q1; cases q1
         refine ⟨_, cc.flatten, ee, false, 0, c, rfl, by simp, q4.len, fun j u hu => ?_, q4.keeps (Keeps.new h1 _)⟩
         rw [Nat.zero_add]
         exact flatten_at hcc q2 j u hu
        ·cases hx
       ·have := sumL_le (T := r) (vs.take len) (elems.map (·.1)) (by simp; omega) fun i v dd hv hd => by
         rw [List.getElem?_take] at hv
         split at hv
         ·rename_i hi
          obtain ⟨v', c, q1, _, _, _, q5⟩ := al i (by omega)
          rw [hv] at q1; cases q1
          rw [List.getElem?_map] at hd
          obtain ⟨x, hx, rfl⟩ := Option.map_eq_some_iff.1 hd
          rw [List.getElem?_append_left (by omega), hx] at q5
          exact q5
         ·cases hv
        simp only [szV, bulkD]
        omega
    ·cases hT
   ·cases hT
  ·cases hT
theorem Start.dataB {μ : BMap} {h : AHeap} (S : Start w μ h G) {t : TypeId} {T : DT} {d : Nat} (hT : shapeOf P d t = some T) {v : Value} {dd : DataW H} {ps : List MemPlace} (hd : DataW.Trod enc P w 0 (fun _ => true) true t v dd ps) :
  ∃ μ' h' x cs, More w μ h μ' h' G ∧ VRs μ' cs v.cells.toList ∧ Rep h' T x cs ∧ szV T x ≤ bulkD dd := by
 obtain ⟨fuel, hf⟩ := hd
 obtain ⟨μ', h', x, cs, m, r, p, z⟩ := open_allB d t T hT μ h S _ _ _ hf
 exact ⟨μ', h', x, cs, m, r, p, z⟩
end
end Gx
