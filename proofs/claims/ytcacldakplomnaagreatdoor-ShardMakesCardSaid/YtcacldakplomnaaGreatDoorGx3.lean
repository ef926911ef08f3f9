import Derived.Scope
import Derived.KernelRfl
import Derived.Defers
import Derived.Laws.LoneSync
import Derived.Below
import Derived.Lib.Repeat
import Derived.Lib.Join
import Derived.SizedLaws
import Derived.SliceStrings
import Derived.ChangeSlices
import Derived.ChangeOld
import Derived.Carry
import Derived.OpenShut
import Derived.ShutString
import Derived.ChangeBears2
import Derived.MakeChecks
import Derived.Test.YtcacldakplomnaaGreatDoorGx2
namespace Gx
open Go
section
variable {ds : List Deferred} {G : Nat} {P : Program} {R : Type} {r : R} {C : CallF} {ops : Array Oper} {ms : List Nat} {n : Nat}
theorem dgop_sound {base : Nat} {e : RG} {o : Oper} {f : PFr} {h : AHeap} {hs : List AHeap} {κ : Value → AHeap → Option R} (hC : CSound P G C) (hr : ropOf P G o = some e.d.ro.op) (hga : e.gh = none → allocB e.d.ro.op = false) (hft : Fits n ops e.d o)
    (hw : WantS G n ops o (keepF e.d.looks f) true) (hd : dgop C base e.gh e.own e.d.ro.op e.d.win (keepF e.d.looks f) h hs κ = some r) :
    ∃ v h1, κ v h1 = some r ∧ h.next ≤ h1.next ∧ DoneG P G n ops base e f h hs v h1 := by
  obtain ⟨d, gh, own⟩ := e
  cases gh with
  | some j =>
    simp only [dgop] at hd
    split at hd
    · rename_i q hq
      have hr' := hr
      have hq : d.ro.op = .a q := hq
      rw [show (RG.mk d (some j) own).d.ro.op = .a q from hq] at hr'
      unfold ropOf at hr'
      split at hr'
      · cases hr'
      · split at hr'
        · cases hr'
        · split at hr'
          · rename_i q' hq'
            cases hr'
            obtain ⟨B, mk, hk, hs'⟩ := dalloc_sound hq' hd
            exact ⟨_, _, hk, Nat.le_refl _, .inr (.inl ⟨by simp only [hq]; rfl, j, some B, rfl, ⟨o, hft, hw, mk, hs', rfl⟩, rfl⟩)⟩
          · split at hr' <;> cases hr'
    · cases hd
  | none =>
   cases own with
   | some j =>
    simp only [dgop] at hd
    split at hd
    · rename_i q hq
      have hq : d.ro.op = .l q := hq
      have hr' := hr
      rw [show (RG.mk d none (some j)).d.ro.op = .l q from hq] at hr'
      unfold ropOf at hr'
      split at hr'
      · cases hr'
      · split at hr'
        · rename_i l hl
          cases hr'
          have rd : ∀ {R : Type} {r : R} {H : AHeap} {κ : Value → Option R}, dread q (keepF d.looks f) H κ = some r → ∃ v, κ v = some r ∧ CalmS P G o (keepF d.looks f) H v := fun hd => by
            obtain ⟨v, hk, hs'⟩ := dread_sound hl hd
            exact ⟨v, hk, fun μ a w fr s => hs' μ w a s fr⟩
          obtain ⟨v, hk, hS⟩ := rd hd
          obtain ⟨⟨B, hB, hww⟩, hk⟩ := guardP_some hk
          refine ⟨v, h, hk, Nat.le_refl _, .inr (.inr ⟨by simp only [hq]; rfl, rfl, o, hft, .inr ⟨hw, fun H hH => ?_⟩⟩)⟩
          obtain ⟨B', h1, h2⟩ := hH
          rw [hB] at h1; cases h1
          obtain ⟨v', e, hS'⟩ := rd (hww H h2)
          cases e; exact hS'
        · split at hr'
          · cases hr'
          · split at hr' <;> cases hr'
    · cases hd
   | none =>
    simp only [dgop] at hd
    have hga := hga rfl
    simp only at hr hga hd hw hft
    cases hop : d.ro.op with
    | p q =>
      rw [hop] at hr hd
      unfold ropOf at hr
      split at hr
      · rename_i p hp
        cases hr
        simp only [ddop] at hd
        obtain ⟨v, hk, hs'⟩ := dpure_sound hp hd
        refine ⟨v, h, hk, Nat.le_refl _, .inr (.inr ⟨by simp only [hop]; rfl, rfl, o, hft, .inr ⟨hw, fun H _ μ a w fr s => ?_⟩⟩)⟩
        obtain ⟨v', h1, h2⟩ := hs' μ H w a s fr
        exact ⟨v', h1, h2⟩
      · split at hr
        · cases hr
        · split at hr
          · cases hr
          · split at hr <;> cases hr
    | l q =>
      rw [hop] at hr hd
      unfold ropOf at hr
      split at hr
      · cases hr
      · split at hr
        · rename_i l hl
          cases hr
          have rd : ∀ {R : Type} {r : R} {H : AHeap} {κ : Value → Option R}, dread q (keepF d.looks f) H κ = some r → ∃ v, κ v = some r ∧ CalmS P G o (keepF d.looks f) H v := fun hd => by
            obtain ⟨v, hk, hs'⟩ := dread_sound hl hd
            exact ⟨v, hk, fun μ a w fr s => hs' μ w a s fr⟩
          cases hwin : d.win with
          | zero =>
            rw [hwin] at hd
            obtain ⟨v, hk, hS⟩ := rd hd
            refine ⟨v, h, hk, Nat.le_refl _, .inr (.inr ⟨by simp only [hop]; rfl, rfl, o, hft, .inr ⟨hw, fun H hH => ?_⟩⟩)⟩
            have hH := hH (by simp only [hop]; rfl)
            simp [hwin] at hH
            rw [hH]; exact hS
          | succ win =>
            rw [hwin] at hd
            simp only [ddop] at hd
            obtain ⟨v, hk, hS⟩ := rd hd
            obtain ⟨hww, hk⟩ := guardP_some hk
            refine ⟨v, h, hk, Nat.le_refl _, .inr (.inr ⟨by simp only [hop]; rfl, rfl, o, hft, .inr ⟨hw, fun H hH => ?_⟩⟩)⟩
            have hH := hH (by simp only [hop]; rfl)
            simp only [hwin] at hH
            rw [List.take_succ_cons] at hH
            rcases List.mem_cons.1 hH with rfl | hH
            · exact hS
            · obtain ⟨v', e, hS'⟩ := rd (hww H hH)
              cases e; exact hS'
        · split at hr
          · cases hr
          · split at hr <;> cases hr
    | a q => rw [hop] at hga; cases hga
    | e q =>
      rw [hop] at hr hd
      obtain ⟨v, h1, hk, hS⟩ := dop_sound hC hr (κ := κ) (h := h) (f := keepF d.looks f) (by simpa only [ddop, dop] using hd)
      exact ⟨v, h1, hk, hS.1, .inl ⟨by simp only [actG, hop]; rfl, o, hft, .inr ⟨hw, hS⟩⟩⟩
theorem gdraw_tr (hC : CSound P G C) {base : Nat} : ∀ (es : List RG) (f : PFr) (h : AHeap) (hs : List AHeap) (κ : PFr → AHeap → Option R),
    (∀ e ∈ es, (e.gh = none → allocB e.d.ro.op = false) ∧ (∀ j, e.gh = some j → serB e.d.ro.op = true) ∧ ∃ o, ops[e.d.idx]? = some o ∧ roOf P G n ops o = some (stripO e.d.ro) ∧ e.d.looks = o.looksAt ops) → gdraw C base es f h hs κ = some r →
    ∃ f' h', κ f' h' = some r ∧ TrG P G n ops base (es.map fun e => (e, none)) f h hs f' h'
  | [], f, h, hs, κ, _, hd => ⟨f, h, hd, rfl, rfl⟩
  | e :: es, f, h, hs, κ, hes, hd => by
    obtain ⟨hga, hgs, o, ho, hro, hlk⟩ := hes e (List.mem_cons_self ..)
    have hes' := fun e' he' => hes e' (List.mem_cons_of_mem _ he')
    unfold roOf at hro
    split at hro
    · cases hro
    · rename_i rop hrop
      split at hro
      · rename_i hdst
        have hdn : ∀ x, o.dst = some x → x < n := fun x hx => by rw [hx] at hdst; simpa [dstOk] using hdst
        have perform : ∀ (hdd : e.d.ro.dst = o.dst) (hop : e.d.ro.op = rop), WantS G n ops o (keepF e.d.looks f) true → dgop C base e.gh e.own e.d.ro.op e.d.win (keepF e.d.looks f) h hs (fun v h' => tagK e.d.ro.tag v fun v => gdraw C base es (pput f e.d.ro.dst v) h' (bif serB e.d.ro.op then h :: hs else hs) κ) = some r →
            ∃ f' h', κ f' h' = some r ∧ TrG P G n ops base ((e, none) :: es.map fun e => (e, none)) f h hs f' h' := by
          intro hdd hop hw hd
          have ft : Fits n ops e.d o := ⟨ho, hdd.symm, hdn⟩
          obtain ⟨v, h1, hk, hn, hS⟩ := dgop_sound hC (hop ▸ hrop) hga ft hw hd
          obtain ⟨f', h', hk', tr⟩ := gdraw_tr hC es _ h1 _ κ hes' (tagK_some hk)
          exact ⟨f', h', hk', v, h1, hn, hS, tr⟩
        have skip : ∀ (hdd : e.d.ro.dst = o.dst), e.d.ro.guard ≠ none → WantS G n ops o (keepF e.d.looks f) false → gdraw C base es (pput f e.d.ro.dst undef) h (bif serB e.d.ro.op then h :: hs else hs) κ = some r →
            ∃ f' h', κ f' h' = some r ∧ TrG P G n ops base ((e, none) :: es.map fun e => (e, none)) f h hs f' h' := by
          intro hdd hgne hw hd
          obtain ⟨f', h', hk', tr⟩ := gdraw_tr hC es _ h _ κ hes' hd
          have ft : Fits n ops e.d o := ⟨ho, hdd.symm, hdn⟩
          refine ⟨f', h', hk', undef, h, Nat.le_refl _, ?_, tr⟩
          cases hgh : e.gh with
          | some j => exact .inr (.inl ⟨hgs j hgh, j, none, hgh, ⟨o, ft, ⟨hw, rfl⟩, hgne⟩, rfl⟩)
          | none =>
            cases hs' : serB e.d.ro.op with
            | true => exact .inl ⟨by unfold actG; rw [hs', hgh]; rfl, o, ft, .inl ⟨hw, rfl, rfl⟩⟩
            | false => exact .inr (.inr ⟨hs', rfl, o, ft, .inl ⟨hw, rfl⟩⟩)
        split at hro
        · rename_i hgd
          have e0 : stripO e.d.ro = ⟨o.dst, rop, none, none⟩ := by simpa using hro.symm
          have q1 : e.d.ro.dst = o.dst := congrArg RO.dst e0
          have q2 : e.d.ro.op = rop := congrArg RO.op e0
          have q3 : e.d.ro.guard = none := congrArg RO.guard e0
          simp only [gdraw, q3] at hd
          exact perform q1 q2 (fun h μ a w _ => by simp [Region.wanted, hgd]) hd
        · rename_i jj want hgd
          split at hro
          · rename_i g hg
            have e0 : stripO e.d.ro = ⟨o.dst, rop, some (g, want), none⟩ := by simpa using hro.symm
            have q1 : e.d.ro.dst = o.dst := congrArg RO.dst e0
            have q2 : e.d.ro.op = rop := congrArg RO.op e0
            have q3 : e.d.ro.guard = some (g, want) := congrArg RO.guard e0
            have hgm : memB g e.d.looks = true := by
              rw [memB_iff, hlk]
              unfold Oper.looksAt
              rw [hgd]; simp only; rw [hg]; simp
            have hkg : keepF e.d.looks f g = f g := by unfold keepF; rw [hgm]; rfl
            simp only [gdraw, q3] at hd
            split at hd
            · rename_i b hb
              have hy : ∀ {ds : List Deferred} (h : AHeap) (μ : BMap) (a : Act) (w : World), At ds G μ (keepF e.d.looks f) h n a w → yielded ops a.tmps jj = some b := fun h μ a w at_ => (guard_yield at_ hg (hkg.trans hb)).1 b rfl
              split at hd
              · rename_i hbt; subst hbt
                rw [pset_self hb] at hd
                cases want with
                | true => exact perform q1 q2 (fun h μ a w at_ => by simp [Region.wanted, hgd, hy h μ a w at_]) hd
                | false => exact skip q1 (by rw [q3]; simp) (fun h μ a w at_ => by simp [Region.wanted, hgd, hy h μ a w at_]) hd
              · rename_i hbf
                simp only [Bool.not_eq_true] at hbf; subst hbf
                rw [pset_self hb] at hd
                cases want with
                | true => exact skip q1 (by rw [q3]; simp) (fun h μ a w at_ => by simp [Region.wanted, hgd, hy h μ a w at_]) hd
                | false => exact perform q1 q2 (fun h μ a w at_ => by simp [Region.wanted, hgd, hy h μ a w at_]) hd
            · rename_i vs hb
              exact skip q1 (by rw [q3]; simp) (fun h μ a w at_ => by simp [Region.wanted, hgd, (guard_yield at_ hg (hkg.trans hb)).2 _ rfl]) hd
            · cases hd
          · cases hro
      · cases hro
theorem serB_alloc {o : ROp} (h : allocB o = true) : serB o = true := by cases o <;> first | rfl | cases h
theorem rgsOf_ok : ∀ {is : List Nat} {ps es : List RG}, rgsOf P G n ops ms ps is = some es → MsOk ops ms →
    es.map (·.d.idx) = is ∧ (∀ e ∈ es, ∃ o, ops[e.d.idx]? = some o ∧ roOf P G n ops o = some e.d.ro ∧ e.d.looks = o.looksAt ops) ∧ (∀ L, GoodG ops ms L ps es) ∧
    (∀ e ∈ es, (e.gh = none → allocB e.d.ro.op = false) ∧ ∀ j, e.gh = some j → serB e.d.ro.op = true) ∧
    (∀ pre e post, es = pre ++ e :: post → (∀ j, e.gh = some j → j = (pre.reverse ++ ps).countP ghB) ∧ (e.own = none → loadB e.d.ro.op = true → ∀ p ∈ pre.reverse ++ ps, ghB p = true → bitB (ms.getD e.d.idx 0) p.d.idx = true → ∃ x ∈ pre.reverse ++ ps, actG x = true ∧ bitB (ms.getD e.d.idx 0) x.d.idx = true ∧ bitB (ms.getD x.d.idx 0) p.d.idx = true) ∧ (∀ j, e.own = some j → loadB e.d.ro.op = true ∧ ∃ p ∈ pre.reverse ++ ps, p.gh = some j ∧ p.d.ro.guard = none ∧ noActTo (pre.reverse ++ ps) p.d.idx = true ∧ bitB (ms.getD e.d.idx 0) p.d.idx = true))
  | [], ps, es, h, _ => by
    simp [rgsOf] at h; subst h
    exact ⟨rfl, (fun e he => nomatch he), (fun L => trivial), (fun e he => nomatch he), fun pre e post he => by cases pre <;> cases he⟩
  | i :: is, ps, es, h, hms => by
    simp only [rgsOf] at h
    split at h
    · cases h
    · rename_i e he
      cases hk : okG ops ms ps e
      · rw [hk] at h; cases h
      · rw [hk] at h
        simp only [cond_true, Option.map_eq_some_iff] at h
        obtain ⟨es', h', rfl⟩ := h
        obtain ⟨r1, r2, r3, r4, r5⟩ := rgsOf_ok h' hms
        unfold rgOf at he
        split at he
        · cases he
        · rename_i o ho
          split at he
          · cases he
          · rename_i ro hro
            simp only [Option.some.injEq] at he
            subst he
            unfold okG at hk
            simp only [Bool.and_eq_true, ho] at hk
            obtain ⟨⟨⟨k1, k2⟩, k3⟩, k4⟩ := hk
            refine ⟨by simp [r1], fun e he => ?_, fun L => ⟨⟨fun j hj => ?_, fun p hp => ?_, Nat.le_refl _⟩, r3 L⟩, fun e he => ?_, fun pre e post hpe => ?_⟩
            · rcases List.mem_cons.1 he with rfl | he
              · exact ⟨o, ho, hro, rfl⟩
              · exact r2 e he
            · obtain ⟨o', x, ho', hx, hb, rfl⟩ := hj
              simp only [ho, Option.some.injEq] at ho'; subst ho'
              have := List.all_eq_true.1 k1 x hx
              rw [hb] at this
              simp only [Bool.not_true, Bool.false_or, List.any_eq_true] at this
              obtain ⟨p, hp, hpe⟩ := this
              exact .inr ⟨p, hp, Nat.eq_of_beq_eq_true hpe⟩
            · have := List.all_eq_true.1 k2 p hp
              simp only [Bool.and_eq_true, Bool.or_eq_true, Bool.not_eq_true'] at this
              refine ⟨fun e => ?_, this.2.imp (hms _ _) fun h => ⟨h.1, h.2⟩⟩
              have h1 := this.1
              simp only at e
              rw [e, Nat.beq_refl] at h1; cases h1
            · rcases List.mem_cons.1 he with rfl | he
              · simp only
                cases ha : allocB ro.op with
                | true => exact ⟨(fun h => by cases h), fun j _ => serB_alloc ha⟩
                | false => exact ⟨(fun _ => rfl), fun j h => by cases h⟩
              · exact r4 e he
            · cases pre with
              | nil =>
                simp only [List.nil_append, List.cons.injEq] at hpe
                obtain ⟨rfl, rfl⟩ := hpe
                simp only [List.reverse_nil, List.nil_append]
                refine ⟨fun j hj => ?_, fun hon hl p hp hg hb => ?_, fun j hj => ?_⟩
                · cases ha : allocB ro.op with
                  | true => rw [ha] at hj; cases hj; rfl
                  | false => rw [ha] at hj; cases hj
                · have hon' : (bif loadB ro.op then ownOf ms i (o.looksAt ops) ps ps else none) = none := hon
                  rw [hon', hl] at k3
                  simp only [noneB, Bool.not_true, Bool.false_or] at k3
                  have := List.all_eq_true.1 k3 p hp
                  rw [hg, hb] at this
                  simp only [Bool.not_true, Bool.false_or, acrossG, List.any_eq_true, Bool.and_eq_true] at this
                  obtain ⟨x, hx, ⟨hx1, hx2⟩, hx3⟩ := this
                  exact ⟨x, hx, hx1, hx2, hx3⟩
                · have hj' : (bif loadB ro.op then ownOf ms i (o.looksAt ops) ps ps else none) = some j := hj
                  rw [hj'] at k4
                  simp only [noneB, Bool.false_or, Bool.and_eq_true, List.any_eq_true] at k4
                  obtain ⟨k4, p, hp, k5⟩ := k4
                  unfold ownB at k5
                  simp only [Bool.and_eq_true] at k5
                  obtain ⟨⟨⟨k5, k6⟩, k7⟩, k8⟩ := k5
                  refine ⟨k4, p, hp, ?_, ?_, k7, k8⟩
                  · cases hg : p.gh with
                    | none => rw [hg] at k5; cases k5
                    | some x => rw [hg] at k5; rw [Nat.eq_of_beq_eq_true k5]
                  · cases hg : p.d.ro.guard with
                    | none => rfl
                    | some x => rw [hg] at k6; cases k6
              | cons q pre =>
                simp only [List.cons_append, List.cons.injEq] at hpe
                obtain ⟨rfl, hpe⟩ := hpe
                have := r5 pre e post hpe
                rw [List.reverse_cons, List.append_assoc]
                exact this
theorem pairwise_of {α : Type} {R : α → α → Prop} : ∀ {es : List α}, (∀ pre p mid e post, es = pre ++ p :: (mid ++ e :: post) → R p e) → es.Pairwise R
  | [], _ => .nil
  | x :: es, h => .cons (fun y hy => by
      obtain ⟨a, b, rfl⟩ := List.append_of_mem hy
      exact h [] x a y b rfl) (pairwise_of fun pre p mid e post he => h (x :: pre) p mid e post (by rw [he]; rfl))
theorem anc_ahead {es : List RG} (hd : ∀ pre e post, es = pre ++ e :: post → ∀ j, Direct ops j e.d.idx → ∃ p ∈ pre, p.d.idx = j) {j i : Nat} (h : Anc ops j i) : ∀ pre e post, es = pre ++ e :: post → e.d.idx = i → ∃ p ∈ pre, p.d.idx = j := by
  induction h with
  | one h => rintro pre e post he rfl; exact hd pre e post he _ h
  | more h hdir ih =>
    rintro pre e post he rfl
    obtain ⟨p, hp, rfl⟩ := hd pre e post he _ hdir
    obtain ⟨a, b, rfl⟩ := List.append_of_mem hp
    obtain ⟨q, hq, hqj⟩ := ih a p (b ++ e :: post) (by rw [he]; simp) rfl
    exact ⟨q, by simp [hq], hqj⟩
theorem sub3 {α : Type} {p x e : α} {es : List α} (h : [p, x, e].Sublist es) : ∃ pre post, es = pre ++ e :: post ∧ [p, x].Sublist pre := by
  have : ([p, x] ++ [e]).Sublist es := h
  obtain ⟨l1, l2, rfl, h1, h2⟩ := List.append_sublist_iff.1 this
  obtain ⟨a, b, rfl⟩ := List.append_of_mem (h2.subset (List.mem_cons_self ..))
  exact ⟨l1 ++ a, b, by simp, h1.trans (List.sublist_append_left _ _)⟩
theorem noAct_ok {x p : RG} : ∀ {ps : List RG}, (ps.Pairwise fun p e => p.d.idx ≠ e.d.idx) → [x, p].Sublist ps → noActTo ps p.d.idx = true → actG x = false
  | [], _, h, _ => by cases h
  | z :: ps, pw, h, ha => by
    obtain ⟨p1, p2⟩ := List.pairwise_cons.1 pw
    simp only [noActTo] at ha
    cases h with
    | cons _ h =>
      cases hz : Nat.beq z.d.idx p.d.idx with
      | true => exact absurd (Nat.eq_of_beq_eq_true hz) (p1 p (h.subset (by simp)))
      | false =>
        rw [hz] at ha
        simp only [cond_false, Bool.and_eq_true] at ha
        exact noAct_ok p2 h ha.2
    | cons_cons _ h =>
      cases hz : Nat.beq x.d.idx p.d.idx with
      | true => exact absurd (Nat.eq_of_beq_eq_true hz) (p1 p (h.subset (by simp)))
      | false =>
        rw [hz] at ha
        simp only [cond_false, Bool.and_eq_true, Bool.not_eq_true'] at ha
        exact ha.1
theorem gdraw_sound (hC : CSound P G C) {rid m : Nat} {es es0 : List RG} (hr : gdrawOf P G n ops = some es0) (hs : es.map stripG = es0) (hm0 : m = es0.countP ghB) {f : PFr} {h : AHeap} {κ : PFr → AHeap → Option R} (hd : gdraw C h.next es f (h.resv m) [] κ = some r) :
    ∃ f' h', κ f' h' = some r ∧ RunS P G n (.region rid ops true) f h .normal f' h' := by
  unfold gdrawOf at hr
  simp only at hr
  cases hc : (P.follows .mixedOrders && (List.range ops.size).all (fun i => memB i (orderOf ops.size (ancsOf ops.toList []) ((List.range ops.size).filter (isEff P G n ops)) [])) && Nat.beq (orderOf ops.size (ancsOf ops.toList []) ((List.range ops.size).filter (isEff P G n ops)) []).length ops.size)
  · rw [hc] at hr; cases hr
  · rw [hc] at hr
    simp only [cond_true] at hr
    simp only [Bool.and_eq_true] at hc
    obtain ⟨⟨hm, hall⟩, hcl⟩ := hc
    have hms : MsOk ops (ancsOf ops.toList []) := ancs_ok
    obtain ⟨r1, r2, r3, r4, r5⟩ := rgsOf_ok hr hms
    have i1 : ∀ e : RG, (stripG e).d.idx = e.d.idx := fun _ => rfl
    have i2 : ∀ e : RG, (stripG e).gh = e.gh := fun _ => rfl
    have i3 : ∀ e : RG, (stripG e).d.ro.op = e.d.ro.op := fun _ => rfl
    have hes : ∀ e ∈ es, (e.gh = none → allocB e.d.ro.op = false) ∧ (∀ j, e.gh = some j → serB e.d.ro.op = true) ∧ ∃ o, ops[e.d.idx]? = some o ∧ roOf P G n ops o = some (stripO e.d.ro) ∧ e.d.looks = o.looksAt ops := fun e he => by
      have hmem : stripG e ∈ es0 := by rw [← hs]; exact List.mem_map_of_mem he
      obtain ⟨o, q1, q2, q3⟩ := r2 _ hmem
      obtain ⟨g1, g2⟩ := r4 _ hmem
      exact ⟨g1, g2, o, q1, q2, q3⟩
    have hidx : es.map (·.d.idx) = es0.map (·.d.idx) := by rw [← hs, List.map_map]; rfl
    have gm : ∀ {L : Nat → Prop} {es ps : List RG}, GoodG ops (ancsOf ops.toList []) L (ps.map stripG) (es.map stripG) → GoodG ops (ancsOf ops.toList []) L ps es := by
      intro L es
      induction es with
      | nil => intro _ _; trivial
      | cons e es ih =>
        intro ps hg
        obtain ⟨⟨g1, g2, g3⟩, g4⟩ := hg
        refine ⟨⟨fun j hj => ?_, fun p hp => g2 (stripG p) (List.mem_map_of_mem hp), ?_⟩, ih (ps := e :: ps) g4⟩
        · rcases g1 j hj with h | ⟨p, hp, hpj⟩
          · exact .inl h
          · obtain ⟨q, hq, rfl⟩ := List.mem_map.1 hp
            exact .inr ⟨q, hq, hpj⟩
        · rw [List.countP_map] at g3
          exact g3
    have hg : ∀ L, GoodG ops (ancsOf ops.toList []) L [] es := fun L => gm (ps := []) (by rw [hs]; exact r3 L)
    have split0 : ∀ pre e post, es = pre ++ e :: post → es0 = pre.map stripG ++ stripG e :: post.map stripG := fun pre e post he => by rw [← hs, he]; simp
    have cntS : ∀ l : List RG, (l.map stripG).countP ghB = l.countP ghB := fun l => by rw [List.countP_map]; rfl
    have hat : ∀ pre e post, es = pre ++ e :: post → OkAtG ops (ancsOf ops.toList []) (fun _ => False) (pre.reverse ++ []) e := fun pre e post he => GoodG.at (by rw [← he]; exact hg _)
    have hdir : ∀ pre e post, es = pre ++ e :: post → ∀ j, Direct ops j e.d.idx → ∃ p ∈ pre, p.d.idx = j := fun pre e post he j hj => by
      rcases (hat pre e post he).1 j hj with h | ⟨p, hp, hpj⟩
      · exact h.elim
      · exact ⟨p, by simpa using hp, hpj⟩
    have hgh : ∀ pre e post, es = pre ++ e :: post → ∀ j, e.gh = some j → j = pre.countP ghB := fun pre e post he j hj => by
      have := (r5 _ _ _ (split0 pre e post he)).1 j hj
      rw [List.append_nil, List.countP_reverse, cntS] at this
      exact this
    have hpw : es.Pairwise fun p e => p.d.idx ≠ e.d.idx := pairwise_of fun pre p mid e post he => by
      have he' : es = (pre ++ p :: mid) ++ e :: post := by rw [he]; simp
      exact ((hat _ _ _ he').2.1 p (by simp)).1
    have T : Told ops (ancsOf ops.toList []) es := by
      refine ⟨hpw, pairwise_of fun pre p mid e post he ha => ?_, pairwise_of fun pre p mid e post he j h1 h2 => ?_, fun e he => (hes e he).2.1, fun e he hon hl p hp hpg hb => ?_, fun e he j hj => ?_, fun p x e hsub j hpj hej => ?_⟩
      · have he' : es = (pre ++ p :: mid) ++ e :: post := by rw [he]; simp
        obtain ⟨q, hq, hqe⟩ := anc_ahead hdir ha pre p (mid ++ e :: post) he rfl
        exact ((hat _ _ _ he').2.1 q (by simp [hq])).1 hqe
      · have he' : es = (pre ++ p :: mid) ++ e :: post := by rw [he]; simp
        have c1 := hgh _ _ _ he j h1
        have c2 := hgh _ _ _ he' j h2
        rw [List.countP_append, List.countP_cons] at c2
        have : ghB p = true := by unfold ghB; rw [h1]
        rw [this] at c2
        simp at c2
        omega
      · obtain ⟨pre, post, hsp⟩ := List.append_of_mem he
        have ha : Anc ops p.d.idx e.d.idx := hms _ _ hb
        obtain ⟨q, hq, hqp⟩ := anc_ahead hdir ha pre e post hsp rfl
        have := dist_rg hpw (x := q) (y := p) (by rw [hsp]; simp [hq]) hp hqp
        subst this
        obtain ⟨x, hx, x1, x2, x3⟩ := (r5 _ _ _ (split0 pre e post hsp)).2.1 hon hl (stripG q) (by simp only [List.append_nil, List.mem_reverse]; exact List.mem_map_of_mem hq) hpg hb
        simp only [List.append_nil, List.mem_reverse, List.mem_map] at hx
        obtain ⟨x', hx', rfl⟩ := hx
        exact ⟨x', by rw [hsp]; simp [hx'], x1, hms _ _ x2, hms _ _ x3⟩
      · obtain ⟨pre, post, hsp⟩ := List.append_of_mem he
        obtain ⟨p, hp, p1, p2, _, p4⟩ := ((r5 _ _ _ (split0 pre e post hsp)).2.2 j hj).2
        simp only [List.append_nil, List.mem_reverse, List.mem_map] at hp
        obtain ⟨p', hp', rfl⟩ := hp
        refine ⟨p', ?_, p1, p2, hms _ _ p4⟩
        rw [hsp]
        exact (List.singleton_sublist.2 hp').append (List.singleton_sublist.2 (List.mem_cons_self ..))
      · obtain ⟨pre, post, hsp, hsub2⟩ := sub3 hsub
        obtain ⟨p0, hp0, q1, q2, q3, q4⟩ := ((r5 _ _ _ (split0 pre e post hsp)).2.2 j hej).2
        simp only [List.append_nil, List.mem_reverse, List.mem_map] at hp0
        obtain ⟨p0', hp0', rfl⟩ := hp0
        have hp : p ∈ pre := hsub2.subset (by simp)
        have : p = p0' := by
          obtain ⟨a, b, hab⟩ := List.append_of_mem hp
          obtain ⟨a', b', hab'⟩ := List.append_of_mem hp0'
          have c1 := hgh a p (b ++ e :: post) (by rw [hsp, hab]; simp) j hpj
          have c2 := hgh a' p0' (b' ++ e :: post) (by rw [hsp, hab']; simp) j q1
          have e1 : pre.countP ghB = pre.countP ghB := rfl
          rcases List.append_eq_append_iff.1 (hab.symm.trans hab') with ⟨c, h1, h2⟩ | ⟨c, h1, h2⟩
          · cases c with
            | nil => simp at h2; exact h2.1
            | cons z c =>
              simp only [List.cons_append, List.cons.injEq] at h2
              obtain ⟨rfl, h2⟩ := h2
              rw [h1, List.countP_append, List.countP_cons] at c2
              have : ghB p = true := by unfold ghB; rw [hpj]
              rw [this] at c2; simp at c2; omega
          · cases c with
            | nil => simp at h2; exact h2.1.symm
            | cons z c =>
              simp only [List.cons_append, List.cons.injEq] at h2
              obtain ⟨rfl, h2⟩ := h2
              rw [h1, List.countP_append, List.countP_cons] at c1
              have : ghB p0' = true := by unfold ghB; rw [show p0'.gh = some j from q1]
              rw [this] at c1; simp at c1; omega
        subst this
        have hnod : (pre.map stripG).reverse.Pairwise fun p e => p.d.idx ≠ e.d.idx := by
          rw [List.pairwise_reverse, List.pairwise_map]
          rw [hsp] at hpw
          exact (List.pairwise_append.1 hpw).1.imp fun h x => h x.symm
        have := noAct_ok (ps := (pre.map stripG).reverse) hnod (x := stripG x) (p := stripG p) (by
          have := (hsub2.map stripG).reverse
          simpa using this) (by simpa using q3)
        exact this
    obtain ⟨f', h', hk, tr⟩ := gdraw_tr (ops := ops) (n := n) hC es f (h.resv m) [] κ hes hd
    have hlt : ∀ e ∈ es, e.d.idx < ops.size := fun e he => by
      obtain ⟨_, _, o, q1, _⟩ := hes e he
      exact (Array.getElem?_eq_some_iff.1 q1).1
    have hmem : ∀ i, i < ops.size → ∃ e ∈ es, e.d.idx = i := fun i hi => by
      have := memB_iff.1 (List.all_eq_true.1 hall i (List.mem_range.2 hi))
      rw [← r1, ← hidx] at this
      obtain ⟨e, he, hei⟩ := List.mem_map.1 this
      exact ⟨e, he, hei⟩
    have hlen : es.length = ops.size := by
      have : (es.map (·.d.idx)).length = ops.size := by rw [hidx, r1, Nat.eq_of_beq_eq_true hcl]
      simpa using this
    have hnx : h.next + m ≤ h'.next := tr.next
    have ghlt : ∀ e ∈ es, ∀ j, e.gh = some j → j < m := fun e he j hj => by
      obtain ⟨pre, post, he'⟩ := List.append_of_mem he
      have c1 := hgh pre e post he' j hj
      rw [hm0, ← hs, cntS, he', List.countP_append, List.countP_cons]
      have : ghB e = true := by unfold ghB; rw [hj]
      rw [this]
      simp
      omega
    refine ⟨f', h', hk, by omega, fun {ds} μ a w t z => wp_region_any hm ?_⟩
    have sd := Step.drew t.sim
    have st : Step G μ h w μ (h.resv m) { w with drawn := w.drawn + 1 } :=
      ⟨⟨sd.sim.blk, sd.sim.inj, fun b B hb => Nat.lt_of_lt_of_le (sd.sim.lt b B hb) (Nat.le_add_right _ _), sd.sim.glob, Nat.le_trans sd.sim.gle (Nat.le_add_right _ _)⟩, Nat.le_add_right _ _, fun _ _ => rfl, rfl, rfl, rfl, Nat.le_refl _, fun _ _ _ => rfl,
        fun b B p hb hn _ => absurd (t.sim.lt b B hb) (by omega), fun b B' hb _ => ⟨B', hb, id⟩⟩
    refine any_soundG hms T rfl t.sim.gle ops.size (es.map fun e => (e, none)) _ f (h.resv m) [] f' h' μ a _ ?_ (by simp) ?_ (fun e he => ?_) (fun e s he => ?_) (fun e he j hj => ?_) (fun i hi => ?_) (fun i j hi => ?_) (fun p s he => ?_) ?_ tr ⟨fun e B j he => ?_, fun e j he hj => ?_, fun e B j e' B' j' p p' he => ?_⟩ ⟨st.sim, t.fr, t.df, t.sz⟩ st (fun b hb1 hb2 => z b (Nat.le_trans (Nat.le_add_right _ _) hb1) hb2) fun μ' a' w' at' st' => ⟨rfl, μ', at', st'⟩
    · unfold open'
      rw [List.countP_map, ← hlen]
      exact List.countP_eq_length.2 fun _ _ => rfl
    · rw [List.map_map]
      have : (es.map ((fun x : It => x.1) ∘ fun e => (e, none))) = es := by
        rw [show ((fun x : It => x.1) ∘ fun e : RG => ((e, none) : It)) = id from rfl, List.map_id]
      rw [this]
      exact List.Sublist.refl _
    · obtain ⟨e', he', rfl⟩ := List.mem_map.1 he
      exact hlt e' he'
    · obtain ⟨e', he', h1⟩ := List.mem_map.1 he
      cases h1
    · obtain ⟨e', he', h1⟩ := List.mem_map.1 he
      cases h1
      obtain ⟨p, hp, hpj, _⟩ := T.own e he' j hj
      exact ⟨p, none, List.mem_map.2 ⟨p, hp.subset (by simp), rfl⟩, hpj⟩
    · simp only [Array.getD_eq_getD_getElem?, Array.getElem?_replicate, hi, if_true, Option.getD_some, true_iff]
      obtain ⟨e, he, hei⟩ := hmem i hi
      exact ⟨e, List.mem_map.2 ⟨e, he, rfl⟩, hei⟩
    · rw [Array.getD_eq_getD_getElem?, Array.getElem?_replicate] at hi
      split at hi <;> simp at hi
    · obtain ⟨e', he', h1⟩ := List.mem_map.1 he
      cases h1
    · rw [List.map_map]
      have : (es.map ((fun x : It => x.1) ∘ fun e => (e, none))) = es := by
        rw [show ((fun x : It => x.1) ∘ fun e : RG => ((e, none) : It)) = id from rfl, List.map_id]
      rw [this]
      exact hg _
    · obtain ⟨e', he', h1⟩ := List.mem_map.1 he
      cases h1
    · obtain ⟨e', he', h1⟩ := List.mem_map.1 he
      cases h1
      have := ghlt e he' j hj
      refine ⟨by show h.next + j < h.next + m; omega, ?_, z _ (by omega) (by omega)⟩
      show h.get (h.next + j) = none
      cases hq : h.get (h.next + j) with
      | none => rfl
      | some B => have := t.sim.lt _ _ hq; omega
    · obtain ⟨e'', he', h1⟩ := List.mem_map.1 he
      cases h1
end
end Gx
namespace Gx
open Go
section
variable {ds : List Deferred} {G : Nat} {P : Program} {R : Type} {r : R} {C : CallF}
theorem appL_const {L : Slots} {f : PFr} {h : AHeap} (e : appL L f (constL (fun _ => (none : Option R)) L) h = some r) : False := by
  induction L generalizing f h with
  | nil => simp [appL, constL] at e
  | cons p L ih =>
    obtain ⟨s, t⟩ := p
    simp only [appL, constL] at e
    split at e
    · simp only [Option.bind_eq_some_iff] at e
      obtain ⟨x, _, e⟩ := e
      exact ih e
    · cases e
theorem appL_lam {L : Slots} : ∀ {f f0 : PFr} {b : PFr → AHeap → Option R} {h : AHeap}, (∀ s v, f0 s = some v → f s = some v) → appL L f (lamL L f0 b) h = some r →
    ∃ g, (∀ s v, g s = some v → f s = some v) ∧ b g h = some r := by
  induction L with
  | nil => intro f f0 b h hs e; exact ⟨f0, hs, e⟩
  | cons p L ih =>
    obtain ⟨s, t⟩ := p
    intro f f0 b h hs e
    simp only [appL, lamL] at e
    split at e
    · rename_i v hv
      simp only [Option.bind_eq_some_iff] at e
      obtain ⟨x, hx, e⟩ := e
      have hx' := LTy.enc_dec hx
      refine ih (fun s' v' h' => ?_) e
      unfold pset at h'
      cases hb : Nat.beq s' s
      · rw [hb] at h'; exact hs _ _ h'
      · rw [hb] at h'
        have : s' = s := Nat.eq_of_beq_eq_true hb
        subst this; cases h'; rw [hx']; exact hv
    · cases e
theorem rcode_region {n id : Nat} {ops : Array Oper} {draw : Bool} {x : RCode} (h : rcodeOf P G n (.region id ops draw) = some x) : (∃ ros, x = .region ros) ∨ (∃ es, x = .draw es) ∨ (∃ m es, x = .gdraw m es) := by
  simp only [rcodeOf] at h
  split at h
  · unfold drawC at h
    split at h
    · cases h; exact .inr (.inl ⟨_, rfl⟩)
    · split at h
      · cases h; exact .inr (.inr ⟨_, _, rfl⟩)
      · cases h
  · rw [Option.map_eq_some_iff] at h
    obtain ⟨ros, _, rfl⟩ := h
    exact .inl ⟨_, rfl⟩
theorem rcode_region_t {n : Nat} {ops : Array Oper} {ros : List RO} (h : drawC P G n ops = some (.region ros)) : False := by
  unfold drawC at h
  split at h
  · cases h
  · split at h <;> cases h
theorem rounds_mono {c : Code} {Q Q' : Exit → Act → World → Prop} (hq : ∀ x a w, Q x a w → Q' x a w) : ∀ (m : Nat) (a : Act) (w : World), Code.rounds P c Q m a w → Code.rounds P c Q' m a w
  | 0, _, _, h => h
  | m + 1, a, w, h => by
    rw [rounds_succ] at h ⊢
    refine wp_mono h fun e a w he => ?_
    cases e <;> first | exact rounds_mono hq m a w he | exact hq _ _ _ he
theorem den_sound (hC : CSound P G C) {n k : Nat} : ∀ (rc : RCode) (c : Code) (f : PFr) (h : AHeap) (κ : AExit → PFr → AHeap → Option R) (r : R), rcodeOf P G n c = some (strip rc) → den C k rc f h κ = some r →
    ∃ e f' h', κ e f' h' = some r ∧ RunS P G n c f h e f' h' := by
  intro rc
  induction rc with
  | skip =>
    intro c f h κ r hc hd
    refine ⟨.normal, f, h, hd, Nat.le_refl _, fun μ a w t z => ?_⟩
    cases c with
    | skip => exact wp_skip ⟨rfl, μ, t, .refl t.sim⟩
    | label l => exact wp_label ⟨rfl, μ, t, .refl t.sim⟩
    | region id ops draw => obtain ⟨_, e⟩ | ⟨_, e⟩ | ⟨_, _, e⟩ := rcode_region hc <;> simp [strip] at e
    | seq a b => simp only [rcodeOf] at hc; split at hc <;> (try cases hc); split at hc <;> simp [strip] at hc
    | cond c a b => simp only [rcodeOf] at hc; split at hc <;> (try cases hc); split at hc <;> simp [strip] at hc
    | block id c => simp [rcodeOf, strip] at hc
    | loop c => simp [rcodeOf, strip] at hc
    | scope c => simp [rcodeOf, strip] at hc
    | exit id => simp [rcodeOf, strip] at hc
    | ret => simp [rcodeOf, strip] at hc
    | goto l => simp [rcodeOf, strip] at hc
    | refuse w => simp [rcodeOf, strip] at hc
    | rangeFunc _ _ _ _ => simp [rcodeOf, strip] at hc
  | region ros =>
    intro c f h κ r hc hd
    cases c with
    | region id ops draw =>
      simp only [rcodeOf] at hc
      cases draw with
      | true => exact (rcode_region_t (by simpa [strip] using hc)).elim
      | false =>
        simp [strip] at hc
        obtain ⟨f', h', hk, hn, hrun⟩ := dops_sound hC (n := n) (ops := ops) ops.toList (List.range ops.size) ros f h (fun f h => κ .normal f h) (by simp) (fun i o hi => by
          have hlt : i < ops.size := by simpa using (List.getElem?_eq_some_iff.1 hi).1
          exact ⟨i, by simp [hlt], by simpa using hi⟩) hc hd
        refine ⟨.normal, f', h', hk, hn, fun μ a w t z => wp_region (wpOps_mono (fun x a' w' ⟨e, q⟩ => ⟨e, q⟩) _ _ _ (hrun μ a w t z))⟩
    | skip => simp [rcodeOf, strip] at hc
    | label l => simp [rcodeOf, strip] at hc
    | seq a b => simp only [rcodeOf] at hc; split at hc <;> (try cases hc); split at hc <;> simp [strip] at hc
    | cond c a b => simp only [rcodeOf] at hc; split at hc <;> (try cases hc); split at hc <;> simp [strip] at hc
    | block id c => simp [rcodeOf, strip] at hc
    | loop c => simp [rcodeOf, strip] at hc
    | scope c => simp [rcodeOf, strip] at hc
    | exit id => simp [rcodeOf, strip] at hc
    | ret => simp [rcodeOf, strip] at hc
    | goto l => simp [rcodeOf, strip] at hc
    | refuse w => simp [rcodeOf, strip] at hc
    | rangeFunc _ _ _ _ => simp [rcodeOf, strip] at hc
  | draw es =>
    intro c f h κ r hc hd
    cases c with
    | region id ops draw =>
      simp only [rcodeOf] at hc
      cases draw with
      | false => simp [strip] at hc
      | true =>
        simp only [if_true, strip, drawC] at hc
        split at hc
        · rename_i es0 h1
          simp only [Option.some.injEq, RCode.draw.injEq] at hc
          obtain ⟨f', h', hk, hrun⟩ := draw_sound hC h1 hc.symm hd
          exact ⟨.normal, f', h', hk, hrun⟩
        · split at hc <;> simp at hc
    | skip => simp [rcodeOf, strip] at hc
    | label l => simp [rcodeOf, strip] at hc
    | seq a b => simp only [rcodeOf] at hc; split at hc <;> (try cases hc); split at hc <;> simp [strip] at hc
    | cond c a b => simp only [rcodeOf] at hc; split at hc <;> (try cases hc); split at hc <;> simp [strip] at hc
    | block id c => simp [rcodeOf, strip] at hc
    | loop c => simp [rcodeOf, strip] at hc
    | scope c => simp [rcodeOf, strip] at hc
    | exit id => simp [rcodeOf, strip] at hc
    | ret => simp [rcodeOf, strip] at hc
    | goto l => simp [rcodeOf, strip] at hc
    | refuse w => simp [rcodeOf, strip] at hc
    | rangeFunc _ _ _ _ => simp [rcodeOf, strip] at hc
  | gdraw m es =>
    intro c f h κ r hc hd
    cases c with
    | region id ops draw =>
      simp only [rcodeOf] at hc
      cases draw with
      | false => simp [strip] at hc
      | true =>
        simp only [if_true, strip, drawC] at hc
        split at hc
        · simp at hc
        · split at hc
          · rename_i es0 h1
            simp only [Option.some.injEq, RCode.gdraw.injEq] at hc
            obtain ⟨f', h', hk, hrun⟩ := gdraw_sound hC h1 hc.2.symm hc.1.symm hd
            exact ⟨.normal, f', h', hk, hrun⟩
          · simp at hc
    | skip => simp [rcodeOf, strip] at hc
    | label l => simp [rcodeOf, strip] at hc
    | seq a b => simp only [rcodeOf] at hc; split at hc <;> (try cases hc); split at hc <;> simp [strip] at hc
    | cond c a b => simp only [rcodeOf] at hc; split at hc <;> (try cases hc); split at hc <;> simp [strip] at hc
    | block id c => simp [rcodeOf, strip] at hc
    | loop c => simp [rcodeOf, strip] at hc
    | scope c => simp [rcodeOf, strip] at hc
    | exit id => simp [rcodeOf, strip] at hc
    | ret => simp [rcodeOf, strip] at hc
    | goto l => simp [rcodeOf, strip] at hc
    | refuse w => simp [rcodeOf, strip] at hc
    | rangeFunc _ _ _ _ => simp [rcodeOf, strip] at hc
  | seq ra rb iha ihb =>
    intro c f h κ r hc hd
    obtain ⟨a, b, rfl, ha, hb⟩ : ∃ a b, c = .seq a b ∧ rcodeOf P G n a = some (strip ra) ∧ rcodeOf P G n b = some (strip rb) := by
      cases c <;> simp only [rcodeOf] at hc <;> (try (simp [strip] at hc; done))
      case region id ops d => obtain ⟨_, e⟩ | ⟨_, e⟩ | ⟨_, _, e⟩ := rcode_region (id := id) (draw := d) hc <;> simp [strip] at e
      case seq a b =>
        split at hc
        · cases hc
        · rename_i x hx
          split at hc
          · cases hc
          · rename_i y hy; simp [strip] at hc; exact ⟨a, b, rfl, by rw [hx, hc.1], by rw [hy, hc.2]⟩
      case cond c a b => split at hc <;> (try cases hc); split at hc <;> simp [strip] at hc
    simp only [den] at hd
    obtain ⟨e1, f1, h1, hk1, hn1, hr1⟩ := iha a f h _ r ha hd
    cases e1 with
    | normal =>
      obtain ⟨e2, f2, h2, hk2, hn2, hr2⟩ := ihb b f1 h1 κ r hb hk1
      refine ⟨e2, f2, h2, hk2, Nat.le_trans hn1 hn2, fun μ a' w t z => ?_⟩
      refine wp_seq (wp_mono (hr1 μ a' w t (z.le hn2)) ?_)
      rintro e a1 w1 ⟨rfl, μ1, t1, s1⟩
      refine wp_mono (hr2 μ1 a1 w1 t1 (s1.zed z)) ?_
      rintro e a2 w2 ⟨rfl, μ2, t2, s2⟩
      exact ⟨rfl, μ2, t2, s1.trans s2⟩
    | exit i =>
      refine ⟨.exit i, f1, h1, hk1, hn1, fun μ a' w t z => wp_seq (wp_mono (hr1 μ a' w t z) ?_)⟩
      rintro e a1 w1 ⟨rfl, q⟩; exact ⟨rfl, q⟩
    | ret =>
      refine ⟨.ret, f1, h1, hk1, hn1, fun μ a' w t z => wp_seq (wp_mono (hr1 μ a' w t z) ?_)⟩
      rintro e a1 w1 ⟨rfl, q⟩; exact ⟨rfl, q⟩
  | cond o ra rb iha ihb =>
    intro c f h κ r hc hd
    obtain ⟨a, b, rfl, ha, hb⟩ : ∃ a b, c = .cond o a b ∧ rcodeOf P G n a = some (strip ra) ∧ rcodeOf P G n b = some (strip rb) := by
      cases c <;> simp only [rcodeOf] at hc <;> (try (simp [strip] at hc; done))
      case region id ops d => obtain ⟨_, e⟩ | ⟨_, e⟩ | ⟨_, _, e⟩ := rcode_region (id := id) (draw := d) hc <;> simp [strip] at e
      case seq a b => split at hc <;> (try cases hc); split at hc <;> simp [strip] at hc
      case cond c a b =>
        split at hc
        · cases hc
        · rename_i x hx
          split at hc
          · cases hc
          · rename_i y hy; simp [strip] at hc; exact ⟨a, b, by rw [hc.1], by rw [hx, hc.2.1], by rw [hy, hc.2.2]⟩
    simp only [den] at hd
    split at hd
    · rename_i t
      split at hd
      · rename_i x hx
        have hev : ∀ {ds : List Deferred} (μ : BMap) (a' : Act) (w : World), At ds G μ f h n a' w → a'.eval (.tmp t) = .bool x := fun μ a' w at_ => by
          have := at_.fr t _ hx
          exact vr_bool this
        split at hd
        · rename_i hxt; subst hxt
          obtain ⟨e1, f1, h1, hk1, hr1⟩ := iha a _ h κ r ha hd
          exact ⟨e1, f1, h1, hk1, hr1.1, fun μ a' w at_ z => wp_cond (hev μ a' w at_) ((hr1.weaken (pset_same hx)).2 μ a' w at_ z)⟩
        · rename_i hxf
          simp only [Bool.not_eq_true] at hxf; subst hxf
          obtain ⟨e1, f1, h1, hk1, hr1⟩ := ihb b _ h κ r hb hd
          exact ⟨e1, f1, h1, hk1, hr1.1, fun μ a' w at_ z => wp_cond (hev μ a' w at_) ((hr1.weaken (pset_same hx)).2 μ a' w at_ z)⟩
      · cases hd
    · rename_i x
      cases x with
      | true =>
        obtain ⟨e1, f1, h1, hk1, hr1⟩ := iha a f h κ r ha hd
        exact ⟨e1, f1, h1, hk1, hr1.1, fun μ a' w at_ z => wp_cond (t := true) rfl (hr1.2 μ a' w at_ z)⟩
      | false =>
        obtain ⟨e1, f1, h1, hk1, hr1⟩ := ihb b f h κ r hb hd
        exact ⟨e1, f1, h1, hk1, hr1.1, fun μ a' w at_ z => wp_cond (t := false) rfl (hr1.2 μ a' w at_ z)⟩
    · cases hd
  | scope ra iha =>
    intro c f h κ r hc hd
    obtain ⟨a, rfl, ha⟩ : ∃ a, c = .scope a ∧ rcodeOf P G n a = some (strip ra) := by
      cases c <;> simp only [rcodeOf] at hc <;> (try (simp [strip] at hc; done))
      case region id ops d => obtain ⟨_, e⟩ | ⟨_, e⟩ | ⟨_, _, e⟩ := rcode_region (id := id) (draw := d) hc <;> simp [strip] at e
      case seq a b => split at hc <;> (try cases hc); split at hc <;> simp [strip] at hc
      case cond c a b => split at hc <;> (try cases hc); split at hc <;> simp [strip] at hc
      case scope a =>
        simp only [Option.map_eq_some_iff] at hc
        obtain ⟨x, hx, e⟩ := hc
        simp [strip] at e
        exact ⟨a, rfl, by rw [hx, e]⟩
    simp only [den] at hd
    obtain ⟨e1, f1, h1, hk1, hn1, hr1⟩ := iha a f h _ r ha hd
    refine ⟨e1, f1, h1, hk1, hn1, fun μ a' w t z => wp_scope_straight (wp_mono (hr1 μ a' w t z) ?_)⟩
    rintro e a1 w1 ⟨rfl, q⟩
    cases e1 <;> exact ⟨rfl, q⟩
  | block id ra iha =>
    intro c f h κ r hc hd
    obtain ⟨a, rfl, ha⟩ : ∃ a, c = .block id a ∧ rcodeOf P G n a = some (strip ra) := by
      cases c <;> simp only [rcodeOf] at hc <;> (try (simp [strip] at hc; done))
      case region id ops d => obtain ⟨_, e⟩ | ⟨_, e⟩ | ⟨_, _, e⟩ := rcode_region (id := id) (draw := d) hc <;> simp [strip] at e
      case seq a b => split at hc <;> (try cases hc); split at hc <;> simp [strip] at hc
      case cond c a b => split at hc <;> (try cases hc); split at hc <;> simp [strip] at hc
      case block id' a =>
        simp only [Option.map_eq_some_iff] at hc
        obtain ⟨x, hx, e⟩ := hc
        simp [strip] at e
        exact ⟨a, by rw [e.1], by rw [hx, e.2]⟩
    simp only [den] at hd
    obtain ⟨e1, f1, h1, hk1, hn1, hr1⟩ := iha a f h _ r ha hd
    cases e1 with
    | normal =>
      refine ⟨.normal, f1, h1, hk1, hn1, fun μ a' w t z => wp_block (wp_mono (hr1 μ a' w t z) ?_)⟩
      rintro e a1 w1 ⟨rfl, q⟩; exact ⟨rfl, q⟩
    | ret =>
      refine ⟨.ret, f1, h1, hk1, hn1, fun μ a' w t z => wp_block (wp_mono (hr1 μ a' w t z) ?_)⟩
      rintro e a1 w1 ⟨rfl, q⟩; exact ⟨rfl, q⟩
    | exit i =>
      simp only at hk1
      cases hb : Nat.beq i id
      · rw [hb] at hk1
        have hne : i ≠ id := fun e => by subst e; rw [Nat.beq_refl] at hb; cases hb
        refine ⟨.exit i, f1, h1, hk1, hn1, fun μ a' w t z => wp_block (wp_mono (hr1 μ a' w t z) ?_)⟩
        rintro e a1 w1 ⟨rfl, q⟩
        simp only [exitOf, Exit.inBlock, hne, if_false]
        exact ⟨trivial, q⟩
      · rw [hb] at hk1
        have he : i = id := Nat.eq_of_beq_eq_true hb
        subst he
        refine ⟨.normal, f1, h1, hk1, hn1, fun μ a' w t z => wp_block (wp_mono (hr1 μ a' w t z) ?_)⟩
        rintro e a1 w1 ⟨rfl, q⟩
        simp only [exitOf, Exit.inBlock, if_true]
        exact ⟨trivial, q⟩
  | loop L ra iha =>
    intro c f h κ r hc hd
    obtain ⟨a, rfl, ha⟩ : ∃ a, c = .loop a ∧ rcodeOf P G n a = some (strip ra) := by
      cases c <;> simp only [rcodeOf] at hc <;> (try (simp [strip] at hc; done))
      case region id ops d => obtain ⟨_, e⟩ | ⟨_, e⟩ | ⟨_, _, e⟩ := rcode_region (id := id) (draw := d) hc <;> simp [strip] at e
      case seq a b => split at hc <;> (try cases hc); split at hc <;> simp [strip] at hc
      case cond c a b => split at hc <;> (try cases hc); split at hc <;> simp [strip] at hc
      case loop a =>
        simp only [Option.map_eq_some_iff] at hc
        obtain ⟨x, hx, e⟩ := hc
        simp [strip] at e
        exact ⟨a, rfl, by rw [hx, e]⟩
    simp only [den] at hd
    have key : ∀ (m : Nat) (f : PFr) (h : AHeap), appL L f (iterK (constL (fun _ => none) L) m fun rec => lamL L noFr fun f h => den C k ra f h fun e f h => match e with
        | .normal => appL L f rec h
        | .exit i => κ (.exit i) f h
        | .ret => κ .ret f h) h = some r →
        ∃ e f' h', e ≠ .normal ∧ κ e f' h' = some r ∧ h.next ≤ h'.next ∧ ∀ {ds : List Deferred} (μ : BMap) (a' : Act) (w : World), At ds G μ f h n a' w → Zed μ h.next h'.next →
          Code.rounds P a (fun x a' w' => x = exitOf e ∧ ∃ μ', At ds G μ' f' h' n a' w' ∧ Step G μ h w μ' h' w') m a' w := by
      intro m
      induction m with
      | zero => intro f h hd; exact (appL_const hd).elim
      | succ m ihm =>
        intro f h hd
        simp only [iterK] at hd
        obtain ⟨g, hg, hd⟩ := appL_lam (fun s v hv => by cases hv) hd
        obtain ⟨e1, f1, h1, hk1, hr1⟩ := iha a g h _ r ha hd
        have hr1 := hr1.weaken hg
        obtain ⟨hn1, hr1⟩ := hr1
        cases e1 with
        | normal =>
          obtain ⟨e2, f2, h2, hne, hk2, hn2, hr2⟩ := ihm f1 h1 hk1
          refine ⟨e2, f2, h2, hne, hk2, Nat.le_trans hn1 hn2, fun μ a' w t z => ?_⟩
          rw [rounds_succ]
          refine wp_mono (hr1 μ a' w t (z.le hn2)) ?_
          rintro e a1 w1 ⟨rfl, μ1, t1, s1⟩
          refine rounds_mono ?_ _ _ _ (hr2 μ1 a1 w1 t1 (s1.zed z))
          rintro e a2 w2 ⟨rfl, μ2, t2, s2⟩
          exact ⟨rfl, μ2, t2, s1.trans s2⟩
        | exit i =>
          refine ⟨.exit i, f1, h1, by simp, hk1, hn1, fun μ a' w t z => ?_⟩
          rw [rounds_succ]
          refine wp_mono (hr1 μ a' w t z) ?_
          rintro e a1 w1 ⟨rfl, q⟩; exact ⟨rfl, q⟩
        | ret =>
          refine ⟨.ret, f1, h1, by simp, hk1, hn1, fun μ a' w t z => ?_⟩
          rw [rounds_succ]
          refine wp_mono (hr1 μ a' w t z) ?_
          rintro e a1 w1 ⟨rfl, q⟩; exact ⟨rfl, q⟩
    obtain ⟨e, f', h', _, hk, hn, hr⟩ := key k f h hd
    exact ⟨e, f', h', hk, hn, fun μ a' w t z => wp_loop_rounds k (hr μ a' w t z)⟩
  | join L ra iha =>
    intro c f h κ r hc hd
    simp only [den, joinK] at hd
    have hc' : rcodeOf P G n c = some (strip ra) := hc
    obtain ⟨e1, f1, h1, hk1, hr1⟩ := iha c f h _ r hc' hd
    cases e1 with
    | normal =>
      obtain ⟨g, hg, hk⟩ := appL_lam (fun s v hv => by cases hv) hk1
      refine ⟨.normal, g, h1, hk, hr1.1, fun μ a' w t z => wp_mono (hr1.2 μ a' w t z) ?_⟩
      rintro e a1 w1 ⟨rfl, μ1, t1, s1⟩
      exact ⟨rfl, μ1, t1.weaken hg, s1⟩
    | exit i => exact ⟨.exit i, f1, h1, hk1, hr1⟩
    | ret => exact ⟨.ret, f1, h1, hk1, hr1⟩
  | exit id =>
    intro c f h κ r hc hd
    obtain rfl : c = .exit id := by
      cases c <;> simp only [rcodeOf] at hc <;> (try (simp [strip] at hc; done))
      case region id ops d => obtain ⟨_, e⟩ | ⟨_, e⟩ | ⟨_, _, e⟩ := rcode_region (id := id) (draw := d) hc <;> simp [strip] at e
      case seq a b => split at hc <;> (try cases hc); split at hc <;> simp [strip] at hc
      case cond c a b => split at hc <;> (try cases hc); split at hc <;> simp [strip] at hc
      case exit i => simp [strip] at hc; rw [hc]
    exact ⟨.exit id, f, h, hd, Nat.le_refl _, fun μ a' w t z => wp_exit ⟨rfl, μ, t, .refl t.sim⟩⟩
  | ret =>
    intro c f h κ r hc hd
    obtain rfl : c = .ret := by
      cases c <;> simp only [rcodeOf] at hc <;> (try (simp [strip] at hc; done))
      case region id ops d => obtain ⟨_, e⟩ | ⟨_, e⟩ | ⟨_, _, e⟩ := rcode_region (id := id) (draw := d) hc <;> simp [strip] at e
      case seq a b => split at hc <;> (try cases hc); split at hc <;> simp [strip] at hc
      case cond c a b => split at hc <;> (try cases hc); split at hc <;> simp [strip] at hc
      case ret => rfl
    exact ⟨.ret, f, h, hd, Nat.le_refl _, fun μ a' w t z => wp_ret ⟨rfl, μ, t, .refl t.sim⟩⟩
  | stuck =>
    intro c f h κ r hc hd
    simp [den] at hd
end
end Gx
namespace Gx
open Go
abbrev TupT : Slots → Type
  | [] => Unit
  | [(_, t)] => t.T
  | (_, t) :: p :: L => t.T × TupT (p :: L)
def encT : (L : Slots) → TupT L → List Value
  | [], _ => []
  | [(_, t)], x => [t.enc x]
  | (_, t) :: p :: L, x => t.enc x.1 :: encT (p :: L) x.2
def retV : List Value → Value
  | [v] => v
  | l => .tuple ⟨l⟩
def resV {X : Type} (s : Nat) (c : Option LTy) (f : PFr) (h : AHeap) (g : Value → Option X) : Option X :=
  match f s with
  | some v => match c with
    | none => g v
    | some T => match v with
      | .pointer p => p.bind fun a => dload T a h g
      | _ => none
  | none => none
def resT {X : Type} : (L : Slots) → List (Option LTy) → PFr → AHeap → (TupT L → Option X) → Option X
  | [], [], _, _, g => g ()
  | [(s, t)], [c], f, h, g => resV s c f h fun v => (t.dec v).bind g
  | (s, t) :: p :: L, c :: cs, f, h, g => resV s c f h fun v => (t.dec v).bind fun x => resT (p :: L) cs f h fun y => g (x, y)
  | _, _, _, _, _ => none
def argFr (args : List Value) : PFr := fun s => args[s]?
noncomputable def denF (C : CallF) (k : Nat) (rc : RCode) (rs : Slots) (cs : List (Option LTy)) (args : List Value) (h : AHeap) : Option (TupT rs × AHeap) :=
  den C k rc (argFr args) h fun e f h => match e with
    | .exit _ => none
    | .normal => resT rs cs f h fun x => some (x, h)
    | .ret => resT rs cs f h fun x => some (x, h)
def curF {X : Type} : (L : Slots) → (List Value → AHeap → Option X) → FnL L (AHeap → Option X)
  | [], b => b []
  | (_, t) :: L, b => fun x => curF L fun vs => b (t.enc x :: vs)
def appA {X : Type} : (L : Slots) → List Value → FnL L (AHeap → Option X) → AHeap → Option X
  | [], [], g, h => g h
  | (_, t) :: L, v :: vs, g, h => (t.dec v).bind fun x => appA L vs (g x) h
  | [], _ :: _, _, _ => none
  | _ :: _, [], _, _ => none
structure Ent where
  id : FuncId
  run : (R : Type) → List Value → AHeap → (Value → AHeap → Option R) → Option R
def entOf (id : FuncId) (ps rs : Slots) (f : FnL ps (AHeap → Option (TupT rs × AHeap))) : Ent :=
  ⟨id, fun _ args h κ => (appA ps args f h).bind fun r => κ (retV (encT rs r.1)) r.2⟩
def EntOk (P : Program) (G : Nat) (e : Ent) : Prop :=
  ∀ (R : Type) (args : List Value) (h : AHeap) (κ : Value → AHeap → Option R) (r : R), e.run R args h κ = some r → ∃ v h', κ v h' = some r ∧ FnS P G e.id args h v h'
def mkC (D : CallF) : List Ent → CallF
  | [] => D
  | e :: es => fun R g args h κ => bif Nat.beq g e.id then e.run R args h κ else mkC D es R g args h κ
def noC : CallF := fun _ _ _ _ _ => none
def EntsOk (P : Program) (G : Nat) : List Ent → Prop
  | [] => True
  | e :: es => EntOk P G e ∧ EntsOk P G es
section
variable {G : Nat} {P : Program}
theorem noC_sound : CSound P G noC := fun _ _ _ _ _ _ h => by cases h
theorem mkC_sound {D : CallF} (hD : CSound P G D) : ∀ {es : List Ent}, EntsOk P G es → CSound P G (mkC D es)
  | [], _ => hD
  | e :: es, hes => fun R g args h κ r hr => by
    simp only [mkC] at hr
    cases hb : Nat.beq g e.id
    · rw [hb] at hr; exact mkC_sound hD hes.2 R g args h κ r hr
    · rw [hb] at hr
      have he : g = e.id := Nat.eq_of_beq_eq_true hb
      subst he; exact hes.1 R args h κ r hr
def ResV (f : PFr) (h : AHeap) (s : Nat) (c : Option LTy) (v : Value) : Prop :=
  match c with
  | none => f s = some v
  | some T => ∃ a, f s = some (.pointer (some a)) ∧ dload T a h some = some v
def ResR (f : PFr) (h : AHeap) : Slots → List (Option LTy) → List Value → Prop
  | [], [], [] => True
  | (s, _) :: L, c :: cs, v :: vs => ResV f h s c v ∧ ResR f h L cs vs
  | _, _, _ => False
theorem dload_id {R : Type} {t : LTy} {a : Addr} {h : AHeap} {κ : Value → Option R} {r : R} (hd : dload t a h κ = some r) : ∃ v, κ v = some r ∧ dload t a h some = some v := by
  obtain ⟨v, h1, _, h2⟩ := dload_some hd
  exact ⟨v, h1, h2 h (by cases t <;> rfl) some⟩
theorem resV_some {X : Type} {s : Nat} {c : Option LTy} {f : PFr} {h : AHeap} {g : Value → Option X} {r : X} (hr : resV s c f h g = some r) : ∃ v, g v = some r ∧ ResV f h s c v := by
  unfold resV at hr
  split at hr
  · rename_i v hv
    cases c with
    | none => exact ⟨v, hr, hv⟩
    | some T =>
      simp only at hr
      split at hr
      · rename_i p
        simp only [Option.bind_eq_some_iff] at hr
        obtain ⟨a, rfl, hr⟩ := hr
        obtain ⟨v', h1, h2⟩ := dload_id hr
        exact ⟨v', h1, a, hv, h2⟩
      · cases hr
  · cases hr
theorem resT_some {X : Type} : ∀ {L : Slots} {cs : List (Option LTy)} {f : PFr} {h : AHeap} {g : TupT L → Option X} {r : X}, resT L cs f h g = some r → ∃ x, g x = some r ∧ ResR f h L cs (encT L x)
  | [], [], f, h, g, r, e => ⟨(), e, trivial⟩
  | [(s, t)], [c], f, h, g, r, e => by
    simp only [resT] at e
    obtain ⟨v, h1, h2⟩ := resV_some e
    simp only [Option.bind_eq_some_iff] at h1
    obtain ⟨x, hx, hg⟩ := h1
    refine ⟨x, hg, ?_, trivial⟩
    rw [LTy.enc_dec hx]; exact h2
  | (s, t) :: p :: L, c :: cs, f, h, g, r, e => by
    simp only [resT] at e
    obtain ⟨v, h1, h2⟩ := resV_some e
    simp only [Option.bind_eq_some_iff] at h1
    obtain ⟨x, hx, hg⟩ := h1
    obtain ⟨y, hy, hR⟩ := resT_some hg
    refine ⟨(x, y), hy, ?_, hR⟩
    rw [LTy.enc_dec hx]; exact h2
  | [], _ :: _, _, _, _, _, e => by simp [resT] at e
  | [_], [], _, _, _, _, e => by simp [resT] at e
  | [_], _ :: _ :: _, _, _, _, _, e => by simp [resT] at e
  | _ :: _ :: _, [], _, _, _, _, e => by simp [resT] at e
theorem appA_cur {X : Type} : ∀ {L : Slots} {args : List Value} {b : List Value → AHeap → Option X} {h : AHeap} {r : X}, appA L args (curF L b) h = some r → b args h = some r
  | [], [], b, h, r, e => e
  | (s, t) :: L, v :: vs, b, h, r, e => by
    simp only [appA, curF, Option.bind_eq_some_iff] at e
    obtain ⟨x, hx, e⟩ := e
    have := appA_cur e
    rw [LTy.enc_dec hx] at this
    exact this
  | [], _ :: _, b, h, r, e => by simp [appA] at e
  | _ :: _, [], b, h, r, e => by simp [appA] at e
def resOk (P : Program) : List ResultVar → Slots → List (Option LTy) → Bool
  | [], [], [] => true
  | .tmp t :: l, (s, _) :: L, none :: cs => Nat.beq t s && resOk P l L cs
  | .cell t ty :: l, (s, _) :: L, some T :: cs => Nat.beq t s && decide (ltyOf P ty = some T) && resOk P l L cs
  | _, _, _ => false
theorem loadVar_ok {t : TypeId} {T : LTy} {μ : BMap} {h : AHeap} {w : World} (hT : ltyOf P t = some T) (s : Sim G μ h w) {ad : Addr} {p' v : Value} (hv : VR μ (.pointer (some ad)) p') (hd : dload T ad h some = some v) :
    ∃ v', (do loadVar t (← asAddr p') : Sem Value).run P w = .ok v' w ∧ VR μ v v' := by
  obtain ⟨v0, hk, hv0, _⟩ := dload_some hd
  cases hk
  obtain ⟨b, o, c, d, z, rfl, he, hm⟩ := vr_ptr hv
  subst he
  cases T
  case st ts => exact (ltyOf_st hT).elim
  case agg n =>
    obtain ⟨l, hl, rfl⟩ := hv0
    obtain ⟨h1, h2⟩ := ltyOf_agg hT
    obtain ⟨vs', q1, q2, _⟩ := s.loads (P := P) hm hl
    exact ⟨_, by simp [asAddr, loadVar, run_isAgg h1, run_sizeOf' h2, q1], .agg_list q2⟩
  all_goals
    obtain ⟨v', q1, q2⟩ := s.cell hm hv0
    exact ⟨v', by simp [asAddr, loadVar, run_isAgg (ltyOf_one hT (fun n e => by cases e)), q1], q2⟩
theorem run_results {fn : Func} {rs : Slots} {cs : List (Option LTy)} (hr : resOk P fn.results.toList rs cs = true) {μ : BMap} {f : PFr} {tmps : Array Value} (fr : FR μ f tmps) {h : AHeap} {w : World} (sim : Sim G μ h w) {vals : List Value}
    (hx : ResR f h rs cs vals) : ∃ v', (results fn tmps).run P w = .ok v' w ∧ VR μ (retV vals) v' := by
  let F : ResultVar → Sem Value := (fun | .tmp t => pure (tmps.getD t undef) | .cell a t => do loadVar t (← asAddr (tmps.getD a undef)) : ResultVar → Sem Value)
  let g : ResultVar → Value := fun r => match (F r).run P w with | .ok v _ => v | _ => undef
  have gok : ∀ r v, (F r).run P w = .ok v w → g r = v := fun r v e => by simp only [g, e]
  have key : ∀ (l : List ResultVar) (L : Slots) (cs : List (Option LTy)) (vs : List Value), resOk P l L cs = true → ResR f h L cs vs →
      (∀ r ∈ l, (F r).run P w = .ok (g r) w) ∧ VRs μ vs (l.map g) := by
    intro l
    induction l with
    | nil =>
      intro L cs vs h1 h2
      cases L <;> cases cs <;> simp [resOk] at h1
      cases vs with
      | nil => exact ⟨fun r hr => (by cases hr), VRs.nil μ⟩
      | cons _ _ => simp [ResR] at h2
    | cons r l ih =>
      intro L cs vs h1 h2
      cases L with
      | nil => cases r <;> simp [resOk] at h1
      | cons p L =>
        obtain ⟨s, t⟩ := p
        cases cs with
        | nil => cases r <;> simp [resOk] at h1
        | cons c cs =>
        cases vs with
        | nil => simp [ResR] at h2
        | cons v vs =>
        simp only [ResR] at h2
        have main : ∃ v', (F r).run P w = .ok v' w ∧ VR μ v v' := by
          cases r with
          | tmp tt =>
            cases c with
            | some _ => simp [resOk] at h1
            | none =>
              simp only [resOk, Bool.and_eq_true] at h1
              have hts : tt = s := Nat.eq_of_beq_eq_true h1.1
              subst hts
              exact ⟨_, rfl, fr _ _ h2.1⟩
          | cell tt ty =>
            cases c with
            | none => simp [resOk] at h1
            | some T =>
              simp only [resOk, Bool.and_eq_true] at h1
              have hts : tt = s := Nat.eq_of_beq_eq_true h1.1.1
              subst hts
              obtain ⟨a, ha, hd⟩ := h2.1
              exact loadVar_ok (of_decide_eq_true h1.1.2) sim (fr _ _ ha) hd
        have tl : resOk P l L cs = true := by
          cases r <;> cases c <;> simp only [resOk, Bool.and_eq_true] at h1 <;> first | exact h1.2 | cases h1
        obtain ⟨k1, k2⟩ := ih L cs vs tl h2.2
        obtain ⟨v', q1, q2⟩ := main
        have e := gok _ _ q1
        refine ⟨fun r' hr' => ?_, ?_⟩
        · rcases List.mem_cons.1 hr' with rfl | hr'
          · rw [q1, e]
          · exact k1 r' hr'
        · simp only [List.map_cons]
          exact .cons (e ▸ q2) k2
  obtain ⟨k1, k2⟩ := key fn.results.toList rs cs vals hr hx
  have hm := run_mapMA (P := P) F g w fn.results (fun r hr => k1 r hr)
  have hrun : (results fn tmps).run P w = .ok (if h : (fn.results.map g).size = 1 then (fn.results.map g)[0] else .tuple (fn.results.map g)) w := by
    unfold results
    simp only [Sem.run_bind]
    erw [hm]
    rfl
  have fin : ∀ (A : Array Value) (vs : List Value), VRs μ vs A.toList → VR μ (retV vs) (if h : A.size = 1 then A[0] else .tuple A) := by
    intro A vs k2
    obtain ⟨al⟩ := A
    match vs, al, k2 with
    | [], al, k2 =>
      have := k2.nil_inv; subst this
      simp [retV]
      exact .tuple_list (.nil μ)
    | [v], al, k2 =>
      obtain ⟨v', t, e, h1, h2⟩ := k2.cons_inv
      have := h2.nil_inv; subst this
      simp only at e; subst e
      simpa [retV] using h1
    | v :: v2 :: vs, al, k2 =>
      have hl2 := k2.1
      rw [dif_neg (by simp at hl2 ⊢; omega)]
      exact .tuple_list k2
  refine ⟨_, hrun, fin _ _ ?_⟩
  have hlist : (fn.results.map g).toList = fn.results.toList.map g := by simp
  rw [hlist]; exact k2
theorem fnS_of {fn : Func} {g : FuncId} {c : Code} {rc : RCode} {rs : Slots} {cs : List (Option LTy)} {C : CallF} {k : Nat} {args : List Value} {h h' : AHeap} {x : TupT rs} (hC : CSound P G C) (hf : P.funcs[g]? = some fn) (hb : fn.body = some c)
    (hname : (fn.name == "runtime.NumGoroutine") = false) (hcode : rcodeOf P G fn.ntmps c = some (strip rc)) (hres : resOk P fn.results.toList rs cs = true) (hd : denF C k rc rs cs args h = some (x, h')) :
    FnS P G g args h (retV (encT rs x)) h' := by
  unfold denF at hd
  obtain ⟨e, f', h1, hk, hn, hrun⟩ := den_sound hC rc c (argFr args) h _ _ hcode hd
  have hex : (e = .normal ∨ e = .ret) ∧ resT rs cs f' h1 (fun x => some (x, h1)) = some (x, h') := by
    cases e with
    | normal => exact ⟨.inl rfl, hk⟩
    | ret => exact ⟨.inr rfl, hk⟩
    | exit i => simp at hk
  obtain ⟨he, hk⟩ := hex
  obtain ⟨x', hx', hR⟩ := resT_some hk
  simp only [Option.some.injEq, Prod.mk.injEq] at hx'
  obtain ⟨rfl, rfl⟩ := hx'
  refine ⟨hn, fun μ w args' s z hv o a next Q hnext => ?_⟩
  have hcall : (callFunc g ⟨args'⟩).run P w = .ok (.enter g ⟨args'⟩) w := by
    have hne : ¬ fn.name = "runtime.NumGoroutine" := by simpa using hname
    simp [callFunc, hf, hne, hb]
  rw [hcall, Oper.upon_enter]
  refine calls_of_wp hf hb (wp_mono (hrun μ _ w ⟨s, fun t v ht => ?_, rfl, ?_⟩ z) ?_)
  · -- the arguments' slots
    simp only [argFr] at ht
    obtain ⟨v', q1, q2⟩ := hv.get ht
    have hlt : t < args'.length := (List.getElem?_eq_some_iff.1 q1).1
    rw [Array.getD_eq_getD_getElem?, Array.getElem?_append_left (by simpa using hlt)]
    have : (⟨args'⟩ : Array Value)[t]? = some v' := by simpa using q1
    rw [this]; exact q2
  · simp; omega
  · rintro y a1 w1 ⟨rfl, μ1, at1, st⟩
    obtain ⟨v', r1, r2⟩ := run_results (P := P) hres at1.fr at1.sim hR
    have : bodyPost P fn (fun e w'' => match e with
        | .returned v => next (a.put o.dst v) w''
        | .panicked chain => Q (.panic chain) a w''
        | .outgrown => LetsOut Q) .ret a1 w1 := ⟨at1.df, v', r1, hnext v' w1 ⟨μ1, r2, st⟩⟩
    rcases he with rfl | rfl
    · exact this
    · exact this
theorem entOf_ok {fn : Func} {id : FuncId} {c : Code} {rc : RCode} {ps rs : Slots} {cs : List (Option LTy)} {C : CallF} {k : Nat} {f : FnL ps (AHeap → Option (TupT rs × AHeap))} (hC : CSound P G C) (hf : P.funcs[id]? = some fn) (hb : fn.body = some c)
    (hname : (fn.name == "runtime.NumGoroutine") = false) (hcode : rcodeOf P G fn.ntmps c = some (strip rc)) (hres : resOk P fn.results.toList rs cs = true)
    (hrfl : curF ps (fun args h => denF C k rc rs cs args h) = f) : EntOk P G (entOf id ps rs f) := by
  intro R args h κ r hr
  simp only [entOf, Option.bind_eq_some_iff] at hr
  obtain ⟨⟨x, h'⟩, hx, hk⟩ := hr
  rw [← hrfl] at hx
  exact ⟨_, h', hk, fnS_of hC hf hb hname hcode hres (appA_cur hx)⟩
end
end Gx
namespace Gx
open Go
section
variable {G : Nat} {P : Program}
theorem EntsOk.none : EntsOk P G [] := trivial
theorem EntsOk.more {e : Ent} {es : List Ent} (h : EntOk P G e) (hs : EntsOk P G es) : EntsOk P G (e :: es) := ⟨h, hs⟩
theorem entOf_ok2 {fn : Func} {id : FuncId} {rc : RCode} {ps rs : Slots} {cs : List (Option LTy)} {C : CallF} {k : Nat} {f : FnL ps (AHeap → Option (TupT rs × AHeap))} (hC : CSound P G C) (hf : P.funcs[id]? = some fn)
    (hname : (fn.name == "runtime.NumGoroutine") = false) (hcode : fn.body.bind (rcodeOf P G fn.ntmps) = some (strip rc)) (hres : resOk P fn.results.toList rs cs = true)
    (hrfl : curF ps (fun args h => denF C k rc rs cs args h) = f) : EntOk P G (entOf id ps rs f) := by
  cases hb : fn.body with
  | none => rw [hb] at hcode; cases hcode
  | some c => rw [hb] at hcode; exact entOf_ok hC hf hb hname hcode hres hrfl
end
end Gx
namespace Gx
open Go
section
variable {G : Nat} {P : Program}
theorem fnS_value {g : FuncId} {args : List Value} {h h' : AHeap} {v : Value} (hn : h.next ≤ h'.next)
    (k : ∀ (μ : BMap) (w : World) (args' : List Value), Sim G μ h w → Zed μ h.next h'.next → VRs μ args args' → ∃ μ' v' w', (callFunc g ⟨args'⟩).run P w = .ok (.value v') w' ∧ VR μ' v v' ∧ Step G μ h w μ' h' w') : FnS P G g args h v h' := by
  refine ⟨hn, fun μ w args' s z hv o a next Q hnext => ?_⟩
  obtain ⟨μ', v', w', h1, h2, h3⟩ := k μ w args' s z hv
  rw [h1, Oper.upon_value]
  exact hnext v' w' ⟨μ', h2, h3⟩
theorem VR.unit {μ : BMap} : VR μ (.tuple ⟨[]⟩) (.tuple ⟨[]⟩) := .tuple_list (.nil μ)
def eMark0 (id : FuncId) : Ent := ⟨id, fun _ args h κ => match args with | [] => κ (.tuple ⟨[]⟩) h | _ => none⟩
def eMark1 (id : FuncId) : Ent := ⟨id, fun _ args h κ => match args with | [.pointer p] => p.bind fun _ => κ (.tuple ⟨[]⟩) h | _ => none⟩
def eLoad (id : FuncId) (k : IntKind) : Ent := ⟨id, fun _ args h κ => match args with | [.pointer p] => p.bind fun a => (ldI k a h).bind fun x => κ (.int k x) h | _ => none⟩
def eStore (id : FuncId) (k : IntKind) : Ent := ⟨id, fun _ args h κ => match args with
  | [.pointer p, .int k' y] => bif decide (k' = k) then p.bind fun a => (ldI k a h).bind fun _ => (st1 a (.int k y) h).bind fun h' => κ (.tuple ⟨[]⟩) h' else none
  | _ => none⟩
def eCas (id : FuncId) (k : IntKind) : Ent := ⟨id, fun _ args h κ => match args with
  | [.pointer p, .int k1 o, .int k2 y] => bif decide (k1 = k) && decide (k2 = k) then p.bind fun a => (ldI k a h).bind fun x =>
      if x = o then (st1 a (.int k y) h).bind fun h' => κ (.bool true) h' else none
    else none
  | _ => none⟩
def eAdd (id : FuncId) (k : IntKind) : Ent := ⟨id, fun _ args h κ => match args with
  | [.pointer p, .int k1 y] => bif decide (k1 = k) then p.bind fun a => (ldI k a h).bind fun x =>
      (st1 a (.int k (IntKind.wrap k (x + y))) h).bind fun h' => κ (.int k (IntKind.wrap k (x + y))) h'
    else none
  | _ => none⟩
variable {f : FuncId} {fn : Func}
theorem VRs.one_inv {μ : BMap} {v : Value} {l : List Value} (h : VRs μ [v] l) : ∃ v', l = [v'] ∧ VR μ v v' := by
  obtain ⟨v', t, e, h1, h2⟩ := h.cons_inv
  have := h2.nil_inv; subst this
  exact ⟨v', e, h1⟩
theorem VRs.two_inv {μ : BMap} {v u : Value} {l : List Value} (h : VRs μ [v, u] l) : ∃ v' u', l = [v', u'] ∧ VR μ v v' ∧ VR μ u u' := by
  obtain ⟨v', t, e, h1, h2⟩ := h.cons_inv
  obtain ⟨u', rfl, h3⟩ := h2.one_inv
  exact ⟨v', u', e, h1, h3⟩
theorem VRs.three_inv {μ : BMap} {v u x : Value} {l : List Value} (h : VRs μ [v, u, x] l) : ∃ v' u' x', l = [v', u', x'] ∧ VR μ v v' ∧ VR μ u u' ∧ VR μ x x' := by
  obtain ⟨v', t, e, h1, h2⟩ := h.cons_inv
  obtain ⟨u', x', rfl, h3, h4⟩ := h2.two_inv
  exact ⟨v', u', x', e, h1, h3, h4⟩
theorem mark0_ok (hf : P.funcs[f]? = some fn) (hname : (fn.name == "runtime.NumGoroutine") = false) (hb : fn.body.isNone = true) (hn : Extern.findNext fn = none) (m : Mark)
    (he : Extern.find fn = some (fun _ => do mark m; pure Extern.Race.none_)) : EntOk P G (eMark0 f) := by
  intro R args h κ r hr
  simp only [eMark0] at hr
  split at hr
  · refine ⟨_, h, hr, fnS_value (Nat.le_refl _) fun μ w args' s z hv => ?_⟩
    have := hv.nil_inv; subst this
    exact ⟨μ, _, w, run_call_mark0 hf hname hb hn m he w, .unit, .refl s⟩
  · cases hr
theorem mark1_ok (hf : P.funcs[f]? = some fn) (hname : (fn.name == "runtime.NumGoroutine") = false) (hb : fn.body.isNone = true) (hn : Extern.findNext fn = none) (m : Addr → Mark)
    (he : Extern.find fn = some (Extern.Race.marked m)) : EntOk P G (eMark1 f) := by
  intro R args h κ r hr
  simp only [eMark1] at hr
  split at hr
  · simp only [Option.bind_eq_some_iff] at hr
    obtain ⟨a, rfl, hr⟩ := hr
    refine ⟨_, h, hr, fnS_value (Nat.le_refl _) fun μ w args' s z hv => ?_⟩
    obtain ⟨p', rfl, hp⟩ := hv.one_inv
    obtain ⟨b, o, c, d, z, e, rfl, hm⟩ := vr_ptr hp
    exact ⟨μ, _, w, run_call_marked hf hname hb hn m he _ w, .unit, .refl s⟩
  · cases hr
theorem ldI_cell {k : IntKind} {h : AHeap} {μ : BMap} {w : World} {x : Int} {b o c d z : Nat} (s : Sim G μ h w) (hm : μ b = some (c, d, z)) (hl : ldI k ⟨b, o, none⟩ h = some x) : w.cell? ⟨c, d + o, none⟩ = some (.int k x) := by
  unfold ldI at hl
  simp only [Option.bind_eq_some_iff] at hl
  obtain ⟨v, hv, hd⟩ := hl
  obtain ⟨v', q1, q2⟩ := s.cell hm hv
  rw [decI_some hd] at q2
  rw [q1, vr_int q2]
theorem st1_cell (P : Program) {k : IntKind} {h h' : AHeap} {μ : BMap} {w : World} {u : Value} {y : Int} {b o c d z : Nat} (s : Sim G μ h w) (hm : μ b = some (c, d, z)) (hc : w.cell? ⟨c, d + o, none⟩ = some u) (hs : st1 ⟨b, o, none⟩ (.int k y) h = some h') :
    w.frozen? ⟨c, d + o, none⟩ = false ∧ Step G μ h w μ h' (w.setCell ⟨c, d + o, none⟩ (.int k y)) := by
  obtain ⟨w', q1, q2⟩ := s.store1 (P := P) hm (v' := .int k y) hs (.int _ _)
  simp only at q1
  rw [run_store P w _ _ _ rfl, hc] at q1
  simp only at q1
  cases hz : w.frozen? ⟨c, d + o, none⟩ with
  | true => rw [hz] at q1; simp at q1
  | false => rw [hz] at q1; simp at q1; subst q1; exact ⟨rfl, q2⟩
theorem load_ok (hf : P.funcs[f]? = some fn) (hname : (fn.name == "runtime.NumGoroutine") = false) (hb : fn.body.isNone = true) (hn : Extern.findNext fn = none) (k : IntKind)
    (he : Extern.find fn = some (Extern.Atomic.loadT (.int k))) : EntOk P G (eLoad f k) := by
  intro R args h κ r hr
  simp only [eLoad] at hr
  split at hr
  · simp only [Option.bind_eq_some_iff] at hr
    obtain ⟨a, rfl, x, hx, hr⟩ := hr
    refine ⟨_, h, hr, fnS_value (Nat.le_refl _) fun μ w args' s z hv => ?_⟩
    obtain ⟨p', rfl, hp⟩ := hv.one_inv
    obtain ⟨b, o, c, d, z, rfl, rfl, hm⟩ := vr_ptr hp
    exact ⟨μ, _, w, run_call_load hf hname hb hn k he (ldI_cell s hm hx), .int _ _, .refl s⟩
  · cases hr
theorem st1_next {a : Addr} {v : Value} {h h' : AHeap} (hs : st1 a v h = some h') : h'.next = h.next := by
  unfold st1 AHeap.wr1 at hs
  split at hs
  · split at hs
    · cases hs; rfl
    · cases hs
  · cases hs
theorem store_ok (hf : P.funcs[f]? = some fn) (hname : (fn.name == "runtime.NumGoroutine") = false) (hb : fn.body.isNone = true) (hn : Extern.findNext fn = none) (k : IntKind)
    (he : Extern.find fn = some Extern.Atomic.storeT) : EntOk P G (eStore f k) := by
  intro R args h κ r hr
  simp only [eStore] at hr
  split at hr
  · rename_i p k' y
    by_cases hk : k' = k
    · subst hk
      simp only [decide_true, cond_true, Option.bind_eq_some_iff] at hr
      obtain ⟨a, rfl, x, hx, h', hs, hr⟩ := hr
      refine ⟨_, h', hr, fnS_value (Nat.le_of_eq (st1_next hs).symm) fun μ w args' s z hv => ?_⟩
      obtain ⟨p', u', rfl, hp, hu⟩ := hv.two_inv
      obtain ⟨b, o, c, d, z, rfl, rfl, hm⟩ := vr_ptr hp
      have := vr_int hu; subst this
      have hc := ldI_cell s hm hx
      obtain ⟨hz, st⟩ := st1_cell P s hm hc hs
      exact ⟨μ, _, _, run_call_store hf hname hb hn he hc hz, .unit, st⟩
    · simp [hk] at hr
  · cases hr
theorem cas_ok (hf : P.funcs[f]? = some fn) (hname : (fn.name == "runtime.NumGoroutine") = false) (hb : fn.body.isNone = true) (hn : Extern.findNext fn = none) (k : IntKind)
    (he : Extern.find fn = some (Extern.Atomic.casT (.int k))) : EntOk P G (eCas f k) := by
  intro R args h κ r hr
  simp only [eCas] at hr
  split at hr
  · rename_i p k1 o k2 y
    by_cases hk : k1 = k
    · by_cases hk2 : k2 = k
      · subst hk hk2
        simp only [decide_true, Bool.and_self, cond_true, Option.bind_eq_some_iff] at hr
        obtain ⟨a, rfl, x, hx, hr⟩ := hr
        split at hr
        · rename_i hxo
          subst hxo
          simp only [Option.bind_eq_some_iff] at hr
          obtain ⟨h', hs, hr⟩ := hr
          refine ⟨_, h', hr, fnS_value (Nat.le_of_eq (st1_next hs).symm) fun μ w args' s z hv => ?_⟩
          obtain ⟨p', u', x', rfl, hp, hu, hu2⟩ := hv.three_inv
          obtain ⟨b, o, c, d, z, rfl, rfl, hm⟩ := vr_ptr hp
          have := vr_int hu; subst this
          have := vr_int hu2; subst this
          have hc := ldI_cell s hm hx
          obtain ⟨hz, st⟩ := st1_cell P s hm hc hs
          exact ⟨μ, _, _, run_call_cas_hit hf hname hb hn _ he hc hz, .bool _, st⟩
        · cases hr
      · simp [hk2] at hr
    · simp [hk] at hr
  · cases hr
theorem run_add {k : IntKind} {x y : Int} {w : World} : (Op.intArith .add k x y).run P w = .ok (.int k (IntKind.wrap k (x + y))) w := rfl
theorem add_ok (hf : P.funcs[f]? = some fn) (hname : (fn.name == "runtime.NumGoroutine") = false) (hb : fn.body.isNone = true) (hn : Extern.findNext fn = none) (k : IntKind)
    (he : Extern.find fn = some (Extern.Atomic.update (Op.intArith .add) k true)) : EntOk P G (eAdd f k) := by
  intro R args h κ r hr
  simp only [eAdd] at hr
  split at hr
  · rename_i p k' y
    by_cases hk : k' = k
    · subst hk
      simp only [decide_true, cond_true, Option.bind_eq_some_iff] at hr
      obtain ⟨a, rfl, x, hx, h', hs, hr⟩ := hr
      refine ⟨_, h', hr, fnS_value (Nat.le_of_eq (st1_next hs).symm) fun μ w args' s z hv => ?_⟩
      obtain ⟨p', u', rfl, hp, hu⟩ := hv.two_inv
      obtain ⟨b, o, c, d, z, rfl, rfl, hm⟩ := vr_ptr hp
      have := vr_int hu; subst this
      have hc := ldI_cell s hm hx
      obtain ⟨hz, st⟩ := st1_cell P s hm hc hs
      exact ⟨μ, _, _, run_call_add hf hname hb hn _ he hc hz run_add, .int _ _, st⟩
    · simp [hk] at hr
  · cases hr
end
end Gx
namespace Gx
open Go
section
variable {G : Nat} {P : Program} {R : Type} {r : R} {C : CallF}
def FnD (P : Program) (G : Nat) (g : FuncId) (args : List Value) (h : AHeap) (v : Value) (h' : AHeap) : Prop :=
  h.next ≤ h'.next ∧ ∀ (μ : BMap) (w : World) (args' : List Value), Sim G μ h w → Zed μ h.next h'.next → VRs μ args args' →
    (callFunc g ⟨args'⟩).run P w = .ok (.enter g ⟨args'⟩) w ∧ ∀ u, CallsD P g ⟨args'⟩ u w fun e u' w' => u' = u ∧ ∃ v', e = .returned v' ∧ ∃ μ', VR μ' v v' ∧ Step G μ h w μ' h' w'
def EntD (P : Program) (G : Nat) (e : Ent) : Prop :=
  ∀ (R : Type) (args : List Value) (h : AHeap) (κ : Value → AHeap → Option R) (r : R), e.run R args h κ = some r → ∃ v h', κ v h' = some r ∧ FnD P G e.id args h v h'
theorem fnD_of {fn : Func} {g : FuncId} {c : Code} {rc : RCode} {rs : Slots} {cs : List (Option LTy)} {k : Nat} {args : List Value} {h h' : AHeap} {x : TupT rs} (hC : CSound P G C) (hf : P.funcs[g]? = some fn) (hb : fn.body = some c)
    (hname : (fn.name == "runtime.NumGoroutine") = false) (hcode : rcodeOf P G fn.ntmps c = some (strip rc)) (hres : resOk P fn.results.toList rs cs = true) (hd : denF C k rc rs cs args h = some (x, h')) :
    FnD P G g args h (retV (encT rs x)) h' := by
  unfold denF at hd
  obtain ⟨e, f', h1, hk, hn, hrun⟩ := den_sound hC rc c (argFr args) h _ _ hcode hd
  have hex : (e = .normal ∨ e = .ret) ∧ resT rs cs f' h1 (fun x => some (x, h1)) = some (x, h') := by
    cases e with
    | normal => exact ⟨.inl rfl, hk⟩
    | ret => exact ⟨.inr rfl, hk⟩
    | exit i => simp at hk
  obtain ⟨he, hk⟩ := hex
  obtain ⟨x', hx', hR⟩ := resT_some hk
  simp only [Option.some.injEq, Prod.mk.injEq] at hx'
  obtain ⟨rfl, rfl⟩ := hx'
  refine ⟨hn, fun μ w args' s z hv => ⟨?_, fun u => ?_⟩⟩
  · have hne : ¬ fn.name = "runtime.NumGoroutine" := by simpa using hname
    simp [callFunc, hf, hne, hb]
  · refine callsD_of_wp hf hb (R := fun e w' => ∃ v', e = .returned v' ∧ ∃ μ', VR μ' (retV (encT rs x')) v' ∧ Step G μ h w μ' h1 w') (wp_mono (hrun (ds := []) μ _ w ⟨s, fun t v ht => ?_, rfl, ?_⟩ z) ?_)
    · simp only [argFr] at ht
      obtain ⟨v', q1, q2⟩ := hv.get ht
      have hlt : t < args'.length := (List.getElem?_eq_some_iff.1 q1).1
      rw [Array.getD_eq_getD_getElem?, Array.getElem?_append_left (by simpa using hlt)]
      have : (⟨args'⟩ : Array Value)[t]? = some v' := by simpa using q1
      rw [this]; exact q2
    · simp; omega
    · rintro y a1 w1 ⟨rfl, μ1, at1, st⟩
      obtain ⟨v', r1, r2⟩ := run_results (P := P) hres at1.fr at1.sim hR
      have : bodyPost P fn (fun e w' => ∃ v', e = .returned v' ∧ ∃ μ', VR μ' (retV (encT rs x')) v' ∧ Step G μ h w μ' h1 w') .ret a1 w1 := ⟨at1.df, v', r1, v', rfl, μ1, r2, st⟩
      rcases he with rfl | rfl
      · exact this
      · exact this
theorem entOf_okD {fn : Func} {id : FuncId} {rc : RCode} {ps rs : Slots} {cs : List (Option LTy)} {k : Nat} {f : FnL ps (AHeap → Option (TupT rs × AHeap))} (hC : CSound P G C) (hf : P.funcs[id]? = some fn)
    (hname : (fn.name == "runtime.NumGoroutine") = false) (hcode : fn.body.bind (rcodeOf P G fn.ntmps) = some (strip rc)) (hres : resOk P fn.results.toList rs cs = true)
    (hrfl : curF ps (fun args h => denF C k rc rs cs args h) = f) : EntD P G (entOf id ps rs f) := by
  cases hb : fn.body with
  | none => rw [hb] at hcode; cases hcode
  | some c =>
    rw [hb] at hcode
    intro R args h κ r hr
    simp only [entOf, Option.bind_eq_some_iff] at hr
    obtain ⟨⟨x, h'⟩, hx, hk⟩ := hr
    rw [← hrfl] at hx
    exact ⟨_, h', hk, fnD_of hC hf hb hname hcode hres (appA_cur hx)⟩
theorem wpOps_append {ops : Array Oper} {Q : Exit → Act → World → Prop} {K : Act → World → Prop} {l2 : List Nat} (hK : ∀ a w, K a w → wpOps P ops Q l2 a w) : ∀ (l1 : List Nat) (a : Act) (w : World),
    wpOps P ops (fun x a w => x = Exit.normal ∧ K a w) l1 a w → wpOps P ops Q (l1 ++ l2) a w
  | [], a, w, h => hK _ _ h.2
  | i :: l, a, w, h => by
    rw [wpOps_cons] at h
    rw [List.cons_append, wpOps_cons]
    have ih := wpOps_append hK l
    unfold wpOp at h ⊢
    split
    · rename_i ho; rw [ho] at h; exact ih _ _ h
    · rename_i o ho
      rw [ho] at h
      simp only at h
      split
      · rename_i hw
        rw [if_pos hw] at h
        rcases h with h | ⟨h1, a', w', h2, _⟩
        · left
          unfold Oper.wp at h ⊢
          generalize (execOp a.eval o).run P w = res at h
          cases res with
          | ok x w' =>
            cases x <;> simp only [Oper.upon] at h ⊢ <;> first
              | exact ih _ _ h
              | exact Calls.mono h (fun e w'' he => by cases e <;> first | exact ih _ _ he | exact absurd he.1 (by simp) | (obtain ⟨a', w', h2, _⟩ := he; cases h2))
              | exact Rows.mono h (fun v w'' hv => ih _ _ hv)
          | halt x w' => cases x <;> simp only [Oper.upon] at h ⊢ <;> exact absurd h.1 (by simp)
        · cases h2
      · rename_i hw; rw [if_neg hw] at h; exact ih _ _ h
theorem region_defer {n id : Nat} {ops : Array Oper} {pre : List Oper} {od : Oper} {g : FuncId} {args : Array Operand} {aty : Array TypeId} {ros : List RO} {f : PFr} {h : AHeap} {κ : PFr → AHeap → Option R} (hC : CSound P G C) (hsplit : ops.toList = pre ++ [od])
    (hod : od.op = .defer ⟨.value (.func g), args, aty⟩) (hgd : od.guard = none) (hdst : od.dst = none) (hros : rosOf P G n ops pre = some (ros.map stripO)) (hG : opsG G args.toList = true) (hd : dops C ros f h κ = some r) :
    ∃ f' h', κ f' h' = some r ∧ h.next ≤ h'.next ∧ ∀ vs, evs f' args.toList = some vs → ∀ (ds : List Deferred) (μ : BMap) (a : Act) (w : World), At ds G μ f h n a w → Zed μ h.next h'.next →
      (Code.region id ops false).wp P (fun x a' w' => x = Exit.normal ∧ ∃ μ' vs', VRs μ' vs vs' ∧ At (⟨.fn (.func g) #[], ⟨vs'⟩⟩ :: ds) G μ' f' h' n a' w' ∧ Step G μ h w μ' h' w') a w := by
  have hsz : ops.size = pre.length + 1 := by rw [← Array.length_toList, hsplit]; simp
  have hlast : ops[pre.length]? = some od := by rw [← Array.getElem?_toList, hsplit]; simp
  obtain ⟨f', h', hk, hn, hrun⟩ := dops_sound hC (n := n) (ops := ops) pre (List.range pre.length) ros f h κ (by simp) (fun i o hi => by
    have hlt : i < pre.length := (List.getElem?_eq_some_iff.1 hi).1
    refine ⟨i, by simp [hlt], ?_⟩
    rw [← Array.getElem?_toList, hsplit, List.getElem?_append_left hlt]; exact hi) hros hd
  refine ⟨f', h', hk, hn, fun vs hvs ds μ a w t z => wp_region ?_⟩
  rw [hsz, List.range_succ]
  refine wpOps_append (K := fun a' w' => ∃ μ', At ds G μ' f' h' n a' w' ∧ Step G μ h w μ' h' w') (fun a' w' ⟨μ', t', st⟩ => ?_) _ _ _ (hrun μ a w t z)
  rw [wpOps_cons]
  unfold wpOp
  rw [hlast]
  simp only [Region.wanted, hgd, if_true]
  left
  have hv := evs_ok t'.sim t'.fr hvs hG
  have hx : (execOp a'.eval od).run P w' = .ok (.defer ⟨.fn (.func g) #[], ⟨args.toList.map a'.eval⟩⟩) w' := by
    obtain ⟨dst, op, ty, pos, af, gd⟩ := od
    simp only at hod
    subst hod
    simp [execOp, resolve, Act.eval, Deferred.ofValue]
    apply Array.ext'; simp
  unfold Oper.wp
  rw [hx, Oper.upon_defer, hdst]
  refine ⟨rfl, μ', _, hv, ⟨t'.sim, t'.fr, ?_, t'.sz⟩, st⟩
  simp [Act.put, t'.df]
structure OnceC where
  id : FuncId
  ro0 : List RO
  ro1 : List RO
  g1 : FuncId
  a1 : List Operand
  ro2 : List RO
  t : Nat
  ro3 : List RO
  g2 : FuncId
  a2 : List Operand
  ro4 : List RO
def onceF {R : Type} (C : CallF) (o : OnceC) (D1 D2 : Ent) (args : List Value) (h : AHeap) (κ : Value → AHeap → Option R) : Option R :=
  dops C o.ro0 (argFr args) h fun f h => dops C o.ro1 f h fun f h => (evs f o.a1).bind fun vs1 => dops C o.ro2 f h fun f h => match f o.t with
    | some (.bool b) => if b = true then dops C o.ro3 (pset f o.t (.bool true)) h fun f h => (evs f o.a2).bind fun vs2 => dops C o.ro4 f h fun _ h => D2.run R vs2 h fun _ h => D1.run R vs1 h fun _ h => κ (.tuple ⟨[]⟩) h else none
    | _ => none
def eOnce (C : CallF) (o : OnceC) (D1 D2 : Ent) : Ent := ⟨o.id, fun _ args h κ => onceF C o D1 D2 args h κ⟩
structure OnceFits (P : Program) (G : Nat) (fn : Func) (o : OnceC) : Prop where
  ex : ∃ (i0 i1 i2 i3 i4 : Nat) (p0 p1 p2 p3 p4 : Array Oper) (pre1 pre3 : List Oper) (d1 d3 : Oper) (b1 b3 : Array Operand) (t1 t3 : Array TypeId),
    fn.body = some (.seq (.region i0 p0 false) (.seq (.region i1 p1 false) (.seq (.region i2 p2 false) (.cond (.tmp o.t) (.seq (.region i3 p3 false) (.region i4 p4 false)) .skip)))) ∧
    rosOf P G fn.ntmps p0 p0.toList = some (o.ro0.map stripO) ∧ rosOf P G fn.ntmps p2 p2.toList = some (o.ro2.map stripO) ∧ rosOf P G fn.ntmps p4 p4.toList = some (o.ro4.map stripO) ∧
    p1.toList = pre1 ++ [d1] ∧ d1.op = .defer ⟨.value (.func o.g1), b1, t1⟩ ∧ d1.guard = none ∧ d1.dst = none ∧ rosOf P G fn.ntmps p1 pre1 = some (o.ro1.map stripO) ∧ opsG G b1.toList = true ∧ b1.toList = o.a1 ∧
    p3.toList = pre3 ++ [d3] ∧ d3.op = .defer ⟨.value (.func o.g2), b3, t3⟩ ∧ d3.guard = none ∧ d3.dst = none ∧ rosOf P G fn.ntmps p3 pre3 = some (o.ro3.map stripO) ∧ opsG G b3.toList = true ∧ b3.toList = o.a2
theorem dops_all {n id : Nat} {ops : Array Oper} {ros : List RO} {f : PFr} {h : AHeap} {κ : PFr → AHeap → Option R} (hC : CSound P G C) (hros : rosOf P G n ops ops.toList = some (ros.map stripO)) (hd : dops C ros f h κ = some r) :
    ∃ f' h', κ f' h' = some r ∧ RunS P G n (.region id ops false) f h .normal f' h' := by
  obtain ⟨f', h', hk, hn, hrun⟩ := dops_sound hC (n := n) (ops := ops) ops.toList (List.range ops.size) ros f h κ (by simp) (fun i o hi => by
    have hlt : i < ops.size := by simpa using (List.getElem?_eq_some_iff.1 hi).1
    exact ⟨i, by simp [hlt], by simpa using hi⟩) hros hd
  exact ⟨f', h', hk, hn, fun μ a w t z => wp_region (wpOps_mono (fun x a' w' ⟨e, q⟩ => ⟨e, q⟩) _ _ _ (hrun μ a w t z))⟩
theorem once_ok {fn : Func} {o : OnceC} {D1 D2 : Ent} (hC : CSound P G C) (hf : P.funcs[o.id]? = some fn) (hname : (fn.name == "runtime.NumGoroutine") = false) (hres : fn.results.toList.isEmpty = true) (fits : OnceFits P G fn o)
    (h1 : EntD P G D1) (h2 : EntD P G D2) (e1 : D1.id = o.g1) (e2 : D2.id = o.g2) : EntOk P G (eOnce C o D1 D2) := by
  intro R args h κ r hr
  obtain ⟨i0, i1, i2, i3, i4, p0, p1, p2, p3, p4, pre1, pre3, d1, d3, b1, b3, t1, t3, hb, r0, r2, r4, s1, q1, u1, v1, w1, x1, y1, s3, q3, u3, v3, w3, x3, y3⟩ := fits.ex
  simp only [eOnce, onceF] at hr
  obtain ⟨f0, h0, hk0, n0, run0⟩ := dops_all (id := i0) hC r0 hr
  obtain ⟨f1, hh1, hk1, n1, run1⟩ := region_defer (id := i1) hC s1 q1 u1 v1 w1 x1 hk0
  rw [y1] at run1
  rw [Option.bind_eq_some_iff] at hk1
  obtain ⟨vs1, hv1, hk1⟩ := hk1
  obtain ⟨f2, hh2, hk2, n2, run2⟩ := dops_all (id := i2) hC r2 hk1
  split at hk2
  · rename_i b hbt
    split at hk2
    · rename_i hb1; subst hb1
      rw [pset_self hbt] at hk2
      obtain ⟨f3, hh3, hk3, n3, run3⟩ := region_defer (id := i3) hC s3 q3 u3 v3 w3 x3 hk2
      rw [y3] at run3
      rw [Option.bind_eq_some_iff] at hk3
      obtain ⟨vs2, hv2, hk3⟩ := hk3
      obtain ⟨f4, hh4, hk4, n4, run4⟩ := dops_all (id := i4) hC r4 hk3
      obtain ⟨z5, hh5, hk5, n5, run5⟩ := h2 R _ _ _ r hk4
      obtain ⟨z6, hh6, hk6, n6, run6⟩ := h1 R _ _ _ r hk5
      rw [e2] at run5
      rw [e1] at run6
      refine ⟨_, hh6, hk6, by omega, fun μ w args' s z hv oo a next Q hnext => ?_⟩
      have hcall : (callFunc o.id ⟨args'⟩).run P w = .ok (.enter o.id ⟨args'⟩) w := by
        have hne : ¬ fn.name = "runtime.NumGoroutine" := by simpa using hname
        simp [callFunc, hf, hne, hb]
      show Oper.upon P oo a next Q (Sem.run P (callFunc o.id ⟨args'⟩) w)
      rw [hcall, Oper.upon_enter]
      refine calls_of_wp_defers hf hb ?_
      have at0 : At [] G μ (argFr args) h fn.ntmps { tmps := (⟨args'⟩ : Array Value) ++ Array.replicate (fn.ntmps - (⟨args'⟩ : Array Value).size) undef, defers := [] } w := ⟨s, fun t v ht => by
          simp only [argFr] at ht
          obtain ⟨v', q1, q2⟩ := hv.get ht
          have hlt : t < args'.length := (List.getElem?_eq_some_iff.1 q1).1
          rw [Array.getD_eq_getD_getElem?, Array.getElem?_append_left (by simpa using hlt)]
          have : (⟨args'⟩ : Array Value)[t]? = some v' := by simpa using q1
          rw [this]; exact q2, rfl, by simp; omega⟩
      have z' : Zed μ h.next hh6.next := z
      have mono : ∀ {m m' : Nat} {μ : BMap} {p : Nat}, Zed μ p m' → m ≤ m' → Zed μ p m := fun z hle b hb1 hb2 => z b hb1 (by omega)
      refine wp_seq (wp_mono (run0 μ _ w at0 (mono z' (by omega))) ?_)
      rintro x a0 w0 ⟨rfl, μ0, at0, st0⟩
      have z0 := st0.zed z'
      refine wp_seq (wp_mono (run1 vs1 hv1 [] μ0 a0 w0 at0 (mono z0 (by omega))) ?_)
      rintro x a1 w1 ⟨rfl, μ1, cs1, hcs1, at1, st1⟩
      have z1 := st1.zed z0
      refine wp_seq (wp_mono (run2 μ1 a1 w1 at1 (mono z1 (by omega))) ?_)
      rintro x a2 w2 ⟨rfl, μ2, at2, st2⟩
      have z2 := st2.zed z1
      have hev : a2.eval (.tmp o.t) = .bool true := vr_bool (at2.fr _ _ hbt)
      refine wp_cond hev ?_
      refine wp_seq (wp_mono (run3 vs2 hv2 _ μ2 a2 w2 at2 (mono z2 (by omega))) ?_)
      rintro x a3 w3 ⟨rfl, μ3, cs2, hcs2, at3, st3⟩
      have z3 := st3.zed z2
      refine wp_mono (run4 μ3 a3 w3 at3 (mono z3 (by omega))) ?_
      rintro x a4 w4 ⟨rfl, μ4, at4, st4⟩
      have z4 := st4.zed z3
      show Leaves P fn a4.tmps _ a4.defers .returning w4
      rw [at4.df]
      have hcs2' := hcs2.mono (st4.le (mono z3 (by omega)))
      obtain ⟨k1, k2⟩ := run5 μ4 w4 cs2 at4.sim (mono z4 (by omega)) hcs2'
      refine leaves_cons (by simp) (f := o.g2) (args := ⟨cs2⟩) ?_ ((k2 .returning).mono ?_)
      · rw [← k1]; simp [invoke]
      rintro e u w5 ⟨rfl, v5, rfl, μ5, hv5, st5⟩
      have z5 := st5.zed z4
      have hcs1' : VRs μ5 vs1 cs1 := ((((hcs1.mono (st2.le (mono z1 (by omega)))).mono (st3.le (mono z2 (by omega)))).mono (st4.le (mono z3 (by omega)))).mono (st5.le (mono z4 (by omega))))
      obtain ⟨k3, k4⟩ := run6 μ5 w5 cs1 st5.sim z5 hcs1'
      show Leaves P fn a4.tmps _ _ .returning w5
      refine leaves_cons (by simp) (f := o.g1) (args := ⟨cs1⟩) ?_ ((k4 .returning).mono ?_)
      · rw [← k3]; simp [invoke]
      rintro e u w6 ⟨rfl, v6, rfl, μ6, hv6, st6⟩
      have hr0 : fn.results = #[] := by
        apply Array.ext'
        simpa using hres
      refine ⟨.tuple #[], by simp [results, hr0], ?_⟩
      exact hnext _ _ ⟨μ6, .unit, st0.trans (st1.trans (st2.trans (st3.trans (st4.trans (st5.trans st6)))))⟩
    · cases hk2
  · cases hk2
def deferOf (P : Program) (G n : Nat) (ops : Array Oper) : Option (List RO × FuncId × List Operand) :=
  match ops.toList.reverse with
  | [] => none
  | d :: pre => match d.op, d.guard, d.dst with
    | .defer ⟨.value (.func g), b, _⟩, none, none => if opsG G b.toList = true then (rosOf P G n ops pre.reverse).map fun ro => (ro, g, b.toList) else none
    | _, _, _ => none
def onceOf (P : Program) (G n : Nat) (id : FuncId) (c : Code) : Option OnceC :=
  match c with
  | .seq (.region _ p0 false) (.seq (.region _ p1 false) (.seq (.region _ p2 false) (.cond (.tmp t) (.seq (.region _ p3 false) (.region _ p4 false)) .skip))) =>
    (rosOf P G n p0 p0.toList).bind fun r0 => (deferOf P G n p1).bind fun r1 => (rosOf P G n p2 p2.toList).bind fun r2 => (deferOf P G n p3).bind fun r3 => (rosOf P G n p4 p4.toList).bind fun r4 =>
      some ⟨id, r0, r1.1, r1.2.1, r1.2.2, r2, t, r3.1, r3.2.1, r3.2.2, r4⟩
  | _ => none
def stripOnce (o : OnceC) : OnceC := ⟨o.id, o.ro0.map stripO, o.ro1.map stripO, o.g1, o.a1, o.ro2.map stripO, o.t, o.ro3.map stripO, o.g2, o.a2, o.ro4.map stripO⟩
theorem deferOf_some {n : Nat} {ops : Array Oper} {x : List RO × FuncId × List Operand} (h : deferOf P G n ops = some x) :
    ∃ (pre : List Oper) (d : Oper) (b : Array Operand) (t : Array TypeId), ops.toList = pre ++ [d] ∧ d.op = .defer ⟨.value (.func x.2.1), b, t⟩ ∧ d.guard = none ∧ d.dst = none ∧ rosOf P G n ops pre = some x.1 ∧ opsG G b.toList = true ∧ b.toList = x.2.2 := by
  unfold deferOf at h
  split at h
  · cases h
  · rename_i d pre hrev
    split at h
    · rename_i g b t hop hgd hds
      split at h
      · rename_i hG
        simp only [Option.map_eq_some_iff] at h
        obtain ⟨ro, hro, rfl⟩ := h
        refine ⟨pre.reverse, d, b, t, ?_, hop, hgd, hds, hro, hG, rfl⟩
        have := congrArg List.reverse hrev
        simpa using this
      · cases h
    · cases h
theorem onceOf_some {fn : Func} {o : OnceC} (h : fn.body.bind (onceOf P G fn.ntmps o.id) = some (stripOnce o)) : OnceFits P G fn o := by
  rw [Option.bind_eq_some_iff] at h
  obtain ⟨c, hb, h⟩ := h
  unfold onceOf at h
  split at h
  · rename_i i0 p0 i1 p1 i2 p2 t i3 p3 i4 p4
    simp only [Option.bind_eq_some_iff, Option.some.injEq, stripOnce, OnceC.mk.injEq, true_and] at h
    obtain ⟨r0, h0, r1, h1, r2, h2, r3, h3, r4, h4, e0, e1, eg1, ea1, e2, et, e3, eg2, ea2, e4⟩ := h
    obtain ⟨pre1, d1, b1, t1, x1⟩ := deferOf_some h1
    obtain ⟨pre3, d3, b3, t3, x3⟩ := deferOf_some h3
    rw [e1, eg1, ea1] at x1
    rw [e3, eg2, ea2] at x3
    subst et
    refine ⟨⟨i0, i1, i2, i3, i4, p0, p1, p2, p3, p4, pre1, pre3, d1, d3, b1, b3, t1, t3, hb, by rw [h0, e0], by rw [h2, e2], by rw [h4, e4], x1.1, x1.2.1, x1.2.2.1, x1.2.2.2.1, x1.2.2.2.2.1, x1.2.2.2.2.2.1, x1.2.2.2.2.2.2, x3⟩⟩
  · cases h
theorem entOk_unit {e : Ent} {ps : Slots} {f : FnL ps (AHeap → Option (Unit × AHeap))} (he : EntOk P G e) (hrfl : curF ps (fun args h => e.run (Unit × AHeap) args h fun v h => match v with | .tuple ⟨[]⟩ => some ((), h) | _ => none) = f) :
    EntOk P G (entOf e.id ps [] f) := by
  intro R args h κ r hr
  simp only [entOf, Option.bind_eq_some_iff] at hr
  obtain ⟨⟨x, h'⟩, hx, hk⟩ := hr
  rw [← hrfl] at hx
  obtain ⟨v, h1, hv, hF⟩ := he _ _ _ _ _ (appA_cur hx)
  split at hv
  · cases hv
    exact ⟨_, _, hk, hF⟩
  · cases hv
end
end Gx
namespace Gx
open Go Go.RowKit
section
variable {G : Nat} {P : Program}
theorem Step.belowX {μ : BMap} {h : AHeap} {w w' : World} (s : Sim G μ h w) (b : Below w.heap.size w w') : Step G μ h w μ h w' where
  sim := by
    refine ⟨fun x B hx => ?_, s.inj, s.lt, s.glob, s.gle⟩
    obtain ⟨c, d, z, O, hm, hO, hr⟩ := s.blk x B hx
    exact ⟨c, d, z, O, hm, by rw [b.block c (Array.getElem?_eq_some_iff.1 hO).1]; exact hO, hr⟩
  nx := Nat.le_refl _
  same := fun _ _ => rfl
  os := b.os
  tape := b.tape
  output := b.output
  size := b.size
  old := fun c hc _ => b.block c hc
  img := fun x B p hb hn _ => absurd (s.lt x B hb) (by omega)
  keep := fun x B' hb _ => ⟨B', hb, id⟩
theorem fnS_calls {g : FuncId} {fn : Func} {c : Code} {args : List Value} {h : AHeap} {v : Value} (hf : P.funcs[g]? = some fn) (hb : fn.body = some c) (hname : (fn.name == "runtime.NumGoroutine") = false)
    (k : ∀ (μ : BMap) (w : World) (args' : List Value), Sim G μ h w → VRs μ args args' → ∃ v', VR μ v v' ∧ Calls P g ⟨args'⟩ w fun e w' => e = .returned v' ∧ Below w.heap.size w w') : FnS P G g args h v h := by
  refine ⟨Nat.le_refl _, fun μ w args' s _ hv o a next Q hnext => ?_⟩
  have hcall : (callFunc g ⟨args'⟩).run P w = .ok (.enter g ⟨args'⟩) w := by
    have hne : ¬ fn.name = "runtime.NumGoroutine" := by simpa using hname
    simp [callFunc, hf, hne, hb]
  rw [hcall, Oper.upon_enter]
  obtain ⟨v', hv', hc⟩ := k μ w args' s hv
  refine hc.mono ?_
  rintro e w' ⟨rfl, hbw⟩
  exact hnext v' w' ⟨μ, hv', Step.belowX s hbw⟩
def repB (s : ByteArray) (n : Nat) : ByteArray := ⟨(Lib.repeatL s.data.toList n).toArray⟩
def repeatA (s : ByteArray) (c : Int) : Option ByteArray := if 0 ≤ c ∧ c ≤ 9223372036854775807 ∧ s.size * c.toNat ≤ 140737488355328 then some (repB s c.toNat) else none
def eRepeat (id : FuncId) : Ent := ⟨id, fun _ args h κ => match args with
  | [.string s, .int k c] => bif decide (k = .i64) then (repeatA s c).bind fun t => κ (.string t) h else none
  | _ => none⟩
theorem repeat_ok {f : FuncId} {fn : Func} {c : Code} (hf : P.funcs[f]? = some fn) (hb : fn.body = some c) (hname : (fn.name == "runtime.NumGoroutine") = false)
    (hc : ∀ (s : ByteArray) (n : Nat) (w : World), n ≤ 9223372036854775807 → s.size * n ≤ 140737488355328 → Calls P f #[.string s, .int .i64 n] w fun e w' => e = .returned (.string ⟨(Lib.repeatL s.data.toList n).toArray⟩) ∧ Below w.heap.size w w') : EntOk P G (eRepeat f) := by
  intro R args h κ r hr
  simp only [eRepeat] at hr
  split at hr
  · rename_i s k n
    cases hk : decide (k = IntKind.i64) with
    | false => rw [hk] at hr; cases hr
    | true =>
      rw [hk, cond_true] at hr
      have hk := of_decide_eq_true hk
      subst hk
      simp only [Option.bind_eq_some_iff] at hr
      obtain ⟨t, ht, hr⟩ := hr
      unfold repeatA at ht
      split at ht
      · rename_i hg
        cases ht
        refine ⟨_, h, hr, fnS_calls hf hb hname fun μ w args' s' hv => ⟨_, .str _, ?_⟩⟩
        obtain ⟨v1, v2, rfl, h1, h2⟩ := hv.two_inv
        have e1 : v1 = .string s := by cases h1; rfl
        have e2 := vr_int h2
        subst e1; subst e2
        have := hc s n.toNat w (by omega) hg.2.2
        rw [Int.toNat_of_nonneg hg.1] at this
        exact this
      · cases ht
  · cases hr
end
end Gx
namespace Gx
open Go Go.RowKit
section
variable {G : Nat} {P : Program}
theorem FnS.calls {fn : Func} {g : FuncId} {args : List Value} {h h' : AHeap} {v : Value} (hF : FnS P G g args h v h') (hf : P.funcs[g]? = some fn) (hb : fn.body.isSome = true) (hname : (fn.name == "runtime.NumGoroutine") = false)
    {μ : BMap} {w : World} {args' : List Value} (s : Sim G μ h w) (z : Zed μ h.next h'.next) (hv : VRs μ args args') :
    Calls P g ⟨args'⟩ w fun e w' => ∃ v' μ', e = .returned v' ∧ VR μ' v v' ∧ Step G μ h w μ' h' w' := by
  have hcall : (callFunc g ⟨args'⟩).run P w = .ok (.enter g ⟨args'⟩) w := by
    have hne : ¬ fn.name = "runtime.NumGoroutine" := by simpa using hname
    obtain ⟨c, hc⟩ := Option.isSome_iff_exists.1 hb
    simp [callFunc, hf, hne, hc]
  have := hF.2 μ w args' s z hv ⟨some 0, .move (.tmp 0), 0, "", #[], none⟩ { tmps := #[undef], defers := [] }
    (fun a' w' => ∃ v' μ', a'.tmps = #[v'] ∧ VR μ' v v' ∧ Step G μ h w μ' h' w') (fun _ _ _ => False) (fun v' w' ⟨μ', h1, h2⟩ => ⟨v', μ', by simp [Act.put], h1, h2⟩)
  rw [hcall, Oper.upon_enter] at this
  refine Calls.mono this fun e w' he => ?_
  cases e with
  | returned u =>
    obtain ⟨v', μ', e, h1, h2⟩ := he
    simp [Act.put] at e
    subst e
    exact ⟨_, μ', rfl, h1, h2⟩
  | panicked ch => exact he.elim
  | outgrown => obtain ⟨_, _, hh⟩ := he; exact hh.elim
theorem Step.below {μ μ' : BMap} {h h' : AHeap} {w w' : World} (st : Step G μ h w μ' h' w') (hro : ∀ b B, h.get b = some B → B.isRW = false) : Below w.heap.size w w' :=
  ⟨st.os, st.tape, st.output, st.size, fun k hk => st.old k hk fun b B p hb hrw => by rw [hro b B hb] at hrw; cases hrw⟩
def h0 : AHeap := ⟨0, fun _ => none⟩
theorem sim0 (w : World) : Sim 0 (fun _ => none) h0 w :=
  ⟨(fun _ _ h => nomatch h), (fun _ _ _ _ _ _ h => nomatch h), (fun _ _ h => nomatch h), (fun g h => absurd h (Nat.not_lt_zero g)), Nat.le_refl _⟩
theorem law_calls {fn : Func} {g : FuncId} {e : Ent} (he : EntOk P G e) (hg : e.id = g) (hf : P.funcs[g]? = some fn) (hb : fn.body.isSome = true) (hname : (fn.name == "runtime.NumGoroutine") = false) {args : List Value} {h : AHeap}
    (hrun : e.run Bool args h (fun v _ => match v with | .bool b => some b | _ => none) = some true) {μ : BMap} {w : World} {args' : List Value} (s : Sim G μ h w) (z : ∀ b, h.next ≤ b → μ b = none) (hv : VRs μ args args') (hro : ∀ b B, h.get b = some B → B.isRW = false) :
    Calls P g ⟨args'⟩ w fun e w' => e = .returned (.bool true) ∧ Below w.heap.size w w' := by
  obtain ⟨v, h', hk, hF⟩ := he Bool args h _ true hrun
  subst hg
  refine Calls.mono (hF.calls hf hb hname s (fun b hb _ => z b hb) hv) ?_
  rintro e w' ⟨v', μ', rfl, h1, h2⟩
  refine ⟨?_, h2.below hro⟩
  split at hk
  · cases hk; rw [vr_bool h1]
  · cases hk
end
end Gx
namespace Gx
open Go Go.RowKit Go.ChangeShapes Go.WideShapes
structure Start (w : World) (μ : BMap) (h : AHeap) (G : Nat := 0) : Prop where
  sim : Sim G μ h w
  z : ∀ b, h.next ≤ b → μ b = none
  ro : ∀ b B, h.get b = some B → B.isRW = false
theorem Start.zero (w : World) : Start w (fun _ => none) h0 := ⟨sim0 w, fun _ _ => rfl, fun b B hb => by cases hb⟩
theorem put_self (μ : BMap) (b : Nat) (p : Nat × Nat × Nat) : (μ.put b p) b = some p := by simp [BMap.put]
theorem Start.add {G : Nat} {w : World} {μ : BMap} {h : AHeap} (S : Start w μ h G) {c d : Nat} {arr : Array Value} {e : TypeId} {fz : Nat × Nat} (hO : w.heap[c]? = some (.cells arr e fz)) {cs : List Value}
    (hc : ∀ (i : Nat) v, cs[i]? = some v → ∃ v', arr[d + i]? = some v' ∧ VR μ v v') : Start w (μ.put h.next (c, d, arr.size)) (h.new (.cells cs e false 0)) G := by
  have le := BMap.put_le (p := (c, d, arr.size)) (S.z h.next (Nat.le_refl _))
  refine ⟨⟨fun b B hb => ?_, fun b₁ b₂ B₁ B₂ p₁ p₂ h1 h2 _ hr _ _ => ?_, fun b B hb => ?_, fun g hg => let ⟨z, hz⟩ := S.sim.glob g hg; ⟨z, le _ _ hz⟩, Nat.le_trans S.sim.gle (by simp)⟩, fun b hb => ?_, fun b B hb => ?_⟩
  · rw [AHeap.get_new] at hb
    split at hb
    · rename_i e'; subst e'; cases hb
      exact ⟨c, d, arr.size, _, put_self _ _ _, hO, rfl, rfl, fun i v hv => let ⟨v', h1, h2⟩ := hc i v hv; ⟨v', h1, h2.mono le⟩, fun hf => by cases hf⟩
    · obtain ⟨c', d', z', O', hm, hO', hr⟩ := S.sim.blk b B hb
      exact ⟨c', d', z', O', le _ _ hm, hO', hr.mono le⟩
  · rw [AHeap.get_new] at h1
    split at h1
    · cases h1; cases hr
    · rw [S.ro b₁ B₁ h1] at hr; cases hr
  · rw [AHeap.get_new] at hb
    split at hb
    · rename_i e'; subst e'; simp
    · have := S.sim.lt b B hb; simp; omega
  · simp only [AHeap.next_new] at hb
    have : b ≠ h.next := by omega
    simp only [BMap.put, this, if_false]
    exact S.z b (by omega)
  · rw [AHeap.get_new] at hb
    split at hb
    · cases hb; rfl
    · exact S.ro b B hb
def AHeap.hole (h : AHeap) : AHeap := ⟨h.next + 1, h.get⟩
theorem Start.hole {G : Nat} {w : World} {μ : BMap} {h : AHeap} (S : Start w μ h G) (p : Nat × Nat × Nat) : Start w (μ.put h.next p) h.hole G := by
  have le := BMap.put_le (p := p) (S.z h.next (Nat.le_refl _))
  refine ⟨⟨fun b B hb => ?_, fun b₁ b₂ B₁ B₂ p₁ p₂ h1 h2 _ hr _ _ => ?_, fun b B hb => ?_, fun g hg => let ⟨z, hz⟩ := S.sim.glob g hg; ⟨z, le _ _ hz⟩, Nat.le_trans S.sim.gle (Nat.le_succ _)⟩, fun b hb => ?_, fun b B hb => S.ro b B hb⟩
  · obtain ⟨c', d', z', O', hm, hO', hr⟩ := S.sim.blk b B hb
    exact ⟨c', d', z', O', le _ _ hm, hO', hr.mono le⟩
  · rw [S.ro b₁ B₁ h1] at hr; cases hr
  · have := S.sim.lt b B hb
    show b < h.next + 1
    omega
  · have hb : h.next + 1 ≤ b := hb
    have : b ≠ h.next := by omega
    simp only [BMap.put, this, if_false]
    exact S.z b (by omega)
theorem Keeps.hole (h : AHeap) : Keeps h h.hole := ⟨Nat.le_succ _, fun _ _ _ => rfl⟩
structure More (w : World) (μ : BMap) (h : AHeap) (μ' : BMap) (h' : AHeap) (G : Nat := 0) : Prop where
  st : Start w μ' h' G
  le : BLe μ μ'
  kp : Keeps h h'
theorem Start.row {G : Nat} {α : Type} {enc : α → Value} (pl : ∀ x, plainV (enc x) = true) {w : World} {μ : BMap} {h : AHeap} (S : Start w μ h G) {a : Addr} {len cap : Nat} {zs : List α} (hz : zs.length = cap) (hl : len ≤ cap)
    (hc : ∀ (i : Nat) x, zs[i]? = some x → w.cell? (a.add i) = some (enc x)) :
    ∃ μ' h' s, More w μ h μ' h' G ∧ VR μ' (.slice s.a s.len s.cap) (.slice (some a) len cap) ∧ Row enc h' s (zs.take len) ∧ ∀ b, s.a = some b → b.block < h'.next ∧ h.next ≤ b.block := by
  by_cases h0 : cap = 0
  · obtain rfl : len = 0 := by omega
    have hzn : zs = [] := List.length_eq_zero_iff.1 (hz.trans h0)
    refine ⟨_, h.hole, ⟨some ⟨h.next, 0, none⟩, 0, 0⟩, ⟨S.hole (0, 0, 0), BMap.put_le (S.z _ (Nat.le_refl _)), .hole h⟩, ?_, ?_, ?_⟩
    · subst h0; exact .empty fun _ => rfl
    · rw [hzn]; exact Row.nil _ _ _ _
    · intro b hb; cases hb; exact ⟨Nat.lt_succ_self _, Nat.le_refl _⟩
  · obtain ⟨x0, hx0⟩ := isome (l := zs) (i := 0) (by omega)
    have c0 := hc 0 x0 hx0
    obtain ⟨b, off, sp⟩ := a
    have hsp : sp = none := by simpa [Addr.add] using World.cell?_spot c0
    subst hsp
    have cell : ∀ (i : Nat) x, zs[i]? = some x → w.cell? ⟨b, off + i, none⟩ = some (enc x) := fun i x hx => by rw [← add_plain]; exact hc i x hx
    obtain ⟨arr, e, fz, hO⟩ : ∃ arr e fz, w.heap[b]? = some (.cells arr e fz) := by
      have := cell 0 x0 hx0
      unfold World.cell? at this
      split at this
      · rename_i c e fz hh; exact ⟨c, e, fz, hh⟩
      · cases this
    have arrs : ∀ (i : Nat) x, zs[i]? = some x → arr[off + i]? = some (enc x) := fun i x hx => by
      have := cell i x hx
      unfold World.cell? at this
      rw [hO] at this
      simpa using this
    have A := S.add (d := off) (cs := zs.map enc) hO (fun i v hv => by
      rw [List.getElem?_map] at hv
      cases hx : zs[i]? with
      | none => rw [hx] at hv; cases hv
      | some x => rw [hx] at hv; cases hv; exact ⟨_, arrs i x hx, .of_plain (pl x)⟩)
    refine ⟨_, _, ⟨some ⟨h.next, 0, none⟩, len, cap⟩, ⟨A, BMap.put_le (S.z _ (Nat.le_refl _)), Keeps.new h _⟩, ?_, ?_, ?_⟩
    · exact .slice (put_self _ _ _) rfl
    · have := Row.of_block (enc := enc) (h := h.new (.cells (zs.map enc) e false 0)) (xs := zs.take len) (b := h.next) (o := 0) (sp := none) (cap := cap) (c := zs.map enc) (e := e) (r := false) (fz := 0) (by simp) (by simp) (fun i x hx => by
        rw [Nat.zero_add, List.getElem?_map]
        rw [List.getElem?_take] at hx
        split at hx
        · rw [hx]; rfl
        · cases hx)
      rw [List.length_take, hz, Nat.min_eq_left hl] at this
      exact this
    · intro b hb; cases hb; simp
section
variable {H : Type} {enc : TypeId × Value → H} {P : Program} {w : World} {r : Reach} {base : Nat} {t e : TypeId} {v : Value} {d : DataW H} {ps : List MemPlace} {μ : BMap} {h : AHeap}
theorem trodAll_after (hl : laidOutB P = true) {W' : World} (hb : Below w.heap.size w W') : ∀ {ts : List TypeId} {vs : List Value} {ds : List (DataW H)} {ps : List MemPlace}, (∀ t ∈ ts, P.readableRec t = true ∧ t < P.types.size) →
    DataW.TrodAll enc P w 0 (fun _ => true) true ts vs ds ps → DataW.TrodAll enc P W' 0 (fun b => decide (b < w.heap.size)) true ts vs ds ps
  | [], [], [], ps, _, h => h
  | t :: ts, v :: vs, d :: ds, ps, hr, h => by
    have hlt := DataW.TrodAll.lt h
    obtain ⟨p, q, h1, h2, rfl⟩ := h
    exact ⟨p, q, Below.trod hl (hr t (by simp)).1 (hr t (by simp)).2 h1 hb (fun x hx => hlt x (by simp [hx])), trodAll_after hl hb (fun t ht => hr t (by simp [ht])) h2, rfl⟩
  | [], [], _ :: _, _, _, h => nomatch h
  | [], _ :: _, [], _, _, h => nomatch h
  | [], _ :: _, _ :: _, _, _, h => nomatch h
  | _ :: _, [], [], _, _, h => nomatch h
  | _ :: _, [], _ :: _, _, _, h => nomatch h
  | _ :: _, _ :: _, [], _, _, h => nomatch h
end
end Gx
namespace Gx
open Go Go.RowKit Go.ChangeShapes Go.WideShapes
section
variable {H : Type} {enc : TypeId × Value → H} {P : Program} {w : World} {r : Reach} {base : Nat} {t e : TypeId} {v : Value} {d : DataW H} {ps : List MemPlace} {μ : BMap} {h : AHeap}
theorem Start.intsT {G : Nat} (S : Start w μ h G) (ht : P.underlying t = some (.slice e)) (he : P.underlying e = some (.int .i64)) (hc : P.cellsOf e = 1) {fuel : Nat} {x : DataW H × List MemPlace} (hf : DataW.trod enc P w 0 (fun _ => true) true fuel t [v] = some x) :
    ∃ μ' h' s, ∃ ls : List Int, More w μ h μ' h' G ∧ v = .slice (match v with | .slice a _ _ => a | _ => none) (match v with | .slice _ n _ => n | _ => 0) (match v with | .slice _ _ c => c | _ => 0) ∧ VR μ' (.slice s.a s.len s.cap) v ∧ Row encI h' s ls ∧ (∀ b, s.a = some b → b.block < h'.next ∧ h.next ≤ b.block) ∧ (ls = [] ∨ ∃ sp, x.1 = .slice (lits .i64 ls) sp) := by
  rcases open_ints ht he hc hf with ⟨hcs, hx⟩ | ⟨a, len', cap', ss, hcs, _, hl, hm, hz, hx, hcell, hwf⟩
  · simp at hcs
    subst hcs
    exact ⟨μ, h, ⟨none, 0, 0⟩, [], ⟨S, .refl _, .refl _ _⟩, rfl, .nilSlice, Row.nil _ _ _ _, by simp, .inl rfl⟩
  · simp at hcs
    subst hcs
    simp only [if_true] at hz
    obtain ⟨μ', h', s, m, vr, R, bb⟩ := S.row (enc := encI) (fun _ => rfl) hz hl (fun i x hx => by
      have := hcell i (List.getElem?_eq_some_iff.1 hx).1
      rw [this, List.getD_eq_getElem?_getD, hx]; rfl)
    exact ⟨μ', h', s, _, m, rfl, vr, R, bb, .inr ⟨_, (congrArg Prod.fst hx)⟩⟩
theorem open_three {f0 f1 f2 : Field} (ht : P.underlying t = some (.struct #[f0, f1, f2])) (h3 : P.cellsOf t = 3) (o0 : f0.offset = 0) (o1 : f1.offset = 1) (o2 : f2.offset = 2) (k0 : P.cellsOf f0.type = 1) (k1 : P.cellsOf f1.type = 1) (k2 : P.cellsOf f2.type = 1)
    (hval : Value.okWide P w r base t v) (hd : DataW.Trod enc P w 0 (fun _ => true) true t v d ps) :
    ∃ c0 c1 c2 n y0 y1 y2, v = .agg #[c0, c1, c2] ∧ DataW.trod enc P w 0 (fun _ => true) true n f0.type [c0] = some y0 ∧ DataW.trod enc P w 0 (fun _ => true) true n f1.type [c1] = some y1 ∧ DataW.trod enc P w 0 (fun _ => true) true n f2.type [c2] = some y2 ∧ d = .agg [y0.1, y1.1, y2.1] := by
  obtain ⟨cs, rfl, hs⟩ := okWide_struct ht hval
  rw [h3] at hs
  obtain ⟨l⟩ := cs
  match l, hs with
  | [c0, c1, c2], _ =>
    obtain ⟨fuel, hf⟩ := hd
    obtain ⟨xs, n, rfl, hx, _, hl, hall⟩ := DataW.trod_struct ht hf
    match xs, hl with
    | [y0, y1, y2], _ =>
      refine ⟨c0, c1, c2, n, y0, y1, y2, rfl, ?_, ?_, ?_, ?_⟩
      · have := hall 0 f0 rfl
        rw [o0, k0] at this
        simpa [Value.cells] using this
      · have := hall 1 f1 rfl
        rw [o1, k1] at this
        simpa [Value.cells] using this
      · have := hall 2 f2 rfl
        rw [o2, k2] at this
        simpa [Value.cells] using this
      · exact congrArg Prod.fst hx
theorem Start.mat {G : Nat} (S : Start w μ h G) {f0 f1 f2 : Field} {e0 e1 e2 : TypeId} (ht : P.underlying t = some (.struct #[f0, f1, f2])) (h3 : P.cellsOf t = 3) (o0 : f0.offset = 0) (o1 : f1.offset = 1) (o2 : f2.offset = 2) (t0 : f0.type = e0) (t1 : f1.type = e1) (t2 : f2.type = e2)
    (u0 : P.underlying e0 = some (.int .i64)) (u1 : P.underlying e1 = some (.int .i64)) (u2 : P.underlying e2 = some (.slice e)) (ue : P.underlying e = some (.int .i64)) (k0 : P.cellsOf e0 = 1) (k1 : P.cellsOf e1 = 1) (k2 : P.cellsOf e2 = 1) (ke : P.cellsOf e = 1)
    (hval : Value.okWide P w r base t v) (hd : DataW.Trod enc P w 0 (fun _ => true) true t v d ps) :
    ∃ μ' h' s, ∃ r c : Int, ∃ ls : List Int, More w μ h μ' h' G ∧ VR μ' (.agg #[.int .i64 r, .int .i64 c, .slice s.a s.len s.cap]) v ∧ Row encI h' s ls ∧ (∀ b, s.a = some b → b.block < h'.next ∧ h.next ≤ b.block) := by
  subst t0 t1 t2
  obtain ⟨c0, c1, c2, n, y0, y1, y2, rfl, q0, q1, q2, _⟩ := open_three ht h3 o0 o1 o2 k0 k1 k2 hval hd
  obtain ⟨r, e0, _, _⟩ := DataW.trod_int u0 q0
  obtain ⟨c, e1, _, _⟩ := DataW.trod_int u1 q1
  simp at e0 e1
  subst e0 e1
  obtain ⟨μ', h', s, ls, m, _, V, R, b, _⟩ := S.intsT u2 ue ke q2
  refine ⟨μ', h', s, r, c, ls, m, .agg rfl fun i x x' hx hx' => ?_, R, b⟩
  match i with
  | 0 => simp at hx hx'; subst hx hx'; exact .int _ _
  | 1 => simp at hx hx'; subst hx hx'; exact .int _ _
  | 2 => simp at hx hx'; subst hx hx'; exact V
  | i + 3 => simp at hx
end
end Gx
namespace Gx
open Go Go.RowKit Go.ChangeShapes Go.WideShapes
section
variable {H : Type} {enc : TypeId × Value → H} {P : Program} {w : World} {r : Reach} {base : Nat} {t e : TypeId} {v : Value} {d : DataW H} {ps : List MemPlace} {μ : BMap}
end
end Gx
namespace Gx
open Go Go.RowKit Go.ChangeShapes Go.WideShapes
section
variable {H : Type} {enc : TypeId × Value → H} {P : Program} {w : World} {r : Reach} {base : Nat} {t e : TypeId} {v : Value} {d : DataW H} {ps : List MemPlace}
end
end Gx
namespace Gx
open Go Go.RowKit Go.ChangeShapes Go.WideShapes
theorem laid_words {P : Program} {W : World} {name : String} {d : DataW Unit} {g : Nat} {t e : TypeId} {l : List UInt32} (hg : P.globalNamed name = some g) (ht : (P.globals[g]?).map (·.type) = some t) (hu : P.underlying t = some (.array l.length e)) (he : P.underlying e = some (.int .u32)) (hc : P.cellsOf e = 1)
    (hd : d = .agg (l.map fun x => .lit (.int .u32 (x.toNat : Int)))) (hp : ([(name, d)].all fun x => x.2.handleName?.isNone) = true) (h : laidMetH P [(name, d)] W) :
    ∃ arr ty fz, W.heap[g]? = some (.cells arr ty fz) ∧ ∀ (i : Nat) (x : UInt32), l[i]? = some x → arr[i]? = some (.int .u32 (x.toNat : Int)) := by
  rw [MakeChecks.laidMetH_plain _ _ _ hp] at h
  obtain ⟨ps, ⟨g0, t0, cs0, f0, p0, q0, hg0, ht0, hv0, hd0, _, _⟩, _, _⟩ := h
  obtain rfl := Option.some.inj (hg.symm.trans hg0)
  obtain rfl := Option.some.inj (ht.symm.trans ht0)
  have hcell : ∀ i, W.cell? ⟨g, i, none⟩ = cs0[i]? := fun i => World.var?_cell hg0 hv0 i
  obtain ⟨xs, m, rfl, hx1, hlen, hxl, hel⟩ := DataW.trod_array hu hd0
  have cs : ∀ (i : Nat) (x : UInt32), l[i]? = some x → cs0[i]? = some (.int .u32 (x.toNat : Int)) := fun i x hx => by
    have hi : i < l.length := (List.getElem?_eq_some_iff.1 hx).1
    have e1 := hel i hi
    rw [hc, Nat.mul_one] at e1
    obtain ⟨y, hy⟩ : ∃ y, xs[i]? = some y := ⟨xs[i]'(by omega), by simp [hxl, hi]⟩
    rw [hy] at e1
    obtain ⟨k, q1, q2, _⟩ := DataW.trod_int he e1
    have q3 : y.1 = .lit (.int .u32 (x.toNat : Int)) := by
      simp only [Prod.mk.injEq] at hx1
      have e2 := hx1.1
      rw [hd] at e2
      have e3 : l.map (fun x => (.lit (.int .u32 (x.toNat : Int)) : DataW Unit)) = xs.map (·.1) := DataW.agg.inj e2
      have e4 := congrArg (fun z => z[i]?) e3
      simp only [List.getElem?_map, hx, hy, Option.map_some, Option.some.injEq] at e4
      exact e4.symm
    rw [q2] at q3
    have hk : k = (x.toNat : Int) := by simpa using q3
    subst hk
    have e5 : (cs0.toList.drop i)[0]? = some (.int .u32 (x.toNat : Int)) := by
      have := congrArg (fun z => z[0]?) q1
      simpa [List.getElem?_take] using this
    rw [List.getElem?_drop, Nat.add_zero] at e5
    simpa using e5
  have c0 : ∃ x, l[0]? = some x ∨ l = [] := by
    cases l with
    | nil => exact ⟨0, .inr rfl⟩
    | cons x l => exact ⟨x, .inl rfl⟩
  simp only [World.var?, hg0, Option.bind_some] at hv0
  split at hv0
  · rename_i c ty fz hO
    refine ⟨c, ty, fz, hO, fun i x hx => ?_⟩
    have := hcell i
    unfold World.cell? at this
    rw [hO] at this
    simp only at this
    rw [cs i x hx] at this
    simpa using this
  · cases hv0
def hG (G g : Nat) (ty : TypeId) (l : List UInt32) : AHeap := ⟨G, fun b => if b = g then some (.cells (l.map encU) ty false 0) else none⟩
theorem Start.glob {w : World} {G g : Nat} (hg : g < G) {arr : Array Value} {ty : TypeId} {fz : Nat × Nat} {l : List UInt32} (hO : w.heap[g]? = some (.cells arr ty fz)) (hl : ∀ (i : Nat) (x : UInt32), l[i]? = some x → arr[i]? = some (.int .u32 (x.toNat : Int))) :
    Start w (fun b => if b < G then some (b, 0, if b = g then arr.size else 0) else none) (hG G g ty l) G := by
  refine ⟨⟨fun b B hb => ?_, fun b₁ b₂ B₁ B₂ p₁ p₂ h1 h2 _ hr _ _ => ?_, fun b B hb => ?_, fun x hx => ⟨_, if_pos hx⟩, Nat.le_refl _⟩, fun b hb => ?_, fun b B hb => ?_⟩
  · simp only [hG] at hb
    split at hb
    · rename_i e; subst e; cases hb
      refine ⟨b, 0, arr.size, _, by simp [hg], hO, rfl, rfl, fun i v hv => ?_, fun hf => by cases hf⟩
      rw [List.getElem?_map] at hv
      cases hx : l[i]? with
      | none => rw [hx] at hv; cases hv
      | some x =>
        rw [hx] at hv; cases hv
        exact ⟨_, by rw [Nat.zero_add]; exact hl i x hx, .int _ _⟩
    · cases hb
  · simp only [hG] at h1
    split at h1
    · cases h1; cases hr
    · cases h1
  · simp only [hG] at hb
    split at hb
    · rename_i e; subst e; exact hg
    · cases hb
  · have hb : G ≤ b := hb
    exact if_neg (by omega)
  · simp only [hG] at hb
    split at hb
    · cases hb; rfl
    · cases hb
theorem kg_hG {G g : Nat} (hg : g < G) (ty : TypeId) : KG g (hG G g ty shaK) := by
  refine ⟨hg, _, _, _, _, if_pos rfl, fun i hi => ?_⟩
  have hl : shaK.length = 64 := rfl
  obtain ⟨x, hx⟩ := isome (l := shaK) (i := i) (by rw [hl]; exact hi)
  rw [List.getElem?_map, hx]
  unfold kAt
  rw [hx]; rfl
end Gx
