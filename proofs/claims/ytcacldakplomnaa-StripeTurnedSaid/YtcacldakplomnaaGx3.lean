import Derived.Below
import Derived.Lib.Repeat
import Derived.Lib.Join
import Derived.SizedLaws
import Derived.SliceStrings
import Derived.ChangeSlices
import Derived.ChangeOld
import Derived.Carry
import Derived.OpenShut
import Derived.ShutString
import Derived.Test.YtcacldakplomnaaGx2
namespace Gx
open Go Go.RowKit
section
variable {G : Nat} {P : Program}
theorem Step.belowX {μ : BMap} {h : AHeap} {w w' : World} (s : Sim G μ h w) (b : Below w.heap.size w w') : Step G μ h w μ h w' where
  sim := by
    refine ⟨fun x B hx => ?_, s.inj, s.lt, s.glob, s.gle⟩
    obtain ⟨c, d, z, O, hm, hO, hr⟩ := s.blk x B hx
    exact ⟨c, d, z, O, hm, by rw [b.block c (Array.getElem?_eq_some_iff.1 hO).1]; exact hO, hr⟩
  nx := Nat.le_refl _
  same := fun _ _ => rfl
  os := b.os
  tape := b.tape
  output := b.output
  size := b.size
  old := fun c hc _ => b.block c hc
  img := fun x B p hb hn _ => absurd (s.lt x B hb) (by omega)
  keep := fun x B' hb _ => ⟨B', hb, id⟩
theorem fnS_calls {g : FuncId} {fn : Func} {c : Code} {args : List Value} {h : AHeap} {v : Value} (hf : P.funcs[g]? = some fn) (hb : fn.body = some c) (hname : (fn.name == "runtime.NumGoroutine") = false)
    (k : ∀ (μ : BMap) (w : World) (args' : List Value), Sim G μ h w → VRs μ args args' → ∃ v', VR μ v v' ∧ Calls P g ⟨args'⟩ w fun e w' => e = .returned v' ∧ Below w.heap.size w w') : FnS P G g args h v h := by
  refine ⟨Nat.le_refl _, fun μ w args' s _ hv o a next Q hnext => ?_⟩
  have hcall : (callFunc g ⟨args'⟩).run P w = .ok (.enter g ⟨args'⟩) w := by
    have hne : ¬ fn.name = "runtime.NumGoroutine" := by simpa using hname
    simp [callFunc, hf, hne, hb]
  rw [hcall, Oper.upon_enter]
  obtain ⟨v', hv', hc⟩ := k μ w args' s hv
  refine hc.mono ?_
  rintro e w' ⟨rfl, hbw⟩
  exact hnext v' w' ⟨μ, hv', Step.belowX s hbw⟩
def repB (s : ByteArray) (n : Nat) : ByteArray := ⟨(Lib.repeatL s.data.toList n).toArray⟩
def repeatA (s : ByteArray) (c : Int) : Option ByteArray := if 0 ≤ c ∧ c ≤ 9223372036854775807 ∧ s.size * c.toNat ≤ 140737488355328 then some (repB s c.toNat) else none
def eRepeat (id : FuncId) : Ent := ⟨id, fun _ args h κ => match args with
  | [.string s, .int k c] => bif decide (k = .i64) then (repeatA s c).bind fun t => κ (.string t) h else none
  | _ => none⟩
theorem repeat_ok {f : FuncId} {fn : Func} {c : Code} (hf : P.funcs[f]? = some fn) (hb : fn.body = some c) (hname : (fn.name == "runtime.NumGoroutine") = false)
    (hc : ∀ (s : ByteArray) (n : Nat) (w : World), n ≤ 9223372036854775807 → s.size * n ≤ 140737488355328 → Calls P f #[.string s, .int .i64 n] w fun e w' => e = .returned (.string ⟨(Lib.repeatL s.data.toList n).toArray⟩) ∧ Below w.heap.size w w') : EntOk P G (eRepeat f) := by
  intro R args h κ r hr
  simp only [eRepeat] at hr
  split at hr
  · rename_i s k n
    cases hk : decide (k = IntKind.i64) with
    | false => rw [hk] at hr; cases hr
    | true =>
      rw [hk, cond_true] at hr
      have hk := of_decide_eq_true hk
      subst hk
      simp only [Option.bind_eq_some_iff] at hr
      obtain ⟨t, ht, hr⟩ := hr
      unfold repeatA at ht
      split at ht
      · rename_i hg
        cases ht
        refine ⟨_, h, hr, fnS_calls hf hb hname fun μ w args' s' hv => ⟨_, .str _, ?_⟩⟩
        obtain ⟨v1, v2, rfl, h1, h2⟩ := hv.two_inv
        have e1 : v1 = .string s := by cases h1; rfl
        have e2 := vr_int h2
        subst e1; subst e2
        have := hc s n.toNat w (by omega) hg.2.2
        rw [Int.toNat_of_nonneg hg.1] at this
        exact this
      · cases ht
  · cases hr
def unstrs : List Value → Option (List ByteArray)
  | [] => some []
  | .string s :: l => match unstrs l with
    | some t => some (s :: t)
    | none => none
  | _ => none
theorem unstrs_eq : ∀ {l : List Value} {xs : List ByteArray}, unstrs l = some xs → l = xs.map Value.string
  | [], xs, h => by simp [unstrs] at h; subst h; rfl
  | v :: l, xs, h => by
    unfold unstrs at h
    split at h
    · rename_i e; cases e
    · rename_i s l0 e
      cases e
      split at h
      · rename_i t ht
        cases h
        rw [unstrs_eq ht]; rfl
      · cases h
    · cases h
theorem unstrs_map (xs : List ByteArray) : unstrs (xs.map Value.string) = some xs := by
  induction xs with
  | nil => rfl
  | cons x xs ih => simp [unstrs, ih]
def joinB (xs : List ByteArray) (sep : ByteArray) : ByteArray := ⟨(Lib.join (xs.map (·.data.toList)) sep.data.toList).toArray⟩
def joinA (s : Slc) (sep : ByteArray) (h : AHeap) : Option ByteArray :=
  match s.a with
  | none => none
  | some a => (h.rdL a.block a.off s.len).bind fun l => (unstrs l).bind fun xs =>
    if 1 ≤ s.len ∧ s.len ≤ s.cap ∧ s.len ≤ 140737488355328 ∧ (joinB xs sep).size ≤ 140737488355328 then some (joinB xs sep) else none
def eJoin (id : FuncId) : Ent := ⟨id, fun _ args h κ => match args with
  | [.slice a n c, .string sep] => (joinA ⟨a, n, c⟩ sep h).bind fun t => κ (.string t) h
  | _ => none⟩
theorem rdL_len {h : AHeap} {b o n : Nat} {l : List Value} (hr : h.rdL b o n = some l) (hn : n ≠ 0) : ∃ c e r fz, h.get b = some (.cells c e r fz) ∧ l = (c.drop o).take n ∧ l.length = n := by
  cases n with
  | zero => exact absurd rfl hn
  | succ n =>
    simp only [AHeap.rdL] at hr
    split at hr
    · rename_i c e r fz hb
      split at hr
      · rename_i hle
        cases hr
        refine ⟨c, e, r, fz, hb, rfl, ?_⟩
        simp; omega
      · cases hr
    · cases hr
theorem join_ok {f : FuncId} {fn : Func} {c : Code} (hf : P.funcs[f]? = some fn) (hb : fn.body = some c) (hname : (fn.name == "runtime.NumGoroutine") = false)
    (hc : ∀ (bk o c : Nat) (xs : List ByteArray) (sep : ByteArray) (w : World), (∀ (j : Nat) x, xs[j]? = some x → w.cell? ⟨bk, o + j, none⟩ = some (.string x)) → bk < w.heap.size → xs.length ≤ 140737488355328 → xs.length ≤ c →
      (Lib.join (xs.map (·.data.toList)) sep.data.toList).length ≤ 140737488355328 → Calls P f #[.slice (some ⟨bk, o, none⟩) xs.length c, .string sep] w fun e w' => e = .returned (.string ⟨(Lib.join (xs.map (·.data.toList)) sep.data.toList).toArray⟩) ∧ Below w.heap.size w w') : EntOk P G (eJoin f) := by
  intro R args h κ r hr
  simp only [eJoin] at hr
  split at hr
  · rename_i a n cp sep
    simp only [Option.bind_eq_some_iff] at hr
    obtain ⟨t, ht, hr⟩ := hr
    unfold joinA at ht
    simp only at ht
    split at ht
    · cases ht
    · rename_i ad
      simp only [Option.bind_eq_some_iff] at ht
      obtain ⟨l, hl, xs, hxs, ht⟩ := ht
      split at ht
      · rename_i hg
        cases ht
        obtain ⟨g1, g2, g3, g4⟩ := hg
        obtain ⟨cs, e, rr, fz, hb', hl', hlen⟩ := rdL_len hl (by omega)
        have hle := unstrs_eq hxs
        have hxl : xs.length = n := by rw [hle] at hlen; simpa using hlen
        refine ⟨_, h, hr, fnS_calls hf hb hname fun μ w args' s hv => ⟨_, .str _, ?_⟩⟩
        obtain ⟨v1, v2, rfl, h1, h2⟩ := hv.two_inv
        have e2 : v2 = .string sep := by cases h2; rfl
        subst e2
        cases h1 with
        | empty _ => omega
        | slice hm hcap =>
          rename_i b o cc d z m' sp
          subst hxl
          have hcap' : xs.length ≤ m' := by
            unfold capOk at hcap
            split at hcap
            · omega
            · omega
          refine hc cc (d + o) m' xs sep w (fun j x hj => ?_) ?_ g3 hcap' (by simpa [joinB, ByteArray.size] using g4)
          · have hlj : l[j]? = some (.string x) := by rw [hle]; simp [hj]
            rw [hl', List.getElem?_take] at hlj
            split at hlj
            · rw [List.getElem?_drop] at hlj
              have hrd : h.rd1 b (o + j) = some (.string x) := by unfold AHeap.rd1; rw [hb']; exact hlj
              obtain ⟨v', q1, q2⟩ := s.cell hm hrd
              have : v' = .string x := by cases q2; rfl
              rw [this, ← Nat.add_assoc] at q1
              exact q1
            · cases hlj
          · obtain ⟨c', d', z', O, hm', hO, _⟩ := s.blk b _ hb'
            rw [hm] at hm'; cases hm'
            exact (Array.getElem?_eq_some_iff.1 hO).1
      · cases ht
  · cases hr
end
end Gx
namespace Gx
open Go Go.RowKit Go.ChangeShapes Go.WideShapes
structure Start (w : World) (μ : BMap) (h : AHeap) : Prop where
  sim : Sim 0 μ h w
  z : ∀ b, h.next ≤ b → μ b = none
  ro : ∀ b B, h.get b = some B → B.isRW = false
theorem Start.zero (w : World) : Start w (fun _ => none) h0 := ⟨sim0 w, fun _ _ => rfl, fun b B hb => by cases hb⟩
theorem put_self (μ : BMap) (b : Nat) (p : Nat × Nat × Nat) : (μ.put b p) b = some p := by simp [BMap.put]
theorem Start.add {w : World} {μ : BMap} {h : AHeap} (S : Start w μ h) {c d : Nat} {arr : Array Value} {e : TypeId} {fz : Nat × Nat} (hO : w.heap[c]? = some (.cells arr e fz)) {cs : List Value}
    (hc : ∀ (i : Nat) v, cs[i]? = some v → ∃ v', arr[d + i]? = some v' ∧ VR μ v v') : Start w (μ.put h.next (c, d, arr.size)) (h.new (.cells cs e false 0)) := by
  have le := BMap.put_le (p := (c, d, arr.size)) (S.z h.next (Nat.le_refl _))
  refine ⟨⟨fun b B hb => ?_, fun b₁ b₂ B₁ B₂ p₁ p₂ h1 h2 _ hr _ _ => ?_, fun b B hb => ?_, fun g hg => absurd hg (Nat.not_lt_zero g), Nat.zero_le _⟩, fun b hb => ?_, fun b B hb => ?_⟩
  · rw [AHeap.get_new] at hb
    split at hb
    · rename_i e'; subst e'; cases hb
      exact ⟨c, d, arr.size, _, put_self _ _ _, hO, rfl, rfl, fun i v hv => let ⟨v', h1, h2⟩ := hc i v hv; ⟨v', h1, h2.mono le⟩, fun hf => by cases hf⟩
    · obtain ⟨c', d', z', O', hm, hO', hr⟩ := S.sim.blk b B hb
      exact ⟨c', d', z', O', le _ _ hm, hO', hr.mono le⟩
  · rw [AHeap.get_new] at h1
    split at h1
    · cases h1; cases hr
    · rw [S.ro b₁ B₁ h1] at hr; cases hr
  · rw [AHeap.get_new] at hb
    split at hb
    · rename_i e'; subst e'; simp
    · have := S.sim.lt b B hb; simp; omega
  · simp only [AHeap.next_new] at hb
    have : b ≠ h.next := by omega
    simp only [BMap.put, this, if_false]
    exact S.z b (by omega)
  · rw [AHeap.get_new] at hb
    split at hb
    · cases hb; rfl
    · exact S.ro b B hb
def AHeap.hole (h : AHeap) : AHeap := ⟨h.next + 1, h.get⟩
theorem Start.hole {w : World} {μ : BMap} {h : AHeap} (S : Start w μ h) (p : Nat × Nat × Nat) : Start w (μ.put h.next p) h.hole := by
  have le := BMap.put_le (p := p) (S.z h.next (Nat.le_refl _))
  refine ⟨⟨fun b B hb => ?_, fun b₁ b₂ B₁ B₂ p₁ p₂ h1 h2 _ hr _ _ => ?_, fun b B hb => ?_, fun g hg => absurd hg (Nat.not_lt_zero g), Nat.zero_le _⟩, fun b hb => ?_, fun b B hb => S.ro b B hb⟩
  · obtain ⟨c', d', z', O', hm, hO', hr⟩ := S.sim.blk b B hb
    exact ⟨c', d', z', O', le _ _ hm, hO', hr.mono le⟩
  · rw [S.ro b₁ B₁ h1] at hr; cases hr
  · have := S.sim.lt b B hb
    show b < h.next + 1
    omega
  · have hb : h.next + 1 ≤ b := hb
    have : b ≠ h.next := by omega
    simp only [BMap.put, this, if_false]
    exact S.z b (by omega)
theorem Keeps.hole (h : AHeap) : Keeps h h.hole := ⟨Nat.le_succ _, fun _ _ _ => rfl⟩
structure More (w : World) (μ : BMap) (h : AHeap) (μ' : BMap) (h' : AHeap) : Prop where
  st : Start w μ' h'
  le : BLe μ μ'
  kp : Keeps h h'
theorem Start.row {α : Type} {enc : α → Value} (pl : ∀ x, plainV (enc x) = true) {w : World} {μ : BMap} {h : AHeap} (S : Start w μ h) {a : Addr} {len cap : Nat} {zs : List α} (hz : zs.length = cap) (hl : len ≤ cap)
    (hc : ∀ (i : Nat) x, zs[i]? = some x → w.cell? (a.add i) = some (enc x)) :
    ∃ μ' h' s, More w μ h μ' h' ∧ VR μ' (.slice s.a s.len s.cap) (.slice (some a) len cap) ∧ Row enc h' s (zs.take len) ∧ ∀ b, s.a = some b → b.block < h'.next ∧ h.next ≤ b.block := by
  by_cases h0 : cap = 0
  · obtain rfl : len = 0 := by omega
    have hzn : zs = [] := List.length_eq_zero_iff.1 (hz.trans h0)
    refine ⟨_, h.hole, ⟨some ⟨h.next, 0, none⟩, 0, 0⟩, ⟨S.hole (0, 0, 0), BMap.put_le (S.z _ (Nat.le_refl _)), .hole h⟩, ?_, ?_, ?_⟩
    · subst h0; exact .empty fun _ => rfl
    · rw [hzn]; exact Row.nil _ _ _ _
    · intro b hb; cases hb; exact ⟨Nat.lt_succ_self _, Nat.le_refl _⟩
  · obtain ⟨x0, hx0⟩ := isome (l := zs) (i := 0) (by omega)
    have c0 := hc 0 x0 hx0
    obtain ⟨b, off, sp⟩ := a
    have hsp : sp = none := by simpa [Addr.add] using World.cell?_spot c0
    subst hsp
    have cell : ∀ (i : Nat) x, zs[i]? = some x → w.cell? ⟨b, off + i, none⟩ = some (enc x) := fun i x hx => by rw [← add_plain]; exact hc i x hx
    obtain ⟨arr, e, fz, hO⟩ : ∃ arr e fz, w.heap[b]? = some (.cells arr e fz) := by
      have := cell 0 x0 hx0
      unfold World.cell? at this
      split at this
      · rename_i c e fz hh; exact ⟨c, e, fz, hh⟩
      · cases this
    have arrs : ∀ (i : Nat) x, zs[i]? = some x → arr[off + i]? = some (enc x) := fun i x hx => by
      have := cell i x hx
      unfold World.cell? at this
      rw [hO] at this
      simpa using this
    have A := S.add (d := off) (cs := zs.map enc) hO (fun i v hv => by
      rw [List.getElem?_map] at hv
      cases hx : zs[i]? with
      | none => rw [hx] at hv; cases hv
      | some x => rw [hx] at hv; cases hv; exact ⟨_, arrs i x hx, .of_plain (pl x)⟩)
    refine ⟨_, _, ⟨some ⟨h.next, 0, none⟩, len, cap⟩, ⟨A, BMap.put_le (S.z _ (Nat.le_refl _)), Keeps.new h _⟩, ?_, ?_, ?_⟩
    · exact .slice (put_self _ _ _) rfl
    · have := Row.of_block (enc := enc) (h := h.new (.cells (zs.map enc) e false 0)) (xs := zs.take len) (b := h.next) (o := 0) (sp := none) (cap := cap) (c := zs.map enc) (e := e) (r := false) (fz := 0) (by simp) (by simp) (fun i x hx => by
        rw [Nat.zero_add, List.getElem?_map]
        rw [List.getElem?_take] at hx
        split at hx
        · rw [hx]; rfl
        · cases hx)
      rw [List.length_take, hz, Nat.min_eq_left hl] at this
      exact this
    · intro b hb; cases hb; simp
section
variable {H : Type} {enc : TypeId × Value → H} {P : Program} {w : World} {r : Reach} {base : Nat} {t e : TypeId} {v : Value} {d : DataW H} {ps : List MemPlace} {μ : BMap} {h : AHeap}
theorem open_two {k e : TypeId} (hk : P.underlying k = some (.array 2 e)) (h1 : P.cellsOf e = 1) (h2 : P.cellsOf k = 2) (hval : Value.okWide P w r base k v) (hd : DataW.Trod enc P w 0 (fun _ => true) true k v d ps) :
    ∃ c0 c1 n y0 y1, v = .agg #[c0, c1] ∧ DataW.trod enc P w 0 (fun _ => true) true n e [c0] = some y0 ∧ DataW.trod enc P w 0 (fun _ => true) true n e [c1] = some y1 := by
  simp only [Value.okWide, hk] at hval
  obtain ⟨cs, rfl, hs, _⟩ := hval
  rw [h2] at hs
  obtain ⟨l⟩ := cs
  match l, hs with
  | [c0, c1], _ =>
    obtain ⟨fuel, hf⟩ := hd
    cases fuel with
    | zero => simp [DataW.trod] at hf
    | succ n =>
      rw [DataW.trod_step] at hf
      unfold DataW.trodStep at hf
      simp only [hk, Value.cells] at hf
      rw [if_pos (by rw [h2]; rfl)] at hf
      simp only [Option.map_eq_some_iff] at hf
      obtain ⟨xs, hx, e1⟩ := hf
      rw [show List.range 2 = [0, 1] from rfl, List.mapM_cons, List.mapM_cons, List.mapM_nil] at hx
      simp only [bind, Option.bind_eq_some_iff, pure, Option.some.injEq, h1] at hx
      obtain ⟨y0, q0, _, ⟨y1, q1, _, rfl, rfl⟩, rfl⟩ := hx
      exact ⟨c0, c1, n, y0, y1, rfl, by simpa using q0, by simpa using q1⟩
theorem trodAll_after (hl : laidOutB P = true) {W' : World} (hb : Below w.heap.size w W') : ∀ {ts : List TypeId} {vs : List Value} {ds : List (DataW H)} {ps : List MemPlace}, (∀ t ∈ ts, P.readableRec t = true ∧ t < P.types.size) →
    DataW.TrodAll enc P w 0 (fun _ => true) true ts vs ds ps → DataW.TrodAll enc P W' 0 (fun b => decide (b < w.heap.size)) true ts vs ds ps
  | [], [], [], ps, _, h => h
  | t :: ts, v :: vs, d :: ds, ps, hr, h => by
    have hlt := DataW.TrodAll.lt h
    obtain ⟨p, q, h1, h2, rfl⟩ := h
    exact ⟨p, q, Below.trod hl (hr t (by simp)).1 (hr t (by simp)).2 h1 hb (fun x hx => hlt x (by simp [hx])), trodAll_after hl hb (fun t ht => hr t (by simp [ht])) h2, rfl⟩
  | [], [], _ :: _, _, _, h => nomatch h
  | [], _ :: _, [], _, _, h => nomatch h
  | [], _ :: _, _ :: _, _, _, h => nomatch h
  | _ :: _, [], [], _, _, h => nomatch h
  | _ :: _, [], _ :: _, _, _, h => nomatch h
  | _ :: _, _ :: _, [], _, _, h => nomatch h
end
end Gx
namespace Gx
open Go Go.RowKit Go.ChangeShapes Go.WideShapes
section
variable {H : Type} {enc : TypeId × Value → H} {P : Program} {w : World} {r : Reach} {base : Nat} {t e : TypeId} {v : Value} {d : DataW H} {ps : List MemPlace} {μ : BMap} {h : AHeap}
theorem Start.intsT (S : Start w μ h) (ht : P.underlying t = some (.slice e)) (he : P.underlying e = some (.int .i64)) (hc : P.cellsOf e = 1) {fuel : Nat} {x : DataW H × List MemPlace} (hf : DataW.trod enc P w 0 (fun _ => true) true fuel t [v] = some x) :
    ∃ μ' h' s, ∃ ls : List Int, More w μ h μ' h' ∧ v = .slice (match v with | .slice a _ _ => a | _ => none) (match v with | .slice _ n _ => n | _ => 0) (match v with | .slice _ _ c => c | _ => 0) ∧ VR μ' (.slice s.a s.len s.cap) v ∧ Row encI h' s ls ∧ (∀ b, s.a = some b → b.block < h'.next ∧ h.next ≤ b.block) ∧ (ls = [] ∨ ∃ sp, x.1 = .slice (lits .i64 ls) sp) := by
  rcases open_ints ht he hc hf with ⟨hcs, hx⟩ | ⟨a, len', cap', ss, hcs, _, hl, hm, hz, hx, hcell, hwf⟩
  · simp at hcs
    subst hcs
    exact ⟨μ, h, ⟨none, 0, 0⟩, [], ⟨S, .refl _, .refl _ _⟩, rfl, .nilSlice, Row.nil _ _ _ _, by simp, .inl rfl⟩
  · simp at hcs
    subst hcs
    simp only [if_true] at hz
    obtain ⟨μ', h', s, m, vr, R, bb⟩ := S.row (enc := encI) (fun _ => rfl) hz hl (fun i x hx => by
      have := hcell i (List.getElem?_eq_some_iff.1 hx).1
      rw [this, List.getD_eq_getElem?_getD, hx]; rfl)
    exact ⟨μ', h', s, _, m, rfl, vr, R, bb, .inr ⟨_, (congrArg Prod.fst hx)⟩⟩
theorem open_three {f0 f1 f2 : Field} (ht : P.underlying t = some (.struct #[f0, f1, f2])) (h3 : P.cellsOf t = 3) (o0 : f0.offset = 0) (o1 : f1.offset = 1) (o2 : f2.offset = 2) (k0 : P.cellsOf f0.type = 1) (k1 : P.cellsOf f1.type = 1) (k2 : P.cellsOf f2.type = 1)
    (hval : Value.okWide P w r base t v) (hd : DataW.Trod enc P w 0 (fun _ => true) true t v d ps) :
    ∃ c0 c1 c2 n y0 y1 y2, v = .agg #[c0, c1, c2] ∧ DataW.trod enc P w 0 (fun _ => true) true n f0.type [c0] = some y0 ∧ DataW.trod enc P w 0 (fun _ => true) true n f1.type [c1] = some y1 ∧ DataW.trod enc P w 0 (fun _ => true) true n f2.type [c2] = some y2 ∧ d = .agg [y0.1, y1.1, y2.1] := by
  obtain ⟨cs, rfl, hs⟩ := okWide_struct ht hval
  rw [h3] at hs
  obtain ⟨l⟩ := cs
  match l, hs with
  | [c0, c1, c2], _ =>
    obtain ⟨fuel, hf⟩ := hd
    obtain ⟨xs, n, rfl, hx, _, hl, hall⟩ := DataW.trod_struct ht hf
    match xs, hl with
    | [y0, y1, y2], _ =>
      refine ⟨c0, c1, c2, n, y0, y1, y2, rfl, ?_, ?_, ?_, ?_⟩
      · have := hall 0 f0 rfl
        rw [o0, k0] at this
        simpa [Value.cells] using this
      · have := hall 1 f1 rfl
        rw [o1, k1] at this
        simpa [Value.cells] using this
      · have := hall 2 f2 rfl
        rw [o2, k2] at this
        simpa [Value.cells] using this
      · exact congrArg Prod.fst hx
theorem Start.mat (S : Start w μ h) {f0 f1 f2 : Field} {e0 e1 e2 : TypeId} (ht : P.underlying t = some (.struct #[f0, f1, f2])) (h3 : P.cellsOf t = 3) (o0 : f0.offset = 0) (o1 : f1.offset = 1) (o2 : f2.offset = 2) (t0 : f0.type = e0) (t1 : f1.type = e1) (t2 : f2.type = e2)
    (u0 : P.underlying e0 = some (.int .i64)) (u1 : P.underlying e1 = some (.int .i64)) (u2 : P.underlying e2 = some (.slice e)) (ue : P.underlying e = some (.int .i64)) (k0 : P.cellsOf e0 = 1) (k1 : P.cellsOf e1 = 1) (k2 : P.cellsOf e2 = 1) (ke : P.cellsOf e = 1)
    (hval : Value.okWide P w r base t v) (hd : DataW.Trod enc P w 0 (fun _ => true) true t v d ps) :
    ∃ μ' h' s, ∃ r c : Int, ∃ ls : List Int, More w μ h μ' h' ∧ VR μ' (.agg #[.int .i64 r, .int .i64 c, .slice s.a s.len s.cap]) v ∧ Row encI h' s ls ∧ (∀ b, s.a = some b → b.block < h'.next ∧ h.next ≤ b.block) := by
  subst t0 t1 t2
  obtain ⟨c0, c1, c2, n, y0, y1, y2, rfl, q0, q1, q2, _⟩ := open_three ht h3 o0 o1 o2 k0 k1 k2 hval hd
  obtain ⟨r, e0, _, _⟩ := DataW.trod_int u0 q0
  obtain ⟨c, e1, _, _⟩ := DataW.trod_int u1 q1
  simp at e0 e1
  subst e0 e1
  obtain ⟨μ', h', s, ls, m, _, V, R, b, _⟩ := S.intsT u2 ue ke q2
  refine ⟨μ', h', s, r, c, ls, m, .agg rfl fun i x x' hx hx' => ?_, R, b⟩
  match i with
  | 0 => simp at hx hx'; subst hx hx'; exact .int _ _
  | 1 => simp at hx hx'; subst hx hx'; exact .int _ _
  | 2 => simp at hx hx'; subst hx hx'; exact V
  | i + 3 => simp at hx
end
end Gx
namespace Gx
open Go Go.RowKit Go.ChangeShapes Go.WideShapes
section
variable {H : Type} {enc : TypeId × Value → H} {P : Program} {w : World} {r : Reach} {base : Nat} {t e : TypeId} {v : Value} {d : DataW H} {ps : List MemPlace} {μ : BMap}
theorem open_duo (hk : P.underlying t = some (.array 2 e)) (he : P.underlying e = some (.int .i64)) (h1 : P.cellsOf e = 1) (h2 : P.cellsOf t = 2) (hval : Value.okWide P w r base t v) (hd : DataW.Trod enc P w 0 (fun _ => true) true t v d ps) :
    ∃ a b : Int, v = .agg #[.int .i64 a, .int .i64 b] ∧ VR μ (.agg #[.int .i64 a, .int .i64 b]) v := by
  obtain ⟨c0, c1, n, y0, y1, rfl, q0, q1⟩ := open_two hk h1 h2 hval hd
  obtain ⟨a, ea, _, _⟩ := DataW.trod_int he q0
  obtain ⟨b, eb, _, _⟩ := DataW.trod_int he q1
  simp at ea eb
  subst ea eb
  refine ⟨a, b, rfl, .agg rfl fun i x x' hx hx' => ?_⟩
  match i with
  | 0 => simp at hx hx'; subst hx hx'; exact .int _ _
  | 1 => simp at hx hx'; subst hx hx'; exact .int _ _
  | i + 2 => simp at hx
end
end Gx
namespace Gx
open Go Go.RowKit Go.ChangeShapes Go.WideShapes
section
variable {H : Type} {enc : TypeId × Value → H} {P : Program} {w : World} {r : Reach} {base : Nat} {t e : TypeId} {v : Value} {d : DataW H} {ps : List MemPlace}
end
end Gx
