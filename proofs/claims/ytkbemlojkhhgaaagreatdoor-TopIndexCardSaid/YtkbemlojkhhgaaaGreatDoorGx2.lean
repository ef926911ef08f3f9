import Derived.Lib.UnsafeStr
import Derived.LoopN
import Derived.Orders
import Derived.Scope
import Derived.KernelRfl
import Derived.Defers
import Derived.Laws.LoneSync
import Derived.Test.YtkbemlojkhhgaaaGreatDoorGx1
namespace Gx
open Go
section
variable {G : Nat} {P : Program} {f : PFr} {R : Type} {r : R}
theorem zXf_ {t : TypeId} {z : List Value} (h : zRc_ P t = some z) : ∃ v, (∀ w, (zeroValue t).run P w = .ok v w) ∧ v.cells = ⟨z⟩ ∧ zqb_ z = true := by
 unfold zRc_ at h
 cases hi : P.info? t with
 | none => simp [hi] at h
 | some i =>
  cases hz : i.zero with
  | none => simp [hi, hz] at h
  | some v =>
   simp only [hi, hz, Option.bind_some] at h
   split at h
   ·rename_i hp; cases h; exact ⟨v, fun w => by simp [zeroValue, typeInfo, hi, hz], rfl, hp⟩
   ·cases h
theorem zMj_ {z : List Value} (hz : z ≠ []) (n : Nat) : Builtin.zeroCells ⟨z⟩ n = (⟨zu_ n z⟩ : Array Value) := by
 rw [← zWj_ z n hz]
 rfl
def zZr_ (P : Program) (size bytes : Nat) (elem : TypeId) (z : List Value) (base' : Option Addr) (len cap' n : Nat) (new' : List Value) (w : World) (s : Sem Value) : Prop :=
 (len + n ≤ cap' → s.run P w = ((match base' with | some a => storeCells (a.add (len * size)) new' | none => pure ()).run P w).andThen fun _ w' => .ok (.slice base' (len + n) cap') w') ∧
 (¬ len + n ≤ cap' → 2 * (len + n) * bytes ≤ 281474976710656 → 1 ≤ bytes → ∀ old' : List Value, (∀ w₂ : World, w₂.heap = w.heap → (Builtin.firstCells size len (.slice base' len cap')).run P w₂ = .ok ⟨old'⟩ w₂) →
  ∃ (newCap : Nat) (w' : World), len + n ≤ newCap ∧ s.run P w = .ok (.slice (some ⟨w.heap.size, 0, none⟩) (len + n) newCap) w' ∧ w'.heap = w.heap.push (.cells ⟨old' ++ new' ++ zu_ (newCap - (len + n)) z⟩ elem) ∧
   w'.os = w.os ∧ w'.tape = w.tape ∧ w'.output = w.output)
theorem zer_ {need cap' bytes : Nat} (h : ¬ need ≤ cap') (hb : 2 * need * bytes ≤ 281474976710656) (h1 : 1 ≤ bytes) :
  ¬ ((9223372036854775807 : Int) < (need : Int)) ∧ ¬ (281474976710656 < Builtin.nextslicecap need cap' * bytes) := by
 have h2 := nextslicecap_le (need := need) (old := cap') (by omega)
 have h3 : need ≤ 281474976710656 := by
  have : need * 1 ≤ 2 * need * bytes := Nat.mul_le_mul (by omega) h1
  omega
 have h4 := Nat.mul_le_mul_right bytes h2
 exact ⟨by omega, by omega⟩
theorem zWt_ {size len n cap' : Nat} {elem : TypeId} {base' : Option Addr} {new' old' z : List Value} {w : World} {ap : Sem (Array Value)} {info : TypeInfo} {zv : Value} (hi : P.info? elem = some info)
  (hzr : ∀ w, (zeroValue elem).run P w = .ok zv w) (hzc : zv.cells = ⟨z⟩) (hz : z ≠ []) (hap : ∀ w₂ : World, w₂.heap = w.heap → ap.run P w₂ = .ok ⟨new'⟩ w₂)
  (hold : ∀ w₂ : World, w₂.heap = w.heap → (Builtin.firstCells size len (.slice base' len cap')).run P w₂ = .ok ⟨old'⟩ w₂) :
  ∃ (newCap : Nat) (w' : World), len + n ≤ newCap ∧ (do
    let newCap ← choose (.appendCap (len + n) cap' elem)
    askRoom (newCap * (← typeInfo elem).bytes)
    let old ← Builtin.firstCells size len (.slice base' len cap')
    let new ← ap
    let zz ← zeroValue elem
    let row ← newRow elem (old ++ new ++ Builtin.zeroCells zz.cells (newCap - (len + n)))
    pure (.slice (some row) (len + n) newCap) : Sem Value).run P w = .ok (.slice (some ⟨w.heap.size, 0, none⟩) (len + n) newCap) w' ∧
   w'.heap = w.heap.push (.cells ⟨old' ++ new' ++ zu_ (newCap - (len + n)) z⟩ elem) ∧ w'.os = w.os ∧ w'.tape = w.tape ∧ w'.output = w.output := by
 let q : Question := .appendCap (len + n) cap' elem
 let nc := q.cut (w.tape w.drawn q)
 have hcap : len + n ≤ nc := by simp [nc, q, Question.cut]
 have hc : (choose q).run P w = .ok nc { w with drawn := w.drawn + 1 } := by simp [q, nc, Question.forced]
 refine ⟨nc, { w with drawn := w.drawn + 1, heap := w.heap.push (.cells ⟨old' ++ new' ++ zu_ (nc - (len + n)) z⟩ elem) }, hcap, ?_, rfl, rfl, rfl, rfl⟩
 simp only [Sem.run_bind]
 rw [show (choose (.appendCap (len + n) cap' elem)).run P w = .ok nc { w with drawn := w.drawn + 1 } from hc]
 simp only [Result.andThen_ok, typeInfo, Sem.run_bind, run_program, hi, Sem.run_pure, run_askRoom]
 rw [hold { w with drawn := w.drawn + 1 } rfl]
 simp only [Result.andThen_ok]
 rw [hap { w with drawn := w.drawn + 1 } rfl]
 simp only [Result.andThen_ok, hzr, hzc, zMj_ hz, newRow, Sem.run_bind, run_newObj, Sem.run_pure]
 simp
theorem zTp_ {size bytes n : Nat} {elem : TypeId} {base' : Option Addr} {len cap' : Nat} {w : World} {new' : List Value} {x' : Value} {sT xT : TypeId} {info : TypeInfo} {z : List Value} {ty : TypeId} {d : TypeDesc}
  (ht : P.underlying sT = some (.slice elem)) (hi : P.info? elem = some info) (hsz : info.size = size) (hby : info.bytes = bytes) (hz : zRc_ P elem = some z) (hzn : z ≠ [])
  (h1 : P.underlying xT = some d) (h2 : ∀ k, d ≠ .int k) (hlen : (Builtin.lenOf x').run P w = .ok n w) (hap : ∀ w₂ : World, w₂.heap = w.heap → (Builtin.firstCells size n x').run P w₂ = .ok ⟨new'⟩ w₂) :
  zZr_ P size bytes elem z base' len cap' n new' w (Builtin.append_ #[sT, xT] ty #[.slice base' len cap', x']) := by
 have hsz' : szOf P elem = some size := by simp [szOf, hi, hsz]
 have hd : (match d with | .int _ => true | _ => false) = false := by
  cases d <;> first | rfl | exact absurd rfl (h2 _)
 refine ⟨fun hle => ?_, fun hle hb hb1 old' hold => ?_⟩
 ·simp only [Builtin.append_, List.getElem?_toArray, List.getElem?_cons_zero, List.getElem?_cons_succ, Sem.run_bind, run_underlying ht, Result.andThen_ok, run_sizeOf' hsz', run_underlying h1, Sem.run_pure, Bool.false_eq_true, if_false, hlen,
   hle, if_true, Bool.not_false, hap w rfl]
  cases base' <;> simp
 ·obtain ⟨c1, c2⟩ := zer_ hle hb hb1
  obtain ⟨zv, hzr', hzc, hzp⟩ := zXf_ hz
  obtain ⟨nc, w', g1, g2, g3⟩ := zWt_ (P := P) (n := n) hi hzr' hzc hzn hap hold
  refine ⟨nc, w', g1, ?_, g3⟩
  have c2' : ¬ (2 ^ 48 < Builtin.nextslicecap (len + n) cap' * info.bytes) := by rw [hby]; exact c2
  have c1' : ¬ (((len + n : Nat) : Int) > IntKind.i64.max ∧ (False ∨ info.bytes = 0)) := by rw [IntKind.max_i64]; intro h; exact c1 h.1
  have hti : (typeInfo elem).run P w = .ok info w := by simp [typeInfo, hi]
  simp only [Builtin.append_, List.getElem?_toArray, List.getElem?_cons_zero, List.getElem?_cons_succ, Sem.run_bind, run_underlying ht, Result.andThen_ok, run_sizeOf' hsz', run_underlying h1, Sem.run_pure, hlen, hle, if_false,
   Bool.false_eq_true, Bool.not_false, if_true, hti, Sem.run_ite, c1', c2', gt_iff_lt] at g2 ⊢
  exact g2
theorem zdw_ {size bytes n : Nat} {elem : TypeId} {base' : Option Addr} {len cap' : Nat} {w : World} {k kt : IntKind} {m : Int} {sT xT : TypeId} {info : TypeInfo} {z : List Value} {ty : TypeId}
  (ht : P.underlying sT = some (.slice elem)) (hi : P.info? elem = some info) (hsz : info.size = size) (hby : info.bytes = bytes) (hz : zRc_ P elem = some z) (hzn : z ≠ []) (hs0 : size ≠ 0)
  (h1 : P.underlying xT = some (.int kt)) (h2 : 0 ≤ m) (h3 : m ≤ 281474976710656) (h4 : m * bytes ≤ 281474976710656) (hn : n = m.toNat) :
  zZr_ P size bytes elem z base' len cap' n (zu_ n z) w (Builtin.append_ #[sT, xT] ty #[.slice base' len cap', .int k m]) := by
 have hsz' : szOf P elem = some size := by simp [szOf, hi, hsz]
 obtain ⟨zv, hzr', hzc, hzp⟩ := zXf_ hz
 have hw : IntKind.i64.wrap m = m := zIl_ h2 h3
 have l1 : ¬ (m < 0) := by omega
 have l2 : ¬ (m * (info.bytes : Int) > 2 ^ 48) := by rw [hby]; show ¬ (m * (bytes : Int) > 281474976710656); omega
 have hti : ∀ w, (typeInfo elem).run P w = .ok info w := fun w => by simp [typeInfo, hi]
 have hap : ∀ w₂ : World, w₂.heap = w.heap → (if n * size = 0 then pure #[] else do pure (Builtin.zeroCells (← zeroValue elem).cells n) : Sem (Array Value)).run P w₂ = .ok ⟨zu_ n z⟩ w₂ := fun w₂ _ => by
  by_cases h0 : n * size = 0
  ·have : n = 0 := by
    rcases Nat.mul_eq_zero.1 h0 with h | h
    ·exact h
    ·exact absurd h hs0
   subst this
   rw [zmc_]; simp
  ·simp [h0, hzr', hzc, zMj_ hzn]
 refine ⟨fun hle => ?_, fun hle hb hb1 old' hold => ?_⟩
 ·have hapw := hap w rfl
  simp only [Builtin.append_, List.getElem?_toArray, List.getElem?_cons_zero, List.getElem?_cons_succ, Sem.run_bind, run_underlying ht, Result.andThen_ok, run_sizeOf' hsz', run_underlying h1, Sem.run_pure, if_true,
   asInt, asIntOf, hw, Sem.run_ite, l1, l2, if_false, hti, ← hn, hle, Bool.not_true, Bool.false_eq_true] at hapw ⊢
  rw [hapw]
  cases base' <;> simp
 ·obtain ⟨c1, c2⟩ := zer_ hle hb hb1
  obtain ⟨nc, w', g1, g2, g3⟩ := zWt_ (P := P) (n := n) hi hzr' hzc hzn hap hold
  refine ⟨nc, w', g1, ?_, g3⟩
  have c2' : ¬ (2 ^ 48 < Builtin.nextslicecap (len + n) cap' * info.bytes) := by rw [hby]; exact c2
  have c1' : ¬ (((len + n : Nat) : Int) > IntKind.i64.max ∧ (True ∨ info.bytes = 0)) := by rw [IntKind.max_i64]; intro h; exact c1 h.1
  simp only [Builtin.append_, List.getElem?_toArray, List.getElem?_cons_zero, List.getElem?_cons_succ, Sem.run_bind, run_underlying ht, Result.andThen_ok, run_sizeOf' hsz', run_underlying h1, Sem.run_pure, if_true,
   asInt, asIntOf, hw, Sem.run_ite, l1, l2, if_false, hti, ← hn, hle, Bool.not_true, Bool.false_eq_true, c1', c2', gt_iff_lt] at g2 ⊢
  exact g2
theorem zSi_ {size bytes n : Nat} {elem : TypeId} {h h' : AHeap} {a : Option Addr} {len cap : Nat} {new : List Value} {t : Slc} {μ : BMap} {w : World} {s' : Value} {new' : List Value} {z : List Value} {S : Sem Value}
  (hs : Sim G μ h w) (zd : Zed μ h.next h'.next) (hv : VR μ (.slice a len cap) s') (hn : VRs μ new new') (hl : new.length = n * size) (hs0 : size ≠ 0) (_hzp : zqb_ z = true) (hzl : z.length = size)
  (hS : ∀ base' cap', s' = .slice base' len cap' → zZr_ P size bytes elem z base' len cap' n new' w S)
  (ha : zl_ size bytes elem h ⟨a, len, cap⟩ new n = some (t, h')) :
  ∃ t' μ' w', S.run P w = .ok t' w' ∧ VR μ' (.slice t.a t.len t.cap) t' ∧ Step G μ h w μ' h' w' := by
 have hl' : new'.length = n * size := by rw [← hn.1]; exact hl
 have zlen : ∀ k, (zu_ k z).length = k * size := fun k => by rw [zmc_]; simp [List.length_flatten, hzl]
 have grow : ∀ (base' : Option Addr) (cap' : Nat) (old old' : List Value) (h0 : AHeap), s' = .slice base' len cap' → ¬ len + n ≤ cap' → 2 * (len + n) * bytes ≤ 281474976710656 → 1 ≤ bytes →
   (∀ w₂ : World, w₂.heap = w.heap → (Builtin.firstCells size len (.slice base' len cap')).run P w₂ = .ok ⟨old'⟩ w₂) → VRs μ old old' → old.length = len * size → Sim G μ h0 w → h0.next = h.next → μ h.next = none → ∀ fz,
   ∃ t' μ' w', S.run P w = .ok t' w' ∧ VR μ' (.slice (some ⟨h.next, 0, some (size + 1)⟩) (len + n) (len + n)) t' ∧ Step G μ h0 w μ' (h0.new (.cells (old ++ new) elem true fz)) w' := by
  intro base' cap' old old' h0 e hle hb hb1 hold hvo hlo s0 hnx zn fz
  obtain ⟨nc, w', g1, g2, g3, g4, g5, g6⟩ := (hS base' cap' e).2 hle hb hb1 old' hold
  have hlen : (old' ++ new' ++ zu_ (nc - (len + n)) z).length = nc * size := by
   have := hvo.1
   simp only [List.length_append, zlen, hl']
   have : old'.length = len * size := by omega
   rw [this, ← Nat.add_mul, ← Nat.add_mul]
   congr 1; omega
  have zn' : μ h0.next = none := by rw [hnx]; exact zn
  have hB : BR (μ.put h0.next (w.heap.size, 0, nc * size)) 0 (nc * size) (.cells (old ++ new) elem true fz) (.cells ⟨old' ++ new' ++ zu_ (nc - (len + n)) z⟩ elem) := by
   refine ⟨rfl, by show (old' ++ new' ++ zu_ (nc - (len + n)) z).length = nc * size; exact hlen, fun i v hi => ?_, fun _ => ⟨rfl, fun i _ _ => by omega, fun _ => ⟨.inl rfl, fun x hx => let ⟨v, q⟩ := ((hvo.append hn).append (VRs.of_plain (zjf_ _hzp _))).img x hx; ⟨v, q.mono (BMap.put_le zn')⟩⟩⟩, fun q => by cases q⟩
   obtain ⟨v', q1, q2⟩ := (hvo.append hn).get hi
   refine ⟨v', ?_, q2.mono (BMap.put_le zn')⟩
   have hlt : i < (old' ++ new').length := (List.getElem?_eq_some_iff.1 q1).1
   rw [Nat.zero_add]
   have hget : (⟨old' ++ new' ++ zu_ (nc - (len + n)) z⟩ : Array Value)[i]? = (old' ++ new' ++ zu_ (nc - (len + n)) z)[i]? := by simp
   rw [hget, List.getElem?_append_left hlt]; exact q1
  refine ⟨_, _, w', g2, ?_, Step.new' s0 zn' hB g3 g4 g5 g6⟩
  refine .slice (o := 0) (d := 0) (c := w.heap.size) (z := nc * size) (by rw [← hnx]; simp [BMap.put]) ⟨g1, by omega⟩
 have growR : ∀ (base' : Option Addr) (cap' : Nat) (old old' : List Value) (h0 : AHeap), s' = .slice base' len cap' → ¬ len + n ≤ cap' → 2 * (len + n) * bytes ≤ 281474976710656 → 1 ≤ bytes →
   (∀ w₂ : World, w₂.heap = w.heap → (Builtin.firstCells size len (.slice base' len cap')).run P w₂ = .ok ⟨old'⟩ w₂) → VRs μ old old' → old.length = len * size → Sim G μ h0 w → h0.next = h.next → μ h.next = none →
   ∃ t' μ' w', S.run P w = .ok t' w' ∧ VR μ' (.slice (some ⟨h.next, 0, some (size + 1)⟩) (len + n) (len + n)) t' ∧ Step G μ h0 w μ' (h0.new (.cells (old ++ new) elem false 0)) w' := by
  intro base' cap' old old' h0 e hle hb hb1 hold hvo hlo s0 hnx zn
  obtain ⟨nc, w', g1, g2, g3, g4, g5, g6⟩ := (hS base' cap' e).2 hle hb hb1 old' hold
  have hlen : (old' ++ new' ++ zu_ (nc - (len + n)) z).length = nc * size := by
   have := hvo.1
   simp only [List.length_append, zlen, hl']
   have : old'.length = len * size := by omega
   rw [this, ← Nat.add_mul, ← Nat.add_mul]
   congr 1; omega
  have zn' : μ h0.next = none := by rw [hnx]; exact zn
  have hB : BR (μ.put h0.next (w.heap.size, 0, nc * size)) 0 (nc * size) (.cells (old ++ new) elem false 0) (.cells ⟨old' ++ new' ++ zu_ (nc - (len + n)) z⟩ elem) := by
   refine ⟨rfl, by show (old' ++ new' ++ zu_ (nc - (len + n)) z).length = nc * size; exact hlen, fun i v hi => ?_, fun x => (by cases x), fun _ q => absurd rfl q⟩
   obtain ⟨v', q1, q2⟩ := (hvo.append hn).get hi
   refine ⟨v', ?_, q2.mono (BMap.put_le zn')⟩
   have hlt : i < (old' ++ new').length := (List.getElem?_eq_some_iff.1 q1).1
   rw [Nat.zero_add]
   have hget : (⟨old' ++ new' ++ zu_ (nc - (len + n)) z⟩ : Array Value)[i]? = (old' ++ new' ++ zu_ (nc - (len + n)) z)[i]? := by simp
   rw [hget, List.getElem?_append_left hlt]; exact q1
  refine ⟨_, _, w', g2, ?_, Step.new' s0 zn' hB g3 g4 g5 g6⟩
  refine .slice (o := 0) (d := 0) (c := w.heap.size) (z := nc * size) (by rw [← hnx]; simp [BMap.put]) ⟨g1, by omega⟩
 unfold zl_ at ha
 simp only at ha
 split at ha
 ·-- there is room
  rename_i hle
  cases hv with
  | nilSlice =>
   simp only at ha; cases ha
   have hn0 : n = 0 := by omega
   subst hn0
   have hnew : new' = [] := by cases new' <;> simp at hl' ⊢
   have := (hS none 0 rfl).1 (by omega)
   refine ⟨.slice none 0 0, μ, w, ?_, .nilSlice, .refl hs⟩
   rw [this]; simp
  | slice hm hcap =>
   rename_i b o c d zz m' sp
   simp only at ha
   have hcm : cap ≤ m' := by unfold zvk_ at hcap; split at hcap <;> omega
   have hrun := (hS _ m' rfl).1 (by omega)
   split at ha
   ·rename_i hn0
    subst hn0
    cases ha
    have hnew : new' = [] := by cases new' <;> simp at hl' ⊢
    refine ⟨_, μ, w, ?_, .slice hm hcap, .refl hs⟩
    rw [hrun, hnew]; simp [storeCells]
   ·rename_i hn0
    simp only [Option.bind_eq_some_iff] at ha
    obtain ⟨h1, hw1, e⟩ := ha
    cases e
    obtain ⟨w', q1, q2⟩ := hs.storeL (P := P) (fun _ => hm) hw1 hn
    refine ⟨_, μ, w', ?_, .slice hm hcap, q2⟩
    rw [hrun]
    simp only [Addr.add_lit, Nat.add_assoc] at q1 ⊢
    rw [q1]; rfl
  | empty hcap =>
   rename_i ad a' m'
   simp only at ha
   have hn0 : n = 0 := by omega
   subst hn0
   simp only [if_true] at ha
   cases ha
   have hnew : new' = [] := by cases new' <;> simp at hl' ⊢
   have hrun := (hS (some a') m' rfl).1 (by omega)
   refine ⟨.slice (some a') 0 m', μ, w, ?_, .empty hcap, .refl hs⟩
   rw [hrun, hnew]; simp [storeCells]
 ·rename_i hle
  split at ha
  ·rename_i hb
   obtain ⟨hb, hb1⟩ := hb
   cases hv with
   | nilSlice =>
    simp only at ha; cases ha
    have zn : μ h.next = none := zd _ (Nat.le_refl _) (by simp)
    obtain ⟨t', μ', w', g1, g2, g3⟩ := grow none 0 [] [] h rfl (by omega) hb hb1 (fun w₂ _ => by simp [Builtin.firstCells]) (.nil μ) (by simp) hs rfl zn 0
    refine ⟨t', μ', w', g1, ?_, g3⟩
    simpa using g2
   | slice hm hcap =>
    rename_i b o c d zz m' sp
    simp only at ha
    have readold : ∀ l : List Value, h.rdL b o (len * size) = some l → ∃ l', (∀ w₂ : World, w₂.heap = w.heap → (Builtin.firstCells size len (.slice (some ⟨c, d + o, none⟩) len m')).run P w₂ = .ok ⟨l'⟩ w₂) ∧ VRs μ l l' ∧ l.length = len * size := fun l hlr =>
     zSw_ (a := some ⟨b, o, sp⟩) (c := cap) hs (.slice hm hcap) (by simpa [rdS] using hlr)
    split at ha
    ·rename_i k
     split at ha
     ·rename_i cs e fz hb0
      split at ha
      ·rename_i hc
       obtain ⟨hc0, ho, hls, hfz, hk, he, hone⟩ := hc
       subst ho; subst hk; subst he
       cases ha
       have zn : μ h.next = none := zd _ (Nat.le_refl _) (by simp)
       obtain ⟨c', lo, hi, hO, hz, hcs, hrw⟩ := hs.obj hb0 hm
       obtain ⟨rfl, hfz', hmk⟩ := hrw rfl
       by_cases hroom : len + n ≤ m'
       ·-- in place
        obtain ⟨_, hcapz⟩ := hcap
        simp only [Nat.zero_add, Nat.add_zero] at hcapz hcs ⊢
        have hmul : (len + n) * k ≤ m' * k := Nat.mul_le_mul_right k hroom
        rw [Nat.add_mul] at hmul
        have hrun := (hS (some ⟨c, 0 + 0, none⟩) m' rfl).1 hroom
        obtain ⟨w', arr', q1, q2, q3, q4, q5, q6, q7, q8⟩ := zpe_ (P := P) c (len * k) e lo hi new' 0 c' w hO (by omega)
         (fun j x y => hfz' j (by omega) (by omega)) (hn.one hone)
        refine ⟨.slice (some ⟨c, 0 + 0, none⟩) (len + n) m', μ.put h.next (c, 0, zz), w', ?_, ?_, Step.over hs zn hb0 rfl hm q2 ?_ q6 q7 q8 q4 q5⟩
        ·rw [hrun]
         simp only [Addr.add_lit, Nat.zero_add] at q1 ⊢
         rw [q1]; rfl
        ·exact .slice (o := 0) (d := 0) (c := c) (z := zz) (by simp [BMap.put]) ⟨hroom, by omega⟩
        ·have harr : arr'.size = zz := by
          have := congrArg List.length q3
          rw [zAb_ (by simp; omega)] at this
          simp at this; omega
         refine ⟨rfl, harr, fun i v hv => ?_, fun _ => ⟨rfl, fun i x y => hfz' i x (by omega), fun m => ⟨(hmk m).1, fun x hx => let ⟨v, q⟩ := zzm_ (hmk m).2 hn q3 x hx; ⟨v, q.mono (BMap.put_le zn)⟩⟩⟩, fun q => by cases q⟩
         rw [Nat.zero_add]
         have hlt : (cs.take (len * k)).length = len * k := by simp; omega
         have ea : arr'[i]? = (zx_ c'.toList (len * k + 0) new')[i]? := by rw [← q3]; simp
         rw [ea, zld_ (by simp; omega), Nat.add_zero]
         by_cases hi1 : i < len * k
         ·rw [if_pos hi1]
          rw [List.getElem?_append_left (by omega), List.getElem?_take, if_pos hi1] at hv
          obtain ⟨v', x1, x2⟩ := hcs i v hv
          exact ⟨v', by simpa using x1, x2.mono (BMap.put_le zn)⟩
         ·rw [if_neg hi1]
          rw [List.getElem?_append_right (by omega), hlt] at hv
          have hlt2 := (List.getElem?_eq_some_iff.1 hv).1
          rw [if_pos (by omega)]
          obtain ⟨v', x1, x2⟩ := hn.get hv
          exact ⟨v', x1, x2.mono (BMap.put_le zn)⟩
       ·-- elsewhere
        have hrd : h.rdL b 0 (len * k) = some (cs.take (len * k)) := by
         unfold AHeap.rdL
         split
         ·rename_i h0; simp [h0]
         ·rename_i m0 h0
          simp only [hb0]
          rw [if_pos (by omega), h0]; simp
        obtain ⟨old', r1, r2, r3⟩ := readold _ hrd
        have sk := Step.kill hs b
        obtain ⟨t', μ', w', g1, g2, g3⟩ := grow _ m' (cs.take (len * k)) old' (h.kill b) rfl hroom hb hb1 r1 r2 r3 sk.sim rfl zn fz
        exact ⟨t', μ', w', g1, g2, sk.trans g3⟩
      ·split at ha
       ·rename_i hc
        obtain ⟨hc0, hls, hfz, hk, he, hone⟩ := hc
        subst hk; subst he
        cases ha
        have zn : μ h.next = none := zd _ (Nat.le_refl _) (by simp)
        obtain ⟨c', lo, hi, hO, hz, hcs, hrw⟩ := hs.obj hb0 hm
        obtain ⟨rfl, hfz', hmk⟩ := hrw rfl
        have hlt : ((cs.drop o).take (len * k)).length = len * k := by simp; omega
        have hget : ∀ i, i < len * k → ((cs.drop o).take (len * k))[i]? = cs[o + i]? := fun i hi => by rw [List.getElem?_take, if_pos hi, List.getElem?_drop]
        by_cases hroom : len + n ≤ m'
        ·-- in place
         obtain ⟨_, hcapz⟩ := hcap
         simp only [Nat.zero_add] at hcapz hcs ⊢
         have hmul : (len + n) * k ≤ m' * k := Nat.mul_le_mul_right k hroom
         rw [Nat.add_mul] at hmul
         have hrun := (hS (some ⟨c, 0 + o, none⟩) m' rfl).1 hroom
         obtain ⟨w', arr', q1, q2, q3, q4, q5, q6, q7, q8⟩ := zpe_ (P := P) c (o + len * k) e lo hi new' 0 c' w hO (by omega)
          (fun j x y => hfz' j (by omega) (by omega)) (hn.one hone)
         refine ⟨.slice (some ⟨c, 0 + o, none⟩) (len + n) m', μ.put h.next (c, o, zz), w', ?_, ?_, Step.over (d' := o) hs zn hb0 rfl hm q2 ?_ q6 q7 q8 q4 q5⟩
         ·rw [hrun]
          simp only [Addr.add_lit, Nat.zero_add] at q1 ⊢
          rw [q1]; rfl
         ·have := VR.slice (μ := μ.put h.next (c, o, zz)) (b := h.next) (o := 0) (c := c) (d := o) (z := zz) (n := len + n) (m := len + n) (m' := m') (sp := some (k + 1)) (by simp [BMap.put]) ⟨hroom, by omega⟩
          simpa using this
         ·have harr : arr'.size = zz := by
           have := congrArg List.length q3
           rw [zAb_ (by simp; omega)] at this
           simp at this; omega
          refine ⟨rfl, harr, fun i v hv => ?_, fun x => (by cases x), fun _ q => absurd rfl q⟩
          have ea : arr'[o + i]? = (zx_ c'.toList (o + len * k + 0) new')[o + i]? := by rw [← q3]; simp
          rw [ea, zld_ (by simp; omega), Nat.add_zero]
          by_cases hi1 : i < len * k
          ·rw [if_pos (by omega)]
           rw [List.getElem?_append_left (by omega), hget i hi1] at hv
           obtain ⟨v', x1, x2⟩ := hcs (o + i) v hv
           exact ⟨v', by simpa using x1, x2.mono (BMap.put_le zn)⟩
          ·rw [if_neg (by omega)]
           rw [List.getElem?_append_right (by omega), hlt] at hv
           have hlt2 := (List.getElem?_eq_some_iff.1 hv).1
           rw [if_pos (by omega)]
           obtain ⟨v', x1, x2⟩ := hn.get hv
           exact ⟨v', by rw [show o + i - (o + len * k) = i - len * k by omega]; exact x1, x2.mono (BMap.put_le zn)⟩
        ·-- elsewhere
         have hrd : h.rdL b o (len * k) = some ((cs.drop o).take (len * k)) := by
          unfold AHeap.rdL
          split
          ·rename_i h0; simp [h0]
          ·rename_i m0 h0
           simp only [hb0]
           rw [if_pos (by omega), h0]
         obtain ⟨old', r1, r2, r3⟩ := readold _ hrd
         have sk := Step.kill hs b
         obtain ⟨t', μ', w', g1, g2, g3⟩ := growR _ m' ((cs.drop o).take (len * k)) old' (h.kill b) rfl hroom hb hb1 r1 r2 r3 sk.sim rfl zn
         exact ⟨t', μ', w', g1, g2, sk.trans g3⟩
       ·cases ha
     ·cases ha
    ·rename_i hns
     simp only [Option.bind_eq_some_iff] at ha
     obtain ⟨old, hold, e⟩ := ha
     cases e
     have zn : μ h.next = none := zd _ (Nat.le_refl _) (by simp)
     obtain ⟨old', r1, r2, r3⟩ := readold _ hold
     have hm' : m' = cap := by
      unfold zvk_ at hcap
      split at hcap
      ·rename_i s0; exact absurd rfl (hns s0)
      ·exact hcap
     subst hm'
     obtain ⟨t', μ', w', g1, g2, g3⟩ := grow _ m' old old' h rfl hle hb hb1 r1 r2 r3 hs rfl zn 0
     exact ⟨t', μ', w', g1, g2, g3⟩
   | empty hcap =>
    rename_i ad a' m'
    simp only at ha
    split at ha
    ·split at ha
     ·split at ha
      ·rename_i hc; exact absurd rfl hc.1
      ·split at ha
       ·rename_i hc; exact absurd rfl hc.1
       ·cases ha
     ·cases ha
    ·rename_i hns
     simp only [Nat.zero_mul, AHeap.rdL, Option.bind_some] at ha
     cases ha
     have zn : μ h.next = none := zd _ (Nat.le_refl _) (by simp)
     have hm' : m' = 0 := hcap (by
      cases hs : ad.spot with
      | none => exact .inl rfl
      | some q =>
       cases q with
       | zero => exact .inr rfl
       | succ q => exact absurd hs (hns q))
     subst hm'
     obtain ⟨t', μ', w', g1, g2, g3⟩ := grow (some a') 0 [] [] h rfl hle hb hb1 (fun w₂ _ => by simp [Builtin.firstCells, loadCells, loadCellsFrom]) (.nil μ) (by simp) hs rfl zn 0
     exact ⟨t', μ', w', g1, g2, g3⟩
  ·cases ha
theorem zxj_ {size bytes n : Nat} {elem : TypeId} {h h' : AHeap} {s t : Slc} {new : List Value} (ha : zl_ size bytes elem h s new n = some (t, h')) : h.next ≤ h'.next := by
 unfold zl_ at ha
 split at ha
 ·split at ha
  ·cases ha; exact Nat.le_refl _
  ·split at ha
   ·cases ha; exact Nat.le_refl _
   ·simp only [Option.bind_eq_some_iff] at ha
    obtain ⟨h1, e1, e2⟩ := ha
    cases e2
    rw [zWl_ e1]; exact Nat.le_refl _
 ·split at ha
  ·split at ha
   ·cases ha; exact Nat.le_succ _
   ·split at ha
    ·split at ha
     ·split at ha
      ·cases ha; exact Nat.le_succ _
      ·split at ha
       ·cases ha; exact Nat.le_succ _
       ·cases ha
     ·cases ha
    ·simp only [Option.bind_eq_some_iff] at ha
     obtain ⟨old, _, e2⟩ := ha
     cases e2; exact Nat.le_succ _
  ·cases ha
theorem zLq_ {size n : Nat} {h h' : AHeap} {d : Slc} {new : List Value} (ha : zNb_ size h d n new = some h') : h.next ≤ h'.next := by
 unfold zNb_ at ha
 split at ha
 ·cases ha; exact Nat.le_refl _
 ·rw [zWl_ ha]; exact Nat.le_refl _
theorem zbz_ {μ : BMap} {h : AHeap} {w : World} (s : Sim G μ h w) {size : Nat} {a : Option Addr} {len c n : Nat} {v' : Value} {l : List Value} (hv : VR μ (.slice a len c) v') (hr : rdS size ⟨a, len, c⟩ h = some l) (hn : n ≤ len) :
  ∃ l', (Builtin.firstCells size n v').run P w = .ok ⟨l'⟩ w ∧ VRs μ (l.take (n * size)) l' := by
 unfold rdS at hr
 cases hv with
 | nilSlice => cases hr; exact ⟨[], by simp [Builtin.firstCells], by simpa using VRs.nil μ⟩
 | slice hm hc =>
  rename_i b o cb d z m' sp
  simp only at hr
  have hle : n * size ≤ len * size := Nat.mul_le_mul_right size hn
  have hr2 : h.rdL b o (n * size) = some (l.take (n * size)) := by
   by_cases h0 : n * size = 0
   ·rw [h0]; simp [AHeap.rdL]
   ·obtain ⟨cs, e, r, fz, hb, hlen, rfl⟩ := zhq_ hr (by omega)
    unfold AHeap.rdL
    split
    ·rename_i h1; exact absurd h1 h0
    ·rename_i m0 h1
     simp only [hb]
     rw [if_pos (by omega), List.take_take, Nat.min_eq_left hle, h1]
  obtain ⟨l', q1, q2, _⟩ := s.loads (P := P) hm hr2
  exact ⟨l', by simp [Builtin.firstCells, q1], q2⟩
 | empty _ =>
  have hn0 : n = 0 := by omega
  subst hn0
  simp [AHeap.rdL] at hr; subst hr
  exact ⟨[], by simp [Builtin.firstCells, loadCells, loadCellsFrom], by simpa using VRs.nil μ⟩
theorem zju_ {μ : BMap} {h h' : AHeap} {w : World} (s : Sim G μ h w) {a : Option Addr} {n0 c0 len2 sz e t u ty : Nat} {x' y' : Value} {new l' : List Value} (hvx : VR μ (.slice a n0 c0) x')
  (hu : P.underlying t = some (.slice e)) (hs : szOf P e = some sz) (hv : VRs μ (new.take (min len2 n0 * sz)) l') (hf : (Builtin.firstCells sz (min len2 n0) y').run P w = .ok ⟨l'⟩ w)
  (hl : (Builtin.lenOf y').run P w = .ok len2 w) (ha : zNb_ sz h ⟨a, n0, c0⟩ (min len2 n0) new = some h') :
  ∃ w', (Builtin.copy_ #[t, u] ty #[x', y']).run P w = .ok (.int .i64 (min len2 n0 : Nat)) w' ∧ Step G μ h w μ h' w' := by
 unfold zNb_ at ha
 have hmin : Nat.min len2 n0 = min len2 n0 := rfl
 cases hvx with
 | nilSlice =>
  simp only at ha; cases ha
  exact ⟨w, by simp [Builtin.copy_, run_underlying hu, run_sizeOf' hs, hl] at hf ⊢; simp [hf, goInt], .refl s⟩
 | slice hm hc =>
  simp only at ha
  obtain ⟨w', q1, q2⟩ := s.storeL (P := P) (fun _ => hm) ha hv
  refine ⟨w', ?_, q2⟩
  simp [Builtin.copy_, run_underlying hu, run_sizeOf' hs, hl, hmin, hf, q1, goInt]
 | empty _ =>
  simp only [Nat.min_zero, Nat.zero_mul, List.take_zero, AHeap.wrL] at ha hv hf
  cases ha
  have := hv.nil_inv; subst this
  exact ⟨w, by simp [Builtin.copy_, run_underlying hu, run_sizeOf' hs, hl, hf, storeCells, goInt], .refl s⟩
theorem zzz_ {h h' : AHeap} {r : Nat} {key v : Value} (e : updE h r key v = some h') : h.next ≤ h'.next := by
 unfold updE at e
 split at e
 ·split at e <;> cases e <;> exact Nat.le_refl _
 ·cases e
theorem zXs_ : ∀ {l l' : List Value}, zSb_ l l' = some true → (l.zip l').all (fun (x, y) => Instr.sameBits 9999 x y) = true
 | [], [], _ => rfl
 | [], _ :: _, h => by simp [zSb_] at h
 | v :: l, l', h => by
  unfold zSb_ at h
  split at h
  ·rename_i e; cases e
  ·rename_i k a l0 k' c l1 e
   cases e
   cases hk : decide (k = k') <;> rw [hk] at h
   ·cases h
   ·have hk := of_decide_eq_true hk
    subst hk
    simp only [cond_true] at h
    split at h
    ·rename_i r hr
     simp only [Option.some.injEq, Bool.and_eq_true, beq_iff_eq] at h
     obtain ⟨rfl, rfl⟩ := h
     simp only [List.zip_cons_cons, List.all_cons, zXs_ hr, Bool.and_true]
     simp [Instr.sameBits]
    ·cases h
  ·cases h
theorem zJp_ : ∀ {l l' : List Value} {b : Bool}, zSb_ l l' = some b → zSb_ l' l = some b
 | [], [], _, h => h
 | [], _ :: _, _, h => by simp [zSb_] at h
 | v :: l, l', b, h => by
  unfold zSb_ at h
  split at h
  ·rename_i e; cases e
  ·rename_i k a l0 k' c l1 e
   cases e
   cases hk : decide (k = k') <;> rw [hk] at h
   ·cases h
   ·have hk := of_decide_eq_true hk
    subst hk
    simp only [cond_true] at h
    split at h
    ·rename_i r hr
     cases h
     simp only [zSb_, decide_true, cond_true, zJp_ hr]
     rw [show (c == a) = (a == c) from by rw [Bool.eq_iff_iff, beq_iff_eq, beq_iff_eq]; exact eq_comm]
    ·cases h
  ·cases h
theorem zDA_ {str : KK} {key u : Value} (hk : zbc_ str key = true) (h : zfe_ key u = some true) (w : World) : (Instr.keyThatStays u key).run P w = .ok key w := by
 unfold zfe_ at h
 split at h
 ·rename_i k a k' b
  by_cases e : k = k'
  ·subst e
   simp at h; subst h
   simp [Instr.keyThatStays, Instr.sameBits]
  ·simp [e] at h
 ·rename_i a b
  simp only [Option.some.injEq] at h
  have hab : a = b := by
   cases a with | mk a => cases b with | mk b =>
   have h' : (a == b) = true := h
   simpa using h'
  subst hab
  have hs : Instr.sameBits 10000 (.string a) (.string a) = true := h
  simp only [Instr.keyThatStays, hs, if_true, Sem.run_pure]
 ·rename_i a b
  have h' := zJp_ h
  have hl := (zmo_ h').2.2
  have hs : Instr.sameBits 10000 (.agg b) (.agg a) = true := by
   have e : Instr.sameBits (9999 + 1) (.agg b) (.agg a) = (b.size == a.size && (b.toList.zip a.toList).all fun (x, y) => Instr.sameBits 9999 x y) := rfl
   rw [show (10000 : Nat) = 9999 + 1 from rfl, e, Bool.and_eq_true, beq_iff_eq, ← Array.length_toList, ← Array.length_toList]
   exact ⟨hl, zXs_ h'⟩
  simp only [Instr.keyThatStays, hs, if_true, Sem.run_pure]
 ·cases h
theorem zCu_ {key : Value} : ∀ {es : List (Value × Value × Nat)} {i : Nat} {p : Nat × Value}, zue_ key es i = some (some p) → i ≤ p.1 ∧ ∃ e, es[p.1 - i]? = some e ∧ zfe_ key e.1 = some true
 | [], i, p, h => by simp [zue_] at h
 | e :: es, i, p, h => by
  simp only [zue_] at h
  split at h
  ·rename_i hq
   cases h
   exact ⟨Nat.le_refl _, e, by simp, hq⟩
  ·obtain ⟨q1, x, q2, q3⟩ := zCu_ h
   refine ⟨by omega, x, ?_, q3⟩
   rw [show p.1 - i = (p.1 - (i + 1)) + 1 by omega, List.getElem?_cons_succ]
   exact q2
  ·cases h
theorem zUC_ {μ : BMap} {H H' : AHeap} {w : World} (s : Sim G μ H w) {t kt et : TypeId} (ht : P.underlying t = some (.map kt et)) {str : KK} (hk : keyT P kt = some str) {r0 : Nat} {u : Value} (hu : VR μ (.map (some r0)) u) {key : Value} (hkey : zbc_ str key = true)
  {v v' : Value} (hv : VR μ v v') (h : updE H r0 key v = some H') : ∃ w', (Instr.mapUpdate t u key v').run P w = .ok () w' ∧ Step G μ H w μ H' w' := by
 obtain ⟨d, hd⟩ := zgk_ hk
 have kv : ∀ μ, VR μ key key := fun μ => zrx_ hkey μ
 unfold updE at h
 split at h
 ·rename_i es cl hb
  obtain ⟨c, dd, zz, es', hm, hO, hl, hM⟩ := s.mapObj hb
  cases hu with
  | map hm' =>
   rw [hm] at hm'; cases hm'
   have hc : c < w.heap.size := (Array.getElem?_eq_some_iff.1 hO).1
   split at h
   ·rename_i p hp
    cases h
    obtain ⟨r', h1, _, ⟨e0, he0, _⟩, v0, rfl, _⟩ := zsj_ hd hkey hl hM hp
    obtain ⟨_, e1, he1, hq⟩ := zCu_ hp
    rw [Nat.sub_zero] at he0 he1
    have hlt : p.1 < es'.toList.length := by rw [← hl]; exact (List.getElem?_eq_some_iff.1 he1).1
    obtain ⟨e', he'⟩ : ∃ e', es'.toList[p.1]? = some e' := ⟨es'.toList[p.1], by simp⟩
    have hmr := hM p.1 e1 e' he1 he'
    have hkk : e'.key = e1.1 := zYh_ hq hmr.1
    have hge : (es'[p.1]?).map (·.key) = some e1.1 := by
     have : es'[p.1]? = some e' := by simpa using he'
     rw [this]; simp [hkk]
    refine ⟨_, by simp [Instr.mapUpdate, run_underlying ht, zWd_ hO, zRe_ hd hkey, h1, hge, zDA_ hkey hq, zvh_ _ hO]; rfl, ?_⟩
    refine Step.turn s hb rfl hm (O' := .map (es'.modify p.1 fun e => { e with key := key, val := v' }) cl) (by simp [hc]) ⟨rfl, by simpa using hl, fun i x x' a b => ?_⟩ rfl rfl rfl (by simp) (fun i hi => by simp [Array.getElem?_setIfInBounds_ne (fun x => hi x.symm)])
    rw [List.getElem?_modify] at a
    rw [Array.getElem?_modify] at b
    by_cases hi : p.1 = i
    ·subst hi
     have g1 : es'[p.1]? = some e' := by simpa using he'
     simp [he1] at a
     simp [g1] at b
     subst a; subst b
     exact ⟨kv μ, hv, hmr.2.2⟩
    ·simp [hi] at a b
     exact hM i x x' a (by simpa using b)
   ·rename_i hp
    cases h
    obtain ⟨r', h1, h2⟩ := zsj_ hd hkey hl hM hp
    have h2 : r' = none := h2
    subst h2
    refine ⟨_, by simp [Instr.mapUpdate, run_underlying ht, zWd_ hO, zRe_ hd hkey, h1, zvh_ _ hO]; rfl, ?_⟩
    refine Step.turn s hb rfl hm (O' := .map (es'.push ⟨key, v', cl⟩) (cl + 1)) (by simp [hc]) ⟨rfl, by simpa using hl, fun i x x' a b => ?_⟩ rfl rfl rfl (by simp) (fun i hi => by simp [Array.getElem?_setIfInBounds_ne (fun x => hi x.symm)])
    have hl' : es.length = es'.size := by simpa using hl
    rw [List.getElem?_append] at a
    rw [Array.getElem?_push] at b
    by_cases hi : i < es.length
    ·rw [if_pos hi] at a
     rw [if_neg (by omega)] at b
     exact hM i x x' a (by simpa using b)
    ·rw [if_neg hi] at a
     have : i - es.length = 0 := by
      cases hq : i - es.length with
      | zero => rfl
      | succ n => rw [hq] at a; simp at a
     have hie : i = es'.size := by omega
     rw [this] at a
     rw [if_pos hie] at b
     simp at a b
     subst a; subst b
     exact ⟨kv μ, hv, rfl⟩
   ·cases h
 ·cases h
theorem zBz_ {h h' : AHeap} {r : Nat} {key : Value} (e : delE h r key = some h') : h.next ≤ h'.next := by
 unfold delE at e
 split at e
 ·split at e <;> cases e <;> exact Nat.le_refl _
 ·cases e
theorem zcz_ {h h' : AHeap} {r : Nat} (e : clrE h r = some h') : h.next ≤ h'.next := by
 unfold clrE at e
 split at e <;> cases e; exact Nat.le_refl _
theorem ziz_ {h h' : AHeap} {z : List Value} {s : Slc} (e : clrL z s h = some h') : h.next ≤ h'.next := by
 unfold clrL at e
 split at e
 ·cases e; exact Nat.le_refl _
 ·rw [zWl_ e]; exact Nat.le_refl _
theorem zPB_ {μ : BMap} {w : World} {t kt et ty : TypeId} {ts : Array TypeId} (hts : ts[0]? = some t) (ht : P.underlying t = some (.map kt et)) {str : KK} (hk : keyT P kt = some str) {u : Value} (hu : VR μ (.map none) u) {key : Value} (hkey : zbc_ str key = true) :
  (Builtin.delete_ ts ty #[u, key]).run P w = .ok (.tuple #[]) w := by
 obtain ⟨d, hd⟩ := zgk_ hk
 cases hu with
 | nilMap => simp [Builtin.delete_, hts, run_underlying ht, zRe_ hd hkey]
theorem zgD_ {μ : BMap} {H H' : AHeap} {w : World} (s : Sim G μ H w) {t kt et ty : TypeId} {ts : Array TypeId} (hts : ts[0]? = some t) (ht : P.underlying t = some (.map kt et)) {str : KK} (hk : keyT P kt = some str) {r0 : Nat} {u : Value} (hu : VR μ (.map (some r0)) u) {key : Value} (hkey : zbc_ str key = true)
  (h : delE H r0 key = some H') : ∃ w', (Builtin.delete_ ts ty #[u, key]).run P w = .ok (.tuple #[]) w' ∧ Step G μ H w μ H' w' := by
 obtain ⟨d, hd⟩ := zgk_ hk
 unfold delE at h
 split at h
 ·rename_i es cl hb
  obtain ⟨c, dd, zz, es', hm, hO, hl, hM⟩ := s.mapObj hb
  cases hu with
  | map hm' =>
   rw [hm] at hm'; cases hm'
   have hc : c < w.heap.size := (Array.getElem?_eq_some_iff.1 hO).1
   split at h
   ·rename_i p hp
    cases h
    obtain ⟨r', h1, _, _, v0, rfl, _⟩ := zsj_ hd hkey hl hM hp
    refine ⟨_, by simp [Builtin.delete_, hts, run_underlying ht, zWd_ hO, zRe_ hd hkey, h1, zvh_ _ hO]; rfl, ?_⟩
    have hsz : (es.eraseIdx p.1).length = (es'.eraseIdxIfInBounds p.1).size := by
     rw [← Array.length_toList, Array.toList_eraseIdxIfInBounds, List.length_eraseIdx, List.length_eraseIdx, hl]
    refine Step.turn s hb rfl hm (O' := .map (es'.eraseIdxIfInBounds p.1) cl) (by simp [hc]) ⟨rfl, hsz, fun i x x' a b => ?_⟩ rfl rfl rfl (by simp) (fun i hi => by simp [Array.getElem?_setIfInBounds_ne (fun x => hi x.symm)])
    rw [← Array.getElem?_toList, Array.toList_eraseIdxIfInBounds, List.getElem?_eraseIdx] at b
    rw [List.getElem?_eraseIdx] at a
    by_cases hi : i < p.1
    ·rw [if_pos hi] at a b; exact hM i x x' a b
    ·rw [if_neg hi] at a b; exact hM _ x x' a b
   ·rename_i hp
    cases h
    obtain ⟨r', h1, h2⟩ := zsj_ hd hkey hl hM hp
    have h2 : r' = none := h2
    subst h2
    refine ⟨_, by simp [Builtin.delete_, hts, run_underlying ht, zWd_ hO, zRe_ hd hkey, h1, zvh_ _ hO]; rfl, ?_⟩
    exact Step.turn s hb rfl hm (O' := .map es' cl) (by simp [hc]) ⟨rfl, by simpa using hl, fun i x x' a b => hM i x x' a (by simpa using b)⟩ rfl rfl rfl (by simp) (fun i hi => by simp [Array.getElem?_setIfInBounds_ne (fun x => hi x.symm)])
   ·cases h
 ·cases h
theorem zaD_ {μ : BMap} {H H' : AHeap} {w : World} (s : Sim G μ H w) {t kt et ty : TypeId} {ts : Array TypeId} (hts : ts[0]? = some t) (ht : P.underlying t = some (.map kt et)) {r0 : Nat} {u : Value} (hu : VR μ (.map (some r0)) u)
  (h : clrE H r0 = some H') : ∃ w', (Builtin.clear_ ts ty #[u]).run P w = .ok (.tuple #[]) w' ∧ Step G μ H w μ H' w' := by
 unfold clrE at h
 split at h
 ·rename_i es cl hb
  obtain ⟨c, dd, zz, es', hm, hO, hl, hM⟩ := s.mapObj hb
  cases h
  cases hu with
  | map hm' =>
   rw [hm] at hm'; cases hm'
   have hc : c < w.heap.size := (Array.getElem?_eq_some_iff.1 hO).1
   refine ⟨_, by simp [Builtin.clear_, hts, run_underlying ht, zWd_ hO, zvh_ _ hO]; rfl, ?_⟩
   exact Step.turn s hb rfl hm (O' := .map #[] cl) (by simp [hc]) ⟨rfl, rfl, fun i x x' a b => by simp at a⟩ rfl rfl rfl (by simp) (fun i hi => by simp [Array.getElem?_setIfInBounds_ne (fun x => hi x.symm)])
 ·cases h
theorem zBB_ {μ : BMap} {w : World} {t kt et ty : TypeId} {ts : Array TypeId} (hts : ts[0]? = some t) (ht : P.underlying t = some (.map kt et)) {u : Value} (hu : VR μ (.map none) u) :
  (Builtin.clear_ ts ty #[u]).run P w = .ok (.tuple #[]) w := by
 cases hu with
 | nilMap => simp [Builtin.clear_, hts, run_underlying ht]
theorem zuB_ {μ : BMap} {H H' : AHeap} {w : World} (s : Sim G μ H w) {t e ty : TypeId} {ts : Array TypeId} (hts : ts[0]? = some t) (ht : P.underlying t = some (.slice e)) {z : List Value} (hz : zRc_ P e = some z) (hzn : z ≠ []) {a : Option Addr} {n c : Nat} {u : Value} (hu : VR μ (.slice a n c) u)
  (h : clrL z ⟨a, n, c⟩ H = some H') : ∃ w', (Builtin.clear_ ts ty #[u]).run P w = .ok (.tuple #[]) w' ∧ Step G μ H w μ H' w' := by
 obtain ⟨v, hv1, hv2, hv3⟩ := zXf_ hz
 unfold clrL at h
 cases hu with
 | nilSlice =>
  simp only at h; cases h
  exact ⟨w, by simp [Builtin.clear_, hts, run_underlying ht], .refl s⟩
 | slice hm hc =>
  simp only at h
  have hv : VRs μ (zu_ n z) (zu_ n z) := .of_plain (zjf_ hv3 _)
  obtain ⟨w', q1, q2⟩ := s.storeL (P := P) (fun _ => hm) h hv
  refine ⟨w', ?_, q2⟩
  cases n with
  | zero =>
   have : zu_ 0 z = [] := by rw [zmc_]; simp
   rw [this] at q1
   simp [storeCells] at q1
   subst q1
   simp [Builtin.clear_, hts, run_underlying ht]
  | succ n => simp [Builtin.clear_, hts, run_underlying ht, hv1, hv2, zMj_ hzn, q1]
 | empty _ =>
  simp only at h
  have : zu_ 0 z = [] := by rw [zmc_]; simp
  rw [this] at h
  simp only [AHeap.wrL] at h
  cases h
  exact ⟨w, by simp [Builtin.clear_, hts, run_underlying ht], .refl s⟩
theorem zRm_ : ∀ {cs : List Value} {l : List UInt8}, zYg_ cs = some l → cs = l.map (fun b => Value.int .u8 (b.toNat : Int))
 | [], l, h => by simp [zYg_] at h; subst h; rfl
 | v :: cs, l, h => by
  unfold zYg_ at h
  split at h
  ·rename_i e; cases e
  ·rename_i n t e
   cases e
   split at h
   ·rename_i hn
    simp only [Option.map_eq_some_iff] at h
    obtain ⟨t', h1, rfl⟩ := h
    rw [List.map_cons, ← zRm_ h1]
    congr 2
    simp; omega
   ·cases h
  ·cases h
theorem zwy_ {C : za_} {o : Oper} {ro : EOp} {h : AHeap} {κ : Value → AHeap → Option R} (hC : zf_ P G C) (hr : zTx_ P G o = some ro) (hd : deff C ro f h κ = some r) :
  ∃ v h', κ v h' = some r ∧ OpS P G o f h v h' := by
 obtain ⟨dst, op, type, pos, after, guard⟩ := o
 cases op <;> simp only [zTx_] at hr <;> try (cases hr; done)
 case store t x y =>
  simp only [Option.bind_eq_some_iff] at hr
  obtain ⟨b, hb, n, hn, hr⟩ := hr
  split at hr
  ·rename_i hbt; subst hbt
   obtain ⟨hg, rfl⟩ := zr_ hr
   simp only [Bool.and_eq_true] at hg
   simp only [deff] at hd
   split at hd
   ·rename_i p hp
    simp only [Option.bind_eq_some_iff] at hd
    obtain ⟨ad, rfl, hd⟩ := hd
    split at hd
    ·rename_i cs hcs
     simp only [Option.bind_eq_some_iff] at hd
     obtain ⟨h', hw, hk⟩ := hd
     unfold stL at hw
     cases hbq : Nat.beq cs.toList.length n
     ·rw [hbq] at hw; cases hw
     ·rw [hbq] at hw
      have hlen := Nat.eq_of_beq_eq_true hbq
      refine ⟨_, _, hk, OpS.of_skip (by rw [zWl_ hw]; exact Nat.le_refl _) fun μ a w fr s zd => ?_⟩
      obtain ⟨b, o, c, d, z, rfl, he, hm⟩ := zDe_ (zy_ s fr hp hg.1)
      obtain ⟨x', he', hvs⟩ := (zy_ s fr hcs hg.2).agg_inv
      obtain ⟨w', h1, h2⟩ := s.storeL (P := P) (fun _ => hm) hw hvs
      refine ⟨μ, w', ?_, h2⟩
      have e1 : (Value.agg x').cells.size = n := by have := hvs.1; simp [Value.cells] at this ⊢; simp at hlen; omega
      have e2 : (Value.agg x').cells.toList = x'.toList := rfl
      simp only [execOp, he, he', Instr.storeAt, Sem.run_bind, Instr.sureAddr, Sem.run_pure, Result.andThen_ok, storeVar, run_sizeOf' hn, e1, ne_eq, not_true_eq_false, if_false, e2, h1]
    ·cases hd
   ·cases hd
  ·split at hr
   ·rename_i hbf hn1; subst hn1
    obtain ⟨hg, rfl⟩ := zr_ hr
    simp only [Bool.and_eq_true] at hg
    simp only [deff] at hd
    split at hd
    ·rename_i p hp
     simp only [Option.bind_eq_some_iff] at hd
     obtain ⟨ad, rfl, v, hv, h', hw, hk⟩ := hd
     refine ⟨_, _, hk, OpS.of_skip (by rw [zEB_ hw]; exact Nat.le_refl _) fun μ a w fr s zd => ?_⟩
     obtain ⟨b, o, c, d, z, rfl, he, hm⟩ := zDe_ (zy_ s fr hp hg.1)
     have hv' := zy_ s fr hv hg.2
     obtain ⟨w', h1, h2⟩ := s.store1 (P := P) hm hw hv'
     refine ⟨μ, w', ?_, h2⟩
     have ho : one v = true := by
      unfold st1 AHeap.wr1 at hw
      split at hw
      ·split at hw
       ·rename_i hc; exact hc.2.2
       ·cases hw
      ·cases hw
     have zY_ : (a.eval y).cells = #[a.eval y] := by
      have := hv'.one ho
      generalize a.eval y = u at this
      cases u <;> first | rfl | cases this
     simp [execOp, he, Instr.storeAt, Instr.sureAddr, storeVar, run_sizeOf' hn, zY_, storeCells, Addr.add_lit, h1]
    ·cases hd
   ·cases hr
 case call c =>
  obtain ⟨callee, args, argTypes⟩ := c
  cases callee <;> simp only at hr <;> try (cases hr; done)
  case value g =>
   obtain ⟨hg, rfl⟩ := zr_ hr
   simp only [Bool.and_eq_true] at hg
   obtain ⟨hg, hsz⟩ := hg
   have hsz := Nat.le_of_ble_eq_true hsz
   simp only [deff, Option.bind_eq_some_iff] at hd
   obtain ⟨gv, hgv, vs, hvs, hd⟩ := hd
   unfold zVc_ at hd
   split at hd
   ·rename_i n first capt
    obtain ⟨v, h', hk, hn, hF⟩ := hC R n _ h κ r hd
    refine ⟨v, h', hk, hn, fun rd nd μ a w fr s zd next Q hnext => ?_⟩
    have hgv' := zy_ s fr hgv hg.1
    have hargs := znl_ s fr hvs hg.2
    generalize he : a.eval g = u at hgv'
    cases hgv' with
    | func e0 e1 e2 e3 e4 =>
     obtain ⟨e0, elt⟩ := e0
     subst e0
     rename_i x' y'
     have hfirst : VRs μ first.toList x'.toList := ⟨by simpa using e1, fun i v v' a b => e3 i v v' (by simpa using a) (by simpa using b)⟩
     have hcapt : VRs μ capt.toList y'.toList := ⟨by simpa using e2, fun i v v' a b => e4 i v v' (by simpa using a) (by simpa using b)⟩
     have := hF μ w (x'.toList ++ (args.toList.map a.eval ++ y'.toList)) s zd (hfirst.append (hargs.append hcapt)) rd ⟨dst, .call ⟨.value g, args, argTypes⟩, type, pos, after, guard⟩ a next Q
      (fun v' w' ⟨μ', h1, h2⟩ => hnext μ' v' w' h1 h2)
     have hrun : (execOp a.eval ⟨dst, .call ⟨.value g, args, argTypes⟩, type, pos, after, guard⟩).run P w = (callFunc n ⟨x'.toList ++ (args.toList.map a.eval ++ y'.toList)⟩).run P w := by
      simp only [execOp, resolve, he, Deferred.ofValue, Sem.run_bind, Sem.run_pure, Result.andThen_ok, invoke]
      congr 2
      apply Array.ext'
      simp
     rw [zYA_ elt] at this
     refine ⟨fun _ _ => trivial, ?_⟩
     rw [Oper.semAt_plain (Fd rd) a.eval _ nd, hrun]
     exact this
   ·rename_i b first capt
    obtain ⟨v, h', hk, hn, hF⟩ := hC R (yk b) _ h κ r hd
    refine ⟨v, h', hk, hn, fun rd nd μ a w fr s zd next Q hnext => ?_⟩
    have hgv' := zy_ s fr hgv hg.1
    have hargs := znl_ s fr hvs hg.2
    generalize he : a.eval g = u at hgv'
    cases hgv' with
    | func e0 e1 e2 e3 e4 =>
     obtain ⟨c, d, z, hm, e0⟩ := e0
     subst e0
     rename_i x' y'
     have hfirst : VRs μ first.toList x'.toList := ⟨by simpa using e1, fun i v v' a b => e3 i v v' (by simpa using a) (by simpa using b)⟩
     have := hF μ w (x'.toList ++ args.toList.map a.eval) s zd (hfirst.append hargs) rd ⟨dst, .call ⟨.value g, args, argTypes⟩, type, pos, after, guard⟩ a next Q
      (fun v' w' ⟨μ', h1, h2⟩ => hnext μ' v' w' h1 h2)
     have hrun : (execOp a.eval ⟨dst, .call ⟨.value g, args, argTypes⟩, type, pos, after, guard⟩).run P w = (Instr.yield c ⟨x'.toList ++ args.toList.map a.eval⟩).run P w := by
      simp only [execOp, resolve, he, Deferred.ofValue, Sem.run_bind, Sem.run_pure, Result.andThen_ok, invoke]
      congr 2
      apply Array.ext'
      simp
     rw [zQp_ hm hsz] at this
     refine ⟨fun _ _ => trivial, ?_⟩
     rw [Oper.semAt_plain (Fd rd) a.eval _ nd, hrun]
     exact this
   ·cases hd
  case builtin b =>
   have two : ∀ {x y : Operand} {a : Act}, args.toList = [x, y] → args.map a.eval = #[a.eval x, a.eval y] := fun {x y a} e => by
    have : args = #[x, y] := by apply Array.ext'; simpa using e
    subst this; simp
   have twoT : ∀ {t u : TypeId}, argTypes.toList = [t, u] → argTypes = #[t, u] := fun {t u} e => by apply Array.ext'; simpa using e
   cases b <;> (try simp only at hr) <;> try (cases hr; done)
   ·-- append
    split at hr
    ·rename_i x y t u hxy htu
     have eT := twoT htu
     have exec : ∀ {a : Act} {w w' : World} {v : Value}, (Builtin.append_ #[t, u] type #[a.eval x, a.eval y]).run P w = .ok v w' →
       (execOp a.eval ⟨dst, .call ⟨.builtin .append, args, argTypes⟩, type, pos, after, guard⟩).run P w = .ok (.value v) w' := fun {a w w' v} e => by
      simp [execOp, resolve, invoke, builtin, two hxy, eT, e]
     split at hr
     ·rename_i e e2 hu1 hu2
      simp only [Option.bind_eq_some_iff] at hr
      obtain ⟨i, hi, z, hz, hr⟩ := hr
      split at hr
      ·rename_i hc
       obtain ⟨hg, rfl⟩ := zr_ hr
       simp only [Bool.and_eq_true] at hg
       simp only [deff] at hd
       split at hd
       ·rename_i a0 n0 c0 hx
        split at hd
        ·rename_i a2 n2 c2 hy
         simp only [Option.bind_eq_some_iff] at hd
         obtain ⟨new, hnew, ⟨tt, h'⟩, ha, hk⟩ := hd
         refine ⟨_, h', hk, OpS.of_run (zxj_ ha) fun μ a w fr s zd => ?_⟩
         have hvx := zy_ s fr hx hg.1
         have hvy := zy_ s fr hy hg.2
         obtain ⟨new', q1, q2, q3⟩ := zSw_ (P := P) s hvy hnew
         have hzn : z ≠ [] := by intro e; subst e; simp at hc; omega
         obtain ⟨_, _, _, hzp⟩ := zXf_ hz
         have hlen : ∀ w₂ : World, (Builtin.lenOf (a.eval y)).run P w₂ = .ok n2 w₂ := fun w₂ => by
          generalize a.eval y = uu at hvy
          cases hvy <;> simp [Builtin.lenOf]
         obtain ⟨t', μ', w', r1, r2, r3⟩ := zSi_ (S := Builtin.append_ #[t, u] type #[a.eval x, a.eval y]) (z := z) s zd hvx q2 q3 hc.2 hzp hc.1 (fun base' cap' e => by
          rw [e]
          exact zTp_ hu1 hi rfl rfl hz hzn hu2 (fun k => by simp) (hlen w) q1) ha
         exact ⟨μ', t', w', exec r1, r2, r3⟩
        ·cases hd
       ·cases hd
      ·cases hr
     ·rename_i e hu1 hu2
      simp only [Option.bind_eq_some_iff] at hr
      obtain ⟨i, hi, z, hz, hr⟩ := hr
      split at hr
      ·rename_i hc
       obtain ⟨hg, rfl⟩ := zr_ hr
       simp only [Bool.and_eq_true] at hg
       simp only [deff] at hd
       split at hd
       ·rename_i a0 n0 c0 hx
        split at hd
        ·rename_i b hy
         simp only [Option.bind_eq_some_iff] at hd
         obtain ⟨⟨tt, h'⟩, ha, hk⟩ := hd
         refine ⟨_, h', hk, OpS.of_run (zxj_ ha) fun μ a w fr s zd => ?_⟩
         have hvx := zy_ s fr hx hg.1
         have hzn : z ≠ [] := by intro e; subst e; simp at hc
         obtain ⟨_, _, _, hzp⟩ := zXf_ hz
         have hbl : zqb_ (zM_ b) = true := by
          unfold zM_
          induction b.data.toList with
          | nil => rfl
          | cons y l ih => simp [zqb_, zIf_, ih]
         obtain ⟨t', μ', w', r1, r2, r3⟩ := zSi_ (S := Builtin.append_ #[t, u] type #[a.eval x, a.eval y]) (z := z) (new' := zM_ b) s zd hvx (.of_plain hbl) (by simp [zM_, hc.1]) (by omega) hzp (by omega) (fun base' cap' e => by
          rw [e, zqh_ s fr hy hg.2]
          refine zTp_ hu1 hi rfl rfl hz hzn hu2 (fun k => by simp) (by simp [Builtin.lenOf]) (fun w₂ _ => ?_)
          simp only [Builtin.firstCells, Sem.run_pure]
          congr 1
          apply Array.ext'
          simp [zM_]) ha
         exact ⟨μ', t', w', exec r1, r2, r3⟩
        ·cases hd
       ·cases hd
      ·cases hr
     ·rename_i e k hu1 hu2
      simp only [Option.bind_eq_some_iff] at hr
      obtain ⟨i, hi, z, hz, hr⟩ := hr
      split at hr
      ·rename_i hc
       obtain ⟨hg, rfl⟩ := zr_ hr
       simp only [Bool.and_eq_true] at hg
       simp only [deff] at hd
       split at hd
       ·rename_i a0 n0 c0 hx
        split at hd
        ·rename_i k' m hy
         split at hd
         ·rename_i hm
          simp only [Option.bind_eq_some_iff] at hd
          obtain ⟨⟨tt, h'⟩, ha, hk⟩ := hd
          refine ⟨_, h', hk, OpS.of_run (zxj_ ha) fun μ a w fr s zd => ?_⟩
          have hvx := zy_ s fr hx hg.1
          have hzn : z ≠ [] := by intro e; subst e; simp at hc; omega
          obtain ⟨_, _, _, hzp⟩ := zXf_ hz
          obtain ⟨t', μ', w', r1, r2, r3⟩ := zSi_ (S := Builtin.append_ #[t, u] type #[a.eval x, a.eval y]) (z := z) s zd hvx (.of_plain (zjf_ hzp _)) (by rw [zmc_]; simp [List.length_flatten, hc.1]) hc.2 hzp hc.1 (fun base' cap' e => by
           rw [e, zfd_ s fr hy hg.2]
           exact zdw_ hu1 hi rfl rfl hz hzn hc.2 hu2 hm.1 hm.2.1 hm.2.2 rfl) ha
          exact ⟨μ', t', w', exec r1, r2, r3⟩
         ·cases hd
        ·cases hd
       ·cases hd
      ·cases hr
     ·cases hr
    ·cases hr
   ·-- clear
    split at hr
    ·rename_i x t hx ht0
     have eA : ∀ {a : Act}, args.map a.eval = #[a.eval x] := fun {a} => by
      have : args = #[x] := by apply Array.ext'; simpa using hx
      subst this; simp
     have eT : argTypes = #[t] := by apply Array.ext'; simpa using ht0
     have exec : ∀ {a : Act} {w w' : World} {v : Value}, (Builtin.clear_ #[t] type #[a.eval x]).run P w = .ok v w' →
       (execOp a.eval ⟨dst, .call ⟨.builtin .clear, args, argTypes⟩, type, pos, after, guard⟩).run P w = .ok (.value v) w' := fun {a w w' v} e => by
      simp [execOp, resolve, invoke, builtin, eA, eT, e]
     have hts : (#[t] : Array TypeId)[0]? = some t := rfl
     split at hr
     ·rename_i kt et hu
      obtain ⟨hg, rfl⟩ := zr_ hr
      simp only [deff] at hd
      split at hd
      ·rename_i m0 hx0
       simp only [Option.bind_eq_some_iff] at hd
       obtain ⟨h', hc, hk⟩ := hd
       cases m0 with
       | none =>
        cases hc
        exact ⟨_, h, hk, OpS.of_run (Nat.le_refl _) fun μ a w fr s zd => ⟨μ, _, w, exec (zBB_ hts hu (zy_ s fr hx0 hg)), .undef _, .refl s⟩⟩
       | some r0 =>
        refine ⟨_, h', hk, OpS.of_run (zcz_ hc) fun μ a w fr s zd => ?_⟩
        obtain ⟨w', q1, q2⟩ := zaD_ (P := P) s (ty := type) hts hu (zy_ s fr hx0 hg) hc
        exact ⟨μ, _, w', exec q1, .undef _, q2⟩
      ·cases hd
     ·rename_i e hu
      simp only [Option.bind_eq_some_iff] at hr
      obtain ⟨i, hi, z, hz, hr⟩ := hr
      split at hr
      ·rename_i hc
       obtain ⟨hg, rfl⟩ := zr_ hr
       simp only [deff] at hd
       split at hd
       ·rename_i a0 n0 c0 hx0
        cases hb : Nat.beq z.length i.size
        ·rw [hb] at hd; cases hd
        ·rw [hb, cond_true] at hd
         simp only [Option.bind_eq_some_iff] at hd
         obtain ⟨h', hcl, hk⟩ := hd
         refine ⟨_, h', hk, OpS.of_run (ziz_ hcl) fun μ a w fr s zd => ?_⟩
         obtain ⟨w', q1, q2⟩ := zuB_ (P := P) s (ty := type) hts hu hz (by intro e; subst e; simp at hc; omega) (zy_ s fr hx0 hg) hcl
         exact ⟨μ, _, w', exec q1, .undef _, q2⟩
       ·cases hd
      ·cases hr
     ·cases hr
    ·cases hr
   ·-- copy
    split at hr
    ·rename_i x y t u hxy htu
     have eT := twoT htu
     have exec : ∀ {a : Act} {w w' : World} {v : Value}, (Builtin.copy_ #[t, u] type #[a.eval x, a.eval y]).run P w = .ok v w' →
       (execOp a.eval ⟨dst, .call ⟨.builtin .copy, args, argTypes⟩, type, pos, after, guard⟩).run P w = .ok (.value v) w' := fun {a w w' v} e => by
      simp [execOp, resolve, invoke, builtin, two hxy, eT, e]
     split at hr
     ·rename_i e e2 hu1 hu2
      simp only [Option.bind_eq_some_iff] at hr
      obtain ⟨sz, hs, hr⟩ := hr
      obtain ⟨hg, rfl⟩ := zr_ hr
      simp only [Bool.and_eq_true] at hg
      simp only [deff] at hd
      split at hd
      ·rename_i a0 n0 c0 hx
       simp only [cond_false] at hd
       split at hd
       ·rename_i a2 n2 c2 hy
        simp only [Option.bind_eq_some_iff] at hd
        obtain ⟨new, hnew, h', ha, hk⟩ := hd
        refine ⟨_, h', hk, OpS.of_run (zLq_ ha) fun μ a w fr s zd => ?_⟩
        have hvx := zy_ s fr hx hg.1
        have hvy := zy_ s fr hy hg.2
        obtain ⟨l', q1, q2⟩ := zbz_ (P := P) (n := min n2 n0) s hvy hnew (Nat.min_le_left _ _)
        obtain ⟨w', r1, r2⟩ := zju_ (P := P) (e := e) (sz := sz) (ty := type) (u := u) (y' := a.eval y) s hvx hu1 hs q2 q1 (by
         generalize a.eval y = uu at hvy
         cases hvy <;> simp [Builtin.lenOf]) ha
        exact ⟨μ, _, w', exec r1, .int _ _, r2⟩
       ·cases hd
      ·cases hd
     ·rename_i e hu1 hu2
      simp only [Option.bind_eq_some_iff] at hr
      obtain ⟨sz, hs, hr⟩ := hr
      split at hr
      ·rename_i hc
       obtain ⟨hg, rfl⟩ := zr_ hr
       simp only [Bool.and_eq_true] at hg
       simp only [deff] at hd
       split at hd
       ·rename_i a0 n0 c0 hx
        simp only [cond_true] at hd
        split at hd
        ·rename_i b hy
         simp only [Option.bind_eq_some_iff] at hd
         obtain ⟨h', ha, hk⟩ := hd
         refine ⟨_, h', hk, OpS.of_run (zLq_ ha) fun μ a w fr s zd => ?_⟩
         have hvx := zy_ s fr hx hg.1
         have hbl : zqb_ (zM_ b) = true := by
          unfold zM_
          induction b.data.toList with
          | nil => rfl
          | cons y l ih => simp [zqb_, zIf_, ih]
         obtain ⟨w', r1, r2⟩ := zju_ (P := P) (e := e) (sz := sz) (ty := type) (u := u) (y' := a.eval y) (len2 := b.size) (new := zM_ b) (l' := (zM_ b).take (min b.size n0 * sz)) s hvx hu1 hs ((VRs.of_plain hbl).take _) (by
          rw [zqh_ s fr hy hg.2]
          simp only [Builtin.firstCells, Sem.run_pure]
          congr 1
          apply Array.ext'
          simp [zM_, hc.1]) (by rw [zqh_ s fr hy hg.2]; simp [Builtin.lenOf]) ha
         exact ⟨μ, _, w', exec r1, .int _ _, r2⟩
        ·cases hd
       ·cases hd
      ·cases hr
     ·cases hr
    ·cases hr
   ·-- delete
    split at hr
    ·rename_i x y t tl hxy ht0
     have hts : argTypes[0]? = some t := by rw [← Array.getElem?_toList, ht0]; rfl
     have exec : ∀ {a : Act} {w w' : World} {v : Value}, (Builtin.delete_ argTypes type #[a.eval x, a.eval y]).run P w = .ok v w' →
       (execOp a.eval ⟨dst, .call ⟨.builtin .delete, args, argTypes⟩, type, pos, after, guard⟩).run P w = .ok (.value v) w' := fun {a w w' v} e => by
      simp [execOp, resolve, invoke, builtin, two hxy, e]
     split at hr
     ·rename_i kt et hu
      simp only [Option.bind_eq_some_iff] at hr
      obtain ⟨str, hk, hr⟩ := hr
      obtain ⟨hg, rfl⟩ := zr_ hr
      simp only [Bool.and_eq_true] at hg
      simp only [deff] at hd
      split at hd
      ·rename_i m0 hx0
       simp only [Option.bind_eq_some_iff] at hd
       obtain ⟨key, hki, hd⟩ := hd
       cases hkey : zbc_ str key with
       | false => rw [hkey] at hd; cases hd
       | true =>
        rw [hkey, cond_true] at hd
        simp only [Option.bind_eq_some_iff] at hd
        obtain ⟨h', hc, hd⟩ := hd
        cases m0 with
        | none =>
         cases hc
         refine ⟨_, h, hd, OpS.of_run (Nat.le_refl _) fun μ a w fr s zd => ?_⟩
         have ei : a.eval y = key := zAm_ hkey (zy_ s fr hki hg.2)
         exact ⟨μ, _, w, exec (by rw [ei]; exact zPB_ hts hu hk (zy_ s fr hx0 hg.1) hkey), .undef _, .refl s⟩
        | some r0 =>
         refine ⟨_, h', hd, OpS.of_run (zBz_ hc) fun μ a w fr s zd => ?_⟩
         have ei : a.eval y = key := zAm_ hkey (zy_ s fr hki hg.2)
         obtain ⟨w', q1, q2⟩ := zgD_ (P := P) s (ty := type) hts hu hk (zy_ s fr hx0 hg.1) hkey hc
         exact ⟨μ, _, w', exec (by rw [ei]; exact q1), .undef _, q2⟩
      ·cases hd
     ·cases hr
    ·cases hr
   ·-- unsafeString
    split at hr
    ·rename_i x y t u hxy htu
     have eT := twoT htu
     split at hr
     ·rename_i e hu1
      split at hr
      ·rename_i hc1
       obtain ⟨hg, rfl⟩ := zr_ hr
       simp only [Bool.and_eq_true] at hg
       have exec : ∀ {a : Act} {w w' : World} {v : Value}, (Builtin.unsafeString_ #[t, u] type #[a.eval x, a.eval y]).run P w = .ok v w' →
         (execOp a.eval ⟨dst, .call ⟨.builtin .unsafeString, args, argTypes⟩, type, pos, after, guard⟩).run P w = .ok (.value v) w' := fun {a w w' v} e => by
        simp [execOp, resolve, invoke, builtin, two hxy, eT, e]
       simp only [deff] at hd
       split at hd
       ·rename_i p hp
        split at hd
        ·rename_i n hn
         simp only [Option.bind_eq_some_iff] at hd
         obtain ⟨⟨s', h'⟩, hU, hk⟩ := hd
         unfold unsA at hU
         split at hU
         ·rename_i hn0
          subst hn0
          cases hU
          refine ⟨_, _, hk, OpS.of_run (Nat.le_refl _) fun μ a w fr s zd => ?_⟩
          have hy : a.eval y = .int .i64 0 := zhl_ (zy_ s fr hn hg.2)
          obtain ⟨q, hq⟩ : ∃ q, a.eval x = .pointer q := by
           have := zy_ s fr hp hg.1
           generalize a.eval x = v at this
           cases this <;> exact ⟨_, rfl⟩
          exact ⟨μ, _, w, exec (by rw [hq, hy]; exact Lib.run_unsafeString_none w t u type q), .str _, .refl s⟩
         ·split at hU
          ·cases hU
          ·rename_i ad
           split at hU
           ·rename_i c e0 fz hb
            split at hU
            ·rename_i hcd
             obtain ⟨hoff, hn1, hn2, he, hle, hfz⟩ := hcd
             subst he
             simp only [Option.bind_eq_some_iff] at hU
             obtain ⟨l, hl, e2⟩ := hU
             cases e2
             have hcs := zRm_ hl
             have hll : l.length = n.toNat := by
              have := congrArg List.length hcs
              simp at this; omega
             refine ⟨_, _, hk, OpS.of_run (by simp) fun μ a w fr s zd => ?_⟩
             have hy : a.eval y = .int .i64 n := zhl_ (zy_ s fr hn hg.2)
             obtain ⟨b, o, cb, d, z, e3, hx, hm⟩ := zDe_ (zy_ s fr hp hg.1)
             subst e3
             simp only at hoff hb
             subst hoff
             obtain ⟨c', lo, hi, hO, hz, hcc, hrw⟩ := s.obj hb hm
             obtain ⟨rfl, hfr, hmk⟩ := hrw rfl
             have hcell : ∀ (j : Nat) (q : UInt8), l[j]? = some q → c'[j]? = some (Value.int .u8 (q.toNat : Int)) := fun j q hj => by
              have h1 : (c.take n.toNat)[j]? = some (Value.int .u8 (q.toNat : Int)) := by rw [hcs]; simp [hj]
              have h2 : c[j]? = some (Value.int .u8 (q.toNat : Int)) := by
               rw [List.getElem?_take] at h1
               split at h1
               ·exact h1
               ·cases h1
              obtain ⟨v', q1, q2⟩ := hcc j _ h2
              rw [Nat.zero_add] at q1
              rw [q1, zhl_ q2]
             have hsz : l.length ≤ c'.size := by
              cases hl0 : l.length with
              | zero => omega
              | succ k =>
               have hk1 : k < l.length := by omega
               have := (Array.getElem?_eq_some_iff.1 (hcell k _ (List.getElem?_eq_getElem hk1))).1
               omega
             have hrun := Lib.run_unsafeString_row (P := P) w t u type e0 hu1 hc1 cb c'.size (by simp [World.shape?, hO]) l (by intro e; rw [e] at hll; simp at hll; omega) hsz (by omega)
              (fun j q hj => by rw [Addr.add_lit, zRf_ hO, Nat.zero_add]; exact hcell j q hj)
             have hnl : n = (l.length : Int) := by omega
             have hpos : ¬ l.length = 0 := by omega
             refine ⟨μ, _, w.freeze ⟨cb, 0, none⟩ l.length, exec (by rw [hx, hy, hnl]; simpa using hrun), .str _, ?_⟩
             have hcl : cb < w.heap.size := (Array.getElem?_eq_some_iff.1 hO).1
             refine Step.turn s hb rfl hm (O' := .cells c' e0 (if lo == hi then (0, 0 + l.length) else (min lo 0, max hi (0 + l.length)))) ?_ ?_ ?_ ?_ ?_ ?_ ?_
             ·simp only [World.freeze, hpos, if_false, Array.getElem?_modify, if_true, hO, Option.map_some]
             ·have hin : ∀ i, max fz n.toNat ≤ i → i < c'.size → ¬ ((if lo == hi then (0, 0 + l.length) else (min lo 0, max hi (0 + l.length))).1 ≤ i ∧ i < (if lo == hi then (0, 0 + l.length) else (min lo 0, max hi (0 + l.length))).2) := by
               intro i h1 h2 h3
               have h4 := hfr i (by omega) h2
               have h5 := (hmk hfz).1
               split at h3
               ·simp at h3; omega
               ·rename_i hne
                simp at h3 hne
                rcases h5 with h5 | h5
                ·exact hne h5
                ·omega
              refine ⟨rfl, hz, hcc, fun _ => ⟨rfl, fun i h1 h2 => hin i (by omega) h2, fun _ => ⟨?_, (hmk hfz).2⟩⟩, fun q => by cases q⟩
              right
              have h5 := (hmk hfz).1
              show (if (lo == hi) = true then (0, 0 + l.length) else (min lo 0, max hi (0 + l.length))).2 ≤ max fz n.toNat
              split
              ·simp; omega
              ·rename_i hne
               simp at hne ⊢
               rcases h5 with h5 | h5
               ·exact absurd h5 hne
               ·omega
             ·simp [World.freeze]; split <;> rfl
             ·simp [World.freeze]; split <;> rfl
             ·simp [World.freeze]; split <;> rfl
             ·simp [World.freeze]; split <;> simp
             ·intro i hi
              simp only [World.freeze, hpos, if_false]
              rw [Array.getElem?_modify, if_neg (fun x => hi x.symm)]
            ·cases hU
           ·cases hU
        ·cases hd
       ·cases hd
      ·cases hr
     ·cases hr
    ·cases hr
 case mapUpdate t m k v =>
  split at hr
  ·rename_i kt et ht
   simp only [Option.bind_eq_some_iff] at hr
   obtain ⟨str, hk, hr⟩ := hr
   obtain ⟨hg, rfl⟩ := zr_ hr
   simp only [Bool.and_eq_true] at hg
   simp only [deff] at hd
   split at hd
   ·rename_i m0 hm
    simp only [Option.bind_eq_some_iff] at hd
    obtain ⟨r0, rfl, key, hki, hd⟩ := hd
    cases hkey : zbc_ str key with
    | false => rw [hkey] at hd; cases hd
    | true =>
     rw [hkey, cond_true] at hd
     simp only [Option.bind_eq_some_iff] at hd
     obtain ⟨x, hx, h', hu, hd⟩ := hd
     refine ⟨_, h', hd, OpS.of_skip (zzz_ hu) fun μ a w fr s zd => ?_⟩
     have ei : a.eval k = key := zAm_ hkey (zy_ s fr hki hg.1.2)
     obtain ⟨w', r1, r2⟩ := zUC_ (P := P) s ht hk (zy_ s fr hm hg.1.1) hkey (zy_ s fr hx hg.2) hu
     exact ⟨μ, w', by simp only [execOp, ei, Sem.run_bind, r1, Result.andThen_ok, Sem.run_pure], r2⟩
   ·cases hd
  ·cases hr
 case next x str =>
  split at hr
  ·rename_i hstr
   subst hstr
   obtain ⟨hg, rfl⟩ := zr_ hr
   simp only [deff] at hd
   split at hd
   ·rename_i p hp
    simp only [Option.bind_eq_some_iff] at hd
    obtain ⟨ad, rfl, sp, hi, hd⟩ := hd
    obtain ⟨tx, pos⟩ := sp
    unfold zjC_ at hi
    split at hi
    ·rename_i hoff
     split at hi
     ·rename_i s1 p1 hb
      cases hi
      have obj : ∀ {μ : BMap} {w : World}, Sim G μ h w → ∃ c z, μ ad.block = some (c, 0, z) ∧ w.heap[c]? = some (.stringIter tx pos) := fun {μ w} s => by
       obtain ⟨c, d, z, O, hm, hO, hB⟩ := s.blk ad.block _ hb
       cases O with
       | stringIter s' p' =>
        obtain ⟨rfl, rfl, rfl⟩ := hB
        exact ⟨c, z, hm, hO⟩
       | _ => exact hB.elim
      have ptr : ∀ {μ : BMap} {w : World} {a : Act}, Sim G μ h w → FR μ f a.tmps → ∀ {c z}, μ ad.block = some (c, 0, z) → a.eval x = .pointer (some ⟨c, 0, none⟩) := fun {μ w a} s fr c z hm => by
       obtain ⟨b', o', c', d', z', e1, e2, e3⟩ := zDe_ (zy_ s fr hp hg)
       subst e1
       simp only at hoff hm
       subst hoff
       rw [hm] at e3
       cases e3
       exact e2
      simp only at hd
      split at hd
      ·rename_i hlt
       refine ⟨_, _, hd, OpS.of_run (by simp) fun μ a w fr s zd => ?_⟩
       obtain ⟨c, z, hm, hO⟩ := obj s
       have hc : c < w.heap.size := (Array.getElem?_eq_some_iff.1 hO).1
       refine ⟨μ, .tuple ⟨[.bool true, .int .i64 (pos : Int), .int .i32 ((Utf8.decode tx pos).1 : Int)]⟩, { w with heap := w.heap.setIfInBounds c (.stringIter tx (pos + (Utf8.decode tx pos).2)) }, ?_, ?_, ?_⟩
       ·simp [execOp, ptr s fr hm, Instr.next, zVp_ hO, zkw_ _ hO, hlt, goInt]
       ·refine .tuple rfl fun i v v' h1 h2 => ?_
        rw [h1] at h2; cases h2
        match i with
        | 0 => cases h1; exact .bool _
        | 1 => cases h1; exact .int _ _
        | 2 => cases h1; exact .int _ _
        | i + 3 => simp at h1
       ·exact Step.turn s hb rfl hm (O' := .stringIter tx (pos + (Utf8.decode tx pos).2)) (by simp [hc]) ⟨rfl, rfl, rfl⟩ rfl rfl rfl (by simp) (fun i hi => by simp [Array.getElem?_setIfInBounds_ne (fun x => hi x.symm)])
      ·rename_i hlt
       refine ⟨_, _, hd, OpS.of_run (Nat.le_refl _) fun μ a w fr s zd => ?_⟩
       obtain ⟨c, z, hm, hO⟩ := obj s
       refine ⟨μ, .tuple ⟨[.bool false]⟩, w, ?_, ?_, .refl s⟩
       ·simp [execOp, ptr s fr hm, Instr.next, zVp_ hO, hlt]
       ·refine .tuple rfl fun i v v' h1 h2 => ?_
        rw [h1] at h2; cases h2
        match i with
        | 0 => cases h1; exact .bool _
        | i + 1 => simp at h1
     ·cases hi
    ·cases hi
   ·cases hd
  ·cases hr
end
inductive ROp where
 | p (o : POp)
 | l (o : LOp)
 | a (o : AOp)
 | e (o : EOp)
structure RO where
 dst : Option Nat
 op : ROp
 guard : Option (Nat × Bool) := none
 tag : Option LTy := none
def tagK {R : Type} (t : Option LTy) (v : Value) (κ : Value → Option R) : Option R :=
 match t with
 | none => κ v
 | some t => zrd_ t v κ
theorem zAo_ {R : Type} {t : Option LTy} {v : Value} {κ : Value → Option R} {r : R} (h : tagK t v κ = some r) : κ v = some r := by
 cases t with
 | none => exact h
 | some t => exact zJc_ h
def dop {R : Type} (C : za_) (o : ROp) (f : PFr) (h : AHeap) (κ : Value → AHeap → Option R) : Option R :=
 match o with
 | .p o => zdb_ o f fun v => κ v h
 | .l o => zUe_ o f h fun v => κ v h
 | .a o => zzh_ o f fun B mk => κ (mk h.next) (h.new B)
 | .e o => deff C o f h κ
def dops {R : Type} (C : za_) : List RO → PFr → AHeap → (PFr → AHeap → Option R) → Option R
 | [], f, h, κ => κ f h
 | o :: os, f, h, κ =>
  match o.guard with
  | none => dop C o.op f h fun v h' => tagK o.tag v fun v => dops C os (pput f o.dst v) h' κ
  | some (g, want) =>
   match f g with
   | some (.bool b) =>
    if b = true then
     (bif want then dop C o.op (pset f g (.bool true)) h fun v h' => tagK o.tag v fun v => dops C os (pput (pset f g (.bool true)) o.dst v) h' κ
      else dops C os (pput (pset f g (.bool true)) o.dst undef) h κ)
    else
     (bif want then dops C os (pput (pset f g (.bool false)) o.dst undef) h κ
      else dop C o.op (pset f g (.bool false)) h fun v h' => tagK o.tag v fun v => dops C os (pput (pset f g (.bool false)) o.dst v) h' κ)
   | some (.tuple _) => dops C os (pput f o.dst undef) h κ
   | _ => none
structure RD where
 idx : Nat
 ro : RO
 looks : List Nat
 win : Nat
def memB (s : Nat) : List Nat → Bool
 | [] => false
 | t :: l => bif Nat.beq s t then true else memB s l
def zF_ (ls : List Nat) (f : PFr) : PFr := fun s => bif memB s ls then f s else none
def zKb_ (hs : List AHeap) (F : AHeap → Option Value) (v : Value) : Prop := ∀ H ∈ hs, F H = some v
open Classical in
noncomputable def zR_ {R : Type} (p : Prop) (k : Option R) : Option R := if p then k else none
theorem zti_ {R : Type} {p : Prop} {k : Option R} {r : R} (h : zR_ p k = some r) : p ∧ k = some r := by
 unfold zR_ at h; split at h
 ·exact ⟨by assumption, h⟩
 ·cases h
theorem zRk_ {R : Type} {p : Prop} {k : Option R} (h : p) : zR_ p k = k := by unfold zR_; rw [if_pos h]
def serB : ROp → Bool
 | .a _ => true
 | .e _ => true
 | _ => false
noncomputable def ddop {R : Type} (C : za_) (o : ROp) (win : Nat) (f : PFr) (h : AHeap) (hs : List AHeap) (κ : Value → AHeap → Option R) : Option R :=
 match o with
 | .p o => zdb_ o f fun v => κ v h
 | .l o => match win with
  | 0 => zUe_ o f h fun v => κ v h
  | win + 1 => zUe_ o f h fun v => zR_ (zKb_ (hs.take (win + 1)) (fun H => zUe_ o f H some) v) (κ v h)
 | .a o => zzh_ o f fun B mk => κ (mk h.next) (h.new B)
 | .e o => deff C o f h κ
noncomputable def zZf_ {R : Type} (C : za_) : List RD → PFr → AHeap → List AHeap → (PFr → AHeap → Option R) → Option R
 | [], f, h, _, κ => κ f h
 | e :: es, f, h, hs, κ =>
  match e.ro.guard with
  | none => ddop C e.ro.op e.win (zF_ e.looks f) h hs fun v h' => tagK e.ro.tag v fun v => zZf_ C es (pput f e.ro.dst v) h' (bif serB e.ro.op then h :: hs else hs) κ
  | some (g, want) =>
   match f g with
   | some (.bool b) =>
    if b = true then
     (bif want then ddop C e.ro.op e.win (zF_ e.looks (pset f g (.bool true))) h hs fun v h' => tagK e.ro.tag v fun v => zZf_ C es (pput (pset f g (.bool true)) e.ro.dst v) h' (bif serB e.ro.op then h :: hs else hs) κ
      else zZf_ C es (pput (pset f g (.bool true)) e.ro.dst undef) h (bif serB e.ro.op then h :: hs else hs) κ)
    else
     (bif want then zZf_ C es (pput (pset f g (.bool false)) e.ro.dst undef) h (bif serB e.ro.op then h :: hs else hs) κ
      else ddop C e.ro.op e.win (zF_ e.looks (pset f g (.bool false))) h hs fun v h' => tagK e.ro.tag v fun v => zZf_ C es (pput (pset f g (.bool false)) e.ro.dst v) h' (bif serB e.ro.op then h :: hs else hs) κ)
   | some (.tuple _) => zZf_ C es (pput f e.ro.dst undef) h (bif serB e.ro.op then h :: hs else hs) κ
   | _ => none
structure RG where
 d : RD
 gh : Option Nat
 own : Option Nat
def OwnW (b : Nat) (h : AHeap) (F : AHeap → Option Value) (v : Value) : Prop := ∃ B, h.get b = some B ∧ ∀ H : AHeap, H.get b = some B → F H = some v
def AHeap.resv (h : AHeap) (m : Nat) : AHeap := ⟨h.next + m, h.get⟩
noncomputable def dgop {R : Type} (C : za_) (base : Nat) (gh own : Option Nat) (o : ROp) (win : Nat) (f : PFr) (h : AHeap) (hs : List AHeap) (κ : Value → AHeap → Option R) : Option R :=
 match gh with
 | none => match own with
  | none => ddop C o win f h hs κ
  | some j => match o with
   | .l o => zUe_ o f h fun v => zR_ (OwnW (base + j) h (fun H => zUe_ o f H some) v) (κ v h)
   | _ => none
 | some j => match o with
  | .a o => zzh_ o f fun B mk => κ (mk (base + j)) (h.set (base + j) B)
  | _ => none
noncomputable def gdraw {R : Type} (C : za_) (base : Nat) : List RG → PFr → AHeap → List AHeap → (PFr → AHeap → Option R) → Option R
 | [], f, h, _, κ => κ f h
 | e :: es, f, h, hs, κ =>
  match e.d.ro.guard with
  | none => dgop C base e.gh e.own e.d.ro.op e.d.win (zF_ e.d.looks f) h hs fun v h' => tagK e.d.ro.tag v fun v => gdraw C base es (pput f e.d.ro.dst v) h' (bif serB e.d.ro.op then h :: hs else hs) κ
  | some (g, want) =>
   match f g with
   | some (.bool b) =>
    if b = true then
     (bif want then dgop C base e.gh e.own e.d.ro.op e.d.win (zF_ e.d.looks (pset f g (.bool true))) h hs fun v h' => tagK e.d.ro.tag v fun v => gdraw C base es (pput (pset f g (.bool true)) e.d.ro.dst v) h' (bif serB e.d.ro.op then h :: hs else hs) κ
      else gdraw C base es (pput (pset f g (.bool true)) e.d.ro.dst undef) h (bif serB e.d.ro.op then h :: hs else hs) κ)
    else
     (bif want then gdraw C base es (pput (pset f g (.bool false)) e.d.ro.dst undef) h (bif serB e.d.ro.op then h :: hs else hs) κ
      else dgop C base e.gh e.own e.d.ro.op e.d.win (zF_ e.d.looks (pset f g (.bool false))) h hs fun v h' => tagK e.d.ro.tag v fun v => gdraw C base es (pput (pset f g (.bool false)) e.d.ro.dst v) h' (bif serB e.d.ro.op then h :: hs else hs) κ)
   | some (.tuple _) => gdraw C base es (pput f e.d.ro.dst undef) h (bif serB e.d.ro.op then h :: hs else hs) κ
   | _ => none
abbrev LTy.T : LTy → Type
 | .i _ => Int
 | .b => Bool
 | .s => ByteArray
 | .p => Option Addr
 | .l => Slc
 | .m => Option Nat
 | .v => Value
 | .agg _ => List Value
 | .st ts => TupC ts
def LTy.enc (t : LTy) : t.T → Value :=
 match t with
 | .i k => fun n => .int k n
 | .b => fun x => .bool x
 | .s => fun x => .string x
 | .p => fun x => .pointer x
 | .l => fun x => .slice x.a x.len x.cap
 | .m => fun x => .map x
 | .v => fun x => x
 | .agg _ => fun x => .agg ⟨x⟩
 | .st ts => fun x => .agg ⟨encC ts x⟩
def LTy.dec (t : LTy) (v : Value) : Option t.T :=
 match t with
 | .i k => decI k v
 | .b => decB v
 | .s => decS v
 | .p => decP v
 | .l => decL v
 | .m => decM v
 | .v => some v
 | .agg n => decA n v
 | .st ts => match v with
  | .agg cs => decC ts cs.toList
  | _ => none
theorem LTy.enc_dec {t : LTy} {v : Value} {x : t.T} (h : t.dec v = some x) : t.enc x = v := by
 cases t <;> simp only [LTy.dec] at h
 ·exact (zPf_ h).symm
 ·exact (zNf_ h).symm
 ·exact (zOf_ h).symm
 ·exact (zMk_ h).symm
 ·exact (ztk_ h).symm
 ·exact (zwk_ h).symm
 ·cases h; rfl
 ·exact ((zyo_ h).1).symm
 ·split at h
  ·simp only [LTy.enc, zfo_ h]
  ·cases h
abbrev zS_ := List (Nat × LTy)
abbrev FnL : zS_ → Type → Type
 | [], X => X
 | (_, t) :: L, X => t.T → FnL L X
def zEl_ {X : Type} (x : X) : (L : zS_) → FnL L X
 | [] => x
 | (_, _) :: L => fun _ => zEl_ x L
def lamL {X : Type} : (L : zS_) → PFr → (PFr → X) → FnL L X
 | [], f, b => b f
 | (s, t) :: L, f, b => fun x => lamL L (pset f s (t.enc x)) b
def appL {R : Type} : (L : zS_) → PFr → FnL L (AHeap → Option R) → AHeap → Option R
 | [], _, g, h => g h
 | (s, t) :: L, f, g, h => match f s with
  | some v => (t.dec v).bind fun x => appL L f (g x) h
  | none => none
def noFr : PFr := fun _ => none
def zi_ {α : Type} (bot : α) : Nat → (α → α) → α
 | 0, _ => bot
 | k + 1, b => b (zi_ bot k b)
def zm_ {α R : Type} (j : α) (b : α → R) : R := b j
inductive AExit where
 | normal
 | exit (id : Nat)
 | ret
inductive RCode where
 | skip
 | region (ops : List RO)
 | draw (es : List RD)
 | gdraw (m : Nat) (es : List RG)
 | seq (a b : RCode)
 | cond (c : Operand) (a b : RCode)
 | block (id : Nat) (c : RCode)
 | loop (L : zS_) (c : RCode)
 | join (L : zS_) (c : RCode)
 | scope (c : RCode)
 | exit (id : Nat)
 | ret
 | stuck
noncomputable def den {R : Type} (C : za_) (k : Nat) : RCode → PFr → AHeap → (AExit → PFr → AHeap → Option R) → Option R
 | .skip, f, h, κ => κ .normal f h
 | .region ops, f, h, κ => dops C ops f h fun f h => κ .normal f h
 | .draw es, f, h, κ => zZf_ C es f h [] fun f h => κ .normal f h
 | .gdraw m es, f, h, κ => gdraw C h.next es f (h.resv m) [] fun f h => κ .normal f h
 | .seq a b, f, h, κ => den C k a f h fun e f h => match e with
  | .normal => den C k b f h κ
  | .exit i => κ (.exit i) f h
  | .ret => κ .ret f h
 | .cond c a b, f, h, κ => match c with
  | .tmp t => match f t with
   | some (.bool x) => if x = true then den C k a (pset f t (.bool true)) h κ else den C k b (pset f t (.bool false)) h κ
   | _ => none
  | .const (.bool x) => bif x then den C k a f h κ else den C k b f h κ
  | _ => none
 | .block id c, f, h, κ => den C k c f h fun e f h => match e with
  | .normal => κ .normal f h
  | .exit i => bif Nat.beq i id then κ .normal f h else κ (.exit i) f h
  | .ret => κ .ret f h
 | .loop L c, f, h, κ => appL L f (zi_ (zEl_ (fun _ => none) L) k fun rec => lamL L noFr fun f h => den C k c f h fun e f h => match e with
   | .normal => appL L f rec h
   | .exit i => κ (.exit i) f h
   | .ret => κ .ret f h) h
 | .join L c, f, h, κ => zm_ (lamL L noFr fun f h => κ .normal f h) fun j => den C k c f h fun e f h => match e with
   | .normal => appL L f j h
   | .exit i => κ (.exit i) f h
   | .ret => κ .ret f h
 | .scope c, f, h, κ => den C k c f h κ
 | .exit id, f, h, κ => κ (.exit id) f h
 | .ret, f, h, κ => κ .ret f h
 | .stuck, _, _, _ => none
def zmi_ (P : Program) (G : Nat) (o : Oper) : Option ROp :=
 match zVx_ P G o with
 | some p => some (.p p)
 | none => match zry_ P G o with
  | some l => some (.l l)
  | none => match zAx_ P G o with
   | some a => some (.a a)
   | none => match zTx_ P G o with
    | some e => some (.e e)
    | none => some (.e .bad)
def zGt_ (n : Nat) : Option Nat → Bool
 | some d => decide (d < n)
 | none => true
def zyq_ : Op → Bool
 | .defer _ => false
 | _ => true
def roOf (P : Program) (G n : Nat) (ops : Array Oper) (o : Oper) : Option RO :=
 match (bif zyq_ o.op then zmi_ P G o else none) with
 | none => none
 | some r =>
  if zGt_ n o.dst = true then
   match o.guard with
   | none => some ⟨o.dst, r, none, none⟩
   | some (j, want) => match (ops[j]?).bind (·.dst) with
    | some g => some ⟨o.dst, r, some (g, want), none⟩
    | none => none
  else none
def zBh_ (P : Program) (G n : Nat) (ops : Array Oper) : List Oper → Option (List RO)
 | [] => some []
 | o :: l => match roOf P G n ops o with
  | none => none
  | some r => match zBh_ P G n ops l with
   | none => none
   | some t => some (r :: t)
def zJx_ (ms : List Nat) (o : Oper) : Nat := o.after.toList.foldl (fun m e => bif Region.binds .any e then m ||| (1 <<< e.on) ||| ms.getD e.on 0 else m) 0
def zOc_ : List Oper → List Nat → List Nat
 | [], ms => ms
 | o :: l, ms => zOc_ l (ms ++ [zJx_ ms o])
def bitB (m i : Nat) : Bool := Nat.beq ((m >>> i) % 2) 1
def zbi_ (N : Nat) (ms : List Nat) : List Nat → List Nat → List Nat
 | [], acc => acc ++ (List.range N).filter fun i => !memB i acc
 | s :: ss, acc => zbi_ N ms ss (bif memB s acc then acc else acc ++ ((List.range N).filter fun i => bitB (ms.getD s 0) i && !memB i acc) ++ [s])
def zDd_ (p e : RD) : Bool :=
 (match p.ro.dst with | some d => !memB d e.looks | none => true) && (match e.ro.dst with | some d => !memB d p.looks | none => true) &&
 (match p.ro.dst, e.ro.dst with | some d, some d' => !Nat.beq d d' | _, _ => true)
def zIt_ (ms : List Nat) (j : Nat) (p : RD) : Bool := serB p.ro.op && !bitB (ms.getD j 0) p.idx
def rdOf (P : Program) (G n : Nat) (ops : Array Oper) (ms : List Nat) (ps : List RD) (i : Nat) : Option RD :=
 match ops[i]? with
 | none => none
 | some o => match roOf P G n ops o with
  | none => none
  | some ro => some ⟨i, ro, o.looksAt ops, ps.countP (zIt_ ms i)⟩
def okE (ops : Array Oper) (ms : List Nat) (ps : List RD) (e : RD) : Bool :=
 (match ops[e.idx]? with | some o => o.after.toList.all fun x => !Region.binds .any x || ps.any fun p => Nat.beq p.idx x.on | none => false) &&
 ps.all fun p => !Nat.beq p.idx e.idx && (bitB (ms.getD e.idx 0) p.idx || (!serB e.ro.op && zDd_ p e))
def zAr_ (P : Program) (G n : Nat) (ops : Array Oper) (ms : List Nat) : List RD → List Nat → Option (List RD)
 | _, [] => some []
 | ps, i :: is => match rdOf P G n ops ms ps i with
  | none => none
  | some e => bif okE ops ms ps e then (zAr_ P G n ops ms (e :: ps) is).map (e :: ·) else none
def zPy_ (P : Program) (G n : Nat) (ops : Array Oper) (i : Nat) : Bool :=
 match ops[i]? with
 | none => false
 | some o => match roOf P G n ops o with
  | none => false
  | some ro => serB ro.op
def zQt_ (P : Program) (G n : Nat) (ops : Array Oper) : Option (List RD) :=
 let ms := zOc_ ops.toList []
 let ord := zbi_ ops.size ms ((List.range ops.size).filter (zPy_ P G n ops)) []
 bif P.follows .mixedOrders && (List.range ops.size).all (fun i => memB i ord) && Nat.beq ord.length ops.size then zAr_ P G n ops ms [] ord else none
def zux_ (P : Program) (G n : Nat) (ops : Array Oper) (i : Nat) : Bool :=
 match ops[i]? with
 | none => false
 | some o => match roOf P G n ops o with
  | none => false
  | some ro => match ro.op with
   | .e _ => true
   | _ => false
def zCh_ : ROp → Bool
 | .l _ => true
 | _ => false
def zJi_ : ROp → Bool
 | .a _ => true
 | _ => false
def actG (e : RG) : Bool := serB e.d.ro.op && (match e.gh with | none => true | some _ => false)
def ghB (e : RG) : Bool := match e.gh with | none => false | some _ => true
def zIq_ {α : Type} : Option α → Bool
 | none => true
 | some _ => false
def zYw_ (ms : List Nat) (ps : List RG) (e p : RG) : Bool := ps.any fun x => actG x && bitB (ms.getD e.d.idx 0) x.d.idx && bitB (ms.getD x.d.idx 0) p.d.idx
def zBl_ : List RG → Nat → Bool
 | [], _ => false
 | x :: ps, i => bif Nat.beq x.d.idx i then true else !actG x && zBl_ ps i
def ownB (ms : List Nat) (ps : List RG) (e p : RG) : Bool :=
 (match e.own, p.gh with | some j, some i => Nat.beq i j | _, _ => false) && zIq_ p.d.ro.guard && zBl_ ps p.d.idx && bitB (ms.getD e.d.idx 0) p.d.idx
def zEt_ (ms : List Nat) (i : Nat) (looks : List Nat) : List RG → List RG → Option Nat
 | _, [] => none
 | ps, p :: l => bif ghB p && (match p.d.ro.dst with | some d => memB d looks | none => false) && bitB (ms.getD i 0) p.d.idx && !ps.any (fun x => actG x && bitB (ms.getD i 0) x.d.idx && bitB (ms.getD x.d.idx 0) p.d.idx) then p.gh else zEt_ ms i looks ps l
def okG (ops : Array Oper) (ms : List Nat) (ps : List RG) (e : RG) : Bool :=
 (match ops[e.d.idx]? with | some o => o.after.toList.all fun x => !Region.binds .any x || ps.any fun p => Nat.beq p.d.idx x.on | none => false) &&
 ps.all (fun p => !Nat.beq p.d.idx e.d.idx && (bitB (ms.getD e.d.idx 0) p.d.idx || (!actG e && zDd_ p.d e.d))) &&
 (!zCh_ e.d.ro.op || !zIq_ e.own || ps.all fun p => !ghB p || !bitB (ms.getD e.d.idx 0) p.d.idx || zYw_ ms ps e p) &&
 (zIq_ e.own || (zCh_ e.d.ro.op && ps.any fun p => ownB ms ps e p))
def zQy_ (ms : List Nat) (j : Nat) (p : RG) : Bool := serB p.d.ro.op && !bitB (ms.getD j 0) p.d.idx
def zcE_ : Op → Bool
 | .indexAddr .. => true
 | .fieldAddr .. => true
 | _ => false
def zKx_ (ops : Array Oper) (m : Nat) (looks : List Nat) : List Nat :=
 (List.range ops.size).reverse.foldl (fun L z => match ops[z]? with
  | some o => bif bitB m z && zcE_ o.op && (match o.dst with | some d => memB d L | none => false) then L ++ o.looksAt ops else L
  | none => L) looks
def rgOf (P : Program) (G n : Nat) (ops : Array Oper) (ms : List Nat) (ps : List RG) (i : Nat) : Option RG :=
 match ops[i]? with
 | none => none
 | some o => match roOf P G n ops o with
  | none => none
  | some ro => some ⟨⟨i, ro, o.looksAt ops, ps.countP (zQy_ ms i)⟩, bif zJi_ ro.op then some (ps.countP ghB) else none, bif zCh_ ro.op then zEt_ ms i (zKx_ ops (ms.getD i 0) (o.looksAt ops)) ps ps else none⟩
def zir_ (P : Program) (G n : Nat) (ops : Array Oper) (ms : List Nat) : List RG → List Nat → Option (List RG)
 | _, [] => some []
 | ps, i :: is => match rgOf P G n ops ms ps i with
  | none => none
  | some e => bif okG ops ms ps e then (zir_ P G n ops ms (e :: ps) is).map (e :: ·) else none
def zQr_ (P : Program) (G n : Nat) (ops : Array Oper) : Option (List RG) :=
 let ms := zOc_ ops.toList []
 let ord := zbi_ ops.size ms ((List.range ops.size).filter (zux_ P G n ops)) []
 bif P.follows .mixedOrders && (List.range ops.size).all (fun i => memB i ord) && Nat.beq ord.length ops.size then zir_ P G n ops ms [] ord else none
def zgp_ (P : Program) (G n : Nat) (ops : Array Oper) : Option RCode :=
 match zQt_ P G n ops with
 | some es => some (.draw es)
 | none => match zQr_ P G n ops with
  | some es => some (.gdraw (es.countP ghB) es)
  | none => none
def zj_ (P : Program) (G n : Nat) : Code → Option RCode
 | .skip => some .skip
 | .label _ => some .skip
 | .region _ ops draw => if draw then zgp_ P G n ops else (zBh_ P G n ops ops.toList).map .region
 | .seq a b => match zj_ P G n a with
  | none => none
  | some x => match zj_ P G n b with
   | none => none
   | some y => some (.seq x y)
 | .cond c a b => match zj_ P G n a with
  | none => none
  | some x => match zj_ P G n b with
   | none => none
   | some y => some (.cond c x y)
 | .block id c => (zj_ P G n c).map (.block id)
 | .loop c => (zj_ P G n c).map (.loop [])
 | .scope c => (zj_ P G n c).map .scope
 | .exit id => some (.exit id)
 | .ret => some .ret
 | .goto _ => some .stuck
 | .refuse _ => some .stuck
 | .rangeFunc _ _ _ _ => some .stuck
def zwc_ (o : RO) : RO := ⟨o.dst, o.op, o.guard, none⟩
def zDn_ (e : RD) : RD := ⟨e.idx, zwc_ e.ro, e.looks, e.win⟩
def zAc_ (e : RG) : RG := ⟨zDn_ e.d, e.gh, e.own⟩
def zo_ : RCode → RCode
 | .draw es => .draw (es.map zDn_)
 | .gdraw m es => .gdraw m (es.map zAc_)
 | .region ops => .region (ops.map zwc_)
 | .seq a b => .seq (zo_ a) (zo_ b)
 | .cond c a b => .cond c (zo_ a) (zo_ b)
 | .block id c => .block id (zo_ c)
 | .loop _ c => .loop [] (zo_ c)
 | .join _ c => zo_ c
 | .scope c => .scope (zo_ c)
 | c => c
section
variable {ds : List Deferred} {G : Nat} {P : Program} {R : Type} {r : R} {C : za_}
theorem zCk_ {o : Oper} {ro : ROp} {f : PFr} {h : AHeap} {κ : Value → AHeap → Option R} (hC : zf_ P G C) (hr : zmi_ P G o = some ro) (hd : dop C ro f h κ = some r) :
  ∃ v h', κ v h' = some r ∧ OpS P G o f h v h' := by
 unfold zmi_ at hr
 split at hr
 ·rename_i p hp
  cases hr
  obtain ⟨v, hk, hs⟩ := zVk_ hp hd
  exact ⟨v, h, hk, OpS.of_run (Nat.le_refl _) fun μ a w fr s zd => let ⟨v', h1, h2⟩ := hs μ h w a s fr; ⟨μ, v', w, h1, h2, .refl s⟩⟩
 ·split at hr
  ·rename_i l hl
   cases hr
   obtain ⟨v, hk, hs⟩ := zwi_ hl hd
   exact ⟨v, h, hk, OpS.of_run (Nat.le_refl _) fun μ a w fr s zd => let ⟨v', h1, h2⟩ := hs μ w a s fr; ⟨μ, v', w, h1, h2, .refl s⟩⟩
  ·split at hr
   ·rename_i q hq
    cases hr
    simp only [dop] at hd
    obtain ⟨B, mk, hk, hs⟩ := zIo_ hq hd
    refine ⟨mk h.next, h.new B, hk, OpS.of_run (Nat.le_succ _) fun μ a w fr s zd => ?_⟩
    obtain ⟨O, z, v', w', h1, h2, h3, h4, h5, h6, h7⟩ := hs μ h w a s fr
    have zn : μ h.next = none := zd _ (Nat.le_refl _) (by simp)
    exact ⟨_, v', w', h1, h7 _ _ (by simp [BMap.put]), Step.new' s zn (h6 _ (BMap.put_le zn)) h2 h3 h4 h5⟩
   ·split at hr
    ·rename_i e he
     cases hr
     exact zwy_ hC he hd
    ·cases hr
     simp [dop, deff] at hd
def zIj_ : AExit → Exit
 | .normal => .normal
 | .exit i => .exit i
 | .ret => .ret
structure At (ds : List Deferred) (G : Nat) (μ : BMap) (f : PFr) (h : AHeap) (n : Nat) (a : Act) (w : World) : Prop where
 sim : Sim G μ h w
 fr : FR μ f a.tmps
 df : a.defers = ds
 sz : n ≤ a.tmps.size
theorem ndOf {α : Type} {p : Op} {x : Option α} {r : α} (h : (bif zyq_ p then x else none) = some r) : (∀ c, p ≠ .defer c) ∧ x = some r := by
 cases hp : zyq_ p with
 | false => rw [hp] at h; cases h
 | true => rw [hp, cond_true] at h; exact ⟨fun c e => (by rw [e] at hp; cases hp), h⟩
theorem zix_ {n : Nat} {ops : Array Oper} {o : Oper} {ro : RO} (h : roOf P G n ops o = some ro) : ∀ c, o.op ≠ .defer c := by
 unfold roOf at h
 split at h
 ·cases h
 ·rename_i r hr; exact (ndOf hr).1
def RunS (P : Program) (G n : Nat) (c : Code) (f : PFr) (h : AHeap) (e : AExit) (f' : PFr) (h' : AHeap) : Prop :=
 h.next ≤ h'.next ∧ ∀ {ds : List Deferred} (rd : Option Nat) (μ : BMap) (a : Act) (w : World), At ds G μ f h n a w → Zed μ h.next h'.next →
  c.wpIn (Fd rd) 0 P (fun x a' w' => x = zIj_ e ∧ ∃ μ', At ds G μ' f' h' n a' w' ∧ Step G μ h w μ' h' w') a w
theorem At.weaken {μ : BMap} {f f' : PFr} {h : AHeap} {n : Nat} {a : Act} {w : World} (t : At ds G μ f h n a w) (hf : ∀ s v, f' s = some v → f s = some v) : At ds G μ f' h n a w :=
 ⟨t.sim, fun s v hv => t.fr s v (hf s v hv), t.df, t.sz⟩
theorem RunS.weaken {n : Nat} {c : Code} {f g : PFr} {h h' : AHeap} {e : AExit} {f' : PFr} (hr : RunS P G n c g h e f' h') (hf : ∀ s v, g s = some v → f s = some v) : RunS P G n c f h e f' h' :=
 ⟨hr.1, fun rd μ a w t z => hr.2 rd μ a w (t.weaken hf) z⟩
theorem zah_ {f : PFr} {s : Nat} {v : Value} (h : f s = some v) (t : Nat) (x : Value) (hx : pset f s v t = some x) : f t = some x := by
 unfold pset at hx
 cases hb : Nat.beq t s
 ·rw [hb] at hx; exact hx
 ·rw [hb] at hx
  have : t = s := Nat.eq_of_beq_eq_true hb
  subst this; cases hx; exact h
theorem zwj_ {F : Fence} {m : Nat} {ops : Array Oper} {Q Q' : Exit → Act → World → Prop} (hq : ∀ x a w, Q x a w → Q' x a w) : ∀ (l : List Nat) (a : Act) (w : World), wpOpsIn F m P ops Q l a w → wpOpsIn F m P ops Q' l a w
 | [], a, w, h => hq _ _ _ h
 | i :: l, a, w, h => by
  rw [wpOpsIn_cons] at h ⊢
  have lets : LetsOut Q → LetsOut Q' := fun ⟨a, w, q⟩ => ⟨a, w, hq _ _ _ q⟩
  have ih := zwj_ (F := F) (m := m) (ops := ops) hq l
  unfold wpOpIn at h ⊢
  split
  ·rename_i ho; rw [ho] at h; exact ih _ _ h
  ·rename_i o ho
   rw [ho] at h
   simp only at h
   split
   ·rename_i hw
    rw [if_pos hw] at h
    unfold Oper.wpIn at h ⊢
    refine ⟨h.1, ?_⟩
    have h := h.2
    generalize (o.semAt F.round a.eval).run P w = res at h
    cases res with
    | ok x w' =>
     cases x <;> simp only [Oper.uponIn] at h ⊢ <;> first
      | exact ih _ _ h
      | exact ⟨h.1, CallsIn.mono h.2 (fun e w'' he => by cases e <;> first | exact ih _ _ he | exact hq _ _ _ he | exact lets he)⟩
      | exact ⟨h.1, RowsIn.mono h.2 (fun v w'' hv => ih _ _ hv)⟩
      | exact ⟨h.1, RoundIn.mono h.2 (fun e w'' he => by cases e <;> first | exact ih _ _ he | exact hq _ _ _ he | exact lets he)⟩
    | halt x w' => cases x <;> simp only [Oper.uponIn] at h ⊢ <;> exact hq _ _ _ h
   ·rename_i hw; rw [if_neg hw] at h; exact ⟨h.1, ih _ _ h.2⟩
def zNu_ (P : Program) (G n : Nat) (ops : Array Oper) (l : List Nat) (f : PFr) (h : AHeap) (f' : PFr) (h' : AHeap) : Prop :=
 h.next ≤ h'.next ∧ ∀ {ds : List Deferred} (rd : Option Nat) (μ : BMap) (a : Act) (w : World), At ds G μ f h n a w → Zed μ h.next h'.next →
  wpOpsIn (Fd rd) 0 P ops (fun x a' w' => x = Exit.normal ∧ ∃ μ', At ds G μ' f' h' n a' w' ∧ Step G μ h w μ' h' w') l a w
theorem zev_ (a : Act) (d : Option Tmp) (v : Value) : (a.put d v).tmps.size = a.tmps.size := by cases d <;> simp [Act.put]
theorem zCr_ (a : Act) (d : Option Tmp) (v : Value) : (a.put d v).defers = a.defers := by cases d <;> rfl
theorem At.put {μ μ' : BMap} {f : PFr} {h h' : AHeap} {n : Nat} {a : Act} {w w' : World} (t : At ds G μ f h n a w) (s' : Sim G μ' h' w') (le : BLe μ μ') {d : Option Nat} {v v' : Value} (hv : VR μ' v v')
  (hd : ∀ x, d = some x → x < n) : At ds G μ' (pput f d v) h' n (a.put d v') w' :=
 ⟨s', FR.put (t.fr.mono le) hv (fun x hx => Nat.lt_of_lt_of_le (hd x hx) t.sz), by rw [zCr_]; exact t.df, by rw [zev_]; exact t.sz⟩
theorem zmf_ {μ : BMap} {f : PFr} {h : AHeap} {n : Nat} {a : Act} {w : World} (t : At ds G μ f h n a w) {ops : Array Oper} {j g : Nat} {v : Value} (hj : (ops[j]?).bind (·.dst) = some g) (hg : f g = some v) :
  (∀ b, v = .bool b → yielded ops a.tmps j = some b) ∧ (∀ vs, v = .tuple vs → yielded ops a.tmps j = none) := by
 have hv := t.fr g v hg
 unfold yielded
 rw [hj]
 simp only [Option.bind_some]
 rw [Array.getD_eq_getD_getElem?] at hv
 refine ⟨fun b e => ?_, fun vs e => ?_⟩
 ·subst e
  cases hq : a.tmps[g]? with
  | none => rw [hq] at hv; simp [undef] at hv; cases hv
  | some q => rw [hq] at hv; simp at hv; rw [zas_ hv]
 ·subst e
  cases hq : a.tmps[g]? with
  | none => rfl
  | some q => rw [hq] at hv; simp at hv; obtain ⟨x', rfl, _⟩ := hv.tuple_inv; rfl
theorem zZl_ (hC : zf_ P G C) {n : Nat} {ops : Array Oper} : ∀ (l : List Oper) (idx : List Nat) (ros : List RO) (f : PFr) (h : AHeap) (κ : PFr → AHeap → Option R),
  l.length = idx.length → (∀ (i : Nat) o, l[i]? = some o → ∃ j, idx[i]? = some j ∧ ops[j]? = some o) → zBh_ P G n ops l = some (ros.map zwc_) → dops C ros f h κ = some r →
  ∃ f' h', κ f' h' = some r ∧ zNu_ P G n ops idx f h f' h'
 | [], idx, ros, f, h, κ, hl, _, hr, hd => by
  cases idx with
  | cons _ _ => simp at hl
  | nil =>
   have : ros = [] := by cases ros <;> simp [zBh_] at hr ⊢
   subst this
   exact ⟨f, h, hd, Nat.le_refl _, fun rd μ a w t z => ⟨rfl, μ, t, .refl t.sim⟩⟩
 | o :: l, idx, ros, f, h, κ, hl, hi, hr, hd => by
  cases idx with
  | nil => simp at hl
  | cons i idx =>
   obtain ⟨j, hj, ho⟩ := hi 0 o rfl
   simp at hj; subst hj
   have hi' : ∀ (i : Nat) o, l[i]? = some o → ∃ j, idx[i]? = some j ∧ ops[j]? = some o := fun k o hk => by simpa using hi (k + 1) o (by simpa using hk)
   have hl' : l.length = idx.length := by simpa using hl
   simp only [zBh_] at hr
   split at hr
   ·cases hr
   ·rename_i ro hro
    split at hr
    ·cases hr
    ·rename_i t0 ht0
     obtain ⟨ro', t, rfl, hro', ht'⟩ : ∃ ro' t, ros = ro' :: t ∧ zwc_ ro' = ro ∧ t.map zwc_ = t0 := by
      cases ros with
      | nil => simp at hr
      | cons a b => simp at hr; exact ⟨a, b, rfl, hr.1.symm, hr.2.symm⟩
     have ht : zBh_ P G n ops l = some (t.map zwc_) := by rw [ht0, ht']
     have hrot : ro'.dst = ro.dst ∧ ro'.op = ro.op ∧ ro'.guard = ro.guard := by rw [← hro']; exact ⟨rfl, rfl, rfl⟩
     obtain ⟨hr1, hr2, hr3⟩ := hrot
     unfold roOf at hro
     split at hro
     ·cases hro
     ·rename_i rop hrop0
      obtain ⟨hnd, hrop⟩ := ndOf hrop0
      split at hro
      ·rename_i hdst
       have hdn : ∀ x, o.dst = some x → x < n := fun x hx => by rw [hx] at hdst; simpa [zGt_] using hdst
       have perform : ∀ (g : PFr), (∀ s v, g s = some v → f s = some v) → (∀ {ds : List Deferred} (μ : BMap) (a : Act) (w : World), At ds G μ f h n a w → Region.wanted o (yielded ops a.tmps) = true) →
         dop C rop g h (fun v h' => tagK ro'.tag v fun v => dops C t (pput g o.dst v) h' κ) = some r → ∃ f' h', κ f' h' = some r ∧ zNu_ P G n ops (i :: idx) f h f' h' := by
        intro g hgf hw hd
        obtain ⟨v, h1, hk, hn1, hs⟩ := zCk_ hC hrop hd
        have hk := zAo_ hk
        obtain ⟨f', h', hk', hn2, hrun⟩ := zZl_ hC l idx t (pput g o.dst v) h1 κ hl' hi' ht hk
        refine ⟨f', h', hk', Nat.le_trans hn1 hn2, fun rd μ a w at_ z => ?_⟩
        have at_g := at_.weaken hgf
        simp only [wpOpsIn, ho, hw μ a w at_, if_true]
        refine hs rd hnd μ a w at_g.fr at_.sim (z.le hn2) _ _ fun μ1 v' w1 hv st => ?_
        have z1 := st.zed z
        have at1 : At _ G μ1 (pput g o.dst v) h1 n (a.put o.dst v') w1 := at_g.put st.sim (st.le (z.le hn2)) hv hdn
        have := hrun rd μ1 (a.put o.dst v') w1 at1 z1
        refine zwj_ (fun x a' w' ⟨e, μ2, q1, q2⟩ => ⟨e, μ2, q1, st.trans q2⟩) _ _ _ this
       have skip : ∀ (g : PFr), (∀ s v, g s = some v → f s = some v) → (∀ {ds : List Deferred} (μ : BMap) (a : Act) (w : World), At ds G μ f h n a w → Region.wanted o (yielded ops a.tmps) = false) →
         dops C t (pput g o.dst undef) h κ = some r → ∃ f' h', κ f' h' = some r ∧ zNu_ P G n ops (i :: idx) f h f' h' := by
        intro g hgf hw hd
        obtain ⟨f', h', hk', hn2, hrun⟩ := zZl_ hC l idx t (pput g o.dst undef) h κ hl' hi' ht hd
        refine ⟨f', h', hk', hn2, fun rd μ a w at_ z => ?_⟩
        simp only [wpOpsIn, ho, hw μ a w at_, Bool.false_eq_true, if_false]
        refine ⟨fun _ _ => trivial, ?_⟩
        exact hrun rd μ (a.put o.dst undef) w ((at_.weaken hgf).put at_.sim (.refl μ) (.undef μ) hdn) z
       split at hro
       ·rename_i hgd
        cases hro
        simp only [dops, hr1, hr2, hr3] at hd
        exact perform f (fun _ _ h => h) (fun μ a w _ => by simp [Region.wanted, hgd]) hd
       ·rename_i jj want hgd
        split at hro
        ·rename_i g hg
         cases hro
         simp only [dops, hr1, hr2, hr3] at hd
         split at hd
         ·rename_i b hb
          have hy : ∀ {ds : List Deferred} (μ : BMap) (a : Act) (w : World), At ds G μ f h n a w → yielded ops a.tmps jj = some b := fun μ a w at_ => (zmf_ at_ hg hb).1 b rfl
          split at hd
          ·rename_i hbt; subst hbt
           cases want with
           | true => exact perform _ (zah_ hb) (fun μ a w at_ => by simp [Region.wanted, hgd, hy μ a w at_]) hd
           | false => exact skip _ (zah_ hb) (fun μ a w at_ => by simp [Region.wanted, hgd, hy μ a w at_]) hd
          ·rename_i hbf
           simp only [Bool.not_eq_true] at hbf; subst hbf
           cases want with
           | true => exact skip _ (zah_ hb) (fun μ a w at_ => by simp [Region.wanted, hgd, hy μ a w at_]) hd
           | false => exact perform _ (zah_ hb) (fun μ a w at_ => by simp [Region.wanted, hgd, hy μ a w at_]) hd
         ·rename_i vs hb
          exact skip f (fun _ _ h => h) (fun μ a w at_ => by simp [Region.wanted, hgd, (zmf_ at_ hg hb).2 _ rfl]) hd
         ·cases hd
        ·cases hro
      ·cases hro
end
def zUd_ (ops : Array Oper) (j i : Nat) : Prop := ∃ o e, ops[i]? = some o ∧ e ∈ o.after.toList ∧ Region.binds .any e = true ∧ e.on = j
inductive Anc (ops : Array Oper) : Nat → Nat → Prop
 | one {j i : Nat} : zUd_ ops j i → Anc ops j i
 | more {j k i : Nat} : Anc ops j k → zUd_ ops k i → Anc ops j i
theorem zvn_ (m i : Nat) : bitB m i = m.testBit i := by
 unfold bitB
 rw [Nat.testBit_eq_decide_div_mod_eq, Nat.shiftRight_eq_div_pow]
 cases h : Nat.beq (m / 2 ^ i % 2) 1
 ·symm; rw [decide_eq_false_iff_not]; intro e; rw [e] at h; cases h
 ·symm; rw [decide_eq_true_eq]; exact Nat.eq_of_beq_eq_true h
theorem zPC_ (a b i : Nat) : bitB (a ||| b) i = (bitB a i || bitB b i) := by simp [zvn_]
theorem zNB_ {a i : Nat} (h : bitB (1 <<< a) i = true) : a = i := by
 rw [zvn_, Nat.one_shiftLeft, Nat.testBit_two_pow] at h
 simpa using h
theorem zVo_ (i : Nat) : bitB 0 i = false := by simp [zvn_]
section
variable {ds : List Deferred} {G : Nat} {P : Program} {R : Type} {r : R} {C : za_} {ops : Array Oper} {ms : List Nat}
def MsOk (ops : Array Oper) (ms : List Nat) : Prop := ∀ i j, bitB (ms.getD i 0) j = true → Anc ops j i
theorem zvB_ {i : Nat} {o : Oper} (ho : ops[i]? = some o) (hm : MsOk ops ms) : ∀ j, bitB (zJx_ ms o) j = true → Anc ops j i := by
 have key : ∀ (l : List Edge) (m : Nat), (∀ e ∈ l, e ∈ o.after.toList) → (∀ j, bitB m j = true → Anc ops j i) →
   ∀ j, bitB (l.foldl (fun m e => bif Region.binds .any e then m ||| (1 <<< e.on) ||| ms.getD e.on 0 else m) m) j = true → Anc ops j i := by
  intro l
  induction l with
  | nil => intro m _ h j hj; exact h j hj
  | cons e l ih =>
   intro m hl h j hj
   refine ih _ (fun e he => hl e (List.mem_cons_of_mem _ he)) (fun j hj => ?_) j hj
   dsimp only at hj
   cases hb : Region.binds .any e
   ·rw [hb] at hj; exact h j hj
   ·rw [hb] at hj
    simp only [cond_true, zPC_, Bool.or_eq_true] at hj
    have hd : zUd_ ops e.on i := ⟨o, e, ho, hl e (List.mem_cons_self ..), hb, rfl⟩
    rcases hj with (hj | hj) | hj
    ·exact h j hj
    ·exact zNB_ hj ▸ .one hd
    ·exact .more (hm _ _ hj) hd
 exact key _ 0 (fun e he => he) (fun j hj => by rw [zVo_] at hj; cases hj)
theorem zns_ : ∀ (l : List Oper) (ms : List Nat), (∀ i o, l[i]? = some o → ops[ms.length + i]? = some o) → MsOk ops ms → MsOk ops (zOc_ l ms)
 | [], ms, _, hm => hm
 | o :: l, ms, hl, hm => by
  refine zns_ l _ (fun i o' ho => ?_) (fun i j hj => ?_)
  ·have := hl (i + 1) o' (by simpa using ho)
   rw [List.length_append]; simp; rw [← this]; congr 1; omega
  ·rw [List.getD_eq_getElem?_getD, List.getElem?_append] at hj
   split at hj
   ·exact hm i j (by rw [List.getD_eq_getElem?_getD]; exact hj)
   ·by_cases he : i = ms.length
    ·subst he
     simp at hj
     exact zvB_ (by simpa using hl 0 o rfl) hm j hj
    ·have : [zJx_ ms o][i - ms.length]? = none := by simp; omega
     rw [this] at hj; simp [zVo_] at hj
theorem zZw_ : MsOk ops (zOc_ ops.toList []) :=
 zns_ _ _ (fun i o h => by simpa using h) (fun i j hj => by simp [zVo_] at hj)
def OkAt (ops : Array Oper) (ms : List Nat) (L : Nat → Prop) (ps : List RD) (e : RD) : Prop :=
 (∀ j, zUd_ ops j e.idx → L j ∨ ∃ p ∈ ps, p.idx = j) ∧ (∀ p ∈ ps, p.idx ≠ e.idx ∧ (Anc ops p.idx e.idx ∨ (serB e.ro.op = false ∧ zDd_ p e = true))) ∧ ps.countP (zIt_ ms e.idx) ≤ e.win
def Good (ops : Array Oper) (ms : List Nat) (L : Nat → Prop) : List RD → List RD → Prop
 | _, [] => True
 | ps, e :: es => OkAt ops ms L ps e ∧ Good ops ms L (e :: ps) es
theorem Good.at {L : Nat → Prop} {e : RD} {post : List RD} : ∀ {pre ps : List RD}, Good ops ms L ps (pre ++ e :: post) → OkAt ops ms L (pre.reverse ++ ps) e
 | [], ps, h => h.1
 | p :: pre, ps, h => by
  have := Good.at (pre := pre) h.2
  simpa using this
theorem Good.mono {L L' : Nat → Prop} (hL : ∀ j, L j → L' j) : ∀ {es ps ps' : List RD}, (∀ p ∈ ps, p ∈ ps' ∨ L' p.idx) → ps'.Sublist ps → Good ops ms L ps es → Good ops ms L' ps' es
 | [], _, _, _, _, _ => trivial
 | e :: es, ps, ps', h1, h2, ⟨⟨g1, g2, g3⟩, g4⟩ => by
  refine ⟨⟨fun j hj => ?_, fun p hp => g2 p (h2.subset hp), Nat.le_trans h2.countP_le g3⟩, ?_⟩
  ·rcases g1 j hj with h | ⟨p, hp, rfl⟩
   ·exact .inl (hL _ h)
   ·rcases h1 p hp with h | h
    ·exact .inr ⟨p, h, rfl⟩
    ·exact .inl h
  ·refine Good.mono hL (fun p hp => ?_) (h2.cons_cons e) g4
   rcases List.mem_cons.1 hp with rfl | hp
   ·exact .inl (List.mem_cons_self ..)
   ·rcases h1 p hp with h | h
    ·exact .inl (List.mem_cons_of_mem _ h)
    ·exact .inr h
theorem Good.drop {L L' : Nat → Prop} (hL : ∀ j, L j → L' j) {e : RD} (he : L' e.idx) {post : List RD} : ∀ {pre ps : List RD}, Good ops ms L ps (pre ++ e :: post) → Good ops ms L' ps (pre ++ post)
 | [], ps, ⟨_, h⟩ => h.mono hL (fun p hp => by
   rcases List.mem_cons.1 hp with rfl | hp
   ·exact .inr he
   ·exact .inl hp) (List.sublist_cons_self ..)
 | p :: pre, ps, ⟨⟨g1, g2, g3⟩, h⟩ => ⟨⟨fun j hj => (g1 j hj).imp (hL j) id, g2, g3⟩, Good.drop hL he h⟩
theorem zRj_ {s : Nat} : ∀ {l : List Nat}, memB s l = true ↔ s ∈ l
 | [] => by simp [memB]
 | t :: l => by
  unfold memB
  cases h : Nat.beq s t
  ·have : s ≠ t := fun e => by subst e; rw [Nat.beq_refl] at h; cases h
   simp [zRj_ (l := l), this]
  ·simp [Nat.eq_of_beq_eq_true h]
theorem zCn_ {ls : List Nat} {f : PFr} {s : Nat} {v : Value} (h : zF_ ls f s = some v) : f s = some v := by
 unfold zF_ at h
 cases hb : memB s ls <;> rw [hb] at h
 ·cases h
 ·exact h
theorem zey_ {ls : List Nat} {f : PFr} {d : Nat} {v : Value} (h : memB d ls = false) : zF_ ls (pset f d v) = zF_ ls f := by
 funext s
 unfold zF_ pset
 cases hb : Nat.beq s d
 ·rfl
 ·rw [Nat.eq_of_beq_eq_true hb, h]; rfl
theorem zLc_ {ls : List Nat} {f : PFr} {d : Option Nat} {v : Value} (h : ∀ x, d = some x → memB x ls = false) : zF_ ls (pput f d v) = zF_ ls f := by
 cases d with
 | none => rfl
 | some d => exact zey_ (h d rfl)
theorem zAA_ {f : PFr} {d e : Nat} {u v : Value} (h : d ≠ e) : pset (pset f d u) e v = pset (pset f e v) d u := by
 funext s
 unfold pset
 cases hb : Nat.beq s d <;> cases hc : Nat.beq s e <;> try rfl
 exact absurd ((Nat.eq_of_beq_eq_true hb).symm.trans (Nat.eq_of_beq_eq_true hc)) h
theorem zEi_ {f : PFr} {d e : Option Nat} {u v : Value} (h : ∀ x, d = some x → e ≠ some x) : pput (pput f d u) e v = pput (pput f e v) d u := by
 cases d <;> cases e <;> try rfl
 exact zAA_ fun e => h _ rfl (e ▸ rfl)
theorem zNk_ {f : PFr} {d : Nat} {v : Value} (h : f d = some v) : pset f d v = f := by
 funext s
 unfold pset
 cases hb : Nat.beq s d
 ·rfl
 ·rw [Nat.eq_of_beq_eq_true hb, h]; rfl
theorem zjg_ {p e : RD} (h : zDd_ p e = true) :
  (∀ x, p.ro.dst = some x → memB x e.looks = false) ∧ (∀ x, e.ro.dst = some x → memB x p.looks = false) ∧ (∀ x, p.ro.dst = some x → e.ro.dst ≠ some x) := by
 unfold zDd_ at h
 simp only [Bool.and_eq_true] at h
 obtain ⟨⟨h1, h2⟩, h3⟩ := h
 refine ⟨fun x hx => ?_, fun x hx => ?_, fun x hx hy => ?_⟩
 ·rw [hx] at h1; simpa using h1
 ·rw [hx] at h2; simpa using h2
 ·rw [hx, hy] at h3; simp [Nat.beq_refl] at h3
def zYf_ (G n : Nat) (ops : Array Oper) (o : Oper) (f : PFr) (b : Bool) : Prop := ∀ {ds : List Deferred} (h : AHeap) (μ : BMap) (a : Act) (w : World), At ds G μ f h n a w → Region.wanted o (yielded ops a.tmps) = b
structure Fits (n : Nat) (ops : Array Oper) (e : RD) (o : Oper) : Prop where
 at' : ops[e.idx]? = some o
 dst : o.dst = e.ro.dst
 lt : ∀ x, o.dst = some x → x < n
def Calm (P : Program) (G n : Nat) (ops : Array Oper) (e : RD) (f : PFr) (hs : List AHeap) (v : Value) : Prop :=
 ∃ o, Fits n ops e o ∧ ((zYf_ G n ops o (zF_ e.looks f) false ∧ v = undef) ∨ (zYf_ G n ops o (zF_ e.looks f) true ∧ ∀ H ∈ hs, OpS P G o (zF_ e.looks f) H v H))
def Act1 (P : Program) (G n : Nat) (ops : Array Oper) (e : RD) (f : PFr) (h : AHeap) (v : Value) (h1 : AHeap) : Prop :=
 ∃ o, Fits n ops e o ∧ ((zYf_ G n ops o (zF_ e.looks f) false ∧ v = undef ∧ h1 = h) ∨ (zYf_ G n ops o (zF_ e.looks f) true ∧ OpS P G o (zF_ e.looks f) h v h1))
def Done (P : Program) (G n : Nat) (ops : Array Oper) (e : RD) (f : PFr) (h : AHeap) (hs : List AHeap) (v : Value) (h1 : AHeap) : Prop :=
 (serB e.ro.op = true ∧ Act1 P G n ops e f h v h1) ∨ (serB e.ro.op = false ∧ h1 = h ∧ Calm P G n ops e f ((h :: hs).take (e.win + 1)) v)
def Tr (P : Program) (G n : Nat) (ops : Array Oper) : List RD → PFr → AHeap → List AHeap → PFr → AHeap → Prop
 | [], f, h, _, f', h' => f' = f ∧ h' = h
 | e :: es, f, h, hs, f', h' => ∃ v h1, h.next ≤ h1.next ∧ Done P G n ops e f h hs v h1 ∧ Tr P G n ops es (pput f e.ro.dst v) h1 (bif serB e.ro.op then h :: hs else hs) f' h'
variable {n : Nat}
theorem Calm.act {e : RD} {f : PFr} {h : AHeap} {hs : List AHeap} {v : Value} (hh : h ∈ hs) (c : Calm P G n ops e f hs v) : Act1 P G n ops e f h v h := by
 obtain ⟨o, ft, h1 | h1⟩ := c
 ·exact ⟨o, ft, .inl ⟨h1.1, h1.2, rfl⟩⟩
 ·exact ⟨o, ft, .inr ⟨h1.1, h1.2 _ hh⟩⟩
theorem Calm.frame {e : RD} {f g : PFr} {hs : List AHeap} {v : Value} (he : zF_ e.looks f = zF_ e.looks g) (c : Calm P G n ops e f hs v) : Calm P G n ops e g hs v := by
 unfold Calm at c ⊢; rwa [he] at c
theorem Act1.frame {e : RD} {f g : PFr} {h h1 : AHeap} {v : Value} (he : zF_ e.looks f = zF_ e.looks g) (c : Act1 P G n ops e f h v h1) : Act1 P G n ops e g h v h1 := by
 unfold Act1 at c ⊢; rwa [he] at c
theorem Done.frame {e : RD} {f g : PFr} {h h1 : AHeap} {hs : List AHeap} {v : Value} (he : zF_ e.looks f = zF_ e.looks g) (c : Done P G n ops e f h hs v h1) : Done P G n ops e g h hs v h1 :=
 c.imp (fun c => ⟨c.1, c.2.frame he⟩) (fun c => ⟨c.1, c.2.1, c.2.2.frame he⟩)
theorem Calm.sub {e : RD} {f : PFr} {hs hs' : List AHeap} {v : Value} (hh : ∀ H ∈ hs', H ∈ hs) (c : Calm P G n ops e f hs v) : Calm P G n ops e f hs' v := by
 obtain ⟨o, ft, h1 | h1⟩ := c
 ·exact ⟨o, ft, .inl h1⟩
 ·exact ⟨o, ft, .inr ⟨h1.1, fun H hH => h1.2 H (hh H hH)⟩⟩
theorem Done.act {e : RD} {f : PFr} {h h1 : AHeap} {hs : List AHeap} {v : Value} (c : Done P G n ops e f h hs v h1) : Act1 P G n ops e f h v h1 := by
 rcases c with c | ⟨_, rfl, c⟩
 ·exact c.2
 ·exact c.act (by simp)
theorem Tr.next : ∀ {es : List RD} {f : PFr} {h : AHeap} {hs : List AHeap} {f' : PFr} {h' : AHeap}, Tr P G n ops es f h hs f' h' → h.next ≤ h'.next
 | [], _, _, _, _, _, ⟨_, e⟩ => by rw [e]; exact Nat.le_refl _
 | e :: es, _, _, _, _, _, ⟨v, h1, hn, _, t⟩ => Nat.le_trans hn t.next
theorem Tr.move {e : RD} (he : serB e.ro.op = false) {post : List RD} : ∀ {pre : List RD} {f : PFr} {h : AHeap} {hs : List AHeap} {f' : PFr} {h' : AHeap}, Tr P G n ops (pre ++ e :: post) f h hs f' h' →
  (∀ p ∈ pre, zDd_ p e = true) → pre.countP (fun p => serB p.ro.op) ≤ e.win →
  ∃ v, Calm P G n ops e f ((h :: hs).take (e.win - pre.countP (fun p => serB p.ro.op) + 1)) v ∧ Tr P G n ops (pre ++ post) (pput f e.ro.dst v) h hs f' h'
 | [], f, h, hs, f', h', ⟨v, h1, hn, d, t⟩, _, _ => by
  rcases d with ⟨d, _⟩ | ⟨_, rfl, d⟩
  ·rw [he] at d; cases d
  ·rw [he] at t; exact ⟨v, by simpa using d, t⟩
 | p :: pre, f, h, hs, f', h', ⟨v1, h1, hn, d, t⟩, ha, hc => by
  rw [List.countP_cons] at hc
  obtain ⟨v, c, t'⟩ := Tr.move he (pre := pre) t (fun q hq => ha q (List.mem_cons_of_mem _ hq)) (by omega)
  obtain ⟨a1, a2, a3⟩ := zjg_ (ha p (List.mem_cons_self ..))
  refine ⟨v, ?_, v1, h1, hn, d.frame (zLc_ a2).symm, by rw [zEi_ a3] at t'; exact t'⟩
  have c := c.frame (zLc_ a1)
  rw [List.countP_cons]
  rcases d with ⟨hs1, _⟩ | ⟨hs1, rfl, _⟩
  ·rw [hs1] at c hc
   refine c.sub fun H hH => ?_
   simp only [hs1, if_true] at hH hc ⊢
   simp only [cond_true, List.take_succ_cons]
   refine List.mem_cons_of_mem _ ?_
   have : e.win - (List.countP (fun p => serB p.ro.op) pre + 1) + 1 = e.win - List.countP (fun p => serB p.ro.op) pre := by omega
   rw [this] at hH
   exact hH
  ·rw [hs1] at c
   refine c.sub fun H hH => ?_
   simpa [hs1] using hH
theorem zLz_ {e : RD} {f : PFr} {h h1 : AHeap} {v : Value} {Q : Exit → Act → World → Prop} {K : Act → World → Prop} {μ : BMap} {a : Act} {w : World} (d : Act1 P G n ops e f h v h1) (t : At ds G μ f h n a w) (z : Zed μ h.next h1.next)
  (hnd : ∀ o ∈ ops.toList, ∀ c, o.op ≠ .defer c) (rd : Option Nat) (hK : ∀ μ1 a1 w1, At ds G μ1 (pput f e.ro.dst v) h1 n a1 w1 → Step G μ h w μ1 h1 w1 → K a1 w1) : wpOpIn (Fd rd) 0 P ops Q e.idx K a w := by
 obtain ⟨o, ⟨ho, hd, hlt⟩, d⟩ := d
 have tk : At ds G μ (zF_ e.looks f) h n a w := t.weaken fun s v => zCn_
 unfold wpOpIn
 rw [ho]
 simp only
 have hm : o ∈ ops.toList := Array.mem_toList_iff.2 (Array.mem_of_getElem? ho)
 rcases d with ⟨hw, rfl, rfl⟩ | ⟨hw, hs⟩
 ·rw [hw h1 μ a w tk, if_neg (by simp)]
  refine ⟨fun _ _ => trivial, hK μ _ w ?_ (.refl t.sim)⟩
  rw [hd] at hlt ⊢
  exact t.put t.sim (.refl μ) (.undef μ) hlt
 ·rw [hw h μ a w tk, if_pos rfl]
  refine hs.2 rd (hnd o hm) μ a w tk.fr t.sim z _ _ fun μ1 v' w1 hv st => hK μ1 _ w1 ?_ st
  rw [hd] at hlt ⊢
  exact t.put st.sim (st.le z) hv hlt
theorem zqj_ {listed : Array Bool} (hc : ∀ i j, listed.getD i false = true → zUd_ ops j i → listed.getD j false = true) {j i : Nat} (h : Anc ops j i) : (∀ j, zUd_ ops j i → listed.getD j false = true) → listed.getD j false = true := by
 induction h with
 | one h => intro k; exact k _ h
 | more h hd ih => intro k; exact ih fun j hj => hc _ _ (k _ hd) hj
theorem zHz_ {Q : Exit → Act → World → Prop} (hms : MsOk ops ms) (hnd : ∀ o ∈ ops.toList, ∀ c, o.op ≠ .defer c) (rd : Option Nat) : ∀ (k : Nat) (es : List RD) (listed : Array Bool) (f : PFr) (h : AHeap) (hs : List AHeap) (f' : PFr) (h' : AHeap) (μ : BMap) (a : Act) (w : World),
  es.length = k → listed.size = ops.size → (∀ e ∈ es, e.idx < ops.size) → (∀ i, i < ops.size → (listed.getD i true = false ↔ ∃ e ∈ es, e.idx = i)) → (∀ i j, listed.getD i false = true → zUd_ ops j i → listed.getD j false = true) →
  Good ops ms (fun j => listed.getD j false = true) [] es → Tr P G n ops es f h hs f' h' → At ds G μ f h n a w → Zed μ h.next h'.next →
  (∀ μ' a' w', At ds G μ' f' h' n a' w' → Step G μ h w μ' h' w' → Q .normal a' w') → wpAnyIn (Fd rd) 0 P .any ops Q k listed a w := by
 intro k
 have rdy0 : ∀ (listed : Array Bool) i, listed.size = ops.size → (i ∈ Region.ready .any ops listed ↔ i < ops.size ∧ listed.getD i true = false ∧ ∀ j, zUd_ ops j i → listed.getD j false = true) := by
  intro listed i _
  unfold Region.ready
  simp only [List.mem_filter, List.mem_range, Bool.and_eq_true, Bool.not_eq_true']
  refine and_congr_right fun hi => and_congr_right fun _ => ?_
  obtain ⟨o, ho⟩ : ∃ o, ops[i]? = some o := ⟨ops[i], by simp [hi]⟩
  rw [ho]
  simp only [Option.map_some, Option.getD_some, Array.all_eq_true_iff_forall_mem]
  constructor
  ·rintro h j ⟨o', e, ho', he, hb, rfl⟩
   rw [ho] at ho'; cases ho'
   have := h e (by simpa using he)
   simpa [hb] using this
  ·intro h e he
   cases hb : Region.binds .any e
   ·rfl
   ·simpa using h e.on ⟨o, e, ho, by simpa using he, hb, rfl⟩
 induction k with
 | zero =>
  intro es listed f h hs f' h' μ a w hl hsz hlt hun hcl hg ht hat hz hQ
  have : es = [] := List.length_eq_zero_iff.1 hl
  subst this
  obtain ⟨rfl, rfl⟩ := ht
  refine ⟨?_, hQ μ a w hat (.refl hat.sim)⟩
  apply List.eq_nil_iff_forall_not_mem.2
  intro i hi
  obtain ⟨h1, h2, _⟩ := (rdy0 listed i hsz).1 hi
  obtain ⟨e, he, _⟩ := (hun i h1).1 h2
  cases he
 | succ k ih =>
  intro es listed f h hs f' h' μ a w hl hsz hlt hun hcl hg ht hat hz hQ
  refine ⟨fun hr => ?_, fun i hi => ?_⟩
  ·match es, hl with
   | e :: es, hl =>
    have := (rdy0 listed e.idx hsz).2 ⟨hlt e (List.mem_cons_self ..), (hun _ (hlt e (List.mem_cons_self ..))).2 ⟨e, List.mem_cons_self .., rfl⟩, fun j hj => by
     rcases hg.1.1 j hj with h | ⟨p, hp, _⟩
     ·exact h
     ·cases hp⟩
    rw [hr] at this; cases this
  ·obtain ⟨h1, h2, h3⟩ := (rdy0 listed i hsz).1 hi
   obtain ⟨e, he, rfl⟩ := (hun i h1).1 h2
   obtain ⟨pre, post, rfl⟩ := List.append_of_mem he
   have hok := hg.at
   have nanc : ∀ p ∈ pre, ¬ Anc ops p.idx e.idx := fun p hp ha => by
    have hpu := (hun p.idx (hlt p (by simp [hp]))).2 ⟨p, by simp [hp], rfl⟩
    have := zqj_ hcl ha h3
    rw [Array.getD_eq_getD_getElem?] at this hpu
    cases hq : listed[p.idx]? with
    | none => rw [hq] at this; simp at this
    | some b => rw [hq] at this hpu; simp at this hpu; rw [this] at hpu; cases hpu
   have hpre : ∀ p ∈ pre, p.idx ≠ e.idx ∧ serB e.ro.op = false ∧ zDd_ p e = true := fun p hp => by
    obtain ⟨q1, q2⟩ := hok.2.1 p (by simp [hp])
    exact ⟨q1, q2.resolve_left (nanc p hp)⟩
   have main : ∃ v h1 hs1, h.next ≤ h1.next ∧ h1.next ≤ h'.next ∧ Act1 P G n ops e f h v h1 ∧ Tr P G n ops (pre ++ post) (pput f e.ro.dst v) h1 hs1 f' h' := by
    cases pre with
    | nil =>
     obtain ⟨v, h1, hn, d, t⟩ := ht
     exact ⟨v, h1, _, hn, t.next, d.act, t⟩
    | cons p pre =>
     have hcalm := (hpre p (List.mem_cons_self ..)).2.1
     have hcnt : (p :: pre).countP (fun p => serB p.ro.op) ≤ e.win := by
      refine Nat.le_trans ?_ hok.2.2
      rw [List.append_nil, List.countP_reverse]
      refine List.countP_mono_left fun q hq hsq => ?_
      unfold zIt_
      rw [hsq, Bool.true_and, Bool.not_eq_true']
      cases hb : bitB (ms.getD e.idx 0) q.idx with
      | false => rfl
      | true => exact absurd (hms _ _ hb) (nanc q hq)
     obtain ⟨v, c, t⟩ := Tr.move hcalm ht (fun q hq => (hpre q hq).2.2) hcnt
     exact ⟨v, h, hs, Nat.le_refl _, t.next, c.act (by simp), t⟩
   obtain ⟨v, hh1, hs1, hn1, hn2, act, tr⟩ := main
   have hx : e.idx < listed.size := by rw [hsz]; exact h1
   refine zLz_ act hat (hz.le hn2) hnd rd fun μ1 a1 w1 at1 st => ?_
   refine ih (pre ++ post) (listed.setIfInBounds e.idx true) _ hh1 hs1 f' h' μ1 a1 w1 (by simp at hl ⊢; omega) (by simp [hsz]) (fun q hq => hlt q (by
     rcases List.mem_append.1 hq with h | h
     ·simp [h]
     ·simp [h])) (fun j hj => ?_) (fun j k' hj hd => ?_) ?_ tr at1 (st.zed hz) fun μ2 a2 w2 at2 st2 => hQ μ2 a2 w2 at2 (st.trans st2)
   ·by_cases hje : j = e.idx
    ·subst hje
     rw [Array.getD_eq_getD_getElem?, Array.getElem?_setIfInBounds_self_of_lt hx]
     simp only [Option.getD_some, Bool.true_eq_false, false_iff]
     rintro ⟨q, hq, hqe⟩
     rcases List.mem_append.1 hq with hq | hq
     ·exact (hpre q hq).1 hqe
     ·obtain ⟨a', b', rfl⟩ := List.append_of_mem hq
      have := (Good.at (pre := pre ++ e :: a') (e := q) (post := b') (by simpa using hg)).2.1 e (by simp)
      exact this.1 hqe.symm
    ·rw [getD_set_ne _ (fun x => hje x.symm), hun j hj]
     constructor
     ·rintro ⟨q, hq, rfl⟩
      refine ⟨q, ?_, rfl⟩
      simp only [List.mem_append, List.mem_cons] at hq ⊢
      rcases hq with h | rfl | h
      ·exact .inl h
      ·exact absurd rfl hje
      ·exact .inr h
     ·rintro ⟨q, hq, rfl⟩
      refine ⟨q, ?_, rfl⟩
      simp only [List.mem_append, List.mem_cons] at hq ⊢
      exact hq.imp id .inr
   ·by_cases hje : j = e.idx
    ·subst hje; exact getD_set_true (h3 _ hd)
    ·rw [getD_set_ne _ (fun x => hje x.symm)] at hj
     exact getD_set_true (hcl _ _ hj hd)
   ·refine hg.drop (fun j hj => getD_set_true hj) ?_
    show (listed.setIfInBounds e.idx true).getD e.idx false = true
    rw [Array.getD_eq_getD_getElem?, Array.getElem?_setIfInBounds_self_of_lt hx]; rfl
theorem zBx_ {o : Oper} {ro : ROp} {g : PFr} {h : AHeap} {hs : List AHeap} {win : Nat} {κ : Value → AHeap → Option R} (hC : zf_ P G C) (hr : zmi_ P G o = some ro) (hd : ddop C ro win g h hs κ = some r) :
  ∃ v h1, κ v h1 = some r ∧ h.next ≤ h1.next ∧ ((serB ro = true ∧ OpS P G o g h v h1) ∨ (serB ro = false ∧ h1 = h ∧ ∀ H ∈ (h :: hs).take (win + 1), OpS P G o g H v H)) := by
 have hr0 := hr
 unfold zmi_ at hr
 split at hr
 ·rename_i p hp
  cases hr
  obtain ⟨v, hk, hs'⟩ := zVk_ hp hd
  exact ⟨v, h, hk, Nat.le_refl _, .inr ⟨rfl, rfl, fun H _ => OpS.of_run (Nat.le_refl _) fun μ a w fr s zd => let ⟨v', h1, h2⟩ := hs' μ H w a s fr; ⟨μ, v', w, h1, h2, .refl s⟩⟩⟩
 ·split at hr
  ·rename_i l hl
   cases hr
   have rd : ∀ {R : Type} {r : R} {H : AHeap} {κ : Value → Option R}, zUe_ l g H κ = some r → ∃ v, κ v = some r ∧ OpS P G o g H v H := fun hd => by
    obtain ⟨v, hk, hs'⟩ := zwi_ hl hd
    exact ⟨v, hk, OpS.of_run (Nat.le_refl _) fun μ a w fr s zd => let ⟨v', h1, h2⟩ := hs' μ w a s fr; ⟨μ, v', w, h1, h2, .refl s⟩⟩
   cases win with
   | zero =>
    obtain ⟨v, hk, hS⟩ := rd hd
    exact ⟨v, h, hk, Nat.le_refl _, .inr ⟨rfl, rfl, fun H hH => by simp at hH; rw [hH]; exact hS⟩⟩
   | succ win =>
    simp only [ddop] at hd
    obtain ⟨v, hk, hS⟩ := rd hd
    obtain ⟨hw, hk⟩ := zti_ hk
    refine ⟨v, h, hk, Nat.le_refl _, .inr ⟨rfl, rfl, fun H hH => ?_⟩⟩
    rw [List.take_succ_cons] at hH
    rcases List.mem_cons.1 hH with rfl | hH
    ·exact hS
    ·obtain ⟨v', e, hS'⟩ := rd (hw H hH)
     cases e; exact hS'
  ·split at hr
   ·cases hr
    obtain ⟨v, h1, hk, hS⟩ := zCk_ hC hr0 (κ := κ) (h := h) (f := g) (by simpa only [ddop, dop] using hd)
    exact ⟨v, h1, hk, hS.1, .inl ⟨rfl, hS⟩⟩
   ·split at hr
    ·cases hr
     obtain ⟨v, h1, hk, hS⟩ := zCk_ hC hr0 (κ := κ) (h := h) (f := g) (by simpa only [ddop, dop] using hd)
     exact ⟨v, h1, hk, hS.1, .inl ⟨rfl, hS⟩⟩
    ·cases hr
     simp [ddop, deff] at hd
theorem zoq_ (hC : zf_ P G C) : ∀ (es : List RD) (f : PFr) (h : AHeap) (hs : List AHeap) (κ : PFr → AHeap → Option R),
  (∀ e ∈ es, ∃ o, ops[e.idx]? = some o ∧ roOf P G n ops o = some (zwc_ e.ro) ∧ e.looks = o.looksAt ops) → zZf_ C es f h hs κ = some r → ∃ f' h', κ f' h' = some r ∧ Tr P G n ops es f h hs f' h'
 | [], f, h, hs, κ, _, hd => ⟨f, h, hd, rfl, rfl⟩
 | e :: es, f, h, hs, κ, hes, hd => by
  obtain ⟨o, ho, hro, hlk⟩ := hes e (List.mem_cons_self ..)
  have hes' := fun e' he' => hes e' (List.mem_cons_of_mem _ he')
  unfold roOf at hro
  split at hro
  ·cases hro
  ·rename_i rop hrop0
   have hrop := (ndOf hrop0).2
   split at hro
   ·rename_i hdst
    have hdn : ∀ x, o.dst = some x → x < n := fun x hx => by rw [hx] at hdst; simpa [zGt_] using hdst
    have perform : ∀ (hdd : e.ro.dst = o.dst) (hop : e.ro.op = rop), zYf_ G n ops o (zF_ e.looks f) true → ddop C e.ro.op e.win (zF_ e.looks f) h hs (fun v h' => tagK e.ro.tag v fun v => zZf_ C es (pput f e.ro.dst v) h' (bif serB e.ro.op then h :: hs else hs) κ) = some r →
      ∃ f' h', κ f' h' = some r ∧ Tr P G n ops (e :: es) f h hs f' h' := by
     intro hdd hop hw hd
     obtain ⟨v, h1, hk, hn, hS⟩ := zBx_ hC (hop ▸ hrop) hd
     obtain ⟨f', h', hk', tr⟩ := zoq_ hC es _ h1 _ κ hes' (zAo_ hk)
     have ft : Fits n ops e o := ⟨ho, hdd.symm, hdn⟩
     refine ⟨f', h', hk', v, h1, hn, ?_, tr⟩
     rcases hS with ⟨s1, s2⟩ | ⟨s1, s2, s3⟩
     ·exact .inl ⟨s1, o, ft, .inr ⟨hw, s2⟩⟩
     ·exact .inr ⟨s1, s2, o, ft, .inr ⟨hw, s3⟩⟩
    have skip : ∀ (hdd : e.ro.dst = o.dst), zYf_ G n ops o (zF_ e.looks f) false → zZf_ C es (pput f e.ro.dst undef) h (bif serB e.ro.op then h :: hs else hs) κ = some r →
      ∃ f' h', κ f' h' = some r ∧ Tr P G n ops (e :: es) f h hs f' h' := by
     intro hdd hw hd
     obtain ⟨f', h', hk', tr⟩ := zoq_ hC es _ h _ κ hes' hd
     have ft : Fits n ops e o := ⟨ho, hdd.symm, hdn⟩
     refine ⟨f', h', hk', undef, h, Nat.le_refl _, ?_, tr⟩
     cases hs' : serB e.ro.op with
     | true => exact .inl ⟨hs', o, ft, .inl ⟨hw, rfl, rfl⟩⟩
     | false => exact .inr ⟨hs', rfl, o, ft, .inl ⟨hw, rfl⟩⟩
    split at hro
    ·rename_i hgd
     have e0 : zwc_ e.ro = ⟨o.dst, rop, none, none⟩ := by simpa using hro.symm
     have q1 : e.ro.dst = o.dst := congrArg RO.dst e0
     have q2 : e.ro.op = rop := congrArg RO.op e0
     have q3 : e.ro.guard = none := congrArg RO.guard e0
     simp only [zZf_, q3] at hd
     exact perform q1 q2 (fun h μ a w _ => by simp [Region.wanted, hgd]) hd
    ·rename_i jj want hgd
     split at hro
     ·rename_i g hg
      have e0 : zwc_ e.ro = ⟨o.dst, rop, some (g, want), none⟩ := by simpa using hro.symm
      have q1 : e.ro.dst = o.dst := congrArg RO.dst e0
      have q2 : e.ro.op = rop := congrArg RO.op e0
      have q3 : e.ro.guard = some (g, want) := congrArg RO.guard e0
      have hgm : memB g e.looks = true := by
       rw [zRj_, hlk]
       unfold Oper.looksAt
       rw [hgd]; simp only; rw [hg]; simp
      have hkg : zF_ e.looks f g = f g := by unfold zF_; rw [hgm]; rfl
      simp only [zZf_, q3] at hd
      split at hd
      ·rename_i b hb
       have hy : ∀ {ds : List Deferred} (h : AHeap) (μ : BMap) (a : Act) (w : World), At ds G μ (zF_ e.looks f) h n a w → yielded ops a.tmps jj = some b := fun h μ a w at_ => (zmf_ at_ hg (hkg.trans hb)).1 b rfl
       split at hd
       ·rename_i hbt; subst hbt
        rw [zNk_ hb] at hd
        cases want with
        | true => exact perform q1 q2 (fun h μ a w at_ => by simp [Region.wanted, hgd, hy h μ a w at_]) hd
        | false => exact skip q1 (fun h μ a w at_ => by simp [Region.wanted, hgd, hy h μ a w at_]) hd
       ·rename_i hbf
        simp only [Bool.not_eq_true] at hbf; subst hbf
        rw [zNk_ hb] at hd
        cases want with
        | true => exact skip q1 (fun h μ a w at_ => by simp [Region.wanted, hgd, hy h μ a w at_]) hd
        | false => exact perform q1 q2 (fun h μ a w at_ => by simp [Region.wanted, hgd, hy h μ a w at_]) hd
      ·rename_i vs hb
       exact skip q1 (fun h μ a w at_ => by simp [Region.wanted, hgd, (zmf_ at_ hg (hkg.trans hb)).2 _ rfl]) hd
      ·cases hd
     ·cases hro
   ·cases hro
theorem ztv_ : ∀ {is : List Nat} {ps es : List RD}, zAr_ P G n ops ms ps is = some es → MsOk ops ms →
  es.map (·.idx) = is ∧ (∀ e ∈ es, ∃ o, ops[e.idx]? = some o ∧ roOf P G n ops o = some e.ro ∧ e.looks = o.looksAt ops) ∧ ∀ L, Good ops ms L ps es
 | [], ps, es, h, _ => by simp [zAr_] at h; subst h; exact ⟨rfl, (fun e he => nomatch he), fun L => trivial⟩
 | i :: is, ps, es, h, hms => by
  simp only [zAr_] at h
  split at h
  ·cases h
  ·rename_i e he
   cases hk : okE ops ms ps e
   ·rw [hk] at h; cases h
   ·rw [hk] at h
    simp only [cond_true, Option.map_eq_some_iff] at h
    obtain ⟨es', h', rfl⟩ := h
    obtain ⟨r1, r2, r3⟩ := ztv_ h' hms
    unfold rdOf at he
    split at he
    ·cases he
    ·rename_i o ho
     split at he
     ·cases he
     ·rename_i ro hro
      simp only [Option.some.injEq] at he
      subst he
      refine ⟨by simp [r1], fun e he => ?_, fun L => ⟨?_, r3 L⟩⟩
      ·rcases List.mem_cons.1 he with rfl | he
       ·exact ⟨o, ho, hro, rfl⟩
       ·exact r2 e he
      ·unfold okE at hk
       simp only [Bool.and_eq_true, ho] at hk
       obtain ⟨k1, k2⟩ := hk
       refine ⟨fun j hj => ?_, fun p hp => ?_, Nat.le_refl _⟩
       ·obtain ⟨o', x, ho', hx, hb, rfl⟩ := hj
        simp only [ho, Option.some.injEq] at ho'; subst ho'
        have := List.all_eq_true.1 k1 x hx
        rw [hb] at this
        simp only [Bool.not_true, Bool.false_or, List.any_eq_true] at this
        obtain ⟨p, hp, hpe⟩ := this
        exact .inr ⟨p, hp, Nat.eq_of_beq_eq_true hpe⟩
       ·have := List.all_eq_true.1 k2 p hp
        simp only [Bool.and_eq_true, Bool.or_eq_true, Bool.not_eq_true'] at this
        refine ⟨fun e => ?_, this.2.imp (hms _ _) fun h => ⟨h.1, h.2⟩⟩
        have h1 := this.1
        simp only at e
        rw [e, Nat.beq_refl] at h1; cases h1
theorem zDv_ {s : RD → RD} (h1 : ∀ e, (s e).idx = e.idx) (h2 : ∀ e, (s e).ro.dst = e.ro.dst) (h3 : ∀ e, (s e).ro.op = e.ro.op) (h4 : ∀ e, (s e).looks = e.looks) (h5 : ∀ e, (s e).win = e.win) {L : Nat → Prop} :
  ∀ {es ps : List RD}, Good ops ms L (ps.map s) (es.map s) → Good ops ms L ps es
 | [], _, _ => trivial
 | e :: es, ps, ⟨⟨g1, g2, g3⟩, g4⟩ => by
  refine ⟨⟨fun j hj => ?_, fun p hp => ?_, ?_⟩, zDv_ h1 h2 h3 h4 h5 (es := es) (ps := e :: ps) g4⟩
  ·rcases g1 j (by rw [h1]; exact hj) with h | ⟨p, hp, hpj⟩
   ·exact .inl h
   ·obtain ⟨q, hq, rfl⟩ := List.mem_map.1 hp
    exact .inr ⟨q, hq, by rw [← h1]; exact hpj⟩
  ·have := g2 (s p) (List.mem_map_of_mem hp)
   rw [h1, h1, h3] at this
   refine ⟨this.1, this.2.imp id fun h => ⟨h.1, ?_⟩⟩
   have h := h.2
   unfold zDd_ at h ⊢
   rw [h2, h2, h4, h4] at h
   exact h
  ·rw [h1, h5] at g3
   refine Nat.le_trans (Nat.le_of_eq ?_) g3
   rw [List.countP_map]
   congr 1
   funext p
   simp [zIt_, h1, h3]
theorem zox_ (hC : zf_ P G C) {id : Nat} {es es0 : List RD} (hr : zQt_ P G n ops = some es0) (hs : es.map zDn_ = es0) {f : PFr} {h : AHeap} {κ : PFr → AHeap → Option R} (hd : zZf_ C es f h [] κ = some r) :
  ∃ f' h', κ f' h' = some r ∧ RunS P G n (.region id ops true) f h .normal f' h' := by
 unfold zQt_ at hr
 simp only at hr
 cases hc : (P.follows .mixedOrders && (List.range ops.size).all (fun i => memB i (zbi_ ops.size (zOc_ ops.toList []) ((List.range ops.size).filter (zPy_ P G n ops)) [])) && Nat.beq (zbi_ ops.size (zOc_ ops.toList []) ((List.range ops.size).filter (zPy_ P G n ops)) []).length ops.size)
 ·rw [hc] at hr; cases hr
 ·rw [hc] at hr
  simp only [cond_true] at hr
  simp only [Bool.and_eq_true] at hc
  obtain ⟨⟨hm, hall⟩, hcl⟩ := hc
  have hms : MsOk ops (zOc_ ops.toList []) := zZw_
  obtain ⟨r1, r2, r3⟩ := ztv_ hr hms
  have hes : ∀ e ∈ es, ∃ o, ops[e.idx]? = some o ∧ roOf P G n ops o = some (zwc_ e.ro) ∧ e.looks = o.looksAt ops := fun e he => by
   obtain ⟨o, q1, q2, q3⟩ := r2 (zDn_ e) (by rw [← hs]; exact List.mem_map_of_mem he)
   exact ⟨o, q1, q2, q3⟩
  have hidx : es.map (·.idx) = es0.map (·.idx) := by rw [← hs, List.map_map]; rfl
  obtain ⟨f', h', hk, tr⟩ := zoq_ hC es f h [] κ hes hd
  have hg : ∀ L, Good ops (zOc_ ops.toList []) L [] es := fun L => zDv_ (s := zDn_) (fun _ => rfl) (fun _ => rfl) (fun _ => rfl) (fun _ => rfl) (fun _ => rfl) (ps := []) (by rw [hs]; exact r3 L)
  have hlt : ∀ e ∈ es, e.idx < ops.size := fun e he => by
   obtain ⟨o, q1, _⟩ := hes e he
   exact (Array.getElem?_eq_some_iff.1 q1).1
  have hmem : ∀ i, i < ops.size → ∃ e ∈ es, e.idx = i := fun i hi => by
   have := zRj_.1 (List.all_eq_true.1 hall i (List.mem_range.2 hi))
   rw [← r1, ← hidx] at this
   obtain ⟨e, he, hei⟩ := List.mem_map.1 this
   exact ⟨e, he, hei⟩
  have hlen : es.length = ops.size := by
   have : (es.map (·.idx)).length = ops.size := by rw [hidx, r1, Nat.eq_of_beq_eq_true hcl]
   simpa using this
  have hnd : ∀ o ∈ ops.toList, ∀ c, o.op ≠ .defer c := fun o ho => by
   obtain ⟨i, hi⟩ := List.getElem?_of_mem ho
   rw [Array.getElem?_toList] at hi
   obtain ⟨e, he, hei⟩ := hmem i (Array.getElem?_eq_some_iff.1 hi).1
   obtain ⟨o', q1, q2, _⟩ := hes e he
   rw [hei, hi] at q1
   cases q1
   exact zix_ q2
  refine ⟨f', h', hk, tr.next, fun rd μ a w t z => wpIn_region_any hm ?_⟩
  have sd := Step.drew t.sim
  refine zHz_ hms hnd rd ops.size es _ f h [] f' h' μ a _ hlen (by simp) hlt (fun i hi => ?_) (fun i j hi => ?_) (hg _) tr ⟨sd.sim, t.fr, t.df, t.sz⟩ z fun μ' a' w' at' st => ⟨rfl, μ', at', sd.trans st⟩
  ·simp only [Array.getD_eq_getD_getElem?, Array.getElem?_replicate, hi, if_true, Option.getD_some, true_iff]
   exact hmem i hi
  ·rw [Array.getD_eq_getD_getElem?, Array.getElem?_replicate] at hi
   split at hi <;> simp at hi
end
section
variable {ds : List Deferred} {G : Nat} {P : Program} {R : Type} {r : R} {C : za_} {ops : Array Oper} {ms : List Nat} {n : Nat}
def zmx_ (ops : Array Oper) (ms : List Nat) (L : Nat → Prop) (ps : List RG) (e : RG) : Prop :=
 (∀ j, zUd_ ops j e.d.idx → L j ∨ ∃ p ∈ ps, p.d.idx = j) ∧ (∀ p ∈ ps, p.d.idx ≠ e.d.idx ∧ (Anc ops p.d.idx e.d.idx ∨ (actG e = false ∧ zDd_ p.d e.d = true))) ∧ ps.countP (zQy_ ms e.d.idx) ≤ e.d.win
def zCb_ (ops : Array Oper) (ms : List Nat) (L : Nat → Prop) : List RG → List RG → Prop
 | _, [] => True
 | ps, e :: es => zmx_ ops ms L ps e ∧ zCb_ ops ms L (e :: ps) es
theorem zCb_.at {L : Nat → Prop} {e : RG} {post : List RG} : ∀ {pre ps : List RG}, zCb_ ops ms L ps (pre ++ e :: post) → zmx_ ops ms L (pre.reverse ++ ps) e
 | [], ps, h => h.1
 | p :: pre, ps, h => by
  have := zCb_.at (pre := pre) h.2
  simpa using this
theorem zCb_.mono {L L' : Nat → Prop} (hL : ∀ j, L j → L' j) : ∀ {es ps ps' : List RG}, (∀ p ∈ ps, p ∈ ps' ∨ L' p.d.idx) → ps'.Sublist ps → zCb_ ops ms L ps es → zCb_ ops ms L' ps' es
 | [], _, _, _, _, _ => trivial
 | e :: es, ps, ps', h1, h2, ⟨⟨g1, g2, g3⟩, g4⟩ => by
  refine ⟨⟨fun j hj => ?_, fun p hp => g2 p (h2.subset hp), Nat.le_trans h2.countP_le g3⟩, ?_⟩
  ·rcases g1 j hj with h | ⟨p, hp, rfl⟩
   ·exact .inl (hL _ h)
   ·rcases h1 p hp with h | h
    ·exact .inr ⟨p, h, rfl⟩
    ·exact .inl h
  ·refine zCb_.mono hL (fun p hp => ?_) (h2.cons_cons e) g4
   rcases List.mem_cons.1 hp with rfl | hp
   ·exact .inl (List.mem_cons_self ..)
   ·rcases h1 p hp with h | h
    ·exact .inl (List.mem_cons_of_mem _ h)
    ·exact .inr h
theorem zCb_.drop {L L' : Nat → Prop} (hL : ∀ j, L j → L' j) {e : RG} (he : L' e.d.idx) {post : List RG} : ∀ {pre ps : List RG}, zCb_ ops ms L ps (pre ++ e :: post) → zCb_ ops ms L' ps (pre ++ post)
 | [], ps, ⟨_, h⟩ => h.mono hL (fun p hp => by
   rcases List.mem_cons.1 hp with rfl | hp
   ·exact .inr he
   ·exact .inl hp) (List.sublist_cons_self ..)
 | p :: pre, ps, ⟨⟨g1, g2, g3⟩, h⟩ => ⟨⟨fun j hj => (g1 j hj).imp (hL j) id, g2, g3⟩, zCb_.drop hL he h⟩
theorem zCb_.same {L L' : Nat → Prop} (hL : ∀ j, L j → L' j) {es ps : List RG} (g : zCb_ ops ms L ps es) : zCb_ ops ms L' ps es := g.mono hL (fun _ h => .inl h) (List.Sublist.refl _)
theorem zCb_.suffix {L : Nat → Prop} {es : List RG} : ∀ {pre ps : List RG}, zCb_ ops ms L ps (pre ++ es) → (∀ p ∈ pre, L p.d.idx) → zCb_ ops ms L ps es
 | [], _, h, _ => h
 | p :: pre, ps, ⟨_, h⟩, hp => by
  have := zCb_.suffix h fun q hq => hp q (List.mem_cons_of_mem _ hq)
  exact this.mono (fun _ h => h) (fun q hq => by
   rcases List.mem_cons.1 hq with rfl | hq
   ·exact .inr (hp _ (List.mem_cons_self ..))
   ·exact .inl hq) (List.sublist_cons_self ..)
def zAy_ (P : Program) (G : Nat) (o : Oper) (g : PFr) (H : AHeap) (v : Value) : Prop :=
 ∀ (μ : BMap) (a : Act) (w : World), FR μ g a.tmps → Sim G μ H w → ∃ v', (execOp a.eval o).run P w = .ok (.value v') w ∧ VR μ v v'
def zFg_ (P : Program) (G n : Nat) (ops : Array Oper) (e : RG) (f : PFr) (S : AHeap → Prop) (v : Value) : Prop :=
 ∃ o, Fits n ops e.d o ∧ ((zYf_ G n ops o (zF_ e.d.looks f) false ∧ v = undef) ∨ (zYf_ G n ops o (zF_ e.d.looks f) true ∧ ∀ H, S H → zAy_ P G o (zF_ e.d.looks f) H v))
def GhS (P : Program) (G n : Nat) (ops : Array Oper) (base : Nat) (e : RG) (j : Nat) (f : PFr) (st : Option ABlk) (v : Value) : Prop :=
 ∃ o, Fits n ops e.d o ∧ match st with
  | none => (zYf_ G n ops o (zF_ e.d.looks f) false ∧ v = undef) ∧ e.d.ro.guard ≠ none
  | some B => zYf_ G n ops o (zF_ e.d.looks f) true ∧ ∃ mk, AS P G o (zF_ e.d.looks f) B mk ∧ v = mk (base + j)
def setG (base j : Nat) (h : AHeap) : Option ABlk → AHeap
 | none => h
 | some B => h.set (base + j) B
theorem zVy_ (base j : Nat) (h : AHeap) (st : Option ABlk) : (setG base j h st).next = h.next := by cases st <;> rfl
def winG (e : RG) (k : Nat) (h : AHeap) (hs : List AHeap) : AHeap → Prop := fun H => zCh_ e.d.ro.op = true → H ∈ (h :: hs).take (k + 1)
def winO (base : Nat) (e : RG) (h : AHeap) (hs : List AHeap) : AHeap → Prop :=
 match e.own with
 | none => winG e e.d.win h hs
 | some j => fun H => ∃ B, h.get (base + j) = some B ∧ H.get (base + j) = some B
def zsm_ (P : Program) (G n : Nat) (ops : Array Oper) (base : Nat) (e : RG) (f : PFr) (h : AHeap) (hs : List AHeap) (v : Value) (h1 : AHeap) : Prop :=
 (actG e = true ∧ Act1 P G n ops e.d f h v h1) ∨ (serB e.d.ro.op = true ∧ ∃ j st, e.gh = some j ∧ GhS P G n ops base e j f st v ∧ h1 = setG base j h st) ∨
 (serB e.d.ro.op = false ∧ h1 = h ∧ zFg_ P G n ops e f (winO base e h hs) v)
abbrev It := RG × Option (Option ABlk)
def TrG (P : Program) (G n : Nat) (ops : Array Oper) (base : Nat) : List It → PFr → AHeap → List AHeap → PFr → AHeap → Prop
 | [], f, h, _, f', h' => f' = f ∧ h' = h
 | (e, none) :: es, f, h, hs, f', h' => ∃ v h1, h.next ≤ h1.next ∧ zsm_ P G n ops base e f h hs v h1 ∧ TrG P G n ops base es (pput f e.d.ro.dst v) h1 (bif serB e.d.ro.op then h :: hs else hs) f' h'
 | (e, some st) :: es, f, h, hs, f', h' => ∃ j, e.gh = some j ∧ TrG P G n ops base es f (setG base j h st) (h :: hs) f' h'
theorem zFg_.frame {e : RG} {f g : PFr} {S : AHeap → Prop} {v : Value} (he : zF_ e.d.looks f = zF_ e.d.looks g) (c : zFg_ P G n ops e f S v) : zFg_ P G n ops e g S v := by
 unfold zFg_ at c ⊢; rwa [he] at c
theorem zFg_.sub {e : RG} {f : PFr} {S S' : AHeap → Prop} {v : Value} (hh : ∀ H, S' H → S H) (c : zFg_ P G n ops e f S v) : zFg_ P G n ops e f S' v := by
 obtain ⟨o, ft, h1 | h1⟩ := c
 ·exact ⟨o, ft, .inl h1⟩
 ·exact ⟨o, ft, .inr ⟨h1.1, fun H hH => h1.2 H (hh H hH)⟩⟩
theorem GhS.frame {base : Nat} {e : RG} {j : Nat} {f g : PFr} {st : Option ABlk} {v : Value} (he : zF_ e.d.looks f = zF_ e.d.looks g) (c : GhS P G n ops base e j f st v) : GhS P G n ops base e j g st v := by
 unfold GhS at c ⊢; rwa [he] at c
theorem zsm_.frame {base : Nat} {e : RG} {f g : PFr} {h h1 : AHeap} {hs : List AHeap} {v : Value} (he : zF_ e.d.looks f = zF_ e.d.looks g) (c : zsm_ P G n ops base e f h hs v h1) : zsm_ P G n ops base e g h hs v h1 := by
 rcases c with c | ⟨c0, j, st, c1, c2, c3⟩ | c
 ·exact .inl ⟨c.1, c.2.frame he⟩
 ·exact .inr (.inl ⟨c0, j, st, c1, c2.frame he, c3⟩)
 ·exact .inr (.inr ⟨c.1, c.2.1, c.2.2.frame he⟩)
theorem TrG.next {base : Nat} : ∀ {es : List It} {f : PFr} {h : AHeap} {hs : List AHeap} {f' : PFr} {h' : AHeap}, TrG P G n ops base es f h hs f' h' → h.next ≤ h'.next
 | [], _, _, _, _, _, ⟨_, e⟩ => by rw [e]; exact Nat.le_refl _
 | (_, none) :: es, _, _, _, _, _, ⟨v, h1, hn, _, t⟩ => Nat.le_trans hn t.next
 | (_, some st) :: es, _, _, _, _, _, ⟨j, _, t⟩ => by have := t.next; rwa [zVy_] at this
theorem zIp_ {k c : Nat} {h h1 : AHeap} {hs : List AHeap} {H : AHeap} (hc : c + 1 ≤ k) (hH : H ∈ (h :: hs).take (k - (c + 1) + 1)) : H ∈ (h1 :: h :: hs).take (k - c + 1) := by
 rw [List.take_succ_cons]
 refine List.mem_cons_of_mem _ ?_
 have : k - (c + 1) + 1 = k - c := by omega
 rwa [this] at hH
theorem TrG.moveC {base : Nat} {e : RG} (he : serB e.d.ro.op = false) (hown : e.own = none) {post : List It} : ∀ {pre : List It} {f : PFr} {h : AHeap} {hs : List AHeap} {f' : PFr} {h' : AHeap}, TrG P G n ops base (pre ++ (e, none) :: post) f h hs f' h' →
  (∀ p ∈ pre, p.2 = none → zDd_ p.1.d e.d = true) → (∀ p ∈ pre, p.2 ≠ none → serB p.1.d.ro.op = true) → (zCh_ e.d.ro.op = true → pre.countP (fun p => serB p.1.d.ro.op) ≤ e.d.win) →
  ∃ v, zFg_ P G n ops e f (winG e (e.d.win - pre.countP (fun p => serB p.1.d.ro.op)) h hs) v ∧ TrG P G n ops base (pre ++ post) (pput f e.d.ro.dst v) h hs f' h'
 | [], f, h, hs, f', h', ⟨v, h1, hn, d, t⟩, _, _, _ => by
  rcases d with ⟨d, _⟩ | ⟨d, _⟩ | ⟨_, rfl, d⟩
  ·unfold actG at d; rw [he] at d; cases d
  ·rw [he] at d; cases d
  ·rw [he] at t; exact ⟨v, by simpa [winO, hown] using d, t⟩
 | (p, none) :: pre, f, h, hs, f', h', ⟨v1, h1, hn, d, t⟩, ha, hx, hc => by
  rw [List.countP_cons] at hc
  obtain ⟨v, c, t'⟩ := TrG.moveC he hown (pre := pre) t (fun q hq => ha q (List.mem_cons_of_mem _ hq)) (fun q hq => hx q (List.mem_cons_of_mem _ hq)) (fun hl => by have := hc hl; omega)
  obtain ⟨a1, a2, a3⟩ := zjg_ (ha (p, none) (List.mem_cons_self ..) rfl)
  refine ⟨v, ?_, v1, h1, hn, d.frame (zLc_ a2).symm, by rw [zEi_ a3] at t'; exact t'⟩
  have c := c.frame (zLc_ a1)
  rw [List.countP_cons]
  cases hs1 : serB p.d.ro.op with
  | true =>
   rw [hs1] at c hc
   refine c.sub fun H hH hl => ?_
   have hH := hH hl
   simp only [if_true] at hH
   exact zIp_ (by have := hc hl; simpa using this) hH
  | false =>
   have : h1 = h := by
    rcases d with ⟨d, _⟩ | ⟨d, _⟩ | ⟨_, e, _⟩
    ·unfold actG at d; rw [hs1] at d; cases d
    ·rw [hs1] at d; cases d
    ·exact e
   subst this
   rw [hs1] at c
   refine c.sub fun H hH hl => ?_
   have hH := hH hl
   simpa [hs1] using hH
 | (p, some st) :: pre, f, h, hs, f', h', ⟨j, hj, t⟩, ha, hx, hc => by
  rw [List.countP_cons] at hc
  obtain ⟨v, c, t'⟩ := TrG.moveC he hown (pre := pre) t (fun q hq => ha q (List.mem_cons_of_mem _ hq)) (fun q hq => hx q (List.mem_cons_of_mem _ hq)) (fun hl => by have := hc hl; omega)
  refine ⟨v, ?_, j, hj, t'⟩
  rw [List.countP_cons]
  have hs1 : serB p.d.ro.op = true := hx (p, some st) (List.mem_cons_self ..) (by simp)
  rw [hs1] at hc
  refine c.sub fun H hH hl => ?_
  have hH := hH hl
  simp only [hs1, if_true] at hH
  exact zIp_ (by have := hc hl; simpa using this) hH
theorem zsm_.keeps {base : Nat} {e : RG} {f : PFr} {h h1 : AHeap} {hs : List AHeap} {v : Value} {j : Nat} (d : zsm_ P G n ops base e f h hs v h1) (ha : actG e = false) (hj : e.gh ≠ some j) : h1.get (base + j) = h.get (base + j) := by
 rcases d with ⟨d, _⟩ | ⟨_, i, st, d1, _, rfl⟩ | ⟨_, rfl, _⟩
 ·rw [ha] at d; cases d
 ·cases st with
  | none => rfl
  | some B =>
   have : j ≠ i := fun x => hj (x ▸ d1)
   simp only [setG, AHeap.get_set]
   rw [if_neg (by omega)]
 ·rfl
theorem TrG.moveO1 {base : Nat} {e : RG} {j : Nat} {B : ABlk} (he : serB e.d.ro.op = false) (hown : e.own = some j) {post : List It} : ∀ {pre : List It} {f : PFr} {h : AHeap} {hs : List AHeap} {f' : PFr} {h' : AHeap}, TrG P G n ops base (pre ++ (e, none) :: post) f h hs f' h' →
  (∀ p ∈ pre, p.2 = none → zDd_ p.1.d e.d = true) → (∀ p ∈ pre, actG p.1 = false) → (∀ p ∈ pre, p.1.gh ≠ some j) → h.get (base + j) = some B →
  ∃ v, zFg_ P G n ops e f (fun H => H.get (base + j) = some B) v ∧ TrG P G n ops base (pre ++ post) (pput f e.d.ro.dst v) h hs f' h'
 | [], f, h, hs, f', h', ⟨v, h1, hn, d, t⟩, _, _, _, hB => by
  rcases d with ⟨d, _⟩ | ⟨d, _⟩ | ⟨_, rfl, d⟩
  ·unfold actG at d; rw [he] at d; cases d
  ·rw [he] at d; cases d
  ·rw [he] at t; exact ⟨v, d.sub fun H hH => by simp only [winO, hown]; exact ⟨B, hB, hH⟩, t⟩
 | (p, none) :: pre, f, h, hs, f', h', ⟨v1, h1, hn, d, t⟩, ha, hx, hg, hB => by
  obtain ⟨v, c, t'⟩ := TrG.moveO1 he hown (pre := pre) t (fun q hq => ha q (List.mem_cons_of_mem _ hq)) (fun q hq => hx q (List.mem_cons_of_mem _ hq)) (fun q hq => hg q (List.mem_cons_of_mem _ hq))
   (by rw [d.keeps (hx (p, none) (List.mem_cons_self ..)) (hg (p, none) (List.mem_cons_self ..))]; exact hB)
  obtain ⟨a1, a2, a3⟩ := zjg_ (ha (p, none) (List.mem_cons_self ..) rfl)
  exact ⟨v, c.frame (zLc_ a1), v1, h1, hn, d.frame (zLc_ a2).symm, by rw [zEi_ a3] at t'; exact t'⟩
 | (p, some st) :: pre, f, h, hs, f', h', ⟨i, hi, t⟩, ha, hx, hg, hB => by
  have hne : j ≠ i := fun x => hg (p, some st) (List.mem_cons_self ..) (x ▸ hi)
  obtain ⟨v, c, t'⟩ := TrG.moveO1 he hown (pre := pre) t (fun q hq => ha q (List.mem_cons_of_mem _ hq)) (fun q hq => hx q (List.mem_cons_of_mem _ hq)) (fun q hq => hg q (List.mem_cons_of_mem _ hq))
   (by cases st with
    | none => exact hB
    | some B' => simp only [setG, AHeap.get_set]; rw [if_neg (by omega)]; exact hB)
  exact ⟨v, c, i, hi, t'⟩
theorem TrG.moveO {base : Nat} {e q : RG} {j : Nat} {B : ABlk} (he : serB e.d.ro.op = false) (hown : e.own = some j) (hq : q.gh = some j) {pre2 post : List It} (hx : ∀ p ∈ pre2, actG p.1 = false) (hg : ∀ p ∈ pre2, p.1.gh ≠ some j) (ha2 : ∀ p ∈ pre2, p.2 = none → zDd_ p.1.d e.d = true) : ∀ {pre : List It} {f : PFr} {h : AHeap} {hs : List AHeap} {f' : PFr} {h' : AHeap}, TrG P G n ops base (pre ++ (q, some (some B)) :: (pre2 ++ (e, none) :: post)) f h hs f' h' →
  (∀ p ∈ pre, p.2 = none → zDd_ p.1.d e.d = true) →
  ∃ v, zFg_ P G n ops e f (fun H => H.get (base + j) = some B) v ∧ TrG P G n ops base (pre ++ (q, some (some B)) :: (pre2 ++ post)) (pput f e.d.ro.dst v) h hs f' h'
 | [], f, h, hs, f', h', ⟨i, hi, t⟩, _ => by
  rw [hq] at hi; cases hi
  obtain ⟨v, c, t'⟩ := TrG.moveO1 he hown t ha2 hx hg (by simp [setG]; rfl)
  exact ⟨v, c, j, hq, t'⟩
 | (p, none) :: pre, f, h, hs, f', h', ⟨v1, h1, hn, d, t⟩, ha => by
  obtain ⟨v, c, t'⟩ := TrG.moveO he hown hq hx hg ha2 (pre := pre) t (fun q hq => ha q (List.mem_cons_of_mem _ hq))
  obtain ⟨a1, a2, a3⟩ := zjg_ (ha (p, none) (List.mem_cons_self ..) rfl)
  exact ⟨v, c.frame (zLc_ a1), v1, h1, hn, d.frame (zLc_ a2).symm, by rw [zEi_ a3] at t'; exact t'⟩
 | (p, some st) :: pre, f, h, hs, f', h', ⟨i, hi, t⟩, ha => by
  obtain ⟨v, c, t'⟩ := TrG.moveO he hown hq hx hg ha2 (pre := pre) t (fun q hq => ha q (List.mem_cons_of_mem _ hq))
  exact ⟨v, c, i, hi, t'⟩
theorem TrG.moveG {base : Nat} {e : RG} {j0 : Nat} (hgh : e.gh = some j0) (hser : serB e.d.ro.op = true) {post : List It} : ∀ {pre : List It} {f : PFr} {h : AHeap} {hs : List AHeap} {f' : PFr} {h' : AHeap}, TrG P G n ops base (pre ++ (e, none) :: post) f h hs f' h' →
  (∀ p ∈ pre, p.2 = none → zDd_ p.1.d e.d = true) →
  ∃ st v, GhS P G n ops base e j0 f st v ∧ TrG P G n ops base (pre ++ (e, some st) :: post) (pput f e.d.ro.dst v) h hs f' h'
 | [], f, h, hs, f', h', ⟨v, h1, hn, d, t⟩, _ => by
  rcases d with ⟨d, _⟩ | ⟨_, j, st, d1, d2, rfl⟩ | ⟨d, _⟩
  ·unfold actG at d; rw [hgh] at d; simp at d
  ·rw [hgh] at d1; cases d1
   rw [hser] at t
   exact ⟨st, v, d2, j0, hgh, t⟩
  ·rw [hser] at d; cases d
 | (p, none) :: pre, f, h, hs, f', h', ⟨v1, h1, hn, d, t⟩, ha => by
  obtain ⟨st, v, c, t'⟩ := TrG.moveG hgh hser (pre := pre) t (fun q hq => ha q (List.mem_cons_of_mem _ hq))
  obtain ⟨a1, a2, a3⟩ := zjg_ (ha (p, none) (List.mem_cons_self ..) rfl)
  exact ⟨st, v, c.frame (zLc_ a1), v1, h1, hn, d.frame (zLc_ a2).symm, by rw [zEi_ a3] at t'; exact t'⟩
 | (p, some s) :: pre, f, h, hs, f', h', ⟨j, hj, t⟩, ha => by
  obtain ⟨st, v, c, t'⟩ := TrG.moveG hgh hser (pre := pre) t (fun q hq => ha q (List.mem_cons_of_mem _ hq))
  exact ⟨st, v, c, j, hj, t'⟩
structure Wait (base sz : Nat) (μ : BMap) (h : AHeap) (w : World) (its : List It) : Prop where
 pend : ∀ e B j, (e, some (some B)) ∈ its → e.gh = some j → base + j < h.next ∧ h.get (base + j) = none ∧ ∃ c z O, μ (base + j) = some (c, 0, z) ∧ w.heap[c]? = some O ∧ BR μ 0 z B O ∧ sz ≤ c ∧ ∀ b B' p, h.get b = some B' → μ b = some p → p.1 ≠ c
 free : ∀ e j, (e, none) ∈ its → e.gh = some j → base + j < h.next ∧ h.get (base + j) = none ∧ μ (base + j) = none
 dis : ∀ e B j e' B' j' p p', (e, some (some B)) ∈ its → (e', some (some B')) ∈ its → e.gh = some j → e'.gh = some j' → j ≠ j' → μ (base + j) = some p → μ (base + j') = some p' → p.1 ≠ p'.1
theorem Wait.sub {base sz : Nat} {μ : BMap} {h : AHeap} {w : World} {its its' : List It} (W : Wait base sz μ h w its) (hs : ∀ x ∈ its', x ∈ its) : Wait base sz μ h w its' :=
 ⟨fun e B j he => W.pend e B j (hs _ he), fun e j he => W.free e j (hs _ he), fun e B j e' B' j' p p' h1 h2 => W.dis e B j e' B' j' p p' (hs _ h1) (hs _ h2)⟩
theorem Wait.step {base sz : Nat} {μ μ1 : BMap} {h h1 : AHeap} {w w1 : World} {its : List It} (W : Wait base sz μ h w its) (st : Step G μ h w μ1 h1 w1) (z : Zed μ h.next h1.next) : Wait base sz μ1 h1 w1 its := by
 have le := st.le z
 have nx := st.nx
 have gone : ∀ b, b < h.next → h.get b = none → h1.get b = none := fun b hb hn => by
  cases hq : h1.get b with
  | none => rfl
  | some B => obtain ⟨B0, h0, _⟩ := st.keep b B hq hb; rw [hn] at h0; cases h0
 refine ⟨fun e B j he hj => ?_, fun e j he hj => ?_, fun e B j e' B' j' p p' h1' h2' hj hj' hne hp hp' => ?_⟩
 ·obtain ⟨q1, q2, c, z', O, q3, q4, q5, q6, q7⟩ := W.pend e B j he hj
  have hc : c < w.heap.size := (Array.getElem?_eq_some_iff.1 q4).1
  refine ⟨by omega, gone _ q1 q2, c, z', O, le _ _ q3, ?_, q5.mono le, q6, fun b B' p hb hp => ?_⟩
  ·rw [st.old c hc fun b B p hb _ hp => q7 b B p hb hp]; exact q4
  ·by_cases hlt : b < h.next
   ·obtain ⟨B0, hb0, _⟩ := st.keep b B' hb hlt
    exact q7 b B0 p hb0 (by rw [← st.same b (by omega)]; exact hp)
   ·rcases st.img b B' p hb (by omega) hp with h2 | ⟨b0, B0, p0, h2, h3, h4, h5⟩
    ·omega
    ·rw [← h5]; exact q7 b0 B0 p0 h2 h4
 ·obtain ⟨q1, q2, q3⟩ := W.free e j he hj
  exact ⟨by omega, gone _ q1 q2, by rw [st.same _ (by omega)]; exact q3⟩
 ·obtain ⟨q1, _⟩ := W.pend e B j h1' hj
  obtain ⟨q2, _⟩ := W.pend e' B' j' h2' hj'
  exact W.dis e B j e' B' j' p p' h1' h2' hj hj' hne (by rw [← st.same _ (by omega)]; exact hp) (by rw [← st.same _ (by omega)]; exact hp')
theorem Wait.tell {base sz : Nat} {μ : BMap} {h : AHeap} {w : World} {its : List It} {e : RG} {B : ABlk} {j : Nat} (W : Wait base sz μ h w ((e, some (some B)) :: its)) (hj : e.gh = some j) (hd : ∀ q ∈ its, q.1.gh ≠ some j) (s : Sim G μ h w) :
  Sim G μ (h.set (base + j) B) w ∧ Wait base sz μ (h.set (base + j) B) w its := by
 obtain ⟨q1, q2, c, z, O, q3, q4, q5, q6, q7⟩ := W.pend e B j (List.mem_cons_self ..) hj
 have img : ∀ b B' p, (h.set (base + j) B).get b = some B' → μ b = some p → p.1 = c → b = base + j := fun b B' p hb hp hc => by
  rw [AHeap.get_set] at hb
  split at hb
  ·assumption
  ·exact absurd hc (q7 b B' p hb hp)
 refine ⟨⟨fun b B' hb => ?_, fun b₁ b₂ B₁ B₂ p₁ p₂ h1 h2 hne hr m1 m2 => ?_, fun b B' hb => ?_, s.glob, s.gle⟩, ⟨fun e' B' j' he hj' => ?_, fun e' j' he hj' => ?_, fun e1 B1 j1 e2 B2 j2 p p' h1 h2 => W.dis e1 B1 j1 e2 B2 j2 p p' (List.mem_cons_of_mem _ h1) (List.mem_cons_of_mem _ h2)⟩⟩
 ·rw [AHeap.get_set] at hb
  split at hb
  ·rename_i e; subst e; cases hb; exact ⟨c, 0, z, O, q3, q4, q5⟩
  ·exact s.blk b B' hb
 ·by_cases e1 : b₁ = base + j
  ·subst e1
   rw [q3] at m1; cases m1
   rw [AHeap.get_set, if_neg (fun x => hne x.symm)] at h2
   exact fun x => q7 b₂ B₂ p₂ h2 m2 x.symm
  ·by_cases e2 : b₂ = base + j
   ·subst e2
    rw [q3] at m2; cases m2
    rw [AHeap.get_set, if_neg hne] at h1
    exact q7 b₁ B₁ p₁ h1 m1
   ·rw [AHeap.get_set, if_neg e1] at h1
    rw [AHeap.get_set, if_neg e2] at h2
    exact s.inj b₁ b₂ B₁ B₂ p₁ p₂ h1 h2 hne hr m1 m2
 ·rw [AHeap.get_set] at hb
  split at hb
  ·rename_i e; subst e; exact q1
  ·exact s.lt b B' hb
 ·have hne : j' ≠ j := fun x => hd _ he (x ▸ hj')
  obtain ⟨r1, r2, c', z', O', r3, r4, r5, r6, r7⟩ := W.pend e' B' j' (List.mem_cons_of_mem _ he) hj'
  refine ⟨r1, by rw [AHeap.get_set, if_neg (by omega)]; exact r2, c', z', O', r3, r4, r5, r6, fun b B'' p hb hp => ?_⟩
  rw [AHeap.get_set] at hb
  split at hb
  ·rename_i e; subst e
   rw [q3] at hp; cases hp
   exact W.dis e B j e' B' j' (c, 0, z) (c', 0, z') (List.mem_cons_self ..) (List.mem_cons_of_mem _ he) hj hj' (fun x => hne x.symm) q3 r3
  ·exact r7 b B'' p hb hp
 ·have hne : j' ≠ j := fun x => hd _ he (x ▸ hj')
  obtain ⟨r1, r2, r3⟩ := W.free e' j' (List.mem_cons_of_mem _ he) hj'
  exact ⟨r1, by rw [AHeap.get_set, if_neg (by omega)]; exact r2, r3⟩
theorem Step.tell {μ0 μ : BMap} {h0 h : AHeap} {w0 w : World} {id : Nat} {B : ABlk} (st : Step G μ0 h0 w0 μ h w) (hid : h0.next ≤ id) (s : Sim G μ (h.set id B) w) (hp : ∀ p, μ id = some p → w0.heap.size ≤ p.1) : Step G μ0 h0 w0 μ (h.set id B) w where
 sim := s
 nx := st.nx
 same := st.same
 os := st.os
 tape := st.tape
 output := st.output
 size := st.size
 old := st.old
 img := fun b B' p hb hn hm => by
  rw [AHeap.get_set] at hb
  split at hb
  ·rename_i e; subst e; exact .inl (hp p hm)
  ·exact st.img b B' p hb hn hm
 keep := fun b B' hb hlt => by
  rw [AHeap.get_set, if_neg (by omega)] at hb
  exact st.keep b B' hb hlt
theorem Step.early {μ0 μ : BMap} {h0 h : AHeap} {w0 w w' : World} {id z : Nat} {O : Obj} (st : Step G μ0 h0 w0 μ h w) (hid : h0.next ≤ id) (hlt : id < h.next) (hn : h.get id = none) (zn : μ id = none)
  (hh : w'.heap = w.heap.push O) (ho : w'.os = w.os) (ht : w'.tape = w.tape) (hu : w'.output = w.output) (hG : G ≤ h0.next) : Step G μ0 h0 w0 (μ.put id (w.heap.size, 0, z)) h w' := by
 have le := BMap.put_le (p := (w.heap.size, 0, z)) zn
 have oth : ∀ b, b ≠ id → (μ.put id (w.heap.size, 0, z)) b = μ b := fun b hb => by simp [BMap.put, hb]
 have hne : ∀ b B, h.get b = some B → b ≠ id := fun b B hb e => by subst e; rw [hn] at hb; cases hb
 have old : ∀ c, c < w.heap.size → w'.heap[c]? = w.heap[c]? := fun c hc => by rw [hh, Array.getElem?_push, if_neg (by omega)]
 refine ⟨⟨fun b B hb => ?_, fun b₁ b₂ B₁ B₂ p₁ p₂ h1 h2 hb hr m1 m2 => ?_, st.sim.lt, fun g hg => ?_, st.sim.gle⟩, st.nx, fun b hb => ?_, ho.trans st.os, ht.trans st.tape, hu.trans st.output, by have := st.size; rw [hh]; simp; omega, fun c hc hno => ?_, fun b B p hb hb' hp => ?_, st.keep⟩
 ·obtain ⟨c, d, z', O', hm, hO, hr⟩ := st.sim.blk b B hb
  exact ⟨c, d, z', O', le _ _ hm, by rw [old c (Array.getElem?_eq_some_iff.1 hO).1]; exact hO, hr.mono le⟩
 ·rw [oth _ (hne _ _ h1)] at m1
  rw [oth _ (hne _ _ h2)] at m2
  exact st.sim.inj b₁ b₂ B₁ B₂ p₁ p₂ h1 h2 hb hr m1 m2
 ·rw [oth _ (by omega)]; exact st.sim.glob g hg
 ·rw [oth _ (by omega)]; exact st.same b hb
 ·rw [old c (Nat.lt_of_lt_of_le hc st.size)]; exact st.old c hc hno
 ·rw [oth _ (hne _ _ hb)] at hp; exact st.img b B p hb hb' hp
theorem Wait.early {base sz : Nat} {μ : BMap} {h : AHeap} {w w' : World} {pre post : List It} {e : RG} {B : ABlk} {j z : Nat} {O : Obj} (W : Wait base sz μ h w (pre ++ (e, none) :: post)) (hj : e.gh = some j) (s : Sim G μ h w)
  (hd : ∀ q ∈ pre ++ post, q.1.gh ≠ some j) (hh : w'.heap = w.heap.push O) (hsz : sz ≤ w.heap.size) (hB : BR (μ.put (base + j) (w.heap.size, 0, z)) 0 z B O) :
  Wait base sz (μ.put (base + j) (w.heap.size, 0, z)) h w' (pre ++ (e, some (some B)) :: post) := by
 obtain ⟨f1, f2, f3⟩ := W.free e j (by simp) hj
 have le := BMap.put_le (p := (w.heap.size, 0, z)) f3
 have oth : ∀ b, b ≠ base + j → (μ.put (base + j) (w.heap.size, 0, z)) b = μ b := fun b hb => by simp [BMap.put, hb]
 have slf : (μ.put (base + j) (w.heap.size, 0, z)) (base + j) = some (w.heap.size, 0, z) := by simp [BMap.put]
 have old : ∀ c, c < w.heap.size → w'.heap[c]? = w.heap[c]? := fun c hc => by rw [hh, Array.getElem?_push, if_neg (by omega)]
 have hne : ∀ b B, h.get b = some B → b ≠ base + j := fun b B hb e => by subst e; rw [f2] at hb; cases hb
 have imgs : ∀ b B' p, h.get b = some B' → μ b = some p → p.1 < w.heap.size := fun b B' p hb hp => by
  obtain ⟨c, d, z', O', hm, hO, _⟩ := s.blk b B' hb
  rw [hm] at hp; cases hp
  exact (Array.getElem?_eq_some_iff.1 hO).1
 have was : ∀ x, x ∈ pre ++ (e, some (some B)) :: post → x = (e, some (some B)) ∨ (x ∈ pre ++ (e, none) :: post ∧ x ∈ pre ++ post) := fun x hx => by
  simp only [List.mem_append, List.mem_cons] at hx ⊢
  rcases hx with h | rfl | h
  ·exact .inr ⟨.inl h, .inl h⟩
  ·exact .inl rfl
  ·exact .inr ⟨.inr (.inr h), .inr h⟩
 have pendLt : ∀ e' B' j' p, (e', some (some B')) ∈ pre ++ (e, none) :: post → e'.gh = some j' → μ (base + j') = some p → p.1 < w.heap.size := fun e' B' j' p he hj' hp => by
  obtain ⟨_, _, c, z', O', q3, q4, _⟩ := W.pend e' B' j' he hj'
  rw [q3] at hp; cases hp
  exact (Array.getElem?_eq_some_iff.1 q4).1
 refine ⟨fun e' B' j' he hj' => ?_, fun e' j' he hj' => ?_, fun e1 B1 j1 e2 B2 j2 p p' h1 h2 g1 g2 hne' hp hp' => ?_⟩
 ·rcases was _ he with h1 | ⟨h1, h2⟩
  ·cases h1
   rw [hj] at hj'; cases hj'
   refine ⟨f1, f2, w.heap.size, z, O, slf, by rw [hh]; simp, hB, hsz, fun b B'' p hb hp => ?_⟩
   rw [oth _ (hne _ _ hb)] at hp
   have := imgs b B'' p hb hp
   omega
  ·have hjj : j' ≠ j := fun x => hd _ h2 (x ▸ hj')
   obtain ⟨q1, q2, c, z', O', q3, q4, q5, q6, q7⟩ := W.pend e' B' j' h1 hj'
   refine ⟨q1, q2, c, z', O', le _ _ q3, by rw [old c (Array.getElem?_eq_some_iff.1 q4).1]; exact q4, q5.mono le, q6, fun b B'' p hb hp => ?_⟩
   rw [oth _ (hne _ _ hb)] at hp
   exact q7 b B'' p hb hp
 ·rcases was _ he with h1 | ⟨h1, h2⟩
  ·cases h1
  ·have hjj : j' ≠ j := fun x => hd _ h2 (x ▸ hj')
   obtain ⟨q1, q2, q3⟩ := W.free e' j' h1 hj'
   exact ⟨q1, q2, by rw [oth _ (by omega)]; exact q3⟩
 ·rcases was _ h1 with k1 | ⟨k1, l1⟩ <;> rcases was _ h2 with k2 | ⟨k2, l2⟩
  ·cases k1; cases k2; rw [g1] at g2; cases g2; exact absurd rfl hne'
  ·cases k1
   rw [hj] at g1; cases g1
   rw [slf] at hp; cases hp
   rw [oth _ (by omega)] at hp'
   have := pendLt e2 B2 j2 p' k2 g2 hp'
   simp only; omega
  ·cases k2
   rw [hj] at g2; cases g2
   rw [slf] at hp'; cases hp'
   rw [oth _ (by omega)] at hp
   have := pendLt e1 B1 j1 p k1 g1 hp
   simp only; omega
  ·have a1 : j1 ≠ j := fun x => hd _ l1 (x ▸ g1)
   have a2 : j2 ≠ j := fun x => hd _ l2 (x ▸ g2)
   rw [oth _ (by omega)] at hp hp'
   exact W.dis e1 B1 j1 e2 B2 j2 p p' k1 k2 g1 g2 hne' hp hp'
end
section
variable {ds : List Deferred} {G : Nat} {P : Program} {R : Type} {r : R} {C : za_} {ops : Array Oper} {ms : List Nat} {n : Nat}
structure Told (ops : Array Oper) (ms : List Nat) (es : List RG) : Prop where
 idx : es.Pairwise fun p e => p.d.idx ≠ e.d.idx
 back : es.Pairwise fun p e => ¬ Anc ops e.d.idx p.d.idx
 gh : es.Pairwise fun p e => ∀ j, p.gh = some j → e.gh ≠ some j
 ser : ∀ e ∈ es, ∀ j, e.gh = some j → serB e.d.ro.op = true
 ld : ∀ e ∈ es, e.own = none → zCh_ e.d.ro.op = true → ∀ p ∈ es, ghB p = true → bitB (ms.getD e.d.idx 0) p.d.idx = true → ∃ x ∈ es, actG x = true ∧ Anc ops x.d.idx e.d.idx ∧ Anc ops p.d.idx x.d.idx
 own : ∀ e ∈ es, ∀ j, e.own = some j → ∃ p, [p, e].Sublist es ∧ p.gh = some j ∧ p.d.ro.guard = none ∧ Anc ops p.d.idx e.d.idx
 calm : ∀ p x e, [p, x, e].Sublist es → ∀ j, p.gh = some j → e.own = some j → actG x = false
theorem zJl_ {base : Nat} {μ0 μ : BMap} {h0 : AHeap} {w0 w : World} (hb : base = h0.next) : ∀ (pre : List It) {rest : List It} {f : PFr} {h : AHeap} {hs : List AHeap} {f' : PFr} {h' : AHeap}, (∀ p ∈ pre, p.2 ≠ none) →
  (pre ++ rest).Pairwise (fun p e => ∀ j, p.1.gh = some j → e.1.gh ≠ some j) → TrG P G n ops base (pre ++ rest) f h hs f' h' → Wait base w0.heap.size μ h w (pre ++ rest) → Step G μ0 h0 w0 μ h w →
  ∃ h1 hs1, TrG P G n ops base rest f h1 hs1 f' h' ∧ Wait base w0.heap.size μ h1 w rest ∧ Step G μ0 h0 w0 μ h1 w ∧ h1.next = h.next
 | [], rest, f, h, hs, f', h', _, _, t, W, st => ⟨h, hs, t, W, st, rfl⟩
 | (p, none) :: pre, rest, f, h, hs, f', h', hp, _, _, _, _ => absurd rfl (hp (p, none) (List.mem_cons_self ..))
 | (p, some s) :: pre, rest, f, h, hs, f', h', hp, pw, ⟨j, hj, t⟩, W, st => by
  obtain ⟨pw1, pw2⟩ := List.pairwise_cons.1 pw
  cases s with
  | none =>
   obtain ⟨h1, hs1, q1, q2, q3, q4⟩ := zJl_ hb pre (fun q hq => hp q (List.mem_cons_of_mem _ hq)) pw2 t (W.sub fun x hx => List.mem_cons_of_mem _ hx) st
   exact ⟨h1, hs1, q1, q2, q3, q4⟩
  | some B =>
   obtain ⟨s', W'⟩ := W.tell hj (fun q hq => pw1 q hq j hj) st.sim
   obtain ⟨_, _, c, z, O, q3, _, _, q6, _⟩ := W.pend p B j (List.mem_cons_self ..) hj
   have st' := st.tell (id := base + j) (B := B) (by omega) s' (fun p hp => by rw [q3] at hp; cases hp; exact q6)
   obtain ⟨h1, hs1, q1, q2, q3, q4⟩ := zJl_ hb pre (fun q hq => hp q (List.mem_cons_of_mem _ hq)) pw2 t W' st'
   exact ⟨h1, hs1, q1, q2, q3, q4⟩
theorem rdyG (listed : Array Bool) (i : Nat) : (i ∈ Region.ready .any ops listed ↔ i < ops.size ∧ listed.getD i true = false ∧ ∀ j, zUd_ ops j i → listed.getD j false = true) := by
 unfold Region.ready
 simp only [List.mem_filter, List.mem_range, Bool.and_eq_true, Bool.not_eq_true']
 refine and_congr_right fun hi => and_congr_right fun _ => ?_
 obtain ⟨o, ho⟩ : ∃ o, ops[i]? = some o := ⟨ops[i], by simp [hi]⟩
 rw [ho]
 simp only [Option.map_some, Option.getD_some, Array.all_eq_true_iff_forall_mem]
 constructor
 ·rintro h j ⟨o', e, ho', he, hb, rfl⟩
  rw [ho] at ho'; cases ho'
  have := h e (by simpa using he)
  simpa [hb] using this
 ·intro h e he
  cases hb : Region.binds .any e
  ·rfl
  ·simpa using h e.on ⟨o, e, ho, by simpa using he, hb, rfl⟩
theorem zVw_ {listed : Array Bool} {i : Nat} (h1 : listed.getD i true = false) : listed.getD i false = false := by
 rw [Array.getD_eq_getD_getElem?] at h1 ⊢
 cases hq : listed[i]? with
 | none => rfl
 | some b => rw [hq] at h1; exact h1
theorem zhx_ {listed : Array Bool} {i : Nat} (hi : i < listed.size) (h1 : listed.getD i true ≠ false) : listed.getD i false = true := by
 rw [Array.getD_eq_getD_getElem?] at h1 ⊢
 have : listed[i]? = some listed[i] := by simp [hi]
 rw [this] at h1 ⊢
 simpa using h1
theorem zDs_ {listed : Array Bool} {i : Nat} {b : Bool} (hi : i < listed.size) : (listed.setIfInBounds i true).getD i b = true := by
 rw [Array.getD_eq_getD_getElem?, Array.getElem?_setIfInBounds_self_of_lt hi]; rfl
theorem zNr_ {l : List RG} (pw : l.Pairwise fun p e => p.d.idx ≠ e.d.idx) {x y : RG} (hx : x ∈ l) (hy : y ∈ l) (he : x.d.idx = y.d.idx) : x = y := by
 induction l with
 | nil => cases hx
 | cons z l ih =>
  obtain ⟨p1, p2⟩ := List.pairwise_cons.1 pw
  cases List.mem_cons.1 hx with
  | inl h1 => cases List.mem_cons.1 hy with
   | inl h2 => exact h1.trans h2.symm
   | inr h2 => exact absurd (h1 ▸ he) (p1 y h2)
  | inr h1 => cases List.mem_cons.1 hy with
   | inl h2 => exact absurd (h2 ▸ he.symm) (p1 x h1)
   | inr h2 => exact ih p2 h1 h2
theorem zzC_ {l : List It} (pw : l.Pairwise fun p e => p.1.d.idx ≠ e.1.d.idx) {x y : It} (hx : x ∈ l) (hy : y ∈ l) (he : x.1.d.idx = y.1.d.idx) : x = y := by
 induction l with
 | nil => cases hx
 | cons z l ih =>
  obtain ⟨p1, p2⟩ := List.pairwise_cons.1 pw
  cases List.mem_cons.1 hx with
  | inl h1 => cases List.mem_cons.1 hy with
   | inl h2 => exact h1.trans h2.symm
   | inr h2 => exact absurd (h1 ▸ he) (p1 y h2)
  | inr h1 => cases List.mem_cons.1 hy with
   | inl h2 => exact absurd (h2 ▸ he.symm) (p1 x h1)
   | inr h2 => exact ih p2 h1 h2
def open' (es : List It) : Nat := es.countP fun p => p.2.isNone
theorem zqx_ {Q : Exit → Act → World → Prop} (hnd : ∀ o ∈ ops.toList, ∀ c, o.op ≠ .defer c) (rd : Option Nat) (hms : MsOk ops ms) {es0 : List RG} (T : Told ops ms es0) {base : Nat} {μ0 : BMap} {h0 : AHeap} {w0 : World} (hb : base = h0.next) (hG : G ≤ h0.next) :
  ∀ (k : Nat) (its : List It) (listed : Array Bool) (f : PFr) (h : AHeap) (hs : List AHeap) (f' : PFr) (h' : AHeap) (μ : BMap) (a : Act) (w : World),
  open' its = k → listed.size = ops.size → (its.map (·.1)).Sublist es0 → (∀ e ∈ its, e.1.d.idx < ops.size) → (∀ e st, (e, some st) ∈ its → ghB e = true ∧ (st = none → e.d.ro.guard ≠ none)) → (∀ e, (e, none) ∈ its → ∀ j, e.own = some j → ∃ p s, (p, s) ∈ its ∧ p.gh = some j) →
  (∀ i, i < ops.size → (listed.getD i true = false ↔ ∃ e, (e, none) ∈ its ∧ e.d.idx = i)) → (∀ i j, listed.getD i false = true → zUd_ ops j i → listed.getD j false = true) →
  (∀ p st, (p, some st) ∈ its → ∀ x ∈ es0, actG x = true → Anc ops p.d.idx x.d.idx → listed.getD x.d.idx false = false) →
  zCb_ ops ms (fun j => listed.getD j false = true) [] (its.map (·.1)) → TrG P G n ops base its f h hs f' h' → Wait base w0.heap.size μ h w its → At ds G μ f h n a w → Step G μ0 h0 w0 μ h w → Zed μ h.next h'.next →
  (∀ μ' a' w', At ds G μ' f' h' n a' w' → Step G μ0 h0 w0 μ' h' w' → Q .normal a' w') → wpAnyIn (Fd rd) 0 P .any ops Q k listed a w := by
 intro k
 induction k with
 | zero =>
  intro its listed f h hs f' h' μ a w hl hsz hsub hlt hst hown hun hcl hinv hg ht W hat st hz hQ
  have hdone : ∀ p ∈ its, p.2 ≠ none := fun p hp hn => by
   have : 0 < open' its := by
    unfold open'
    exact List.countP_pos_iff.2 ⟨p, hp, by rw [hn]; rfl⟩
   omega
  have pw : its.Pairwise (fun p e => ∀ j, p.1.gh = some j → e.1.gh ≠ some j) := (List.pairwise_map (f := fun x : It => x.1) (R := fun p e : RG => ∀ j, p.gh = some j → e.gh ≠ some j)).1 (T.gh.sublist hsub)
  obtain ⟨h1, hs1, t1, W1, st1, _⟩ := zJl_ (P := P) (G := G) (n := n) (ops := ops) hb its (rest := []) hdone (by simpa using pw) (by simpa using ht) (by simpa using W) st
  obtain ⟨rfl, rfl⟩ := t1
  refine ⟨?_, hQ μ a w ⟨st1.sim, hat.fr, hat.df, hat.sz⟩ st1⟩
  apply List.eq_nil_iff_forall_not_mem.2
  intro i hi
  obtain ⟨h1, h2, _⟩ := (rdyG listed i).1 hi
  obtain ⟨e, he, _⟩ := (hun i h1).1 h2
  exact hdone _ he rfl
 | succ k ih =>
  intro its listed f h hs f' h' μ a w hl hsz hsub hlt hst hown hun hcl hinv hg ht W hat st hz hQ
  have pidx : its.Pairwise (fun p e => p.1.d.idx ≠ e.1.d.idx) := (List.pairwise_map (f := fun x : It => x.1) (R := fun p e : RG => p.d.idx ≠ e.d.idx)).1 (T.idx.sublist hsub)
  have pgh : its.Pairwise (fun p e => ∀ j, p.1.gh = some j → e.1.gh ≠ some j) := (List.pairwise_map (f := fun x : It => x.1) (R := fun p e : RG => ∀ j, p.gh = some j → e.gh ≠ some j)).1 (T.gh.sublist hsub)
  have pback : its.Pairwise (fun p e => ¬ Anc ops e.1.d.idx p.1.d.idx) := (List.pairwise_map (f := fun x : It => x.1) (R := fun p e : RG => ¬ Anc ops e.d.idx p.d.idx)).1 (T.back.sublist hsub)
  refine ⟨fun hr => ?_, fun i hi => ?_⟩
  ·-- something is ready: the first that is not done
   exfalso
   have hpos : 0 < open' its := by omega
   obtain ⟨p, hp, hpn⟩ := List.countP_pos_iff.1 hpos
   have first : ∀ (l : List It), (∃ p ∈ l, p.2.isNone = true) → ∃ pre e post, l = pre ++ (e, none) :: post ∧ ∀ q ∈ pre, q.2 ≠ none := by
    intro l
    induction l with
    | nil => rintro ⟨p, hp, _⟩; cases hp
    | cons x l ih =>
     intro hx
     obtain ⟨e, s⟩ := x
     cases s with
     | none => exact ⟨[], e, l, rfl, fun q hq => by cases hq⟩
     | some s =>
      obtain ⟨q, hq, hqn⟩ := hx
      rcases List.mem_cons.1 hq with rfl | hq
      ·cases hqn
      ·obtain ⟨pre, e', post, rfl, h2⟩ := ih ⟨q, hq, hqn⟩
       refine ⟨(e, some s) :: pre, e', post, rfl, fun q hq => ?_⟩
       rcases List.mem_cons.1 hq with rfl | hq
       ·simp
       ·exact h2 q hq
   obtain ⟨pre, e, post, rfl, hpre⟩ := first its ⟨p, hp, hpn⟩
   have hg' : zCb_ ops ms (fun j => listed.getD j false = true) [] (pre.map (·.1) ++ e :: post.map (·.1)) := by
    rw [List.map_append, List.map_cons] at hg; exact hg
   have hgat := zCb_.at hg'
   have hei := hlt (e, none) (by simp)
   have : e.d.idx ∈ Region.ready .any ops listed := by
    refine (rdyG listed e.d.idx).2 ⟨hei, (hun _ hei).2 ⟨e, by simp, rfl⟩, fun j hj => ?_⟩
    rcases hgat.1 j hj with h1 | ⟨q, hq, rfl⟩
    ·exact h1
    ·rw [List.append_nil, List.mem_reverse, List.mem_map] at hq
     obtain ⟨q', hq', rfl⟩ := hq
     have hqi := hlt q' (by simp [hq'])
     refine zhx_ (by omega) fun hf => ?_
     obtain ⟨e', he', hee⟩ := (hun _ hqi).1 hf
     have := zzC_ pidx he' (y := q') (by simp [hq']) hee
     subst this
     exact hpre _ hq' rfl
   rw [hr] at this; cases this
  ·obtain ⟨h1, h2, h3⟩ := (rdyG listed i).1 hi
   obtain ⟨e, he, rfl⟩ := (hun i h1).1 h2
   obtain ⟨pre, post, rfl⟩ := List.append_of_mem he
   have hg' : zCb_ ops ms (fun j => listed.getD j false = true) [] (pre.map (·.1) ++ e :: post.map (·.1)) := by
    rw [List.map_append, List.map_cons] at hg; exact hg
   have hgat := zCb_.at hg'
   obtain ⟨ok1, ok2, ok3⟩ := hgat
   rw [List.append_nil] at ok1 ok2 ok3
   have inpre : ∀ p ∈ pre, p.1 ∈ (pre.map (·.1)).reverse := fun p hp => List.mem_reverse.2 (List.mem_map_of_mem hp)
   have hx : e.d.idx < listed.size := by rw [hsz]; exact h1
   have nanc : ∀ p ∈ pre, p.2 = none → ¬ Anc ops p.1.d.idx e.d.idx := fun p hp hn ha => by
    have hpu := (hun p.1.d.idx (hlt p (by simp [hp]))).2 ⟨p.1, by simp [← hn, hp], rfl⟩
    have := zqj_ hcl ha h3
    rw [zVw_ hpu] at this; cases this
   have apart : ∀ p ∈ pre, p.2 = none → actG e = false ∧ zDd_ p.1.d e.d = true := fun p hp hn => (ok2 p.1 (inpre p hp)).2.resolve_left (nanc p hp hn)
   obtain ⟨es1, es2⟩ := List.pairwise_append.1 pidx
   have pw2 := (List.pairwise_cons.1 es2.1)
   have idxne : ∀ q ∈ pre ++ post, q.1.d.idx ≠ e.d.idx := fun q hq => by
    rcases List.mem_append.1 hq with hq | hq
    ·exact es2.2 q hq (e, none) (List.mem_cons_self ..)
    ·exact fun x => pw2.1 q hq x.symm
   have ghne : ∀ j, e.gh = some j → ∀ q ∈ pre ++ post, q.1.gh ≠ some j := fun j hj q hq x => by
    obtain ⟨_, g2, g3⟩ := List.pairwise_append.1 pgh
    rcases List.mem_append.1 hq with hq | hq
    ·exact g3 q hq (e, none) (List.mem_cons_self ..) j x hj
    ·exact (List.pairwise_cons.1 g2).1 q hq j hj x
   have hcl' : ∀ i j, (listed.setIfInBounds e.d.idx true).getD i false = true → zUd_ ops j i → (listed.setIfInBounds e.d.idx true).getD j false = true := fun j k' hj hd => by
    by_cases hje : j = e.d.idx
    ·subst hje; exact getD_set_true (h3 _ hd)
    ·rw [getD_set_ne _ (fun x => hje x.symm)] at hj
     exact getD_set_true (hcl _ _ hj hd)
   have hun' : ∀ (its' : List It), (∀ q, (q, none) ∈ its' ↔ (q, none) ∈ pre ++ post) → ∀ i, i < ops.size → ((listed.setIfInBounds e.d.idx true).getD i true = false ↔ ∃ q, (q, none) ∈ its' ∧ q.d.idx = i) := fun its' hits j hj => by
    by_cases hje : j = e.d.idx
    ·subst hje
     rw [zDs_ hx]
     simp only [Bool.true_eq_false, false_iff]
     rintro ⟨q, hq, hqe⟩
     exact idxne _ ((hits q).1 hq) hqe
    ·rw [getD_set_ne _ (fun x => hje x.symm), hun j hj]
     constructor
     ·rintro ⟨q, hq, rfl⟩
      refine ⟨q, (hits q).2 ?_, rfl⟩
      simp only [List.mem_append, List.mem_cons] at hq ⊢
      rcases hq with h | h | h
      ·exact .inl h
      ·cases h; exact absurd rfl hje
      ·exact .inr h
     ·rintro ⟨q, hq, rfl⟩
      refine ⟨q, ?_, rfl⟩
      have := (hits q).1 hq
      simp only [List.mem_append, List.mem_cons] at this ⊢
      exact this.imp id .inr
   have hL : ∀ j, listed.getD j false = true → (listed.setIfInBounds e.d.idx true).getD j false = true := fun j hj => getD_set_true hj
   have hself : (listed.setIfInBounds e.d.idx true).getD e.d.idx false = true := zDs_ hx
   have hops : open' (pre ++ post) = k := by
    unfold open' at hl ⊢
    rw [List.countP_append, List.countP_cons] at hl
    rw [List.countP_append]
    simp only [Option.isNone_none, if_true] at hl
    omega
   have esmem : e ∈ es0 := hsub.subset (by simp)
   cases hact : actG e with
   | true =>
    have hpre : ∀ p ∈ pre, p.2 ≠ none := fun p hp hn => by
     have := (apart p hp hn).1
     rw [hact] at this; cases this
    obtain ⟨hh, hs1, t1, W1, st1, hn1⟩ := zJl_ (P := P) (G := G) (n := n) (ops := ops) hb pre hpre pgh ht W st
    obtain ⟨v, h2', hn2, dn, t2⟩ := t1
    have dn : Act1 P G n ops e.d f hh v h2' := by
     rcases dn with dn | ⟨_, j, s, dn, _⟩ | ⟨dn, _⟩
     ·exact dn.2
     ·unfold actG at hact; rw [dn] at hact; simp at hact
     ·unfold actG at hact; rw [dn] at hact; cases hact
    refine zLz_ dn ⟨st1.sim, hat.fr, hat.df, hat.sz⟩ ((hn1 ▸ hz).le t2.next) hnd rd fun μ1 a1 w1 at1 sa => ?_
    have zz : Zed μ hh.next h2'.next := (hn1 ▸ hz).le t2.next
    refine ih post (listed.setIfInBounds e.d.idx true) _ h2' _ f' h' μ1 a1 w1 ?_ (by simp [hsz]) ?_ (fun q hq => hlt q (by simp [hq])) (fun q s hq => hst q s (by simp [hq])) (fun q hq j hj => ?_) (hun' post fun q => ?_) hcl' (fun p s hp x hx' hxa hpx => ?_) ?_ t2 ((W1.sub fun x hx => List.mem_cons_of_mem _ hx).step sa zz) at1 (st1.trans sa) (sa.zed (hn1 ▸ hz)) hQ
    ·rw [← hops]
     unfold open'
     rw [List.countP_append]
     have : pre.countP (fun p => p.2.isNone) = 0 := List.countP_eq_zero.2 fun p hp hn => hpre p hp (Option.isNone_iff_eq_none.1 hn)
     rw [this, Nat.zero_add]
    ·refine List.Sublist.trans ?_ hsub
     rw [List.map_append, List.map_cons]
     exact (List.sublist_cons_self _ _).trans (List.sublist_append_right _ _)
    ·obtain ⟨p, s, hp, hpj⟩ := hown q (by simp [hq]) j hj
     simp only [List.mem_append, List.mem_cons] at hp
     rcases hp with hp | hp | hp
     ·exfalso
      have h3' : [p, e, q].Sublist es0 := by
       refine List.Sublist.trans ?_ hsub
       rw [List.map_append, List.map_cons]
       have h1 : [p].Sublist (pre.map (·.1)) := List.singleton_sublist.2 (List.mem_map.2 ⟨_, hp, rfl⟩)
       have h2 : [e, q].Sublist (e :: post.map (·.1)) := List.Sublist.cons_cons _ (List.singleton_sublist.2 (List.mem_map.2 ⟨_, hq, rfl⟩))
       exact h1.append h2
      have := T.calm p e q h3' j hpj hj
      rw [hact] at this; cases this
     ·exfalso
      cases hp
      unfold actG at hact; rw [hpj] at hact; simp at hact
     ·exact ⟨p, s, hp, hpj⟩
    ·constructor
     ·intro hq; simp [hq]
     ·intro hq
      rcases List.mem_append.1 hq with hq | hq
      ·exact absurd rfl (hpre _ hq)
      ·exact hq
    ·by_cases hxe : x.d.idx = e.d.idx
     ·exact absurd (hxe ▸ hpx) ((List.pairwise_cons.1 (List.pairwise_append.1 pback).2.1).1 (p, some s) hp)
     ·rw [getD_set_ne _ (fun y => hxe y.symm)]
      exact hinv p s (by simp [hp]) x hx' hxa hpx
    ·have g1 : zCb_ ops ms (fun j => (listed.setIfInBounds e.d.idx true).getD j false = true) [] ((pre.map (·.1) ++ [e]) ++ post.map (·.1)) := by
      have := hg'.same hL
      rw [List.append_assoc]; exact this
     refine g1.suffix fun p hp => ?_
     rcases List.mem_append.1 hp with hp | hp
     ·obtain ⟨p', hp', rfl⟩ := List.mem_map.1 hp
      have hpi := hlt p' (by simp [hp'])
      refine hL _ (zhx_ (by omega) fun hf => ?_)
      obtain ⟨q, hq, hqe⟩ := (hun _ hpi).1 hf
      have hq : (q, none) ∈ pre ++ (e, none) :: post := hq
      simp only [List.mem_append, List.mem_cons] at hq
      rcases hq with hq | hq | hq
      ·exact hpre _ hq rfl
      ·cases hq; exact idxne p' (by simp [hp']) hqe.symm
      ·exact es2.2 p' hp' (q, none) (List.mem_cons_of_mem _ hq) hqe.symm
     ·simp at hp; subst hp; exact hself
   | false =>
    cases hgh : e.gh with
    | some j =>
     obtain ⟨s, v, gs, t1⟩ := TrG.moveG hgh (T.ser e esmem j hgh) ht (fun p hp hn => (apart p hp hn).2)
     have next : ∀ μ1 a1 w1, Wait base w0.heap.size μ1 h w1 (pre ++ (e, some s) :: post) → At ds G μ1 (pput f e.d.ro.dst v) h n a1 w1 → Step G μ0 h0 w0 μ1 h w1 → Zed μ1 h.next h'.next → wpAnyIn (Fd rd) 0 P .any ops Q k (listed.setIfInBounds e.d.idx true) a1 w1 := fun μ1 a1 w1 W1 at1 st1 z1 => by
      refine ih (pre ++ (e, some s) :: post) (listed.setIfInBounds e.d.idx true) _ h hs f' h' μ1 a1 w1 ?_ (by simp [hsz]) (by simpa using hsub) (fun q hq => ?_) (fun q s' hq => ?_) (fun q hq j' hj' => ?_) (hun' _ fun q => ?_) hcl' (fun p s' hp x hx' hxa hpx => ?_) ?_ t1 W1 at1 st1 z1 hQ
      ·rw [← hops]; unfold open'; rw [List.countP_append, List.countP_append, List.countP_cons]; simp
      ·simp only [List.mem_append, List.mem_cons] at hq
       rcases hq with hq | rfl | hq
       ·exact hlt q (by simp [hq])
       ·exact h1
       ·exact hlt q (by simp [hq])
      ·simp only [List.mem_append, List.mem_cons] at hq
       rcases hq with hq | hq | hq
       ·exact hst q s' (by simp [hq])
       ·cases hq
        refine ⟨by unfold ghB; rw [hgh], fun hs0 => ?_⟩
        subst hs0
        obtain ⟨_, _, gs⟩ := gs
        exact gs.2
       ·exact hst q s' (by simp [hq])
      ·have hq' : (q, none) ∈ pre ++ (e, none) :: post := by
        simp only [List.mem_append, List.mem_cons] at hq ⊢
        rcases hq with h | h | h
        ·exact .inl h
        ·cases h
        ·exact .inr (.inr h)
       obtain ⟨p, s', hp, hpj⟩ := hown q hq' j' hj'
       simp only [List.mem_append, List.mem_cons] at hp
       rcases hp with hp | hp | hp
       ·exact ⟨p, s', by simp [hp], hpj⟩
       ·cases hp; exact ⟨e, some s, by simp, hpj⟩
       ·exact ⟨p, s', by simp [hp], hpj⟩
      ·simp only [List.mem_append, List.mem_cons]
       constructor
       ·rintro (h | h | h)
        ·exact .inl h
        ·cases h
        ·exact .inr h
       ·rintro (h | h)
        ·exact .inl h
        ·exact .inr (.inr h)
      ·have xne : x.d.idx ≠ e.d.idx := fun hxe => by
        have := zNr_ T.idx hx' esmem hxe
        subst this
        rw [hact] at hxa; cases hxa
       rw [getD_set_ne _ (fun y => xne y.symm)]
       simp only [List.mem_append, List.mem_cons] at hp
       rcases hp with hp | hp | hp
       ·exact hinv p s' (by simp [hp]) x hx' hxa hpx
       ·cases hp
        cases hq : listed.getD x.d.idx false with
        | false => rfl
        | true =>
         have := zqj_ hcl hpx (fun j hj => hcl _ _ hq hj)
         rw [zVw_ h2] at this; cases this
       ·exact hinv p s' (by simp [hp]) x hx' hxa hpx
      ·rw [List.map_append, List.map_cons]; exact hg'.same hL
     obtain ⟨o, ⟨ho, hd, hdl⟩, gs⟩ := gs
     have tk : At ds G μ (zF_ e.d.looks f) h n a w := hat.weaken fun s v => zCn_
     unfold wpOpIn
     rw [ho]
     simp only
     cases s with
     | none =>
      obtain ⟨⟨hw, rfl⟩, _⟩ := gs
      rw [hw h μ a w tk, if_neg (by simp)]
      refine ⟨fun _ _ => trivial, ?_⟩
      refine next μ _ w ⟨fun e' B j he => W.pend e' B j ?_, fun e' j he => W.free e' j ?_, fun e1 B1 j1 e2 B2 j2 p p' k1 k2 => W.dis e1 B1 j1 e2 B2 j2 p p' ?_ ?_⟩ ?_ st hz
      ·simp only [List.mem_append, List.mem_cons] at he ⊢
       rcases he with h | h | h
       ·exact .inl h
       ·cases h
       ·exact .inr (.inr h)
      ·simp only [List.mem_append, List.mem_cons] at he ⊢
       rcases he with h | h | h
       ·exact .inl h
       ·cases h
       ·exact .inr (.inr h)
      ·simp only [List.mem_append, List.mem_cons] at k1 ⊢
       rcases k1 with h | h | h
       ·exact .inl h
       ·cases h
       ·exact .inr (.inr h)
      ·simp only [List.mem_append, List.mem_cons] at k2 ⊢
       rcases k2 with h | h | h
       ·exact .inl h
       ·cases h
       ·exact .inr (.inr h)
      ·rw [hd] at hdl ⊢
       exact hat.put hat.sim (.refl μ) (.undef μ) hdl
     | some B =>
      obtain ⟨hw, mk, as, rfl⟩ := gs
      rw [hw h μ a w tk, if_pos rfl]
      refine zXo_ (hnd o (Array.mem_toList_iff.2 (Array.mem_of_getElem? ho))) ?_
      obtain ⟨O, z, v', w', r1, r2, r3, r4, r5, r6, r7⟩ := as μ h w a tk.sim tk.fr
      obtain ⟨f1, f2, f3⟩ := W.free e j (by simp) hgh
      have le := BMap.put_le (p := (w.heap.size, 0, z)) f3
      unfold Oper.wp
      rw [r1, Oper.upon_value]
      have st1 := st.early (id := base + j) (z := z) (O := O) (by omega) f1 f2 f3 r2 r3 r4 r5 hG
      refine next _ _ w' (W.early hgh st.sim (ghne j hgh) r2 st.size (r6 _ le)) ?_ st1 fun b hb1 hb2 => ?_
      ·rw [hd] at hdl ⊢
       exact ⟨st1.sim, FR.put (hat.fr.mono le) (r7 _ _ (by simp [BMap.put])) (fun x hx => Nat.lt_of_lt_of_le (hdl x hx) hat.sz), by rw [zCr_]; exact hat.df, by rw [zev_]; exact hat.sz⟩
      ·have : b ≠ base + j := by omega
       simp only [BMap.put, this, if_false]
       exact hz b hb1 hb2
    | none =>
     have hser : serB e.d.ro.op = false := by
      unfold actG at hact; rw [hgh] at hact; simpa using hact
     have hdoneSer : ∀ p ∈ pre, p.2 ≠ none → serB p.1.d.ro.op = true := fun p hp hn => by
      obtain ⟨q, s⟩ := p
      cases s with
      | none => exact absurd rfl hn
      | some s =>
       have hg := (hst q s (by simp [hp])).1
       unfold ghB at hg
       cases hq : q.gh with
       | none => rw [hq] at hg; cases hg
       | some j => exact T.ser q (hsub.subset (by simp only [List.map_append, List.mem_append, List.mem_map]; exact .inl ⟨_, hp, rfl⟩)) j hq
     have hcnt : e.own = none → zCh_ e.d.ro.op = true → pre.countP (fun p => serB p.1.d.ro.op) ≤ e.d.win := fun hon hld => by
      refine Nat.le_trans ?_ ok3
      rw [List.countP_reverse, List.countP_map]
      refine List.countP_mono_left fun p hp hsp => ?_
      simp only [Function.comp_apply]
      unfold zQy_
      rw [hsp, Bool.true_and, Bool.not_eq_true']
      cases hbit : bitB (ms.getD e.d.idx 0) p.1.d.idx with
      | false => rfl
      | true =>
       exfalso
       obtain ⟨q, s⟩ := p
       cases s with
       | none => exact nanc _ hp rfl (hms _ _ hbit)
       | some s =>
        obtain ⟨x, hx', hxa, hxe, hqx⟩ := T.ld e esmem hon hld q (hsub.subset (by simp only [List.map_append, List.mem_append, List.mem_map]; exact .inl ⟨_, hp, rfl⟩)) (hst q s (by simp [hp])).1 hbit
        have q1 := hinv q s (by simp [hp]) x hx' hxa hqx
        have q2 := zqj_ hcl hxe h3
        rw [q1] at q2; cases q2
     have main : ∃ v h2 S, (S h2) ∧ Sim G μ h2 w ∧ zFg_ P G n ops e f S v ∧ TrG P G n ops base (pre ++ post) (pput f e.d.ro.dst v) h hs f' h' := by
      cases hon : e.own with
      | none =>
       obtain ⟨v, cm, t1⟩ := TrG.moveC hser hon ht (fun p hp hn => (apart p hp hn).2) hdoneSer (hcnt hon)
       exact ⟨v, h, _, (fun _ => by simp), hat.sim, cm, t1⟩
      | some j =>
       obtain ⟨p, s, hp, hpj⟩ := hown e he j hon
       obtain ⟨p0, sub0, p0j, p0g, p0a⟩ := T.own e esmem j hon
       have mem0 : ∀ x s, (x, s) ∈ pre ++ (e, none) :: post → x ∈ es0 := fun x s hx => hsub.subset (List.mem_map.2 ⟨_, hx, rfl⟩)
       have ghd : ∀ x ∈ es0, ∀ y ∈ es0, x.gh = some j → y.gh = some j → x = y := by
        have : ∀ (l : List RG), (l.Pairwise fun p e => ∀ j, p.gh = some j → e.gh ≠ some j) → ∀ x ∈ l, ∀ y ∈ l, x.gh = some j → y.gh = some j → x = y := by
         intro l
         induction l with
         | nil => intro _ x hx; cases hx
         | cons z l ih =>
          intro pw x hx y hy gx gy
          obtain ⟨q1, q2⟩ := List.pairwise_cons.1 pw
          cases List.mem_cons.1 hx with
          | inl h1 => cases List.mem_cons.1 hy with
           | inl h2 => exact h1.trans h2.symm
           | inr h2 => exact absurd gy (q1 y h2 j (h1 ▸ gx))
          | inr h1 => cases List.mem_cons.1 hy with
           | inl h2 => exact absurd gx (q1 x h1 j (h2 ▸ gy))
           | inr h2 => exact ih q2 x h1 y h2 gx gy
        exact this es0 T.gh
       have hp0 : p = p0 := ghd p (mem0 p s hp) p0 (sub0.subset (by simp)) hpj p0j
       subst hp0
       have hpre : (p, s) ∈ pre := by
        simp only [List.mem_append, List.mem_cons] at hp
        rcases hp with hp | hp | hp
        ·exact hp
        ·cases hp; rw [hgh] at hpj; cases hpj
        ·exfalso
         have h2 : [e, p].Sublist es0 := by
          refine List.Sublist.trans ?_ hsub
          rw [List.map_append, List.map_cons]
          have h1 : [e, p].Sublist (e :: post.map (·.1)) := List.Sublist.cons_cons _ (List.singleton_sublist.2 (List.mem_map.2 ⟨_, hp, rfl⟩))
          exact h1.trans (List.sublist_append_right _ _)
         have := T.back.sublist h2
         exact (List.pairwise_cons.1 this).1 p (by simp) p0a
       cases s with
       | none => exact absurd p0a (nanc _ hpre rfl)
       | some st0 =>
        cases st0 with
        | none => exact absurd p0g ((hst p none (by simp [hpre])).2 rfl)
        | some B =>
         obtain ⟨pre1, pre2, rfl⟩ := List.append_of_mem hpre
         have calm2 : ∀ q ∈ pre2, actG q.1 = false := fun q hq => by
          refine T.calm p q.1 e (List.Sublist.trans ?_ hsub) j hpj hon
          rw [List.map_append, List.map_append, List.map_cons, List.map_cons]
          have h1 : [p, q.1].Sublist (pre1.map (·.1) ++ p :: pre2.map (·.1)) := (show [p, q.1].Sublist (p :: pre2.map (·.1)) from List.Sublist.cons_cons _ (List.singleton_sublist.2 (List.mem_map.2 ⟨_, hq, rfl⟩))).trans (List.sublist_append_right _ _)
          have h2 : [e].Sublist (e :: post.map (·.1)) := List.singleton_sublist.2 (List.mem_cons_self ..)
          exact h1.append h2
         have gh2 : ∀ q ∈ pre2, q.1.gh ≠ some j := fun q hq => by
          have g1 := (List.pairwise_append.1 (List.pairwise_append.1 pgh).1).2.1
          exact (List.pairwise_cons.1 g1).1 q hq j hpj
         have ht' : TrG P G n ops base (pre1 ++ (p, some (some B)) :: (pre2 ++ (e, none) :: post)) f h hs f' h' := by simpa using ht
         obtain ⟨v, cm, t1⟩ := TrG.moveO hser hon hpj (pre2 := pre2) calm2 gh2 (fun q hq hn => (apart q (by simp [hq]) hn).2) (pre := pre1) ht' (fun q hq hn => (apart q (by simp [hq]) hn).2)
         have W1 : Wait base w0.heap.size μ h w [(p, some (some B))] := W.sub fun x hx => by
          simp only [List.mem_singleton] at hx; subst hx; simp
         obtain ⟨s', _⟩ := W1.tell hpj (fun q hq => by cases hq) hat.sim
         exact ⟨v, h.set (base + j) B, _, by simp, s', cm, by simpa using t1⟩
     obtain ⟨v, h2, S, hS, sim2, cm, t1⟩ := main
     have next : ∀ a1, At ds G μ (pput f e.d.ro.dst v) h n a1 w → wpAnyIn (Fd rd) 0 P .any ops Q k (listed.setIfInBounds e.d.idx true) a1 w := fun a1 at1 => by
      refine ih (pre ++ post) (listed.setIfInBounds e.d.idx true) _ h hs f' h' μ a1 w hops (by simp [hsz]) ?_ (fun q hq => ?_) (fun q s' hq => ?_) (fun q hq j' hj' => ?_) (hun' _ fun q => Iff.rfl) hcl' (fun p s' hp x hx' hxa hpx => ?_) ?_ t1 (W.sub fun x hx => ?_) at1 st hz hQ
      ·refine List.Sublist.trans ?_ hsub
       rw [List.map_append, List.map_append, List.map_cons]
       exact (List.Sublist.refl _).append (List.sublist_cons_self _ _)
      ·refine hlt q ?_
       rcases List.mem_append.1 hq with h | h
       ·simp [h]
       ·simp [h]
      ·refine hst q s' ?_
       rcases List.mem_append.1 hq with h | h
       ·simp [h]
       ·simp [h]
      ·obtain ⟨p, s', hp, hpj⟩ := hown q (by
        rcases List.mem_append.1 hq with h | h
        ·simp [h]
        ·simp [h]) j' hj'
       simp only [List.mem_append, List.mem_cons] at hp
       rcases hp with hp | hp | hp
       ·exact ⟨p, s', by simp [hp], hpj⟩
       ·cases hp; rw [hgh] at hpj; cases hpj
       ·exact ⟨p, s', by simp [hp], hpj⟩
      ·have hp' : (p, some s') ∈ pre ++ (e, none) :: post := by
        rcases List.mem_append.1 hp with h | h
        ·simp [h]
        ·simp [h]
       have xne : x.d.idx ≠ e.d.idx := fun hxe => by
        have := zNr_ T.idx hx' esmem hxe
        subst this
        rw [hact] at hxa; cases hxa
       rw [getD_set_ne _ (fun y => xne y.symm)]
       exact hinv p s' hp' x hx' hxa hpx
      ·rw [List.map_append]; exact hg'.drop hL hself
      ·rcases List.mem_append.1 hx with h | h
       ·simp [h]
       ·simp [h]
     obtain ⟨o, ⟨ho, hd, hdl⟩, cm⟩ := cm
     have tk : At ds G μ (zF_ e.d.looks f) h n a w := hat.weaken fun s v => zCn_
     unfold wpOpIn
     rw [ho]
     simp only
     rcases cm with ⟨hw, rfl⟩ | ⟨hw, cm⟩
     ·rw [hw h μ a w tk, if_neg (by simp)]
      refine ⟨fun _ _ => trivial, next _ ?_⟩
      rw [hd] at hdl ⊢
      exact hat.put hat.sim (.refl μ) (.undef μ) hdl
     ·rw [hw h μ a w tk, if_pos rfl]
      refine zXo_ (hnd o (Array.mem_toList_iff.2 (Array.mem_of_getElem? ho))) ?_
      obtain ⟨v', r1, r2⟩ := cm h2 hS μ a w tk.fr sim2
      unfold Oper.wp
      rw [r1, Oper.upon_value]
      refine next _ ?_
      rw [hd] at hdl ⊢
      exact hat.put hat.sim (.refl μ) r2 hdl
end
section
variable {ds : List Deferred} {G : Nat} {P : Program} {R : Type} {r : R} {C : za_} {ops : Array Oper} {ms : List Nat} {n : Nat}
theorem zty_ {base : Nat} {e : RG} {o : Oper} {f : PFr} {h : AHeap} {hs : List AHeap} {κ : Value → AHeap → Option R} (hC : zf_ P G C) (hr : zmi_ P G o = some e.d.ro.op) (hga : e.gh = none → zJi_ e.d.ro.op = false) (hft : Fits n ops e.d o)
  (hw : zYf_ G n ops o (zF_ e.d.looks f) true) (hd : dgop C base e.gh e.own e.d.ro.op e.d.win (zF_ e.d.looks f) h hs κ = some r) :
  ∃ v h1, κ v h1 = some r ∧ h.next ≤ h1.next ∧ zsm_ P G n ops base e f h hs v h1 := by
 obtain ⟨d, gh, own⟩ := e
 cases gh with
 | some j =>
  simp only [dgop] at hd
  split at hd
  ·rename_i q hq
   have hr' := hr
   have hq : d.ro.op = .a q := hq
   rw [show (RG.mk d (some j) own).d.ro.op = .a q from hq] at hr'
   unfold zmi_ at hr'
   split at hr'
   ·cases hr'
   ·split at hr'
    ·cases hr'
    ·split at hr'
     ·rename_i q' hq'
      cases hr'
      obtain ⟨B, mk, hk, hs'⟩ := zIo_ hq' hd
      exact ⟨_, _, hk, Nat.le_refl _, .inr (.inl ⟨by simp only [hq]; rfl, j, some B, rfl, ⟨o, hft, hw, mk, hs', rfl⟩, rfl⟩)⟩
     ·split at hr' <;> cases hr'
  ·cases hd
 | none =>
  cases own with
  | some j =>
   simp only [dgop] at hd
   split at hd
   ·rename_i q hq
    have hq : d.ro.op = .l q := hq
    have hr' := hr
    rw [show (RG.mk d none (some j)).d.ro.op = .l q from hq] at hr'
    unfold zmi_ at hr'
    split at hr'
    ·cases hr'
    ·split at hr'
     ·rename_i l hl
      cases hr'
      have rd : ∀ {R : Type} {r : R} {H : AHeap} {κ : Value → Option R}, zUe_ q (zF_ d.looks f) H κ = some r → ∃ v, κ v = some r ∧ zAy_ P G o (zF_ d.looks f) H v := fun hd => by
       obtain ⟨v, hk, hs'⟩ := zwi_ hl hd
       exact ⟨v, hk, fun μ a w fr s => hs' μ w a s fr⟩
      obtain ⟨v, hk, hS⟩ := rd hd
      obtain ⟨⟨B, hB, hww⟩, hk⟩ := zti_ hk
      refine ⟨v, h, hk, Nat.le_refl _, .inr (.inr ⟨by simp only [hq]; rfl, rfl, o, hft, .inr ⟨hw, fun H hH => ?_⟩⟩)⟩
      obtain ⟨B', h1, h2⟩ := hH
      rw [hB] at h1; cases h1
      obtain ⟨v', e, hS'⟩ := rd (hww H h2)
      cases e; exact hS'
     ·split at hr'
      ·cases hr'
      ·split at hr' <;> cases hr'
   ·cases hd
  | none =>
   simp only [dgop] at hd
   have hga := hga rfl
   simp only at hr hga hd hw hft
   cases hop : d.ro.op with
   | p q =>
    rw [hop] at hr hd
    unfold zmi_ at hr
    split at hr
    ·rename_i p hp
     cases hr
     simp only [ddop] at hd
     obtain ⟨v, hk, hs'⟩ := zVk_ hp hd
     refine ⟨v, h, hk, Nat.le_refl _, .inr (.inr ⟨by simp only [hop]; rfl, rfl, o, hft, .inr ⟨hw, fun H _ μ a w fr s => ?_⟩⟩)⟩
     obtain ⟨v', h1, h2⟩ := hs' μ H w a s fr
     exact ⟨v', h1, h2⟩
    ·split at hr
     ·cases hr
     ·split at hr
      ·cases hr
      ·split at hr <;> cases hr
   | l q =>
    rw [hop] at hr hd
    unfold zmi_ at hr
    split at hr
    ·cases hr
    ·split at hr
     ·rename_i l hl
      cases hr
      have rd : ∀ {R : Type} {r : R} {H : AHeap} {κ : Value → Option R}, zUe_ q (zF_ d.looks f) H κ = some r → ∃ v, κ v = some r ∧ zAy_ P G o (zF_ d.looks f) H v := fun hd => by
       obtain ⟨v, hk, hs'⟩ := zwi_ hl hd
       exact ⟨v, hk, fun μ a w fr s => hs' μ w a s fr⟩
      cases hwin : d.win with
      | zero =>
       rw [hwin] at hd
       obtain ⟨v, hk, hS⟩ := rd hd
       refine ⟨v, h, hk, Nat.le_refl _, .inr (.inr ⟨by simp only [hop]; rfl, rfl, o, hft, .inr ⟨hw, fun H hH => ?_⟩⟩)⟩
       have hH := hH (by simp only [hop]; rfl)
       simp [hwin] at hH
       rw [hH]; exact hS
      | succ win =>
       rw [hwin] at hd
       simp only [ddop] at hd
       obtain ⟨v, hk, hS⟩ := rd hd
       obtain ⟨hww, hk⟩ := zti_ hk
       refine ⟨v, h, hk, Nat.le_refl _, .inr (.inr ⟨by simp only [hop]; rfl, rfl, o, hft, .inr ⟨hw, fun H hH => ?_⟩⟩)⟩
       have hH := hH (by simp only [hop]; rfl)
       simp only [hwin] at hH
       rw [List.take_succ_cons] at hH
       rcases List.mem_cons.1 hH with rfl | hH
       ·exact hS
       ·obtain ⟨v', e, hS'⟩ := rd (hww H hH)
        cases e; exact hS'
     ·split at hr
      ·cases hr
      ·split at hr <;> cases hr
   | a q => rw [hop] at hga; cases hga
   | e q =>
    rw [hop] at hr hd
    obtain ⟨v, h1, hk, hS⟩ := zCk_ hC hr (κ := κ) (h := h) (f := zF_ d.looks f) (by simpa only [ddop, dop] using hd)
    exact ⟨v, h1, hk, hS.1, .inl ⟨by simp only [actG, hop]; rfl, o, hft, .inr ⟨hw, hS⟩⟩⟩
theorem ztq_ (hC : zf_ P G C) {base : Nat} : ∀ (es : List RG) (f : PFr) (h : AHeap) (hs : List AHeap) (κ : PFr → AHeap → Option R),
  (∀ e ∈ es, (e.gh = none → zJi_ e.d.ro.op = false) ∧ (∀ j, e.gh = some j → serB e.d.ro.op = true) ∧ ∃ o, ops[e.d.idx]? = some o ∧ roOf P G n ops o = some (zwc_ e.d.ro) ∧ e.d.looks = o.looksAt ops) → gdraw C base es f h hs κ = some r →
  ∃ f' h', κ f' h' = some r ∧ TrG P G n ops base (es.map fun e => (e, none)) f h hs f' h'
 | [], f, h, hs, κ, _, hd => ⟨f, h, hd, rfl, rfl⟩
 | e :: es, f, h, hs, κ, hes, hd => by
  obtain ⟨hga, hgs, o, ho, hro, hlk⟩ := hes e (List.mem_cons_self ..)
  have hes' := fun e' he' => hes e' (List.mem_cons_of_mem _ he')
  unfold roOf at hro
  split at hro
  ·cases hro
  ·rename_i rop hrop0
   have hrop := (ndOf hrop0).2
   split at hro
   ·rename_i hdst
    have hdn : ∀ x, o.dst = some x → x < n := fun x hx => by rw [hx] at hdst; simpa [zGt_] using hdst
    have perform : ∀ (hdd : e.d.ro.dst = o.dst) (hop : e.d.ro.op = rop), zYf_ G n ops o (zF_ e.d.looks f) true → dgop C base e.gh e.own e.d.ro.op e.d.win (zF_ e.d.looks f) h hs (fun v h' => tagK e.d.ro.tag v fun v => gdraw C base es (pput f e.d.ro.dst v) h' (bif serB e.d.ro.op then h :: hs else hs) κ) = some r →
      ∃ f' h', κ f' h' = some r ∧ TrG P G n ops base ((e, none) :: es.map fun e => (e, none)) f h hs f' h' := by
     intro hdd hop hw hd
     have ft : Fits n ops e.d o := ⟨ho, hdd.symm, hdn⟩
     obtain ⟨v, h1, hk, hn, hS⟩ := zty_ hC (hop ▸ hrop) hga ft hw hd
     obtain ⟨f', h', hk', tr⟩ := ztq_ hC es _ h1 _ κ hes' (zAo_ hk)
     exact ⟨f', h', hk', v, h1, hn, hS, tr⟩
    have skip : ∀ (hdd : e.d.ro.dst = o.dst), e.d.ro.guard ≠ none → zYf_ G n ops o (zF_ e.d.looks f) false → gdraw C base es (pput f e.d.ro.dst undef) h (bif serB e.d.ro.op then h :: hs else hs) κ = some r →
      ∃ f' h', κ f' h' = some r ∧ TrG P G n ops base ((e, none) :: es.map fun e => (e, none)) f h hs f' h' := by
     intro hdd hgne hw hd
     obtain ⟨f', h', hk', tr⟩ := ztq_ hC es _ h _ κ hes' hd
     have ft : Fits n ops e.d o := ⟨ho, hdd.symm, hdn⟩
     refine ⟨f', h', hk', undef, h, Nat.le_refl _, ?_, tr⟩
     cases hgh : e.gh with
     | some j => exact .inr (.inl ⟨hgs j hgh, j, none, hgh, ⟨o, ft, ⟨hw, rfl⟩, hgne⟩, rfl⟩)
     | none =>
      cases hs' : serB e.d.ro.op with
      | true => exact .inl ⟨by unfold actG; rw [hs', hgh]; rfl, o, ft, .inl ⟨hw, rfl, rfl⟩⟩
      | false => exact .inr (.inr ⟨hs', rfl, o, ft, .inl ⟨hw, rfl⟩⟩)
    split at hro
    ·rename_i hgd
     have e0 : zwc_ e.d.ro = ⟨o.dst, rop, none, none⟩ := by simpa using hro.symm
     have q1 : e.d.ro.dst = o.dst := congrArg RO.dst e0
     have q2 : e.d.ro.op = rop := congrArg RO.op e0
     have q3 : e.d.ro.guard = none := congrArg RO.guard e0
     simp only [gdraw, q3] at hd
     exact perform q1 q2 (fun h μ a w _ => by simp [Region.wanted, hgd]) hd
    ·rename_i jj want hgd
     split at hro
     ·rename_i g hg
      have e0 : zwc_ e.d.ro = ⟨o.dst, rop, some (g, want), none⟩ := by simpa using hro.symm
      have q1 : e.d.ro.dst = o.dst := congrArg RO.dst e0
      have q2 : e.d.ro.op = rop := congrArg RO.op e0
      have q3 : e.d.ro.guard = some (g, want) := congrArg RO.guard e0
      have hgm : memB g e.d.looks = true := by
       rw [zRj_, hlk]
       unfold Oper.looksAt
       rw [hgd]; simp only; rw [hg]; simp
      have hkg : zF_ e.d.looks f g = f g := by unfold zF_; rw [hgm]; rfl
      simp only [gdraw, q3] at hd
      split at hd
      ·rename_i b hb
       have hy : ∀ {ds : List Deferred} (h : AHeap) (μ : BMap) (a : Act) (w : World), At ds G μ (zF_ e.d.looks f) h n a w → yielded ops a.tmps jj = some b := fun h μ a w at_ => (zmf_ at_ hg (hkg.trans hb)).1 b rfl
       split at hd
       ·rename_i hbt; subst hbt
        rw [zNk_ hb] at hd
        cases want with
        | true => exact perform q1 q2 (fun h μ a w at_ => by simp [Region.wanted, hgd, hy h μ a w at_]) hd
        | false => exact skip q1 (by rw [q3]; simp) (fun h μ a w at_ => by simp [Region.wanted, hgd, hy h μ a w at_]) hd
       ·rename_i hbf
        simp only [Bool.not_eq_true] at hbf; subst hbf
        rw [zNk_ hb] at hd
        cases want with
        | true => exact skip q1 (by rw [q3]; simp) (fun h μ a w at_ => by simp [Region.wanted, hgd, hy h μ a w at_]) hd
        | false => exact perform q1 q2 (fun h μ a w at_ => by simp [Region.wanted, hgd, hy h μ a w at_]) hd
      ·rename_i vs hb
       exact skip q1 (by rw [q3]; simp) (fun h μ a w at_ => by simp [Region.wanted, hgd, (zmf_ at_ hg (hkg.trans hb)).2 _ rfl]) hd
      ·cases hd
     ·cases hro
   ·cases hro
theorem zZx_ {o : ROp} (h : zJi_ o = true) : serB o = true := by cases o <;> first | rfl | cases h
theorem zFv_ : ∀ {is : List Nat} {ps es : List RG}, zir_ P G n ops ms ps is = some es → MsOk ops ms →
  es.map (·.d.idx) = is ∧ (∀ e ∈ es, ∃ o, ops[e.d.idx]? = some o ∧ roOf P G n ops o = some e.d.ro ∧ e.d.looks = o.looksAt ops) ∧ (∀ L, zCb_ ops ms L ps es) ∧
  (∀ e ∈ es, (e.gh = none → zJi_ e.d.ro.op = false) ∧ ∀ j, e.gh = some j → serB e.d.ro.op = true) ∧
  (∀ pre e post, es = pre ++ e :: post → (∀ j, e.gh = some j → j = (pre.reverse ++ ps).countP ghB) ∧ (e.own = none → zCh_ e.d.ro.op = true → ∀ p ∈ pre.reverse ++ ps, ghB p = true → bitB (ms.getD e.d.idx 0) p.d.idx = true → ∃ x ∈ pre.reverse ++ ps, actG x = true ∧ bitB (ms.getD e.d.idx 0) x.d.idx = true ∧ bitB (ms.getD x.d.idx 0) p.d.idx = true) ∧ (∀ j, e.own = some j → zCh_ e.d.ro.op = true ∧ ∃ p ∈ pre.reverse ++ ps, p.gh = some j ∧ p.d.ro.guard = none ∧ zBl_ (pre.reverse ++ ps) p.d.idx = true ∧ bitB (ms.getD e.d.idx 0) p.d.idx = true))
 | [], ps, es, h, _ => by
  simp [zir_] at h; subst h
  exact ⟨rfl, (fun e he => nomatch he), (fun L => trivial), (fun e he => nomatch he), fun pre e post he => by cases pre <;> cases he⟩
 | i :: is, ps, es, h, hms => by
  simp only [zir_] at h
  split at h
  ·cases h
  ·rename_i e he
   cases hk : okG ops ms ps e
   ·rw [hk] at h; cases h
   ·rw [hk] at h
    simp only [cond_true, Option.map_eq_some_iff] at h
    obtain ⟨es', h', rfl⟩ := h
    obtain ⟨r1, r2, r3, r4, r5⟩ := zFv_ h' hms
    unfold rgOf at he
    split at he
    ·cases he
    ·rename_i o ho
     split at he
     ·cases he
     ·rename_i ro hro
      simp only [Option.some.injEq] at he
      subst he
      unfold okG at hk
      simp only [Bool.and_eq_true, ho] at hk
      obtain ⟨⟨⟨k1, k2⟩, k3⟩, k4⟩ := hk
      refine ⟨by simp [r1], fun e he => ?_, fun L => ⟨⟨fun j hj => ?_, fun p hp => ?_, Nat.le_refl _⟩, r3 L⟩, fun e he => ?_, fun pre e post hpe => ?_⟩
      ·rcases List.mem_cons.1 he with rfl | he
       ·exact ⟨o, ho, hro, rfl⟩
       ·exact r2 e he
      ·obtain ⟨o', x, ho', hx, hb, rfl⟩ := hj
       simp only [ho, Option.some.injEq] at ho'; subst ho'
       have := List.all_eq_true.1 k1 x hx
       rw [hb] at this
       simp only [Bool.not_true, Bool.false_or, List.any_eq_true] at this
       obtain ⟨p, hp, hpe⟩ := this
       exact .inr ⟨p, hp, Nat.eq_of_beq_eq_true hpe⟩
      ·have := List.all_eq_true.1 k2 p hp
       simp only [Bool.and_eq_true, Bool.or_eq_true, Bool.not_eq_true'] at this
       refine ⟨fun e => ?_, this.2.imp (hms _ _) fun h => ⟨h.1, h.2⟩⟩
       have h1 := this.1
       simp only at e
       rw [e, Nat.beq_refl] at h1; cases h1
      ·rcases List.mem_cons.1 he with rfl | he
       ·simp only
        cases ha : zJi_ ro.op with
        | true => exact ⟨(fun h => by cases h), fun j _ => zZx_ ha⟩
        | false => exact ⟨(fun _ => rfl), fun j h => by cases h⟩
       ·exact r4 e he
      ·cases pre with
       | nil =>
        simp only [List.nil_append, List.cons.injEq] at hpe
        obtain ⟨rfl, rfl⟩ := hpe
        simp only [List.reverse_nil, List.nil_append]
        refine ⟨fun j hj => ?_, fun hon hl p hp hg hb => ?_, fun j hj => ?_⟩
        ·cases ha : zJi_ ro.op with
         | true => rw [ha] at hj; cases hj; rfl
         | false => rw [ha] at hj; cases hj
        ·have hon' : (bif zCh_ ro.op then zEt_ ms i (zKx_ ops (ms.getD i 0) (o.looksAt ops)) ps ps else none) = none := hon
         rw [hon', hl] at k3
         simp only [zIq_, Bool.not_true, Bool.false_or] at k3
         have := List.all_eq_true.1 k3 p hp
         rw [hg, hb] at this
         simp only [Bool.not_true, Bool.false_or, zYw_, List.any_eq_true, Bool.and_eq_true] at this
         obtain ⟨x, hx, ⟨hx1, hx2⟩, hx3⟩ := this
         exact ⟨x, hx, hx1, hx2, hx3⟩
        ·have hj' : (bif zCh_ ro.op then zEt_ ms i (zKx_ ops (ms.getD i 0) (o.looksAt ops)) ps ps else none) = some j := hj
         rw [hj'] at k4
         simp only [zIq_, Bool.false_or, Bool.and_eq_true, List.any_eq_true] at k4
         obtain ⟨k4, p, hp, k5⟩ := k4
         unfold ownB at k5
         simp only [Bool.and_eq_true] at k5
         obtain ⟨⟨⟨k5, k6⟩, k7⟩, k8⟩ := k5
         refine ⟨k4, p, hp, ?_, ?_, k7, k8⟩
         ·cases hg : p.gh with
          | none => rw [hg] at k5; cases k5
          | some x => rw [hg] at k5; rw [Nat.eq_of_beq_eq_true k5]
         ·cases hg : p.d.ro.guard with
          | none => rfl
          | some x => rw [hg] at k6; cases k6
       | cons q pre =>
        simp only [List.cons_append, List.cons.injEq] at hpe
        obtain ⟨rfl, hpe⟩ := hpe
        have := r5 pre e post hpe
        rw [List.reverse_cons, List.append_assoc]
        exact this
theorem zsi_ {α : Type} {R : α → α → Prop} : ∀ {es : List α}, (∀ pre p mid e post, es = pre ++ p :: (mid ++ e :: post) → R p e) → es.Pairwise R
 | [], _ => .nil
 | x :: es, h => .cons (fun y hy => by
   obtain ⟨a, b, rfl⟩ := List.append_of_mem hy
   exact h [] x a y b rfl) (zsi_ fun pre p mid e post he => h (x :: pre) p mid e post (by rw [he]; rfl))
theorem zGs_ {es : List RG} (hd : ∀ pre e post, es = pre ++ e :: post → ∀ j, zUd_ ops j e.d.idx → ∃ p ∈ pre, p.d.idx = j) {j i : Nat} (h : Anc ops j i) : ∀ pre e post, es = pre ++ e :: post → e.d.idx = i → ∃ p ∈ pre, p.d.idx = j := by
 induction h with
 | one h => rintro pre e post he rfl; exact hd pre e post he _ h
 | more h hdir ih =>
  rintro pre e post he rfl
  obtain ⟨p, hp, rfl⟩ := hd pre e post he _ hdir
  obtain ⟨a, b, rfl⟩ := List.append_of_mem hp
  obtain ⟨q, hq, hqj⟩ := ih a p (b ++ e :: post) (by rw [he]; simp) rfl
  exact ⟨q, by simp [hq], hqj⟩
theorem sub3 {α : Type} {p x e : α} {es : List α} (h : [p, x, e].Sublist es) : ∃ pre post, es = pre ++ e :: post ∧ [p, x].Sublist pre := by
 have : ([p, x] ++ [e]).Sublist es := h
 obtain ⟨l1, l2, rfl, h1, h2⟩ := List.append_sublist_iff.1 this
 obtain ⟨a, b, rfl⟩ := List.append_of_mem (h2.subset (List.mem_cons_self ..))
 exact ⟨l1 ++ a, b, by simp, h1.trans (List.sublist_append_left _ _)⟩
theorem zfv_ {x p : RG} : ∀ {ps : List RG}, (ps.Pairwise fun p e => p.d.idx ≠ e.d.idx) → [x, p].Sublist ps → zBl_ ps p.d.idx = true → actG x = false
 | [], _, h, _ => by cases h
 | z :: ps, pw, h, ha => by
  obtain ⟨p1, p2⟩ := List.pairwise_cons.1 pw
  simp only [zBl_] at ha
  cases h with
  | cons _ h =>
   cases hz : Nat.beq z.d.idx p.d.idx with
   | true => exact absurd (Nat.eq_of_beq_eq_true hz) (p1 p (h.subset (by simp)))
   | false =>
    rw [hz] at ha
    simp only [cond_false, Bool.and_eq_true] at ha
    exact zfv_ p2 h ha.2
  | cons_cons _ h =>
   cases hz : Nat.beq x.d.idx p.d.idx with
   | true => exact absurd (Nat.eq_of_beq_eq_true hz) (p1 p (h.subset (by simp)))
   | false =>
    rw [hz] at ha
    simp only [cond_false, Bool.and_eq_true, Bool.not_eq_true'] at ha
    exact ha.1
theorem ziw_ (hC : zf_ P G C) {rid m : Nat} {es es0 : List RG} (hr : zQr_ P G n ops = some es0) (hs : es.map zAc_ = es0) (hm0 : m = es0.countP ghB) {f : PFr} {h : AHeap} {κ : PFr → AHeap → Option R} (hd : gdraw C h.next es f (h.resv m) [] κ = some r) :
  ∃ f' h', κ f' h' = some r ∧ RunS P G n (.region rid ops true) f h .normal f' h' := by
 unfold zQr_ at hr
 simp only at hr
 cases hc : (P.follows .mixedOrders && (List.range ops.size).all (fun i => memB i (zbi_ ops.size (zOc_ ops.toList []) ((List.range ops.size).filter (zux_ P G n ops)) [])) && Nat.beq (zbi_ ops.size (zOc_ ops.toList []) ((List.range ops.size).filter (zux_ P G n ops)) []).length ops.size)
 ·rw [hc] at hr; cases hr
 ·rw [hc] at hr
  simp only [cond_true] at hr
  simp only [Bool.and_eq_true] at hc
  obtain ⟨⟨hm, hall⟩, hcl⟩ := hc
  have hms : MsOk ops (zOc_ ops.toList []) := zZw_
  obtain ⟨r1, r2, r3, r4, r5⟩ := zFv_ hr hms
  have i1 : ∀ e : RG, (zAc_ e).d.idx = e.d.idx := fun _ => rfl
  have i2 : ∀ e : RG, (zAc_ e).gh = e.gh := fun _ => rfl
  have i3 : ∀ e : RG, (zAc_ e).d.ro.op = e.d.ro.op := fun _ => rfl
  have hes : ∀ e ∈ es, (e.gh = none → zJi_ e.d.ro.op = false) ∧ (∀ j, e.gh = some j → serB e.d.ro.op = true) ∧ ∃ o, ops[e.d.idx]? = some o ∧ roOf P G n ops o = some (zwc_ e.d.ro) ∧ e.d.looks = o.looksAt ops := fun e he => by
   have hmem : zAc_ e ∈ es0 := by rw [← hs]; exact List.mem_map_of_mem he
   obtain ⟨o, q1, q2, q3⟩ := r2 _ hmem
   obtain ⟨g1, g2⟩ := r4 _ hmem
   exact ⟨g1, g2, o, q1, q2, q3⟩
  have hidx : es.map (·.d.idx) = es0.map (·.d.idx) := by rw [← hs, List.map_map]; rfl
  have gm : ∀ {L : Nat → Prop} {es ps : List RG}, zCb_ ops (zOc_ ops.toList []) L (ps.map zAc_) (es.map zAc_) → zCb_ ops (zOc_ ops.toList []) L ps es := by
   intro L es
   induction es with
   | nil => intro _ _; trivial
   | cons e es ih =>
    intro ps hg
    obtain ⟨⟨g1, g2, g3⟩, g4⟩ := hg
    refine ⟨⟨fun j hj => ?_, fun p hp => g2 (zAc_ p) (List.mem_map_of_mem hp), ?_⟩, ih (ps := e :: ps) g4⟩
    ·rcases g1 j hj with h | ⟨p, hp, hpj⟩
     ·exact .inl h
     ·obtain ⟨q, hq, rfl⟩ := List.mem_map.1 hp
      exact .inr ⟨q, hq, hpj⟩
    ·rw [List.countP_map] at g3
     exact g3
  have hg : ∀ L, zCb_ ops (zOc_ ops.toList []) L [] es := fun L => gm (ps := []) (by rw [hs]; exact r3 L)
  have split0 : ∀ pre e post, es = pre ++ e :: post → es0 = pre.map zAc_ ++ zAc_ e :: post.map zAc_ := fun pre e post he => by rw [← hs, he]; simp
  have cntS : ∀ l : List RG, (l.map zAc_).countP ghB = l.countP ghB := fun l => by rw [List.countP_map]; rfl
  have hat : ∀ pre e post, es = pre ++ e :: post → zmx_ ops (zOc_ ops.toList []) (fun _ => False) (pre.reverse ++ []) e := fun pre e post he => zCb_.at (by rw [← he]; exact hg _)
  have hdir : ∀ pre e post, es = pre ++ e :: post → ∀ j, zUd_ ops j e.d.idx → ∃ p ∈ pre, p.d.idx = j := fun pre e post he j hj => by
   rcases (hat pre e post he).1 j hj with h | ⟨p, hp, hpj⟩
   ·exact h.elim
   ·exact ⟨p, by simpa using hp, hpj⟩
  have hgh : ∀ pre e post, es = pre ++ e :: post → ∀ j, e.gh = some j → j = pre.countP ghB := fun pre e post he j hj => by
   have := (r5 _ _ _ (split0 pre e post he)).1 j hj
   rw [List.append_nil, List.countP_reverse, cntS] at this
   exact this
  have hpw : es.Pairwise fun p e => p.d.idx ≠ e.d.idx := zsi_ fun pre p mid e post he => by
   have he' : es = (pre ++ p :: mid) ++ e :: post := by rw [he]; simp
   exact ((hat _ _ _ he').2.1 p (by simp)).1
  have T : Told ops (zOc_ ops.toList []) es := by
   refine ⟨hpw, zsi_ fun pre p mid e post he ha => ?_, zsi_ fun pre p mid e post he j h1 h2 => ?_, fun e he => (hes e he).2.1, fun e he hon hl p hp hpg hb => ?_, fun e he j hj => ?_, fun p x e hsub j hpj hej => ?_⟩
   ·have he' : es = (pre ++ p :: mid) ++ e :: post := by rw [he]; simp
    obtain ⟨q, hq, hqe⟩ := zGs_ hdir ha pre p (mid ++ e :: post) he rfl
    exact ((hat _ _ _ he').2.1 q (by simp [hq])).1 hqe
   ·have he' : es = (pre ++ p :: mid) ++ e :: post := by rw [he]; simp
    have c1 := hgh _ _ _ he j h1
    have c2 := hgh _ _ _ he' j h2
    rw [List.countP_append, List.countP_cons] at c2
    have : ghB p = true := by unfold ghB; rw [h1]
    rw [this] at c2
    simp at c2
    omega
   ·obtain ⟨pre, post, hsp⟩ := List.append_of_mem he
    have ha : Anc ops p.d.idx e.d.idx := hms _ _ hb
    obtain ⟨q, hq, hqp⟩ := zGs_ hdir ha pre e post hsp rfl
    have := zNr_ hpw (x := q) (y := p) (by rw [hsp]; simp [hq]) hp hqp
    subst this
    obtain ⟨x, hx, x1, x2, x3⟩ := (r5 _ _ _ (split0 pre e post hsp)).2.1 hon hl (zAc_ q) (by simp only [List.append_nil, List.mem_reverse]; exact List.mem_map_of_mem hq) hpg hb
    simp only [List.append_nil, List.mem_reverse, List.mem_map] at hx
    obtain ⟨x', hx', rfl⟩ := hx
    exact ⟨x', by rw [hsp]; simp [hx'], x1, hms _ _ x2, hms _ _ x3⟩
   ·obtain ⟨pre, post, hsp⟩ := List.append_of_mem he
    obtain ⟨p, hp, p1, p2, _, p4⟩ := ((r5 _ _ _ (split0 pre e post hsp)).2.2 j hj).2
    simp only [List.append_nil, List.mem_reverse, List.mem_map] at hp
    obtain ⟨p', hp', rfl⟩ := hp
    refine ⟨p', ?_, p1, p2, hms _ _ p4⟩
    rw [hsp]
    exact (List.singleton_sublist.2 hp').append (List.singleton_sublist.2 (List.mem_cons_self ..))
   ·obtain ⟨pre, post, hsp, hsub2⟩ := sub3 hsub
    obtain ⟨p0, hp0, q1, q2, q3, q4⟩ := ((r5 _ _ _ (split0 pre e post hsp)).2.2 j hej).2
    simp only [List.append_nil, List.mem_reverse, List.mem_map] at hp0
    obtain ⟨p0', hp0', rfl⟩ := hp0
    have hp : p ∈ pre := hsub2.subset (by simp)
    have : p = p0' := by
     obtain ⟨a, b, hab⟩ := List.append_of_mem hp
     obtain ⟨a', b', hab'⟩ := List.append_of_mem hp0'
     have c1 := hgh a p (b ++ e :: post) (by rw [hsp, hab]; simp) j hpj
     have c2 := hgh a' p0' (b' ++ e :: post) (by rw [hsp, hab']; simp) j q1
     have e1 : pre.countP ghB = pre.countP ghB := rfl
     rcases List.append_eq_append_iff.1 (hab.symm.trans hab') with ⟨c, h1, h2⟩ | ⟨c, h1, h2⟩
     ·cases c with
      | nil => simp at h2; exact h2.1
      | cons z c =>
       simp only [List.cons_append, List.cons.injEq] at h2
       obtain ⟨rfl, h2⟩ := h2
       rw [h1, List.countP_append, List.countP_cons] at c2
       have : ghB p = true := by unfold ghB; rw [hpj]
       rw [this] at c2; simp at c2; omega
     ·cases c with
      | nil => simp at h2; exact h2.1.symm
      | cons z c =>
       simp only [List.cons_append, List.cons.injEq] at h2
       obtain ⟨rfl, h2⟩ := h2
       rw [h1, List.countP_append, List.countP_cons] at c1
       have : ghB p0' = true := by unfold ghB; rw [show p0'.gh = some j from q1]
       rw [this] at c1; simp at c1; omega
    subst this
    have hnod : (pre.map zAc_).reverse.Pairwise fun p e => p.d.idx ≠ e.d.idx := by
     rw [List.pairwise_reverse, List.pairwise_map]
     rw [hsp] at hpw
     exact (List.pairwise_append.1 hpw).1.imp fun h x => h x.symm
    have := zfv_ (ps := (pre.map zAc_).reverse) hnod (x := zAc_ x) (p := zAc_ p) (by
     have := (hsub2.map zAc_).reverse
     simpa using this) (by simpa using q3)
    exact this
  obtain ⟨f', h', hk, tr⟩ := ztq_ (ops := ops) (n := n) hC es f (h.resv m) [] κ hes hd
  have hlt : ∀ e ∈ es, e.d.idx < ops.size := fun e he => by
   obtain ⟨_, _, o, q1, _⟩ := hes e he
   exact (Array.getElem?_eq_some_iff.1 q1).1
  have hmem : ∀ i, i < ops.size → ∃ e ∈ es, e.d.idx = i := fun i hi => by
   have := zRj_.1 (List.all_eq_true.1 hall i (List.mem_range.2 hi))
   rw [← r1, ← hidx] at this
   obtain ⟨e, he, hei⟩ := List.mem_map.1 this
   exact ⟨e, he, hei⟩
  have hlen : es.length = ops.size := by
   have : (es.map (·.d.idx)).length = ops.size := by rw [hidx, r1, Nat.eq_of_beq_eq_true hcl]
   simpa using this
  have hnx : h.next + m ≤ h'.next := tr.next
  have ghlt : ∀ e ∈ es, ∀ j, e.gh = some j → j < m := fun e he j hj => by
   obtain ⟨pre, post, he'⟩ := List.append_of_mem he
   have c1 := hgh pre e post he' j hj
   rw [hm0, ← hs, cntS, he', List.countP_append, List.countP_cons]
   have : ghB e = true := by unfold ghB; rw [hj]
   rw [this]
   simp
   omega
  have hnd : ∀ o ∈ ops.toList, ∀ c, o.op ≠ .defer c := fun o ho => by
   obtain ⟨i, hi⟩ := List.getElem?_of_mem ho
   rw [Array.getElem?_toList] at hi
   obtain ⟨e, he, hei⟩ := hmem i (Array.getElem?_eq_some_iff.1 hi).1
   obtain ⟨_, _, o', q1, q2, _⟩ := hes e he
   rw [hei, hi] at q1
   cases q1
   exact zix_ q2
  refine ⟨f', h', hk, by omega, fun {ds} rd μ a w t z => wpIn_region_any hm ?_⟩
  have sd := Step.drew t.sim
  have st : Step G μ h w μ (h.resv m) { w with drawn := w.drawn + 1 } :=
   ⟨⟨sd.sim.blk, sd.sim.inj, fun b B hb => Nat.lt_of_lt_of_le (sd.sim.lt b B hb) (Nat.le_add_right _ _), sd.sim.glob, Nat.le_trans sd.sim.gle (Nat.le_add_right _ _)⟩, Nat.le_add_right _ _, fun _ _ => rfl, rfl, rfl, rfl, Nat.le_refl _, fun _ _ _ => rfl,
    fun b B p hb hn _ => absurd (t.sim.lt b B hb) (by omega), fun b B' hb _ => ⟨B', hb, id⟩⟩
  refine zqx_ hnd rd hms T rfl t.sim.gle ops.size (es.map fun e => (e, none)) _ f (h.resv m) [] f' h' μ a _ ?_ (by simp) ?_ (fun e he => ?_) (fun e s he => ?_) (fun e he j hj => ?_) (fun i hi => ?_) (fun i j hi => ?_) (fun p s he => ?_) ?_ tr ⟨fun e B j he => ?_, fun e j he hj => ?_, fun e B j e' B' j' p p' he => ?_⟩ ⟨st.sim, t.fr, t.df, t.sz⟩ st (fun b hb1 hb2 => z b (Nat.le_trans (Nat.le_add_right _ _) hb1) hb2) fun μ' a' w' at' st' => ⟨rfl, μ', at', st'⟩
  ·unfold open'
   rw [List.countP_map, ← hlen]
   exact List.countP_eq_length.2 fun _ _ => rfl
  ·rw [List.map_map]
   have : (es.map ((fun x : It => x.1) ∘ fun e => (e, none))) = es := by
    rw [show ((fun x : It => x.1) ∘ fun e : RG => ((e, none) : It)) = id from rfl, List.map_id]
   rw [this]
   exact List.Sublist.refl _
  ·obtain ⟨e', he', rfl⟩ := List.mem_map.1 he
   exact hlt e' he'
  ·obtain ⟨e', he', h1⟩ := List.mem_map.1 he
   cases h1
  ·obtain ⟨e', he', h1⟩ := List.mem_map.1 he
   cases h1
   obtain ⟨p, hp, hpj, _⟩ := T.own e he' j hj
   exact ⟨p, none, List.mem_map.2 ⟨p, hp.subset (by simp), rfl⟩, hpj⟩
  ·simp only [Array.getD_eq_getD_getElem?, Array.getElem?_replicate, hi, if_true, Option.getD_some, true_iff]
   obtain ⟨e, he, hei⟩ := hmem i hi
   exact ⟨e, List.mem_map.2 ⟨e, he, rfl⟩, hei⟩
  ·rw [Array.getD_eq_getD_getElem?, Array.getElem?_replicate] at hi
   split at hi <;> simp at hi
  ·obtain ⟨e', he', h1⟩ := List.mem_map.1 he
   cases h1
  ·rw [List.map_map]
   have : (es.map ((fun x : It => x.1) ∘ fun e => (e, none))) = es := by
    rw [show ((fun x : It => x.1) ∘ fun e : RG => ((e, none) : It)) = id from rfl, List.map_id]
   rw [this]
   exact hg _
  ·obtain ⟨e', he', h1⟩ := List.mem_map.1 he
   cases h1
  ·obtain ⟨e', he', h1⟩ := List.mem_map.1 he
   cases h1
   have := ghlt e he' j hj
   refine ⟨by show h.next + j < h.next + m; omega, ?_, z _ (by omega) (by omega)⟩
   show h.get (h.next + j) = none
   cases hq : h.get (h.next + j) with
   | none => rfl
   | some B => have := t.sim.lt _ _ hq; omega
  ·obtain ⟨e'', he', h1⟩ := List.mem_map.1 he
   cases h1
end
section
variable {ds : List Deferred} {G : Nat} {P : Program} {R : Type} {r : R} {C : za_}
theorem zUx_ {L : zS_} {f : PFr} {h : AHeap} (e : appL L f (zEl_ (fun _ => (none : Option R)) L) h = some r) : False := by
 induction L generalizing f h with
 | nil => simp [appL, zEl_] at e
 | cons p L ih =>
  obtain ⟨s, t⟩ := p
  simp only [appL, zEl_] at e
  split at e
  ·simp only [Option.bind_eq_some_iff] at e
   obtain ⟨x, _, e⟩ := e
   exact ih e
  ·cases e
theorem zCm_ {L : zS_} : ∀ {f f0 : PFr} {b : PFr → AHeap → Option R} {h : AHeap}, (∀ s v, f0 s = some v → f s = some v) → appL L f (lamL L f0 b) h = some r →
  ∃ g, (∀ s v, g s = some v → f s = some v) ∧ b g h = some r := by
 induction L with
 | nil => intro f f0 b h hs e; exact ⟨f0, hs, e⟩
 | cons p L ih =>
  obtain ⟨s, t⟩ := p
  intro f f0 b h hs e
  simp only [appL, lamL] at e
  split at e
  ·rename_i v hv
   simp only [Option.bind_eq_some_iff] at e
   obtain ⟨x, hx, e⟩ := e
   have hx' := LTy.enc_dec hx
   refine ih (fun s' v' h' => ?_) e
   unfold pset at h'
   cases hb : Nat.beq s' s
   ·rw [hb] at h'; exact hs _ _ h'
   ·rw [hb] at h'
    have : s' = s := Nat.eq_of_beq_eq_true hb
    subst this; cases h'; rw [hx']; exact hv
  ·cases e
theorem zQc_ {n id : Nat} {ops : Array Oper} {draw : Bool} {x : RCode} (h : zj_ P G n (.region id ops draw) = some x) : (∃ ros, x = .region ros) ∨ (∃ es, x = .draw es) ∨ (∃ m es, x = .gdraw m es) := by
 simp only [zj_] at h
 split at h
 ·unfold zgp_ at h
  split at h
  ·cases h; exact .inr (.inl ⟨_, rfl⟩)
  ·split at h
   ·cases h; exact .inr (.inr ⟨_, _, rfl⟩)
   ·cases h
 ·rw [Option.map_eq_some_iff] at h
  obtain ⟨ros, _, rfl⟩ := h
  exact .inl ⟨_, rfl⟩
theorem zOr_ {n : Nat} {ops : Array Oper} {ros : List RO} (h : zgp_ P G n ops = some (.region ros)) : False := by
 unfold zgp_ at h
 split at h
 ·cases h
 ·split at h <;> cases h
theorem zKp_ {F : Fence} {nn : Nat} {c : Code} {Q Q' : Exit → Act → World → Prop} (hq : ∀ x a w, Q x a w → Q' x a w) : ∀ (m : Nat) (a : Act) (w : World), Code.roundsIn F nn P c Q m a w → Code.roundsIn F nn P c Q' m a w
 | 0, _, _, h => h
 | m + 1, a, w, h => by
  rw [roundsIn_succ] at h ⊢
  refine wpIn_mono h fun e a w he => ?_
  cases e <;> first | exact zKp_ hq m a w he | exact hq _ _ _ he
theorem zIk_ (hC : zf_ P G C) {n k : Nat} : ∀ (rc : RCode) (c : Code) (f : PFr) (h : AHeap) (κ : AExit → PFr → AHeap → Option R) (r : R), zj_ P G n c = some (zo_ rc) → den C k rc f h κ = some r →
  ∃ e f' h', κ e f' h' = some r ∧ RunS P G n c f h e f' h' := by
 intro rc
 induction rc with
 | skip =>
  intro c f h κ r hc hd
  refine ⟨.normal, f, h, hd, Nat.le_refl _, fun rd μ a w t z => ?_⟩
  cases c with
  | skip => exact wpIn_skip ⟨rfl, μ, t, .refl t.sim⟩
  | label l => exact wpIn_label ⟨rfl, μ, t, .refl t.sim⟩
  | region id ops draw => obtain ⟨_, e⟩ | ⟨_, e⟩ | ⟨_, _, e⟩ := zQc_ hc <;> simp [zo_] at e
  | seq a b => simp only [zj_] at hc; split at hc <;> (try cases hc); split at hc <;> simp [zo_] at hc
  | cond c a b => simp only [zj_] at hc; split at hc <;> (try cases hc); split at hc <;> simp [zo_] at hc
  | block id c => simp [zj_, zo_] at hc
  | loop c => simp [zj_, zo_] at hc
  | scope c => simp [zj_, zo_] at hc
  | exit id => simp [zj_, zo_] at hc
  | ret => simp [zj_, zo_] at hc
  | goto l => simp [zj_, zo_] at hc
  | refuse w => simp [zj_, zo_] at hc
  | rangeFunc _ _ _ _ => simp [zj_, zo_] at hc
 | region ros =>
  intro c f h κ r hc hd
  cases c with
  | region id ops draw =>
   simp only [zj_] at hc
   cases draw with
   | true => exact (zOr_ (by simpa [zo_] using hc)).elim
   | false =>
    simp [zo_] at hc
    obtain ⟨f', h', hk, hn, hrun⟩ := zZl_ hC (n := n) (ops := ops) ops.toList (List.range ops.size) ros f h (fun f h => κ .normal f h) (by simp) (fun i o hi => by
     have hlt : i < ops.size := by simpa using (List.getElem?_eq_some_iff.1 hi).1
     exact ⟨i, by simp [hlt], by simpa using hi⟩) hc hd
    refine ⟨.normal, f', h', hk, hn, fun rd μ a w t z => wpIn_region (zwj_ (fun x a' w' ⟨e, q⟩ => ⟨e, q⟩) _ _ _ (hrun rd μ a w t z))⟩
  | skip => simp [zj_, zo_] at hc
  | label l => simp [zj_, zo_] at hc
  | seq a b => simp only [zj_] at hc; split at hc <;> (try cases hc); split at hc <;> simp [zo_] at hc
  | cond c a b => simp only [zj_] at hc; split at hc <;> (try cases hc); split at hc <;> simp [zo_] at hc
  | block id c => simp [zj_, zo_] at hc
  | loop c => simp [zj_, zo_] at hc
  | scope c => simp [zj_, zo_] at hc
  | exit id => simp [zj_, zo_] at hc
  | ret => simp [zj_, zo_] at hc
  | goto l => simp [zj_, zo_] at hc
  | refuse w => simp [zj_, zo_] at hc
  | rangeFunc _ _ _ _ => simp [zj_, zo_] at hc
 | draw es =>
  intro c f h κ r hc hd
  cases c with
  | region id ops draw =>
   simp only [zj_] at hc
   cases draw with
   | false => simp [zo_] at hc
   | true =>
    simp only [if_true, zo_, zgp_] at hc
    split at hc
    ·rename_i es0 h1
     simp only [Option.some.injEq, RCode.draw.injEq] at hc
     obtain ⟨f', h', hk, hrun⟩ := zox_ hC h1 hc.symm hd
     exact ⟨.normal, f', h', hk, hrun⟩
    ·split at hc <;> simp at hc
  | skip => simp [zj_, zo_] at hc
  | label l => simp [zj_, zo_] at hc
  | seq a b => simp only [zj_] at hc; split at hc <;> (try cases hc); split at hc <;> simp [zo_] at hc
  | cond c a b => simp only [zj_] at hc; split at hc <;> (try cases hc); split at hc <;> simp [zo_] at hc
  | block id c => simp [zj_, zo_] at hc
  | loop c => simp [zj_, zo_] at hc
  | scope c => simp [zj_, zo_] at hc
  | exit id => simp [zj_, zo_] at hc
  | ret => simp [zj_, zo_] at hc
  | goto l => simp [zj_, zo_] at hc
  | refuse w => simp [zj_, zo_] at hc
  | rangeFunc _ _ _ _ => simp [zj_, zo_] at hc
 | gdraw m es =>
  intro c f h κ r hc hd
  cases c with
  | region id ops draw =>
   simp only [zj_] at hc
   cases draw with
   | false => simp [zo_] at hc
   | true =>
    simp only [if_true, zo_, zgp_] at hc
    split at hc
    ·simp at hc
    ·split at hc
     ·rename_i es0 h1
      simp only [Option.some.injEq, RCode.gdraw.injEq] at hc
      obtain ⟨f', h', hk, hrun⟩ := ziw_ hC h1 hc.2.symm hc.1.symm hd
      exact ⟨.normal, f', h', hk, hrun⟩
     ·simp at hc
  | skip => simp [zj_, zo_] at hc
  | label l => simp [zj_, zo_] at hc
  | seq a b => simp only [zj_] at hc; split at hc <;> (try cases hc); split at hc <;> simp [zo_] at hc
  | cond c a b => simp only [zj_] at hc; split at hc <;> (try cases hc); split at hc <;> simp [zo_] at hc
  | block id c => simp [zj_, zo_] at hc
  | loop c => simp [zj_, zo_] at hc
  | scope c => simp [zj_, zo_] at hc
  | exit id => simp [zj_, zo_] at hc
  | ret => simp [zj_, zo_] at hc
  | goto l => simp [zj_, zo_] at hc
  | refuse w => simp [zj_, zo_] at hc
  | rangeFunc _ _ _ _ => simp [zj_, zo_] at hc
 | seq ra rb iha ihb =>
  intro c f h κ r hc hd
  obtain ⟨a, b, rfl, ha, hb⟩ : ∃ a b, c = .seq a b ∧ zj_ P G n a = some (zo_ ra) ∧ zj_ P G n b = some (zo_ rb) := by
   cases c <;> simp only [zj_] at hc <;> (try (simp [zo_] at hc; done))
   case region id ops d => obtain ⟨_, e⟩ | ⟨_, e⟩ | ⟨_, _, e⟩ := zQc_ (id := id) (draw := d) hc <;> simp [zo_] at e
   case seq a b =>
    split at hc
    ·cases hc
    ·rename_i x hx
     split at hc
     ·cases hc
     ·rename_i y hy; simp [zo_] at hc; exact ⟨a, b, rfl, by rw [hx, hc.1], by rw [hy, hc.2]⟩
   case cond c a b => split at hc <;> (try cases hc); split at hc <;> simp [zo_] at hc
  simp only [den] at hd
  obtain ⟨e1, f1, h1, hk1, hn1, hr1⟩ := iha a f h _ r ha hd
  cases e1 with
  | normal =>
   obtain ⟨e2, f2, h2, hk2, hn2, hr2⟩ := ihb b f1 h1 κ r hb hk1
   refine ⟨e2, f2, h2, hk2, Nat.le_trans hn1 hn2, fun rd μ a' w t z => ?_⟩
   refine wpIn_seq (wpIn_mono (hr1 rd μ a' w t (z.le hn2)) ?_)
   rintro e a1 w1 ⟨rfl, μ1, t1, s1⟩
   refine wpIn_mono (hr2 rd μ1 a1 w1 t1 (s1.zed z)) ?_
   rintro e a2 w2 ⟨rfl, μ2, t2, s2⟩
   exact ⟨rfl, μ2, t2, s1.trans s2⟩
  | exit i =>
   refine ⟨.exit i, f1, h1, hk1, hn1, fun rd μ a' w t z => wpIn_seq (wpIn_mono (hr1 rd μ a' w t z) ?_)⟩
   rintro e a1 w1 ⟨rfl, q⟩; exact ⟨rfl, q⟩
  | ret =>
   refine ⟨.ret, f1, h1, hk1, hn1, fun rd μ a' w t z => wpIn_seq (wpIn_mono (hr1 rd μ a' w t z) ?_)⟩
   rintro e a1 w1 ⟨rfl, q⟩; exact ⟨rfl, q⟩
 | cond o ra rb iha ihb =>
  intro c f h κ r hc hd
  obtain ⟨a, b, rfl, ha, hb⟩ : ∃ a b, c = .cond o a b ∧ zj_ P G n a = some (zo_ ra) ∧ zj_ P G n b = some (zo_ rb) := by
   cases c <;> simp only [zj_] at hc <;> (try (simp [zo_] at hc; done))
   case region id ops d => obtain ⟨_, e⟩ | ⟨_, e⟩ | ⟨_, _, e⟩ := zQc_ (id := id) (draw := d) hc <;> simp [zo_] at e
   case seq a b => split at hc <;> (try cases hc); split at hc <;> simp [zo_] at hc
   case cond c a b =>
    split at hc
    ·cases hc
    ·rename_i x hx
     split at hc
     ·cases hc
     ·rename_i y hy; simp [zo_] at hc; exact ⟨a, b, by rw [hc.1], by rw [hx, hc.2.1], by rw [hy, hc.2.2]⟩
  simp only [den] at hd
  split at hd
  ·rename_i t
   split at hd
   ·rename_i x hx
    have hev : ∀ {ds : List Deferred} (μ : BMap) (a' : Act) (w : World), At ds G μ f h n a' w → a'.eval (.tmp t) = .bool x := fun μ a' w at_ => by
     have := at_.fr t _ hx
     exact zas_ this
    split at hd
    ·rename_i hxt; subst hxt
     obtain ⟨e1, f1, h1, hk1, hr1⟩ := iha a _ h κ r ha hd
     exact ⟨e1, f1, h1, hk1, hr1.1, fun rd μ a' w at_ z => wpIn_cond (hev μ a' w at_) ((hr1.weaken (zah_ hx)).2 rd μ a' w at_ z)⟩
    ·rename_i hxf
     simp only [Bool.not_eq_true] at hxf; subst hxf
     obtain ⟨e1, f1, h1, hk1, hr1⟩ := ihb b _ h κ r hb hd
     exact ⟨e1, f1, h1, hk1, hr1.1, fun rd μ a' w at_ z => wpIn_cond (hev μ a' w at_) ((hr1.weaken (zah_ hx)).2 rd μ a' w at_ z)⟩
   ·cases hd
  ·rename_i x
   cases x with
   | true =>
    obtain ⟨e1, f1, h1, hk1, hr1⟩ := iha a f h κ r ha hd
    exact ⟨e1, f1, h1, hk1, hr1.1, fun rd μ a' w at_ z => wpIn_cond (t := true) rfl (hr1.2 rd μ a' w at_ z)⟩
   | false =>
    obtain ⟨e1, f1, h1, hk1, hr1⟩ := ihb b f h κ r hb hd
    exact ⟨e1, f1, h1, hk1, hr1.1, fun rd μ a' w at_ z => wpIn_cond (t := false) rfl (hr1.2 rd μ a' w at_ z)⟩
  ·cases hd
 | scope ra iha =>
  intro c f h κ r hc hd
  obtain ⟨a, rfl, ha⟩ : ∃ a, c = .scope a ∧ zj_ P G n a = some (zo_ ra) := by
   cases c <;> simp only [zj_] at hc <;> (try (simp [zo_] at hc; done))
   case region id ops d => obtain ⟨_, e⟩ | ⟨_, e⟩ | ⟨_, _, e⟩ := zQc_ (id := id) (draw := d) hc <;> simp [zo_] at e
   case seq a b => split at hc <;> (try cases hc); split at hc <;> simp [zo_] at hc
   case cond c a b => split at hc <;> (try cases hc); split at hc <;> simp [zo_] at hc
   case scope a =>
    simp only [Option.map_eq_some_iff] at hc
    obtain ⟨x, hx, e⟩ := hc
    simp [zo_] at e
    exact ⟨a, rfl, by rw [hx, e]⟩
  simp only [den] at hd
  obtain ⟨e1, f1, h1, hk1, hn1, hr1⟩ := iha a f h _ r ha hd
  refine ⟨e1, f1, h1, hk1, hn1, fun rd μ a' w t z => zQh_ (wpIn_mono (hr1 rd μ a' w t z) ?_)⟩
  rintro e a1 w1 ⟨rfl, q⟩
  cases e1 <;> exact ⟨rfl, q⟩
 | block id ra iha =>
  intro c f h κ r hc hd
  obtain ⟨a, rfl, ha⟩ : ∃ a, c = .block id a ∧ zj_ P G n a = some (zo_ ra) := by
   cases c <;> simp only [zj_] at hc <;> (try (simp [zo_] at hc; done))
   case region id ops d => obtain ⟨_, e⟩ | ⟨_, e⟩ | ⟨_, _, e⟩ := zQc_ (id := id) (draw := d) hc <;> simp [zo_] at e
   case seq a b => split at hc <;> (try cases hc); split at hc <;> simp [zo_] at hc
   case cond c a b => split at hc <;> (try cases hc); split at hc <;> simp [zo_] at hc
   case block id' a =>
    simp only [Option.map_eq_some_iff] at hc
    obtain ⟨x, hx, e⟩ := hc
    simp [zo_] at e
    exact ⟨a, by rw [e.1], by rw [hx, e.2]⟩
  simp only [den] at hd
  obtain ⟨e1, f1, h1, hk1, hn1, hr1⟩ := iha a f h _ r ha hd
  cases e1 with
  | normal =>
   refine ⟨.normal, f1, h1, hk1, hn1, fun rd μ a' w t z => wpIn_block (wpIn_mono (hr1 rd μ a' w t z) ?_)⟩
   rintro e a1 w1 ⟨rfl, q⟩; exact ⟨rfl, q⟩
  | ret =>
   refine ⟨.ret, f1, h1, hk1, hn1, fun rd μ a' w t z => wpIn_block (wpIn_mono (hr1 rd μ a' w t z) ?_)⟩
   rintro e a1 w1 ⟨rfl, q⟩; exact ⟨rfl, q⟩
  | exit i =>
   simp only at hk1
   cases hb : Nat.beq i id
   ·rw [hb] at hk1
    have hne : i ≠ id := fun e => by subst e; rw [Nat.beq_refl] at hb; cases hb
    refine ⟨.exit i, f1, h1, hk1, hn1, fun rd μ a' w t z => wpIn_block (wpIn_mono (hr1 rd μ a' w t z) ?_)⟩
    rintro e a1 w1 ⟨rfl, q⟩
    simp only [zIj_, Exit.inBlock, hne, if_false]
    exact ⟨trivial, q⟩
   ·rw [hb] at hk1
    have he : i = id := Nat.eq_of_beq_eq_true hb
    subst he
    refine ⟨.normal, f1, h1, hk1, hn1, fun rd μ a' w t z => wpIn_block (wpIn_mono (hr1 rd μ a' w t z) ?_)⟩
    rintro e a1 w1 ⟨rfl, q⟩
    simp only [zIj_, Exit.inBlock, if_true]
    exact ⟨trivial, q⟩
 | loop L ra iha =>
  intro c f h κ r hc hd
  obtain ⟨a, rfl, ha⟩ : ∃ a, c = .loop a ∧ zj_ P G n a = some (zo_ ra) := by
   cases c <;> simp only [zj_] at hc <;> (try (simp [zo_] at hc; done))
   case region id ops d => obtain ⟨_, e⟩ | ⟨_, e⟩ | ⟨_, _, e⟩ := zQc_ (id := id) (draw := d) hc <;> simp [zo_] at e
   case seq a b => split at hc <;> (try cases hc); split at hc <;> simp [zo_] at hc
   case cond c a b => split at hc <;> (try cases hc); split at hc <;> simp [zo_] at hc
   case loop a =>
    simp only [Option.map_eq_some_iff] at hc
    obtain ⟨x, hx, e⟩ := hc
    simp [zo_] at e
    exact ⟨a, rfl, by rw [hx, e]⟩
  simp only [den] at hd
  have key : ∀ (m : Nat) (f : PFr) (h : AHeap), appL L f (zi_ (zEl_ (fun _ => none) L) m fun rec => lamL L noFr fun f h => den C k ra f h fun e f h => match e with
    | .normal => appL L f rec h
    | .exit i => κ (.exit i) f h
    | .ret => κ .ret f h) h = some r →
    ∃ e f' h', e ≠ .normal ∧ κ e f' h' = some r ∧ h.next ≤ h'.next ∧ ∀ {ds : List Deferred} (rd : Option Nat) (μ : BMap) (a' : Act) (w : World), At ds G μ f h n a' w → Zed μ h.next h'.next →
     Code.roundsIn (Fd rd) 0 P a (fun x a' w' => x = zIj_ e ∧ ∃ μ', At ds G μ' f' h' n a' w' ∧ Step G μ h w μ' h' w') m a' w := by
   intro m
   induction m with
   | zero => intro f h hd; exact (zUx_ hd).elim
   | succ m ihm =>
    intro f h hd
    simp only [zi_] at hd
    obtain ⟨g, hg, hd⟩ := zCm_ (fun s v hv => by cases hv) hd
    obtain ⟨e1, f1, h1, hk1, hr1⟩ := iha a g h _ r ha hd
    have hr1 := hr1.weaken hg
    obtain ⟨hn1, hr1⟩ := hr1
    cases e1 with
    | normal =>
     obtain ⟨e2, f2, h2, hne, hk2, hn2, hr2⟩ := ihm f1 h1 hk1
     refine ⟨e2, f2, h2, hne, hk2, Nat.le_trans hn1 hn2, fun rd μ a' w t z => ?_⟩
     rw [roundsIn_succ]
     refine wpIn_mono (hr1 rd μ a' w t (z.le hn2)) ?_
     rintro e a1 w1 ⟨rfl, μ1, t1, s1⟩
     refine zKp_ ?_ _ _ _ (hr2 rd μ1 a1 w1 t1 (s1.zed z))
     rintro e a2 w2 ⟨rfl, μ2, t2, s2⟩
     exact ⟨rfl, μ2, t2, s1.trans s2⟩
    | exit i =>
     refine ⟨.exit i, f1, h1, by simp, hk1, hn1, fun rd μ a' w t z => ?_⟩
     rw [roundsIn_succ]
     refine wpIn_mono (hr1 rd μ a' w t z) ?_
     rintro e a1 w1 ⟨rfl, q⟩; exact ⟨rfl, q⟩
    | ret =>
     refine ⟨.ret, f1, h1, by simp, hk1, hn1, fun rd μ a' w t z => ?_⟩
     rw [roundsIn_succ]
     refine wpIn_mono (hr1 rd μ a' w t z) ?_
     rintro e a1 w1 ⟨rfl, q⟩; exact ⟨rfl, q⟩
  obtain ⟨e, f', h', _, hk, hn, hr⟩ := key k f h hd
  exact ⟨e, f', h', hk, hn, fun rd μ a' w t z => wpIn_loop_rounds k (hr rd μ a' w t z)⟩
 | join L ra iha =>
  intro c f h κ r hc hd
  simp only [den, zm_] at hd
  have hc' : zj_ P G n c = some (zo_ ra) := hc
  obtain ⟨e1, f1, h1, hk1, hr1⟩ := iha c f h _ r hc' hd
  cases e1 with
  | normal =>
   obtain ⟨g, hg, hk⟩ := zCm_ (fun s v hv => by cases hv) hk1
   refine ⟨.normal, g, h1, hk, hr1.1, fun rd μ a' w t z => wpIn_mono (hr1.2 rd μ a' w t z) ?_⟩
   rintro e a1 w1 ⟨rfl, μ1, t1, s1⟩
   exact ⟨rfl, μ1, t1.weaken hg, s1⟩
  | exit i => exact ⟨.exit i, f1, h1, hk1, hr1⟩
  | ret => exact ⟨.ret, f1, h1, hk1, hr1⟩
 | exit id =>
  intro c f h κ r hc hd
  obtain rfl : c = .exit id := by
   cases c <;> simp only [zj_] at hc <;> (try (simp [zo_] at hc; done))
   case region id ops d => obtain ⟨_, e⟩ | ⟨_, e⟩ | ⟨_, _, e⟩ := zQc_ (id := id) (draw := d) hc <;> simp [zo_] at e
   case seq a b => split at hc <;> (try cases hc); split at hc <;> simp [zo_] at hc
   case cond c a b => split at hc <;> (try cases hc); split at hc <;> simp [zo_] at hc
   case exit i => simp [zo_] at hc; rw [hc]
  exact ⟨.exit id, f, h, hd, Nat.le_refl _, fun rd μ a' w t z => wpIn_exit ⟨rfl, μ, t, .refl t.sim⟩⟩
 | ret =>
  intro c f h κ r hc hd
  obtain rfl : c = .ret := by
   cases c <;> simp only [zj_] at hc <;> (try (simp [zo_] at hc; done))
   case region id ops d => obtain ⟨_, e⟩ | ⟨_, e⟩ | ⟨_, _, e⟩ := zQc_ (id := id) (draw := d) hc <;> simp [zo_] at e
   case seq a b => split at hc <;> (try cases hc); split at hc <;> simp [zo_] at hc
   case cond c a b => split at hc <;> (try cases hc); split at hc <;> simp [zo_] at hc
   case ret => rfl
  exact ⟨.ret, f, h, hd, Nat.le_refl _, fun rd μ a' w t z => wpIn_ret ⟨rfl, μ, t, .refl t.sim⟩⟩
 | stuck =>
  intro c f h κ r hc hd
  simp [den] at hd
end
abbrev TupT : zS_ → Type
 | [] => Unit
 | [(_, t)] => t.T
 | (_, t) :: p :: L => t.T × TupT (p :: L)
def encT : (L : zS_) → TupT L → List Value
 | [], _ => []
 | [(_, t)], x => [t.enc x]
 | (_, t) :: p :: L, x => t.enc x.1 :: encT (p :: L) x.2
def retV : List Value → Value
 | [v] => v
 | l => .tuple ⟨l⟩
def resV {X : Type} (s : Nat) (c : Option LTy) (f : PFr) (h : AHeap) (g : Value → Option X) : Option X :=
 match f s with
 | some v => match c with
  | none => g v
  | some T => match v with
   | .pointer p => p.bind fun a => zhe_ T a h g
   | _ => none
 | none => none
def resT {X : Type} : (L : zS_) → List (Option LTy) → PFr → AHeap → (TupT L → Option X) → Option X
 | [], [], _, _, g => g ()
 | [(s, t)], [c], f, h, g => resV s c f h fun v => (t.dec v).bind g
 | (s, t) :: p :: L, c :: cs, f, h, g => resV s c f h fun v => (t.dec v).bind fun x => resT (p :: L) cs f h fun y => g (x, y)
 | _, _, _, _, _ => none
def zlp_ (args : List Value) : PFr := fun s => args[s]?
noncomputable def denF (C : za_) (k : Nat) (rc : RCode) (rs : zS_) (cs : List (Option LTy)) (args : List Value) (h : AHeap) : Option (TupT rs × AHeap) :=
 den C k rc (zlp_ args) h fun e f h => match e with
  | .exit _ => none
  | .normal => resT rs cs f h fun x => some (x, h)
  | .ret => resT rs cs f h fun x => some (x, h)
def curF {X : Type} : (L : zS_) → (List Value → AHeap → Option X) → FnL L (AHeap → Option X)
 | [], b => b []
 | (_, t) :: L, b => fun x => curF L fun vs => b (t.enc x :: vs)
def appA {X : Type} : (L : zS_) → List Value → FnL L (AHeap → Option X) → AHeap → Option X
 | [], [], g, h => g h
 | (_, t) :: L, v :: vs, g, h => (t.dec v).bind fun x => appA L vs (g x) h
 | [], _ :: _, _, _ => none
 | _ :: _, [], _, _ => none
structure Ent where
 id : FuncId
 run : (R : Type) → List Value → AHeap → (Value → AHeap → Option R) → Option R
def zn_ (id : FuncId) (ps rs : zS_) (f : FnL ps (AHeap → Option (TupT rs × AHeap))) : Ent :=
 ⟨id, fun _ args h κ => (appA ps args f h).bind fun r => κ (retV (encT rs r.1)) r.2⟩
def zk_ (P : Program) (G : Nat) (e : Ent) : Prop :=
 ∀ (R : Type) (args : List Value) (h : AHeap) (κ : Value → AHeap → Option R) (r : R), e.run R args h κ = some r → ∃ v h', κ v h' = some r ∧ FnS P G e.id args h v h'
def mkC (D : za_) : List Ent → za_
 | [] => D
 | e :: es => fun R g args h κ => bif Nat.beq g e.id then e.run R args h κ else mkC D es R g args h κ
def noC : za_ := fun _ _ _ _ _ => none
def zb_ (P : Program) (G : Nat) : List Ent → Prop
 | [] => True
 | e :: es => zk_ P G e ∧ zb_ P G es
section
variable {G : Nat} {P : Program}
theorem zFf_ : zf_ P G noC := fun _ _ _ _ _ _ h => by cases h
theorem zd_ {D : za_} (hD : zf_ P G D) : ∀ {es : List Ent}, zb_ P G es → zf_ P G (mkC D es)
 | [], _ => hD
 | e :: es, hes => fun R g args h κ r hr => by
  simp only [mkC] at hr
  cases hb : Nat.beq g e.id
  ·rw [hb] at hr; exact zd_ hD hes.2 R g args h κ r hr
  ·rw [hb] at hr
   have he : g = e.id := Nat.eq_of_beq_eq_true hb
   subst he; exact hes.1 R args h κ r hr
def ResV (f : PFr) (h : AHeap) (s : Nat) (c : Option LTy) (v : Value) : Prop :=
 match c with
 | none => f s = some v
 | some T => ∃ a, f s = some (.pointer (some a)) ∧ zhe_ T a h some = some v
def ResR (f : PFr) (h : AHeap) : zS_ → List (Option LTy) → List Value → Prop
 | [], [], [] => True
 | (s, _) :: L, c :: cs, v :: vs => ResV f h s c v ∧ ResR f h L cs vs
 | _, _, _ => False
theorem zQA_ {R : Type} {t : LTy} {a : Addr} {h : AHeap} {κ : Value → Option R} {r : R} (hd : zhe_ t a h κ = some r) : ∃ v, κ v = some r ∧ zhe_ t a h some = some v := by
 obtain ⟨v, h1, _, h2⟩ := zym_ hd
 exact ⟨v, h1, h2 h (by cases t <;> rfl) some⟩
theorem zZs_ {X : Type} {s : Nat} {c : Option LTy} {f : PFr} {h : AHeap} {g : Value → Option X} {r : X} (hr : resV s c f h g = some r) : ∃ v, g v = some r ∧ ResV f h s c v := by
 unfold resV at hr
 split at hr
 ·rename_i v hv
  cases c with
  | none => exact ⟨v, hr, hv⟩
  | some T =>
   simp only at hr
   split at hr
   ·rename_i p
    simp only [Option.bind_eq_some_iff] at hr
    obtain ⟨a, rfl, hr⟩ := hr
    obtain ⟨v', h1, h2⟩ := zQA_ hr
    exact ⟨v', h1, a, hv, h2⟩
   ·cases hr
 ·cases hr
theorem zio_ {X : Type} : ∀ {L : zS_} {cs : List (Option LTy)} {f : PFr} {h : AHeap} {g : TupT L → Option X} {r : X}, resT L cs f h g = some r → ∃ x, g x = some r ∧ ResR f h L cs (encT L x)
 | [], [], f, h, g, r, e => ⟨(), e, trivial⟩
 | [(s, t)], [c], f, h, g, r, e => by
  simp only [resT] at e
  obtain ⟨v, h1, h2⟩ := zZs_ e
  simp only [Option.bind_eq_some_iff] at h1
  obtain ⟨x, hx, hg⟩ := h1
  refine ⟨x, hg, ?_, trivial⟩
  rw [LTy.enc_dec hx]; exact h2
 | (s, t) :: p :: L, c :: cs, f, h, g, r, e => by
  simp only [resT] at e
  obtain ⟨v, h1, h2⟩ := zZs_ e
  simp only [Option.bind_eq_some_iff] at h1
  obtain ⟨x, hx, hg⟩ := h1
  obtain ⟨y, hy, hR⟩ := zio_ hg
  refine ⟨(x, y), hy, ?_, hR⟩
  rw [LTy.enc_dec hx]; exact h2
 | [], _ :: _, _, _, _, _, e => by simp [resT] at e
 | [_], [], _, _, _, _, e => by simp [resT] at e
 | [_], _ :: _ :: _, _, _, _, _, e => by simp [resT] at e
 | _ :: _ :: _, [], _, _, _, _, e => by simp [resT] at e
theorem zHq_ {X : Type} : ∀ {L : zS_} {args : List Value} {b : List Value → AHeap → Option X} {h : AHeap} {r : X}, appA L args (curF L b) h = some r → b args h = some r
 | [], [], b, h, r, e => e
 | (s, t) :: L, v :: vs, b, h, r, e => by
  simp only [appA, curF, Option.bind_eq_some_iff] at e
  obtain ⟨x, hx, e⟩ := e
  have := zHq_ e
  rw [LTy.enc_dec hx] at this
  exact this
 | [], _ :: _, b, h, r, e => by simp [appA] at e
 | _ :: _, [], b, h, r, e => by simp [appA] at e
def zJd_ (P : Program) : List ResultVar → zS_ → List (Option LTy) → Bool
 | [], [], [] => true
 | .tmp t :: l, (s, _) :: L, none :: cs => Nat.beq t s && zJd_ P l L cs
 | .cell t ty :: l, (s, _) :: L, some T :: cs => Nat.beq t s && decide (zZe_ P ty = some T) && zJd_ P l L cs
 | _, _, _ => false
theorem zsx_ {t : TypeId} {T : LTy} {μ : BMap} {h : AHeap} {w : World} (hT : zZe_ P t = some T) (s : Sim G μ h w) {ad : Addr} {p' v : Value} (hv : VR μ (.pointer (some ad)) p') (hd : zhe_ T ad h some = some v) :
  ∃ v', (do loadVar t (← asAddr p') : Sem Value).run P w = .ok v' w ∧ VR μ v v' := by
 obtain ⟨v0, hk, hv0, _⟩ := zym_ hd
 cases hk
 obtain ⟨b, o, c, d, z, rfl, he, hm⟩ := zDe_ hv
 subst he
 cases T
 case st ts => exact (zLm_ hT).elim
 case agg n =>
  obtain ⟨l, hl, rfl⟩ := hv0
  obtain ⟨h1, h2⟩ := zdo_ hT
  obtain ⟨vs', q1, q2, _⟩ := s.loads (P := P) hm hl
  exact ⟨_, by simp [asAddr, loadVar, zQe_ h1, run_sizeOf' h2, q1], .agg_list q2⟩
 all_goals
  obtain ⟨v', q1, q2⟩ := s.cell hm hv0
  exact ⟨v', by simp [asAddr, loadVar, zQe_ (zLn_ hT (fun n e => by cases e)), q1], q2⟩
theorem zSk_ {fn : Func} {rs : zS_} {cs : List (Option LTy)} (hr : zJd_ P fn.results.toList rs cs = true) {μ : BMap} {f : PFr} {tmps : Array Value} (fr : FR μ f tmps) {h : AHeap} {w : World} (sim : Sim G μ h w) {vals : List Value}
  (hx : ResR f h rs cs vals) : ∃ v', (results fn tmps).run P w = .ok v' w ∧ VR μ (retV vals) v' := by
 let F : ResultVar → Sem Value := (fun | .tmp t => pure (tmps.getD t undef) | .cell a t => do loadVar t (← asAddr (tmps.getD a undef)) : ResultVar → Sem Value)
 let g : ResultVar → Value := fun r => match (F r).run P w with | .ok v _ => v | _ => undef
 have gok : ∀ r v, (F r).run P w = .ok v w → g r = v := fun r v e => by simp only [g, e]
 have key : ∀ (l : List ResultVar) (L : zS_) (cs : List (Option LTy)) (vs : List Value), zJd_ P l L cs = true → ResR f h L cs vs →
   (∀ r ∈ l, (F r).run P w = .ok (g r) w) ∧ VRs μ vs (l.map g) := by
  intro l
  induction l with
  | nil =>
   intro L cs vs h1 h2
   cases L <;> cases cs <;> simp [zJd_] at h1
   cases vs with
   | nil => exact ⟨fun r hr => (by cases hr), VRs.nil μ⟩
   | cons _ _ => simp [ResR] at h2
  | cons r l ih =>
   intro L cs vs h1 h2
   cases L with
   | nil => cases r <;> simp [zJd_] at h1
   | cons p L =>
    obtain ⟨s, t⟩ := p
    cases cs with
    | nil => cases r <;> simp [zJd_] at h1
    | cons c cs =>
    cases vs with
    | nil => simp [ResR] at h2
    | cons v vs =>
    simp only [ResR] at h2
    have main : ∃ v', (F r).run P w = .ok v' w ∧ VR μ v v' := by
     cases r with
     | tmp tt =>
      cases c with
      | some _ => simp [zJd_] at h1
      | none =>
       simp only [zJd_, Bool.and_eq_true] at h1
       have hts : tt = s := Nat.eq_of_beq_eq_true h1.1
       subst hts
       exact ⟨_, rfl, fr _ _ h2.1⟩
     | cell tt ty =>
      cases c with
      | none => simp [zJd_] at h1
      | some T =>
       simp only [zJd_, Bool.and_eq_true] at h1
       have hts : tt = s := Nat.eq_of_beq_eq_true h1.1.1
       subst hts
       obtain ⟨a, ha, hd⟩ := h2.1
       exact zsx_ (of_decide_eq_true h1.1.2) sim (fr _ _ ha) hd
    have tl : zJd_ P l L cs = true := by
     cases r <;> cases c <;> simp only [zJd_, Bool.and_eq_true] at h1 <;> first | exact h1.2 | cases h1
    obtain ⟨k1, k2⟩ := ih L cs vs tl h2.2
    obtain ⟨v', q1, q2⟩ := main
    have e := gok _ _ q1
    refine ⟨fun r' hr' => ?_, ?_⟩
    ·rcases List.mem_cons.1 hr' with rfl | hr'
     ·rw [q1, e]
     ·exact k1 r' hr'
    ·simp only [List.map_cons]
     exact .cons (e ▸ q2) k2
 obtain ⟨k1, k2⟩ := key fn.results.toList rs cs vals hr hx
 have hm := zTs_ (P := P) F g w fn.results (fun r hr => k1 r hr)
 have hrun : (results fn tmps).run P w = .ok (if h : (fn.results.map g).size = 1 then (fn.results.map g)[0] else .tuple (fn.results.map g)) w := by
  unfold results
  simp only [Sem.run_bind]
  erw [hm]
  rfl
 have fin : ∀ (A : Array Value) (vs : List Value), VRs μ vs A.toList → VR μ (retV vs) (if h : A.size = 1 then A[0] else .tuple A) := by
  intro A vs k2
  obtain ⟨al⟩ := A
  match vs, al, k2 with
  | [], al, k2 =>
   have := k2.nil_inv; subst this
   simp [retV]
   exact .tuple_list (.nil μ)
  | [v], al, k2 =>
   obtain ⟨v', t, e, h1, h2⟩ := k2.cons_inv
   have := h2.nil_inv; subst this
   simp only at e; subst e
   simpa [retV] using h1
  | v :: v2 :: vs, al, k2 =>
   have hl2 := k2.1
   rw [dif_neg (by simp at hl2 ⊢; omega)]
   exact .tuple_list k2
 refine ⟨_, hrun, fin _ _ ?_⟩
 have hlist : (fn.results.map g).toList = fn.results.toList.map g := by simp
 rw [hlist]; exact k2
theorem zMD_ {fn : Func} {g : FuncId} {c : Code} {rc : RCode} {rs : zS_} {cs : List (Option LTy)} {C : za_} {k : Nat} {args : List Value} {h h' : AHeap} {x : TupT rs} (hC : zf_ P G C) (hf : P.funcs[g]? = some fn) (hb : fn.body = some c)
  (hname : (fn.name == "runtime.NumGoroutine") = false) (hcode : zj_ P G fn.ntmps c = some (zo_ rc)) (hres : zJd_ P fn.results.toList rs cs = true) (hd : denF C k rc rs cs args h = some (x, h')) :
  FnS P G g args h (retV (encT rs x)) h' := by
 unfold denF at hd
 obtain ⟨e, f', h1, hk, hn, hrun⟩ := zIk_ hC rc c (zlp_ args) h _ _ hcode hd
 have hex : (e = .normal ∨ e = .ret) ∧ resT rs cs f' h1 (fun x => some (x, h1)) = some (x, h') := by
  cases e with
  | normal => exact ⟨.inl rfl, hk⟩
  | ret => exact ⟨.inr rfl, hk⟩
  | exit i => simp at hk
 obtain ⟨he, hk⟩ := hex
 obtain ⟨x', hx', hR⟩ := zio_ hk
 simp only [Option.some.injEq, Prod.mk.injEq] at hx'
 obtain ⟨rfl, rfl⟩ := hx'
 refine ⟨hn, fun μ w args' s z hv rd o a next Q hnext => ?_⟩
 have hcall : (callFunc g ⟨args'⟩).run P w = .ok (.enter g ⟨args'⟩) w := by
  have hne : ¬ fn.name = "runtime.NumGoroutine" := by simpa using hname
  simp [callFunc, hf, hne, hb]
 rw [zXe_ hf]
 refine zyl_ ?_
 rw [hcall, Oper.upon_enter]
 refine calls_of_wp hf hb (wp_mono (wpIn_wide.1 (hrun none μ _ w ⟨s, fun t v ht => ?_, rfl, ?_⟩ z)) ?_)
 ·-- the arguments' slots
  simp only [zlp_] at ht
  obtain ⟨v', q1, q2⟩ := hv.get ht
  have hlt : t < args'.length := (List.getElem?_eq_some_iff.1 q1).1
  rw [Array.getD_eq_getD_getElem?, Array.getElem?_append_left (by simpa using hlt)]
  have : (⟨args'⟩ : Array Value)[t]? = some v' := by simpa using q1
  rw [this]; exact q2
 ·simp; omega
 ·rintro y a1 w1 ⟨rfl, μ1, at1, st⟩
  obtain ⟨v', r1, r2⟩ := zSk_ (P := P) hres at1.fr at1.sim hR
  have : bodyPost P fn (fun e w'' => match e with
    | .returned v => next (a.put o.dst v) w''
    | .panicked chain => Q (.panic chain) a w''
    | .outgrown => LetsOut Q) .ret a1 w1 := ⟨at1.df, v', r1, hnext v' w1 ⟨μ1, r2, st⟩⟩
  rcases he with rfl | rfl
  ·exact this
  ·exact this
theorem zUA_ {fn : Func} {id : FuncId} {c : Code} {rc : RCode} {ps rs : zS_} {cs : List (Option LTy)} {C : za_} {k : Nat} {f : FnL ps (AHeap → Option (TupT rs × AHeap))} (hC : zf_ P G C) (hf : P.funcs[id]? = some fn) (hb : fn.body = some c)
  (hname : (fn.name == "runtime.NumGoroutine") = false) (hcode : zj_ P G fn.ntmps c = some (zo_ rc)) (hres : zJd_ P fn.results.toList rs cs = true)
  (hrfl : curF ps (fun args h => denF C k rc rs cs args h) = f) : zk_ P G (zn_ id ps rs f) := by
 intro R args h κ r hr
 simp only [zn_, Option.bind_eq_some_iff] at hr
 obtain ⟨⟨x, h'⟩, hx, hk⟩ := hr
 rw [← hrfl] at hx
 exact ⟨_, h', hk, zMD_ hC hf hb hname hcode hres (zHq_ hx)⟩
end
inductive AT where
 | n
 | j (L : zS_) (t : AT)
 | s (a b : AT)
 | b (a : AT)
 | l (L : zS_) (a : AT)
 | r (tags : List (Nat × LTy))
def zKt_ : List (Nat × LTy) → Nat → Option LTy
 | [], _ => none
 | (i, t) :: l, m => bif Nat.beq i m then some t else zKt_ l m
def tagO (t : Option LTy) (o : RO) : RO := ⟨o.dst, o.op, o.guard, t⟩
def tagR (ts : List (Nat × LTy)) : Nat → List RO → List RO
 | _, [] => []
 | m, o :: l => tagO (zKt_ ts m) o :: tagR ts (m + 1) l
def tagD (ts : List (Nat × LTy)) : Nat → List RD → List RD
 | _, [] => []
 | m, e :: l => ⟨e.idx, tagO (zKt_ ts m) e.ro, e.looks, e.win⟩ :: tagD ts (m + 1) l
def tagG (ts : List (Nat × LTy)) : Nat → List RG → List RG
 | _, [] => []
 | m, e :: l => ⟨⟨e.d.idx, tagO (zKt_ ts m) e.d.ro, e.d.looks, e.d.win⟩, e.gh, e.own⟩ :: tagG ts (m + 1) l
def an : AT → RCode → RCode
 | .n, c => c
 | .j L t, c => .join L (an t c)
 | .s x y, c => match c with
  | .seq a b => .seq (an x a) (an y b)
  | .cond o a b => .cond o (an x a) (an y b)
  | c => c
 | .b x, c => match c with
  | .block i a => .block i (an x a)
  | .scope a => .scope (an x a)
  | c => c
 | .l L x, c => match c with
  | .loop _ a => .loop L (an x a)
  | c => c
 | .r ts, c => match c with
  | .region os => .region (tagR ts 0 os)
  | .draw es => .draw (tagD ts 0 es)
  | .gdraw m es => .gdraw m (tagG ts 0 es)
  | c => c
def rOf (P : Program) (G : Nat) (f : Func) : RCode := (f.body.bind (zj_ P G f.ntmps)).getD .stuck
section
variable {G : Nat} {P : Program}
theorem zb_.none : zb_ P G [] := trivial
theorem zb_.more {e : Ent} {es : List Ent} (h : zk_ P G e) (hs : zb_ P G es) : zb_ P G (e :: es) := ⟨h, hs⟩
theorem ze_ {fn : Func} {id : FuncId} {rc : RCode} {ps rs : zS_} {cs : List (Option LTy)} {C : za_} {k : Nat} {f : FnL ps (AHeap → Option (TupT rs × AHeap))} (hC : zf_ P G C) (hf : P.funcs[id]? = some fn)
  (hname : (fn.name == "runtime.NumGoroutine") = false) (hcode : fn.body.bind (zj_ P G fn.ntmps) = some (zo_ rc)) (hres : zJd_ P fn.results.toList rs cs = true)
  (hrfl : curF ps (fun args h => denF C k rc rs cs args h) = f) : zk_ P G (zn_ id ps rs f) := by
 cases hb : fn.body with
 | none => rw [hb] at hcode; cases hcode
 | some c => rw [hb] at hcode; exact zUA_ hC hf hb hname hcode hres hrfl
end
section
variable {G : Nat} {P : Program}
theorem zlz_ {g : FuncId} {args : List Value} {h h' : AHeap} {v : Value} (hn : h.next ≤ h'.next)
  (k : ∀ (μ : BMap) (w : World) (args' : List Value), Sim G μ h w → Zed μ h.next h'.next → VRs μ args args' → ∃ μ' v' w', (callFunc g ⟨args'⟩).run P w = .ok (.value v') w' ∧ VR μ' v v' ∧ Step G μ h w μ' h' w') : FnS P G g args h v h' := by
 refine ⟨hn, fun μ w args' s z hv rd o a next Q hnext => ?_⟩
 obtain ⟨μ', v', w', h1, h2, h3⟩ := k μ w args' s z hv
 obtain ⟨fn, hf⟩ : ∃ fn, P.funcs[g]? = some fn := by
  cases hf : P.funcs[g]? with
  | some fn => exact ⟨fn, rfl⟩
  | none => simp [callFunc, hf] at h1
 rw [zXe_ hf, h1, Oper.uponIn_value]
 exact hnext v' w' ⟨μ', h2, h3⟩
theorem VR.unit {μ : BMap} : VR μ (.tuple ⟨[]⟩) (.tuple ⟨[]⟩) := .tuple_list (.nil μ)
variable {f : FuncId} {fn : Func}
theorem VRs.one_inv {μ : BMap} {v : Value} {l : List Value} (h : VRs μ [v] l) : ∃ v', l = [v'] ∧ VR μ v v' := by
 obtain ⟨v', t, e, h1, h2⟩ := h.cons_inv
 have := h2.nil_inv; subst this
 exact ⟨v', e, h1⟩
theorem VRs.two_inv {μ : BMap} {v u : Value} {l : List Value} (h : VRs μ [v, u] l) : ∃ v' u', l = [v', u'] ∧ VR μ v v' ∧ VR μ u u' := by
 obtain ⟨v', t, e, h1, h2⟩ := h.cons_inv
 obtain ⟨u', rfl, h3⟩ := h2.one_inv
 exact ⟨v', u', e, h1, h3⟩
theorem VRs.three_inv {μ : BMap} {v u x : Value} {l : List Value} (h : VRs μ [v, u, x] l) : ∃ v' u' x', l = [v', u', x'] ∧ VR μ v v' ∧ VR μ u u' ∧ VR μ x x' := by
 obtain ⟨v', t, e, h1, h2⟩ := h.cons_inv
 obtain ⟨u', x', rfl, h3, h4⟩ := h2.two_inv
 exact ⟨v', u', x', e, h1, h3, h4⟩
theorem zbC_ {a : Addr} {v : Value} {h h' : AHeap} (hs : st1 a v h = some h') : h'.next = h.next := by
 unfold st1 AHeap.wr1 at hs
 split at hs
 ·split at hs
  ·cases hs; rfl
  ·cases hs
 ·cases hs
end
end Gx
