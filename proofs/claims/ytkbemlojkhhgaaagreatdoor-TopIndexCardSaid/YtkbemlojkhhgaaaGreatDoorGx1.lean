import Derived.Orders
import Derived.Laws.Sem
import Derived.Laws.Cells
import Derived.Laws.Entries
import Derived.Laws.Append
import Derived.Laws.World
import Derived.Laws.Slices
import Derived.Laws.Build
import Derived.Laws.StructEq
import Derived.ChangeKeysEq
import Derived.Laws.BytesString
import Derived.Laws.LoneSync
import Derived.RangeFuncCalls
import Derived.RangeFuncLeaves
import Derived.OwnWalkIn
import Derived.OrdersIn
import Derived.LoopNIn
import Derived.Scope
namespace Gx
open Go
abbrev BMap := Nat → Option (Nat × Nat × Nat)
def zvk_ (sp : Option Nat) (m m' base z : Nat) : Prop :=
 match sp with
 | some (s + 1) => m ≤ m' ∧ base + m' * s ≤ z
 | _ => m' = m
def FnR (μ : BMap) : Fn → Fn → Prop
 | .yield b, f' => ∃ c d z, μ b = some (c, d, z) ∧ f' = .yield c
 | .func g, f' => f' = .func g ∧ g < 18446744073709551616
 | f, f' => f' = f
inductive VR (μ : BMap) : Value → Value → Prop
 | bool (b : Bool) : VR μ (.bool b) (.bool b)
 | int (k : IntKind) (n : Int) : VR μ (.int k n) (.int k n)
 | str (s : ByteArray) : VR μ (.string s) (.string s)
 | nilFunc : VR μ .nilFunc .nilFunc
 | nilIface : VR μ .nilIface .nilIface
 | nilMap : VR μ (.map none) (.map none)
 | nilPtr : VR μ (.pointer none) (.pointer none)
 | nilSlice : VR μ (.slice none 0 0) (.slice none 0 0)
 | ptr {b o c d z : Nat} : μ b = some (c, d, z) → VR μ (.pointer (some ⟨b, o, none⟩)) (.pointer (some ⟨c, d + o, none⟩))
 | slice {b o c d z n m m' : Nat} {sp : Option Nat} : μ b = some (c, d, z) → zvk_ sp m m' (d + o) z →
   VR μ (.slice (some ⟨b, o, sp⟩) n m) (.slice (some ⟨c, d + o, none⟩) n m')
 | empty {a a' : Addr} {m' : Nat} : (a.spot = none ∨ a.spot = some 0 → m' = 0) → VR μ (.slice (some a) 0 0) (.slice (some a') 0 m')
 | map {r c d z : Nat} : μ r = some (c, d, z) → VR μ (.map (some r)) (.map (some c))
 | func {fn fn' : Fn} {x y x' y' : Array Value} : FnR μ fn fn' → x.size = x'.size → y.size = y'.size →
   (∀ (i : Nat) (v v' : Value), x[i]? = some v → x'[i]? = some v' → VR μ v v') → (∀ (i : Nat) (v v' : Value), y[i]? = some v → y'[i]? = some v' → VR μ v v') →
   VR μ (.func fn x y) (.func fn' x' y')
 | iface {t : TypeId} {v v' : Value} : VR μ v v' → VR μ (.iface t v) (.iface t v')
 | agg {x x' : Array Value} : x.size = x'.size → (∀ (i : Nat) (v v' : Value), x[i]? = some v → x'[i]? = some v' → VR μ v v') → VR μ (.agg x) (.agg x')
 | tuple {x x' : Array Value} : x.size = x'.size → (∀ (i : Nat) (v v' : Value), x[i]? = some v → x'[i]? = some v' → VR μ v v') → VR μ (.tuple x) (.tuple x')
def BLe (μ ν : BMap) : Prop := ∀ b p, μ b = some p → ν b = some p
theorem BLe.refl (μ : BMap) : BLe μ μ := fun _ _ h => h
theorem FnR.mono {μ ν : BMap} (h : BLe μ ν) {f f' : Fn} (k : FnR μ f f') : FnR ν f f' := by
 cases f with
 | yield b => obtain ⟨c, d, z, k1, k2⟩ := k; exact ⟨c, d, z, h _ _ k1, k2⟩
 | _ => exact k
theorem VR.mono {μ ν : BMap} (h : BLe μ ν) {v v' : Value} (hv : VR μ v v') : VR ν v v' := by
 induction hv with
 | bool b => exact .bool b
 | int k n => exact .int k n
 | str s => exact .str s
 | nilFunc => exact .nilFunc
 | nilIface => exact .nilIface
 | nilMap => exact .nilMap
 | nilPtr => exact .nilPtr
 | nilSlice => exact .nilSlice
 | ptr hb => exact .ptr (h _ _ hb)
 | slice hb hc => exact .slice (h _ _ hb) hc
 | empty hc => exact .empty hc
 | map hb => exact .map (h _ _ hb)
 | func h0 h1 h2 _ _ ih1 ih2 => exact .func (h0.mono h) h1 h2 ih1 ih2
 | iface _ ih => exact .iface ih
 | agg hs _ ih => exact .agg hs ih
 | tuple hs _ ih => exact .tuple hs ih
def VRs (μ : BMap) (l l' : List Value) : Prop := l.length = l'.length ∧ ∀ (i : Nat) (v v' : Value), l[i]? = some v → l'[i]? = some v' → VR μ v v'
theorem VRs.mono {μ ν : BMap} (h : BLe μ ν) {l l' : List Value} (hv : VRs μ l l') : VRs ν l l' := ⟨hv.1, fun i v v' a b => (hv.2 i v v' a b).mono h⟩
theorem VRs.nil (μ : BMap) : VRs μ [] [] := ⟨rfl, fun i v v' h => by simp at h⟩
theorem VRs.cons {μ : BMap} {v v' : Value} {l l' : List Value} (h : VR μ v v') (k : VRs μ l l') : VRs μ (v :: l) (v' :: l') := by
 refine ⟨by simp [k.1], fun i x x' a b => ?_⟩
 cases i with
 | zero => simp at a b; subst a; subst b; exact h
 | succ i => simp at a b; exact k.2 i x x' a b
theorem VRs.cons_inv {μ : BMap} {v : Value} {l l' : List Value} (h : VRs μ (v :: l) l') : ∃ v' t, l' = v' :: t ∧ VR μ v v' ∧ VRs μ l t := by
 cases l' with
 | nil => exact absurd h.1 (by simp)
 | cons v' t => exact ⟨v', t, rfl, h.2 0 v v' rfl rfl, by simpa using h.1, fun i x x' a b => h.2 (i + 1) x x' (by simpa using a) (by simpa using b)⟩
theorem VRs.nil_inv {μ : BMap} {l' : List Value} (h : VRs μ [] l') : l' = [] := by
 cases l' with
 | nil => rfl
 | cons _ _ => exact absurd h.1 (by simp)
theorem VRs.append {μ : BMap} {a b a' b' : List Value} (h : VRs μ a a') (k : VRs μ b b') : VRs μ (a ++ b) (a' ++ b') := by
 induction a generalizing a' with
 | nil => rw [h.nil_inv]; exact k
 | cons v t ih => obtain ⟨v', t', rfl, h1, h2⟩ := h.cons_inv; exact .cons h1 (ih h2)
theorem VRs.get {μ : BMap} {a a' : List Value} (h : VRs μ a a') {i : Nat} {v : Value} (hv : a[i]? = some v) : ∃ v', a'[i]? = some v' ∧ VR μ v v' := by
 have hlt : i < a.length := (List.getElem?_eq_some_iff.1 hv).1
 have hlt' : i < a'.length := h.1 ▸ hlt
 exact ⟨a'[i], by simp [hlt'], h.2 i v _ hv (by simp [hlt'])⟩
theorem VRs.take {μ : BMap} {a a' : List Value} (h : VRs μ a a') (n : Nat) : VRs μ (a.take n) (a'.take n) := by
 refine ⟨by simp [h.1], fun i v v' x y => ?_⟩
 rw [List.getElem?_take] at x y
 split at x
 ·rename_i hi; simp [hi] at y; exact h.2 i v v' x y
 ·cases x
theorem VRs.drop {μ : BMap} {a a' : List Value} (h : VRs μ a a') (n : Nat) : VRs μ (a.drop n) (a'.drop n) := by
 refine ⟨by simp [h.1], fun i v v' x y => ?_⟩
 rw [List.getElem?_drop] at x y
 exact h.2 _ v v' x y
theorem VR.agg_list {μ : BMap} {x x' : List Value} (h : VRs μ x x') : VR μ (.agg ⟨x⟩) (.agg ⟨x'⟩) := .agg h.1 (by simpa using h.2)
theorem VR.tuple_list {μ : BMap} {x x' : List Value} (h : VRs μ x x') : VR μ (.tuple ⟨x⟩) (.tuple ⟨x'⟩) := .tuple h.1 (by simpa using h.2)
theorem VR.agg_inv {μ : BMap} {x : Array Value} {v' : Value} (h : VR μ (.agg x) v') : ∃ x', v' = .agg x' ∧ VRs μ x.toList x'.toList := by
 cases h with
 | agg hs hi => exact ⟨_, rfl, by simpa using hs, by simpa using hi⟩
theorem VR.tuple_inv {μ : BMap} {x : Array Value} {v' : Value} (h : VR μ (.tuple x) v') : ∃ x', v' = .tuple x' ∧ VRs μ x.toList x'.toList := by
 cases h with
 | tuple hs hi => exact ⟨_, rfl, by simpa using hs, by simpa using hi⟩
theorem VR.undef (μ : BMap) : VR μ undef undef := .tuple_list (.nil μ)
def zIf_ : Value → Bool
 | .bool _ | .int _ _ | .string _ | .nilFunc | .nilIface | .map none | .pointer none | .slice none 0 0 => true
 | _ => false
theorem VR.of_plain {μ : BMap} {v : Value} (h : zIf_ v = true) : VR μ v v := by
 unfold zIf_ at h
 split at h <;> first | constructor | cases h
def zqb_ : List Value → Bool
 | [] => true
 | v :: l => zIf_ v && zqb_ l
theorem VRs.of_plain {μ : BMap} : ∀ {l : List Value}, zqb_ l = true → VRs μ l l
 | [], _ => .nil μ
 | v :: l, h => by simp [zqb_] at h; exact .cons (.of_plain h.1) (.of_plain h.2)
theorem VR.cells {μ : BMap} {v v' : Value} (h : VR μ v v') : VRs μ v.cells.toList v'.cells.toList := by
 cases h with
 | agg hs hi => exact ⟨by simpa [Value.cells] using hs, by simpa [Value.cells] using hi⟩
 | _ => exact .cons (by first | constructor <;> assumption) (.nil μ)
structure RfC where
 n : Nat
 ps : Array Tmp
 assign : Code
 body : Code
inductive ABlk where
 | cells (c : List Value) (elem : TypeId) (rw : Bool) (froz : Nat)
 | map (es : List (Value × Value × Nat)) (clock : Nat)
 | iter (s : ByteArray) (pos : Nat)
 | loop (st : LoopState) (pend : Option Code) (vals : List (Nat × Value)) (c : RfC)
def ABlk.isRW : ABlk → Bool
 | .cells _ _ r _ => r
 | .map _ _ => true
 | .iter _ _ => true
 | .loop _ _ _ _ => true
structure AHeap where
 next : Nat
 get : Nat → Option ABlk
def AHeap.set (h : AHeap) (b : Nat) (B : ABlk) : AHeap := { h with get := fun x => if x = b then some B else h.get x }
def AHeap.kill (h : AHeap) (b : Nat) : AHeap := { h with get := fun x => if x = b then none else h.get x }
def AHeap.new (h : AHeap) (B : ABlk) : AHeap := { next := h.next + 1, get := fun x => if x = h.next then some B else h.get x }
@[simp] theorem AHeap.next_set (h : AHeap) (b : Nat) (B : ABlk) : (h.set b B).next = h.next := rfl
@[simp] theorem AHeap.next_kill (h : AHeap) (b : Nat) : (h.kill b).next = h.next := rfl
@[simp] theorem AHeap.next_new (h : AHeap) (B : ABlk) : (h.new B).next = h.next + 1 := rfl
@[simp] theorem AHeap.get_set (h : AHeap) (b x : Nat) (B : ABlk) : (h.set b B).get x = if x = b then some B else h.get x := rfl
@[simp] theorem AHeap.get_kill (h : AHeap) (b x : Nat) : (h.kill b).get x = if x = b then none else h.get x := rfl
@[simp] theorem AHeap.get_new (h : AHeap) (x : Nat) (B : ABlk) : (h.new B).get x = if x = h.next then some B else h.get x := rfl
def MR (μ : BMap) (e : Value × Value × Nat) (e' : MapEntry) : Prop := VR μ e.1 e'.key ∧ VR μ e.2.1 e'.val ∧ e.2.2 = e'.born
def BR (μ : BMap) (d z : Nat) : ABlk → Obj → Prop
 | .cells c e r fz, .cells c' e' (lo, hi) => e = e' ∧ c'.size = z ∧ (∀ (i : Nat) (v : Value), c[i]? = some v → ∃ v', c'[d + i]? = some v' ∧ VR μ v v') ∧
   (r = true → d = 0 ∧ (∀ (i : Nat), fz % 18446744073709551616 ≤ i → i < c'.size → ¬ (lo ≤ i ∧ i < hi)) ∧ (fz < 18446744073709551616 → (lo = hi ∨ hi ≤ fz) ∧ ∀ x ∈ c'.toList, ∃ v, VR μ v x)) ∧ (r = false → fz ≠ 0 → c'.size = d + c.length)
 | .map es cl, .map es' cl' => cl = cl' ∧ es.length = es'.size ∧ ∀ (i : Nat) e e', es[i]? = some e → es'[i]? = some e' → MR μ e e'
 | .iter s p, .stringIter s' p' => d = 0 ∧ s = s' ∧ p = p'
 | .loop st pend vals c, .loop r => r.state = st ∧ r.pending = pend ∧ r.params = c.ps ∧ r.assign = c.assign ∧ r.body = c.body ∧ c.n ≤ r.tmps.size ∧ ∀ e ∈ vals, VR μ e.2 (r.tmps.getD e.1 undef)
 | _, _ => False
theorem BR.mono {μ ν : BMap} (h : BLe μ ν) {d z : Nat} {B : ABlk} {O : Obj} (hb : BR μ d z B O) : BR ν d z B O := by
 unfold BR at *
 split
 ·obtain ⟨h1, h2, h3, h4, h5⟩ := hb
  exact ⟨h1, h2, fun i v hv => let ⟨v', a, b⟩ := h3 i v hv; ⟨v', a, b.mono h⟩, fun r => let ⟨x, y, u⟩ := h4 r; ⟨x, y, fun m => ⟨(u m).1, fun x hx => let ⟨v, q⟩ := (u m).2 x hx; ⟨v, q.mono h⟩⟩⟩, h5⟩
 ·obtain ⟨h1, h2, h3⟩ := hb
  exact ⟨h1, h2, fun i e e' a b => let ⟨x, y, z⟩ := h3 i e e' a b; ⟨x.mono h, y.mono h, z⟩⟩
 ·exact hb
 ·obtain ⟨h1, h2, h3, h4, h5, h6, h7⟩ := hb
  exact ⟨h1, h2, h3, h4, h5, h6, fun e he => (h7 e he).mono h⟩
 ·simp_all
structure Sim (G : Nat) (μ : BMap) (h : AHeap) (w : World) : Prop where
 blk : ∀ b B, h.get b = some B → ∃ c d z O, μ b = some (c, d, z) ∧ w.heap[c]? = some O ∧ BR μ d z B O
 inj : ∀ b₁ b₂ B₁ B₂ p₁ p₂, h.get b₁ = some B₁ → h.get b₂ = some B₂ → b₁ ≠ b₂ → B₁.isRW = true → μ b₁ = some p₁ → μ b₂ = some p₂ → p₁.1 ≠ p₂.1
 lt : ∀ b B, h.get b = some B → b < h.next
 glob : ∀ g, g < G → ∃ z, μ g = some (g, 0, z)
 gle : G ≤ h.next
def Zed (μ : BMap) (n n' : Nat) : Prop := ∀ b, n ≤ b → b < n' → μ b = none
structure Step (G : Nat) (μ : BMap) (h : AHeap) (w : World) (μ' : BMap) (h' : AHeap) (w' : World) : Prop where
 sim : Sim G μ' h' w'
 nx : h.next ≤ h'.next
 same : ∀ b, ¬ (h.next ≤ b ∧ b < h'.next) → μ' b = μ b
 os : w'.os = w.os
 tape : w'.tape = w.tape
 output : w'.output = w.output
 size : w.heap.size ≤ w'.heap.size
 old : ∀ c, c < w.heap.size → (∀ b B p, h.get b = some B → B.isRW = true → μ b = some p → p.1 ≠ c) → w'.heap[c]? = w.heap[c]?
 img : ∀ b B p, h'.get b = some B → h.next ≤ b → μ' b = some p → w.heap.size ≤ p.1 ∨ ∃ b₀ B₀ p₀, h.get b₀ = some B₀ ∧ B₀.isRW = true ∧ μ b₀ = some p₀ ∧ p₀.1 = p.1
 keep : ∀ b B', h'.get b = some B' → b < h.next → ∃ B, h.get b = some B ∧ (B'.isRW = true → B.isRW = true)
theorem Step.le {G : Nat} {μ μ' : BMap} {h h' : AHeap} {w w' : World} (s : Step G μ h w μ' h' w') (z : Zed μ h.next h'.next) : BLe μ μ' := by
 intro b p hp
 have hn : ¬ (h.next ≤ b ∧ b < h'.next) := fun ⟨x, y⟩ => by rw [z b x y] at hp; cases hp
 rw [s.same b hn]; exact hp
theorem Step.refl {G : Nat} {μ : BMap} {h : AHeap} {w : World} (s : Sim G μ h w) : Step G μ h w μ h w where
 sim := s
 nx := Nat.le_refl _
 same := fun _ _ => rfl
 os := rfl
 tape := rfl
 output := rfl
 size := Nat.le_refl _
 old := fun _ _ _ => rfl
 img := fun b B p hb hn _ => absurd (s.lt b B hb) (by omega)
 keep := fun b B' hb _ => ⟨B', hb, id⟩
theorem Step.trans {G : Nat} {μ μ₁ μ₂ : BMap} {h h₁ h₂ : AHeap} {w w₁ w₂ : World} (s : Step G μ h w μ₁ h₁ w₁) (t : Step G μ₁ h₁ w₁ μ₂ h₂ w₂) :
  Step G μ h w μ₂ h₂ w₂ where
 sim := t.sim
 nx := Nat.le_trans s.nx t.nx
 same := fun b hb => by
  have := s.nx; have := t.nx
  rw [t.same b (by omega), s.same b (by omega)]
 os := t.os.trans s.os
 tape := t.tape.trans s.tape
 output := t.output.trans s.output
 size := Nat.le_trans s.size t.size
 old := fun c hc hno => by
  rw [t.old c (Nat.lt_of_lt_of_le hc s.size) ?_, s.old c hc hno]
  intro b B p hb hB hp he
  by_cases hlt : b < h.next
  ·obtain ⟨B₀, hB₀, hr⟩ := s.keep b B hb hlt
   exact hno b B₀ p hB₀ (hr hB) (by rw [← s.same b (by omega)]; exact hp) he
  ·rcases s.img b B p hb (by omega) hp with h1 | ⟨b₀, B₀, p₀, h1, h2, h3, h4⟩
   ·omega
   ·exact hno b₀ B₀ p₀ h1 h2 h3 (h4.trans he)
 img := fun b B p hb hn hp => by
  have back : ∀ b B p, h₁.get b = some B → μ₁ b = some p → B.isRW = true → w.heap.size ≤ p.1 ∨ ∃ b₀ B₀ p₀, h.get b₀ = some B₀ ∧ B₀.isRW = true ∧ μ b₀ = some p₀ ∧ p₀.1 = p.1 := by
   intro b B p hb hp hB
   by_cases hlt : b < h.next
   ·obtain ⟨B₀, hB₀, hr⟩ := s.keep b B hb hlt
    exact .inr ⟨b, B₀, p, hB₀, hr hB, by rw [← s.same b (by omega)]; exact hp, rfl⟩
   ·exact s.img b B p hb (by omega) hp
  by_cases hlt : b < h₁.next
  ·obtain ⟨B₁, hB₁, hr⟩ := t.keep b B hb hlt
   exact s.img b B₁ p hB₁ hn (by rw [← t.same b (by omega)]; exact hp)
  ·rcases t.img b B p hb (by omega) hp with h1 | ⟨b₀, B₀, p₀, h1, h2, h3, h4⟩
   ·exact .inl (Nat.le_trans s.size h1)
   ·rw [← h4]; exact back b₀ B₀ p₀ h1 h3 h2
 keep := fun b B' hb hlt => by
  obtain ⟨B₁, h1, r1⟩ := t.keep b B' hb (Nat.lt_of_lt_of_le hlt s.nx)
  obtain ⟨B, h2, r2⟩ := s.keep b B₁ h1 hlt
  exact ⟨B, h2, fun x => r2 (r1 x)⟩
theorem Step.zed {G : Nat} {μ μ₁ : BMap} {h h₁ : AHeap} {w w₁ : World} (s : Step G μ h w μ₁ h₁ w₁) {n : Nat} (z : Zed μ h.next n) : Zed μ₁ h₁.next n := by
 intro b hb hb'
 have := s.nx
 rw [s.same b (by omega)]
 exact z b (by omega) hb'
theorem Zed.le {μ : BMap} {n m m' : Nat} (z : Zed μ n m) (h : m' ≤ m) : Zed μ n m' := fun b x y => z b x (by omega)
theorem Step.drew {G : Nat} {μ : BMap} {h : AHeap} {w : World} (s : Sim G μ h w) : Step G μ h w μ h { w with drawn := w.drawn + 1 } where
 sim := ⟨s.blk, s.inj, s.lt, s.glob, s.gle⟩
 nx := Nat.le_refl _
 same := fun _ _ => rfl
 os := rfl
 tape := rfl
 output := rfl
 size := Nat.le_refl _
 old := fun _ _ _ => rfl
 img := fun b B p hb hn _ => absurd (s.lt b B hb) (by omega)
 keep := fun b B' hb _ => ⟨B', hb, id⟩
def BMap.put (μ : BMap) (b : Nat) (p : Nat × Nat × Nat) : BMap := fun x => if x = b then some p else μ x
theorem BMap.put_le {μ : BMap} {b : Nat} {p : Nat × Nat × Nat} (h : μ b = none) : BLe μ (μ.put b p) := by
 intro x q hx
 by_cases e : x = b
 ·subst e; rw [h] at hx; cases hx
 ·simp [BMap.put, e, hx]
theorem Step.new {G : Nat} {μ : BMap} {h : AHeap} {w : World} (s : Sim G μ h w) (zn : μ h.next = none) {B : ABlk} {O : Obj} {z : Nat}
  (hB : BR (μ.put h.next (w.heap.size, 0, z)) 0 z B O) :
  Step G μ h w (μ.put h.next (w.heap.size, 0, z)) (h.new B) (w.alloc O) where
 sim := by
  have le := BMap.put_le (p := (w.heap.size, 0, z)) zn
  have hlt : ∀ b B, h.get b = some B → b ≠ h.next := fun b B hb e => by have := s.lt b B hb; omega
  refine ⟨fun b B' hb => ?_, fun b₁ b₂ B₁ B₂ p₁ p₂ h1 h2 hne hr m1 m2 => ?_, fun b B' hb => ?_, fun g hg => ?_, Nat.le_succ_of_le s.gle⟩
  ·rw [AHeap.get_new] at hb
   split at hb
   ·rename_i e; subst e; cases hb
    exact ⟨w.heap.size, 0, z, O, by simp [BMap.put], by show (w.heap.push O)[_]? = _; simp, hB⟩
   ·rename_i e
    obtain ⟨c, d, z', O', hm, hO, hr⟩ := s.blk b B' hb
    refine ⟨c, d, z', O', le _ _ hm, ?_, hr.mono le⟩
    have hc : c < w.heap.size := (Array.getElem?_eq_some_iff.1 hO).1
    simp only [World.alloc, Array.getElem?_push]
    rw [if_neg (by omega)]; exact hO
  ·have old : ∀ b B p, h.get b = some B → (μ.put h.next (w.heap.size, 0, z)) b = some p → μ b = some p ∧ p.1 < w.heap.size := fun b B p hb hp => by
    have hne := hlt b B hb
    simp [BMap.put, hne] at hp
    obtain ⟨c, d, z', O', hm, hO, _⟩ := s.blk b B hb
    rw [hm] at hp; cases hp
    exact ⟨hm, (Array.getElem?_eq_some_iff.1 hO).1⟩
   rw [AHeap.get_new] at h1 h2
   split at h1
   ·rename_i e1
    split at h2
    ·rename_i e2; exact absurd (e1.trans e2.symm) hne
    ·have := (old b₂ B₂ p₂ h2 m2).2
     simp [BMap.put, e1] at m1; subst m1; simp only; omega
   ·split at h2
    ·rename_i e2
     have := (old b₁ B₁ p₁ h1 m1).2
     simp [BMap.put, e2] at m2; subst m2; simp only; omega
    ·exact s.inj b₁ b₂ B₁ B₂ p₁ p₂ h1 h2 hne hr (old _ _ _ h1 m1).1 (old _ _ _ h2 m2).1
  ·rw [AHeap.get_new] at hb
   rw [AHeap.next_new]
   split at hb
   ·omega
   ·have := s.lt b B' hb; omega
  ·obtain ⟨z', hz⟩ := s.glob g hg
   exact ⟨z', le _ _ hz⟩
 nx := Nat.le_succ _
 same := fun b hb => by
  rw [AHeap.next_new] at hb
  simp only [BMap.put]
  rw [if_neg (by omega)]
 os := rfl
 tape := rfl
 output := rfl
 size := by simp
 old := fun c hc _ => by
  show (w.heap.push O)[c]? = _
  rw [Array.getElem?_push, if_neg (by omega)]
 img := fun b B' p hb hn hp => by
  rw [AHeap.get_new] at hb
  split at hb
  ·rename_i e; simp [BMap.put, e] at hp; subst hp; exact .inl (Nat.le_refl _)
  ·have := s.lt b B' hb; omega
 keep := fun b B' hb hlt => by
  rw [AHeap.get_new] at hb
  rw [if_neg (by omega)] at hb
  exact ⟨B', hb, id⟩
theorem Step.turn {G : Nat} {μ : BMap} {h : AHeap} {w w' : World} (s : Sim G μ h w) {b : Nat} {B B' : ABlk} {c d z : Nat} {O' : Obj}
  (hb : h.get b = some B) (hr : B.isRW = true) (hm : μ b = some (c, d, z)) (hO : w'.heap[c]? = some O') (hB : BR μ d z B' O')
  (hos : w'.os = w.os) (ht : w'.tape = w.tape) (ho : w'.output = w.output) (hsz : w'.heap.size = w.heap.size)
  (hold : ∀ i, i ≠ c → w'.heap[i]? = w.heap[i]?) :
  Step G μ h w μ (h.set b B') w' where
 sim := by
  refine ⟨fun x X hx => ?_, fun b₁ b₂ B₁ B₂ p₁ p₂ h1 h2 hne hr' m1 m2 => ?_, fun x X hx => ?_, s.glob, s.gle⟩
  ·rw [AHeap.get_set] at hx
   split at hx
   ·rename_i e; subst e; cases hx; exact ⟨c, d, z, O', hm, hO, hB⟩
   ·rename_i e
    obtain ⟨c', d', z', O, hm', hO', hr'⟩ := s.blk x X hx
    refine ⟨c', d', z', O, hm', ?_, hr'⟩
    have := s.inj b x B X _ _ hb hx (Ne.symm e) hr hm hm'
    rw [hold c' (Ne.symm this)]; exact hO'
  ·rw [AHeap.get_set] at h1 h2
   split at h1
   ·rename_i e1; subst e1
    rw [if_neg (Ne.symm hne)] at h2
    exact s.inj b₁ b₂ B B₂ p₁ p₂ hb h2 hne hr m1 m2
   ·split at h2
    ·rename_i e2; subst e2
     exact s.inj b₁ b₂ B₁ B p₁ p₂ h1 hb hne hr' m1 m2
    ·exact s.inj b₁ b₂ B₁ B₂ p₁ p₂ h1 h2 hne hr' m1 m2
  ·rw [AHeap.get_set] at hx
   split at hx
   ·rename_i e; subst e; exact s.lt x B hb
   ·exact s.lt x X hx
 nx := Nat.le_refl _
 same := fun _ _ => rfl
 os := hos
 tape := ht
 output := ho
 size := by omega
 old := fun i _ hno => hold i (fun e => hno b B _ hb hr hm e.symm)
 img := fun x X p hx hn hp => by
  rw [AHeap.get_set] at hx
  split at hx
  ·rename_i e; subst e; have := s.lt x B hb; omega
  ·have := s.lt x X hx; omega
 keep := fun x X hx _ => by
  rw [AHeap.get_set] at hx
  split at hx
  ·rename_i e; subst e; exact ⟨B, hb, fun _ => hr⟩
  ·exact ⟨X, hx, id⟩
theorem Step.over {G : Nat} {μ : BMap} {h : AHeap} {w w' : World} (s : Sim G μ h w) (zn : μ h.next = none) {b : Nat} {B B' : ABlk} {c d d' z : Nat} {O' : Obj}
  (hb : h.get b = some B) (hr : B.isRW = true) (hm : μ b = some (c, d, z)) (hO : w'.heap[c]? = some O') (hB : BR (μ.put h.next (c, d', z)) d' z B' O')
  (hos : w'.os = w.os) (ht : w'.tape = w.tape) (ho : w'.output = w.output) (hsz : w'.heap.size = w.heap.size)
  (hold : ∀ i, i ≠ c → w'.heap[i]? = w.heap[i]?) :
  Step G μ h w (μ.put h.next (c, d', z)) ((h.kill b).new B') w' where
 sim := by
  have le := BMap.put_le (p := (c, d', z)) zn
  have hlt : ∀ b B, h.get b = some B → b ≠ h.next := fun b B hb e => by have := s.lt b B hb; omega
  have back : ∀ x X, ((h.kill b).new B').get x = some X → (x = h.next ∧ X = B') ∨ (x ≠ h.next ∧ x ≠ b ∧ h.get x = some X) := fun x X hx => by
   rw [AHeap.get_new, AHeap.next_kill, AHeap.get_kill] at hx
   split at hx
   ·rename_i e; cases hx; exact .inl ⟨e, rfl⟩
   ·rename_i e
    split at hx
    ·cases hx
    ·rename_i e2; exact .inr ⟨e, e2, hx⟩
  refine ⟨fun x X hx => ?_, fun b₁ b₂ B₁ B₂ p₁ p₂ h1 h2 hne hr' m1 m2 => ?_, fun x X hx => ?_, fun g hg => ?_, Nat.le_succ_of_le s.gle⟩
  ·rcases back x X hx with ⟨e, e'⟩ | ⟨e, e', hx'⟩
   ·subst e; subst e'; exact ⟨c, d', z, O', by simp [BMap.put], hO, hB⟩
   ·obtain ⟨c', d1, z', O, hm', hO', hr'⟩ := s.blk x X hx'
    refine ⟨c', d1, z', O, le _ _ hm', ?_, hr'.mono le⟩
    have := s.inj b x B X _ _ hb hx' (Ne.symm e') hr hm hm'
    rw [hold c' (Ne.symm this)]; exact hO'
  ·have old : ∀ b B p, h.get b = some B → (μ.put h.next (c, d', z)) b = some p → μ b = some p := fun b B p hb hp => by
    have hne := hlt b B hb
    simpa [BMap.put, hne] using hp
   rcases back _ _ h1 with ⟨e1, e1'⟩ | ⟨e1, e1', h1'⟩
   ·rcases back _ _ h2 with ⟨e2, _⟩ | ⟨e2, e2', h2'⟩
    ·exact absurd (e1.trans e2.symm) hne
    ·simp [BMap.put, e1] at m1; subst m1
     exact s.inj b b₂ B B₂ (c, d, z) p₂ hb h2' (Ne.symm e2') hr hm (old _ _ _ h2' m2)
   ·rcases back _ _ h2 with ⟨e2, _⟩ | ⟨e2, e2', h2'⟩
    ·simp [BMap.put, e2] at m2; subst m2
     exact s.inj b₁ b B₁ B p₁ (c, d, z) h1' hb e1' hr' (old _ _ _ h1' m1) hm
    ·exact s.inj b₁ b₂ B₁ B₂ p₁ p₂ h1' h2' hne hr' (old _ _ _ h1' m1) (old _ _ _ h2' m2)
  ·rcases back x X hx with ⟨e, _⟩ | ⟨_, _, hx'⟩
   ·simp [e]
   ·have := s.lt x X hx'; simp; omega
  ·obtain ⟨z', hz⟩ := s.glob g hg
   exact ⟨z', le _ _ hz⟩
 nx := Nat.le_succ _
 same := fun x hx => by
  simp only [AHeap.next_new, AHeap.next_kill] at hx
  simp only [BMap.put]
  rw [if_neg (by omega)]
 os := hos
 tape := ht
 output := ho
 size := by omega
 old := fun i _ hno => hold i (fun e => hno b B _ hb hr hm e.symm)
 img := fun x X p hx hn hp => by
  rw [AHeap.get_new, AHeap.next_kill, AHeap.get_kill] at hx
  split at hx
  ·rename_i e; simp [BMap.put, e] at hp; subst hp; exact .inr ⟨b, B, _, hb, hr, hm, rfl⟩
  ·split at hx
   ·cases hx
   ·have := s.lt x X hx; omega
 keep := fun x X hx hlt => by
  rw [AHeap.get_new, AHeap.next_kill, AHeap.get_kill, if_neg (by omega)] at hx
  split at hx
  ·cases hx
  ·exact ⟨X, hx, id⟩
theorem Step.kill {G : Nat} {μ : BMap} {h : AHeap} {w : World} (s : Sim G μ h w) (b : Nat) : Step G μ h w μ (h.kill b) w where
 sim := by
  have back : ∀ x X, (h.kill b).get x = some X → h.get x = some X := fun x X hx => by
   rw [AHeap.get_kill] at hx
   split at hx
   ·cases hx
   ·exact hx
  exact ⟨fun x X hx => s.blk x X (back x X hx), fun b₁ b₂ B₁ B₂ p₁ p₂ h1 h2 => s.inj b₁ b₂ B₁ B₂ p₁ p₂ (back _ _ h1) (back _ _ h2), fun x X hx => s.lt x X (back x X hx), s.glob, s.gle⟩
 nx := Nat.le_refl _
 same := fun _ _ => rfl
 os := rfl
 tape := rfl
 output := rfl
 size := Nat.le_refl _
 old := fun _ _ _ => rfl
 img := fun x X p hx hn _ => by
  rw [AHeap.get_kill] at hx
  split at hx
  ·cases hx
  ·have := s.lt x X hx; omega
 keep := fun x X hx _ => by
  rw [AHeap.get_kill] at hx
  split at hx
  ·cases hx
  ·exact ⟨X, hx, id⟩
def AHeap.rd1 (h : AHeap) (b o : Nat) : Option Value :=
 match h.get b with
 | some (.cells c _ _ _) => c[o]?
 | _ => none
def AHeap.rdL (h : AHeap) (b o n : Nat) : Option (List Value) :=
 match n with
 | 0 => some []
 | n + 1 => match h.get b with
  | some (.cells c _ _ _) => if o + (n + 1) ≤ c.length then some ((c.drop o).take (n + 1)) else none
  | _ => none
def one : Value → Bool
 | .agg _ | .tuple _ => false
 | _ => true
def AHeap.wr1 (h : AHeap) (b o : Nat) (v : Value) : Option AHeap :=
 match h.get b with
 | some (.cells c e true fz) => if o < c.length ∧ fz % 18446744073709551616 ≤ o ∧ one v = true then some (h.set b (.cells (c.set o v) e true fz)) else none
 | _ => none
def zx_ (c : List Value) (o : Nat) (vs : List Value) : List Value := c.take o ++ vs ++ c.drop (o + vs.length)
def zI_ : List Value → Bool
 | [] => true
 | v :: l => one v && zI_ l
def AHeap.wrL (h : AHeap) (b o : Nat) (vs : List Value) : Option AHeap :=
 match vs with
 | [] => some h
 | v :: t => match h.get b with
  | some (.cells c e true fz) => if o + (v :: t).length ≤ c.length ∧ fz % 18446744073709551616 ≤ o ∧ zI_ (v :: t) = true then some (h.set b (.cells (zx_ c o (v :: t)) e true fz)) else none
  | _ => none
theorem VRs.img {μ : BMap} : ∀ {l l' : List Value}, VRs μ l l' → ∀ x ∈ l', ∃ v, VR μ v x
 | [], _, h, x, hx => by rw [h.nil_inv] at hx; cases hx
 | v :: l, _, h, x, hx => by
  obtain ⟨v', t, rfl, h1, h2⟩ := h.cons_inv
  rcases List.mem_cons.1 hx with rfl | hx
  ·exact ⟨v, h1⟩
  ·exact h2.img x hx
theorem zDC_ {μ : BMap} {c' : Array Value} (h : ∀ x ∈ c'.toList, ∃ v, VR μ v x) {o : Nat} {v v' : Value} (hv : VR μ v v') : ∀ x ∈ (c'.setIfInBounds o v').toList, ∃ v, VR μ v x := by
 intro x hx
 rw [Array.toList_setIfInBounds] at hx
 rcases List.mem_or_eq_of_mem_set hx with hx | rfl
 ·exact h x hx
 ·exact ⟨v, hv⟩
theorem zzm_ {μ : BMap} {c' arr' : Array Value} (h : ∀ x ∈ c'.toList, ∃ v, VR μ v x) {o : Nat} {vs vs' : List Value} (hv : VRs μ vs vs') (e : arr'.toList = zx_ c'.toList o vs') : ∀ x ∈ arr'.toList, ∃ v, VR μ v x := by
 intro x hx
 rw [e] at hx
 unfold zx_ at hx
 rcases List.mem_append.1 hx with hx | hx
 ·rcases List.mem_append.1 hx with hx | hx
  ·exact h x (List.mem_of_mem_take hx)
  ·exact hv.img x hx
 ·exact h x (List.mem_of_mem_drop hx)
theorem VR.one {μ : BMap} {v v' : Value} (h : VR μ v v') (ho : one v = true) : v'.oneCell' = true := by
 cases h <;> first | rfl | (simp [Gx.one] at ho)
theorem VRs.one {μ : BMap} : ∀ {l l' : List Value}, VRs μ l l' → zI_ l = true → ∀ v ∈ l', v.oneCell' = true
 | [], _, h, _ => by rw [h.nil_inv]; simp
 | v :: l, _, h, ho => by
  obtain ⟨v', t, rfl, h1, h2⟩ := h.cons_inv
  simp [zI_] at ho
  intro x hx
  rcases List.mem_cons.1 hx with rfl | hx
  ·exact h1.one ho.1
  ·exact h2.one ho.2 x hx
section
variable {G : Nat} {μ : BMap} {h : AHeap} {w : World} {P : Program}
theorem Sim.obj (s : Sim G μ h w) {b : Nat} {c : List Value} {e : TypeId} {r : Bool} {fz : Nat} (hb : h.get b = some (.cells c e r fz))
  {cb d z : Nat} (hm : μ b = some (cb, d, z)) :
  ∃ (c' : Array Value) (lo hi : Nat), w.heap[cb]? = some (.cells c' e (lo, hi)) ∧ c'.size = z ∧
   (∀ (i : Nat) v, c[i]? = some v → ∃ v', c'[d + i]? = some v' ∧ VR μ v v') ∧
   (r = true → d = 0 ∧ (∀ (i : Nat), fz % 18446744073709551616 ≤ i → i < c'.size → ¬ (lo ≤ i ∧ i < hi)) ∧ (fz < 18446744073709551616 → (lo = hi ∨ hi ≤ fz) ∧ ∀ x ∈ c'.toList, ∃ v, VR μ v x)) := by
 obtain ⟨cb', d', z', O, hm', hO, hB⟩ := s.blk b _ hb
 rw [hm] at hm'; cases hm'
 cases O with
 | cells c' e' f =>
  obtain ⟨lo, hi⟩ := f
  obtain ⟨rfl, h2, h3, h4, _⟩ := hB
  exact ⟨c', lo, hi, hO, h2, h3, h4⟩
 | _ => exact hB.elim
theorem ztB_ {b o : Nat} {v : Value} (hr : h.rd1 b o = some v) : ∃ c e r fz, h.get b = some (.cells c e r fz) ∧ c[o]? = some v := by
 unfold AHeap.rd1 at hr
 split at hr
 ·rename_i c e r fz hb; exact ⟨c, e, r, fz, hb, hr⟩
 ·cases hr
theorem Sim.cell (s : Sim G μ h w) {b o cb d z : Nat} {v : Value} (hm : μ b = some (cb, d, z)) (hr : h.rd1 b o = some v) :
  ∃ v', w.cell? ⟨cb, d + o, none⟩ = some v' ∧ VR μ v v' := by
 obtain ⟨c, e, r, fz, hb, hc⟩ := ztB_ hr
 obtain ⟨c', lo, hi, hO, _, hcs, _⟩ := s.obj hb hm
 obtain ⟨v', hv', hv⟩ := hcs o v hc
 exact ⟨v', by simp [World.cell?, hO, hv'], hv⟩
theorem Sim.loads (s : Sim G μ h w) {b o n cb d z : Nat} {vs : List Value} (hm : μ b = some (cb, d, z)) (hr : h.rdL b o n = some vs) :
  ∃ vs', (loadCells ⟨cb, d + o, none⟩ n).run P w = .ok ⟨vs'⟩ w ∧ VRs μ vs vs' ∧ vs.length = n := by
 unfold AHeap.rdL at hr
 split at hr
 ·cases hr; exact ⟨[], by simp [loadCells, loadCellsFrom], .nil μ, rfl⟩
 ·rename_i n
  split at hr
  ·rename_i c e r fz hb
   split at hr
   ·rename_i hle
    cases hr
    obtain ⟨c', lo, hi, hO, _, hcs, _⟩ := s.obj hb hm
    let vs' := (c'.toList.drop (d + o)).take (n + 1)
    have hlen : (List.take (n + 1) (List.drop o c)).length = n + 1 := by simp; omega
    have get' : ∀ j, j < n + 1 → ∃ v v', c[o + j]? = some v ∧ c'[d + o + j]? = some v' ∧ VR μ v v' := fun j hj => by
     have hlt : o + j < c.length := by omega
     obtain ⟨v', h1, h2⟩ := hcs (o + j) _ (List.getElem?_eq_getElem hlt)
     exact ⟨_, v', List.getElem?_eq_getElem hlt, by rw [Nat.add_assoc]; exact h1, h2⟩
    have hlen' : vs'.length = n + 1 := by
     obtain ⟨_, v', _, h2, _⟩ := get' n (by omega)
     have := (Array.getElem?_eq_some_iff.1 h2).1
     simp [vs']; omega
    have at' : ∀ j, j < n + 1 → vs'[j]? = c'[d + o + j]? := fun j hj => by
     simp only [vs', List.getElem?_take, List.getElem?_drop, hj, if_true]
     simp
    refine ⟨vs', ?_, ⟨by rw [hlen, hlen'], fun i v v' hv hv' => ?_⟩, hlen⟩
    ·have := run_loadCells_list (P := P) w ⟨cb, d + o, none⟩ vs' (fun j v hv => by
      have hj : j < n + 1 := hlen' ▸ (List.getElem?_eq_some_iff.1 hv).1
      rw [at' j hj] at hv
      rw [Addr.add_lit]
      simp [World.cell?, hO, hv])
     rw [hlen'] at this
     exact this
    ·have hi : i < n + 1 := hlen ▸ (List.getElem?_eq_some_iff.1 hv).1
     obtain ⟨x, x', h1, h2, h3⟩ := get' i hi
     rw [at' i hi, h2] at hv'
     rw [List.getElem?_take, List.getElem?_drop] at hv
     simp only [hi, if_true] at hv
     rw [h1] at hv
     cases hv; cases hv'; exact h3
   ·cases hr
  ·cases hr
theorem zRf_ {c o : Nat} {arr : Array Value} {e : TypeId} {f : Nat × Nat} (hO : w.heap[c]? = some (.cells arr e f)) : w.cell? ⟨c, o, none⟩ = arr[o]? := by
 simp [World.cell?, hO]
theorem zhi_ {c o : Nat} {arr : Array Value} {e : TypeId} {lo hi : Nat} (hO : w.heap[c]? = some (.cells arr e (lo, hi))) : w.frozen? ⟨c, o, none⟩ = (decide (lo ≤ o) && decide (o < hi)) := by
 simp [World.frozen?, hO]
theorem zzn_ {c o : Nat} {arr : Array Value} {e : TypeId} {lo hi : Nat} {v : Value} (hO : w.heap[c]? = some (.cells arr e (lo, hi))) (ho : o < arr.size)
  (hf : ¬ (lo ≤ o ∧ o < hi)) (h1 : v.oneCell' = true) :
  (store ⟨c, o, none⟩ v).run P w = .ok () (w.setCell ⟨c, o, none⟩ v) ∧ (w.setCell ⟨c, o, none⟩ v).heap[c]? = some (.cells (arr.setIfInBounds o v) e (lo, hi)) ∧
  (∀ i, i ≠ c → (w.setCell ⟨c, o, none⟩ v).heap[i]? = w.heap[i]?) := by
 refine ⟨?_, ?_, fun i hi => ?_⟩
 ·rw [run_store P w _ _ _ h1, zRf_ hO, zhi_ hO]
  simp [ho]
  intro a; omega
 ·simp only [World.setCell, Array.getElem?_modify, if_true, hO]; simp
 ·simp only [World.setCell, Array.getElem?_modify]
  rw [if_neg (fun e => hi e.symm)]
theorem Sim.store1 (s : Sim G μ h w) {b o cb d z : Nat} {v v' : Value} {h' : AHeap} (hm : μ b = some (cb, d, z)) (hw : h.wr1 b o v = some h') (hv : VR μ v v') :
  ∃ w', (store ⟨cb, d + o, none⟩ v').run P w = .ok () w' ∧ Step G μ h w μ h' w' := by
 unfold AHeap.wr1 at hw
 split at hw
 ·rename_i c e fz hb
  split at hw
  ·rename_i hc
   obtain ⟨h1, h2, h3⟩ := hc
   cases hw
   obtain ⟨c', lo, hi, hO, hz, hcs, hrw⟩ := s.obj hb hm
   obtain ⟨rfl, hfz, hmk⟩ := hrw rfl
   obtain ⟨x', hx', _⟩ := hcs o _ (List.getElem?_eq_getElem h1)
   simp only [Nat.zero_add] at hx' ⊢
   have ho : o < c'.size := (Array.getElem?_eq_some_iff.1 hx').1
   obtain ⟨r1, r2, r3⟩ := zzn_ (P := P) (v := v') hO ho (hfz o h2 ho) (hv.one h3)
   refine ⟨_, r1, Step.turn s hb rfl hm r2 ⟨rfl, by simpa using hz, fun i x hx => ?_, fun _ => ⟨rfl, fun i a b => hfz i a (by simpa using b), fun m => ⟨(hmk m).1, zDC_ (hmk m).2 hv⟩⟩, fun q => by cases q⟩ rfl rfl rfl (by simp [World.setCell]) r3⟩
   rw [List.getElem?_set] at hx
   split at hx
   ·rename_i hi'; subst hi'
    cases hx
    exact ⟨v', by simp [ho], hv⟩
   ·rename_i hne
    obtain ⟨y, hy, hyv⟩ := hcs i x hx
    refine ⟨y, ?_, hyv⟩
    simp only [Nat.zero_add] at hy ⊢
    rw [Array.getElem?_setIfInBounds_ne (by omega)]; exact hy
  ·cases hw
 ·cases hw
theorem zpe_ (c base : Nat) (e : TypeId) (lo hi : Nat) : ∀ (vs : List Value) (i : Nat) (arr : Array Value) (w : World),
  w.heap[c]? = some (.cells arr e (lo, hi)) → base + i + vs.length ≤ arr.size → (∀ j, base + i ≤ j → j < base + i + vs.length → ¬ (lo ≤ j ∧ j < hi)) →
  (∀ v ∈ vs, v.oneCell' = true) →
  ∃ (w' : World) (arr' : Array Value), (storeCells ⟨c, base, none⟩ vs i).run P w = .ok () w' ∧ w'.heap[c]? = some (.cells arr' e (lo, hi)) ∧ arr'.toList = zx_ arr.toList (base + i) vs ∧
   w'.heap.size = w.heap.size ∧ (∀ j, j ≠ c → w'.heap[j]? = w.heap[j]?) ∧ w'.os = w.os ∧ w'.tape = w.tape ∧ w'.output = w.output
 | [], i, arr, w, hO, _, _, _ => ⟨w, arr, by simp [storeCells], hO, by simp [zx_], rfl, fun _ _ => rfl, rfl, rfl, rfl⟩
 | v :: vs, i, arr, w, hO, hle, hf, h1 => by
  simp only [List.length_cons] at hle hf
  obtain ⟨r1, r2, r3⟩ := zzn_ (P := P) (o := base + i) (v := v) hO (by omega) (hf _ (by omega) (by omega)) (h1 v (by simp))
  obtain ⟨w', arr', q1, q2, q3, q4, q5, q6, q7, q8⟩ := zpe_ c base e lo hi vs (i + 1) (arr.setIfInBounds (base + i) v) (w.setCell ⟨c, base + i, none⟩ v) r2
   (by simp; omega) (fun j a b => hf j (by omega) (by omega)) (fun x hx => h1 x (by simp [hx]))
  refine ⟨w', arr', ?_, q2, ?_, by rw [q4]; simp [World.setCell], fun j hj => (q5 j hj).trans (r3 j hj), q6, q7, q8⟩
  ·simp only [storeCells, Sem.run_bind, Addr.add_lit, r1, Result.andThen_ok]
   exact q1
  ·rw [q3]
   have hlen : base + i < arr.toList.length := by simp; omega
   apply List.ext_getElem?
   intro j
   simp only [zx_, Array.toList_setIfInBounds, List.length_cons]
   rw [List.take_set, List.drop_set]
   have e1 : base + (i + 1) = base + i + 1 := by omega
   rw [e1, List.take_succ_eq_append_getElem hlen]
   rw [if_pos (by omega)]
   have e2 : (List.take (base + i) arr.toList ++ [arr.toList[base + i]]).set (base + i) v = List.take (base + i) arr.toList ++ [v] := by
    rw [List.set_append_right _ _ (by simp; omega)]
    have : base + i - (List.take (base + i) arr.toList).length = 0 := by simp; omega
    rw [this]; rfl
   rw [e2, show base + i + 1 + vs.length = base + i + (vs.length + 1) by omega]
   simp
theorem zld_ {c vs : List Value} {o i : Nat} (hle : o + vs.length ≤ c.length) : (zx_ c o vs)[i]? = if i < o then c[i]? else if i < o + vs.length then vs[i - o]? else c[i]? := by
 unfold zx_
 have ht : (c.take o).length = o := by simp; omega
 by_cases h1 : i < o
 ·rw [if_pos h1, List.append_assoc, List.getElem?_append_left (by omega), List.getElem?_take, if_pos h1]
 ·rw [if_neg h1]
  by_cases h2 : i < o + vs.length
  ·rw [if_pos h2, List.getElem?_append_left (by simp; omega), List.getElem?_append_right (by omega), ht]
  ·rw [if_neg h2, List.getElem?_append_right (by simp; omega), List.getElem?_drop]
   congr 1
   simp; omega
theorem zAb_ {c vs : List Value} {o : Nat} (hle : o + vs.length ≤ c.length) : (zx_ c o vs).length = c.length := by
 unfold zx_; simp; omega
theorem VRs.spliceCells {c vs : List Value} {vs' : List Value} {c' arr' : Array Value} {o : Nat} (hv : VRs μ vs vs') (hle : o + vs.length ≤ c.length)
  (hc : ∀ (i : Nat) v, c[i]? = some v → ∃ v', c'[i]? = some v' ∧ VR μ v v') (ha : arr'.toList = zx_ c'.toList o vs') :
  ∀ (i : Nat) v, (zx_ c o vs)[i]? = some v → ∃ v', arr'[i]? = some v' ∧ VR μ v v' := by
 have hle' : o + vs'.length ≤ c'.toList.length := by
  by_cases h0 : vs.length = 0
  ·by_cases hc0 : o = 0
   ·have := hv.1; omega
   ·have hlt : o - 1 < c.length := by omega
    obtain ⟨v', h1, _⟩ := hc (o - 1) _ (List.getElem?_eq_getElem hlt)
    have := (Array.getElem?_eq_some_iff.1 h1).1
    have := hv.1
    simp; omega
  ·have hlt : o + vs.length - 1 < c.length := by omega
   obtain ⟨v', h1, _⟩ := hc (o + vs.length - 1) _ (List.getElem?_eq_getElem hlt)
   have := (Array.getElem?_eq_some_iff.1 h1).1
   have := hv.1
   simp; omega
 intro i v hi
 have e : arr'[i]? = (zx_ c'.toList o vs')[i]? := by rw [← ha]; simp
 rw [e, zld_ hle']
 rw [zld_ hle] at hi
 split
 ·rename_i h1; rw [if_pos h1] at hi; simpa using hc i v hi
 ·rename_i h1
  rw [if_neg h1] at hi
  rw [← hv.1]
  split
  ·rename_i h2; rw [if_pos h2] at hi; exact hv.get hi
  ·rename_i h2; rw [if_neg h2] at hi; simpa using hc i v hi
theorem Sim.storeL (s : Sim G μ h w) {b o cb d z : Nat} {vs vs' : List Value} {h' : AHeap} (hm : vs ≠ [] → μ b = some (cb, d, z)) (hw : h.wrL b o vs = some h') (hv : VRs μ vs vs') :
  ∃ w', (storeCells ⟨cb, d + o, none⟩ vs').run P w = .ok () w' ∧ Step G μ h w μ h' w' := by
 unfold AHeap.wrL at hw
 split at hw
 ·cases hw; rw [hv.nil_inv]; exact ⟨w, by simp [storeCells], .refl s⟩
 ·rename_i v t
  have hm := hm (by simp)
  split at hw
  ·rename_i c e fz hb
   split at hw
   ·rename_i hc
    obtain ⟨h1, h2, h3⟩ := hc
    cases hw
    obtain ⟨c', lo, hi, hO, hz, hcs, hrw⟩ := s.obj hb hm
    obtain ⟨rfl, hfz, hmk⟩ := hrw rfl
    simp only [Nat.zero_add] at hcs ⊢
    have hlt : o + (v :: t).length - 1 < c.length := by simp at h1 ⊢; omega
    obtain ⟨x', hx', _⟩ := hcs _ _ (List.getElem?_eq_getElem hlt)
    have hsz := (Array.getElem?_eq_some_iff.1 hx').1
    have hl := hv.1
    simp at hl
    obtain ⟨w', arr', q1, q2, q3, q4, q5, q6, q7, q8⟩ := zpe_ (P := P) cb o e lo hi vs' 0 c' w hO (by simp at hsz h1; omega)
     (fun j a b => hfz j (by omega) (by simp at hsz h1; omega)) (hv.one h3)
    refine ⟨w', q1, Step.turn s hb rfl hm q2 ⟨rfl, ?_, fun i x hx => ?_, fun _ => ⟨rfl, fun i a b => hfz i a ?_, fun m => ⟨(hmk m).1, zzm_ (hmk m).2 hv q3⟩⟩, fun q => by cases q⟩ q6 q7 q8 q4 q5⟩
    ·have := congrArg List.length q3
     rw [zAb_ (by simp at hsz h1 ⊢; omega)] at this
     simp at this; omega
    ·simp only [Nat.zero_add]
     exact hv.spliceCells h1 hcs (by simpa using q3) i x hx
    ·have := congrArg List.length q3
     rw [zAb_ (by simp at hsz h1 ⊢; omega)] at this
     simp at this; omega
   ·cases hw
  ·cases hw
end
abbrev PFr := Nat → Option Value
def pset (f : PFr) (d : Nat) (v : Value) : PFr := fun s => bif Nat.beq s d then some v else f s
def pput (f : PFr) (d : Option Nat) (v : Value) : PFr :=
 match d with
 | some d => pset f d v
 | none => f
def ev (f : PFr) : Operand → Option Value
 | .tmp t => f t
 | .const v => bif zIf_ v then some v else none
 | .global g => some (.pointer (some ⟨g, 0, none⟩))
 | .func g => some (.func (.func g) #[] #[])
structure Slc where
 a : Option Addr
 len : Nat
 cap : Nat
inductive CTy where
 | i (k : IntKind) | b | s | p | l | m | v
deriving DecidableEq
inductive LTy where
 | i (k : IntKind) | b | s | p | l | m | v | agg (n : Nat) | st (ts : List CTy)
deriving DecidableEq
def decI (k : IntKind) : Value → Option Int
 | .int k' n => bif decide (k' = k) then some n else none
 | _ => none
def decB : Value → Option Bool
 | .bool b => some b
 | _ => none
def decS : Value → Option ByteArray
 | .string s => some s
 | _ => none
def decP : Value → Option (Option Addr)
 | .pointer p => some p
 | _ => none
def decL : Value → Option Slc
 | .slice a n c => some ⟨a, n, c⟩
 | _ => none
def decM : Value → Option (Option Nat)
 | .map r => some r
 | _ => none
def decV (v : Value) : Option Value := bif one v then some v else none
def decA (n : Nat) : Value → Option (List Value)
 | .agg cs => bif Nat.beq cs.toList.length n then some cs.toList else none
 | _ => none
abbrev CTy.T : CTy → Type
 | .i _ => Int
 | .b => Bool
 | .s => ByteArray
 | .p => Option Addr
 | .l => Slc
 | .m => Option Nat
 | .v => Value
def CTy.enc (t : CTy) : t.T → Value :=
 match t with
 | .i k => fun n => .int k n
 | .b => fun x => .bool x
 | .s => fun x => .string x
 | .p => fun x => .pointer x
 | .l => fun x => .slice x.a x.len x.cap
 | .m => fun x => .map x
 | .v => fun x => x
def CTy.dec (t : CTy) (v : Value) : Option t.T :=
 match t with
 | .i k => decI k v
 | .b => decB v
 | .s => decS v
 | .p => decP v
 | .l => decL v
 | .m => decM v
 | .v => decV v
abbrev TupC : List CTy → Type
 | [] => Unit
 | [t] => t.T
 | t :: u :: L => t.T × TupC (u :: L)
def encC : (L : List CTy) → TupC L → List Value
 | [], _ => []
 | [t], x => [t.enc x]
 | t :: u :: L, x => t.enc x.1 :: encC (u :: L) x.2
def decC : (L : List CTy) → List Value → Option (TupC L)
 | [], [] => some ()
 | [t], [v] => t.dec v
 | t :: u :: L, v :: vs => match t.dec v with
  | some x => match decC (u :: L) vs with
   | some y => some (x, y)
   | none => none
  | none => none
 | _, _ => none
def CTy.eq (t : CTy) : t.T → t.T → Bool :=
 match t with
 | .i _ => fun x y => x == y
 | .b => fun x y => x == y
 | .s => fun x y => x == y
 | _ => fun _ _ => false
def eqC : (L : List CTy) → TupC L → TupC L → Bool
 | [], _, _ => true
 | [t], x, y => t.eq x y
 | t :: u :: L, x, y => t.eq x.1 y.1 && eqC (u :: L) x.2 y.2
def zrd_ {R : Type} (t : LTy) (v : Value) (κ : Value → Option R) : Option R :=
 match t with
 | .i k => (decI k v).bind fun n => κ (.int k n)
 | .b => (decB v).bind fun b => κ (.bool b)
 | .s => (decS v).bind fun s => κ (.string s)
 | .p => (decP v).bind fun p => κ (.pointer p)
 | .l => (decL v).bind fun s => κ (.slice s.a s.len s.cap)
 | .m => (decM v).bind fun r => κ (.map r)
 | .v => (decV v).bind fun x => κ x
 | .agg n => (decA n v).bind fun l => κ (.agg ⟨l⟩)
 | .st ts => match v with
  | .agg cs => (decC ts cs.toList).bind fun x => κ (.agg ⟨encC ts x⟩)
  | _ => none
theorem zPf_ {k : IntKind} {v : Value} {n : Int} (h : decI k v = some n) : v = .int k n := by
 unfold decI at h
 split at h
 ·rename_i k' m
  by_cases e : k' = k
  ·subst e; simp at h; subst h; rfl
  ·simp [e] at h
 ·cases h
theorem zNf_ {v : Value} {n : Bool} (h : decB v = some n) : v = .bool n := by
 unfold decB at h; split at h <;> cases h; rfl
theorem zOf_ {v : Value} {n : ByteArray} (h : decS v = some n) : v = .string n := by
 unfold decS at h; split at h <;> cases h; rfl
theorem zMk_ {v : Value} {n : Option Addr} (h : decP v = some n) : v = .pointer n := by
 unfold decP at h; split at h <;> cases h; rfl
theorem ztk_ {v : Value} {n : Slc} (h : decL v = some n) : v = .slice n.a n.len n.cap := by
 unfold decL at h; split at h <;> cases h; rfl
theorem zwk_ {v : Value} {n : Option Nat} (h : decM v = some n) : v = .map n := by
 unfold decM at h; split at h <;> cases h; rfl
theorem zZn_ {v : Value} {n : Value} (h : decV v = some n) : v = n ∧ one v = true := by
 unfold decV at h
 cases ho : one v <;> simp [ho] at h; exact ⟨h, rfl⟩
theorem zyo_ {m : Nat} {v : Value} {n : List Value} (h : decA m v = some n) : v = .agg ⟨n⟩ ∧ n.length = m := by
 unfold decA at h
 split at h
 ·rename_i cs
  cases hb : Nat.beq cs.toList.length m
  ·rw [hb] at h; cases h
  ·rw [hb] at h; cases h; exact ⟨rfl, Nat.eq_of_beq_eq_true hb⟩
 ·cases h
theorem CTy.enc_dec {t : CTy} {v : Value} {x : t.T} (h : t.dec v = some x) : t.enc x = v := by
 cases t <;> simp only [CTy.dec] at h
 ·exact (zPf_ h).symm
 ·exact (zNf_ h).symm
 ·exact (zOf_ h).symm
 ·exact (zMk_ h).symm
 ·exact (ztk_ h).symm
 ·exact (zwk_ h).symm
 ·exact (zZn_ h).1.symm
theorem zfo_ : ∀ {L : List CTy} {vs : List Value} {x : TupC L}, decC L vs = some x → encC L x = vs
 | [], [], _, _ => rfl
 | [t], [v], x, h => by simp only [decC] at h; simp only [encC, CTy.enc_dec h]
 | t :: u :: L, v :: vs, x, h => by
  simp only [decC] at h
  split at h
  ·rename_i a ha
   split at h
   ·rename_i y hy
    cases h
    simp only [encC, CTy.enc_dec ha, zfo_ hy]
   ·cases h
  ·cases h
 | [], _ :: _, _, h => by simp [decC] at h
 | [_], [], _, h => by simp [decC] at h
 | [_], _ :: _ :: _, _, h => by simp [decC] at h
 | _ :: _ :: _, [], _, h => by simp [decC] at h
theorem zJc_ {R : Type} {t : LTy} {v : Value} {κ : Value → Option R} {r : R} (h : zrd_ t v κ = some r) : κ v = some r := by
 unfold zrd_ at h
 cases t
 case st ts =>
  simp only at h
  split at h
  ·simp only [Option.bind_eq_some_iff] at h
   obtain ⟨x, hx, hk⟩ := h
   rw [zfo_ hx] at hk; exact hk
  ·cases h
 all_goals simp only [Option.bind_eq_some_iff] at h; obtain ⟨x, hx, hk⟩ := h
 ·rw [zPf_ hx]; exact hk
 ·rw [zNf_ hx]; exact hk
 ·rw [zOf_ hx]; exact hk
 ·rw [zMk_ hx]; exact hk
 ·rw [ztk_ hx]; exact hk
 ·rw [zwk_ hx]; exact hk
 ·rw [(zZn_ hx).1]; exact hk
 ·rw [(zyo_ hx).1]; exact hk
def ldI (k : IntKind) (a : Addr) (h : AHeap) : Option Int := (h.rd1 a.block a.off).bind (decI k)
def ldB (a : Addr) (h : AHeap) : Option Bool := (h.rd1 a.block a.off).bind decB
def ldS (a : Addr) (h : AHeap) : Option ByteArray := (h.rd1 a.block a.off).bind decS
def ldP (a : Addr) (h : AHeap) : Option (Option Addr) := (h.rd1 a.block a.off).bind decP
def ldL (a : Addr) (h : AHeap) : Option Slc := (h.rd1 a.block a.off).bind decL
def ldM (a : Addr) (h : AHeap) : Option (Option Nat) := (h.rd1 a.block a.off).bind decM
def ldV (a : Addr) (h : AHeap) : Option Value := (h.rd1 a.block a.off).bind decV
def ldA (n : Nat) (a : Addr) (h : AHeap) : Option (List Value) := h.rdL a.block a.off n
def zhe_ {R : Type} (t : LTy) (a : Addr) (h : AHeap) (κ : Value → Option R) : Option R :=
 match t with
 | .i k => (ldI k a h).bind fun n => κ (.int k n)
 | .b => (ldB a h).bind fun b => κ (.bool b)
 | .s => (ldS a h).bind fun s => κ (.string s)
 | .p => (ldP a h).bind fun p => κ (.pointer p)
 | .l => (ldL a h).bind fun s => κ (.slice s.a s.len s.cap)
 | .m => (ldM a h).bind fun r => κ (.map r)
 | .v => (ldV a h).bind fun x => κ x
 | .agg n => (ldA n a h).bind fun l => κ (.agg ⟨l⟩)
 | .st _ => none
theorem zym_ {R : Type} {t : LTy} {a : Addr} {h : AHeap} {κ : Value → Option R} {r : R} (hd : zhe_ t a h κ = some r) :
  ∃ v, κ v = some r ∧ (match t with
   | .agg n => ∃ l, h.rdL a.block a.off n = some l ∧ v = .agg ⟨l⟩
   | _ => h.rd1 a.block a.off = some v) ∧ ∀ H : AHeap, (match t with
   | .agg n => H.rdL a.block a.off n = h.rdL a.block a.off n
   | _ => H.rd1 a.block a.off = h.rd1 a.block a.off) → ∀ {R' : Type} (κ' : Value → Option R'), zhe_ t a H κ' = κ' v := by
 unfold zhe_ at hd
 cases t with
 | st ts => cases hd
 | agg n =>
  simp only [Option.bind_eq_some_iff] at hd
  obtain ⟨l, hl, hk⟩ := hd
  refine ⟨_, hk, ⟨l, hl, rfl⟩, fun H hH R' κ' => ?_⟩
  simp only [ldA] at hl
  simp [zhe_, ldA, hH, hl]
 | i k =>
  simp only [ldI, Option.bind_eq_some_iff] at hd
  obtain ⟨n, ⟨x, hx, hn⟩, hk⟩ := hd
  have hr : zrd_ (.i k) x (fun v => some v) = some (.int k n) := by simp [zrd_, hn]
  refine ⟨_, hk, ?_, fun H hH R' κ' => ?_⟩
  ·have := zJc_ hr; cases this; exact hx
  ·simp [zhe_, ldI, hH, hx, hn]
 | b =>
  simp only [ldB, Option.bind_eq_some_iff] at hd
  obtain ⟨n, ⟨x, hx, hn⟩, hk⟩ := hd
  have hr : zrd_ .b x (fun v => some v) = some (.bool n) := by simp [zrd_, hn]
  refine ⟨_, hk, ?_, fun H hH R' κ' => ?_⟩
  ·have := zJc_ hr; cases this; exact hx
  ·simp [zhe_, ldB, hH, hx, hn]
 | s =>
  simp only [ldS, Option.bind_eq_some_iff] at hd
  obtain ⟨n, ⟨x, hx, hn⟩, hk⟩ := hd
  have hr : zrd_ .s x (fun v => some v) = some (.string n) := by simp [zrd_, hn]
  refine ⟨_, hk, ?_, fun H hH R' κ' => ?_⟩
  ·have := zJc_ hr; cases this; exact hx
  ·simp [zhe_, ldS, hH, hx, hn]
 | p =>
  simp only [ldP, Option.bind_eq_some_iff] at hd
  obtain ⟨n, ⟨x, hx, hn⟩, hk⟩ := hd
  have hr : zrd_ .p x (fun v => some v) = some (.pointer n) := by simp [zrd_, hn]
  refine ⟨_, hk, ?_, fun H hH R' κ' => ?_⟩
  ·have := zJc_ hr; cases this; exact hx
  ·simp [zhe_, ldP, hH, hx, hn]
 | l =>
  simp only [ldL, Option.bind_eq_some_iff] at hd
  obtain ⟨n, ⟨x, hx, hn⟩, hk⟩ := hd
  have hr : zrd_ .l x (fun v => some v) = some (.slice n.a n.len n.cap) := by simp [zrd_, hn]
  refine ⟨_, hk, ?_, fun H hH R' κ' => ?_⟩
  ·have := zJc_ hr; cases this; exact hx
  ·simp [zhe_, ldL, hH, hx, hn]
 | m =>
  simp only [ldM, Option.bind_eq_some_iff] at hd
  obtain ⟨n, ⟨x, hx, hn⟩, hk⟩ := hd
  have hr : zrd_ .m x (fun v => some v) = some (.map n) := by simp [zrd_, hn]
  refine ⟨_, hk, ?_, fun H hH R' κ' => ?_⟩
  ·have := zJc_ hr; cases this; exact hx
  ·simp [zhe_, ldM, hH, hx, hn]
 | v =>
  simp only [ldV, Option.bind_eq_some_iff] at hd
  obtain ⟨n, ⟨x, hx, hn⟩, hk⟩ := hd
  have hr : zrd_ .v x (fun v => some v) = some n := by simp [zrd_, hn]
  refine ⟨_, hk, ?_, fun H hH R' κ' => ?_⟩
  ·have := zJc_ hr; cases this; exact hx
  ·simp [zhe_, ldV, hH, hx, hn]
def spOk (sp : Option Nat) (size : Nat) : Bool :=
 match sp with
 | some (s + 1) => Nat.beq s size
 | _ => true
def idxL (size : Nat) (s : Slc) (i : Int) : Option Addr :=
 match s.a with
 | some a => if 0 ≤ i ∧ i < s.len then some ⟨a.block, a.off + i.toNat * size, none⟩ else none
 | none => none
def idxA (n size : Nat) (a : Addr) (i : Int) : Option Addr := if 0 ≤ i ∧ i < n then some ⟨a.block, a.off + i.toNat * size, none⟩ else none
def idxS (s : ByteArray) (i : Int) : Option Int := if 0 ≤ i then (s[i.toNat]?).map (fun b => (b.toNat : Int)) else none
def subS (s : ByteArray) (lo hi : Option Int) : Option ByteArray :=
 let h := hi.getD s.size
 let l := lo.getD 0
 if 0 ≤ h ∧ h ≤ s.size ∧ 0 ≤ l ∧ l ≤ h then some (s.extract l.toNat h.toNat) else none
def subL (size : Nat) (s : Slc) (lo hi mx : Option Int) : Option Slc :=
 let m := mx.getD s.cap
 let h := hi.getD s.len
 let l := lo.getD 0
 if 0 ≤ m ∧ m ≤ s.cap ∧ 0 ≤ h ∧ h ≤ m ∧ 0 ≤ l ∧ l ≤ h then
  match s.a with
  | none => some ⟨none, 0, 0⟩
  | some a => if spOk a.spot size = true then some ⟨some ⟨a.block, if m = l then a.off else a.off + l.toNat * size, if mx.isSome then some 0 else a.spot⟩, (h - l).toNat, (m - l).toNat⟩ else none
 else none
def subA (n size : Nat) (a : Addr) (lo hi mx : Option Int) : Option Slc :=
 let m := mx.getD n
 let h := hi.getD n
 let l := lo.getD 0
 if 0 ≤ m ∧ m ≤ n ∧ 0 ≤ h ∧ h ≤ m ∧ 0 ≤ l ∧ l ≤ h then
  some ⟨some ⟨a.block, if m = l then a.off else a.off + l.toNat * size, some 0⟩, (h - l).toNat, (m - l).toNat⟩
 else none
def zpk_ (s : Slc) : Option Int :=
 match s.a with
 | none => some s.cap
 | some ad => match ad.spot with
  | some (_ + 1) => none
  | _ => some s.cap
inductive NK where
 | p | l | m | f | i
def isNil (k : NK) (v : Value) : Option Bool :=
 match k with
 | .p => match v with
  | .pointer p => some p.isNone
  | _ => none
 | .l => match v with
  | .slice a _ _ => some a.isNone
  | _ => none
 | .m => match v with
  | .map r => some r.isNone
  | _ => none
 | .f => match v with
  | .nilFunc => some true
  | .func _ _ _ => some false
  | _ => none
 | .i => match v with
  | .nilIface => some true
  | .iface _ _ => some false
  | _ => none
def zoA_ : Value → Option Bool
 | .nilFunc => some true
 | .func (.func _) _ _ => some false
 | _ => none
def nilK {R : Type} (v : Value) (κ : Value → Option R) : Option R :=
 match v with
 | .pointer p => p.bind fun a => κ (.pointer (some a))
 | v => (Gx.zoA_ v).bind fun r => if r = true then none else κ v
def eqPtr (p q : Option Addr) : Option Bool :=
 match p, q with
 | none, q => some q.isNone
 | some _, none => some false
 | some a, some b => if a.block = b.block then some (a.off == b.off) else none
def zoo_ (a : Int) : List Value → Option Int
 | [] => some a
 | .int _ b :: l => zoo_ (if b < a then b else a) l
 | _ => none
inductive POp where
 | mv (x : Operand)
 | pick (c a b : Operand)
 | nilP (x : Operand)
 | bin (op : BinOp) (x y : Operand)
 | isNil (k : NK) (neg : Bool) (x : Operand)
 | eqPtr (neg : Bool) (x y : Operand)
 | eqB (neg : Bool) (x y : Operand)
 | eqSt (neg : Bool) (ts : List CTy) (x y : Operand)
 | un (op : UnOp) (x : Operand)
 | convI (k : IntKind) (x : Operand)
 | convS (x : Operand)
 | iface (t : TypeId) (x : Operand)
 | mkFunc (g : FuncId) (first : List Operand) (capt : List Operand)
 | build (zero : List Value) (parts : List (Nat × Nat × Operand))
 | subS (x : Operand) (lo hi : Option Operand)
 | subL (size : Nat) (x : Operand) (lo hi mx : Option Operand)
 | subA (n size : Nat) (x : Operand) (lo hi mx : Option Operand)
 | fieldAddr (off : Nat) (x : Operand)
 | field (off : Nat) (t : LTy) (x : Operand)
 | idxL (size : Nat) (x i : Operand)
 | idxA (n size : Nat) (x i : Operand)
 | idxS (x i : Operand)
 | idxV (n size : Nat) (t : LTy) (x i : Operand)
 | extract (x : Operand) (i : Nat)
 | lenS (x : Operand)
 | lenL (x : Operand)
 | lenA (n : Nat)
 | capL (x : Operand)
 | sliceD (x : Operand)
 | minI (x y : Operand)
 | maxI (x y : Operand)
 | minM (x : Operand) (ys : List Operand)
 | unit
def evs (f : PFr) : List Operand → Option (List Value)
 | [] => some []
 | x :: l => match ev f x with
  | some v => match evs f l with
   | some vs => some (v :: vs)
   | none => none
  | none => none
def evI {R : Type} (f : PFr) (x : Option Operand) (κ : Option Int → Option R) : Option R :=
 match x with
 | none => κ none
 | some x => match ev f x with
  | some (.int _ n) => κ (some n)
  | _ => none
def zFy_ {R : Type} (op : BinOp) (k : IntKind) (a b : Int) (κ : Value → Option R) : Option R :=
 match op with
 | .add => κ (.int k (k.wrap (a + b)))
 | .sub => κ (.int k (k.wrap (a - b)))
 | .mul => κ (.int k (k.wrap (a * b)))
 | .quo => if b = 0 then none else κ (.int k (k.wrap (a.tdiv b)))
 | .rem => if b = 0 then none else κ (.int k (a.tmod b))
 | .and => κ (.int k (bits .and k a b))
 | .or => κ (.int k (bits .or k a b))
 | .xor => κ (.int k (bits .xor k a b))
 | .andNot => κ (.int k (bits .andNot k a b))
 | .eql => κ (.bool (a == b))
 | .neq => κ (.bool (a != b))
 | .lss => κ (.bool (decide (a < b)))
 | .leq => κ (.bool (decide (a ≤ b)))
 | .gtr => κ (.bool (decide (a > b)))
 | .geq => κ (.bool (decide (a ≥ b)))
 | _ => none
def zNx_ {R : Type} (op : BinOp) (a b : ByteArray) (κ : Value → Option R) : Option R :=
 match op with
 | .add => if a.size + b.size ≤ 9223372036854775807 then κ (.string (a ++ b)) else none
 | .eql => κ (.bool (a == b))
 | .neq => κ (.bool (!(a == b)))
 | .lss => κ (.bool (Op.bytesLess a.toList b.toList))
 | .leq => κ (.bool (Op.bytesLess a.toList b.toList || (a == b)))
 | .gtr => κ (.bool (!(Op.bytesLess a.toList b.toList || (a == b))))
 | .geq => κ (.bool (!(Op.bytesLess a.toList b.toList)))
 | _ => none
def dbin {R : Type} (op : BinOp) (x y : Value) (κ : Value → Option R) : Option R :=
 match x, y with
 | .int k a, .int k' b =>
  match op with
  | .shl => if 0 ≤ b then κ (.int k (k.wrap (a * 2 ^ (min b.toNat k.bits)))) else none
  | .shr => if 0 ≤ b then κ (.int k (a.fdiv (2 ^ (min b.toNat k.bits)))) else none
  | op => bif decide (k = k') then zFy_ op k a b κ else none
 | .string a, .string b => zNx_ op a b κ
 | _, _ => none
def zbm_ : List Value → List (Nat × Nat × List Value) → Option (List Value)
 | cs, [] => some cs
 | cs, (off, size, vs) :: t => bif (Nat.beq vs.length size && Nat.ble (off + size) cs.length) then zbm_ (zx_ cs off vs) t else none
def zei_ (f : PFr) : List (Nat × Nat × Operand) → Option (List (Nat × Nat × List Value))
 | [] => some []
 | (off, size, x) :: l => match ev f x with
  | some v => match zei_ f l with
   | some t => some ((off, size, v.cells.toList) :: t)
   | none => none
  | none => none
def zYj_ (s : Slc) : Option (Option Addr) :=
 match s.a with
 | none => some none
 | some a => bif Nat.beq s.cap 0 then none else some (some ⟨a.block, a.off, none⟩)
def zdb_ {R : Type} (o : POp) (f : PFr) (κ : Value → Option R) : Option R :=
 match o with
 | .mv x => (ev f x).bind κ
 | .pick c a b => match ev f c with
  | some (.bool t) => if t = true then (ev f a).bind κ else (ev f b).bind κ
  | _ => none
 | .nilP x => (ev f x).bind fun v => nilK v κ
 | .bin op x y => (ev f x).bind fun a => (ev f y).bind fun b => dbin op a b κ
 | .isNil k neg x => (ev f x).bind fun v => (Gx.isNil k v).bind fun r => κ (.bool (bif neg then !r else r))
 | .eqPtr neg x y => match ev f x, ev f y with
  | some (.pointer p), some (.pointer q) => (Gx.eqPtr p q).bind fun r => κ (.bool (bif neg then !r else r))
  | _, _ => none
 | .eqB neg x y => match ev f x, ev f y with
  | some (.bool p), some (.bool q) => κ (.bool (bif neg then !(p == q) else (p == q)))
  | _, _ => none
 | .eqSt neg ts x y => match ev f x, ev f y with
  | some (.agg a), some (.agg b) => (decC ts a.toList).bind fun p => (decC ts b.toList).bind fun q => κ (.bool (bif neg then !(eqC ts p q) else eqC ts p q))
  | _, _ => none
 | .un op x => match op, ev f x with
  | .neg, some (.int k n) => κ (.int k (k.wrap (0 - n)))
  | .xor, some (.int k n) => κ (.int k (bits .xor k (bif k.signed then -1 else k.max) n))
  | .not, some (.bool b) => κ (.bool (!b))
  | _, _ => none
 | .convI k x => match ev f x with
  | some (.int _ n) => κ (.int k (k.wrap n))
  | _ => none
 | .convS x => match ev f x with
  | some (.string s) => κ (.string s)
  | _ => none
 | .iface t x => (ev f x).bind fun v => κ (.iface t v)
 | .mkFunc g first capt => (evs f first).bind fun a => (evs f capt).bind fun b => κ (.func (.func g) ⟨a⟩ ⟨b⟩)
 | .build zero parts => (zei_ f parts).bind fun ps => (zbm_ zero ps).bind fun cs => κ (.agg ⟨cs⟩)
 | .subS x lo hi => match ev f x with
  | some (.string s) => evI f lo fun l => evI f hi fun h => (Gx.subS s l h).bind fun t => κ (.string t)
  | _ => none
 | .subL size x lo hi mx => match ev f x with
  | some (.slice a n c) => evI f lo fun l => evI f hi fun h => evI f mx fun m => (Gx.subL size ⟨a, n, c⟩ l h m).bind fun t => κ (.slice t.a t.len t.cap)
  | _ => none
 | .subA n size x lo hi mx => match ev f x with
  | some (.pointer p) => p.bind fun a => evI f lo fun l => evI f hi fun h => evI f mx fun m => (Gx.subA n size a l h m).bind fun t => κ (.slice t.a t.len t.cap)
  | _ => none
 | .fieldAddr off x => match ev f x with
  | some (.pointer p) => p.bind fun a => κ (.pointer (some ⟨a.block, a.off + off, none⟩))
  | _ => none
 | .field off t x => match ev f x with
  | some (.agg cs) => match t with
   | .agg n => bif Nat.ble (off + n) cs.toList.length then κ (.agg ⟨(cs.toList.drop off).take n⟩) else none
   | t => (cs.toList[off]?).bind fun v => zrd_ t v κ
  | _ => none
 | .idxL size x i => match ev f x, ev f i with
  | some (.slice a n c), some (.int _ j) => (Gx.idxL size ⟨a, n, c⟩ j).bind fun p => κ (.pointer (some p))
  | _, _ => none
 | .idxA n size x i => match ev f x, ev f i with
  | some (.pointer p), some (.int _ j) => p.bind fun a => (Gx.idxA n size a j).bind fun q => κ (.pointer (some q))
  | _, _ => none
 | .idxS x i => match ev f x, ev f i with
  | some (.string s), some (.int _ j) => (Gx.idxS s j).bind fun n => κ (.int .u8 n)
  | _, _ => none
 | .idxV n size t x i => match ev f x, ev f i with
  | some (.agg cs), some (.int _ j) => if 0 ≤ j ∧ j < n then
    (match t with
    | .agg m => if j.toNat * size + m ≤ cs.toList.length then κ (.agg ⟨(cs.toList.drop (j.toNat * size)).take m⟩) else none
    | t => (cs.toList[j.toNat * size]?).bind fun v => zrd_ t v κ) else none
  | _, _ => none
 | .extract x i => match ev f x with
  | some (.tuple vs) => (vs.toList[i]?).bind κ
  | _ => none
 | .lenS x => match ev f x with
  | some (.string s) => κ (.int .i64 s.size)
  | _ => none
 | .lenL x => match ev f x with
  | some (.slice _ n _) => κ (.int .i64 (n : Int))
  | _ => none
 | .lenA n => κ (.int .i64 (n : Int))
 | .sliceD x => match ev f x with
  | some (.slice a n c) => (zYj_ ⟨a, n, c⟩).bind fun p => κ (.pointer p)
  | _ => none
 | .capL x => match ev f x with
  | some (.slice a n c) => (zpk_ ⟨a, n, c⟩).bind fun m => κ (.int .i64 m)
  | _ => none
 | .minI x y => match ev f x, ev f y with
  | some (.int k a), some (.int _ b) => κ (.int k (if b < a then b else a))
  | _, _ => none
 | .maxI x y => match ev f x, ev f y with
  | some (.int k a), some (.int _ b) => κ (.int k (if b > a then b else a))
  | _, _ => none
 | .minM x ys => match ev f x with
  | some (.int k a) => (evs f ys).bind fun vs => (zoo_ a vs).bind fun m => κ (.int k m)
  | _ => none
 | .unit => κ (.tuple #[])
def FR (μ : BMap) (f : PFr) (tmps : Array Value) : Prop := ∀ t v, f t = some v → VR μ v (tmps.getD t undef)
theorem FR.mono {μ ν : BMap} (h : BLe μ ν) {f : PFr} {t : Array Value} (k : FR μ f t) : FR ν f t := fun s v hv => (k s v hv).mono h
theorem FR.set {μ : BMap} {f : PFr} {t : Array Value} (h : FR μ f t) {d : Nat} {v v' : Value} (hv : VR μ v v') (hd : d < t.size) : FR μ (pset f d v) (t.setIfInBounds d v') := by
 intro s x hx
 unfold pset at hx
 cases hb : Nat.beq s d
 ·rw [hb] at hx
  have hne : d ≠ s := fun e => by subst e; rw [Nat.beq_refl] at hb; cases hb
  have := h s x hx
  rw [Array.getD_eq_getD_getElem?] at this ⊢
  rw [Array.getElem?_setIfInBounds_ne hne]; exact this
 ·rw [hb] at hx
  have he : s = d := Nat.eq_of_beq_eq_true hb
  subst he; cases hx
  simpa [hd] using hv
theorem FR.put {μ : BMap} {f : PFr} {a : Act} (h : FR μ f a.tmps) {d : Option Nat} {v v' : Value} (hv : VR μ v v') (hd : ∀ x, d = some x → x < a.tmps.size) :
  FR μ (pput f d v) (a.put d v').tmps := by
 cases d with
 | none => exact h
 | some d => exact h.set hv (hd d rfl)
section
variable {G : Nat} {μ : BMap} {H : AHeap} {w : World} {P : Program} {f : PFr} {a : Act}
theorem zaB_ (s : Sim G μ H w) (fr : FR μ f a.tmps) {x : Operand} {v : Value} (hx : ev f x = some v) (hg : ∀ g, (x = .global g → g < G) ∧ (x = .func g → g < 18446744073709551616)) : VR μ v (a.eval x) := by
 cases x with
 | tmp t => exact fr t v hx
 | const c =>
  simp only [ev] at hx
  cases hp : zIf_ c
  ·rw [hp] at hx; cases hx
  ·rw [hp] at hx; cases hx; exact .of_plain hp
 | global g =>
  simp only [ev] at hx; cases hx
  obtain ⟨z, hz⟩ := s.glob g ((hg g).1 rfl)
  have := VR.ptr (o := 0) hz
  simpa [Act.eval] using this
 | func g =>
  simp only [ev] at hx; cases hx
  exact .func ⟨rfl, (hg g).2 rfl⟩ rfl rfl (fun i v v' h => by simp at h) (fun i v v' h => by simp at h)
def opG (G : Nat) : Operand → Bool
 | .global g => decide (g < G)
 | .func g => Nat.ble g 18446744073709551615
 | _ => true
theorem zaC_ {x : Operand} (h : opG G x = true) : ∀ g, (x = .global g → g < G) ∧ (x = .func g → g < 18446744073709551616) := by
 refine fun g => ⟨fun e => ?_, fun e => ?_⟩
 ·subst e; simpa [opG] using h
 ·subst e; exact Nat.lt_of_le_of_lt (Nat.le_of_ble_eq_true h) (by decide)
def opsG (G : Nat) : List Operand → Bool
 | [] => true
 | x :: l => opG G x && opsG G l
def opOG (G : Nat) : Option Operand → Bool
 | none => true
 | some x => opG G x
theorem zy_ (s : Sim G μ H w) (fr : FR μ f a.tmps) {x : Operand} {v : Value} (hx : ev f x = some v) (hg : opG G x = true) : VR μ v (a.eval x) :=
 zaB_ s fr hx (zaC_ hg)
theorem zfd_ (s : Sim G μ H w) (fr : FR μ f a.tmps) {x : Operand} {k : IntKind} {n : Int} (hx : ev f x = some (.int k n)) (hg : opG G x = true) : a.eval x = .int k n := by
 have := zy_ s fr hx hg
 generalize a.eval x = v at this
 cases this; rfl
theorem zAl_ (s : Sim G μ H w) (fr : FR μ f a.tmps) {x : Operand} {b : Bool} (hx : ev f x = some (.bool b)) (hg : opG G x = true) : a.eval x = .bool b := by
 have := zy_ s fr hx hg
 generalize a.eval x = v at this
 cases this; rfl
theorem zqh_ (s : Sim G μ H w) (fr : FR μ f a.tmps) {x : Operand} {b : ByteArray} (hx : ev f x = some (.string b)) (hg : opG G x = true) : a.eval x = .string b := by
 have := zy_ s fr hx hg
 generalize a.eval x = v at this
 cases this; rfl
theorem znl_ (s : Sim G μ H w) (fr : FR μ f a.tmps) : ∀ {l : List Operand} {vs : List Value}, evs f l = some vs → opsG G l = true → VRs μ vs (l.map a.eval)
 | [], vs, h, _ => by simp [evs] at h; subst h; exact .nil μ
 | x :: l, vs, h, hg => by
  simp only [opsG, Bool.and_eq_true] at hg
  simp only [evs] at h
  split at h
  ·rename_i v hv
   split at h
   ·rename_i t ht
    cases h
    exact .cons (zy_ s fr hv hg.1) (znl_ s fr ht hg.2)
   ·cases h
  ·cases h
end
def szOf (P : Program) (t : TypeId) : Option Nat := (P.info? t).map (·.size)
theorem run_sizeOf' {P : Program} {t n : Nat} (h : szOf P t = some n) (w : World) : (Go.sizeOf t).run P w = .ok n w := by
 unfold szOf at h
 cases hi : P.info? t with
 | none => simp [hi] at h
 | some i => simp [hi] at h; simp [Go.sizeOf, typeInfo, hi, h]
def aggT (P : Program) (t : TypeId) : Option Bool :=
 match P.underlying t with
 | some (.struct _) | some (.array _ _) => some true
 | some _ => some false
 | none => none
theorem zQe_ {P : Program} {t : Nat} {b : Bool} (h : aggT P t = some b) (w : World) : (isAgg t).run P w = .ok b w := by
 unfold aggT at h
 cases hu : P.underlying t with
 | none => simp [hu] at h
 | some d => cases d <;> simp [hu] at h <;> subst h <;> simp [isAgg, run_underlying hu]
def zZe_ (P : Program) (t : TypeId) : Option LTy :=
 match P.underlying t with
 | some (.int k) => some (.i k)
 | some .bool => some .b
 | some .string => some .s
 | some (.pointer _) => some .p
 | some (.slice _) => some .l
 | some (.map _ _) => some .m
 | some (.struct _) | some (.array _ _) => (szOf P t).map .agg
 | some (.func _ _ _) | some (.interface _) => some .v
 | _ => none
theorem zLm_ {P : Program} {t : Nat} {ts : List CTy} (h : zZe_ P t = some (.st ts)) : False := by
 unfold zZe_ at h
 cases hu : P.underlying t with
 | none => simp [hu] at h
 | some d => cases d <;> simp [hu] at h
theorem zdo_ {P : Program} {t n : Nat} (h : zZe_ P t = some (.agg n)) : aggT P t = some true ∧ szOf P t = some n := by
 unfold zZe_ at h
 unfold aggT
 cases hu : P.underlying t with
 | none => simp [hu] at h
 | some d => cases d <;> simp [hu] at h <;> exact ⟨rfl, h⟩
theorem zLn_ {P : Program} {t : Nat} {T : LTy} (h : zZe_ P t = some T) (hT : ∀ n, T ≠ .agg n) : aggT P t = some false := by
 unfold zZe_ at h
 unfold aggT
 cases hu : P.underlying t with
 | none => simp [hu] at h
 | some d => cases d <;> simp [hu] at h <;> first | rfl | (obtain ⟨m, _, rfl⟩ := h; exact absurd rfl (hT m))
theorem zKm_ {P : Program} {μ : BMap} {t off : Nat} {T : LTy} (hT : zZe_ P t = some T) {cs cs' : Array Value} (hc : VRs μ cs.toList cs'.toList) (w : World) :
  (∀ n, T = .agg n → off + n ≤ cs.toList.length → ∃ v', (part t cs' off).run P w = .ok v' w ∧ VR μ (.agg ⟨(cs.toList.drop off).take n⟩) v') ∧
  ((∀ n, T ≠ .agg n) → ∀ v, cs.toList[off]? = some v → ∃ v', (part t cs' off).run P w = .ok v' w ∧ VR μ v v') := by
 refine ⟨fun n e hle => ?_, fun hn v hv => ?_⟩
 ·subst e
  obtain ⟨h1, h2⟩ := zdo_ hT
  refine ⟨_, by simp [part, zQe_ h1, run_sizeOf' h2]; rfl, ?_⟩
  have := (hc.drop off).take n
  have e : (cs'.extract off (off + n)) = ⟨(cs'.toList.drop off).take n⟩ := by
   apply Array.ext'
   simp [Array.toList_extract, List.extract]
  rw [e]; exact .agg_list this
 ·have h1 := zLn_ hT hn
  obtain ⟨v', h2, h3⟩ := hc.get hv
  refine ⟨v', ?_, h3⟩
  have : cs'[off]? = some v' := by simpa using h2
  simp [part, zQe_ h1, this]
def zaf_ : NK → Value
 | .p => .pointer none
 | .l => .slice none 0 0
 | .m => .map none
 | .f => .nilFunc
 | .i => .nilIface
def zBm_ (k : NK) (y : Operand) : Bool :=
 match k with
 | .p => match y with
  | .const (.pointer none) => true
  | _ => false
 | .l => match y with
  | .const (.slice none 0 0) => true
  | _ => false
 | .m => match y with
  | .const (.map none) => true
  | _ => false
 | .f => match y with
  | .const .nilFunc => true
  | _ => false
 | .i => match y with
  | .const .nilIface => true
  | _ => false
def nkOf : TypeDesc → Option NK
 | .pointer _ => some .p
 | .slice _ => some .l
 | .map _ _ => some .m
 | .func _ _ _ => some .f
 | .interface _ => some .i
 | _ => none
def zYo_ : BinOp → Option Bool
 | .eql => some false
 | .neq => some true
 | _ => none
def zIn_ (P : Program) (fs : Array Field) : List (Nat × Operand) → Option (List (Nat × Nat × Operand))
 | [] => some []
 | (i, x) :: l => match fs[i]? with
  | some fd => match szOf P fd.type with
   | some s => match zIn_ P fs l with
    | some t => some ((fd.offset, s, x) :: t)
    | none => none
   | none => none
  | none => none
def zmp_ (P : Program) (t : TypeId) (ps : List (Nat × Operand)) : Option (List (Nat × Nat × Operand)) :=
 match P.underlying t with
 | some (.struct fs) => if fs.toList.all (fun fd => (szOf P fd.type).isSome) then zIn_ P fs ps else none
 | some (.array _ e) => (szOf P e).bind fun s => some (ps.map fun p => (p.1 * s, s, p.2))
 | _ => none
def zUj_ (P : Program) (t : TypeId) : Option CTy :=
 match P.underlying t with
 | some (.int k) => some (.i k)
 | some .bool => some .b
 | some .string => some .s
 | _ => none
def eqFs (P : Program) (g : TypeId → Option (List CTy)) : Nat → List Field → Option (List CTy)
 | _, [] => some []
 | off, f :: fs => if f.name ≠ "_" then (if f.offset = off then match g f.type with
   | some l => if szOf P f.type = some l.length then (match eqFs P g (off + l.length) fs with
    | some r => some (l ++ r)
    | none => none) else none
   | none => none else none) else none
def eqSh (P : Program) : Nat → TypeId → Option (List CTy)
 | 0, _ => none
 | d + 1, t => match P.underlying t with
  | some (.int k) => some [.i k]
  | some .bool => some [.b]
  | some .string => some [.s]
  | some (.struct fs) => if P.stoodInHeld t = false then eqFs P (eqSh P d) 0 fs.toList else none
  | some (.array n e) => match eqSh P d e with
   | some l => if szOf P e = some l.length then some (List.replicate n l).flatten else none
   | none => none
  | _ => none
def zGr_ (P : Program) (t : TypeId) : Option (List CTy) :=
 match P.underlying t with
 | some (.struct _) | some (.array _ _) => if P.eqGuardType P.depth t = false then eqSh P 6 t else none
 | _ => none
def zRc_ (P : Program) (t : TypeId) : Option (List Value) :=
 match (P.info? t).bind (·.zero) with
 | some v => if zqb_ v.cells.toList then some v.cells.toList else none
 | none => none
def chk (b : Bool) {α : Type} (x : α) : Option α := if b then some x else none
def zax_ (P : Program) (G : Nat) (c : Call) : Option POp :=
 match c.callee with
 | .builtin .len => match c.args.toList, (c.argTypes[0]?).bind P.underlying with
  | [x], some .string => chk (opG G x) (.lenS x)
  | [x], some (.slice _) => chk (opG G x) (.lenL x)
  | [_], some (.array n _) => some (.lenA n)
  | _, _ => none
 | .builtin .cap => match c.args.toList, (c.argTypes[0]?).bind P.underlying with
  | [x], some (.slice _) => chk (opG G x) (.capL x)
  | _, _ => none
 | .builtin .unsafeSliceData => match c.args.toList with
  | [x] => chk (opG G x) (.sliceD x)
  | _ => none
 | .builtin .min => match c.args.toList with
  | [x, y] => chk (opG G x && opG G y) (.minI x y)
  | x :: y :: z :: l => chk (opG G x && opsG G (y :: z :: l)) (.minM x (y :: z :: l))
  | _ => none
 | .builtin .max => match c.args.toList with
  | [x, y] => chk (opG G x && opG G y) (.maxI x y)
  | _ => none
 | _ => none
def zVx_ (P : Program) (G : Nat) (o : Oper) : Option POp :=
 match o.op with
 | .move x | .assign x => chk (opG G x) (.mv x)
 | .pick c a b => chk (opG G c && opG G a && opG G b) (.pick c a b)
 | .nilCheck x => chk (opG G x) (.nilP x)
 | .binOp op t x y _ => match P.underlying t with
  | some (.int _) | some .string => chk (opG G x && opG G y) (.bin op x y)
  | some .bool => (zYo_ op).bind fun neg => chk (opG G x && opG G y) (.eqB neg x y)
  | some (.struct _) | some (.array _ _) => (zYo_ op).bind fun neg => (zGr_ P t).bind fun ts => chk (opG G x && opG G y) (.eqSt neg ts x y)
  | some d => (zYo_ op).bind fun neg => (nkOf d).bind fun k =>
   if zBm_ k y then chk (opG G x) (.isNil k neg x) else
    match d with
    | .pointer e => if (szOf P e).getD 0 = 0 then none else chk (opG G x && opG G y) (.eqPtr neg x y)
    | _ => none
  | none => none
 | .unOp op _ x => chk (opG G x) (.un op x)
 | .convert src dst x => match P.underlying src, P.underlying dst with
  | some (.int _), some (.int k) => chk (opG G x) (.convI k x)
  | some .string, some .string => chk (opG G x) (.convS x)
  | _, _ => none
 | .makeInterface t x => if P.concrete t then chk (opG G x) (.iface t x) else none
 | .makeFunc (.func g) first capt => chk (opsG G first.toList && opsG G capt.toList && Nat.ble g 18446744073709551615) (.mkFunc g first.toList capt.toList)
 | .build t parts => do
   let z ← zRc_ P t
   let ps ← zmp_ P t parts.toList
   chk (opsG G (ps.map (·.2.2))) (.build z ps)
 | .slice t x lo hi mx => match P.underlying t with
  | some .string => if mx.isNone then chk (opG G x && opOG G lo && opOG G hi) (.subS x lo hi) else none
  | some (.slice e) => (szOf P e).bind fun s => if mx.isSome && hi.isNone then none else chk (opG G x && opOG G lo && opOG G hi && opOG G mx) (.subL s x lo hi mx)
  | some (.array n e) => (szOf P e).bind fun s => if mx.isSome && hi.isNone then none else chk (opG G x && opOG G lo && opOG G hi && opOG G mx) (.subA n s x lo hi mx)
  | _ => none
 | .fieldAddr s x i => match P.underlying s with
  | some (.struct fs) => (fs[i]?).bind fun fd => if (szOf P fd.type).getD 0 = 0 then none else chk (opG G x) (.fieldAddr fd.offset x)
  | _ => none
 | .field t x i => match P.underlying t with
  | some (.struct fs) => (fs[i]?).bind fun fd => (zZe_ P fd.type).bind fun T => chk (opG G x) (.field fd.offset T x)
  | _ => none
 | .indexAddr t x i => match P.underlying t with
  | some (.slice e) => (szOf P e).bind fun s => chk (opG G x && opG G i) (.idxL s x i)
  | some (.array n e) => (szOf P e).bind fun s => chk (opG G x && opG G i) (.idxA n s x i)
  | _ => none
 | .index t x i => match P.underlying t with
  | some .string => chk (opG G x && opG G i) (.idxS x i)
  | some (.array n e) => (szOf P e).bind fun s => (zZe_ P e).bind fun T => chk (opG G x && opG G i) (.idxV n s T x i)
  | _ => none
 | .extract x i => chk (opG G x) (.extract x i)
 | .call c => zax_ P G c
 | _ => none
theorem zr_ {b : Bool} {α : Type} {x y : α} (h : chk b x = some y) : b = true ∧ x = y := by
 unfold chk at h; split at h
 ·rename_i hb; cases h; exact ⟨hb, rfl⟩
 ·cases h
section
variable {G : Nat} {P : Program} {f : PFr} {R : Type} {κ : Value → Option R} {r : R}
def PS (P : Program) (G : Nat) (o : Oper) (f : PFr) (v : Value) : Prop :=
 ∀ (μ : BMap) (H : AHeap) (w : World) (a : Act), Sim G μ H w → FR μ f a.tmps → ∃ v', (execOp a.eval o).run P w = .ok (.value v') w ∧ VR μ v v'
theorem zhl_ {μ : BMap} {k : IntKind} {n : Int} {v : Value} (h : VR μ (.int k n) v) : v = .int k n := by cases h; rfl
theorem zas_ {μ : BMap} {b : Bool} {v : Value} (h : VR μ (.bool b) v) : v = .bool b := by cases h; rfl
theorem zDe_ {μ : BMap} {a : Addr} {v : Value} (h : VR μ (.pointer (some a)) v) : ∃ b o c d z, a = ⟨b, o, none⟩ ∧ v = .pointer (some ⟨c, d + o, none⟩) ∧ μ b = some (c, d, z) := by
 cases h with
 | ptr h => exact ⟨_, _, _, _, _, rfl, rfl, h⟩
theorem zRA_ {μ : BMap} {k : NK} {v v' : Value} {b : Bool} (h : VR μ v v') (hn : isNil k v = some b) : isNil k v' = some b := by
 cases k <;> cases h <;> simp_all [isNil]
theorem zhj_ {op : BinOp} {neg : Bool} (h : zYo_ op = some neg) : op = bif neg then .neq else .eql := by
 cases op <;> simp [zYo_] at h <;> subst h <;> rfl
theorem zWx_ {k : IntKind} {x y : Int} (h : y ≠ 0) : Op.intDiv .quo k x y = pure (.int k (k.wrap (x.tdiv y))) := by simp [Op.intDiv, h]
theorem zby_ {k : IntKind} {x y : Int} (h : y ≠ 0) : Op.intDiv .rem k x y = pure (.int k (x.tmod y)) := by simp [Op.intDiv, h]
theorem zwB_ {op : BinOp} {k : IntKind} {x y : Int} {t : TypeId} (h : zFy_ op k x y κ = some r) :
  ∃ v, κ v = some r ∧ (∀ μ, VR μ v v) ∧ ∀ w, (binOp op t (.int k x) (.int k y)).run P w = .ok v w := by
 unfold zFy_ at h
 cases op <;> simp only at h
 case add => exact ⟨_, h, fun _ => .int _ _, fun w => by simp [binOp_add, Op.intArith]⟩
 case sub => exact ⟨_, h, fun _ => .int _ _, fun w => by simp [binOp_sub, Op.intArith]⟩
 case mul => exact ⟨_, h, fun _ => .int _ _, fun w => by simp [binOp_mul, Op.intArith]⟩
 case quo =>
  split at h
  ·cases h
  ·rename_i hy; exact ⟨_, h, fun _ => .int _ _, fun w => by rw [binOp_quo, zWx_ hy]; rfl⟩
 case rem =>
  split at h
  ·cases h
  ·rename_i hy; exact ⟨_, h, fun _ => .int _ _, fun w => by rw [binOp_rem, zby_ hy]; rfl⟩
 case and => exact ⟨_, h, fun _ => .int _ _, fun w => by rw [binOp_and, intBits_and]; rfl⟩
 case or => exact ⟨_, h, fun _ => .int _ _, fun w => by rw [binOp_or, intBits_or]; rfl⟩
 case xor => exact ⟨_, h, fun _ => .int _ _, fun w => by rw [binOp_xor, intBits_xor]; rfl⟩
 case andNot => exact ⟨_, h, fun _ => .int _ _, fun w => by rw [binOp_andNot, intBits_andNot]; rfl⟩
 case eql => exact ⟨_, h, fun _ => .bool _, fun w => by rw [binOp_eql]; rfl⟩
 case neq => exact ⟨_, h, fun _ => .bool _, fun w => by rw [binOp_neq]; rfl⟩
 case lss => exact ⟨_, h, fun _ => .bool _, fun w => by rw [binOp_lss]; rfl⟩
 case leq => exact ⟨_, h, fun _ => .bool _, fun w => by rw [binOp_leq]; rfl⟩
 case gtr => exact ⟨_, h, fun _ => .bool _, fun w => by rw [binOp_gtr]; rfl⟩
 case geq => exact ⟨_, h, fun _ => .bool _, fun w => by rw [binOp_geq]; rfl⟩
 all_goals cases h
theorem zTA_ {op : BinOp} {x y : ByteArray} {t : TypeId} (h : zNx_ op x y κ = some r) :
  ∃ v, κ v = some r ∧ (∀ μ, VR μ v v) ∧ ∀ w, (binOp op t (.string x) (.string y)).run P w = .ok v w := by
 unfold zNx_ at h
 cases op <;> simp only at h
 case add =>
  split at h
  ·rename_i hle
   refine ⟨_, h, fun _ => .str _, fun w => ?_⟩
   have : ¬ ((9223372036854775807 : Int) < (x.size : Int) + (y.size : Int)) := by omega
   simp [binOp, Op.stringOp, this]
  ·cases h
 case eql => exact ⟨_, h, fun _ => .bool _, fun w => by simp [binOp, Op.stringOp, beq_toListBytes]⟩
 case neq => exact ⟨_, h, fun _ => .bool _, fun w => by simp [binOp, Op.stringOp, beq_toListBytes]⟩
 case lss => exact ⟨_, h, fun _ => .bool _, fun w => by simp [binOp, Op.stringOp]⟩
 case leq => exact ⟨_, h, fun _ => .bool _, fun w => by simp [binOp, Op.stringOp, beq_toListBytes]⟩
 case gtr => exact ⟨_, h, fun _ => .bool _, fun w => by simp [binOp, Op.stringOp, beq_toListBytes]⟩
 case geq => exact ⟨_, h, fun _ => .bool _, fun w => by simp [binOp, Op.stringOp]⟩
 all_goals cases h
theorem zLC_ {op : BinOp} {x y : Value} {t : TypeId} (h : dbin op x y κ = some r) :
  ∃ v, κ v = some r ∧ (∀ μ, VR μ v v) ∧ ((∃ k n, x = .int k n) ∨ ∃ s, x = .string s) ∧ ((∃ k n, y = .int k n) ∨ ∃ s, y = .string s) ∧ ∀ w, (binOp op t x y).run P w = .ok v w := by
 unfold dbin at h
 split at h
 ·rename_i k x k' y
  split at h
  ·split at h
   ·rename_i hb
    refine ⟨_, h, fun _ => .int _ _, .inl ⟨_, _, rfl⟩, .inl ⟨_, _, rfl⟩, fun w => ?_⟩
    have : ¬ y < 0 := by omega
    simp [binOp_shl, Op.shift, this]
   ·cases h
  ·split at h
   ·rename_i hb
    refine ⟨_, h, fun _ => .int _ _, .inl ⟨_, _, rfl⟩, .inl ⟨_, _, rfl⟩, fun w => ?_⟩
    have : ¬ y < 0 := by omega
    simp [binOp_shr, Op.shift, this]
   ·cases h
  ·by_cases hk : k = k'
   ·subst hk
    simp at h
    obtain ⟨v, h1, h2, h3⟩ := zwB_ (P := P) (t := t) h
    exact ⟨v, h1, h2, .inl ⟨_, _, rfl⟩, .inl ⟨_, _, rfl⟩, h3⟩
   ·simp [hk] at h
 ·obtain ⟨v, h1, h2, h3⟩ := zTA_ (P := P) (t := t) h
  exact ⟨v, h1, h2, .inr ⟨_, rfl⟩, .inr ⟨_, rfl⟩, h3⟩
 ·cases h
theorem zEw_ {op : BinOp} {t : TypeId} {x y : Operand} {u v : Value} (h : (∃ k n, u = .int k n) ∨ ∃ s, u = .string s) : eqGuard op t x y u v = pure () := by
 rcases h with ⟨k, n, rfl⟩ | ⟨s, rfl⟩
 ·exact eqGuard_at_int ..
 ·exact eqGuard_at_string ..
theorem zhc_ {t : TypeId} {x y : Value} {w : World} {R : Result Bool} (h : ∀ d, (Op.equalIn (d + 1) t x y).run P w = R) : (Op.equal t x y).run P w = R := h 9999
theorem zxz_ {op : BinOp} {t : TypeId} {x y : Operand} {u : Value} {b neg : Bool} {k : NK} {d : TypeDesc} (hop : op = bif neg then .neq else .eql) (hy : y = .const (zaf_ k))
  (hd : P.underlying t = some d) (hk : nkOf d = some k) (hu : isNil k u = some b) (w : World) :
  (do eqGuard op t x y u (zaf_ k); binOp op t u (zaf_ k)).run P w = .ok (.bool (bif neg then !b else b)) w := by
 subst hy
 have hg : eqGuard op t x (.const (zaf_ k)) u (zaf_ k) = pure () := by
  cases k <;> cases u <;> simp [isNil] at hu <;> first
   | exact eqGuard_at_pointer ..
   | exact eqGuard_at_slice ..
   | exact eqGuard_at_map ..
   | exact eqGuard_at_nilFunc ..
   | exact eqGuard_at_func ..
   | exact eqGuard_nil_constR ..
   | exact eqGuard_at_iface ..
 rw [hg]
 have he : (Op.equal t u (zaf_ k)).run P w = .ok b w := by
  cases d <;> simp [nkOf] at hk <;> subst hk
  case pointer e => cases u <;> simp [isNil] at hu; rename_i p; cases p <;> simp at hu <;> subst hu <;> exact zhc_ fun n => by simp [Op.equalIn, run_underlying hd, zaf_]
  case slice e => cases u <;> simp [isNil] at hu; rename_i p _ _; cases p <;> simp at hu <;> subst hu <;> exact zhc_ fun n => by simp [Op.equalIn, run_underlying hd, zaf_]
  case map _ e => cases u <;> simp [isNil] at hu; rename_i p; cases p <;> simp at hu <;> subst hu <;> exact zhc_ fun n => by simp [Op.equalIn, run_underlying hd, zaf_]
  case func _ _ _ => cases u <;> simp [isNil] at hu <;> subst hu <;> exact zhc_ fun n => by simp [Op.equalIn, run_underlying hd, zaf_]
  case interface _ => cases u <;> simp [isNil] at hu <;> subst hu <;> exact zhc_ fun n => by simp [Op.equalIn, run_underlying hd, zaf_]
 have hb : binOp op t u (zaf_ k) = (do let z ← Op.equal t u (zaf_ k); pure (.bool (bif neg then !z else z))) := by
  cases neg <;> simp at hop <;> subst hop <;> cases k <;> cases u <;> simp [isNil] at hu <;> simp [binOp, zaf_]
 rw [hb]
 simp [he]
theorem zZy_ {op : BinOp} {t e : TypeId} {x y : Operand} {p q : Option Addr} {u v : Value} {b neg : Bool} {μ : BMap} (hop : op = bif neg then .neq else .eql)
  (ht : P.underlying t = some (.pointer e)) (hs : (szOf P e).getD 0 ≠ 0) (hu : VR μ (.pointer p) u) (hv : VR μ (.pointer q) v) (hb : eqPtr p q = some b) (w : World) :
  (do eqGuard op t x y u v; binOp op t u v).run P w = .ok (.bool (bif neg then !b else b)) w := by
 obtain ⟨n, hn⟩ : ∃ n, szOf P e = some n := by cases h : szOf P e <;> simp [h] at hs; exact ⟨_, rfl⟩
 rw [hn] at hs; simp at hs
 have hpp : ∃ p' q', u = .pointer p' ∧ v = .pointer q' ∧ (Op.equal t u v).run P w = .ok b w := by
  cases hu with
  | nilPtr =>
   cases hv with
   | nilPtr => simp [eqPtr] at hb; subst hb; exact ⟨_, _, rfl, rfl, zhc_ fun d => by simp [Op.equalIn, run_underlying ht]⟩
   | ptr hm => simp [eqPtr] at hb; subst hb; exact ⟨_, _, rfl, rfl, zhc_ fun d => by simp [Op.equalIn, run_underlying ht]⟩
  | ptr hm =>
   cases hv with
   | nilPtr => simp [eqPtr] at hb; subst hb; exact ⟨_, _, rfl, rfl, zhc_ fun d => by simp [Op.equalIn, run_underlying ht]⟩
   | ptr hm' =>
    simp only [eqPtr] at hb
    split at hb
    ·rename_i he
     subst he
     rw [hm] at hm'; cases hm'
     cases hb
     refine ⟨_, _, rfl, rfl, zhc_ fun d => ?_⟩
     simp [Op.equalIn, run_underlying ht, run_sizeOf' hn, hs, sameAddr]
     rw [Bool.eq_iff_iff]; simp
    ·cases hb
 obtain ⟨p', q', rfl, rfl, he⟩ := hpp
 rw [eqGuard_at_pointer]
 have hb' : binOp op t (.pointer p') (.pointer q') = (do let z ← Op.equal t (.pointer p') (.pointer q'); pure (.bool (bif neg then !z else z))) := by
  cases neg <;> simp at hop <;> subst hop <;> simp [binOp]
 rw [hb']
 simp [he]
theorem zUo_ {t off : Nat} {c : CTy} (h : zUj_ P t = some c) {cs : Array Value} {v : Value} (hv : cs.toList[off]? = some v) (w : World) : (part t cs off).run P w = .ok v w := by
 have ha : aggT P t = some false := by
  unfold zUj_ at h; unfold aggT
  cases hu : P.underlying t with
  | none => simp [hu] at h
  | some d => cases d <;> simp [hu] at h <;> rfl
 have : cs[off]? = some v := by simpa using hv
 simp [part, zQe_ ha, this]
theorem zvC_ {t d : Nat} {c : CTy} (h : zUj_ P t = some c) {u v : Value} {p q : c.T} (hu : c.dec u = some p) (hv : c.dec v = some q) (w : World) :
  (Op.equalIn (d + 1) t u v).run P w = .ok (c.eq p q) w := by
 unfold zUj_ at h
 split at h
 ·rename_i k hk
  cases h
  rw [zPf_ hu, zPf_ hv]
  simp [Op.equalIn, run_underlying hk, CTy.eq]
 ·rename_i hk
  cases h
  rw [zNf_ hu, zNf_ hv]
  simp [Op.equalIn, run_underlying hk, CTy.eq]
 ·rename_i hk
  cases h
  rw [zOf_ hu, zOf_ hv]
  simp [Op.equalIn, run_underlying hk, CTy.eq]
 ·cases h
theorem zVn_ {t : CTy} {L : List CTy} {l : List Value} {x : TupC (t :: L)} (h : decC (t :: L) l = some x) : ∃ v l', l = v :: l' ∧ ∃ p y, t.dec v = some p ∧ decC L l' = some y ∧ ∀ (x' : TupC (t :: L)) (v' : Value) (l'' : List Value), decC (t :: L) (v' :: l'') = some x' → ∃ p' y', t.dec v' = some p' ∧ decC L l'' = some y' ∧ eqC (t :: L) x x' = (t.eq p p' && eqC L y y') := by
 cases l with
 | nil => cases L <;> simp [decC] at h
 | cons v l =>
  refine ⟨v, l, rfl, ?_⟩
  cases L with
  | nil =>
   cases l with
   | cons _ _ => simp [decC] at h
   | nil =>
    refine ⟨x, (), by simpa [decC] using h, rfl, fun x' v' l'' h' => ?_⟩
    cases l'' with
    | cons _ _ => simp [decC] at h'
    | nil => exact ⟨x', (), by simpa [decC] using h', rfl, by simp [eqC]⟩
  | cons u L =>
   simp only [decC] at h
   split at h
   ·rename_i p hp
    split at h
    ·rename_i y hy
     cases h
     refine ⟨p, y, hp, hy, fun x' v' l'' h' => ?_⟩
     simp only [decC] at h'
     split at h'
     ·rename_i p' hp'
      split at h'
      ·rename_i y' hy'
       cases h'
       exact ⟨p', y', hp', hy', rfl⟩
      ·cases h'
     ·cases h'
    ·cases h
   ·cases h
def eqL : List CTy → List Value → List Value → Option Bool
 | [], [], [] => some true
 | c :: ts, x :: xs, y :: ys => match c.dec x with
  | some a => match c.dec y with
   | some b => match eqL ts xs ys with
    | some r => some (c.eq a b && r)
    | none => none
   | none => none
  | none => none
 | _, _, _ => none
theorem zEv_ {c : CTy} {ts : List CTy} {l l' : List Value} {r : Bool} (h : eqL (c :: ts) l l' = some r) : ∃ x xs y ys a b r', l = x :: xs ∧ l' = y :: ys ∧ c.dec x = some a ∧ c.dec y = some b ∧ eqL ts xs ys = some r' ∧ r = (c.eq a b && r') := by
 cases l with
 | nil => cases l' <;> simp [eqL] at h
 | cons x xs =>
  cases l' with
  | nil => simp [eqL] at h
  | cons y ys =>
   simp only [eqL] at h
   split at h
   ·rename_i a ha
    split at h
    ·rename_i b hb
     split at h
     ·rename_i r' hr
      cases h
      exact ⟨x, xs, y, ys, a, b, r', rfl, rfl, ha, hb, hr, rfl⟩
     ·cases h
    ·cases h
   ·cases h
theorem zXw_ {l l' : List Value} {r : Bool} (h : eqL [] l l' = some r) : l = [] ∧ l' = [] ∧ r = true := by
 cases l with
 | nil =>
  cases l' with
  | nil => simp only [eqL, Option.some.injEq] at h; exact ⟨rfl, rfl, h.symm⟩
  | cons _ _ => simp [eqL] at h
 | cons _ _ => cases l' <;> simp [eqL] at h
theorem zWy_ : ∀ {ts : List CTy} {l l' : List Value} {p q : TupC ts}, decC ts l = some p → decC ts l' = some q → eqL ts l l' = some (eqC ts p q)
 | [], [], [], _, _, _, _ => by simp [eqL, eqC]
 | [], _ :: _, _, _, _, h, _ => by simp [decC] at h
 | [], [], _ :: _, _, _, _, h => by simp [decC] at h
 | t :: L, l, l', p, q, h, h' => by
  obtain ⟨v, l1, rfl, a, y, ha, hy, hx⟩ := zVn_ h
  have h0 := h'
  obtain ⟨v', l1', rfl, _⟩ := zVn_ h'
  obtain ⟨b, z, hb, hz, he⟩ := hx q v' l1' h0
  have ih := zWy_ hy hz
  simp only [eqL, ha, hb, ih, he]
theorem zVr_ : ∀ {t1 t2 : List CTy} {l l' : List Value} {r : Bool}, eqL (t1 ++ t2) l l' = some r →
  ∃ b1 b2, eqL t1 (l.take t1.length) (l'.take t1.length) = some b1 ∧ eqL t2 (l.drop t1.length) (l'.drop t1.length) = some b2 ∧ r = (b1 && b2)
 | [], t2, l, l', r, h => ⟨true, r, by simp [eqL], by simpa using h, by simp⟩
 | c :: t1, t2, l, l', r, h => by
  obtain ⟨x, xs, y, ys, a, b, r', rfl, rfl, ha, hb, hr, rfl⟩ := zEv_ h
  obtain ⟨b1, b2, h1, h2, h3⟩ := zVr_ hr
  refine ⟨c.eq a b && b1, b2, ?_, ?_, ?_⟩
  ·simp only [List.length_cons, List.take_succ_cons, eqL, ha, hb, h1]
  ·simpa using h2
  ·rw [h3, Bool.and_assoc]
theorem zAv_ {t off n : Nat} (ha : aggT P t = some true) (hs : szOf P t = some n) (cs : List Value) (w : World) : (part t ⟨cs⟩ off).run P w = .ok (.agg ⟨(cs.drop off).take n⟩) w := by
 simp [part, zQe_ ha, run_sizeOf' hs]
theorem zYC_ {d t : Nat} {ts : List CTy} (h : eqSh P d t = some ts) (ha : aggT P t = some false) : 1 ≤ d ∧ ∃ c, ts = [c] ∧ zUj_ P t = some c := by
 cases d with
 | zero => simp [eqSh] at h
 | succ d =>
  unfold aggT at ha
  cases hu : P.underlying t with
  | none => simp [hu] at ha
  | some k => cases k <;> simp [eqSh, hu] at h <;> simp [hu] at ha <;> subst h <;> exact ⟨by omega, _, rfl, by simp [zUj_, hu]⟩
theorem zkD_ {d t : Nat} {ts : List CTy} (h : eqSh P d t = some ts) : aggT P t = some false ∨ aggT P t = some true := by
 cases d with
 | zero => simp [eqSh] at h
 | succ d =>
  unfold aggT
  cases hu : P.underlying t with
  | none => simp [eqSh, hu] at h
  | some k => cases k <;> simp
def EqR (P : Program) (d : Nat) : Prop := ∀ (t : Nat) (ts : List CTy), eqSh P d t = some ts → aggT P t = some true → ∀ (D : Nat), d ≤ D → ∀ (xs ys : List Value) (b : Bool), eqL ts xs ys = some b → ∀ w, (Op.equalIn D t (.agg ⟨xs⟩) (.agg ⟨ys⟩)).run P w = .ok b w
theorem zcx_ {d : Nat} (ih : EqR P d) {t : Nat} {l : List CTy} (hs : eqSh P d t = some l) (hz : szOf P t = some l.length) {D : Nat} (hD : d ≤ D) {xs ys : List Value} {off : Nat} {b : Bool}
  (he : eqL l ((xs.drop off).take l.length) ((ys.drop off).take l.length) = some b) (w : World) :
  ∃ u v, (part t ⟨xs⟩ off).run P w = .ok u w ∧ (part t ⟨ys⟩ off).run P w = .ok v w ∧ (Op.equalIn D t u v).run P w = .ok b w := by
 rcases zkD_ hs with ha | ha
 ·obtain ⟨hd, c, rfl, hc⟩ := zYC_ hs ha
  obtain ⟨x, x0, y, y0, a, a', r', e1, e2, h1, h2, h3, rfl⟩ := zEv_ he
  obtain ⟨D, rfl⟩ : ∃ m, D = m + 1 := ⟨D - 1, by omega⟩
  have g : ∀ {zs : List Value} {z : Value} {z0 : List Value}, (zs.drop off).take [c].length = z :: z0 → (⟨zs⟩ : Array Value).toList[off]? = some z := by
   intro zs z z0 e
   have := congrArg (·[0]?) e
   simpa [List.getElem?_take, List.getElem?_drop] using this
  refine ⟨x, y, zUo_ hc (g e1) w, zUo_ hc (g e2) w, ?_⟩
  rw [zvC_ hc h1 h2 w]
  have hx0 : x0 = [] := by
   have := congrArg List.length e1
   cases x0 with
   | nil => rfl
   | cons _ _ => simp at this; omega
  have hy0 : y0 = [] := by
   have := congrArg List.length e2
   cases y0 with
   | nil => rfl
   | cons _ _ => simp at this; omega
  subst hx0 hy0
  simp [eqL] at h3
  subst h3
  simp
 ·exact ⟨_, _, zAv_ ha hz xs w, zAv_ ha hz ys w, ih _ _ hs ha _ hD _ _ _ he w⟩
theorem zNs_ {d : Nat} (ih : EqR P d) {D : Nat} (hD : d ≤ D) (w : World) : ∀ (fs : List Field) (off : Nat) {ts : List CTy} {xs ys : List Value} {b : Bool}, eqFs P (eqSh P d) off fs = some ts → eqL ts (xs.drop off) (ys.drop off) = some b →
  (Op.eqFields D ⟨xs⟩ ⟨ys⟩ fs).run P w = .ok b w
 | [], off, ts, xs, ys, b, h, he => by
  simp only [eqFs, Option.some.injEq] at h; subst h
  obtain ⟨_, _, rfl⟩ := zXw_ he
  simp [Op.eqFields]
 | f :: fs, off, ts, xs, ys, b, h, he => by
  simp only [eqFs] at h
  split at h
  ·rename_i hn
   split at h
   ·rename_i ho
    split at h
    ·rename_i l hl
     split at h
     ·rename_i hz
      split at h
      ·rename_i r hr
       cases h
       obtain ⟨b1, b2, h1, h2, rfl⟩ := zVr_ he
       obtain ⟨u, v, q1, q2, q3⟩ := zcx_ ih hl hz hD h1 w
       rw [List.drop_drop, List.drop_drop] at h2
       have t2 := zNs_ ih hD w fs (off + l.length) hr h2
       simp only [Op.eqFields, hn, ne_eq, not_false_eq_true, if_true, Sem.run_bind, ho, q1, q2, Result.andThen_ok, q3]
       cases b1
       ·simp
       ·simp [t2]
      ·cases h
     ·cases h
    ·cases h
   ·cases h
  ·cases h
theorem zau_ {d : Nat} (ih : EqR P d) {D : Nat} (hD : d ≤ D) (w : World) {e : Nat} {l : List CTy} (hl : eqSh P d e = some l) (hz : szOf P e = some l.length) {xs ys : List Value} : ∀ (n k : Nat) {b : Bool},
  eqL (List.replicate n l).flatten (xs.drop (k * l.length)) (ys.drop (k * l.length)) = some b → (Op.eqItems D e l.length ⟨xs⟩ ⟨ys⟩ (List.range' k n)).run P w = .ok b w
 | 0, k, b, he => by
  simp only [List.replicate_zero, List.flatten_nil] at he
  obtain ⟨_, _, rfl⟩ := zXw_ he
  simp [Op.eqItems]
 | n + 1, k, b, he => by
  simp only [List.replicate_succ, List.flatten_cons] at he
  obtain ⟨b1, b2, h1, h2, rfl⟩ := zVr_ he
  obtain ⟨u, v, q1, q2, q3⟩ := zcx_ ih hl hz hD h1 w
  rw [List.drop_drop, List.drop_drop, ← Nat.succ_mul] at h2
  have t2 := zau_ ih hD w hl hz n (k + 1) h2
  simp only [List.range'_succ, Op.eqItems, Sem.run_bind, q1, q2, q3, Result.andThen_ok]
  cases b1
  ·simp
  ·simp [t2]
theorem zzr_ : ∀ d, EqR P d
 | 0 => by intro t ts h; simp [eqSh] at h
 | d + 1 => by
  intro t ts h ha D hD xs ys b he w
  obtain ⟨D, rfl⟩ : ∃ m, D = m + 1 := ⟨D - 1, by omega⟩
  have hD' : d ≤ D := by omega
  simp only [eqSh] at h
  unfold aggT at ha
  split at h
  ·rename_i k hu; simp [hu] at ha
  ·rename_i hu; simp [hu] at ha
  ·rename_i hu; simp [hu] at ha
  ·rename_i fs hu
   split at h
   ·rename_i hs
    have hf : P.fieldsOf t = fs := by simp [Program.fieldsOf, hu]
    rw [run_equalIn_struct w D t ⟨xs⟩ ⟨ys⟩ (by rw [hf]; exact hu) hs, hf]
    exact zNs_ (zzr_ d) hD' w fs.toList 0 h (by simpa using he)
   ·cases h
  ·rename_i n e hu
   split at h
   ·rename_i l hl
    split at h
    ·rename_i hz
     cases h
     obtain ⟨i, hi, hc⟩ : ∃ i, P.info? e = some i ∧ i.size = l.length := by
      unfold szOf at hz
      cases hi : P.info? e with
      | none => simp [hi] at hz
      | some i => exact ⟨i, rfl, by simpa [hi] using hz⟩
     have hcell : P.cellsOf e = l.length := by simp [Program.cellsOf, hi, hc]
     rw [run_equalIn_array w D ⟨xs⟩ ⟨ys⟩ hu hi, hcell, List.range_eq_range']
     exact zau_ (zzr_ d) hD' w hl hz n 0 (by simpa using he)
    ·cases h
   ·cases h
  ·cases h
def zfl_ : CTy → Bool
 | .i _ => true
 | .b => true
 | .s => true
 | _ => false
theorem zlj_ : ∀ {d t : Nat} {ts : List CTy}, eqSh P d t = some ts → ∀ c ∈ ts, zfl_ c = true
 | 0, _, _, h => by simp [eqSh] at h
 | d + 1, t, ts, h => by
  simp only [eqSh] at h
  split at h
  ·cases h; intro c hc; simp at hc; subst hc; rfl
  ·cases h; intro c hc; simp at hc; subst hc; rfl
  ·cases h; intro c hc; simp at hc; subst hc; rfl
  ·rename_i fs hu
   split at h
   ·have key : ∀ (fs : List Field) (off : Nat) {ts : List CTy}, eqFs P (eqSh P d) off fs = some ts → ∀ c ∈ ts, zfl_ c = true := by
     intro fs
     induction fs with
     | nil => intro off ts h; simp only [eqFs, Option.some.injEq] at h; subst h; intro c hc; cases hc
     | cons f fs ih =>
      intro off ts h
      simp only [eqFs] at h
      split at h
      ·split at h
       ·split at h
        ·rename_i l hl
         split at h
         ·split at h
          ·rename_i r hr
           cases h
           intro c hc
           rcases List.mem_append.1 hc with hc | hc
           ·exact zlj_ hl c hc
           ·exact ih _ hr c hc
          ·cases h
         ·cases h
        ·cases h
       ·cases h
      ·cases h
    exact key _ _ h
   ·cases h
  ·split at h
   ·rename_i l hl
    split at h
    ·cases h
     intro c hc
     obtain ⟨m, hm, hcm⟩ := List.mem_flatten.1 hc
     rw [List.mem_replicate] at hm
     rw [hm.2] at hcm
     exact zlj_ hl c hcm
    ·cases h
   ·cases h
  ·cases h
theorem zPp_ {t : TypeId} {ts : List CTy} (ht : zGr_ P t = some ts) : ∀ c ∈ ts, zfl_ c = true := by
 unfold zGr_ at ht
 split at ht
 ·split at ht
  ·exact zlj_ ht
  ·cases ht
 ·split at ht
  ·exact zlj_ ht
  ·cases ht
 ·cases ht
theorem zOC_ {μ : BMap} {c : CTy} (hc : zfl_ c = true) {v v' : Value} {x : c.T} (h : c.dec v = some x) (hv : VR μ v v') : v' = v := by
 cases c <;> simp [zfl_] at hc <;> simp only [CTy.dec] at h
 ·have := zPf_ h; subst this; cases hv; rfl
 ·have := zNf_ h; subst this; cases hv; rfl
 ·have := zOf_ h; subst this; cases hv; rfl
theorem zKh_ {μ : BMap} : ∀ {ts : List CTy} {l l' : List Value} {p : TupC ts}, (∀ c ∈ ts, zfl_ c = true) → decC ts l = some p → VRs μ l l' → decC ts l' = some p
 | [], [], l', p, _, h, hv => by rw [hv.nil_inv]; exact h
 | [], _ :: _, l', p, _, h, hv => by simp [decC] at h
 | t :: L, l, l', p, hc, h, hv => by
  obtain ⟨v, l1, rfl, a, y, ha, hy, _⟩ := zVn_ h
  obtain ⟨v', l1', rfl, h1, h2⟩ := hv.cons_inv
  have e1 := zOC_ (hc t (List.mem_cons_self ..)) ha h1
  subst e1
  have hy' := zKh_ (fun c h => hc c (List.mem_cons_of_mem _ h)) hy h2
  cases L with
  | nil =>
   cases l1 with
   | nil => rw [h2.nil_inv]; exact h
   | cons _ _ => simp [decC] at hy
  | cons u L =>
   simp only [decC, ha, hy] at h
   simp only [decC, ha, hy']
   exact h
theorem zLw_ (w : World) (t : TypeId) (xs ys : Array Value) : (binOp .eql t (.agg xs) (.agg ys)).run P w = ((Op.equalIn 10000 t (.agg xs) (.agg ys)).run P w).andThen fun b w' => .ok (.bool b) w' := by
 rw [run_eql_struct]
theorem zqw_ (w : World) (t : TypeId) (xs ys : Array Value) : (binOp .neq t (.agg xs) (.agg ys)).run P w = ((Op.equalIn 10000 t (.agg xs) (.agg ys)).run P w).andThen fun b w' => .ok (.bool (!b)) w' := by
 rw [run_neq_struct]
theorem zzv_ {op : BinOp} {t : TypeId} {x y : Operand} {neg : Bool} {ts : List CTy} {xs ys : Array Value} {p q : TupC ts} (hop : op = bif neg then .neq else .eql)
  (ht : zGr_ P t = some ts) (hp : decC ts xs.toList = some p) (hq : decC ts ys.toList = some q) (w : World) :
  (do eqGuard op t x y (.agg xs) (.agg ys); binOp op t (.agg xs) (.agg ys)).run P w = .ok (.bool (bif neg then !(eqC ts p q) else eqC ts p q)) w := by
 have hh : P.eqGuardType P.depth t = false ∧ eqSh P 6 t = some ts ∧ aggT P t = some true := by
  unfold zGr_ at ht
  split at ht
  ·rename_i hu
   split at ht
   ·exact ⟨by assumption, ht, by simp [aggT, hu]⟩
   ·cases ht
  ·rename_i hu
   split at ht
   ·exact ⟨by assumption, ht, by simp [aggT, hu]⟩
   ·cases ht
  ·cases ht
 obtain ⟨hg, hs, ha⟩ := hh
 have he : (Op.equalIn 10000 t (.agg xs) (.agg ys)).run P w = .ok (eqC ts p q) w := zzr_ 6 _ _ hs ha _ (by omega) _ _ _ (zWy_ hp hq) w
 simp only [Sem.run_bind, run_eqGuard_agg w op t x y xs ys hg, Result.andThen_ok]
 cases neg
 ·simp only [cond_false] at hop; subst hop
  rw [zLw_, he]; rfl
 ·simp only [cond_true] at hop; subst hop
  rw [zqw_, he]; rfl
theorem zyC_ {op : BinOp} {t : TypeId} {x y : Operand} {p q neg : Bool} (hop : op = bif neg then .neq else .eql)
  (ht : P.underlying t = some .bool) (w : World) :
  (do eqGuard op t x y (.bool p) (.bool q); binOp op t (.bool p) (.bool q)).run P w = .ok (.bool (bif neg then !(p == q) else (p == q))) w := by
 rw [eqGuard_at_bool]
 have hb' : binOp op t (.bool p) (.bool q) = (do let z ← Op.equal t (.bool p) (.bool q); pure (.bool (bif neg then !z else z))) := by
  cases neg <;> simp at hop <;> subst hop <;> simp [binOp]
 rw [hb']
 have he : (Op.equal t (.bool p) (.bool q)).run P w = .ok (p == q) w := zhc_ fun d => by simp [Op.equalIn, run_underlying ht]
 simp [he]
end
section
variable {G : Nat} {P : Program} {f : PFr}
theorem zHm_ {μ : BMap} {H : AHeap} {w : World} {a : Act} (s : Sim G μ H w) (fr : FR μ f a.tmps) : ∀ {l : List (Nat × Nat × Operand)} {ps : List (Nat × Nat × List Value)}, zei_ f l = some ps →
  opsG G (l.map (·.2.2)) = true → ps.length = l.length ∧ ∀ (i : Nat) o n x, l[i]? = some (o, n, x) → ∃ vs, ps[i]? = some (o, n, vs) ∧ VRs μ vs (a.eval x).cells.toList
 | [], ps, h, _ => by simp [zei_] at h; subst h; exact ⟨rfl, fun i o n x h => by simp at h⟩
 | (o, n, x) :: l, ps, h, hg => by
  simp only [List.map_cons, opsG, Bool.and_eq_true] at hg
  simp only [zei_] at h
  split at h
  ·rename_i v hv
   split at h
   ·rename_i t ht
    cases h
    obtain ⟨h1, h2⟩ := zHm_ s fr ht hg.2
    refine ⟨by simp [h1], fun i o' n' x' hi => ?_⟩
    cases i with
    | zero => simp at hi; obtain ⟨rfl, rfl, rfl⟩ := hi; exact ⟨_, rfl, (zy_ s fr hv hg.1).cells⟩
    | succ i => simp at hi; simpa using h2 i o' n' x' hi
   ·cases h
  ·cases h
theorem zKy_ (vs : List Value) : ∀ (cells : Array Value) (off k : Nat), off + k + vs.length ≤ cells.size →
  ((vs.zipIdx k).foldl (fun cs (p : Value × Nat) => cs.setIfInBounds (off + p.2) p.1) cells).toList = zx_ cells.toList (off + k) vs := by
 induction vs with
 | nil => intro cells off k _; simp [zx_]
 | cons v vs ih =>
  intro cells off k hle
  simp only [List.length_cons] at hle
  simp only [List.zipIdx_cons, List.foldl_cons]
  rw [ih _ off (k + 1) (by simp; omega)]
  have hlen : off + k < cells.toList.length := by simp; omega
  simp only [zx_, Array.toList_setIfInBounds, List.length_cons]
  rw [List.take_set, List.drop_set, show off + (k + 1) = off + k + 1 by omega, List.take_succ_eq_append_getElem hlen, if_pos (by omega)]
  have e2 : (List.take (off + k) cells.toList ++ [cells.toList[off + k]]).set (off + k) v = List.take (off + k) cells.toList ++ [v] := by
   rw [List.set_append_right _ _ (by simp; omega)]
   have : off + k - (List.take (off + k) cells.toList).length = 0 := by simp; omega
   rw [this]; rfl
  rw [e2, show off + k + 1 + vs.length = off + k + (vs.length + 1) by omega]
  simp
theorem zQn_ (a : Array Value) (cells : Array Value) (off : Nat) :
  (a.zipIdx.foldl (fun cs (p : Value × Nat) => cs.setIfInBounds (off + p.2) p.1) cells) = (a.toList.zipIdx 0).foldl (fun cs (p : Value × Nat) => cs.setIfInBounds (off + p.2) p.1) cells := by
 rw [← Array.foldl_toList]
 simp
theorem zop_ {μ : BMap} (place : Nat → Option (Nat × Nat)) : ∀ (ps : List (Nat × Value)) (rs : List (Nat × Nat × List Value)) (cs cs' : List Value) (out : List Value),
  rs.length = ps.length → (∀ (i : Nat) k v, ps[i]? = some (k, v) → ∃ o n vs, rs[i]? = some (o, n, vs) ∧ place k = some (o, n) ∧ VRs μ vs v.cells.toList) →
  VRs μ cs cs' → zbm_ cs rs = some out → ∃ out' : List Value, Instr.fill place ⟨cs'⟩ ps = some ⟨out'⟩ ∧ VRs μ out out'
 | [], rs, cs, cs', out, hl, _, hc, hf => by
  have : rs = [] := by cases rs <;> simp at hl ⊢
  subst this
  simp [zbm_] at hf; subst hf
  exact ⟨cs', rfl, hc⟩
 | (k, v) :: ps, rs, cs, cs', out, hl, hp, hc, hf => by
  cases rs with
  | nil => simp at hl
  | cons r0 rs =>
   obtain ⟨o, n, vs, h0, h1, h2⟩ := hp 0 k v rfl
   simp at h0; subst h0
   simp only [zbm_] at hf
   cases hb : (Nat.beq vs.length n && Nat.ble (o + n) cs.length)
   ·rw [hb] at hf; cases hf
   ·rw [hb] at hf
    simp only [Bool.and_eq_true] at hb
    have e1 : vs.length = n := Nat.eq_of_beq_eq_true hb.1
    have e2 : o + n ≤ cs.length := Nat.le_of_ble_eq_true hb.2
    have hlv : v.cells.size = n := by have := h2.1; simp at this; omega
    have hlc : cs'.length = cs.length := hc.1.symm
    have hsp : VRs μ (zx_ cs o vs) (zx_ cs' o v.cells.toList) := by
     refine ⟨by rw [zAb_ (by omega), zAb_ (by have := h2.1; omega), hlc], fun i x x' hx hx' => ?_⟩
     rw [zld_ (by omega)] at hx
     rw [zld_ (by have := h2.1; omega), ← h2.1] at hx'
     split at hx
     ·rename_i h; rw [if_pos h] at hx'; exact hc.2 i x x' hx hx'
     ·rename_i h
      rw [if_neg h] at hx'
      split at hx
      ·rename_i h; rw [if_pos h] at hx'; exact h2.2 _ x x' hx hx'
      ·rename_i h; rw [if_neg h] at hx'; exact hc.2 i x x' hx hx'
    obtain ⟨out', q1, q2⟩ := zop_ place ps rs (zx_ cs o vs) (zx_ cs' o v.cells.toList) out (by simpa using hl)
     (fun i k v hi => by simpa using hp (i + 1) k v (by simpa using hi)) hsp hf
    refine ⟨out', ?_, q2⟩
    simp only [Instr.fill, h1]
    rw [if_neg (by simp [hlv]; omega)]
    rw [← q1]
    congr 1
    apply Array.ext'
    rw [zQn_, zKy_ _ _ _ _ (by simp [hlv]; omega)]
    simp
theorem zmj_ {t : TypeId} {z : List Value} (h : zRc_ P t = some z) (w : World) : ∃ v, (zeroValue t).run P w = .ok v w ∧ v.cells = ⟨z⟩ ∧ zqb_ z = true := by
 unfold zRc_ at h
 cases hi : P.info? t with
 | none => simp [hi] at h
 | some i =>
  cases hz : i.zero with
  | none => simp [hi, hz] at h
  | some v =>
   simp only [hi, hz, Option.bind_some] at h
   split at h
   ·rename_i hp; cases h; exact ⟨v, by simp [zeroValue, typeInfo, hi, hz], rfl, hp⟩
   ·cases h
end
section
variable {G : Nat} {P : Program} {f : PFr} {R : Type} {κ : Value → Option R} {r : R}
theorem zIu_ {α β : Type} (g : α → Sem β) (h : α → β) (w : World) : ∀ (l : List α), (∀ x ∈ l, (g x).run P w = .ok (h x) w) → (l.mapM g).run P w = .ok (l.map h) w
 | [], _ => by simp
 | x :: l, hg => by
  have h1 := hg x (by simp)
  have h2 := zIu_ g h w l (fun y hy => hg y (by simp [hy]))
  simp [List.mapM_cons, h1, h2]
theorem zTs_ {α β : Type} (g : α → Sem β) (h : α → β) (w : World) (l : Array α) (hg : ∀ x ∈ l.toList, (g x).run P w = .ok (h x) w) : (l.mapM g).run P w = .ok (l.map h) w := by
 rw [Array.mapM_eq_mapM_toList]
 have := zIu_ (P := P) g h w l.toList hg
 simp only [Sem.run_map, this, Result.andThen_ok]
 congr 1
 apply Array.ext'
 simp
theorem zqs_ {fs : Array Field} : ∀ {l : List (Nat × Operand)} {ps : List (Nat × Nat × Operand)}, zIn_ P fs l = some ps →
  ps.length = l.length ∧ ∀ (i : Nat) k x, l[i]? = some (k, x) → ∃ o n, ps[i]? = some (o, n, x) ∧ ∃ fd, fs[k]? = some fd ∧ fd.offset = o ∧ szOf P fd.type = some n
 | [], ps, h => by simp [zIn_] at h; subst h; exact ⟨rfl, fun i k x h => by simp at h⟩
 | (k, x) :: l, ps, h => by
  simp only [zIn_] at h
  split at h
  ·rename_i fd hfd
   split at h
   ·rename_i s hs
    split at h
    ·rename_i t ht
     cases h
     obtain ⟨h1, h2⟩ := zqs_ ht
     refine ⟨by simp [h1], fun i k' x' hi => ?_⟩
     cases i with
     | zero => simp at hi; obtain ⟨rfl, rfl⟩ := hi; exact ⟨_, _, rfl, fd, hfd, rfl, hs⟩
     | succ i => simp at hi; simpa using h2 i k' x' hi
    ·cases h
   ·cases h
  ·cases h
theorem zTz_ {t : TypeId} {parts : Array (Nat × Operand)} {z : List Value} {ps : List (Nat × Nat × Operand)} {vs : List (Nat × Nat × List Value)} {out : List Value}
  (hz : zRc_ P t = some z) (hp : zmp_ P t parts.toList = some ps) (hg : opsG G (ps.map (·.2.2)) = true) (hv : zei_ f ps = some vs) (hf : zbm_ z vs = some out)
  {μ : BMap} {H : AHeap} {w : World} {a : Act} (s : Sim G μ H w) (fr : FR μ f a.tmps) :
  ∃ v', (Instr.build t (parts.map fun (i, x) => (i, a.eval x))).run P w = .ok v' w ∧ VR μ (.agg ⟨out⟩) v' := by
 obtain ⟨zv, hz1, hz2, hz3⟩ := zmj_ hz w
 obtain ⟨e1, e2⟩ := zHm_ s fr hv hg
 unfold zmp_ at hp
 cases hu : P.underlying t with
 | none => simp [hu] at hp
 | some d =>
  cases d <;> simp only [hu] at hp <;> try (cases hp; done)
  case array n e =>
   cases hs : szOf P e with
   | none => simp [hs] at hp
   | some sz =>
    simp [hs] at hp
    subst hp
    obtain ⟨out', q1, q2⟩ := zop_ (μ := μ) (fun i => some (i * sz, sz)) (parts.toList.map fun (i, x) => (i, a.eval x)) vs z z out (by simp [e1])
     (fun i k v hi => by
      simp at hi
      obtain ⟨k, x, hx, rfl, rfl⟩ := hi
      obtain ⟨us, h1, h2⟩ := e2 i (k * sz) sz x (by simp [hx])
      exact ⟨_, _, _, h1, rfl, h2⟩) (.of_plain hz3) hf
    refine ⟨.agg ⟨out'⟩, ?_, .agg_list q2⟩
    simp only [Instr.build, Sem.run_bind, hz1, Result.andThen_ok, run_underlying hu, run_sizeOf' hs, hz2]
    have : (parts.map fun (i, x) => (i, a.eval x)).toList = parts.toList.map fun (i, x) => (i, a.eval x) := by simp
    rw [this, q1]
    rfl
  case struct fs =>
   split at hp
   ·rename_i hall
    obtain ⟨l1, l2⟩ := zqs_ hp
    let pl : Array (Nat × Nat) := fs.map fun fd => (fd.offset, (szOf P fd.type).getD 0)
    have hplaces : ∀ w, (fs.mapM fun fd => (do pure (fd.offset, ← Go.sizeOf fd.type) : Sem (Nat × Nat))).run P w = .ok pl w := fun w =>
     zTs_ _ (fun fd => (fd.offset, (szOf P fd.type).getD 0)) w fs fun fd hfd => by
      have := List.all_eq_true.1 hall fd hfd
      obtain ⟨n, hn⟩ := Option.isSome_iff_exists.1 this
      simp [run_sizeOf' hn, hn]
    obtain ⟨out', q1, q2⟩ := zop_ (μ := μ) (fun i => pl[i]?) (parts.toList.map fun (i, x) => (i, a.eval x)) vs z z out (by simp [e1, l1])
     (fun i k v hi => by
      simp at hi
      obtain ⟨k, x, hx, rfl, rfl⟩ := hi
      obtain ⟨o, n, h1, fd, h2, h3, h4⟩ := l2 i k x (by simp [hx])
      obtain ⟨us, h5, h6⟩ := e2 i o n x h1
      exact ⟨_, _, _, h5, by simp [pl, h2, h3, h4], h6⟩) (.of_plain hz3) hf
    refine ⟨.agg ⟨out'⟩, ?_, .agg_list q2⟩
    simp only [Instr.build, Sem.run_bind, hz1, Result.andThen_ok, run_underlying hu, hz2]
    rw [hplaces w]
    have : (parts.map fun (i, x) => (i, a.eval x)).toList = parts.toList.map fun (i, x) => (i, a.eval x) := by simp
    simp only [Result.andThen_ok]
    rw [this, q1]
    rfl
   ·cases hp
theorem zyB_ {s t : ByteArray} {lo hi : Option Int} {lo' hi' : Option Value} (hl : (lo = none ∧ lo' = none) ∨ ∃ k m, lo = some m ∧ lo' = some (.int k m)) (hh : (hi = none ∧ hi' = none) ∨ ∃ k m, hi = some m ∧ hi' = some (.int k m))
  (h : subS s lo hi = some t) (w : World) : (Instr.sliceBounds false s.size s.size lo' hi' none).run P w = .ok ((lo.getD 0).toNat, (hi.getD s.size).toNat, s.size) w ∧ t = s.extract (lo.getD 0).toNat (hi.getD s.size).toNat := by
 unfold subS at h
 simp only at h
 split at h
 ·rename_i hc
  obtain ⟨c1, c2, c3, c4⟩ := hc
  cases h
  refine ⟨?_, rfl⟩
  rcases hl with ⟨rfl, rfl⟩ | ⟨k, m, rfl, rfl⟩ <;> rcases hh with ⟨rfl, rfl⟩ | ⟨k', m', rfl, rfl⟩ <;> simp at c1 c2 c3 c4 ⊢ <;> simp [Instr.sliceBounds, Instr.sliceBound, asIntOf] <;> (try rw [if_pos (by omega)]) <;> (try simp) <;> (try rw [if_pos (by omega)]) <;> (try simp) <;> (try omega)
 ·cases h
end
section
variable {G : Nat} {P : Program} {f : PFr} {R : Type} {κ : Value → Option R} {r : R}
def OB (x : Option Int) (v : Option Value) : Prop := (x = none ∧ v = none) ∨ ∃ k m, x = some m ∧ v = some (.int k m)
theorem zie_ {k : IntKind} {i : Int} {y : Nat} {code : BoundsCode} (h0 : 0 ≤ i) (h1 : i ≤ y) (w : World) : (Instr.sliceBound (.int k i) y code).run P w = .ok i.toNat w := by
 unfold Instr.sliceBound
 have h : (0 ≤ i ∧ i ≤ (y : Int)) := ⟨h0, h1⟩
 simp [asIntOf, h]
theorem zlr_ {b : Bool} {len cap : Nat} {lo hi mx : Option Int} {lo' hi' mx' : Option Value} (hl : OB lo lo') (hh : OB hi hi') (hm : OB mx mx') (hno : ¬ (mx.isSome = true ∧ hi.isNone = true))
  (c1 : 0 ≤ mx.getD cap) (c2 : mx.getD cap ≤ cap) (c3 : 0 ≤ hi.getD len) (c4 : hi.getD len ≤ mx.getD cap ∨ hi = none) (c5 : 0 ≤ lo.getD 0) (c6 : lo.getD 0 ≤ hi.getD len) (w : World) :
  (Instr.sliceBounds b len cap lo' hi' mx').run P w = .ok ((lo.getD 0).toNat, (hi.getD len).toNat, (mx.getD cap).toNat) w := by
 rcases hm with ⟨rfl, rfl⟩ | ⟨km, m, rfl, rfl⟩ <;> rcases hh with ⟨rfl, rfl⟩ | ⟨kh, h, rfl, rfl⟩ <;> rcases hl with ⟨rfl, rfl⟩ | ⟨kl, l, rfl, rfl⟩ <;>
  simp only [Option.getD_some, Option.getD_none, Option.isSome_some, Option.isNone_none, and_self, not_true_eq_false] at * <;> unfold Instr.sliceBounds
 ·simp
 ·have h1 := zie_ (P := P) (k := kl) (i := l) (y := len) (code := if false = true then BoundsCode.slice3C else .sliceB) c5 (by omega) w
  simp at h1; simp [h1]
 ·have h1 := zie_ (P := P) (k := kh) (i := h) (y := cap) (code := if b = true then .sliceAcap else .sliceAlen) c3 (by simp at c4; omega) w
  simp [h1]
 ·have h1 := zie_ (P := P) (k := kh) (i := h) (y := cap) (code := if b = true then .sliceAcap else .sliceAlen) c3 (by simp at c4; omega) w
  have h2 := zie_ (P := P) (k := kl) (i := l) (y := h.toNat) (code := .sliceB) c5 (by omega) w
  simp [h1, h2]
 ·have h0 := zie_ (P := P) (k := km) (i := m) (y := cap) (code := if b = true then .slice3Acap else .slice3Alen) c1 (by omega) w
  have h1 := zie_ (P := P) (k := kh) (i := h) (y := m.toNat) (code := .slice3B) c3 (by simp at c4; omega) w
  simp [h0, h1]
 ·have h0 := zie_ (P := P) (k := km) (i := m) (y := cap) (code := if b = true then .slice3Acap else .slice3Alen) c1 (by omega) w
  have h1 := zie_ (P := P) (k := kh) (i := h) (y := m.toNat) (code := .slice3B) c3 (by simp at c4; omega) w
  have h2 := zie_ (P := P) (k := kl) (i := l) (y := h.toNat) (code := .slice3C) c5 (by omega) w
  simp [h0, h1, h2]
theorem zCB_ {ty e sz : Nat} {a : Option Addr} {n c : Nat} {v' : Value} {lo hi mx : Option Int} {lo' hi' mx' : Option Value} {t : Slc} {μ : BMap}
  (hu : P.underlying ty = some (.slice e)) (hs : szOf P e = some sz) (hv : VR μ (.slice a n c) v') (hl : OB lo lo') (hh : OB hi hi') (hm : OB mx mx') (hno : ¬ (mx.isSome = true ∧ hi.isNone = true))
  (h : subL sz ⟨a, n, c⟩ lo hi mx = some t) (w : World) : ∃ t', (Instr.sliceAt ty v' lo' hi' mx').run P w = .ok t' w ∧ VR μ (.slice t.a t.len t.cap) t' := by
 unfold subL at h
 simp only at h
 split at h
 ·rename_i hc
  obtain ⟨c1, c2, c3, c4, c5, c6⟩ := hc
  have key : ∀ (a' : Option Addr) (c' : Nat), c ≤ c' → (Instr.sliceAt ty (.slice a' n c') lo' hi' mx').run P w =
    .ok (.slice (if (mx.getD c' : Int).toNat = (lo.getD 0).toNat then a' else a'.map (·.add ((lo.getD 0).toNat * sz))) ((hi.getD n).toNat - (lo.getD 0).toNat) ((mx.getD (c' : Int)).toNat - (lo.getD 0).toNat)) w := fun a' c' hcc => by
   have hb := zlr_ (P := P) (b := true) (len := n) (cap := c') hl hh hm hno (by cases mx <;> simp at * ; exact c1) (by cases mx <;> simp at *; omega) c3
    (.inl (by cases mx <;> simp at * <;> omega)) c5 c6 w
   simp [Instr.sliceAt, Instr.slice, run_underlying hu, run_sizeOf' hs, hb]
  cases hv with
  | nilSlice =>
   simp only at h
   cases h
   rw [key none 0 (Nat.le_refl _)]
   have e1 : (hi.getD ((0 : Nat) : Int)).toNat - (lo.getD 0).toNat = 0 := by cases mx <;> simp at * <;> omega
   have e2 : (mx.getD ((0 : Nat) : Int)).toNat - (lo.getD 0).toNat = 0 := by cases mx <;> simp at * <;> omega
   refine ⟨_, rfl, ?_⟩
   rw [e1, e2]
   split <;> exact .nilSlice
  | slice hb hcap =>
   rename_i b o cb d z m' sp
   simp only at h
   split at h
   ·rename_i hsp
    cases h
    have hle : c ≤ m' := by unfold zvk_ at hcap; split at hcap <;> omega
    rw [key _ m' hle]
    refine ⟨_, rfl, ?_⟩
    simp only
    cases mx with
    | some m =>
     simp only [Option.getD_some, Option.isSome_some, if_true] at *
     by_cases hml : m = lo.getD 0
     ·rw [if_pos hml, if_pos (by rw [hml])]
      have e1 : (hi.getD (n : Int) - lo.getD 0).toNat = 0 := by omega
      have e2 : (m - lo.getD 0).toNat = 0 := by omega
      have e3 : (hi.getD (n : Int)).toNat - (lo.getD 0).toNat = 0 := by omega
      have e4 : m.toNat - (lo.getD 0).toNat = 0 := by omega
      rw [e1, e2, e3, e4]
      exact .empty fun _ => rfl
     ·rw [if_neg hml, if_neg (by omega)]
      simp only [Option.map_some, Addr.add_lit]
      have e1 : (hi.getD (n : Int) - lo.getD 0).toNat = (hi.getD (n : Int)).toNat - (lo.getD 0).toNat := by omega
      have e2 : (m - lo.getD 0).toNat = m.toNat - (lo.getD 0).toNat := by omega
      rw [e1, e2, Nat.add_assoc]
      exact .slice hb rfl
    | none =>
     simp only [Option.getD_none, Option.isSome_none, Bool.false_eq_true, if_false] at *
     have e1 : (hi.getD (n : Int) - lo.getD 0).toNat = (hi.getD (n : Int)).toNat - (lo.getD 0).toNat := by omega
     have e2 : ((c : Int) - lo.getD 0).toNat = c - (lo.getD 0).toNat := by omega
     rw [e1, e2]
     by_cases hcl : (c : Int) = lo.getD 0
     ·rw [if_pos hcl]
      have e3 : (hi.getD (n : Int)).toNat - (lo.getD 0).toNat = 0 := by omega
      have e4 : c - (lo.getD 0).toNat = 0 := by omega
      rw [e3, e4]
      have : ∃ q, (if (m' : Int).toNat = (lo.getD 0).toNat then some (⟨cb, d + o, none⟩ : Addr) else Option.map (fun x => x.add ((lo.getD 0).toNat * sz)) (some (⟨cb, d + o, none⟩ : Addr))) = some q := by
       split <;> exact ⟨_, rfl⟩
      obtain ⟨q, hq⟩ := this
      rw [hq]
      refine .empty fun hsp' => ?_
      unfold zvk_ at hcap
      simp only at hsp'
      rcases hsp' with rfl | rfl <;> simp at hcap ⊢ <;> omega
     ·rw [if_neg hcl, if_neg (by omega)]
      simp only [Option.map_some, Addr.add_lit]
      rw [Nat.add_assoc]
      refine .slice hb ?_
      unfold zvk_ at hcap ⊢
      unfold spOk at hsp
      split at hcap
      ·rename_i s
       simp only at hsp
       have : s = sz := Nat.eq_of_beq_eq_true hsp
       subst this
       refine ⟨by omega, ?_⟩
       have hx : (lo.getD 0).toNat ≤ m' := by omega
       have : (↑m' : Int).toNat - (lo.getD 0).toNat = m' - (lo.getD 0).toNat := by omega
       rw [this]
       have h2 : d + (o + (lo.getD 0).toNat * s) + (m' - (lo.getD 0).toNat) * s = d + o + m' * s := by
        rw [Nat.sub_mul]
        have := Nat.mul_le_mul_right s hx
        omega
       omega
      ·omega
   ·cases h
  | empty hcap =>
   rename_i a0 a' m'
   simp only at h
   split at h
   ·rename_i hsp
    cases h
    rw [key _ m' (Nat.zero_le _)]
    refine ⟨_, rfl, ?_⟩
    simp only
    have e0 : hi.getD ((0 : Nat) : Int) = 0 := by cases mx <;> simp at * <;> omega
    have e1 : lo.getD 0 = 0 := by omega
    rw [e0, e1]
    have : ∃ q, (if (mx.getD (m' : Int)).toNat = (0 : Int).toNat then some a' else Option.map (fun x => x.add ((0 : Int).toNat * sz)) (some a')) = some q := by
     split <;> exact ⟨_, rfl⟩
    obtain ⟨q, hq⟩ := this
    rw [hq]
    cases mx with
    | some m =>
     simp at c1 c2 ⊢
     have : m = 0 := by omega
     subst this
     exact .empty fun _ => rfl
    | none =>
     simp
     refine .empty fun hsp' => ?_
     exact hcap hsp'
   ·cases h
 ·cases h
theorem zGB_ {ty e sz n : Nat} {ad : Addr} {v' : Value} {lo hi mx : Option Int} {lo' hi' mx' : Option Value} {t : Slc} {μ : BMap}
  (hu : P.underlying ty = some (.array n e)) (hs : szOf P e = some sz) (hv : VR μ (.pointer (some ad)) v') (hl : OB lo lo') (hh : OB hi hi') (hm : OB mx mx') (hno : ¬ (mx.isSome = true ∧ hi.isNone = true))
  (h : subA n sz ad lo hi mx = some t) (w : World) : ∃ t', (Instr.sliceAt ty v' lo' hi' mx').run P w = .ok t' w ∧ VR μ (.slice t.a t.len t.cap) t' := by
 unfold subA at h
 simp only at h
 split at h
 ·rename_i hc
  obtain ⟨c1, c2, c3, c4, c5, c6⟩ := hc
  cases h
  obtain ⟨b, o, c, d, z, rfl, rfl, hb⟩ := zDe_ hv
  have hbd := zlr_ (P := P) (b := false) (len := n) (cap := n) hl hh hm hno c1 c2 c3 (.inl c4) c5 c6 w
  simp only [Instr.sliceAt, Sem.run_bind, run_underlying hu, Result.andThen_ok, Instr.sureAddr, hbd, run_sizeOf' hs, Sem.run_pure]
  refine ⟨_, rfl, ?_⟩
  have e1 : (hi.getD (n : Int) - lo.getD 0).toNat = (hi.getD (n : Int)).toNat - (lo.getD 0).toNat := by omega
  have e2 : (mx.getD (n : Int) - lo.getD 0).toNat = (mx.getD (n : Int)).toNat - (lo.getD 0).toNat := by omega
  rw [e1, e2]
  by_cases hml : mx.getD (n : Int) = lo.getD 0
  ·rw [if_pos hml, if_pos (by rw [hml])]
   exact .slice hb rfl
  ·rw [if_neg hml, if_neg (by omega), Addr.add_lit, Nat.add_assoc]
   exact .slice hb rfl
 ·cases h
theorem zKC_ {sz : Nat} {a : Option Addr} {n c : Nat} {v' : Value} {i : Int} {p : Addr} {μ : BMap} {ty e : Nat} {k : IntKind}
  (hu : P.underlying ty = some (.slice e)) (hs : szOf P e = some sz) (hv : VR μ (.slice a n c) v') (h : idxL sz ⟨a, n, c⟩ i = some p) (w : World) :
  ∃ p', (Instr.indexAt ty v' (.int k i)).run P w = .ok p' w ∧ VR μ (.pointer (some p)) p' := by
 unfold idxL at h
 simp only at h
 split at h
 ·rename_i ad
  split at h
  ·rename_i hc
   cases h
   cases hv with
   | slice hb hcap =>
    refine ⟨_, ?_, .ptr hb⟩
    simp [Instr.indexAt, asIntOf, run_underlying hu, run_sizeOf' hs, hc, Addr.add_lit, Nat.add_assoc]
   | empty _ => omega
  ·cases h
 ·cases h
theorem zbD_ {sz : Nat} {ad : Addr} {n : Nat} {v' : Value} {i : Int} {p : Addr} {μ : BMap} {ty e : Nat} {k : IntKind}
  (hu : P.underlying ty = some (.array n e)) (hs : szOf P e = some sz) (hv : VR μ (.pointer (some ad)) v') (h : idxA n sz ad i = some p) (w : World) :
  ∃ p', (Instr.indexAt ty v' (.int k i)).run P w = .ok p' w ∧ VR μ (.pointer (some p)) p' := by
 unfold idxA at h
 split at h
 ·rename_i hc
  cases h
  obtain ⟨b, o, c, d, z, rfl, rfl, hb⟩ := zDe_ hv
  refine ⟨_, ?_, .ptr hb⟩
  simp [Instr.indexAt, asIntOf, run_underlying hu, run_sizeOf' hs, hc, Addr.add_lit, Nat.add_assoc, Instr.sureAddr]
 ·cases h
end
section
variable {G : Nat} {P : Program} {f : PFr} {R : Type} {κ : Value → Option R} {r : R}
theorem evIs {R : Type} {x : Option Operand} {κ : Option Int → Option R} {r : R} (h : evI f x κ = some r) :
  ∃ n, κ n = some r ∧ ∀ {G : Nat} {μ : BMap} {H : AHeap} {w : World} {a : Act}, Sim G μ H w → FR μ f a.tmps → opOG G x = true → OB n (x.map a.eval) := by
 cases x with
 | none => exact ⟨none, h, fun _ _ _ => .inl ⟨rfl, rfl⟩⟩
 | some x =>
  simp only [evI] at h
  split at h
  ·rename_i k n hx; exact ⟨some n, h, fun s fr hg => .inr ⟨k, n, rfl, by simp [zfd_ s fr hx hg]⟩⟩
  ·cases h
theorem zCt_ {k : NK} {y : Operand} (h : zBm_ k y = true) : y = .const (zaf_ k) := by
 unfold zBm_ at h
 split at h <;> split at h <;> first | rfl | cases h
theorem zZq_ {μ : BMap} {k : IntKind} {w : World} : ∀ {vs l : List Value} {a m : Int}, zoo_ a vs = some m → VRs μ vs l → (l.foldlM Builtin.min2 (.int k a)).run P w = .ok (.int k m) w
 | [], l, a, m, h, hv => by
  have := hv.nil_inv; subst this
  simp [zoo_] at h; subst h; rfl
 | v :: vs, l, a, m, h, hv => by
  obtain ⟨v', t, rfl, h1, h2⟩ := hv.cons_inv
  unfold zoo_ at h
  split at h
  ·rename_i e; cases e
  ·rename_i k' b l0 e
   cases e
   have := zhl_ h1; subst this
   simp only [List.foldlM_cons, Sem.run_bind, Builtin.min2, Sem.run_pure, Result.andThen_ok]
   exact zZq_ h h2
  ·cases h
theorem zVk_ {o : Oper} {ro : POp} (hr : zVx_ P G o = some ro) (h : zdb_ ro f κ = some r) : ∃ v, κ v = some r ∧ PS P G o f v := by
 obtain ⟨dst, op, type, pos, after, guard⟩ := o
 cases op <;> simp only [zVx_] at hr
 case move x =>
  obtain ⟨hg, rfl⟩ := zr_ hr
  simp only [zdb_, Option.bind_eq_some_iff] at h
  obtain ⟨v, hv, hk⟩ := h
  exact ⟨v, hk, fun μ H w a s fr => ⟨_, rfl, zy_ s fr hv hg⟩⟩
 case assign x =>
  obtain ⟨hg, rfl⟩ := zr_ hr
  simp only [zdb_, Option.bind_eq_some_iff] at h
  obtain ⟨v, hv, hk⟩ := h
  exact ⟨v, hk, fun μ H w a s fr => ⟨_, rfl, zy_ s fr hv hg⟩⟩
 case pick c x y =>
  obtain ⟨hg, rfl⟩ := zr_ hr
  simp only [Bool.and_eq_true] at hg
  simp only [zdb_] at h
  split at h
  ·rename_i t ht
   split at h
   ·rename_i hb; subst hb
    simp only [Option.bind_eq_some_iff] at h
    obtain ⟨v, hv, hk⟩ := h
    exact ⟨v, hk, fun μ H w a s fr => ⟨_, by simp [execOp, zAl_ s fr ht hg.1.1, asBool], zy_ s fr hv hg.1.2⟩⟩
   ·rename_i hb
    simp only [Bool.not_eq_true] at hb; subst hb
    simp only [Option.bind_eq_some_iff] at h
    obtain ⟨v, hv, hk⟩ := h
    exact ⟨v, hk, fun μ H w a s fr => ⟨_, by simp [execOp, zAl_ s fr ht hg.1.1, asBool], zy_ s fr hv hg.2⟩⟩
  ·cases h
 case nilCheck x =>
  obtain ⟨hg, rfl⟩ := zr_ hr
  simp only [zdb_, Option.bind_eq_some_iff] at h
  obtain ⟨v, hv, hk⟩ := h
  unfold nilK at hk
  split at hk
  ·rename_i p
   simp only [Option.bind_eq_some_iff] at hk
   obtain ⟨ad, rfl, hk⟩ := hk
   refine ⟨_, hk, fun μ H w a s fr => ?_⟩
   have hv := zy_ s fr hv hg
   obtain ⟨b, o, c, d, z, rfl, he, hm⟩ := zDe_ hv
   exact ⟨a.eval x, by simp [execOp, he], hv⟩
  ·simp only [Option.bind_eq_some_iff] at hk
   obtain ⟨b, hb, hk⟩ := hk
   split at hk
   ·cases hk
   ·rename_i hbt
    simp only [Bool.not_eq_true] at hbt; subst hbt
    refine ⟨_, hk, fun μ H w a s fr => ?_⟩
    have hv' := zy_ s fr hv hg
    refine ⟨a.eval x, ?_, hv'⟩
    unfold zoA_ at hb
    split at hb <;> simp at hb
    generalize he : a.eval x = u at hv'
    cases hv' with
    | func h0 h1 h2 h3 h4 =>
     cases h0.1
     simp [execOp, he]
 case binOp bop t x y yt =>
  have binc : chk (opG G x && opG G y) (POp.bin bop x y) = some ro → ∃ v, κ v = some r ∧ PS P G ⟨dst, .binOp bop t x y yt, type, pos, after, guard⟩ f v := by
   intro hr
   obtain ⟨hg, rfl⟩ := zr_ hr
   simp only [Bool.and_eq_true] at hg
   simp only [zdb_, Option.bind_eq_some_iff] at h
   obtain ⟨u, hu, v, hv, hk⟩ := h
   obtain ⟨z, h1, h2, h3, h4, h5⟩ := zLC_ (P := P) (t := t) hk
   refine ⟨z, h1, fun μ H w a s fr => ⟨z, ?_, h2 μ⟩⟩
   have ex : a.eval x = u := by
    have := zy_ s fr hu hg.1
    generalize a.eval x = u' at this
    rcases h3 with ⟨_, _, rfl⟩ | ⟨_, rfl⟩ <;> cases this <;> rfl
   have ey : a.eval y = v := by
    have := zy_ s fr hv hg.2
    generalize a.eval y = u' at this
    rcases h4 with ⟨_, _, rfl⟩ | ⟨_, rfl⟩ <;> cases this <;> rfl
   simp [execOp, ex, ey, zEw_ h3, h5 w]
  have lift : ∀ {u v z : Value} {w : World}, (do eqGuard bop t x y u v; binOp bop t u v).run P w = .ok z w → ∀ {a : Act}, a.eval x = u → a.eval y = v →
    (execOp a.eval ⟨dst, .binOp bop t x y yt, type, pos, after, guard⟩).run P w = .ok (.value z) w := by
   intro u v z w hrun a ex ey
   simp only [execOp, Sem.run_bind, ex, ey] at hrun ⊢
   cases hq : Sem.run P (eqGuard bop t x y u v) w with
   | ok q w' => rw [hq] at hrun; simp at hrun ⊢; rw [hrun]; simp
   | halt q w' => rw [hq] at hrun; simp at hrun
  have rest : ∀ d, P.underlying t = some d → ((zYo_ bop).bind fun neg => (nkOf d).bind fun k =>
   if zBm_ k y then chk (opG G x) (POp.isNil k neg x) else
    match d with
    | .pointer e => if (szOf P e).getD 0 = 0 then none else chk (opG G x && opG G y) (POp.eqPtr neg x y)
    | _ => none) = some ro → ∃ v, κ v = some r ∧ PS P G ⟨dst, .binOp bop t x y yt, type, pos, after, guard⟩ f v := by
   intro d hd hr
   simp only [Option.bind_eq_some_iff] at hr
   obtain ⟨neg, hneg, k, hk, hr⟩ := hr
   have hop := zhj_ hneg
   split at hr
   ·rename_i hn
    obtain ⟨hg, rfl⟩ := zr_ hr
    simp only [zdb_, Option.bind_eq_some_iff] at h
    obtain ⟨v, hv, b, hb, hk'⟩ := h
    have hy := zCt_ hn
    refine ⟨_, hk', fun μ H w a s fr => ⟨_, lift (zxz_ (P := P) (x := x) (y := y) hop hy hd hk (zRA_ (zy_ s fr hv hg) hb) w) rfl (by rw [hy]; rfl), .bool _⟩⟩
   ·split at hr
    ·rename_i e
     split at hr
     ·cases hr
     ·rename_i hsz
      obtain ⟨hg, rfl⟩ := zr_ hr
      simp only [Bool.and_eq_true] at hg
      simp only [zdb_] at h
      split at h
      ·rename_i p q hp hq
       simp only [Option.bind_eq_some_iff] at h
       obtain ⟨b, hb, hk'⟩ := h
       exact ⟨_, hk', fun μ H w a s fr => ⟨_, lift (zZy_ (P := P) (x := x) (y := y) hop hd hsz (zy_ s fr hp hg.1) (zy_ s fr hq hg.2) hb w) rfl rfl, .bool _⟩⟩
      ·cases h
    ·cases hr
  split at hr
  ·exact binc hr
  ·exact binc hr
  ·rename_i hu
   simp only [Option.bind_eq_some_iff] at hr
   obtain ⟨neg, hneg, hr⟩ := hr
   have hop := zhj_ hneg
   obtain ⟨hg, rfl⟩ := zr_ hr
   simp only [Bool.and_eq_true] at hg
   simp only [zdb_] at h
   split at h
   ·rename_i p q hp hq
    exact ⟨_, h, fun μ H w a s fr => ⟨_, lift (zyC_ (P := P) (x := x) (y := y) hop hu w) (zAl_ s fr hp hg.1) (zAl_ s fr hq hg.2), .bool _⟩⟩
   ·cases h
  ·rename_i fs hu
   simp only [Option.bind_eq_some_iff] at hr
   obtain ⟨neg, hneg, ts, hts, hr⟩ := hr
   have hop := zhj_ hneg
   obtain ⟨hg, rfl⟩ := zr_ hr
   simp only [Bool.and_eq_true] at hg
   simp only [zdb_] at h
   split at h
   ·rename_i xs ys hx hy
    simp only [Option.bind_eq_some_iff] at h
    obtain ⟨p, hp, q, hq, h⟩ := h
    have hsh := zPp_ hts
    refine ⟨_, h, fun μ H w a s fr => ?_⟩
    obtain ⟨xs', ex, vx⟩ := (zy_ s fr hx hg.1).agg_inv
    obtain ⟨ys', ey, vy⟩ := (zy_ s fr hy hg.2).agg_inv
    have hp' := zKh_ hsh hp vx
    have hq' := zKh_ hsh hq vy
    exact ⟨_, lift (zzv_ (P := P) (x := x) (y := y) hop hts hp' hq' w) ex ey, .bool _⟩
   ·cases h
  ·rename_i n e hu
   simp only [Option.bind_eq_some_iff] at hr
   obtain ⟨neg, hneg, ts, hts, hr⟩ := hr
   have hop := zhj_ hneg
   obtain ⟨hg, rfl⟩ := zr_ hr
   simp only [Bool.and_eq_true] at hg
   simp only [zdb_] at h
   split at h
   ·rename_i xs ys hx hy
    simp only [Option.bind_eq_some_iff] at h
    obtain ⟨p, hp, q, hq, h⟩ := h
    have hsh := zPp_ hts
    refine ⟨_, h, fun μ H w a s fr => ?_⟩
    obtain ⟨xs', ex, vx⟩ := (zy_ s fr hx hg.1).agg_inv
    obtain ⟨ys', ey, vy⟩ := (zy_ s fr hy hg.2).agg_inv
    have hp' := zKh_ hsh hp vx
    have hq' := zKh_ hsh hq vy
    exact ⟨_, lift (zzv_ (P := P) (x := x) (y := y) hop hts hp' hq' w) ex ey, .bool _⟩
   ·cases h
  ·rename_i d _ _ _ _ _ hd; exact rest d hd hr
  ·cases hr
 case unOp uop t x =>
  obtain ⟨hg, rfl⟩ := zr_ hr
  simp only [zdb_] at h
  split at h
  ·rename_i k n hx
   exact ⟨_, h, fun μ H w a s fr => ⟨_, by simp [execOp, zfd_ s fr hx hg, Op.unary, Op.intArith], .int _ _⟩⟩
  ·rename_i k n hx
   refine ⟨_, h, fun μ H w a s fr => ⟨_, ?_, .int _ _⟩⟩
   cases hk : k.signed <;> simp [execOp, zfd_ s fr hx hg, Op.unary, hk, intBits_xor]
  ·rename_i b hx
   exact ⟨_, h, fun μ H w a s fr => ⟨_, by simp [execOp, zAl_ s fr hx hg, Op.unary], .bool _⟩⟩
  ·cases h
 case convert src dst x =>
  split at hr
  ·rename_i k1 k hu1 hu2
   obtain ⟨hg, rfl⟩ := zr_ hr
   simp only [zdb_] at h
   split at h
   ·rename_i k' n hx
    exact ⟨_, h, fun μ H w a s fr => ⟨_, by simp [execOp, zfd_ s fr hx hg, convert, run_underlying hu1, run_underlying hu2, Conv.intToInt], .int _ _⟩⟩
   ·cases h
  ·rename_i hu1 hu2
   obtain ⟨hg, rfl⟩ := zr_ hr
   simp only [zdb_] at h
   split at h
   ·rename_i b hx
    exact ⟨_, h, fun μ H w a s fr => ⟨_, by simp [execOp, zqh_ s fr hx hg, convert, run_underlying hu1, run_underlying hu2], .str _⟩⟩
   ·cases h
  ·cases hr
 case makeInterface t x =>
  split at hr
  ·rename_i hc
   obtain ⟨hg, rfl⟩ := zr_ hr
   simp only [zdb_, Option.bind_eq_some_iff] at h
   obtain ⟨v, hv, hk⟩ := h
   exact ⟨_, hk, fun μ H w a s fr => ⟨_, by simp [execOp, run_makeInterface _ _ _ hc], .iface (zy_ s fr hv hg)⟩⟩
  ·cases hr
 case makeFunc fn first capt =>
  cases fn <;> simp only at hr <;> try (cases hr; done)
  rename_i g
  obtain ⟨hg, rfl⟩ := zr_ hr
  simp only [Bool.and_eq_true] at hg
  obtain ⟨hg, hgl⟩ := hg
  simp only [zdb_, Option.bind_eq_some_iff] at h
  obtain ⟨v1, hv1, v2, hv2, hk⟩ := h
  refine ⟨_, hk, fun μ H w a s fr => ⟨_, by simp [execOp, Instr.makeFunc]; rfl, ?_⟩⟩
  have h1 := znl_ s fr hv1 hg.1
  have h2 := znl_ s fr hv2 hg.2
  refine .func ⟨rfl, Nat.lt_of_le_of_lt (Nat.le_of_ble_eq_true hgl) (by decide)⟩ (by simpa using h1.1) (by simpa using h2.1) (fun i v v' a b => h1.2 i v v' (by simpa using a) (by simpa using b)) (fun i v v' a b => h2.2 i v v' (by simpa using a) (by simpa using b))
 case build t parts =>
  cases hz : zRc_ P t with
  | none => simp [hz] at hr
  | some z =>
   cases hp : zmp_ P t parts.toList with
   | none => simp [hz, hp] at hr
   | some ps =>
    simp [hz, hp] at hr
    obtain ⟨hg, rfl⟩ := zr_ hr
    simp only [zdb_, Option.bind_eq_some_iff] at h
    obtain ⟨vs, hv, out, hf, hk⟩ := h
    refine ⟨_, hk, fun μ H w a s fr => ?_⟩
    obtain ⟨v', h1, h2⟩ := zTz_ hz hp hg hv hf s fr
    exact ⟨v', by simp [execOp, h1], h2⟩
 case slice t x lo hi mx =>
  split at hr
  ·rename_i hu
   split at hr
   ·rename_i hmx
    obtain ⟨hg, rfl⟩ := zr_ hr
    simp only [Bool.and_eq_true] at hg
    simp only [zdb_] at h
    split at h
    ·rename_i b hx
     obtain ⟨l, h, hl⟩ := evIs h
     obtain ⟨hi', h, hh⟩ := evIs h
     simp only [Option.bind_eq_some_iff] at h
     obtain ⟨tt, ht, hk⟩ := h
     refine ⟨_, hk, fun μ H w a s fr => ⟨_, ?_, .str _⟩⟩
     obtain ⟨h1, rfl⟩ := zyB_ (P := P) (hl (G := G) s fr hg.1.2) (hh (G := G) s fr hg.2) ht w
     have hm : mx = none := by simpa using hmx
     simp [execOp, zqh_ s fr hx hg.1.1, Instr.sliceAt, Instr.slice, run_underlying hu, hm, h1]
    ·cases h
   ·cases hr
  ·rename_i e hu
   cases hs : szOf P e with
   | none => simp [hs] at hr
   | some sz =>
    simp only [hs, Option.bind_some] at hr
    split at hr
    ·cases hr
    ·rename_i hno
     obtain ⟨hg, rfl⟩ := zr_ hr
     simp only [Bool.and_eq_true] at hg hno
     simp only [zdb_] at h
     split at h
     ·rename_i a0 n0 c0 hx
      obtain ⟨l, h, hl⟩ := evIs h
      obtain ⟨hi', h, hh⟩ := evIs h
      obtain ⟨m', h, hm⟩ := evIs h
      simp only [Option.bind_eq_some_iff] at h
      obtain ⟨tt, ht, hk⟩ := h
      refine ⟨_, hk, fun μ H w a s fr => ?_⟩
      have om := hm (G := G) s fr hg.2
      have oh := hh (G := G) s fr hg.1.2
      obtain ⟨t', h1, h2⟩ := zCB_ (P := P) hu hs (zy_ s fr hx hg.1.1.1) (hl (G := G) s fr hg.1.1.2) oh om (by
       rintro ⟨q1, q2⟩
       rcases om with ⟨rfl, e1⟩ | ⟨_, _, rfl, e1⟩ <;> rcases oh with ⟨rfl, e2⟩ | ⟨_, _, rfl, e2⟩ <;> simp at q1 q2
       cases mx <;> simp at e1; cases hi <;> simp at e2; simp at hno) ht w
      exact ⟨t', by simp [execOp, h1], h2⟩
     ·cases h
  ·rename_i n e hu
   cases hs : szOf P e with
   | none => simp [hs] at hr
   | some sz =>
    simp only [hs, Option.bind_some] at hr
    split at hr
    ·cases hr
    ·rename_i hno
     obtain ⟨hg, rfl⟩ := zr_ hr
     simp only [Bool.and_eq_true] at hg hno
     simp only [zdb_] at h
     split at h
     ·rename_i p hx
      simp only [Option.bind_eq_some_iff] at h
      obtain ⟨ad, rfl, h⟩ := h
      obtain ⟨l, h, hl⟩ := evIs h
      obtain ⟨hi', h, hh⟩ := evIs h
      obtain ⟨m', h, hm⟩ := evIs h
      simp only [Option.bind_eq_some_iff] at h
      obtain ⟨tt, ht, hk⟩ := h
      refine ⟨_, hk, fun μ H w a s fr => ?_⟩
      have om := hm (G := G) s fr hg.2
      have oh := hh (G := G) s fr hg.1.2
      obtain ⟨t', h1, h2⟩ := zGB_ (P := P) hu hs (zy_ s fr hx hg.1.1.1) (hl (G := G) s fr hg.1.1.2) oh om (by
       rintro ⟨q1, q2⟩
       rcases om with ⟨rfl, e1⟩ | ⟨_, _, rfl, e1⟩ <;> rcases oh with ⟨rfl, e2⟩ | ⟨_, _, rfl, e2⟩ <;> simp at q1 q2
       cases mx <;> simp at e1; cases hi <;> simp at e2; simp at hno) ht w
      exact ⟨t', by simp [execOp, h1], h2⟩
     ·cases h
  ·cases hr
 case fieldAddr st x i =>
  split at hr
  ·rename_i fs hu
   cases hfd : fs[i]? with
   | none => simp [hfd] at hr
   | some fd =>
    simp only [hfd, Option.bind_some] at hr
    split at hr
    ·cases hr
    ·rename_i hsz
     obtain ⟨hg, rfl⟩ := zr_ hr
     obtain ⟨sz, hs⟩ : ∃ n, szOf P fd.type = some n := by cases h : szOf P fd.type <;> simp [h] at hsz; exact ⟨_, rfl⟩
     rw [hs] at hsz; simp at hsz
     simp only [zdb_] at h
     split at h
     ·rename_i p hp
      simp only [Option.bind_eq_some_iff] at h
      obtain ⟨ad, rfl, hk⟩ := h
      refine ⟨_, hk, fun μ H w a s fr => ?_⟩
      obtain ⟨b, o, c, d, z, rfl, he, hm⟩ := zDe_ (zy_ s fr hp hg)
      refine ⟨_, ?_, .ptr hm⟩
      simp [execOp, he, Instr.fieldAt, run_underlying hu, hfd, Instr.sureAddr, fieldPlace, run_sizeOf' hs, hsz, Addr.add_lit, Nat.add_assoc]
     ·cases h
  ·cases hr
 case field t x i =>
  split at hr
  ·rename_i fs hu
   cases hfd : fs[i]? with
   | none => simp [hfd] at hr
   | some fd =>
    simp only [hfd, Option.bind_some] at hr
    cases hT : zZe_ P fd.type with
    | none => simp [hT] at hr
    | some T =>
     simp only [hT, Option.bind_some] at hr
     obtain ⟨hg, rfl⟩ := zr_ hr
     simp only [zdb_] at h
     split at h
     ·rename_i cs hx
      have fin : ∀ {v : Value}, (∀ (μ : BMap) (cs' : Array Value), VRs μ cs.toList cs'.toList → ∀ w, ∃ v', (part fd.type cs' fd.offset).run P w = .ok v' w ∧ VR μ v v') → PS P G ⟨dst, .field t x i, type, pos, after, guard⟩ f v := by
       intro v hv μ H w a s fr
       obtain ⟨x', he, hvs⟩ := (zy_ s fr hx hg).agg_inv
       obtain ⟨v', h1, h2⟩ := hv μ x' hvs w
       exact ⟨v', by simp [execOp, he, Instr.field, run_underlying hu, hfd, asAgg, h1], h2⟩
      cases T
      case st ts => exact (zLm_ hT).elim
      case agg n =>
       simp only at h
       cases hb : Nat.ble (fd.offset + n) cs.toList.length
       ·rw [hb] at h; cases h
       ·rw [hb] at h
        exact ⟨_, h, fin fun μ cs' hc w => (zKm_ hT hc w).1 n rfl (Nat.le_of_ble_eq_true hb)⟩
      all_goals
       simp only [Option.bind_eq_some_iff] at h
       obtain ⟨v, hv, hk⟩ := h
       exact ⟨v, zJc_ hk, fin fun μ cs' hc w => (zKm_ hT hc w).2 (fun n e => by cases e) v hv⟩
     ·cases h
  ·cases hr
 case indexAddr t x i =>
  split at hr
  ·rename_i e hu
   cases hs : szOf P e with
   | none => simp [hs] at hr
   | some sz =>
    simp only [hs, Option.bind_some] at hr
    obtain ⟨hg, rfl⟩ := zr_ hr
    simp only [Bool.and_eq_true] at hg
    simp only [zdb_] at h
    split at h
    ·rename_i a0 n c k j hx hi
     simp only [Option.bind_eq_some_iff] at h
     obtain ⟨p, hp, hk⟩ := h
     refine ⟨_, hk, fun μ H w a s fr => ?_⟩
     obtain ⟨p', h1, h2⟩ := zKC_ (k := k) hu hs (zy_ s fr hx hg.1) hp w
     exact ⟨p', by simp [execOp, zfd_ s fr hi hg.2, h1], h2⟩
    ·cases h
  ·rename_i n e hu
   cases hs : szOf P e with
   | none => simp [hs] at hr
   | some sz =>
    simp only [hs, Option.bind_some] at hr
    obtain ⟨hg, rfl⟩ := zr_ hr
    simp only [Bool.and_eq_true] at hg
    simp only [zdb_] at h
    split at h
    ·rename_i q k j hx hi
     simp only [Option.bind_eq_some_iff] at h
     obtain ⟨ad, rfl, p, hp, hk⟩ := h
     refine ⟨_, hk, fun μ H w a s fr => ?_⟩
     obtain ⟨p', h1, h2⟩ := zbD_ (k := k) hu hs (zy_ s fr hx hg.1) hp w
     exact ⟨p', by simp [execOp, zfd_ s fr hi hg.2, h1], h2⟩
    ·cases h
  ·cases hr
 case index t x i =>
  split at hr
  ·rename_i hu
   obtain ⟨hg, rfl⟩ := zr_ hr
   simp only [Bool.and_eq_true] at hg
   simp only [zdb_] at h
   split at h
   ·rename_i b k j hx hi
    simp only [Option.bind_eq_some_iff] at h
    obtain ⟨n, hn, hk⟩ := h
    refine ⟨_, hk, fun μ H w a s fr => ⟨_, ?_, .int _ _⟩⟩
    unfold Gx.idxS at hn
    split at hn
    ·rename_i hj
     cases hb : b[j.toNat]? with
     | none => simp [hb] at hn
     | some y =>
      simp [hb] at hn; subst hn
      simp [execOp, zqh_ s fr hx hg.1, zfd_ s fr hi hg.2, Instr.index, asIntOf, run_underlying hu, hj, hb]
    ·cases hn
   ·cases h
  ·rename_i n e hu
   cases hs : szOf P e with
   | none => simp [hs] at hr
   | some sz =>
    simp only [hs, Option.bind_some] at hr
    cases hT : zZe_ P e with
    | none => simp [hT] at hr
    | some T =>
     simp only [hT, Option.bind_some] at hr
     obtain ⟨hg, rfl⟩ := zr_ hr
     simp only [Bool.and_eq_true] at hg
     simp only [zdb_] at h
     split at h
     ·rename_i cs k j hx hi
      split at h
      ·rename_i hj
       have fin : ∀ {v : Value}, (∀ (μ : BMap) (cs' : Array Value), VRs μ cs.toList cs'.toList → ∀ w, ∃ v', (part e cs' (j.toNat * sz)).run P w = .ok v' w ∧ VR μ v v') → PS P G ⟨dst, .index t x i, type, pos, after, guard⟩ f v := by
        intro v hv μ H w a s fr
        obtain ⟨x', he, hvs⟩ := (zy_ s fr hx hg.1).agg_inv
        obtain ⟨v', h1, h2⟩ := hv μ x' hvs w
        exact ⟨v', by simp [execOp, he, zfd_ s fr hi hg.2, Instr.index, asIntOf, run_underlying hu, hj, run_sizeOf' hs, h1], h2⟩
       cases T
       case st ts => exact (zLm_ hT).elim
       case agg m =>
        simp only at h
        split at h
        ·rename_i hle
         exact ⟨_, h, fin fun μ cs' hc w => (zKm_ hT hc w).1 m rfl hle⟩
        ·cases h
       all_goals
        simp only [Option.bind_eq_some_iff] at h
        obtain ⟨v, hv, hk⟩ := h
        exact ⟨v, zJc_ hk, fin fun μ cs' hc w => (zKm_ hT hc w).2 (fun n e => by cases e) v hv⟩
      ·cases h
     ·cases h
  ·cases hr
 case extract x i =>
  obtain ⟨hg, rfl⟩ := zr_ hr
  simp only [zdb_] at h
  split at h
  ·rename_i vs hx
   simp only [Option.bind_eq_some_iff] at h
   obtain ⟨v, hv, hk⟩ := h
   refine ⟨v, hk, fun μ H w a s fr => ?_⟩
   obtain ⟨x', he, hvs⟩ := (zy_ s fr hx hg).tuple_inv
   obtain ⟨v', h1, h2⟩ := hvs.get hv
   have h1' : x'[i]? = some v' := by simpa using h1
   exact ⟨v', by simp [execOp, he, Instr.extract, h1'], h2⟩
  ·cases h
 case call c =>
  obtain ⟨callee, args, argTypes⟩ := c
  have one : ∀ {x : Operand} {a : Act}, args.toList = [x] → args.map a.eval = #[a.eval x] := fun {x a} e => by
   have : args = #[x] := by apply Array.ext'; simpa using e
   subst this; simp
  have two : ∀ {x y : Operand} {a : Act}, args.toList = [x, y] → args.map a.eval = #[a.eval x, a.eval y] := fun {x y a} e => by
   have : args = #[x, y] := by apply Array.ext'; simpa using e
   subst this; simp
  have ty : ∀ {d : TypeDesc}, (argTypes[0]?).bind P.underlying = some d → ∃ t, argTypes[0]? = some t ∧ P.underlying t = some d := fun {d} e => by
   simpa [Option.bind_eq_some_iff] using e
  unfold zax_ at hr
  cases callee <;> simp only at hr <;> try (cases hr; done)
  rename_i b
  cases b <;> (try simp only at hr) <;> try (cases hr; done)
  ·split at hr
   ·rename_i x e hx hu
    obtain ⟨hg, rfl⟩ := zr_ hr
    obtain ⟨t, h1, h2⟩ := ty hu
    simp only [zdb_] at h
    split at h
    ·rename_i a0 n c0 hb
     simp only [Option.bind_eq_some_iff] at h
     obtain ⟨m, hm, h⟩ := h
     refine ⟨_, h, fun μ H w a s fr => ⟨_, ?_, .int _ _⟩⟩
     have hv := zy_ s fr hb hg
     have hrun : ∀ u q p, a.eval x = .slice u q p → (p : Int) = m → (execOp a.eval ⟨dst, .call ⟨.builtin .cap, args, argTypes⟩, type, pos, after, guard⟩).run P w = .ok (.value (.int .i64 m)) w := fun u q p he hp => by
      simp [execOp, resolve, invoke, builtin, one hx, Builtin.cap_, h1, run_underlying h2, he, goInt, hp]
     unfold zpk_ at hm
     generalize he : a.eval x = u at hv
     cases hv with
     | nilSlice => simp at hm; exact hrun _ _ _ he (by simpa using hm)
     | slice hmm hcap =>
      rename_i b o c d z m' sp
      simp only at hm
      split at hm
      ·cases hm
      ·rename_i hns
       simp only [Option.some.injEq] at hm
       have : m' = c0 := by
        unfold zvk_ at hcap
        split at hcap
        ·rename_i s; exact absurd rfl (hns s)
        ·exact hcap
       subst this
       exact hrun _ _ _ he hm
     | empty hcap =>
      rename_i ad a' m'
      simp only at hm
      split at hm
      ·cases hm
      ·rename_i hns
       simp only [Option.some.injEq] at hm
       have : m' = 0 := hcap (by
        cases hs : ad.spot with
        | none => exact .inl rfl
        | some q =>
         cases q with
         | zero => exact .inr rfl
         | succ q => exact absurd hs (hns q))
       subst this
       exact hrun _ _ _ he hm
    ·cases h
   ·cases hr
  ·split at hr
   ·rename_i x hx hu
    obtain ⟨hg, rfl⟩ := zr_ hr
    obtain ⟨t, h1, h2⟩ := ty hu
    simp only [zdb_] at h
    split at h
    ·rename_i b hb
     refine ⟨_, h, fun μ H w a s fr => ⟨_, ?_, .int _ _⟩⟩
     simp [execOp, resolve, invoke, builtin, one hx, Builtin.len_, h1, run_underlying h2, zqh_ s fr hb hg, goInt]
    ·cases h
   ·rename_i x e hx hu
    obtain ⟨hg, rfl⟩ := zr_ hr
    obtain ⟨t, h1, h2⟩ := ty hu
    simp only [zdb_] at h
    split at h
    ·rename_i a0 n c0 hb
     refine ⟨_, h, fun μ H w a s fr => ⟨_, ?_, .int _ _⟩⟩
     have hv := zy_ s fr hb hg
     generalize he : a.eval x = u at hv
     cases hv <;> simp [execOp, resolve, invoke, builtin, one hx, Builtin.len_, h1, run_underlying h2, he, goInt]
    ·cases h
   ·rename_i x n e hx hu
    cases hr
    obtain ⟨t, h1, h2⟩ := ty hu
    simp only [zdb_] at h
    refine ⟨_, h, fun μ H w a s fr => ⟨_, ?_, .int _ _⟩⟩
    simp [execOp, resolve, invoke, builtin, one hx, Builtin.len_, h1, run_underlying h2, goInt]
   ·cases hr
  ·split at hr
   ·rename_i x y hx
    obtain ⟨hg, rfl⟩ := zr_ hr
    simp only [Bool.and_eq_true] at hg
    simp only [zdb_] at h
    split at h
    ·rename_i k1 n1 k2 n2 h1 h2
     refine ⟨_, h, fun μ H w a s fr => ⟨_, ?_, .int _ _⟩⟩
     simp [execOp, resolve, invoke, builtin, two hx, Builtin.max_, Builtin.max2, zfd_ s fr h1 hg.1, zfd_ s fr h2 hg.2]
    ·cases h
   ·cases hr
  ·split at hr
   ·rename_i x y hx
    obtain ⟨hg, rfl⟩ := zr_ hr
    simp only [Bool.and_eq_true] at hg
    simp only [zdb_] at h
    split at h
    ·rename_i k1 n1 k2 n2 h1 h2
     refine ⟨_, h, fun μ H w a s fr => ⟨_, ?_, .int _ _⟩⟩
     simp [execOp, resolve, invoke, builtin, two hx, Builtin.min_, Builtin.min2, zfd_ s fr h1 hg.1, zfd_ s fr h2 hg.2]
    ·cases h
   ·rename_i x y z l hx
    obtain ⟨hg, rfl⟩ := zr_ hr
    simp only [Bool.and_eq_true] at hg
    simp only [zdb_] at h
    split at h
    ·rename_i k1 n1 h1
     simp only [Option.bind_eq_some_iff] at h
     obtain ⟨vs, hvs, m, hm, hk⟩ := h
     refine ⟨_, hk, fun μ H w a s fr => ⟨_, ?_, .int _ _⟩⟩
     have hv := znl_ s fr hvs hg.2
     have hargs : args = ⟨x :: y :: z :: l⟩ := by apply Array.ext'; simpa using hx
     subst hargs
     have := zZq_ (P := P) (w := w) (k := k1) hm hv
     have hmin : (Builtin.min_ argTypes type ((⟨x :: y :: z :: l⟩ : Array Operand).map a.eval)).run P w = .ok (.int k1 m) w := by
      have e : ((⟨x :: y :: z :: l⟩ : Array Operand).map a.eval).toList = a.eval x :: (y :: z :: l).map a.eval := by simp
      unfold Builtin.min_
      rw [e]
      simp only
      rw [zfd_ s fr h1 hg.1]
      exact this
     simp only [execOp, resolve, Sem.run_bind, Sem.run_pure, Result.andThen_ok, invoke, builtin, hmin]
    ·cases h
   ·cases hr
  ·split at hr
   ·rename_i x hx
    obtain ⟨hg, rfl⟩ := zr_ hr
    simp only [zdb_] at h
    split at h
    ·rename_i a0 n c0 hb
     simp only [Option.bind_eq_some_iff] at h
     obtain ⟨p, hp, h⟩ := h
     have hrun : ∀ {a : Act} {w : World} {v v' : Value}, a.eval x = v → (Builtin.unsafeSliceData_ argTypes type #[v]).run P w = .ok v' w → (execOp a.eval ⟨dst, .call ⟨.builtin .unsafeSliceData, args, argTypes⟩, type, pos, after, guard⟩).run P w = .ok (.value v') w := fun {a w v v'} he e => by
      simp [execOp, resolve, invoke, builtin, one hx, he, e]
     refine ⟨_, h, fun μ H w a s fr => ?_⟩
     have hv := zy_ s fr hb hg
     unfold zYj_ at hp
     generalize he : a.eval x = u at hv
     cases hv with
     | nilSlice =>
      simp only [Option.some.injEq] at hp; subst hp
      exact ⟨_, hrun he rfl, .nilPtr⟩
     | slice hmm hcap =>
      rename_i b o c d z m' sp
      simp only at hp
      cases hc : Nat.beq c0 0 with
      | true => rw [hc] at hp; cases hp
      | false =>
       rw [hc] at hp
       cases hp
       have hc0 : c0 ≠ 0 := fun e => by rw [e] at hc; cases hc
       have hm' : m' ≠ 0 := by unfold zvk_ at hcap; split at hcap <;> omega
       obtain ⟨k, rfl⟩ : ∃ k, m' = k + 1 := ⟨m' - 1, by omega⟩
       exact ⟨_, hrun he rfl, .ptr hmm⟩
     | empty hcap => simp only at hp; cases hp
    ·cases h
   ·cases hr
 all_goals cases hr
end
inductive KK where
 | i | s | a (n : Nat) (k : IntKind)
inductive LOp where
 | load (t : LTy) (x : Operand)
 | convBS (x : Operand)
 | convUP (x : Operand)
 | lookup (str : KK) (t : LTy) (z : Value) (x i : Operand) (ok : Bool)
 | lenM (x : Operand)
def zSb_ : List Value → List Value → Option Bool
 | [], [] => some true
 | .int k a :: l, .int k' b :: l' => bif decide (k = k') then (match zSb_ l l' with | some r => some (a == b && r) | none => none) else none
 | _, _ => none
def zfe_ : Value → Value → Option Bool
 | .int k a, .int k' b => bif decide (k = k') then some (a == b) else none
 | .string a, .string b => some (a == b)
 | .agg a, .agg b => zSb_ a.toList b.toList
 | _, _ => none
def allI (k : IntKind) : Nat → List Value → Bool
 | 0, [] => true
 | n + 1, .int k' _ :: l => decide (k' = k) && allI k n l
 | _, _ => false
def zue_ (key : Value) : List (Value × Value × Nat) → Nat → Option (Option (Nat × Value))
 | [], _ => some none
 | e :: es, i => match zfe_ key e.1 with
  | some true => some (some (i, e.2.1))
  | some false => zue_ key es (i + 1)
  | none => none
def zuc_ {α : Type} (dec : Value → Option α) (z : Value) (h : AHeap) (m : Option Nat) (key : Value) : Option (α × Bool) :=
 match m with
 | none => (dec z).bind fun x => some (x, false)
 | some r => match h.get r with
  | some (.map es _) => match zue_ key es 0 with
   | some (some p) => (dec p.2).bind fun x => some (x, true)
   | some none => (dec z).bind fun x => some (x, false)
   | none => none
  | _ => none
def zbc_ : KK → Value → Bool
 | .i, .int _ _ => true
 | .s, .string _ => true
 | .a n k, .agg xs => allI k n xs.toList
 | _, _ => false
def zLx_ {R : Type} (t : LTy) (z : Value) (h : AHeap) (m : Option Nat) (key : Value) (κ : Value → Bool → Option R) : Option R :=
 match t with
 | .i k => (zuc_ (decI k) z h m key).bind fun p => κ (.int k p.1) p.2
 | .b => (zuc_ decB z h m key).bind fun p => κ (.bool p.1) p.2
 | .s => (zuc_ decS z h m key).bind fun p => κ (.string p.1) p.2
 | .p => (zuc_ decP z h m key).bind fun p => κ (.pointer p.1) p.2
 | .l => (zuc_ decL z h m key).bind fun p => κ (.slice p.1.a p.1.len p.1.cap) p.2
 | .m => (zuc_ decM z h m key).bind fun p => κ (.map p.1) p.2
 | .v => (zuc_ decV z h m key).bind fun p => κ p.1 p.2
 | .agg n => (zuc_ (decA n) z h m key).bind fun p => κ (.agg ⟨p.1⟩) p.2
 | .st _ => none
def zJz_ (h : AHeap) (m : Option Nat) : Option Nat :=
 match m with
 | none => some 0
 | some r => match h.get r with
  | some (.map es _) => some es.length
  | _ => none
def zEe_ : List Value → Option (List UInt8)
 | [] => some []
 | .int .u8 n :: l => match zEe_ l with
  | some t => some (UInt8.ofNat n.toNat :: t)
  | none => none
 | _ => none
def zYg_ : List Value → Option (List UInt8)
 | [] => some []
 | .int .u8 n :: l => if 0 ≤ n ∧ n < 256 then (zYg_ l).map (UInt8.ofNat n.toNat :: ·) else none
 | _ => none
def zeb_ (h : AHeap) (s : Slc) : Option ByteArray :=
 match s.a with
 | none => some ⟨#[]⟩
 | some a => (h.rdL a.block a.off s.len).bind fun l => (zEe_ l).bind fun b => some ⟨⟨b⟩⟩
def zUe_ {R : Type} (o : LOp) (f : PFr) (h : AHeap) (κ : Value → Option R) : Option R :=
 match o with
 | .load t x => match ev f x with
  | some (.pointer p) => p.bind fun a => zhe_ t a h κ
  | _ => none
 | .convBS x => match ev f x with
  | some (.slice a n c) => (zeb_ h ⟨a, n, c⟩).bind fun s => κ (.string s)
  | _ => none
 | .convUP x => match ev f x with
  | some (.pointer p) => p.bind fun a => (h.rd1 a.block a.off).bind fun _ => κ (.pointer (some a))
  | _ => none
 | .lookup str t z x i ok => match ev f x, ev f i with
  | some (.map m), some key => bif zbc_ str key then zLx_ t z h m key fun v b => κ (bif ok then .tuple ⟨[v, .bool b]⟩ else v) else none
  | _, _ => none
 | .lenM x => match ev f x with
  | some (.map m) => (zJz_ h m).bind fun n => κ (.int .i64 (n : Int))
  | _ => none
def keyT (P : Program) (t : TypeId) : Option KK :=
 match P.underlying t with
 | some (.int _) => some .i
 | some .string => some .s
 | some (.array n e) => match P.underlying e with
  | some (.int k) => if szOf P e = some 1 then some (.a n k) else none
  | _ => none
 | _ => none
def zJt_ (P : Program) (t : TypeId) : Option Value :=
 match (P.info? t).bind (·.zero) with
 | some v => if zIf_ v then some v else match v with
  | .agg cs => if zqb_ cs.toList then some (.agg cs) else none
  | _ => none
 | none => none
def zry_ (P : Program) (G : Nat) (o : Oper) : Option LOp :=
 match o.op with
 | .load t x => (zZe_ P t).bind fun T => chk (opG G x) (.load T x)
 | .convert src dst x => match P.underlying src, P.underlying dst with
  | some (.slice e), some .string => if (match P.underlying e with | some (.int .u8) => true | _ => false) then chk (opG G x) (.convBS x) else none
  | some (.pointer t), some .unsafePointer => if (P.info? t).map (fun i => decide (i.size = 0)) = some false then chk (opG G x) (.convUP x) else none
  | _, _ => none
 | .lookup t x i ok => match P.underlying t with
  | some (.map kt et) => (keyT P kt).bind fun str => (zZe_ P et).bind fun T => (zJt_ P et).bind fun z => chk (opG G x && opG G i) (.lookup str T z x i ok)
  | _ => none
 | .call c => match c.callee with
  | .builtin .len => match c.args.toList, (c.argTypes[0]?).bind P.underlying with
   | [x], some (.map _ _) => chk (opG G x) (.lenM x)
   | _, _ => none
  | _ => none
 | _ => none
inductive AOp where
 | alloc (elem : TypeId) (zero : List Value)
 | box (elem : TypeId) (x : Operand)
 | buildSlice (elem : TypeId) (len : Nat) (zero : List Value) (parts : List (Nat × Nat × Operand))
 | mkSlice (elem : TypeId) (bytes : Nat) (zero : List Value) (len cap : Operand)
 | mkMap
 | convSB (elem : TypeId) (x : Operand)
 | rangeS (x : Operand)
def zu_ (n : Nat) (zero : List Value) : List Value :=
 match zero with
 | [z] => List.replicate n z
 | zs => (List.replicate n zs).flatten
def zM_ (s : ByteArray) : List Value := s.data.toList.map fun b => .int .u8 (b.toNat : Int)
def zzh_ {R : Type} (o : AOp) (f : PFr) (κ : ABlk → (Nat → Value) → Option R) : Option R :=
 match o with
 | .alloc elem zero => κ (.cells zero elem true 0) (fun id => .pointer (some ⟨id, 0, none⟩))
 | .box elem x => (ev f x).bind fun v => κ (.cells v.cells.toList elem true 0) (fun id => .pointer (some ⟨id, 0, none⟩))
 | .buildSlice elem len zero parts => (zei_ f parts).bind fun ps => (zbm_ zero ps).bind fun cs => κ (.cells cs elem true 0) (fun id => .slice (some ⟨id, 0, some 0⟩) len len)
 | .mkSlice elem bytes zero len cap => match ev f len, ev f cap with
  | some (.int _ l), some (.int _ c) => if 0 ≤ l ∧ l ≤ c ∧ c ≤ 281474976710656 ∧ bytes * c ≤ 281474976710656 then κ (.cells (zu_ c.toNat zero) elem true 0) (fun id => .slice (some ⟨id, 0, some 0⟩) l.toNat c.toNat) else none
  | _, _ => none
 | .mkMap => κ (.map [] 0) (fun id => .map (some id))
 | .convSB elem x => match ev f x with
  | some (.string s) => κ (.cells (zM_ s) elem true 18446744073709551616) (fun id => .slice (some ⟨id, 0, some 2⟩) s.size s.size)
  | _ => none
 | .rangeS x => match ev f x with
  | some (.string s) => κ (.iter s 0) (fun id => .pointer (some ⟨id, 0, none⟩))
  | _ => none
def zAx_ (P : Program) (G : Nat) (o : Oper) : Option AOp :=
 match o.op with
 | .alloc e => (zRc_ P e).bind fun z => some (.alloc e z)
 | .box e x => chk (opG G x) (.box e x)
 | .buildSlice t len parts => match P.underlying t with
  | some (.slice e) => (szOf P e).bind fun s => (zRc_ P e).bind fun z =>
    if z.length = s ∧ s ≠ 0 ∧ len * s ≤ 2 ^ 24 then
     let ps := parts.toList.map fun p => (p.1 * s, s, p.2)
     chk (opsG G (ps.map (·.2.2))) (.buildSlice e len (zu_ len z) ps)
    else none
  | _ => none
 | .makeSlice t l c => match P.underlying t with
  | some (.slice e) => (P.info? e).bind fun i => (zRc_ P e).bind fun z => if z.length = i.size ∧ i.size ≠ 0 then chk (opG G l && opG G c) (.mkSlice e i.bytes z l c) else none
  | _ => none
 | .makeMap _ r => match r with
  | none => some .mkMap
  | some _ => none
 | .convert src dst x => match P.underlying src, P.underlying dst with
  | some .string, some (.slice e) => if (match P.underlying e with | some (.int .u8) => true | _ => false) then chk (opG G x) (.convSB e x) else none
  | _, _ => none
 | .range t x => match P.underlying t with
  | some .string => chk (opG G x) (.rangeS x)
  | _ => none
 | _ => none
section
variable {G : Nat} {P : Program} {f : PFr} {R : Type} {r : R}
theorem zRq_ {μ : BMap} : ∀ {l l' : List Value} {b : List UInt8}, zEe_ l = some b → VRs μ l l' → l' = l
 | [], l', b, _, hv => hv.nil_inv
 | v :: l, l', b, h, hv => by
  obtain ⟨v', t', rfl, h1, h2⟩ := hv.cons_inv
  unfold zEe_ at h
  split at h
  ·rename_i e; cases e
  ·rename_i n l0 e
   cases e
   split at h
   ·rename_i b' hb
    rw [zRq_ hb h2, zhl_ h1]
   ·cases h
  ·cases h
theorem zSm_ (w : World) : ∀ (l : List Value) (b : List UInt8) (acc : ByteArray), zEe_ l = some b →
  (forIn (m := Sem) l acc (fun c s => match c with
   | .int .u8 n => pure (ForInStep.yield (s.push (UInt8.ofNat n.toNat)))
   | _ => do
    (stuck "bytesToString: byte expected" : Sem PUnit)
    pure (ForInStep.yield s))).run P w = .ok (⟨acc.data ++ b.toArray⟩ : ByteArray) w
 | [], b, acc, h => by simp [zEe_] at h; subst h; simp
 | v :: l, b, acc, h => by
  unfold zEe_ at h
  split at h
  ·rename_i e; cases e
  ·rename_i n l0 e
   cases e
   split at h
   ·rename_i b' hb
    cases h
    have := zSm_ w l b' (acc.push (UInt8.ofNat n.toNat)) hb
    simp only [List.forIn_cons, Sem.run_bind, Sem.run_pure, Result.andThen_ok] at this ⊢
    rw [this]
    simp [ByteArray.push]
   ·cases h
  ·cases h
def KeyD (P : Program) (kt : TypeId) (kk : KK) (d : TypeDesc) : Prop :=
 P.underlying kt = some d ∧ ((∃ k, kk = .i ∧ d = .int k) ∨ (kk = .s ∧ d = .string) ∨ (∃ n e k, kk = .a n k ∧ d = .array n e ∧ P.underlying e = some (.int k) ∧ szOf P e = some 1))
theorem zgk_ {kt : TypeId} {kk : KK} (h : keyT P kt = some kk) : ∃ d, KeyD P kt kk d := by
 unfold keyT at h
 split at h
 ·rename_i k hk; cases h; exact ⟨_, hk, .inl ⟨k, rfl, rfl⟩⟩
 ·rename_i hk; cases h; exact ⟨_, hk, .inr (.inl ⟨rfl, rfl⟩)⟩
 ·rename_i n e hk
  split at h
  ·rename_i k he
   split at h
   ·rename_i hz; cases h; exact ⟨_, hk, .inr (.inr ⟨n, e, k, rfl, rfl, he, hz⟩)⟩
   ·cases h
  ·cases h
 ·cases h
theorem zmo_ : ∀ {l l' : List Value} {b : Bool}, zSb_ l l' = some b → zqb_ l = true ∧ zqb_ l' = true ∧ l.length = l'.length
 | [], [], _, _ => ⟨rfl, rfl, rfl⟩
 | [], _ :: _, _, h => by simp [zSb_] at h
 | v :: l, l', b, h => by
  unfold zSb_ at h
  split at h
  ·rename_i e; cases e
  ·rename_i k a l0 k' c l1 e
   cases e
   cases hk : decide (k = k') <;> rw [hk] at h
   ·cases h
   ·simp only [cond_true] at h
    split at h
    ·rename_i r hr
     obtain ⟨p1, p2, p3⟩ := zmo_ hr
     exact ⟨by simp [zqb_, zIf_, p1], by simp [zqb_, zIf_, p2], by simp [p3]⟩
    ·cases h
  ·cases h
theorem zKv_ {μ : BMap} : ∀ {k l l' : List Value} {b : Bool}, zSb_ k l = some b → VRs μ l l' → l' = l
 | k, [], l', b, _, hv => hv.nil_inv
 | k, v :: l, l', b, h, hv => by
  obtain ⟨v', t, rfl, h1, h2⟩ := hv.cons_inv
  unfold zSb_ at h
  split at h
  ·rename_i e; cases e
  ·rename_i kk a l0 k' c l1 e
   cases e
   cases hk : decide (kk = k') <;> rw [hk] at h
   ·cases h
   ·simp only [cond_true] at h
    split at h
    ·rename_i r hr
     rw [zKv_ hr h2]
     cases h1; rfl
    ·cases h
  ·cases h
theorem zYh_ {μ : BMap} {key u u' : Value} {b : Bool} (h : zfe_ key u = some b) (hv : VR μ u u') : u' = u := by
 unfold zfe_ at h
 split at h
 ·cases hv; rfl
 ·cases hv; rfl
 ·obtain ⟨x', rfl, h2⟩ := hv.agg_inv
  have := zKv_ h h2
  rw [Array.toList_inj] at this
  rw [this]
 ·cases h
theorem zdr_ {k : IntKind} : ∀ {n : Nat} {l l' : List Value} {b : Bool}, allI k n l = true → zSb_ l l' = some b → eqL (List.replicate n [CTy.i k]).flatten l l' = some b
 | 0, [], l', b, _, h => by
  cases l' with
  | nil => simpa [zSb_, eqL] using h
  | cons _ _ => simp [zSb_] at h
 | 0, _ :: _, _, _, ha, _ => by simp [allI] at ha
 | n + 1, [], _, _, ha, _ => by simp [allI] at ha
 | n + 1, v :: l, l', b, ha, h => by
  unfold zSb_ at h
  split at h
  ·rename_i e; cases e
  ·rename_i kk a l0 k' c l1 e
   cases e
   simp only [allI, Bool.and_eq_true, decide_eq_true_eq] at ha
   obtain ⟨rfl, ha⟩ := ha
   cases hk : decide (kk = k') <;> rw [hk] at h
   ·cases h
   ·have hk := of_decide_eq_true hk
    subst hk
    simp only [cond_true] at h
    split at h
    ·rename_i r hr
     cases h
     have ih := zdr_ ha hr
     simp only [List.replicate_succ, List.flatten_cons, List.singleton_append, eqL, CTy.dec, decI, decide_true, cond_true, ih, CTy.eq]
    ·cases h
  ·cases h
theorem zPz_ {kt n e : Nat} {k : IntKind} (h : P.underlying kt = some (.array n e)) (he : P.underlying e = some (.int k)) (hz : szOf P e = some 1) : eqSh P 2 kt = some (List.replicate n [CTy.i k]).flatten := by
 simp [eqSh, h, he, hz]
theorem zQw_ {n : Nat} {k : IntKind} {v : Value} (h : zbc_ (.a n k) v = true) : ∃ xs, v = .agg xs ∧ allI k n xs.toList = true := by
 cases v <;> simp [zbc_] at h
 exact ⟨_, rfl, h⟩
theorem zws_ {kt : TypeId} {n e : Nat} {k : IntKind} (h : P.underlying kt = some (.array n e)) (he : P.underlying e = some (.int k)) (hz : szOf P e = some 1) {key u : Value} {b : Bool} (hk : zbc_ (.a n k) key = true) (hq : zfe_ key u = some b) (w : World) :
  (Op.equal kt key u).run P w = .ok b w := by
 obtain ⟨xs, rfl, hk⟩ := zQw_ hk
 cases u <;> simp only [zfe_] at hq <;> try (cases hq; done)
 exact zzr_ 2 _ _ (zPz_ h he hz) (by simp [aggT, h]) _ (by decide) _ _ _ (zdr_ hk hq) w
theorem zvs_ {kk : KK} {key u : Value} {b : Bool} {d : TypeDesc} (hk : zbc_ kk key = true) (hd : (∃ k, kk = .i ∧ d = .int k) ∨ (kk = .s ∧ d = .string)) (h : zfe_ key u = some b) : Instr.sameNow d key u = some b := by
 unfold zfe_ at h
 split at h
 ·rename_i k a k' c
  rcases hd with ⟨k0, rfl, rfl⟩ | ⟨rfl, rfl⟩
  ·by_cases e : k = k'
   ·simp [e] at h; simp [Instr.sameNow, e, h]
   ·simp [e] at h
  ·simp [zbc_] at hk
 ·rename_i a c
  rcases hd with ⟨k0, rfl, rfl⟩ | ⟨rfl, rfl⟩
  ·simp [zbc_] at hk
  ·simpa [Instr.sameNow] using h
 ·rcases hd with ⟨k0, rfl, rfl⟩ | ⟨rfl, rfl⟩ <;> simp [zbc_] at hk
 ·cases h
def zwm_ (μ : BMap) (es : List (Value × Value × Nat)) (i : Nat) (r r' : Option (Nat × Value)) : Prop :=
 match r with
 | none => r' = none
 | some p => i ≤ p.1 ∧ (∃ e, es[p.1 - i]? = some e ∧ e.2.1 = p.2) ∧ ∃ v', r' = some (p.1, v') ∧ VR μ p.2 v'
theorem zwm_.next {μ : BMap} {e : Value × Value × Nat} {es : List (Value × Value × Nat)} {i : Nat} {r r' : Option (Nat × Value)} (h2 : zwm_ μ es (i + 1) r r') : zwm_ μ (e :: es) i r r' := by
 cases r with
 | none => exact h2
 | some p =>
  obtain ⟨q1, ⟨x, q2, q3⟩, q4⟩ := h2
  refine ⟨by omega, ⟨x, ?_, q3⟩, q4⟩
  rw [show p.1 - i = (p.1 - (i + 1)) + 1 by omega, List.getElem?_cons_succ]
  exact q2
theorem zys_ {μ : BMap} {kk : KK} {key : Value} {d : TypeDesc} (hk : zbc_ kk key = true) (hd : (∃ k, kk = .i ∧ d = .int k) ∨ (kk = .s ∧ d = .string)) :
  ∀ (es : List (Value × Value × Nat)) (es' : List MapEntry) (i : Nat) (r : Option (Nat × Value)), es.length = es'.length → (∀ (j : Nat) e e', es[j]? = some e → es'[j]? = some e' → MR μ e e') → zue_ key es i = some r →
  ∃ r', Instr.findNow d key es' i = some r' ∧ zwm_ μ es i r r'
 | [], [], i, r, _, _, h => by simp only [zue_, Option.some.injEq] at h; subst h; exact ⟨none, rfl, rfl⟩
 | [], _ :: _, _, _, hl, _, _ => by simp at hl
 | _ :: _, [], _, _, hl, _, _ => by simp at hl
 | e :: es, e' :: es', i, r, hl, hm, h => by
  have m0 := hm 0 e e' rfl rfl
  simp only [zue_] at h
  split at h
  ·rename_i hq
   cases h
   have := zvs_ hk hd hq
   refine ⟨some (i, e'.val), ?_, Nat.le_refl _, ⟨e, by simp, rfl⟩, e'.val, rfl, m0.2.1⟩
   simp only [Instr.findNow, zYh_ hq m0.1, this]
  ·rename_i hq
   have := zvs_ hk hd hq
   obtain ⟨r', h1, h2⟩ := zys_ hk hd es es' (i + 1) r (by simpa using hl) (fun j x x' hx hx' => hm (j + 1) x x' (by simpa using hx) (by simpa using hx')) h
   exact ⟨r', by simp only [Instr.findNow, zYh_ hq m0.1, this]; exact h1, h2.next⟩
  ·cases h
theorem zVs_ {μ : BMap} {key : Value} {kt n e0 : Nat} {k : IntKind} (hu : P.underlying kt = some (.array n e0)) (he : P.underlying e0 = some (.int k)) (hz : szOf P e0 = some 1) (hk : zbc_ (.a n k) key = true) :
  ∀ (es : List (Value × Value × Nat)) (es' : List MapEntry) (i : Nat) (r : Option (Nat × Value)), es.length = es'.length → (∀ (j : Nat) e e', es[j]? = some e → es'[j]? = some e' → MR μ e e') → zue_ key es i = some r →
  ∃ r', (∀ w : World, (Instr.findAsking kt key es' i).run P w = .ok r' w) ∧ zwm_ μ es i r r'
 | [], [], i, r, _, _, h => by simp only [zue_, Option.some.injEq] at h; subst h; exact ⟨none, fun w => by simp [Instr.findAsking], rfl⟩
 | [], _ :: _, _, _, hl, _, _ => by simp at hl
 | _ :: _, [], _, _, hl, _, _ => by simp at hl
 | e :: es, e' :: es', i, r, hl, hm, h => by
  have m0 := hm 0 e e' rfl rfl
  simp only [zue_] at h
  split at h
  ·rename_i hq
   cases h
   refine ⟨some (i, e'.val), fun w => ?_, Nat.le_refl _, ⟨e, by simp, rfl⟩, e'.val, rfl, m0.2.1⟩
   have := zws_ hu he hz hk hq w
   simp only [Instr.findAsking, Sem.run_bind, zYh_ hq m0.1, this, Result.andThen_ok]
   simp
  ·rename_i hq
   obtain ⟨r', h1, h2⟩ := zVs_ hu he hz hk es es' (i + 1) r (by simpa using hl) (fun j x x' hx hx' => hm (j + 1) x x' (by simpa using hx) (by simpa using hx')) h
   refine ⟨r', fun w => ?_, h2.next⟩
   have := zws_ hu he hz hk hq w
   simp only [Instr.findAsking, Sem.run_bind, zYh_ hq m0.1, this, Result.andThen_ok]
   simpa using h1 w
  ·cases h
theorem zZj_ {kt : TypeId} {d : TypeDesc} {key : Value} {es : List MapEntry} {r : Option (Nat × Value)} (hd : P.underlying kt = some d) (h : Instr.findNow d key es 0 = some r) (w : World) : (Instr.findKey kt key es).run P w = .ok r w := by
 simp [Instr.findKey, run_underlying hd, h]
theorem zsj_ {μ : BMap} {kt : TypeId} {kk : KK} {d : TypeDesc} (hd : KeyD P kt kk d) {key : Value} (hk : zbc_ kk key = true) {es : List (Value × Value × Nat)} {es' : List MapEntry} {r : Option (Nat × Value)} (hl : es.length = es'.length)
  (hm : ∀ (j : Nat) e e', es[j]? = some e → es'[j]? = some e' → MR μ e e') (h : zue_ key es 0 = some r) : ∃ r', (∀ w : World, (Instr.findKey kt key es').run P w = .ok r' w) ∧ zwm_ μ es 0 r r' := by
 obtain ⟨hu, hs⟩ := hd
 have sc : ((∃ k, kk = .i ∧ d = .int k) ∨ (kk = .s ∧ d = .string)) → ∃ r', (∀ w : World, (Instr.findKey kt key es').run P w = .ok r' w) ∧ zwm_ μ es 0 r r' := fun hs => by
  obtain ⟨r', h1, h2⟩ := zys_ hk hs es es' 0 r hl hm h
  exact ⟨r', fun w => zZj_ hu h1 w, h2⟩
 rcases hs with hs | hs | ⟨n, e, k, rfl, rfl, he, hz⟩
 ·exact sc (.inl hs)
 ·exact sc (.inr hs)
 ·obtain ⟨r', h1, h2⟩ := zVs_ hu he hz hk es es' 0 r hl hm h
  cases es' with
  | nil =>
   have : r' = none := by
    have := h1 default
    simp [Instr.findAsking] at this
    exact this.symm
   subst this
   exact ⟨none, fun w => zZj_ hu rfl w, h2⟩
  | cons x xs =>
   refine ⟨r', fun w => ?_, h2⟩
   have hn : Instr.findNow (.array n e) key (x :: xs) 0 = none := by simp [Instr.findNow, Instr.sameNow]
   simp only [Instr.findKey, Sem.run_bind, run_underlying hu, Result.andThen_ok, hn]
   exact h1 w
theorem zOv_ {k : IntKind} : ∀ {n : Nat} {l : List Value}, allI k n l = true → ∀ i, i < n → ∃ a, l[i]? = some (.int k a)
 | 0, _, _, i, h => by omega
 | n + 1, [], h, _, _ => by simp [allI] at h
 | n + 1, v :: l, h, i, hi => by
  unfold allI at h
  split at h
  ·rename_i e; cases e
  ·rename_i k' a l0 _ e
   cases e
   simp only [Bool.and_eq_true, decide_eq_true_eq] at h
   obtain ⟨rfl, h⟩ := h
   cases i with
   | zero => exact ⟨a, rfl⟩
   | succ i =>
    rename_i n' _
    obtain ⟨b, hb⟩ := zOv_ h i (by omega)
    exact ⟨b, by simpa using hb⟩
  ·cases h
theorem zRe_ {kt : TypeId} {d : TypeDesc} {kk : KK} {key : Value} (hd : KeyD P kt kk d) (hk : zbc_ kk key = true) (e : Bool) (w : World) : (Instr.checkKey e 10000 kt key).run P w = .ok () w := by
 obtain ⟨hu, hs⟩ := hd
 rcases hs with ⟨k, rfl, rfl⟩ | ⟨rfl, rfl⟩ | ⟨n, e0, k, rfl, rfl, he, hz⟩
 ·unfold Instr.checkKey; simp [run_underlying hu]
 ·unfold Instr.checkKey; simp [run_underlying hu]
 ·obtain ⟨xs, rfl, hk⟩ := zQw_ hk
  rw [show (10000 : Nat) = 9998 + 1 + 1 from rfl, Instr.checkKey]
  simp only [Sem.run_bind, run_underlying hu, Result.andThen_ok]
  simp only [Std.Legacy.Range.forIn_eq_forIn_range', Std.Legacy.Range.size, Nat.sub_zero, Nat.add_one_sub_one, Nat.div_one]
  have all : ∀ i ∈ List.range' 0 n, i < n := fun i hi => by rw [List.mem_range'_1] at hi; omega
  generalize List.range' 0 n = is at all
  induction is with
  | nil => simp
  | cons j is ih =>
   obtain ⟨a, ha⟩ := zOv_ hk j (all j (by simp))
   have pl := zUo_ (P := P) (t := e0) (c := .i k) (by simp [zUj_, he]) (cs := xs) (off := j * 1) (by simpa using ha) w
   have ck : (Instr.checkKey e (9998 + 1) e0 (.int k a)).run P w = .ok () w := by rw [Instr.checkKey]; simp [run_underlying he]
   simp only [List.forIn_cons, Sem.run_bind, run_sizeOf' hz, Result.andThen_ok, pl, ck, Sem.run_pure]
   exact ih fun i hi => all i (by simp [hi])
theorem zWd_ {w : World} {r : Nat} {es : Array MapEntry} {clock : Nat} (hb : w.heap[r]? = some (.map es clock)) : (getObj r).run P w = .ok (.map es clock) w := by
 simp [getObj, Sem.run, hb]
theorem zvh_ {w : World} {r : Nat} {es : Array MapEntry} {clock : Nat} (o : Obj) (hb : w.heap[r]? = some (.map es clock)) : (setObj r o).run P w = .ok () { w with heap := w.heap.setIfInBounds r o } := by
 simp [setObj, Sem.run, hb]
theorem zVp_ {w : World} {r : Nat} {t : ByteArray} {p : Nat} (hb : w.heap[r]? = some (.stringIter t p)) : (getObj r).run P w = .ok (.stringIter t p) w := by
 simp [getObj, Sem.run, hb]
theorem zkw_ {w : World} {r : Nat} {t : ByteArray} {p : Nat} (o : Obj) (hb : w.heap[r]? = some (.stringIter t p)) : (setObj r o).run P w = .ok () { w with heap := w.heap.setIfInBounds r o } := by
 simp [setObj, Sem.run, hb]
theorem Sim.mapObj {μ : BMap} {H : AHeap} {w : World} (s : Sim G μ H w) {b : Nat} {es : List (Value × Value × Nat)} {cl : Nat} (hb : H.get b = some (.map es cl)) :
  ∃ c d z es', μ b = some (c, d, z) ∧ w.heap[c]? = some (.map es' cl) ∧ es.length = es'.toList.length ∧ ∀ (i : Nat) e e', es[i]? = some e → es'.toList[i]? = some e' → MR μ e e' := by
 obtain ⟨c, d, z, O, hm, hO, hr⟩ := s.blk b _ hb
 cases O with
 | map es' cl' =>
  obtain ⟨rfl, h2, h3⟩ := hr
  exact ⟨c, d, z, es', hm, hO, by simpa using h2, fun i e e' a b => h3 i e e' a (by simpa using b)⟩
 | _ => exact hr.elim
theorem zjz_ {t : TypeId} {z : Value} (h : zJt_ P t = some z) (w : World) : (zeroValue t).run P w = .ok z w ∧ ∀ μ, VR μ z z := by
 unfold zJt_ at h
 cases hi : (P.info? t).bind (·.zero) with
 | none => simp [hi] at h
 | some v =>
  simp only [hi] at h
  simp only [Option.bind_eq_some_iff] at hi
  obtain ⟨i, h1, h2⟩ := hi
  have hr : (zeroValue t).run P w = .ok v w := by simp [zeroValue, typeInfo, h1, h2]
  split at h
  ·rename_i hp
   cases h
   exact ⟨hr, fun μ => .of_plain hp⟩
  ·split at h
   ·rename_i cs _
    split at h
    ·rename_i hp
     cases h
     exact ⟨hr, fun μ => .agg_list (.of_plain hp)⟩
    ·cases h
   ·cases h
theorem zuz_ {α : Type} {dec : Value → Option α} {z : Value} {H : AHeap} {m : Option Nat} {key : Value} {p : α × Bool} (h : zuc_ dec z H m key = some p) : ∃ v, dec v = some p.1 ∧ zuc_ some z H m key = some (v, p.2) := by
 unfold zuc_ at h ⊢
 split at h
 ·simp only [Option.bind_eq_some_iff] at h
  obtain ⟨x, hx, e⟩ := h
  cases e
  exact ⟨z, hx, rfl⟩
 ·split at h
  ·split at h
   ·rename_i p0 hp
    simp only [Option.bind_eq_some_iff] at h
    obtain ⟨x, hx, e⟩ := h
    cases e
    exact ⟨p0.2, hx, rfl⟩
   ·rename_i hp
    simp only [Option.bind_eq_some_iff] at h
    obtain ⟨x, hx, e⟩ := h
    cases e
    exact ⟨z, hx, rfl⟩
   ·cases h
  ·cases h
theorem znx_ {t : LTy} {z : Value} {H : AHeap} {m : Option Nat} {key : Value} {κ : Value → Bool → Option R} (h : zLx_ t z H m key κ = some r) : ∃ v b, κ v b = some r ∧ zuc_ some z H m key = some (v, b) := by
 unfold zLx_ at h
 cases t
 case st ts => cases h
 all_goals
  simp only [Option.bind_eq_some_iff] at h
  obtain ⟨p, hp, hk⟩ := h
  obtain ⟨v, hv, hl⟩ := zuz_ hp
 ·rw [zPf_ hv] at hl; exact ⟨_, _, hk, hl⟩
 ·rw [zNf_ hv] at hl; exact ⟨_, _, hk, hl⟩
 ·rw [zOf_ hv] at hl; exact ⟨_, _, hk, hl⟩
 ·rw [zMk_ hv] at hl; exact ⟨_, _, hk, hl⟩
 ·rw [ztk_ hv] at hl; exact ⟨_, _, hk, hl⟩
 ·rw [zwk_ hv] at hl; exact ⟨_, _, hk, hl⟩
 ·rw [(zZn_ hv).1] at hl; exact ⟨_, _, hk, hl⟩
 ·rw [(zyo_ hv).1] at hl; exact ⟨_, _, hk, hl⟩
theorem zLB_ {μ : BMap} {H : AHeap} {w : World} (s : Sim G μ H w) {t kt et : TypeId} (ht : P.underlying t = some (.map kt et)) {str : KK} (hk : keyT P kt = some str) {z : Value} (hz : zJt_ P et = some z) {m : Option Nat} {u : Value} (hu : VR μ (.map m) u) {key : Value} (hkey : zbc_ str key = true)
  {v : Value} {b : Bool} (h : zuc_ some z H m key = some (v, b)) (ok : Bool) : ∃ v', (Instr.lookup t u key ok).run P w = .ok (if ok then .tuple #[v', .bool b] else v') w ∧ VR μ v v' := by
 obtain ⟨d, hd⟩ := zgk_ hk
 obtain ⟨hz1, hz2⟩ := zjz_ hz w
 unfold zuc_ at h
 split at h
 ·rename_i hm
  simp only [Option.bind_some, Option.some.injEq, Prod.mk.injEq] at h
  obtain ⟨rfl, rfl⟩ := h
  cases hu with
  | nilMap =>
   have hf := zZj_ (key := key) (es := []) hd.1 rfl w
   refine ⟨z, ?_, hz2 μ⟩
   cases ok <;> simp [Instr.lookup, run_underlying ht, zRe_ hd hkey, hf, hz1]
 ·rename_i r0
  split at h
  ·rename_i es cl hb
   obtain ⟨c, dd, zz, es', hm, hO, hl, hM⟩ := s.mapObj hb
   cases hu with
   | map hm' =>
    rw [hm] at hm'; cases hm'
    split at h
    ·rename_i p hp
     simp only [Option.bind_some, Option.some.injEq, Prod.mk.injEq] at h
     obtain ⟨rfl, rfl⟩ := h
     obtain ⟨r', h1, _, _, v', rfl, hv⟩ := zsj_ hd hkey hl hM hp
     refine ⟨v', ?_, hv⟩
     cases ok <;> simp [Instr.lookup, run_underlying ht, zWd_ hO, zRe_ hd hkey, h1]
    ·rename_i hp
     simp only [Option.bind_some, Option.some.injEq, Prod.mk.injEq] at h
     obtain ⟨rfl, rfl⟩ := h
     obtain ⟨r', h1, h2⟩ := zsj_ hd hkey hl hM hp
     have h2 : r' = none := h2
     subst h2
     refine ⟨z, ?_, hz2 μ⟩
     cases ok <;> simp [Instr.lookup, run_underlying ht, zWd_ hO, zRe_ hd hkey, h1, hz1]
    ·cases h
  ·cases h
theorem zdm_ {k : IntKind} : ∀ {n : Nat} {l : List Value}, allI k n l = true → zqb_ l = true ∧ ∃ b, zSb_ l l = some b
 | 0, [], _ => ⟨rfl, true, rfl⟩
 | 0, _ :: _, h => by simp [allI] at h
 | n + 1, [], h => by simp [allI] at h
 | n + 1, v :: l, h => by
  unfold allI at h
  split at h
  ·rename_i e; cases e
  ·rename_i k' a l0 _ e
   cases e
   simp only [Bool.and_eq_true, decide_eq_true_eq] at h
   obtain ⟨rfl, h⟩ := h
   obtain ⟨p, b, q⟩ := zdm_ h
   exact ⟨by simp [zqb_, zIf_, p], a == a && b, by simp [zSb_, q]⟩
  ·cases h
theorem zAm_ {kk : KK} {μ : BMap} {key u : Value} (hk : zbc_ kk key = true) (h : VR μ key u) : u = key := by
 unfold zbc_ at hk
 split at hk
 ·cases h; rfl
 ·cases h; rfl
 ·rename_i n k xs
  obtain ⟨_, b, q⟩ := zdm_ hk
  exact zYh_ (key := .agg xs) (b := b) q h
 ·cases hk
theorem zrx_ {kk : KK} {key : Value} (hk : zbc_ kk key = true) (μ : BMap) : VR μ key key := by
 unfold zbc_ at hk
 split at hk
 ·exact .int _ _
 ·exact .str _
 ·exact .agg_list (.of_plain (zdm_ hk).1)
 ·cases hk
def LS (P : Program) (G : Nat) (o : Oper) (f : PFr) (H : AHeap) (v : Value) : Prop :=
 ∀ (μ : BMap) (w : World) (a : Act), Sim G μ H w → FR μ f a.tmps → ∃ v', (execOp a.eval o).run P w = .ok (.value v') w ∧ VR μ v v'
theorem zwi_ {o : Oper} {ro : LOp} {H : AHeap} {κ : Value → Option R} (hr : zry_ P G o = some ro) (h : zUe_ ro f H κ = some r) : ∃ v, κ v = some r ∧ LS P G o f H v := by
 obtain ⟨dst, op, type, pos, after, guard⟩ := o
 cases op <;> simp only [zry_] at hr <;> try (cases hr; done)
 case load t x =>
  simp only [Option.bind_eq_some_iff] at hr
  obtain ⟨T, hT, hr⟩ := hr
  obtain ⟨hg, rfl⟩ := zr_ hr
  simp only [zUe_] at h
  split at h
  ·rename_i p hp
   simp only [Option.bind_eq_some_iff] at h
   obtain ⟨ad, rfl, h⟩ := h
   obtain ⟨v, hk, hv, _⟩ := zym_ h
   refine ⟨v, hk, fun μ w a s fr => ?_⟩
   obtain ⟨b, o, c, d, z, rfl, he, hm⟩ := zDe_ (zy_ s fr hp hg)
   cases T
   case st ts => exact (zLm_ hT).elim
   case agg n =>
    obtain ⟨l, hl, rfl⟩ := hv
    obtain ⟨h1, h2⟩ := zdo_ hT
    obtain ⟨vs', q1, q2, _⟩ := s.loads (P := P) hm hl
    exact ⟨_, by simp [execOp, he, Instr.loadAt, Instr.sureAddr, loadVar, zQe_ h1, run_sizeOf' h2, q1], .agg_list q2⟩
   all_goals
    obtain ⟨v', q1, q2⟩ := s.cell hm hv
    exact ⟨v', by simp [execOp, he, Instr.loadAt, Instr.sureAddr, loadVar, zQe_ (zLn_ hT (fun n e => by cases e)), q1], q2⟩
  ·cases h
 case convert src dst x =>
  split at hr
  ·rename_i e hu1 hu2
   split at hr
   ·rename_i hu8
    obtain ⟨hg, rfl⟩ := zr_ hr
    simp only [zUe_] at h
    split at h
    ·rename_i a0 n c hx
     simp only [Option.bind_eq_some_iff] at h
     obtain ⟨b, hb, hk⟩ := h
     refine ⟨_, hk, fun μ w a s fr => ⟨_, ?_, .str _⟩⟩
     have hu3 : P.underlying e = some (.int .u8) := hu8
     have hv := zy_ s fr hx hg
     have hconv : ∀ u, a.eval x = u → (Conv.bytesToString u).run P w = .ok (.string b) w → (∃ p q m, u = .slice p q m) → (execOp a.eval ⟨dst, .convert src dst x, type, pos, after, guard⟩).run P w = .ok (.value (.string b)) w := by
      rintro u he hc ⟨p, q, m, rfl⟩
      simp [execOp, he, convert, run_underlying hu1, run_underlying hu2, run_underlying hu3, hc]
     generalize he : a.eval x = u at hv
     refine hconv u he ?_ (by cases hv <;> exact ⟨_, _, _, rfl⟩)
     unfold zeb_ at hb
     cases hv with
     | nilSlice => simp at hb; subst hb; simp [Conv.bytesToString]; rfl
     | slice hm _ =>
      simp only [Option.bind_eq_some_iff] at hb
      obtain ⟨l, hl, bs, hbs, hbb⟩ := hb
      cases hbb
      obtain ⟨vs', q1, q2, _⟩ := s.loads (P := P) hm hl
      rw [zRq_ hbs q2] at q1
      simp only [Conv.bytesToString, Sem.run_bind, q1, Result.andThen_ok]
      have := zSm_ (P := P) w l bs ByteArray.empty hbs
      rw [show (⟨l⟩ : Array Value) = l.toArray from rfl, List.forIn_toArray]
      erw [this]
      simp
     | empty _ =>
      simp [AHeap.rdL, zEe_] at hb
      subst hb
      simp [Conv.bytesToString, loadCells, loadCellsFrom]; rfl
    ·cases h
   ·cases hr
  ·rename_i t hu1 hu2
   split at hr
   ·rename_i hsz
    obtain ⟨hg, rfl⟩ := zr_ hr
    simp only [zUe_] at h
    split at h
    ·rename_i p hp
     simp only [Option.bind_eq_some_iff] at h
     obtain ⟨ad, rfl, u, hu, hk⟩ := h
     refine ⟨_, hk, fun μ w a s fr => ?_⟩
     have hv := zy_ s fr hp hg
     obtain ⟨b, o, c, d, z, rfl, he, hm⟩ := zDe_ hv
     obtain ⟨v', q1, q2⟩ := s.cell hm hu
     refine ⟨a.eval x, ?_, hv⟩
     simp only [execOp, he, Sem.run_bind, run_convert_to_unsafe hu1 hu2 hsz q1]
     rfl
    ·cases h
   ·cases hr
  ·cases hr
 case lookup t x i ok =>
  split at hr
  ·rename_i kt et ht
   simp only [Option.bind_eq_some_iff] at hr
   obtain ⟨str, hk, T, hT, z, hz, hr⟩ := hr
   obtain ⟨hg, rfl⟩ := zr_ hr
   simp only [Bool.and_eq_true] at hg
   simp only [zUe_] at h
   split at h
   ·rename_i m key hx hi
    cases hkey : zbc_ str key with
    | false => rw [hkey] at h; cases h
    | true =>
     rw [hkey, cond_true] at h
     obtain ⟨v, b, hk', hl⟩ := znx_ h
     refine ⟨_, hk', fun μ w a s fr => ?_⟩
     have ei : a.eval i = key := zAm_ hkey (zy_ s fr hi hg.2)
     obtain ⟨v', r1, r2⟩ := zLB_ (P := P) s ht hk hz (zy_ s fr hx hg.1) hkey hl ok
     refine ⟨_, by simp [execOp, ei, r1]; rfl, ?_⟩
     cases ok
     ·exact r2
     ·exact .tuple_list (.cons r2 (.cons (.bool b) (.nil μ)))
   ·cases h
  ·cases hr
 case call c =>
  obtain ⟨callee, args, argTypes⟩ := c
  have one : ∀ {x : Operand} {a : Act}, args.toList = [x] → args.map a.eval = #[a.eval x] := fun {x a} e => by
   have : args = #[x] := by apply Array.ext'; simpa using e
   subst this; simp
  cases callee <;> simp only at hr <;> try (cases hr; done)
  rename_i b
  cases b <;> (try simp only at hr) <;> try (cases hr; done)
  split at hr
  ·rename_i x kt et hxs hu
   obtain ⟨hg, rfl⟩ := zr_ hr
   simp only [zUe_] at h
   split at h
   ·rename_i m hx
    simp only [Option.bind_eq_some_iff] at h
    obtain ⟨n, hn, hk⟩ := h
    refine ⟨_, hk, fun μ w a s fr => ⟨_, ?_, .int _ _⟩⟩
    simp only [Option.bind_eq_some_iff] at hu
    obtain ⟨t, h1, h2⟩ := hu
    have hv := zy_ s fr hx hg
    unfold zJz_ at hn
    split at hn
    ·cases hn
     generalize he : a.eval x = u at hv
     cases hv
     simp [execOp, resolve, invoke, builtin, one hxs, Builtin.len_, h1, run_underlying h2, he, goInt]
    ·rename_i r0
     split at hn
     ·rename_i es cl hb
      cases hn
      obtain ⟨c, dd, zz, es', hm, hO, hl, hM⟩ := s.mapObj hb
      generalize he : a.eval x = u at hv
      cases hv with
      | map hm' =>
       rw [hm] at hm'; cases hm'
       have hl : es.length = es'.size := by simpa using hl
       simp [execOp, resolve, invoke, builtin, one hxs, Builtin.len_, h1, run_underlying h2, he, goInt, zWd_ hO, hl]
     ·cases hn
   ·cases h
  ·cases hr
end
section
variable {G : Nat} {P : Program} {f : PFr} {R : Type} {r : R}
def AS (P : Program) (G : Nat) (o : Oper) (f : PFr) (B : ABlk) (mk : Nat → Value) : Prop :=
 ∀ (μ : BMap) (H : AHeap) (w : World) (a : Act), Sim G μ H w → FR μ f a.tmps → ∃ O z v' w', (execOp a.eval o).run P w = .ok (.value v') w' ∧ w'.heap = w.heap.push O ∧ w'.os = w.os ∧ w'.tape = w.tape ∧ w'.output = w.output ∧
  (∀ ν, BLe μ ν → BR ν 0 z B O) ∧ (∀ id ν, ν id = some (w.heap.size, 0, z) → VR ν (mk id) v')
theorem BR.fresh {μ ν : BMap} (h : BLe μ ν) {c : List Value} {c' : List Value} {e : TypeId} (hv : VRs μ c c') : BR ν 0 c'.length (.cells c e true 0) (.cells ⟨c'⟩ e) :=
 ⟨rfl, by simp, fun i v hi => let ⟨v', a, b⟩ := hv.get hi; ⟨v', by simpa using a, b.mono h⟩, fun _ => ⟨rfl, fun i _ _ => by omega, fun _ => ⟨.inl rfl, fun x hx => let ⟨v, q⟩ := hv.img x hx; ⟨v, q.mono h⟩⟩⟩, fun q => by cases q⟩
theorem zml_ (zs : List Value) (n i : Nat) (hi : i < n * zs.length) : ((List.replicate n zs).flatten)[i]? = zs[i % zs.length]? := by
 induction n generalizing i with
 | zero => simp at hi
 | succ n ih =>
  rw [List.replicate_succ, List.flatten_cons]
  by_cases h : i < zs.length
  ·rw [List.getElem?_append_left h, Nat.mod_eq_of_lt h]
  ·rw [List.getElem?_append_right (by omega), ih (i - zs.length) (by rw [Nat.succ_mul] at hi; omega)]
   congr 1
   exact (Nat.mod_eq_sub_mod (by omega)).symm
theorem zmc_ (z : List Value) (n : Nat) : zu_ n z = (List.replicate n z).flatten := by
 have one : ∀ v : Value, List.replicate n v = (List.replicate n [v]).flatten := fun v => by
  induction n with
  | zero => rfl
  | succ n ih => rw [List.replicate_succ, List.replicate_succ, List.flatten_cons, ← ih]; rfl
 unfold zu_
 split
 ·exact one _
 ·rfl
theorem zWj_ (z : List Value) (n : Nat) (hz : z ≠ []) : ((Array.range (n * z.length)).map ((⟨z⟩ : Array Value)[· % z.length]!)) = (⟨zu_ n z⟩ : Array Value) := by
 apply Array.ext'
 rw [zmc_]
 have hl : 0 < z.length := List.length_pos_iff.2 hz
 apply List.ext_getElem?
 intro i
 by_cases hi : i < n * z.length
 ·rw [zml_ z n i hi]
  simp [hi]
  have : i % z.length < z.length := Nat.mod_lt _ hl
  simp [this]
 ·rw [List.getElem?_eq_none (by simp; omega), List.getElem?_eq_none (by simp [List.length_flatten]; omega)]
theorem zjf_ {z : List Value} (h : zqb_ z = true) (n : Nat) : zqb_ (zu_ n z) = true := by
 rw [zmc_]
 have app : ∀ a b : List Value, zqb_ a = true → zqb_ b = true → zqb_ (a ++ b) = true := fun a b ha hb => by
  induction a with
  | nil => exact hb
  | cons v a ih => simp [zqb_] at ha ⊢; exact ⟨ha.1, ih ha.2⟩
 induction n with
 | zero => rfl
 | succ n ih => rw [List.replicate_succ, List.flatten_cons]; exact app _ _ h ih
theorem zIl_ {n : Int} (h0 : 0 ≤ n) (h1 : n ≤ 281474976710656) : IntKind.i64.wrap n = n := by
 have e : n % (2 ^ IntKind.i64.bits : Int) = n := Int.emod_eq_of_lt h0 (by show n < 18446744073709551616; omega)
 unfold IntKind.wrap
 simp only [e]
 rw [if_neg]
 intro h
 simp only [Bool.and_eq_true] at h
 have := of_decide_eq_true h.2
 have : (9223372036854775808 : Int) ≤ n := this
 omega
theorem zjw_ {α : Type} (a : Array α) (x : α) (g : α → α) : (a.push x).modify a.size g = a.push (g x) := by
 apply Array.ext_getElem?
 intro i
 rw [Array.getElem?_modify, Array.getElem?_push, Array.getElem?_push]
 by_cases h : i = a.size
 ·subst h; simp
 ·rw [if_neg (fun e => h e.symm), if_neg h, if_neg h]
theorem zzp_ {e : TypeId} {b : ByteArray} (w : World) : ∃ (cap : Nat) (w' : World), (Conv.stringToBytes e b).run P w = .ok (.slice (some ⟨w.heap.size, 0, none⟩) b.size cap) w' ∧ b.size ≤ cap ∧
  w'.heap = w.heap.push (.cells ⟨zM_ b ++ List.replicate (cap - b.size) (.int .u8 0)⟩ e (cap, cap + 1)) ∧ w'.os = w.os ∧ w'.tape = w.tape ∧ w'.output = w.output := by
 let q : Question := .appendCap b.size 0 e
 let cap := q.cut (w.tape w.drawn q)
 have hcap : b.size ≤ cap := by simp [cap, q, Question.cut]
 have hc : (choose q).run P w = .ok cap { w with drawn := w.drawn + 1 } := by simp [q, cap, Question.forced]
 have hel : (b.data.map fun x => Value.int .u8 x.toNat) ++ Array.replicate (cap - b.size) (.int .u8 0) = (⟨zM_ b ++ List.replicate (cap - b.size) (.int .u8 0)⟩ : Array Value) := by
  apply Array.ext'; simp [zM_]
 have hsz : (⟨zM_ b ++ List.replicate (cap - b.size) (.int .u8 0)⟩ : Array Value).size = cap := by
  simp [zM_]
  have : b.data.size = b.size := rfl
  omega
 refine ⟨cap, { w with drawn := w.drawn + 1, heap := w.heap.push (.cells ⟨zM_ b ++ List.replicate (cap - b.size) (.int .u8 0)⟩ e (cap, cap + 1)) }, ?_, hcap, rfl, rfl, rfl, rfl⟩
 unfold Conv.stringToBytes
 simp only [Sem.run_bind]
 rw [show (choose (.appendCap b.size 0 e)).run P w = .ok cap { w with drawn := w.drawn + 1 } from hc]
 simp only [Result.andThen_ok, hel, newRow, Sem.run_bind, run_newObj, Sem.run_pure, markStringish, run_shape]
 have hshape : World.shape? { w with drawn := w.drawn + 1, heap := w.heap.push (.cells ⟨zM_ b ++ List.replicate (cap - b.size) (.int .u8 0)⟩ e) } w.heap.size = some (e, cap) := by
  simp only [World.shape?, Array.getElem?_push, if_true, hsz]
 rw [hshape]
 simp only [run_freeze, Result.andThen_ok]
 congr 1
 simp only [World.freeze]
 rw [if_neg (by omega)]
 simp only [zjw_]
 rfl
theorem zIo_ {o : Oper} {ro : AOp} {κ : ABlk → (Nat → Value) → Option R} (hr : zAx_ P G o = some ro) (h : zzh_ ro f κ = some r) : ∃ B mk, κ B mk = some r ∧ AS P G o f B mk := by
 obtain ⟨dst, op, type, pos, after, guard⟩ := o
 cases op <;> simp only [zAx_] at hr <;> try (cases hr; done)
 case alloc e =>
  simp only [Option.bind_eq_some_iff] at hr
  obtain ⟨z, hz, hr⟩ := hr
  cases hr
  refine ⟨_, _, h, fun μ H w a s fr => ?_⟩
  obtain ⟨zv, h1, h2, h3⟩ := zmj_ hz w
  refine ⟨_, _, _, w.alloc (.cells ⟨z⟩ e), ?_, rfl, rfl, rfl, rfl, fun ν hn => BR.fresh hn (.of_plain h3), fun id ν hm => .ptr (o := 0) hm⟩
  simp [execOp, Instr.alloc, h1, newVar, newRow, h2]
 case box e x =>
  obtain ⟨hg, rfl⟩ := zr_ hr
  simp only [zzh_, Option.bind_eq_some_iff] at h
  obtain ⟨v, hv, hk⟩ := h
  refine ⟨_, _, hk, fun μ H w a s fr => ?_⟩
  refine ⟨_, _, _, w.alloc (.cells (a.eval x).cells e), ?_, rfl, rfl, rfl, rfl, fun ν hn => BR.fresh hn (zy_ s fr hv hg).cells, fun id ν hm => .ptr (o := 0) hm⟩
  simp [execOp, Instr.box, newVar, newRow]
 case buildSlice t len parts =>
  split at hr
  ·rename_i e hu
   simp only [Option.bind_eq_some_iff] at hr
   obtain ⟨sz, hs, z, hz, hr⟩ := hr
   split at hr
   ·rename_i hc
    obtain ⟨hzl, hs0, hlen⟩ := hc
    obtain ⟨hg, rfl⟩ := zr_ hr
    simp only [zzh_, Option.bind_eq_some_iff] at h
    obtain ⟨ps, hps, out, hf, hk⟩ := h
    refine ⟨_, _, hk, fun μ H w a s fr => ?_⟩
    obtain ⟨zv, h1, h2, h3⟩ := zmj_ hz w
    obtain ⟨e1, e2⟩ := zHm_ s fr hps hg
    obtain ⟨out', q1, q2⟩ := zop_ (μ := μ) (fun i => some (i * sz, sz)) (parts.toList.map fun (i, x) => (i, a.eval x)) ps (zu_ len z) (zu_ len z) out (by simp [e1])
     (fun i k v hi => by
      simp at hi
      obtain ⟨k, x, hx, rfl, rfl⟩ := hi
      obtain ⟨us, h1, h2⟩ := e2 i (k * sz) sz x (by simp [hx])
      exact ⟨_, _, _, h1, rfl, h2⟩) (.of_plain (zjf_ h3 len)) hf
    refine ⟨_, _, _, w.alloc (.cells ⟨out'⟩ e), ?_, rfl, rfl, rfl, rfl, fun ν hn => BR.fresh hn q2, fun id ν hm => .slice (o := 0) hm rfl⟩
    have hzn : z ≠ [] := by intro e; subst e; simp at hzl; omega
    have hlen' : ¬ (2 ^ 24 < len * sz) := by omega
    have hrow := zWj_ z len hzn
    have hmap' : (parts.map fun x => (x.fst, a.eval x.snd)).toList = parts.toList.map fun (i, x) => (i, a.eval x) := by simp
    simp only [execOp, Instr.buildSlice, Sem.run_bind, run_underlying hu, run_sizeOf' hs, Result.andThen_ok, gt_iff_lt, hlen', if_false, Sem.run_pure]
    by_cases h0 : len * sz = 0
    ·have hl0 : len = 0 := by
      rcases Nat.mul_eq_zero.1 h0 with h | h
      ·exact h
      ·exact absurd h hs0
     subst hl0
     simp only [Nat.zero_mul, if_true, Sem.run_bind, Sem.run_pure, Result.andThen_ok]
     have : (Array.range 0).map (fun x => ((#[] : Array Value))[x % (#[] : Array Value).size]!) = (⟨zu_ 0 z⟩ : Array Value) := by
      apply Array.ext'; rw [zmc_]; simp
     rw [this, hmap', q1]
     simp [newRow]
    ·simp only [h0, if_false, Sem.run_bind, h1, Result.andThen_ok, Sem.run_pure, h2]
     have e3 : (⟨z⟩ : Array Value).size = z.length := rfl
     rw [e3, ← hzl, hrow, hmap', hzl, q1]
     simp [newRow]
   ·cases hr
  ·cases hr
 case makeSlice t l c =>
  split at hr
  ·rename_i e hu
   simp only [Option.bind_eq_some_iff] at hr
   obtain ⟨i, hi, z, hz, hr⟩ := hr
   split at hr
   ·rename_i hc
    obtain ⟨hg, rfl⟩ := zr_ hr
    simp only [Bool.and_eq_true] at hg
    simp only [zzh_] at h
    split at h
    ·rename_i k1 ln k2 cp hl hcp
     split at h
     ·rename_i hb
      refine ⟨_, _, h, fun μ H w a s fr => ?_⟩
      obtain ⟨zv, h1, h2, h3⟩ := zmj_ hz w
      have hs : szOf P e = some i.size := by simp [szOf, hi]
      refine ⟨_, _, _, w.alloc (.cells ⟨zu_ cp.toNat z⟩ e), ?_, rfl, rfl, rfl, rfl, fun ν hn => BR.fresh hn (.of_plain (zjf_ h3 cp.toNat)), fun id ν hm => .slice (o := 0) hm rfl⟩
      have w1 : IntKind.i64.wrap ln = ln := zIl_ hb.1 (by omega)
      have w2 : IntKind.i64.wrap cp = cp := zIl_ (by omega) hb.2.2.1
      have c1 : ¬ (cp < 0) := by omega
      have c2 : ¬ ((281474976710656 : Int) < i.bytes * cp) := by omega
      have c3 : ¬ (ln < 0) := by omega
      have c4 : ¬ (cp < ln) := by omega
      have hzn : z ≠ [] := by intro e; subst e; simp at hc; omega
      have hrow := zWj_ z cp.toNat hzn
      simp only [execOp, zfd_ s fr hl hg.1, zfd_ s fr hcp hg.2, Instr.makeSlice, Sem.run_bind, run_underlying hu, Result.andThen_ok, asInt, asIntOf, Sem.run_pure, typeInfo, run_program, hi, w1, w2]
      simp only [c1, c2, c3, c4, decide_false, Bool.or_false, Bool.false_eq_true, if_false, gt_iff_lt, run_askRoom, Result.andThen_ok, run_sizeOf' hs, Sem.run_bind,
       show (2 : Int) ^ 48 = 281474976710656 from rfl]
      by_cases h0 : cp.toNat * i.size = 0
      ·have hl0 : cp.toNat = 0 := by
        rcases Nat.mul_eq_zero.1 h0 with h | h
        ·exact h
        ·exact absurd h hc.2
       simp only [h0, if_true, Sem.run_bind, Sem.run_pure, Result.andThen_ok]
       have : (Array.range 0).map (fun x => ((#[] : Array Value))[x % (#[] : Array Value).size]!) = (⟨zu_ cp.toNat z⟩ : Array Value) := by
        apply Array.ext'; rw [zmc_, hl0]; simp
       rw [this]
       simp [newRow]
      ·simp only [h0, if_false, Sem.run_bind, h1, Result.andThen_ok, Sem.run_pure, h2]
       have e3 : (⟨z⟩ : Array Value).size = z.length := rfl
       rw [e3, ← hc.1, hrow]
       simp [newRow]
     ·cases h
    ·cases h
   ·cases hr
  ·cases hr
 case makeMap t rv =>
  cases rv <;> simp only at hr <;> cases hr
  refine ⟨_, _, h, fun μ H w a s fr => ?_⟩
  refine ⟨.map #[] 0, 0, _, w.alloc (.map #[] 0), ?_, rfl, rfl, rfl, rfl, fun ν hn => ⟨rfl, rfl, fun i e e' h => by simp at h⟩, fun id ν hm => .map hm⟩
  simp [execOp, Instr.makeMap]
 case convert src dst x =>
  split at hr
  ·rename_i e hu1 hu2
   split at hr
   ·rename_i hu8
    obtain ⟨hg, rfl⟩ := zr_ hr
    simp only [zzh_] at h
    split at h
    ·rename_i b hb
     refine ⟨_, _, h, fun μ H w a s fr => ?_⟩
     have hu3 : P.underlying e = some (.int .u8) := hu8
     obtain ⟨cap, w', h1, h2, h3, h4, h5, h6⟩ := zzp_ (P := P) (e := e) (b := b) w
     have hl : (zM_ b).length = b.size := by simp [zM_]
     refine ⟨_, cap, .slice (some ⟨w.heap.size, 0, none⟩) b.size cap, w', by simp [execOp, zqh_ s fr hb hg, convert, run_underlying hu1, run_underlying hu2, run_underlying hu3, h1], h3, h4, h5, h6, fun ν hn => ?_, fun id ν hm => ?_⟩
     ·refine ⟨rfl, by simp [hl]; omega, fun i v hv => ⟨v, ?_, ?_⟩, fun _ => ⟨rfl, fun i a b => ?_, fun m => absurd m (by decide)⟩, fun q => by cases q⟩
      ·have : i < (zM_ b).length := (List.getElem?_eq_some_iff.1 hv).1
       simp [List.getElem?_append_left this, hv]
      ·simp only [zM_, List.getElem?_map, Option.map_eq_some_iff] at hv
       obtain ⟨y, _, rfl⟩ := hv
       exact .int _ _
      ·simp [hl] at b; omega
     ·exact .slice (o := 0) hm ⟨h2, by show 0 + 0 + cap * 1 ≤ cap; omega⟩
    ·cases h
   ·cases hr
  ·cases hr
 case range t x =>
  split at hr
  ·rename_i hu
   obtain ⟨hg, rfl⟩ := zr_ hr
   simp only [zzh_] at h
   split at h
   ·rename_i b hb
    refine ⟨_, _, h, fun μ H w a s fr => ?_⟩
    refine ⟨.stringIter b 0, 0, _, w.alloc (.stringIter b 0), by simp [execOp, zqh_ s fr hb hg, Instr.range, run_underlying hu], rfl, rfl, rfl, rfl, fun ν hn => ⟨rfl, rfl, rfl⟩, fun id ν hm => .ptr hm⟩
   ·cases h
  ·cases hr
end
def Fd (rd : Option Nat) : Fence := { Fence.wide with round := rd }
theorem zOx_ {rd : Option Nat} {n : Nat} {P : Program} {f : FuncId} {args : Array Value} {w : World} {R : Ending → World → Prop} (h : Calls P f args w R) : CallsIn (Fd rd) n P f args w R :=
 callsIn_wide.2 h
theorem zyz_ {rd : Option Nat} {n : Nat} {P : Program} {row : String} {args : Array Value} {w : World} {R : Value → World → Prop} (h : Rows P row args w R) : RowsIn (Fd rd) n P row args w R :=
 fun c cs _ => let ⟨v, w', r, s⟩ := h c cs; ⟨v, w', r, stepsIn_wide.2 s⟩
section
variable {P : Program} {rd : Option Nat} {n : Nat}
theorem zyl_ {o : Oper} {a : Act} {next : Act → World → Prop} {Q : Exit → Act → World → Prop} {res : Result Next} (h : o.upon P a next Q res) : o.uponIn (Fd rd) n P a next Q res := by
 cases res with
 | ok x w' =>
  cases x <;> first
   | exact h
   | exact ⟨fun q => by simp [Fd, Fence.wide] at q, zOx_ h⟩
   | exact ⟨fun q => by simp [Fd, Fence.wide] at q, zyz_ h⟩
   | exact (show False from h).elim
 | halt x w' => cases x <;> exact h
theorem zXo_ {o : Oper} (hd : ∀ c, o.op ≠ .defer c) {a : Act} {w : World} {next : Act → World → Prop} {Q : Exit → Act → World → Prop} (h : o.wp P a w next Q) : o.wpIn (Fd rd) n P a w next Q := by
 refine ⟨fun _ _ => trivial, ?_⟩
 rw [Oper.semAt_plain (Fd rd) a.eval o hd]
 exact zyl_ h
end
section
variable {F : Fence} {n : Nat} {P : Program} {b : Frame} {a : Act} {k : List Item} {cs : List Frame} {w : World} {Q : Exit → Act → World → Prop}
theorem zpf_ {c : Code} : step P (lone (b.atR a (.code (.scope c) :: k)) cs w) = .next (lone (b.atR a (.code c :: .inScope c :: k)) cs w) :=
 step_lone_go (by simp [stepG, stepG.exec, Frame.atR])
theorem zkt_ {c : Code} : step P (lone (b.atR a (.inScope c :: k)) cs w) = .next (lone (b.atR a k) cs w) :=
 step_lone_go (by simp [stepG, stepG.exec, Frame.atR])
theorem zQh_ {c : Code} (h : c.wpIn F n P (Exit.noGoto Q) a w) : (Code.scope c).wpIn F n P Q a w := by
 intro b k cs hro hb hr
 have h0 : (lone (b.atR a (.code (.scope c) :: k)) cs w).fenced P F := fenced_calm hb hr rfl
 obtain ⟨e, a₁, w₁, hq, harr⟩ := h b (.inScope c :: k) cs hro hb hr
 cases e with
 | normal => exact ⟨.normal, a₁, w₁, hq, .head h0 zpf_ (StepsIn.trans harr (.one (fenced_calm hb hr rfl) zkt_))⟩
 | exit id =>
  have hx : exitTo id (.inScope c :: k) = exitTo id k := by simp [exitTo]
  exact ⟨.exit id, a₁, w₁, hq, fun k' hk => .head h0 zpf_ (harr.1 k' (by rw [hx]; exact hk)),
   fun hr' hk => let ⟨k₁, h1, h2⟩ := harr.2 hr' (by rw [hx]; exact hk); ⟨k₁, h1, .head h0 zpf_ h2⟩⟩
 | goto l => exact hq.elim
 | ret => exact ⟨_, a₁, w₁, hq, .of_steps (.one h0 zpf_) harr⟩
 | panic ch => exact ⟨_, a₁, w₁, hq, .of_steps (.one h0 zpf_) harr⟩
 | outgrown => exact ⟨_, a₁, w₁, hq, .of_steps (.one h0 zpf_) harr⟩
end
abbrev za_ := (R : Type) → FuncId → List Value → AHeap → (Value → AHeap → Option R) → Option R
inductive AMode where
 | slice | string | zeros
inductive EOp where
 | store (agg : Option Nat) (x y : Operand)
 | call (g : Operand) (args : List Operand)
 | append (size bytes : Nat) (elem : TypeId) (zero : List Value) (mode : AMode) (x y : Operand)
 | copy (size : Nat) (str : Bool) (x y : Operand)
 | mapUpd (str : KK) (x i v : Operand)
 | mapDel (str : KK) (x i : Operand)
 | clearM (x : Operand)
 | clearL (size : Nat) (zero : List Value) (x : Operand)
 | bad
 | nextS (x : Operand)
 | unsStr (elem : TypeId) (x y : Operand)
def st1 (a : Addr) (v : Value) (h : AHeap) : Option AHeap := h.wr1 a.block a.off v
def stL (n : Nat) (a : Addr) (cs : List Value) (h : AHeap) : Option AHeap := bif Nat.beq cs.length n then h.wrL a.block a.off cs else none
def rdS (size : Nat) (s : Slc) (h : AHeap) : Option (List Value) :=
 match s.a with
 | none => some []
 | some a => h.rdL a.block a.off (s.len * size)
def zl_ (size bytes : Nat) (elem : TypeId) (h : AHeap) (s : Slc) (new : List Value) (n : Nat) : Option (Slc × AHeap) :=
 if s.len + n ≤ s.cap then
  match s.a with
  | none => some (⟨none, 0, 0⟩, h)
  | some a => if n = 0 then some (⟨some a, s.len, s.cap⟩, h) else (h.wrL a.block (a.off + s.len * size) new).bind fun h' => some (⟨some a, s.len + n, s.cap⟩, h')
 else if 2 * (s.len + n) * bytes ≤ 281474976710656 ∧ 1 ≤ bytes then
  match s.a with
  | none => some (⟨some ⟨h.next, 0, some (size + 1)⟩, n, n⟩, h.new (.cells new elem true 0))
  | some a =>
   match a.spot with
   | some (k + 1) =>
    match h.get a.block with
    | some (.cells c e true fz) => if s.cap ≠ 0 ∧ a.off = 0 ∧ s.len * size ≤ c.length ∧ fz % 18446744073709551616 ≤ s.len * size ∧ k = size ∧ e = elem ∧ zI_ new = true then
      some (⟨some ⟨h.next, 0, some (size + 1)⟩, s.len + n, s.len + n⟩, (h.kill a.block).new (.cells (c.take (s.len * size) ++ new) elem true fz))
     else if s.cap ≠ 0 ∧ a.off + s.len * size ≤ c.length ∧ fz % 18446744073709551616 ≤ a.off + s.len * size ∧ k = size ∧ e = elem ∧ zI_ new = true then
      some (⟨some ⟨h.next, 0, some (size + 1)⟩, s.len + n, s.len + n⟩, (h.kill a.block).new (.cells ((c.drop a.off).take (s.len * size) ++ new) elem false 0)) else none
    | _ => none
   | _ => (h.rdL a.block a.off (s.len * size)).bind fun old => some (⟨some ⟨h.next, 0, some (size + 1)⟩, s.len + n, s.len + n⟩, h.new (.cells (old ++ new) elem true 0))
 else none
def zNb_ (size : Nat) (h : AHeap) (d : Slc) (n : Nat) (new : List Value) : Option AHeap :=
 match d.a with
 | none => some h
 | some a => h.wrL a.block a.off (new.take (n * size))
def zjC_ (a : Addr) (h : AHeap) : Option (ByteArray × Nat) :=
 if a.off = 0 then match h.get a.block with
  | some (.iter s p) => some (s, p)
  | _ => none
 else none
def updE (h : AHeap) (r : Nat) (key v : Value) : Option AHeap :=
 match h.get r with
 | some (.map es cl) => match zue_ key es 0 with
  | some (some p) => some (h.set r (.map (es.modify p.1 fun e => (key, v, e.2.2)) cl))
  | some none => some (h.set r (.map (es ++ [(key, v, cl)]) (cl + 1)))
  | none => none
 | _ => none
def delE (h : AHeap) (r : Nat) (key : Value) : Option AHeap :=
 match h.get r with
 | some (.map es cl) => match zue_ key es 0 with
  | some (some p) => some (h.set r (.map (es.eraseIdx p.1) cl))
  | some none => some (h.set r (.map es cl))
  | none => none
 | _ => none
def delM (h : AHeap) (m : Option Nat) (key : Value) : Option AHeap :=
 match m with
 | none => some h
 | some r => delE h r key
def clrE (h : AHeap) (r : Nat) : Option AHeap :=
 match h.get r with
 | some (.map _ cl) => some (h.set r (.map [] cl))
 | _ => none
def clrM (h : AHeap) (m : Option Nat) : Option AHeap :=
 match m with
 | none => some h
 | some r => clrE h r
def clrL (zero : List Value) (s : Slc) (h : AHeap) : Option AHeap :=
 match s.a with
 | none => some h
 | some a => h.wrL a.block a.off (zu_ s.len zero)
def unsA (elem : TypeId) (p : Option Addr) (n : Int) (h : AHeap) : Option (ByteArray × AHeap) :=
 if n = 0 then some (⟨#[]⟩, h) else
 match p with
 | none => none
 | some a => match h.get a.block with
  | some (.cells c e true fz) => if a.off = 0 ∧ 0 < n ∧ n ≤ 9223372036854775807 ∧ e = elem ∧ n.toNat ≤ c.length ∧ fz < 18446744073709551616 then
    (zYg_ (c.take n.toNat)).bind fun l => some (⟨⟨l⟩⟩, h.set a.block (.cells c e true (max fz n.toNat))) else none
  | _ => none
def yk (b : Nat) : FuncId := 18446744073709551616 + b
def zVc_ {R : Type} (C : za_) (v : Value) (vs : List Value) (h : AHeap) (κ : Value → AHeap → Option R) : Option R :=
 match v with
 | .func (.func n) first capt => C R n (first.toList ++ (vs ++ capt.toList)) h κ
 | .func (.yield b) first _ => C R (yk b) (first.toList ++ vs) h κ
 | _ => none
def deff {R : Type} (C : za_) (o : EOp) (f : PFr) (h : AHeap) (κ : Value → AHeap → Option R) : Option R :=
 match o with
 | .store none x y => match ev f x with
  | some (.pointer p) => p.bind fun a => (ev f y).bind fun v => (st1 a v h).bind fun h' => κ undef h'
  | _ => none
 | .store (some n) x y => match ev f x with
  | some (.pointer p) => p.bind fun a => match ev f y with
   | some (.agg cs) => (stL n a cs.toList h).bind fun h' => κ undef h'
   | _ => none
  | _ => none
 | .call g args => (ev f g).bind fun v => (evs f args).bind fun vs => zVc_ C v vs h κ
 | .append size bytes elem zero mode x y => match ev f x with
  | some (.slice a n c) => match mode with
   | .slice => match ev f y with
    | some (.slice a2 n2 c2) => (rdS size ⟨a2, n2, c2⟩ h).bind fun new => (zl_ size bytes elem h ⟨a, n, c⟩ new n2).bind fun r => κ (.slice r.1.a r.1.len r.1.cap) r.2
    | _ => none
   | .string => match ev f y with
    | some (.string s) => (zl_ size bytes elem h ⟨a, n, c⟩ (zM_ s) s.size).bind fun r => κ (.slice r.1.a r.1.len r.1.cap) r.2
    | _ => none
   | .zeros => match ev f y with
    | some (.int _ m) => if 0 ≤ m ∧ m ≤ 281474976710656 ∧ m * bytes ≤ 281474976710656 then (zl_ size bytes elem h ⟨a, n, c⟩ (zu_ m.toNat zero) m.toNat).bind fun r => κ (.slice r.1.a r.1.len r.1.cap) r.2 else none
    | _ => none
  | _ => none
 | .copy size str x y => match ev f x with
  | some (.slice a n c) => bif str then match ev f y with
    | some (.string s) => (zNb_ size h ⟨a, n, c⟩ (min s.size n) (zM_ s)).bind fun h' => κ (.int .i64 (min s.size n : Nat)) h'
    | _ => none
   else match ev f y with
    | some (.slice a2 n2 c2) => (rdS size ⟨a2, n2, c2⟩ h).bind fun new => (zNb_ size h ⟨a, n, c⟩ (min n2 n) new).bind fun h' => κ (.int .i64 (min n2 n : Nat)) h'
    | _ => none
  | _ => none
 | .mapUpd str x i v => match ev f x with
  | some (.map m) => m.bind fun r => (ev f i).bind fun key => bif zbc_ str key then (ev f v).bind fun v => (updE h r key v).bind fun h' => κ undef h' else none
  | _ => none
 | .mapDel str x i => match ev f x with
  | some (.map m) => (ev f i).bind fun key => bif zbc_ str key then (delM h m key).bind fun h' => κ undef h' else none
  | _ => none
 | .clearM x => match ev f x with
  | some (.map m) => (clrM h m).bind fun h' => κ undef h'
  | _ => none
 | .clearL size zero x => match ev f x with
  | some (.slice a n c) => bif Nat.beq zero.length size then (clrL zero ⟨a, n, c⟩ h).bind fun h' => κ undef h' else none
  | _ => none
 | .bad => none
 | .unsStr elem x y => match ev f x with
  | some (.pointer p) => match ev f y with
   | some (.int .i64 n) => (unsA elem p n h).bind fun r => κ (.string r.1) r.2
   | _ => none
  | _ => none
 | .nextS x => match ev f x with
  | some (.pointer p) => p.bind fun a => (zjC_ a h).bind fun sp =>
    if sp.2 < sp.1.size then κ (.tuple ⟨[.bool true, .int .i64 (sp.2 : Int), .int .i32 ((Utf8.decode sp.1 sp.2).1 : Int)]⟩) (h.set a.block (.iter sp.1 (sp.2 + (Utf8.decode sp.1 sp.2).2)))
    else κ (.tuple ⟨[.bool false]⟩) h
  | _ => none
def u8T (P : Program) (t : TypeId) : Bool := match P.underlying t with | some (.int .u8) => true | _ => false
def zTx_ (P : Program) (G : Nat) (o : Oper) : Option EOp :=
 match o.op with
 | .store t x y => (aggT P t).bind fun b => (szOf P t).bind fun n =>
   if b then chk (opG G x && opG G y) (.store (some n) x y) else if n = 1 then chk (opG G x && opG G y) (.store none x y) else none
 | .mapUpdate t m k v => match P.underlying t with
  | some (.map kt _) => (keyT P kt).bind fun str => chk (opG G m && opG G k && opG G v) (.mapUpd str m k v)
  | _ => none
 | .next x str => if str = true then chk (opG G x) (.nextS x) else none
 | .call c => match c.callee with
  | .value g => chk (opG G g && opsG G c.args.toList && Nat.ble P.funcs.size 18446744073709551616) (.call g c.args.toList)
  | .builtin .append => match c.args.toList, c.argTypes.toList with
   | [x, y], [t, u] => match P.underlying t, P.underlying u with
    | some (.slice e), some (.slice _) => (P.info? e).bind fun i => (zRc_ P e).bind fun z => if z.length = i.size ∧ i.size ≠ 0 then chk (opG G x && opG G y) (.append i.size i.bytes e z .slice x y) else none
    | some (.slice e), some .string => (P.info? e).bind fun i => (zRc_ P e).bind fun z => if i.size = 1 ∧ z.length = 1 ∧ u8T P e = true then chk (opG G x && opG G y) (.append i.size i.bytes e z .string x y) else none
    | some (.slice e), some (.int _) => (P.info? e).bind fun i => (zRc_ P e).bind fun z => if z.length = i.size ∧ i.size ≠ 0 then chk (opG G x && opG G y) (.append i.size i.bytes e z .zeros x y) else none
    | _, _ => none
   | _, _ => none
  | .builtin .unsafeString => match c.args.toList, c.argTypes.toList with
   | [x, y], [t, _] => match P.underlying t with
    | some (.pointer e) => if P.cellsOf e = 1 then chk (opG G x && opG G y) (.unsStr e x y) else none
    | _ => none
   | _, _ => none
  | .builtin .delete => match c.args.toList, c.argTypes.toList with
   | [x, y], t :: _ => match P.underlying t with
    | some (.map kt _) => (keyT P kt).bind fun str => chk (opG G x && opG G y) (.mapDel str x y)
    | _ => none
   | _, _ => none
  | .builtin .clear => match c.args.toList, c.argTypes.toList with
   | [x], [t] => match P.underlying t with
    | some (.map _ _) => chk (opG G x) (.clearM x)
    | some (.slice e) => (P.info? e).bind fun i => (zRc_ P e).bind fun z => if z.length = i.size ∧ i.size ≠ 0 then chk (opG G x) (.clearL i.size z x) else none
    | _ => none
   | _, _ => none
  | .builtin .copy => match c.args.toList, c.argTypes.toList with
   | [x, y], [t, u] => match P.underlying t, P.underlying u with
    | some (.slice e), some (.slice _) => (szOf P e).bind fun s => chk (opG G x && opG G y) (.copy s false x y)
    | some (.slice e), some .string => (szOf P e).bind fun s => if s = 1 ∧ u8T P e = true then chk (opG G x && opG G y) (.copy s true x y) else none
    | _, _ => none
   | _, _ => none
  | _ => none
 | _ => none
section
variable {G : Nat} {P : Program} {f : PFr} {R : Type} {r : R}
def zMl_ (P : Program) (μ : BMap) (g : FuncId) (args : Array Value) : Sem Next :=
 match P.funcs[g]? with
 | some _ => callFunc g args
 | none => if g < 18446744073709551616 then callFunc g args else match μ (g - 18446744073709551616) with
  | some p => Instr.yield p.1 args
  | none => callFunc g args
theorem zXe_ {P : Program} {μ : BMap} {g : FuncId} {fn : Func} (h : P.funcs[g]? = some fn) (args : Array Value) : zMl_ P μ g args = callFunc g args := by unfold zMl_; rw [h]
theorem zYA_ {P : Program} {μ : BMap} {g : FuncId} (h : g < 18446744073709551616) (args : Array Value) : zMl_ P μ g args = callFunc g args := by
 unfold zMl_
 split
 ·rfl
 ·rw [if_pos h]
theorem zQp_ {P : Program} {μ : BMap} {b : Nat} {p : Nat × Nat × Nat} (h : μ b = some p) (hs : P.funcs.size ≤ 18446744073709551616) (args : Array Value) : zMl_ P μ (yk b) args = Instr.yield p.1 args := by
 unfold zMl_ yk
 rw [Array.getElem?_eq_none (Nat.le_trans hs (Nat.le_add_right _ _))]
 simp only
 rw [if_neg (Nat.not_lt.2 (Nat.le_add_right _ _)), Nat.add_sub_cancel_left, h]
def zZD_ (P : Program) (m : Sem Next) (w : World) (K : Value → World → Prop) : Prop :=
 ∀ (rd : Option Nat) (o : Oper) (a : Act) (next : Act → World → Prop) (Q : Exit → Act → World → Prop), (∀ v' w', K v' w' → next (a.put o.dst v') w') → o.uponIn (Fd rd) 0 P a next Q (m.run P w)
def FnS (P : Program) (G : Nat) (g : FuncId) (args : List Value) (h : AHeap) (v : Value) (h' : AHeap) : Prop :=
 h.next ≤ h'.next ∧ ∀ (μ : BMap) (w : World) (args' : List Value), Sim G μ h w → Zed μ h.next h'.next → VRs μ args args' →
  zZD_ P (zMl_ P μ g ⟨args'⟩) w fun v' w' => ∃ μ', VR μ' v v' ∧ Step G μ h w μ' h' w'
def zf_ (P : Program) (G : Nat) (C : za_) : Prop :=
 ∀ (R : Type) g args h (κ : Value → AHeap → Option R) r, C R g args h κ = some r → ∃ v h', κ v h' = some r ∧ FnS P G g args h v h'
def OpS (P : Program) (G : Nat) (o : Oper) (f : PFr) (h : AHeap) (v : Value) (h' : AHeap) : Prop :=
 h.next ≤ h'.next ∧ ∀ (rd : Option Nat) (_ : ∀ c, o.op ≠ .defer c) (μ : BMap) (a : Act) (w : World), FR μ f a.tmps → Sim G μ h w → Zed μ h.next h'.next →
  ∀ (next : Act → World → Prop) (Q : Exit → Act → World → Prop), (∀ μ' v' w', VR μ' v v' → Step G μ h w μ' h' w' → next (a.put o.dst v') w') → o.wpIn (Fd rd) 0 P a w next Q
theorem OpS.of_run {o : Oper} {h h' : AHeap} {v : Value} (hn : h.next ≤ h'.next)
  (k : ∀ (μ : BMap) (a : Act) (w : World), FR μ f a.tmps → Sim G μ h w → Zed μ h.next h'.next → ∃ μ' v' w', (execOp a.eval o).run P w = .ok (.value v') w' ∧ VR μ' v v' ∧ Step G μ h w μ' h' w') : OpS P G o f h v h' := by
 refine ⟨hn, fun rd nd μ a w fr s z next Q hk => ?_⟩
 obtain ⟨μ', v', w', h1, h2, h3⟩ := k μ a w fr s z
 refine zXo_ nd ?_
 unfold Oper.wp
 rw [h1, Oper.upon_value]
 exact hk _ _ _ h2 h3
theorem OpS.of_skip {o : Oper} {h h' : AHeap} (hn : h.next ≤ h'.next)
  (k : ∀ (μ : BMap) (a : Act) (w : World), FR μ f a.tmps → Sim G μ h w → Zed μ h.next h'.next → ∃ μ' w', (execOp a.eval o).run P w = .ok .skip w' ∧ Step G μ h w μ' h' w') : OpS P G o f h undef h' := by
 refine ⟨hn, fun rd nd μ a w fr s z next Q hk => ?_⟩
 obtain ⟨μ', w', h1, h3⟩ := k μ a w fr s z
 refine zXo_ nd ?_
 unfold Oper.wp
 rw [h1, Oper.upon_skip]
 exact hk _ _ _ (.undef _) h3
theorem Step.world {μ μ' : BMap} {h h' : AHeap} {w w₁ w₂ : World} (s : Step G μ h w μ' h' w₁) (e : w₂.heap = w₁.heap) (eo : w₂.os = w₁.os) (et : w₂.tape = w₁.tape) (eu : w₂.output = w₁.output) :
  Step G μ h w μ' h' w₂ where
 sim := ⟨fun b B hb => by rw [e]; exact s.sim.blk b B hb, s.sim.inj, s.sim.lt, s.sim.glob, s.sim.gle⟩
 nx := s.nx
 same := s.same
 os := eo.trans s.os
 tape := et.trans s.tape
 output := eu.trans s.output
 size := by rw [e]; exact s.size
 old := fun c hc hno => by rw [e]; exact s.old c hc hno
 img := s.img
 keep := s.keep
theorem Step.new' {μ : BMap} {h : AHeap} {w w' : World} (s : Sim G μ h w) (zn : μ h.next = none) {B : ABlk} {O : Obj} {z : Nat}
  (hB : BR (μ.put h.next (w.heap.size, 0, z)) 0 z B O) (e : w'.heap = w.heap.push O) (eo : w'.os = w.os) (et : w'.tape = w.tape) (eu : w'.output = w.output) :
  Step G μ h w (μ.put h.next (w.heap.size, 0, z)) (h.new B) w' := (Step.new s zn hB).world e eo et eu
theorem zEB_ {h h' : AHeap} {b o : Nat} {v : Value} (e : h.wr1 b o v = some h') : h'.next = h.next := by
 unfold AHeap.wr1 at e
 split at e
 ·split at e
  ·cases e; rfl
  ·cases e
 ·cases e
theorem zWl_ {h h' : AHeap} {b o : Nat} {vs : List Value} (e : h.wrL b o vs = some h') : h'.next = h.next := by
 unfold AHeap.wrL at e
 split at e
 ·cases e; rfl
 ·split at e
  ·split at e
   ·cases e; rfl
   ·cases e
  ·cases e
theorem zhq_ {h : AHeap} {b o n : Nat} {l : List Value} (hr : h.rdL b o n = some l) (hn : 0 < n) : ∃ c e r fz, h.get b = some (.cells c e r fz) ∧ o + n ≤ c.length ∧ l = (c.drop o).take n := by
 unfold AHeap.rdL at hr
 split at hr
 ·omega
 ·split at hr
  ·rename_i c e r fz hb
   split at hr
   ·rename_i hle; cases hr; exact ⟨c, e, r, fz, hb, hle, rfl⟩
   ·cases hr
  ·cases hr
theorem zJe_ {a : Addr} {w w' : World} : ∀ (n i : Nat) (acc out : Array Value), (loadCellsFrom a i n acc).run P w = .ok out w' → (∀ j, j < n → (w.cell? (a.add (i + j))).isSome = true) →
  w' = w ∧ out.size = acc.size + n ∧ (∀ j, j < acc.size → out[j]? = acc[j]?) ∧ ∀ j, j < n → out[acc.size + j]? = w.cell? (a.add (i + j))
 | 0, i, acc, out, h, _ => by simp [loadCellsFrom] at h; obtain ⟨rfl, rfl⟩ := h; exact ⟨rfl, by simp, fun _ _ => rfl, fun j hj => by omega⟩
 | n + 1, i, acc, out, h, hc => by
  obtain ⟨v, hv⟩ := Option.isSome_iff_exists.1 (hc 0 (by omega))
  simp only [Nat.add_zero] at hv
  simp only [loadCellsFrom, Sem.run_bind, run_load, hv, Result.andThen_ok] at h
  obtain ⟨h1, h2, h3, h4⟩ := zJe_ n (i + 1) (acc.push v) out h (fun j hj => by have := hc (j + 1) (by omega); rwa [show i + (j + 1) = i + 1 + j by omega] at this)
  refine ⟨h1, by simp at h2; omega, fun j hj => ?_, fun j hj => ?_⟩
  ·rw [h3 j (by simp; omega), Array.getElem?_push, if_neg (by omega)]
  ·cases j with
   | zero => rw [Nat.add_zero, h3 acc.size (by simp), Nat.add_zero, hv]; simp
   | succ j =>
    have := h4 j (by omega)
    simp only [Array.size_push] at this
    rw [show acc.size + (j + 1) = acc.size + 1 + j by omega, this, show i + (j + 1) = i + 1 + j by omega]
theorem zSw_ {μ : BMap} {h : AHeap} {w : World} (s : Sim G μ h w) {size : Nat} {a : Option Addr} {n c : Nat} {v' : Value} {l : List Value} (hv : VR μ (.slice a n c) v') (hr : rdS size ⟨a, n, c⟩ h = some l) :
  ∃ l', (∀ w₂ : World, w₂.heap = w.heap → (Builtin.firstCells size n v').run P w₂ = .ok ⟨l'⟩ w₂) ∧ VRs μ l l' ∧ l.length = n * size := by
 unfold rdS at hr
 cases hv with
 | nilSlice => cases hr; exact ⟨[], fun w₂ _ => by simp [Builtin.firstCells], .nil μ, by simp⟩
 | slice hm hc =>
  rename_i b o cb d z m' sp
  simp only at hr
  obtain ⟨l', h1, h2, h3⟩ := s.loads (P := P) hm hr
  refine ⟨l', fun w₂ e => ?_, h2, h3⟩
  have s₂ : Sim G μ h w₂ := ⟨fun b B hb => by rw [e]; exact s.blk b B hb, s.inj, s.lt, s.glob, s.gle⟩
  obtain ⟨l'', q1, q2, q3⟩ := s₂.loads (P := P) hm hr
  have hcell : ∀ a, w₂.cell? a = w.cell? a := fun a => by simp [World.cell?, e]
  have some' : ∀ j, j < n * size → (w.cell? (Addr.add ⟨cb, d + o, none⟩ (0 + j))).isSome = true := fun j hj => by
   obtain ⟨c, e, r, fz, hb, hle, _⟩ := zhq_ hr (by omega)
   have hlt : o + j < c.length := by omega
   obtain ⟨v', hv', _⟩ := s.cell hm (o := o + j) (v := c[o + j]) (by simp [AHeap.rd1, hb, hlt])
   rw [Addr.add_lit, Nat.zero_add, Nat.add_assoc, hv']; rfl
  obtain ⟨_, a2, _, a4⟩ := zJe_ (P := P) _ 0 #[] ⟨l'⟩ h1 some'
  obtain ⟨_, b2, _, b4⟩ := zJe_ (P := P) _ 0 #[] ⟨l''⟩ q1 (fun j hj => by rw [hcell]; exact some' j hj)
  have : l'' = l' := by
   apply List.ext_getElem?
   intro i
   by_cases hi : i < n * size
   ·have h1 := a4 i hi
    have h2 := b4 i hi
    rw [hcell] at h2
    simp at h1 h2
    rw [h1, h2]
   ·rw [List.getElem?_eq_none (by simp at b2; omega), List.getElem?_eq_none (by simp at a2; omega)]
  subst this
  simp [Builtin.firstCells, q1]
 | empty _ =>
  simp [AHeap.rdL] at hr; subst hr
  exact ⟨[], fun w₂ _ => by simp [Builtin.firstCells, loadCells, loadCellsFrom], .nil μ, by simp⟩
end
end Gx
