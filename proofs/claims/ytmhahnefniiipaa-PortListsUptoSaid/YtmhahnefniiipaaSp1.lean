import Derived.KernelRfl
import Derived.Sort.Walk0
import Derived.Test.YtmhahnefniiipaaFn1
namespace Gs
open Go Gx
abbrev En := ByteArray × ByteArray × Nat
def encE (e : En) : Value × Value × Nat := (.string e.1, .string e.2.1, e.2.2)
def fd (n : ByteArray) : List En → Nat → Option (Nat × ByteArray)
 | [], _ => none
 | e :: es, i => if e.1 = n then some (i, e.2.1) else fd n es (i + 1)
def lk (n : ByteArray) : List En → Option ByteArray
 | [] => none
 | e :: es => if e.1 = n then some e.2.1 else lk n es
def pt (n d : ByteArray) (cl : Nat) : List En → List En
 | [] => [(n, d, cl)]
 | e :: es => if e.1 = n then (n, d, e.2.2) :: es else e :: pt n d cl es
def rm (n : ByteArray) : List En → List En
 | [] => []
 | e :: es => if e.1 = n then es else e :: rm n es
def room (n : ByteArray) (es : List En) : Nat := match lk n es with | some d => n.size + d.size | none => 0
def tot : List En → Nat
 | [] => 0
 | e :: es => e.1.size + e.2.1.size + tot es
theorem findE_fd (n : ByteArray) : ∀ (es : List En) (i : Nat), findE (.string n) (es.map encE) i = some ((fd n es i).map fun p => (p.1, .string p.2))
 | [], _ => rfl
 | e :: es, i => by
  have ih := findE_fd n es (i + 1)
  simp only [List.map_cons, encE, findE, keyEq, fd]
  by_cases h : e.1 = n
  ·have hb : (n == n) = true := by rw [ba_beq]; simp
   rw [if_pos h, h, hb]; rfl
  ·have hb : (n == e.1) = false := by rw [ba_beq]; simpa using fun q => h q.symm
   rw [if_neg h, hb]
   simpa [encE] using ih
theorem fd_lk (n : ByteArray) : ∀ (es : List En) (i : Nat), (fd n es i).map (·.2) = lk n es
 | [], _ => rfl
 | e :: es, i => by
  simp only [fd, lk]
  by_cases h : e.1 = n
  ·rw [if_pos h, if_pos h]; rfl
  ·rw [if_neg h, if_neg h]; exact fd_lk n es (i + 1)
theorem fd_ge {n : ByteArray} : ∀ {es : List En} {i : Nat} {p}, fd n es i = some p → i ≤ p.1
 | [], _, _, h => by cases h
 | e :: es, i, p, h => by
  simp only [fd] at h
  split at h
  ·cases h; exact Nat.le_refl _
  ·have := fd_ge h; omega
theorem fd_mod {n d : ByteArray} {cl : Nat} : ∀ {es : List En} {i : Nat} {p}, fd n es i = some p → (es.map encE).modify (p.1 - i) (fun e => (.string n, .string d, e.2.2)) = (pt n d cl es).map encE
 | [], _, _, h => by cases h
 | e :: es, i, p, h => by
  simp only [fd] at h
  split at h
  ·rename_i q
   cases h
   simp only [Nat.sub_self, pt, if_pos q]; rfl
  ·rename_i q
   have h1 := fd_ge h
   have ih := fd_mod (d := d) (cl := cl) h
   simp only [pt, if_neg q, List.map_cons]
   rw [show p.1 - i = (p.1 - (i + 1)) + 1 by omega, List.modify_succ_cons, ih]
theorem fd_none {n d : ByteArray} {cl : Nat} : ∀ {es : List En} {i : Nat}, fd n es i = none → es.map encE ++ [(.string n, .string d, cl)] = (pt n d cl es).map encE
 | [], _, _ => rfl
 | e :: es, i, h => by
  simp only [fd] at h
  split at h
  ·cases h
  ·rename_i q
   simp only [pt, if_neg q, List.map_cons, List.cons_append]
   rw [fd_none h]
theorem fd_del {n : ByteArray} : ∀ {es : List En} {i : Nat} {p}, fd n es i = some p → (es.map encE).eraseIdx (p.1 - i) = (rm n es).map encE
 | [], _, _, h => by cases h
 | e :: es, i, p, h => by
  simp only [fd] at h
  split at h
  ·rename_i q
   cases h
   simp only [Nat.sub_self, rm, if_pos q]; rfl
  ·rename_i q
   have h1 := fd_ge h
   have ih := fd_del h
   simp only [rm, if_neg q, List.map_cons]
   rw [show p.1 - i = (p.1 - (i + 1)) + 1 by omega, List.eraseIdx_cons_succ, ih]
theorem rm_none {n : ByteArray} : ∀ {es : List En}, lk n es = none → rm n es = es
 | [], _ => rfl
 | e :: es, h => by
  simp only [lk] at h
  split at h
  ·cases h
  ·rename_i q; simp only [rm, if_neg q]; rw [rm_none h]
theorem fd_some {n : ByteArray} {es : List En} {i : Nat} {d : ByteArray} (h : lk n es = some d) : ∃ j, fd n es i = some (j, d) := by
 have := fd_lk n es i
 rw [h] at this
 cases hf : fd n es i with
 | none => rw [hf] at this; cases this
 | some p => rw [hf] at this; simp at this; exact ⟨p.1, by rw [← this]⟩
theorem fd_no {n : ByteArray} {es : List En} {i : Nat} (h : lk n es = none) : fd n es i = none := by
 have := fd_lk n es i
 rw [h] at this
 cases hf : fd n es i with
 | none => rfl
 | some p => rw [hf] at this; cases this
theorem tot_pt {n d : ByteArray} {cl : Nat} : ∀ es, tot (pt n d cl es) + room n es = tot es + (n.size + d.size)
 | [] => by simp [pt, tot, room, lk]
 | e :: es => by
  have ih := tot_pt (n := n) (d := d) (cl := cl) es
  by_cases h : e.1 = n
  ·simp only [pt, if_pos h, tot, room, lk]; rw [← h]; omega
  ·have hr : room n (e :: es) = room n es := by simp only [room, lk, if_neg h]
   simp only [pt, if_neg h, tot, hr]; omega
theorem tot_rm {n : ByteArray} : ∀ es, tot (rm n es) + room n es = tot es
 | [] => rfl
 | e :: es => by
  have ih := tot_rm (n := n) es
  by_cases h : e.1 = n
  ·simp only [rm, if_pos h, tot, room, lk]; rw [← h]; omega
  ·have hr : room n (e :: es) = room n es := by simp only [room, lk, if_neg h]
   simp only [rm, if_neg h, tot, hr]; omega
theorem room_le {n : ByteArray} (es : List En) : room n es ≤ tot es := by have := tot_rm (n := n) es; omega
structure PS where
 quota : Nat
 fails : Nat
 calls : Nat
 down : Bool
 es : List En
 cl : Nat
structure Good (es : List En) (cl : Nat) : Prop where
 keys : (es.map (·.1)).Nodup
 births : (es.map (·.2.2)).Nodup
 old : ∀ e ∈ es, e.2.2 < cl
 small : ∀ e ∈ es, e.1.size ≤ 96 ∧ e.2.1.size ≤ 131072
theorem tot_le {es : List En} {cl : Nat} (g : Good es cl) : tot es ≤ es.length * 131168 := by
 have : ∀ es : List En, (∀ e ∈ es, e.1.size ≤ 96 ∧ e.2.1.size ≤ 131072) → tot es ≤ es.length * 131168 := by
  intro es
  induction es with
  | nil => intro _; exact Nat.le_refl _
  | cons e es ih =>
   intro h
   have h1 := h e (by simp)
   have h2 := ih fun x hx => h x (by simp [hx])
   simp only [tot, List.length_cons]; omega
 exact this es g.small
theorem mem_pt {n d : ByteArray} {cl : Nat} : ∀ {es : List En} {x : En}, x ∈ pt n d cl es → x ∈ es ∨ (x.1 = n ∧ x.2.1 = d ∧ (x.2.2 = cl ∨ ∃ y ∈ es, x.2.2 = y.2.2))
 | [], x, h => by simp [pt] at h; subst h; exact .inr ⟨rfl, rfl, .inl rfl⟩
 | e :: es, x, h => by
  simp only [pt] at h
  split at h
  ·rcases List.mem_cons.1 h with rfl | h
   ·exact .inr ⟨rfl, rfl, .inr ⟨e, by simp, rfl⟩⟩
   ·exact .inl (by simp [h])
  ·rcases List.mem_cons.1 h with rfl | h
   ·exact .inl (by simp)
   ·rcases mem_pt h with h | ⟨h1, h2, h3⟩
    ·exact .inl (by simp [h])
    ·exact .inr ⟨h1, h2, h3.imp id fun ⟨y, hy, e⟩ => ⟨y, by simp [hy], e⟩⟩
theorem keys_pt {n d : ByteArray} {cl : Nat} : ∀ {es : List En}, (pt n d cl es).map (·.1) = if (lk n es).isSome then es.map (·.1) else es.map (·.1) ++ [n]
 | [] => rfl
 | e :: es => by
  have ih := keys_pt (n := n) (d := d) (cl := cl) (es := es)
  by_cases h : e.1 = n
  ·simp [pt, lk, h]
  ·simp only [pt, lk, if_neg h, List.map_cons, ih]
   split <;> rfl
theorem births_pt {n d : ByteArray} {cl : Nat} : ∀ {es : List En}, (pt n d cl es).map (·.2.2) = if (lk n es).isSome then es.map (·.2.2) else es.map (·.2.2) ++ [cl]
 | [] => rfl
 | e :: es => by
  have ih := births_pt (n := n) (d := d) (cl := cl) (es := es)
  by_cases h : e.1 = n
  ·simp [pt, lk, h]
  ·simp only [pt, lk, if_neg h, List.map_cons, ih]
   split <;> rfl
theorem lk_mem {n : ByteArray} : ∀ {es : List En}, (lk n es).isSome = true ↔ n ∈ es.map (·.1)
 | [] => by simp [lk]
 | e :: es => by
  simp only [lk, List.map_cons, List.mem_cons]
  by_cases h : e.1 = n
  ·simp [h]
  ·rw [if_neg h, lk_mem]; exact ⟨.inr, fun q => q.resolve_left fun e' => h e'.symm⟩
theorem rm_sub (n : ByteArray) : ∀ es : List En, (rm n es).Sublist es
 | [] => .slnil
 | e :: es => by
  simp only [rm]
  split
  ·exact List.sublist_cons_self _ _
  ·exact (rm_sub n es).cons_cons _
def clk (n : ByteArray) (es : List En) (cl : Nat) : Nat := if (lk n es).isSome then cl else cl + 1
theorem Good.pt {es : List En} {cl : Nat} (g : Good es cl) {n d : ByteArray} (hn : n.size ≤ 96) (hd : d.size ≤ 131072) : Good (pt n d cl es) (clk n es cl) where
 keys := by
  rw [keys_pt]
  split
  ·exact g.keys
  ·rename_i h
   rw [lk_mem] at h
   exact List.nodup_append.2 ⟨g.keys, by simp, fun a ha b hb => by simp at hb; subst hb; exact fun e => h (e ▸ ha)⟩
 births := by
  rw [births_pt]
  split
  ·exact g.births
  ·refine List.nodup_append.2 ⟨g.births, by simp, fun a ha b hb => ?_⟩
   simp at hb; subst hb
   obtain ⟨e, he, rfl⟩ := List.mem_map.1 ha
   have := g.old e he; omega
 old := by
  intro e he
  unfold clk
  rcases mem_pt he with h | ⟨h1, h2, h3⟩
  ·have := g.old e h; split <;> omega
  ·rcases h3 with h3 | ⟨y, hy, h3⟩
   ·split
    ·rename_i q
     have : e.2.2 ∈ (Gs.pt n d cl es).map (·.2.2) := List.mem_map.2 ⟨e, he, rfl⟩
     rw [births_pt, if_pos q] at this
     obtain ⟨y, hy, e1⟩ := List.mem_map.1 this
     have := g.old y hy; omega
    ·omega
   ·have := g.old y hy; split <;> omega
 small := by
  intro e he
  rcases mem_pt he with h | ⟨h1, h2, _⟩
  ·exact g.small e h
  ·rw [h1, h2]; exact ⟨hn, hd⟩
theorem Good.rm {es : List En} {cl : Nat} (g : Good es cl) (n : ByteArray) : Good (rm n es) cl :=
 ⟨g.keys.sublist ((rm_sub n es).map _), g.births.sublist ((rm_sub n es).map _), fun e he => g.old e ((rm_sub n es).subset he), fun e he => g.small e ((rm_sub n es).subset he)⟩
theorem len_pt {n d : ByteArray} {cl : Nat} : ∀ es : List En, (pt n d cl es).length ≤ es.length + 1
 | [] => Nat.le_refl _
 | e :: es => by
  have := len_pt (n := n) (d := d) (cl := cl) es
  simp only [pt]; split <;> simp <;> omega
structure SR (h : AHeap) (sb rb : Nat) (p : PS) : Prop where
 blk : ∃ e, h.get sb = some (.cells [.int .i64 p.quota, .int .i64 (tot p.es), .int .i64 p.fails, .bool p.down, .map (some rb), .int .i64 p.calls] e true 0)
 mp : h.get rb = some (.map (p.es.map encE) p.cl)
 lt : sb < h.next ∧ rb < h.next
def SB (sb rb : Nat) (y : Nat) : Prop := y = sb ∨ y = rb
theorem SR.ne {h : AHeap} {sb rb : Nat} {p : PS} (s : SR h sb rb p) : sb ≠ rb := by
 rintro rfl
 obtain ⟨e, hb⟩ := s.blk
 rw [s.mp] at hb; cases hb
theorem SR.keeps {h h' : AHeap} {sb rb : Nat} {p : PS} (s : SR h sb rb p) (k : Keeps h h') : SR h' sb rb p := by
 obtain ⟨e, hb⟩ := s.blk
 exact ⟨⟨e, (k.oth _ s.lt.1 fun f => f).trans hb⟩, (k.oth _ s.lt.2 fun f => f).trans s.mp, Nat.lt_of_lt_of_le s.lt.1 k.nx, Nat.lt_of_lt_of_le s.lt.2 k.nx⟩
theorem SR.chg {S : Nat → Prop} {h h' : AHeap} {sb rb : Nat} {p : PS} (s : SR h sb rb p) (k : Chg S h h') (h1 : ¬ S sb) (h2 : ¬ S rb) : SR h' sb rb p := by
 obtain ⟨e, hb⟩ := s.blk
 exact ⟨⟨e, (k.oth _ s.lt.1 h1).trans hb⟩, (k.oth _ s.lt.2 h2).trans s.mp, Nat.lt_of_lt_of_le s.lt.1 k.nx, Nat.lt_of_lt_of_le s.lt.2 k.nx⟩
theorem st1_sb {h : AHeap} {b o : Nat} {c : List Value} {e : TypeId} {v : Value} (hb : h.get b = some (.cells c e true 0)) (ho : o < c.length) (hv : one v = true) : Gx.st1 ⟨b, o, none⟩ v h = some (h.set b (.cells (c.set o v) e true 0)) := by
 simp only [Gx.st1, AHeap.wr1, hb]
 rw [if_pos ⟨ho, Nat.zero_le _, hv⟩]
theorem ldM_at {h : AHeap} {b o : Nat} {sp : Option Nat} {c : List Value} {e : TypeId} {r : Bool} {fz : Nat} {m : Option Nat} (hb : h.get b = some (.cells c e r fz)) (hc : c[o]? = some (.map m)) : ldM ⟨b, o, sp⟩ h = some m := by
 simp only [ldM, AHeap.rd1, hb, hc]; rfl
theorem ldB_at {h : AHeap} {b o : Nat} {sp : Option Nat} {c : List Value} {e : TypeId} {r : Bool} {fz : Nat} {m : Bool} (hb : h.get b = some (.cells c e r fz)) (hc : c[o]? = some (.bool m)) : ldB ⟨b, o, sp⟩ h = some m := by
 simp only [ldB, AHeap.rd1, hb, hc]; rfl
theorem look_some {h : AHeap} {rb cl : Nat} {es : List En} (hm : h.get rb = some (.map (es.map encE) cl)) {n d : ByteArray} (hl : lk n es = some d) : lookE decS (.string ⟨#[]⟩) h (some rb) (.string n) = some (d, true) := by
 obtain ⟨j, hj⟩ := fd_some (i := 0) hl
 simp only [lookE, hm, findE_fd, hj]; rfl
theorem look_none {h : AHeap} {rb cl : Nat} {es : List En} (hm : h.get rb = some (.map (es.map encE) cl)) {n : ByteArray} (hl : lk n es = none) : lookE decS (.string ⟨#[]⟩) h (some rb) (.string n) = some (⟨#[]⟩, false) := by
 simp only [lookE, hm, findE_fd, fd_no hl]; rfl
theorem upd_at {h : AHeap} {rb cl : Nat} {es : List En} (hm : h.get rb = some (.map (es.map encE) cl)) (n d : ByteArray) : updE h rb (.string n) (.string d) = some (h.set rb (.map ((pt n d cl es).map encE) (clk n es cl))) := by
 unfold clk
 cases hl : lk n es with
 | none =>
  simp only [updE, hm, findE_fd, fd_no hl, Option.map_none, Option.isSome_none]
  rw [fd_none (i := 0) (fd_no hl)]; rfl
 | some d' =>
  obtain ⟨j, hj⟩ := fd_some (i := 0) hl
  have := fd_mod (d := d) (cl := cl) hj
  simp only [Nat.sub_zero] at this
  simp only [updE, hm, findE_fd, hj, Option.map_some, Option.isSome_some]
  rw [this]; rfl
theorem del_at {h : AHeap} {rb cl : Nat} {es : List En} (hm : h.get rb = some (.map (es.map encE) cl)) (n : ByteArray) : delM h (some rb) (.string n) = some (h.set rb (.map ((rm n es).map encE) cl)) := by
 cases hl : lk n es with
 | none =>
  simp only [delM, delE, hm, findE_fd, fd_no hl, Option.map_none]
  rw [rm_none hl]
 | some d' =>
  obtain ⟨j, hj⟩ := fd_some (i := 0) hl
  have := fd_del hj
  simp only [Nat.sub_zero] at this
  simp only [delM, delE, hm, findE_fd, hj, Option.map_some]
  rw [this]
def okB (c : UInt8) : Bool := decide (32 < c.toNat) && decide (c.toNat < 127)
def mayB (n : ByteArray) : Bool := (bl n).all okB && decide (n ≠ ⟨#[]⟩) && decide (n.size ≤ 96)
def fitsC (n d : ByteArray) : Nat := if mayB n = false then 3 else if 131072 < d.size then 2 else 0
end Gs
namespace Gs
open Go Gx
theorem okB_bad {c : UInt8} (h : ((c.toNat : Int) ≤ 32)) : okB c = false := by
 unfold okB; rw [decide_eq_false (show ¬ 32 < c.toNat by omega)]; rfl
theorem okB_eq {c : UInt8} (h : ¬ ((c.toNat : Int) ≤ 32)) : decide ((c.toNat : Int) ≥ 127) = !okB c := by
 unfold okB
 rw [decide_eq_true (show 32 < c.toNat by omega), Bool.true_and]
 by_cases q : c.toNat < 127
 ·rw [decide_eq_true q, decide_eq_false (by omega)]; rfl
 ·rw [decide_eq_false q, decide_eq_true (by omega)]; rfl
theorem may_l0 (K : Nat) (D : CallF) (j3) (bot) {n : ByteArray} {b : Nat} {h0 : AHeap} (hb : h0.get b = some (.cells (bytesL n) 5 true 0)) (hs : n.size ≤ 9223372036854775807) {Q : Bool × AHeap → Prop}
  (hj : (bl n).all okB = true → Gx.Wp (j3 n h0) Q) (hf : (bl n).all okB = false → Q (false, h0)) :
  ∀ (d i : Nat), i + d = n.size → ((bl n).take i).all okB = true → Gx.Wp (iterK bot (d + 1) (store_may_l0b K D j3) n (⟨(some ⟨b, 0, some 2⟩), n.size, n.size⟩ : Slc) (n.size : Int) (i : Int) h0) Q := fun d => by
 have hl : (bl n).length = n.size := rfl
 induction d with
 | zero =>
  intro i hi ha
  rw [iterK_s]; simp only [store_may_l0b]
  obtain rfl : i = n.size := by omega
  refine Gx.Wp.ifn (by simp) (hj ?_)
  rw [← hl, List.take_length] at ha; exact ha
 | succ d ih =>
  intro i hi ha
  rw [iterK_s]; simp only [store_may_l0b]
  obtain ⟨c, hc⟩ := isome (l := bl n) (i := i) (by omega)
  refine Gx.Wp.ifp (by simp; omega) ?_
  refine Gx.Wp.bnd (idxL_out (by omega)) (Gx.Wp.bnd (sldI_at hb (x := (c.toNat : Int)) ?_) ?_)
  ·show (List.map _ n.data.toList)[i]? = _
   rw [List.getElem?_map]
   have : n.data.toList[i]? = some c := hc
   rw [this]; rfl
  have hall : ((bl n).take (i + 1)).all okB = okB c := by
   rw [List.take_add_one, hc, List.all_append, ha]; simp
  have fin : okB c = false → (bl n).all okB = false := by
   intro q
   rw [← Bool.not_eq_true]
   intro q2
   rw [List.all_eq_true] at q2
   rw [q2 c (mem_of hc)] at q; cases q
  refine Gx.Wp.jn fun j hj' => ?_
  by_cases h1 : (c.toNat : Int) ≤ 32
  ·refine Gx.Wp.ifp (by simpa using h1) ?_
   subst hj'
   exact Gx.Wp.ifp rfl (Gx.Wp.of (hf (fin (okB_bad h1))))
  ·refine Gx.Wp.ifn (by simpa using h1) ?_
   subst hj'
   rw [okB_eq h1]
   cases hk : okB c with
   | false => exact Gx.Wp.ifp rfl (Gx.Wp.of (hf (fin hk)))
   | true =>
    refine Gx.Wp.ifn (by decide) ?_
    rw [Gx.w1 (by omega)]
    exact ih (i + 1) (by omega) (by rw [hall]; exact hk)
theorem may_spec {k : Nat} (D : CallF) {h : AHeap} (n : ByteArray) (hk : n.size < k) (hs : n.size ≤ 9223372036854775807) :
  Gx.Wp (store_may k D n h) fun q => q.1 = mayB n ∧ Keeps h q.2 := by
 simp only [store_may]
 refine Gx.Wp.jn fun j hj => ?_
 have k1 : Keeps h (h.new (.cells (bytesL n) 5 true 0)) := Keeps.new h _
 unfold store_may_l0
 obtain ⟨bot, eb⟩ := iterK_of (fun _ _ _ _ _ => none) (store_may_l0b k D j) (show n.size + 1 ≤ k by omega)
 rw [eb]
 refine may_l0 k D j bot (h0 := h.new (.cells (bytesL n) 5 true 0)) (b := h.next) (by simp) hs (fun ha => ?_) (fun ha => ⟨by simp only [mayB, ha]; rfl, k1⟩) n.size 0 (by omega) rfl
 subst hj
 by_cases he : n = ⟨#[]⟩
 ·have : (!(n == (⟨#[]⟩ : ByteArray))) = false := by rw [ba_beq, decide_eq_true he]; rfl
  exact Gx.Wp.ifn (by rw [this]; decide) (Gx.Wp.of ⟨by simp [mayB, he], k1⟩)
 ·have : (!(n == (⟨#[]⟩ : ByteArray))) = true := by rw [ba_beq, decide_eq_false he]; rfl
  refine Gx.Wp.ifp this (Gx.Wp.of ⟨?_, k1⟩)
  simp only [mayB, ha, Bool.true_and, decide_eq_true (show n ≠ ⟨#[]⟩ from he)]
  by_cases q : n.size ≤ 96
  ·rw [decide_eq_true q, decide_eq_true (by omega)]
  ·rw [decide_eq_false q, decide_eq_false (by omega)]
theorem fits_spec {k : Nat} (D : CallF) {h : AHeap} (n d : ByteArray) (hk : n.size < k) (hs : n.size ≤ 9223372036854775807) :
  Gx.Wp (store_fits k D n d h) fun q => q.1 = (fitsC n d : Int) ∧ Keeps h q.2 := by
 simp only [store_fits]
 refine Gx.Wp.call (may_spec D n hk hs) fun r hr => ?_
 rw [hr.1]
 unfold fitsC
 cases hm : mayB n with
 | false => exact Gx.Wp.ifp rfl (Gx.Wp.of ⟨rfl, hr.2⟩)
 | true =>
  refine Gx.Wp.ifn (by decide) ?_
  by_cases q : 131072 < d.size
  ·exact Gx.Wp.ifp (by simp; omega) (Gx.Wp.of ⟨by simp [q], hr.2⟩)
  ·exact Gx.Wp.ifn (by simp; omega) (Gx.Wp.of ⟨by simp [q], hr.2⟩)
theorem fits0 {n d : ByteArray} (h : fitsC n d = 0) : n.size ≤ 96 ∧ d.size ≤ 131072 ∧ mayB n = true := by
 unfold fitsC at h
 split at h
 ·cases h
 ·rename_i hm
  split at h
  ·cases h
  ·rename_i hd
   have : mayB n = true := by simpa using hm
   simp only [mayB, Bool.and_eq_true, decide_eq_true_eq] at this
   exact ⟨this.2, by omega, by simpa using hm⟩
theorem room_spec {k : Nat} (D : CallF) {h : AHeap} {sb rb : Nat} {p : PS} (s : SR h sb rb p) (g : Good p.es p.cl) (n : ByteArray) :
  store_Store_room k D (some ⟨sb, 0, none⟩) n h = some ((room n p.es : Int), h) := by
 obtain ⟨e, hb⟩ := s.blk
 simp only [store_Store_room]
 refine bnd rfl (bnd (ldM_at (m := some rb) hb rfl) ?_)
 unfold room
 cases hl : lk n p.es with
 | none => rw [look_none s.mp hl]; rfl
 | some d =>
  rw [look_some s.mp hl]
  obtain ⟨q, hq, he, hd⟩ : ∃ q ∈ p.es, q.1 = n ∧ q.2.1 = d := by
   have : ∀ es : List En, lk n es = some d → ∃ q ∈ es, q.1 = n ∧ q.2.1 = d := by
    intro es
    induction es with
    | nil => intro h; cases h
    | cons x es ih =>
     intro h
     simp only [lk] at h
     split at h
     ·rename_i q; cases h; exact ⟨x, by simp, q, rfl⟩
     ·obtain ⟨y, hy, e⟩ := ih h; exact ⟨y, by simp [hy], e⟩
   exact this _ hl
  have sm := g.small q hq
  rw [he, hd] at sm
  simp only [Option.bind_some, if_true]
  rw [w64 _ (by omega)]; simp
def PS.lay (p : PS) (n d : ByteArray) : PS := { p with es := pt n d p.cl p.es, cl := clk n p.es p.cl }
theorem lay_spec {k : Nat} (D : CallF) {h : AHeap} {sb rb : Nat} {p : PS} (s : SR h sb rb p) (g : Good p.es p.cl) {n d : ByteArray} (hn : n.size ≤ 96) (hd : d.size ≤ 131072) (hl : p.es.length ≤ 1048576) :
  Gx.Wp (store_Store_lay k D (some ⟨sb, 0, none⟩) n d h) fun q => Chg (SB sb rb) h q.2 ∧ SR q.2 sb rb (p.lay n d) ∧ Good (p.lay n d).es (p.lay n d).cl := by
 simp only [store_Store_lay]
 refine Gx.Wp.bnd (room_spec D s g n) ?_
 obtain ⟨e, hb⟩ := s.blk
 have t1 := tot_le g
 have t2 := room_le (n := n) p.es
 have t3 := tot_pt (n := n) (d := d) (cl := p.cl) p.es
 refine Gx.Wp.bnd rfl (Gx.Wp.bnd (sldI_at hb rfl) (Gx.Wp.gp (ssw1 ?_) ?_))
 ·exact bnd (sldI_at hb rfl) rfl
 refine Gx.Wp.bnd rfl ?_
 dsimp only
 rw [w64 ((n.size : Int) + d.size) (by omega), w64 ((n.size : Int) + d.size - _) (by omega), w64 _ (by omega)]
 refine Gx.Wp.bnd (st1_sb hb (by show 0 + 1 < 6; omega) rfl) ?_
 have hne := s.ne
 have hm1 : (h.set sb (.cells ([Value.int .i64 p.quota, .int .i64 (tot p.es), .int .i64 p.fails, .bool p.down, .map (some rb), .int .i64 p.calls].set 1 (.int .i64 ((tot p.es : Int) + ((n.size : Int) + (d.size : Int) - (room n p.es : Int))))) e true 0)).get rb = some (.map (p.es.map encE) p.cl) := by
  simp only [AHeap.get_set]; rw [if_neg (fun q => hne q.symm)]; exact s.mp
 refine Gx.Wp.bnd rfl (Gx.Wp.bnd (ldM_at (m := some rb) (sset_get h sb _) rfl) (Gx.Wp.bnd rfl (Gx.Wp.bnd (upd_at hm1 n d) (Gx.Wp.of ⟨?_, ?_, g.pt hn hd⟩))))
 ·exact (Chg.set (.inr (.inl rfl))).trans (Chg.set (.inr (.inr rfl)))
 ·refine ⟨⟨e, ?_⟩, by simp only [AHeap.get_set, if_true]; rfl, by simpa using s.lt⟩
  simp only [AHeap.get_set]
  rw [if_neg hne, if_true]
  have : (tot p.es : Int) + ((n.size : Int) + (d.size : Int) - (room n p.es : Int)) = (tot (pt n d p.cl p.es) : Int) := by omega
  rw [this]; rfl
end Gs
namespace Gs
open Go Gx
def ba (l : List UInt8) : ByteArray := ⟨⟨l⟩⟩
def nm (es : List En) : List ByteArray := (((es.map (·.1)).map bl).mergeSort leB).map ba
theorem srt_nm (es : List En) : srt (es.map (·.1)) = (nm es).map encS := by
 simp only [srt, nm, List.map_map]; rfl
theorem nm_len (es : List En) : (nm es).length = es.length := by simp [nm]
theorem unstrs_enc (es : List En) : keysL (es.map encE) = some (es.map (·.1)) := by
 have : (es.map encE).map (·.1) = (es.map (·.1)).map Value.string := by simp [encE]
 simp only [keysL, this, unstrs_map]
theorem sizes_of : ∀ {l : List ByteArray}, (∀ s ∈ l, s.size ≤ 9223372036854775807) → sizesOk l = true
 | [], _ => rfl
 | s :: l, h => by
  have h2 : sizesOk l = true := sizes_of fun x hx => h x (List.mem_cons_of_mem _ hx)
  simp only [sizesOk, decide_eq_true (h s (by simp)), h2]; rfl
theorem mapGood_of {es : List En} {cl : Nat} (g : Good es cl) (hl : es.length ≤ 8796093022208) : mapGood (es.map encE) cl (es.map (·.1)) = true := by
 have e1 : (es.map encE).map (·.2.2) = es.map (·.2.2) := by simp [encE]
 simp only [mapGood, e1, Bool.and_eq_true, decide_eq_true_eq, List.all_eq_true]
 refine ⟨⟨⟨⟨sizes_of fun s hs => ?_, g.keys⟩, g.births⟩, fun x hx => ?_⟩, by simp; omega⟩
 ·obtain ⟨e, he, rfl⟩ := List.mem_map.1 hs
  have := (g.small e he).1; omega
 ·obtain ⟨e, he, rfl⟩ := List.mem_map.1 hx
  exact g.old e he
theorem sorted_at {h : AHeap} {bx rb cl : Nat} {es : List En} {t : TypeId} (hb : h.get bx = some (.cells [.map (some rb)] t true 0)) (hm : h.get rb = some (.map (es.map encE) cl)) (g : Good es cl) (hl : es.length ≤ 8796093022208) :
  ∃ s h', sortedA 105 9 [.func (.func 105) ⟨[]⟩ ⟨[.pointer (some ⟨bx, 0, none⟩)]⟩] h = some (s, h') ∧ Keeps h h' ∧ Acc encS 9 h.next h' s (nm es) := by
 have hbm : boxMap h bx = some (some rb) := by simp only [boxMap, hb]
 cases es with
 | nil =>
  have hn0 : nm [] = [] := List.eq_nil_of_length_eq_zero (nm_len [])
  refine ⟨⟨none, 0, 0⟩, h, ?_, Chg.refl _ _, by rw [hn0]; exact Acc.nil _ _ _ _⟩
  have hg := mapGood_of g hl
  simp only [sortedA, hbm, hm, unstrs_enc, hg]; rfl
 | cons e es =>
  have hg := mapGood_of g hl
  have hne : nm (e :: es) ≠ [] := fun q => by have := nm_len (e :: es); rw [q] at this; simp at this
  refine ⟨⟨some ⟨h.next, 0, some 2⟩, (nm (e :: es)).length, (nm (e :: es)).length⟩, h.new (outB encS 9 (nm (e :: es))), ?_, Keeps.new h _, ⟨.inr ⟨h.next, Grown.of hne⟩, fun a ha => by cases ha; simp⟩⟩
  have hs := srt_nm (e :: es)
  simp only [sortedA, hbm, hm, unstrs_enc, hg]
  simp only [List.map_cons] at hs ⊢
  simp only [cond_true, decide_true, Bool.and_self, hs, nm_len, List.length_cons, List.length_map, outB]
theorem Names_spec {k : Nat} (D : CallF) {h : AHeap} {sb rb : Nat} {p : PS} (s : SR h sb rb p) (g : Good p.es p.cl) (hl : p.es.length ≤ 8796093022208) :
  Gx.Wp (store_Store_Names k D (some ⟨sb, 0, none⟩) h) fun q => Keeps h q.2 ∧ Acc encS 9 h.next q.2 q.1 (nm p.es) := by
 obtain ⟨e, hb⟩ := s.blk
 simp only [store_Store_Names, maps_Keys_map_string_string_string_string]
 have k1 : Keeps h (h.new (.cells [.map (some rb)] 99 true 0)) := Keeps.new h _
 obtain ⟨sl, h', e1, k2, A⟩ := sorted_at (bx := h.next) (t := 99) (h := h.new (.cells [.map (some rb)] 99 true 0)) (by simp) (s.keeps k1).mp g hl
 refine Gx.Wp.bnd rfl (Gx.Wp.bnd (ldM_at (m := some rb) hb rfl) (Gx.Wp.bnd rfl (Gx.Wp.bnd e1 (Gx.Wp.of ⟨k1.trans k2, A.st, fun a ha => ⟨(A.lt a ha).1, ?_⟩⟩))))
 have := (A.lt a ha).2
 simp at this; omega
def starts (b n : ByteArray) : Bool := decide ((bl n).take b.size = bl b)
theorem starts_short {b n : ByteArray} (h : n.size < b.size) : starts b n = false := by
 apply decide_eq_false
 intro q
 have := congrArg List.length q
 have h1 : (bl n).length = n.size := rfl
 have h2 : (bl b).length = b.size := rfl
 simp at this; omega
theorem starts_sub {b n : ByteArray} (h : b.size ≤ n.size) : ∃ s, Gx.subS n none (some (b.size : Int)) = some s ∧ (s == b) = starts b n := by
 refine ⟨_, subS_of (i := 0) (j := b.size) rfl rfl (Nat.zero_le _) h, ?_⟩
 rw [ba_beq]
 unfold starts
 have : ((⟨⟨((bl n).take b.size).drop 0⟩⟩ : ByteArray) = b) ↔ (bl n).take b.size = bl b := by
  rw [List.drop_zero]
  exact ⟨fun q => congrArg bl q, fun q => by rw [q]; rfl⟩
 by_cases q : (bl n).take b.size = bl b
 ·rw [decide_eq_true q, decide_eq_true (this.2 q)]
 ·rw [decide_eq_false q, decide_eq_false fun e => q (this.1 e)]
theorem hasPrefix_spec {k : Nat} (D : CallF) (n b : ByteArray) (h : AHeap) : strings_HasPrefix k D n b h = some (starts b n, h) := by
 simp only [strings_HasPrefix, internal_stringslite_HasPrefix]
 by_cases q : b.size ≤ n.size
 ·obtain ⟨s, e1, e2⟩ := starts_sub q
  rw [if_pos (by simp; omega), e1]
  simp [e2]
 ·rw [if_neg (by simp; omega), starts_short (by omega)]; rfl
theorem encS_one (x : ByteArray) : one (encS x) = true := rfl
theorem list_l0 (K : Nat) (D : CallF) (bot) {b : ByteArray} {h0 h1 : AHeap} (_k0 : Keeps h0 h1) {sl : Slc} {ns : List ByteArray} (A0 : Acc encS 9 h0.next h1 sl ns) (hn : ns.length ≤ 1048576) :
  ∀ (d i : Nat) (o : Slc) (out : List ByteArray) (h : AHeap), i + d = ns.length → out.length ≤ i → Keeps h1 h → Acc encS 9 h1.next h o out →
   Gx.Wp (iterK bot (d + 1) (store_Store_list_l0b K D fun (out1 : Slc) (h2 : AHeap) => some (out1, h2)) b o sl (sl.len : Int) (i : Int) h) fun q => Keeps h1 q.2 ∧ Acc encS 9 h1.next q.2 q.1 (out ++ (ns.drop i).filter (starts b)) := fun d => by
 have len : sl.len = ns.length := A0.row.1
 induction d with
 | zero =>
  intro i o out h hi ho kp A
  rw [iterK_s]; simp only [store_Store_list_l0b]
  obtain rfl : i = ns.length := by omega
  refine Gx.Wp.ifn (by rw [len]; simp) (Gx.Wp.of ⟨kp, ?_⟩)
  simpa using A
 | succ d ih =>
  intro i o out h hi ho kp A
  rw [iterK_s]; simp only [store_Store_list_l0b]
  refine Gx.Wp.ifp (by rw [len]; simp; omega) ?_
  refine Gx.Wp.jn fun j hj => ?_
  obtain ⟨x, hx⟩ := isome (l := ns) (i := i) (by omega)
  obtain ⟨q, q1, q2⟩ := (A0.row.keeps kp).ldS hx
  refine Gx.Wp.bnd q1 (Gx.Wp.bnd q2 (Gx.Wp.bnd (hasPrefix_spec D x b h) ?_))
  rw [dropc hx]
  cases hst : starts b x with
  | true =>
   refine Gx.Wp.ifp rfl ?_
   refine Gx.Wp.bnd rdS_one ?_
   obtain ⟨s', h', a1, A2, c2, _⟩ := A.push encS_one x (bytes := 16) (by omega) (by decide) kp.nx
   refine Gx.Wp.bnd a1 ?_
   subst hj
   simp only
   rw [Gx.w1 (by omega), List.filter_cons_of_pos hst, show out ++ x :: (ns.drop (i + 1)).filter (starts b) = (out ++ [x]) ++ (ns.drop (i + 1)).filter (starts b) by simp]
   exact ih (i + 1) s' (out ++ [x]) h' (by omega) (by simp; omega) (Chg.beh kp c2 fun y hy ⟨a, ha, e⟩ => by have := (A.lt a ha).2; omega) A2
  | false =>
   refine Gx.Wp.ifn (fun q => by cases q) ?_
   subst hj
   simp only
   rw [Gx.w1 (by omega), List.filter_cons_of_neg (by rw [hst]; decide)]
   exact ih (i + 1) o out h (by omega) (by omega) kp A
theorem list_spec {k : Nat} (D : CallF) {h : AHeap} {sb rb : Nat} {p : PS} (s : SR h sb rb p) (g : Good p.es p.cl) (b : ByteArray) (hl : p.es.length ≤ 1048576) (hk : p.es.length < k) :
  Gx.Wp (store_Store_list k D (some ⟨sb, 0, none⟩) b h) fun q => Keeps h q.2 ∧ Acc encS 9 h.next q.2 q.1 ((nm p.es).filter (starts b)) := by
 simp only [store_Store_list]
 refine Gx.Wp.jn fun j hj => ?_
 refine Gx.Wp.call (Names_spec D s g (by omega)) fun r hr => ?_
 obtain ⟨k1, A⟩ := hr
 unfold store_Store_list_l0
 obtain ⟨bot, eb⟩ := iterK_of (fun _ _ _ _ _ _ => none) (store_Store_list_l0b k D j) (show (nm p.es).length + 1 ≤ k by rw [nm_len]; omega)
 rw [eb]
 subst hj
 refine Gx.Wp.mono (list_l0 k D bot k1 A (by rw [nm_len]; exact hl) _ 0 _ [] r.2 (by omega) (by simp) (Chg.refl _ _) (Acc.nil _ _ _ _)) fun q hq => ?_
 obtain ⟨k2, A2⟩ := hq
 refine ⟨k1.trans k2, by simpa using A2.st, fun a ha => ⟨(A2.lt a ha).1, ?_⟩⟩
 have := (A2.lt a ha).2
 have := k1.nx; omega
end Gs
namespace Gs
open Go Gx
def nob : ByteArray := ⟨#[]⟩
def PS.putS (p : PS) (n d : ByteArray) : PS × Nat :=
 if fitsC n d ≠ 0 then (p, fitsC n d) else if p.quota + room n p.es < tot p.es + (n.size + d.size) then (p, 71) else (p.lay n d, 0)
def PS.delS (p : PS) (n : ByteArray) : PS × Nat := if (lk n p.es).isSome then ({ p with es := rm n p.es }, 0) else (p, 5)
def PS.up (p : PS) : PS := { p with calls := p.calls + 1 }
def PS.doS (p : PS) (kind : Int) (n d : ByteArray) : PS × Nat × ByteArray × List ByteArray :=
 if p.down = true then (p.up, 70, nob, [])
 else if 0 < p.fails then ({ p.up with fails := p.fails - 1 }, 72, nob, [])
 else if kind = 1 then ((p.up.putS n d).1, (p.up.putS n d).2, nob, [])
 else if kind = 2 then (if (lk n p.es).isSome then (p.up, 0, (lk n p.es).getD nob, []) else (p.up, 5, nob, []))
 else if kind = 3 then (p.up, 0, nob, (nm p.es).filter (starts n))
 else if kind = 4 then ((p.up.delS n).1, (p.up.delS n).2, nob, [])
 else (p.up, 3, nob, [])
theorem put_spec {k : Nat} (D : CallF) {h : AHeap} {sb rb : Nat} {p : PS} (s : SR h sb rb p) (g : Good p.es p.cl) (n d : ByteArray) (hl : p.es.length ≤ 1048576) (_hq : p.quota ≤ 1073741824) (hk : n.size < k) (hs : n.size ≤ 9223372036854775807) :
  Gx.Wp (store_Store_put k D (some ⟨sb, 0, none⟩) n d h) fun q => q.1 = ((p.putS n d).2 : Int) ∧ Chg (SB sb rb) h q.2 ∧ SR q.2 sb rb (p.putS n d).1 ∧ Good (p.putS n d).1.es (p.putS n d).1.cl := by
 simp only [store_Store_put]
 refine Gx.Wp.call (fits_spec D n d hk hs) fun r hr => ?_
 obtain ⟨r1, k1⟩ := hr
 rw [r1]
 by_cases q : fitsC n d = 0
 ·have eP : p.putS n d = if p.quota + room n p.es < tot p.es + (n.size + d.size) then (p, 71) else (p.lay n d, 0) := if_neg fun z => z q
  rw [eP, q]
  refine Gx.Wp.ifn (by decide) ?_
  have s1 := s.keeps k1
  obtain ⟨f1, f2, _⟩ := fits0 q
  refine Gx.Wp.bnd (room_spec D s1 g n) ?_
  obtain ⟨e, hb⟩ := s1.blk
  have t1 := tot_le g
  have t2 := room_le (n := n) p.es
  refine Gx.Wp.bnd rfl (Gx.Wp.bnd (sldI_at hb rfl) (Gx.Wp.gp (ssw1 (bnd (sldI_at hb rfl) rfl)) ?_))
  refine Gx.Wp.bnd rfl (Gx.Wp.bnd (sldI_at hb rfl) (Gx.Wp.gp (ssw1 (bnd (sldI_at hb rfl) rfl)) ?_))
  dsimp only
  rw [w64 ((tot p.es : Int) - room n p.es) (by omega), w64 ((tot p.es : Int) - room n p.es + n.size) (by omega), w64 _ (by omega)]
  by_cases c : p.quota + room n p.es < tot p.es + (n.size + d.size)
  ·refine Gx.Wp.ifp (by simp; omega) ?_
   rw [if_pos c]
   exact Gx.Wp.of ⟨rfl, Chg.keeps k1, s1, g⟩
  ·refine Gx.Wp.ifn (by simp; omega) ?_
   rw [if_neg c]
   refine Gx.Wp.call (lay_spec D s1 g f1 f2 hl) fun r2 h2 => Gx.Wp.of ⟨rfl, (Chg.keeps k1).trans h2.1, h2.2.1, h2.2.2⟩
 ·have eP : p.putS n d = (p, fitsC n d) := if_pos q
  rw [eP]
  exact Gx.Wp.ifp (by simp; omega) (Gx.Wp.of ⟨rfl, Chg.keeps k1, s.keeps k1, g⟩)
theorem del_spec {k : Nat} (D : CallF) {h : AHeap} {sb rb : Nat} {p : PS} (s : SR h sb rb p) (g : Good p.es p.cl) (n : ByteArray) (hl : p.es.length ≤ 1048576) :
  Gx.Wp (store_Store_del k D (some ⟨sb, 0, none⟩) n h) fun q => q.1 = ((p.delS n).2 : Int) ∧ Chg (SB sb rb) h q.2 ∧ SR q.2 sb rb (p.delS n).1 ∧ Good (p.delS n).1.es (p.delS n).1.cl := by
 obtain ⟨e, hb⟩ := s.blk
 simp only [store_Store_del]
 refine Gx.Wp.bnd rfl (Gx.Wp.bnd (ldM_at (m := some rb) hb rfl) ?_)
 unfold PS.delS
 have t1 := tot_le g
 have t2 := tot_rm (n := n) p.es
 cases hl2 : lk n p.es with
 | none =>
  refine Gx.Wp.bnd (look_none s.mp hl2) (Gx.Wp.ifp rfl (Gx.Wp.of ⟨rfl, Chg.refl _ _, s, g⟩))
 | some x =>
  refine Gx.Wp.bnd (look_some s.mp hl2) (Gx.Wp.ifn (fun q => by cases q) ?_)
  refine Gx.Wp.bnd (room_spec D s g n) (Gx.Wp.bnd rfl (Gx.Wp.bnd (sldI_at hb rfl) (Gx.Wp.gp (ssw1 (bnd (sldI_at hb rfl) rfl)) ?_)))
  dsimp only
  rw [w64 _ (by omega)]
  have hne := s.ne
  refine Gx.Wp.bnd rfl (Gx.Wp.bnd (st1_sb hb (by show 0 + 1 < 6; omega) rfl) (Gx.Wp.bnd rfl (Gx.Wp.bnd (ldM_at (m := some rb) (sset_get h sb _) rfl) ?_)))
  refine Gx.Wp.bnd (del_at (es := p.es) (cl := p.cl) (by simp only [AHeap.get_set]; rw [if_neg (fun q => hne q.symm)]; exact s.mp) n) (Gx.Wp.of ⟨rfl, (Chg.set (.inr (.inl rfl))).trans (Chg.set (.inr (.inr rfl))), ⟨⟨e, ?_⟩, by simp only [AHeap.get_set, if_true]; rfl, by simpa using s.lt⟩, g.rm n⟩)
  simp only [AHeap.get_set]
  rw [if_neg hne, if_true]
  have : (tot p.es : Int) - (room n p.es : Int) = (tot (rm n p.es) : Int) := by omega
  rw [this]; rfl
theorem fin3 {H : AHeap} {b : Nat} {c : List Value} {e : TypeId} (hb : H.get b = some (.cells c e true 0)) (hc : c.length = 3) (cd : Int) (dt : ByteArray) (s : Slc) {Q : ((Int × ByteArray × Slc) × AHeap) → Prop}
  (hQ : Q ((cd, dt, s), H.set b (.cells [.int .i64 cd, .string dt, .slice s.a s.len s.cap] e true 0))) :
  Gx.Wp ((Gx.stL 3 (⟨b, 0, none⟩ : Addr) ([.int .i64 cd, .string dt, .slice s.a s.len s.cap]) H).bind fun h7 => (Gx.ldA 3 (⟨b, 0, none⟩ : Addr) h7).bind fun l8 => (decC [.i .i64, .s, .l] l8).bind fun x9 => some ((x9.1, x9.2.1, x9.2.2), h7)) Q := by
 refine Gx.Wp.bnd (sstL_at hb hc rfl rfl (by decide)) ?_
 refine Gx.Wp.bnd (sldA_at (sset_get H b _) rfl) ?_
 exact Gx.Wp.bnd rfl (Gx.Wp.of hQ)
end Gs
namespace Gs
open Go Gx
theorem SR.other {h : AHeap} {sb rb b : Nat} {B : ABlk} {p : PS} (s : SR h sb rb p) (h1 : b ≠ sb) (h2 : b ≠ rb) : SR (h.set b B) sb rb p := by
 obtain ⟨e, hb⟩ := s.blk
 exact ⟨⟨e, by simp only [AHeap.get_set]; rw [if_neg (fun q => h1 q.symm)]; exact hb⟩, by simp only [AHeap.get_set]; rw [if_neg (fun q => h2 q.symm)]; exact s.mp, s.lt⟩
theorem ldS_at {h : AHeap} {b o : Nat} {sp : Option Nat} {c : List Value} {e : TypeId} {r : Bool} {fz : Nat} {m : ByteArray} (hb : h.get b = some (.cells c e r fz)) (hc : c[o]? = some (.string m)) : Gx.ldS ⟨b, o, sp⟩ h = some m := by
 simp only [Gx.ldS, AHeap.rd1, hb, hc]; rfl
def DoQ (h : AHeap) (sb rb : Nat) (p : PS) (kind : Int) (n d : ByteArray) (q : (Int × ByteArray × Slc) × AHeap) : Prop :=
 q.1.1 = ((p.doS kind n d).2.1 : Int) ∧ q.1.2.1 = (p.doS kind n d).2.2.1 ∧ Acc encS 9 h.next q.2 q.1.2.2 (p.doS kind n d).2.2.2 ∧ Chg (SB sb rb) h q.2 ∧ SR q.2 sb rb (p.doS kind n d).1 ∧ Good (p.doS kind n d).1.es (p.doS kind n d).1.cl
theorem acc0 {h h' : AHeap} : Acc encS 9 h.next h' ⟨none, 0, 0⟩ [] := Acc.nil _ _ _ _
theorem Do_spec {k : Nat} (D : CallF) {h : AHeap} {sb rb : Nat} {p : PS} (s : SR h sb rb p) (g : Good p.es p.cl) (st kind : Int) (n d : ByteArray) (hl : p.es.length ≤ 1048576) (hq : p.quota ≤ 1073741824) (hc : p.calls ≤ 1099511627776) (hf : p.fails ≤ 1048576)
  (hk : kind = 1 → n.size < k) (hs : kind = 1 → n.size ≤ 9223372036854775807) (hk2 : p.es.length < k) :
  Gx.Wp (store_Store_Do k D (some ⟨sb, 0, none⟩) (st, kind, n, d) h) (DoQ h sb rb p kind n d) := by
 simp only [store_Store_Do, sync_atomic_Int64_Add]
 obtain ⟨H1, e1⟩ : ∃ H1, H1 = h.new (.cells [.int .i64 st, .int .i64 kind, .string n, .string d] 32 true 0) := ⟨_, rfl⟩
 rw [← e1]
 obtain ⟨H2, e2⟩ : ∃ H2, H2 = H1.new (.cells [.int .i64 0, .string ⟨#[]⟩, .slice none 0 0] 29 true 0) := ⟨_, rfl⟩
 rw [← e2]
 have k1 : Keeps h H1 := e1 ▸ Keeps.new h _
 have k2 : Keeps h H2 := k1.trans (e2 ▸ Keeps.new H1 _)
 have n1 : H1.next = h.next + 1 := by rw [e1]; rfl
 have n2 : H2.next = h.next + 2 := by rw [e2]; simp [n1]
 have rq : H2.get h.next = some (.cells [.int .i64 st, .int .i64 kind, .string n, .string d] 32 true 0) := by
  rw [e2]; simp only [AHeap.get_new]; rw [if_neg (by omega), e1]; simp
 have rs : H2.get H1.next = some (.cells [.int .i64 0, .string ⟨#[]⟩, .slice none 0 0] 29 true 0) := by rw [e2]; simp
 have s2 := s.keeps k2
 obtain ⟨lt1, lt2⟩ := s.lt
 obtain ⟨e, hb⟩ := s2.blk
 refine Gx.Wp.bnd rfl ?_
 have add : ((some (⟨sb, 0 + 5, none⟩ : Addr)).bind fun p1 => (ldI .i64 (⟨p1.block, p1.off + 0, none⟩ : Addr) H2).bind fun x2 => (Gx.st1 (⟨p1.block, p1.off + 0, none⟩ : Addr) (.int .i64 (IntKind.wrap .i64 (x2 + 1))) H2).bind fun h3 => some ((IntKind.wrap .i64 (x2 + 1)), h3)) =
   some (((p.calls + 1 : Nat) : Int), H2.set sb (.cells [.int .i64 p.quota, .int .i64 (tot p.es), .int .i64 p.fails, .bool p.down, .map (some rb), .int .i64 ((p.calls + 1 : Nat) : Int)] e true 0)) := by
  refine bnd rfl (bnd (sldI_at hb rfl) ?_)
  rw [w64 _ (by omega)]
  exact bnd (st1_sb hb (by show 5 < 6; omega) rfl) rfl
 refine Gx.Wp.bnd add ?_
 obtain ⟨H, eH⟩ : ∃ H, H = H2.set sb (.cells [.int .i64 p.quota, .int .i64 (tot p.es), .int .i64 p.fails, .bool p.down, .map (some rb), .int .i64 ((p.calls + 1 : Nat) : Int)] e true 0) := ⟨_, rfl⟩
 dsimp only
 rw [← eH]
 have cH : Chg (SB sb rb) h H := (Chg.keeps k2).trans (eH ▸ Chg.set (.inr (.inl rfl)))
 have nH : H.next = h.next + 2 := by rw [eH]; exact n2
 have hbH : H.get sb = some (.cells [.int .i64 p.quota, .int .i64 (tot p.es), .int .i64 p.fails, .bool p.down, .map (some rb), .int .i64 ((p.calls + 1 : Nat) : Int)] e true 0) := by rw [eH]; simp
 have oth : ∀ y, y ≠ sb → H.get y = H2.get y := fun y hy => by rw [eH]; simp [hy]
 have sH : SR H sb rb p.up := ⟨⟨e, hbH⟩, by rw [oth _ (fun q => s.ne q.symm)]; exact s2.mp, by omega⟩
 have rqH : H.get h.next = some (.cells [.int .i64 st, .int .i64 kind, .string n, .string d] 32 true 0) := by rw [oth _ (by omega)]; exact rq
 have rsH : H.get H1.next = some (.cells [.int .i64 0, .string ⟨#[]⟩, .slice none 0 0] 29 true 0) := by rw [oth _ (by omega)]; exact rs
 have ne1 : H1.next ≠ sb := by omega
 have ne2 : H1.next ≠ rb := by omega
 have fin : ∀ (K : AHeap) (p' : PS) (cd : Nat) (dt : ByteArray) (sl : Slc) (l : List ByteArray), Chg (SB sb rb) H K → SR K sb rb p' → Good p'.es p'.cl → Acc encS 9 H.next K sl l → p.doS kind n d = (p', cd, dt, l) →
   Gx.Wp ((Gx.stL 3 (⟨H1.next, 0, none⟩ : Addr) ([.int .i64 (cd : Int), .string dt, .slice sl.a sl.len sl.cap]) K).bind fun h7 => (Gx.ldA 3 (⟨H1.next, 0, none⟩ : Addr) h7).bind fun l8 => (decC [.i .i64, .s, .l] l8).bind fun x9 => some ((x9.1, x9.2.1, x9.2.2), h7)) (DoQ h sb rb p kind n d) := by
  intro K p' cd dt sl l cK sK gK AK eq
  have rsK : K.get H1.next = some (.cells [.int .i64 0, .string ⟨#[]⟩, .slice none 0 0] 29 true 0) := by
   rw [cK.oth _ (by omega) (by rintro (q | q) <;> omega)]; exact rsH
  refine fin3 rsK rfl _ _ _ ?_
  unfold DoQ
  rw [eq]
  refine ⟨rfl, rfl, ⟨?_, fun a ha => ⟨(AK.lt a ha).1, by have := (AK.lt a ha).2; omega⟩⟩, Chg.beh (T := fun y => y = H1.next) (cH.trans cK) (Chg.set (.inr rfl)) (fun x hx q => by omega), sK.other ne1 ne2, gK⟩
  exact (AK.chg (S := fun y => y = H1.next) (Chg.set (.inr rfl)) fun a ha q => by have := (AK.lt a ha).2; omega).st
 have ans : ∀ (p' : PS) (cd : Nat) (dt : ByteArray), SR H sb rb p' → Good p'.es p'.cl → p.doS kind n d = (p', cd, dt, []) →
   Gx.Wp ((Gx.stL 3 (⟨H1.next, 0, none⟩ : Addr) ([.int .i64 (cd : Int), .string dt, .slice none 0 0]) H).bind fun h7 => (Gx.ldA 3 (⟨H1.next, 0, none⟩ : Addr) h7).bind fun l8 => (decC [.i .i64, .s, .l] l8).bind fun x9 => some ((x9.1, x9.2.1, x9.2.2), h7)) (DoQ h sb rb p kind n d) :=
  fun p' cd dt s' g' eq => fin H p' cd dt ⟨none, 0, 0⟩ [] (Chg.refl _ _) s' g' acc0 eq
 refine Gx.Wp.bnd rfl (Gx.Wp.bnd (ldB_at hbH rfl) ?_)
 by_cases c1 : p.down = true
 ·refine Gx.Wp.ifp c1 (ans p.up 70 nob sH g ?_)
  unfold PS.doS; rw [if_pos c1]
 refine Gx.Wp.ifn c1 (Gx.Wp.bnd rfl (Gx.Wp.bnd (sldI_at hbH rfl) ?_))
 by_cases c2 : 0 < p.fails
 ·refine Gx.Wp.ifp (by simp; omega) ?_
  refine Gx.Wp.bnd rfl (Gx.Wp.bnd (sldI_at hbH rfl) (Gx.Wp.bnd rfl ?_))
  rw [w64 _ (by omega)]
  refine Gx.Wp.bnd (st1_sb hbH (by show 0 + 2 < 6; omega) rfl) ?_
  refine fin _ { p.up with fails := p.fails - 1 } 72 nob ⟨none, 0, 0⟩ [] (Chg.set (.inr (.inl rfl))) ⟨⟨e, ?_⟩, ?_, sH.lt⟩ g acc0 ?_
  ·rw [sset_get]
   have : ((p.fails : Int) - 1) = ((p.fails - 1 : Nat) : Int) := by omega
   rw [this]; rfl
  ·simp only [AHeap.get_set]; rw [if_neg (fun q => s.ne q.symm)]; exact sH.mp
  ·unfold PS.doS; rw [if_neg c1, if_pos c2]
 refine Gx.Wp.ifn (by simp; omega) ?_
 refine Gx.Wp.bnd (sldI_at rqH rfl) ?_
 by_cases c3 : kind = 1
 ·refine Gx.Wp.ifp (by simpa using c3) ?_
  refine Gx.Wp.bnd (ldS_at rqH rfl) (Gx.Wp.bnd (ldS_at rqH rfl) ?_)
  refine Gx.Wp.call (put_spec D sH g n d hl hq (hk c3) (hs c3)) fun r hr => ?_
  obtain ⟨r1, r2, r3, r4⟩ := hr
  rw [r1]
  refine fin r.2 _ _ nob ⟨none, 0, 0⟩ [] r2 r3 r4 acc0 ?_
  unfold PS.doS; rw [if_neg c1, if_neg c2, if_pos c3]
 refine Gx.Wp.ifn (by simpa using c3) ?_
 by_cases c4 : kind = 2
 ·refine Gx.Wp.ifp (by simpa using c4) ?_
  refine Gx.Wp.bnd rfl (Gx.Wp.bnd (ldM_at (m := some rb) hbH rfl) (Gx.Wp.bnd (ldS_at rqH rfl) ?_))
  cases hl2 : lk n p.es with
  | none =>
   refine Gx.Wp.bnd (look_none sH.mp hl2) (Gx.Wp.ifp rfl (ans p.up 5 nob sH g ?_))
   unfold PS.doS; rw [if_neg c1, if_neg c2, if_neg c3, if_pos c4, hl2]; rfl
  | some x =>
   refine Gx.Wp.bnd (look_some sH.mp hl2) (Gx.Wp.ifn (fun q => by cases q) (ans p.up 0 x sH g ?_))
   unfold PS.doS; rw [if_neg c1, if_neg c2, if_neg c3, if_pos c4, hl2]; rfl
 refine Gx.Wp.ifn (by simpa using c4) ?_
 by_cases c5 : kind = 3
 ·refine Gx.Wp.ifp (by simpa using c5) ?_
  refine Gx.Wp.bnd (ldS_at rqH rfl) ?_
  refine Gx.Wp.call (list_spec D sH g n hl hk2) fun r hr => ?_
  obtain ⟨r1, r2⟩ := hr
  refine fin r.2 p.up 0 nob r.1 _ (Chg.keeps r1) (sH.keeps r1) g r2 ?_
  unfold PS.doS; rw [if_neg c1, if_neg c2, if_neg c3, if_neg c4, if_pos c5]; rfl
 refine Gx.Wp.ifn (by simpa using c5) ?_
 by_cases c6 : kind = 4
 ·refine Gx.Wp.ifp (by simpa using c6) ?_
  refine Gx.Wp.bnd (ldS_at rqH rfl) ?_
  refine Gx.Wp.call (del_spec D sH g n hl) fun r hr => ?_
  obtain ⟨r1, r2, r3, r4⟩ := hr
  rw [r1]
  refine fin r.2 _ _ nob ⟨none, 0, 0⟩ [] r2 r3 r4 acc0 ?_
  unfold PS.doS; rw [if_neg c1, if_neg c2, if_neg c3, if_neg c4, if_neg c5, if_pos c6]
 refine Gx.Wp.ifn (by simpa using c6) (ans p.up 3 nob sH g ?_)
 unfold PS.doS; rw [if_neg c1, if_neg c2, if_neg c3, if_neg c4, if_neg c5, if_neg c6]
end Gs
namespace Gs
open Go Gx
def ps0 (q : Nat) : PS := ⟨q, 0, 0, false, [], 0⟩
theorem good0 : Good [] 0 := ⟨by simp, by simp, by simp, by simp⟩
theorem New_spec {k : Nat} (D : CallF) {h : AHeap} {q : Nat} (hq : q ≤ 1073741824) : ∃ h', store_New k D (q : Int) h = some ((some ⟨h.next + 1, 0, none⟩, 0), h') ∧ Keeps h h' ∧ SR h' (h.next + 1) h.next (ps0 q) := by
 refine ⟨(h.new (.map [] 0)).new (.cells [.int .i64 (q : Int), .int .i64 0, .int .i64 0, .bool false, .map (some h.next), .int .i64 0] 106 true 0), ?_, (Keeps.new h _).trans (Keeps.new _ _), ⟨106, ?_⟩, ?_, ?_⟩
 ·simp only [store_New]
  refine jn ?_
  refine ifn (by simp) ?_
  rw [decide_eq_false (by omega)]
  exact ifn (by decide) rfl
 ·rw [AHeap.get_new, AHeap.next_new, if_pos rfl]; rfl
 ·simp only [AHeap.get_new, AHeap.next_new]; rw [if_neg (by omega), if_true]; rfl
 ·simp only [AHeap.next_new]; omega
theorem sameS_spec {k : Nat} (D : CallF) {h : AHeap} {a b : Slc} {xs : List ByteArray} (Ra : Row encS h a xs) (Rb : Row encS h b xs) (hk : xs.length < k) (hs : xs.length < 9223372036854775807) : book_SameTexts k D a b h = some (true, h) := by
 unfold book_SameTexts
 refine ifn (by rw [Ra.1, Rb.1]; simp) ?_
 refine jn ?_
 unfold book_SameTexts_l0
 obtain ⟨bot, hbot⟩ := iterK_of (fun _ _ _ _ => none) (book_SameTexts_l0b k D fun h1 => some (true, h1)) (show xs.length + 1 ≤ k by omega)
 rw [hbot]
 have go : ∀ m i : Nat, i + m = xs.length → iterK bot (m + 1) (book_SameTexts_l0b k D fun h1 => some (true, h1)) a b (i : Int) h = some (true, h) := by
  intro m
  induction m with
  | zero => intro i hi; rw [iterK_s, book_SameTexts_l0b]; exact ifn (by rw [Ra.1]; simp; omega) rfl
  | succ m ih =>
   intro i hi
   obtain ⟨x, hx⟩ := isome (l := xs) (i := i) (by omega)
   obtain ⟨q, hq, hld⟩ := Ra.ldS hx
   obtain ⟨q2, hq2, hld2⟩ := Rb.ldS hx
   have w : IntKind.wrap .i64 ((i : Int) + 1) = ((i + 1 : Nat) : Int) := by rw [w64 _ (by omega)]; omega
   rw [iterK_s, book_SameTexts_l0b]
   refine ifp (by rw [Ra.1]; simp; omega) ?_
   refine bnd hq (bnd hld (bnd hq2 (bnd hld2 ?_)))
   refine ifn (by rw [ba_beq]; simp) ?_
   rw [w]
   exact ih (i + 1) (by omega)
 exact go xs.length 0 (by omega)
theorem keep3 {H : AHeap} (cd : Int) (dt : ByteArray) (s : Slc) {R : Type} {Q : R → Prop} {f : AHeap → Option R}
  (hf : Gx.Wp (f ((H.new (.cells [.int .i64 0, .string ⟨#[]⟩, .slice none 0 0] 29 true 0)).set H.next (.cells [.int .i64 cd, .string dt, .slice s.a s.len s.cap] 29 true 0))) Q) :
  Gx.Wp ((Gx.stL 3 (⟨H.next, 0, none⟩ : Addr) ([.int .i64 cd, .string dt, .slice s.a s.len s.cap]) (H.new (.cells [.int .i64 0, .string ⟨#[]⟩, .slice none 0 0] 29 true 0))).bind f) Q :=
 Gx.Wp.bnd (sstL_at (c := [.int .i64 0, .string ⟨#[]⟩, .slice none 0 0]) (by simp) rfl rfl rfl (by decide)) hf
def kept3 (H : AHeap) (cd : Int) (dt : ByteArray) (s : Slc) : AHeap := (H.new (.cells [.int .i64 0, .string ⟨#[]⟩, .slice none 0 0] 29 true 0)).set H.next (.cells [.int .i64 cd, .string dt, .slice s.a s.len s.cap] 29 true 0)
theorem kept3_keeps (H : AHeap) (cd : Int) (dt : ByteArray) (s : Slc) : Keeps H (kept3 H cd dt s) := Chg.beh (T := fun y => y = H.next) (Keeps.new H _) (Chg.set (.inr rfl)) fun x hx q => by omega
theorem kept3_get (H : AHeap) (cd : Int) (dt : ByteArray) (s : Slc) : (kept3 H cd dt s).get H.next = some (.cells [.int .i64 cd, .string dt, .slice s.a s.len s.cap] 29 true 0) := by simp [kept3]
theorem kept3_next (H : AHeap) (cd : Int) (dt : ByteArray) (s : Slc) : (kept3 H cd dt s).next = H.next + 1 := by simp [kept3]
def nA : ByteArray := ⟨#[97]⟩
def dB : ByteArray := ⟨#[98, 99, 100]⟩
def pw1 : PS := ⟨4, 0, 1, false, [(nA, dB, 0)], 1⟩
def pw2 : PS := ⟨4, 0, 2, false, [(nA, dB, 0)], 1⟩
end Gs
namespace Gs
open Go Gx
theorem lt_of_leB {a b : List UInt8} (h : leB a b = true) (hn : a ≠ b) : a < b := by
 simp only [leB, decide_eq_true_eq] at h
 exact List.not_le.1 fun q => hn (List.le_antisymm h q)
theorem nm_sorted {es : List En} (hk : (es.map (·.1)).Nodup) : (nm es).Pairwise fun a b => bl a < bl b := by
 have tr : ∀ a b c : List UInt8, leB a b = true → leB b c = true → leB a c = true := fun a b c h1 h2 => by simp only [leB, decide_eq_true_eq] at *; exact List.le_trans h1 h2
 have to : ∀ a b : List UInt8, (leB a b || leB b a) = true := fun a b => by simp only [leB, Bool.or_eq_true, decide_eq_true_eq]; exact List.le_total a b
 have h1 := List.pairwise_mergeSort tr to ((es.map (·.1)).map bl)
 have h2 : (((es.map (·.1)).map bl).mergeSort leB).Nodup := by
  refine (List.mergeSort_perm _ leB).nodup_iff.2 ?_
  exact List.Pairwise.map _ (fun a b hab q => hab (by have := congrArg ba q; exact this)) hk
 unfold nm
 refine List.Pairwise.map _ (fun a b hab => hab) ?_
 exact (h1.and h2).imp fun ⟨a, b⟩ => lt_of_leB a b
def cnt (b : ByteArray) (es : List En) : Nat := (es.map (·.1)).countP (starts b)
theorem cnt_pt (b n d : ByteArray) (cl : Nat) (es : List En) : cnt b (pt n d cl es) = if (lk n es).isSome then cnt b es else cnt b es + (if starts b n = true then 1 else 0) := by
 unfold cnt
 rw [keys_pt]
 split
 ·rfl
 ·rw [List.countP_append]; simp [List.countP_cons]
theorem cnt_pos {b n : ByteArray} {es : List En} (h : (lk n es).isSome = true) (hs : starts b n = true) : 0 < cnt b es := by
 rw [lk_mem] at h
 exact List.countP_pos_iff.2 ⟨n, h, hs⟩
structure LI (b : ByteArray) (i : Nat) (p : PS) (there : Nat) : Prop where
 q : p.quota = 1048576
 f : p.fails = 0
 dn : p.down = false
 c : p.calls ≤ i
 g : Good p.es p.cl
 l : p.es.length ≤ i
 t : tot p.es ≤ i * 96
 th : there ≤ i
 c1 : cnt b p.es ≤ there
 c2 : 0 < there → 0 < cnt b p.es
theorem LI.step {b : ByteArray} {i : Nat} {p : PS} {there : Nat} (I : LI b i p there) (hi : i < 40) (n : ByteArray) :
  LI b (i + 1) (p.doS 1 n nob).1 (if (p.doS 1 n nob).2.1 = 0 ∧ starts b n = true then there + 1 else there) := by
 have e : p.doS 1 n nob = ((p.up.putS n nob).1, (p.up.putS n nob).2, nob, []) := by
  unfold PS.doS; rw [if_neg (by rw [I.dn]; decide), if_neg (by rw [I.f]; decide), if_pos rfl]
 rw [e]
 by_cases q : fitsC n nob = 0
 ·obtain ⟨f1, f2, _⟩ := fits0 q
  have t1 := I.t
  have z0 : nob.size = 0 := rfl
  have eP : p.up.putS n nob = (p.up.lay n nob, 0) := by
   unfold PS.putS
   rw [if_neg (fun z => z q), if_neg]
   show ¬ p.quota + room n p.es < tot p.es + (n.size + nob.size)
   rw [I.q, z0]; omega
  rw [eP]
  have t3 := tot_pt (n := n) (d := nob) (cl := p.cl) p.es
  have l3 := len_pt (n := n) (d := nob) (cl := p.cl) p.es
  have c3 := cnt_pt b n nob p.cl p.es
  have i1 := I.c1
  have i2 := I.c2
  have i3 := I.l
  have i4 := I.th
  have i5 := I.c
  have fin : ∀ t, cnt b (pt n nob p.cl p.es) ≤ t → (0 < t → 0 < cnt b (pt n nob p.cl p.es)) → t ≤ i + 1 → LI b (i + 1) (p.up.lay n nob) t := fun t h1 h2 h3 =>
   ⟨I.q, I.f, I.dn, by show p.calls + 1 ≤ _; omega, I.g.pt f1 f2, by show (pt n nob p.cl p.es).length ≤ _; omega, by show tot (pt n nob p.cl p.es) ≤ _; omega, h3, h1, h2⟩
  by_cases hs : starts b n = true
  ·rw [if_pos hs] at c3
   refine (if_pos (⟨rfl, hs⟩ : (0 : Nat) = 0 ∧ starts b n = true)).symm ▸ fin (there + 1) ?_ (fun _ => ?_) (by omega)
   ·rw [c3]; split <;> omega
   ·rw [c3]
    split
    ·rename_i hl; exact cnt_pos hl hs
    ·omega
  ·rw [if_neg hs] at c3
   refine (if_neg (fun z => hs z.2 : ¬ ((0 : Nat) = 0 ∧ starts b n = true))).symm ▸ fin there ?_ (fun z => ?_) (by omega)
   ·rw [c3]; split <;> omega
   ·have := i2 z
    rw [c3]; split <;> omega
 ·have eP : p.up.putS n nob = (p.up, fitsC n nob) := if_pos q
  rw [eP, if_neg (fun z => q z.1)]
  exact ⟨I.q, I.f, I.dn, Nat.succ_le_succ I.c, I.g, Nat.le_succ_of_le I.l, Nat.le_trans I.t (by omega), Nat.le_succ_of_le I.th, I.c1, I.c2⟩
end Gs
namespace Gs
open Go Gx
def need (l : List ByteArray) : Nat := l.foldr (fun x m => x.size + m) 1000
end Gs
namespace Gs
open Go Gx
abbrev Ob := ByteArray × ByteArray
def encO (o : Ob) : List Value := [.string o.1, .string o.2]
structure AccV {α : Type} (w : Nat) (enc : α → List Value) (e : TypeId) (base : Nat) (h : AHeap) (s : Slc) (xs : List α) : Prop where
 st : (s.len = 0 ∧ s.cap = 0 ∧ xs = [] ∧ ∀ a, s.a = some a → a.spot = some 0) ∨ ∃ b, s = ⟨some ⟨b, 0, some (w + 1)⟩, xs.length, xs.length⟩ ∧ h.get b = some (.cells (xs.flatMap enc) e true 0) ∧ xs ≠ []
 lt : ∀ a, s.a = some a → a.block < h.next ∧ base ≤ a.block
section
variable {α : Type} {w : Nat} {enc : α → List Value} {e : TypeId} {base : Nat} {h h' : AHeap} {s : Slc} {xs : List α}
theorem AccV.nil (w : Nat) (enc : α → List Value) (e : TypeId) (base : Nat) (h : AHeap) : AccV w enc e base h ⟨none, 0, 0⟩ [] := ⟨.inl ⟨rfl, rfl, rfl, fun a ha => by cases ha⟩, fun a ha => by cases ha⟩
theorem AccV.chg {S : Nat → Prop} (A : AccV w enc e base h s xs) (c : Chg S h h') (hs : ∀ a, s.a = some a → ¬ S a.block) : AccV w enc e base h' s xs := by
 refine ⟨A.st.imp id ?_, fun a ha => ⟨Nat.lt_of_lt_of_le (A.lt a ha).1 c.nx, (A.lt a ha).2⟩⟩
 rintro ⟨b, h1, h2, h3⟩
 have hb := A.lt ⟨b, 0, some (w + 1)⟩ (by rw [h1])
 exact ⟨b, h1, (c.oth b hb.1 (hs ⟨b, 0, some (w + 1)⟩ (by rw [h1]))).trans h2, h3⟩
theorem AccV.keeps (A : AccV w enc e base h s xs) (c : Keeps h h') : AccV w enc e base h' s xs := A.chg c fun _ _ f => f
theorem AccV.row (A : AccV w enc e base h s xs) (hw : ∀ x, (enc x).length = w) : RowW w enc h s xs := by
 rcases A.st with ⟨h1, h2, rfl, _⟩ | ⟨b, rfl, h2, h3⟩
 ·exact ⟨h1, fun i x hx => by simp at hx⟩
 ·have := rowW_blk (cap := xs.length) (sp := some (w + 1)) hw h2 (A.lt ⟨b, 0, some (w + 1)⟩ rfl).1 (Nat.le_refl _)
  rw [List.take_length] at this
  exact this
theorem AccV.app (A : AccV w enc e base h s xs) (hw : ∀ x, (enc x).length = w) (ho : ∀ x, allOne (enc x) = true) (ys : List α) {bytes : Nat} (h1 : 1 ≤ bytes) (hs : 2 * (xs.length + ys.length) * bytes ≤ 281474976710656) (hbase : base ≤ h.next) :
  ∃ s' h', appendA w bytes e h s (ys.flatMap enc) ys.length = some (s', h') ∧ AccV w enc e base h' s' (xs ++ ys) ∧ Chg (ofS s) h h' ∧ ∀ a, s'.a = some a → h.next ≤ a.block ∨ s.a = some a := by
 by_cases hy : ys = []
 ·subst hy
  refine ⟨s, h, ?_, by rw [List.append_nil]; exact A, Chg.refl _ _, fun a ha => .inr ha⟩
  simp only [appendA, List.length_nil]
  have hle : s.len + 0 ≤ s.cap := by
   rcases A.st with ⟨q1, q2, _⟩ | ⟨b, rfl, _⟩
   ·omega
   ·exact Nat.le_refl _
  rw [if_pos hle]
  obtain ⟨a, n, c⟩ := s
  cases a with
  | none =>
   rcases A.st with ⟨q1, q2, _⟩ | ⟨b, q, _⟩
   ·simp only at q1 q2; subst q1 q2; rfl
   ·cases q
  | some a => rfl
 ·have ly : 0 < ys.length := List.length_pos_iff.2 hy
  rcases A.st with ⟨q1, q2, rfl, q3⟩ | ⟨b, rfl, h2, h3⟩
  ·refine ⟨⟨some ⟨h.next, 0, some (w + 1)⟩, ys.length, ys.length⟩, h.new (.cells (ys.flatMap enc) e true 0), ?_, ⟨.inr ⟨h.next, by simp, by simp, by simpa using hy⟩, ?_⟩, (Keeps.new h _).wk fun _ _ f => f.elim, ?_⟩
   ·simp only [appendA]
    rw [if_neg (by omega), if_pos ⟨by rw [q1]; simpa using hs, h1⟩]
    obtain ⟨a, n, c⟩ := s
    simp only at q1 q2; subst q1 q2
    cases a with
    | none => rfl
    | some a =>
     have := q3 a rfl
     obtain ⟨b, o, sp⟩ := a
     simp only at this; subst this
     simp [AHeap.rdL]
   ·intro a ha; cases ha; simp; exact hbase
   ·intro a ha; cases ha; exact .inl (Nat.le_refl _)
  ·have hb := A.lt ⟨b, 0, some (w + 1)⟩ rfl
   have hl := flatW_length hw xs
   have hx : 0 < xs.length := List.length_pos_iff.2 h3
   refine ⟨⟨some ⟨h.next, 0, some (w + 1)⟩, xs.length + ys.length, xs.length + ys.length⟩, (h.kill b).new (.cells ((xs ++ ys).flatMap enc) e true 0), ?_, ⟨.inr ⟨h.next, by simp, by simp, by simp [h3]⟩, ?_⟩, Chg.wk (S := (· = b)) (Chg.kill_new (.inr rfl)) fun y hy q => ⟨⟨b, 0, some (w + 1)⟩, rfl, q⟩, ?_⟩
   ·simp only [appendA]
    rw [if_neg (by omega), if_pos ⟨hs, h1⟩]
    simp only [h2]
    rw [if_pos ⟨by omega, trivial, by omega, by omega, trivial, trivial, flatW_one ho ys⟩, ← hl, List.take_length, List.flatMap_append]
   ·intro a ha; cases ha; simp; exact hbase
   ·intro a ha; cases ha; exact .inl (Nat.le_refl _)
theorem flatW_cut (hw : ∀ x, (enc x).length = w) : ∀ (xs : List α) (n : Nat), (xs.flatMap enc).take (n * w) = (xs.take n).flatMap enc ∧ (xs.flatMap enc).drop (n * w) = (xs.drop n).flatMap enc
 | [], n => by simp
 | x :: xs, 0 => by simp
 | x :: xs, n + 1 => by
  obtain ⟨i1, i2⟩ := flatW_cut hw xs n
  have hl := hw x
  have e : (n + 1) * w = (enc x).length + n * w := by rw [hl, Nat.succ_mul]; omega
  rw [List.flatMap_cons, e]
  constructor
  ·rw [List.take_length_add_append, i1]; rfl
  ·rw [List.drop_length_add_append, i2]; rfl
theorem AccV.sub (A : AccV w enc e base h s xs) (hw : ∀ x, (enc x).length = w) {lo hi : Option Int} {i j : Nat} (hl : lo.getD 0 = (i : Int)) (hh : hi.getD s.len = (j : Int)) (hij : i ≤ j) (hj : j ≤ xs.length) :
  ∃ t, subL w s lo hi none = some t ∧ t.len = j - i ∧ ∀ h', AccV w enc e base h' s xs → Gx.rdS w t h' = some (((xs.take j).drop i).flatMap enc) := by
 have e0 : ∀ (h : AHeap) (b o : Nat), h.rdL b o (0 * w) = some [] := fun h b o => by rw [Nat.zero_mul]; rfl
 rcases A.st with ⟨q1, q2, rfl, q3⟩ | ⟨b, rfl, h2, h3⟩
 ·obtain ⟨a, n, c⟩ := s
  simp only at q1 q2; subst q1 q2
  have j0 : j = 0 := by simpa using hj
  have i0 : i = 0 := by omega
  subst j0 i0
  simp only [subL, hl, hh, Option.getD_none]
  rw [if_pos (by simp)]
  cases a with
  | none => exact ⟨_, rfl, rfl, fun h' _ => by simp [rdS]⟩
  | some a =>
   have := q3 a rfl
   dsimp only
   rw [if_pos (by rw [this]; rfl)]
   exact ⟨_, rfl, rfl, fun h' _ => by simp only [rdS]; simp [AHeap.rdL]⟩
 ·have hl2 := flatW_length hw xs
  have hx : 0 < xs.length := List.length_pos_iff.2 h3
  simp only [subL, hl, hh, Option.getD_none]
  rw [if_pos (by omega), if_pos (by simp [spOk])]
  refine ⟨_, rfl, by simp only; omega, fun h' A' => ?_⟩
  obtain ⟨b', e1, h2', _⟩ : ∃ b', b' = b ∧ h'.get b = some (.cells (xs.flatMap enc) e true 0) ∧ True := by
   rcases A'.st with ⟨q1, q2, q, _⟩ | ⟨b', q, h2', _⟩
   ·exact absurd q h3
   ·cases q; exact ⟨b, rfl, h2', trivial⟩
  have jl : (j - i) * w + i * w ≤ xs.length * w := by rw [← Nat.add_mul]; exact Nat.mul_le_mul_right _ (by omega)
  have ee : ((j : Int) - (i : Int)).toNat = j - i := by omega
  simp only [rdS, ee, Int.toNat_natCast]
  have fin : ∀ o, o = i * w ∨ j - i = 0 → h'.rdL b o ((j - i) * w) = some (((xs.take j).drop i).flatMap enc) := by
   intro o ho
   by_cases z : j - i = 0
   ·rw [z, e0]
    have : (xs.take j).drop i = [] := List.drop_eq_nil_of_le (by simp; omega)
    rw [this]; rfl
   ·have ho : o = i * w := ho.resolve_right z
    subst ho
    cases hz : (j - i) * w with
    | zero =>
     have hz2 : (((xs.take j).drop i).flatMap enc).length = 0 := by
      rw [flatW_length hw]
      have : ((xs.take j).drop i).length = j - i := by simp; omega
      rw [this, hz]
     rw [List.length_eq_zero_iff.1 hz2]; rfl
    | succ m =>
     simp only [AHeap.rdL, h2']
     rw [if_pos (by omega), ← hz]
     congr 1
     rw [(flatW_cut hw xs i).2, (flatW_cut hw (xs.drop i) (j - i)).1, List.take_drop]
     congr 3; omega
  by_cases hm : ((xs.length : Int) = (i : Int))
  ·rw [if_pos hm]; exact fin 0 (.inr (by omega))
  ·rw [if_neg hm, Nat.zero_add]; exact fin _ (.inl rfl)
end
end Gs
namespace Gs
open Go Gx
structure RSt where
 quota : Nat
 fails : Nat
 many : Nat
 off : Bool
 L : List Ob
structure RR (h : AHeap) (tb : Nat) (r : RSt) : Prop where
 blk : ∃ e l, h.get tb = some (.cells [.int .i64 r.quota, .int .i64 r.fails, .int .i64 r.many, .bool r.off, .slice l.a l.len l.cap] e true 0) ∧ AccV 2 encO 124 (tb + 1) h l r.L
 lt : tb < h.next
theorem RR.chg {S : Nat → Prop} {h h' : AHeap} {tb : Nat} {r : RSt} (s : RR h tb r) (c : Chg S h h') (hs : ∀ y, tb ≤ y → ¬ S y) : RR h' tb r := by
 obtain ⟨e, l, hb, A⟩ := s.blk
 exact ⟨⟨e, l, (c.oth _ s.lt (hs _ (Nat.le_refl _))).trans hb, A.chg c fun a ha => hs _ (by have := (A.lt a ha).2; omega)⟩, Nat.lt_of_lt_of_le s.lt c.nx⟩
theorem RR.keeps {h h' : AHeap} {tb : Nat} {r : RSt} (s : RR h tb r) (c : Keeps h h') : RR h' tb r := s.chg c fun _ _ f => f
def fi (n : ByteArray) : List Ob → Nat
 | [] => 0
 | o :: l => if bl o.1 < bl n then fi n l + 1 else 0
def at1 (n : ByteArray) : List Ob → Bool
 | [] => false
 | o :: _ => decide (o.1 = n)
def fnd (n : ByteArray) (L : List Ob) : Bool := at1 n (L.drop (fi n L))
theorem ssw2 {H1 H2 : AHeap} {F : AHeap → Option Value} {v : Value} (h1 : F H1 = some v) (h2 : F H2 = some v) : SameW [H1, H2] F v := by
 intro H hH; simp at hH; rcases hH with rfl | rfl
 ·exact h1
 ·exact h2
end Gs
namespace Gs
open Go Gx
def insO (i : Nat) (n d : ByteArray) (L : List Ob) : List Ob := L.take i ++ (n, d) :: L.drop i
def lyR (n d : ByteArray) (L : List Ob) : List Ob := insO (fi n L) n d (if fnd n L then L.take (fi n L) ++ L.drop (fi n L + 1) else L)
def totR : List Ob → Nat
 | [] => 0
 | o :: l => o.1.size + o.2.size + totR l
end Gs
namespace Gs
open Go Gx
end Gs
namespace Gs
open Go Gx
theorem AccV.rdS {α : Type} {w : Nat} {enc : α → List Value} {e : TypeId} {base : Nat} {h : AHeap} {s : Slc} {xs : List α} (A : AccV w enc e base h s xs) (hw : ∀ x, (enc x).length = w) : Gx.rdS w s h = some (xs.flatMap enc) := by
 rcases A.st with ⟨q1, q2, rfl, q3⟩ | ⟨b, rfl, h2, h3⟩
 ·obtain ⟨a, n, c⟩ := s
  simp only at q1 q2; subst q1 q2
  cases a with
  | none => rfl
  | some a => simp only [Gx.rdS]; simp [AHeap.rdL]
 ·have hl := flatW_length hw xs
  simp only [Gx.rdS]
  rw [← hl]
  exact rdL_all h2
def lkR (n : ByteArray) (L : List Ob) : Option ByteArray := if fnd n L = true then (L[fi n L]?).map (·.2) else none
end Gs
namespace Gs
open Go Gx
theorem AccV.apart {α : Type} {w : Nat} {enc : α → List Value} {e e' : TypeId} {base : Nat} {h : AHeap} {s : Slc} {xs : List α} {b0 : Nat} {c : List Value} {rw : Bool} {fz : Nat} {B : ABlk} (A : AccV w enc e base h s xs) (hb : h.get b0 = some (.cells c e' rw fz)) (he : e ≠ e') : AccV w enc e base (h.set b0 B) s xs := by
 refine ⟨A.st.imp id ?_, A.lt⟩
 rintro ⟨b, h1, h2, h3⟩
 refine ⟨b, h1, ?_, h3⟩
 simp only [AHeap.get_set]
 rw [if_neg]
 ·exact h2
 ·rintro rfl
  rw [h2] at hb; cases hb; exact he rfl
def RSt.putS (r : RSt) (n d : ByteArray) : RSt × Nat :=
 if fitsC n d ≠ 0 then (r, fitsC n d) else if r.quota < totR (lyR n d r.L) then (r, 71) else ({ r with L := lyR n d r.L }, 0)
def RSt.up (r : RSt) : RSt := { r with many := r.many + 1 }
def RSt.doS (r : RSt) (kind : Int) (n d : ByteArray) : RSt × Nat × ByteArray × List ByteArray :=
 if r.off = true then (r.up, 70, nob, [])
 else if 0 < r.fails then ({ r.up with fails := r.fails - 1 }, 72, nob, [])
 else if kind = 1 then ((r.up.putS n d).1, (r.up.putS n d).2, nob, [])
 else if kind = 3 then (r.up, 0, nob, (r.L.map (·.1)).filter (starts n))
 else if kind = 2 then (if (lkR n r.L).isSome then (r.up, 0, (lkR n r.L).getD nob, []) else (r.up, 5, nob, []))
 else if kind = 4 then (if (lkR n r.L).isSome then ({ r.up with L := r.L.take (fi n r.L) ++ r.L.drop (fi n r.L + 1) }, 0, nob, []) else (r.up, 5, nob, []))
 else (r.up, 3, nob, [])
end Gs
namespace Gs
open Go Gx
noncomputable def lev (k : Nat) : Nat → CallF
 | 0 => noC
 | n + 1 => mkC (lev k n) [e_port_List_1 k (lev k n), e_port_List_1_1 k (lev k n), e_port_IO_All_1 k (lev k n), e_port_IO_All_1_1 k (lev k n)]
theorem lev_sound (k : Nat) : ∀ n, CSound Go.Proofs.Try.prog 0 (lev k n)
 | 0 => noC_sound
 | n + 1 => mkC_sound (lev_sound k n) (EntsOk.more (ok_port_List_1 (lev_sound k n) k) (EntsOk.more (ok_port_List_1_1 (lev_sound k n) k) (EntsOk.more (ok_port_IO_All_1 (lev_sound k n) k) (EntsOk.more (ok_port_IO_All_1_1 (lev_sound k n) k) EntsOk.none))))
theorem call71 {R : Type} (k n : Nat) (io a : Option Addr) (h : AHeap) (κ : Value → AHeap → Option R) :
  callD (C_port_Start k (lev k (n + 1))) (.func (.func 71) ⟨[]⟩ ⟨[.pointer a]⟩) [.pointer io] h κ = (port_List_1 k (lev k n) io a h).bind fun r => κ (.tuple ⟨[]⟩) r.2 := rfl
theorem call114 {R : Type} (k n : Nat) (a b c d e : Option Addr) (h : AHeap) (κ : Value → AHeap → Option R) :
  callD (C_port_IO_All k (lev k (n + 1))) (.func (.func 114) ⟨[]⟩ ⟨[.pointer a, .pointer b, .pointer c, .pointer d, .pointer e]⟩) [] h κ = (port_IO_All_1 k (lev k n) a b c d e h).bind fun r => κ (.tuple ⟨[]⟩) r.2 := rfl
theorem call114' {R : Type} (k n : Nat) (a b c d e : Option Addr) (h : AHeap) (κ : Value → AHeap → Option R) :
  callD (C_port_IO_All_1_1 k (lev k (n + 1))) (.func (.func 114) ⟨[]⟩ ⟨[.pointer a, .pointer b, .pointer c, .pointer d, .pointer e]⟩) [] h κ = (port_IO_All_1 k (lev k n) a b c d e h).bind fun r => κ (.tuple ⟨[]⟩) r.2 := rfl
theorem call73 {R : Type} (k n : Nat) (s : Slc) (a : Option Addr) (h : AHeap) (κ : Value → AHeap → Option R) :
  callD (C_port_IO_All_1 k (lev k (n + 1))) (.func (.func 73) ⟨[]⟩ ⟨[.pointer a]⟩) [.slice s.a s.len s.cap] h κ = (port_List_1_1 k (lev k n) s a h).bind fun r => κ (.tuple ⟨[]⟩) r.2 := rfl
theorem call116 {R : Type} (k n : Nat) (c : Int) (d : ByteArray) (s : Slc) (a b : Option Addr) (h : AHeap) (κ : Value → AHeap → Option R) :
  callD (C_port_Job_Give k (lev k (n + 1))) (.func (.func 116) ⟨[]⟩ ⟨[.pointer a, .pointer b]⟩) [.agg ⟨[.int .i64 c, .string d, .slice s.a s.len s.cap]⟩] h κ = (port_IO_All_1_1 k (lev k n) (c, d, s) a b h).bind fun r => κ (.tuple ⟨[]⟩) r.2 := rfl
end Gs
namespace Gs
open Go Gx
abbrev Rp := Int × ByteArray × Slc
abbrev Ry := Int × ByteArray × List ByteArray
def encP (x : Rp) : List Value := [.int .i64 x.1, .string x.2.1, .slice x.2.2.a x.2.2.len x.2.2.cap]
theorem encP_len (x : Rp) : (encP x).length = 3 := rfl
def Say (h : AHeap) (xs : List Rp) (ys : List Ry) : Prop := xs.length = ys.length ∧ ∀ (i : Nat) x y, xs[i]? = some x → ys[i]? = some y → x.1 = y.1 ∧ x.2.1 = y.2.1 ∧ Row encS h x.2.2 y.2.2
theorem Say.keeps {h h' : AHeap} {xs : List Rp} {ys : List Ry} (s : Say h xs ys) (k : Keeps h h') : Say h' xs ys := ⟨s.1, fun i x y a b => ⟨(s.2 i x y a b).1, (s.2 i x y a b).2.1, Row.keeps (s.2 i x y a b).2.2 k⟩⟩
structure Rz where
 code : Int
 n : Nat
 ids : List ByteArray
 texts : List ByteArray
def Rz.add (z : Rz) (y : Ry) : Rz := ⟨if y.1 = 0 then z.code else if z.code = 0 then y.1 else z.code, if y.1 = 0 then z.n + 1 else z.n, z.ids ++ y.2.2, z.texts ++ [y.2.1]⟩
def Rz.zero : Rz := ⟨0, 0, [], []⟩
def Rz.of (ys : List Ry) : Rz := ys.foldl Rz.add Rz.zero
def idsL : List Ry → Nat
 | [] => 0
 | y :: l => y.2.2.length + idsL l
theorem idsL_app : ∀ a b : List Ry, idsL (a ++ b) = idsL a + idsL b
 | [], b => by simp [idsL]
 | y :: a, b => by simp only [List.cons_append, idsL, idsL_app a b]; omega
structure ZA (h : AHeap) (rb : Nat) (z : Rz) : Prop where
 blk : ∃ s t : Slc, h.get rb = some (.cells [.int .i64 z.code, .string ⟨#[]⟩, .int .i64 z.n, .slice s.a s.len s.cap, .slice t.a t.len t.cap, .slice none 0 0, .slice none 0 0] 60 true 0) ∧ Acc encS 9 (rb + 1) h s z.ids ∧ Acc encS 9 (rb + 1) h t z.texts ∧ ApartS s t
 lt : rb < h.next
theorem l73_step {h0 h : AHeap} {rb : Nat} {z : Rz} (Z : ZA h rb z) (kp : Keeps h0 h) (hrb : h0.next ≤ rb) {x : Rp} {y : Ry} (e1 : x.1 = y.1) (e2 : x.2.1 = y.2.1) (R : Row encS h0 x.2.2 y.2.2) (b1 : z.n ≤ 1048576) (b2 : z.texts.length ≤ 1048576) (b3 : z.ids.length + y.2.2.length ≤ 1099511627776)
  {Q : Unit × AHeap → Prop} {rec : AHeap → Option (Unit × AHeap)} (hr : ∀ h', ZA h' rb (z.add y) → Keeps h0 h' → Gx.Wp (rec h') Q) {J : Option Addr → AHeap → Option (Unit × AHeap)}
  (hJ : ∀ (x26 : Option Addr) (h30 : AHeap), J x26 h30 = (ldL (⟨rb, 0 + 4, none⟩ : Addr) h30).bind fun x33 => (x26).bind fun p34 => (Gx.ldS (⟨p34.block, p34.off + 1, none⟩ : Addr) h30).bind fun x35 =>
   (rdS 1 (⟨(some ⟨h30.next, 0, some 0⟩), 1, 1⟩ : Slc) (AHeap.new h30 (.cells [.string x35] 9 true 0))).bind fun n38 => (appendA 1 16 9 (AHeap.new h30 (.cells [.string x35] 9 true 0)) x33 n38 1).bind fun r37 =>
   (Gx.st1 (⟨rb, 0 + 4, none⟩ : Addr) (.slice r37.1.a r37.1.len r37.1.cap) r37.2).bind fun h40 => (ldL (⟨rb, 0 + 3, none⟩ : Addr) h40).bind fun x42 => (x26).bind fun p43 => (ldL (⟨p43.block, p43.off + 2, none⟩ : Addr) h40).bind fun x44 => (rdS 1 x44 h40).bind fun n46 =>
   (appendA 1 16 9 h40 x42 n46 x44.len).bind fun r45 => (Gx.st1 (⟨rb, 0 + 3, none⟩ : Addr) (.slice r45.1.a r45.1.len r45.1.cap) r45.2).bind fun h48 => rec h48) :
  Gx.Wp ((Gx.stL 3 (⟨h.next, 0, none⟩ : Addr) ([.int .i64 x.1, .string x.2.1, .slice x.2.2.a x.2.2.len x.2.2.cap]) (h.new (.cells [.int .i64 0, .string ⟨#[]⟩, .slice none 0 0] 29 true 0))).bind fun h23 =>
   (Gx.ldI .i64 (⟨h.next, 0, none⟩ : Addr) h23).bind fun x49 =>
   (if (x49 == 0) = true then
    (Gx.ldI .i64 (⟨rb, 0 + 2, none⟩ : Addr) h23).bind fun x51 => (Gx.st1 (⟨rb, 0 + 2, none⟩ : Addr) (.int .i64 (IntKind.wrap .i64 (x51 + 1))) h23).bind fun h53 => J (some (⟨h.next, 0, none⟩ : Addr)) h53
   else
    (Gx.ldI .i64 (⟨rb, 0 + 0, none⟩ : Addr) h23).bind fun x55 =>
    (if (x55 == 0) = true then
     (Gx.ldI .i64 (⟨h.next, 0, none⟩ : Addr) h23).bind fun x56 => (Gx.st1 (⟨rb, 0 + 0, none⟩ : Addr) (.int .i64 x56) h23).bind fun h58 => J (some (⟨h.next, 0, none⟩ : Addr)) h58
    else J (some (⟨h.next, 0, none⟩ : Addr)) h23))) Q := by
 obtain ⟨s, t, hb, As, At, ap⟩ := Z.blk
 have lt := Z.lt
 refine keep3 _ _ _ ?_
 have l := kept3_keeps h x.1 x.2.1 x.2.2
 have G := kept3_get h x.1 x.2.1 x.2.2
 have nK := kept3_next h x.1 x.2.1 x.2.2
 obtain ⟨K, eK⟩ : ∃ K, K = kept3 h x.1 x.2.1 x.2.2 := ⟨_, rfl⟩
 rw [← eK] at l G nK
 have eK' : (h.new (.cells [.int .i64 0, .string ⟨#[]⟩, .slice none 0 0] 29 true 0)).set h.next (.cells [.int .i64 x.1, .string x.2.1, .slice x.2.2.a x.2.2.len x.2.2.cap] 29 true 0) = K := eK.symm
 rw [eK']
 have hbK := (l.oth _ lt fun f => f).trans hb
 have AsK := As.keeps l
 have AtK := At.keeps l
 have kK := kp.trans l
 have rest : ∀ (h30 : AHeap) (cd : Int) (nn : Nat), Chg (· = rb) K h30 → h30.get rb = some (.cells [.int .i64 cd, .string ⟨#[]⟩, .int .i64 nn, .slice s.a s.len s.cap, .slice t.a t.len t.cap, .slice none 0 0, .slice none 0 0] 60 true 0) → (z.add y).code = cd → (z.add y).n = nn → Gx.Wp (J (some (⟨h.next, 0, none⟩ : Addr)) h30) Q := by
  intro h30 cd nn c30 hb30 ec en
  rw [hJ]
  have nrb : ∀ {u : Slc} {us : List ByteArray}, Acc encS 9 (rb + 1) K u us → Acc encS 9 (rb + 1) h30 u us := fun A => A.chg c30 fun a ha q => by have := (A.lt a ha).2; omega
  have As3 := nrb AsK
  have At3 := nrb AtK
  have k30 : Keeps h0 h30 := Chg.beh kK c30 fun y' hy q => by omega
  have n30 := c30.nx
  have G30 := (c30.oth _ (by omega) (by omega)).trans G
  refine Gx.Wp.bnd (sldL_at hb30 rfl) (Gx.Wp.bnd rfl (Gx.Wp.bnd (ldS_at G30 rfl) (Gx.Wp.bnd rdS_one ?_)))
  obtain ⟨t', h37, a37, At', c37, d37⟩ := At3.push encS_one x.2.1 (bytes := 16) (by omega) (by decide) (by omega)
  refine Gx.Wp.bnd a37 ?_
  have ntS : ∀ y', ofS t y' → rb < y' ∧ y' ≠ h.next := by
   rintro y' ⟨a, ha, q⟩
   have h1 := (At.lt a ha)
   exact ⟨by omega, by omega⟩
  have hb37 := (c37.oth _ (by omega) (fun q => by have := (ntS _ q).1; omega)).trans hb30
  refine Gx.Wp.bnd (st1_sb hb37 (by show 0 + 4 < 7; omega) rfl) ?_
  obtain ⟨h40, e40⟩ : ∃ h40, h40 = h37.set rb (.cells [.int .i64 cd, .string ⟨#[]⟩, .int .i64 nn, .slice s.a s.len s.cap, .slice t'.a t'.len t'.cap, .slice none 0 0, .slice none 0 0] 60 true 0) := ⟨_, rfl⟩
  have e40' : h37.set rb (.cells ([Value.int .i64 cd, .string ⟨#[]⟩, .int .i64 nn, .slice s.a s.len s.cap, .slice t.a t.len t.cap, .slice none 0 0, .slice none 0 0].set (0 + 4) (.slice t'.a t'.len t'.cap)) 60 true 0) = h40 := e40.symm
  dsimp only
  rw [e40']
  have c40 : Chg (· = rb) h37 h40 := e40 ▸ Chg.set (.inr rfl)
  have hb40 : h40.get rb = some (.cells [.int .i64 cd, .string ⟨#[]⟩, .int .i64 nn, .slice s.a s.len s.cap, .slice t'.a t'.len t'.cap, .slice none 0 0, .slice none 0 0] 60 true 0) := by rw [e40]; simp
  have As4 : Acc encS 9 (rb + 1) h40 s z.ids := (As3.chg c37 fun a ha ⟨a', ha', q⟩ => ap a a' ha ha' q).chg c40 fun a ha q => by have := (As.lt a ha).2; omega
  have At4 : Acc encS 9 (rb + 1) h40 t' (z.texts ++ [x.2.1]) := At'.chg c40 fun a ha q => by have := (At'.lt a ha).2; omega
  have n37 := c37.nx
  have n40 := c40.nx
  have k40 : Keeps h0 h40 := Chg.beh (Chg.beh k30 c37 fun y' hy q => by have := (ntS _ q).1; omega) c40 fun y' hy q => by omega
  have G40 := (c40.oth _ (by omega) (by omega)).trans ((c37.oth _ (by omega) (fun q => (ntS _ q).2 rfl)).trans G30)
  have R4 : Row encS h40 ⟨x.2.2.a, x.2.2.len, x.2.2.cap⟩ y.2.2 := Row.keeps R k40
  refine Gx.Wp.bnd (sldL_at hb40 rfl) (Gx.Wp.bnd rfl (Gx.Wp.bnd (sldL_at G40 rfl) (Gx.Wp.bnd R4.rdS ?_)))
  rw [show (⟨x.2.2.a, x.2.2.len, x.2.2.cap⟩ : Slc).len = y.2.2.length from R4.1]
  obtain ⟨s', h45, a45, As', c45, d45⟩ := As4.app encS_one y.2.2 (bytes := 16) (by omega) (by decide) (by omega)
  refine Gx.Wp.bnd a45 ?_
  have hb45 := (c45.oth _ (by omega) (fun ⟨a, ha, q⟩ => by have := (As.lt a ha).2; omega)).trans hb40
  refine Gx.Wp.bnd (st1_sb hb45 (by show 0 + 3 < 7; omega) rfl) ?_
  obtain ⟨h48, e48⟩ : ∃ h48, h48 = h45.set rb (.cells [.int .i64 cd, .string ⟨#[]⟩, .int .i64 nn, .slice s'.a s'.len s'.cap, .slice t'.a t'.len t'.cap, .slice none 0 0, .slice none 0 0] 60 true 0) := ⟨_, rfl⟩
  have e48' : h45.set rb (.cells ([Value.int .i64 cd, .string ⟨#[]⟩, .int .i64 nn, .slice s.a s.len s.cap, .slice t'.a t'.len t'.cap, .slice none 0 0, .slice none 0 0].set (0 + 3) (.slice s'.a s'.len s'.cap)) 60 true 0) = h48 := e48.symm
  rw [e48']
  have c48 : Chg (· = rb) h45 h48 := e48 ▸ Chg.set (.inr rfl)
  have apn : ApartS s' t' := by
   intro a a' ha ha' q
   have h1 := d37 a' ha'
   have h2 := (At'.lt a' ha').1
   rcases d45 a ha with h3 | h3
   ·omega
   ·have h4 := (As.lt a h3).1
    omega
  have At5 : Acc encS 9 (rb + 1) h45 t' (z.texts ++ [x.2.1]) := At4.chg c45 fun a ha ⟨a', ha', q⟩ => by
   have h1 := d37 a ha
   have h4 := (As.lt a' ha').1
   omega
  refine hr h48 ⟨⟨s', t', ?_, ?_, ?_, apn⟩, ?_⟩ (Chg.beh (Chg.beh k40 c45 fun y' hy ⟨a, ha, q⟩ => by have := (As.lt a ha).2; omega) c48 fun y' hy q => by omega)
  ·rw [ec, en, e48]; simp
  ·exact As'.chg c48 fun a ha q => by have := (As'.lt a ha).2; omega
  ·have : (z.add y).texts = z.texts ++ [x.2.1] := by rw [e2]; rfl
   rw [this]
   exact At5.chg c48 fun a ha q => by have := (At5.lt a ha).2; omega
  ·have := c45.nx
   have := c48.nx
   omega
 refine Gx.Wp.bnd (sldI_at G rfl) ?_
 by_cases c : x.1 = 0
 ·refine Gx.Wp.ifp (by rw [c]; rfl) (Gx.Wp.bnd (sldI_at hbK rfl) ?_)
  rw [Gx.w1 (by omega)]
  refine Gx.Wp.bnd (st1_sb hbK (by show 0 + 2 < 7; omega) rfl) (rest _ z.code (z.n + 1) (Chg.set (.inr rfl)) (sset_get _ _ _) ?_ ?_)
  ·simp only [Rz.add]; rw [if_pos (by rw [← e1]; exact c)]
  ·simp only [Rz.add]; rw [if_pos (by rw [← e1]; exact c)]
 ·refine Gx.Wp.ifn (by simpa using c) (Gx.Wp.bnd (sldI_at hbK rfl) ?_)
  have c' : ¬ y.1 = 0 := by rw [← e1]; exact c
  by_cases c2 : z.code = 0
  ·refine Gx.Wp.ifp (by rw [c2]; rfl) (Gx.Wp.bnd (sldI_at G rfl) (Gx.Wp.bnd (st1_sb hbK (by show 0 + 0 < 7; omega) rfl) (rest _ x.1 z.n (Chg.set (.inr rfl)) (sset_get _ _ _) ?_ ?_)))
   ·simp only [Rz.add]; rw [if_neg c', if_pos c2, e1]
   ·simp only [Rz.add]; rw [if_neg c']
  ·refine Gx.Wp.ifn (by simpa using c2) (rest K z.code z.n (Chg.refl _ _) hbK ?_ ?_)
   ·simp only [Rz.add]; rw [if_neg c', if_neg c2]
   ·simp only [Rz.add]; rw [if_neg c']
end Gs
namespace Gs
open Go Gx
theorem zof_snoc (ys : List Ry) (y : Ry) : Rz.of (ys ++ [y]) = (Rz.of ys).add y := by simp [Rz.of]
theorem zof_texts (ys : List Ry) : (Rz.of ys).texts = ys.map (·.2.1) := by
 have : ∀ (ys : List Ry) (z : Rz), (ys.foldl Rz.add z).texts = z.texts ++ ys.map (·.2.1) := by
  intro ys
  induction ys with
  | nil => intro z; simp
  | cons y ys ih => intro z; rw [List.foldl_cons, ih]; simp [Rz.add]
 exact (this ys Rz.zero).trans (by simp [Rz.zero])
theorem zof_ids (ys : List Ry) : (Rz.of ys).ids.length = idsL ys := by
 have : ∀ (ys : List Ry) (z : Rz), (ys.foldl Rz.add z).ids.length = z.ids.length + idsL ys := by
  intro ys
  induction ys with
  | nil => intro z; simp [idsL]
  | cons y ys ih => intro z; rw [List.foldl_cons, ih]; simp [Rz.add, idsL]; omega
 have h := this ys Rz.zero
 rw [show (Rz.zero.ids.length + idsL ys) = idsL ys by simp [Rz.zero]] at h
 exact h
theorem zof_n (ys : List Ry) : (Rz.of ys).n ≤ ys.length := by
 have : ∀ (ys : List Ry) (z : Rz), (ys.foldl Rz.add z).n ≤ z.n + ys.length := by
  intro ys
  induction ys with
  | nil => intro z; simp
  | cons y ys ih =>
   intro z
   rw [List.foldl_cons]
   have h := ih (z.add y)
   have : (z.add y).n ≤ z.n + 1 := by simp only [Rz.add]; split <;> omega
   simp; omega
 have h := this ys Rz.zero
 rw [show (Rz.zero.n + ys.length) = ys.length by simp [Rz.zero]] at h
 exact h
theorem l73_l0 {k : Nat} (D : CallF) (bot) {h0 : AHeap} {rb : Nat} {ao : Option Addr} {sa : Slc} {xs : List Rp} {ys : List Ry} (R : RowW 3 encP h0 sa xs) (S : Say h0 xs ys) (hrb : h0.next ≤ rb) (hl : ys.length ≤ 1048576) (hi : idsL ys ≤ 1099511627776) {Q : Unit × AHeap → Prop} (j5)
  (hj : ∀ h, ZA h rb (Rz.of ys) → Keeps h0 h → Gx.Wp (j5 ao (some ⟨rb, 0, none⟩) h) Q) :
  ∀ (d i : Nat) (h : AHeap), i + d = ys.length → ZA h rb (Rz.of (ys.take i)) → Keeps h0 h → Gx.Wp (iterK bot (d + 1) (port_List_1_1_l0b k D j5) ao (some ⟨rb, 0, none⟩) sa (sa.len : Int) (i : Int) h) Q := fun d => by
 have len : sa.len = ys.length := by rw [R.len, S.1]
 induction d with
 | zero =>
  intro i h hi' Z kp
  rw [iterK_s]; simp only [port_List_1_1_l0b]
  obtain rfl : i = ys.length := by omega
  rw [List.take_length] at Z
  exact Gx.Wp.ifn (by rw [len]; simp) (hj h Z kp)
 | succ d ih =>
  intro i h hi' Z kp
  rw [iterK_s]; simp only [port_List_1_1_l0b]
  refine Gx.Wp.ifp (by rw [len]; simp; omega) ?_
  obtain ⟨x, hx⟩ := isome (l := xs) (i := i) (by rw [S.1]; omega)
  obtain ⟨y, hy⟩ := isome (l := ys) (i := i) (by omega)
  obtain ⟨e1, e2, e3⟩ := S.2 i x y hx hy
  obtain ⟨q, q1, q2, _, _⟩ := (R.keeps kp).ld encP_len (by decide) hx
  refine Gx.Wp.bnd q1 (Gx.Wp.bnd q2 (Gx.Wp.bnd rfl ?_))
  have tk : ys.take (i + 1) = ys.take i ++ [y] := by rw [List.take_add_one, hy]; rfl
  have tl : (ys.take i).length = i := by simp; omega
  have il : idsL (ys.take i) + y.2.2.length ≤ idsL ys := by
   have : ys = ys.take i ++ (y :: ys.drop (i + 1)) := by rw [← dropc hy, List.take_append_drop]
   have h2 := congrArg idsL this
   rw [idsL_app] at h2
   simp only [idsL] at h2
   omega
  have n1 := zof_n (ys.take i)
  have n2 := zof_ids (ys.take i)
  have n3 := congrArg List.length (zof_texts (ys.take i))
  rw [List.length_map, tl] at n3
  refine l73_step Z kp hrb e1 e2 e3 (by omega) (by omega) (by omega) (rec := fun h48 => iterK bot (d + 1) (port_List_1_1_l0b k D j5) ao (some ⟨rb, 0, none⟩) sa (sa.len : Int) (IntKind.wrap .i64 ((i : Int) + 1)) h48) (fun h' Z' kp' => ?_)
   (J := fun x26 h30 => (some (⟨rb, 0, none⟩ : Addr)).bind fun p32 => (ldL (⟨p32.block, p32.off + 4, none⟩ : Addr) h30).bind fun x33 => (x26).bind fun p34 => (Gx.ldS (⟨p34.block, p34.off + 1, none⟩ : Addr) h30).bind fun x35 =>
    (rdS 1 (⟨(some ⟨h30.next, 0, some 0⟩), 1, 1⟩ : Slc) (AHeap.new h30 (.cells [.string x35] 9 true 0))).bind fun n38 => (appendA 1 16 9 (AHeap.new h30 (.cells [.string x35] 9 true 0)) x33 n38 1).bind fun r37 =>
    (some (⟨rb, 0, none⟩ : Addr)).bind fun p39 => (Gx.st1 (⟨p39.block, p39.off + 4, none⟩ : Addr) (.slice r37.1.a r37.1.len r37.1.cap) r37.2).bind fun h40 => (some (⟨rb, 0, none⟩ : Addr)).bind fun p41 => (ldL (⟨p41.block, p41.off + 3, none⟩ : Addr) h40).bind fun x42 => (x26).bind fun p43 => (ldL (⟨p43.block, p43.off + 2, none⟩ : Addr) h40).bind fun x44 => (rdS 1 x44 h40).bind fun n46 =>
    (appendA 1 16 9 h40 x42 n46 x44.len).bind fun r45 => (some (⟨rb, 0, none⟩ : Addr)).bind fun p47 => (Gx.st1 (⟨p47.block, p47.off + 3, none⟩ : Addr) (.slice r45.1.a r45.1.len r45.1.cap) r45.2).bind fun h48 => iterK bot (d + 1) (port_List_1_1_l0b k D j5) ao (some ⟨rb, 0, none⟩) sa (sa.len : Int) (IntKind.wrap .i64 ((i : Int) + 1)) h48) (fun _ _ => rfl)
  rw [Gx.w1 (by omega)]
  exact ih (i + 1) h' (by omega) (by rw [tk, zof_snoc]; exact Z') kp'
structure Io where
 q : Rp × ByteArray
 th : Value
 over : Bool
 code : Int
 n : Int
 ids : Slc
 texts : Slc
 steps : Nat
abbrev Rq := Int × Int × ByteArray × ByteArray
def encQ (r : Rq) : List Value := [.int .i64 r.1, .int .i64 r.2.1, .string r.2.2.1, .string r.2.2.2]
theorem encQ_len (r : Rq) : (encQ r).length = 4 := rfl
theorem encQ_one (r : Rq) : allOne (encQ r) = true := rfl
def ioC (q : Rq) (th : Value) (over : Bool) (code n : Int) (ids texts : Slc) (steps : Nat) : List Value :=
 [.int .i64 q.1, .int .i64 q.2.1, .string q.2.2.1, .string q.2.2.2, th, .bool over, .int .i64 code, .string ⟨#[]⟩, .int .i64 n, .slice ids.a ids.len ids.cap, .slice texts.a texts.len texts.cap, .slice none 0 0, .slice none 0 0, .int .i64 steps]
theorem stL_part {h : AHeap} {b o : Nat} {sp : Option Nat} {c cs : List Value} {e : TypeId} (hb : h.get b = some (.cells c e true 0)) (hn : cs ≠ []) (hl : o + cs.length ≤ c.length) (ho : allOne cs = true) : Gx.stL cs.length ⟨b, o, sp⟩ cs h = some (h.set b (.cells (splice c o cs) e true 0)) := by
 unfold stL
 rw [Nat.beq_refl, cond_true]
 cases cs with
 | nil => exact absurd rfl hn
 | cons v t =>
  simp only [AHeap.wrL, hb]
  rw [if_pos ⟨hl, Nat.zero_le _, ho⟩]
theorem End_spec {k : Nat} (D : CallF) {h : AHeap} {ib : Nat} {q : Rq} {th : Value} {st : Nat} {code n : Int} {ids texts : Slc} {i0 t0 : Slc} {c0 n0 : Int} (hb : h.get ib = some (.cells (ioC q th false c0 n0 i0 t0 st) 130 true 0)) (hlt : ib < h.next) :
  Gx.Wp (port_IO_End k D (some ⟨ib, 0, none⟩) (code, ⟨#[]⟩, n, ids, texts, ⟨none, 0, 0⟩, ⟨none, 0, 0⟩) h) fun z => Chg (· = ib) h z.2 ∧ z.2.get ib = some (.cells (ioC q .nilFunc true code n ids texts st) 130 true 0) := by
 simp only [port_IO_End]
 obtain ⟨H1, e1⟩ : ∃ H1, H1 = h.new (.cells [.int .i64 code, .string ⟨#[]⟩, .int .i64 n, .slice ids.a ids.len ids.cap, .slice texts.a texts.len texts.cap, .slice none 0 0, .slice none 0 0] 60 true 0) := ⟨_, rfl⟩
 rw [← e1]
 have k1 : Keeps h H1 := e1 ▸ Keeps.new h _
 have g1 : H1.get h.next = some (.cells [.int .i64 code, .string ⟨#[]⟩, .int .i64 n, .slice ids.a ids.len ids.cap, .slice texts.a texts.len texts.cap, .slice none 0 0, .slice none 0 0] 60 true 0) := by rw [e1]; simp
 have hb1 := (k1.oth _ hlt fun f => f).trans hb
 refine Gx.Wp.bnd rfl (Gx.Wp.bnd (ldB_at hb1 rfl) (Gx.Wp.ifp rfl (Gx.Wp.bnd rfl (Gx.Wp.bnd (st1_sb hb1 (by show 0 + 5 < 14; omega) rfl) ?_))))
 have g2 : ∀ B, (H1.set ib B).get h.next = some (.cells [.int .i64 code, .string ⟨#[]⟩, .int .i64 n, .slice ids.a ids.len ids.cap, .slice texts.a texts.len texts.cap, .slice none 0 0, .slice none 0 0] 60 true 0) := fun B => by simp only [AHeap.get_set]; rw [if_neg (by omega)]; exact g1
 refine Gx.Wp.bnd (sldA_at (g2 _) rfl) (Gx.Wp.gp (ssw1 (bnd (sldA_at g1 rfl) rfl)) (Gx.Wp.bnd rfl (Gx.Wp.bnd rfl ?_)))
 refine Gx.Wp.bnd (stL_part (cs := [.int .i64 code, .string ⟨#[]⟩, .int .i64 n, .slice ids.a ids.len ids.cap, .slice texts.a texts.len texts.cap, .slice none 0 0, .slice none 0 0]) (sset_get _ _ _) (by simp) (by show 0 + 6 + 7 ≤ 14; omega) rfl) ?_
 refine Gx.Wp.bnd rfl (Gx.Wp.bnd (st1_sb (sset_get _ _ _) (by show 0 + 4 < 14; omega) rfl) (Gx.Wp.of ⟨?_, ?_⟩))
 ·exact (Chg.keeps k1).trans ((Chg.set (S := (· = ib)) (.inr rfl)).trans ((Chg.set (S := (· = ib)) (.inr rfl)).trans (Chg.set (S := (· = ib)) (.inr rfl))))
 ·rw [sset_get]; rfl
theorem L73_spec {k : Nat} (D : CallF) {h : AHeap} {b1 ib : Nat} {sa : Slc} {xs : List Rp} {ys : List Ry} (R : RowW 3 encP h sa xs) (S : Say h xs ys) (hl : ys.length ≤ 1048576) (hi : idsL ys ≤ 1099511627776) (hk : ys.length < k) {q : Rq} {th : Value} {st : Nat} {i0 t0 : Slc} {c0 n0 : Int}
  (hb : h.get b1 = some (.cells [.pointer (some ⟨ib, 0, none⟩)] 80 true 0)) (hlt : b1 < h.next) (hio : h.get ib = some (.cells (ioC q th false c0 n0 i0 t0 st) 130 true 0)) (hlt2 : ib < h.next) :
  Gx.Wp (port_List_1_1 k D sa (some ⟨b1, 0, none⟩) h) fun z => Chg (· = ib) h z.2 ∧ ∃ s t : Slc, z.2.get ib = some (.cells (ioC q .nilFunc true (Rz.of ys).code (Rz.of ys).n s t st) 130 true 0) ∧ Acc encS 9 h.next z.2 s (Rz.of ys).ids ∧ Acc encS 9 h.next z.2 t (Rz.of ys).texts := by
 simp only [port_List_1_1]
 refine Gx.Wp.jn fun j5 h5 => ?_
 unfold port_List_1_1_l0
 have len : sa.len = ys.length := by rw [R.len, S.1]
 obtain ⟨bot, eb⟩ := iterK_of (fun _ _ _ _ _ _ => none) (port_List_1_1_l0b k D j5) (show ys.length + 1 ≤ k by omega)
 rw [eb]
 have k1 : Keeps h (h.new (.cells [.int .i64 0, .string ⟨#[]⟩, .int .i64 0, .slice none 0 0, .slice none 0 0, .slice none 0 0, .slice none 0 0] 60 true 0)) := Keeps.new h _
 refine l73_l0 D bot (h0 := h) (rb := h.next) R S (Nat.le_refl _) hl hi j5 (fun H Z kp => ?_) ys.length 0 _ (by omega) ⟨⟨⟨none, 0, 0⟩, ⟨none, 0, 0⟩, by simp; exact ⟨rfl, rfl⟩, Acc.nil _ _ _ _, Acc.nil _ _ _ _, fun a b ha => by cases ha⟩, by simp⟩ k1
 subst h5
 obtain ⟨s, t, hz, As, At, ap⟩ := Z.blk
 have hbH := (kp.oth _ hlt fun f => f).trans hb
 have hioH := (kp.oth _ hlt2 fun f => f).trans hio
 have nx := kp.nx
 refine Gx.Wp.bnd rfl (Gx.Wp.bnd (by simp only [ldP, AHeap.rd1, hbH]; rfl) (Gx.Wp.bnd rfl (Gx.Wp.bnd (sldA_at hz rfl) (Gx.Wp.bnd rfl ?_))))
 refine Gx.Wp.call (End_spec D hioH (by omega)) fun z hz2 => ?_
 obtain ⟨c, g⟩ := hz2
 refine Gx.Wp.of ⟨(Chg.keeps kp).trans c, s, t, g, ?_, ?_⟩
 ·have A := As.chg c fun a ha q => by have := (As.lt a ha).2; omega
  exact ⟨A.st, fun a ha => ⟨(A.lt a ha).1, by have := (As.lt a ha).2; omega⟩⟩
 ·have A := At.chg c fun a ha q => by have := (At.lt a ha).2; omega
  exact ⟨A.st, fun a ha => ⟨(A.lt a ha).1, by have := (At.lt a ha).2; omega⟩⟩
end Gs
namespace Gs
open Go Gx
theorem RowW.rdS {α : Type} {w : Nat} {enc : α → List Value} {h : AHeap} {s : Slc} {xs : List α} (R : RowW w enc h s xs) (hw : ∀ x, (enc x).length = w) (hw0 : 0 < w) : Gx.rdS w s h = some (xs.flatMap enc) := by
 cases xs with
 | nil =>
  have : s.len = 0 := R.len
  simp only [Gx.rdS, this]
  cases s.a with
  | none => rfl
  | some a => simp [AHeap.rdL]
 | cons y ys =>
  obtain ⟨a, c, e, r, fz, h1, h2, h3, _⟩ := R.at' 0 y rfl
  have each : ∀ (i : Nat) (x : α), (y :: ys)[i]? = some x → ∀ (j : Nat) (v : Value), (enc x)[j]? = some v → c[a.off + i * w + j]? = some v := fun i x hx => by
   obtain ⟨a', c', e', r', fz', g1, _, g3, g4⟩ := R.at' i x hx
   rw [h1] at g1; cases g1
   rw [h3] at g3; cases g3
   exact g4
  have hl := flatW_length hw (y :: ys)
  have fl : ∀ j, j < (y :: ys).length * w → c[a.off + j]? = ((y :: ys).flatMap enc)[j]? := fun j hj => by
   have hi : j / w < (y :: ys).length := (Nat.div_lt_iff_lt_mul hw0).2 hj
   obtain ⟨x, hx⟩ := isome hi
   have hr : j % w < (enc x).length := by rw [hw]; exact Nat.mod_lt _ hw0
   obtain ⟨v, hv⟩ := isome hr
   have e1 := each _ x hx _ v hv
   have e2 := flatW_get hw hx _ v hv
   have ej : j / w * w + j % w = j := Nat.div_add_mod' j w
   rw [show a.off + j / w * w + j % w = a.off + j by omega] at e1
   rw [ej] at e2
   rw [e1, e2]
  simp only [Gx.rdS, h1, R.len]
  cases hm : (y :: ys).length * w with
  | zero =>
   have : 0 < (y :: ys).length * w := Nat.mul_pos (by simp) hw0
   omega
  | succ m =>
   have hlast := fl m (by omega)
   obtain ⟨v, hv⟩ := isome (l := (y :: ys).flatMap enc) (i := m) (by omega)
   rw [hv] at hlast
   have := (List.getElem?_eq_some_iff.1 hlast).1
   simp only [AHeap.rdL, h3]
   rw [if_pos (by omega)]
   congr 1
   apply List.ext_getElem?
   intro j
   rw [List.getElem?_take, List.getElem?_drop]
   by_cases hj : j < m + 1
   ·rw [if_pos hj]; exact fl j (by omega)
   ·rw [if_neg hj, List.getElem?_eq_none (by omega)]
theorem empty0 {α : Type} {w : Nat} {enc : α → List Value} {e : TypeId} {base : Nat} {h : AHeap} {b : Nat} (hb : base ≤ b) (hl : b < h.next) : AccV w enc e base h (⟨some ⟨b, 0, some 0⟩, 0, 0⟩ : Slc) [] :=
 ⟨.inl ⟨rfl, rfl, rfl, fun a ha => by cases ha; rfl⟩, fun a ha => by cases ha; exact ⟨hl, hb⟩⟩
def encS1 (x : ByteArray) : List Value := [encS x]
theorem encS1_len (x : ByteArray) : (encS1 x).length = 1 := rfl
theorem encS1_one (x : ByteArray) : allOne (encS1 x) = true := rfl
theorem flatS : ∀ xs : List ByteArray, xs.flatMap encS1 = xs.map encS
 | [] => rfl
 | x :: xs => by rw [List.flatMap_cons, flatS xs]; rfl
theorem RowW.rowS {h : AHeap} {s : Slc} {xs : List ByteArray} (R : RowW 1 encS1 h s xs) : Row encS h s xs := by
 refine ⟨R.len, fun i x hx => ?_⟩
 obtain ⟨a, c, e, r, fz, h1, h2, h3, h4⟩ := R.at' i x hx
 have := h4 0 (encS x) rfl
 rw [Nat.mul_one, Nat.add_zero] at this
 exact ⟨a, c, e, r, fz, h1, h2, h3, this⟩
theorem cloneS_spec {k : Nat} (D : CallF) {h : AHeap} {s : Slc} {xs : List ByteArray} (R : Row encS h s xs) (hl : xs.length ≤ 1099511627776) : Gx.Wp (slices_Clone_string_string k D s h) fun q => Keeps h q.2 ∧ Row encS q.2 q.1 xs ∧ ∀ a, q.1.a = some a → h.next ≤ a.block := by
 simp only [slices_Clone_string_string]
 by_cases c : s.a = none
 ·have : xs = [] := by
   cases xs with
   | nil => rfl
   | cons x xs =>
    obtain ⟨a, _, _, _, _, h1, _⟩ := R.2 0 x rfl
    rw [c] at h1; cases h1
  subst this
  exact Gx.Wp.ifp (by rw [c]; rfl) (Gx.Wp.of ⟨Chg.refl _ _, ⟨rfl, fun i x hx => by simp at hx⟩, fun a ha => by cases ha⟩)
 ·refine Gx.Wp.ifn (by cases hs : s.a with | none => exact absurd hs c | some a => simp) ?_
  obtain ⟨H1, e1⟩ : ∃ H1, H1 = h.new (.cells [] 9 true 0) := ⟨_, rfl⟩
  rw [← e1]
  have k1 : Keeps h H1 := e1 ▸ Keeps.new h _
  have n1 : H1.next = h.next + 1 := by rw [e1]; rfl
  refine Gx.Wp.bnd (Row.keeps R k1).rdS ?_
  obtain ⟨s7, h7, a7, A7, c7, d7⟩ := (empty0 (w := 1) (enc := encS1) (e := 9) (base := h.next) (h := H1) (b := h.next) (Nat.le_refl _) (by omega)).app encS1_len encS1_one xs (bytes := 16) (by decide) (by simp; omega) (by omega)
  rw [flatS] at a7
  rw [show s.len = xs.length from R.1]
  refine Gx.Wp.bnd a7 (Gx.Wp.of ⟨Chg.beh k1 c7 fun y hy ⟨a, ha, q⟩ => by cases ha; simp only at q; omega, ?_, fun a ha => (A7.lt a ha).2⟩)
  rw [List.nil_append] at A7
  exact RowW.rowS (A7.row encS1_len)
theorem cloneQ_spec {k : Nat} (D : CallF) {h : AHeap} {s : Slc} {xs : List Rq} (R : RowW 4 encQ h s xs) (hl : xs.length ≤ 1048576) : Gx.Wp (slices_Clone_api_Req_api_Req k D s h) fun q => Keeps h q.2 ∧ AccV 4 encQ 32 h.next q.2 q.1 xs := by
 simp only [slices_Clone_api_Req_api_Req]
 by_cases c : s.a = none
 ·have : xs = [] := by
   cases xs with
   | nil => rfl
   | cons x xs =>
    obtain ⟨a, _, _, _, _, h1, _⟩ := R.at' 0 x rfl
    rw [c] at h1; cases h1
  subst this
  exact Gx.Wp.ifp (by rw [c]; rfl) (Gx.Wp.of ⟨Chg.refl _ _, AccV.nil _ _ _ _ _⟩)
 ·refine Gx.Wp.ifn (by cases hs : s.a with | none => exact absurd hs c | some a => simp) ?_
  obtain ⟨H1, e1⟩ : ∃ H1, H1 = h.new (.cells [] 32 true 0) := ⟨_, rfl⟩
  rw [← e1]
  have k1 : Keeps h H1 := e1 ▸ Keeps.new h _
  have n1 : H1.next = h.next + 1 := by rw [e1]; rfl
  refine Gx.Wp.bnd (RowW.rdS (R.keeps k1) encQ_len (by decide)) ?_
  obtain ⟨s7, h7, a7, A7, c7, d7⟩ := (empty0 (w := 4) (enc := encQ) (e := 32) (base := h.next) (h := H1) (b := h.next) (Nat.le_refl _) (by omega)).app encQ_len encQ_one xs (bytes := 48) (by decide) (by simp; omega) (by omega)
  rw [show s.len = xs.length from R.len]
  rw [List.nil_append] at A7
  exact Gx.Wp.bnd a7 (Gx.Wp.of ⟨Chg.beh k1 c7 fun y hy ⟨a, ha, q⟩ => by cases ha; simp only at q; omega, A7⟩)
structure JN where
 jb : Nat
 ib : Nat
 ab : Nat
 lb : Nat
 tb : Nat
 ob : Nat
 nb : Nat
 b1 : Nat
 ac : Nat
 ls : Slc
def ptr (b : Nat) : Value := .pointer (some ⟨b, 0, none⟩)
def JN.next (N : JN) : Value := .func (.func 114) ⟨[]⟩ ⟨[ptr N.ab, ptr N.lb, ptr N.tb, ptr N.ob, ptr N.nb]⟩
def JN.back (N : JN) : Value := .func (.func 116) ⟨[]⟩ ⟨[ptr N.ab, ptr N.nb]⟩
structure JW (h : AHeap) (base : Nat) (N : JN) (qs : List Rq) : Prop where
 l : h.get N.lb = some (.cells [.slice N.ls.a N.ls.len N.ls.cap] 51 true 0)
 t : h.get N.tb = some (.cells [.func (.func 73) ⟨[]⟩ ⟨[ptr N.b1]⟩] 128 true 0)
 o : h.get N.ob = some (.cells [ptr N.ib] 80 true 0)
 b : h.get N.b1 = some (.cells [ptr N.ib] 80 true 0)
 n : h.get N.nb = some (.cells [N.next] 1 true 0)
 ls : AccV 4 encQ 32 base h N.ls qs
 lt : (N.lb < h.next ∧ N.tb < h.next ∧ N.ob < h.next ∧ N.b1 < h.next ∧ N.nb < h.next) ∧ N.ib < h.next ∧ N.ab < h.next ∧ N.ac < h.next
 ge : (base ≤ N.lb ∧ base ≤ N.tb ∧ base ≤ N.ob ∧ base ≤ N.b1 ∧ base ≤ N.nb) ∧ base ≤ N.ib ∧ base ≤ N.ab ∧ base ≤ N.ac
theorem JW.keeps {h h' : AHeap} {base : Nat} {N : JN} {qs : List Rq} (W : JW h base N qs) (k : Keeps h h') : JW h' base N qs := by
 obtain ⟨⟨l1, l2, l3, l4, l5⟩, l6, l7, l8⟩ := W.lt
 have nx := k.nx
 exact ⟨(k.oth _ l1 fun f => f).trans W.l, (k.oth _ l2 fun f => f).trans W.t, (k.oth _ l3 fun f => f).trans W.o, (k.oth _ l4 fun f => f).trans W.b, (k.oth _ l5 fun f => f).trans W.n, W.ls.keeps k, by omega, W.ge⟩
def JT (N : JN) (y : Nat) : Prop := y = N.ib ∨ y = N.ab ∨ y = N.ac
structure JK (h : AHeap) (N : JN) : Prop where
 i : ∃ c, h.get N.ib = some (.cells c 130 true 0)
 a : ∃ c, h.get N.ab = some (.cells c 52 true 0)
 c : ∃ c, h.get N.ac = some (.cells c 29 true 0)
theorem JK.not {h : AHeap} {N : JN} (K : JK h N) {y : Nat} {c : List Value} {e : TypeId} {r : Bool} {fz : Nat} (hy : h.get y = some (.cells c e r fz)) (he : e ≠ 130 ∧ e ≠ 52 ∧ e ≠ 29) : ¬ JT N y := by
 obtain ⟨⟨c1, h1⟩, ⟨c2, h2⟩, ⟨c3, h3⟩⟩ := K
 rintro (rfl | rfl | rfl)
 ·rw [h1] at hy; cases hy; exact he.1 rfl
 ·rw [h2] at hy; cases hy; exact he.2.1 rfl
 ·rw [h3] at hy; cases hy; exact he.2.2 rfl
theorem JW.chg {h h' : AHeap} {base : Nat} {N : JN} {qs : List Rq} (W : JW h base N qs) (K : JK h N) (k : Chg (JT N) h h') : JW h' base N qs := by
 obtain ⟨⟨l1, l2, l3, l4, l5⟩, l6, l7, l8⟩ := W.lt
 have nx := k.nx
 refine ⟨(k.oth _ l1 (K.not W.l (by decide))).trans W.l, (k.oth _ l2 (K.not W.t (by decide))).trans W.t, (k.oth _ l3 (K.not W.o (by decide))).trans W.o, (k.oth _ l4 (K.not W.b (by decide))).trans W.b, (k.oth _ l5 (K.not W.n (by decide))).trans W.n, ⟨W.ls.st.imp id ?_, fun a ha => ⟨Nat.lt_of_lt_of_le (W.ls.lt a ha).1 nx, (W.ls.lt a ha).2⟩⟩, by omega, W.ge⟩
 rintro ⟨b, h1, h2, h3⟩
 exact ⟨b, h1, (k.oth b (W.ls.lt ⟨b, 0, some (4 + 1)⟩ (by rw [h1])).1 (K.not h2 (by decide))).trans h2, h3⟩
end Gs
namespace Gs
open Go Gx
theorem blk_ne {h : AHeap} {b b' : Nat} {c c' : List Value} {e e' : TypeId} {r r' : Bool} {fz fz' : Nat} (h1 : h.get b = some (.cells c e r fz)) (h2 : h.get b' = some (.cells c' e' r' fz')) (he : e ≠ e') : b ≠ b' := by
 rintro rfl
 rw [h1] at h2
 exact he (ABlk.cells.inj (Option.some.inj h2)).2.1
structure JD (h : AHeap) (N : JN) (qs : List Rq) (xs : List Rp) : Prop where
 a : h.get N.ab = some (.cells [.slice (some ⟨N.ac, 0, some 0⟩) xs.length qs.length] 52 true 0)
 c : ∃ rest, h.get N.ac = some (.cells (xs.flatMap encP ++ rest) 29 true 0) ∧ rest.length = (qs.length - xs.length) * 3
 le : xs.length ≤ qs.length
theorem JD.kinds {h : AHeap} {N : JN} {qs : List Rq} {xs : List Rp} (d : JD h N qs xs) {c : List Value} (hi : h.get N.ib = some (.cells c 130 true 0)) : JK h N := by
 obtain ⟨rest, hc, _⟩ := d.c
 exact ⟨⟨_, hi⟩, ⟨_, d.a⟩, ⟨_, hc⟩⟩
theorem JD.io {h h' : AHeap} {N : JN} {qs : List Rq} {xs : List Rp} (d : JD h N qs xs) {c : List Value} (hi : h.get N.ib = some (.cells c 130 true 0)) (l1 : N.ab < h.next) (l2 : N.ac < h.next) (k : Chg (· = N.ib) h h') : JD h' N qs xs := by
 obtain ⟨rest, hc, hr⟩ := d.c
 have n1 : ¬ N.ab = N.ib := blk_ne d.a hi (by decide)
 have n2 : ¬ N.ac = N.ib := blk_ne hc hi (by decide)
 exact ⟨(k.oth _ l1 n1).trans d.a, ⟨rest, (k.oth _ l2 n2).trans hc, hr⟩, d.le⟩
theorem JD.keeps {h h' : AHeap} {N : JN} {qs : List Rq} {xs : List Rp} (d : JD h N qs xs) (l1 : N.ab < h.next) (l2 : N.ac < h.next) (k : Keeps h h') : JD h' N qs xs := by
 obtain ⟨rest, hc, hr⟩ := d.c
 exact ⟨(k.oth _ l1 fun f => f).trans d.a, ⟨rest, (k.oth _ l2 fun f => f).trans hc, hr⟩, d.le⟩
def Aft (base : Nat) (h' : AHeap) (N : JN) (qs : List Rq) (ys : List Ry) (q : Rq) (c0 n0 : Int) (i0 t0 : Slc) (st : Nat) : Prop :=
 (ys.length = qs.length ∧ ∃ s t : Slc, h'.get N.ib = some (.cells (ioC q .nilFunc true (Rz.of ys).code (Rz.of ys).n s t st) 130 true 0) ∧ Acc encS 9 base h' s (Rz.of ys).ids ∧ Acc encS 9 base h' t (Rz.of ys).texts) ∨
 (∃ q', qs[ys.length]? = some q' ∧ h'.get N.ib = some (.cells (ioC q' N.back false c0 n0 i0 t0 st) 130 true 0))
theorem ldP_at {h : AHeap} {b o : Nat} {sp : Option Nat} {c : List Value} {e : TypeId} {r : Bool} {fz : Nat} {m : Option Addr} (hb : h.get b = some (.cells c e r fz)) (hc : c[o]? = some (.pointer m)) : Gx.ldP ⟨b, o, sp⟩ h = some m := by
 simp only [Gx.ldP, AHeap.rd1, hb, hc]; rfl
theorem ldV_at {h : AHeap} {b o : Nat} {sp : Option Nat} {c : List Value} {e : TypeId} {r : Bool} {fz : Nat} {f : Fn} {x y : Array Value} (hb : h.get b = some (.cells c e r fz)) (hc : c[o]? = some (.func f x y)) : Gx.ldV ⟨b, o, sp⟩ h = some (.func f x y) := by
 simp only [Gx.ldV, AHeap.rd1, hb, hc]; rfl
theorem ldV_nil {h : AHeap} {b o : Nat} {sp : Option Nat} {c : List Value} {e : TypeId} {r : Bool} {fz : Nat} (hb : h.get b = some (.cells c e r fz)) (hc : c[o]? = some .nilFunc) : Gx.ldV ⟨b, o, sp⟩ h = some .nilFunc := by
 simp only [Gx.ldV, AHeap.rd1, hb, hc]; rfl
theorem Ask_spec {k : Nat} (D : CallF) {h : AHeap} {ib : Nat} {q q' : Rq} {th : Value} {fn : Fn} {fx fy : Array Value} {st : Nat} {i0 t0 : Slc} {c0 n0 : Int} (hb : h.get ib = some (.cells (ioC q th false c0 n0 i0 t0 st) 130 true 0)) (hlt : ib < h.next) :
  Gx.Wp (port_IO_Ask k D (some ⟨ib, 0, none⟩) (q'.1, q'.2.1, q'.2.2.1, q'.2.2.2) (.func fn fx fy) h) fun z => Chg (· = ib) h z.2 ∧ z.2.get ib = some (.cells (ioC q' (.func fn fx fy) false c0 n0 i0 t0 st) 130 true 0) := by
 simp only [port_IO_Ask]
 obtain ⟨H1, e1⟩ : ∃ H1, H1 = h.new (.cells [.int .i64 q'.1, .int .i64 q'.2.1, .string q'.2.2.1, .string q'.2.2.2] 32 true 0) := ⟨_, rfl⟩
 rw [← e1]
 have k1 : Keeps h H1 := e1 ▸ Keeps.new h _
 have g1 : H1.get h.next = some (.cells [.int .i64 q'.1, .int .i64 q'.2.1, .string q'.2.2.1, .string q'.2.2.2] 32 true 0) := by rw [e1]; simp
 have hb1 := (k1.oth _ hlt fun f => f).trans hb
 refine Gx.Wp.bnd rfl (Gx.Wp.bnd (ldB_at hb1 rfl) (Gx.Wp.ifp rfl (Gx.Wp.bnd (sldA_at g1 rfl) (Gx.Wp.bnd rfl (Gx.Wp.bnd rfl ?_)))))
 refine Gx.Wp.bnd (stL_part (cs := [.int .i64 q'.1, .int .i64 q'.2.1, .string q'.2.2.1, .string q'.2.2.2]) hb1 (by simp) (by show 0 + 0 + 4 ≤ 14; omega) rfl) ?_
 refine Gx.Wp.bnd rfl (Gx.Wp.bnd (st1_sb (sset_get _ _ _) (by show 0 + 4 < 14; omega) rfl) (Gx.Wp.of ⟨?_, ?_⟩))
 ·exact (Chg.keeps k1).trans ((Chg.set (S := (· = ib)) (.inr rfl)).trans (Chg.set (S := (· = ib)) (.inr rfl)))
 ·rw [sset_get]; rfl
theorem next_spec {k n : Nat} {h : AHeap} {base cl : Nat} (hcl : cl ≤ h.next) {N : JN} {qs : List Rq} {xs : List Rp} {ys : List Ry} (W : JW h base N qs) (d : JD h N qs xs) (S : Say h xs ys) (hq : qs.length ≤ 1048576) (hi : idsL ys ≤ 1099511627776) (hk : ys.length < k) {q : Rq} {th : Value} {st : Nat} {i0 t0 : Slc} {c0 n0 : Int}
  (hio : h.get N.ib = some (.cells (ioC q th false c0 n0 i0 t0 st) 130 true 0)) :
  Gx.Wp (port_IO_All_1 k (lev k (n + 1)) (some ⟨N.ab, 0, none⟩) (some ⟨N.lb, 0, none⟩) (some ⟨N.tb, 0, none⟩) (some ⟨N.ob, 0, none⟩) (some ⟨N.nb, 0, none⟩) h) fun z => Chg (· = N.ib) h z.2 ∧ Aft cl z.2 N qs ys q c0 n0 i0 t0 st := by
 simp only [port_IO_All_1]
 obtain ⟨⟨l1, l2, l3, l4, l5⟩, l6, l7, l8⟩ := W.lt
 have ge := W.ge
 have sl := S.1
 have le := d.le
 have lsl := (W.ls.row encQ_len).len
 refine Gx.Wp.bnd rfl (Gx.Wp.bnd (sldL_at d.a rfl) (Gx.Wp.bnd rfl (Gx.Wp.bnd (sldL_at W.l rfl) ?_)))
 by_cases c : xs.length = qs.length
 ·refine Gx.Wp.ifp (by show ((xs.length : Int) == (N.ls.len : Int)) = true; rw [lsl, c]; simp) ?_
  refine Gx.Wp.bnd rfl (Gx.Wp.bnd (ldV_at W.t rfl) (Gx.Wp.bnd rfl (Gx.Wp.bnd (sldL_at d.a rfl) ?_)))
  rw [ptr, call73]
  obtain ⟨rest, hc, hr⟩ := d.c
  have : rest = [] := List.eq_nil_of_length_eq_zero (by rw [hr, c]; omega)
  rw [this, List.append_nil] at hc
  have R : RowW 3 encP h ⟨some ⟨N.ac, 0, some 0⟩, xs.length, qs.length⟩ xs := by
   have := rowW_blk (cap := qs.length) (sp := some 0) encP_len hc l8 (Nat.le_refl _)
   rw [List.take_length] at this
   exact this
  refine Gx.Wp.call (L73_spec (lev k n) R S (by omega) hi hk W.b l4 hio l6) fun z hz => ?_
  obtain ⟨c1, s, t, g, As, At⟩ := hz
  refine Gx.Wp.of ⟨c1, .inl ⟨by omega, s, t, g, ⟨As.st, fun a ha => ⟨(As.lt a ha).1, by have := (As.lt a ha).2; omega⟩⟩, ⟨At.st, fun a ha => ⟨(At.lt a ha).1, by have := (At.lt a ha).2; omega⟩⟩⟩⟩
 ·refine Gx.Wp.ifn (by show ¬ ((xs.length : Int) == (N.ls.len : Int)) = true; rw [lsl]; simp; omega) ?_
  obtain ⟨q', hq'⟩ := isome (l := qs) (i := xs.length) (by omega)
  obtain ⟨a, b1, b2, _, _⟩ := (W.ls.row encQ_len).ld encQ_len (by decide) hq'
  refine Gx.Wp.bnd rfl (Gx.Wp.bnd (ldP_at W.o rfl) (Gx.Wp.bnd rfl (Gx.Wp.bnd (sldL_at W.l rfl) (Gx.Wp.bnd rfl (Gx.Wp.bnd (sldL_at d.a rfl) (Gx.Wp.bnd b1 (Gx.Wp.bnd b2 (Gx.Wp.bnd rfl ?_))))))))
  refine Gx.Wp.call (Ask_spec (q' := q') (lev k (n + 1)) hio l6) fun z hz => ?_
  exact Gx.Wp.of ⟨hz.1, .inr ⟨q', by rw [← sl]; exact hq', hz.2⟩⟩
theorem back_spec {k n : Nat} {h : AHeap} {base cl : Nat} (hcl : cl ≤ h.next) {N : JN} {qs : List Rq} {xs : List Rp} {ys : List Ry} (W : JW h base N qs) (d : JD h N qs xs) (S : Say h xs ys) {x : Rp} {y : Ry} (e1 : x.1 = y.1) (e2 : x.2.1 = y.2.1) (R : Row encS h x.2.2 y.2.2) (hlt : xs.length < qs.length)
  (hfar : ∀ y, JT N y → ∀ (i : Nat) (z : Rp), (xs ++ [x])[i]? = some z → ∀ (a : Addr), z.2.2.a = some a → a.block ≠ y)
  (hq : qs.length ≤ 1048576) (hi : idsL (ys ++ [y]) ≤ 1099511627776) (hk : ys.length + 1 < k) {q : Rq} {th : Value} {st : Nat} {i0 t0 : Slc} {c0 n0 : Int}
  (hio : h.get N.ib = some (.cells (ioC q th false c0 n0 i0 t0 st) 130 true 0)) :
  Gx.Wp (port_IO_All_1_1 k (lev k (n + 2)) (x.1, x.2.1, x.2.2) (some ⟨N.ab, 0, none⟩) (some ⟨N.nb, 0, none⟩) h) fun z => Chg (JT N) h z.2 ∧ JW z.2 base N qs ∧ JD z.2 N qs (xs ++ [x]) ∧ Say z.2 (xs ++ [x]) (ys ++ [y]) ∧ Aft cl z.2 N qs (ys ++ [y]) q c0 n0 i0 t0 st := by
 simp only [port_IO_All_1_1]
 obtain ⟨⟨l1, l2, l3, l4, l5⟩, l6, l7, l8⟩ := W.lt
 obtain ⟨H1, e1'⟩ : ∃ H1, H1 = h.new (.cells [.int .i64 x.1, .string x.2.1, .slice x.2.2.a x.2.2.len x.2.2.cap] 29 true 0) := ⟨_, rfl⟩
 rw [← e1']
 have k1 : Keeps h H1 := e1' ▸ Keeps.new h _
 have n1 : H1.next = h.next + 1 := by rw [e1']; rfl
 have g1 : H1.get h.next = some (.cells [.int .i64 x.1, .string x.2.1, .slice x.2.2.a x.2.2.len x.2.2.cap] 29 true 0) := by rw [e1']; simp
 have d1 := d.keeps l7 l8 k1
 refine Gx.Wp.bnd rfl (Gx.Wp.bnd (sldL_at d1.a rfl) (Gx.Wp.bnd (sldA_at g1 rfl) (Gx.Wp.bnd rfl ?_)))
 obtain ⟨H2, e2'⟩ : ∃ H2, H2 = H1.new (.cells (encP x) 29 true 0) := ⟨_, rfl⟩
 have e2'' : H1.new (.cells [.int .i64 x.1, .string x.2.1, .slice x.2.2.a x.2.2.len x.2.2.cap] 29 true 0) = H2 := e2'.symm
 dsimp only
 rw [e2'']
 have k2 : Keeps H1 H2 := e2' ▸ Keeps.new H1 _
 have d2 := d.keeps l7 l8 (k1.trans k2)
 have rd : Gx.rdS 3 (⟨some ⟨H1.next, 0, some 0⟩, 1, 1⟩ : Slc) H2 = some (encP x) := e2' ▸ rdS_oneW encP_len x 29
 refine Gx.Wp.bnd rd ?_
 obtain ⟨rest, hc, hr⟩ := d2.c
 have fl := flatW_length encP_len xs
 have hrl : rest.length = (qs.length - (xs.length + 1)) * 3 + 3 := by rw [hr]; omega
 have ap : appendA 3 48 29 H2 (⟨some ⟨N.ac, 0, some 0⟩, xs.length, qs.length⟩ : Slc) (encP x) 1 = some (⟨some ⟨N.ac, 0, some 0⟩, xs.length + 1, qs.length⟩, H2.set N.ac (.cells (splice (xs.flatMap encP ++ rest) (0 + xs.length * 3) (encP x)) 29 true 0)) := by
  simp only [appendA]
  rw [if_pos (by omega), if_neg (by decide)]
  simp only [AHeap.wrL, encP, hc]
  rw [if_pos ⟨by simp only [List.length_append, List.length_cons, List.length_nil]; rw [fl]; omega, Nat.zero_le _, rfl⟩]
  rfl
 refine Gx.Wp.bnd ap ?_
 have esp : splice (xs.flatMap encP ++ rest) (0 + xs.length * 3) (encP x) = (xs ++ [x]).flatMap encP ++ rest.drop 3 := by
  unfold splice
  rw [Nat.zero_add, ← fl, List.take_left', List.drop_length_add_append, List.flatMap_append, encP_len]
  ·simp
  ·rfl
 rw [esp]
 have nac : N.ab ≠ N.ac := blk_ne d2.a hc (by decide)
 obtain ⟨H3, e3'⟩ : ∃ H3, H3 = H2.set N.ac (.cells ((xs ++ [x]).flatMap encP ++ rest.drop 3) 29 true 0) := ⟨_, rfl⟩
 dsimp only
 rw [← e3']
 have a3 : H3.get N.ab = some (.cells [.slice (some ⟨N.ac, 0, some 0⟩) xs.length qs.length] 52 true 0) := by rw [e3']; simp only [AHeap.get_set]; rw [if_neg nac]; exact d2.a
 refine Gx.Wp.bnd rfl (Gx.Wp.bnd (st1_sb a3 (by show 0 < 1; omega) rfl) ?_)
 obtain ⟨H4, e4'⟩ : ∃ H4, H4 = H3.set N.ab (.cells [.slice (some ⟨N.ac, 0, some 0⟩) (xs.length + 1) qs.length] 52 true 0) := ⟨_, rfl⟩
 have e4'' : H3.set N.ab (.cells ([Value.slice (some ⟨N.ac, 0, some 0⟩) xs.length qs.length].set 0 (.slice (some ⟨N.ac, 0, some 0⟩) (xs.length + 1) qs.length)) 52 true 0) = H4 := e4'.symm
 rw [e4'']
 have hio2 : H2.get N.ib = some (.cells (ioC q th false c0 n0 i0 t0 st) 130 true 0) := ((k1.trans k2).oth _ l6 fun f => f).trans hio
 have nib : N.ib ≠ N.ac := blk_ne hio2 hc (by decide)
 have nib2 : N.ib ≠ N.ab := blk_ne hio2 d2.a (by decide)
 have c4 : Chg (JT N) H2 H4 := e4' ▸ e3' ▸ (Chg.set (.inr (.inr (.inr rfl)))).trans (Chg.set (.inr (.inr (.inl rfl))))
 have c04 : Chg (JT N) h H4 := (Chg.keeps (k1.trans k2)).trans c4
 have W4 : JW H4 base N qs := W.chg (d.kinds hio) c04
 have hio4 : H4.get N.ib = some (.cells (ioC q th false c0 n0 i0 t0 st) 130 true 0) := by
  rw [e4', e3']; simp only [AHeap.get_set]; rw [if_neg nib2, if_neg nib]; exact hio2
 have d4 : JD H4 N qs (xs ++ [x]) := by
  refine ⟨by rw [e4']; simp, ⟨rest.drop 3, ?_, by simp; omega⟩, by simp; omega⟩
  rw [e4', e3']; simp only [AHeap.get_set]; rw [if_neg nac.symm, if_true]
 have S4 : ∀ (H : AHeap), Chg (JT N) h H → Say H (xs ++ [x]) (ys ++ [y]) := by
  intro H cH
  refine ⟨by simp [S.1], fun i u v hu hv => ?_⟩
  have far : ∀ a, u.2.2.a = some a → ¬ JT N a.block := fun a ha jt => hfar _ jt i u hu a ha rfl
  by_cases ci : i < xs.length
  ·rw [List.getElem?_append_left ci] at hu
   rw [List.getElem?_append_left (by rw [← S.1]; exact ci)] at hv
   obtain ⟨z1, z2, z3⟩ := S.2 i u v hu hv
   exact ⟨z1, z2, Row.chg z3 cH far⟩
  ·rw [List.getElem?_append_right (by omega)] at hu
   rw [List.getElem?_append_right (by rw [← S.1]; omega)] at hv
   rw [← S.1] at hv
   have i0 : i - xs.length = 0 := by
    have := (List.getElem?_eq_some_iff.1 hu).1
    simp at this; omega
   rw [i0] at hu hv
   simp at hu hv
   subst hu hv
   exact ⟨e1, e2, Row.chg R cH far⟩
 refine Gx.Wp.bnd rfl (Gx.Wp.bnd (ldV_at W4.n rfl) ?_)
 simp only [ptr]
 rw [call114']
 refine Gx.Wp.call (next_spec (n := n) (cl := cl) (Nat.le_trans hcl c04.nx) W4 d4 (S4 H4 c04) hq hi (by simp; omega) hio4) fun z hz => ?_
 have cz : Chg (JT N) h z.2 := c04.trans (hz.1.wk fun y _ q => .inl q)
 exact Gx.Wp.of ⟨cz, W4.chg (d4.kinds hio4) (hz.1.wk fun y _ q => .inl q), d4.io hio4 W4.lt.2.2.1 W4.lt.2.2.2 hz.1, S4 z.2 cz, hz.2⟩
end Gs
namespace Gs
open Go Gx
def nils : Slc := ⟨none, 0, 0⟩
def IoS (base : Nat) (h : AHeap) (N : JN) (qs : List Rq) (ys : List Ry) : Prop := ∃ q, Aft base h N qs ys q 0 0 nils nils ys.length
theorem zeros_len (n : Nat) (v : Value) (w u : Value) : (zerosL n [v, w, u]).length = n * 3 := by
 show ((List.replicate n [v, w, u]).flatten).length = _
 simp
theorem All_spec {k n : Nat} {h : AHeap} {base ib b1 : Nat} {l : Slc} {qs : List Rq} (R : RowW 4 encQ h l qs) (hq : qs.length ≤ 1048576) (hk : 0 < k)
  (hio : h.get ib = some (.cells (ioC (0, 0, ⟨#[]⟩, ⟨#[]⟩) .nilFunc false 0 0 nils nils 0) 130 true 0)) (hb1 : h.get b1 = some (.cells [ptr ib] 80 true 0)) (lt : ib < h.next ∧ b1 < h.next) (ge : base ≤ ib ∧ base ≤ b1) :
  Gx.Wp (port_IO_All k (lev k (n + 2)) (some ⟨ib, 0, none⟩) l (.func (.func 73) ⟨[]⟩ ⟨[ptr b1]⟩) h) fun z => Chg (· = ib) h z.2 ∧ ∃ N : JN, N.ib = ib ∧ JW z.2 base N qs ∧ JD z.2 N qs [] ∧ IoS base z.2 N qs [] := by
 obtain ⟨lt1, lt2⟩ := lt
 obtain ⟨ge1, ge2⟩ := ge
 simp only [port_IO_All]
 have ec : (Value.func (.func 73) ⟨[]⟩ ⟨[ptr b1]⟩).cells.toList = [.func (.func 73) ⟨[]⟩ ⟨[ptr b1]⟩] := rfl
 rw [ec]
 obtain ⟨H1, e1⟩ : ∃ H1, H1 = h.new (.cells [.pointer (some ⟨ib, 0, none⟩)] 80 true 0) := ⟨_, rfl⟩
 rw [← e1]
 have k1 : Keeps h H1 := e1 ▸ Keeps.new h _
 have n1 : H1.next = h.next + 1 := by rw [e1]; rfl
 have o1 : H1.get h.next = some (.cells [ptr ib] 80 true 0) := by rw [e1]; simp; rfl
 obtain ⟨H2, e2⟩ : ∃ H2, H2 = H1.new (.cells [.slice l.a l.len l.cap] 51 true 0) := ⟨_, rfl⟩
 rw [← e2]
 have k2 : Keeps H1 H2 := e2 ▸ Keeps.new H1 _
 have n2 : H2.next = h.next + 2 := by rw [e2, AHeap.next_new, n1]
 have l2 : H2.get H1.next = some (.cells [.slice l.a l.len l.cap] 51 true 0) := by rw [e2]; simp
 obtain ⟨H3, e3⟩ : ∃ H3, H3 = H2.new (.cells [.func (.func 73) ⟨[]⟩ ⟨[ptr b1]⟩] 128 true 0) := ⟨_, rfl⟩
 rw [← e3]
 have k3 : Keeps H2 H3 := e3 ▸ Keeps.new H2 _
 have n3 : H3.next = h.next + 3 := by rw [e3, AHeap.next_new, n2]
 have t3 : H3.get H2.next = some (.cells [.func (.func 73) ⟨[]⟩ ⟨[ptr b1]⟩] 128 true 0) := by rw [e3]; simp
 have l3 := (k3.oth _ (by omega) fun f => f).trans l2
 have k03 : Keeps h H3 := (k1.trans k2).trans k3
 refine Gx.Wp.bnd (sldL_at l3 rfl) ?_
 refine Gx.Wp.call (cloneQ_spec (lev k (n + 2)) (s := ⟨l.a, l.len, l.cap⟩) (R.keeps k03) hq) fun r5 q5 => ?_
 obtain ⟨k5, A5⟩ := q5
 have m5 := k5.nx
 have l5 := (k5.oth _ (by omega) fun f => f).trans l3
 refine Gx.Wp.bnd (st1_sb l5 (by show 0 < 1; omega) rfl) ?_
 obtain ⟨H6, e6⟩ : ∃ H6, H6 = r5.2.set H1.next (.cells [.slice r5.1.a r5.1.len r5.1.cap] 51 true 0) := ⟨_, rfl⟩
 have e6' : r5.2.set H1.next (.cells ([Value.slice l.a l.len l.cap].set 0 (.slice r5.1.a r5.1.len r5.1.cap)) 51 true 0) = H6 := e6.symm
 rw [e6']
 have c6 : Chg (· = H1.next) r5.2 H6 := e6 ▸ Chg.set (.inr rfl)
 have k6 : Keeps h H6 := Chg.beh (k03.trans k5) c6 fun y hy q => by omega
 have n6 : H6.next = r5.2.next := by rw [e6]; rfl
 have l6 : H6.get H1.next = some (.cells [.slice r5.1.a r5.1.len r5.1.cap] 51 true 0) := by rw [e6]; simp
 have A6 := A5.chg c6 fun a ha q => by have := (A5.lt a ha).2; omega
 have o6 := (c6.oth _ (by omega) (by omega)).trans ((k5.oth _ (by omega) fun f => f).trans (((k2.trans k3).oth _ (by omega) fun f => f).trans o1))
 have t6 := (c6.oth _ (by omega) (by omega)).trans ((k5.oth _ (by omega) fun f => f).trans t3)
 have b6 := (k6.oth _ lt2 fun f => f).trans hb1
 have i6 := (k6.oth _ lt1 fun f => f).trans hio
 refine Gx.Wp.bnd (sldL_at l6 rfl) ?_
 have lsl : r5.1.len = qs.length := (A5.row encQ_len).len
 have el : (⟨r5.1.a, r5.1.len, r5.1.cap⟩ : Slc).len = qs.length := lsl
 rw [el]
 refine Gx.Wp.ifp ⟨by decide, by omega, by omega, by omega⟩ ?_
 rw [Int.toNat_natCast]
 obtain ⟨Z, eZ⟩ : ∃ Z, Z = zerosL qs.length [.int .i64 0, .string ⟨#[]⟩, .slice none 0 0] := ⟨_, rfl⟩
 have zl : Z.length = qs.length * 3 := by rw [eZ]; exact zeros_len _ _ _ _
 rw [← eZ]
 obtain ⟨H8, e8⟩ : ∃ H8, H8 = H6.new (.cells Z 29 true 0) := ⟨_, rfl⟩
 rw [← e8]
 have k8 : Keeps H6 H8 := e8 ▸ Keeps.new H6 _
 have n8 : H8.next = H6.next + 1 := by rw [e8]; rfl
 have z8 : H8.get H6.next = some (.cells Z 29 true 0) := by rw [e8]; simp
 obtain ⟨H9, e9⟩ : ∃ H9, H9 = H8.new (.cells [.slice none 0 0] 52 true 0) := ⟨_, rfl⟩
 rw [← e9]
 have k9 : Keeps H8 H9 := e9 ▸ Keeps.new H8 _
 have n9 : H9.next = H6.next + 2 := by rw [e9, AHeap.next_new, n8]
 have a9 : H9.get H8.next = some (.cells [.slice none 0 0] 52 true 0) := by rw [e9]; simp
 refine Gx.Wp.bnd (st1_sb a9 (by show 0 < 1; omega) rfl) ?_
 obtain ⟨H10, e10⟩ : ∃ H10, H10 = H9.set H8.next (.cells [.slice (some ⟨H6.next, 0, some 0⟩) 0 qs.length] 52 true 0) := ⟨_, rfl⟩
 have e10' : H9.set H8.next (.cells ([Value.slice none 0 0].set 0 (.slice (some ⟨H6.next, 0, some 0⟩) ((0 : Int).toNat) qs.length)) 52 true 0) = H10 := e10.symm
 rw [e10']
 have c10 : Chg (· = H8.next) H9 H10 := e10 ▸ Chg.set (.inr rfl)
 have n10 : H10.next = H6.next + 2 := by rw [e10]; exact n9
 obtain ⟨H11, e11⟩ : ∃ H11, H11 = H10.new (.cells [.nilFunc] 1 true 0) := ⟨_, rfl⟩
 rw [← e11]
 have k11 : Keeps H10 H11 := e11 ▸ Keeps.new H10 _
 have n11 : H11.next = H6.next + 3 := by rw [e11, AHeap.next_new, n10]
 have f11 : H11.get H10.next = some (.cells [.nilFunc] 1 true 0) := by rw [e11]; simp
 refine Gx.Wp.bnd (st1_sb f11 (by show 0 < 1; omega) rfl) ?_
 obtain ⟨N, eN⟩ : ∃ N : JN, N = ⟨0, ib, H8.next, H1.next, H2.next, h.next, H10.next, b1, H6.next, r5.1⟩ := ⟨_, rfl⟩
 obtain ⟨H12, e12⟩ : ∃ H12, H12 = H11.set H10.next (.cells [N.next] 1 true 0) := ⟨_, rfl⟩
 have e12' : H11.set H10.next (.cells ([Value.nilFunc].set 0 (.func (.func 114) ⟨[]⟩ ⟨[.pointer (some ⟨H8.next, 0, none⟩), .pointer (some ⟨H1.next, 0, none⟩), .pointer (some ⟨H2.next, 0, none⟩), .pointer (some ⟨h.next, 0, none⟩), .pointer (some ⟨H10.next, 0, none⟩)]⟩)) 1 true 0) = H12 := by rw [e12, eN]; rfl
 rw [e12']
 have c12 : Chg (· = H10.next) H11 H12 := e12 ▸ Chg.set (.inr rfl)
 have k612 : Keeps H6 H12 := Chg.beh ((Chg.beh (k8.trans k9) c10 fun y hy q => by omega).trans k11) c12 fun y hy q => by omega
 have f12 : H12.get H10.next = some (.cells [N.next] 1 true 0) := by rw [e12]; simp
 have a12 : H12.get H8.next = some (.cells [.slice (some ⟨H6.next, 0, some 0⟩) 0 qs.length] 52 true 0) := (c12.oth _ (by omega) (by omega)).trans ((k11.oth _ (by omega) fun f => f).trans (by rw [e10]; simp))
 have z12 : H12.get H6.next = some (.cells Z 29 true 0) := (c12.oth _ (by omega) (by omega)).trans ((k11.oth _ (by omega) fun f => f).trans ((c10.oth _ (by omega) (by omega)).trans ((k9.oth _ (by omega) fun f => f).trans z8)))
 have n12 : H12.next = H6.next + 3 := by rw [e12]; exact n11
 have kp {y : Nat} {B : ABlk} (hy : y < H6.next) (g : H6.get y = some B) : H12.get y = some B := (k612.oth _ hy fun f => f).trans g
 have W : JW H12 base N qs := by
  rw [eN]
  refine ⟨kp (by show H1.next < H6.next; omega) l6, kp (by show H2.next < H6.next; omega) t6, kp (by show h.next < H6.next; omega) o6, kp (by show b1 < H6.next; omega) b6, by rw [eN] at f12; exact f12, ⟨(A6.keeps k612).st, fun a ha => ⟨((A6.keeps k612).lt a ha).1, by have := (A6.lt a ha).2; omega⟩⟩, ?_, ?_⟩
  ·simp only; omega
  ·simp only; omega
 have d : JD H12 N qs [] := by
  rw [eN]
  exact ⟨a12, ⟨Z, by rw [List.flatMap_nil, List.nil_append]; exact z12, by rw [zl]; simp⟩, Nat.zero_le _⟩
 have i12 : H12.get N.ib = some (.cells (ioC (0, 0, ⟨#[]⟩, ⟨#[]⟩) .nilFunc false 0 0 nils nils 0) 130 true 0) := by rw [eN]; exact kp (by show ib < _; omega) i6
 refine Gx.Wp.bnd (ldV_at f12 rfl) ?_
 have hcall := call114 (k := k) (n := n + 1) (R := Unit × AHeap) (some ⟨H8.next, 0, none⟩) (some ⟨H1.next, 0, none⟩) (some ⟨H2.next, 0, none⟩) (some ⟨h.next, 0, none⟩) (some ⟨H10.next, 0, none⟩) H12 (fun _ h15 => some ((), h15))
 have e13 : (Value.func (.func 114) ⟨[]⟩ ⟨[ptr N.ab, ptr N.lb, ptr N.tb, ptr N.ob, ptr N.nb]⟩) = .func (.func 114) ⟨[]⟩ ⟨[.pointer (some ⟨H8.next, 0, none⟩), .pointer (some ⟨H1.next, 0, none⟩), .pointer (some ⟨H2.next, 0, none⟩), .pointer (some ⟨h.next, 0, none⟩), .pointer (some ⟨H10.next, 0, none⟩)]⟩ := by rw [eN]; rfl
 rw [e13, hcall]
 have nx := next_spec (n := n) (k := k) (cl := base) (by omega) W d (ys := []) ⟨rfl, fun i x y hx => by simp at hx⟩ hq (by simp [idsL]) hk i12
 rw [eN] at nx
 refine Gx.Wp.call nx fun z hz => ?_
 rw [← eN] at hz
 have eib : N.ib = ib := by rw [eN]
 refine Gx.Wp.of ⟨?_, N, eib, W.chg (d.kinds i12) (hz.1.wk fun y _ q => .inl q), d.io i12 W.lt.2.2.1 W.lt.2.2.2 hz.1, _, hz.2⟩
 rw [eib] at hz
 exact (Chg.keeps (k6.trans k612)).trans hz.1
end Gs
namespace Gs
open Go Gx
structure Job (h : AHeap) (base top cl : Nat) (jb : Nat) (qs : List Rq) (ys : List Ry) : Prop where
 jl : base ≤ jb ∧ jb < h.next
 jt : jb < top
 tl : top ≤ h.next ∧ cl ≤ h.next
 st : ∃ N : JN, (∀ y, JT N y → y < top) ∧ (N.lb < top ∧ N.tb < top ∧ N.ob < top ∧ N.b1 < top ∧ N.nb < top ∧ ∀ a, N.ls.a = some a → a.block < top) ∧ h.get jb = some (.cells [ptr N.ib] 132 true 0) ∧ JW h base N qs ∧ (∃ xs, JD h N qs xs ∧ Say h xs ys ∧ ∀ (i : Nat) (z : Rp), xs[i]? = some z → ∀ (a : Addr), z.2.2.a = some a → top ≤ a.block ∧ cl ≤ a.block) ∧ IoS cl h N qs ys
theorem Aft.shape {base : Nat} {h : AHeap} {N : JN} {qs : List Rq} {ys : List Ry} {q : Rq} {c0 n0 : Int} {i0 t0 : Slc} {st : Nat} (a : Aft base h N qs ys q c0 n0 i0 t0 st) : ∃ c, h.get N.ib = some (.cells c 130 true 0) := by
 rcases a with ⟨_, s, t, g, _⟩ | ⟨q', _, g⟩ <;> exact ⟨_, g⟩
theorem Aft.keeps {base : Nat} {h h' : AHeap} {N : JN} {qs : List Rq} {ys : List Ry} {q : Rq} {c0 n0 : Int} {i0 t0 : Slc} {st : Nat} (a : Aft base h N qs ys q c0 n0 i0 t0 st) (l : N.ib < h.next) (k : Keeps h h') : Aft base h' N qs ys q c0 n0 i0 t0 st := by
 rcases a with ⟨e, s, t, g, A, B⟩ | ⟨q', e, g⟩
 ·exact .inl ⟨e, s, t, (k.oth _ l fun f => f).trans g, A.keeps k, B.keeps k⟩
 ·exact .inr ⟨q', e, (k.oth _ l fun f => f).trans g⟩
theorem Job.keeps {h h' : AHeap} {base top cl jb : Nat} {qs : List Rq} {ys : List Ry} (J : Job h base top cl jb qs ys) (k : Keeps h h') : Job h' base top cl jb qs ys := by
 obtain ⟨N, tp, sp, j, W, ⟨xs, d, S, far⟩, q, a⟩ := J.st
 exact ⟨⟨J.jl.1, Nat.lt_of_lt_of_le J.jl.2 k.nx⟩, J.jt, ⟨Nat.le_trans J.tl.1 k.nx, Nat.le_trans J.tl.2 k.nx⟩, N, tp, sp, (k.oth _ J.jl.2 fun f => f).trans j, W.keeps k, ⟨xs, d.keeps W.lt.2.2.1 W.lt.2.2.2 k, S.keeps k, far⟩, q, a.keeps W.lt.2.1 k⟩
theorem settle_spec {k : Nat} (D : CallF) {h : AHeap} {base jb : Nat} {N : JN} {qs : List Rq} {ys : List Ry} {q : Rq} {st : Nat} (hj : h.get jb = some (.cells [ptr N.ib] 132 true 0)) (a : Aft base h N qs ys q 0 0 nils nils st) :
  Gx.Wp (port_Job_settle k D (some ⟨jb, 0, none⟩) h) fun z => Chg (· = N.ib) h z.2 ∧ Aft base z.2 N qs ys q 0 0 nils nils st := by
 simp only [port_Job_settle]
 refine Gx.Wp.bnd rfl (Gx.Wp.bnd (ldP_at hj rfl) (Gx.Wp.bnd rfl ?_))
 rcases a with ⟨e, s, t, g, A, B⟩ | ⟨q', e, g⟩
 ·refine Gx.Wp.bnd (ldV_nil g rfl) (Gx.Wp.bnd (a := true) rfl (Gx.Wp.ifp rfl (Gx.Wp.bnd rfl (Gx.Wp.bnd (ldP_at hj rfl) (Gx.Wp.bnd rfl (Gx.Wp.bnd (st1_sb g (by show 0 + 5 < 14; omega) rfl) (Gx.Wp.of ⟨Chg.set (.inr rfl), .inl ⟨e, s, t, by rw [sset_get]; rfl, ?_, ?_⟩⟩)))))))
  ·have g' := g
   refine ⟨A.st.imp id ?_, fun a ha => A.lt a ha⟩
   rintro ⟨b, gr⟩
   exact ⟨b, gr.s, by simp only [AHeap.get_set]; rw [if_neg (blk_ne gr.blk g' (by decide))]; exact gr.blk, gr.ne⟩
  ·have g' := g
   refine ⟨B.st.imp id ?_, fun a ha => B.lt a ha⟩
   rintro ⟨b, gr⟩
   exact ⟨b, gr.s, by simp only [AHeap.get_set]; rw [if_neg (blk_ne gr.blk g' (by decide))]; exact gr.blk, gr.ne⟩
 ·refine Gx.Wp.bnd (ldV_at g rfl) (Gx.Wp.bnd (a := false) rfl (Gx.Wp.ifn (fun z => by cases z) (Gx.Wp.of ⟨Chg.refl _ _, .inr ⟨q', e, g⟩⟩)))
theorem List_spec {k n : Nat} {h : AHeap} {l : Slc} {qs : List Rq} (R : RowW 4 encQ h l qs) (hq : qs.length ≤ 1048576) (hk : 0 < k) :
  Gx.Wp (port_List k (lev k (n + 3)) l h) fun z => ∃ jb, z.1 = some ⟨jb, 0, none⟩ ∧ Keeps h z.2 ∧ Job z.2 h.next z.2.next h.next jb qs [] := by
 simp only [port_List]
 obtain ⟨H1, e1⟩ : ∃ H1, H1 = h.new (.cells [.slice l.a l.len l.cap] 51 true 0) := ⟨_, rfl⟩
 rw [← e1]
 have k1 : Keeps h H1 := e1 ▸ Keeps.new h _
 have n1 : H1.next = h.next + 1 := by rw [e1]; rfl
 have l1 : H1.get h.next = some (.cells [.slice l.a l.len l.cap] 51 true 0) := by rw [e1]; simp
 have go : Gx.Wp (port_Start k (lev k (n + 3)) (.func (.func 71) ⟨[]⟩ ⟨[.pointer (some ⟨h.next, 0, none⟩)]⟩) H1) fun z => ∃ jb, z.1 = some ⟨jb, 0, none⟩ ∧ Keeps h z.2 ∧ Job z.2 h.next z.2.next h.next jb qs [] := by
  simp only [port_Start]
  obtain ⟨H2, e2⟩ : ∃ H2, H2 = H1.new (.cells (ioC (0, 0, ⟨#[]⟩, ⟨#[]⟩) .nilFunc false 0 0 nils nils 0) 130 true 0) := ⟨_, rfl⟩
  have e2' : H1.new (.cells [.int .i64 0, .int .i64 0, .string (⟨#[]⟩ : ByteArray), .string (⟨#[]⟩ : ByteArray), .nilFunc, .bool false, .int .i64 0, .string (⟨#[]⟩ : ByteArray), .int .i64 0, .slice none 0 0, .slice none 0 0, .slice none 0 0, .slice none 0 0, .int .i64 0] 130 true 0) = H2 := e2.symm
  rw [e2']
  have k2 : Keeps H1 H2 := e2 ▸ Keeps.new H1 _
  have n2 : H2.next = h.next + 2 := by rw [e2, AHeap.next_new, n1]
  have i2 : H2.get H1.next = some (.cells (ioC (0, 0, ⟨#[]⟩, ⟨#[]⟩) .nilFunc false 0 0 nils nils 0) 130 true 0) := by rw [e2]; simp
  obtain ⟨H3, e3⟩ : ∃ H3, H3 = H2.new (.cells [ptr H1.next] 132 true 0) := ⟨_, rfl⟩
  have e3' : H2.new (.cells [.pointer (some ⟨H1.next, 0, none⟩)] 132 true 0) = H3 := e3.symm
  rw [e3']
  have k3 : Keeps H2 H3 := e3 ▸ Keeps.new H2 _
  have n3 : H3.next = h.next + 3 := by rw [e3, AHeap.next_new, n2]
  have j3 : H3.get H2.next = some (.cells [ptr H1.next] 132 true 0) := by rw [e3]; simp
  refine Gx.Wp.jn fun j5 h5 => Gx.Wp.bnd (a := false) rfl (Gx.Wp.ifp rfl (Gx.Wp.bnd (ldP_at j3 rfl) ?_))
  rw [call71]
  have lst : Gx.Wp (port_List_1 k (lev k (n + 2)) (some ⟨H1.next, 0, none⟩) (some ⟨h.next, 0, none⟩) H3) fun z => Chg (· = H1.next) H3 z.2 ∧ ∃ N : JN, N.ib = H1.next ∧ JW z.2 h.next N qs ∧ JD z.2 N qs [] ∧ IoS h.next z.2 N qs [] := by
   simp only [port_List_1]
   obtain ⟨H4, e4⟩ : ∃ H4, H4 = H3.new (.cells [ptr H1.next] 80 true 0) := ⟨_, rfl⟩
   have e4' : H3.new (.cells [.pointer (some ⟨H1.next, 0, none⟩)] 80 true 0) = H4 := e4.symm
   rw [e4']
   have k4 : Keeps H3 H4 := e4 ▸ Keeps.new H3 _
   have n4 : H4.next = h.next + 4 := by rw [e4, AHeap.next_new, n3]
   have b4 : H4.get H3.next = some (.cells [ptr H1.next] 80 true 0) := by rw [e4]; simp
   have l4 := (((k2.trans k3).trans k4).oth _ (by omega) fun f => f).trans l1
   have i4 := ((k3.trans k4).oth _ (by omega) fun f => f).trans i2
   refine Gx.Wp.bnd (ldP_at b4 rfl) (Gx.Wp.bnd rfl (Gx.Wp.bnd (sldL_at l4 rfl) ?_))
   refine Gx.Wp.call (All_spec (n := n) (l := ⟨l.a, l.len, l.cap⟩) (base := h.next) (R.keeps (((k1.trans k2).trans k3).trans k4)) hq hk i4 b4 ⟨by omega, by omega⟩ ⟨by omega, by omega⟩) fun z hz => ?_
   exact Gx.Wp.of ⟨(Chg.keeps k4).trans hz.1, hz.2⟩
  refine Gx.Wp.call lst fun z hz => ?_
  obtain ⟨cz, N, eib, W, d, q, a⟩ := hz
  subst h5
  have jz := (cz.oth _ (by omega) (by omega)).trans j3
  rw [← eib] at jz
  refine Gx.Wp.call (settle_spec _ jz a) fun y hy => ?_
  obtain ⟨cy, a2⟩ := hy
  have i6 := a.shape
  obtain ⟨c, i6⟩ := i6
  have nz := cz.nx
  have kz : Keeps h z.2 := Chg.beh ((k1.trans k2).trans k3) cz fun y hy q => by omega
  have ky : Keeps h y.2 := Chg.beh kz cy fun y hy q => by rw [eib] at q; omega
  have cyT : Chg (JT N) z.2 y.2 := cy.wk fun y _ q => .inl q
  refine Gx.Wp.of ⟨H2.next, rfl, ky, ⟨by omega, by have := cy.nx; show H2.next < y.2.next; omega⟩, by have := cy.nx; show H2.next < y.2.next; omega, ⟨Nat.le_refl _, by have := ky.nx; exact this⟩, N, ?_, ?_, ?_, W.chg (d.kinds i6) cyT, ⟨[], d.io i6 W.lt.2.2.1 W.lt.2.2.2 cy, ⟨rfl, fun i x y hx => by simp at hx⟩, fun i z hz => by simp at hz⟩, q, a2⟩
  ·have ny := cy.nx
   obtain ⟨_, u1, u2, u3⟩ := W.lt
   rintro y' (rfl | rfl | rfl)
   ·exact Nat.lt_of_lt_of_le u1 ny
   ·exact Nat.lt_of_lt_of_le u2 ny
   ·exact Nat.lt_of_lt_of_le u3 ny
  ·have ny := cy.nx
   obtain ⟨⟨u1, u2, u3, u4, u5⟩, _⟩ := W.lt
   exact ⟨Nat.lt_of_lt_of_le u1 ny, Nat.lt_of_lt_of_le u2 ny, Nat.lt_of_lt_of_le u3 ny, Nat.lt_of_lt_of_le u4 ny, Nat.lt_of_lt_of_le u5 ny, fun a ha => Nat.lt_of_lt_of_le (W.ls.lt a ha).1 ny⟩
  ·exact (cy.oth _ (by omega) (by rw [eib]; omega)).trans jz
 refine Gx.Wp.call go fun z hz => ?_
 obtain ⟨jb, e, hz⟩ := hz
 exact Gx.Wp.of ⟨jb, e, hz⟩
theorem Job.raise {h : AHeap} {base top cl cl' jb : Nat} {qs : List Rq} (J : Job h base top cl jb qs []) (hc : cl' ≤ h.next) : Job h base top cl' jb qs [] := by
 obtain ⟨N, tp, sp, j, W, ⟨xs, d, S, far⟩, q, a⟩ := J.st
 have x0 : xs = [] := List.eq_nil_of_length_eq_zero S.1
 subst x0
 refine ⟨J.jl, J.jt, ⟨J.tl.1, hc⟩, N, tp, sp, j, W, ⟨[], d, S, fun i z hz => by simp at hz⟩, q, ?_⟩
 have nilA : ∀ {s : Slc}, Acc encS 9 cl h s [] → Acc encS 9 cl' h s [] := fun {s} A => by
  rcases A.st with ⟨rfl, _⟩ | ⟨b, g⟩
  ·exact Acc.nil _ _ _ _
  ·exact absurd rfl g.ne
 rcases a with ⟨e, s, t, g, A, B⟩ | ⟨q', e, g⟩
 ·exact .inl ⟨e, s, t, g, nilA A, nilA B⟩
 ·exact .inr ⟨q', e, g⟩
end Gs
namespace Gs
open Go Gx
def TopS (base top : Nat) (y : Nat) : Prop := base ≤ y ∧ y < top
theorem Give_spec {k n : Nat} {h : AHeap} {base top cl jb : Nat} {qs : List Rq} {ys : List Ry} (J : Job h base top cl jb qs ys) (hlt : ys.length < qs.length) (hq : qs.length ≤ 1048576) {c : Int} {d : ByteArray} {sl : Slc} {names : List ByteArray} (R : Row encS h sl names) (hs : ∀ a, sl.a = some a → ¬ TopS base top a.block)
  (hi : idsL (ys ++ [(c, d, names)]) ≤ 1099511627776) (hk : ys.length + 1 < k) :
  Gx.Wp (port_Job_Give k (lev k (n + 3)) (some ⟨jb, 0, none⟩) (c, d, sl) h) fun z => z.1 = 0 ∧ Job z.2 base top cl jb qs (ys ++ [(c, d, names)]) ∧ Chg (TopS base top) h z.2 := by
 obtain ⟨N, tp, sp, j, W, ⟨xs, dd, S, farT⟩, q, a⟩ := J.st
 have far : ∀ y, JT N y → ∀ (i : Nat) (z : Rp), xs[i]? = some z → ∀ (a : Addr), z.2.2.a = some a → a.block ≠ y := fun y jt i z hz a ha => by have := (farT i z hz a ha).1; have := tp y jt; omega
 have jl := J.jl
 have tl := J.tl
 have inT : ∀ y, JT N y → TopS base top y := fun y hy => by
  refine ⟨?_, tp y hy⟩
  obtain ⟨_, g1, g2, g3⟩ := W.ge
  rcases hy with rfl | rfl | rfl
  ·exact g1
  ·exact g2
  ·exact g3
 have hn : names.length ≤ 1099511627776 := by rw [idsL_app] at hi; simp only [idsL] at hi; omega
 rcases a with ⟨e, _⟩ | ⟨q', hq', g⟩
 ·omega
 simp only [port_Job_Give]
 obtain ⟨H1, e1⟩ : ∃ H1, H1 = h.new (.cells [.int .i64 c, .string d, .slice sl.a sl.len sl.cap] 29 true 0) := ⟨_, rfl⟩
 rw [← e1]
 have k1 : Keeps h H1 := e1 ▸ Keeps.new h _
 have n1 : H1.next = h.next + 1 := by rw [e1]; rfl
 have r1 : H1.get h.next = some (.cells [.int .i64 c, .string d, .slice sl.a sl.len sl.cap] 29 true 0) := by rw [e1]; simp
 obtain ⟨_, li, la, lc⟩ := W.lt
 have j1 := (k1.oth _ jl.2 fun f => f).trans j
 have g1 := (k1.oth _ li fun f => f).trans g
 have njb : jb ≠ N.ib := blk_ne j g (by decide)
 refine Gx.Wp.bnd rfl (Gx.Wp.bnd (ldP_at j1 rfl) (Gx.Wp.bnd rfl (Gx.Wp.bnd (ldB_at g1 rfl) (Gx.Wp.ifn (fun z => by cases z) ?_))))
 refine Gx.Wp.bnd rfl (Gx.Wp.bnd (ldP_at j1 rfl) (Gx.Wp.bnd rfl (Gx.Wp.bnd (ldV_at g1 rfl) (Gx.Wp.bnd rfl (Gx.Wp.bnd (ldP_at j1 rfl) (Gx.Wp.bnd rfl (Gx.Wp.bnd (st1_sb g1 (by show 0 + 4 < 14; omega) rfl) ?_)))))))
 obtain ⟨H2, e2⟩ : ∃ H2, H2 = H1.set N.ib (.cells (ioC q' .nilFunc false 0 0 nils nils ys.length) 130 true 0) := ⟨_, rfl⟩
 have e2' : H1.set N.ib (.cells ((ioC q' N.back false 0 0 nils nils ys.length).set (0 + 4) .nilFunc) 130 true 0) = H2 := e2.symm
 rw [e2']
 have c2 : Chg (· = N.ib) H1 H2 := e2 ▸ Chg.set (.inr rfl)
 have j2 := (c2.oth _ (by omega) njb).trans j1
 have g2 : H2.get N.ib = some (.cells (ioC q' .nilFunc false 0 0 nils nils ys.length) 130 true 0) := by rw [e2]; simp
 refine Gx.Wp.bnd rfl (Gx.Wp.bnd (ldP_at j2 rfl) (Gx.Wp.bnd rfl (Gx.Wp.bnd (sldI_at g2 rfl) (Gx.Wp.bnd rfl ?_))))
 rw [Gx.w1 (by omega)]
 refine Gx.Wp.bnd (st1_sb g2 (by show 0 + 13 < 14; omega) rfl) ?_
 obtain ⟨H3, e3⟩ : ∃ H3, H3 = H2.set N.ib (.cells (ioC q' .nilFunc false 0 0 nils nils (ys.length + 1)) 130 true 0) := ⟨_, rfl⟩
 have e3' : H2.set N.ib (.cells ((ioC q' .nilFunc false 0 0 nils nils ys.length).set (0 + 13) (.int .i64 ((ys.length + 1 : Nat) : Int))) 130 true 0) = H3 := e3.symm
 rw [e3']
 have c3 : Chg (· = N.ib) H1 H3 := c2.trans (e3 ▸ Chg.set (.inr rfl))
 have g3 : H3.get N.ib = some (.cells (ioC q' .nilFunc false 0 0 nils nils (ys.length + 1)) 130 true 0) := by rw [e3]; simp
 have r3 := (c3.oth _ (by omega) (by omega)).trans r1
 have n3 := c3.nx
 have nr : ∀ a, sl.a = some a → ¬ a.block = N.ib := fun a ha q => hs a ha (q ▸ inT _ (.inl rfl))
 have R3 : Row encS H3 ⟨sl.a, sl.len, sl.cap⟩ names := Row.chg (Row.keeps R k1) c3 nr
 refine Gx.Wp.bnd (sldL_at r3 rfl) ?_
 refine Gx.Wp.call (cloneS_spec (lev k (n + 3)) R3 hn) fun r21 q21 => ?_
 obtain ⟨k4, R4, f4⟩ := q21
 have r4 := (k4.oth _ (by omega) fun f => f).trans r3
 refine Gx.Wp.bnd (st1_sb r4 (by show 2 < 3; omega) rfl) ?_
 obtain ⟨H5, e5⟩ : ∃ H5, H5 = r21.2.set h.next (.cells [.int .i64 c, .string d, .slice r21.1.a r21.1.len r21.1.cap] 29 true 0) := ⟨_, rfl⟩
 have e5' : r21.2.set h.next (.cells ([Value.int .i64 c, .string d, .slice sl.a sl.len sl.cap].set 2 (.slice r21.1.a r21.1.len r21.1.cap)) 29 true 0) = H5 := e5.symm
 rw [e5']
 have c5 : Chg (· = h.next) r21.2 H5 := e5 ▸ Chg.set (.inr rfl)
 have r5 : H5.get h.next = some (.cells [.int .i64 c, .string d, .slice r21.1.a r21.1.len r21.1.cap] 29 true 0) := by rw [e5]; simp
 have n4 := k4.nx
 have n5 : H5.next = r21.2.next := by rw [e5]; rfl
 have cA : Chg (· = N.ib) h H5 := Chg.beh (T := (· = h.next)) ((Chg.keeps k1).trans (c3.trans (Chg.keeps k4))) c5 fun y hy q => by omega
 have cT : Chg (JT N) h H5 := cA.wk fun y _ q => .inl q
 have g5 : H5.get N.ib = some (.cells (ioC q' .nilFunc false 0 0 nils nils (ys.length + 1)) 130 true 0) := (c5.oth _ (by omega) (by omega)).trans ((k4.oth _ (by omega) fun f => f).trans g3)
 have j5 := (cA.oth _ jl.2 njb).trans j
 have W5 := W.chg (dd.kinds g) cT
 have d5 := dd.io g la lc cA
 have S5 : Say H5 xs ys := ⟨S.1, fun i u v hu hv => ⟨(S.2 i u v hu hv).1, (S.2 i u v hu hv).2.1, Row.chg (S.2 i u v hu hv).2.2 cT fun a ha jt => far _ jt i u hu a ha rfl⟩⟩
 have R5 : Row encS H5 ⟨r21.1.a, r21.1.len, r21.1.cap⟩ names := Row.chg R4 c5 fun a ha q => by have := f4 a ha; omega
 refine Gx.Wp.bnd (sldA_at r5 rfl) (Gx.Wp.bnd rfl ?_)
 have hcall := call116 (k := k) (n := n + 2) (R := Int × AHeap) c d ⟨r21.1.a, r21.1.len, r21.1.cap⟩ (some ⟨N.ab, 0, none⟩) (some ⟨N.nb, 0, none⟩) H5 (fun _ h26 => (port_Job_settle k (lev k (n + 3)) (some ⟨jb, 0, none⟩) h26).bind fun r27 => some (0, r27.2))
 simp only [ptr]
 rw [hcall]
 have far5T : ∀ (i : Nat) (z : Rp), (xs ++ [(c, d, (⟨r21.1.a, r21.1.len, r21.1.cap⟩ : Slc))])[i]? = some z → ∀ (a : Addr), z.2.2.a = some a → top ≤ a.block ∧ cl ≤ a.block := by
  intro i z hz a ha
  by_cases ci : i < xs.length
  ·rw [List.getElem?_append_left ci] at hz
   exact farT i z hz a ha
  ·rw [List.getElem?_append_right (by omega)] at hz
   have i0 : i - xs.length = 0 := by
    have := (List.getElem?_eq_some_iff.1 hz).1
    simp at this; omega
   rw [i0] at hz
   simp at hz
   subst hz
   have := f4 a ha
   omega
 have far5 : ∀ y, JT N y → ∀ (i : Nat) (z : Rp), (xs ++ [(c, d, (⟨r21.1.a, r21.1.len, r21.1.cap⟩ : Slc))])[i]? = some z → ∀ (a : Addr), z.2.2.a = some a → a.block ≠ y := fun y jt i z hz a ha => by have := (far5T i z hz a ha).1; have := tp y jt; omega
 have hl1 : (ys ++ [(c, d, names)]).length = ys.length + 1 := by simp
 refine Gx.Wp.call (back_spec (n := n) (cl := cl) (by omega) W5 d5 S5 (x := (c, d, ⟨r21.1.a, r21.1.len, r21.1.cap⟩)) (y := (c, d, names)) rfl rfl R5 (by rw [S.1]; omega) far5 hq hi (by omega) g5) fun z hz => ?_
 obtain ⟨cz, Wz, dz, Sz, az⟩ := hz
 have njT : ¬ JT N jb := (d5.kinds g5).not j5 (by decide)
 have jz := (cz.oth _ (by omega) njT).trans j5
 refine Gx.Wp.call (settle_spec (lev k (n + 3)) jz az) fun y hy => ?_
 obtain ⟨cy, ay⟩ := hy
 obtain ⟨cc, iz⟩ := az.shape
 have cyT : Chg (JT N) z.2 y.2 := cy.wk fun y _ q => .inl q
 have call : Chg (JT N) h y.2 := cT.trans (cz.trans cyT)
 have nT := call.nx
 rw [← hl1] at ay
 refine Gx.Wp.of ⟨rfl, ⟨⟨jl.1, Nat.lt_of_lt_of_le jl.2 nT⟩, J.jt, ⟨Nat.le_trans tl.1 nT, Nat.le_trans tl.2 nT⟩, N, tp, sp, ((dz.kinds iz).not jz (by decide) |> fun f => (cyT.oth _ (by have := cz.nx; omega) f)).trans jz, Wz.chg (dz.kinds iz) cyT, ⟨_, dz.io iz Wz.lt.2.2.1 Wz.lt.2.2.2 cy, ⟨Sz.1, fun i u v hu hv => ⟨(Sz.2 i u v hu hv).1, (Sz.2 i u v hu hv).2.1, Row.chg (Sz.2 i u v hu hv).2.2 cyT fun a ha jt => far5 _ jt i u hu a ha rfl⟩⟩, far5T⟩, q', ay⟩, call.wk fun y _ q => inT y q⟩
end Gs
namespace Gs
open Go Gx
theorem lk_pt {n d : ByteArray} {cl : Nat} (m : ByteArray) : ∀ es : List En, lk m (pt n d cl es) = if m = n then some d else lk m es
 | [] => by
  simp only [pt, lk]
  by_cases h : m = n
  ·rw [if_pos h, if_pos h.symm]
  ·rw [if_neg h, if_neg fun q => h q.symm]
 | e :: es => by
  have ih := lk_pt (n := n) (d := d) (cl := cl) m es
  simp only [pt, lk]
  by_cases h : e.1 = n
  ·rw [if_pos h]
   simp only [lk]
   by_cases q : m = n
   ·rw [if_pos q, if_pos q.symm]
   ·rw [if_neg q, if_neg fun z => q z.symm, if_neg fun z => q (z.symm.trans h)]
  ·rw [if_neg h]
   simp only [lk, ih]
   by_cases q : e.1 = m
   ·rw [if_pos q, if_neg fun z => h (q.trans z), if_pos q]
   ·rw [if_neg q, if_neg q]
theorem lk_no {m : ByteArray} {es : List En} (h : m ∉ es.map (·.1)) : lk m es = none := by
 cases hl : lk m es with
 | none => rfl
 | some d => exact absurd (lk_mem.1 (by rw [hl]; rfl)) h
theorem lk_rm {n : ByteArray} (m : ByteArray) : ∀ {es : List En}, (es.map (·.1)).Nodup → lk m (rm n es) = if m = n then none else lk m es
 | [], _ => by simp [rm, lk]
 | e :: es, hk => by
  rw [List.map_cons, List.nodup_cons] at hk
  have ih := lk_rm (n := n) m hk.2
  simp only [rm, lk]
  by_cases h : e.1 = n
  ·rw [if_pos h]
   by_cases q : m = n
   ·rw [if_pos q]; exact lk_no (by rw [q, ← h]; exact hk.1)
   ·rw [if_neg q, if_neg fun z => q (z.symm.trans h)]
  ·rw [if_neg h]
   simp only [lk, ih]
   by_cases q : e.1 = m
   ·rw [if_pos q, if_neg fun z => h (q.trans z), if_pos q]
   ·rw [if_neg q, if_neg q]
def lkL (n : ByteArray) : List Ob → Option ByteArray
 | [] => none
 | o :: l => if o.1 = n then some o.2 else lkL n l
def Srt (L : List Ob) : Prop := L.Pairwise fun a b => bl a.1 < bl b.1
def insL (n d : ByteArray) : List Ob → List Ob
 | [] => [(n, d)]
 | o :: l => if bl o.1 < bl n then o :: insL n d l else if o.1 = n then (n, d) :: l else (n, d) :: o :: l
def rmL (n : ByteArray) : List Ob → List Ob
 | [] => []
 | o :: l => if bl o.1 < bl n then o :: rmL n l else if o.1 = n then l else o :: l
theorem bl_irr {a : List UInt8} : ¬ a < a := List.lt_irrefl a
theorem fnd_cons_lt {n : ByteArray} {o : Ob} {l : List Ob} (h : bl o.1 < bl n) : fi n (o :: l) = fi n l + 1 ∧ fnd n (o :: l) = fnd n l := by
 have e : fi n (o :: l) = fi n l + 1 := by simp only [fi]; rw [if_pos h]
 exact ⟨e, by unfold fnd; rw [e]; rfl⟩
theorem fnd_cons_ge {n : ByteArray} {o : Ob} {l : List Ob} (h : ¬ bl o.1 < bl n) : fi n (o :: l) = 0 ∧ fnd n (o :: l) = decide (o.1 = n) := by
 have e : fi n (o :: l) = 0 := by simp only [fi]; rw [if_neg h]
 exact ⟨e, by unfold fnd; rw [e]; rfl⟩
theorem ly_ins (n d : ByteArray) : ∀ L : List Ob, lyR n d L = insL n d L
 | [] => rfl
 | o :: l => by
  have ih := ly_ins n d l
  simp only [insL]
  by_cases h : bl o.1 < bl n
  ·obtain ⟨e1, e2⟩ := fnd_cons_lt (l := l) h
   rw [if_pos h, ← ih]
   unfold lyR
   rw [e1, e2]
   cases fnd n l with
   | true => simp [insO]
   | false => simp [insO]
  ·obtain ⟨e1, e2⟩ := fnd_cons_ge (l := l) h
   rw [if_neg h]
   unfold lyR
   rw [e1, e2]
   by_cases q : o.1 = n
   ·rw [if_pos q, decide_eq_true q]; simp [insO]
   ·rw [if_neg q, decide_eq_false q]; simp [insO]
theorem rm_rmL {n : ByteArray} : ∀ {L : List Ob}, fnd n L = true → L.take (fi n L) ++ L.drop (fi n L + 1) = rmL n L
 | [], h => by cases h
 | o :: l, h => by
  simp only [rmL]
  by_cases c : bl o.1 < bl n
  ·obtain ⟨e1, e2⟩ := fnd_cons_lt (l := l) c
   rw [e2] at h
   rw [if_pos c, ← rm_rmL h, e1]; simp
  ·obtain ⟨e1, e2⟩ := fnd_cons_ge (l := l) c
   rw [e2] at h
   rw [if_neg c, if_pos (of_decide_eq_true h), e1]; simp
theorem lkL_none {n : ByteArray} : ∀ {L : List Ob}, (∀ o ∈ L, o.1 ≠ n) → lkL n L = none
 | [], _ => rfl
 | o :: l, h => by
  simp only [lkL]
  rw [if_neg (h o (by simp))]
  exact lkL_none fun x hx => h x (by simp [hx])
theorem lkR_lkL {n : ByteArray} : ∀ {L : List Ob}, Srt L → lkR n L = lkL n L
 | [], _ => rfl
 | o :: l, h => by
  obtain ⟨h1, h2⟩ := List.pairwise_cons.1 h
  have ih := lkR_lkL (n := n) h2
  simp only [lkL]
  by_cases c : bl o.1 < bl n
  ·obtain ⟨e1, e2⟩ := fnd_cons_lt (l := l) c
   rw [if_neg (fun q => bl_irr (q ▸ c)), ← ih]
   unfold lkR
   rw [e1, e2]; rfl
  ·obtain ⟨e1, e2⟩ := fnd_cons_ge (l := l) c
   unfold lkR
   rw [e1, e2]
   by_cases q : o.1 = n
   ·rw [if_pos q, decide_eq_true q]; rfl
   ·rw [if_neg q, decide_eq_false q]
    refine (lkL_none fun x hx z => ?_).symm
    have := h1 x hx
    rw [z] at this
    exact c this
theorem lkL_ins {n d : ByteArray} (m : ByteArray) : ∀ L : List Ob, lkL m (insL n d L) = if m = n then some d else lkL m L
 | [] => by
  simp only [insL, lkL]
  by_cases h : m = n
  ·rw [if_pos h, if_pos h.symm]
  ·rw [if_neg h, if_neg fun q => h q.symm]
 | o :: l => by
  have ih := lkL_ins (n := n) (d := d) m l
  simp only [insL]
  by_cases c : bl o.1 < bl n
  ·have hn : o.1 ≠ n := fun q => bl_irr (q ▸ c)
   rw [if_pos c]
   simp only [lkL, ih]
   by_cases q : o.1 = m
   ·rw [if_pos q, if_neg fun z => hn (q.trans z), if_pos q]
   ·rw [if_neg q, if_neg q]
  ·rw [if_neg c]
   by_cases q : o.1 = n
   ·rw [if_pos q]
    simp only [lkL]
    by_cases z : m = n
    ·rw [if_pos z, if_pos z.symm]
    ·rw [if_neg z, if_neg fun y => z y.symm, if_neg fun y => z (y.symm.trans q)]
   ·rw [if_neg q]
    simp only [lkL]
    by_cases z : m = n
    ·rw [if_pos z, if_pos z.symm]
    ·rw [if_neg z, if_neg fun y => z y.symm]
theorem lkL_rm {n : ByteArray} (m : ByteArray) : ∀ {L : List Ob}, Srt L → lkL m (rmL n L) = if m = n then none else lkL m L
 | [], _ => by simp [rmL, lkL]
 | o :: l, h => by
  obtain ⟨h1, h2⟩ := List.pairwise_cons.1 h
  have ih := lkL_rm (n := n) m h2
  have out : ¬ bl o.1 < bl n → lkL n l = none := fun c => lkL_none fun x hx z => by have := h1 x hx; rw [z] at this; exact c this
  simp only [rmL]
  by_cases c : bl o.1 < bl n
  ·have hn : o.1 ≠ n := fun q => bl_irr (q ▸ c)
   rw [if_pos c]
   simp only [lkL, ih]
   by_cases q : o.1 = m
   ·rw [if_pos q, if_neg fun z => hn (q.trans z), if_pos q]
   ·rw [if_neg q, if_neg q]
  ·rw [if_neg c]
   by_cases q : o.1 = n
   ·rw [if_pos q]
    simp only [lkL]
    by_cases z : m = n
    ·rw [if_pos z, z]; exact out c
    ·rw [if_neg z, if_neg fun y => z (y.symm.trans q)]
   ·rw [if_neg q]
    by_cases z : m = n
    ·rw [if_pos z, z]; simp only [lkL]; rw [if_neg q]; exact out c
    ·rw [if_neg z]
theorem mem_ins {n d : ByteArray} {x : Ob} : ∀ {L : List Ob}, x ∈ insL n d L → x = (n, d) ∨ x ∈ L
 | [], h => by simp [insL] at h; exact .inl h
 | o :: l, h => by
  simp only [insL] at h
  split at h
  ·rcases List.mem_cons.1 h with rfl | h
   ·exact .inr (by simp)
   ·exact (mem_ins h).imp id fun z => by simp [z]
  ·split at h
   ·rcases List.mem_cons.1 h with rfl | h
    ·exact .inl rfl
    ·exact .inr (by simp [h])
   ·rcases List.mem_cons.1 h with rfl | h
    ·exact .inl rfl
    ·exact .inr h
theorem srt_ins {n d : ByteArray} : ∀ {L : List Ob}, Srt L → Srt (insL n d L)
 | [], _ => List.pairwise_cons.2 ⟨by simp, .nil⟩
 | o :: l, h => by
  obtain ⟨h1, h2⟩ := List.pairwise_cons.1 h
  simp only [insL]
  split
  ·rename_i c
   refine List.pairwise_cons.2 ⟨fun x hx => ?_, srt_ins h2⟩
   rcases mem_ins hx with rfl | hx
   ·exact c
   ·exact h1 x hx
  ·rename_i c
   split
   ·rename_i q
    exact List.pairwise_cons.2 ⟨fun x hx => by show bl n < bl x.1; rw [← q]; exact h1 x hx, h2⟩
   ·rename_i q
    have lt : bl n < bl o.1 := by
     refine List.not_le.1 fun z => ?_
     exact q (congrArg ba (List.le_antisymm z (List.not_lt.1 c)))
    refine List.pairwise_cons.2 ⟨fun x hx => ?_, h⟩
    rcases List.mem_cons.1 hx with rfl | hx
    ·exact lt
    ·exact List.lt_trans lt (h1 x hx)
theorem rmL_sub (n : ByteArray) : ∀ L : List Ob, (rmL n L).Sublist L
 | [] => .slnil
 | o :: l => by
  simp only [rmL]
  split
  ·exact (rmL_sub n l).cons_cons _
  ·split
   ·exact List.sublist_cons_self _ _
   ·exact List.Sublist.refl _
theorem lk_iff {n d : ByteArray} : ∀ {es : List En}, (es.map (·.1)).Nodup → (lk n es = some d ↔ (n, d) ∈ es.map fun e => (e.1, e.2.1))
 | [], _ => by simp [lk]
 | e :: es, hk => by
  rw [List.map_cons, List.nodup_cons] at hk
  have ih := lk_iff (n := n) (d := d) hk.2
  simp only [lk, List.map_cons, List.mem_cons]
  by_cases h : e.1 = n
  ·rw [if_pos h]
   constructor
   ·intro q; cases q; exact .inl (by rw [← h])
   ·rintro (q | q)
    ·cases q; rfl
    ·exfalso
     obtain ⟨y, hy, e1⟩ := List.mem_map.1 q
     cases e1
     exact hk.1 (List.mem_map.2 ⟨y, hy, h.symm⟩)
  ·rw [if_neg h, ih]
   constructor
   ·exact .inr
   ·rintro (q | q)
    ·cases q; exact absurd rfl h
    ·exact q
theorem lkL_iff {n d : ByteArray} : ∀ {L : List Ob}, Srt L → (lkL n L = some d ↔ (n, d) ∈ L)
 | [], _ => by simp [lkL]
 | o :: l, h => by
  obtain ⟨h1, h2⟩ := List.pairwise_cons.1 h
  have ih := lkL_iff (n := n) (d := d) h2
  simp only [lkL, List.mem_cons]
  by_cases q : o.1 = n
  ·rw [if_pos q]
   constructor
   ·intro z; cases z; exact .inl (by rw [← q])
   ·rintro (z | z)
    ·rw [← z]
    ·exfalso
     have := h1 _ z
     rw [q] at this; exact bl_irr this
  ·rw [if_neg q, ih]
   constructor
   ·exact .inr
   ·rintro (z | z)
    ·rw [← z] at q; exact absurd rfl q
    ·exact z
structure Rel (p : PS) (r : RSt) : Prop where
 q : p.quota = r.quota
 f : p.fails = r.fails
 c : p.calls = r.many
 d : p.down = r.off
 g : Good p.es p.cl
 s : Srt r.L
 eq : ∀ n, lk n p.es = lkL n r.L
theorem Rel.perm {p : PS} {r : RSt} (R : Rel p r) : (p.es.map fun e => (e.1, e.2.1)).Perm r.L := by
 refine (List.perm_ext_iff_of_nodup ?_ ?_).2 fun x => ?_
 ·have := R.g.keys
  rw [List.Nodup, List.pairwise_map] at this ⊢
  exact this.imp fun h q => h (Prod.mk.inj q).1
 ·exact List.Pairwise.imp (fun {a b} h (q : a = b) => by rw [q] at h; exact bl_irr h) R.s
 ·obtain ⟨n, d⟩ := x
  rw [← lk_iff R.g.keys, ← lkL_iff R.s, R.eq]
theorem totR_perm {a b : List Ob} (h : a.Perm b) : totR a = totR b := by
 induction h with
 | nil => rfl
 | cons x _ ih => simp only [totR, ih]
 | swap x y l => simp only [totR]; omega
 | trans _ _ i1 i2 => exact i1.trans i2
theorem totR_map : ∀ es : List En, totR (es.map fun e => (e.1, e.2.1)) = tot es
 | [] => rfl
 | e :: es => by simp only [List.map_cons, totR, tot, totR_map es]
theorem Rel.tot {p : PS} {r : RSt} (R : Rel p r) : tot p.es = totR r.L := by rw [← totR_map, totR_perm R.perm]
theorem Rel.len {p : PS} {r : RSt} (R : Rel p r) : p.es.length = r.L.length := by simpa using R.perm.length_eq
theorem Rel.nm {p : PS} {r : RSt} (R : Rel p r) : nm p.es = r.L.map (·.1) := by
 have h1 : (Gs.nm p.es).Perm (p.es.map (·.1)) := by
  unfold Gs.nm
  generalize p.es.map (·.1) = ks
  have h1 := (List.mergeSort_perm (ks.map bl) leB).map ba
  have e : (ks.map bl).map ba = ks := by rw [List.map_map]; exact List.map_id _
  rw [e] at h1
  exact h1
 have h2 : (p.es.map (·.1)).Perm (r.L.map (·.1)) := by
  have := R.perm.map Prod.fst
  rw [List.map_map] at this
  exact this
 refine List.Perm.eq_of_pairwise (le := fun a b => bl a < bl b) (fun a b _ _ h1 h2 => absurd (List.lt_trans h1 h2) bl_irr) (nm_sorted R.g.keys) ?_ (h1.trans h2)
 rw [List.pairwise_map]; exact R.s
theorem Rel.lk {p : PS} {r : RSt} (R : Rel p r) (n : ByteArray) : lkR n r.L = lk n p.es := by rw [lkR_lkL R.s, R.eq]
theorem Rel.lay {p : PS} {r : RSt} (R : Rel p r) {n d : ByteArray} (hn : n.size ≤ 96) (hd : d.size ≤ 131072) : Rel (p.lay n d) { r with L := lyR n d r.L } := by
 refine ⟨R.q, R.f, R.c, R.d, R.g.pt hn hd, by rw [ly_ins]; exact srt_ins R.s, fun m => ?_⟩
 show Gs.lk m (pt n d p.cl p.es) = lkL m (lyR n d r.L)
 rw [ly_ins, lk_pt, lkL_ins, R.eq]
theorem Rel.rm {p : PS} {r : RSt} (R : Rel p r) (n : ByteArray) : Rel { p with es := rm n p.es } { r with L := rmL n r.L } := by
 refine ⟨R.q, R.f, R.c, R.d, R.g.rm n, R.s.sublist (rmL_sub n _), fun m => ?_⟩
 show Gs.lk m (Gs.rm n p.es) = lkL m (rmL n r.L)
 rw [lk_rm m R.g.keys, lkL_rm m R.s, R.eq]
theorem Rel.up {p : PS} {r : RSt} (R : Rel p r) : Rel p.up r.up := ⟨R.q, R.f, by show p.calls + 1 = r.many + 1; rw [R.c], R.d, R.g, R.s, R.eq⟩
theorem Rel.put {p : PS} {r : RSt} (R : Rel p r) (n d : ByteArray) : Rel (p.putS n d).1 (r.putS n d).1 ∧ (p.putS n d).2 = (r.putS n d).2 := by
 unfold PS.putS RSt.putS
 by_cases c : fitsC n d ≠ 0
 ·rw [if_pos c, if_pos c]; exact ⟨R, rfl⟩
 ·rw [if_neg c, if_neg c]
  obtain ⟨f1, f2, _⟩ := fits0 (by simpa using c)
  have RL := R.lay f1 f2
  have t1 : Gs.tot (pt n d p.cl p.es) = totR (lyR n d r.L) := RL.tot
  have t2 := tot_pt (n := n) (d := d) (cl := p.cl) p.es
  have hq := R.q
  by_cases z : p.quota + room n p.es < Gs.tot p.es + (n.size + d.size)
  ·rw [if_pos z, if_pos (by omega)]; exact ⟨R, rfl⟩
  ·rw [if_neg z, if_neg (by omega)]; exact ⟨RL, rfl⟩
theorem Rel.do {p : PS} {r : RSt} (R : Rel p r) (kind : Int) (n d : ByteArray) : Rel (p.doS kind n d).1 (r.doS kind n d).1 ∧ (p.doS kind n d).2 = (r.doS kind n d).2 := by
 unfold PS.doS RSt.doS
 have U := R.up
 by_cases c1 : p.down = true
 ·rw [if_pos c1, if_pos (R.d ▸ c1)]; exact ⟨U, rfl⟩
 rw [if_neg c1, if_neg (fun z => c1 (R.d.trans z))]
 by_cases c2 : 0 < p.fails
 ·rw [if_pos c2, if_pos (R.f ▸ c2)]
  exact ⟨⟨U.q, by show p.fails - 1 = r.fails - 1; rw [R.f], U.c, U.d, U.g, U.s, U.eq⟩, rfl⟩
 rw [if_neg c2, if_neg (fun z => c2 (R.f ▸ z))]
 by_cases c3 : kind = 1
 ·rw [if_pos c3, if_pos c3]
  have := U.put n d
  exact ⟨this.1, by rw [this.2]⟩
 rw [if_neg c3, if_neg c3]
 by_cases c5 : kind = 3
 ·have c4 : kind ≠ 2 := by omega
  rw [if_neg c4, if_pos c5, if_pos c5]
  exact ⟨U, by rw [R.nm]⟩
 rw [if_neg c5, if_neg c5]
 by_cases c4 : kind = 2
 ·rw [if_pos c4, if_pos c4, R.lk]
  split
  ·exact ⟨U, rfl⟩
  ·exact ⟨U, rfl⟩
 rw [if_neg c4, if_neg c4]
 by_cases c6 : kind = 4
 ·rw [if_pos c6, if_pos c6, R.lk]
  unfold PS.delS
  have eu : p.up.es = p.es := rfl
  rw [eu]
  by_cases z : (Gs.lk n p.es).isSome = true
  ·rw [if_pos z, if_pos z]
   have hf : fnd n r.L = true := by
    rw [← R.lk] at z
    unfold lkR at z
    by_cases y : fnd n r.L = true
    ·exact y
    ·rw [if_neg y] at z; cases z
   rw [rm_rmL hf]
   exact ⟨U.rm n, rfl⟩
  ·rw [if_neg z, if_neg z]; exact ⟨U, rfl⟩
 rw [if_neg c6, if_neg c6]
 exact ⟨U, rfl⟩
end Gs
namespace Gs
open Go Gx
theorem ldA_part {h : AHeap} {b o n : Nat} {sp : Option Nat} {c : List Value} {e : TypeId} {r : Bool} {fz : Nat} (hb : h.get b = some (.cells c e r fz)) (hn : 0 < n) (hc : o + n ≤ c.length) : Gx.ldA n ⟨b, o, sp⟩ h = some ((c.drop o).take n) := by
 obtain ⟨m, rfl⟩ : ∃ m, n = m + 1 := ⟨n - 1, by omega⟩
 simp only [ldA, AHeap.rdL, hb]
 rw [if_pos (by omega)]
structure Two (h : AHeap) (sb rb tb : Nat) (i : Nat) (p : PS) (r : RSt) : Prop where
 s : SR h sb rb p
 t : RR h tb r
 r : Rel p r
 l : p.es.length ≤ i
 c : p.calls ≤ i
 f : p.fails ≤ 1048576
 q : p.quota ≤ 1073741824
 lt : sb < tb ∧ rb < tb
theorem lay_len (p : PS) (n d : ByteArray) : (p.lay n d).es.length ≤ p.es.length + 1 := len_pt _
theorem put_len (p : PS) (n d : ByteArray) : (p.putS n d).1.es.length ≤ p.es.length + 1 ∧ (p.putS n d).1.calls = p.calls ∧ (p.putS n d).1.fails = p.fails ∧ (p.putS n d).1.quota = p.quota := by
 unfold PS.putS
 have := lay_len p n d
 split
 ·exact ⟨Nat.le_succ _, rfl, rfl, rfl⟩
 ·split
  ·exact ⟨Nat.le_succ _, rfl, rfl, rfl⟩
  ·exact ⟨this, rfl, rfl, rfl⟩
theorem do_len (p : PS) (kind : Int) (n d : ByteArray) : (p.doS kind n d).1.es.length ≤ p.es.length + 1 ∧ (p.doS kind n d).1.calls = p.calls + 1 ∧ (p.doS kind n d).1.fails ≤ p.fails ∧ (p.doS kind n d).1.quota = p.quota := by
 have b : p.up.es.length ≤ p.es.length + 1 ∧ p.up.calls = p.calls + 1 ∧ p.up.fails ≤ p.fails ∧ p.up.quota = p.quota := ⟨Nat.le_succ _, rfl, Nat.le_refl _, rfl⟩
 unfold PS.doS
 split
 ·exact b
 ·split
  ·exact ⟨Nat.le_succ _, rfl, Nat.sub_le _ _, rfl⟩
  ·split
   ·obtain ⟨h1, h2, h3, h4⟩ := put_len p.up n d
    exact ⟨h1, h2, by show (p.up.putS n d).1.fails ≤ _; rw [h3]; exact Nat.le_refl _, h4⟩
   ·split
    ·split <;> exact b
    ·split
     ·exact b
     ·split
      ·unfold PS.delS
       split
       ·refine ⟨?_, rfl, Nat.le_refl _, rfl⟩
        show (rm n p.es).length ≤ _
        have := (rm_sub n p.es).length_le; omega
       ·exact b
      ·exact b
theorem do_names (p : PS) (kind : Int) (n d : ByteArray) : (p.doS kind n d).2.2.2.length ≤ p.es.length := by
 have fl := List.length_filter_le (starts n) (nm p.es)
 rw [nm_len] at fl
 unfold PS.doS
 repeat' split
 all_goals first | exact fl | exact Nat.zero_le _
end Gs
namespace Gs
open Go Gx
theorem Job.io {h : AHeap} {base top cl jb : Nat} {qs : List Rq} {ys : List Ry} (J : Job h base top cl jb qs ys) :
  ∃ ib, h.get jb = some (.cells [ptr ib] 132 true 0) ∧ ib < h.next ∧ ((ys.length = qs.length ∧ ∃ q s t, h.get ib = some (.cells (ioC q .nilFunc true (Rz.of ys).code (Rz.of ys).n s t ys.length) 130 true 0) ∧ Acc encS 9 cl h s (Rz.of ys).ids ∧ Acc encS 9 cl h t (Rz.of ys).texts) ∨
   (∃ q' N, qs[ys.length]? = some q' ∧ h.get ib = some (.cells (ioC q' (JN.back N) false 0 0 nils nils ys.length) 130 true 0))) := by
 obtain ⟨N, _, _, j, W, _, q, a⟩ := J.st
 refine ⟨N.ib, j, W.lt.2.1, ?_⟩
 rcases a with ⟨e, s, t, g, A, B⟩ | ⟨q', e, g⟩
 ·exact .inl ⟨e, q, s, t, g, A, B⟩
 ·exact .inr ⟨q', N, e, g⟩
theorem Over_spec {k : Nat} (D : CallF) {h : AHeap} {base top cl jb : Nat} {qs : List Rq} {ys : List Ry} (J : Job h base top cl jb qs ys) : port_Job_Over k D (some ⟨jb, 0, none⟩) h = some (decide (ys.length = qs.length), h) := by
 obtain ⟨ib, j, _, a⟩ := J.io
 simp only [port_Job_Over]
 rcases a with ⟨e, q, s, t, g, _⟩ | ⟨q', N, e, g⟩
 ·refine bnd rfl (bnd (ldP_at j rfl) (bnd rfl (bnd (ldB_at g rfl) ?_)))
  rw [decide_eq_true e]
 ·refine bnd rfl (bnd (ldP_at j rfl) (bnd rfl (bnd (ldB_at g rfl) ?_)))
  have := (List.getElem?_eq_some_iff.1 e).1
  rw [decide_eq_false (by omega)]
theorem Steps_spec {k : Nat} (D : CallF) {h : AHeap} {base top cl jb : Nat} {qs : List Rq} {ys : List Ry} (J : Job h base top cl jb qs ys) : port_Job_Steps k D (some ⟨jb, 0, none⟩) h = some ((ys.length : Int), h) := by
 obtain ⟨ib, j, _, a⟩ := J.io
 simp only [port_Job_Steps]
 rcases a with ⟨e, q, s, t, g, _⟩ | ⟨q', N, e, g⟩
 ·exact bnd rfl (bnd (ldP_at j rfl) (bnd rfl (bnd (sldI_at g rfl) rfl)))
 ·exact bnd rfl (bnd (ldP_at j rfl) (bnd rfl (bnd (sldI_at g rfl) rfl)))
def q0 : Rq := (0, 0, ⟨#[]⟩, ⟨#[]⟩)
theorem Next_spec {k : Nat} (D : CallF) {h : AHeap} {base top cl jb : Nat} {qs : List Rq} {ys : List Ry} (J : Job h base top cl jb qs ys) : Gx.Wp (port_Job_Next k D (some ⟨jb, 0, none⟩) h) fun z => Keeps h z.2 ∧ z.1 = (qs[ys.length]?.getD q0, decide (ys.length < qs.length)) := by
 obtain ⟨ib, j, li, a⟩ := J.io
 simp only [port_Job_Next]
 obtain ⟨H1, e1⟩ : ∃ H1, H1 = h.new (.cells [.int .i64 0, .int .i64 0, .string ⟨#[]⟩, .string ⟨#[]⟩] 32 true 0) := ⟨_, rfl⟩
 rw [← e1]
 have k1 : Keeps h H1 := e1 ▸ Keeps.new h _
 have r1 : H1.get h.next = some (.cells [.int .i64 0, .int .i64 0, .string ⟨#[]⟩, .string ⟨#[]⟩] 32 true 0) := by rw [e1]; simp
 have j1 := (k1.oth _ J.jl.2 fun f => f).trans j
 have fin : ∀ (q : Rq) (b : Bool), (qs[ys.length]?.getD q0, decide (ys.length < qs.length)) = (q, b) → Gx.Wp ((Gx.stL 4 (⟨h.next, 0, none⟩ : Addr) (encQ q) H1).bind fun h6 => (Gx.ldA 4 (⟨h.next, 0, none⟩ : Addr) h6).bind fun l7 => (decC [.i .i64, .i .i64, .s, .s] l7).bind fun x8 => some (((x8.1, x8.2.1, x8.2.2.1, x8.2.2.2), b), h6)) fun z => Keeps h z.2 ∧ z.1 = (qs[ys.length]?.getD q0, decide (ys.length < qs.length)) := by
  intro q b e
  refine Gx.Wp.bnd (sstL_at r1 rfl rfl rfl (by decide)) (Gx.Wp.bnd (sldA_at (sset_get _ _ _) rfl) (Gx.Wp.bnd rfl (Gx.Wp.of ⟨?_, e.symm⟩)))
  exact Chg.beh (T := (· = h.next)) k1 (Chg.set (.inr rfl)) fun y hy q => by omega
 rcases a with ⟨e, q, s, t, g, _⟩ | ⟨q', N, e, g⟩
 ·have g1 := (k1.oth _ li fun f => f).trans g
  refine Gx.Wp.bnd rfl (Gx.Wp.bnd (ldP_at j1 rfl) (Gx.Wp.bnd rfl (Gx.Wp.bnd (ldB_at g1 rfl) (Gx.Wp.ifp rfl (fin q0 false ?_)))))
  rw [List.getElem?_eq_none (by omega), decide_eq_false (by omega)]; rfl
 ·have g1 := (k1.oth _ li fun f => f).trans g
  have hlt := (List.getElem?_eq_some_iff.1 e).1
  refine Gx.Wp.bnd rfl (Gx.Wp.bnd (ldP_at j1 rfl) (Gx.Wp.bnd rfl (Gx.Wp.bnd (ldB_at g1 rfl) (Gx.Wp.ifn (fun z => by cases z) (Gx.Wp.bnd rfl (Gx.Wp.bnd (ldP_at j1 rfl) (Gx.Wp.bnd rfl (Gx.Wp.bnd (ldA_part g1 (by decide) (by show 0 + 0 + 4 ≤ 14; omega)) (Gx.Wp.bnd rfl (fin q' true ?_))))))))))
  rw [e, decide_eq_true hlt]; rfl
theorem Give_over {k : Nat} (D : CallF) {h : AHeap} {base top cl jb : Nat} {qs : List Rq} {ys : List Ry} (J : Job h base top cl jb qs ys) (he : ys.length = qs.length) (r : Int × ByteArray × Slc) : Gx.Wp (port_Job_Give k D (some ⟨jb, 0, none⟩) r h) fun z => z.1 = 310 ∧ Keeps h z.2 := by
 obtain ⟨ib, j, li, a⟩ := J.io
 simp only [port_Job_Give]
 have k1 : Keeps h (h.new (.cells [.int .i64 r.1, .string r.2.1, .slice r.2.2.a r.2.2.len r.2.2.cap] 29 true 0)) := Keeps.new h _
 have j1 := (k1.oth _ J.jl.2 fun f => f).trans j
 rcases a with ⟨e, q, s, t, g, _⟩ | ⟨q', N, e, g⟩
 ·have g1 := (k1.oth _ li fun f => f).trans g
  exact Gx.Wp.bnd rfl (Gx.Wp.bnd (ldP_at j1 rfl) (Gx.Wp.bnd rfl (Gx.Wp.bnd (ldB_at g1 rfl) (Gx.Wp.ifp rfl (Gx.Wp.of ⟨rfl, k1⟩)))))
 ·have := (List.getElem?_eq_some_iff.1 e).1; omega
abbrev ResT := Int × ByteArray × Int × Slc × Slc × Slc × Slc
def ResOk (h : AHeap) (z : Rz) (v : ResT) : Prop := v.1 = z.code ∧ v.2.1 = nob ∧ v.2.2.1 = (z.n : Int) ∧ Row encS h v.2.2.2.1 z.ids ∧ Row encS h v.2.2.2.2.1 z.texts ∧ v.2.2.2.2.2.1 = nils ∧ v.2.2.2.2.2.2 = nils
theorem ResOk.keeps {h h' : AHeap} {z : Rz} {v : ResT} (r : ResOk h z v) (k : Keeps h h') : ResOk h' z v := ⟨r.1, r.2.1, r.2.2.1, Row.keeps r.2.2.2.1 k, Row.keeps r.2.2.2.2.1 k, r.2.2.2.2.2⟩
def Rz.told (qs : List Rq) (ys : List Ry) : Rz := if ys.length = qs.length then Rz.of ys else Rz.zero
theorem Result_spec {k : Nat} (D : CallF) {h : AHeap} {base top cl jb : Nat} {qs : List Rq} {ys : List Ry} (J : Job h base top cl jb qs ys) (hi : idsL ys ≤ 1099511627776) (hy : ys.length ≤ 1048576) : Gx.Wp (port_Job_Result k D (some ⟨jb, 0, none⟩) h) fun v => Keeps h v.2 ∧ ResOk v.2 (Rz.told qs ys) v.1 := by
 obtain ⟨ib, j, li, a⟩ := J.io
 have there : ∃ q th ov s t st, h.get ib = some (.cells (ioC q th ov (Rz.told qs ys).code (Rz.told qs ys).n s t st) 130 true 0) ∧ Row encS h s (Rz.told qs ys).ids ∧ Row encS h t (Rz.told qs ys).texts := by
  rcases a with ⟨e, q, s, t, g, A, B⟩ | ⟨q', N, e, g⟩
  ·have : Rz.told qs ys = Rz.of ys := if_pos e
   rw [this]
   exact ⟨_, _, _, _, _, _, g, A.row, B.row⟩
  ·have hlt := (List.getElem?_eq_some_iff.1 e).1
   have : Rz.told qs ys = Rz.zero := if_neg (by omega)
   rw [this]
   exact ⟨_, _, _, _, _, _, g, ⟨rfl, fun i x hx => by simp [Rz.zero] at hx⟩, ⟨rfl, fun i x hx => by simp [Rz.zero] at hx⟩⟩
 have li1 : (Rz.told qs ys).ids.length ≤ 1099511627776 := by
  unfold Rz.told; split
  ·rw [zof_ids]; exact hi
  ·exact Nat.zero_le _
 have li2 : (Rz.told qs ys).texts.length ≤ 1099511627776 := by
  unfold Rz.told; split
  ·rw [zof_texts]; simp; omega
  ·exact Nat.zero_le _
 obtain ⟨q, th, ov, s, t, st, g, Rs, Rt⟩ := there
 obtain ⟨cd, hcd⟩ : ∃ cd, cd = (Rz.told qs ys).code := ⟨_, rfl⟩
 obtain ⟨nn, hnn⟩ : ∃ nn : Int, nn = (Rz.told qs ys).n := ⟨_, rfl⟩
 rw [← hcd, ← hnn] at g
 simp only [port_Job_Result]
 obtain ⟨H1, e1⟩ : ∃ H1, H1 = h.new (.cells [.int .i64 0, .string ⟨#[]⟩, .int .i64 0, .slice none 0 0, .slice none 0 0, .slice none 0 0, .slice none 0 0] 60 true 0) := ⟨_, rfl⟩
 rw [← e1]
 have k1 : Keeps h H1 := e1 ▸ Keeps.new h _
 have n1 : H1.next = h.next + 1 := by rw [e1]; rfl
 have r1 : H1.get h.next = some (.cells [.int .i64 0, .string ⟨#[]⟩, .int .i64 0, .slice none 0 0, .slice none 0 0, .slice none 0 0, .slice none 0 0] 60 true 0) := by rw [e1]; simp
 have j1 := (k1.oth _ J.jl.2 fun f => f).trans j
 have g1 := (k1.oth _ li fun f => f).trans g
 refine Gx.Wp.bnd rfl (Gx.Wp.bnd (ldP_at j1 rfl) (Gx.Wp.bnd rfl (Gx.Wp.bnd (ldA_part g1 (by decide) (by show 0 + 6 + 7 ≤ 14; omega)) (Gx.Wp.bnd rfl ?_))))
 obtain ⟨H7, e7⟩ : ∃ H7, H7 = H1.new (.cells [.int .i64 0, .string ⟨#[]⟩, .int .i64 0, .slice none 0 0, .slice none 0 0, .slice none 0 0, .slice none 0 0] 60 true 0) := ⟨_, rfl⟩
 rw [← e7]
 have k7 : Keeps H1 H7 := e7 ▸ Keeps.new H1 _
 have n7 : H7.next = h.next + 2 := by rw [e7, AHeap.next_new, n1]
 have r7 : H7.get H1.next = some (.cells [.int .i64 0, .string ⟨#[]⟩, .int .i64 0, .slice none 0 0, .slice none 0 0, .slice none 0 0, .slice none 0 0] 60 true 0) := by rw [e7]; simp
 refine Gx.Wp.bnd (sstL_at r7 rfl rfl rfl (by decide)) ?_
 obtain ⟨H8, e8⟩ : ∃ H8, H8 = H7.set H1.next (.cells [.int .i64 cd, .string ⟨#[]⟩, .int .i64 nn, .slice s.a s.len s.cap, .slice t.a t.len t.cap, .slice none 0 0, .slice none 0 0] 60 true 0) := ⟨_, rfl⟩
 have e8' : H7.set H1.next (.cells [.int .i64 cd, .string ⟨#[]⟩, .int .i64 nn, .slice s.a s.len s.cap, .slice t.a t.len t.cap, .slice none 0 0, .slice none 0 0] 60 true 0) = H8 := e8.symm
 dsimp only
 rw [e8']
 have c8 : Chg (· = H1.next) H7 H8 := e8 ▸ Chg.set (.inr rfl)
 have k8 : Keeps h H8 := Chg.beh (k1.trans k7) c8 fun y hy q => by omega
 have n8 : H8.next = h.next + 2 := by rw [e8]; exact n7
 have r8 : H8.get H1.next = some (.cells [.int .i64 cd, .string ⟨#[]⟩, .int .i64 nn, .slice s.a s.len s.cap, .slice t.a t.len t.cap, .slice none 0 0, .slice none 0 0] 60 true 0) := by rw [e8]; simp
 have w8 : H8.get h.next = _ := (c8.oth _ (by omega) (by omega)).trans ((k7.oth _ (by omega) fun f => f).trans r1)
 refine Gx.Wp.bnd (sldL_at r8 rfl) ?_
 refine Gx.Wp.call (cloneS_spec D (s := ⟨s.a, s.len, s.cap⟩) (Row.keeps Rs k8) li1) fun ra qa => ?_
 obtain ⟨ka, Ra, fa⟩ := qa
 have ra8 := (ka.oth _ (by omega) fun f => f).trans r8
 refine Gx.Wp.bnd (sldL_at ra8 rfl) (Gx.Wp.gp (ssw1 (bnd (sldL_at r8 rfl) rfl)) ?_)
 refine Gx.Wp.call (cloneS_spec D (s := ⟨t.a, t.len, t.cap⟩) (Row.keeps Rt (k8.trans ka)) li2) fun rb qb => ?_
 obtain ⟨kb, Rb, fb⟩ := qb
 have rb8 := (kb.oth _ (by have := ka.nx; omega) fun f => f).trans ra8
 have w9 := ((ka.trans kb).oth _ (by omega) fun f => f).trans w8
 refine Gx.Wp.bnd (st1_sb rb8 (by show 3 < 7; omega) rfl) (Gx.Wp.bnd (st1_sb (sset_get _ _ _) (by show 4 < 7; omega) rfl) (Gx.Wp.bnd (sldL_at (sset_get _ _ _) rfl) ?_))
 have nilE : ∀ H, slices_Clone_api_Entry_api_Entry k D ⟨none, 0, 0⟩ H = some (⟨none, 0, 0⟩, H) := fun H => rfl
 have nilS : ∀ H, slices_Clone_api_Snap_api_Snap k D ⟨none, 0, 0⟩ H = some (⟨none, 0, 0⟩, H) := fun H => rfl
 refine Gx.Wp.bnd (nilE _) (Gx.Wp.bnd (sldL_at (sset_get _ _ _) rfl) (Gx.Wp.gp (ssw1 (bnd (sldL_at (sset_get _ _ _) rfl) rfl)) (Gx.Wp.bnd (nilS _) ?_)))
 refine Gx.Wp.bnd (st1_sb (sset_get _ _ _) (by show 5 < 7; omega) rfl) (Gx.Wp.bnd (st1_sb (sset_get _ _ _) (by show 6 < 7; omega) rfl) (Gx.Wp.bnd (sldA_at (sset_get _ _ _) rfl) (Gx.Wp.bnd rfl ?_)))
 have na := ka.nx
 have nb := kb.nx
 obtain ⟨HX, eX⟩ : ∃ HX, HX = (((rb.2.set H1.next (.cells [.int .i64 cd, .string ⟨#[]⟩, .int .i64 nn, .slice ra.1.a ra.1.len ra.1.cap, .slice t.a t.len t.cap, .slice none 0 0, .slice none 0 0] 60 true 0)).set H1.next (.cells [.int .i64 cd, .string ⟨#[]⟩, .int .i64 nn, .slice ra.1.a ra.1.len ra.1.cap, .slice rb.1.a rb.1.len rb.1.cap, .slice none 0 0, .slice none 0 0] 60 true 0)).set H1.next (.cells [.int .i64 cd, .string ⟨#[]⟩, .int .i64 nn, .slice ra.1.a ra.1.len ra.1.cap, .slice rb.1.a rb.1.len rb.1.cap, .slice none 0 0, .slice none 0 0] 60 true 0)).set H1.next (.cells [.int .i64 cd, .string ⟨#[]⟩, .int .i64 nn, .slice ra.1.a ra.1.len ra.1.cap, .slice rb.1.a rb.1.len rb.1.cap, .slice none 0 0, .slice none 0 0] 60 true 0) := ⟨_, rfl⟩
 have cX : Chg (· = H1.next) rb.2 HX := eX ▸ (Chg.set (S := (· = H1.next)) (.inr rfl)).trans ((Chg.set (S := (· = H1.next)) (.inr rfl)).trans ((Chg.set (S := (· = H1.next)) (.inr rfl)).trans (Chg.set (S := (· = H1.next)) (.inr rfl))))
 have wX := (cX.oth _ (by omega) (by omega)).trans w9
 have fin : Gx.Wp ((Gx.stL 7 (⟨h.next, 0, none⟩ : Addr) [.int .i64 cd, .string ⟨#[]⟩, .int .i64 nn, .slice ra.1.a ra.1.len ra.1.cap, .slice rb.1.a rb.1.len rb.1.cap, .slice none 0 0, .slice none 0 0] HX).bind fun h27 => (Gx.ldA 7 (⟨h.next, 0, none⟩ : Addr) h27).bind fun l28 => (decC [.i .i64, .s, .i .i64, .l, .l, .l, .l] l28).bind fun x29 =>
   some ((x29.1, x29.2.1, x29.2.2.1, x29.2.2.2.1, x29.2.2.2.2.1, x29.2.2.2.2.2.1, x29.2.2.2.2.2.2), h27)) fun v => Keeps h v.2 ∧ ResOk v.2 (Rz.told qs ys) v.1 := by
  refine Gx.Wp.bnd (sstL_at wX rfl rfl rfl (by decide)) (Gx.Wp.bnd (sldA_at (sset_get _ _ _) rfl) (Gx.Wp.bnd rfl (Gx.Wp.of ⟨?_, hcd, rfl, hnn, ?_, ?_, rfl, rfl⟩)))
  ·exact Chg.beh (T := (· = h.next)) (Chg.beh (k8.trans (ka.trans kb)) cX fun y hy q => by omega) (Chg.set (.inr rfl)) fun y hy q => by omega
  ·exact Row.chg (Row.chg (Row.keeps Ra kb) cX fun a ha q => by have := fa a ha; omega) (Chg.set (S := (· = h.next)) (.inr rfl)) fun a ha q => by have := fa a ha; omega
  ·exact Row.chg (Row.chg Rb cX fun a ha q => by have := fb a ha; omega) (Chg.set (S := (· = h.next)) (.inr rfl)) fun a ha q => by have := fb a ha; omega
 rw [eX] at fin
 exact fin
end Gs
namespace Gs
open Go Gx
theorem Job.apart {S : Nat → Prop} {h h' : AHeap} {base top cl jb : Nat} {qs : List Rq} {ys : List Ry} (J : Job h base top cl jb qs ys) (k : Chg S h h') (hS : ∀ y, S y → ¬ (base ≤ y ∧ y < top) ∧ ¬ cl ≤ y) : Job h' base top cl jb qs ys := by
 obtain ⟨N, tp, sp, j, W, ⟨xs, d, S1, far⟩, q, a⟩ := J.st
 have nx := k.nx
 have jl := J.jl
 obtain ⟨⟨g1, g2, g3, g4, g5⟩, g6, g7, g8⟩ := W.ge
 obtain ⟨⟨l1, l2, l3, l4, l5⟩, l6, l7, l8⟩ := W.lt
 obtain ⟨s1, s2, s3, s4, s5, s6⟩ := sp
 have nS : ∀ {y}, base ≤ y → y < top → ¬ S y := fun h1 h2 z => (hS _ z).1 ⟨h1, h2⟩
 have nC : ∀ {y}, cl ≤ y → ¬ S y := fun h1 z => (hS _ z).2 h1
 obtain ⟨rest, hc, hr⟩ := d.c
 refine ⟨⟨jl.1, by omega⟩, J.jt, ⟨Nat.le_trans J.tl.1 nx, Nat.le_trans J.tl.2 nx⟩, N, tp, ⟨s1, s2, s3, s4, s5, s6⟩, (k.oth _ jl.2 (nS jl.1 J.jt)).trans j, ⟨(k.oth _ l1 (nS g1 s1)).trans W.l, (k.oth _ l2 (nS g2 s2)).trans W.t, (k.oth _ l3 (nS g3 s3)).trans W.o, (k.oth _ l4 (nS g4 s4)).trans W.b, (k.oth _ l5 (nS g5 s5)).trans W.n, W.ls.chg k fun a ha => nS (W.ls.lt a ha).2 (s6 a ha), by omega, W.ge⟩,
  ⟨xs, ⟨(k.oth _ l7 (nS g7 (tp _ (.inr (.inl rfl))))).trans d.a, ⟨rest, (k.oth _ l8 (nS g8 (tp _ (.inr (.inr rfl))))).trans hc, hr⟩, d.le⟩, ⟨S1.1, fun i u v hu hv => ⟨(S1.2 i u v hu hv).1, (S1.2 i u v hu hv).2.1, Row.chg (S1.2 i u v hu hv).2.2 k fun a ha => nC (far i u hu a ha).2⟩⟩, far⟩, q, ?_⟩
 rcases a with ⟨e, s, t, g, A, B⟩ | ⟨q', e, g⟩
 ·exact .inl ⟨e, s, t, (k.oth _ l6 (nS g6 (tp _ (.inl rfl)))).trans g, A.chg k fun a ha => nC (A.lt a ha).2, B.chg k fun a ha => nC (B.lt a ha).2⟩
 ·exact .inr ⟨q', e, (k.oth _ l6 (nS g6 (tp _ (.inl rfl)))).trans g⟩
theorem Job.below {S : Nat → Prop} {h h' : AHeap} {base top cl jb : Nat} {qs : List Rq} {ys : List Ry} (J : Job h base top cl jb qs ys) (k : Chg S h h') (hS : ∀ y, S y → y < base) (hb : base ≤ cl) : Job h' base top cl jb qs ys :=
 J.apart k fun y hy => ⟨fun q => by have := hS y hy; omega, fun q => by have := hS y hy; omega⟩
abbrev Sb := Nat × Nat × PS
def encB (s : Sb) : Value := ptr s.1
def SSet (ss : List Sb) (y : Nat) : Prop := ∃ s ∈ ss, SB s.1 s.2.1 y
structure StB (m : Nat) (p : PS) : Prop where
 g : Good p.es p.cl
 l : p.es.length ≤ m
 c : p.calls ≤ m
 f : p.fails ≤ 1048576
 q : p.quota ≤ 1073741824
theorem StB.mono {m m' : Nat} {p : PS} (b : StB m p) (h : m ≤ m') : StB m' p := ⟨b.g, Nat.le_trans b.l h, Nat.le_trans b.c h, b.f, b.q⟩
structure Sts (h : AHeap) (sl : Slc) (m : Nat) (ss : List Sb) : Prop where
 rd : Row encB h sl ss
 fr : ∀ a, sl.a = some a → ¬ SSet ss a.block
 st : ∀ (i : Nat) s, ss[i]? = some s → SR h s.1 s.2.1 s.2.2 ∧ StB m s.2.2
 ap : ∀ (i j : Nat) s t, ss[i]? = some s → ss[j]? = some t → i ≠ j → ¬ SB s.1 s.2.1 t.1 ∧ ¬ SB s.1 s.2.1 t.2.1
theorem Sts.keeps {h h' : AHeap} {sl : Slc} {m : Nat} {ss : List Sb} (T : Sts h sl m ss) (k : Keeps h h') : Sts h' sl m ss := ⟨Row.keeps T.rd k, T.fr, fun i s hi => ⟨(T.st i s hi).1.keeps k, (T.st i s hi).2⟩, T.ap⟩
theorem Sts.chg {S : Nat → Prop} {h h' : AHeap} {sl : Slc} {m : Nat} {ss : List Sb} (T : Sts h sl m ss) (k : Chg S h h') (hs : ∀ y, SSet ss y → ¬ S y) (ha : ∀ a, sl.a = some a → ¬ S a.block) : Sts h' sl m ss :=
 ⟨Row.chg T.rd k ha, T.fr, fun i s hi => ⟨(T.st i s hi).1.chg k (hs _ ⟨s, mem_of hi, .inl rfl⟩) (hs _ ⟨s, mem_of hi, .inr rfl⟩), (T.st i s hi).2⟩, T.ap⟩
def ansS (ss : List Sb) (r : Rq) : List Sb × Ry :=
 if r.1 < 0 then (ss, (1, nob, [])) else match ss[r.1.toNat]? with
  | none => (ss, (1, nob, []))
  | some s => (ss.set r.1.toNat (s.1, s.2.1, (s.2.2.doS r.2.1 r.2.2.1 r.2.2.2).1), ((s.2.2.doS r.2.1 r.2.2.1 r.2.2.2).2.1, (s.2.2.doS r.2.1 r.2.2.1 r.2.2.2).2.2.1, (s.2.2.doS r.2.1 r.2.2.1 r.2.2.2).2.2.2))
theorem SSet_set {ss : List Sb} {i : Nat} {s : Sb} {p : PS} (hi : ss[i]? = some s) (y : Nat) : SSet (ss.set i (s.1, s.2.1, p)) y ↔ SSet ss y := by
 constructor
 ·rintro ⟨t, ht, q⟩
  rcases List.mem_or_eq_of_mem_set ht with ht | rfl
  ·exact ⟨t, ht, q⟩
  ·exact ⟨s, mem_of hi, q⟩
 ·rintro ⟨t, ht, q⟩
  obtain ⟨j, hj⟩ := List.getElem?_of_mem ht
  by_cases c : j = i
  ·subst c
   rw [hi] at hj; cases hj
   have hlt := (List.getElem?_eq_some_iff.1 hi).1
   exact ⟨(s.1, s.2.1, p), List.mem_of_getElem? (i := j) (by rw [List.getElem?_set]; simp [hlt]), q⟩
  ·exact ⟨t, List.mem_of_getElem? (i := j) (by rw [List.getElem?_set_ne (fun z => c z.symm)]; exact hj), q⟩
theorem SSet_ans (ss : List Sb) (r : Rq) (y : Nat) : SSet (ansS ss r).1 y ↔ SSet ss y := by
 unfold ansS
 split
 ·exact Iff.rfl
 ·split
  ·exact Iff.rfl
  ·rename_i s hs; exact SSet_set hs y
end Gs
namespace Gs
open Go Gx
theorem Answer_spec {k : Nat} (D : CallF) {h : AHeap} {sl : Slc} {m : Nat} {ss : List Sb} (T : Sts h sl m ss) (r : Rq) (hm : m ≤ 100000) (hk : m < k) (hn : r.2.2.1.size < k) (hs : r.2.2.1.size ≤ 9223372036854775807) :
  Gx.Wp (port_Answer k D sl r h) fun z => Chg (SSet ss) h z.2 ∧ Sts z.2 sl (m + 1) (ansS ss r).1 ∧ z.1.1 = (ansS ss r).2.1 ∧ z.1.2.1 = (ansS ss r).2.2.1 ∧ Acc encS 9 h.next z.2 z.1.2.2 (ansS ss r).2.2.2 := by
 obtain ⟨st, kind, n, d⟩ := r
 simp only [port_Answer]
 obtain ⟨H1, e1⟩ : ∃ H1, H1 = h.new (.cells [.int .i64 st, .int .i64 kind, .string n, .string d] 32 true 0) := ⟨_, rfl⟩
 rw [← e1]
 obtain ⟨H2, e2⟩ : ∃ H2, H2 = H1.new (.cells [.int .i64 0, .string ⟨#[]⟩, .slice none 0 0] 29 true 0) := ⟨_, rfl⟩
 rw [← e2]
 have k1 : Keeps h H1 := e1 ▸ Keeps.new h _
 have k2 : Keeps h H2 := k1.trans (e2 ▸ Keeps.new H1 _)
 have n1 : H1.next = h.next + 1 := by rw [e1]; rfl
 have n2 : H2.next = h.next + 2 := by rw [e2]; simp [n1]
 have rq : H2.get h.next = some (.cells [.int .i64 st, .int .i64 kind, .string n, .string d] 32 true 0) := by
  rw [e2]; simp only [AHeap.get_new]; rw [if_neg (by omega), e1]; simp
 have rs : H2.get H1.next = some (.cells [.int .i64 0, .string ⟨#[]⟩, .slice none 0 0] 29 true 0) := by rw [e2]; simp
 have T2 := T.keeps k2
 have len : sl.len = ss.length := T.rd.1
 refine Gx.Wp.jn fun j8 h8 => Gx.Wp.bnd (sldI_at rq rfl) ?_
 have bad : ansS ss (st, kind, n, d) = (ss, (1, nob, [])) → Gx.Wp (j8 sl (some ⟨h.next, 0, none⟩) (some ⟨H1.next, 0, none⟩) true H2) fun z => Chg (SSet ss) h z.2 ∧ Sts z.2 sl (m + 1) (ansS ss (st, kind, n, d)).1 ∧ z.1.1 = (ansS ss (st, kind, n, d)).2.1 ∧ z.1.2.1 = (ansS ss (st, kind, n, d)).2.2.1 ∧ Acc encS 9 h.next z.2 z.1.2.2 (ansS ss (st, kind, n, d)).2.2.2 := by
  intro ea
  subst h8
  refine Gx.Wp.ifp rfl (Gx.Wp.bnd rfl ?_)
  refine fin3 rs rfl 1 ⟨#[]⟩ ⟨none, 0, 0⟩ ?_
  have kf : Keeps h (H2.set H1.next (.cells [.int .i64 1, .string ⟨#[]⟩, .slice none 0 0] 29 true 0)) := Chg.beh (T := (· = H1.next)) k2 (Chg.set (.inr rfl)) fun y hy q => by omega
  rw [ea]
  have Tf := T.keeps kf
  exact ⟨Chg.keeps kf, ⟨Tf.rd, Tf.fr, fun i s hi => ⟨(Tf.st i s hi).1, (Tf.st i s hi).2.mono (by omega)⟩, Tf.ap⟩, rfl, rfl, Acc.nil _ _ _ _⟩
 by_cases c1 : st < 0
 ·refine Gx.Wp.ifp (by simpa using c1) (bad ?_)
  unfold ansS; rw [if_pos c1]
 refine Gx.Wp.ifn (by simpa using c1) (Gx.Wp.bnd (sldI_at rq rfl) ?_)
 obtain ⟨i, rfl⟩ : ∃ i : Nat, st = (i : Int) := ⟨st.toNat, by omega⟩
 by_cases c2 : ss.length ≤ i
 ·refine Gx.Wp.ifp (by rw [len]; simp; omega) (bad ?_)
  unfold ansS
  rw [if_neg c1]
  show (match ss[((i : Nat) : Int).toNat]? with | none => _ | some s => _) = _
  rw [Int.toNat_natCast, List.getElem?_eq_none c2]
 obtain ⟨s, hsi⟩ := isome (l := ss) (i := i) (by omega)
 refine Gx.Wp.ifn (by rw [len]; simp; omega) (Gx.Wp.bnd (sldI_at rq rfl) ?_)
 obtain ⟨q, q1, q2, _⟩ := T2.rd.rd hsi
 have ldp : Gx.ldP q H2 = some (some ⟨s.1, 0, none⟩) := by simp only [Gx.ldP, q2]; rfl
 refine Gx.Wp.bnd q1 (Gx.Wp.bnd ldp ?_)
 subst h8
 refine Gx.Wp.ifn (fun z => by cases z) (Gx.Wp.bnd rfl (Gx.Wp.bnd (sldI_at rq rfl) (Gx.Wp.bnd q1 (Gx.Wp.bnd ldp (Gx.Wp.bnd rfl (Gx.Wp.bnd (sldA_at rq rfl) (Gx.Wp.bnd rfl ?_)))))))
 obtain ⟨sR, sB⟩ := T2.st i s hsi
 refine Gx.Wp.call (Do_spec D sR sB.g i kind n d (by have := sB.l; omega) sB.q (by have := sB.c; omega) sB.f (fun _ => hn) (fun _ => hs) (by have := sB.l; omega)) fun r21 hq => ?_
 obtain ⟨a1, a2, A, c, s1, g1⟩ := hq
 rw [a1, a2]
 refine Gx.Wp.bnd rfl ?_
 have inS : ∀ y, SB s.1 s.2.1 y → SSet ss y := fun y z => ⟨s, mem_of hsi, z⟩
 have lts : ∀ y, SSet ss y → y < h.next := by
  rintro y ⟨t, ht, z⟩
  obtain ⟨j, hj⟩ := List.getElem?_of_mem ht
  have := ((T.st j t hj).1).lt
  rcases z with z | z <;> omega
 have rs2 : r21.2.get H1.next = some (.cells [.int .i64 0, .string ⟨#[]⟩, .slice none 0 0] 29 true 0) := (c.oth _ (by omega) (fun z => by have := lts _ (inS _ z); omega)).trans rs
 refine fin3 rs2 rfl _ _ _ ?_
 have ea : ansS ss ((i : Int), kind, n, d) = (ss.set i (s.1, s.2.1, (s.2.2.doS kind n d).1), (((s.2.2.doS kind n d).2.1 : Int), (s.2.2.doS kind n d).2.2.1, (s.2.2.doS kind n d).2.2.2)) := by
  unfold ansS
  rw [if_neg c1]
  show (match ss[((i : Nat) : Int).toNat]? with | none => _ | some s => _) = _
  rw [Int.toNat_natCast, hsi]
 rw [ea]
 have nA := c.nx
 have cS : Chg (SSet ss) h r21.2 := (Chg.keeps k2).trans (c.wk fun y _ z => inS y z)
 have cF : Chg (SSet ss) h (r21.2.set H1.next (.cells [.int .i64 ((s.2.2.doS kind n d).2.1 : Int), .string (s.2.2.doS kind n d).2.2.1, .slice r21.1.2.2.a r21.1.2.2.len r21.1.2.2.cap] 29 true 0)) := Chg.beh (T := (· = H1.next)) cS (Chg.set (.inr rfl)) fun y hy z => by omega
 obtain ⟨HF, eF⟩ : ∃ HF, HF = r21.2.set H1.next (.cells [.int .i64 ((s.2.2.doS kind n d).2.1 : Int), .string (s.2.2.doS kind n d).2.2.1, .slice r21.1.2.2.a r21.1.2.2.len r21.1.2.2.cap] 29 true 0) := ⟨_, rfl⟩
 rw [← eF] at cF ⊢
 have cl : Chg (· = H1.next) r21.2 HF := eF ▸ Chg.set (.inr rfl)
 have hlt := (List.getElem?_eq_some_iff.1 hsi).1
 refine ⟨cF, ⟨?_, ?_, ?_, ?_⟩, rfl, rfl, ⟨(A.chg cl fun a ha z => by have := (A.lt a ha).2; omega).st, fun a ha => ⟨Nat.lt_of_lt_of_le (A.lt a ha).1 cl.nx, by have := (A.lt a ha).2; omega⟩⟩⟩
 ·-- the list is the same
  have R : Row encB HF sl ss := Row.chg T.rd cF T.fr
  refine ⟨by rw [R.1]; simp, fun j t hj => ?_⟩
  by_cases cj : j = i
  ·subst cj
   rw [List.getElem?_set] at hj
   simp [hlt] at hj
   subst hj
   exact R.2 j s hsi
  ·rw [List.getElem?_set_ne (fun z => cj z.symm)] at hj
   exact R.2 j t hj
 ·intro a ha z
  exact T.fr a ha ((SSet_set hsi _).1 z)
 ·intro j t hj
  by_cases cj : j = i
  ·subst cj
   rw [List.getElem?_set] at hj
   simp [hlt] at hj
   subst hj
   obtain ⟨d1, d2, d3, d4⟩ := do_len s.2.2 kind n d
   exact ⟨s1.chg cl (by have := sR.lt; have := lts s.1 (inS _ (.inl rfl)); omega) (by have := lts s.2.1 (inS _ (.inr rfl)); omega), ⟨g1, by have := sB.l; show (s.2.2.doS kind n d).1.es.length ≤ _; omega, by have := sB.c; show (s.2.2.doS kind n d).1.calls ≤ _; omega, by have := sB.f; show (s.2.2.doS kind n d).1.fails ≤ _; omega, by show (s.2.2.doS kind n d).1.quota ≤ _; rw [d4]; exact sB.q⟩⟩
  ·rw [List.getElem?_set_ne (fun z => cj z.symm)] at hj
   obtain ⟨tR, tB⟩ := T2.st j t hj
   obtain ⟨p1, p2⟩ := T.ap i j s t hsi hj (fun z => cj z.symm)
   exact ⟨(tR.chg c p1 p2).chg cl (by have := lts t.1 ⟨t, mem_of hj, .inl rfl⟩; omega) (by have := lts t.2.1 ⟨t, mem_of hj, .inr rfl⟩; omega), tB.mono (by omega)⟩
 ·intro a b s' t' ha hb hab
  have back : ∀ (j : Nat) u, (ss.set i (s.1, s.2.1, (s.2.2.doS kind n d).1))[j]? = some u → ∃ v, ss[j]? = some v ∧ u.1 = v.1 ∧ u.2.1 = v.2.1 := by
   intro j u hu
   by_cases cj : j = i
   ·subst cj
    rw [List.getElem?_set] at hu
    simp [hlt] at hu
    subst hu
    exact ⟨s, hsi, rfl, rfl⟩
   ·rw [List.getElem?_set_ne (fun z => cj z.symm)] at hu
    exact ⟨u, hu, rfl, rfl⟩
  obtain ⟨u, hu, u1, u2⟩ := back a s' ha
  obtain ⟨v, hv, v1, v2⟩ := back b t' hb
  have := T.ap a b u v hu hv hab
  rw [u1, u2, v1, v2]; exact this
end Gs
namespace Gs
open Go Gx
def runJ (qs : List Rq) : Nat → Nat → List Sb → List Ry → List Sb × List Ry
 | 0, _, ss, ys => (ss, ys)
 | d + 1, most, ss, ys => if most = 0 then (ss, ys) else match qs[ys.length]? with
  | none => (ss, ys)
  | some r => runJ qs d (most - 1) (ansS ss r).1 (ys ++ [(ansS ss r).2])
theorem ans_names {ss : List Sb} {r : Rq} {m : Nat} {h : AHeap} {sl : Slc} (T : Sts h sl m ss) : (ansS ss r).2.2.2.length ≤ m := by
 unfold ansS
 split
 ·exact Nat.zero_le _
 ·split
  ·exact Nat.zero_le _
  ·rename_i s hs
   have := (T.st _ s hs).2.l
   exact Nat.le_trans (do_names _ _ _ _) this
theorem run_l0 {k n : Nat} {base top cl jb : Nat} (hbc : base ≤ cl) (bot) {h0 : AHeap} {qs : List Rq} {sl : Slc} {m : Nat} {ss0 : List Sb} (hq : qs.length ≤ 10000) (hm : m + qs.length ≤ 100000) (hk : m + qs.length + 1 < k) (hn : ∀ r ∈ qs, r.2.2.1.size < k ∧ r.2.2.1.size ≤ 9223372036854775807)
  (low : ∀ y, SSet ss0 y → y < base) (hsl : ∀ a, sl.a = some a → ¬ TopS base top a.block) {most : Nat} (hmost : most < 9223372036854775807) (tb : top ≤ h0.next) :
  ∀ (d : Nat) (steps : Nat) (ss : List Sb) (ys : List Ry) (h : AHeap) (n0 : Int), (steps : Int) = n0 + ys.length → ys.length + d = qs.length → steps ≤ most → idsL ys ≤ ys.length * 100000 → Job h base top cl jb qs ys → Sts h sl (m + ys.length) ss → (∀ y, SSet ss y ↔ SSet ss0 y) → Chg (fun y => SSet ss0 y ∨ TopS base top y) h0 h →
   Gx.Wp (iterK bot (d + 1) (port_Run_l0b k (lev k (n + 3)) fun (j1 : Option Addr) (steps2 : Int) (h3 : AHeap) => (port_Job_Over k (lev k (n + 3)) j1 h3).bind fun r5 => (if (!r5.1) = true then some ((steps2, 2), r5.2) else some ((steps2, 0), r5.2))) (some ⟨jb, 0, none⟩) sl (most : Int) (steps : Int) h)
    fun z => ∃ ss' ys', runJ qs d (most - steps) ss ys = (ss', ys') ∧ z.1.1 = n0 + ys'.length ∧ z.1.2 = (if ys'.length = qs.length then 0 else 2) ∧ Job z.2 base top cl jb qs ys' ∧ Sts z.2 sl (m + ys'.length) ss' ∧ (∀ y, SSet ss' y ↔ SSet ss0 y) ∧ idsL ys' ≤ ys'.length * 100000 ∧ Chg (fun y => SSet ss0 y ∨ TopS base top y) h0 z.2 := fun d => by
 induction d with
 | zero =>
  intro steps ss ys h n0 hst hd hsm hids J T hS hc
  rw [iterK_s]; simp only [port_Run_l0b]
  have he : ys.length = qs.length := by omega
  by_cases c : steps < most
  ·refine Gx.Wp.ifp (by simp; omega) (Gx.Wp.call (Next_spec _ J) fun z hz => ?_)
   obtain ⟨k1, e1⟩ := hz
   refine Gx.Wp.bnd (sstL_at (c := [.int .i64 0, .int .i64 0, .string ⟨#[]⟩, .string ⟨#[]⟩]) (e := 32) (by simp) rfl rfl rfl (by decide)) ?_
   rw [e1, decide_eq_false (by omega)]
   have kk : Keeps h ((z.2.new (.cells [.int .i64 0, .int .i64 0, .string ⟨#[]⟩, .string ⟨#[]⟩] 32 true 0)).set z.2.next (.cells [.int .i64 (qs[ys.length]?.getD q0).1, .int .i64 (qs[ys.length]?.getD q0).2.1, .string (qs[ys.length]?.getD q0).2.2.1, .string (qs[ys.length]?.getD q0).2.2.2] 32 true 0)) := Chg.beh (T := (· = z.2.next)) (k1.trans (Keeps.new _ _)) (Chg.set (.inr rfl)) fun y hy q => by have := k1.nx; omega
   exact Gx.Wp.ifp rfl (Gx.Wp.of ⟨ss, ys, rfl, hst, by rw [if_pos he], J.keeps kk, T.keeps kk, hS, hids, hc.trans (Chg.keeps kk)⟩)
  ·refine Gx.Wp.ifn (by simp; omega) (Gx.Wp.bnd (Over_spec _ J) ?_)
   rw [decide_eq_true he]
   exact Gx.Wp.ifn (fun q => by cases q) (Gx.Wp.of ⟨ss, ys, rfl, hst, by rw [if_pos he], J, T, hS, hids, hc⟩)
 | succ d ih =>
  intro steps ss ys h n0 hst hd hsm hids J T hS hc
  rw [iterK_s]; simp only [port_Run_l0b]
  by_cases c : steps < most
  ·refine Gx.Wp.ifp (by simp; omega) (Gx.Wp.call (Next_spec _ J) fun z hz => ?_)
   obtain ⟨k1, e1⟩ := hz
   obtain ⟨r, hr⟩ := isome (l := qs) (i := ys.length) (by omega)
   refine Gx.Wp.bnd (sstL_at (c := [.int .i64 0, .int .i64 0, .string ⟨#[]⟩, .string ⟨#[]⟩]) (e := 32) (by simp) rfl rfl rfl (by decide)) ?_
   rw [e1, decide_eq_true (by omega), hr]
   obtain ⟨K, eK⟩ : ∃ K, K = (z.2.new (.cells [.int .i64 0, .int .i64 0, .string ⟨#[]⟩, .string ⟨#[]⟩] 32 true 0)).set z.2.next (.cells [.int .i64 r.1, .int .i64 r.2.1, .string r.2.2.1, .string r.2.2.2] 32 true 0) := ⟨_, rfl⟩
   have eK' : (z.2.new (.cells [.int .i64 0, .int .i64 0, .string ⟨#[]⟩, .string ⟨#[]⟩] 32 true 0)).set z.2.next (.cells [.int .i64 ((some r).getD q0).1, .int .i64 ((some r).getD q0).2.1, .string ((some r).getD q0).2.2.1, .string ((some r).getD q0).2.2.2] 32 true 0) = K := eK.symm
   rw [eK']
   have kk : Keeps h K := eK ▸ Chg.beh (T := (· = z.2.next)) (k1.trans (Keeps.new _ _)) (Chg.set (.inr rfl)) fun y hy q => by have := k1.nx; omega
   have gK : K.get z.2.next = some (.cells [.int .i64 r.1, .int .i64 r.2.1, .string r.2.2.1, .string r.2.2.2] 32 true 0) := by rw [eK]; simp
   refine Gx.Wp.ifn (fun q => by cases q) (Gx.Wp.bnd (sldA_at gK rfl) (Gx.Wp.bnd rfl ?_))
   obtain ⟨hn1, hn2⟩ := hn r (mem_of hr)
   refine Gx.Wp.call (Answer_spec (lev k (n + 3)) (T.keeps kk) r (by omega) (by omega) hn1 hn2) fun a ha => ?_
   obtain ⟨ca, Ta, v1, v2, Aa⟩ := ha
   have Ja := (J.keeps kk).below ca (fun y hy => low y ((hS y).1 hy)) hbc
   have nm := ans_names (r := r) T
   have nx1 := kk.nx
   have nx2 := hc.nx
   have far : ∀ b, a.1.2.2.a = some b → ¬ TopS base top b.block := fun b hb q => by have := (Aa.lt b hb).2; have := q.2; omega
   rw [v1, v2]
   have hid2 : idsL (ys ++ [(ansS ss r).2]) ≤ (ys ++ [(ansS ss r).2]).length * 100000 := by
    rw [idsL_app]; simp only [idsL, List.length_append, List.length_cons, List.length_nil]; omega
   have hl2 : (ys ++ [(ansS ss r).2]).length = ys.length + 1 := by simp
   refine Gx.Wp.call (Give_spec (n := n) Ja (by omega) (by omega) Aa.row far (show idsL (ys ++ [(ansS ss r).2]) ≤ 1099511627776 by omega) (by omega)) fun g hg => ?_
   obtain ⟨g1, Jg, cg⟩ := hg
   rw [Gx.w1 (by omega)]
   have nxa := ca.nx
   have Tg : Sts g.2 sl (m + (ys ++ [(ansS ss r).2]).length) (ansS ss r).1 := by
    have T' := Ta.chg cg (fun y hy q => by have := low y ((hS y).1 ((SSet_ans ss r y).1 hy)); have := q.1; omega) hsl
    rw [hl2]; exact T'
   have fin := ih (steps + 1) (ansS ss r).1 (ys ++ [(ansS ss r).2]) g.2 n0 (by rw [hl2]; omega) (by omega) (by omega) hid2 Jg Tg (fun y => (SSet_ans ss r y).trans (hS y)) ((hc.trans (Chg.keeps kk)).trans ((ca.wk fun y _ q => .inl ((hS y).1 q)).trans (cg.wk fun y _ q => .inr q)))
   refine Gx.Wp.mono fin fun w hw => ?_
   obtain ⟨ss', ys', e, rest⟩ := hw
   refine ⟨ss', ys', ?_, rest⟩
   rw [← e]
   simp only [runJ]
   rw [if_neg (by omega), hr]
   have : most - steps - 1 = most - (steps + 1) := by omega
   rw [this]
  ·refine Gx.Wp.ifn (by simp; omega) (Gx.Wp.bnd (Over_spec _ J) ?_)
   rw [decide_eq_false (by omega)]
   refine Gx.Wp.ifp rfl (Gx.Wp.of ⟨ss, ys, ?_, hst, by rw [if_neg (by omega)], J, T, hS, hids, hc⟩)
   simp only [runJ]
   rw [if_pos (by omega)]
theorem Run_spec {k n : Nat} {h : AHeap} {base top cl jb : Nat} (hbc : base ≤ cl) {qs : List Rq} {sl : Slc} {m : Nat} {ss : List Sb} (hq : qs.length ≤ 10000) (hm : m + qs.length ≤ 100000) (hk : m + qs.length + 1 < k) (hn : ∀ r ∈ qs, r.2.2.1.size < k ∧ r.2.2.1.size ≤ 9223372036854775807)
  (low : ∀ y, SSet ss y → y < base) (hsl : ∀ a, sl.a = some a → ¬ TopS base top a.block) {most : Nat} (hmost : most < 9223372036854775807) (J : Job h base top cl jb qs []) (T : Sts h sl m ss) :
  Gx.Wp (port_Run k (lev k (n + 3)) (some ⟨jb, 0, none⟩) sl (most : Int) h) fun z => ∃ ss' ys', runJ qs qs.length most ss [] = (ss', ys') ∧ z.1.1 = (ys'.length : Int) ∧ z.1.2 = (if ys'.length = qs.length then 0 else 2) ∧ Job z.2 base top cl jb qs ys' ∧ Sts z.2 sl (m + ys'.length) ss' ∧ idsL ys' ≤ ys'.length * 100000 ∧ Chg (fun y => SSet ss y ∨ TopS base top y) h z.2 := by
 simp only [port_Run]
 refine Gx.Wp.ifn (fun q => by cases q) (Gx.Wp.ifn (by simp) (Gx.Wp.jn fun j hj => ?_))
 unfold port_Run_l0
 obtain ⟨bot, eb⟩ := iterK_of (fun _ _ _ _ _ => none) (port_Run_l0b k (lev k (n + 3)) j) (show qs.length + 1 ≤ k by omega)
 rw [eb]
 subst hj
 refine Gx.Wp.mono (run_l0 (cl := cl) hbc bot (h0 := h) (ss0 := ss) hq hm hk hn low hsl hmost J.tl.1 qs.length 0 ss [] h 0 (by simp) (by simp) (Nat.zero_le _) (by simp [idsL]) J T (fun y => Iff.rfl) (Chg.refl _ _)) fun z hz => ?_
 obtain ⟨ss', ys', e, s1, s2, J', T', _, hid, c⟩ := hz
 exact ⟨ss', ys', e, by rw [s1]; simp, s2, J', T', hid, c⟩
end Gs
namespace Gs
open Go Gx
theorem row_lit {h : AHeap} {b : Nat} {sp : Option Nat} {e : TypeId} {r : Bool} {fz : Nat} (xs : List ByteArray) (hb : h.get b = some (.cells (xs.map encS) e r fz)) (hl : b < h.next) : Row encS h ⟨some ⟨b, 0, sp⟩, xs.length, xs.length⟩ xs := by
 have hb' : h.get b = some (.cells (xs.flatMap encS1) e r fz) := by rw [flatS]; exact hb
 have := rowW_blk (cap := xs.length) (sp := sp) encS1_len hb' hl (Nat.le_refl _)
 rw [List.take_length] at this
 exact RowW.rowS this
def wq : List Rq := [(0, 1, ⟨#[97]⟩, ⟨#[98]⟩), (0, 2, ⟨#[97]⟩, ⟨#[]⟩)]
def wy : List Ry := [(0, nob, []), (0, ⟨#[98]⟩, [])]
theorem wrun (sb rb : Nat) : (runJ wq 2 9 [(sb, rb, ps0 100)] []).2 = wy := by kernel_rfl
theorem works8_spec {k n : Nat} {h : AHeap} (hk : 100 ≤ k) : Gx.Wp (law08_works k (lev k (n + 3)) h) fun z => z.1 = true ∧ Keeps h z.2 := by
 simp only [law08_works]
 obtain ⟨h1, e1, k1, s1⟩ := New_spec (k := k) (lev k (n + 3)) (h := h) (q := 100) (by decide)
 refine Gx.Wp.bnd e1 (Gx.Wp.jn fun j5 hj => Gx.Wp.ifn (fun q => by cases q) ?_)
 subst hj
 refine Gx.Wp.ifn (fun q => by cases q) ?_
 have lt1 := s1.lt
 obtain ⟨H6, e6⟩ : ∃ H6, H6 = h1.new (.cells [.int .i64 0, .int .i64 1, .string (⟨#[97]⟩ : ByteArray), .string (⟨#[98]⟩ : ByteArray), .int .i64 0, .int .i64 2, .string (⟨#[97]⟩ : ByteArray), .string (⟨#[]⟩ : ByteArray)] 32 true 0) := ⟨_, rfl⟩
 dsimp only
 rw [← e6]
 have k6 : Keeps h1 H6 := e6 ▸ Keeps.new h1 _
 have n6 : H6.next = h1.next + 1 := by rw [e6]; rfl
 have g6 : H6.get h1.next = some (.cells (wq.flatMap encQ) 32 true 0) := by rw [e6]; simp; rfl
 have R6 : RowW 4 encQ H6 ⟨some ⟨h1.next, 0, some 0⟩, 2, 2⟩ wq := rowW_blk (n := 2) encQ_len g6 (by omega) (by decide)
 refine Gx.Wp.call (List_spec (n := n) R6 (by decide) (by omega)) fun r7 q7 => ?_
 obtain ⟨jb, ej, k7, J7⟩ := q7
 rw [ej]
 refine Gx.Wp.ifn (fun q => by cases q) ?_
 obtain ⟨H8, e8⟩ : ∃ H8, H8 = r7.2.new (.cells [ptr (h.next + 1)] 23 true 0) := ⟨_, rfl⟩
 have e8' : r7.2.new (.cells [.pointer (some (⟨h.next + 1, 0, none⟩ : Addr))] 23 true 0) = H8 := e8.symm
 rw [e8']
 have k8 : Keeps r7.2 H8 := e8 ▸ Keeps.new r7.2 _
 have g8 : H8.get r7.2.next = some (.cells [ptr (h.next + 1)] 23 true 0) := by rw [e8]; simp
 have n8 : H8.next = r7.2.next + 1 := by rw [e8]; rfl
 have m7 := k7.nx
 have T8 : Sts H8 ⟨some ⟨r7.2.next, 0, some 0⟩, 1, 1⟩ 0 [(h.next + 1, h.next, ps0 100)] := by
  refine ⟨⟨rfl, fun i x hx => ?_⟩, fun a ha q => ?_, fun i s hi => ?_, fun i j s t hi hj hij => ?_⟩
  ·cases i with
   | zero => simp at hx; subst hx; exact ⟨⟨r7.2.next, 0, some 0⟩, _, _, _, _, rfl, by show r7.2.next < _; omega, g8, rfl⟩
   | succ i => simp at hx
  ·cases ha
   obtain ⟨s, hs, q⟩ := q
   simp at hs; subst hs
   rcases q with q | q <;> simp only at q <;> omega
  ·cases i with
   | zero => simp at hi; subst hi; exact ⟨((s1.keeps k6).keeps k7).keeps k8, good0, Nat.le_refl _, Nat.le_refl _, Nat.zero_le _, by show 100 ≤ _; decide⟩
   | succ i => simp at hi
  ·have := (List.getElem?_eq_some_iff.1 hi).1
   have := (List.getElem?_eq_some_iff.1 hj).1
   simp at *; omega
 refine Gx.Wp.call (Run_spec (n := n) (most := 9) (Nat.le_refl _) (by decide) (by decide) (by show 0 + 2 + 1 < k; omega) (fun r hr => ?_) (fun y hy => ?_) (fun a ha q => ?_) (by decide) (J7.keeps k8) T8) fun r9 q9 => ?_
 ·simp [wq] at hr
  rcases hr with rfl | rfl <;> exact ⟨by show 1 < k; omega, by decide⟩
 ·obtain ⟨s, hs, q⟩ := hy
  simp at hs; subst hs
  rcases q with q | q <;> simp only at q <;> omega
 ·cases ha; have := q.2; simp only at this; omega
 obtain ⟨ss', ys', er, v1, v2, J9, T9, hid, c9⟩ := q9
 have ew := wrun (h.next + 1) h.next
 have er' : runJ wq 2 9 [(h.next + 1, h.next, ps0 100)] [] = (ss', ys') := er
 rw [er'] at ew
 have ew : ys' = wy := ew
 subst ew
 refine Gx.Wp.call (Result_spec _ J9 (by decide) (by decide)) fun r10 q10 => ?_
 obtain ⟨k10, O⟩ := q10
 have et : Rz.told wq wy = ⟨0, 2, [], [nob, ⟨#[98]⟩]⟩ := by kernel_rfl
 rw [et] at O
 obtain ⟨o1, o2, o3, o4, o5, o6, o7⟩ := O
 refine Gx.Wp.bnd (sstL_at (c := [.int .i64 0, .string ⟨#[]⟩, .int .i64 0, .slice none 0 0, .slice none 0 0, .slice none 0 0, .slice none 0 0]) (e := 60) (by simp) rfl rfl rfl (by decide)) ?_
 rw [v1, v2]
 refine Gx.Wp.ifp rfl (Gx.Wp.ifp rfl ?_)
 obtain ⟨H12, e12⟩ : ∃ H12, H12 = (r10.2.new (.cells [.int .i64 0, .string ⟨#[]⟩, .int .i64 0, .slice none 0 0, .slice none 0 0, .slice none 0 0, .slice none 0 0] 60 true 0)).set r10.2.next (.cells [.int .i64 r10.1.1, .string r10.1.2.1, .int .i64 r10.1.2.2.1, .slice r10.1.2.2.2.1.a r10.1.2.2.2.1.len r10.1.2.2.2.1.cap, .slice r10.1.2.2.2.2.1.a r10.1.2.2.2.2.1.len r10.1.2.2.2.2.1.cap, .slice r10.1.2.2.2.2.2.1.a r10.1.2.2.2.2.2.1.len r10.1.2.2.2.2.2.1.cap, .slice r10.1.2.2.2.2.2.2.a r10.1.2.2.2.2.2.2.len r10.1.2.2.2.2.2.2.cap] 60 true 0) := ⟨_, rfl⟩
 rw [← e12]
 have g12 : H12.get r10.2.next = some (.cells [.int .i64 r10.1.1, .string r10.1.2.1, .int .i64 r10.1.2.2.1, .slice r10.1.2.2.2.1.a r10.1.2.2.2.1.len r10.1.2.2.2.1.cap, .slice r10.1.2.2.2.2.1.a r10.1.2.2.2.2.1.len r10.1.2.2.2.2.1.cap, .slice r10.1.2.2.2.2.2.1.a r10.1.2.2.2.2.2.1.len r10.1.2.2.2.2.2.1.cap, .slice r10.1.2.2.2.2.2.2.a r10.1.2.2.2.2.2.2.len r10.1.2.2.2.2.2.2.cap] 60 true 0) := by rw [e12]; simp
 have k12 : Keeps r10.2 H12 := e12 ▸ Chg.beh (T := (· = r10.2.next)) (Keeps.new _ _) (Chg.set (.inr rfl)) fun y hy q => by omega
 refine Gx.Wp.bnd (sldI_at g12 rfl) (Gx.Wp.ifp (by rw [o3]; rfl) (Gx.Wp.bnd (sldL_at g12 rfl) ?_))
 have k15 : Keeps H12 (H12.new (.cells [.string (⟨#[]⟩ : ByteArray), .string (⟨#[98]⟩ : ByteArray)] 9 true 0)) := Keeps.new _ _
 have R15 : Row encS (H12.new (.cells [.string (⟨#[]⟩ : ByteArray), .string (⟨#[98]⟩ : ByteArray)] 9 true 0)) ⟨some ⟨H12.next, 0, some 0⟩, 2, 2⟩ [nob, ⟨#[98]⟩] := row_lit [nob, ⟨#[98]⟩] (e := 9) (r := true) (fz := 0) (by rw [AHeap.get_new, if_pos rfl]; rfl) (by simp)
 refine Gx.Wp.bnd (sameS_spec _ (Row.keeps o5 (k12.trans k15)) R15 (by show 2 < k; omega) (by decide)) (Gx.Wp.of ⟨rfl, ?_⟩)
 have kA : Keeps h H8 := ((k1.trans k6).trans k7).trans k8
 refine (Chg.beh kA c9 fun y hy q => ?_).trans ((k10.trans k12).trans k15)
 rcases q with ⟨s, hs, q⟩ | q
 ·simp at hs; subst hs
  rcases q with q | q <;> simp only at q <;> omega
 ·have := q.1; omega
end Gs
namespace Gs
open Go Gx
structure LR (h : AHeap) (kb : Nat) (l : Slc) (ac : Nat) (z : Rz) : Prop where
 blk : ∃ s t : Slc, h.get kb = some (.cells [.slice l.a l.len l.cap, .int .i64 ac, .int .i64 z.code, .string ⟨#[]⟩, .int .i64 z.n, .slice s.a s.len s.cap, .slice t.a t.len t.cap, .slice none 0 0, .slice none 0 0] 62 true 0) ∧ AccV 1 encS1 9 (kb + 1) h s z.ids ∧ AccV 1 encS1 9 (kb + 1) h t z.texts
 lt : kb < h.next
theorem LR.keeps {h h' : AHeap} {kb : Nat} {l : Slc} {ac : Nat} {z : Rz} (L : LR h kb l ac z) (k : Keeps h h') : LR h' kb l ac z := by
 obtain ⟨s, t, hb, A, B⟩ := L.blk
 exact ⟨⟨s, t, (k.oth _ L.lt fun f => f).trans hb, A.keeps k, B.keeps k⟩, Nat.lt_of_lt_of_le L.lt k.nx⟩
theorem LR.below {S : Nat → Prop} {h h' : AHeap} {kb : Nat} {l : Slc} {ac : Nat} {z : Rz} (L : LR h kb l ac z) (k : Chg S h h') (hS : ∀ y, S y → y < kb) : LR h' kb l ac z := by
 obtain ⟨s, t, hb, A, B⟩ := L.blk
 have nS : ∀ {y}, kb ≤ y → ¬ S y := fun h z => by have := hS _ z; omega
 exact ⟨⟨s, t, (k.oth _ L.lt (nS (Nat.le_refl _))).trans hb, A.chg k fun a ha => nS (by have := (A.lt a ha).2; omega), B.chg k fun a ha => nS (by have := (B.lt a ha).2; omega)⟩, Nat.lt_of_lt_of_le L.lt k.nx⟩
theorem copy_app {h15 : AHeap} {base b0 : Nat} {s : Slc} {xs : List ByteArray} (A : AccV 1 encS1 9 base h15 s xs) (hb : base ≤ b0) (hl : b0 < h15.next) (hx : xs.length ≤ 1099511627776) :
  ∃ s' h', appendA 1 16 9 h15 (⟨some ⟨b0, 0, some 0⟩, 0, 0⟩ : Slc) (xs.map encS) s.len = some (s', h') ∧ AccV 1 encS1 9 base h' s' xs ∧ Chg (· = b0) h15 h' ∧ (∀ a, s'.a = some a → h15.next ≤ a.block ∨ a.block = b0) ∧ Gx.rdS 1 s h15 = some (xs.map encS) := by
 have hn : s.len = xs.length := (A.row encS1_len).len
 obtain ⟨s', h', a, A', c, d⟩ := (empty0 (w := 1) (enc := encS1) (e := 9) (h := h15) hb hl).app encS1_len encS1_one xs (bytes := 16) (by decide) (by simp; omega) (by omega)
 rw [flatS] at a
 rw [List.nil_append] at A'
 refine ⟨s', h', by rw [hn]; exact a, A', c.wk fun y _ ⟨a, ha, q⟩ => by cases ha; exact q, fun a ha => (d a ha).imp id fun z => by cases z; rfl, ?_⟩
 rw [← flatS]; exact A.rdS encS1_len
theorem LGive_spec {k : Nat} (D : CallF) {h : AHeap} {kb : Nat} {l : Slc} {ac : Nat} {z : Rz} (L : LR h kb l ac z) {c : Int} {d : ByteArray} {sl : Slc} {names : List ByteArray} (R : Row encS h sl names) (hs : ∀ a, sl.a = some a → a.block ≠ kb) (h1 : ac ≤ 100000) (h2 : z.n ≤ 100000) (h3 : z.ids.length + names.length ≤ 1099511627776) (h4 : z.texts.length ≤ 100000) :
  Gx.Wp (ref08_List_Give k D (some ⟨kb, 0, none⟩) (c, d, sl) h) fun w => Chg (· = kb) h w.2 ∧ LR w.2 kb l (ac + 1) (z.add (c, d, names)) := by
 obtain ⟨s, t, hb, As, At⟩ := L.blk
 have lt := L.lt
 simp only [ref08_List_Give]
 obtain ⟨H1, e1⟩ : ∃ H1, H1 = h.new (.cells [.int .i64 c, .string d, .slice sl.a sl.len sl.cap] 29 true 0) := ⟨_, rfl⟩
 rw [← e1]
 have k1 : Keeps h H1 := e1 ▸ Keeps.new h _
 have n1 : H1.next = h.next + 1 := by rw [e1]; rfl
 have g1 : H1.get h.next = some (.cells [.int .i64 c, .string d, .slice sl.a sl.len sl.cap] 29 true 0) := by rw [e1]; simp
 have hb1 := (k1.oth _ lt fun f => f).trans hb
 refine Gx.Wp.bnd rfl (Gx.Wp.bnd (sldI_at hb1 rfl) (Gx.Wp.bnd rfl ?_))
 rw [Gx.w1 (by omega)]
 refine Gx.Wp.bnd (st1_sb hb1 (by show 0 + 1 < 9; omega) rfl) ?_
 have tail : ∀ (H : AHeap) (cd : Int) (nn : Nat), Chg (· = kb) h H → H.get h.next = some (.cells [.int .i64 c, .string d, .slice sl.a sl.len sl.cap] 29 true 0) → H.get kb = some (.cells [.slice l.a l.len l.cap, .int .i64 ((ac + 1 : Nat) : Int), .int .i64 cd, .string ⟨#[]⟩, .int .i64 nn, .slice s.a s.len s.cap, .slice t.a t.len t.cap, .slice none 0 0, .slice none 0 0] 62 true 0) → h.next < H.next → (z.add (c, d, names)).code = cd → (z.add (c, d, names)).n = nn →
   Gx.Wp (
   let h14 := AHeap.resv H 2
   let h15 := AHeap.set h14 (H.next + 0) (.cells [] 9 true 0)
   (some (⟨kb, 0, none⟩ : Addr)).bind fun p16 =>
   (ldL (⟨p16.block, p16.off + 2 + 4, none⟩ : Addr) h15).bind fun x17 =>
   guardP (SameW [h14] (fun H19 => (ldL (⟨p16.block, p16.off + 2 + 4, none⟩ : Addr) H19).bind fun y18 => some (.slice y18.a y18.len y18.cap)) (.slice x17.a x17.len x17.cap)) (
   (Gx.rdS 1 x17 h15).bind fun n21 =>
   (appendA 1 16 9 h15 (⟨(some ⟨(H.next + 0), 0, some 0⟩), 0, 0⟩ : Slc) n21 x17.len).bind fun r20 =>
   (some (⟨h.next, 0, none⟩ : Addr)).bind fun p22 =>
   (Gx.ldS (⟨p22.block, p22.off + 1, none⟩ : Addr) r20.2).bind fun x23 =>
   guardP (SameW [h15, h14] (fun H25 => (Gx.ldS (⟨p22.block, p22.off + 1, none⟩ : Addr) H25).bind fun y24 => some (.string y24)) (.string x23)) (
   let h26 := AHeap.set r20.2 (H.next + 1) (.cells [.string x23] 9 true 0)
   (Gx.rdS 1 (⟨(some ⟨(H.next + 1), 0, some 0⟩), 1, 1⟩ : Slc) h26).bind fun n28 =>
   (appendA 1 16 9 h26 r20.1 n28 1).bind fun r27 =>
   (some (⟨kb, 0, none⟩ : Addr)).bind fun p29 =>
   (Gx.st1 (⟨p29.block, p29.off + 2 + 4, none⟩ : Addr) (.slice r27.1.a r27.1.len r27.1.cap) r27.2).bind fun h30 =>
   let h31 := AHeap.new h30 (.cells [] 9 true 0)
   (some (⟨kb, 0, none⟩ : Addr)).bind fun p32 =>
   (ldL (⟨p32.block, p32.off + 2 + 3, none⟩ : Addr) h31).bind fun x33 =>
   guardP (SameW [h30] (fun H35 => (ldL (⟨p32.block, p32.off + 2 + 3, none⟩ : Addr) H35).bind fun y34 => some (.slice y34.a y34.len y34.cap)) (.slice x33.a x33.len x33.cap)) (
   (Gx.rdS 1 x33 h31).bind fun n37 =>
   (appendA 1 16 9 h31 (⟨(some ⟨h30.next, 0, some 0⟩), 0, 0⟩ : Slc) n37 x33.len).bind fun r36 =>
   (some (⟨h.next, 0, none⟩ : Addr)).bind fun p38 =>
   (ldL (⟨p38.block, p38.off + 2, none⟩ : Addr) r36.2).bind fun x39 =>
   guardP (SameW [h31, h30] (fun H41 => (ldL (⟨p38.block, p38.off + 2, none⟩ : Addr) H41).bind fun y40 => some (.slice y40.a y40.len y40.cap)) (.slice x39.a x39.len x39.cap)) (
   (Gx.rdS 1 x39 r36.2).bind fun n43 =>
   (appendA 1 16 9 r36.2 r36.1 n43 x39.len).bind fun r42 =>
   (some (⟨kb, 0, none⟩ : Addr)).bind fun p44 =>
   (Gx.st1 (⟨p44.block, p44.off + 2 + 3, none⟩ : Addr) (.slice r42.1.a r42.1.len r42.1.cap) r42.2).bind fun h45 =>
   some ((), h45)))))) fun w => Chg (· = kb) h w.2 ∧ LR w.2 kb l (ac + 1) (z.add (c, d, names)) := by
  intro H cd nn cH gH hbH nH ec en
  have hne : h.next ≠ kb := by omega
  obtain ⟨H14, e14⟩ : ∃ H14, H14 = AHeap.resv H 2 := ⟨_, rfl⟩
  obtain ⟨H15, e15⟩ : ∃ H15, H15 = AHeap.set H14 (H.next + 0) (.cells [] 9 true 0) := ⟨_, rfl⟩
  dsimp only
  rw [← e14, ← e15]
  have k14 : Keeps H H14 := e14 ▸ ⟨by show H.next ≤ H.next + 2; omega, fun x hx _ => rfl⟩
  have n14 : H14.next = H.next + 2 := by rw [e14]; rfl
  have k15 : Keeps H H15 := Chg.beh (T := (· = H.next + 0)) k14 (e15 ▸ Chg.set (.inr rfl)) fun y hy q => by omega
  have n15 : H15.next = H.next + 2 := by rw [e15]; exact n14
  have b14 := (k14.oth _ (by omega) fun f => f).trans hbH
  have b15 := (k15.oth _ (by omega) fun f => f).trans hbH
  have x14 := (k14.oth _ (by omega) fun f => f).trans gH
  have x15 := (k15.oth _ (by omega) fun f => f).trans gH
  have AsH := As.chg cH fun a ha q => by have := (As.lt a ha).2; omega
  have AtH := At.chg cH fun a ha q => by have := (At.lt a ha).2; omega
  refine Gx.Wp.bnd rfl (Gx.Wp.bnd (sldL_at b15 rfl) (Gx.Wp.gp (ssw1 (bnd (sldL_at b14 rfl) rfl)) ?_))
  obtain ⟨s20, h20, a20, A20, c20, d20, rd20⟩ := copy_app (b0 := H.next + 0) (s := ⟨t.a, t.len, t.cap⟩) (AtH.keeps k15) (by omega) (by omega) (by omega)
  refine Gx.Wp.bnd rd20 (Gx.Wp.bnd a20 ?_)
  have n20 := c20.nx
  have x20 := (c20.oth _ (by omega) (by omega)).trans x15
  refine Gx.Wp.bnd rfl (Gx.Wp.bnd (ldS_at x20 rfl) (Gx.Wp.gp (ssw2 (bnd (ldS_at x15 rfl) rfl) (bnd (ldS_at x14 rfl) rfl)) ?_))
  obtain ⟨H26, e26⟩ : ∃ H26, H26 = AHeap.set h20 (H.next + 1) (.cells [.string d] 9 true 0) := ⟨_, rfl⟩
  rw [← e26]
  have c26 : Chg (· = H.next + 1) h20 H26 := e26 ▸ Chg.set (.inr rfl)
  have n26 : H26.next = h20.next := by rw [e26]; rfl
  have rd26 : Gx.rdS 1 (⟨(some ⟨(H.next + 1), 0, some 0⟩), 1, 1⟩ : Slc) H26 = some [encS d] := by
   have : H26.get (H.next + 1) = some (.cells [encS d] 9 true 0) := by rw [e26]; simp; rfl
   exact rdL_all this
  refine Gx.Wp.bnd rd26 ?_
  have A26 := A20.chg c26 fun a ha q => by rcases d20 a ha with w | w <;> omega
  obtain ⟨s27, h27, a27, A27, c27, d27⟩ := A26.app encS1_len encS1_one [d] (bytes := 16) (by decide) (by simp; omega) (by omega)
  have e27 : appendA 1 16 9 H26 s20 [encS d] 1 = some (s27, h27) := a27
  refine Gx.Wp.bnd e27 (Gx.Wp.bnd rfl ?_)
  have n27 := c27.nx
  have of27 : ∀ y, ofS s20 y → H15.next ≤ y ∨ y = H.next := fun y ⟨a, ha, q⟩ => by rcases d20 a ha with w | w <;> omega
  have kB : Keeps H h27 := Chg.beh (Chg.beh (Chg.beh k15 c20 fun y hy q => by omega) c26 fun y hy q => by omega) c27 fun y hy q => by have := of27 y q; omega
  have b27 := (kB.oth _ (by omega) fun f => f).trans hbH
  refine Gx.Wp.bnd (st1_sb b27 (by show 0 + 2 + 4 < 9; omega) rfl) ?_
  obtain ⟨H30, e30⟩ : ∃ H30, H30 = h27.set kb (.cells [.slice l.a l.len l.cap, .int .i64 ((ac + 1 : Nat) : Int), .int .i64 cd, .string ⟨#[]⟩, .int .i64 nn, .slice s.a s.len s.cap, .slice s27.a s27.len s27.cap, .slice none 0 0, .slice none 0 0] 62 true 0) := ⟨_, rfl⟩
  have e30' : h27.set kb (.cells ([Value.slice l.a l.len l.cap, .int .i64 ((ac + 1 : Nat) : Int), .int .i64 cd, .string ⟨#[]⟩, .int .i64 nn, .slice s.a s.len s.cap, .slice t.a t.len t.cap, .slice none 0 0, .slice none 0 0].set (0 + 2 + 4) (.slice s27.a s27.len s27.cap)) 62 true 0) = H30 := e30.symm
  dsimp only
  rw [e30']
  have c30 : Chg (· = kb) h27 H30 := e30 ▸ Chg.set (.inr rfl)
  have n30 : H30.next = h27.next := by rw [e30]; rfl
  have b30 : H30.get kb = some (.cells [.slice l.a l.len l.cap, .int .i64 ((ac + 1 : Nat) : Int), .int .i64 cd, .string ⟨#[]⟩, .int .i64 nn, .slice s.a s.len s.cap, .slice s27.a s27.len s27.cap, .slice none 0 0, .slice none 0 0] 62 true 0) := by rw [e30]; simp
  have x30 := (c30.oth _ (by omega) hne).trans ((kB.oth _ (by omega) fun f => f).trans gH)
  obtain ⟨H31, e31⟩ : ∃ H31, H31 = H30.new (.cells [] 9 true 0) := ⟨_, rfl⟩
  rw [← e31]
  have k31 : Keeps H30 H31 := e31 ▸ Keeps.new H30 _
  have n31 : H31.next = H30.next + 1 := by rw [e31]; rfl
  have b31 := (k31.oth _ (by omega) fun f => f).trans b30
  have x31 := (k31.oth _ (by omega) fun f => f).trans x30
  have As31 : AccV 1 encS1 9 (kb + 1) H31 s z.ids := ((AsH.keeps kB).chg c30 fun a ha q => by have := (As.lt a ha).2; omega).keeps k31
  have At31 : AccV 1 encS1 9 (kb + 1) H31 s27 (z.texts ++ [d]) := (A27.chg c30 fun a ha q => by have := (A27.lt a ha).2; omega).keeps k31
  refine Gx.Wp.bnd rfl (Gx.Wp.bnd (sldL_at b31 rfl) (Gx.Wp.gp (ssw1 (bnd (sldL_at b30 rfl) rfl)) ?_))
  obtain ⟨s36, h36, a36, A36, c36, d36, rd36⟩ := copy_app (b0 := H30.next) (s := ⟨s.a, s.len, s.cap⟩) As31 (by omega) (by omega) (by omega)
  refine Gx.Wp.bnd rd36 (Gx.Wp.bnd a36 ?_)
  have n36 := c36.nx
  have x36 := (c36.oth _ (by omega) (by omega)).trans x31
  refine Gx.Wp.bnd rfl (Gx.Wp.bnd (sldL_at x36 rfl) (Gx.Wp.gp (ssw2 (bnd (sldL_at x31 rfl) rfl) (bnd (sldL_at x30 rfl) rfl)) ?_))
  have kC : Chg (· = kb) h h36 := Chg.beh (T := (· = H30.next)) (cH.trans ((Chg.keeps kB).trans (c30.trans (Chg.keeps k31)))) c36 fun y hy q => by omega
  have R36 : Row encS h36 ⟨sl.a, sl.len, sl.cap⟩ names := Row.chg R kC hs
  refine Gx.Wp.bnd R36.rdS ?_
  rw [show (⟨sl.a, sl.len, sl.cap⟩ : Slc).len = names.length from R.1]
  obtain ⟨s42, h42, a42, A42, c42, d42⟩ := A36.app encS1_len encS1_one names (bytes := 16) (by decide) (by omega) (by omega)
  rw [flatS] at a42
  refine Gx.Wp.bnd a42 (Gx.Wp.bnd rfl ?_)
  have of42 : ∀ y, ofS s36 y → H31.next ≤ y ∨ y = H30.next := fun y ⟨a, ha, q⟩ => by rcases d36 a ha with w | w <;> omega
  have b36 := (c36.oth _ (by omega) (by omega)).trans b31
  have b42 := (c42.oth _ (by omega) (fun q => by have := of42 _ q; omega)).trans b36
  have n42 := c42.nx
  refine Gx.Wp.bnd (st1_sb b42 (by show 0 + 2 + 3 < 9; omega) rfl) (Gx.Wp.of ⟨?_, ⟨s42, s27, ?_, ?_, ?_⟩, ?_⟩)
  ·exact (Chg.beh kC c42 fun y hy q => by have := of42 y q; omega).trans (Chg.set (S := (· = kb)) (.inr rfl))
  ·rw [ec, en, sset_get]; rfl
  ·exact A42.chg (S := (· = kb)) (Chg.set (.inr rfl)) fun a ha q => by have := (A42.lt a ha).2; omega
  ·have A1 := At31.chg c36 fun a ha q => by have h1 := (A27.lt a ha).1; omega
   have A2 := A1.chg c42 fun a ha q => by have h1 := (A27.lt a ha).1; have := of42 _ q; omega
   exact A2.chg (S := (· = kb)) (Chg.set (.inr rfl)) fun a ha q => by have := (A2.lt a ha).2; omega
  ·show kb < h42.next; omega
 have hne : h.next ≠ kb := by omega
 obtain ⟨H5, e5⟩ : ∃ H5, H5 = H1.set kb (.cells [.slice l.a l.len l.cap, .int .i64 ((ac + 1 : Nat) : Int), .int .i64 z.code, .string ⟨#[]⟩, .int .i64 z.n, .slice s.a s.len s.cap, .slice t.a t.len t.cap, .slice none 0 0, .slice none 0 0] 62 true 0) := ⟨_, rfl⟩
 have e5' : H1.set kb (.cells ([Value.slice l.a l.len l.cap, .int .i64 ac, .int .i64 z.code, .string ⟨#[]⟩, .int .i64 z.n, .slice s.a s.len s.cap, .slice t.a t.len t.cap, .slice none 0 0, .slice none 0 0].set (0 + 1) (.int .i64 ((ac + 1 : Nat) : Int))) 62 true 0) = H5 := e5.symm
 rw [e5']
 have c5 : Chg (· = kb) h H5 := (Chg.keeps k1).trans (e5 ▸ Chg.set (.inr rfl))
 have b5 : H5.get kb = some (.cells [.slice l.a l.len l.cap, .int .i64 ((ac + 1 : Nat) : Int), .int .i64 z.code, .string ⟨#[]⟩, .int .i64 z.n, .slice s.a s.len s.cap, .slice t.a t.len t.cap, .slice none 0 0, .slice none 0 0] 62 true 0) := by rw [e5]; simp
 have g5 : H5.get h.next = some (.cells [.int .i64 c, .string d, .slice sl.a sl.len sl.cap] 29 true 0) := by rw [e5]; simp only [AHeap.get_set]; rw [if_neg hne]; exact g1
 have n5 : H5.next = h.next + 1 := by rw [e5]; exact n1
 refine Gx.Wp.jn fun j9 h9 => Gx.Wp.bnd (sldI_at g5 rfl) ?_
 by_cases c0 : c = 0
 ·refine Gx.Wp.ifp (by rw [c0]; rfl) (Gx.Wp.bnd rfl (Gx.Wp.bnd (sldI_at b5 rfl) (Gx.Wp.bnd rfl ?_)))
  rw [Gx.w1 (by omega)]
  refine Gx.Wp.bnd (st1_sb b5 (by show 0 + 2 + 2 < 9; omega) rfl) ?_
  subst h9
  refine Gx.Wp.jn fun j13 h13 => Gx.Wp.jn fun j50 h50 => Gx.Wp.bnd rfl ?_
  have g6 : ∀ B, (H5.set kb B).get h.next = some (.cells [.int .i64 c, .string d, .slice sl.a sl.len sl.cap] 29 true 0) := fun B => by simp only [AHeap.get_set]; rw [if_neg hne]; exact g5
  refine Gx.Wp.bnd (sldI_at (g6 _) rfl) (Gx.Wp.ifn (by rw [c0]; decide) ?_)
  subst h50
  refine Gx.Wp.ifn (fun q => by cases q) ?_
  subst h13
  refine tail _ z.code (z.n + 1) (c5.trans (Chg.set (.inr rfl))) (g6 _) (by rw [sset_get]; rfl) (by show h.next < H5.next; omega) ?_ ?_
  ·simp only [Rz.add]; rw [if_pos c0]
  ·simp only [Rz.add]; rw [if_pos c0]
 ·refine Gx.Wp.ifn (by simpa using c0) ?_
  subst h9
  refine Gx.Wp.jn fun j13 h13 => Gx.Wp.jn fun j50 h50 => Gx.Wp.bnd rfl (Gx.Wp.bnd (sldI_at g5 rfl) (Gx.Wp.ifp (by simpa using c0) (Gx.Wp.bnd rfl (Gx.Wp.bnd (sldI_at b5 rfl) ?_))))
  subst h50
  by_cases c1 : z.code = 0
  ·rw [c1]
   refine Gx.Wp.ifp rfl (Gx.Wp.bnd rfl (Gx.Wp.bnd (sldI_at g5 rfl) (Gx.Wp.bnd rfl (Gx.Wp.bnd (st1_sb b5 (by show 0 + 2 + 0 < 9; omega) rfl) ?_))))
   subst h13
   refine tail _ c z.n (c5.trans (Chg.set (.inr rfl))) (by simp only [AHeap.get_set]; rw [if_neg hne]; exact g5) (by rw [sset_get]; rfl) (by show h.next < H5.next; omega) ?_ ?_
   ·simp only [Rz.add]; rw [if_neg c0, if_pos c1]
   ·simp only [Rz.add]; rw [if_neg c0]
  ·refine Gx.Wp.ifn (by simpa using c1) ?_
   subst h13
   refine tail H5 z.code z.n c5 g5 b5 (by omega) ?_ ?_
   ·simp only [Rz.add]; rw [if_neg c0, if_neg c1]
   ·simp only [Rz.add]; rw [if_neg c0]
end Gs
namespace Gs
open Go Gx
theorem ResOk.of_rows {h : AHeap} {z : Rz} {cd n : Int} {s t : Slc} (h1 : cd = z.code) (h2 : n = z.n) (A : Row encS h s z.ids) (B : Row encS h t z.texts) : ResOk h z (cd, ⟨#[]⟩, n, s, t, nils, nils) := ⟨h1, rfl, h2, A, B, rfl, rfl⟩
theorem LResult_spec {k : Nat} (D : CallF) {h : AHeap} {kb : Nat} {l : Slc} {ac : Nat} {z : Rz} (L : LR h kb l ac z) {n : Nat} (hl : l.len = n) : Gx.Wp (ref08_List_Result k D (some ⟨kb, 0, none⟩) h) fun v => Keeps h v.2 ∧ ResOk v.2 (if n ≤ ac then z else Rz.zero) v.1 := by
 obtain ⟨s, t, hb, As, At⟩ := L.blk
 simp only [ref08_List_Result]
 obtain ⟨H1, e1⟩ : ∃ H1, H1 = h.new (.cells [.int .i64 0, .string ⟨#[]⟩, .int .i64 0, .slice none 0 0, .slice none 0 0, .slice none 0 0, .slice none 0 0] 60 true 0) := ⟨_, rfl⟩
 rw [← e1]
 have k1 : Keeps h H1 := e1 ▸ Keeps.new h _
 have r1 : H1.get h.next = some (.cells [.int .i64 0, .string ⟨#[]⟩, .int .i64 0, .slice none 0 0, .slice none 0 0, .slice none 0 0, .slice none 0 0] 60 true 0) := by rw [e1]; simp
 have hb1 := (k1.oth _ L.lt fun f => f).trans hb
 have ov : ref08_List_Over k D (some ⟨kb, 0, none⟩) H1 = some (decide (n ≤ ac), H1) := by
  simp only [ref08_List_Over]
  refine bnd rfl (bnd (sldI_at hb1 rfl) (bnd rfl (bnd (sldL_at hb1 rfl) ?_)))
  rw [show (⟨l.a, l.len, l.cap⟩ : Slc).len = n from hl]
  by_cases c : n ≤ ac
  ·rw [decide_eq_true c, decide_eq_true (by omega)]
  ·rw [decide_eq_false c, decide_eq_false (by omega)]
 refine Gx.Wp.bnd ov ?_
 have kf : ∀ B, Keeps h (H1.set h.next B) := fun B => Chg.beh (T := (· = h.next)) k1 (Chg.set (.inr rfl)) fun y hy q => by omega
 by_cases c : n ≤ ac
 ·rw [decide_eq_true c, if_pos c]
  refine Gx.Wp.ifn (fun q => by cases q) (Gx.Wp.bnd rfl (Gx.Wp.bnd (ldA_part hb1 (by decide) (by show 0 + 2 + 7 ≤ 9; omega)) (Gx.Wp.bnd rfl ?_)))
  refine Gx.Wp.bnd (sstL_at r1 rfl rfl rfl (by decide)) (Gx.Wp.bnd (sldA_at (sset_get _ _ _) rfl) (Gx.Wp.bnd rfl (Gx.Wp.of ⟨kf _, ?_⟩)))
  exact ResOk.of_rows rfl rfl (RowW.rowS ((As.keeps (kf _)).row encS1_len)) (RowW.rowS ((At.keeps (kf _)).row encS1_len))
 ·rw [decide_eq_false c, if_neg c]
  refine Gx.Wp.ifp rfl (Gx.Wp.bnd (sstL_at r1 rfl rfl rfl (by decide)) (Gx.Wp.bnd (sldA_at (sset_get _ _ _) rfl) (Gx.Wp.bnd rfl (Gx.Wp.of ⟨kf _, ?_⟩))))
  exact ResOk.of_rows rfl rfl ⟨rfl, fun i x hx => by simp [Rz.zero] at hx⟩ ⟨rfl, fun i x hx => by simp [Rz.zero] at hx⟩
theorem sameRes_spec {k : Nat} (D : CallF) {h : AHeap} {z : Rz} {a b : ResT} (A : ResOk h z a) (B : ResOk h z b) (h1 : z.ids.length < k) (h2 : z.texts.length < k) (h3 : z.ids.length ≤ 1099511627776) (h4 : z.texts.length ≤ 1099511627776) : Gx.Wp (law08_sameResult k D a b h) fun v => v.1 = true ∧ Keeps h v.2 := by
 obtain ⟨a1, a2, a3, a4, a5, a6, a7⟩ := A
 obtain ⟨b1, b2, b3, b4, b5, b6, b7⟩ := B
 simp only [law08_sameResult]
 obtain ⟨H1, e1⟩ : ∃ H1, H1 = h.new (.cells [.int .i64 a.1, .string a.2.1, .int .i64 a.2.2.1, .slice a.2.2.2.1.a a.2.2.2.1.len a.2.2.2.1.cap, .slice a.2.2.2.2.1.a a.2.2.2.2.1.len a.2.2.2.2.1.cap, .slice a.2.2.2.2.2.1.a a.2.2.2.2.2.1.len a.2.2.2.2.2.1.cap, .slice a.2.2.2.2.2.2.a a.2.2.2.2.2.2.len a.2.2.2.2.2.2.cap] 60 true 0) := ⟨_, rfl⟩
 rw [← e1]
 obtain ⟨H2, e2⟩ : ∃ H2, H2 = H1.new (.cells [.int .i64 b.1, .string b.2.1, .int .i64 b.2.2.1, .slice b.2.2.2.1.a b.2.2.2.1.len b.2.2.2.1.cap, .slice b.2.2.2.2.1.a b.2.2.2.2.1.len b.2.2.2.2.1.cap, .slice b.2.2.2.2.2.1.a b.2.2.2.2.2.1.len b.2.2.2.2.2.1.cap, .slice b.2.2.2.2.2.2.a b.2.2.2.2.2.2.len b.2.2.2.2.2.2.cap] 60 true 0) := ⟨_, rfl⟩
 rw [← e2]
 have k1 : Keeps h H1 := e1 ▸ Keeps.new h _
 have k2 : Keeps H1 H2 := e2 ▸ Keeps.new H1 _
 have n1 : H1.next = h.next + 1 := by rw [e1]; rfl
 have g1 : H2.get h.next = some (.cells [.int .i64 a.1, .string a.2.1, .int .i64 a.2.2.1, .slice a.2.2.2.1.a a.2.2.2.1.len a.2.2.2.1.cap, .slice a.2.2.2.2.1.a a.2.2.2.2.1.len a.2.2.2.2.1.cap, .slice a.2.2.2.2.2.1.a a.2.2.2.2.2.1.len a.2.2.2.2.2.1.cap, .slice a.2.2.2.2.2.2.a a.2.2.2.2.2.2.len a.2.2.2.2.2.2.cap] 60 true 0) := (k2.oth _ (by omega) fun f => f).trans (by rw [e1]; simp)
 have g2 : H2.get H1.next = some (.cells [.int .i64 b.1, .string b.2.1, .int .i64 b.2.2.1, .slice b.2.2.2.1.a b.2.2.2.1.len b.2.2.2.1.cap, .slice b.2.2.2.2.1.a b.2.2.2.2.1.len b.2.2.2.2.1.cap, .slice b.2.2.2.2.2.1.a b.2.2.2.2.2.1.len b.2.2.2.2.2.1.cap, .slice b.2.2.2.2.2.2.a b.2.2.2.2.2.2.len b.2.2.2.2.2.2.cap] 60 true 0) := by rw [e2]; simp
 have kk := k1.trans k2
 refine Gx.Wp.bnd (sldI_at g1 rfl) (Gx.Wp.bnd (sldI_at g2 rfl) (Gx.Wp.ifp (by rw [a1, b1]; simp) ?_))
 refine Gx.Wp.bnd (ldS_at g1 rfl) (Gx.Wp.bnd (ldS_at g2 rfl) (Gx.Wp.ifp (by rw [a2, b2, ba_beq]; simp) ?_))
 refine Gx.Wp.bnd (sldI_at g1 rfl) (Gx.Wp.bnd (sldI_at g2 rfl) (Gx.Wp.ifp (by rw [a3, b3]; simp) ?_))
 refine Gx.Wp.bnd (sldL_at g1 rfl) (Gx.Wp.bnd (sldL_at g2 rfl) (Gx.Wp.bnd (sameS_spec D (Row.keeps a4 kk) (Row.keeps b4 kk) h1 (by omega)) (Gx.Wp.ifp rfl ?_)))
 refine Gx.Wp.bnd (sldL_at g1 rfl) (Gx.Wp.bnd (sldL_at g2 rfl) (Gx.Wp.bnd (sameS_spec D (Row.keeps a5 kk) (Row.keeps b5 kk) h2 (by omega)) (Gx.Wp.ifp rfl ?_)))
 refine Gx.Wp.bnd (sldL_at g1 rfl) (Gx.Wp.bnd (sldL_at g2 rfl) (Gx.Wp.ifp (by rw [a6, b6]; simp) ?_))
 refine Gx.Wp.bnd (sldL_at g1 rfl) (Gx.Wp.bnd (sldL_at g2 rfl) (Gx.Wp.of ⟨by rw [a7, b7]; simp, kk⟩))
theorem small_spec {k : Nat} (D : CallF) {h : AHeap} {sl : Slc} {qs : List Rq} (R : RowW 4 encQ h sl qs) (hk : qs.length < k) (hl : qs.length ≤ 9223372036854775806) : Gx.Wp (law08_small k D sl h) fun v => v.2 = h ∧ (v.1 = true → qs.length ≤ 60) := by
 simp only [law08_small]
 refine Gx.Wp.jn fun j hj => ?_
 unfold law08_small_l0
 obtain ⟨bot, eb⟩ := iterK_of (fun _ _ _ => none) (law08_small_l0b k D j) (show qs.length + 1 ≤ k by omega)
 rw [eb]
 have len := R.len
 have go : ∀ d i : Nat, i + d = qs.length → Gx.Wp (iterK bot (d + 1) (law08_small_l0b k D j) sl (i : Int) h) fun v => v.2 = h ∧ (v.1 = true → qs.length ≤ 60) := by
  intro d
  induction d with
  | zero =>
   intro i hi
   rw [iterK_s]; simp only [law08_small_l0b]
   refine Gx.Wp.ifn (by rw [len]; simp; omega) ?_
   subst hj
   exact Gx.Wp.of ⟨rfl, fun q => by have := of_decide_eq_true q; omega⟩
  | succ d ih =>
   intro i hi
   rw [iterK_s]; simp only [law08_small_l0b]
   refine Gx.Wp.ifp (by rw [len]; simp; omega) (Gx.Wp.jn fun j12 h12 => ?_)
   obtain ⟨x, hx⟩ := isome (l := qs) (i := i) (by omega)
   obtain ⟨q, q1, _, _, q3⟩ := R.ld encQ_len (by decide) hx
   have both : ∀ b : Bool, Gx.Wp (j12 sl (i : Int) b h) fun v => v.2 = h ∧ (v.1 = true → qs.length ≤ 60) := fun b => by
    subst h12
    cases b with
    | true => exact Gx.Wp.ifp rfl (Gx.Wp.of ⟨rfl, fun q => by cases q⟩)
    | false =>
     refine Gx.Wp.ifn (fun q => by cases q) ?_
     rw [Gx.w1 (by omega)]
     exact ih (i + 1) (by omega)
   refine Gx.Wp.bnd q1 (Gx.Wp.bnd (q3 3 x.2.2.2 rfl) ?_)
   by_cases c : ((x.2.2.2.size : Int) > 1000)
   ·exact Gx.Wp.ifp (by simpa using c) (Gx.Wp.bnd q1 (Gx.Wp.bnd (q3 3 x.2.2.2 rfl) (both _)))
   ·exact Gx.Wp.ifn (by simpa using c) (both false)
 exact go qs.length 0 (by omega)
theorem spoilQ_l1 {k : Nat} (D : CallF) (bot) {h0 : AHeap} {base : Nat} {own : Slc} {qs : List Rq} (A : AccV 4 encQ 32 base h0 own qs) {l ans : Slc} (hl : l.len = qs.length) (hq : qs.length ≤ 1048576) {jp kp : Option Addr} {Q : Bool × AHeap → Prop} (j24)
  (hj : ∀ h, Chg (ofS own) h0 h → Gx.Wp (j24 l ans jp kp h) Q) :
  Gx.Wp (iterK bot (qs.length + 1) (law08_PortLists_l1b k D j24) l ans own jp kp 0 h0) Q := by
 have go : ∀ (d i : Nat) (h : AHeap), i + d = qs.length → Chg (ofS own) h0 h → (qs ≠ [] → ∃ b c, own = ⟨some ⟨b, 0, some (4 + 1)⟩, qs.length, qs.length⟩ ∧ h.get b = some (.cells c 32 true 0) ∧ c.length = qs.length * 4) → Gx.Wp (iterK bot (d + 1) (law08_PortLists_l1b k D j24) l ans own jp kp (i : Int) h) Q := by
  intro d
  induction d with
  | zero =>
   intro i h hi c _
   rw [iterK_s]; simp only [law08_PortLists_l1b]
   exact Gx.Wp.ifn (by rw [hl]; simp; omega) (hj h c)
  | succ d ih =>
   intro i h hi c st
   rw [iterK_s]; simp only [law08_PortLists_l1b]
   obtain ⟨b, cc, eo, hb, hc⟩ := st (fun q => by rw [q] at hi; simp at hi)
   refine Gx.Wp.ifp (by rw [hl]; simp; omega) ?_
   have ix : Gx.idxL 4 own (i : Int) = some ⟨b, 0 + i * 4, none⟩ := by
    rw [eo]; simp only [idxL]; rw [if_pos (by omega), Int.toNat_natCast]
   refine Gx.Wp.bnd ix ?_
   have stp := stL_part (o := 0 + i * 4) (sp := none) (cs := [.int .i64 0, .int .i64 0, .string (⟨#[115, 112, 111, 105, 108, 116]⟩ : ByteArray), .string (⟨#[]⟩ : ByteArray)]) hb (by simp) (by simp only [List.length_cons, List.length_nil]; omega) rfl
   refine Gx.Wp.bnd stp ?_
   rw [Gx.w1 (by omega)]
   refine ih (i + 1) _ (by omega) (c.trans (Chg.set (.inr ⟨_, by rw [eo], rfl⟩))) fun _ => ⟨b, _, eo, sset_get _ _ _, ?_⟩
   rw [length_splice (by simp only [List.length_cons, List.length_nil]; omega)]; exact hc
 refine go qs.length 0 h0 (by omega) (Chg.refl _ _) fun hne => ?_
 rcases A.st with ⟨_, _, q, _⟩ | ⟨b, e, hb, _⟩
 ·exact absurd q hne
 ·exact ⟨b, _, e, hb, flatW_length encQ_len qs⟩
end Gs
namespace Gs
open Go Gx
def pickY (ys : List Ry) (i : Nat) : Ry := (ys[i % ys.length]?).getD (0, nob, [])
def doneY (ys : List Ry) (i : Nat) : List Ry := (List.range i).map (pickY ys)
theorem doneY_succ (ys : List Ry) (i : Nat) : doneY ys (i + 1) = doneY ys i ++ [pickY ys i] := by simp [doneY, List.range_succ]
theorem doneY_len (ys : List Ry) (i : Nat) : (doneY ys i).length = i := by simp [doneY]
theorem pickY_len {ys : List Ry} (hy : ∀ y ∈ ys, y.2.2.length ≤ 1048576) (i : Nat) : (pickY ys i).2.2.length ≤ 1048576 := by
 unfold pickY
 cases h : ys[i % ys.length]? with
 | none => exact Nat.zero_le _
 | some y => exact hy y (List.mem_of_getElem? h)
theorem doneY_ids {ys : List Ry} (hy : ∀ y ∈ ys, y.2.2.length ≤ 1048576) : ∀ i, idsL (doneY ys i) ≤ i * 1048576
 | 0 => Nat.zero_le _
 | i + 1 => by
  have h1 := doneY_ids hy i
  have h2 := pickY_len hy i
  rw [doneY_succ, idsL_app]; simp only [idsL]; omega
theorem port_l0 {k n : Nat} (bot) {h0 : AHeap} {base top jb kb : Nat} {sl ans : Slc} {qs : List Rq} {xs : List Rp} {ys : List Ry} (R : RowW 4 encQ h0 sl qs) (RA : RowW 3 encP h0 ans xs) (S : Say h0 xs ys)
  (low : ∀ (i : Nat) (z : Rp), xs[i]? = some z → ∀ (a : Addr), z.2.2.a = some a → a.block < h0.next) (hy : ∀ y ∈ ys, y.2.2.length ≤ 1048576) (hq : qs.length ≤ 60) (hk : 100000000 ≤ k) (hb : h0.next ≤ base) (hbt : base ≤ top) (hkb : top ≤ kb) {Q : Bool × AHeap → Prop} (j29)
  (hj : ∀ H, Job H base top (kb + 1) jb qs (doneY ys qs.length) → LR H kb sl qs.length (Rz.of (doneY ys qs.length)) → Keeps h0 H → Gx.Wp (j29 sl (some ⟨jb, 0, none⟩) (some ⟨kb, 0, none⟩) H) Q) :
  ∀ (d i : Nat) (H : AHeap), i + d = qs.length → Job H base top (kb + 1) jb qs (doneY ys i) → LR H kb sl i (Rz.of (doneY ys i)) → Keeps h0 H →
   Gx.Wp (iterK bot (d + 1) (law08_PortLists_l0b k (lev k (n + 3)) j29) sl ans (some ⟨jb, 0, none⟩) (some ⟨kb, 0, none⟩) (i : Int) H) Q := fun d => by
 have len := R.len
 induction d with
 | zero =>
  intro i H hi J L kp
  rw [iterK_s]; simp only [law08_PortLists_l0b]
  obtain rfl : i = qs.length := by omega
  exact Gx.Wp.ifn (by rw [len]; simp) (hj H J L kp)
 | succ d ih =>
  intro i H hi J L kp
  rw [iterK_s]; simp only [law08_PortLists_l0b]
  refine Gx.Wp.ifp (by rw [len]; simp; omega) ?_
  obtain ⟨r, hr⟩ := isome (l := qs) (i := i) (by omega)
  have dl := doneY_len ys i
  have di := doneY_ids hy i
  refine Gx.Wp.call (Next_spec _ J) fun z hz => ?_
  obtain ⟨k1, e1⟩ := hz
  rw [dl, hr, decide_eq_true (by omega)] at e1
  rw [e1]
  refine Gx.Wp.bnd (sstL_at (c := [.int .i64 0, .int .i64 0, .string ⟨#[]⟩, .string ⟨#[]⟩]) (e := 32) (by simp) rfl rfl rfl (by decide)) ?_
  obtain ⟨K, eK⟩ : ∃ K, K = (z.2.new (.cells [.int .i64 0, .int .i64 0, .string ⟨#[]⟩, .string ⟨#[]⟩] 32 true 0)).set z.2.next (.cells [.int .i64 r.1, .int .i64 r.2.1, .string r.2.2.1, .string r.2.2.2] 32 true 0) := ⟨_, rfl⟩
  have eK' : (z.2.new (.cells [.int .i64 0, .int .i64 0, .string ⟨#[]⟩, .string ⟨#[]⟩] 32 true 0)).set z.2.next (.cells [.int .i64 ((some r).getD q0).1, .int .i64 ((some r).getD q0).2.1, .string ((some r).getD q0).2.2.1, .string ((some r).getD q0).2.2.2] 32 true 0) = K := eK.symm
  dsimp only
  rw [eK']
  have kk : Keeps H K := eK ▸ Chg.beh (T := (· = z.2.next)) (k1.trans (Keeps.new _ _)) (Chg.set (.inr rfl)) fun y hy q => by have := k1.nx; omega
  have gK : K.get z.2.next = some (.cells [.int .i64 r.1, .int .i64 r.2.1, .string r.2.2.1, .string r.2.2.2] 32 true 0) := by rw [eK]; simp
  refine Gx.Wp.jn fun j57 h57 => Gx.Wp.bnd (sldA_at gK rfl) (Gx.Wp.bnd rfl ?_)
  have kpK := kp.trans kk
  obtain ⟨q, q1, q2, _, _⟩ := (R.keeps kpK).ld encQ_len (by decide) hr
  refine Gx.Wp.bnd q1 (Gx.Wp.bnd q2 (Gx.Wp.bnd rfl ?_))
  refine Gx.Wp.ifn (by simp [ba_beq]) (Gx.Wp.ifn (fun q => by cases q) ?_)
  have JK := J.keeps kk
  have LK := L.keeps kk
  refine Gx.Wp.bnd (Over_spec _ JK) ?_
  rw [dl, decide_eq_false (by omega)]
  refine Gx.Wp.ifn (fun q => by cases q) (Gx.Wp.bnd (Steps_spec _ JK) ?_)
  rw [dl]
  refine Gx.Wp.ifn (by simp) ?_
  refine Gx.Wp.call (Result_spec _ JK (by omega) (by omega)) fun v hv => ?_
  obtain ⟨kv, Ov⟩ := hv
  refine Gx.Wp.call (LResult_spec _ (LK.keeps kv) len) fun u hu => ?_
  obtain ⟨ku, Ou⟩ := hu
  have et : Rz.told qs (doneY ys i) = Rz.zero := if_neg (by rw [dl]; omega)
  rw [et] at Ov
  rw [if_neg (by omega)] at Ou
  refine Gx.Wp.call (sameRes_spec _ (Ov.keeps ku) Ou (by show 0 < k; omega) (by show 0 < k; omega) (Nat.zero_le _) (Nat.zero_le _)) fun w hw => ?_
  obtain ⟨w1, kw⟩ := hw
  have kR := (kv.trans ku).trans kw
  rw [w1]
  subst h57
  refine Gx.Wp.ifn (fun q => by cases q) ?_
  have Jw := JK.keeps kR
  have Lw := LK.keeps kR
  have kpw := kpK.trans kR
  refine Gx.Wp.jn fun j66 h66 => ?_
  have go : ∀ (G : AHeap) (s : Slc), Keeps w.2 G → G.get w.2.next = some (.cells [.int .i64 (pickY ys i).1, .string (pickY ys i).2.1, .slice s.a s.len s.cap] 29 true 0) → w.2.next < G.next → Row encS G s (pickY ys i).2.2 → (∀ a, s.a = some a → a.block < h0.next) → Gx.Wp (j66 sl ans (some ⟨jb, 0, none⟩) (some ⟨kb, 0, none⟩) (i : Int) (some ⟨w.2.next, 0, none⟩) G) Q := by
   intro G s kG gG nG RG lowG
   subst h66
   have pl := pickY_len hy i
   refine Gx.Wp.bnd rfl (Gx.Wp.bnd (sldA_at gG rfl) (Gx.Wp.bnd rfl ?_))
   have hid : idsL (doneY ys i ++ [pickY ys i]) ≤ 1099511627776 := by rw [idsL_app]; simp only [idsL]; omega
   refine Gx.Wp.call (Give_spec (n := n) (Jw.keeps kG) (by rw [dl]; omega) (by omega) (sl := ⟨s.a, s.len, s.cap⟩) RG (fun a ha q => by have := lowG a ha; have := q.1; omega) hid (by rw [dl]; omega)) fun g hg => ?_
   obtain ⟨g1, Jg, cg⟩ := hg
   rw [g1]
   refine Gx.Wp.ifn (by decide) ?_
   have hkbw := Lw.lt
   have tlw := Jw.tl.1
   have nw := kG.nx
   have gg := (cg.oth _ nG (fun q => by have := q.2; omega)).trans gG
   refine Gx.Wp.bnd rfl (Gx.Wp.bnd (sldA_at gg rfl) (Gx.Wp.bnd rfl ?_))
   have Rg : Row encS g.2 ⟨s.a, s.len, s.cap⟩ (pickY ys i).2.2 := Row.chg RG cg fun a ha q => by have := lowG a ha; have := q.1; omega
   have Lg := (Lw.keeps kG).below cg fun y hy => by have := hy.2; omega
   have zn := zof_n (doneY ys i)
   have zi := zof_ids (doneY ys i)
   have zt := congrArg List.length (zof_texts (doneY ys i))
   rw [List.length_map, dl] at zt
   refine Gx.Wp.call (LGive_spec _ Lg Rg (fun a ha => by have := lowG a ha; omega) (by omega) (by omega) (by omega) (by omega)) fun m hm => ?_
   obtain ⟨cm, Lm⟩ := hm
   rw [Gx.w1 (by omega)]
   have Jm := Jg.apart cm fun y hy => by subst hy; exact ⟨fun q => by omega, fun q => by omega⟩
   have ed : doneY ys i ++ [((pickY ys i).1, (pickY ys i).2.1, (pickY ys i).2.2)] = doneY ys (i + 1) := (doneY_succ ys i).symm
   rw [ed] at Jm
   have ez : (Rz.of (doneY ys i)).add ((pickY ys i).1, (pickY ys i).2.1, (pickY ys i).2.2) = Rz.of (doneY ys (i + 1)) := by rw [doneY_succ, zof_snoc]
   rw [ez] at Lm
   refine ih (i + 1) m.2 (by omega) Jm Lm ?_
   exact Chg.beh (Chg.beh (kpw.trans kG) cg fun y hy q => by have := q.1; omega) cm fun y hy q => by have := kpw.nx; omega
  obtain ⟨G, eG⟩ : ∃ G, G = w.2.new (.cells [.int .i64 0, .string ⟨#[]⟩, .slice none 0 0] 29 true 0) := ⟨_, rfl⟩
  have kG : Keeps w.2 G := eG ▸ Keeps.new w.2 _
  have gG : G.get w.2.next = some (.cells [.int .i64 0, .string ⟨#[]⟩, .slice none 0 0] 29 true 0) := by rw [eG]; simp
  have nG : G.next = w.2.next + 1 := by rw [eG]; rfl
  rw [← eG]
  have lenA : ans.len = ys.length := by rw [RA.len, S.1]
  by_cases c : 0 < ys.length
  ·refine Gx.Wp.ifp (by rw [lenA]; simp; omega) (Gx.Wp.ifn (by rw [lenA]; omega) ?_)
   have em : Int.tmod (i : Int) (ans.len : Int) = ((i % ys.length : Nat) : Int) := by rw [lenA]; exact (Int.ofNat_tmod i ys.length).symm
   rw [em]
   have hlt : i % ys.length < ys.length := Nat.mod_lt _ c
   obtain ⟨x, hx⟩ := isome (l := xs) (i := i % ys.length) (by rw [S.1]; exact hlt)
   obtain ⟨y, hy'⟩ := isome (l := ys) (i := i % ys.length) hlt
   obtain ⟨s1, s2, s3⟩ := S.2 _ x y hx hy'
   have ep : pickY ys i = y := by unfold pickY; rw [hy']; rfl
   obtain ⟨p, p1, p2, _, _⟩ := (RA.keeps (kpw.trans kG)).ld encP_len (by decide) hx
   refine Gx.Wp.bnd p1 (Gx.Wp.bnd p2 (Gx.Wp.bnd rfl (Gx.Wp.bnd (sstL_at gG rfl rfl rfl (by decide)) ?_)))
   refine go _ x.2.2 (Chg.beh (T := (· = w.2.next)) kG (Chg.set (.inr rfl)) fun y hy q => by omega) ?_ (by show w.2.next < G.next; omega) ?_ (low _ x hx)
   ·rw [sset_get, ep, ← s1, ← s2]
   ·rw [ep]
    exact Row.chg (Row.keeps s3 (kpw.trans kG)) (Chg.set (S := (· = w.2.next)) (.inr rfl)) fun a ha q => by have := low _ x hx a ha; have := kpw.nx; omega
  ·refine Gx.Wp.ifn (by rw [lenA, show ys.length = 0 by omega]; decide) ?_
   have ep : pickY ys i = (0, nob, []) := by unfold pickY; rw [List.getElem?_eq_none (by omega)]; rfl
   refine go G ⟨none, 0, 0⟩ kG (by rw [ep]; exact gG) (by omega) (by rw [ep]; exact ⟨rfl, fun i x hx => by simp at hx⟩) (fun a ha => by cases ha)
end Gs
namespace Gs
open Go Gx
theorem port_ok {k n : Nat} {h : AHeap} {sl ans : Slc} {qs : List Rq} {xs : List Rp} {ys : List Ry} (R : RowW 4 encQ h sl qs) (RA : RowW 3 encP h ans xs) (S : Say h xs ys)
  (low : ∀ (i : Nat) (z : Rp), xs[i]? = some z → ∀ (a : Addr), z.2.2.a = some a → a.block < h.next) (hy : ∀ y ∈ ys, y.2.2.length ≤ 1048576) (hq : qs.length ≤ 1048576) (hk : 100000000 ≤ k) :
  Gx.Wp (law08_PortLists k (lev k (n + 3)) sl ans h) fun q => q.1 = true := by
 simp only [law08_PortLists]
 refine Gx.Wp.jn fun j5 h5 => ?_
 refine Gx.Wp.call (small_spec (lev k (n + 3)) R (by omega) (by omega)) fun r hr => ?_
 obtain ⟨e1, s1⟩ := hr
 rw [e1]
 cases hb : r.1 with
 | false =>
  refine Gx.Wp.ifp rfl ?_
  subst h5
  refine Gx.Wp.ifp rfl (Gx.Wp.call (works8_spec (n := n) (by omega)) fun w hw => Gx.Wp.of hw.1)
 | true =>
  have hq60 := s1 hb
  refine Gx.Wp.ifn (fun q => by cases q) (Gx.Wp.call (works8_spec (n := n) (by omega)) fun w hw => ?_)
  obtain ⟨w1, kw⟩ := hw
  rw [w1]
  subst h5
  refine Gx.Wp.ifn (fun q => by cases q) ?_
  obtain ⟨H7, e7⟩ : ∃ H7, H7 = w.2.new (.cells [] 32 true 0) := ⟨_, rfl⟩
  rw [← e7]
  have k7 : Keeps w.2 H7 := e7 ▸ Keeps.new w.2 _
  have n7 : H7.next = w.2.next + 1 := by rw [e7]; rfl
  have len := R.len
  refine Gx.Wp.bnd (RowW.rdS (R.keeps (kw.trans k7)) encQ_len (by decide)) ?_
  obtain ⟨own, h8, a8, A8, c8, d8⟩ := (empty0 (w := 4) (enc := encQ) (e := 32) (base := w.2.next) (h := H7) (b := w.2.next) (Nat.le_refl _) (by omega)).app encQ_len encQ_one qs (bytes := 48) (by decide) (by simp; omega) (by omega)
  rw [len]
  rw [List.nil_append] at A8
  refine Gx.Wp.bnd a8 ?_
  have k8 : Keeps w.2 h8 := Chg.beh k7 c8 fun y hy ⟨a, ha, q⟩ => by cases ha; simp only at q; omega
  refine Gx.Wp.call (List_spec (n := n) (A8.row encQ_len) (by omega) (by omega)) fun r10 q10 => ?_
  obtain ⟨jb, ej, k10, J10⟩ := q10
  have k10 : Keeps h8 r10.2 := k10
  have J10 : Job r10.2 h8.next r10.2.next h8.next jb qs [] := J10
  rw [ej]
  refine Gx.Wp.jn fun j17 h17 => Gx.Wp.ifn (fun q => by cases q) ?_
  subst h17
  refine Gx.Wp.ifn (fun q => by cases q) ?_
  obtain ⟨H18, e18⟩ : ∃ H18, H18 = r10.2.new (.cells [.slice sl.a sl.len sl.cap, .int .i64 0, .int .i64 0, .string (⟨#[]⟩ : ByteArray), .int .i64 0, .slice none 0 0, .slice none 0 0, .slice none 0 0, .slice none 0 0] 62 true 0) := ⟨_, rfl⟩
  rw [← e18]
  have k18 : Keeps r10.2 H18 := e18 ▸ Keeps.new r10.2 _
  have n18 : H18.next = r10.2.next + 1 := by rw [e18]; rfl
  have L18 : LR H18 r10.2.next sl 0 Rz.zero := ⟨⟨⟨none, 0, 0⟩, ⟨none, 0, 0⟩, by rw [e18, AHeap.get_new, if_pos rfl]; rfl, AccV.nil _ _ _ _ _, AccV.nil _ _ _ _ _⟩, by omega⟩
  have J18 := (J10.keeps k18).raise (cl' := r10.2.next + 1) (by omega)
  have kA := (kw.trans k8).trans (k10.trans k18)
  refine Gx.Wp.jn fun j24 h24 => ?_
  unfold law08_PortLists_l1
  obtain ⟨bot, eb⟩ := iterK_of (fun _ _ _ _ _ _ _ => none) (law08_PortLists_l1b k (lev k (n + 3)) j24) (show qs.length + 1 ≤ k by omega)
  rw [eb]
  have m8 := k8.nx
  have m10 := k10.nx
  have mw := kw.nx
  refine spoilQ_l1 (lev k (n + 3)) bot (A8.keeps (k10.trans k18)) len hq j24 (fun G cG => ?_)
  have lowO : ∀ y, ofS own y → w.2.next ≤ y ∧ y < h8.next := fun y ⟨a, ha, q⟩ => by have := A8.lt a ha; omega
  have JG := J18.below cG (fun y hy => (lowO y hy).2) (by omega)
  have LG := L18.below cG fun y hy => by have := (lowO y hy).2; omega
  have kG : Keeps h G := Chg.beh kA cG fun y hy q => by have := (lowO y q).1; omega
  subst h24
  refine Gx.Wp.jn fun j29 h29 => ?_
  unfold law08_PortLists_l0
  obtain ⟨bot2, eb2⟩ := iterK_of (fun _ _ _ _ _ _ => none) (law08_PortLists_l0b k (lev k (n + 3)) j29) (show qs.length + 1 ≤ k by omega)
  rw [eb2]
  refine port_l0 (n := n) bot2 R RA S low hy hq60 hk (by omega) m10 (Nat.le_refl _) j29 (fun H J L kp => ?_) qs.length 0 G (by omega) JG LG kG
  subst h29
  have dl := doneY_len ys qs.length
  have di := doneY_ids hy qs.length
  refine Gx.Wp.call (Next_spec _ J) fun z hz => ?_
  obtain ⟨k1, e1⟩ := hz
  rw [dl, decide_eq_false (by omega)] at e1
  rw [e1]
  refine Gx.Wp.bnd (sstL_at (c := [.int .i64 0, .int .i64 0, .string ⟨#[]⟩, .string ⟨#[]⟩]) (e := 32) (by simp) rfl rfl rfl (by decide)) (Gx.Wp.ifp rfl ?_)
  have kk : Keeps H ((z.2.new (.cells [.int .i64 0, .int .i64 0, .string ⟨#[]⟩, .string ⟨#[]⟩] 32 true 0)).set z.2.next (.cells [.int .i64 (qs[qs.length]?.getD q0).1, .int .i64 (qs[qs.length]?.getD q0).2.1, .string (qs[qs.length]?.getD q0).2.2.1, .string (qs[qs.length]?.getD q0).2.2.2] 32 true 0)) := Chg.beh (T := (· = z.2.next)) (k1.trans (Keeps.new _ _)) (Chg.set (.inr rfl)) fun y hy q => by have := k1.nx; omega
  have JK := J.keeps kk
  have LK := L.keeps kk
  refine Gx.Wp.bnd (Over_spec _ JK) ?_
  rw [dl, decide_eq_true rfl]
  refine Gx.Wp.ifp rfl (Gx.Wp.bnd (Steps_spec _ JK) ?_)
  rw [dl]
  refine Gx.Wp.ifp (by rw [len]; simp) ?_
  refine Gx.Wp.call (Result_spec _ JK (by omega) (by omega)) fun v hv => ?_
  obtain ⟨kv, Ov⟩ := hv
  refine Gx.Wp.call (LResult_spec _ (LK.keeps kv) len) fun u hu => ?_
  obtain ⟨ku, Ou⟩ := hu
  have et : Rz.told qs (doneY ys qs.length) = Rz.of (doneY ys qs.length) := if_pos dl
  rw [et] at Ov
  rw [if_pos (Nat.le_refl _)] at Ou
  have zi := zof_ids (doneY ys qs.length)
  have zt := congrArg List.length (zof_texts (doneY ys qs.length))
  rw [List.length_map, dl] at zt
  refine Gx.Wp.call (sameRes_spec _ (Ov.keeps ku) Ou (by omega) (by omega) (by omega) (by omega)) fun y hy2 => ?_
  obtain ⟨y1, ky⟩ := hy2
  rw [y1]
  have Jy := JK.keeps ((kv.trans ku).trans ky)
  refine Gx.Wp.ifp rfl (Gx.Wp.call (Give_over _ Jy dl _) fun g hg => ?_)
  obtain ⟨g1, kg⟩ := hg
  rw [g1]
  refine Gx.Wp.ifp rfl (Gx.Wp.bnd (Steps_spec _ (Jy.keeps kg)) (Gx.Wp.of ?_))
  rw [dl, len]; simp
def reqT : DT := .pair (.int .i64) (.pair (.int .i64) (.pair .str (.pair .str .unit)))
def respT : DT := .pair (.int .i64) (.pair .str (.pair (.list .str) .unit))
def reqV (x : reqT.V) : Rq := (x.1, x.2.1, x.2.2.1, x.2.2.2.1)
def respV (x : respT.V) : Ry := (x.1, x.2.1, x.2.2.1)
theorem req_enc {h : AHeap} {x : reqT.V} {cs : List Value} (r : Gx.Rep h reqT x cs) : cs = encQ (reqV x) ∧ (reqV x).2.2.1.size ≤ 9223372036854775807 := by
 obtain ⟨_, _, rfl, ⟨rfl, _⟩, _, _, rfl, ⟨rfl, _⟩, _, _, rfl, ⟨rfl, hn⟩, _, _, rfl, ⟨rfl, _⟩, rfl⟩ := r
 exact ⟨rfl, hn⟩
theorem resp_enc {h : AHeap} {x : respT.V} {cs : List Value} (r : Gx.Rep h respT x cs) : ∃ s : Slc, cs = encP (x.1, x.2.1, s) ∧ Row encS h s x.2.2.1 ∧ ∀ a, s.a = some a → a.block < h.next := by
 obtain ⟨_, _, rfl, ⟨rfl, _⟩, _, _, rfl, ⟨rfl, _⟩, c1, _, rfl, hl, rfl⟩ := r
 obtain ⟨s, rfl, _⟩ := id hl
 exact ⟨s, rfl, Gx.Rep.rowS hl, Gx.Rep.lt hl⟩
theorem resps {h : AHeap} {sl : Slc} {l : List respT.V} (R : Gx.Rep h (.list respT) l [.slice sl.a sl.len sl.cap]) : ∃ xs : List Rp, RowW 3 encP h sl xs ∧ Say h xs (l.map respV) ∧ ∀ (i : Nat) (z : Rp), xs[i]? = some z → ∀ (a : Addr), z.2.2.a = some a → a.block < h.next := by
 have lt := R.lt
 obtain ⟨s0, e, hl, hb, hx⟩ := R
 simp at e
 obtain ⟨ea, en, ec⟩ := e
 have each : ∀ i : Fin l.length, ∃ s : Slc, (∃ a c e r fz, sl.a = some a ∧ h.get a.block = some (.cells c e r fz) ∧ ∀ (j : Nat) (v : Value), (encP ((l[i]).1, (l[i]).2.1, s))[j]? = some v → c[a.off + i * 3 + j]? = some v) ∧ Row encS h s (l[i]).2.2.1 ∧ ∀ a, s.a = some a → a.block < h.next := by
  intro i
  obtain ⟨a, c, e, r, fz, cx, h1, h2, _, h4, h5⟩ := hx i l[i] (by simp)
  obtain ⟨s, e1, e2, e3⟩ := resp_enc h5
  exact ⟨s, ⟨a, c, e, r, fz, by rw [ea]; exact h1, h2, fun j v hv => h4 j v (by rw [e1]; exact hv)⟩, e2, e3⟩
 refine ⟨List.ofFn fun i : Fin l.length => ((l[i]).1, (l[i]).2.1, Classical.choose (each i)), ⟨by rw [en, hl]; simp, fun i x hi => ?_⟩, ⟨by simp, fun i x y hi hj => ?_⟩, fun i x hi => ?_⟩
 ·simp only [List.getElem?_ofFn] at hi
  split at hi
  ·rename_i hlt
   cases hi
   obtain ⟨⟨a, c, e, r, fz, h1, h2, h3⟩, _⟩ := Classical.choose_spec (each ⟨i, hlt⟩)
   exact ⟨a, c, e, r, fz, h1, lt a h1, h2, h3⟩
  ·cases hi
 ·simp only [List.getElem?_ofFn] at hi
  split at hi
  ·rename_i hlt
   cases hi
   simp [hlt] at hj
   subst hj
   exact ⟨rfl, rfl, (Classical.choose_spec (each ⟨i, hlt⟩)).2.1⟩
  ·cases hi
 ·simp only [List.getElem?_ofFn] at hi
  split at hi
  ·rename_i hlt
   cases hi
   exact (Classical.choose_spec (each ⟨i, hlt⟩)).2.2
  ·cases hi
end Gs
namespace Gs
open Go Gx
theorem sumL_mem : ∀ {ns : List Nat} {n : Nat}, n ∈ ns → n ≤ szV.sumL ns
 | m :: ns, n, h => by
  simp only [szV.sumL]
  rcases List.mem_cons.1 h with rfl | h
  ·omega
  ·have := sumL_mem h; omega
theorem sumL_len : ∀ {ns : List Nat}, (∀ n ∈ ns, 1 ≤ n) → ns.length ≤ szV.sumL ns
 | [], _ => Nat.le_refl _
 | m :: ns, h => by
  have h1 := h m (by simp)
  have h2 := sumL_len fun n hn => h n (List.mem_cons_of_mem _ hn)
  simp only [szV.sumL, List.length_cons]; omega
theorem port_rep {k : Nat} (hk : 100000000 ≤ k) {h : AHeap} {sl ans : Slc} {l : List reqT.V} {a : List respT.V} (R : Gx.Rep h (.list reqT) l [.slice sl.a sl.len sl.cap]) (RA : Gx.Rep h (.list respT) a [.slice ans.a ans.len ans.cap])
  (z1 : szV (.list reqT) l ≤ 1048576) (z2 : szV (.list respT) a ≤ 1048576) : ∃ h', law08_PortLists k (lev k 3) sl ans h = some (true, h') := by
 obtain ⟨xs, RX, S, low⟩ := resps RA
 have hq : (l.map reqV).length ≤ 1048576 := by
  simp only [szV] at z1
  have := sumL_len (ns := l.map (szV reqT)) fun n hn => by
   obtain ⟨x, _, rfl⟩ := List.mem_map.1 hn
   simp only [reqT, szV]; omega
  simp only [List.length_map] at this ⊢
  omega
 have hy : ∀ y ∈ a.map respV, y.2.2.length ≤ 1048576 := by
  intro y hy
  obtain ⟨x, hx, rfl⟩ := List.mem_map.1 hy
  simp only [szV] at z2
  have h1 := sumL_mem (ns := a.map (szV respT)) (List.mem_map.2 ⟨x, hx, rfl⟩)
  have h2 := sumL_len (ns := x.2.2.1.map (szV .str)) fun n hn => by
   obtain ⟨t, _, rfl⟩ := List.mem_map.1 hn
   simp only [szV]; omega
  have h3 : szV respT x = 1 + ((x.2.1.size + 1) + ((szV.sumL (x.2.2.1.map (szV .str)) + 1) + 0)) := rfl
  rw [h3] at h1
  simp only [List.length_map] at h2
  show x.2.2.1.length ≤ _
  omega
 obtain ⟨⟨r, h'⟩, e, q⟩ := port_ok (n := 0) (R.rowW fun x cs hr => (req_enc hr).1) RX S low hy hq hk
 obtain rfl : r = true := q
 exact ⟨h', e⟩
end Gs
