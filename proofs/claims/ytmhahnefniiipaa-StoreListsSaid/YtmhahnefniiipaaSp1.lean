import Derived.KernelRfl
import Derived.Sort.Walk0
import Derived.Test.YtmhahnefniiipaaFn1
namespace Gs
open Go Gx
abbrev En := ByteArray × ByteArray × Nat
def encE (e : En) : Value × Value × Nat := (.string e.1, .string e.2.1, e.2.2)
def fd (n : ByteArray) : List En → Nat → Option (Nat × ByteArray)
 | [], _ => none
 | e :: es, i => if e.1 = n then some (i, e.2.1) else fd n es (i + 1)
def lk (n : ByteArray) : List En → Option ByteArray
 | [] => none
 | e :: es => if e.1 = n then some e.2.1 else lk n es
def pt (n d : ByteArray) (cl : Nat) : List En → List En
 | [] => [(n, d, cl)]
 | e :: es => if e.1 = n then (n, d, e.2.2) :: es else e :: pt n d cl es
def rm (n : ByteArray) : List En → List En
 | [] => []
 | e :: es => if e.1 = n then es else e :: rm n es
def room (n : ByteArray) (es : List En) : Nat := match lk n es with | some d => n.size + d.size | none => 0
def tot : List En → Nat
 | [] => 0
 | e :: es => e.1.size + e.2.1.size + tot es
theorem findE_fd (n : ByteArray) : ∀ (es : List En) (i : Nat), findE (.string n) (es.map encE) i = some ((fd n es i).map fun p => (p.1, .string p.2))
 | [], _ => rfl
 | e :: es, i => by
  have ih := findE_fd n es (i + 1)
  simp only [List.map_cons, encE, findE, keyEq, fd]
  by_cases h : e.1 = n
  ·have hb : (n == n) = true := by rw [ba_beq]; simp
   rw [if_pos h, h, hb]; rfl
  ·have hb : (n == e.1) = false := by rw [ba_beq]; simpa using fun q => h q.symm
   rw [if_neg h, hb]
   simpa [encE] using ih
theorem fd_lk (n : ByteArray) : ∀ (es : List En) (i : Nat), (fd n es i).map (·.2) = lk n es
 | [], _ => rfl
 | e :: es, i => by
  simp only [fd, lk]
  by_cases h : e.1 = n
  ·rw [if_pos h, if_pos h]; rfl
  ·rw [if_neg h, if_neg h]; exact fd_lk n es (i + 1)
theorem fd_ge {n : ByteArray} : ∀ {es : List En} {i : Nat} {p}, fd n es i = some p → i ≤ p.1
 | [], _, _, h => by cases h
 | e :: es, i, p, h => by
  simp only [fd] at h
  split at h
  ·cases h; exact Nat.le_refl _
  ·have := fd_ge h; omega
theorem fd_mod {n d : ByteArray} {cl : Nat} : ∀ {es : List En} {i : Nat} {p}, fd n es i = some p → (es.map encE).modify (p.1 - i) (fun e => (.string n, .string d, e.2.2)) = (pt n d cl es).map encE
 | [], _, _, h => by cases h
 | e :: es, i, p, h => by
  simp only [fd] at h
  split at h
  ·rename_i q
   cases h
   simp only [Nat.sub_self, pt, if_pos q]; rfl
  ·rename_i q
   have h1 := fd_ge h
   have ih := fd_mod (d := d) (cl := cl) h
   simp only [pt, if_neg q, List.map_cons]
   rw [show p.1 - i = (p.1 - (i + 1)) + 1 by omega, List.modify_succ_cons, ih]
theorem fd_none {n d : ByteArray} {cl : Nat} : ∀ {es : List En} {i : Nat}, fd n es i = none → es.map encE ++ [(.string n, .string d, cl)] = (pt n d cl es).map encE
 | [], _, _ => rfl
 | e :: es, i, h => by
  simp only [fd] at h
  split at h
  ·cases h
  ·rename_i q
   simp only [pt, if_neg q, List.map_cons, List.cons_append]
   rw [fd_none h]
theorem fd_del {n : ByteArray} : ∀ {es : List En} {i : Nat} {p}, fd n es i = some p → (es.map encE).eraseIdx (p.1 - i) = (rm n es).map encE
 | [], _, _, h => by cases h
 | e :: es, i, p, h => by
  simp only [fd] at h
  split at h
  ·rename_i q
   cases h
   simp only [Nat.sub_self, rm, if_pos q]; rfl
  ·rename_i q
   have h1 := fd_ge h
   have ih := fd_del h
   simp only [rm, if_neg q, List.map_cons]
   rw [show p.1 - i = (p.1 - (i + 1)) + 1 by omega, List.eraseIdx_cons_succ, ih]
theorem rm_none {n : ByteArray} : ∀ {es : List En}, lk n es = none → rm n es = es
 | [], _ => rfl
 | e :: es, h => by
  simp only [lk] at h
  split at h
  ·cases h
  ·rename_i q; simp only [rm, if_neg q]; rw [rm_none h]
theorem fd_some {n : ByteArray} {es : List En} {i : Nat} {d : ByteArray} (h : lk n es = some d) : ∃ j, fd n es i = some (j, d) := by
 have := fd_lk n es i
 rw [h] at this
 cases hf : fd n es i with
 | none => rw [hf] at this; cases this
 | some p => rw [hf] at this; simp at this; exact ⟨p.1, by rw [← this]⟩
theorem fd_no {n : ByteArray} {es : List En} {i : Nat} (h : lk n es = none) : fd n es i = none := by
 have := fd_lk n es i
 rw [h] at this
 cases hf : fd n es i with
 | none => rfl
 | some p => rw [hf] at this; cases this
theorem tot_pt {n d : ByteArray} {cl : Nat} : ∀ es, tot (pt n d cl es) + room n es = tot es + (n.size + d.size)
 | [] => by simp [pt, tot, room, lk]
 | e :: es => by
  have ih := tot_pt (n := n) (d := d) (cl := cl) es
  by_cases h : e.1 = n
  ·simp only [pt, if_pos h, tot, room, lk]; rw [← h]; omega
  ·have hr : room n (e :: es) = room n es := by simp only [room, lk, if_neg h]
   simp only [pt, if_neg h, tot, hr]; omega
theorem tot_rm {n : ByteArray} : ∀ es, tot (rm n es) + room n es = tot es
 | [] => rfl
 | e :: es => by
  have ih := tot_rm (n := n) es
  by_cases h : e.1 = n
  ·simp only [rm, if_pos h, tot, room, lk]; rw [← h]; omega
  ·have hr : room n (e :: es) = room n es := by simp only [room, lk, if_neg h]
   simp only [rm, if_neg h, tot, hr]; omega
theorem room_le {n : ByteArray} (es : List En) : room n es ≤ tot es := by have := tot_rm (n := n) es; omega
structure PS where
 quota : Nat
 fails : Nat
 calls : Nat
 down : Bool
 es : List En
 cl : Nat
structure Good (es : List En) (cl : Nat) : Prop where
 keys : (es.map (·.1)).Nodup
 births : (es.map (·.2.2)).Nodup
 old : ∀ e ∈ es, e.2.2 < cl
 small : ∀ e ∈ es, e.1.size ≤ 96 ∧ e.2.1.size ≤ 131072
theorem tot_le {es : List En} {cl : Nat} (g : Good es cl) : tot es ≤ es.length * 131168 := by
 have : ∀ es : List En, (∀ e ∈ es, e.1.size ≤ 96 ∧ e.2.1.size ≤ 131072) → tot es ≤ es.length * 131168 := by
  intro es
  induction es with
  | nil => intro _; exact Nat.le_refl _
  | cons e es ih =>
   intro h
   have h1 := h e (by simp)
   have h2 := ih fun x hx => h x (by simp [hx])
   simp only [tot, List.length_cons]; omega
 exact this es g.small
theorem mem_pt {n d : ByteArray} {cl : Nat} : ∀ {es : List En} {x : En}, x ∈ pt n d cl es → x ∈ es ∨ (x.1 = n ∧ x.2.1 = d ∧ (x.2.2 = cl ∨ ∃ y ∈ es, x.2.2 = y.2.2))
 | [], x, h => by simp [pt] at h; subst h; exact .inr ⟨rfl, rfl, .inl rfl⟩
 | e :: es, x, h => by
  simp only [pt] at h
  split at h
  ·rcases List.mem_cons.1 h with rfl | h
   ·exact .inr ⟨rfl, rfl, .inr ⟨e, by simp, rfl⟩⟩
   ·exact .inl (by simp [h])
  ·rcases List.mem_cons.1 h with rfl | h
   ·exact .inl (by simp)
   ·rcases mem_pt h with h | ⟨h1, h2, h3⟩
    ·exact .inl (by simp [h])
    ·exact .inr ⟨h1, h2, h3.imp id fun ⟨y, hy, e⟩ => ⟨y, by simp [hy], e⟩⟩
theorem keys_pt {n d : ByteArray} {cl : Nat} : ∀ {es : List En}, (pt n d cl es).map (·.1) = if (lk n es).isSome then es.map (·.1) else es.map (·.1) ++ [n]
 | [] => rfl
 | e :: es => by
  have ih := keys_pt (n := n) (d := d) (cl := cl) (es := es)
  by_cases h : e.1 = n
  ·simp [pt, lk, h]
  ·simp only [pt, lk, if_neg h, List.map_cons, ih]
   split <;> rfl
theorem births_pt {n d : ByteArray} {cl : Nat} : ∀ {es : List En}, (pt n d cl es).map (·.2.2) = if (lk n es).isSome then es.map (·.2.2) else es.map (·.2.2) ++ [cl]
 | [] => rfl
 | e :: es => by
  have ih := births_pt (n := n) (d := d) (cl := cl) (es := es)
  by_cases h : e.1 = n
  ·simp [pt, lk, h]
  ·simp only [pt, lk, if_neg h, List.map_cons, ih]
   split <;> rfl
theorem lk_mem {n : ByteArray} : ∀ {es : List En}, (lk n es).isSome = true ↔ n ∈ es.map (·.1)
 | [] => by simp [lk]
 | e :: es => by
  simp only [lk, List.map_cons, List.mem_cons]
  by_cases h : e.1 = n
  ·simp [h]
  ·rw [if_neg h, lk_mem]; exact ⟨.inr, fun q => q.resolve_left fun e' => h e'.symm⟩
theorem rm_sub (n : ByteArray) : ∀ es : List En, (rm n es).Sublist es
 | [] => .slnil
 | e :: es => by
  simp only [rm]
  split
  ·exact List.sublist_cons_self _ _
  ·exact (rm_sub n es).cons_cons _
def clk (n : ByteArray) (es : List En) (cl : Nat) : Nat := if (lk n es).isSome then cl else cl + 1
theorem Good.pt {es : List En} {cl : Nat} (g : Good es cl) {n d : ByteArray} (hn : n.size ≤ 96) (hd : d.size ≤ 131072) : Good (pt n d cl es) (clk n es cl) where
 keys := by
  rw [keys_pt]
  split
  ·exact g.keys
  ·rename_i h
   rw [lk_mem] at h
   exact List.nodup_append.2 ⟨g.keys, by simp, fun a ha b hb => by simp at hb; subst hb; exact fun e => h (e ▸ ha)⟩
 births := by
  rw [births_pt]
  split
  ·exact g.births
  ·refine List.nodup_append.2 ⟨g.births, by simp, fun a ha b hb => ?_⟩
   simp at hb; subst hb
   obtain ⟨e, he, rfl⟩ := List.mem_map.1 ha
   have := g.old e he; omega
 old := by
  intro e he
  unfold clk
  rcases mem_pt he with h | ⟨h1, h2, h3⟩
  ·have := g.old e h; split <;> omega
  ·rcases h3 with h3 | ⟨y, hy, h3⟩
   ·split
    ·rename_i q
     have : e.2.2 ∈ (Gs.pt n d cl es).map (·.2.2) := List.mem_map.2 ⟨e, he, rfl⟩
     rw [births_pt, if_pos q] at this
     obtain ⟨y, hy, e1⟩ := List.mem_map.1 this
     have := g.old y hy; omega
    ·omega
   ·have := g.old y hy; split <;> omega
 small := by
  intro e he
  rcases mem_pt he with h | ⟨h1, h2, _⟩
  ·exact g.small e h
  ·rw [h1, h2]; exact ⟨hn, hd⟩
theorem Good.rm {es : List En} {cl : Nat} (g : Good es cl) (n : ByteArray) : Good (rm n es) cl :=
 ⟨g.keys.sublist ((rm_sub n es).map _), g.births.sublist ((rm_sub n es).map _), fun e he => g.old e ((rm_sub n es).subset he), fun e he => g.small e ((rm_sub n es).subset he)⟩
theorem len_pt {n d : ByteArray} {cl : Nat} : ∀ es : List En, (pt n d cl es).length ≤ es.length + 1
 | [] => Nat.le_refl _
 | e :: es => by
  have := len_pt (n := n) (d := d) (cl := cl) es
  simp only [pt]; split <;> simp <;> omega
structure SR (h : AHeap) (sb rb : Nat) (p : PS) : Prop where
 blk : ∃ e, h.get sb = some (.cells [.int .i64 p.quota, .int .i64 (tot p.es), .int .i64 p.fails, .bool p.down, .map (some rb), .int .i64 p.calls] e true 0)
 mp : h.get rb = some (.map (p.es.map encE) p.cl)
 lt : sb < h.next ∧ rb < h.next
def SB (sb rb : Nat) (y : Nat) : Prop := y = sb ∨ y = rb
theorem SR.ne {h : AHeap} {sb rb : Nat} {p : PS} (s : SR h sb rb p) : sb ≠ rb := by
 rintro rfl
 obtain ⟨e, hb⟩ := s.blk
 rw [s.mp] at hb; cases hb
theorem SR.keeps {h h' : AHeap} {sb rb : Nat} {p : PS} (s : SR h sb rb p) (k : Keeps h h') : SR h' sb rb p := by
 obtain ⟨e, hb⟩ := s.blk
 exact ⟨⟨e, (k.oth _ s.lt.1 fun f => f).trans hb⟩, (k.oth _ s.lt.2 fun f => f).trans s.mp, Nat.lt_of_lt_of_le s.lt.1 k.nx, Nat.lt_of_lt_of_le s.lt.2 k.nx⟩
theorem SR.chg {S : Nat → Prop} {h h' : AHeap} {sb rb : Nat} {p : PS} (s : SR h sb rb p) (k : Chg S h h') (h1 : ¬ S sb) (h2 : ¬ S rb) : SR h' sb rb p := by
 obtain ⟨e, hb⟩ := s.blk
 exact ⟨⟨e, (k.oth _ s.lt.1 h1).trans hb⟩, (k.oth _ s.lt.2 h2).trans s.mp, Nat.lt_of_lt_of_le s.lt.1 k.nx, Nat.lt_of_lt_of_le s.lt.2 k.nx⟩
theorem st1_sb {h : AHeap} {b o : Nat} {c : List Value} {e : TypeId} {v : Value} (hb : h.get b = some (.cells c e true 0)) (ho : o < c.length) (hv : one v = true) : Gx.st1 ⟨b, o, none⟩ v h = some (h.set b (.cells (c.set o v) e true 0)) := by
 simp only [Gx.st1, AHeap.wr1, hb]
 rw [if_pos ⟨ho, Nat.zero_le _, hv⟩]
theorem ldM_at {h : AHeap} {b o : Nat} {sp : Option Nat} {c : List Value} {e : TypeId} {r : Bool} {fz : Nat} {m : Option Nat} (hb : h.get b = some (.cells c e r fz)) (hc : c[o]? = some (.map m)) : ldM ⟨b, o, sp⟩ h = some m := by
 simp only [ldM, AHeap.rd1, hb, hc]; rfl
theorem ldB_at {h : AHeap} {b o : Nat} {sp : Option Nat} {c : List Value} {e : TypeId} {r : Bool} {fz : Nat} {m : Bool} (hb : h.get b = some (.cells c e r fz)) (hc : c[o]? = some (.bool m)) : ldB ⟨b, o, sp⟩ h = some m := by
 simp only [ldB, AHeap.rd1, hb, hc]; rfl
theorem look_some {h : AHeap} {rb cl : Nat} {es : List En} (hm : h.get rb = some (.map (es.map encE) cl)) {n d : ByteArray} (hl : lk n es = some d) : lookE decS (.string ⟨#[]⟩) h (some rb) (.string n) = some (d, true) := by
 obtain ⟨j, hj⟩ := fd_some (i := 0) hl
 simp only [lookE, hm, findE_fd, hj]; rfl
theorem look_none {h : AHeap} {rb cl : Nat} {es : List En} (hm : h.get rb = some (.map (es.map encE) cl)) {n : ByteArray} (hl : lk n es = none) : lookE decS (.string ⟨#[]⟩) h (some rb) (.string n) = some (⟨#[]⟩, false) := by
 simp only [lookE, hm, findE_fd, fd_no hl]; rfl
theorem upd_at {h : AHeap} {rb cl : Nat} {es : List En} (hm : h.get rb = some (.map (es.map encE) cl)) (n d : ByteArray) : updE h rb (.string n) (.string d) = some (h.set rb (.map ((pt n d cl es).map encE) (clk n es cl))) := by
 unfold clk
 cases hl : lk n es with
 | none =>
  simp only [updE, hm, findE_fd, fd_no hl, Option.map_none, Option.isSome_none]
  rw [fd_none (i := 0) (fd_no hl)]; rfl
 | some d' =>
  obtain ⟨j, hj⟩ := fd_some (i := 0) hl
  have := fd_mod (d := d) (cl := cl) hj
  simp only [Nat.sub_zero] at this
  simp only [updE, hm, findE_fd, hj, Option.map_some, Option.isSome_some]
  rw [this]; rfl
theorem del_at {h : AHeap} {rb cl : Nat} {es : List En} (hm : h.get rb = some (.map (es.map encE) cl)) (n : ByteArray) : delM h (some rb) (.string n) = some (h.set rb (.map ((rm n es).map encE) cl)) := by
 cases hl : lk n es with
 | none =>
  simp only [delM, delE, hm, findE_fd, fd_no hl, Option.map_none]
  rw [rm_none hl]
 | some d' =>
  obtain ⟨j, hj⟩ := fd_some (i := 0) hl
  have := fd_del hj
  simp only [Nat.sub_zero] at this
  simp only [delM, delE, hm, findE_fd, hj, Option.map_some]
  rw [this]
def okB (c : UInt8) : Bool := decide (32 < c.toNat) && decide (c.toNat < 127)
def mayB (n : ByteArray) : Bool := (bl n).all okB && decide (n ≠ ⟨#[]⟩) && decide (n.size ≤ 96)
def fitsC (n d : ByteArray) : Nat := if mayB n = false then 3 else if 131072 < d.size then 2 else 0
end Gs
namespace Gs
open Go Gx
theorem okB_bad {c : UInt8} (h : ((c.toNat : Int) ≤ 32)) : okB c = false := by
 unfold okB; rw [decide_eq_false (show ¬ 32 < c.toNat by omega)]; rfl
theorem okB_eq {c : UInt8} (h : ¬ ((c.toNat : Int) ≤ 32)) : decide ((c.toNat : Int) ≥ 127) = !okB c := by
 unfold okB
 rw [decide_eq_true (show 32 < c.toNat by omega), Bool.true_and]
 by_cases q : c.toNat < 127
 ·rw [decide_eq_true q, decide_eq_false (by omega)]; rfl
 ·rw [decide_eq_false q, decide_eq_true (by omega)]; rfl
theorem may_l0 (K : Nat) (D : CallF) (j3) (bot) {n : ByteArray} {b : Nat} {h0 : AHeap} (hb : h0.get b = some (.cells (bytesL n) 5 true 0)) (hs : n.size ≤ 9223372036854775807) {Q : Bool × AHeap → Prop}
  (hj : (bl n).all okB = true → Gx.Wp (j3 n h0) Q) (hf : (bl n).all okB = false → Q (false, h0)) :
  ∀ (d i : Nat), i + d = n.size → ((bl n).take i).all okB = true → Gx.Wp (iterK bot (d + 1) (store_may_l0b K D j3) n (⟨(some ⟨b, 0, some 2⟩), n.size, n.size⟩ : Slc) (n.size : Int) (i : Int) h0) Q := fun d => by
 have hl : (bl n).length = n.size := rfl
 induction d with
 | zero =>
  intro i hi ha
  rw [iterK_s]; simp only [store_may_l0b]
  obtain rfl : i = n.size := by omega
  refine Gx.Wp.ifn (by simp) (hj ?_)
  rw [← hl, List.take_length] at ha; exact ha
 | succ d ih =>
  intro i hi ha
  rw [iterK_s]; simp only [store_may_l0b]
  obtain ⟨c, hc⟩ := isome (l := bl n) (i := i) (by omega)
  refine Gx.Wp.ifp (by simp; omega) ?_
  refine Gx.Wp.bnd (idxL_out (by omega)) (Gx.Wp.bnd (sldI_at hb (x := (c.toNat : Int)) ?_) ?_)
  ·show (List.map _ n.data.toList)[i]? = _
   rw [List.getElem?_map]
   have : n.data.toList[i]? = some c := hc
   rw [this]; rfl
  have hall : ((bl n).take (i + 1)).all okB = okB c := by
   rw [List.take_add_one, hc, List.all_append, ha]; simp
  have fin : okB c = false → (bl n).all okB = false := by
   intro q
   rw [← Bool.not_eq_true]
   intro q2
   rw [List.all_eq_true] at q2
   rw [q2 c (mem_of hc)] at q; cases q
  refine Gx.Wp.jn fun j hj' => ?_
  by_cases h1 : (c.toNat : Int) ≤ 32
  ·refine Gx.Wp.ifp (by simpa using h1) ?_
   subst hj'
   exact Gx.Wp.ifp rfl (Gx.Wp.of (hf (fin (okB_bad h1))))
  ·refine Gx.Wp.ifn (by simpa using h1) ?_
   subst hj'
   rw [okB_eq h1]
   cases hk : okB c with
   | false => exact Gx.Wp.ifp rfl (Gx.Wp.of (hf (fin hk)))
   | true =>
    refine Gx.Wp.ifn (by decide) ?_
    rw [Gx.w1 (by omega)]
    exact ih (i + 1) (by omega) (by rw [hall]; exact hk)
theorem may_spec {k : Nat} (D : CallF) {h : AHeap} (n : ByteArray) (hk : n.size < k) (hs : n.size ≤ 9223372036854775807) :
  Gx.Wp (store_may k D n h) fun q => q.1 = mayB n ∧ Keeps h q.2 := by
 simp only [store_may]
 refine Gx.Wp.jn fun j hj => ?_
 have k1 : Keeps h (h.new (.cells (bytesL n) 5 true 0)) := Keeps.new h _
 unfold store_may_l0
 obtain ⟨bot, eb⟩ := iterK_of (fun _ _ _ _ _ => none) (store_may_l0b k D j) (show n.size + 1 ≤ k by omega)
 rw [eb]
 refine may_l0 k D j bot (h0 := h.new (.cells (bytesL n) 5 true 0)) (b := h.next) (by simp) hs (fun ha => ?_) (fun ha => ⟨by simp only [mayB, ha]; rfl, k1⟩) n.size 0 (by omega) rfl
 subst hj
 by_cases he : n = ⟨#[]⟩
 ·have : (!(n == (⟨#[]⟩ : ByteArray))) = false := by rw [ba_beq, decide_eq_true he]; rfl
  exact Gx.Wp.ifn (by rw [this]; decide) (Gx.Wp.of ⟨by simp [mayB, he], k1⟩)
 ·have : (!(n == (⟨#[]⟩ : ByteArray))) = true := by rw [ba_beq, decide_eq_false he]; rfl
  refine Gx.Wp.ifp this (Gx.Wp.of ⟨?_, k1⟩)
  simp only [mayB, ha, Bool.true_and, decide_eq_true (show n ≠ ⟨#[]⟩ from he)]
  by_cases q : n.size ≤ 96
  ·rw [decide_eq_true q, decide_eq_true (by omega)]
  ·rw [decide_eq_false q, decide_eq_false (by omega)]
theorem fits_spec {k : Nat} (D : CallF) {h : AHeap} (n d : ByteArray) (hk : n.size < k) (hs : n.size ≤ 9223372036854775807) :
  Gx.Wp (store_fits k D n d h) fun q => q.1 = (fitsC n d : Int) ∧ Keeps h q.2 := by
 simp only [store_fits]
 refine Gx.Wp.call (may_spec D n hk hs) fun r hr => ?_
 rw [hr.1]
 unfold fitsC
 cases hm : mayB n with
 | false => exact Gx.Wp.ifp rfl (Gx.Wp.of ⟨rfl, hr.2⟩)
 | true =>
  refine Gx.Wp.ifn (by decide) ?_
  by_cases q : 131072 < d.size
  ·exact Gx.Wp.ifp (by simp; omega) (Gx.Wp.of ⟨by simp [q], hr.2⟩)
  ·exact Gx.Wp.ifn (by simp; omega) (Gx.Wp.of ⟨by simp [q], hr.2⟩)
theorem fits0 {n d : ByteArray} (h : fitsC n d = 0) : n.size ≤ 96 ∧ d.size ≤ 131072 ∧ mayB n = true := by
 unfold fitsC at h
 split at h
 ·cases h
 ·rename_i hm
  split at h
  ·cases h
  ·rename_i hd
   have : mayB n = true := by simpa using hm
   simp only [mayB, Bool.and_eq_true, decide_eq_true_eq] at this
   exact ⟨this.2, by omega, by simpa using hm⟩
theorem room_spec {k : Nat} (D : CallF) {h : AHeap} {sb rb : Nat} {p : PS} (s : SR h sb rb p) (g : Good p.es p.cl) (n : ByteArray) :
  store_Store_room k D (some ⟨sb, 0, none⟩) n h = some ((room n p.es : Int), h) := by
 obtain ⟨e, hb⟩ := s.blk
 simp only [store_Store_room]
 refine bnd rfl (bnd (ldM_at (m := some rb) hb rfl) ?_)
 unfold room
 cases hl : lk n p.es with
 | none => rw [look_none s.mp hl]; rfl
 | some d =>
  rw [look_some s.mp hl]
  obtain ⟨q, hq, he, hd⟩ : ∃ q ∈ p.es, q.1 = n ∧ q.2.1 = d := by
   have : ∀ es : List En, lk n es = some d → ∃ q ∈ es, q.1 = n ∧ q.2.1 = d := by
    intro es
    induction es with
    | nil => intro h; cases h
    | cons x es ih =>
     intro h
     simp only [lk] at h
     split at h
     ·rename_i q; cases h; exact ⟨x, by simp, q, rfl⟩
     ·obtain ⟨y, hy, e⟩ := ih h; exact ⟨y, by simp [hy], e⟩
   exact this _ hl
  have sm := g.small q hq
  rw [he, hd] at sm
  simp only [Option.bind_some, if_true]
  rw [w64 _ (by omega)]; simp
def PS.lay (p : PS) (n d : ByteArray) : PS := { p with es := pt n d p.cl p.es, cl := clk n p.es p.cl }
theorem lay_spec {k : Nat} (D : CallF) {h : AHeap} {sb rb : Nat} {p : PS} (s : SR h sb rb p) (g : Good p.es p.cl) {n d : ByteArray} (hn : n.size ≤ 96) (hd : d.size ≤ 131072) (hl : p.es.length ≤ 1048576) :
  Gx.Wp (store_Store_lay k D (some ⟨sb, 0, none⟩) n d h) fun q => Chg (SB sb rb) h q.2 ∧ SR q.2 sb rb (p.lay n d) ∧ Good (p.lay n d).es (p.lay n d).cl := by
 simp only [store_Store_lay]
 refine Gx.Wp.bnd (room_spec D s g n) ?_
 obtain ⟨e, hb⟩ := s.blk
 have t1 := tot_le g
 have t2 := room_le (n := n) p.es
 have t3 := tot_pt (n := n) (d := d) (cl := p.cl) p.es
 refine Gx.Wp.bnd rfl (Gx.Wp.bnd (sldI_at hb rfl) (Gx.Wp.gp (ssw1 ?_) ?_))
 ·exact bnd (sldI_at hb rfl) rfl
 refine Gx.Wp.bnd rfl ?_
 dsimp only
 rw [w64 ((n.size : Int) + d.size) (by omega), w64 ((n.size : Int) + d.size - _) (by omega), w64 _ (by omega)]
 refine Gx.Wp.bnd (st1_sb hb (by show 0 + 1 < 6; omega) rfl) ?_
 have hne := s.ne
 have hm1 : (h.set sb (.cells ([Value.int .i64 p.quota, .int .i64 (tot p.es), .int .i64 p.fails, .bool p.down, .map (some rb), .int .i64 p.calls].set 1 (.int .i64 ((tot p.es : Int) + ((n.size : Int) + (d.size : Int) - (room n p.es : Int))))) e true 0)).get rb = some (.map (p.es.map encE) p.cl) := by
  simp only [AHeap.get_set]; rw [if_neg (fun q => hne q.symm)]; exact s.mp
 refine Gx.Wp.bnd rfl (Gx.Wp.bnd (ldM_at (m := some rb) (sset_get h sb _) rfl) (Gx.Wp.bnd rfl (Gx.Wp.bnd (upd_at hm1 n d) (Gx.Wp.of ⟨?_, ?_, g.pt hn hd⟩))))
 ·exact (Chg.set (.inr (.inl rfl))).trans (Chg.set (.inr (.inr rfl)))
 ·refine ⟨⟨e, ?_⟩, by simp only [AHeap.get_set, if_true]; rfl, by simpa using s.lt⟩
  simp only [AHeap.get_set]
  rw [if_neg hne, if_true]
  have : (tot p.es : Int) + ((n.size : Int) + (d.size : Int) - (room n p.es : Int)) = (tot (pt n d p.cl p.es) : Int) := by omega
  rw [this]; rfl
end Gs
namespace Gs
open Go Gx
def ba (l : List UInt8) : ByteArray := ⟨⟨l⟩⟩
def nm (es : List En) : List ByteArray := (((es.map (·.1)).map bl).mergeSort leB).map ba
theorem srt_nm (es : List En) : srt (es.map (·.1)) = (nm es).map encS := by
 simp only [srt, nm, List.map_map]; rfl
theorem nm_len (es : List En) : (nm es).length = es.length := by simp [nm]
theorem nm_mem {es : List En} {n : ByteArray} : n ∈ nm es ↔ n ∈ es.map (·.1) := by
 simp only [nm, List.mem_map, List.mem_mergeSort]
 constructor
 ·rintro ⟨l, ⟨m, hm, rfl⟩, rfl⟩; exact hm
 ·intro h; exact ⟨bl n, ⟨n, h, rfl⟩, rfl⟩
theorem unstrs_enc (es : List En) : keysL (es.map encE) = some (es.map (·.1)) := by
 have : (es.map encE).map (·.1) = (es.map (·.1)).map Value.string := by simp [encE]
 simp only [keysL, this, unstrs_map]
theorem sizes_of : ∀ {l : List ByteArray}, (∀ s ∈ l, s.size ≤ 9223372036854775807) → sizesOk l = true
 | [], _ => rfl
 | s :: l, h => by
  have h2 : sizesOk l = true := sizes_of fun x hx => h x (List.mem_cons_of_mem _ hx)
  simp only [sizesOk, decide_eq_true (h s (by simp)), h2]; rfl
theorem mapGood_of {es : List En} {cl : Nat} (g : Good es cl) (hl : es.length ≤ 8796093022208) : mapGood (es.map encE) cl (es.map (·.1)) = true := by
 have e1 : (es.map encE).map (·.2.2) = es.map (·.2.2) := by simp [encE]
 simp only [mapGood, e1, Bool.and_eq_true, decide_eq_true_eq, List.all_eq_true]
 refine ⟨⟨⟨⟨sizes_of fun s hs => ?_, g.keys⟩, g.births⟩, fun x hx => ?_⟩, by simp; omega⟩
 ·obtain ⟨e, he, rfl⟩ := List.mem_map.1 hs
  have := (g.small e he).1; omega
 ·obtain ⟨e, he, rfl⟩ := List.mem_map.1 hx
  exact g.old e he
theorem sorted_at {h : AHeap} {bx rb cl : Nat} {es : List En} {t : TypeId} (hb : h.get bx = some (.cells [.map (some rb)] t true 0)) (hm : h.get rb = some (.map (es.map encE) cl)) (g : Good es cl) (hl : es.length ≤ 8796093022208) :
  ∃ s h', sortedA 105 9 [.func (.func 105) ⟨[]⟩ ⟨[.pointer (some ⟨bx, 0, none⟩)]⟩] h = some (s, h') ∧ Keeps h h' ∧ Acc encS 9 h.next h' s (nm es) := by
 have hbm : boxMap h bx = some (some rb) := by simp only [boxMap, hb]
 cases es with
 | nil =>
  have hn0 : nm [] = [] := List.eq_nil_of_length_eq_zero (nm_len [])
  refine ⟨⟨none, 0, 0⟩, h, ?_, Chg.refl _ _, by rw [hn0]; exact Acc.nil _ _ _ _⟩
  have hg := mapGood_of g hl
  simp only [sortedA, hbm, hm, unstrs_enc, hg]; rfl
 | cons e es =>
  have hg := mapGood_of g hl
  have hne : nm (e :: es) ≠ [] := fun q => by have := nm_len (e :: es); rw [q] at this; simp at this
  refine ⟨⟨some ⟨h.next, 0, some 2⟩, (nm (e :: es)).length, (nm (e :: es)).length⟩, h.new (outB encS 9 (nm (e :: es))), ?_, Keeps.new h _, ⟨.inr ⟨h.next, Grown.of hne⟩, fun a ha => by cases ha; simp⟩⟩
  have hs := srt_nm (e :: es)
  simp only [sortedA, hbm, hm, unstrs_enc, hg]
  simp only [List.map_cons] at hs ⊢
  simp only [cond_true, decide_true, Bool.and_self, hs, nm_len, List.length_cons, List.length_map, outB]
theorem Names_spec {k : Nat} (D : CallF) {h : AHeap} {sb rb : Nat} {p : PS} (s : SR h sb rb p) (g : Good p.es p.cl) (hl : p.es.length ≤ 8796093022208) :
  Gx.Wp (store_Store_Names k D (some ⟨sb, 0, none⟩) h) fun q => Keeps h q.2 ∧ Acc encS 9 h.next q.2 q.1 (nm p.es) := by
 obtain ⟨e, hb⟩ := s.blk
 simp only [store_Store_Names, maps_Keys_map_string_string_string_string]
 have k1 : Keeps h (h.new (.cells [.map (some rb)] 99 true 0)) := Keeps.new h _
 obtain ⟨sl, h', e1, k2, A⟩ := sorted_at (bx := h.next) (t := 99) (h := h.new (.cells [.map (some rb)] 99 true 0)) (by simp) (s.keeps k1).mp g hl
 refine Gx.Wp.bnd rfl (Gx.Wp.bnd (ldM_at (m := some rb) hb rfl) (Gx.Wp.bnd rfl (Gx.Wp.bnd e1 (Gx.Wp.of ⟨k1.trans k2, A.st, fun a ha => ⟨(A.lt a ha).1, ?_⟩⟩))))
 have := (A.lt a ha).2
 simp at this; omega
def starts (b n : ByteArray) : Bool := decide ((bl n).take b.size = bl b)
theorem starts_short {b n : ByteArray} (h : n.size < b.size) : starts b n = false := by
 apply decide_eq_false
 intro q
 have := congrArg List.length q
 have h1 : (bl n).length = n.size := rfl
 have h2 : (bl b).length = b.size := rfl
 simp at this; omega
theorem starts_sub {b n : ByteArray} (h : b.size ≤ n.size) : ∃ s, Gx.subS n none (some (b.size : Int)) = some s ∧ (s == b) = starts b n := by
 refine ⟨_, subS_of (i := 0) (j := b.size) rfl rfl (Nat.zero_le _) h, ?_⟩
 rw [ba_beq]
 unfold starts
 have : ((⟨⟨((bl n).take b.size).drop 0⟩⟩ : ByteArray) = b) ↔ (bl n).take b.size = bl b := by
  rw [List.drop_zero]
  exact ⟨fun q => congrArg bl q, fun q => by rw [q]; rfl⟩
 by_cases q : (bl n).take b.size = bl b
 ·rw [decide_eq_true q, decide_eq_true (this.2 q)]
 ·rw [decide_eq_false q, decide_eq_false fun e => q (this.1 e)]
theorem hasPrefix_spec {k : Nat} (D : CallF) (n b : ByteArray) (h : AHeap) : strings_HasPrefix k D n b h = some (starts b n, h) := by
 simp only [strings_HasPrefix, internal_stringslite_HasPrefix]
 by_cases q : b.size ≤ n.size
 ·obtain ⟨s, e1, e2⟩ := starts_sub q
  rw [if_pos (by simp; omega), e1]
  simp [e2]
 ·rw [if_neg (by simp; omega), starts_short (by omega)]; rfl
theorem encS_one (x : ByteArray) : one (encS x) = true := rfl
theorem list_l0 (K : Nat) (D : CallF) (bot) {b : ByteArray} {h0 h1 : AHeap} (_k0 : Keeps h0 h1) {sl : Slc} {ns : List ByteArray} (A0 : Acc encS 9 h0.next h1 sl ns) (hn : ns.length ≤ 1048576) :
  ∀ (d i : Nat) (o : Slc) (out : List ByteArray) (h : AHeap), i + d = ns.length → out.length ≤ i → Keeps h1 h → Acc encS 9 h1.next h o out →
   Gx.Wp (iterK bot (d + 1) (store_Store_list_l0b K D fun (out1 : Slc) (h2 : AHeap) => some (out1, h2)) b o sl (sl.len : Int) (i : Int) h) fun q => Keeps h1 q.2 ∧ Acc encS 9 h1.next q.2 q.1 (out ++ (ns.drop i).filter (starts b)) := fun d => by
 have len : sl.len = ns.length := A0.row.1
 induction d with
 | zero =>
  intro i o out h hi ho kp A
  rw [iterK_s]; simp only [store_Store_list_l0b]
  obtain rfl : i = ns.length := by omega
  refine Gx.Wp.ifn (by rw [len]; simp) (Gx.Wp.of ⟨kp, ?_⟩)
  simpa using A
 | succ d ih =>
  intro i o out h hi ho kp A
  rw [iterK_s]; simp only [store_Store_list_l0b]
  refine Gx.Wp.ifp (by rw [len]; simp; omega) ?_
  refine Gx.Wp.jn fun j hj => ?_
  obtain ⟨x, hx⟩ := isome (l := ns) (i := i) (by omega)
  obtain ⟨q, q1, q2⟩ := (A0.row.keeps kp).ldS hx
  refine Gx.Wp.bnd q1 (Gx.Wp.bnd q2 (Gx.Wp.bnd (hasPrefix_spec D x b h) ?_))
  rw [dropc hx]
  cases hst : starts b x with
  | true =>
   refine Gx.Wp.ifp rfl ?_
   refine Gx.Wp.bnd rdS_one ?_
   obtain ⟨s', h', a1, A2, c2, _⟩ := A.push encS_one x (bytes := 16) (by omega) (by decide) kp.nx
   refine Gx.Wp.bnd a1 ?_
   subst hj
   simp only
   rw [Gx.w1 (by omega), List.filter_cons_of_pos hst, show out ++ x :: (ns.drop (i + 1)).filter (starts b) = (out ++ [x]) ++ (ns.drop (i + 1)).filter (starts b) by simp]
   exact ih (i + 1) s' (out ++ [x]) h' (by omega) (by simp; omega) (Chg.beh kp c2 fun y hy ⟨a, ha, e⟩ => by have := (A.lt a ha).2; omega) A2
  | false =>
   refine Gx.Wp.ifn (fun q => by cases q) ?_
   subst hj
   simp only
   rw [Gx.w1 (by omega), List.filter_cons_of_neg (by rw [hst]; decide)]
   exact ih (i + 1) o out h (by omega) (by omega) kp A
theorem list_spec {k : Nat} (D : CallF) {h : AHeap} {sb rb : Nat} {p : PS} (s : SR h sb rb p) (g : Good p.es p.cl) (b : ByteArray) (hl : p.es.length ≤ 1048576) (hk : p.es.length < k) :
  Gx.Wp (store_Store_list k D (some ⟨sb, 0, none⟩) b h) fun q => Keeps h q.2 ∧ Acc encS 9 h.next q.2 q.1 ((nm p.es).filter (starts b)) := by
 simp only [store_Store_list]
 refine Gx.Wp.jn fun j hj => ?_
 refine Gx.Wp.call (Names_spec D s g (by omega)) fun r hr => ?_
 obtain ⟨k1, A⟩ := hr
 unfold store_Store_list_l0
 obtain ⟨bot, eb⟩ := iterK_of (fun _ _ _ _ _ _ => none) (store_Store_list_l0b k D j) (show (nm p.es).length + 1 ≤ k by rw [nm_len]; omega)
 rw [eb]
 subst hj
 refine Gx.Wp.mono (list_l0 k D bot k1 A (by rw [nm_len]; exact hl) _ 0 _ [] r.2 (by omega) (by simp) (Chg.refl _ _) (Acc.nil _ _ _ _)) fun q hq => ?_
 obtain ⟨k2, A2⟩ := hq
 refine ⟨k1.trans k2, by simpa using A2.st, fun a ha => ⟨(A2.lt a ha).1, ?_⟩⟩
 have := (A2.lt a ha).2
 have := k1.nx; omega
end Gs
namespace Gs
open Go Gx
def nob : ByteArray := ⟨#[]⟩
def PS.putS (p : PS) (n d : ByteArray) : PS × Nat :=
 if fitsC n d ≠ 0 then (p, fitsC n d) else if p.quota + room n p.es < tot p.es + (n.size + d.size) then (p, 71) else (p.lay n d, 0)
def PS.delS (p : PS) (n : ByteArray) : PS × Nat := if (lk n p.es).isSome then ({ p with es := rm n p.es }, 0) else (p, 5)
def PS.up (p : PS) : PS := { p with calls := p.calls + 1 }
def PS.doS (p : PS) (kind : Int) (n d : ByteArray) : PS × Nat × ByteArray × List ByteArray :=
 if p.down = true then (p.up, 70, nob, [])
 else if 0 < p.fails then ({ p.up with fails := p.fails - 1 }, 72, nob, [])
 else if kind = 1 then ((p.up.putS n d).1, (p.up.putS n d).2, nob, [])
 else if kind = 2 then (if (lk n p.es).isSome then (p.up, 0, (lk n p.es).getD nob, []) else (p.up, 5, nob, []))
 else if kind = 3 then (p.up, 0, nob, (nm p.es).filter (starts n))
 else if kind = 4 then ((p.up.delS n).1, (p.up.delS n).2, nob, [])
 else (p.up, 3, nob, [])
theorem put_spec {k : Nat} (D : CallF) {h : AHeap} {sb rb : Nat} {p : PS} (s : SR h sb rb p) (g : Good p.es p.cl) (n d : ByteArray) (hl : p.es.length ≤ 1048576) (_hq : p.quota ≤ 1073741824) (hk : n.size < k) (hs : n.size ≤ 9223372036854775807) :
  Gx.Wp (store_Store_put k D (some ⟨sb, 0, none⟩) n d h) fun q => q.1 = ((p.putS n d).2 : Int) ∧ Chg (SB sb rb) h q.2 ∧ SR q.2 sb rb (p.putS n d).1 ∧ Good (p.putS n d).1.es (p.putS n d).1.cl := by
 simp only [store_Store_put]
 refine Gx.Wp.call (fits_spec D n d hk hs) fun r hr => ?_
 obtain ⟨r1, k1⟩ := hr
 rw [r1]
 by_cases q : fitsC n d = 0
 ·have eP : p.putS n d = if p.quota + room n p.es < tot p.es + (n.size + d.size) then (p, 71) else (p.lay n d, 0) := if_neg fun z => z q
  rw [eP, q]
  refine Gx.Wp.ifn (by decide) ?_
  have s1 := s.keeps k1
  obtain ⟨f1, f2, _⟩ := fits0 q
  refine Gx.Wp.bnd (room_spec D s1 g n) ?_
  obtain ⟨e, hb⟩ := s1.blk
  have t1 := tot_le g
  have t2 := room_le (n := n) p.es
  refine Gx.Wp.bnd rfl (Gx.Wp.bnd (sldI_at hb rfl) (Gx.Wp.gp (ssw1 (bnd (sldI_at hb rfl) rfl)) ?_))
  refine Gx.Wp.bnd rfl (Gx.Wp.bnd (sldI_at hb rfl) (Gx.Wp.gp (ssw1 (bnd (sldI_at hb rfl) rfl)) ?_))
  dsimp only
  rw [w64 ((tot p.es : Int) - room n p.es) (by omega), w64 ((tot p.es : Int) - room n p.es + n.size) (by omega), w64 _ (by omega)]
  by_cases c : p.quota + room n p.es < tot p.es + (n.size + d.size)
  ·refine Gx.Wp.ifp (by simp; omega) ?_
   rw [if_pos c]
   exact Gx.Wp.of ⟨rfl, Chg.keeps k1, s1, g⟩
  ·refine Gx.Wp.ifn (by simp; omega) ?_
   rw [if_neg c]
   refine Gx.Wp.call (lay_spec D s1 g f1 f2 hl) fun r2 h2 => Gx.Wp.of ⟨rfl, (Chg.keeps k1).trans h2.1, h2.2.1, h2.2.2⟩
 ·have eP : p.putS n d = (p, fitsC n d) := if_pos q
  rw [eP]
  exact Gx.Wp.ifp (by simp; omega) (Gx.Wp.of ⟨rfl, Chg.keeps k1, s.keeps k1, g⟩)
theorem del_spec {k : Nat} (D : CallF) {h : AHeap} {sb rb : Nat} {p : PS} (s : SR h sb rb p) (g : Good p.es p.cl) (n : ByteArray) (hl : p.es.length ≤ 1048576) :
  Gx.Wp (store_Store_del k D (some ⟨sb, 0, none⟩) n h) fun q => q.1 = ((p.delS n).2 : Int) ∧ Chg (SB sb rb) h q.2 ∧ SR q.2 sb rb (p.delS n).1 ∧ Good (p.delS n).1.es (p.delS n).1.cl := by
 obtain ⟨e, hb⟩ := s.blk
 simp only [store_Store_del]
 refine Gx.Wp.bnd rfl (Gx.Wp.bnd (ldM_at (m := some rb) hb rfl) ?_)
 unfold PS.delS
 have t1 := tot_le g
 have t2 := tot_rm (n := n) p.es
 cases hl2 : lk n p.es with
 | none =>
  refine Gx.Wp.bnd (look_none s.mp hl2) (Gx.Wp.ifp rfl (Gx.Wp.of ⟨rfl, Chg.refl _ _, s, g⟩))
 | some x =>
  refine Gx.Wp.bnd (look_some s.mp hl2) (Gx.Wp.ifn (fun q => by cases q) ?_)
  refine Gx.Wp.bnd (room_spec D s g n) (Gx.Wp.bnd rfl (Gx.Wp.bnd (sldI_at hb rfl) (Gx.Wp.gp (ssw1 (bnd (sldI_at hb rfl) rfl)) ?_)))
  dsimp only
  rw [w64 _ (by omega)]
  have hne := s.ne
  refine Gx.Wp.bnd rfl (Gx.Wp.bnd (st1_sb hb (by show 0 + 1 < 6; omega) rfl) (Gx.Wp.bnd rfl (Gx.Wp.bnd (ldM_at (m := some rb) (sset_get h sb _) rfl) ?_)))
  refine Gx.Wp.bnd (del_at (es := p.es) (cl := p.cl) (by simp only [AHeap.get_set]; rw [if_neg (fun q => hne q.symm)]; exact s.mp) n) (Gx.Wp.of ⟨rfl, (Chg.set (.inr (.inl rfl))).trans (Chg.set (.inr (.inr rfl))), ⟨⟨e, ?_⟩, by simp only [AHeap.get_set, if_true]; rfl, by simpa using s.lt⟩, g.rm n⟩)
  simp only [AHeap.get_set]
  rw [if_neg hne, if_true]
  have : (tot p.es : Int) - (room n p.es : Int) = (tot (rm n p.es) : Int) := by omega
  rw [this]; rfl
theorem fin3 {H : AHeap} {b : Nat} {c : List Value} {e : TypeId} (hb : H.get b = some (.cells c e true 0)) (hc : c.length = 3) (cd : Int) (dt : ByteArray) (s : Slc) {Q : ((Int × ByteArray × Slc) × AHeap) → Prop}
  (hQ : Q ((cd, dt, s), H.set b (.cells [.int .i64 cd, .string dt, .slice s.a s.len s.cap] e true 0))) :
  Gx.Wp ((Gx.stL 3 (⟨b, 0, none⟩ : Addr) ([.int .i64 cd, .string dt, .slice s.a s.len s.cap]) H).bind fun h7 => (Gx.ldA 3 (⟨b, 0, none⟩ : Addr) h7).bind fun l8 => (decC [.i .i64, .s, .l] l8).bind fun x9 => some ((x9.1, x9.2.1, x9.2.2), h7)) Q := by
 refine Gx.Wp.bnd (sstL_at hb hc rfl rfl (by decide)) ?_
 refine Gx.Wp.bnd (sldA_at (sset_get H b _) rfl) ?_
 exact Gx.Wp.bnd rfl (Gx.Wp.of hQ)
end Gs
namespace Gs
open Go Gx
theorem SR.other {h : AHeap} {sb rb b : Nat} {B : ABlk} {p : PS} (s : SR h sb rb p) (h1 : b ≠ sb) (h2 : b ≠ rb) : SR (h.set b B) sb rb p := by
 obtain ⟨e, hb⟩ := s.blk
 exact ⟨⟨e, by simp only [AHeap.get_set]; rw [if_neg (fun q => h1 q.symm)]; exact hb⟩, by simp only [AHeap.get_set]; rw [if_neg (fun q => h2 q.symm)]; exact s.mp, s.lt⟩
theorem ldS_at {h : AHeap} {b o : Nat} {sp : Option Nat} {c : List Value} {e : TypeId} {r : Bool} {fz : Nat} {m : ByteArray} (hb : h.get b = some (.cells c e r fz)) (hc : c[o]? = some (.string m)) : Gx.ldS ⟨b, o, sp⟩ h = some m := by
 simp only [Gx.ldS, AHeap.rd1, hb, hc]; rfl
def DoQ (h : AHeap) (sb rb : Nat) (p : PS) (kind : Int) (n d : ByteArray) (q : (Int × ByteArray × Slc) × AHeap) : Prop :=
 q.1.1 = ((p.doS kind n d).2.1 : Int) ∧ q.1.2.1 = (p.doS kind n d).2.2.1 ∧ Acc encS 9 h.next q.2 q.1.2.2 (p.doS kind n d).2.2.2 ∧ Chg (SB sb rb) h q.2 ∧ SR q.2 sb rb (p.doS kind n d).1 ∧ Good (p.doS kind n d).1.es (p.doS kind n d).1.cl
theorem acc0 {h h' : AHeap} : Acc encS 9 h.next h' ⟨none, 0, 0⟩ [] := Acc.nil _ _ _ _
theorem Do_spec {k : Nat} (D : CallF) {h : AHeap} {sb rb : Nat} {p : PS} (s : SR h sb rb p) (g : Good p.es p.cl) (st kind : Int) (n d : ByteArray) (hl : p.es.length ≤ 1048576) (hq : p.quota ≤ 1073741824) (hc : p.calls ≤ 1099511627776) (hf : p.fails ≤ 1048576)
  (hk : kind = 1 → n.size < k) (hs : kind = 1 → n.size ≤ 9223372036854775807) (hk2 : p.es.length < k) :
  Gx.Wp (store_Store_Do k D (some ⟨sb, 0, none⟩) (st, kind, n, d) h) (DoQ h sb rb p kind n d) := by
 simp only [store_Store_Do, sync_atomic_Int64_Add]
 obtain ⟨H1, e1⟩ : ∃ H1, H1 = h.new (.cells [.int .i64 st, .int .i64 kind, .string n, .string d] 32 true 0) := ⟨_, rfl⟩
 rw [← e1]
 obtain ⟨H2, e2⟩ : ∃ H2, H2 = H1.new (.cells [.int .i64 0, .string ⟨#[]⟩, .slice none 0 0] 29 true 0) := ⟨_, rfl⟩
 rw [← e2]
 have k1 : Keeps h H1 := e1 ▸ Keeps.new h _
 have k2 : Keeps h H2 := k1.trans (e2 ▸ Keeps.new H1 _)
 have n1 : H1.next = h.next + 1 := by rw [e1]; rfl
 have n2 : H2.next = h.next + 2 := by rw [e2]; simp [n1]
 have rq : H2.get h.next = some (.cells [.int .i64 st, .int .i64 kind, .string n, .string d] 32 true 0) := by
  rw [e2]; simp only [AHeap.get_new]; rw [if_neg (by omega), e1]; simp
 have rs : H2.get H1.next = some (.cells [.int .i64 0, .string ⟨#[]⟩, .slice none 0 0] 29 true 0) := by rw [e2]; simp
 have s2 := s.keeps k2
 obtain ⟨lt1, lt2⟩ := s.lt
 obtain ⟨e, hb⟩ := s2.blk
 refine Gx.Wp.bnd rfl ?_
 have add : ((some (⟨sb, 0 + 5, none⟩ : Addr)).bind fun p1 => (ldI .i64 (⟨p1.block, p1.off + 0, none⟩ : Addr) H2).bind fun x2 => (Gx.st1 (⟨p1.block, p1.off + 0, none⟩ : Addr) (.int .i64 (IntKind.wrap .i64 (x2 + 1))) H2).bind fun h3 => some ((IntKind.wrap .i64 (x2 + 1)), h3)) =
   some (((p.calls + 1 : Nat) : Int), H2.set sb (.cells [.int .i64 p.quota, .int .i64 (tot p.es), .int .i64 p.fails, .bool p.down, .map (some rb), .int .i64 ((p.calls + 1 : Nat) : Int)] e true 0)) := by
  refine bnd rfl (bnd (sldI_at hb rfl) ?_)
  rw [w64 _ (by omega)]
  exact bnd (st1_sb hb (by show 5 < 6; omega) rfl) rfl
 refine Gx.Wp.bnd add ?_
 obtain ⟨H, eH⟩ : ∃ H, H = H2.set sb (.cells [.int .i64 p.quota, .int .i64 (tot p.es), .int .i64 p.fails, .bool p.down, .map (some rb), .int .i64 ((p.calls + 1 : Nat) : Int)] e true 0) := ⟨_, rfl⟩
 dsimp only
 rw [← eH]
 have cH : Chg (SB sb rb) h H := (Chg.keeps k2).trans (eH ▸ Chg.set (.inr (.inl rfl)))
 have nH : H.next = h.next + 2 := by rw [eH]; exact n2
 have hbH : H.get sb = some (.cells [.int .i64 p.quota, .int .i64 (tot p.es), .int .i64 p.fails, .bool p.down, .map (some rb), .int .i64 ((p.calls + 1 : Nat) : Int)] e true 0) := by rw [eH]; simp
 have oth : ∀ y, y ≠ sb → H.get y = H2.get y := fun y hy => by rw [eH]; simp [hy]
 have sH : SR H sb rb p.up := ⟨⟨e, hbH⟩, by rw [oth _ (fun q => s.ne q.symm)]; exact s2.mp, by omega⟩
 have rqH : H.get h.next = some (.cells [.int .i64 st, .int .i64 kind, .string n, .string d] 32 true 0) := by rw [oth _ (by omega)]; exact rq
 have rsH : H.get H1.next = some (.cells [.int .i64 0, .string ⟨#[]⟩, .slice none 0 0] 29 true 0) := by rw [oth _ (by omega)]; exact rs
 have ne1 : H1.next ≠ sb := by omega
 have ne2 : H1.next ≠ rb := by omega
 have fin : ∀ (K : AHeap) (p' : PS) (cd : Nat) (dt : ByteArray) (sl : Slc) (l : List ByteArray), Chg (SB sb rb) H K → SR K sb rb p' → Good p'.es p'.cl → Acc encS 9 H.next K sl l → p.doS kind n d = (p', cd, dt, l) →
   Gx.Wp ((Gx.stL 3 (⟨H1.next, 0, none⟩ : Addr) ([.int .i64 (cd : Int), .string dt, .slice sl.a sl.len sl.cap]) K).bind fun h7 => (Gx.ldA 3 (⟨H1.next, 0, none⟩ : Addr) h7).bind fun l8 => (decC [.i .i64, .s, .l] l8).bind fun x9 => some ((x9.1, x9.2.1, x9.2.2), h7)) (DoQ h sb rb p kind n d) := by
  intro K p' cd dt sl l cK sK gK AK eq
  have rsK : K.get H1.next = some (.cells [.int .i64 0, .string ⟨#[]⟩, .slice none 0 0] 29 true 0) := by
   rw [cK.oth _ (by omega) (by rintro (q | q) <;> omega)]; exact rsH
  refine fin3 rsK rfl _ _ _ ?_
  unfold DoQ
  rw [eq]
  refine ⟨rfl, rfl, ⟨?_, fun a ha => ⟨(AK.lt a ha).1, by have := (AK.lt a ha).2; omega⟩⟩, Chg.beh (T := fun y => y = H1.next) (cH.trans cK) (Chg.set (.inr rfl)) (fun x hx q => by omega), sK.other ne1 ne2, gK⟩
  exact (AK.chg (S := fun y => y = H1.next) (Chg.set (.inr rfl)) fun a ha q => by have := (AK.lt a ha).2; omega).st
 have ans : ∀ (p' : PS) (cd : Nat) (dt : ByteArray), SR H sb rb p' → Good p'.es p'.cl → p.doS kind n d = (p', cd, dt, []) →
   Gx.Wp ((Gx.stL 3 (⟨H1.next, 0, none⟩ : Addr) ([.int .i64 (cd : Int), .string dt, .slice none 0 0]) H).bind fun h7 => (Gx.ldA 3 (⟨H1.next, 0, none⟩ : Addr) h7).bind fun l8 => (decC [.i .i64, .s, .l] l8).bind fun x9 => some ((x9.1, x9.2.1, x9.2.2), h7)) (DoQ h sb rb p kind n d) :=
  fun p' cd dt s' g' eq => fin H p' cd dt ⟨none, 0, 0⟩ [] (Chg.refl _ _) s' g' acc0 eq
 refine Gx.Wp.bnd rfl (Gx.Wp.bnd (ldB_at hbH rfl) ?_)
 by_cases c1 : p.down = true
 ·refine Gx.Wp.ifp c1 (ans p.up 70 nob sH g ?_)
  unfold PS.doS; rw [if_pos c1]
 refine Gx.Wp.ifn c1 (Gx.Wp.bnd rfl (Gx.Wp.bnd (sldI_at hbH rfl) ?_))
 by_cases c2 : 0 < p.fails
 ·refine Gx.Wp.ifp (by simp; omega) ?_
  refine Gx.Wp.bnd rfl (Gx.Wp.bnd (sldI_at hbH rfl) (Gx.Wp.bnd rfl ?_))
  rw [w64 _ (by omega)]
  refine Gx.Wp.bnd (st1_sb hbH (by show 0 + 2 < 6; omega) rfl) ?_
  refine fin _ { p.up with fails := p.fails - 1 } 72 nob ⟨none, 0, 0⟩ [] (Chg.set (.inr (.inl rfl))) ⟨⟨e, ?_⟩, ?_, sH.lt⟩ g acc0 ?_
  ·rw [sset_get]
   have : ((p.fails : Int) - 1) = ((p.fails - 1 : Nat) : Int) := by omega
   rw [this]; rfl
  ·simp only [AHeap.get_set]; rw [if_neg (fun q => s.ne q.symm)]; exact sH.mp
  ·unfold PS.doS; rw [if_neg c1, if_pos c2]
 refine Gx.Wp.ifn (by simp; omega) ?_
 refine Gx.Wp.bnd (sldI_at rqH rfl) ?_
 by_cases c3 : kind = 1
 ·refine Gx.Wp.ifp (by simpa using c3) ?_
  refine Gx.Wp.bnd (ldS_at rqH rfl) (Gx.Wp.bnd (ldS_at rqH rfl) ?_)
  refine Gx.Wp.call (put_spec D sH g n d hl hq (hk c3) (hs c3)) fun r hr => ?_
  obtain ⟨r1, r2, r3, r4⟩ := hr
  rw [r1]
  refine fin r.2 _ _ nob ⟨none, 0, 0⟩ [] r2 r3 r4 acc0 ?_
  unfold PS.doS; rw [if_neg c1, if_neg c2, if_pos c3]
 refine Gx.Wp.ifn (by simpa using c3) ?_
 by_cases c4 : kind = 2
 ·refine Gx.Wp.ifp (by simpa using c4) ?_
  refine Gx.Wp.bnd rfl (Gx.Wp.bnd (ldM_at (m := some rb) hbH rfl) (Gx.Wp.bnd (ldS_at rqH rfl) ?_))
  cases hl2 : lk n p.es with
  | none =>
   refine Gx.Wp.bnd (look_none sH.mp hl2) (Gx.Wp.ifp rfl (ans p.up 5 nob sH g ?_))
   unfold PS.doS; rw [if_neg c1, if_neg c2, if_neg c3, if_pos c4, hl2]; rfl
  | some x =>
   refine Gx.Wp.bnd (look_some sH.mp hl2) (Gx.Wp.ifn (fun q => by cases q) (ans p.up 0 x sH g ?_))
   unfold PS.doS; rw [if_neg c1, if_neg c2, if_neg c3, if_pos c4, hl2]; rfl
 refine Gx.Wp.ifn (by simpa using c4) ?_
 by_cases c5 : kind = 3
 ·refine Gx.Wp.ifp (by simpa using c5) ?_
  refine Gx.Wp.bnd (ldS_at rqH rfl) ?_
  refine Gx.Wp.call (list_spec D sH g n hl hk2) fun r hr => ?_
  obtain ⟨r1, r2⟩ := hr
  refine fin r.2 p.up 0 nob r.1 _ (Chg.keeps r1) (sH.keeps r1) g r2 ?_
  unfold PS.doS; rw [if_neg c1, if_neg c2, if_neg c3, if_neg c4, if_pos c5]; rfl
 refine Gx.Wp.ifn (by simpa using c5) ?_
 by_cases c6 : kind = 4
 ·refine Gx.Wp.ifp (by simpa using c6) ?_
  refine Gx.Wp.bnd (ldS_at rqH rfl) ?_
  refine Gx.Wp.call (del_spec D sH g n hl) fun r hr => ?_
  obtain ⟨r1, r2, r3, r4⟩ := hr
  rw [r1]
  refine fin r.2 _ _ nob ⟨none, 0, 0⟩ [] r2 r3 r4 acc0 ?_
  unfold PS.doS; rw [if_neg c1, if_neg c2, if_neg c3, if_neg c4, if_neg c5, if_pos c6]
 refine Gx.Wp.ifn (by simpa using c6) (ans p.up 3 nob sH g ?_)
 unfold PS.doS; rw [if_neg c1, if_neg c2, if_neg c3, if_neg c4, if_neg c5, if_neg c6]
end Gs
namespace Gs
open Go Gx
def ps0 (q : Nat) : PS := ⟨q, 0, 0, false, [], 0⟩
theorem good0 : Good [] 0 := ⟨by simp, by simp, by simp, by simp⟩
theorem New_spec {k : Nat} (D : CallF) {h : AHeap} {q : Nat} (hq : q ≤ 1073741824) : ∃ h', store_New k D (q : Int) h = some ((some ⟨h.next + 1, 0, none⟩, 0), h') ∧ Keeps h h' ∧ SR h' (h.next + 1) h.next (ps0 q) := by
 refine ⟨(h.new (.map [] 0)).new (.cells [.int .i64 (q : Int), .int .i64 0, .int .i64 0, .bool false, .map (some h.next), .int .i64 0] 106 true 0), ?_, (Keeps.new h _).trans (Keeps.new _ _), ⟨106, ?_⟩, ?_, ?_⟩
 ·simp only [store_New]
  refine jn ?_
  refine ifn (by simp) ?_
  rw [decide_eq_false (by omega)]
  exact ifn (by decide) rfl
 ·rw [AHeap.get_new, AHeap.next_new, if_pos rfl]; rfl
 ·simp only [AHeap.get_new, AHeap.next_new]; rw [if_neg (by omega), if_true]; rfl
 ·simp only [AHeap.next_new]; omega
theorem sameS_spec {k : Nat} (D : CallF) {h : AHeap} {a b : Slc} {xs : List ByteArray} (Ra : Row encS h a xs) (Rb : Row encS h b xs) (hk : xs.length < k) (hs : xs.length < 9223372036854775807) : book_SameTexts k D a b h = some (true, h) := by
 unfold book_SameTexts
 refine ifn (by rw [Ra.1, Rb.1]; simp) ?_
 refine jn ?_
 unfold book_SameTexts_l0
 obtain ⟨bot, hbot⟩ := iterK_of (fun _ _ _ _ => none) (book_SameTexts_l0b k D fun h1 => some (true, h1)) (show xs.length + 1 ≤ k by omega)
 rw [hbot]
 have go : ∀ m i : Nat, i + m = xs.length → iterK bot (m + 1) (book_SameTexts_l0b k D fun h1 => some (true, h1)) a b (i : Int) h = some (true, h) := by
  intro m
  induction m with
  | zero => intro i hi; rw [iterK_s, book_SameTexts_l0b]; exact ifn (by rw [Ra.1]; simp; omega) rfl
  | succ m ih =>
   intro i hi
   obtain ⟨x, hx⟩ := isome (l := xs) (i := i) (by omega)
   obtain ⟨q, hq, hld⟩ := Ra.ldS hx
   obtain ⟨q2, hq2, hld2⟩ := Rb.ldS hx
   have w : IntKind.wrap .i64 ((i : Int) + 1) = ((i + 1 : Nat) : Int) := by rw [w64 _ (by omega)]; omega
   rw [iterK_s, book_SameTexts_l0b]
   refine ifp (by rw [Ra.1]; simp; omega) ?_
   refine bnd hq (bnd hld (bnd hq2 (bnd hld2 ?_)))
   refine ifn (by rw [ba_beq]; simp) ?_
   rw [w]
   exact ih (i + 1) (by omega)
 exact go xs.length 0 (by omega)
theorem keep3 {H : AHeap} (cd : Int) (dt : ByteArray) (s : Slc) {R : Type} {Q : R → Prop} {f : AHeap → Option R}
  (hf : Gx.Wp (f ((H.new (.cells [.int .i64 0, .string ⟨#[]⟩, .slice none 0 0] 29 true 0)).set H.next (.cells [.int .i64 cd, .string dt, .slice s.a s.len s.cap] 29 true 0))) Q) :
  Gx.Wp ((Gx.stL 3 (⟨H.next, 0, none⟩ : Addr) ([.int .i64 cd, .string dt, .slice s.a s.len s.cap]) (H.new (.cells [.int .i64 0, .string ⟨#[]⟩, .slice none 0 0] 29 true 0))).bind f) Q :=
 Gx.Wp.bnd (sstL_at (c := [.int .i64 0, .string ⟨#[]⟩, .slice none 0 0]) (by simp) rfl rfl rfl (by decide)) hf
def kept3 (H : AHeap) (cd : Int) (dt : ByteArray) (s : Slc) : AHeap := (H.new (.cells [.int .i64 0, .string ⟨#[]⟩, .slice none 0 0] 29 true 0)).set H.next (.cells [.int .i64 cd, .string dt, .slice s.a s.len s.cap] 29 true 0)
theorem kept3_keeps (H : AHeap) (cd : Int) (dt : ByteArray) (s : Slc) : Keeps H (kept3 H cd dt s) := Chg.beh (T := fun y => y = H.next) (Keeps.new H _) (Chg.set (.inr rfl)) fun x hx q => by omega
theorem kept3_get (H : AHeap) (cd : Int) (dt : ByteArray) (s : Slc) : (kept3 H cd dt s).get H.next = some (.cells [.int .i64 cd, .string dt, .slice s.a s.len s.cap] 29 true 0) := by simp [kept3]
theorem kept3_next (H : AHeap) (cd : Int) (dt : ByteArray) (s : Slc) : (kept3 H cd dt s).next = H.next + 1 := by simp [kept3]
def nA : ByteArray := ⟨#[97]⟩
def dB : ByteArray := ⟨#[98, 99, 100]⟩
def dC : ByteArray := ⟨#[98, 99, 100, 101]⟩
def pw1 : PS := ⟨4, 0, 1, false, [(nA, dB, 0)], 1⟩
def pw2 : PS := ⟨4, 0, 2, false, [(nA, dB, 0)], 1⟩
def pw3 : PS := ⟨4, 0, 3, false, [(nA, dB, 0)], 1⟩
theorem ew1 : (ps0 4).doS 1 nA dB = (pw1, 0, nob, []) := by kernel_rfl
theorem ew2 : pw1.doS 1 nA dC = (pw2, 71, nob, []) := by kernel_rfl
theorem ew3 : pw2.doS 2 nA nob = (pw3, 0, dB, []) := by kernel_rfl
theorem works_spec {k : Nat} (D : CallF) {h : AHeap} (hk : 10 ≤ k) : Gx.Wp (law07_works k D h) fun q => q.1 = true ∧ Keeps h q.2 := by
 simp only [law07_works]
 obtain ⟨h1, e1, k1, s1⟩ := New_spec (k := k) D (h := h) (q := 4) (by decide)
 refine Gx.Wp.bnd e1 ?_
 refine Gx.Wp.jn fun j hj => ?_
 refine Gx.Wp.ifn (fun q => by cases q) ?_
 subst hj
 refine Gx.Wp.ifn (fun q => by cases q) ?_
 have beh : ∀ {H H' : AHeap}, Keeps h H → Chg (SB (h.next + 1) h.next) H H' → Keeps h H' := fun a c => Chg.beh a c fun x hx q => by rcases q with q | q <;> omega
 refine Gx.Wp.call (Do_spec D s1 good0 0 1 nA dB (by decide) (by decide) (by decide) (by decide) (fun _ => by show 1 < k; omega) (fun _ => by decide) (by show 0 < k; omega)) fun r1 q1 => ?_
 unfold DoQ at q1; rw [ew1] at q1
 obtain ⟨a1, a2, _, c1, s2, g2⟩ := q1
 refine keep3 _ _ _ ?_
 have l1 := kept3_keeps r1.2 r1.1.1 r1.1.2.1 r1.1.2.2
 refine Gx.Wp.call (Do_spec D (s2.keeps l1) g2 0 1 nA dC (by decide) (by decide) (by decide) (by decide) (fun _ => by show 1 < k; omega) (fun _ => by decide) (by show 1 < k; omega)) fun r2 q2 => ?_
 unfold DoQ at q2; rw [ew2] at q2
 obtain ⟨b1, b2, _, c2, s3, g3⟩ := q2
 refine keep3 _ _ _ ?_
 have l2 := kept3_keeps r2.2 r2.1.1 r2.1.2.1 r2.1.2.2
 refine Gx.Wp.call (Do_spec D (s3.keeps l2) g3 0 2 nA nob (by decide) (by decide) (by decide) (by decide) (fun _ => by show 1 < k; omega) (fun _ => by decide) (by show 1 < k; omega)) fun r3 q3 => ?_
 unfold DoQ at q3; rw [ew3] at q3
 obtain ⟨d1, d2, _, c3, s4, g4⟩ := q3
 refine keep3 _ _ _ ?_
 have l3 := kept3_keeps r3.2 r3.1.1 r3.1.2.1 r3.1.2.2
 have lt := s1.lt
 have nx2 := c1.nx
 have y1 : ∀ {H : AHeap} {b : Nat}, H.next ≤ b → h1.next ≤ H.next → ¬ SB (h.next + 1) h.next b := fun a c => by rintro (q | q) <;> omega
 have z1 := kept3_next r1.2 r1.1.1 r1.1.2.1 r1.1.2.2
 have z2 := kept3_next r2.2 r2.1.1 r2.1.2.1 r2.1.2.2
 have m2 := c2.nx
 have m3 := c3.nx
 have G3 := kept3_get r3.2 r3.1.1 r3.1.2.1 r3.1.2.2
 have G2 : (kept3 r3.2 r3.1.1 r3.1.2.1 r3.1.2.2).get r2.2.next = _ := (l3.oth _ (by omega) fun f => f).trans ((c3.oth _ (by omega) (by rintro (q | q) <;> omega)).trans (kept3_get r2.2 r2.1.1 r2.1.2.1 r2.1.2.2))
 have G1 : (kept3 r3.2 r3.1.1 r3.1.2.1 r3.1.2.2).get r1.2.next = _ := (l3.oth _ (by omega) fun f => f).trans ((c3.oth _ (by omega) (by rintro (q | q) <;> omega)).trans ((l2.oth _ (by omega) fun f => f).trans ((c2.oth _ (by omega) (by rintro (q | q) <;> omega)).trans (kept3_get r1.2 r1.1.1 r1.1.2.1 r1.1.2.2))))
 refine Gx.Wp.bnd (sldI_at G1 rfl) (Gx.Wp.ifp (by rw [a1]; rfl) (Gx.Wp.bnd (sldI_at G2 rfl) (Gx.Wp.ifp (by rw [b1]; rfl) (Gx.Wp.bnd (sldI_at G3 rfl) (Gx.Wp.ifp (by rw [d1]; rfl) (Gx.Wp.bnd (ldS_at G3 rfl) (Gx.Wp.of ⟨?_, ?_⟩)))))))
 ·rw [d2]; rfl
 ·exact (beh ((beh ((beh k1 c1).trans l1) c2).trans l2) c3).trans l3
end Gs
namespace Gs
open Go Gx
theorem less_eq (a b : ByteArray) : Op.bytesLess a.toList b.toList = decide (bl a < bl b) := by
 rw [Go.Proofs.bytesLess_eq, ByteArray.toList_eq, ByteArray.toList_eq]; rfl
theorem lt_of_leB {a b : List UInt8} (h : leB a b = true) (hn : a ≠ b) : a < b := by
 simp only [leB, decide_eq_true_eq] at h
 exact List.not_le.1 fun q => hn (List.le_antisymm h q)
theorem nm_sorted {es : List En} (hk : (es.map (·.1)).Nodup) : (nm es).Pairwise fun a b => bl a < bl b := by
 have tr : ∀ a b c : List UInt8, leB a b = true → leB b c = true → leB a c = true := fun a b c h1 h2 => by simp only [leB, decide_eq_true_eq] at *; exact List.le_trans h1 h2
 have to : ∀ a b : List UInt8, (leB a b || leB b a) = true := fun a b => by simp only [leB, Bool.or_eq_true, decide_eq_true_eq]; exact List.le_total a b
 have h1 := List.pairwise_mergeSort tr to ((es.map (·.1)).map bl)
 have h2 : (((es.map (·.1)).map bl).mergeSort leB).Nodup := by
  refine (List.mergeSort_perm _ leB).nodup_iff.2 ?_
  exact List.Pairwise.map _ (fun a b hab q => hab (by have := congrArg ba q; exact this)) hk
 unfold nm
 refine List.Pairwise.map _ (fun a b hab => hab) ?_
 exact (h1.and h2).imp fun ⟨a, b⟩ => lt_of_leB a b
def cnt (b : ByteArray) (es : List En) : Nat := (es.map (·.1)).countP (starts b)
theorem cnt_nm (b : ByteArray) (es : List En) : ((nm es).filter (starts b)).length = cnt b es := by
 have hp : (nm es).Perm (es.map (·.1)) := by
  unfold nm
  generalize es.map (·.1) = ks
  have h1 := (List.mergeSort_perm (ks.map bl) leB).map ba
  have e : (ks.map bl).map ba = ks := by rw [List.map_map]; exact List.map_id _
  rw [e] at h1
  exact h1
 rw [← List.countP_eq_length_filter, hp.countP_eq]; rfl
theorem cnt_pt (b n d : ByteArray) (cl : Nat) (es : List En) : cnt b (pt n d cl es) = if (lk n es).isSome then cnt b es else cnt b es + (if starts b n = true then 1 else 0) := by
 unfold cnt
 rw [keys_pt]
 split
 ·rfl
 ·rw [List.countP_append]; simp [List.countP_cons]
theorem cnt_pos {b n : ByteArray} {es : List En} (h : (lk n es).isSome = true) (hs : starts b n = true) : 0 < cnt b es := by
 rw [lk_mem] at h
 exact List.countP_pos_iff.2 ⟨n, h, hs⟩
structure LI (b : ByteArray) (i : Nat) (p : PS) (there : Nat) : Prop where
 q : p.quota = 1048576
 f : p.fails = 0
 dn : p.down = false
 c : p.calls ≤ i
 g : Good p.es p.cl
 l : p.es.length ≤ i
 t : tot p.es ≤ i * 96
 th : there ≤ i
 c1 : cnt b p.es ≤ there
 c2 : 0 < there → 0 < cnt b p.es
theorem LI.step {b : ByteArray} {i : Nat} {p : PS} {there : Nat} (I : LI b i p there) (hi : i < 40) (n : ByteArray) :
  LI b (i + 1) (p.doS 1 n nob).1 (if (p.doS 1 n nob).2.1 = 0 ∧ starts b n = true then there + 1 else there) := by
 have e : p.doS 1 n nob = ((p.up.putS n nob).1, (p.up.putS n nob).2, nob, []) := by
  unfold PS.doS; rw [if_neg (by rw [I.dn]; decide), if_neg (by rw [I.f]; decide), if_pos rfl]
 rw [e]
 by_cases q : fitsC n nob = 0
 ·obtain ⟨f1, f2, _⟩ := fits0 q
  have t1 := I.t
  have z0 : nob.size = 0 := rfl
  have eP : p.up.putS n nob = (p.up.lay n nob, 0) := by
   unfold PS.putS
   rw [if_neg (fun z => z q), if_neg]
   show ¬ p.quota + room n p.es < tot p.es + (n.size + nob.size)
   rw [I.q, z0]; omega
  rw [eP]
  have t3 := tot_pt (n := n) (d := nob) (cl := p.cl) p.es
  have l3 := len_pt (n := n) (d := nob) (cl := p.cl) p.es
  have c3 := cnt_pt b n nob p.cl p.es
  have i1 := I.c1
  have i2 := I.c2
  have i3 := I.l
  have i4 := I.th
  have i5 := I.c
  have fin : ∀ t, cnt b (pt n nob p.cl p.es) ≤ t → (0 < t → 0 < cnt b (pt n nob p.cl p.es)) → t ≤ i + 1 → LI b (i + 1) (p.up.lay n nob) t := fun t h1 h2 h3 =>
   ⟨I.q, I.f, I.dn, by show p.calls + 1 ≤ _; omega, I.g.pt f1 f2, by show (pt n nob p.cl p.es).length ≤ _; omega, by show tot (pt n nob p.cl p.es) ≤ _; omega, h3, h1, h2⟩
  by_cases hs : starts b n = true
  ·rw [if_pos hs] at c3
   refine (if_pos (⟨rfl, hs⟩ : (0 : Nat) = 0 ∧ starts b n = true)).symm ▸ fin (there + 1) ?_ (fun _ => ?_) (by omega)
   ·rw [c3]; split <;> omega
   ·rw [c3]
    split
    ·rename_i hl; exact cnt_pos hl hs
    ·omega
  ·rw [if_neg hs] at c3
   refine (if_neg (fun z => hs z.2 : ¬ ((0 : Nat) = 0 ∧ starts b n = true))).symm ▸ fin there ?_ (fun z => ?_) (by omega)
   ·rw [c3]; split <;> omega
   ·have := i2 z
    rw [c3]; split <;> omega
 ·have eP : p.up.putS n nob = (p.up, fitsC n nob) := if_pos q
  rw [eP, if_neg (fun z => q z.1)]
  exact ⟨I.q, I.f, I.dn, Nat.succ_le_succ I.c, I.g, Nat.le_succ_of_le I.l, Nat.le_trans I.t (by omega), Nat.le_succ_of_le I.th, I.c1, I.c2⟩
theorem st_cond {b x : ByteArray} {R : Type} {Q : R → Prop} {j : Bool → Option R} (hj : Gx.Wp (j (starts b x)) Q) :
  Gx.Wp (if (decide ((x.size : Int) ≥ (b.size : Int))) = true then (Gx.subS x none (some (b.size : Int))).bind fun s => j (s == b) else j false) Q := by
 by_cases q : b.size ≤ x.size
 ·obtain ⟨s, e1, e2⟩ := starts_sub q
  exact Gx.Wp.ifp (by simp; omega) (Gx.Wp.bnd e1 (by rw [e2]; exact hj))
 ·refine Gx.Wp.ifn (by simp; omega) ?_
  rw [starts_short (by omega)] at hj; exact hj
theorem lists_l1 {k : Nat} (D : CallF) (bot) {b : ByteArray} {h0 : AHeap} {sb rb : Nat} {sl : Slc} {names : List ByteArray} (R : Row encS h0 sl names) (hz : ∀ x ∈ names, x.size ≤ 9223372036854775807) (hk : ∀ x ∈ names, x.size < k) (hk2 : 100 < k)
  (hsb : h0.next ≤ sb ∧ h0.next ≤ rb) {Q : Bool × AHeap → Prop} (j12)
  (hj : ∀ (p : PS) (there : Nat) (H : AHeap), LI b 40 p there → Keeps h0 H → SR H sb rb p → Gx.Wp (j12 b (some ⟨sb, 0, none⟩) (there : Int) H) Q) :
  ∀ (d i : Nat) (p : PS) (there : Nat) (H : AHeap), i + d = 40 → i ≤ names.length → LI b i p there → Keeps h0 H → SR H sb rb p →
   Gx.Wp (iterK bot (d + 1) (law07_StoreLists_l1b k D j12) sl b (some ⟨sb, 0, none⟩) (there : Int) (i : Int) H) Q := fun d => by
 have stop : ∀ (i : Nat) (p : PS) (there : Nat) (H : AHeap), i ≤ 40 → LI b i p there → Keeps h0 H → SR H sb rb p → Gx.Wp (j12 b (some ⟨sb, 0, none⟩) (there : Int) H) Q := fun i p there H hi I kp s =>
  hj p there H ⟨I.q, I.f, I.dn, by have := I.c; omega, I.g, by have := I.l; omega, by have := I.t; omega, by have := I.th; omega, I.c1, I.c2⟩ kp s
 induction d with
 | zero =>
  intro i p there H hi hl I kp s
  rw [iterK_s]; simp only [law07_StoreLists_l1b]
  obtain rfl : i = 40 := by omega
  refine Gx.Wp.jn fun j hj' => ?_
  have : Gx.Wp (j sl b (some ⟨sb, 0, none⟩) (there : Int) ((40 : Nat) : Int) false H) Q := by
   subst hj'
   exact Gx.Wp.ifn (fun q => by cases q) (stop 40 p there H (by omega) I kp s)
  by_cases c : (((40 : Nat) : Int) < (sl.len : Int))
  ·exact Gx.Wp.ifp (by simpa using c) this
  ·exact Gx.Wp.ifn (by simpa using c) this
 | succ d ih =>
  intro i p there H hi hl I kp s
  rw [iterK_s]; simp only [law07_StoreLists_l1b]
  refine Gx.Wp.jn fun j hj' => ?_
  by_cases c : i = names.length
  ·refine Gx.Wp.ifn (by rw [R.1, c]; simp) ?_
   subst hj'
   exact Gx.Wp.ifn (fun q => by cases q) (stop i p there H (by omega) I kp s)
  refine Gx.Wp.ifp (by rw [R.1]; simp; omega) ?_
  rw [decide_eq_true (show (i : Int) < 40 by omega)]
  subst hj'
  refine Gx.Wp.ifp rfl ?_
  refine Gx.Wp.jn fun j90 h90 => ?_
  obtain ⟨x, hx⟩ := isome (l := names) (i := i) (by omega)
  have hm := mem_of hx
  obtain ⟨q, q1, q2⟩ := (Row.keeps R kp).ldS hx
  refine Gx.Wp.bnd q1 (Gx.Wp.bnd q2 ?_)
  have i3 := I.l
  have i5 := I.c
  have sx := hz x hm
  refine Gx.Wp.call (Do_spec D s I.g 0 1 x nob (by omega) (by rw [I.q]; decide) (by omega) (by rw [I.f]; decide) (fun _ => hk x hm) (fun _ => sx) (by omega)) fun r hr => ?_
  obtain ⟨a1, a2, _, c1, s1, g1⟩ := hr
  refine keep3 _ _ _ ?_
  have l1 := kept3_keeps r.2 r.1.1 r.1.2.1 r.1.2.2
  have kp1 : Keeps h0 r.2 := Chg.beh kp c1 fun y hy z => by rcases z with z | z <;> omega
  have G := kept3_get r.2 r.1.1 r.1.2.1 r.1.2.2
  obtain ⟨K, eK⟩ : ∃ K, K = kept3 r.2 r.1.1 r.1.2.1 r.1.2.2 := ⟨_, rfl⟩
  rw [← eK] at l1 G
  have eK' : K = (r.2.new (.cells [.int .i64 0, .string ⟨#[]⟩, .slice none 0 0] 29 true 0)).set r.2.next (.cells [.int .i64 r.1.1, .string r.1.2.1, .slice r.1.2.2.a r.1.2.2.len r.1.2.2.cap] 29 true 0) := eK
  rw [← eK']
  have kK := kp1.trans l1
  have I2 := I.step (by omega) x
  have nxt : ∀ there' : Nat, there' = (if (p.doS 1 x nob).2.1 = 0 ∧ starts b x = true then there + 1 else there) → Gx.Wp (j90 sl b (some ⟨sb, 0, none⟩) (there' : Int) (i : Int) K) Q := fun there' e => by
   subst h90
   simp only
   rw [Gx.w1 (by omega), e]
   exact ih (i + 1) _ _ K (by omega) (by omega) I2 kK (s1.keeps l1)
  have i4 := I.th
  refine Gx.Wp.jn fun j103 h103 => ?_
  have goj : ∀ y : Bool, y = decide ((p.doS 1 x nob).2.1 = 0 ∧ starts b x = true) → Gx.Wp (j103 sl b (some ⟨sb, 0, none⟩) (there : Int) (i : Int) y K) Q := fun y e => by
   subst h103
   cases y with
   | true =>
    refine Gx.Wp.ifp rfl ?_
    rw [Gx.w1 (by omega)]
    exact nxt (there + 1) (by rw [if_pos (of_decide_eq_true e.symm)])
   | false => exact Gx.Wp.ifn (fun q => by cases q) (nxt there (by rw [if_neg (of_decide_eq_false e.symm)]))
  refine Gx.Wp.bnd (sldI_at G rfl) ?_
  rw [a1]
  by_cases c0 : (p.doS 1 x nob).2.1 = 0
  ·refine Gx.Wp.ifp (by rw [c0]; rfl) ?_
   obtain ⟨q3, q4, q5⟩ := (Row.keeps R kK).ldS hx
   refine Gx.Wp.bnd q4 (Gx.Wp.bnd q5 ?_)
   have sc := st_cond (b := b) (x := x) (j := fun y => j103 sl b (some ⟨sb, 0, none⟩) (there : Int) (i : Int) y K) (Q := Q) (goj _ (by simp [c0]))
   by_cases q : b.size ≤ x.size
   ·rw [if_pos (by simp; omega)] at sc ⊢
    exact Gx.Wp.bnd q4 (Gx.Wp.bnd q5 sc)
   ·rw [if_neg (by simp; omega)] at sc ⊢
    exact sc
  ·exact Gx.Wp.ifn (by simpa using c0) (goj false (by simp [c0]))
end Gs
namespace Gs
open Go Gx
theorem Get_spec {k : Nat} (D : CallF) {h : AHeap} {sb rb : Nat} {p : PS} (s : SR h sb rb p) (n : ByteArray) : store_Store_Get k D (some ⟨sb, 0, none⟩) n h = some (((lk n p.es).getD nob, (lk n p.es).isSome), h) := by
 obtain ⟨e, hb⟩ := s.blk
 simp only [store_Store_Get]
 refine bnd rfl (bnd (ldM_at (m := some rb) hb rfl) ?_)
 cases hl : lk n p.es with
 | none => exact bnd (look_none s.mp hl) rfl
 | some d => exact bnd (look_some s.mp hl) rfl
theorem lists_l0 {k : Nat} (D : CallF) (bot) {b : ByteArray} {H : AHeap} {sb rb : Nat} {p : PS} (s : SR H sb rb p) {rr : Nat} {sl : Slc} {e : TypeId} {cd : Int} {dt : ByteArray} {there : Nat}
  (hr : H.get rr = some (.cells [.int .i64 cd, .string dt, .slice sl.a sl.len sl.cap] e true 0)) (R : Row encS H sl ((nm p.es).filter (starts b))) (g : Good p.es p.cl) (hl : p.es.length ≤ 40) {Q : Bool × AHeap → Prop} (j29) (hj : Gx.Wp (j29 (there : Int) (some ⟨rr, 0, none⟩) H) Q) :
  ∀ (d i : Nat), i + d = ((nm p.es).filter (starts b)).length →
   Gx.Wp (iterK bot (d + 1) (law07_StoreLists_l0b k D j29) b (some ⟨sb, 0, none⟩) (there : Int) (some ⟨rr, 0, none⟩) sl (sl.len : Int) (i : Int) H) Q := fun d => by
 have len : sl.len = ((nm p.es).filter (starts b)).length := R.1
 have srt : ((nm p.es).filter (starts b)).Pairwise fun a b => bl a < bl b := (nm_sorted g.keys).filter _
 have small : ((nm p.es).filter (starts b)).length ≤ 40 := by
  have := List.length_filter_le (starts b) (nm p.es)
  rw [nm_len] at this; omega
 induction d with
 | zero =>
  intro i hi
  rw [iterK_s]; simp only [law07_StoreLists_l0b]
  exact Gx.Wp.ifn (by rw [len]; simp; omega) hj
 | succ d ih =>
  intro i hi
  rw [iterK_s]; simp only [law07_StoreLists_l0b]
  refine Gx.Wp.ifp (by rw [len]; simp; omega) ?_
  obtain ⟨x, hx⟩ := isome (l := (nm p.es).filter (starts b)) (i := i) (by omega)
  have hm := List.mem_filter.1 (mem_of hx)
  obtain ⟨q, q1, q2⟩ := R.ldS hx
  refine Gx.Wp.bnd q1 (Gx.Wp.bnd q2 ?_)
  refine Gx.Wp.jn fun j hj' => ?_
  have good : Gx.Wp (j b (some ⟨sb, 0, none⟩) (there : Int) (some ⟨rr, 0, none⟩) x sl (sl.len : Int) (i : Int) false H) Q := by
   subst hj'
   refine Gx.Wp.ifn (fun q => by cases q) (Gx.Wp.bnd (Get_spec D s x) ?_)
   have hs : (lk x p.es).isSome = true := lk_mem.2 (nm_mem.1 hm.1)
   rw [hs]
   refine Gx.Wp.ifn (fun q => by cases q) ?_
   simp only
   rw [Gx.w1 (by omega)]
   exact ih (i + 1) (by omega)
  have hle : b.size ≤ x.size := by
   by_cases c : b.size ≤ x.size
   ·exact c
   ·rw [starts_short (by omega)] at hm; cases hm.2
  obtain ⟨t, e1, e2⟩ := starts_sub hle
  refine Gx.Wp.ifn (by simp; omega) (Gx.Wp.bnd e1 ?_)
  rw [e2, hm.2]
  refine Gx.Wp.ifn (fun q => by cases q) ?_
  by_cases c : i = 0
  ·exact Gx.Wp.ifn (by rw [c]; decide) good
  refine Gx.Wp.ifp (by simp; omega) ?_
  refine Gx.Wp.bnd rfl (Gx.Wp.bnd (sldL_at hr rfl) ?_)
  have w : IntKind.wrap .i64 ((i : Int) - 1) = ((i - 1 : Nat) : Int) := by rw [w64 _ (by omega)]; omega
  rw [w]
  obtain ⟨y, hy⟩ := isome (l := (nm p.es).filter (starts b)) (i := i - 1) (by omega)
  obtain ⟨q', q3, q4⟩ := R.ldS hy
  refine Gx.Wp.bnd q3 (Gx.Wp.bnd q4 ?_)
  have lt : bl y < bl x := by
   obtain ⟨i1, hi1⟩ := getElem_of hx
   obtain ⟨i2, hi2⟩ := getElem_of hy
   have := List.pairwise_iff_getElem.1 srt (i - 1) i i2 i1 (by omega)
   rw [hi1, hi2] at this; exact this
  have nl : ¬ bl x < bl y := fun z => List.lt_irrefl _ (List.lt_trans z lt)
  have ne : x ≠ y := fun z => List.lt_irrefl _ (z ▸ lt)
  rw [less_eq, decide_eq_false nl, ba_beq, decide_eq_false ne]
  exact good
theorem starts_nob (n : ByteArray) : starts nob n = true := by
 apply decide_eq_true
 show (bl n).take 0 = bl nob
 rw [List.take_zero]; rfl
def need (l : List ByteArray) : Nat := l.foldr (fun x m => x.size + m) 1000
theorem need_lt : ∀ {l : List ByteArray} {x : ByteArray}, x ∈ l → x.size < need l
 | y :: l, x, h => by
  have ge : ∀ l : List ByteArray, 1000 ≤ need l := fun l => by
   induction l with
   | nil => exact Nat.le_refl _
   | cons y l ih => show 1000 ≤ y.size + need l; omega
  show x.size < y.size + need l
  rcases List.mem_cons.1 h with rfl | h
  ·have := ge l; omega
  ·have := need_lt h; omega
theorem need_ge (l : List ByteArray) : 1000 ≤ need l := by
 induction l with
 | nil => exact Nat.le_refl _
 | cons y l ih => show 1000 ≤ y.size + need l; omega
theorem lists_ok {k : Nat} (D : CallF) {h : AHeap} {sl : Slc} {names : List ByteArray} (R : Row encS h sl names) (hz : ∀ x ∈ names, x.size ≤ 9223372036854775807) (b : ByteArray) (hk : need names ≤ k) :
  Gx.Wp (law07_StoreLists k D sl b h) fun q => q.1 = true := by
 have hk0 := need_ge names
 simp only [law07_StoreLists]
 obtain ⟨h1, e1, k1, s1⟩ := New_spec (k := k) D (h := h) (q := 1048576) (by decide)
 refine Gx.Wp.bnd e1 ?_
 refine Gx.Wp.jn fun j7 h7 => ?_
 refine Gx.Wp.ifn (fun q => by cases q) (Gx.Wp.ifn (fun q => by cases q) ?_)
 refine Gx.Wp.call (works_spec D (by omega)) fun r hr => ?_
 obtain ⟨a1, k2⟩ := hr
 rw [a1]
 subst h7
 refine Gx.Wp.ifn (fun q => by cases q) ?_
 refine Gx.Wp.jn fun j12 h12 => ?_
 unfold law07_StoreLists_l1
 obtain ⟨bot, eb⟩ := iterK_of (fun _ _ _ _ _ _ => none) (law07_StoreLists_l1b k D j12) (show 40 + 1 ≤ k by omega)
 rw [eb]
 have k12 := k1.trans k2
 refine lists_l1 D bot (h0 := h) (sb := h.next + 1) (rb := h.next) R hz (fun x hx => by have := need_lt hx; omega) (by omega) ⟨by omega, by omega⟩ j12 ?_ 40 0 (ps0 1048576) 0 r.2 (by omega) (by omega)
  ⟨rfl, rfl, rfl, Nat.le_refl _, good0, Nat.le_refl _, Nat.le_refl _, Nat.le_refl _, Nat.le_refl _, fun q => by omega⟩ k12 (s1.keeps k2)
 intro p there H I kp s
 subst h12
 have i1 := I.l
 have i2 := I.c
 have i3 := I.th
 have ib := I.c1
 refine Gx.Wp.call (Do_spec D s I.g 0 3 b nob (by omega) (by rw [I.q]; decide) (by omega) (by rw [I.f]; decide) (fun q => by cases q) (fun q => by cases q) (by omega)) fun r1 q1 => ?_
 have eD : ∀ (p : PS) (x : ByteArray), p.down = false → p.fails = 0 → p.doS 3 x nob = (p.up, 0, nob, (nm p.es).filter (starts x)) := fun p x d f => by
  unfold PS.doS; rw [if_neg (by rw [d]; decide), if_neg (by rw [f]; decide)]; rfl
 unfold DoQ at q1; rw [eD p b I.dn I.f] at q1
 obtain ⟨b1, b2, A1, c1, s2, g2⟩ := q1
 refine keep3 _ _ _ ?_
 have l1 := kept3_keeps r1.2 r1.1.1 r1.1.2.1 r1.1.2.2
 have G1 := kept3_get r1.2 r1.1.1 r1.1.2.1 r1.1.2.2
 have n1 := kept3_next r1.2 r1.1.1 r1.1.2.1 r1.1.2.2
 obtain ⟨K1, eK1⟩ : ∃ K, K = kept3 r1.2 r1.1.1 r1.1.2.1 r1.1.2.2 := ⟨_, rfl⟩
 rw [← eK1] at l1 G1 n1
 have fold1 : (r1.2.new (.cells [.int .i64 0, .string ⟨#[]⟩, .slice none 0 0] 29 true 0)).set r1.2.next (.cells [.int .i64 r1.1.1, .string r1.1.2.1, .slice r1.1.2.2.a r1.1.2.2.len r1.1.2.2.cap] 29 true 0) = K1 := eK1.symm
 rw [fold1]
 refine Gx.Wp.call (Do_spec D (s2.keeps l1) g2 0 3 nob nob (by show p.es.length ≤ _; omega) (by show p.quota ≤ _; rw [I.q]; decide) (by show p.calls + 1 ≤ _; omega) (by show p.fails ≤ _; rw [I.f]; decide) (fun q => by cases q) (fun q => by cases q) (by show p.es.length < k; omega)) fun r2 q2 => ?_
 unfold DoQ at q2; rw [eD p.up nob I.dn I.f] at q2
 obtain ⟨d1, d2, A2, c2, s3, g3⟩ := q2
 refine keep3 _ _ _ ?_
 have l2 := kept3_keeps r2.2 r2.1.1 r2.1.2.1 r2.1.2.2
 have G2 := kept3_get r2.2 r2.1.1 r2.1.2.1 r2.1.2.2
 have n2 := kept3_next r2.2 r2.1.1 r2.1.2.1 r2.1.2.2
 obtain ⟨K2, eK2⟩ : ∃ K, K = kept3 r2.2 r2.1.1 r2.1.2.1 r2.1.2.2 := ⟨_, rfl⟩
 rw [← eK2] at l2 G2 n2
 have fold2 : (r2.2.new (.cells [.int .i64 0, .string ⟨#[]⟩, .slice none 0 0] 29 true 0)).set r2.2.next (.cells [.int .i64 r2.1.1, .string r2.1.2.1, .slice r2.1.2.2.a r2.1.2.2.len r2.1.2.2.cap] 29 true 0) = K2 := eK2.symm
 rw [fold2]
 have m1 := c1.nx
 have m2 := c2.nx
 have lts := s.lt
 have G1' : K2.get r1.2.next = _ := (l2.oth _ (by omega) fun f => f).trans ((c2.oth _ (by omega) (by rintro (q | q) <;> omega)).trans G1)
 have A1K : Acc encS 9 H.next K2 r1.1.2.2 ((nm p.es).filter (starts b)) := ((A1.keeps l1).chg c2 (fun a ha q => by have := (A1.lt a ha).2; rcases q with q | q <;> omega)).keeps l2
 have A2K := A2.keeps l2
 have sK := s3.keeps l2
 refine Gx.Wp.jn fun j25 h25 => ?_
 refine Gx.Wp.bnd (sldI_at G1' rfl) (Gx.Wp.ifn (by rw [b1]; intro q; cases q) ?_)
 refine Gx.Wp.call (Names_spec D sK g3 (by show p.es.length ≤ _; omega)) fun r3 q3 => ?_
 obtain ⟨k3, A3⟩ := q3
 have G2' : r3.2.get r2.2.next = _ := (k3.oth _ (by omega) fun f => f).trans G2
 refine Gx.Wp.bnd (sldL_at G2' rfl) (Gx.Wp.gp (ssw1 (bnd (sldL_at G2 rfl) rfl)) ?_)
 have eall : (nm p.es).filter (starts nob) = nm p.es := List.filter_eq_self.2 fun x _ => starts_nob x
 have A2' : Acc encS 9 K1.next K2 r2.1.2.2 (nm p.es) := by rw [← eall]; exact A2K
 refine Gx.Wp.bnd (sameS_spec D (A2'.keeps k3).row A3.row (by rw [nm_len]; show p.es.length < k; omega) (by rw [nm_len]; show p.es.length < _; omega)) ?_
 refine Gx.Wp.ifn (fun q => by cases q) ?_
 have G1'' : r3.2.get r1.2.next = _ := (k3.oth _ (by omega) fun f => f).trans G1'
 refine Gx.Wp.bnd (sldL_at G1'' rfl) ?_
 have A1' := A1K.keeps k3
 have len1 : r1.1.2.2.len = cnt b p.es := by rw [A1'.row.1, cnt_nm]
 have enot : decide (((⟨r1.1.2.2.a, r1.1.2.2.len, r1.1.2.2.cap⟩ : Slc).len : Int) > (there : Int)) = false := decide_eq_false (by show ¬ ((r1.1.2.2.len : Int) > there); rw [len1]; omega)
 rw [enot]
 subst h25
 refine Gx.Wp.ifn (fun q => by cases q) ?_
 refine Gx.Wp.jn fun j29 h29 => ?_
 refine Gx.Wp.bnd rfl (Gx.Wp.bnd (sldL_at G1'' rfl) ?_)
 unfold law07_StoreLists_l0
 obtain ⟨bot2, eb2⟩ := iterK_of (fun _ _ _ _ _ _ _ _ => none) (law07_StoreLists_l0b k D j29) (show ((nm p.es).filter (starts b)).length + 1 ≤ k by rw [cnt_nm]; omega)
 rw [eb2]
 refine lists_l0 D bot2 (p := p.up.up) (sK.keeps k3) (sl := r1.1.2.2) G1'' A1'.row I.g (by show p.es.length ≤ _; omega) j29 ?_ ((nm p.es).filter (starts b)).length 0 (Nat.zero_add _)
 subst h29
 refine Gx.Wp.bnd rfl (Gx.Wp.bnd (sldL_at G1'' rfl) (Gx.Wp.of ?_))
 show (decide ((there : Int) > 0) == decide ((r1.1.2.2.len : Int) > 0)) = true
 rw [len1]
 have := I.c2
 by_cases z : 0 < there
 ·have := this z
  rw [decide_eq_true (by omega), decide_eq_true (by omega)]; rfl
 ·rw [decide_eq_false (by omega), decide_eq_false (by omega)]; rfl
theorem lists_rep {k : Nat} {names : List ByteArray} (hk : need names ≤ k) (D : CallF) {h : AHeap} {sl : Slc} (R : Gx.Rep h (.list .str) names [.slice sl.a sl.len sl.cap]) (b : ByteArray) :
  ∃ h', law07_StoreLists k D sl b h = some (true, h') := by
 obtain ⟨⟨r, h'⟩, e, q⟩ := lists_ok D R.rowS R.sizes b hk
 obtain rfl : r = true := q
 exact ⟨h', e⟩
end Gs
