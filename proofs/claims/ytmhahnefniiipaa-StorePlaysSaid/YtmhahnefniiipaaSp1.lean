import Derived.KernelRfl
import Derived.Sort.Walk0
import Derived.Test.YtmhahnefniiipaaFn1
namespace Gs
open Go Gx
abbrev En := ByteArray × ByteArray × Nat
def encE (e : En) : Value × Value × Nat := (.string e.1, .string e.2.1, e.2.2)
def fd (n : ByteArray) : List En → Nat → Option (Nat × ByteArray)
 | [], _ => none
 | e :: es, i => if e.1 = n then some (i, e.2.1) else fd n es (i + 1)
def lk (n : ByteArray) : List En → Option ByteArray
 | [] => none
 | e :: es => if e.1 = n then some e.2.1 else lk n es
def pt (n d : ByteArray) (cl : Nat) : List En → List En
 | [] => [(n, d, cl)]
 | e :: es => if e.1 = n then (n, d, e.2.2) :: es else e :: pt n d cl es
def rm (n : ByteArray) : List En → List En
 | [] => []
 | e :: es => if e.1 = n then es else e :: rm n es
def room (n : ByteArray) (es : List En) : Nat := match lk n es with | some d => n.size + d.size | none => 0
def tot : List En → Nat
 | [] => 0
 | e :: es => e.1.size + e.2.1.size + tot es
theorem findE_fd (n : ByteArray) : ∀ (es : List En) (i : Nat), findE (.string n) (es.map encE) i = some ((fd n es i).map fun p => (p.1, .string p.2))
 | [], _ => rfl
 | e :: es, i => by
  have ih := findE_fd n es (i + 1)
  simp only [List.map_cons, encE, findE, keyEq, fd]
  by_cases h : e.1 = n
  ·have hb : (n == n) = true := by rw [ba_beq]; simp
   rw [if_pos h, h, hb]; rfl
  ·have hb : (n == e.1) = false := by rw [ba_beq]; simpa using fun q => h q.symm
   rw [if_neg h, hb]
   simpa [encE] using ih
theorem fd_lk (n : ByteArray) : ∀ (es : List En) (i : Nat), (fd n es i).map (·.2) = lk n es
 | [], _ => rfl
 | e :: es, i => by
  simp only [fd, lk]
  by_cases h : e.1 = n
  ·rw [if_pos h, if_pos h]; rfl
  ·rw [if_neg h, if_neg h]; exact fd_lk n es (i + 1)
theorem fd_ge {n : ByteArray} : ∀ {es : List En} {i : Nat} {p}, fd n es i = some p → i ≤ p.1
 | [], _, _, h => by cases h
 | e :: es, i, p, h => by
  simp only [fd] at h
  split at h
  ·cases h; exact Nat.le_refl _
  ·have := fd_ge h; omega
theorem fd_mod {n d : ByteArray} {cl : Nat} : ∀ {es : List En} {i : Nat} {p}, fd n es i = some p → (es.map encE).modify (p.1 - i) (fun e => (.string n, .string d, e.2.2)) = (pt n d cl es).map encE
 | [], _, _, h => by cases h
 | e :: es, i, p, h => by
  simp only [fd] at h
  split at h
  ·rename_i q
   cases h
   simp only [Nat.sub_self, pt, if_pos q]; rfl
  ·rename_i q
   have h1 := fd_ge h
   have ih := fd_mod (d := d) (cl := cl) h
   simp only [pt, if_neg q, List.map_cons]
   rw [show p.1 - i = (p.1 - (i + 1)) + 1 by omega, List.modify_succ_cons, ih]
theorem fd_none {n d : ByteArray} {cl : Nat} : ∀ {es : List En} {i : Nat}, fd n es i = none → es.map encE ++ [(.string n, .string d, cl)] = (pt n d cl es).map encE
 | [], _, _ => rfl
 | e :: es, i, h => by
  simp only [fd] at h
  split at h
  ·cases h
  ·rename_i q
   simp only [pt, if_neg q, List.map_cons, List.cons_append]
   rw [fd_none h]
theorem fd_del {n : ByteArray} : ∀ {es : List En} {i : Nat} {p}, fd n es i = some p → (es.map encE).eraseIdx (p.1 - i) = (rm n es).map encE
 | [], _, _, h => by cases h
 | e :: es, i, p, h => by
  simp only [fd] at h
  split at h
  ·rename_i q
   cases h
   simp only [Nat.sub_self, rm, if_pos q]; rfl
  ·rename_i q
   have h1 := fd_ge h
   have ih := fd_del h
   simp only [rm, if_neg q, List.map_cons]
   rw [show p.1 - i = (p.1 - (i + 1)) + 1 by omega, List.eraseIdx_cons_succ, ih]
theorem rm_none {n : ByteArray} : ∀ {es : List En}, lk n es = none → rm n es = es
 | [], _ => rfl
 | e :: es, h => by
  simp only [lk] at h
  split at h
  ·cases h
  ·rename_i q; simp only [rm, if_neg q]; rw [rm_none h]
theorem fd_some {n : ByteArray} {es : List En} {i : Nat} {d : ByteArray} (h : lk n es = some d) : ∃ j, fd n es i = some (j, d) := by
 have := fd_lk n es i
 rw [h] at this
 cases hf : fd n es i with
 | none => rw [hf] at this; cases this
 | some p => rw [hf] at this; simp at this; exact ⟨p.1, by rw [← this]⟩
theorem fd_no {n : ByteArray} {es : List En} {i : Nat} (h : lk n es = none) : fd n es i = none := by
 have := fd_lk n es i
 rw [h] at this
 cases hf : fd n es i with
 | none => rfl
 | some p => rw [hf] at this; cases this
theorem tot_pt {n d : ByteArray} {cl : Nat} : ∀ es, tot (pt n d cl es) + room n es = tot es + (n.size + d.size)
 | [] => by simp [pt, tot, room, lk]
 | e :: es => by
  have ih := tot_pt (n := n) (d := d) (cl := cl) es
  by_cases h : e.1 = n
  ·simp only [pt, if_pos h, tot, room, lk]; rw [← h]; omega
  ·have hr : room n (e :: es) = room n es := by simp only [room, lk, if_neg h]
   simp only [pt, if_neg h, tot, hr]; omega
theorem tot_rm {n : ByteArray} : ∀ es, tot (rm n es) + room n es = tot es
 | [] => rfl
 | e :: es => by
  have ih := tot_rm (n := n) es
  by_cases h : e.1 = n
  ·simp only [rm, if_pos h, tot, room, lk]; rw [← h]; omega
  ·have hr : room n (e :: es) = room n es := by simp only [room, lk, if_neg h]
   simp only [rm, if_neg h, tot, hr]; omega
theorem room_le {n : ByteArray} (es : List En) : room n es ≤ tot es := by have := tot_rm (n := n) es; omega
structure PS where
 quota : Nat
 fails : Nat
 calls : Nat
 down : Bool
 es : List En
 cl : Nat
structure Good (es : List En) (cl : Nat) : Prop where
 keys : (es.map (·.1)).Nodup
 births : (es.map (·.2.2)).Nodup
 old : ∀ e ∈ es, e.2.2 < cl
 small : ∀ e ∈ es, e.1.size ≤ 96 ∧ e.2.1.size ≤ 131072
theorem tot_le {es : List En} {cl : Nat} (g : Good es cl) : tot es ≤ es.length * 131168 := by
 have : ∀ es : List En, (∀ e ∈ es, e.1.size ≤ 96 ∧ e.2.1.size ≤ 131072) → tot es ≤ es.length * 131168 := by
  intro es
  induction es with
  | nil => intro _; exact Nat.le_refl _
  | cons e es ih =>
   intro h
   have h1 := h e (by simp)
   have h2 := ih fun x hx => h x (by simp [hx])
   simp only [tot, List.length_cons]; omega
 exact this es g.small
theorem mem_pt {n d : ByteArray} {cl : Nat} : ∀ {es : List En} {x : En}, x ∈ pt n d cl es → x ∈ es ∨ (x.1 = n ∧ x.2.1 = d ∧ (x.2.2 = cl ∨ ∃ y ∈ es, x.2.2 = y.2.2))
 | [], x, h => by simp [pt] at h; subst h; exact .inr ⟨rfl, rfl, .inl rfl⟩
 | e :: es, x, h => by
  simp only [pt] at h
  split at h
  ·rcases List.mem_cons.1 h with rfl | h
   ·exact .inr ⟨rfl, rfl, .inr ⟨e, by simp, rfl⟩⟩
   ·exact .inl (by simp [h])
  ·rcases List.mem_cons.1 h with rfl | h
   ·exact .inl (by simp)
   ·rcases mem_pt h with h | ⟨h1, h2, h3⟩
    ·exact .inl (by simp [h])
    ·exact .inr ⟨h1, h2, h3.imp id fun ⟨y, hy, e⟩ => ⟨y, by simp [hy], e⟩⟩
theorem keys_pt {n d : ByteArray} {cl : Nat} : ∀ {es : List En}, (pt n d cl es).map (·.1) = if (lk n es).isSome then es.map (·.1) else es.map (·.1) ++ [n]
 | [] => rfl
 | e :: es => by
  have ih := keys_pt (n := n) (d := d) (cl := cl) (es := es)
  by_cases h : e.1 = n
  ·simp [pt, lk, h]
  ·simp only [pt, lk, if_neg h, List.map_cons, ih]
   split <;> rfl
theorem births_pt {n d : ByteArray} {cl : Nat} : ∀ {es : List En}, (pt n d cl es).map (·.2.2) = if (lk n es).isSome then es.map (·.2.2) else es.map (·.2.2) ++ [cl]
 | [] => rfl
 | e :: es => by
  have ih := births_pt (n := n) (d := d) (cl := cl) (es := es)
  by_cases h : e.1 = n
  ·simp [pt, lk, h]
  ·simp only [pt, lk, if_neg h, List.map_cons, ih]
   split <;> rfl
theorem lk_mem {n : ByteArray} : ∀ {es : List En}, (lk n es).isSome = true ↔ n ∈ es.map (·.1)
 | [] => by simp [lk]
 | e :: es => by
  simp only [lk, List.map_cons, List.mem_cons]
  by_cases h : e.1 = n
  ·simp [h]
  ·rw [if_neg h, lk_mem]; exact ⟨.inr, fun q => q.resolve_left fun e' => h e'.symm⟩
theorem rm_sub (n : ByteArray) : ∀ es : List En, (rm n es).Sublist es
 | [] => .slnil
 | e :: es => by
  simp only [rm]
  split
  ·exact List.sublist_cons_self _ _
  ·exact (rm_sub n es).cons_cons _
def clk (n : ByteArray) (es : List En) (cl : Nat) : Nat := if (lk n es).isSome then cl else cl + 1
theorem Good.pt {es : List En} {cl : Nat} (g : Good es cl) {n d : ByteArray} (hn : n.size ≤ 96) (hd : d.size ≤ 131072) : Good (pt n d cl es) (clk n es cl) where
 keys := by
  rw [keys_pt]
  split
  ·exact g.keys
  ·rename_i h
   rw [lk_mem] at h
   exact List.nodup_append.2 ⟨g.keys, by simp, fun a ha b hb => by simp at hb; subst hb; exact fun e => h (e ▸ ha)⟩
 births := by
  rw [births_pt]
  split
  ·exact g.births
  ·refine List.nodup_append.2 ⟨g.births, by simp, fun a ha b hb => ?_⟩
   simp at hb; subst hb
   obtain ⟨e, he, rfl⟩ := List.mem_map.1 ha
   have := g.old e he; omega
 old := by
  intro e he
  unfold clk
  rcases mem_pt he with h | ⟨h1, h2, h3⟩
  ·have := g.old e h; split <;> omega
  ·rcases h3 with h3 | ⟨y, hy, h3⟩
   ·split
    ·rename_i q
     have : e.2.2 ∈ (Gs.pt n d cl es).map (·.2.2) := List.mem_map.2 ⟨e, he, rfl⟩
     rw [births_pt, if_pos q] at this
     obtain ⟨y, hy, e1⟩ := List.mem_map.1 this
     have := g.old y hy; omega
    ·omega
   ·have := g.old y hy; split <;> omega
 small := by
  intro e he
  rcases mem_pt he with h | ⟨h1, h2, _⟩
  ·exact g.small e h
  ·rw [h1, h2]; exact ⟨hn, hd⟩
theorem Good.rm {es : List En} {cl : Nat} (g : Good es cl) (n : ByteArray) : Good (rm n es) cl :=
 ⟨g.keys.sublist ((rm_sub n es).map _), g.births.sublist ((rm_sub n es).map _), fun e he => g.old e ((rm_sub n es).subset he), fun e he => g.small e ((rm_sub n es).subset he)⟩
theorem len_pt {n d : ByteArray} {cl : Nat} : ∀ es : List En, (pt n d cl es).length ≤ es.length + 1
 | [] => Nat.le_refl _
 | e :: es => by
  have := len_pt (n := n) (d := d) (cl := cl) es
  simp only [pt]; split <;> simp <;> omega
structure SR (h : AHeap) (sb rb : Nat) (p : PS) : Prop where
 blk : ∃ e, h.get sb = some (.cells [.int .i64 p.quota, .int .i64 (tot p.es), .int .i64 p.fails, .bool p.down, .map (some rb), .int .i64 p.calls] e true 0)
 mp : h.get rb = some (.map (p.es.map encE) p.cl)
 lt : sb < h.next ∧ rb < h.next
def SB (sb rb : Nat) (y : Nat) : Prop := y = sb ∨ y = rb
theorem SR.ne {h : AHeap} {sb rb : Nat} {p : PS} (s : SR h sb rb p) : sb ≠ rb := by
 rintro rfl
 obtain ⟨e, hb⟩ := s.blk
 rw [s.mp] at hb; cases hb
theorem SR.keeps {h h' : AHeap} {sb rb : Nat} {p : PS} (s : SR h sb rb p) (k : Keeps h h') : SR h' sb rb p := by
 obtain ⟨e, hb⟩ := s.blk
 exact ⟨⟨e, (k.oth _ s.lt.1 fun f => f).trans hb⟩, (k.oth _ s.lt.2 fun f => f).trans s.mp, Nat.lt_of_lt_of_le s.lt.1 k.nx, Nat.lt_of_lt_of_le s.lt.2 k.nx⟩
theorem SR.chg {S : Nat → Prop} {h h' : AHeap} {sb rb : Nat} {p : PS} (s : SR h sb rb p) (k : Chg S h h') (h1 : ¬ S sb) (h2 : ¬ S rb) : SR h' sb rb p := by
 obtain ⟨e, hb⟩ := s.blk
 exact ⟨⟨e, (k.oth _ s.lt.1 h1).trans hb⟩, (k.oth _ s.lt.2 h2).trans s.mp, Nat.lt_of_lt_of_le s.lt.1 k.nx, Nat.lt_of_lt_of_le s.lt.2 k.nx⟩
theorem st1_sb {h : AHeap} {b o : Nat} {c : List Value} {e : TypeId} {v : Value} (hb : h.get b = some (.cells c e true 0)) (ho : o < c.length) (hv : one v = true) : Gx.st1 ⟨b, o, none⟩ v h = some (h.set b (.cells (c.set o v) e true 0)) := by
 simp only [Gx.st1, AHeap.wr1, hb]
 rw [if_pos ⟨ho, Nat.zero_le _, hv⟩]
theorem ldM_at {h : AHeap} {b o : Nat} {sp : Option Nat} {c : List Value} {e : TypeId} {r : Bool} {fz : Nat} {m : Option Nat} (hb : h.get b = some (.cells c e r fz)) (hc : c[o]? = some (.map m)) : ldM ⟨b, o, sp⟩ h = some m := by
 simp only [ldM, AHeap.rd1, hb, hc]; rfl
theorem ldB_at {h : AHeap} {b o : Nat} {sp : Option Nat} {c : List Value} {e : TypeId} {r : Bool} {fz : Nat} {m : Bool} (hb : h.get b = some (.cells c e r fz)) (hc : c[o]? = some (.bool m)) : ldB ⟨b, o, sp⟩ h = some m := by
 simp only [ldB, AHeap.rd1, hb, hc]; rfl
theorem look_some {h : AHeap} {rb cl : Nat} {es : List En} (hm : h.get rb = some (.map (es.map encE) cl)) {n d : ByteArray} (hl : lk n es = some d) : lookE decS (.string ⟨#[]⟩) h (some rb) (.string n) = some (d, true) := by
 obtain ⟨j, hj⟩ := fd_some (i := 0) hl
 simp only [lookE, hm, findE_fd, hj]; rfl
theorem look_none {h : AHeap} {rb cl : Nat} {es : List En} (hm : h.get rb = some (.map (es.map encE) cl)) {n : ByteArray} (hl : lk n es = none) : lookE decS (.string ⟨#[]⟩) h (some rb) (.string n) = some (⟨#[]⟩, false) := by
 simp only [lookE, hm, findE_fd, fd_no hl]; rfl
theorem upd_at {h : AHeap} {rb cl : Nat} {es : List En} (hm : h.get rb = some (.map (es.map encE) cl)) (n d : ByteArray) : updE h rb (.string n) (.string d) = some (h.set rb (.map ((pt n d cl es).map encE) (clk n es cl))) := by
 unfold clk
 cases hl : lk n es with
 | none =>
  simp only [updE, hm, findE_fd, fd_no hl, Option.map_none, Option.isSome_none]
  rw [fd_none (i := 0) (fd_no hl)]; rfl
 | some d' =>
  obtain ⟨j, hj⟩ := fd_some (i := 0) hl
  have := fd_mod (d := d) (cl := cl) hj
  simp only [Nat.sub_zero] at this
  simp only [updE, hm, findE_fd, hj, Option.map_some, Option.isSome_some]
  rw [this]; rfl
theorem del_at {h : AHeap} {rb cl : Nat} {es : List En} (hm : h.get rb = some (.map (es.map encE) cl)) (n : ByteArray) : delM h (some rb) (.string n) = some (h.set rb (.map ((rm n es).map encE) cl)) := by
 cases hl : lk n es with
 | none =>
  simp only [delM, delE, hm, findE_fd, fd_no hl, Option.map_none]
  rw [rm_none hl]
 | some d' =>
  obtain ⟨j, hj⟩ := fd_some (i := 0) hl
  have := fd_del hj
  simp only [Nat.sub_zero] at this
  simp only [delM, delE, hm, findE_fd, hj, Option.map_some]
  rw [this]
def okB (c : UInt8) : Bool := decide (32 < c.toNat) && decide (c.toNat < 127)
def mayB (n : ByteArray) : Bool := (bl n).all okB && decide (n ≠ ⟨#[]⟩) && decide (n.size ≤ 96)
def fitsC (n d : ByteArray) : Nat := if mayB n = false then 3 else if 131072 < d.size then 2 else 0
end Gs
namespace Gs
open Go Gx
theorem okB_bad {c : UInt8} (h : ((c.toNat : Int) ≤ 32)) : okB c = false := by
 unfold okB; rw [decide_eq_false (show ¬ 32 < c.toNat by omega)]; rfl
theorem okB_eq {c : UInt8} (h : ¬ ((c.toNat : Int) ≤ 32)) : decide ((c.toNat : Int) ≥ 127) = !okB c := by
 unfold okB
 rw [decide_eq_true (show 32 < c.toNat by omega), Bool.true_and]
 by_cases q : c.toNat < 127
 ·rw [decide_eq_true q, decide_eq_false (by omega)]; rfl
 ·rw [decide_eq_false q, decide_eq_true (by omega)]; rfl
theorem may_l0 (K : Nat) (D : CallF) (j3) (bot) {n : ByteArray} {b : Nat} {h0 : AHeap} (hb : h0.get b = some (.cells (bytesL n) 5 true 0)) (hs : n.size ≤ 9223372036854775807) {Q : Bool × AHeap → Prop}
  (hj : (bl n).all okB = true → Gx.Wp (j3 n h0) Q) (hf : (bl n).all okB = false → Q (false, h0)) :
  ∀ (d i : Nat), i + d = n.size → ((bl n).take i).all okB = true → Gx.Wp (iterK bot (d + 1) (store_may_l0b K D j3) n (⟨(some ⟨b, 0, some 2⟩), n.size, n.size⟩ : Slc) (n.size : Int) (i : Int) h0) Q := fun d => by
 have hl : (bl n).length = n.size := rfl
 induction d with
 | zero =>
  intro i hi ha
  rw [iterK_s]; simp only [store_may_l0b]
  obtain rfl : i = n.size := by omega
  refine Gx.Wp.ifn (by simp) (hj ?_)
  rw [← hl, List.take_length] at ha; exact ha
 | succ d ih =>
  intro i hi ha
  rw [iterK_s]; simp only [store_may_l0b]
  obtain ⟨c, hc⟩ := isome (l := bl n) (i := i) (by omega)
  refine Gx.Wp.ifp (by simp; omega) ?_
  refine Gx.Wp.bnd (idxL_out (by omega)) (Gx.Wp.bnd (sldI_at hb (x := (c.toNat : Int)) ?_) ?_)
  ·show (List.map _ n.data.toList)[i]? = _
   rw [List.getElem?_map]
   have : n.data.toList[i]? = some c := hc
   rw [this]; rfl
  have hall : ((bl n).take (i + 1)).all okB = okB c := by
   rw [List.take_add_one, hc, List.all_append, ha]; simp
  have fin : okB c = false → (bl n).all okB = false := by
   intro q
   rw [← Bool.not_eq_true]
   intro q2
   rw [List.all_eq_true] at q2
   rw [q2 c (mem_of hc)] at q; cases q
  refine Gx.Wp.jn fun j hj' => ?_
  by_cases h1 : (c.toNat : Int) ≤ 32
  ·refine Gx.Wp.ifp (by simpa using h1) ?_
   subst hj'
   exact Gx.Wp.ifp rfl (Gx.Wp.of (hf (fin (okB_bad h1))))
  ·refine Gx.Wp.ifn (by simpa using h1) ?_
   subst hj'
   rw [okB_eq h1]
   cases hk : okB c with
   | false => exact Gx.Wp.ifp rfl (Gx.Wp.of (hf (fin hk)))
   | true =>
    refine Gx.Wp.ifn (by decide) ?_
    rw [Gx.w1 (by omega)]
    exact ih (i + 1) (by omega) (by rw [hall]; exact hk)
theorem may_spec {k : Nat} (D : CallF) {h : AHeap} (n : ByteArray) (hk : n.size < k) (hs : n.size ≤ 9223372036854775807) :
  Gx.Wp (store_may k D n h) fun q => q.1 = mayB n ∧ Keeps h q.2 := by
 simp only [store_may]
 refine Gx.Wp.jn fun j hj => ?_
 have k1 : Keeps h (h.new (.cells (bytesL n) 5 true 0)) := Keeps.new h _
 unfold store_may_l0
 obtain ⟨bot, eb⟩ := iterK_of (fun _ _ _ _ _ => none) (store_may_l0b k D j) (show n.size + 1 ≤ k by omega)
 rw [eb]
 refine may_l0 k D j bot (h0 := h.new (.cells (bytesL n) 5 true 0)) (b := h.next) (by simp) hs (fun ha => ?_) (fun ha => ⟨by simp only [mayB, ha]; rfl, k1⟩) n.size 0 (by omega) rfl
 subst hj
 by_cases he : n = ⟨#[]⟩
 ·have : (!(n == (⟨#[]⟩ : ByteArray))) = false := by rw [ba_beq, decide_eq_true he]; rfl
  exact Gx.Wp.ifn (by rw [this]; decide) (Gx.Wp.of ⟨by simp [mayB, he], k1⟩)
 ·have : (!(n == (⟨#[]⟩ : ByteArray))) = true := by rw [ba_beq, decide_eq_false he]; rfl
  refine Gx.Wp.ifp this (Gx.Wp.of ⟨?_, k1⟩)
  simp only [mayB, ha, Bool.true_and, decide_eq_true (show n ≠ ⟨#[]⟩ from he)]
  by_cases q : n.size ≤ 96
  ·rw [decide_eq_true q, decide_eq_true (by omega)]
  ·rw [decide_eq_false q, decide_eq_false (by omega)]
theorem fits_spec {k : Nat} (D : CallF) {h : AHeap} (n d : ByteArray) (hk : n.size < k) (hs : n.size ≤ 9223372036854775807) :
  Gx.Wp (store_fits k D n d h) fun q => q.1 = (fitsC n d : Int) ∧ Keeps h q.2 := by
 simp only [store_fits]
 refine Gx.Wp.call (may_spec D n hk hs) fun r hr => ?_
 rw [hr.1]
 unfold fitsC
 cases hm : mayB n with
 | false => exact Gx.Wp.ifp rfl (Gx.Wp.of ⟨rfl, hr.2⟩)
 | true =>
  refine Gx.Wp.ifn (by decide) ?_
  by_cases q : 131072 < d.size
  ·exact Gx.Wp.ifp (by simp; omega) (Gx.Wp.of ⟨by simp [q], hr.2⟩)
  ·exact Gx.Wp.ifn (by simp; omega) (Gx.Wp.of ⟨by simp [q], hr.2⟩)
theorem fits0 {n d : ByteArray} (h : fitsC n d = 0) : n.size ≤ 96 ∧ d.size ≤ 131072 ∧ mayB n = true := by
 unfold fitsC at h
 split at h
 ·cases h
 ·rename_i hm
  split at h
  ·cases h
  ·rename_i hd
   have : mayB n = true := by simpa using hm
   simp only [mayB, Bool.and_eq_true, decide_eq_true_eq] at this
   exact ⟨this.2, by omega, by simpa using hm⟩
theorem room_spec {k : Nat} (D : CallF) {h : AHeap} {sb rb : Nat} {p : PS} (s : SR h sb rb p) (g : Good p.es p.cl) (n : ByteArray) :
  store_Store_room k D (some ⟨sb, 0, none⟩) n h = some ((room n p.es : Int), h) := by
 obtain ⟨e, hb⟩ := s.blk
 simp only [store_Store_room]
 refine bnd rfl (bnd (ldM_at (m := some rb) hb rfl) ?_)
 unfold room
 cases hl : lk n p.es with
 | none => rw [look_none s.mp hl]; rfl
 | some d =>
  rw [look_some s.mp hl]
  obtain ⟨q, hq, he, hd⟩ : ∃ q ∈ p.es, q.1 = n ∧ q.2.1 = d := by
   have : ∀ es : List En, lk n es = some d → ∃ q ∈ es, q.1 = n ∧ q.2.1 = d := by
    intro es
    induction es with
    | nil => intro h; cases h
    | cons x es ih =>
     intro h
     simp only [lk] at h
     split at h
     ·rename_i q; cases h; exact ⟨x, by simp, q, rfl⟩
     ·obtain ⟨y, hy, e⟩ := ih h; exact ⟨y, by simp [hy], e⟩
   exact this _ hl
  have sm := g.small q hq
  rw [he, hd] at sm
  simp only [Option.bind_some, if_true]
  rw [w64 _ (by omega)]; simp
def PS.lay (p : PS) (n d : ByteArray) : PS := { p with es := pt n d p.cl p.es, cl := clk n p.es p.cl }
theorem lay_spec {k : Nat} (D : CallF) {h : AHeap} {sb rb : Nat} {p : PS} (s : SR h sb rb p) (g : Good p.es p.cl) {n d : ByteArray} (hn : n.size ≤ 96) (hd : d.size ≤ 131072) (hl : p.es.length ≤ 1048576) :
  Gx.Wp (store_Store_lay k D (some ⟨sb, 0, none⟩) n d h) fun q => Chg (SB sb rb) h q.2 ∧ SR q.2 sb rb (p.lay n d) ∧ Good (p.lay n d).es (p.lay n d).cl := by
 simp only [store_Store_lay]
 refine Gx.Wp.bnd (room_spec D s g n) ?_
 obtain ⟨e, hb⟩ := s.blk
 have t1 := tot_le g
 have t2 := room_le (n := n) p.es
 have t3 := tot_pt (n := n) (d := d) (cl := p.cl) p.es
 refine Gx.Wp.bnd rfl (Gx.Wp.bnd (sldI_at hb rfl) (Gx.Wp.gp (ssw1 ?_) ?_))
 ·exact bnd (sldI_at hb rfl) rfl
 refine Gx.Wp.bnd rfl ?_
 dsimp only
 rw [w64 ((n.size : Int) + d.size) (by omega), w64 ((n.size : Int) + d.size - _) (by omega), w64 _ (by omega)]
 refine Gx.Wp.bnd (st1_sb hb (by show 0 + 1 < 6; omega) rfl) ?_
 have hne := s.ne
 have hm1 : (h.set sb (.cells ([Value.int .i64 p.quota, .int .i64 (tot p.es), .int .i64 p.fails, .bool p.down, .map (some rb), .int .i64 p.calls].set 1 (.int .i64 ((tot p.es : Int) + ((n.size : Int) + (d.size : Int) - (room n p.es : Int))))) e true 0)).get rb = some (.map (p.es.map encE) p.cl) := by
  simp only [AHeap.get_set]; rw [if_neg (fun q => hne q.symm)]; exact s.mp
 refine Gx.Wp.bnd rfl (Gx.Wp.bnd (ldM_at (m := some rb) (sset_get h sb _) rfl) (Gx.Wp.bnd rfl (Gx.Wp.bnd (upd_at hm1 n d) (Gx.Wp.of ⟨?_, ?_, g.pt hn hd⟩))))
 ·exact (Chg.set (.inr (.inl rfl))).trans (Chg.set (.inr (.inr rfl)))
 ·refine ⟨⟨e, ?_⟩, by simp only [AHeap.get_set, if_true]; rfl, by simpa using s.lt⟩
  simp only [AHeap.get_set]
  rw [if_neg hne, if_true]
  have : (tot p.es : Int) + ((n.size : Int) + (d.size : Int) - (room n p.es : Int)) = (tot (pt n d p.cl p.es) : Int) := by omega
  rw [this]; rfl
end Gs
namespace Gs
open Go Gx
def ba (l : List UInt8) : ByteArray := ⟨⟨l⟩⟩
def nm (es : List En) : List ByteArray := (((es.map (·.1)).map bl).mergeSort leB).map ba
theorem srt_nm (es : List En) : srt (es.map (·.1)) = (nm es).map encS := by
 simp only [srt, nm, List.map_map]; rfl
theorem nm_len (es : List En) : (nm es).length = es.length := by simp [nm]
theorem unstrs_enc (es : List En) : keysL (es.map encE) = some (es.map (·.1)) := by
 have : (es.map encE).map (·.1) = (es.map (·.1)).map Value.string := by simp [encE]
 simp only [keysL, this, unstrs_map]
theorem sizes_of : ∀ {l : List ByteArray}, (∀ s ∈ l, s.size ≤ 9223372036854775807) → sizesOk l = true
 | [], _ => rfl
 | s :: l, h => by
  have h2 : sizesOk l = true := sizes_of fun x hx => h x (List.mem_cons_of_mem _ hx)
  simp only [sizesOk, decide_eq_true (h s (by simp)), h2]; rfl
theorem mapGood_of {es : List En} {cl : Nat} (g : Good es cl) (hl : es.length ≤ 8796093022208) : mapGood (es.map encE) cl (es.map (·.1)) = true := by
 have e1 : (es.map encE).map (·.2.2) = es.map (·.2.2) := by simp [encE]
 simp only [mapGood, e1, Bool.and_eq_true, decide_eq_true_eq, List.all_eq_true]
 refine ⟨⟨⟨⟨sizes_of fun s hs => ?_, g.keys⟩, g.births⟩, fun x hx => ?_⟩, by simp; omega⟩
 ·obtain ⟨e, he, rfl⟩ := List.mem_map.1 hs
  have := (g.small e he).1; omega
 ·obtain ⟨e, he, rfl⟩ := List.mem_map.1 hx
  exact g.old e he
theorem sorted_at {h : AHeap} {bx rb cl : Nat} {es : List En} {t : TypeId} (hb : h.get bx = some (.cells [.map (some rb)] t true 0)) (hm : h.get rb = some (.map (es.map encE) cl)) (g : Good es cl) (hl : es.length ≤ 8796093022208) :
  ∃ s h', sortedA 105 9 [.func (.func 105) ⟨[]⟩ ⟨[.pointer (some ⟨bx, 0, none⟩)]⟩] h = some (s, h') ∧ Keeps h h' ∧ Acc encS 9 h.next h' s (nm es) := by
 have hbm : boxMap h bx = some (some rb) := by simp only [boxMap, hb]
 cases es with
 | nil =>
  have hn0 : nm [] = [] := List.eq_nil_of_length_eq_zero (nm_len [])
  refine ⟨⟨none, 0, 0⟩, h, ?_, Chg.refl _ _, by rw [hn0]; exact Acc.nil _ _ _ _⟩
  have hg := mapGood_of g hl
  simp only [sortedA, hbm, hm, unstrs_enc, hg]; rfl
 | cons e es =>
  have hg := mapGood_of g hl
  have hne : nm (e :: es) ≠ [] := fun q => by have := nm_len (e :: es); rw [q] at this; simp at this
  refine ⟨⟨some ⟨h.next, 0, some 2⟩, (nm (e :: es)).length, (nm (e :: es)).length⟩, h.new (outB encS 9 (nm (e :: es))), ?_, Keeps.new h _, ⟨.inr ⟨h.next, Grown.of hne⟩, fun a ha => by cases ha; simp⟩⟩
  have hs := srt_nm (e :: es)
  simp only [sortedA, hbm, hm, unstrs_enc, hg]
  simp only [List.map_cons] at hs ⊢
  simp only [cond_true, decide_true, Bool.and_self, hs, nm_len, List.length_cons, List.length_map, outB]
theorem Names_spec {k : Nat} (D : CallF) {h : AHeap} {sb rb : Nat} {p : PS} (s : SR h sb rb p) (g : Good p.es p.cl) (hl : p.es.length ≤ 8796093022208) :
  Gx.Wp (store_Store_Names k D (some ⟨sb, 0, none⟩) h) fun q => Keeps h q.2 ∧ Acc encS 9 h.next q.2 q.1 (nm p.es) := by
 obtain ⟨e, hb⟩ := s.blk
 simp only [store_Store_Names, maps_Keys_map_string_string_string_string]
 have k1 : Keeps h (h.new (.cells [.map (some rb)] 99 true 0)) := Keeps.new h _
 obtain ⟨sl, h', e1, k2, A⟩ := sorted_at (bx := h.next) (t := 99) (h := h.new (.cells [.map (some rb)] 99 true 0)) (by simp) (s.keeps k1).mp g hl
 refine Gx.Wp.bnd rfl (Gx.Wp.bnd (ldM_at (m := some rb) hb rfl) (Gx.Wp.bnd rfl (Gx.Wp.bnd e1 (Gx.Wp.of ⟨k1.trans k2, A.st, fun a ha => ⟨(A.lt a ha).1, ?_⟩⟩))))
 have := (A.lt a ha).2
 simp at this; omega
def starts (b n : ByteArray) : Bool := decide ((bl n).take b.size = bl b)
theorem starts_short {b n : ByteArray} (h : n.size < b.size) : starts b n = false := by
 apply decide_eq_false
 intro q
 have := congrArg List.length q
 have h1 : (bl n).length = n.size := rfl
 have h2 : (bl b).length = b.size := rfl
 simp at this; omega
theorem starts_sub {b n : ByteArray} (h : b.size ≤ n.size) : ∃ s, Gx.subS n none (some (b.size : Int)) = some s ∧ (s == b) = starts b n := by
 refine ⟨_, subS_of (i := 0) (j := b.size) rfl rfl (Nat.zero_le _) h, ?_⟩
 rw [ba_beq]
 unfold starts
 have : ((⟨⟨((bl n).take b.size).drop 0⟩⟩ : ByteArray) = b) ↔ (bl n).take b.size = bl b := by
  rw [List.drop_zero]
  exact ⟨fun q => congrArg bl q, fun q => by rw [q]; rfl⟩
 by_cases q : (bl n).take b.size = bl b
 ·rw [decide_eq_true q, decide_eq_true (this.2 q)]
 ·rw [decide_eq_false q, decide_eq_false fun e => q (this.1 e)]
theorem hasPrefix_spec {k : Nat} (D : CallF) (n b : ByteArray) (h : AHeap) : strings_HasPrefix k D n b h = some (starts b n, h) := by
 simp only [strings_HasPrefix, internal_stringslite_HasPrefix]
 by_cases q : b.size ≤ n.size
 ·obtain ⟨s, e1, e2⟩ := starts_sub q
  rw [if_pos (by simp; omega), e1]
  simp [e2]
 ·rw [if_neg (by simp; omega), starts_short (by omega)]; rfl
theorem encS_one (x : ByteArray) : one (encS x) = true := rfl
theorem list_l0 (K : Nat) (D : CallF) (bot) {b : ByteArray} {h0 h1 : AHeap} (_k0 : Keeps h0 h1) {sl : Slc} {ns : List ByteArray} (A0 : Acc encS 9 h0.next h1 sl ns) (hn : ns.length ≤ 1048576) :
  ∀ (d i : Nat) (o : Slc) (out : List ByteArray) (h : AHeap), i + d = ns.length → out.length ≤ i → Keeps h1 h → Acc encS 9 h1.next h o out →
   Gx.Wp (iterK bot (d + 1) (store_Store_list_l0b K D fun (out1 : Slc) (h2 : AHeap) => some (out1, h2)) b o sl (sl.len : Int) (i : Int) h) fun q => Keeps h1 q.2 ∧ Acc encS 9 h1.next q.2 q.1 (out ++ (ns.drop i).filter (starts b)) := fun d => by
 have len : sl.len = ns.length := A0.row.1
 induction d with
 | zero =>
  intro i o out h hi ho kp A
  rw [iterK_s]; simp only [store_Store_list_l0b]
  obtain rfl : i = ns.length := by omega
  refine Gx.Wp.ifn (by rw [len]; simp) (Gx.Wp.of ⟨kp, ?_⟩)
  simpa using A
 | succ d ih =>
  intro i o out h hi ho kp A
  rw [iterK_s]; simp only [store_Store_list_l0b]
  refine Gx.Wp.ifp (by rw [len]; simp; omega) ?_
  refine Gx.Wp.jn fun j hj => ?_
  obtain ⟨x, hx⟩ := isome (l := ns) (i := i) (by omega)
  obtain ⟨q, q1, q2⟩ := (A0.row.keeps kp).ldS hx
  refine Gx.Wp.bnd q1 (Gx.Wp.bnd q2 (Gx.Wp.bnd (hasPrefix_spec D x b h) ?_))
  rw [dropc hx]
  cases hst : starts b x with
  | true =>
   refine Gx.Wp.ifp rfl ?_
   refine Gx.Wp.bnd rdS_one ?_
   obtain ⟨s', h', a1, A2, c2, _⟩ := A.push encS_one x (bytes := 16) (by omega) (by decide) kp.nx
   refine Gx.Wp.bnd a1 ?_
   subst hj
   simp only
   rw [Gx.w1 (by omega), List.filter_cons_of_pos hst, show out ++ x :: (ns.drop (i + 1)).filter (starts b) = (out ++ [x]) ++ (ns.drop (i + 1)).filter (starts b) by simp]
   exact ih (i + 1) s' (out ++ [x]) h' (by omega) (by simp; omega) (Chg.beh kp c2 fun y hy ⟨a, ha, e⟩ => by have := (A.lt a ha).2; omega) A2
  | false =>
   refine Gx.Wp.ifn (fun q => by cases q) ?_
   subst hj
   simp only
   rw [Gx.w1 (by omega), List.filter_cons_of_neg (by rw [hst]; decide)]
   exact ih (i + 1) o out h (by omega) (by omega) kp A
theorem list_spec {k : Nat} (D : CallF) {h : AHeap} {sb rb : Nat} {p : PS} (s : SR h sb rb p) (g : Good p.es p.cl) (b : ByteArray) (hl : p.es.length ≤ 1048576) (hk : p.es.length < k) :
  Gx.Wp (store_Store_list k D (some ⟨sb, 0, none⟩) b h) fun q => Keeps h q.2 ∧ Acc encS 9 h.next q.2 q.1 ((nm p.es).filter (starts b)) := by
 simp only [store_Store_list]
 refine Gx.Wp.jn fun j hj => ?_
 refine Gx.Wp.call (Names_spec D s g (by omega)) fun r hr => ?_
 obtain ⟨k1, A⟩ := hr
 unfold store_Store_list_l0
 obtain ⟨bot, eb⟩ := iterK_of (fun _ _ _ _ _ _ => none) (store_Store_list_l0b k D j) (show (nm p.es).length + 1 ≤ k by rw [nm_len]; omega)
 rw [eb]
 subst hj
 refine Gx.Wp.mono (list_l0 k D bot k1 A (by rw [nm_len]; exact hl) _ 0 _ [] r.2 (by omega) (by simp) (Chg.refl _ _) (Acc.nil _ _ _ _)) fun q hq => ?_
 obtain ⟨k2, A2⟩ := hq
 refine ⟨k1.trans k2, by simpa using A2.st, fun a ha => ⟨(A2.lt a ha).1, ?_⟩⟩
 have := (A2.lt a ha).2
 have := k1.nx; omega
end Gs
namespace Gs
open Go Gx
def nob : ByteArray := ⟨#[]⟩
def PS.putS (p : PS) (n d : ByteArray) : PS × Nat :=
 if fitsC n d ≠ 0 then (p, fitsC n d) else if p.quota + room n p.es < tot p.es + (n.size + d.size) then (p, 71) else (p.lay n d, 0)
def PS.delS (p : PS) (n : ByteArray) : PS × Nat := if (lk n p.es).isSome then ({ p with es := rm n p.es }, 0) else (p, 5)
def PS.up (p : PS) : PS := { p with calls := p.calls + 1 }
def PS.doS (p : PS) (kind : Int) (n d : ByteArray) : PS × Nat × ByteArray × List ByteArray :=
 if p.down = true then (p.up, 70, nob, [])
 else if 0 < p.fails then ({ p.up with fails := p.fails - 1 }, 72, nob, [])
 else if kind = 1 then ((p.up.putS n d).1, (p.up.putS n d).2, nob, [])
 else if kind = 2 then (if (lk n p.es).isSome then (p.up, 0, (lk n p.es).getD nob, []) else (p.up, 5, nob, []))
 else if kind = 3 then (p.up, 0, nob, (nm p.es).filter (starts n))
 else if kind = 4 then ((p.up.delS n).1, (p.up.delS n).2, nob, [])
 else (p.up, 3, nob, [])
theorem put_spec {k : Nat} (D : CallF) {h : AHeap} {sb rb : Nat} {p : PS} (s : SR h sb rb p) (g : Good p.es p.cl) (n d : ByteArray) (hl : p.es.length ≤ 1048576) (_hq : p.quota ≤ 1073741824) (hk : n.size < k) (hs : n.size ≤ 9223372036854775807) :
  Gx.Wp (store_Store_put k D (some ⟨sb, 0, none⟩) n d h) fun q => q.1 = ((p.putS n d).2 : Int) ∧ Chg (SB sb rb) h q.2 ∧ SR q.2 sb rb (p.putS n d).1 ∧ Good (p.putS n d).1.es (p.putS n d).1.cl := by
 simp only [store_Store_put]
 refine Gx.Wp.call (fits_spec D n d hk hs) fun r hr => ?_
 obtain ⟨r1, k1⟩ := hr
 rw [r1]
 by_cases q : fitsC n d = 0
 ·have eP : p.putS n d = if p.quota + room n p.es < tot p.es + (n.size + d.size) then (p, 71) else (p.lay n d, 0) := if_neg fun z => z q
  rw [eP, q]
  refine Gx.Wp.ifn (by decide) ?_
  have s1 := s.keeps k1
  obtain ⟨f1, f2, _⟩ := fits0 q
  refine Gx.Wp.bnd (room_spec D s1 g n) ?_
  obtain ⟨e, hb⟩ := s1.blk
  have t1 := tot_le g
  have t2 := room_le (n := n) p.es
  refine Gx.Wp.bnd rfl (Gx.Wp.bnd (sldI_at hb rfl) (Gx.Wp.gp (ssw1 (bnd (sldI_at hb rfl) rfl)) ?_))
  refine Gx.Wp.bnd rfl (Gx.Wp.bnd (sldI_at hb rfl) (Gx.Wp.gp (ssw1 (bnd (sldI_at hb rfl) rfl)) ?_))
  dsimp only
  rw [w64 ((tot p.es : Int) - room n p.es) (by omega), w64 ((tot p.es : Int) - room n p.es + n.size) (by omega), w64 _ (by omega)]
  by_cases c : p.quota + room n p.es < tot p.es + (n.size + d.size)
  ·refine Gx.Wp.ifp (by simp; omega) ?_
   rw [if_pos c]
   exact Gx.Wp.of ⟨rfl, Chg.keeps k1, s1, g⟩
  ·refine Gx.Wp.ifn (by simp; omega) ?_
   rw [if_neg c]
   refine Gx.Wp.call (lay_spec D s1 g f1 f2 hl) fun r2 h2 => Gx.Wp.of ⟨rfl, (Chg.keeps k1).trans h2.1, h2.2.1, h2.2.2⟩
 ·have eP : p.putS n d = (p, fitsC n d) := if_pos q
  rw [eP]
  exact Gx.Wp.ifp (by simp; omega) (Gx.Wp.of ⟨rfl, Chg.keeps k1, s.keeps k1, g⟩)
theorem del_spec {k : Nat} (D : CallF) {h : AHeap} {sb rb : Nat} {p : PS} (s : SR h sb rb p) (g : Good p.es p.cl) (n : ByteArray) (hl : p.es.length ≤ 1048576) :
  Gx.Wp (store_Store_del k D (some ⟨sb, 0, none⟩) n h) fun q => q.1 = ((p.delS n).2 : Int) ∧ Chg (SB sb rb) h q.2 ∧ SR q.2 sb rb (p.delS n).1 ∧ Good (p.delS n).1.es (p.delS n).1.cl := by
 obtain ⟨e, hb⟩ := s.blk
 simp only [store_Store_del]
 refine Gx.Wp.bnd rfl (Gx.Wp.bnd (ldM_at (m := some rb) hb rfl) ?_)
 unfold PS.delS
 have t1 := tot_le g
 have t2 := tot_rm (n := n) p.es
 cases hl2 : lk n p.es with
 | none =>
  refine Gx.Wp.bnd (look_none s.mp hl2) (Gx.Wp.ifp rfl (Gx.Wp.of ⟨rfl, Chg.refl _ _, s, g⟩))
 | some x =>
  refine Gx.Wp.bnd (look_some s.mp hl2) (Gx.Wp.ifn (fun q => by cases q) ?_)
  refine Gx.Wp.bnd (room_spec D s g n) (Gx.Wp.bnd rfl (Gx.Wp.bnd (sldI_at hb rfl) (Gx.Wp.gp (ssw1 (bnd (sldI_at hb rfl) rfl)) ?_)))
  dsimp only
  rw [w64 _ (by omega)]
  have hne := s.ne
  refine Gx.Wp.bnd rfl (Gx.Wp.bnd (st1_sb hb (by show 0 + 1 < 6; omega) rfl) (Gx.Wp.bnd rfl (Gx.Wp.bnd (ldM_at (m := some rb) (sset_get h sb _) rfl) ?_)))
  refine Gx.Wp.bnd (del_at (es := p.es) (cl := p.cl) (by simp only [AHeap.get_set]; rw [if_neg (fun q => hne q.symm)]; exact s.mp) n) (Gx.Wp.of ⟨rfl, (Chg.set (.inr (.inl rfl))).trans (Chg.set (.inr (.inr rfl))), ⟨⟨e, ?_⟩, by simp only [AHeap.get_set, if_true]; rfl, by simpa using s.lt⟩, g.rm n⟩)
  simp only [AHeap.get_set]
  rw [if_neg hne, if_true]
  have : (tot p.es : Int) - (room n p.es : Int) = (tot (rm n p.es) : Int) := by omega
  rw [this]; rfl
theorem fin3 {H : AHeap} {b : Nat} {c : List Value} {e : TypeId} (hb : H.get b = some (.cells c e true 0)) (hc : c.length = 3) (cd : Int) (dt : ByteArray) (s : Slc) {Q : ((Int × ByteArray × Slc) × AHeap) → Prop}
  (hQ : Q ((cd, dt, s), H.set b (.cells [.int .i64 cd, .string dt, .slice s.a s.len s.cap] e true 0))) :
  Gx.Wp ((Gx.stL 3 (⟨b, 0, none⟩ : Addr) ([.int .i64 cd, .string dt, .slice s.a s.len s.cap]) H).bind fun h7 => (Gx.ldA 3 (⟨b, 0, none⟩ : Addr) h7).bind fun l8 => (decC [.i .i64, .s, .l] l8).bind fun x9 => some ((x9.1, x9.2.1, x9.2.2), h7)) Q := by
 refine Gx.Wp.bnd (sstL_at hb hc rfl rfl (by decide)) ?_
 refine Gx.Wp.bnd (sldA_at (sset_get H b _) rfl) ?_
 exact Gx.Wp.bnd rfl (Gx.Wp.of hQ)
end Gs
namespace Gs
open Go Gx
theorem SR.other {h : AHeap} {sb rb b : Nat} {B : ABlk} {p : PS} (s : SR h sb rb p) (h1 : b ≠ sb) (h2 : b ≠ rb) : SR (h.set b B) sb rb p := by
 obtain ⟨e, hb⟩ := s.blk
 exact ⟨⟨e, by simp only [AHeap.get_set]; rw [if_neg (fun q => h1 q.symm)]; exact hb⟩, by simp only [AHeap.get_set]; rw [if_neg (fun q => h2 q.symm)]; exact s.mp, s.lt⟩
theorem ldS_at {h : AHeap} {b o : Nat} {sp : Option Nat} {c : List Value} {e : TypeId} {r : Bool} {fz : Nat} {m : ByteArray} (hb : h.get b = some (.cells c e r fz)) (hc : c[o]? = some (.string m)) : Gx.ldS ⟨b, o, sp⟩ h = some m := by
 simp only [Gx.ldS, AHeap.rd1, hb, hc]; rfl
def DoQ (h : AHeap) (sb rb : Nat) (p : PS) (kind : Int) (n d : ByteArray) (q : (Int × ByteArray × Slc) × AHeap) : Prop :=
 q.1.1 = ((p.doS kind n d).2.1 : Int) ∧ q.1.2.1 = (p.doS kind n d).2.2.1 ∧ Acc encS 9 h.next q.2 q.1.2.2 (p.doS kind n d).2.2.2 ∧ Chg (SB sb rb) h q.2 ∧ SR q.2 sb rb (p.doS kind n d).1 ∧ Good (p.doS kind n d).1.es (p.doS kind n d).1.cl
theorem acc0 {h h' : AHeap} : Acc encS 9 h.next h' ⟨none, 0, 0⟩ [] := Acc.nil _ _ _ _
theorem Do_spec {k : Nat} (D : CallF) {h : AHeap} {sb rb : Nat} {p : PS} (s : SR h sb rb p) (g : Good p.es p.cl) (st kind : Int) (n d : ByteArray) (hl : p.es.length ≤ 1048576) (hq : p.quota ≤ 1073741824) (hc : p.calls ≤ 1099511627776) (hf : p.fails ≤ 1048576)
  (hk : kind = 1 → n.size < k) (hs : kind = 1 → n.size ≤ 9223372036854775807) (hk2 : p.es.length < k) :
  Gx.Wp (store_Store_Do k D (some ⟨sb, 0, none⟩) (st, kind, n, d) h) (DoQ h sb rb p kind n d) := by
 simp only [store_Store_Do, sync_atomic_Int64_Add]
 obtain ⟨H1, e1⟩ : ∃ H1, H1 = h.new (.cells [.int .i64 st, .int .i64 kind, .string n, .string d] 32 true 0) := ⟨_, rfl⟩
 rw [← e1]
 obtain ⟨H2, e2⟩ : ∃ H2, H2 = H1.new (.cells [.int .i64 0, .string ⟨#[]⟩, .slice none 0 0] 29 true 0) := ⟨_, rfl⟩
 rw [← e2]
 have k1 : Keeps h H1 := e1 ▸ Keeps.new h _
 have k2 : Keeps h H2 := k1.trans (e2 ▸ Keeps.new H1 _)
 have n1 : H1.next = h.next + 1 := by rw [e1]; rfl
 have n2 : H2.next = h.next + 2 := by rw [e2]; simp [n1]
 have rq : H2.get h.next = some (.cells [.int .i64 st, .int .i64 kind, .string n, .string d] 32 true 0) := by
  rw [e2]; simp only [AHeap.get_new]; rw [if_neg (by omega), e1]; simp
 have rs : H2.get H1.next = some (.cells [.int .i64 0, .string ⟨#[]⟩, .slice none 0 0] 29 true 0) := by rw [e2]; simp
 have s2 := s.keeps k2
 obtain ⟨lt1, lt2⟩ := s.lt
 obtain ⟨e, hb⟩ := s2.blk
 refine Gx.Wp.bnd rfl ?_
 have add : ((some (⟨sb, 0 + 5, none⟩ : Addr)).bind fun p1 => (ldI .i64 (⟨p1.block, p1.off + 0, none⟩ : Addr) H2).bind fun x2 => (Gx.st1 (⟨p1.block, p1.off + 0, none⟩ : Addr) (.int .i64 (IntKind.wrap .i64 (x2 + 1))) H2).bind fun h3 => some ((IntKind.wrap .i64 (x2 + 1)), h3)) =
   some (((p.calls + 1 : Nat) : Int), H2.set sb (.cells [.int .i64 p.quota, .int .i64 (tot p.es), .int .i64 p.fails, .bool p.down, .map (some rb), .int .i64 ((p.calls + 1 : Nat) : Int)] e true 0)) := by
  refine bnd rfl (bnd (sldI_at hb rfl) ?_)
  rw [w64 _ (by omega)]
  exact bnd (st1_sb hb (by show 5 < 6; omega) rfl) rfl
 refine Gx.Wp.bnd add ?_
 obtain ⟨H, eH⟩ : ∃ H, H = H2.set sb (.cells [.int .i64 p.quota, .int .i64 (tot p.es), .int .i64 p.fails, .bool p.down, .map (some rb), .int .i64 ((p.calls + 1 : Nat) : Int)] e true 0) := ⟨_, rfl⟩
 dsimp only
 rw [← eH]
 have cH : Chg (SB sb rb) h H := (Chg.keeps k2).trans (eH ▸ Chg.set (.inr (.inl rfl)))
 have nH : H.next = h.next + 2 := by rw [eH]; exact n2
 have hbH : H.get sb = some (.cells [.int .i64 p.quota, .int .i64 (tot p.es), .int .i64 p.fails, .bool p.down, .map (some rb), .int .i64 ((p.calls + 1 : Nat) : Int)] e true 0) := by rw [eH]; simp
 have oth : ∀ y, y ≠ sb → H.get y = H2.get y := fun y hy => by rw [eH]; simp [hy]
 have sH : SR H sb rb p.up := ⟨⟨e, hbH⟩, by rw [oth _ (fun q => s.ne q.symm)]; exact s2.mp, by omega⟩
 have rqH : H.get h.next = some (.cells [.int .i64 st, .int .i64 kind, .string n, .string d] 32 true 0) := by rw [oth _ (by omega)]; exact rq
 have rsH : H.get H1.next = some (.cells [.int .i64 0, .string ⟨#[]⟩, .slice none 0 0] 29 true 0) := by rw [oth _ (by omega)]; exact rs
 have ne1 : H1.next ≠ sb := by omega
 have ne2 : H1.next ≠ rb := by omega
 have fin : ∀ (K : AHeap) (p' : PS) (cd : Nat) (dt : ByteArray) (sl : Slc) (l : List ByteArray), Chg (SB sb rb) H K → SR K sb rb p' → Good p'.es p'.cl → Acc encS 9 H.next K sl l → p.doS kind n d = (p', cd, dt, l) →
   Gx.Wp ((Gx.stL 3 (⟨H1.next, 0, none⟩ : Addr) ([.int .i64 (cd : Int), .string dt, .slice sl.a sl.len sl.cap]) K).bind fun h7 => (Gx.ldA 3 (⟨H1.next, 0, none⟩ : Addr) h7).bind fun l8 => (decC [.i .i64, .s, .l] l8).bind fun x9 => some ((x9.1, x9.2.1, x9.2.2), h7)) (DoQ h sb rb p kind n d) := by
  intro K p' cd dt sl l cK sK gK AK eq
  have rsK : K.get H1.next = some (.cells [.int .i64 0, .string ⟨#[]⟩, .slice none 0 0] 29 true 0) := by
   rw [cK.oth _ (by omega) (by rintro (q | q) <;> omega)]; exact rsH
  refine fin3 rsK rfl _ _ _ ?_
  unfold DoQ
  rw [eq]
  refine ⟨rfl, rfl, ⟨?_, fun a ha => ⟨(AK.lt a ha).1, by have := (AK.lt a ha).2; omega⟩⟩, Chg.beh (T := fun y => y = H1.next) (cH.trans cK) (Chg.set (.inr rfl)) (fun x hx q => by omega), sK.other ne1 ne2, gK⟩
  exact (AK.chg (S := fun y => y = H1.next) (Chg.set (.inr rfl)) fun a ha q => by have := (AK.lt a ha).2; omega).st
 have ans : ∀ (p' : PS) (cd : Nat) (dt : ByteArray), SR H sb rb p' → Good p'.es p'.cl → p.doS kind n d = (p', cd, dt, []) →
   Gx.Wp ((Gx.stL 3 (⟨H1.next, 0, none⟩ : Addr) ([.int .i64 (cd : Int), .string dt, .slice none 0 0]) H).bind fun h7 => (Gx.ldA 3 (⟨H1.next, 0, none⟩ : Addr) h7).bind fun l8 => (decC [.i .i64, .s, .l] l8).bind fun x9 => some ((x9.1, x9.2.1, x9.2.2), h7)) (DoQ h sb rb p kind n d) :=
  fun p' cd dt s' g' eq => fin H p' cd dt ⟨none, 0, 0⟩ [] (Chg.refl _ _) s' g' acc0 eq
 refine Gx.Wp.bnd rfl (Gx.Wp.bnd (ldB_at hbH rfl) ?_)
 by_cases c1 : p.down = true
 ·refine Gx.Wp.ifp c1 (ans p.up 70 nob sH g ?_)
  unfold PS.doS; rw [if_pos c1]
 refine Gx.Wp.ifn c1 (Gx.Wp.bnd rfl (Gx.Wp.bnd (sldI_at hbH rfl) ?_))
 by_cases c2 : 0 < p.fails
 ·refine Gx.Wp.ifp (by simp; omega) ?_
  refine Gx.Wp.bnd rfl (Gx.Wp.bnd (sldI_at hbH rfl) (Gx.Wp.bnd rfl ?_))
  rw [w64 _ (by omega)]
  refine Gx.Wp.bnd (st1_sb hbH (by show 0 + 2 < 6; omega) rfl) ?_
  refine fin _ { p.up with fails := p.fails - 1 } 72 nob ⟨none, 0, 0⟩ [] (Chg.set (.inr (.inl rfl))) ⟨⟨e, ?_⟩, ?_, sH.lt⟩ g acc0 ?_
  ·rw [sset_get]
   have : ((p.fails : Int) - 1) = ((p.fails - 1 : Nat) : Int) := by omega
   rw [this]; rfl
  ·simp only [AHeap.get_set]; rw [if_neg (fun q => s.ne q.symm)]; exact sH.mp
  ·unfold PS.doS; rw [if_neg c1, if_pos c2]
 refine Gx.Wp.ifn (by simp; omega) ?_
 refine Gx.Wp.bnd (sldI_at rqH rfl) ?_
 by_cases c3 : kind = 1
 ·refine Gx.Wp.ifp (by simpa using c3) ?_
  refine Gx.Wp.bnd (ldS_at rqH rfl) (Gx.Wp.bnd (ldS_at rqH rfl) ?_)
  refine Gx.Wp.call (put_spec D sH g n d hl hq (hk c3) (hs c3)) fun r hr => ?_
  obtain ⟨r1, r2, r3, r4⟩ := hr
  rw [r1]
  refine fin r.2 _ _ nob ⟨none, 0, 0⟩ [] r2 r3 r4 acc0 ?_
  unfold PS.doS; rw [if_neg c1, if_neg c2, if_pos c3]
 refine Gx.Wp.ifn (by simpa using c3) ?_
 by_cases c4 : kind = 2
 ·refine Gx.Wp.ifp (by simpa using c4) ?_
  refine Gx.Wp.bnd rfl (Gx.Wp.bnd (ldM_at (m := some rb) hbH rfl) (Gx.Wp.bnd (ldS_at rqH rfl) ?_))
  cases hl2 : lk n p.es with
  | none =>
   refine Gx.Wp.bnd (look_none sH.mp hl2) (Gx.Wp.ifp rfl (ans p.up 5 nob sH g ?_))
   unfold PS.doS; rw [if_neg c1, if_neg c2, if_neg c3, if_pos c4, hl2]; rfl
  | some x =>
   refine Gx.Wp.bnd (look_some sH.mp hl2) (Gx.Wp.ifn (fun q => by cases q) (ans p.up 0 x sH g ?_))
   unfold PS.doS; rw [if_neg c1, if_neg c2, if_neg c3, if_pos c4, hl2]; rfl
 refine Gx.Wp.ifn (by simpa using c4) ?_
 by_cases c5 : kind = 3
 ·refine Gx.Wp.ifp (by simpa using c5) ?_
  refine Gx.Wp.bnd (ldS_at rqH rfl) ?_
  refine Gx.Wp.call (list_spec D sH g n hl hk2) fun r hr => ?_
  obtain ⟨r1, r2⟩ := hr
  refine fin r.2 p.up 0 nob r.1 _ (Chg.keeps r1) (sH.keeps r1) g r2 ?_
  unfold PS.doS; rw [if_neg c1, if_neg c2, if_neg c3, if_neg c4, if_pos c5]; rfl
 refine Gx.Wp.ifn (by simpa using c5) ?_
 by_cases c6 : kind = 4
 ·refine Gx.Wp.ifp (by simpa using c6) ?_
  refine Gx.Wp.bnd (ldS_at rqH rfl) ?_
  refine Gx.Wp.call (del_spec D sH g n hl) fun r hr => ?_
  obtain ⟨r1, r2, r3, r4⟩ := hr
  rw [r1]
  refine fin r.2 _ _ nob ⟨none, 0, 0⟩ [] r2 r3 r4 acc0 ?_
  unfold PS.doS; rw [if_neg c1, if_neg c2, if_neg c3, if_neg c4, if_neg c5, if_pos c6]
 refine Gx.Wp.ifn (by simpa using c6) (ans p.up 3 nob sH g ?_)
 unfold PS.doS; rw [if_neg c1, if_neg c2, if_neg c3, if_neg c4, if_neg c5, if_neg c6]
end Gs
namespace Gs
open Go Gx
def ps0 (q : Nat) : PS := ⟨q, 0, 0, false, [], 0⟩
theorem good0 : Good [] 0 := ⟨by simp, by simp, by simp, by simp⟩
theorem New_bad {k : Nat} (D : CallF) {h : AHeap} {q : Int} (hq : q < 0 ∨ 1073741824 < q) : store_New k D q h = some ((none, 1), h) := by
 simp only [store_New]
 refine jn ?_
 by_cases c : q < 0
 ·exact ifp (by simpa using c) (ifp rfl rfl)
 ·exact ifn (by simpa using c) (ifp (by simp; omega) rfl)
theorem New_spec {k : Nat} (D : CallF) {h : AHeap} {q : Nat} (hq : q ≤ 1073741824) : ∃ h', store_New k D (q : Int) h = some ((some ⟨h.next + 1, 0, none⟩, 0), h') ∧ Keeps h h' ∧ SR h' (h.next + 1) h.next (ps0 q) := by
 refine ⟨(h.new (.map [] 0)).new (.cells [.int .i64 (q : Int), .int .i64 0, .int .i64 0, .bool false, .map (some h.next), .int .i64 0] 106 true 0), ?_, (Keeps.new h _).trans (Keeps.new _ _), ⟨106, ?_⟩, ?_, ?_⟩
 ·simp only [store_New]
  refine jn ?_
  refine ifn (by simp) ?_
  rw [decide_eq_false (by omega)]
  exact ifn (by decide) rfl
 ·rw [AHeap.get_new, AHeap.next_new, if_pos rfl]; rfl
 ·simp only [AHeap.get_new, AHeap.next_new]; rw [if_neg (by omega), if_true]; rfl
 ·simp only [AHeap.next_new]; omega
theorem sameS_spec {k : Nat} (D : CallF) {h : AHeap} {a b : Slc} {xs : List ByteArray} (Ra : Row encS h a xs) (Rb : Row encS h b xs) (hk : xs.length < k) (hs : xs.length < 9223372036854775807) : book_SameTexts k D a b h = some (true, h) := by
 unfold book_SameTexts
 refine ifn (by rw [Ra.1, Rb.1]; simp) ?_
 refine jn ?_
 unfold book_SameTexts_l0
 obtain ⟨bot, hbot⟩ := iterK_of (fun _ _ _ _ => none) (book_SameTexts_l0b k D fun h1 => some (true, h1)) (show xs.length + 1 ≤ k by omega)
 rw [hbot]
 have go : ∀ m i : Nat, i + m = xs.length → iterK bot (m + 1) (book_SameTexts_l0b k D fun h1 => some (true, h1)) a b (i : Int) h = some (true, h) := by
  intro m
  induction m with
  | zero => intro i hi; rw [iterK_s, book_SameTexts_l0b]; exact ifn (by rw [Ra.1]; simp; omega) rfl
  | succ m ih =>
   intro i hi
   obtain ⟨x, hx⟩ := isome (l := xs) (i := i) (by omega)
   obtain ⟨q, hq, hld⟩ := Ra.ldS hx
   obtain ⟨q2, hq2, hld2⟩ := Rb.ldS hx
   have w : IntKind.wrap .i64 ((i : Int) + 1) = ((i + 1 : Nat) : Int) := by rw [w64 _ (by omega)]; omega
   rw [iterK_s, book_SameTexts_l0b]
   refine ifp (by rw [Ra.1]; simp; omega) ?_
   refine bnd hq (bnd hld (bnd hq2 (bnd hld2 ?_)))
   refine ifn (by rw [ba_beq]; simp) ?_
   rw [w]
   exact ih (i + 1) (by omega)
 exact go xs.length 0 (by omega)
theorem keep3 {H : AHeap} (cd : Int) (dt : ByteArray) (s : Slc) {R : Type} {Q : R → Prop} {f : AHeap → Option R}
  (hf : Gx.Wp (f ((H.new (.cells [.int .i64 0, .string ⟨#[]⟩, .slice none 0 0] 29 true 0)).set H.next (.cells [.int .i64 cd, .string dt, .slice s.a s.len s.cap] 29 true 0))) Q) :
  Gx.Wp ((Gx.stL 3 (⟨H.next, 0, none⟩ : Addr) ([.int .i64 cd, .string dt, .slice s.a s.len s.cap]) (H.new (.cells [.int .i64 0, .string ⟨#[]⟩, .slice none 0 0] 29 true 0))).bind f) Q :=
 Gx.Wp.bnd (sstL_at (c := [.int .i64 0, .string ⟨#[]⟩, .slice none 0 0]) (by simp) rfl rfl rfl (by decide)) hf
def kept3 (H : AHeap) (cd : Int) (dt : ByteArray) (s : Slc) : AHeap := (H.new (.cells [.int .i64 0, .string ⟨#[]⟩, .slice none 0 0] 29 true 0)).set H.next (.cells [.int .i64 cd, .string dt, .slice s.a s.len s.cap] 29 true 0)
theorem kept3_keeps (H : AHeap) (cd : Int) (dt : ByteArray) (s : Slc) : Keeps H (kept3 H cd dt s) := Chg.beh (T := fun y => y = H.next) (Keeps.new H _) (Chg.set (.inr rfl)) fun x hx q => by omega
theorem kept3_get (H : AHeap) (cd : Int) (dt : ByteArray) (s : Slc) : (kept3 H cd dt s).get H.next = some (.cells [.int .i64 cd, .string dt, .slice s.a s.len s.cap] 29 true 0) := by simp [kept3]
theorem kept3_next (H : AHeap) (cd : Int) (dt : ByteArray) (s : Slc) : (kept3 H cd dt s).next = H.next + 1 := by simp [kept3]
def nA : ByteArray := ⟨#[97]⟩
def dB : ByteArray := ⟨#[98, 99, 100]⟩
def dC : ByteArray := ⟨#[98, 99, 100, 101]⟩
def pw1 : PS := ⟨4, 0, 1, false, [(nA, dB, 0)], 1⟩
def pw2 : PS := ⟨4, 0, 2, false, [(nA, dB, 0)], 1⟩
def pw3 : PS := ⟨4, 0, 3, false, [(nA, dB, 0)], 1⟩
theorem ew1 : (ps0 4).doS 1 nA dB = (pw1, 0, nob, []) := by kernel_rfl
theorem ew2 : pw1.doS 1 nA dC = (pw2, 71, nob, []) := by kernel_rfl
theorem ew3 : pw2.doS 2 nA nob = (pw3, 0, dB, []) := by kernel_rfl
theorem works_spec {k : Nat} (D : CallF) {h : AHeap} (hk : 10 ≤ k) : Gx.Wp (law07_works k D h) fun q => q.1 = true ∧ Keeps h q.2 := by
 simp only [law07_works]
 obtain ⟨h1, e1, k1, s1⟩ := New_spec (k := k) D (h := h) (q := 4) (by decide)
 refine Gx.Wp.bnd e1 ?_
 refine Gx.Wp.jn fun j hj => ?_
 refine Gx.Wp.ifn (fun q => by cases q) ?_
 subst hj
 refine Gx.Wp.ifn (fun q => by cases q) ?_
 have beh : ∀ {H H' : AHeap}, Keeps h H → Chg (SB (h.next + 1) h.next) H H' → Keeps h H' := fun a c => Chg.beh a c fun x hx q => by rcases q with q | q <;> omega
 refine Gx.Wp.call (Do_spec D s1 good0 0 1 nA dB (by decide) (by decide) (by decide) (by decide) (fun _ => by show 1 < k; omega) (fun _ => by decide) (by show 0 < k; omega)) fun r1 q1 => ?_
 unfold DoQ at q1; rw [ew1] at q1
 obtain ⟨a1, a2, _, c1, s2, g2⟩ := q1
 refine keep3 _ _ _ ?_
 have l1 := kept3_keeps r1.2 r1.1.1 r1.1.2.1 r1.1.2.2
 refine Gx.Wp.call (Do_spec D (s2.keeps l1) g2 0 1 nA dC (by decide) (by decide) (by decide) (by decide) (fun _ => by show 1 < k; omega) (fun _ => by decide) (by show 1 < k; omega)) fun r2 q2 => ?_
 unfold DoQ at q2; rw [ew2] at q2
 obtain ⟨b1, b2, _, c2, s3, g3⟩ := q2
 refine keep3 _ _ _ ?_
 have l2 := kept3_keeps r2.2 r2.1.1 r2.1.2.1 r2.1.2.2
 refine Gx.Wp.call (Do_spec D (s3.keeps l2) g3 0 2 nA nob (by decide) (by decide) (by decide) (by decide) (fun _ => by show 1 < k; omega) (fun _ => by decide) (by show 1 < k; omega)) fun r3 q3 => ?_
 unfold DoQ at q3; rw [ew3] at q3
 obtain ⟨d1, d2, _, c3, s4, g4⟩ := q3
 refine keep3 _ _ _ ?_
 have l3 := kept3_keeps r3.2 r3.1.1 r3.1.2.1 r3.1.2.2
 have lt := s1.lt
 have nx2 := c1.nx
 have y1 : ∀ {H : AHeap} {b : Nat}, H.next ≤ b → h1.next ≤ H.next → ¬ SB (h.next + 1) h.next b := fun a c => by rintro (q | q) <;> omega
 have z1 := kept3_next r1.2 r1.1.1 r1.1.2.1 r1.1.2.2
 have z2 := kept3_next r2.2 r2.1.1 r2.1.2.1 r2.1.2.2
 have m2 := c2.nx
 have m3 := c3.nx
 have G3 := kept3_get r3.2 r3.1.1 r3.1.2.1 r3.1.2.2
 have G2 : (kept3 r3.2 r3.1.1 r3.1.2.1 r3.1.2.2).get r2.2.next = _ := (l3.oth _ (by omega) fun f => f).trans ((c3.oth _ (by omega) (by rintro (q | q) <;> omega)).trans (kept3_get r2.2 r2.1.1 r2.1.2.1 r2.1.2.2))
 have G1 : (kept3 r3.2 r3.1.1 r3.1.2.1 r3.1.2.2).get r1.2.next = _ := (l3.oth _ (by omega) fun f => f).trans ((c3.oth _ (by omega) (by rintro (q | q) <;> omega)).trans ((l2.oth _ (by omega) fun f => f).trans ((c2.oth _ (by omega) (by rintro (q | q) <;> omega)).trans (kept3_get r1.2 r1.1.1 r1.1.2.1 r1.1.2.2))))
 refine Gx.Wp.bnd (sldI_at G1 rfl) (Gx.Wp.ifp (by rw [a1]; rfl) (Gx.Wp.bnd (sldI_at G2 rfl) (Gx.Wp.ifp (by rw [b1]; rfl) (Gx.Wp.bnd (sldI_at G3 rfl) (Gx.Wp.ifp (by rw [d1]; rfl) (Gx.Wp.bnd (ldS_at G3 rfl) (Gx.Wp.of ⟨?_, ?_⟩)))))))
 ·rw [d2]; rfl
 ·exact (beh ((beh ((beh k1 c1).trans l1) c2).trans l2) c3).trans l3
end Gs
namespace Gs
open Go Gx
theorem less_eq (a b : ByteArray) : Op.bytesLess a.toList b.toList = decide (bl a < bl b) := by
 rw [Go.Proofs.bytesLess_eq, ByteArray.toList_eq, ByteArray.toList_eq]; rfl
theorem lt_of_leB {a b : List UInt8} (h : leB a b = true) (hn : a ≠ b) : a < b := by
 simp only [leB, decide_eq_true_eq] at h
 exact List.not_le.1 fun q => hn (List.le_antisymm h q)
theorem nm_sorted {es : List En} (hk : (es.map (·.1)).Nodup) : (nm es).Pairwise fun a b => bl a < bl b := by
 have tr : ∀ a b c : List UInt8, leB a b = true → leB b c = true → leB a c = true := fun a b c h1 h2 => by simp only [leB, decide_eq_true_eq] at *; exact List.le_trans h1 h2
 have to : ∀ a b : List UInt8, (leB a b || leB b a) = true := fun a b => by simp only [leB, Bool.or_eq_true, decide_eq_true_eq]; exact List.le_total a b
 have h1 := List.pairwise_mergeSort tr to ((es.map (·.1)).map bl)
 have h2 : (((es.map (·.1)).map bl).mergeSort leB).Nodup := by
  refine (List.mergeSort_perm _ leB).nodup_iff.2 ?_
  exact List.Pairwise.map _ (fun a b hab q => hab (by have := congrArg ba q; exact this)) hk
 unfold nm
 refine List.Pairwise.map _ (fun a b hab => hab) ?_
 exact (h1.and h2).imp fun ⟨a, b⟩ => lt_of_leB a b
def cnt (b : ByteArray) (es : List En) : Nat := (es.map (·.1)).countP (starts b)
theorem cnt_pt (b n d : ByteArray) (cl : Nat) (es : List En) : cnt b (pt n d cl es) = if (lk n es).isSome then cnt b es else cnt b es + (if starts b n = true then 1 else 0) := by
 unfold cnt
 rw [keys_pt]
 split
 ·rfl
 ·rw [List.countP_append]; simp [List.countP_cons]
theorem cnt_pos {b n : ByteArray} {es : List En} (h : (lk n es).isSome = true) (hs : starts b n = true) : 0 < cnt b es := by
 rw [lk_mem] at h
 exact List.countP_pos_iff.2 ⟨n, h, hs⟩
structure LI (b : ByteArray) (i : Nat) (p : PS) (there : Nat) : Prop where
 q : p.quota = 1048576
 f : p.fails = 0
 dn : p.down = false
 c : p.calls ≤ i
 g : Good p.es p.cl
 l : p.es.length ≤ i
 t : tot p.es ≤ i * 96
 th : there ≤ i
 c1 : cnt b p.es ≤ there
 c2 : 0 < there → 0 < cnt b p.es
theorem LI.step {b : ByteArray} {i : Nat} {p : PS} {there : Nat} (I : LI b i p there) (hi : i < 40) (n : ByteArray) :
  LI b (i + 1) (p.doS 1 n nob).1 (if (p.doS 1 n nob).2.1 = 0 ∧ starts b n = true then there + 1 else there) := by
 have e : p.doS 1 n nob = ((p.up.putS n nob).1, (p.up.putS n nob).2, nob, []) := by
  unfold PS.doS; rw [if_neg (by rw [I.dn]; decide), if_neg (by rw [I.f]; decide), if_pos rfl]
 rw [e]
 by_cases q : fitsC n nob = 0
 ·obtain ⟨f1, f2, _⟩ := fits0 q
  have t1 := I.t
  have z0 : nob.size = 0 := rfl
  have eP : p.up.putS n nob = (p.up.lay n nob, 0) := by
   unfold PS.putS
   rw [if_neg (fun z => z q), if_neg]
   show ¬ p.quota + room n p.es < tot p.es + (n.size + nob.size)
   rw [I.q, z0]; omega
  rw [eP]
  have t3 := tot_pt (n := n) (d := nob) (cl := p.cl) p.es
  have l3 := len_pt (n := n) (d := nob) (cl := p.cl) p.es
  have c3 := cnt_pt b n nob p.cl p.es
  have i1 := I.c1
  have i2 := I.c2
  have i3 := I.l
  have i4 := I.th
  have i5 := I.c
  have fin : ∀ t, cnt b (pt n nob p.cl p.es) ≤ t → (0 < t → 0 < cnt b (pt n nob p.cl p.es)) → t ≤ i + 1 → LI b (i + 1) (p.up.lay n nob) t := fun t h1 h2 h3 =>
   ⟨I.q, I.f, I.dn, by show p.calls + 1 ≤ _; omega, I.g.pt f1 f2, by show (pt n nob p.cl p.es).length ≤ _; omega, by show tot (pt n nob p.cl p.es) ≤ _; omega, h3, h1, h2⟩
  by_cases hs : starts b n = true
  ·rw [if_pos hs] at c3
   refine (if_pos (⟨rfl, hs⟩ : (0 : Nat) = 0 ∧ starts b n = true)).symm ▸ fin (there + 1) ?_ (fun _ => ?_) (by omega)
   ·rw [c3]; split <;> omega
   ·rw [c3]
    split
    ·rename_i hl; exact cnt_pos hl hs
    ·omega
  ·rw [if_neg hs] at c3
   refine (if_neg (fun z => hs z.2 : ¬ ((0 : Nat) = 0 ∧ starts b n = true))).symm ▸ fin there ?_ (fun z => ?_) (by omega)
   ·rw [c3]; split <;> omega
   ·have := i2 z
    rw [c3]; split <;> omega
 ·have eP : p.up.putS n nob = (p.up, fitsC n nob) := if_pos q
  rw [eP, if_neg (fun z => q z.1)]
  exact ⟨I.q, I.f, I.dn, Nat.succ_le_succ I.c, I.g, Nat.le_succ_of_le I.l, Nat.le_trans I.t (by omega), Nat.le_succ_of_le I.th, I.c1, I.c2⟩
theorem st_cond {b x : ByteArray} {R : Type} {Q : R → Prop} {j : Bool → Option R} (hj : Gx.Wp (j (starts b x)) Q) :
  Gx.Wp (if (decide ((x.size : Int) ≥ (b.size : Int))) = true then (Gx.subS x none (some (b.size : Int))).bind fun s => j (s == b) else j false) Q := by
 by_cases q : b.size ≤ x.size
 ·obtain ⟨s, e1, e2⟩ := starts_sub q
  exact Gx.Wp.ifp (by simp; omega) (Gx.Wp.bnd e1 (by rw [e2]; exact hj))
 ·refine Gx.Wp.ifn (by simp; omega) ?_
  rw [starts_short (by omega)] at hj; exact hj
end Gs
namespace Gs
open Go Gx
theorem Get_spec {k : Nat} (D : CallF) {h : AHeap} {sb rb : Nat} {p : PS} (s : SR h sb rb p) (n : ByteArray) : store_Store_Get k D (some ⟨sb, 0, none⟩) n h = some (((lk n p.es).getD nob, (lk n p.es).isSome), h) := by
 obtain ⟨e, hb⟩ := s.blk
 simp only [store_Store_Get]
 refine bnd rfl (bnd (ldM_at (m := some rb) hb rfl) ?_)
 cases hl : lk n p.es with
 | none => exact bnd (look_none s.mp hl) rfl
 | some d => exact bnd (look_some s.mp hl) rfl
theorem starts_nob (n : ByteArray) : starts nob n = true := by
 apply decide_eq_true
 show (bl n).take 0 = bl nob
 rw [List.take_zero]; rfl
def need (l : List ByteArray) : Nat := l.foldr (fun x m => x.size + m) 1000
theorem need_lt : ∀ {l : List ByteArray} {x : ByteArray}, x ∈ l → x.size < need l
 | y :: l, x, h => by
  have ge : ∀ l : List ByteArray, 1000 ≤ need l := fun l => by
   induction l with
   | nil => exact Nat.le_refl _
   | cons y l ih => show 1000 ≤ y.size + need l; omega
  show x.size < y.size + need l
  rcases List.mem_cons.1 h with rfl | h
  ·have := ge l; omega
  ·have := need_lt h; omega
theorem need_ge (l : List ByteArray) : 1000 ≤ need l := by
 induction l with
 | nil => exact Nat.le_refl _
 | cons y l ih => show 1000 ≤ y.size + need l; omega
end Gs
namespace Gs
open Go Gx
abbrev Ob := ByteArray × ByteArray
def encO (o : Ob) : List Value := [.string o.1, .string o.2]
theorem encO_len (o : Ob) : (encO o).length = 2 := rfl
theorem encO_one (o : Ob) : allOne (encO o) = true := rfl
structure AccV {α : Type} (w : Nat) (enc : α → List Value) (e : TypeId) (base : Nat) (h : AHeap) (s : Slc) (xs : List α) : Prop where
 st : (s.len = 0 ∧ s.cap = 0 ∧ xs = [] ∧ ∀ a, s.a = some a → a.spot = some 0) ∨ ∃ b, s = ⟨some ⟨b, 0, some (w + 1)⟩, xs.length, xs.length⟩ ∧ h.get b = some (.cells (xs.flatMap enc) e true 0) ∧ xs ≠ []
 lt : ∀ a, s.a = some a → a.block < h.next ∧ base ≤ a.block
section
variable {α : Type} {w : Nat} {enc : α → List Value} {e : TypeId} {base : Nat} {h h' : AHeap} {s : Slc} {xs : List α}
theorem AccV.nil (w : Nat) (enc : α → List Value) (e : TypeId) (base : Nat) (h : AHeap) : AccV w enc e base h ⟨none, 0, 0⟩ [] := ⟨.inl ⟨rfl, rfl, rfl, fun a ha => by cases ha⟩, fun a ha => by cases ha⟩
theorem AccV.chg {S : Nat → Prop} (A : AccV w enc e base h s xs) (c : Chg S h h') (hs : ∀ a, s.a = some a → ¬ S a.block) : AccV w enc e base h' s xs := by
 refine ⟨A.st.imp id ?_, fun a ha => ⟨Nat.lt_of_lt_of_le (A.lt a ha).1 c.nx, (A.lt a ha).2⟩⟩
 rintro ⟨b, h1, h2, h3⟩
 have hb := A.lt ⟨b, 0, some (w + 1)⟩ (by rw [h1])
 exact ⟨b, h1, (c.oth b hb.1 (hs ⟨b, 0, some (w + 1)⟩ (by rw [h1]))).trans h2, h3⟩
theorem AccV.keeps (A : AccV w enc e base h s xs) (c : Keeps h h') : AccV w enc e base h' s xs := A.chg c fun _ _ f => f
theorem AccV.row (A : AccV w enc e base h s xs) (hw : ∀ x, (enc x).length = w) : RowW w enc h s xs := by
 rcases A.st with ⟨h1, h2, rfl, _⟩ | ⟨b, rfl, h2, h3⟩
 ·exact ⟨h1, fun i x hx => by simp at hx⟩
 ·have := rowW_blk (cap := xs.length) (sp := some (w + 1)) hw h2 (A.lt ⟨b, 0, some (w + 1)⟩ rfl).1 (Nat.le_refl _)
  rw [List.take_length] at this
  exact this
theorem AccV.app (A : AccV w enc e base h s xs) (hw : ∀ x, (enc x).length = w) (ho : ∀ x, allOne (enc x) = true) (ys : List α) {bytes : Nat} (h1 : 1 ≤ bytes) (hs : 2 * (xs.length + ys.length) * bytes ≤ 281474976710656) (hbase : base ≤ h.next) :
  ∃ s' h', appendA w bytes e h s (ys.flatMap enc) ys.length = some (s', h') ∧ AccV w enc e base h' s' (xs ++ ys) ∧ Chg (ofS s) h h' ∧ ∀ a, s'.a = some a → h.next ≤ a.block ∨ s.a = some a := by
 by_cases hy : ys = []
 ·subst hy
  refine ⟨s, h, ?_, by rw [List.append_nil]; exact A, Chg.refl _ _, fun a ha => .inr ha⟩
  simp only [appendA, List.length_nil]
  have hle : s.len + 0 ≤ s.cap := by
   rcases A.st with ⟨q1, q2, _⟩ | ⟨b, rfl, _⟩
   ·omega
   ·exact Nat.le_refl _
  rw [if_pos hle]
  obtain ⟨a, n, c⟩ := s
  cases a with
  | none =>
   rcases A.st with ⟨q1, q2, _⟩ | ⟨b, q, _⟩
   ·simp only at q1 q2; subst q1 q2; rfl
   ·cases q
  | some a => rfl
 ·have ly : 0 < ys.length := List.length_pos_iff.2 hy
  rcases A.st with ⟨q1, q2, rfl, q3⟩ | ⟨b, rfl, h2, h3⟩
  ·refine ⟨⟨some ⟨h.next, 0, some (w + 1)⟩, ys.length, ys.length⟩, h.new (.cells (ys.flatMap enc) e true 0), ?_, ⟨.inr ⟨h.next, by simp, by simp, by simpa using hy⟩, ?_⟩, (Keeps.new h _).wk fun _ _ f => f.elim, ?_⟩
   ·simp only [appendA]
    rw [if_neg (by omega), if_pos ⟨by rw [q1]; simpa using hs, h1⟩]
    obtain ⟨a, n, c⟩ := s
    simp only at q1 q2; subst q1 q2
    cases a with
    | none => rfl
    | some a =>
     have := q3 a rfl
     obtain ⟨b, o, sp⟩ := a
     simp only at this; subst this
     simp [AHeap.rdL]
   ·intro a ha; cases ha; simp; exact hbase
   ·intro a ha; cases ha; exact .inl (Nat.le_refl _)
  ·have hb := A.lt ⟨b, 0, some (w + 1)⟩ rfl
   have hl := flatW_length hw xs
   have hx : 0 < xs.length := List.length_pos_iff.2 h3
   refine ⟨⟨some ⟨h.next, 0, some (w + 1)⟩, xs.length + ys.length, xs.length + ys.length⟩, (h.kill b).new (.cells ((xs ++ ys).flatMap enc) e true 0), ?_, ⟨.inr ⟨h.next, by simp, by simp, by simp [h3]⟩, ?_⟩, Chg.wk (S := (· = b)) (Chg.kill_new (.inr rfl)) fun y hy q => ⟨⟨b, 0, some (w + 1)⟩, rfl, q⟩, ?_⟩
   ·simp only [appendA]
    rw [if_neg (by omega), if_pos ⟨hs, h1⟩]
    simp only [h2]
    rw [if_pos ⟨by omega, trivial, by omega, by omega, trivial, trivial, flatW_one ho ys⟩, ← hl, List.take_length, List.flatMap_append]
   ·intro a ha; cases ha; simp; exact hbase
   ·intro a ha; cases ha; exact .inl (Nat.le_refl _)
theorem flatW_cut (hw : ∀ x, (enc x).length = w) : ∀ (xs : List α) (n : Nat), (xs.flatMap enc).take (n * w) = (xs.take n).flatMap enc ∧ (xs.flatMap enc).drop (n * w) = (xs.drop n).flatMap enc
 | [], n => by simp
 | x :: xs, 0 => by simp
 | x :: xs, n + 1 => by
  obtain ⟨i1, i2⟩ := flatW_cut hw xs n
  have hl := hw x
  have e : (n + 1) * w = (enc x).length + n * w := by rw [hl, Nat.succ_mul]; omega
  rw [List.flatMap_cons, e]
  constructor
  ·rw [List.take_length_add_append, i1]; rfl
  ·rw [List.drop_length_add_append, i2]; rfl
theorem AccV.sub (A : AccV w enc e base h s xs) (hw : ∀ x, (enc x).length = w) {lo hi : Option Int} {i j : Nat} (hl : lo.getD 0 = (i : Int)) (hh : hi.getD s.len = (j : Int)) (hij : i ≤ j) (hj : j ≤ xs.length) :
  ∃ t, subL w s lo hi none = some t ∧ t.len = j - i ∧ ∀ h', AccV w enc e base h' s xs → Gx.rdS w t h' = some (((xs.take j).drop i).flatMap enc) := by
 have e0 : ∀ (h : AHeap) (b o : Nat), h.rdL b o (0 * w) = some [] := fun h b o => by rw [Nat.zero_mul]; rfl
 rcases A.st with ⟨q1, q2, rfl, q3⟩ | ⟨b, rfl, h2, h3⟩
 ·obtain ⟨a, n, c⟩ := s
  simp only at q1 q2; subst q1 q2
  have j0 : j = 0 := by simpa using hj
  have i0 : i = 0 := by omega
  subst j0 i0
  simp only [subL, hl, hh, Option.getD_none]
  rw [if_pos (by simp)]
  cases a with
  | none => exact ⟨_, rfl, rfl, fun h' _ => by simp [rdS]⟩
  | some a =>
   have := q3 a rfl
   dsimp only
   rw [if_pos (by rw [this]; rfl)]
   exact ⟨_, rfl, rfl, fun h' _ => by simp only [rdS]; simp [AHeap.rdL]⟩
 ·have hl2 := flatW_length hw xs
  have hx : 0 < xs.length := List.length_pos_iff.2 h3
  simp only [subL, hl, hh, Option.getD_none]
  rw [if_pos (by omega), if_pos (by simp [spOk])]
  refine ⟨_, rfl, by simp only; omega, fun h' A' => ?_⟩
  obtain ⟨b', e1, h2', _⟩ : ∃ b', b' = b ∧ h'.get b = some (.cells (xs.flatMap enc) e true 0) ∧ True := by
   rcases A'.st with ⟨q1, q2, q, _⟩ | ⟨b', q, h2', _⟩
   ·exact absurd q h3
   ·cases q; exact ⟨b, rfl, h2', trivial⟩
  have jl : (j - i) * w + i * w ≤ xs.length * w := by rw [← Nat.add_mul]; exact Nat.mul_le_mul_right _ (by omega)
  have ee : ((j : Int) - (i : Int)).toNat = j - i := by omega
  simp only [rdS, ee, Int.toNat_natCast]
  have fin : ∀ o, o = i * w ∨ j - i = 0 → h'.rdL b o ((j - i) * w) = some (((xs.take j).drop i).flatMap enc) := by
   intro o ho
   by_cases z : j - i = 0
   ·rw [z, e0]
    have : (xs.take j).drop i = [] := List.drop_eq_nil_of_le (by simp; omega)
    rw [this]; rfl
   ·have ho : o = i * w := ho.resolve_right z
    subst ho
    cases hz : (j - i) * w with
    | zero =>
     have hz2 : (((xs.take j).drop i).flatMap enc).length = 0 := by
      rw [flatW_length hw]
      have : ((xs.take j).drop i).length = j - i := by simp; omega
      rw [this, hz]
     rw [List.length_eq_zero_iff.1 hz2]; rfl
    | succ m =>
     simp only [AHeap.rdL, h2']
     rw [if_pos (by omega), ← hz]
     congr 1
     rw [(flatW_cut hw xs i).2, (flatW_cut hw (xs.drop i) (j - i)).1, List.take_drop]
     congr 3; omega
  by_cases hm : ((xs.length : Int) = (i : Int))
  ·rw [if_pos hm]; exact fin 0 (.inr (by omega))
  ·rw [if_neg hm, Nat.zero_add]; exact fin _ (.inl rfl)
end
end Gs
namespace Gs
open Go Gx
structure RSt where
 quota : Nat
 fails : Nat
 many : Nat
 off : Bool
 L : List Ob
structure RR (h : AHeap) (tb : Nat) (r : RSt) : Prop where
 blk : ∃ e l, h.get tb = some (.cells [.int .i64 r.quota, .int .i64 r.fails, .int .i64 r.many, .bool r.off, .slice l.a l.len l.cap] e true 0) ∧ AccV 2 encO 124 (tb + 1) h l r.L
 lt : tb < h.next
theorem RR.chg {S : Nat → Prop} {h h' : AHeap} {tb : Nat} {r : RSt} (s : RR h tb r) (c : Chg S h h') (hs : ∀ y, tb ≤ y → ¬ S y) : RR h' tb r := by
 obtain ⟨e, l, hb, A⟩ := s.blk
 exact ⟨⟨e, l, (c.oth _ s.lt (hs _ (Nat.le_refl _))).trans hb, A.chg c fun a ha => hs _ (by have := (A.lt a ha).2; omega)⟩, Nat.lt_of_lt_of_le s.lt c.nx⟩
theorem RR.keeps {h h' : AHeap} {tb : Nat} {r : RSt} (s : RR h tb r) (c : Keeps h h') : RR h' tb r := s.chg c fun _ _ f => f
def fi (n : ByteArray) : List Ob → Nat
 | [] => 0
 | o :: l => if bl o.1 < bl n then fi n l + 1 else 0
def at1 (n : ByteArray) : List Ob → Bool
 | [] => false
 | o :: _ => decide (o.1 = n)
def fnd (n : ByteArray) (L : List Ob) : Bool := at1 n (L.drop (fi n L))
theorem fi_le (n : ByteArray) : ∀ L : List Ob, fi n L ≤ L.length
 | [] => Nat.le_refl _
 | o :: l => by have := fi_le n l; simp only [fi]; split <;> simp; omega
theorem fnd_lt {n : ByteArray} {L : List Ob} (h : fnd n L = true) : fi n L < L.length := by
 have := fi_le n L
 rcases Nat.lt_or_eq_of_le this with h1 | h1
 ·exact h1
 ·unfold fnd at h; rw [h1, List.drop_length] at h; cases h
theorem rfind_l0 {k : Nat} (D : CallF) (bot) {h : AHeap} {tb : Nat} {r : RSt} (s : RR h tb r) (n : ByteArray) (hl : r.L.length ≤ 1048576) {Q : (Int × Bool) × AHeap → Prop} (j5) (hj : Gx.Wp (j5 (some ⟨tb, 0, none⟩) n (fi n r.L : Int) h) Q) :
  ∀ (d i : Nat), i + d = r.L.length → i + fi n (r.L.drop i) = fi n r.L → Gx.Wp (iterK bot (d + 1) (ref07_Store_find_l0b k D j5) (some ⟨tb, 0, none⟩) n (i : Int) h) Q := fun d => by
 obtain ⟨e, l, hb, A⟩ := s.blk
 have R := A.row encO_len
 have len := R.len
 induction d with
 | zero =>
  intro i hi hf
  rw [iterK_s]; simp only [ref07_Store_find_l0b]
  obtain rfl : i = r.L.length := by omega
  rw [List.drop_length] at hf
  refine Gx.Wp.jn fun j hj' => Gx.Wp.bnd rfl (Gx.Wp.bnd (sldL_at hb rfl) (Gx.Wp.ifn (by show ¬ decide ((r.L.length : Int) < (l.len : Int)) = true; rw [len]; simp) ?_))
  subst hj'
  refine Gx.Wp.ifn (fun q => by cases q) ?_
  have : fi n r.L = r.L.length := hf.symm
  rw [← this]; exact hj
 | succ d ih =>
  intro i hi hf
  rw [iterK_s]; simp only [ref07_Store_find_l0b]
  obtain ⟨x, hx⟩ := isome (l := r.L) (i := i) (by omega)
  refine Gx.Wp.jn fun j hj' => Gx.Wp.bnd rfl (Gx.Wp.bnd (sldL_at hb rfl) (Gx.Wp.ifp (by show decide ((i : Int) < (l.len : Int)) = true; rw [len]; simp; omega) ?_))
  obtain ⟨q, q1, _, _, q2⟩ := R.ld encO_len (by decide) hx
  refine Gx.Wp.bnd rfl (Gx.Wp.bnd (sldL_at hb rfl) (Gx.Wp.bnd q1 (Gx.Wp.bnd (q2 0 x.1 rfl) ?_)))
  rw [less_eq]
  rw [dropc hx] at hf
  simp only [fi] at hf
  subst hj'
  by_cases c : bl x.1 < bl n
  ·rw [if_pos c] at hf
   refine Gx.Wp.ifp (decide_eq_true c) ?_
   rw [Gx.w1 (by omega)]
   exact ih (i + 1) (by omega) (by omega)
  ·rw [if_neg c] at hf
   refine Gx.Wp.ifn (by simpa using c) ?_
   have : fi n r.L = i := by omega
   rw [← this]; exact hj
theorem rfind_spec {k : Nat} (D : CallF) {h : AHeap} {tb : Nat} {r : RSt} (s : RR h tb r) (n : ByteArray) (hl : r.L.length ≤ 1048576) (hk : r.L.length < k) :
  ref07_Store_find k D (some ⟨tb, 0, none⟩) n h = some (((fi n r.L : Int), fnd n r.L), h) := by
 have : Gx.Wp (ref07_Store_find k D (some ⟨tb, 0, none⟩) n h) fun q => q = (((fi n r.L : Int), fnd n r.L), h) := by
  obtain ⟨e, l, hb, A⟩ := s.blk
  have R := A.row encO_len
  have len := R.len
  simp only [ref07_Store_find]
  refine Gx.Wp.jn fun j hj => ?_
  unfold ref07_Store_find_l0
  obtain ⟨bot, eb⟩ := iterK_of (fun _ _ _ _ => none) (ref07_Store_find_l0b k D j) (show r.L.length + 1 ≤ k by omega)
  rw [eb]
  refine rfind_l0 D bot s n hl j ?_ r.L.length 0 (by omega) (by simp)
  subst hj
  refine Gx.Wp.bnd rfl (Gx.Wp.bnd (sldL_at hb rfl) ?_)
  by_cases c : fi n r.L < r.L.length
  ·refine Gx.Wp.ifp (by show decide ((fi n r.L : Int) < (l.len : Int)) = true; rw [len]; simp; omega) ?_
   obtain ⟨x, hx⟩ := isome c
   obtain ⟨q, q1, _, _, q2⟩ := R.ld encO_len (by decide) hx
   refine Gx.Wp.bnd rfl (Gx.Wp.bnd (sldL_at hb rfl) (Gx.Wp.bnd q1 (Gx.Wp.bnd (q2 0 x.1 rfl) (Gx.Wp.of ?_))))
   rw [ba_beq]
   have : fnd n r.L = decide (x.1 = n) := by unfold fnd; rw [dropc hx]; rfl
   rw [this]
  ·refine Gx.Wp.ifn (by show ¬ decide ((fi n r.L : Int) < (l.len : Int)) = true; rw [len]; simp; omega) (Gx.Wp.of ?_)
   have : fnd n r.L = false := by unfold fnd; rw [List.drop_eq_nil_of_le (by omega)]; rfl
   rw [this]
 obtain ⟨q, e, rfl⟩ := this
 exact e
theorem ssw2 {H1 H2 : AHeap} {F : AHeap → Option Value} {v : Value} (h1 : F H1 = some v) (h2 : F H2 = some v) : SameW [H1, H2] F v := by
 intro H hH; simp at hH; rcases hH with rfl | rfl
 ·exact h1
 ·exact h2
theorem RR.setL {h h' : AHeap} {tb : Nat} {r : RSt} {e : TypeId} {l l2 : Slc} {L : List Ob} {S : Nat → Prop} (lt : tb < h.next) (hb : h.get tb = some (.cells [.int .i64 r.quota, .int .i64 r.fails, .int .i64 r.many, .bool r.off, .slice l.a l.len l.cap] e true 0))
  (c : Chg S h h') (hs : ¬ S tb) (A : AccV 2 encO 124 (tb + 1) h' l2 L) : ∃ h2, Gx.st1 (⟨tb, 0 + 4, none⟩ : Addr) (.slice l2.a l2.len l2.cap) h' = some h2 ∧ Chg (· = tb) h' h2 ∧ RR h2 tb { r with L := L } := by
 have hb' : h'.get tb = some (.cells [.int .i64 r.quota, .int .i64 r.fails, .int .i64 r.many, .bool r.off, .slice l.a l.len l.cap] e true 0) := (c.oth _ lt hs).trans hb
 refine ⟨_, st1_sb hb' (by show 0 + 4 < 5; omega) rfl, Chg.set (.inr rfl), ⟨⟨e, l2, by rw [sset_get]; rfl, A.chg (S := (· = tb)) (Chg.set (.inr rfl)) fun a ha q => by have := (A.lt a ha).2; omega⟩, Nat.lt_of_lt_of_le lt c.nx⟩⟩
theorem rremove_spec {k : Nat} (D : CallF) {h : AHeap} {tb : Nat} {r : RSt} (s : RR h tb r) {i : Nat} (hi : i < r.L.length) (hl : r.L.length ≤ 1048576) :
  Gx.Wp (ref07_Store_remove k D (some ⟨tb, 0, none⟩) (i : Int) h) fun q => Chg (· = tb) h q.2 ∧ RR q.2 tb { r with L := r.L.take i ++ r.L.drop (i + 1) } := by
 obtain ⟨e, l, hb, A⟩ := s.blk
 have lt := s.lt
 have len := (A.row encO_len).len
 simp only [ref07_Store_remove]
 obtain ⟨h1, e1⟩ : ∃ h1, h1 = h.new (.cells [] 124 true 0) := ⟨_, rfl⟩
 rw [← e1]
 have k1 : Keeps h h1 := e1 ▸ Keeps.new h _
 have n1 : h1.next = h.next + 1 := by rw [e1]; rfl
 have hb1 := (k1.oth _ lt fun f => f).trans hb
 have A1 := A.keeps k1
 refine Gx.Wp.bnd rfl (Gx.Wp.bnd (sldL_at hb1 rfl) (Gx.Wp.gp (ssw1 (bnd (sldL_at hb rfl) rfl)) ?_))
 obtain ⟨t1, u1, u2, u3⟩ := A1.sub (lo := none) (hi := some (i : Int)) (i := 0) (j := i) encO_len rfl rfl (Nat.zero_le _) (by omega)
 refine Gx.Wp.bnd u1 (Gx.Wp.bnd (u3 h1 A1) ?_)
 have E0 : AccV 2 encO 124 (tb + 1) h1 (⟨some ⟨h.next, 0, some 0⟩, 0, 0⟩ : Slc) [] := ⟨.inl ⟨rfl, rfl, rfl, fun a ha => by cases ha; rfl⟩, fun a ha => by cases ha; simp only; omega⟩
 have hn : t1.len = (r.L.take i).length := by rw [u2]; simp; omega
 rw [hn, List.drop_zero]
 obtain ⟨s7, h7, a7, A7, c7, d7⟩ := E0.app encO_len encO_one (r.L.take i) (bytes := 32) (by decide) (by simp; omega) (by omega)
 refine Gx.Wp.bnd a7 ?_
 have n7 := c7.nx
 have nt : ∀ y, y ≤ tb → ¬ ofS (⟨some ⟨h.next, 0, some 0⟩, 0, 0⟩ : Slc) y := fun y hy ⟨a, ha, q⟩ => by cases ha; simp only at q; omega
 have nl : ∀ a, l.a = some a → ¬ ofS (⟨some ⟨h.next, 0, some 0⟩, 0, 0⟩ : Slc) a.block := fun a ha ⟨a', ha', q⟩ => by cases ha'; have := (A.lt a ha).1; simp only at q; omega
 have hb7 := (c7.oth _ (by omega) (nt tb (Nat.le_refl _))).trans hb1
 have AL7 := A1.chg c7 nl
 refine Gx.Wp.bnd rfl (Gx.Wp.bnd (sldL_at hb7 rfl) (Gx.Wp.gp (ssw2 (bnd (sldL_at hb1 rfl) rfl) (bnd (sldL_at hb rfl) rfl)) ?_))
 rw [Gx.w1 (by omega)]
 obtain ⟨t2, v1, v2, v3⟩ := AL7.sub (lo := some ((i + 1 : Nat) : Int)) (hi := none) (i := i + 1) (j := r.L.length) encO_len rfl (by simp [len]) (by omega) (Nat.le_refl _)
 refine Gx.Wp.bnd v1 (Gx.Wp.bnd (v3 h7 AL7) ?_)
 have hn2 : t2.len = (r.L.drop (i + 1)).length := by rw [v2]; simp
 rw [hn2, List.take_length]
 obtain ⟨s9, h9, a9, A9, c9, d9⟩ := A7.app encO_len encO_one (r.L.drop (i + 1)) (bytes := 32) (by decide) (by simp; omega) (by omega)
 refine Gx.Wp.bnd a9 (Gx.Wp.bnd rfl ?_)
 have nt7 : ∀ y, y < h.next → ¬ ofS s7 y := fun y hy ⟨a, ha, q⟩ => by
  rcases d7 a ha with z | z
  ·omega
  ·cases z; simp only at q; omega
 have cc : Chg NoB h h9 := Chg.beh (Chg.beh k1 c7 fun y hy q => nt y (by obtain ⟨a, ha, q⟩ := q; cases ha; simp only at q; omega) q) c9 fun y hy q => nt7 y hy q
 obtain ⟨h2, b1, b2, b3⟩ := RR.setL (r := r) lt hb cc (fun f => f) A9
 rw [List.nil_append] at b3
 exact Gx.Wp.bnd b1 (Gx.Wp.of ⟨(Chg.keeps cc).trans b2, b3⟩)
end Gs
namespace Gs
open Go Gx
def insO (i : Nat) (n d : ByteArray) (L : List Ob) : List Ob := L.take i ++ (n, d) :: L.drop i
def lyR (n d : ByteArray) (L : List Ob) : List Ob := insO (fi n L) n d (if fnd n L then L.take (fi n L) ++ L.drop (fi n L + 1) else L)
theorem rlay_spec {k : Nat} (D : CallF) {h : AHeap} {tb : Nat} {r : RSt} (s : RR h tb r) (n d : ByteArray) (hl : r.L.length ≤ 1048576) (hk : r.L.length < k) :
  Gx.Wp (ref07_Store_lay k D (some ⟨tb, 0, none⟩) n d h) fun q => Chg (· = tb) h q.2 ∧ RR q.2 tb { r with L := lyR n d r.L } := by
 simp only [ref07_Store_lay]
 refine Gx.Wp.bnd (rfind_spec D s n hl hk) ?_
 refine Gx.Wp.jn fun j hj => ?_
 have go : ∀ (g : AHeap) (r' : RSt), RR g tb r' → fi n r.L ≤ r'.L.length → r'.L.length ≤ 1048576 → Gx.Wp (j (some ⟨tb, 0, none⟩) n d (fi n r.L : Int) g) fun q => Chg (· = tb) g q.2 ∧ RR q.2 tb { r' with L := insO (fi n r.L) n d r'.L } := by
  intro g r' s' hi hl'
  subst hj
  obtain ⟨e, l, hb, A⟩ := s'.blk
  have lt := s'.lt
  have len := (A.row encO_len).len
  refine Gx.Wp.bnd rfl (Gx.Wp.bnd (sldL_at hb rfl) ?_)
  obtain ⟨t1, u1, u2, u3⟩ := A.sub (lo := none) (hi := some (fi n r.L : Int)) (i := 0) (j := fi n r.L) encO_len rfl rfl (Nat.zero_le _) hi
  refine Gx.Wp.bnd u1 (Gx.Wp.bnd (u3 g A) ?_)
  have hn : t1.len = (r'.L.take (fi n r.L)).length := by rw [u2]; simp; omega
  rw [hn, List.drop_zero]
  obtain ⟨s7, h7, a7, A7, c7, d7⟩ := (AccV.nil 2 encO 124 g.next g).app encO_len encO_one (r'.L.take (fi n r.L)) (bytes := 32) (by decide) (by simp; omega) (Nat.le_refl _)
  refine Gx.Wp.bnd a7 ?_
  have k7 : Keeps g h7 := c7.wk fun y _ ⟨a, ha, _⟩ => by cases ha
  obtain ⟨h8, e8⟩ : ∃ h8, h8 = h7.new (.cells [.string n, .string d] 124 true 0) := ⟨_, rfl⟩
  rw [← e8]
  have k8 : Keeps h7 h8 := e8 ▸ Keeps.new h7 _
  have n7 := k7.nx
  have n8 := k8.nx
  have rd8 : Gx.rdS 2 (⟨some ⟨h7.next, 0, some 0⟩, 1, 1⟩ : Slc) h8 = some (encO (n, d)) := e8 ▸ rdS_oneW encO_len (n, d) 124
  refine Gx.Wp.bnd rd8 ?_
  have A8 := A7.keeps k8
  obtain ⟨s9, h9, a9, A9, c9, d9⟩ := A8.app encO_len encO_one [(n, d)] (bytes := 32) (by decide) (by simp; omega) (by omega)
  have ef : [(n, d)].flatMap encO = encO (n, d) := by simp
  rw [ef] at a9
  refine Gx.Wp.bnd a9 (Gx.Wp.bnd rfl ?_)
  have n9 := c9.nx
  have k9 : Keeps g h9 := Chg.beh (k7.trans k8) c9 fun y hy ⟨a, ha, q⟩ => by have := (A7.lt a ha).2; omega
  have hb9 := (k9.oth _ lt fun f => f).trans hb
  have AL9 := A.keeps k9
  refine Gx.Wp.bnd (sldL_at hb9 rfl) ?_
  obtain ⟨t2, v1, v2, v3⟩ := AL9.sub (lo := some (fi n r.L : Int)) (hi := none) (i := fi n r.L) (j := r'.L.length) encO_len rfl (by simp [len]) hi (Nat.le_refl _)
  refine Gx.Wp.bnd v1 (Gx.Wp.bnd (v3 h9 AL9) ?_)
  have hn2 : t2.len = (r'.L.drop (fi n r.L)).length := by rw [v2]; simp
  rw [hn2, List.take_length]
  obtain ⟨s11, h11, a11, A11, c11, d11⟩ := A9.app encO_len encO_one (r'.L.drop (fi n r.L)) (bytes := 32) (by decide) (by simp; omega) (by omega)
  refine Gx.Wp.bnd a11 (Gx.Wp.bnd rfl ?_)
  have k11 : Keeps g h11 := Chg.beh k9 c11 fun y hy ⟨a, ha, q⟩ => by have := (A9.lt a ha).2; omega
  have A12 : AccV 2 encO 124 (tb + 1) h11 s11 (insO (fi n r.L) n d r'.L) := by
   have e1 : insO (fi n r.L) n d r'.L = [] ++ r'.L.take (fi n r.L) ++ [(n, d)] ++ r'.L.drop (fi n r.L) := by simp [insO]
   rw [e1]
   exact ⟨A11.st, fun a ha => ⟨(A11.lt a ha).1, by have := (A11.lt a ha).2; omega⟩⟩
  obtain ⟨h2, b1, b2, b3⟩ := RR.setL (r := r') lt hb k11 (fun f => f) A12
  exact Gx.Wp.bnd b1 (Gx.Wp.of ⟨(Chg.keeps k11).trans b2, b3⟩)
 have hf := fi_le n r.L
 cases hc : fnd n r.L with
 | true =>
  have hlt := fnd_lt hc
  refine Gx.Wp.ifp rfl (Gx.Wp.call (rremove_spec D s hlt hl) fun r2 h2 => ?_)
  obtain ⟨c1, s1⟩ := h2
  refine Gx.Wp.mono (go r2.2 _ s1 (by simp; omega) (by simp; omega)) fun q hq => ?_
  refine ⟨c1.trans hq.1, ?_⟩
  have e : lyR n d r.L = insO (fi n r.L) n d (r.L.take (fi n r.L) ++ r.L.drop (fi n r.L + 1)) := by unfold lyR; rw [hc]; rfl
  rw [e]; exact hq.2
 | false =>
  refine Gx.Wp.ifn (fun q => by cases q) (Gx.Wp.mono (go h r s hf hl) fun q hq => ?_)
  have e : lyR n d r.L = insO (fi n r.L) n d r.L := by unfold lyR; rw [hc]; rfl
  rw [e]; exact hq
def totR : List Ob → Nat
 | [] => 0
 | o :: l => o.1.size + o.2.size + totR l
theorem rused_l0 {k : Nat} (D : CallF) (bot) {h : AHeap} {tb : Nat} {r : RSt} (s : RR h tb r) (hl : r.L.length ≤ 1048576) (ht : totR r.L ≤ 1152921504606846976) :
  ∀ (d i acc : Nat), i + d = r.L.length → acc + totR (r.L.drop i) = totR r.L → Gx.Wp (iterK bot (d + 1) (ref07_Store_Used_l0b k D fun (n1 : Int) (h2 : AHeap) => some (n1, h2)) (some ⟨tb, 0, none⟩) (acc : Int) (i : Int) h) fun q => q = ((totR r.L : Int), h) := fun d => by
 obtain ⟨e, l, hb, A⟩ := s.blk
 have R := A.row encO_len
 have len := R.len
 induction d with
 | zero =>
  intro i acc hi ha
  rw [iterK_s]; simp only [ref07_Store_Used_l0b]
  obtain rfl : i = r.L.length := by omega
  rw [List.drop_length] at ha
  refine Gx.Wp.bnd rfl (Gx.Wp.bnd (sldL_at hb rfl) (Gx.Wp.ifn (by show ¬ decide ((r.L.length : Int) < (l.len : Int)) = true; rw [len]; simp) (Gx.Wp.of ?_)))
  have : acc = totR r.L := ha
  rw [this]
 | succ d ih =>
  intro i acc hi ha
  rw [iterK_s]; simp only [ref07_Store_Used_l0b]
  obtain ⟨x, hx⟩ := isome (l := r.L) (i := i) (by omega)
  rw [dropc hx] at ha
  simp only [totR] at ha
  obtain ⟨q, q1, _, _, q2⟩ := R.ld encO_len (by decide) hx
  refine Gx.Wp.bnd rfl (Gx.Wp.bnd (sldL_at hb rfl) (Gx.Wp.ifp (by show decide ((i : Int) < (l.len : Int)) = true; rw [len]; simp; omega) ?_))
  refine Gx.Wp.bnd rfl (Gx.Wp.bnd (sldL_at hb rfl) (Gx.Wp.bnd q1 (Gx.Wp.bnd (q2 0 x.1 rfl) ?_)))
  refine Gx.Wp.bnd rfl (Gx.Wp.bnd (sldL_at hb rfl) (Gx.Wp.bnd q1 (Gx.Wp.bnd (q2 1 x.2 rfl) ?_)))
  have e1 : IntKind.wrap .i64 ((acc : Int) + IntKind.wrap .i64 ((x.1.size : Int) + (x.2.size : Int))) = ((acc + (x.1.size + x.2.size) : Nat) : Int) := by
   rw [w64 ((x.1.size : Int) + x.2.size) (by omega), w64 _ (by omega)]; omega
  simp only [e1]
  rw [Gx.w1 (by omega)]
  exact ih (i + 1) _ (by omega) (by omega)
theorem rused_spec {k : Nat} (D : CallF) {h : AHeap} {tb : Nat} {r : RSt} (s : RR h tb r) (hl : r.L.length ≤ 1048576) (hk : r.L.length < k) (ht : totR r.L ≤ 1152921504606846976) :
  ref07_Store_Used k D (some ⟨tb, 0, none⟩) h = some ((totR r.L : Int), h) := by
 have : Gx.Wp (ref07_Store_Used k D (some ⟨tb, 0, none⟩) h) fun q => q = ((totR r.L : Int), h) := by
  simp only [ref07_Store_Used]
  refine Gx.Wp.jn fun j hj => ?_
  unfold ref07_Store_Used_l0
  obtain ⟨bot, eb⟩ := iterK_of (fun _ _ _ _ => none) (ref07_Store_Used_l0b k D j) (show r.L.length + 1 ≤ k by omega)
  rw [eb]
  subst hj
  exact rused_l0 D bot s hl ht r.L.length 0 0 (by omega) (by simp)
 obtain ⟨q, e, rfl⟩ := this
 exact e
theorem rnames_l0 {k : Nat} (D : CallF) (bot) {b : ByteArray} {h0 : AHeap} {tb : Nat} {r : RSt} (s : RR h0 tb r) (hl : r.L.length ≤ 1048576) :
  ∀ (d i : Nat) (o : Slc) (out : List ByteArray) (h : AHeap), i + d = r.L.length → out.length ≤ i → Keeps h0 h → Acc encS 9 h0.next h o out →
   Gx.Wp (iterK bot (d + 1) (ref07_Store_Names_l0b k D fun (out1 : Slc) (h2 : AHeap) => some (out1, h2)) (some ⟨tb, 0, none⟩) b o (i : Int) h) fun q => Keeps h0 q.2 ∧ Acc encS 9 h0.next q.2 q.1 (out ++ ((r.L.drop i).map (·.1)).filter (starts b)) := fun d => by
 induction d with
 | zero =>
  intro i o out h hi ho kp A
  obtain ⟨e, l, hb, AL⟩ := (s.keeps kp).blk
  have len := (AL.row encO_len).len
  rw [iterK_s]; simp only [ref07_Store_Names_l0b]
  obtain rfl : i = r.L.length := by omega
  refine Gx.Wp.bnd rfl (Gx.Wp.bnd (sldL_at hb rfl) (Gx.Wp.ifn (by show ¬ decide ((r.L.length : Int) < (l.len : Int)) = true; rw [len]; simp) (Gx.Wp.of ⟨kp, ?_⟩)))
  simpa using A
 | succ d ih =>
  intro i o out h hi ho kp A
  obtain ⟨e, l, hb, AL⟩ := (s.keeps kp).blk
  have R := AL.row encO_len
  have len := R.len
  rw [iterK_s]; simp only [ref07_Store_Names_l0b]
  obtain ⟨x, hx⟩ := isome (l := r.L) (i := i) (by omega)
  obtain ⟨q, q1, _, _, q2⟩ := R.ld encO_len (by decide) hx
  refine Gx.Wp.bnd rfl (Gx.Wp.bnd (sldL_at hb rfl) (Gx.Wp.ifp (by show decide ((i : Int) < (l.len : Int)) = true; rw [len]; simp; omega) ?_))
  refine Gx.Wp.jn fun j hj => Gx.Wp.bnd rfl (Gx.Wp.bnd (sldL_at hb rfl) (Gx.Wp.bnd q1 (Gx.Wp.bnd (q2 0 x.1 rfl) (Gx.Wp.jn fun j2 hj2 => ?_))))
  refine st_cond (b := b) (x := x.1) (j := fun y => j2 (some ⟨tb, 0, none⟩) b o (i : Int) x.1 y h) ?_
  rw [dropc hx, List.map_cons]
  subst hj2
  cases hst : starts b x.1 with
  | true =>
   refine Gx.Wp.ifp rfl ?_
   refine Gx.Wp.bnd rdS_one ?_
   obtain ⟨s', h', a1, A2, c2, _⟩ := A.push encS_one x.1 (bytes := 16) (by omega) (by decide) kp.nx
   refine Gx.Wp.bnd a1 ?_
   subst hj
   simp only
   rw [Gx.w1 (by omega), List.filter_cons_of_pos hst, show out ++ x.1 :: ((r.L.drop (i + 1)).map (·.1)).filter (starts b) = (out ++ [x.1]) ++ ((r.L.drop (i + 1)).map (·.1)).filter (starts b) by simp]
   exact ih (i + 1) s' (out ++ [x.1]) h' (by omega) (by simp; omega) (Chg.beh kp c2 fun y hy ⟨a, ha, e⟩ => by have := (A.lt a ha).2; omega) A2
  | false =>
   refine Gx.Wp.ifn (fun q => by cases q) ?_
   subst hj
   simp only
   rw [Gx.w1 (by omega), List.filter_cons_of_neg (by rw [hst]; decide)]
   exact ih (i + 1) o out h (by omega) (by omega) kp A
theorem rnames_spec {k : Nat} (D : CallF) {h : AHeap} {tb : Nat} {r : RSt} (s : RR h tb r) (b : ByteArray) (hl : r.L.length ≤ 1048576) (hk : r.L.length < k) :
  Gx.Wp (ref07_Store_Names k D (some ⟨tb, 0, none⟩) b h) fun q => Keeps h q.2 ∧ Acc encS 9 h.next q.2 q.1 ((r.L.map (·.1)).filter (starts b)) := by
 simp only [ref07_Store_Names]
 refine Gx.Wp.jn fun j hj => ?_
 unfold ref07_Store_Names_l0
 obtain ⟨bot, eb⟩ := iterK_of (fun _ _ _ _ _ => none) (ref07_Store_Names_l0b k D j) (show r.L.length + 1 ≤ k by omega)
 rw [eb]
 subst hj
 have := rnames_l0 (k := k) (b := b) D bot s hl r.L.length 0 _ [] h (by omega) (by simp) (Chg.refl _ _) (Acc.nil _ _ _ _)
 simpa using this
theorem rname_l0 {k : Nat} (D : CallF) (bot) {n : ByteArray} (hs : n.size ≤ 9223372036854775807) {h : AHeap} {Q : Bool × AHeap → Prop} (j6) (hj : (bl n).all okB = true → Gx.Wp (j6 h) Q) (hf : (bl n).all okB = false → Q (false, h)) :
  ∀ (d i : Nat), i + d = n.size → ((bl n).take i).all okB = true → Gx.Wp (iterK bot (d + 1) (ref07_Name_l0b k D j6) n (i : Int) h) Q := fun d => by
 have hl : (bl n).length = n.size := rfl
 induction d with
 | zero =>
  intro i hi ha
  rw [iterK_s]; simp only [ref07_Name_l0b]
  obtain rfl : i = n.size := by omega
  refine Gx.Wp.ifn (by simp) (hj ?_)
  rw [← hl, List.take_length] at ha; exact ha
 | succ d ih =>
  intro i hi ha
  rw [iterK_s]; simp only [ref07_Name_l0b]
  obtain ⟨c, hc⟩ := isome (l := bl n) (i := i) (by omega)
  refine Gx.Wp.ifp (by simp; omega) (Gx.Wp.jn fun j hj' => ?_)
  have e1 : Gx.idxS n (i : Int) = some (c.toNat : Int) := idxS_of hc
  have hall : ((bl n).take (i + 1)).all okB = okB c := by
   rw [List.take_add_one, hc, List.all_append, ha]; simp
  have fin : okB c = false → (bl n).all okB = false := by
   intro q
   rw [← Bool.not_eq_true]
   intro q2
   rw [List.all_eq_true] at q2
   rw [q2 c (mem_of hc)] at q; cases q
  refine Gx.Wp.bnd e1 ?_
  by_cases h1 : (c.toNat : Int) ≤ 32
  ·refine Gx.Wp.ifp (by simpa using h1) ?_
   subst hj'
   exact Gx.Wp.ifp rfl (Gx.Wp.of (hf (fin (okB_bad h1))))
  ·refine Gx.Wp.ifn (by simpa using h1) (Gx.Wp.bnd e1 ?_)
   subst hj'
   rw [okB_eq h1]
   cases hk : okB c with
   | false => exact Gx.Wp.ifp rfl (Gx.Wp.of (hf (fin hk)))
   | true =>
    refine Gx.Wp.ifn (by decide) ?_
    rw [Gx.w1 (by omega)]
    exact ih (i + 1) (by omega) (by rw [hall]; exact hk)
theorem rname_spec {k : Nat} (D : CallF) {h : AHeap} (n : ByteArray) (hk : 100 < k) : ref07_Name k D n h = some (mayB n, h) := by
 have : Gx.Wp (ref07_Name k D n h) fun q => q = (mayB n, h) := by
  simp only [ref07_Name]
  refine Gx.Wp.jn fun j hj => ?_
  by_cases he : n = ⟨#[]⟩
  ·have : (n == (⟨#[]⟩ : ByteArray)) = true := by rw [ba_beq, decide_eq_true he]
   refine Gx.Wp.ifp this ?_
   subst hj
   exact Gx.Wp.ifp rfl (Gx.Wp.of (by simp [mayB, he]))
  ·have : (n == (⟨#[]⟩ : ByteArray)) = false := by rw [ba_beq, decide_eq_false he]
   refine Gx.Wp.ifn (by rw [this]; decide) ?_
   subst hj
   by_cases q : n.size ≤ 96
   ·refine Gx.Wp.ifn (by simp; omega) (Gx.Wp.jn fun j6 h6 => ?_)
    unfold ref07_Name_l0
    obtain ⟨bot, eb⟩ := iterK_of (fun _ _ _ => none) (ref07_Name_l0b k D j6) (show n.size + 1 ≤ k by omega)
    rw [eb]
    refine rname_l0 D bot (by omega) j6 (fun ha => ?_) (fun ha => by simp only [mayB, ha]; rfl) n.size 0 (by omega) rfl
    subst h6
    exact Gx.Wp.of (by simp only [mayB, ha, Bool.true_and, decide_eq_true (show n ≠ ⟨#[]⟩ from he), decide_eq_true q])
   ·refine Gx.Wp.ifp (by simp; omega) (Gx.Wp.of ?_)
    simp only [mayB, decide_eq_false q, Bool.and_false]
 obtain ⟨q, e, rfl⟩ := this
 exact e
end Gs
namespace Gs
open Go Gx
def failC (n : Int) : Nat := if n < 0 ∨ 1048576 < n then 1 else 0
def failV (n : Int) (f : Nat) : Nat := if n < 0 ∨ 1048576 < n then f else n.toNat
theorem failV_le {n : Int} {f : Nat} (h : f ≤ 1048576) : failV n f ≤ 1048576 := by unfold failV; split <;> omega
theorem Fail_spec {k : Nat} (D : CallF) {h : AHeap} {sb rb : Nat} {p : PS} (s : SR h sb rb p) (n : Int) :
  Gx.Wp (store_Store_Fail k D (some ⟨sb, 0, none⟩) n h) fun q => q.1 = (failC n : Int) ∧ Chg (SB sb rb) h q.2 ∧ SR q.2 sb rb { p with fails := failV n p.fails } := by
 obtain ⟨e, hb⟩ := s.blk
 simp only [store_Store_Fail]
 refine Gx.Wp.jn fun j hj => ?_
 unfold failC failV
 by_cases c : n < 0 ∨ 1048576 < n
 ·rw [if_pos c, if_pos c]
  by_cases c1 : n < 0
  ·refine Gx.Wp.ifp (by simpa using c1) ?_
   subst hj
   exact Gx.Wp.ifp rfl (Gx.Wp.of ⟨rfl, Chg.refl _ _, s⟩)
  ·refine Gx.Wp.ifn (by simpa using c1) ?_
   subst hj
   exact Gx.Wp.ifp (by simp; omega) (Gx.Wp.of ⟨rfl, Chg.refl _ _, s⟩)
 ·rw [if_neg c, if_neg c]
  refine Gx.Wp.ifn (by simp; omega) ?_
  subst hj
  refine Gx.Wp.ifn (by simp; omega) (Gx.Wp.bnd rfl (Gx.Wp.bnd (st1_sb hb (by show 0 + 2 < 6; omega) rfl) (Gx.Wp.of ⟨rfl, Chg.set (.inr (.inl rfl)), ⟨e, ?_⟩, ?_, s.lt⟩)))
  ·rw [sset_get]
   have : n = (n.toNat : Int) := by omega
   rw [this]; rfl
  ·simp only [AHeap.get_set]; rw [if_neg (fun q => s.ne q.symm)]; exact s.mp
theorem Down_spec {k : Nat} (D : CallF) {h : AHeap} {sb rb : Nat} {p : PS} (s : SR h sb rb p) (b : Bool) :
  Gx.Wp (store_Store_Down k D (some ⟨sb, 0, none⟩) b h) fun q => Chg (SB sb rb) h q.2 ∧ SR q.2 sb rb { p with down := b } := by
 obtain ⟨e, hb⟩ := s.blk
 simp only [store_Store_Down]
 refine Gx.Wp.bnd rfl (Gx.Wp.bnd (st1_sb hb (by show 0 + 3 < 6; omega) rfl) (Gx.Wp.of ⟨Chg.set (.inr (.inl rfl)), ⟨e, ?_⟩, ?_, s.lt⟩))
 ·rw [sset_get]; rfl
 ·simp only [AHeap.get_set]; rw [if_neg (fun q => s.ne q.symm)]; exact s.mp
theorem Wipe_spec {k : Nat} (D : CallF) {h : AHeap} {sb rb : Nat} {p : PS} (s : SR h sb rb p) :
  Gx.Wp (store_Store_Wipe k D (some ⟨sb, 0, none⟩) h) fun q => Chg (SB sb rb) h q.2 ∧ SR q.2 sb rb { p with es := [] } := by
 obtain ⟨e, hb⟩ := s.blk
 simp only [store_Store_Wipe]
 have ec : clrM h (some rb) = some (h.set rb (.map [] p.cl)) := by simp only [clrM, clrE, s.mp]
 refine Gx.Wp.bnd rfl (Gx.Wp.bnd (ldM_at (m := some rb) hb rfl) (Gx.Wp.bnd ec (Gx.Wp.bnd rfl ?_)))
 have hb2 : (h.set rb (.map [] p.cl)).get sb = some (.cells [.int .i64 p.quota, .int .i64 (tot p.es), .int .i64 p.fails, .bool p.down, .map (some rb), .int .i64 p.calls] e true 0) := by simp only [AHeap.get_set]; rw [if_neg s.ne]; exact hb
 refine Gx.Wp.bnd (st1_sb hb2 (by show 0 + 1 < 6; omega) rfl) (Gx.Wp.of ⟨(Chg.set (.inr (.inr rfl))).trans (Chg.set (.inr (.inl rfl))), ⟨e, by rw [sset_get]; rfl⟩, ?_, s.lt⟩)
 simp only [AHeap.get_set]; rw [if_neg (fun q => s.ne q.symm), if_true]; rfl
theorem good_nil (cl : Nat) : Good [] cl := ⟨by simp, by simp, by simp, by simp⟩
def PS.setS (p : PS) (n d : ByteArray) : PS := if fitsC n d = 0 then p.lay n d else p
theorem Set_spec {k : Nat} (D : CallF) {h : AHeap} {sb rb : Nat} {p : PS} (s : SR h sb rb p) (g : Good p.es p.cl) (n d : ByteArray) (hl : p.es.length ≤ 1048576) (hk : n.size < k) (hs : n.size ≤ 9223372036854775807) :
  Gx.Wp (store_Store_Set k D (some ⟨sb, 0, none⟩) n d h) fun q => q.1 = (fitsC n d : Int) ∧ Chg (SB sb rb) h q.2 ∧ SR q.2 sb rb (p.setS n d) ∧ Good (p.setS n d).es (p.setS n d).cl := by
 simp only [store_Store_Set]
 refine Gx.Wp.call (fits_spec D n d hk hs) fun r hr => ?_
 obtain ⟨r1, k1⟩ := hr
 refine Gx.Wp.jn fun j hj => ?_
 have s1 := s.keeps k1
 unfold PS.setS
 by_cases c : fitsC n d = 0
 ·rw [r1, c]
  obtain ⟨f1, f2, _⟩ := fits0 c
  refine Gx.Wp.ifp rfl (Gx.Wp.call (lay_spec D s1 g f1 f2 hl) fun r2 h2 => ?_)
  subst hj
  exact Gx.Wp.of ⟨rfl, (Chg.keeps k1).trans h2.1, h2.2.1, h2.2.2⟩
 ·rw [r1]
  refine Gx.Wp.ifn (by simpa using c) ?_
  subst hj
  rw [if_neg c]
  exact Gx.Wp.of ⟨rfl, Chg.keeps k1, s1, g⟩
def cutB (d : ByteArray) (n : Nat) : ByteArray := ba ((bl d).take n)
def tornC (kind : Int) (n d : ByteArray) : Nat := if kind = 1 then fitsC n d else 3
def PS.tornS (p : PS) (kind : Int) (n d : ByteArray) (keep : Int) : PS := if tornC kind n d = 0 ∧ 0 ≤ keep then p.lay n (cutB d (min keep.toNat d.size)) else p
theorem cut_size (d : ByteArray) (n : Nat) : (cutB d n).size ≤ d.size := by
 show ((bl d).take n).length ≤ _
 have : (bl d).length = d.size := rfl
 simp; omega
theorem cut_sub (d : ByteArray) {keep : Int} (h : 0 ≤ keep) : Gx.subS d none (some (if (d.size : Int) < keep then (d.size : Int) else keep)) = some (cutB d (min keep.toNat d.size)) := by
 have e : (if (d.size : Int) < keep then (d.size : Int) else keep) = ((min keep.toNat d.size : Nat) : Int) := by split <;> omega
 rw [e]
 rw [subS_of (i := 0) (j := min keep.toNat d.size) rfl rfl (Nat.zero_le _) (by omega)]
 rw [List.drop_zero]; rfl
theorem Torn_spec {k : Nat} (D : CallF) {h : AHeap} {sb rb : Nat} {p : PS} (s : SR h sb rb p) (g : Good p.es p.cl) (st kind : Int) (n d : ByteArray) (keep : Int) (hl : p.es.length ≤ 1048576) (hk : n.size < k) (hs : n.size ≤ 9223372036854775807) :
  Gx.Wp (store_Store_Torn k D (some ⟨sb, 0, none⟩) (st, kind, n, d) keep h) fun q => q.1 = (tornC kind n d : Int) ∧ Chg (SB sb rb) h q.2 ∧ SR q.2 sb rb (p.tornS kind n d keep) ∧ Good (p.tornS kind n d keep).es (p.tornS kind n d keep).cl := by
 simp only [store_Store_Torn]
 obtain ⟨H1, e1⟩ : ∃ H1, H1 = h.new (.cells [.int .i64 st, .int .i64 kind, .string n, .string d] 32 true 0) := ⟨_, rfl⟩
 rw [← e1]
 have k1 : Keeps h H1 := e1 ▸ Keeps.new h _
 have rq : H1.get h.next = some (.cells [.int .i64 st, .int .i64 kind, .string n, .string d] 32 true 0) := by rw [e1]; simp
 have n1 : H1.next = h.next + 1 := by rw [e1]; rfl
 refine Gx.Wp.bnd (sldI_at rq rfl) ?_
 unfold PS.tornS tornC
 by_cases c : kind = 1
 ·rw [if_pos c]
  refine Gx.Wp.ifn (by simpa using c) (Gx.Wp.bnd (ldS_at rq rfl) (Gx.Wp.bnd (ldS_at rq rfl) ?_))
  refine Gx.Wp.call (fits_spec D n d hk hs) fun r hr => ?_
  obtain ⟨r1, k2⟩ := hr
  have s2 := s.keeps (k1.trans k2)
  have rq2 := (k2.oth _ (by omega) fun f => f).trans rq
  refine Gx.Wp.jn fun j8 h8 => Gx.Wp.jn fun j15 h15 => ?_
  rw [r1]
  by_cases c2 : fitsC n d = 0
  ·rw [c2]
   obtain ⟨f1, f2, _⟩ := fits0 c2
   refine Gx.Wp.ifp rfl ?_
   subst h15
   by_cases c3 : 0 ≤ keep
   ·refine Gx.Wp.ifp (by simpa using c3) ?_
    refine Gx.Wp.bnd rfl (Gx.Wp.bnd (ldS_at rq2 rfl) (Gx.Wp.bnd rfl (Gx.Wp.bnd (ldS_at rq2 rfl) (Gx.Wp.bnd rfl (Gx.Wp.bnd (ldS_at rq2 rfl) (Gx.Wp.bnd (cut_sub d c3) ?_))))))
    refine Gx.Wp.call (lay_spec D s2 g f1 (Nat.le_trans (cut_size d _) f2) hl) fun r2 h2 => ?_
    subst h8
    refine Gx.Wp.of ⟨rfl, (Chg.keeps (k1.trans k2)).trans h2.1, ?_⟩
    rw [if_pos ⟨rfl, c3⟩]; exact ⟨h2.2.1, h2.2.2⟩
   ·refine Gx.Wp.ifn (by simpa using c3) ?_
    subst h8
    refine Gx.Wp.of ⟨rfl, Chg.keeps (k1.trans k2), ?_⟩
    rw [if_neg (fun z => c3 z.2)]; exact ⟨s2, g⟩
  ·refine Gx.Wp.ifn (by simpa using c2) ?_
   subst h15
   refine Gx.Wp.ifn (fun q => by cases q) ?_
   subst h8
   refine Gx.Wp.of ⟨rfl, Chg.keeps (k1.trans k2), ?_⟩
   rw [if_neg (fun z => c2 z.1)]; exact ⟨s2, g⟩
 ·rw [if_neg c]
  refine Gx.Wp.ifp (by simpa using c) (Gx.Wp.of ⟨rfl, Chg.keeps k1, ?_⟩)
  rw [if_neg (fun z => by cases z.1)]; exact ⟨s.keeps k1, g⟩
theorem Used_spec {k : Nat} (D : CallF) {h : AHeap} {sb rb : Nat} {p : PS} (s : SR h sb rb p) : store_Store_Used k D (some ⟨sb, 0, none⟩) h = some ((tot p.es : Int), h) := by
 obtain ⟨e, hb⟩ := s.blk
 simp only [store_Store_Used]
 exact bnd rfl (bnd (sldI_at hb rfl) rfl)
theorem Calls_spec {k : Nat} (D : CallF) {h : AHeap} {sb rb : Nat} {p : PS} (s : SR h sb rb p) : store_Store_Calls k D (some ⟨sb, 0, none⟩) h = some ((p.calls : Int), h) := by
 obtain ⟨e, hb⟩ := s.blk
 simp only [store_Store_Calls, sync_atomic_Int64_Load]
 exact bnd rfl (bnd (v := (((p.calls : Int)), h)) (bnd rfl (bnd (sldI_at hb rfl) rfl)) rfl)
theorem Fork_spec {k : Nat} (D : CallF) {h : AHeap} {sb rb : Nat} {p : PS} (s : SR h sb rb p) :
  Gx.Wp (store_Store_Fork k D (some ⟨sb, 0, none⟩) h) fun q => q.1 = some ⟨h.next + 1, 0, none⟩ ∧ Keeps h q.2 ∧ SR q.2 (h.next + 1) h.next p := by
 obtain ⟨e, hb⟩ := s.blk
 simp only [store_Store_Fork]
 have em : mcloneA [.map (some rb)] h = some (some h.next, h.new (.map (p.es.map encE) p.cl)) := by simp only [mcloneA, s.mp]
 refine Gx.Wp.bnd rfl (Gx.Wp.bnd (ldM_at (m := some rb) hb rfl) (Gx.Wp.bnd em ?_))
 obtain ⟨H1, e1⟩ : ∃ H1, H1 = h.new (.map (p.es.map encE) p.cl) := ⟨_, rfl⟩
 dsimp only
 rw [← e1]
 have k1 : Keeps h H1 := e1 ▸ Keeps.new h _
 have n1 : H1.next = h.next + 1 := by rw [e1]; rfl
 have hb1 := (k1.oth _ s.lt.1 fun f => f).trans hb
 refine Gx.Wp.bnd rfl (Gx.Wp.bnd (sldI_at hb1 rfl) (Gx.Wp.gp (ssw1 (bnd (sldI_at hb rfl) rfl)) ?_))
 refine Gx.Wp.bnd rfl (Gx.Wp.bnd (sldI_at hb1 rfl) (Gx.Wp.gp (ssw1 (bnd (sldI_at hb rfl) rfl)) ?_))
 refine Gx.Wp.bnd rfl (Gx.Wp.bnd (sldI_at hb1 rfl) (Gx.Wp.gp (ssw1 (bnd (sldI_at hb rfl) rfl)) ?_))
 refine Gx.Wp.bnd rfl (Gx.Wp.bnd (ldB_at hb1 rfl) (Gx.Wp.gp (ssw1 (bnd (ldB_at hb rfl) rfl)) ?_))
 obtain ⟨H2, e2⟩ : ∃ H2, H2 = H1.new (.cells [.int .i64 p.quota, .int .i64 (tot p.es), .int .i64 p.fails, .bool p.down, .map (some h.next), .int .i64 0] 106 true 0) := ⟨_, rfl⟩
 rw [← e2]
 have k2 : Keeps H1 H2 := e2 ▸ Keeps.new H1 _
 have hb2 := (k2.oth _ (by have := s.lt; omega) fun f => f).trans hb1
 have g2 : H2.get H1.next = some (.cells [.int .i64 p.quota, .int .i64 (tot p.es), .int .i64 p.fails, .bool p.down, .map (some h.next), .int .i64 0] 106 true 0) := by rw [e2]; simp
 simp only [sync_atomic_Int64_Load, sync_atomic_Int64_Store]
 refine Gx.Wp.bnd rfl (Gx.Wp.bnd (a := ((p.calls : Int), H2)) (bnd rfl (bnd (sldI_at hb2 rfl) rfl)) ?_)
 refine Gx.Wp.bnd (bnd rfl (bnd (sldI_at g2 rfl) (bnd (st1_sb g2 (by show 5 + 0 < 6; omega) rfl) rfl))) (Gx.Wp.of ⟨by rw [n1], ?_, ⟨106, ?_⟩, ?_, ?_⟩)
 ·exact Chg.beh (T := (· = H1.next)) (k1.trans k2) (Chg.set (.inr rfl)) fun y hy q => by omega
 ·rw [← n1, sset_get]; rfl
 ·simp only [AHeap.get_set]
  rw [if_neg (by omega), k2.oth _ (by omega) fun f => f, e1]; simp
 ·have := k2.nx
  have : H2.next = H1.next + 1 := by rw [e2]; rfl
  simp only [AHeap.next_set]; omega
end Gs
namespace Gs
open Go Gx
theorem AccV.rdS {α : Type} {w : Nat} {enc : α → List Value} {e : TypeId} {base : Nat} {h : AHeap} {s : Slc} {xs : List α} (A : AccV w enc e base h s xs) (hw : ∀ x, (enc x).length = w) : Gx.rdS w s h = some (xs.flatMap enc) := by
 rcases A.st with ⟨q1, q2, rfl, q3⟩ | ⟨b, rfl, h2, h3⟩
 ·obtain ⟨a, n, c⟩ := s
  simp only at q1 q2; subst q1 q2
  cases a with
  | none => rfl
  | some a => simp only [Gx.rdS]; simp [AHeap.rdL]
 ·have hl := flatW_length hw xs
  simp only [Gx.rdS]
  rw [← hl]
  exact rdL_all h2
theorem rFail_spec {k : Nat} (D : CallF) {h : AHeap} {tb : Nat} {r : RSt} (s : RR h tb r) (n : Int) :
  Gx.Wp (ref07_Store_Fail k D (some ⟨tb, 0, none⟩) n h) fun q => q.1 = (failC n : Int) ∧ Chg (· = tb) h q.2 ∧ RR q.2 tb { r with fails := failV n r.fails } := by
 obtain ⟨e, l, hb, A⟩ := s.blk
 simp only [ref07_Store_Fail]
 refine Gx.Wp.jn fun j hj => ?_
 unfold failC failV
 by_cases c : n < 0 ∨ 1048576 < n
 ·rw [if_pos c, if_pos c]
  by_cases c1 : n < 0
  ·refine Gx.Wp.ifp (by simpa using c1) ?_
   subst hj
   exact Gx.Wp.ifp rfl (Gx.Wp.of ⟨rfl, Chg.refl _ _, s⟩)
  ·refine Gx.Wp.ifn (by simpa using c1) ?_
   subst hj
   exact Gx.Wp.ifp (by simp; omega) (Gx.Wp.of ⟨rfl, Chg.refl _ _, s⟩)
 ·rw [if_neg c, if_neg c]
  refine Gx.Wp.ifn (by simp; omega) ?_
  subst hj
  refine Gx.Wp.ifn (by simp; omega) (Gx.Wp.bnd rfl (Gx.Wp.bnd (st1_sb hb (by show 0 + 1 < 5; omega) rfl) (Gx.Wp.of ⟨rfl, Chg.set (.inr rfl), ⟨e, l, ?_, A.chg (S := (· = tb)) (Chg.set (.inr rfl)) fun a ha q => by have := (A.lt a ha).2; omega⟩, s.lt⟩)))
  rw [sset_get]
  have : n = (n.toNat : Int) := by omega
  rw [this]; rfl
theorem rOff_spec {h : AHeap} {tb : Nat} {r : RSt} (s : RR h tb r) (b : Bool) : ∃ h', Gx.st1 (⟨tb, 0 + 3, none⟩ : Addr) (.bool b) h = some h' ∧ Chg (· = tb) h h' ∧ RR h' tb { r with off := b } := by
 obtain ⟨e, l, hb, A⟩ := s.blk
 exact ⟨_, st1_sb hb (by show 0 + 3 < 5; omega) rfl, Chg.set (.inr rfl), ⟨e, l, by rw [sset_get]; rfl, A.chg (S := (· = tb)) (Chg.set (.inr rfl)) fun a ha q => by have := (A.lt a ha).2; omega⟩, s.lt⟩
theorem rNil_spec {h : AHeap} {tb : Nat} {r : RSt} (s : RR h tb r) : ∃ h', Gx.st1 (⟨tb, 0 + 4, none⟩ : Addr) (.slice none 0 0) h = some h' ∧ Chg (· = tb) h h' ∧ RR h' tb { r with L := [] } := by
 obtain ⟨e, l, hb, A⟩ := s.blk
 obtain ⟨h2, b1, b2, b3⟩ := RR.setL (S := NoB) (r := r) s.lt hb (Chg.refl _ _) (fun f => f) (AccV.nil 2 encO 124 (tb + 1) h)
 exact ⟨h2, b1, b2, b3⟩
theorem rSet_spec {k : Nat} (D : CallF) {h : AHeap} {tb : Nat} {r : RSt} (s : RR h tb r) (n d : ByteArray) (hl : r.L.length ≤ 1048576) (hk : r.L.length < k) (hk2 : 100 < k) :
  Gx.Wp (ref07_Store_Set k D (some ⟨tb, 0, none⟩) n d h) fun q => q.1 = (fitsC n d : Int) ∧ Chg (· = tb) h q.2 ∧ RR q.2 tb (if fitsC n d = 0 then { r with L := lyR n d r.L } else r) := by
 simp only [ref07_Store_Set]
 refine Gx.Wp.bnd (rname_spec D n hk2) ?_
 unfold fitsC
 cases hm : mayB n with
 | false => exact Gx.Wp.ifp rfl (Gx.Wp.of ⟨rfl, Chg.refl _ _, s⟩)
 | true =>
  refine Gx.Wp.ifn (fun q => by cases q) ?_
  by_cases q : 131072 < d.size
  ·refine Gx.Wp.ifp (by simp; omega) (Gx.Wp.of ⟨by simp [q], Chg.refl _ _, ?_⟩)
   rw [if_neg (by simp [q])]; exact s
  ·refine Gx.Wp.ifn (by simp; omega) (Gx.Wp.call (rlay_spec D s n d hl hk) fun r2 h2 => Gx.Wp.of ⟨by simp [q], h2.1, ?_⟩)
   rw [if_pos (by simp [q])]; exact h2.2
theorem fitsC_eq {n d : ByteArray} (hm : mayB n = true) : fitsC n d = if 131072 < d.size then 2 else 0 := by unfold fitsC; rw [hm]; rfl
theorem rTorn_spec {k : Nat} (D : CallF) {h : AHeap} {tb : Nat} {r : RSt} (s : RR h tb r) (st kind : Int) (n d : ByteArray) (keep : Int) (hl : r.L.length ≤ 1048576) (hk : r.L.length < k) (hk2 : 100 < k) :
  Gx.Wp (ref07_Store_Torn k D (some ⟨tb, 0, none⟩) (st, kind, n, d) keep h) fun q => q.1 = (tornC kind n d : Int) ∧ Chg (· = tb) h q.2 ∧ RR q.2 tb (if tornC kind n d = 0 ∧ 0 ≤ keep then { r with L := lyR n (cutB d (min keep.toNat d.size)) r.L } else r) := by
 simp only [ref07_Store_Torn]
 obtain ⟨H1, e1⟩ : ∃ H1, H1 = h.new (.cells [.int .i64 st, .int .i64 kind, .string n, .string d] 32 true 0) := ⟨_, rfl⟩
 rw [← e1]
 have k1 : Keeps h H1 := e1 ▸ Keeps.new h _
 have rq : H1.get h.next = some (.cells [.int .i64 st, .int .i64 kind, .string n, .string d] 32 true 0) := by rw [e1]; simp
 have s1 := s.keeps k1
 refine Gx.Wp.jn fun j hj => Gx.Wp.bnd (sldI_at rq rfl) ?_
 unfold tornC
 by_cases c : kind = 1
 ·rw [if_pos c]
  refine Gx.Wp.ifn (by simpa using c) (Gx.Wp.bnd (ldS_at rq rfl) (Gx.Wp.bnd (rname_spec D n hk2) ?_))
  subst hj
  cases hm : mayB n with
  | false =>
   refine Gx.Wp.ifp rfl (Gx.Wp.of ⟨by simp [fitsC, hm], Chg.keeps k1, ?_⟩)
   rw [if_neg (by simp [fitsC, hm])]; exact s1
  | true =>
   rw [fitsC_eq hm]
   refine Gx.Wp.ifn (fun q => by cases q) (Gx.Wp.bnd rfl (Gx.Wp.bnd (ldS_at rq rfl) ?_))
   by_cases q : 131072 < d.size
   ·refine Gx.Wp.ifp (by simp; omega) (Gx.Wp.of ⟨by simp [q], Chg.keeps k1, ?_⟩)
    rw [if_neg (by simp [q])]; exact s1
   ·refine Gx.Wp.ifn (by simp; omega) (Gx.Wp.jn fun j11 h11 => ?_)
    by_cases c3 : 0 ≤ keep
    ·refine Gx.Wp.ifp (by simpa using c3) ?_
     refine Gx.Wp.bnd rfl (Gx.Wp.bnd (ldS_at rq rfl) (Gx.Wp.bnd rfl (Gx.Wp.bnd (ldS_at rq rfl) (Gx.Wp.bnd rfl (Gx.Wp.bnd (ldS_at rq rfl) (Gx.Wp.bnd (cut_sub d c3) ?_))))))
     refine Gx.Wp.call (rlay_spec D s1 n _ hl hk) fun r2 h2 => ?_
     subst h11
     refine Gx.Wp.of ⟨by simp [q], (Chg.keeps k1).trans h2.1, ?_⟩
     rw [if_pos (by simp [q, c3])]; exact h2.2
    ·refine Gx.Wp.ifn (by simpa using c3) ?_
     subst h11
     refine Gx.Wp.of ⟨by simp [q], Chg.keeps k1, ?_⟩
     rw [if_neg (fun z => c3 z.2)]; exact s1
 ·rw [if_neg c]
  refine Gx.Wp.ifp (by simpa using c) ?_
  subst hj
  refine Gx.Wp.ifp rfl (Gx.Wp.of ⟨rfl, Chg.keeps k1, ?_⟩)
  rw [if_neg (fun z => by cases z.1)]; exact s1
def lkR (n : ByteArray) (L : List Ob) : Option ByteArray := if fnd n L = true then (L[fi n L]?).map (·.2) else none
theorem lkR_some {n : ByteArray} {L : List Ob} (h : fnd n L = true) : ∃ x, L[fi n L]? = some x ∧ lkR n L = some x.2 := by
 obtain ⟨x, hx⟩ := isome (fnd_lt h)
 exact ⟨x, hx, by unfold lkR; rw [if_pos h, hx]; rfl⟩
theorem rGet_spec {k : Nat} (D : CallF) {h : AHeap} {tb : Nat} {r : RSt} (s : RR h tb r) (n : ByteArray) (hl : r.L.length ≤ 1048576) (hk : r.L.length < k) :
  ref07_Store_Get k D (some ⟨tb, 0, none⟩) n h = some (((lkR n r.L).getD nob, (lkR n r.L).isSome), h) := by
 obtain ⟨e, l, hb, A⟩ := s.blk
 simp only [ref07_Store_Get]
 refine bnd (rfind_spec D s n hl hk) ?_
 cases c : fnd n r.L with
 | false =>
  have : lkR n r.L = none := by unfold lkR; rw [c]; rfl
  rw [this]; exact ifp rfl rfl
 | true =>
  obtain ⟨x, hx, e1⟩ := lkR_some c
  obtain ⟨q, q1, _, _, q2⟩ := (A.row encO_len).ld encO_len (by decide) hx
  refine ifn (fun q => by cases q) (bnd rfl (bnd (sldL_at hb rfl) (bnd q1 (bnd (q2 1 x.2 rfl) ?_))))
  rw [e1]; rfl
end Gs
namespace Gs
open Go Gx
theorem AccV.apart {α : Type} {w : Nat} {enc : α → List Value} {e e' : TypeId} {base : Nat} {h : AHeap} {s : Slc} {xs : List α} {b0 : Nat} {c : List Value} {rw : Bool} {fz : Nat} {B : ABlk} (A : AccV w enc e base h s xs) (hb : h.get b0 = some (.cells c e' rw fz)) (he : e ≠ e') : AccV w enc e base (h.set b0 B) s xs := by
 refine ⟨A.st.imp id ?_, A.lt⟩
 rintro ⟨b, h1, h2, h3⟩
 refine ⟨b, h1, ?_, h3⟩
 simp only [AHeap.get_set]
 rw [if_neg]
 ·exact h2
 ·rintro rfl
  rw [h2] at hb; cases hb; exact he rfl
theorem rFork_spec {k : Nat} (D : CallF) {h : AHeap} {tb : Nat} {r : RSt} (s : RR h tb r) (hl : r.L.length ≤ 1048576) :
  Gx.Wp (ref07_Store_Fork k D (some ⟨tb, 0, none⟩) h) fun q => q.1 = some ⟨h.next, 0, none⟩ ∧ Keeps h q.2 ∧ RR q.2 h.next r := by
 obtain ⟨e, l, hb, A⟩ := s.blk
 simp only [ref07_Store_Fork]
 refine Gx.Wp.bnd rfl (Gx.Wp.bnd (sldA_at hb rfl) (Gx.Wp.bnd rfl ?_))
 obtain ⟨H1, e1⟩ : ∃ H1, H1 = h.new (.cells [.int .i64 0, .int .i64 0, .int .i64 0, .bool false, .slice none 0 0] 48 true 0) := ⟨_, rfl⟩
 rw [← e1]
 have k1 : Keeps h H1 := e1 ▸ Keeps.new h _
 have n1 : H1.next = h.next + 1 := by rw [e1]; rfl
 have g1 : H1.get h.next = some (.cells [.int .i64 0, .int .i64 0, .int .i64 0, .bool false, .slice none 0 0] 48 true 0) := by rw [e1]; simp
 refine Gx.Wp.bnd (sstL_at g1 rfl rfl rfl (by decide)) ?_
 obtain ⟨H2, e2⟩ : ∃ H2, H2 = H1.set h.next (.cells [.int .i64 r.quota, .int .i64 r.fails, .int .i64 r.many, .bool r.off, .slice l.a l.len l.cap] 48 true 0) := ⟨_, rfl⟩
 have k2 : Keeps h H2 := Chg.beh (T := (· = h.next)) k1 (e2 ▸ Chg.set (.inr rfl)) fun y hy q => by omega
 have g2 : H2.get h.next = some (.cells [.int .i64 r.quota, .int .i64 r.fails, .int .i64 r.many, .bool r.off, .slice l.a l.len l.cap] 48 true 0) := by rw [e2]; simp
 have n2 : H2.next = h.next + 1 := by rw [e2]; exact n1
 refine Gx.Wp.mono (x := _) (P := _) ?_ fun _ z => z
 have e2' : H1.set h.next (.cells [.int .i64 r.quota, .int .i64 r.fails, .int .i64 r.many, .bool r.off, .slice l.a l.len l.cap] 48 true 0) = H2 := e2.symm
 dsimp only
 rw [e2']
 obtain ⟨H3, e3⟩ : ∃ H3, H3 = H2.new (.cells [] 124 true 0) := ⟨_, rfl⟩
 rw [← e3]
 have k3 : Keeps H2 H3 := e3 ▸ Keeps.new H2 _
 have n3 : H3.next = h.next + 2 := by rw [e3, AHeap.next_new, n2]
 have lt := s.lt
 have hb3 := ((k2.trans k3).oth _ lt fun f => f).trans hb
 have A3 := A.keeps (k2.trans k3)
 have g3 := (k3.oth _ (by omega) fun f => f).trans g2
 refine Gx.Wp.bnd rfl (Gx.Wp.bnd (sldL_at hb3 rfl) (Gx.Wp.bnd (A3.rdS encO_len) ?_))
 have E0 : AccV 2 encO 124 (h.next + 1) H3 (⟨some ⟨H2.next, 0, some 0⟩, 0, 0⟩ : Slc) [] := ⟨.inl ⟨rfl, rfl, rfl, fun a ha => by cases ha; rfl⟩, fun a ha => by cases ha; simp only; omega⟩
 have hn : l.len = r.L.length := (A.row encO_len).len
 obtain ⟨s7, h7, a7, A7, c7, d7⟩ := E0.app encO_len encO_one r.L (bytes := 32) (by decide) (by simp; omega) (by omega)
 rw [List.nil_append] at A7
 rw [show (⟨l.a, l.len, l.cap⟩ : Slc).len = r.L.length from hn]
 refine Gx.Wp.bnd a7 ?_
 have nt : ¬ ofS (⟨some ⟨H2.next, 0, some 0⟩, 0, 0⟩ : Slc) h.next := fun ⟨a, ha, q⟩ => by cases ha; simp only at q; omega
 have kA : Keeps h h7 := Chg.beh (k2.trans k3) c7 fun y hy ⟨a, ha, q⟩ => by cases ha; simp only at q; omega
 obtain ⟨h2, b1, b2, b3⟩ := RR.setL (r := r) (l := l) (by omega) g3 c7 nt A7
 rw [Nat.zero_add] at b1
 exact Gx.Wp.bnd b1 (Gx.Wp.of ⟨rfl, Chg.beh kA b2 fun y hy q => by omega, b3⟩)
def RSt.putS (r : RSt) (n d : ByteArray) : RSt × Nat :=
 if fitsC n d ≠ 0 then (r, fitsC n d) else if r.quota < totR (lyR n d r.L) then (r, 71) else ({ r with L := lyR n d r.L }, 0)
theorem ly_len (n d : ByteArray) (L : List Ob) : (lyR n d L).length ≤ L.length + 1 := by
 have := fi_le n L
 unfold lyR insO
 split
 ·rename_i c
  have := fnd_lt c
  simp; omega
 ·simp; omega
theorem rput_spec {k : Nat} (D : CallF) {h : AHeap} {tb : Nat} {r : RSt} (s : RR h tb r) (st kind : Int) (n d : ByteArray) (hl : r.L.length + 1 ≤ 1048576) (hk : r.L.length + 1 < k) (hk2 : 100 < k) (ht : totR (lyR n d r.L) ≤ 1152921504606846976 ∨ fitsC n d ≠ 0) :
  Gx.Wp (ref07_Store_put k D (some ⟨tb, 0, none⟩) (st, kind, n, d) h) fun q => q.1 = ((r.putS n d).2 : Int) ∧ Chg (· = tb) h q.2 ∧ RR q.2 tb (r.putS n d).1 := by
 simp only [ref07_Store_put]
 obtain ⟨H1, e1⟩ : ∃ H1, H1 = h.new (.cells [.int .i64 st, .int .i64 kind, .string n, .string d] 32 true 0) := ⟨_, rfl⟩
 rw [← e1]
 have k1 : Keeps h H1 := e1 ▸ Keeps.new h _
 have n1 : H1.next = h.next + 1 := by rw [e1]; rfl
 have rq : H1.get h.next = some (.cells [.int .i64 st, .int .i64 kind, .string n, .string d] 32 true 0) := by rw [e1]; simp
 have s1 := s.keeps k1
 have lt := s.lt
 refine Gx.Wp.bnd (ldS_at rq rfl) (Gx.Wp.bnd (rname_spec D n hk2) ?_)
 cases hm : mayB n with
 | false =>
  have eP : r.putS n d = (r, 3) := by unfold RSt.putS; rw [if_pos (by simp [fitsC, hm])]; simp [fitsC, hm]
  rw [eP]
  exact Gx.Wp.ifp rfl (Gx.Wp.of ⟨rfl, Chg.keeps k1, s1⟩)
 | true =>
  refine Gx.Wp.ifn (fun q => by cases q) (Gx.Wp.bnd (ldS_at rq rfl) ?_)
  by_cases q : 131072 < d.size
  ·have ef : fitsC n d = 2 := by rw [fitsC_eq hm, if_pos q]
   have eP : r.putS n d = (r, 2) := by unfold RSt.putS; rw [ef]; rfl
   rw [eP]
   exact Gx.Wp.ifp (by simp; omega) (Gx.Wp.of ⟨rfl, Chg.keeps k1, s1⟩)
  have ef : fitsC n d = 0 := by rw [fitsC_eq hm, if_neg q]
  have ht : totR (lyR n d r.L) ≤ 1152921504606846976 := ht.resolve_right fun z => z ef
  have eP : r.putS n d = if r.quota < totR (lyR n d r.L) then (r, 71) else ({ r with L := lyR n d r.L }, 0) := if_neg (by simp [ef])
  refine Gx.Wp.ifn (by simp; omega) (Gx.Wp.call (rFork_spec D s1 (by omega)) fun r5 h5 => ?_)
  obtain ⟨f1, k5, s5⟩ := h5
  have f1 : r5.1 = some ⟨H1.next, 0, none⟩ := f1
  have k5 : Keeps H1 r5.2 := k5
  have s5 : RR r5.2 H1.next r := s5
  have m5 := k5.nx
  rw [f1]
  have rq5 := (k5.oth _ (by omega) fun f => f).trans rq
  refine Gx.Wp.bnd (ldS_at rq5 rfl) (Gx.Wp.bnd (ldS_at rq5 rfl) ?_)
  refine Gx.Wp.call (rlay_spec D s5 n d (by omega) (by omega)) fun r8 h8 => ?_
  obtain ⟨c8, s8⟩ := h8
  have k8 : Keeps h r8.2 := Chg.beh (k1.trans k5) c8 fun y hy q => by omega
  have ll := ly_len n d r.L
  refine Gx.Wp.bnd (rused_spec D s8 (by show (lyR n d r.L).length ≤ _; omega) (by show (lyR n d r.L).length < k; omega) ht) ?_
  have s9 := s.keeps k8
  obtain ⟨e, l, hb, A⟩ := s9.blk
  refine Gx.Wp.bnd rfl (Gx.Wp.bnd (sldI_at hb rfl) (Gx.Wp.gp (ssw1 (bnd (sldI_at hb rfl) rfl)) ?_))
  rw [eP]
  by_cases c : r.quota < totR (lyR n d r.L)
  ·rw [if_pos c]
   exact Gx.Wp.ifp (by simp; omega) (Gx.Wp.of ⟨rfl, Chg.keeps k8, s9⟩)
  ·refine Gx.Wp.ifn (by simp; omega) ?_
   rw [if_neg c]
   obtain ⟨e', l', hb', A'⟩ := s8.blk
   refine Gx.Wp.bnd rfl (Gx.Wp.bnd (sldL_at hb' rfl) (Gx.Wp.bnd rfl ?_))
   obtain ⟨h2, b1, b2, b3⟩ := RR.setL (r := r) (S := NoB) s9.lt hb (Chg.refl _ _) (fun f => f) (l2 := l') (L := lyR n d r.L) ⟨A'.st, fun a ha => ⟨(A'.lt a ha).1, by have := (A'.lt a ha).2; omega⟩⟩
   exact Gx.Wp.bnd b1 (Gx.Wp.of ⟨rfl, (Chg.keeps k8).trans b2, b3⟩)
def RSt.up (r : RSt) : RSt := { r with many := r.many + 1 }
def RSt.doS (r : RSt) (kind : Int) (n d : ByteArray) : RSt × Nat × ByteArray × List ByteArray :=
 if r.off = true then (r.up, 70, nob, [])
 else if 0 < r.fails then ({ r.up with fails := r.fails - 1 }, 72, nob, [])
 else if kind = 1 then ((r.up.putS n d).1, (r.up.putS n d).2, nob, [])
 else if kind = 3 then (r.up, 0, nob, (r.L.map (·.1)).filter (starts n))
 else if kind = 2 then (if (lkR n r.L).isSome then (r.up, 0, (lkR n r.L).getD nob, []) else (r.up, 5, nob, []))
 else if kind = 4 then (if (lkR n r.L).isSome then ({ r.up with L := r.L.take (fi n r.L) ++ r.L.drop (fi n r.L + 1) }, 0, nob, []) else (r.up, 5, nob, []))
 else (r.up, 3, nob, [])
def RDoQ (h : AHeap) (tb : Nat) (r : RSt) (kind : Int) (n d : ByteArray) (q : (Int × ByteArray × Slc) × AHeap) : Prop :=
 q.1.1 = ((r.doS kind n d).2.1 : Int) ∧ q.1.2.1 = (r.doS kind n d).2.2.1 ∧ Acc encS 9 h.next q.2 q.1.2.2 (r.doS kind n d).2.2.2 ∧ Chg (· = tb) h q.2 ∧ RR q.2 tb (r.doS kind n d).1
theorem rDo_spec {k : Nat} (D : CallF) {h : AHeap} {tb : Nat} {r : RSt} (s : RR h tb r) (st kind : Int) (n d : ByteArray) (hl : r.L.length + 1 ≤ 1048576) (hc : r.many ≤ 1099511627776) (hf : r.fails ≤ 1048576) (hk : r.L.length + 1 < k) (hk2 : 100 < k)
  (ht : kind = 1 → totR (lyR n d r.L) ≤ 1152921504606846976 ∨ fitsC n d ≠ 0) : Gx.Wp (ref07_Store_Do k D (some ⟨tb, 0, none⟩) (st, kind, n, d) h) (RDoQ h tb r kind n d) := by
 simp only [ref07_Store_Do]
 obtain ⟨H1, e1⟩ : ∃ H1, H1 = h.new (.cells [.int .i64 st, .int .i64 kind, .string n, .string d] 32 true 0) := ⟨_, rfl⟩
 rw [← e1]
 obtain ⟨H2, e2⟩ : ∃ H2, H2 = H1.new (.cells [.int .i64 0, .string ⟨#[]⟩, .slice none 0 0] 29 true 0) := ⟨_, rfl⟩
 rw [← e2]
 have k1 : Keeps h H1 := e1 ▸ Keeps.new h _
 have k2 : Keeps h H2 := k1.trans (e2 ▸ Keeps.new H1 _)
 have n1 : H1.next = h.next + 1 := by rw [e1]; rfl
 have n2 : H2.next = h.next + 2 := by rw [e2]; simp [n1]
 have rq : H2.get h.next = some (.cells [.int .i64 st, .int .i64 kind, .string n, .string d] 32 true 0) := by
  rw [e2]; simp only [AHeap.get_new]; rw [if_neg (by omega), e1]; simp
 have rs : H2.get H1.next = some (.cells [.int .i64 0, .string ⟨#[]⟩, .slice none 0 0] 29 true 0) := by rw [e2]; simp
 have s2 := s.keeps k2
 have lt1 := s.lt
 obtain ⟨e, l, hb, A⟩ := s2.blk
 refine Gx.Wp.bnd rfl (Gx.Wp.bnd (sldI_at hb rfl) (Gx.Wp.bnd rfl ?_))
 rw [w64 _ (by omega)]
 refine Gx.Wp.bnd (st1_sb hb (by show 0 + 2 < 5; omega) rfl) ?_
 obtain ⟨H, eH⟩ : ∃ H, H = H2.set tb (.cells [.int .i64 r.quota, .int .i64 r.fails, .int .i64 ((r.many + 1 : Nat) : Int), .bool r.off, .slice l.a l.len l.cap] e true 0) := ⟨_, rfl⟩
 have eH' : H2.set tb (.cells ([Value.int .i64 r.quota, .int .i64 r.fails, .int .i64 r.many, .bool r.off, .slice l.a l.len l.cap].set (0 + 2) (.int .i64 ((r.many : Int) + 1))) e true 0) = H := eH.symm
 dsimp only
 rw [eH']
 have cH2 : Chg (· = tb) H2 H := eH ▸ Chg.set (.inr rfl)
 have cH : Chg (· = tb) h H := (Chg.keeps k2).trans cH2
 have nH : H.next = h.next + 2 := by rw [eH]; exact n2
 have hbH : H.get tb = some (.cells [.int .i64 r.quota, .int .i64 r.fails, .int .i64 ((r.many + 1 : Nat) : Int), .bool r.off, .slice l.a l.len l.cap] e true 0) := by rw [eH]; simp
 have AH := A.chg cH2 fun a ha q => by have := (A.lt a ha).2; omega
 have sH : RR H tb r.up := ⟨⟨e, l, hbH, AH⟩, by omega⟩
 have rqH : H.get h.next = some (.cells [.int .i64 st, .int .i64 kind, .string n, .string d] 32 true 0) := (cH2.oth _ (by omega) (by omega)).trans rq
 have rsH : H.get H1.next = some (.cells [.int .i64 0, .string ⟨#[]⟩, .slice none 0 0] 29 true 0) := (cH2.oth _ (by omega) (by omega)).trans rs
 have fin : ∀ (K : AHeap) (r' : RSt) (cd : Nat) (dt : ByteArray) (sl : Slc) (lst : List ByteArray), Chg (· = tb) H K → RR K tb r' → Acc encS 9 H.next K sl lst → r.doS kind n d = (r', cd, dt, lst) →
   Gx.Wp ((Gx.stL 3 (⟨H1.next, 0, none⟩ : Addr) ([.int .i64 (cd : Int), .string dt, .slice sl.a sl.len sl.cap]) K).bind fun h7 => (Gx.ldA 3 (⟨H1.next, 0, none⟩ : Addr) h7).bind fun l8 => (decC [.i .i64, .s, .l] l8).bind fun x9 => some ((x9.1, x9.2.1, x9.2.2), h7)) (RDoQ h tb r kind n d) := by
  intro K r' cd dt sl lst cK sK AK eq
  have rsK : K.get H1.next = some (.cells [.int .i64 0, .string ⟨#[]⟩, .slice none 0 0] 29 true 0) := (cK.oth _ (by omega) (by omega)).trans rsH
  refine fin3 rsK rfl _ _ _ ?_
  unfold RDoQ
  rw [eq]
  refine ⟨rfl, rfl, ⟨?_, fun a ha => ⟨(AK.lt a ha).1, by have := (AK.lt a ha).2; omega⟩⟩, Chg.beh (T := (· = H1.next)) (cH.trans cK) (Chg.set (.inr rfl)) (fun x hx q => by omega), ?_⟩
  ·exact (AK.chg (S := fun y => y = H1.next) (Chg.set (.inr rfl)) fun a ha q => by have := (AK.lt a ha).2; omega).st
  ·obtain ⟨e', l', hb', A'⟩ := sK.blk
   exact ⟨⟨e', l', by simp only [AHeap.get_set]; rw [if_neg (by omega)]; exact hb', A'.apart rsK (by decide)⟩, sK.lt⟩
 have ans : ∀ (r' : RSt) (cd : Nat) (dt : ByteArray), RR H tb r' → r.doS kind n d = (r', cd, dt, []) →
   Gx.Wp ((Gx.stL 3 (⟨H1.next, 0, none⟩ : Addr) ([.int .i64 (cd : Int), .string dt, .slice none 0 0]) H).bind fun h7 => (Gx.ldA 3 (⟨H1.next, 0, none⟩ : Addr) h7).bind fun l8 => (decC [.i .i64, .s, .l] l8).bind fun x9 => some ((x9.1, x9.2.1, x9.2.2), h7)) (RDoQ h tb r kind n d) :=
  fun r' cd dt s' eq => fin H r' cd dt ⟨none, 0, 0⟩ [] (Chg.refl _ _) s' acc0 eq
 refine Gx.Wp.bnd rfl (Gx.Wp.bnd (ldB_at hbH rfl) ?_)
 by_cases c1 : r.off = true
 ·refine Gx.Wp.ifp c1 (ans r.up 70 nob sH ?_)
  unfold RSt.doS; rw [if_pos c1]
 refine Gx.Wp.ifn c1 (Gx.Wp.bnd rfl (Gx.Wp.bnd (sldI_at hbH rfl) ?_))
 by_cases c2 : 0 < r.fails
 ·refine Gx.Wp.ifp (by simp; omega) ?_
  refine Gx.Wp.bnd rfl (Gx.Wp.bnd (sldI_at hbH rfl) (Gx.Wp.bnd rfl ?_))
  rw [w64 _ (by omega)]
  refine Gx.Wp.bnd (st1_sb hbH (by show 0 + 1 < 5; omega) rfl) ?_
  refine fin _ { r.up with fails := r.fails - 1 } 72 nob ⟨none, 0, 0⟩ [] (Chg.set (.inr rfl)) ⟨⟨e, l, ?_, AH.chg (S := (· = tb)) (Chg.set (.inr rfl)) fun a ha q => by have := (AH.lt a ha).2; omega⟩, sH.lt⟩ acc0 ?_
  ·rw [sset_get]
   have : ((r.fails : Int) - 1) = ((r.fails - 1 : Nat) : Int) := by omega
   rw [this]; rfl
  ·unfold RSt.doS; rw [if_neg c1, if_pos c2]
 refine Gx.Wp.ifn (by simp; omega) (Gx.Wp.bnd (ldS_at rqH rfl) (Gx.Wp.bnd (rfind_spec D sH n (by show r.L.length ≤ _; omega) (by show r.L.length < k; omega)) ?_))
 refine Gx.Wp.jn fun j25 h25 => Gx.Wp.bnd (sldI_at rqH rfl) ?_
 have none5 : r.doS kind n d = (r.up, 5, nob, []) → Gx.Wp (j25 (some ⟨H1.next, 0, none⟩) H) (RDoQ h tb r kind n d) := fun eq => by
  subst h25
  exact Gx.Wp.bnd rfl (ans r.up 5 nob sH eq)
 by_cases c3 : kind = 1
 ·refine Gx.Wp.ifp (by simpa using c3) ?_
  refine Gx.Wp.bnd (sldA_at rqH rfl) (Gx.Wp.bnd rfl ?_)
  refine Gx.Wp.call (rput_spec D sH st kind n d hl hk hk2 (ht c3)) fun q hq => ?_
  obtain ⟨r1, r2, r3⟩ := hq
  rw [r1]
  refine fin q.2 _ _ nob ⟨none, 0, 0⟩ [] r2 r3 acc0 ?_
  unfold RSt.doS; rw [if_neg c1, if_neg c2, if_pos c3]
 refine Gx.Wp.ifn (by simpa using c3) ?_
 by_cases c5 : kind = 3
 ·refine Gx.Wp.ifp (by simpa using c5) (Gx.Wp.bnd (ldS_at rqH rfl) ?_)
  refine Gx.Wp.call (rnames_spec D sH n (by show r.L.length ≤ _; omega) (by show r.L.length < k; omega)) fun q hq => ?_
  obtain ⟨r1, r2⟩ := hq
  refine fin q.2 r.up 0 nob q.1 _ (Chg.keeps r1) (sH.keeps r1) r2 ?_
  unfold RSt.doS; rw [if_neg c1, if_neg c2, if_neg c3, if_pos c5]; rfl
 refine Gx.Wp.ifn (by simpa using c5) ?_
 have hfnd : r.up.L = r.L := rfl
 by_cases c4 : kind = 2
 ·refine Gx.Wp.ifp (by simpa using c4) ?_
  cases c : fnd n r.L with
  | false =>
   have el : lkR n r.L = none := by unfold lkR; rw [c]; rfl
   rw [hfnd, c]
   refine Gx.Wp.ifn (fun q => by cases q) (none5 ?_)
   unfold RSt.doS; rw [if_neg c1, if_neg c2, if_neg c3, if_neg c5, if_pos c4, el]; rfl
  | true =>
   obtain ⟨x, hx, el⟩ := lkR_some c
   rw [hfnd, c]
   obtain ⟨q, q1, _, _, q2⟩ := (AH.row encO_len).ld encO_len (by decide) hx
   refine Gx.Wp.ifp rfl (Gx.Wp.bnd rfl (Gx.Wp.bnd (sldL_at hbH rfl) (Gx.Wp.bnd q1 (Gx.Wp.bnd (q2 1 x.2 rfl) (ans r.up 0 x.2 sH ?_)))))
   unfold RSt.doS; rw [if_neg c1, if_neg c2, if_neg c3, if_neg c5, if_pos c4, el]; rfl
 refine Gx.Wp.ifn (by simpa using c4) ?_
 by_cases c6 : kind = 4
 ·refine Gx.Wp.ifp (by simpa using c6) ?_
  cases c : fnd n r.L with
  | false =>
   have el : lkR n r.L = none := by unfold lkR; rw [c]; rfl
   rw [hfnd, c]
   refine Gx.Wp.ifn (fun q => by cases q) (none5 ?_)
   unfold RSt.doS; rw [if_neg c1, if_neg c2, if_neg c3, if_neg c5, if_neg c4, if_pos c6, el]; rfl
  | true =>
   obtain ⟨x, hx, el⟩ := lkR_some c
   rw [hfnd, c]
   refine Gx.Wp.ifp rfl (Gx.Wp.call (rremove_spec D sH (fnd_lt c) (by show r.L.length ≤ _; omega)) fun q hq => ?_)
   refine fin q.2 _ 0 nob ⟨none, 0, 0⟩ [] hq.1 hq.2 acc0 ?_
   unfold RSt.doS; rw [if_neg c1, if_neg c2, if_neg c3, if_neg c5, if_neg c4, if_pos c6, el]; rfl
 refine Gx.Wp.ifn (by simpa using c6) (ans r.up 3 nob sH ?_)
 unfold RSt.doS; rw [if_neg c1, if_neg c2, if_neg c3, if_neg c5, if_neg c4, if_neg c6]
end Gs
namespace Gs
open Go Gx
theorem lk_pt {n d : ByteArray} {cl : Nat} (m : ByteArray) : ∀ es : List En, lk m (pt n d cl es) = if m = n then some d else lk m es
 | [] => by
  simp only [pt, lk]
  by_cases h : m = n
  ·rw [if_pos h, if_pos h.symm]
  ·rw [if_neg h, if_neg fun q => h q.symm]
 | e :: es => by
  have ih := lk_pt (n := n) (d := d) (cl := cl) m es
  simp only [pt, lk]
  by_cases h : e.1 = n
  ·rw [if_pos h]
   simp only [lk]
   by_cases q : m = n
   ·rw [if_pos q, if_pos q.symm]
   ·rw [if_neg q, if_neg fun z => q z.symm, if_neg fun z => q (z.symm.trans h)]
  ·rw [if_neg h]
   simp only [lk, ih]
   by_cases q : e.1 = m
   ·rw [if_pos q, if_neg fun z => h (q.trans z), if_pos q]
   ·rw [if_neg q, if_neg q]
theorem lk_no {m : ByteArray} {es : List En} (h : m ∉ es.map (·.1)) : lk m es = none := by
 cases hl : lk m es with
 | none => rfl
 | some d => exact absurd (lk_mem.1 (by rw [hl]; rfl)) h
theorem lk_rm {n : ByteArray} (m : ByteArray) : ∀ {es : List En}, (es.map (·.1)).Nodup → lk m (rm n es) = if m = n then none else lk m es
 | [], _ => by simp [rm, lk]
 | e :: es, hk => by
  rw [List.map_cons, List.nodup_cons] at hk
  have ih := lk_rm (n := n) m hk.2
  simp only [rm, lk]
  by_cases h : e.1 = n
  ·rw [if_pos h]
   by_cases q : m = n
   ·rw [if_pos q]; exact lk_no (by rw [q, ← h]; exact hk.1)
   ·rw [if_neg q, if_neg fun z => q (z.symm.trans h)]
  ·rw [if_neg h]
   simp only [lk, ih]
   by_cases q : e.1 = m
   ·rw [if_pos q, if_neg fun z => h (q.trans z), if_pos q]
   ·rw [if_neg q, if_neg q]
def lkL (n : ByteArray) : List Ob → Option ByteArray
 | [] => none
 | o :: l => if o.1 = n then some o.2 else lkL n l
def Srt (L : List Ob) : Prop := L.Pairwise fun a b => bl a.1 < bl b.1
def insL (n d : ByteArray) : List Ob → List Ob
 | [] => [(n, d)]
 | o :: l => if bl o.1 < bl n then o :: insL n d l else if o.1 = n then (n, d) :: l else (n, d) :: o :: l
def rmL (n : ByteArray) : List Ob → List Ob
 | [] => []
 | o :: l => if bl o.1 < bl n then o :: rmL n l else if o.1 = n then l else o :: l
theorem bl_irr {a : List UInt8} : ¬ a < a := List.lt_irrefl a
theorem fnd_cons_lt {n : ByteArray} {o : Ob} {l : List Ob} (h : bl o.1 < bl n) : fi n (o :: l) = fi n l + 1 ∧ fnd n (o :: l) = fnd n l := by
 have e : fi n (o :: l) = fi n l + 1 := by simp only [fi]; rw [if_pos h]
 exact ⟨e, by unfold fnd; rw [e]; rfl⟩
theorem fnd_cons_ge {n : ByteArray} {o : Ob} {l : List Ob} (h : ¬ bl o.1 < bl n) : fi n (o :: l) = 0 ∧ fnd n (o :: l) = decide (o.1 = n) := by
 have e : fi n (o :: l) = 0 := by simp only [fi]; rw [if_neg h]
 exact ⟨e, by unfold fnd; rw [e]; rfl⟩
theorem ly_ins (n d : ByteArray) : ∀ L : List Ob, lyR n d L = insL n d L
 | [] => rfl
 | o :: l => by
  have ih := ly_ins n d l
  simp only [insL]
  by_cases h : bl o.1 < bl n
  ·obtain ⟨e1, e2⟩ := fnd_cons_lt (l := l) h
   rw [if_pos h, ← ih]
   unfold lyR
   rw [e1, e2]
   cases fnd n l with
   | true => simp [insO]
   | false => simp [insO]
  ·obtain ⟨e1, e2⟩ := fnd_cons_ge (l := l) h
   rw [if_neg h]
   unfold lyR
   rw [e1, e2]
   by_cases q : o.1 = n
   ·rw [if_pos q, decide_eq_true q]; simp [insO]
   ·rw [if_neg q, decide_eq_false q]; simp [insO]
theorem rm_rmL {n : ByteArray} : ∀ {L : List Ob}, fnd n L = true → L.take (fi n L) ++ L.drop (fi n L + 1) = rmL n L
 | [], h => by cases h
 | o :: l, h => by
  simp only [rmL]
  by_cases c : bl o.1 < bl n
  ·obtain ⟨e1, e2⟩ := fnd_cons_lt (l := l) c
   rw [e2] at h
   rw [if_pos c, ← rm_rmL h, e1]; simp
  ·obtain ⟨e1, e2⟩ := fnd_cons_ge (l := l) c
   rw [e2] at h
   rw [if_neg c, if_pos (of_decide_eq_true h), e1]; simp
theorem lkL_none {n : ByteArray} : ∀ {L : List Ob}, (∀ o ∈ L, o.1 ≠ n) → lkL n L = none
 | [], _ => rfl
 | o :: l, h => by
  simp only [lkL]
  rw [if_neg (h o (by simp))]
  exact lkL_none fun x hx => h x (by simp [hx])
theorem lkR_lkL {n : ByteArray} : ∀ {L : List Ob}, Srt L → lkR n L = lkL n L
 | [], _ => rfl
 | o :: l, h => by
  obtain ⟨h1, h2⟩ := List.pairwise_cons.1 h
  have ih := lkR_lkL (n := n) h2
  simp only [lkL]
  by_cases c : bl o.1 < bl n
  ·obtain ⟨e1, e2⟩ := fnd_cons_lt (l := l) c
   rw [if_neg (fun q => bl_irr (q ▸ c)), ← ih]
   unfold lkR
   rw [e1, e2]; rfl
  ·obtain ⟨e1, e2⟩ := fnd_cons_ge (l := l) c
   unfold lkR
   rw [e1, e2]
   by_cases q : o.1 = n
   ·rw [if_pos q, decide_eq_true q]; rfl
   ·rw [if_neg q, decide_eq_false q]
    refine (lkL_none fun x hx z => ?_).symm
    have := h1 x hx
    rw [z] at this
    exact c this
theorem lkL_ins {n d : ByteArray} (m : ByteArray) : ∀ L : List Ob, lkL m (insL n d L) = if m = n then some d else lkL m L
 | [] => by
  simp only [insL, lkL]
  by_cases h : m = n
  ·rw [if_pos h, if_pos h.symm]
  ·rw [if_neg h, if_neg fun q => h q.symm]
 | o :: l => by
  have ih := lkL_ins (n := n) (d := d) m l
  simp only [insL]
  by_cases c : bl o.1 < bl n
  ·have hn : o.1 ≠ n := fun q => bl_irr (q ▸ c)
   rw [if_pos c]
   simp only [lkL, ih]
   by_cases q : o.1 = m
   ·rw [if_pos q, if_neg fun z => hn (q.trans z), if_pos q]
   ·rw [if_neg q, if_neg q]
  ·rw [if_neg c]
   by_cases q : o.1 = n
   ·rw [if_pos q]
    simp only [lkL]
    by_cases z : m = n
    ·rw [if_pos z, if_pos z.symm]
    ·rw [if_neg z, if_neg fun y => z y.symm, if_neg fun y => z (y.symm.trans q)]
   ·rw [if_neg q]
    simp only [lkL]
    by_cases z : m = n
    ·rw [if_pos z, if_pos z.symm]
    ·rw [if_neg z, if_neg fun y => z y.symm]
theorem lkL_rm {n : ByteArray} (m : ByteArray) : ∀ {L : List Ob}, Srt L → lkL m (rmL n L) = if m = n then none else lkL m L
 | [], _ => by simp [rmL, lkL]
 | o :: l, h => by
  obtain ⟨h1, h2⟩ := List.pairwise_cons.1 h
  have ih := lkL_rm (n := n) m h2
  have out : ¬ bl o.1 < bl n → lkL n l = none := fun c => lkL_none fun x hx z => by have := h1 x hx; rw [z] at this; exact c this
  simp only [rmL]
  by_cases c : bl o.1 < bl n
  ·have hn : o.1 ≠ n := fun q => bl_irr (q ▸ c)
   rw [if_pos c]
   simp only [lkL, ih]
   by_cases q : o.1 = m
   ·rw [if_pos q, if_neg fun z => hn (q.trans z), if_pos q]
   ·rw [if_neg q, if_neg q]
  ·rw [if_neg c]
   by_cases q : o.1 = n
   ·rw [if_pos q]
    simp only [lkL]
    by_cases z : m = n
    ·rw [if_pos z, z]; exact out c
    ·rw [if_neg z, if_neg fun y => z (y.symm.trans q)]
   ·rw [if_neg q]
    by_cases z : m = n
    ·rw [if_pos z, z]; simp only [lkL]; rw [if_neg q]; exact out c
    ·rw [if_neg z]
theorem mem_ins {n d : ByteArray} {x : Ob} : ∀ {L : List Ob}, x ∈ insL n d L → x = (n, d) ∨ x ∈ L
 | [], h => by simp [insL] at h; exact .inl h
 | o :: l, h => by
  simp only [insL] at h
  split at h
  ·rcases List.mem_cons.1 h with rfl | h
   ·exact .inr (by simp)
   ·exact (mem_ins h).imp id fun z => by simp [z]
  ·split at h
   ·rcases List.mem_cons.1 h with rfl | h
    ·exact .inl rfl
    ·exact .inr (by simp [h])
   ·rcases List.mem_cons.1 h with rfl | h
    ·exact .inl rfl
    ·exact .inr h
theorem srt_ins {n d : ByteArray} : ∀ {L : List Ob}, Srt L → Srt (insL n d L)
 | [], _ => List.pairwise_cons.2 ⟨by simp, .nil⟩
 | o :: l, h => by
  obtain ⟨h1, h2⟩ := List.pairwise_cons.1 h
  simp only [insL]
  split
  ·rename_i c
   refine List.pairwise_cons.2 ⟨fun x hx => ?_, srt_ins h2⟩
   rcases mem_ins hx with rfl | hx
   ·exact c
   ·exact h1 x hx
  ·rename_i c
   split
   ·rename_i q
    exact List.pairwise_cons.2 ⟨fun x hx => by show bl n < bl x.1; rw [← q]; exact h1 x hx, h2⟩
   ·rename_i q
    have lt : bl n < bl o.1 := by
     refine List.not_le.1 fun z => ?_
     exact q (congrArg ba (List.le_antisymm z (List.not_lt.1 c)))
    refine List.pairwise_cons.2 ⟨fun x hx => ?_, h⟩
    rcases List.mem_cons.1 hx with rfl | hx
    ·exact lt
    ·exact List.lt_trans lt (h1 x hx)
theorem rmL_sub (n : ByteArray) : ∀ L : List Ob, (rmL n L).Sublist L
 | [] => .slnil
 | o :: l => by
  simp only [rmL]
  split
  ·exact (rmL_sub n l).cons_cons _
  ·split
   ·exact List.sublist_cons_self _ _
   ·exact List.Sublist.refl _
theorem lk_iff {n d : ByteArray} : ∀ {es : List En}, (es.map (·.1)).Nodup → (lk n es = some d ↔ (n, d) ∈ es.map fun e => (e.1, e.2.1))
 | [], _ => by simp [lk]
 | e :: es, hk => by
  rw [List.map_cons, List.nodup_cons] at hk
  have ih := lk_iff (n := n) (d := d) hk.2
  simp only [lk, List.map_cons, List.mem_cons]
  by_cases h : e.1 = n
  ·rw [if_pos h]
   constructor
   ·intro q; cases q; exact .inl (by rw [← h])
   ·rintro (q | q)
    ·cases q; rfl
    ·exfalso
     obtain ⟨y, hy, e1⟩ := List.mem_map.1 q
     cases e1
     exact hk.1 (List.mem_map.2 ⟨y, hy, h.symm⟩)
  ·rw [if_neg h, ih]
   constructor
   ·exact .inr
   ·rintro (q | q)
    ·cases q; exact absurd rfl h
    ·exact q
theorem lkL_iff {n d : ByteArray} : ∀ {L : List Ob}, Srt L → (lkL n L = some d ↔ (n, d) ∈ L)
 | [], _ => by simp [lkL]
 | o :: l, h => by
  obtain ⟨h1, h2⟩ := List.pairwise_cons.1 h
  have ih := lkL_iff (n := n) (d := d) h2
  simp only [lkL, List.mem_cons]
  by_cases q : o.1 = n
  ·rw [if_pos q]
   constructor
   ·intro z; cases z; exact .inl (by rw [← q])
   ·rintro (z | z)
    ·rw [← z]
    ·exfalso
     have := h1 _ z
     rw [q] at this; exact bl_irr this
  ·rw [if_neg q, ih]
   constructor
   ·exact .inr
   ·rintro (z | z)
    ·rw [← z] at q; exact absurd rfl q
    ·exact z
structure Rel (p : PS) (r : RSt) : Prop where
 q : p.quota = r.quota
 f : p.fails = r.fails
 c : p.calls = r.many
 d : p.down = r.off
 g : Good p.es p.cl
 s : Srt r.L
 eq : ∀ n, lk n p.es = lkL n r.L
theorem Rel.perm {p : PS} {r : RSt} (R : Rel p r) : (p.es.map fun e => (e.1, e.2.1)).Perm r.L := by
 refine (List.perm_ext_iff_of_nodup ?_ ?_).2 fun x => ?_
 ·have := R.g.keys
  rw [List.Nodup, List.pairwise_map] at this ⊢
  exact this.imp fun h q => h (Prod.mk.inj q).1
 ·exact List.Pairwise.imp (fun {a b} h (q : a = b) => by rw [q] at h; exact bl_irr h) R.s
 ·obtain ⟨n, d⟩ := x
  rw [← lk_iff R.g.keys, ← lkL_iff R.s, R.eq]
theorem totR_perm {a b : List Ob} (h : a.Perm b) : totR a = totR b := by
 induction h with
 | nil => rfl
 | cons x _ ih => simp only [totR, ih]
 | swap x y l => simp only [totR]; omega
 | trans _ _ i1 i2 => exact i1.trans i2
theorem totR_map : ∀ es : List En, totR (es.map fun e => (e.1, e.2.1)) = tot es
 | [] => rfl
 | e :: es => by simp only [List.map_cons, totR, tot, totR_map es]
theorem Rel.tot {p : PS} {r : RSt} (R : Rel p r) : tot p.es = totR r.L := by rw [← totR_map, totR_perm R.perm]
theorem Rel.len {p : PS} {r : RSt} (R : Rel p r) : p.es.length = r.L.length := by simpa using R.perm.length_eq
theorem Rel.nm {p : PS} {r : RSt} (R : Rel p r) : nm p.es = r.L.map (·.1) := by
 have h1 : (Gs.nm p.es).Perm (p.es.map (·.1)) := by
  unfold Gs.nm
  generalize p.es.map (·.1) = ks
  have h1 := (List.mergeSort_perm (ks.map bl) leB).map ba
  have e : (ks.map bl).map ba = ks := by rw [List.map_map]; exact List.map_id _
  rw [e] at h1
  exact h1
 have h2 : (p.es.map (·.1)).Perm (r.L.map (·.1)) := by
  have := R.perm.map Prod.fst
  rw [List.map_map] at this
  exact this
 refine List.Perm.eq_of_pairwise (le := fun a b => bl a < bl b) (fun a b _ _ h1 h2 => absurd (List.lt_trans h1 h2) bl_irr) (nm_sorted R.g.keys) ?_ (h1.trans h2)
 rw [List.pairwise_map]; exact R.s
theorem Rel.lk {p : PS} {r : RSt} (R : Rel p r) (n : ByteArray) : lkR n r.L = lk n p.es := by rw [lkR_lkL R.s, R.eq]
theorem Rel.lay {p : PS} {r : RSt} (R : Rel p r) {n d : ByteArray} (hn : n.size ≤ 96) (hd : d.size ≤ 131072) : Rel (p.lay n d) { r with L := lyR n d r.L } := by
 refine ⟨R.q, R.f, R.c, R.d, R.g.pt hn hd, by rw [ly_ins]; exact srt_ins R.s, fun m => ?_⟩
 show Gs.lk m (pt n d p.cl p.es) = lkL m (lyR n d r.L)
 rw [ly_ins, lk_pt, lkL_ins, R.eq]
theorem Rel.rm {p : PS} {r : RSt} (R : Rel p r) (n : ByteArray) : Rel { p with es := rm n p.es } { r with L := rmL n r.L } := by
 refine ⟨R.q, R.f, R.c, R.d, R.g.rm n, R.s.sublist (rmL_sub n _), fun m => ?_⟩
 show Gs.lk m (Gs.rm n p.es) = lkL m (rmL n r.L)
 rw [lk_rm m R.g.keys, lkL_rm m R.s, R.eq]
theorem Rel.up {p : PS} {r : RSt} (R : Rel p r) : Rel p.up r.up := ⟨R.q, R.f, by show p.calls + 1 = r.many + 1; rw [R.c], R.d, R.g, R.s, R.eq⟩
theorem Rel.put {p : PS} {r : RSt} (R : Rel p r) (n d : ByteArray) : Rel (p.putS n d).1 (r.putS n d).1 ∧ (p.putS n d).2 = (r.putS n d).2 := by
 unfold PS.putS RSt.putS
 by_cases c : fitsC n d ≠ 0
 ·rw [if_pos c, if_pos c]; exact ⟨R, rfl⟩
 ·rw [if_neg c, if_neg c]
  obtain ⟨f1, f2, _⟩ := fits0 (by simpa using c)
  have RL := R.lay f1 f2
  have t1 : Gs.tot (pt n d p.cl p.es) = totR (lyR n d r.L) := RL.tot
  have t2 := tot_pt (n := n) (d := d) (cl := p.cl) p.es
  have hq := R.q
  by_cases z : p.quota + room n p.es < Gs.tot p.es + (n.size + d.size)
  ·rw [if_pos z, if_pos (by omega)]; exact ⟨R, rfl⟩
  ·rw [if_neg z, if_neg (by omega)]; exact ⟨RL, rfl⟩
theorem Rel.do {p : PS} {r : RSt} (R : Rel p r) (kind : Int) (n d : ByteArray) : Rel (p.doS kind n d).1 (r.doS kind n d).1 ∧ (p.doS kind n d).2 = (r.doS kind n d).2 := by
 unfold PS.doS RSt.doS
 have U := R.up
 by_cases c1 : p.down = true
 ·rw [if_pos c1, if_pos (R.d ▸ c1)]; exact ⟨U, rfl⟩
 rw [if_neg c1, if_neg (fun z => c1 (R.d.trans z))]
 by_cases c2 : 0 < p.fails
 ·rw [if_pos c2, if_pos (R.f ▸ c2)]
  exact ⟨⟨U.q, by show p.fails - 1 = r.fails - 1; rw [R.f], U.c, U.d, U.g, U.s, U.eq⟩, rfl⟩
 rw [if_neg c2, if_neg (fun z => c2 (R.f ▸ z))]
 by_cases c3 : kind = 1
 ·rw [if_pos c3, if_pos c3]
  have := U.put n d
  exact ⟨this.1, by rw [this.2]⟩
 rw [if_neg c3, if_neg c3]
 by_cases c5 : kind = 3
 ·have c4 : kind ≠ 2 := by omega
  rw [if_neg c4, if_pos c5, if_pos c5]
  exact ⟨U, by rw [R.nm]⟩
 rw [if_neg c5, if_neg c5]
 by_cases c4 : kind = 2
 ·rw [if_pos c4, if_pos c4, R.lk]
  split
  ·exact ⟨U, rfl⟩
  ·exact ⟨U, rfl⟩
 rw [if_neg c4, if_neg c4]
 by_cases c6 : kind = 4
 ·rw [if_pos c6, if_pos c6, R.lk]
  unfold PS.delS
  have eu : p.up.es = p.es := rfl
  rw [eu]
  by_cases z : (Gs.lk n p.es).isSome = true
  ·rw [if_pos z, if_pos z]
   have hf : fnd n r.L = true := by
    rw [← R.lk] at z
    unfold lkR at z
    by_cases y : fnd n r.L = true
    ·exact y
    ·rw [if_neg y] at z; cases z
   rw [rm_rmL hf]
   exact ⟨U.rm n, rfl⟩
  ·rw [if_neg z, if_neg z]; exact ⟨U, rfl⟩
 rw [if_neg c6, if_neg c6]
 exact ⟨U, rfl⟩
end Gs
namespace Gs
open Go Gx
theorem ldA_part {h : AHeap} {b o n : Nat} {sp : Option Nat} {c : List Value} {e : TypeId} {r : Bool} {fz : Nat} (hb : h.get b = some (.cells c e r fz)) (hn : 0 < n) (hc : o + n ≤ c.length) : Gx.ldA n ⟨b, o, sp⟩ h = some ((c.drop o).take n) := by
 obtain ⟨m, rfl⟩ : ∃ m, n = m + 1 := ⟨n - 1, by omega⟩
 simp only [ldA, AHeap.rdL, hb]
 rw [if_pos (by omega)]
theorem among_some (k : Nat) (D : CallF) (x : Int) {m : Int} (hm : m ≠ 0) (h : AHeap) : ∃ v, book_Among k D x m h = some (v, h) := by
 simp only [book_Among]
 rw [if_neg hm, if_neg hm]
 exact ⟨_, rfl⟩
theorem sameResp_spec {k : Nat} (D : CallF) {h : AHeap} {c : Int} {d : ByteArray} {s1 s2 : Slc} {xs : List ByteArray} (R1 : Row encS h s1 xs) (R2 : Row encS h s2 xs) (hk : xs.length < k) (hs : xs.length < 9223372036854775807) :
  Gx.Wp (law07_sameResp k D (c, d, s1) (c, d, s2) h) fun q => q.1 = true ∧ Keeps h q.2 := by
 simp only [law07_sameResp]
 obtain ⟨H1, e1⟩ : ∃ H1, H1 = h.new (.cells [.int .i64 c, .string d, .slice s1.a s1.len s1.cap] 29 true 0) := ⟨_, rfl⟩
 rw [← e1]
 obtain ⟨H2, e2⟩ : ∃ H2, H2 = H1.new (.cells [.int .i64 c, .string d, .slice s2.a s2.len s2.cap] 29 true 0) := ⟨_, rfl⟩
 rw [← e2]
 have k1 : Keeps h H1 := e1 ▸ Keeps.new h _
 have k2 : Keeps H1 H2 := e2 ▸ Keeps.new H1 _
 have n1 : H1.next = h.next + 1 := by rw [e1]; rfl
 have g1 : H2.get h.next = some (.cells [.int .i64 c, .string d, .slice s1.a s1.len s1.cap] 29 true 0) := (k2.oth _ (by omega) fun f => f).trans (by rw [e1]; simp)
 have g2 : H2.get H1.next = some (.cells [.int .i64 c, .string d, .slice s2.a s2.len s2.cap] 29 true 0) := by rw [e2]; simp
 refine Gx.Wp.bnd (sldI_at g1 rfl) (Gx.Wp.bnd (sldI_at g2 rfl) (Gx.Wp.ifp (by simp) ?_))
 refine Gx.Wp.bnd (ldS_at g1 rfl) (Gx.Wp.bnd (ldS_at g2 rfl) (Gx.Wp.ifp (by rw [ba_beq]; simp) ?_))
 refine Gx.Wp.bnd (sldL_at g1 rfl) (Gx.Wp.bnd (sldL_at g2 rfl) (Gx.Wp.bnd (sameS_spec D (R1.keeps (k1.trans k2)) (R2.keeps (k1.trans k2)) hk hs) (Gx.Wp.of ⟨rfl, k1.trans k2⟩)))
def spoilt : ByteArray := ⟨#[115, 112, 111, 105, 108, 116]⟩
theorem spoil_l0 (K : Nat) (D : CallF) (bot) {h0 : AHeap} {b n : Nat} {S : Nat → Prop} (hS : S b) (hn : n < 9223372036854775807) :
  ∀ (d i : Nat) (h : AHeap) (c : List Value), i + d = n → c.length = n → h.get b = some (.cells c 9 true 0) → Chg S h0 h → Gx.Wp (iterK bot (d + 1) (book_SpoilTexts_l0b K D) (⟨some ⟨b, 0, some 2⟩, n, n⟩ : Slc) (i : Int) h) fun q => Chg S h0 q.2 := fun d => by
 induction d with
 | zero =>
  intro i h c hi hc hb kp
  rw [iterK_s]; simp only [book_SpoilTexts_l0b]
  exact Gx.Wp.ifn (by simp; omega) (Gx.Wp.of kp)
 | succ d ih =>
  intro i h c hi hc hb kp
  rw [iterK_s]; simp only [book_SpoilTexts_l0b]
  refine Gx.Wp.ifp (by simp; omega) (Gx.Wp.bnd (idxL_out (by omega)) (Gx.Wp.bnd (st1_sb hb (by omega) rfl) ?_))
  rw [Gx.w1 (by omega)]
  exact ih (i + 1) _ (c.set i (.string spoilt)) (by omega) (by simp [hc]) (sset_get _ _ _) (kp.trans (Chg.set (.inr hS)))
theorem spoil_spec {k : Nat} (D : CallF) {h : AHeap} {base : Nat} {s : Slc} {xs : List ByteArray} (A : Acc encS 9 base h s xs) (hk : xs.length < k) (hs : xs.length < 9223372036854775807) :
  Gx.Wp (book_SpoilTexts k D s h) fun q => Chg (ofS s) h q.2 := by
 simp only [book_SpoilTexts]
 unfold book_SpoilTexts_l0
 obtain ⟨bot, eb⟩ := iterK_of (fun _ _ _ => none) (book_SpoilTexts_l0b k D) (show xs.length + 1 ≤ k by omega)
 rw [eb]
 rcases A.st with ⟨rfl, rfl⟩ | ⟨b, g⟩
 ·show Gx.Wp (iterK bot (0 + 1) _ _ _ _) _
  rw [iterK_s]; simp only [book_SpoilTexts_l0b]
  exact Gx.Wp.ifn (by decide) (Gx.Wp.of (Chg.refl _ _))
 ·obtain ⟨rfl, gb, _⟩ := g
  exact spoil_l0 k D bot ⟨_, rfl, rfl⟩ hs xs.length 0 h _ (by omega) (by simp) gb (Chg.refl _ _)
theorem RR.marked {h h' : AHeap} {tb base : Nat} {r : RSt} {s : Slc} {xs : List ByteArray} (R : RR h tb r) (A : Acc encS 9 base h s xs) (ht : tb < base) (c : Chg (ofS s) h h') : RR h' tb r := by
 obtain ⟨e, l, hb, AL⟩ := R.blk
 have nt : ¬ ofS s tb := fun ⟨a, ha, q⟩ => by have := (A.lt a ha).2; omega
 refine ⟨⟨e, l, (c.oth _ R.lt nt).trans hb, AL.st.imp id ?_, fun a ha => ⟨Nat.lt_of_lt_of_le (AL.lt a ha).1 c.nx, (AL.lt a ha).2⟩⟩, Nat.lt_of_lt_of_le R.lt c.nx⟩
 rintro ⟨b, rfl, h2, h3⟩
 refine ⟨b, rfl, ?_, h3⟩
 rw [c.oth b (AL.lt ⟨b, 0, some (2 + 1)⟩ rfl).1]
 ·exact h2
 ·rintro ⟨a, ha, q⟩
  rcases A.st with ⟨rfl, _⟩ | ⟨b', g⟩
  ·cases ha
  ·obtain ⟨rfl, gb, _⟩ := g
   cases ha
   simp only at q; subst q
   rw [h2] at gb
   simp [outB] at gb
theorem SR.marked {h h' : AHeap} {sb rb base : Nat} {p : PS} {s : Slc} {xs : List ByteArray} (R : SR h sb rb p) (A : Acc encS 9 base h s xs) (h1 : sb < base) (h2 : rb < base) (c : Chg (ofS s) h h') : SR h' sb rb p :=
 R.chg c (fun ⟨a, ha, q⟩ => by have := (A.lt a ha).2; omega) (fun ⟨a, ha, q⟩ => by have := (A.lt a ha).2; omega)
structure Two (h : AHeap) (sb rb tb : Nat) (i : Nat) (p : PS) (r : RSt) : Prop where
 s : SR h sb rb p
 t : RR h tb r
 r : Rel p r
 l : p.es.length ≤ i
 c : p.calls ≤ i
 f : p.fails ≤ 1048576
 q : p.quota ≤ 1073741824
 lt : sb < tb ∧ rb < tb
def SBT (sb rb tb : Nat) (y : Nat) : Prop := y = sb ∨ y = rb ∨ y = tb
theorem lay_len (p : PS) (n d : ByteArray) : (p.lay n d).es.length ≤ p.es.length + 1 := len_pt _
theorem put_len (p : PS) (n d : ByteArray) : (p.putS n d).1.es.length ≤ p.es.length + 1 ∧ (p.putS n d).1.calls = p.calls ∧ (p.putS n d).1.fails = p.fails ∧ (p.putS n d).1.quota = p.quota := by
 unfold PS.putS
 have := lay_len p n d
 split
 ·exact ⟨Nat.le_succ _, rfl, rfl, rfl⟩
 ·split
  ·exact ⟨Nat.le_succ _, rfl, rfl, rfl⟩
  ·exact ⟨this, rfl, rfl, rfl⟩
theorem do_len (p : PS) (kind : Int) (n d : ByteArray) : (p.doS kind n d).1.es.length ≤ p.es.length + 1 ∧ (p.doS kind n d).1.calls = p.calls + 1 ∧ (p.doS kind n d).1.fails ≤ p.fails ∧ (p.doS kind n d).1.quota = p.quota := by
 have b : p.up.es.length ≤ p.es.length + 1 ∧ p.up.calls = p.calls + 1 ∧ p.up.fails ≤ p.fails ∧ p.up.quota = p.quota := ⟨Nat.le_succ _, rfl, Nat.le_refl _, rfl⟩
 unfold PS.doS
 split
 ·exact b
 ·split
  ·exact ⟨Nat.le_succ _, rfl, Nat.sub_le _ _, rfl⟩
  ·split
   ·obtain ⟨h1, h2, h3, h4⟩ := put_len p.up n d
    exact ⟨h1, h2, by show (p.up.putS n d).1.fails ≤ _; rw [h3]; exact Nat.le_refl _, h4⟩
   ·split
    ·split <;> exact b
    ·split
     ·exact b
     ·split
      ·unfold PS.delS
       split
       ·refine ⟨?_, rfl, Nat.le_refl _, rfl⟩
        show (rm n p.es).length ≤ _
        have := (rm_sub n p.es).length_le; omega
       ·exact b
      ·exact b
theorem do_names (p : PS) (kind : Int) (n d : ByteArray) : (p.doS kind n d).2.2.2.length ≤ p.es.length := by
 have fl := List.length_filter_le (starts n) (nm p.es)
 rw [nm_len] at fl
 unfold PS.doS
 repeat' split
 all_goals first | exact fl | exact Nat.zero_le _
end Gs
namespace Gs
open Go Gx
def StepQ (h : AHeap) (sb rb tb i : Nat) (q : Bool × AHeap) : Prop := q.1 = true ∧ Chg (SBT sb rb tb) h q.2 ∧ ∃ p r, Two q.2 sb rb tb i p r
theorem Two.keeps {h h' : AHeap} {sb rb tb i : Nat} {p : PS} {r : RSt} (T : Two h sb rb tb i p r) (k : Keeps h h') : Two h' sb rb tb i p r := ⟨T.s.keeps k, T.t.keeps k, T.r, T.l, T.c, T.f, T.q, T.lt⟩
theorem tot_two {h : AHeap} {sb rb tb i : Nat} {p : PS} {r : RSt} (T : Two h sb rb tb i p r) (hi : i ≤ 1048575) {n d : ByteArray} (hn : n.size ≤ 96) (hd : d.size ≤ 131072) : totR (lyR n d r.L) ≤ 1152921504606846976 := by
 have RL := T.r.lay hn hd
 have t1 : Gs.tot (pt n d p.cl p.es) = totR (lyR n d r.L) := RL.tot
 have t2 := tot_pt (n := n) (d := d) (cl := p.cl) p.es
 have t3 := tot_le T.r.g
 have := T.l
 omega
theorem Two.both {h h1 h2 : AHeap} {sb rb tb i : Nat} {p p' : PS} {r r' : RSt} (T : Two h sb rb tb i p r) (c1 : Chg (SB sb rb) h h1) (s1 : SR h1 sb rb p') (c2 : Chg (· = tb) h1 h2) (t2 : RR h2 tb r') (R : Rel p' r') (l : p'.es.length ≤ i + 1) (c : p'.calls ≤ i + 1) (f : p'.fails ≤ 1048576) (q : p'.quota ≤ 1073741824) :
  Chg (SBT sb rb tb) h h2 ∧ Two h2 sb rb tb (i + 1) p' r' := by
 have lt := T.lt
 refine ⟨(c1.wk fun y _ z => by rcases z with z | z; exact .inl z; exact .inr (.inl z)).trans (c2.wk fun y _ z => .inr (.inr z)), s1.chg c2 (by omega) (by omega), t2, R, l, c, f, q, lt⟩
theorem RR.sb {h h1 : AHeap} {sb rb tb : Nat} {r : RSt} (t : RR h tb r) (lt : sb < tb ∧ rb < tb) (c : Chg (SB sb rb) h h1) : RR h1 tb r := t.chg c fun y hy z => by rcases z with z | z <;> omega
theorem step_spec {k : Nat} (D : CallF) {h : AHeap} {sb rb tb i : Nat} {p : PS} {r : RSt} (T : Two h sb rb tb i p r) (hi : i ≤ 1000) (kd num st kind : Int) (n d : ByteArray) (hk : n.size < k) (hk2 : 2000 < k) (hs : n.size ≤ 9223372036854775807) :
  Gx.Wp (law07_step k D (some ⟨sb, 0, none⟩) (some ⟨tb, 0, none⟩) (kd, num, st, kind, n, d) h) (StepQ h sb rb tb (i + 1)) := by
 simp only [law07_step]
 obtain ⟨H1, e1⟩ : ∃ H1, H1 = h.new (.cells [.int .i64 kd, .int .i64 num, .int .i64 st, .int .i64 kind, .string n, .string d] 43 true 0) := ⟨_, rfl⟩
 rw [← e1]
 have k1 : Keeps h H1 := e1 ▸ Keeps.new h _
 have n1 : H1.next = h.next + 1 := by rw [e1]; rfl
 have g1 : H1.get h.next = some (.cells [.int .i64 kd, .int .i64 num, .int .i64 st, .int .i64 kind, .string n, .string d] 43 true 0) := by rw [e1]; simp
 have T1 := T.keeps k1
 have lt := T.lt
 have tl := T.t.lt
 have iL := T.l
 have iC := T.c
 have len := T.r.len
 obtain ⟨am, ea⟩ := among_some k D kd (m := 7) (by decide) H1
 refine Gx.Wp.bnd (sldI_at g1 rfl) (Gx.Wp.bnd ea ?_)
 have done : ∀ {h2 : AHeap} {p' : PS} {r' : RSt}, Chg (SBT sb rb tb) H1 h2 ∧ Two h2 sb rb tb (i + 1) p' r' → StepQ h sb rb tb (i + 1) (true, h2) := fun z => ⟨rfl, (Chg.keeps k1).trans z.1, _, _, z.2⟩
 have nsb : ∀ {S : AHeap}, Chg (SB sb rb) H1 S → S.get h.next = H1.get h.next := fun c => c.oth _ (by omega) (by rintro (z | z) <;> omega)
 by_cases a0 : am = 0
 ·-- a request
  refine Gx.Wp.ifp (by simpa using a0) ?_
  refine Gx.Wp.bnd (ldA_part g1 (by decide) (by show 2 + 4 ≤ 6; omega)) (Gx.Wp.bnd rfl ?_)
  refine Gx.Wp.call (Do_spec D T1.s T1.r.g st kind n d (by omega) T.q (by omega) T.f (fun _ => hk) (fun _ => hs) (by omega)) fun r6 q6 => ?_
  obtain ⟨a1, a2, A6, c6, s6, g6⟩ := q6
  refine keep3 _ _ _ ?_
  obtain ⟨K, eK⟩ : ∃ K, K = kept3 r6.2 r6.1.1 r6.1.2.1 r6.1.2.2 := ⟨_, rfl⟩
  have l6 := kept3_keeps r6.2 r6.1.1 r6.1.2.1 r6.1.2.2
  have G6 := kept3_get r6.2 r6.1.1 r6.1.2.1 r6.1.2.2
  have n6 := kept3_next r6.2 r6.1.1 r6.1.2.1 r6.1.2.2
  rw [← eK] at l6 G6 n6
  have eK' : (r6.2.new (.cells [.int .i64 0, .string ⟨#[]⟩, .slice none 0 0] 29 true 0)).set r6.2.next (.cells [.int .i64 r6.1.1, .string r6.1.2.1, .slice r6.1.2.2.a r6.1.2.2.len r6.1.2.2.cap] 29 true 0) = K := eK.symm
  rw [eK']
  have m6 := c6.nx
  have g1K := (l6.oth _ (by omega) fun f => f).trans ((nsb c6).trans g1)
  refine Gx.Wp.bnd (ldA_part g1K (by decide) (by show 2 + 4 ≤ 6; omega)) (Gx.Wp.bnd rfl ?_)
  have tK := (T1.t.sb lt c6).keeps l6
  refine Gx.Wp.call (rDo_spec D tK st kind n d (by omega) (by rw [← T.r.c]; omega) (by rw [← T.r.f]; exact T.f) (by omega) (by omega) (fun _ => ?_)) fun r11 q11 => ?_
  ·by_cases z : fitsC n d = 0
   ·obtain ⟨f1, f2, _⟩ := fits0 z
    exact .inl (tot_two T (by omega) f1 f2)
   ·exact .inr z
  obtain ⟨b1, b2, A11, c11, t11⟩ := q11
  have D1 := T.r.do kind n d
  have m11 := c11.nx
  have G11 := (c11.oth _ (by omega) (by omega)).trans G6
  refine Gx.Wp.bnd (sldA_at G11 rfl) (Gx.Wp.gp (ssw1 (bnd (sldA_at G6 rfl) rfl)) (Gx.Wp.bnd rfl ?_))
  have A6K := (A6.keeps l6).chg c11 (fun a ha z => by have := (A6.lt a ha).2; omega)
  have hx := do_names p kind n d
  have R11 : Row encS r11.2 r11.1.2.2 (p.doS kind n d).2.2.2 := by rw [D1.2]; exact A11.row
  have same : Gx.Wp (law07_sameResp k D (r6.1.1, r6.1.2.1, ⟨r6.1.2.2.a, r6.1.2.2.len, r6.1.2.2.cap⟩) (r11.1.1, r11.1.2.1, r11.1.2.2) r11.2) fun q => q.1 = true ∧ Keeps r11.2 q.2 := by
   rw [a1, a2, b1, b2, D1.2]
   rw [← D1.2]
   exact sameResp_spec D A6K.row R11 (by omega) (by omega)
  refine Gx.Wp.call same fun r16 q16 => ?_
  obtain ⟨z1, k16⟩ := q16
  have G16 := (k16.oth _ (by omega) fun f => f).trans G11
  refine Gx.Wp.bnd (sldL_at G16 rfl) (Gx.Wp.call (spoil_spec D (A6K.keeps k16) (by omega) (by omega)) fun r18 c18 => ?_)
  rw [z1]
  have A16 := A6K.keeps k16
  have B := T1.both (p' := (p.doS kind n d).1) (r' := (r.doS kind n d).1) c6 s6 (h2 := r11.2) (Chg.beh (T := (· = tb)) (Chg.keeps l6) c11 fun y _ z => z) t11 D1.1 (by have := (do_len p kind n d).1; omega) (by have := (do_len p kind n d).2.1; omega) (by have := (do_len p kind n d).2.2.1; have := T.f; omega) (by rw [(do_len p kind n d).2.2.2]; exact T.q)
  have B2 := B.2.keeps k16
  refine Gx.Wp.of (done ⟨Chg.beh (B.1.trans (Chg.keeps k16)) c18 fun y hy ⟨a, ha, z⟩ => ?_, ⟨B2.s.marked A16 (by omega) (by omega) c18, B2.t.marked A16 (by omega) c18, B2.r, B2.l, B2.c, B2.f, B2.q, B2.lt⟩⟩)
  have := (A6.lt a ha).2
  omega
 refine Gx.Wp.ifn (by simpa using a0) ?_
 by_cases a1 : am = 1
 ·-- calls that fail
  refine Gx.Wp.ifp (by simpa using a1) (Gx.Wp.bnd (sldI_at g1 rfl) ?_)
  refine Gx.Wp.call (Fail_spec D T1.s num) fun r2 q2 => ?_
  obtain ⟨b1, c2, s2⟩ := q2
  have g2 := (nsb c2).trans g1
  refine Gx.Wp.bnd (sldI_at g2 rfl) (Gx.Wp.gp (ssw1 (bnd (sldI_at g1 rfl) rfl)) ?_)
  refine Gx.Wp.call (rFail_spec D (T1.t.sb lt c2) num) fun r3 q3 => ?_
  obtain ⟨b2, c3, t3⟩ := q3
  rw [b1, b2, beq_self_eq_true]
  have R := T.r
  exact Gx.Wp.of (done (T1.both c2 s2 c3 t3 ⟨R.q, by show failV num p.fails = failV num r.fails; rw [R.f], R.c, R.d, R.g, R.s, R.eq⟩ (by show p.es.length ≤ _; omega) (by show p.calls ≤ _; omega) (failV_le T.f) T.q))
 refine Gx.Wp.ifn (by simpa using a1) ?_
 by_cases a2 : am = 2
 ·-- down, or up
  refine Gx.Wp.ifp (by simpa using a2) (Gx.Wp.bnd (sldI_at g1 rfl) ?_)
  refine Gx.Wp.call (Down_spec D T1.s _) fun r2 q2 => ?_
  obtain ⟨c2, s2⟩ := q2
  have g2 := (nsb c2).trans g1
  refine Gx.Wp.bnd (sldI_at g2 rfl) (Gx.Wp.bnd rfl ?_)
  obtain ⟨h3, b3, c3, t3⟩ := rOff_spec (T1.t.sb lt c2) (Int.tmod num 2 != 0)
  have R := T.r
  exact Gx.Wp.bnd b3 (Gx.Wp.of (done (T1.both c2 s2 c3 t3 ⟨R.q, R.f, R.c, rfl, R.g, R.s, R.eq⟩ (by show p.es.length ≤ _; omega) (by show p.calls ≤ _; omega) T.f T.q)))
 refine Gx.Wp.ifn (by simpa using a2) ?_
 by_cases a3 : am = 3
 ·-- all is lost
  refine Gx.Wp.ifp (by simpa using a3) ?_
  refine Gx.Wp.call (Wipe_spec D T1.s) fun r2 q2 => ?_
  obtain ⟨c2, s2⟩ := q2
  obtain ⟨h3, b3, c3, t3⟩ := rNil_spec (T1.t.sb lt c2)
  have R := T.r
  exact Gx.Wp.bnd rfl (Gx.Wp.bnd b3 (Gx.Wp.of (done (T1.both c2 s2 c3 t3 ⟨R.q, R.f, R.c, R.d, good_nil _, .nil, fun _ => rfl⟩ (Nat.zero_le _) (by show p.calls ≤ _; omega) T.f T.q))))
 refine Gx.Wp.ifn (by simpa using a3) ?_
 by_cases a4 : am = 4
 ·-- an object is laid
  refine Gx.Wp.ifp (by simpa using a4) (Gx.Wp.bnd (ldS_at g1 rfl) (Gx.Wp.bnd (ldS_at g1 rfl) ?_))
  refine Gx.Wp.call (Set_spec D T1.s T1.r.g n d (by omega) hk hs) fun r2 q2 => ?_
  obtain ⟨b1, c2, s2, _⟩ := q2
  have g2 := (nsb c2).trans g1
  refine Gx.Wp.bnd (ldS_at g2 rfl) (Gx.Wp.gp (ssw1 (bnd (ldS_at g1 rfl) rfl)) (Gx.Wp.bnd (ldS_at g2 rfl) (Gx.Wp.gp (ssw1 (bnd (ldS_at g1 rfl) rfl)) ?_)))
  refine Gx.Wp.call (rSet_spec D (T1.t.sb lt c2) n d (by omega) (by omega) (by omega)) fun r3 q3 => ?_
  obtain ⟨b2, c3, t3⟩ := q3
  rw [b1, b2, beq_self_eq_true]
  unfold PS.setS at s2
  by_cases z : fitsC n d = 0
  ·rw [if_pos z] at s2 t3
   obtain ⟨f1, f2, _⟩ := fits0 z
   exact Gx.Wp.of (done (T1.both c2 s2 c3 t3 (T.r.lay f1 f2) (by have := lay_len p n d; omega) (by show p.calls ≤ _; omega) T.f T.q))
  ·rw [if_neg z] at s2 t3
   exact Gx.Wp.of (done (T1.both c2 s2 c3 t3 T.r (by omega) (by omega) T.f T.q))
 refine Gx.Wp.ifn (by simpa using a4) ?_
 by_cases a5 : am = 5
 ·-- a beginning is laid
  refine Gx.Wp.ifp (by simpa using a5) (Gx.Wp.bnd (ldA_part g1 (by decide) (by show 2 + 4 ≤ 6; omega)) (Gx.Wp.bnd rfl (Gx.Wp.bnd (sldI_at g1 rfl) ?_)))
  refine Gx.Wp.call (Torn_spec D T1.s T1.r.g st kind n d num (by omega) hk hs) fun r2 q2 => ?_
  obtain ⟨b1, c2, s2, _⟩ := q2
  have g2 := (nsb c2).trans g1
  refine Gx.Wp.bnd (ldA_part g2 (by decide) (by show 2 + 4 ≤ 6; omega)) (Gx.Wp.gp (ssw1 (bnd (ldA_part g1 (by decide) (by show 2 + 4 ≤ 6; omega)) rfl)) (Gx.Wp.bnd rfl (Gx.Wp.bnd (sldI_at g2 rfl) (Gx.Wp.gp (ssw1 (bnd (sldI_at g1 rfl) rfl)) ?_))))
  refine Gx.Wp.call (rTorn_spec D (T1.t.sb lt c2) st kind n d num (by omega) (by omega) (by omega)) fun r3 q3 => ?_
  obtain ⟨b2, c3, t3⟩ := q3
  rw [b1, b2, beq_self_eq_true]
  unfold PS.tornS at s2
  by_cases z : tornC kind n d = 0 ∧ 0 ≤ num
  ·rw [if_pos z] at s2 t3
   have zf : fitsC n d = 0 := by
    have := z.1
    unfold tornC at this
    split at this
    ·exact this
    ·cases this
   obtain ⟨f1, f2, _⟩ := fits0 zf
   exact Gx.Wp.of (done (T1.both c2 s2 c3 t3 (T.r.lay f1 (Nat.le_trans (cut_size d _) f2)) (by have := lay_len p n (cutB d (min num.toNat d.size)); omega) (by show p.calls ≤ _; omega) T.f T.q))
  ·rw [if_neg z] at s2 t3
   exact Gx.Wp.of (done (T1.both c2 s2 c3 t3 T.r (by omega) (by omega) T.f T.q))
 refine Gx.Wp.ifn (by simpa using a5) ?_
 refine Gx.Wp.call (Fork_spec D T1.s) fun r5 q5 => ?_
 obtain ⟨b5, k5, s5⟩ := q5
 rw [b5]
 refine Gx.Wp.ifn (fun z => by cases z) ?_
 have own : ∀ {A B : AHeap}, Keeps H1 A → Chg (SB (H1.next + 1) H1.next) A B → Keeps H1 B := fun a c => Chg.beh a c fun y hy z => by rcases z with z | z <;> omega
 refine Gx.Wp.call (Wipe_spec D s5) fun r6 q6 => ?_
 obtain ⟨c6, s6⟩ := q6
 refine Gx.Wp.call (Fail_spec D s6 3) fun r7 q7 => ?_
 obtain ⟨_, c7, s7⟩ := q7
 refine Gx.Wp.call (Set_spec D s7 (good_nil _) (⟨#[111, 119, 110]⟩ : ByteArray) (⟨#[120]⟩ : ByteArray) (Nat.zero_le _) (by show 3 < k; omega) (by decide)) fun r8 q8 => ?_
 obtain ⟨_, c8, s8, g8⟩ := q8
 have l8 : ∀ (p : PS) (n d : ByteArray), (p.setS n d).es.length ≤ p.es.length + 1 ∧ (p.setS n d).quota = p.quota ∧ (p.setS n d).calls = p.calls ∧ (p.setS n d).fails = p.fails := fun p n d => by
  unfold PS.setS
  split
  ·exact ⟨lay_len p n d, rfl, rfl, rfl⟩
  ·exact ⟨Nat.le_succ _, rfl, rfl, rfl⟩
 obtain ⟨y1, y2, y3, y4⟩ := l8 { ({ p with es := [] } : PS) with fails := failV 3 p.fails } (⟨#[111, 119, 110]⟩ : ByteArray) (⟨#[120]⟩ : ByteArray)
 have y1' : _ ≤ 0 + 1 := y1
 refine Gx.Wp.call (Do_spec D s8 g8 0 3 (⟨#[]⟩ : ByteArray) (⟨#[]⟩ : ByteArray) (Nat.le_trans y1' (by decide)) (Nat.le_trans (Nat.le_of_eq y2) T.q) (Nat.le_trans (Nat.le_of_eq y3) (by show p.calls ≤ _; omega)) (Nat.le_trans (Nat.le_of_eq y4) (by show failV 3 p.fails ≤ _; exact failV_le T.f)) (fun z => by cases z) (fun z => by cases z) (Nat.lt_of_le_of_lt y1' (by omega))) fun r9 q9 => ?_
 obtain ⟨_, _, _, c9, _, _⟩ := q9
 have kf := own (own (own (own k5 c6) c7) c8) c9
 have TF := T1.keeps kf
 exact Gx.Wp.of (done ⟨Chg.keeps kf, ⟨TF.s, TF.t, TF.r, by have := TF.l; omega, by have := TF.c; omega, TF.f, TF.q, TF.lt⟩⟩)
end Gs
namespace Gs
open Go Gx
abbrev Ac := Int × Int × Int × Int × ByteArray × ByteArray
def encA (x : Ac) : List Value := [.int .i64 x.1, .int .i64 x.2.1, .int .i64 x.2.2.1, .int .i64 x.2.2.2.1, .string x.2.2.2.2.1, .string x.2.2.2.2.2]
theorem encA_len (x : Ac) : (encA x).length = 6 := rfl
def nameA (x : Ac) : ByteArray := x.2.2.2.2.1
theorem rNew_bad {k : Nat} (D : CallF) {h : AHeap} {q : Int} (hq : q < 0 ∨ 1073741824 < q) : ref07_New k D q h = some ((none, 1), h) := by
 simp only [ref07_New]
 refine jn ?_
 by_cases c : q < 0
 ·exact ifp (by simpa using c) (ifp rfl rfl)
 ·exact ifn (by simpa using c) (ifp (by simp; omega) rfl)
def rs0 (q : Nat) : RSt := ⟨q, 0, 0, false, []⟩
theorem rNew_spec {k : Nat} (D : CallF) {h : AHeap} {q : Nat} (hq : q ≤ 1073741824) : ∃ h', ref07_New k D (q : Int) h = some ((some ⟨h.next, 0, none⟩, 0), h') ∧ Keeps h h' ∧ RR h' h.next (rs0 q) := by
 refine ⟨h.new (.cells [.int .i64 (q : Int), .int .i64 0, .int .i64 0, .bool false, .slice none 0 0] 48 true 0), ?_, Keeps.new h _, ⟨48, ⟨none, 0, 0⟩, ?_, AccV.nil _ _ _ _ _⟩, ?_⟩
 ·simp only [ref07_New]
  refine jn ?_
  refine ifn (by simp) ?_
  rw [decide_eq_false (by omega)]
  exact ifn (by decide) rfl
 ·rw [AHeap.get_new, if_pos rfl]; rfl
 ·simp only [AHeap.next_new]; omega
theorem plays_l0 {k : Nat} (D : CallF) (bot) {h0 : AHeap} {sb rb tb : Nat} {sl : Slc} {acts : List Ac} (R : RowW 6 encA h0 sl acts) (hz : ∀ x ∈ acts, (nameA x).size ≤ 9223372036854775807) (hk : ∀ x ∈ acts, (nameA x).size < k) (hk2 : 2000 < k)
  (h0s : h0.next ≤ sb ∧ h0.next ≤ rb) :
  ∀ (d i : Nat) (p : PS) (r : RSt) (H : AHeap), i + d = 80 → i ≤ acts.length → Keeps h0 H → Two H sb rb tb i p r →
   Gx.Wp (iterK bot (d + 1) (law07_StorePlays_l0b k D fun (h9 : AHeap) => some (true, h9)) sl (some ⟨sb, 0, none⟩) (some ⟨tb, 0, none⟩) (i : Int) H) fun q => q.1 = true := fun d => by
 induction d with
 | zero =>
  intro i p r H hi hl kp T
  rw [iterK_s]; simp only [law07_StorePlays_l0b]
  obtain rfl : i = 80 := by omega
  refine Gx.Wp.jn fun j hj => Gx.Wp.ifp rfl ?_
  have : Gx.Wp (j sl (some ⟨sb, 0, none⟩) (some ⟨tb, 0, none⟩) ((80 : Nat) : Int) false H) fun q => q.1 = true := by
   subst hj
   exact Gx.Wp.ifn (fun q => by cases q) (Gx.Wp.of rfl)
  by_cases c : (((80 : Nat) : Int) < (sl.len : Int))
  ·exact Gx.Wp.ifp (by simpa using c) this
  ·exact Gx.Wp.ifn (by simpa using c) this
 | succ d ih =>
  intro i p r H hi hl kp T
  rw [iterK_s]; simp only [law07_StorePlays_l0b]
  refine Gx.Wp.jn fun j hj => Gx.Wp.ifp rfl ?_
  by_cases c : i = acts.length
  ·refine Gx.Wp.ifn (by rw [R.len, c]; simp) ?_
   subst hj
   exact Gx.Wp.ifn (fun q => by cases q) (Gx.Wp.of rfl)
  refine Gx.Wp.ifp (by rw [R.len]; simp; omega) ?_
  rw [decide_eq_true (show (i : Int) < 80 by omega)]
  subst hj
  refine Gx.Wp.ifp rfl (Gx.Wp.jn fun j29 h29 => Gx.Wp.jn fun j36 h36 => ?_)
  obtain ⟨x, hx⟩ := isome (l := acts) (i := i) (by omega)
  have hm := mem_of hx
  obtain ⟨q, q1, q2, _, q3⟩ := (R.keeps kp).ld encA_len (by decide) hx
  have next : ∀ (p' : PS) (r' : RSt) (H' : AHeap), Keeps h0 H' → Two H' sb rb tb (i + 1) p' r' → Gx.Wp (j29 sl (some ⟨sb, 0, none⟩) (some ⟨tb, 0, none⟩) (i : Int) H') fun q => q.1 = true := fun p' r' H' kp' T' => by
   subst h29
   simp only
   rw [Gx.w1 (by omega)]
   exact ih (i + 1) p' r' H' (by omega) (by omega) kp' T'
  have pass : Two H sb rb tb (i + 1) p r := ⟨T.s, T.t, T.r, Nat.le_succ_of_le T.l, Nat.le_succ_of_le T.c, T.f, T.q, T.lt⟩
  have go : ∀ y : Bool, Gx.Wp (j36 sl (some ⟨sb, 0, none⟩) (some ⟨tb, 0, none⟩) (i : Int) y H) fun q => q.1 = true := fun y => by
   subst h36
   cases y with
   | true => exact Gx.Wp.ifp rfl (next p r H kp pass)
   | false =>
    refine Gx.Wp.ifn (fun q => by cases q) (Gx.Wp.bnd q1 (Gx.Wp.bnd q2 (Gx.Wp.bnd rfl ?_)))
    refine Gx.Wp.call (step_spec D T (by omega) x.1 x.2.1 x.2.2.1 x.2.2.2.1 x.2.2.2.2.1 x.2.2.2.2.2 (hk x hm) hk2 (hz x hm)) fun r1 w1 => ?_
    obtain ⟨a1, c1, p', r', T'⟩ := w1
    have kp1 : Keeps h0 r1.2 := Chg.beh kp c1 fun y hy z => by have := T.lt; rcases z with z | z | z <;> omega
    obtain ⟨q', u1, _, _, u3⟩ := (R.keeps kp1).ld encA_len (by decide) hx
    rw [a1]
    refine Gx.Wp.ifn (fun q => by cases q) (Gx.Wp.bnd u1 (Gx.Wp.bnd (u3 4 (nameA x) rfl) (Gx.Wp.bnd (Get_spec D T'.s _) (Gx.Wp.bnd u1 (Gx.Wp.bnd (u3 4 (nameA x) rfl) ?_)))))
    have iL := T'.l
    have len := T'.r.len
    have tot := T'.r.tot
    have tle := tot_le T'.r.g
    refine Gx.Wp.bnd (rGet_spec D T'.t _ (by omega) (by omega)) (Gx.Wp.jn fun j53 h53 => ?_)
    rw [T'.r.lk]
    refine Gx.Wp.ifn (by rw [ba_beq]; simp) (Gx.Wp.ifn (by simp) ?_)
    refine Gx.Wp.bnd (Used_spec D T'.s) (Gx.Wp.bnd (rused_spec D T'.t (by omega) (by omega) (by omega)) (Gx.Wp.ifn (by rw [tot]; simp) ?_))
    obtain ⟨e, l, hb, _⟩ := T'.t.blk
    refine Gx.Wp.bnd (Calls_spec D T'.s) (Gx.Wp.bnd rfl (Gx.Wp.bnd (sldI_at hb rfl) (Gx.Wp.gp (ssw1 (bnd (sldI_at hb rfl) rfl)) (Gx.Wp.ifn (by rw [T'.r.c]; simp) ?_))))
    refine Gx.Wp.call (Names_spec D T'.s T'.r.g (by omega)) fun r3 w3 => ?_
    obtain ⟨k3, A3⟩ := w3
    refine Gx.Wp.call (rnames_spec D (T'.t.keeps k3) nob (by omega) (by omega)) fun r4 w4 => ?_
    obtain ⟨k4, A4⟩ := w4
    have eall : (r'.L.map (·.1)).filter (starts nob) = nm p'.es := by rw [T'.r.nm]; exact List.filter_eq_self.2 fun x _ => starts_nob x
    rw [eall] at A4
    refine Gx.Wp.bnd (sameS_spec D (A3.keeps k4).row A4.row (by rw [nm_len]; omega) (by rw [nm_len]; omega)) ?_
    subst h53
    exact Gx.Wp.ifn (fun q => by cases q) (next p' r' r4.2 ((kp1.trans k3).trans k4) (T'.keeps (k3.trans k4)))
  refine Gx.Wp.bnd q1 (Gx.Wp.bnd (q3 5 x.2.2.2.2.2 rfl) ?_)
  by_cases z : ((x.2.2.2.2.2.size : Int) > 1000)
  ·exact Gx.Wp.ifp (by simpa using z) (Gx.Wp.bnd q1 (Gx.Wp.bnd (q3 5 x.2.2.2.2.2 rfl) (go _)))
  ·exact Gx.Wp.ifn (by simpa using z) (go false)
def needA (l : List Ac) : Nat := need (l.map nameA) + 2000
theorem plays_ok {k : Nat} (D : CallF) {h : AHeap} (quota : Int) {sl : Slc} {acts : List Ac} (R : RowW 6 encA h sl acts) (hz : ∀ x ∈ acts, (nameA x).size ≤ 9223372036854775807) (hk : needA acts ≤ k) : Gx.Wp (law07_StorePlays k D quota sl h) fun q => q.1 = true := by
 have ng := need_ge (acts.map nameA)
 unfold needA at hk
 have nl : ∀ x ∈ acts, (nameA x).size < k := fun x hx => by have := need_lt (List.mem_map.2 ⟨x, hx, rfl⟩ : nameA x ∈ acts.map nameA); omega
 simp only [law07_StorePlays]
 by_cases c : quota < 0 ∨ 1073741824 < quota
 ·refine Gx.Wp.bnd (New_bad D c) (Gx.Wp.bnd (rNew_bad D c) (Gx.Wp.jn fun j8 h8 => ?_))
  refine Gx.Wp.ifn (fun q => by cases q) (Gx.Wp.ifn (fun q => by cases q) ?_)
  refine Gx.Wp.call (works_spec D (by omega)) fun r q => ?_
  rw [q.1]
  subst h8
  refine Gx.Wp.ifn (fun q => by cases q) (Gx.Wp.jn fun j10 h10 => ?_)
  unfold law07_StorePlays_l0
  obtain ⟨bot, eb⟩ := iterK_of (fun _ _ _ _ _ => none) (law07_StorePlays_l0b k D j10) (show 0 + 1 ≤ k by omega)
  rw [eb, iterK_s]; simp only [law07_StorePlays_l0b]
  refine Gx.Wp.jn fun j hj => Gx.Wp.ifn (fun q => by cases q) ?_
  subst hj
  refine Gx.Wp.ifn (fun q => by cases q) ?_
  subst h10
  exact Gx.Wp.of rfl
 ·obtain ⟨qn, rfl⟩ : ∃ qn : Nat, quota = (qn : Int) := ⟨quota.toNat, by omega⟩
  have hq : qn ≤ 1073741824 := by omega
  obtain ⟨h1, e1, k1, s1⟩ := New_spec (k := k) D (h := h) hq
  obtain ⟨h2, e2, k2, t2⟩ := rNew_spec (k := k) D (h := h1) hq
  have n1 := s1.lt
  refine Gx.Wp.bnd e1 (Gx.Wp.bnd e2 (Gx.Wp.jn fun j8 h8 => ?_))
  refine Gx.Wp.ifn (fun q => by cases q) (Gx.Wp.ifn (fun q => by cases q) ?_)
  refine Gx.Wp.call (works_spec D (by omega)) fun r q => ?_
  rw [q.1]
  subst h8
  refine Gx.Wp.ifn (fun q => by cases q) (Gx.Wp.jn fun j10 h10 => ?_)
  unfold law07_StorePlays_l0
  obtain ⟨bot, eb⟩ := iterK_of (fun _ _ _ _ _ => none) (law07_StorePlays_l0b k D j10) (show 80 + 1 ≤ k by omega)
  rw [eb]
  subst h10
  exact plays_l0 D bot R hz nl (by omega) ⟨by omega, by omega⟩ 80 0 (ps0 qn) (rs0 qn) r.2 (by omega) (Nat.zero_le _) ((k1.trans k2).trans q.2)
   ⟨s1.keeps (k2.trans q.2), t2.keeps q.2, ⟨rfl, rfl, rfl, rfl, good0, .nil, fun _ => rfl⟩, Nat.le_refl _, Nat.le_refl _, Nat.zero_le _, hq, n1⟩
def actT : DT := .pair (.int .i64) (.pair (.int .i64) (.pair (.pair (.int .i64) (.pair (.int .i64) (.pair .str (.pair .str .unit)))) .unit))
def actV (x : actT.V) : Ac := (x.1, x.2.1, x.2.2.1.1, x.2.2.1.2.1, x.2.2.1.2.2.1, x.2.2.1.2.2.2.1)
theorem act_enc {h : AHeap} {x : actT.V} {cs : List Value} (r : Gx.Rep h actT x cs) : cs = encA (actV x) ∧ (nameA (actV x)).size ≤ 9223372036854775807 := by
 obtain ⟨_, _, rfl, ⟨rfl, _⟩, _, _, rfl, ⟨rfl, _⟩, _, _, rfl, ⟨_, _, rfl, ⟨rfl, _⟩, _, _, rfl, ⟨rfl, _⟩, _, _, rfl, ⟨rfl, hn⟩, _, _, rfl, ⟨rfl, _⟩, rfl⟩, rfl⟩ := r
 exact ⟨rfl, hn⟩
def needP (l : List actT.V) : Nat := needA (l.map actV)
theorem plays_rep {k : Nat} {acts : List actT.V} (hk : needP acts ≤ k) (D : CallF) {h : AHeap} (quota : Int) {sl : Slc} (R : Gx.Rep h (.list actT) acts [.slice sl.a sl.len sl.cap]) :
  ∃ h', law07_StorePlays k D quota sl h = some (true, h') := by
 obtain ⟨⟨r, h'⟩, e, q⟩ := plays_ok D quota (R.rowW fun x cs hr => (act_enc hr).1) (fun x hx => by
  obtain ⟨y, hy, rfl⟩ := List.mem_map.1 hx
  obtain ⟨cs, hr⟩ := R.each y hy
  exact (act_enc hr).2) hk
 obtain rfl : r = true := q
 exact ⟨h', e⟩
end Gs
