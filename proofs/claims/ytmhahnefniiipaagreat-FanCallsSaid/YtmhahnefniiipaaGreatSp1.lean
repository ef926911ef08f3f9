import Derived.KernelRfl
import Derived.Sort.Walk0
import Derived.Test.YtmhahnefniiipaaGreatFn1
namespace Gt
open Go Gx
abbrev En := ByteArray × ByteArray × Nat
def encE (e : En) : Value × Value × Nat := (.string e.1, .string e.2.1, e.2.2)
def fd (n : ByteArray) : List En → Nat → Option (Nat × ByteArray)
 | [], _ => none
 | e :: es, i => if e.1 = n then some (i, e.2.1) else fd n es (i + 1)
def lk (n : ByteArray) : List En → Option ByteArray
 | [] => none
 | e :: es => if e.1 = n then some e.2.1 else lk n es
def pt (n d : ByteArray) (cl : Nat) : List En → List En
 | [] => [(n, d, cl)]
 | e :: es => if e.1 = n then (n, d, e.2.2) :: es else e :: pt n d cl es
def rm (n : ByteArray) : List En → List En
 | [] => []
 | e :: es => if e.1 = n then es else e :: rm n es
def room (n : ByteArray) (es : List En) : Nat := match lk n es with | some d => n.size + d.size | none => 0
def tot : List En → Nat
 | [] => 0
 | e :: es => e.1.size + e.2.1.size + tot es
theorem findE_fd (n : ByteArray) : ∀ (es : List En) (i : Nat), findE (.string n) (es.map encE) i = some ((fd n es i).map fun p => (p.1, .string p.2))
 | [], _ => rfl
 | e :: es, i => by
  have ih := findE_fd n es (i + 1)
  simp only [List.map_cons, encE, findE, keyEq, fd]
  by_cases h : e.1 = n
  ·have hb : (n == n) = true := by rw [ba_beq]; simp
   rw [if_pos h, h, hb]; rfl
  ·have hb : (n == e.1) = false := by rw [ba_beq]; simpa using fun q => h q.symm
   rw [if_neg h, hb]
   simpa [encE] using ih
theorem fd_lk (n : ByteArray) : ∀ (es : List En) (i : Nat), (fd n es i).map (·.2) = lk n es
 | [], _ => rfl
 | e :: es, i => by
  simp only [fd, lk]
  by_cases h : e.1 = n
  ·rw [if_pos h, if_pos h]; rfl
  ·rw [if_neg h, if_neg h]; exact fd_lk n es (i + 1)
theorem fd_ge {n : ByteArray} : ∀ {es : List En} {i : Nat} {p}, fd n es i = some p → i ≤ p.1
 | [], _, _, h => by cases h
 | e :: es, i, p, h => by
  simp only [fd] at h
  split at h
  ·cases h; exact Nat.le_refl _
  ·have := fd_ge h; omega
theorem fd_mod {n d : ByteArray} {cl : Nat} : ∀ {es : List En} {i : Nat} {p}, fd n es i = some p → (es.map encE).modify (p.1 - i) (fun e => (.string n, .string d, e.2.2)) = (pt n d cl es).map encE
 | [], _, _, h => by cases h
 | e :: es, i, p, h => by
  simp only [fd] at h
  split at h
  ·rename_i q
   cases h
   simp only [Nat.sub_self, pt, if_pos q]; rfl
  ·rename_i q
   have h1 := fd_ge h
   have ih := fd_mod (d := d) (cl := cl) h
   simp only [pt, if_neg q, List.map_cons]
   rw [show p.1 - i = (p.1 - (i + 1)) + 1 by omega, List.modify_succ_cons, ih]
theorem fd_none {n d : ByteArray} {cl : Nat} : ∀ {es : List En} {i : Nat}, fd n es i = none → es.map encE ++ [(.string n, .string d, cl)] = (pt n d cl es).map encE
 | [], _, _ => rfl
 | e :: es, i, h => by
  simp only [fd] at h
  split at h
  ·cases h
  ·rename_i q
   simp only [pt, if_neg q, List.map_cons, List.cons_append]
   rw [fd_none h]
theorem fd_del {n : ByteArray} : ∀ {es : List En} {i : Nat} {p}, fd n es i = some p → (es.map encE).eraseIdx (p.1 - i) = (rm n es).map encE
 | [], _, _, h => by cases h
 | e :: es, i, p, h => by
  simp only [fd] at h
  split at h
  ·rename_i q
   cases h
   simp only [Nat.sub_self, rm, if_pos q]; rfl
  ·rename_i q
   have h1 := fd_ge h
   have ih := fd_del h
   simp only [rm, if_neg q, List.map_cons]
   rw [show p.1 - i = (p.1 - (i + 1)) + 1 by omega, List.eraseIdx_cons_succ, ih]
theorem rm_none {n : ByteArray} : ∀ {es : List En}, lk n es = none → rm n es = es
 | [], _ => rfl
 | e :: es, h => by
  simp only [lk] at h
  split at h
  ·cases h
  ·rename_i q; simp only [rm, if_neg q]; rw [rm_none h]
theorem fd_some {n : ByteArray} {es : List En} {i : Nat} {d : ByteArray} (h : lk n es = some d) : ∃ j, fd n es i = some (j, d) := by
 have := fd_lk n es i
 rw [h] at this
 cases hf : fd n es i with
 | none => rw [hf] at this; cases this
 | some p => rw [hf] at this; simp at this; exact ⟨p.1, by rw [← this]⟩
theorem fd_no {n : ByteArray} {es : List En} {i : Nat} (h : lk n es = none) : fd n es i = none := by
 have := fd_lk n es i
 rw [h] at this
 cases hf : fd n es i with
 | none => rfl
 | some p => rw [hf] at this; cases this
theorem tot_pt {n d : ByteArray} {cl : Nat} : ∀ es, tot (pt n d cl es) + room n es = tot es + (n.size + d.size)
 | [] => by simp [pt, tot, room, lk]
 | e :: es => by
  have ih := tot_pt (n := n) (d := d) (cl := cl) es
  by_cases h : e.1 = n
  ·simp only [pt, if_pos h, tot, room, lk]; rw [← h]; omega
  ·have hr : room n (e :: es) = room n es := by simp only [room, lk, if_neg h]
   simp only [pt, if_neg h, tot, hr]; omega
theorem tot_rm {n : ByteArray} : ∀ es, tot (rm n es) + room n es = tot es
 | [] => rfl
 | e :: es => by
  have ih := tot_rm (n := n) es
  by_cases h : e.1 = n
  ·simp only [rm, if_pos h, tot, room, lk]; rw [← h]; omega
  ·have hr : room n (e :: es) = room n es := by simp only [room, lk, if_neg h]
   simp only [rm, if_neg h, tot, hr]; omega
theorem room_le {n : ByteArray} (es : List En) : room n es ≤ tot es := by have := tot_rm (n := n) es; omega
structure PS where
 quota : Nat
 fails : Nat
 calls : Nat
 down : Bool
 es : List En
 cl : Nat
structure Good (es : List En) (cl : Nat) : Prop where
 keys : (es.map (·.1)).Nodup
 births : (es.map (·.2.2)).Nodup
 old : ∀ e ∈ es, e.2.2 < cl
 small : ∀ e ∈ es, e.1.size ≤ 96 ∧ e.2.1.size ≤ 131072
theorem tot_le {es : List En} {cl : Nat} (g : Good es cl) : tot es ≤ es.length * 131168 := by
 have : ∀ es : List En, (∀ e ∈ es, e.1.size ≤ 96 ∧ e.2.1.size ≤ 131072) → tot es ≤ es.length * 131168 := by
  intro es
  induction es with
  | nil => intro _; exact Nat.le_refl _
  | cons e es ih =>
   intro h
   have h1 := h e (by simp)
   have h2 := ih fun x hx => h x (by simp [hx])
   simp only [tot, List.length_cons]; omega
 exact this es g.small
theorem mem_pt {n d : ByteArray} {cl : Nat} : ∀ {es : List En} {x : En}, x ∈ pt n d cl es → x ∈ es ∨ (x.1 = n ∧ x.2.1 = d ∧ (x.2.2 = cl ∨ ∃ y ∈ es, x.2.2 = y.2.2))
 | [], x, h => by simp [pt] at h; subst h; exact .inr ⟨rfl, rfl, .inl rfl⟩
 | e :: es, x, h => by
  simp only [pt] at h
  split at h
  ·rcases List.mem_cons.1 h with rfl | h
   ·exact .inr ⟨rfl, rfl, .inr ⟨e, by simp, rfl⟩⟩
   ·exact .inl (by simp [h])
  ·rcases List.mem_cons.1 h with rfl | h
   ·exact .inl (by simp)
   ·rcases mem_pt h with h | ⟨h1, h2, h3⟩
    ·exact .inl (by simp [h])
    ·exact .inr ⟨h1, h2, h3.imp id fun ⟨y, hy, e⟩ => ⟨y, by simp [hy], e⟩⟩
theorem keys_pt {n d : ByteArray} {cl : Nat} : ∀ {es : List En}, (pt n d cl es).map (·.1) = if (lk n es).isSome then es.map (·.1) else es.map (·.1) ++ [n]
 | [] => rfl
 | e :: es => by
  have ih := keys_pt (n := n) (d := d) (cl := cl) (es := es)
  by_cases h : e.1 = n
  ·simp [pt, lk, h]
  ·simp only [pt, lk, if_neg h, List.map_cons, ih]
   split <;> rfl
theorem births_pt {n d : ByteArray} {cl : Nat} : ∀ {es : List En}, (pt n d cl es).map (·.2.2) = if (lk n es).isSome then es.map (·.2.2) else es.map (·.2.2) ++ [cl]
 | [] => rfl
 | e :: es => by
  have ih := births_pt (n := n) (d := d) (cl := cl) (es := es)
  by_cases h : e.1 = n
  ·simp [pt, lk, h]
  ·simp only [pt, lk, if_neg h, List.map_cons, ih]
   split <;> rfl
theorem lk_mem {n : ByteArray} : ∀ {es : List En}, (lk n es).isSome = true ↔ n ∈ es.map (·.1)
 | [] => by simp [lk]
 | e :: es => by
  simp only [lk, List.map_cons, List.mem_cons]
  by_cases h : e.1 = n
  ·simp [h]
  ·rw [if_neg h, lk_mem]; exact ⟨.inr, fun q => q.resolve_left fun e' => h e'.symm⟩
theorem rm_sub (n : ByteArray) : ∀ es : List En, (rm n es).Sublist es
 | [] => .slnil
 | e :: es => by
  simp only [rm]
  split
  ·exact List.sublist_cons_self _ _
  ·exact (rm_sub n es).cons_cons _
def clk (n : ByteArray) (es : List En) (cl : Nat) : Nat := if (lk n es).isSome then cl else cl + 1
theorem Good.pt {es : List En} {cl : Nat} (g : Good es cl) {n d : ByteArray} (hn : n.size ≤ 96) (hd : d.size ≤ 131072) : Good (pt n d cl es) (clk n es cl) where
 keys := by
  rw [keys_pt]
  split
  ·exact g.keys
  ·rename_i h
   rw [lk_mem] at h
   exact List.nodup_append.2 ⟨g.keys, by simp, fun a ha b hb => by simp at hb; subst hb; exact fun e => h (e ▸ ha)⟩
 births := by
  rw [births_pt]
  split
  ·exact g.births
  ·refine List.nodup_append.2 ⟨g.births, by simp, fun a ha b hb => ?_⟩
   simp at hb; subst hb
   obtain ⟨e, he, rfl⟩ := List.mem_map.1 ha
   have := g.old e he; omega
 old := by
  intro e he
  unfold clk
  rcases mem_pt he with h | ⟨h1, h2, h3⟩
  ·have := g.old e h; split <;> omega
  ·rcases h3 with h3 | ⟨y, hy, h3⟩
   ·split
    ·rename_i q
     have : e.2.2 ∈ (Gt.pt n d cl es).map (·.2.2) := List.mem_map.2 ⟨e, he, rfl⟩
     rw [births_pt, if_pos q] at this
     obtain ⟨y, hy, e1⟩ := List.mem_map.1 this
     have := g.old y hy; omega
    ·omega
   ·have := g.old y hy; split <;> omega
 small := by
  intro e he
  rcases mem_pt he with h | ⟨h1, h2, _⟩
  ·exact g.small e h
  ·rw [h1, h2]; exact ⟨hn, hd⟩
theorem Good.rm {es : List En} {cl : Nat} (g : Good es cl) (n : ByteArray) : Good (rm n es) cl :=
 ⟨g.keys.sublist ((rm_sub n es).map _), g.births.sublist ((rm_sub n es).map _), fun e he => g.old e ((rm_sub n es).subset he), fun e he => g.small e ((rm_sub n es).subset he)⟩
theorem len_pt {n d : ByteArray} {cl : Nat} : ∀ es : List En, (pt n d cl es).length ≤ es.length + 1
 | [] => Nat.le_refl _
 | e :: es => by
  have := len_pt (n := n) (d := d) (cl := cl) es
  simp only [pt]; split <;> simp <;> omega
structure SR (h : AHeap) (sb rb : Nat) (p : PS) : Prop where
 blk : ∃ e, h.get sb = some (.cells [.int .i64 p.quota, .int .i64 (tot p.es), .int .i64 p.fails, .bool p.down, .map (some rb), .int .i64 p.calls] e true 0)
 mp : h.get rb = some (.map (p.es.map encE) p.cl)
 lt : sb < h.next ∧ rb < h.next
def SB (sb rb : Nat) (y : Nat) : Prop := y = sb ∨ y = rb
theorem SR.ne {h : AHeap} {sb rb : Nat} {p : PS} (s : SR h sb rb p) : sb ≠ rb := by
 rintro rfl
 obtain ⟨e, hb⟩ := s.blk
 rw [s.mp] at hb; cases hb
theorem SR.keeps {h h' : AHeap} {sb rb : Nat} {p : PS} (s : SR h sb rb p) (k : Keeps h h') : SR h' sb rb p := by
 obtain ⟨e, hb⟩ := s.blk
 exact ⟨⟨e, (k.oth _ s.lt.1 fun f => f).trans hb⟩, (k.oth _ s.lt.2 fun f => f).trans s.mp, Nat.lt_of_lt_of_le s.lt.1 k.nx, Nat.lt_of_lt_of_le s.lt.2 k.nx⟩
theorem SR.chg {S : Nat → Prop} {h h' : AHeap} {sb rb : Nat} {p : PS} (s : SR h sb rb p) (k : Chg S h h') (h1 : ¬ S sb) (h2 : ¬ S rb) : SR h' sb rb p := by
 obtain ⟨e, hb⟩ := s.blk
 exact ⟨⟨e, (k.oth _ s.lt.1 h1).trans hb⟩, (k.oth _ s.lt.2 h2).trans s.mp, Nat.lt_of_lt_of_le s.lt.1 k.nx, Nat.lt_of_lt_of_le s.lt.2 k.nx⟩
theorem st1_sb {h : AHeap} {b o : Nat} {c : List Value} {e : TypeId} {v : Value} (hb : h.get b = some (.cells c e true 0)) (ho : o < c.length) (hv : one v = true) : Gx.st1 ⟨b, o, none⟩ v h = some (h.set b (.cells (c.set o v) e true 0)) := by
 simp only [Gx.st1, AHeap.wr1, hb]
 rw [if_pos ⟨ho, Nat.zero_le _, hv⟩]
theorem ldM_at {h : AHeap} {b o : Nat} {sp : Option Nat} {c : List Value} {e : TypeId} {r : Bool} {fz : Nat} {m : Option Nat} (hb : h.get b = some (.cells c e r fz)) (hc : c[o]? = some (.map m)) : ldM ⟨b, o, sp⟩ h = some m := by
 simp only [ldM, AHeap.rd1, hb, hc]; rfl
theorem ldB_at {h : AHeap} {b o : Nat} {sp : Option Nat} {c : List Value} {e : TypeId} {r : Bool} {fz : Nat} {m : Bool} (hb : h.get b = some (.cells c e r fz)) (hc : c[o]? = some (.bool m)) : ldB ⟨b, o, sp⟩ h = some m := by
 simp only [ldB, AHeap.rd1, hb, hc]; rfl
theorem look_some {h : AHeap} {rb cl : Nat} {es : List En} (hm : h.get rb = some (.map (es.map encE) cl)) {n d : ByteArray} (hl : lk n es = some d) : lookE decS (.string ⟨#[]⟩) h (some rb) (.string n) = some (d, true) := by
 obtain ⟨j, hj⟩ := fd_some (i := 0) hl
 simp only [lookE, hm, findE_fd, hj]; rfl
theorem look_none {h : AHeap} {rb cl : Nat} {es : List En} (hm : h.get rb = some (.map (es.map encE) cl)) {n : ByteArray} (hl : lk n es = none) : lookE decS (.string ⟨#[]⟩) h (some rb) (.string n) = some (⟨#[]⟩, false) := by
 simp only [lookE, hm, findE_fd, fd_no hl]; rfl
theorem upd_at {h : AHeap} {rb cl : Nat} {es : List En} (hm : h.get rb = some (.map (es.map encE) cl)) (n d : ByteArray) : updE h rb (.string n) (.string d) = some (h.set rb (.map ((pt n d cl es).map encE) (clk n es cl))) := by
 unfold clk
 cases hl : lk n es with
 | none =>
  simp only [updE, hm, findE_fd, fd_no hl, Option.map_none, Option.isSome_none]
  rw [fd_none (i := 0) (fd_no hl)]; rfl
 | some d' =>
  obtain ⟨j, hj⟩ := fd_some (i := 0) hl
  have := fd_mod (d := d) (cl := cl) hj
  simp only [Nat.sub_zero] at this
  simp only [updE, hm, findE_fd, hj, Option.map_some, Option.isSome_some]
  rw [this]; rfl
theorem del_at {h : AHeap} {rb cl : Nat} {es : List En} (hm : h.get rb = some (.map (es.map encE) cl)) (n : ByteArray) : delM h (some rb) (.string n) = some (h.set rb (.map ((rm n es).map encE) cl)) := by
 cases hl : lk n es with
 | none =>
  simp only [delM, delE, hm, findE_fd, fd_no hl, Option.map_none]
  rw [rm_none hl]
 | some d' =>
  obtain ⟨j, hj⟩ := fd_some (i := 0) hl
  have := fd_del hj
  simp only [Nat.sub_zero] at this
  simp only [delM, delE, hm, findE_fd, hj, Option.map_some]
  rw [this]
def okB (c : UInt8) : Bool := decide (32 < c.toNat) && decide (c.toNat < 127)
def mayB (n : ByteArray) : Bool := (bl n).all okB && decide (n ≠ ⟨#[]⟩) && decide (n.size ≤ 96)
def fitsC (n d : ByteArray) : Nat := if mayB n = false then 3 else if 131072 < d.size then 2 else 0
end Gt
namespace Gt
open Go Gx
theorem okB_bad {c : UInt8} (h : ((c.toNat : Int) ≤ 32)) : okB c = false := by
 unfold okB; rw [decide_eq_false (show ¬ 32 < c.toNat by omega)]; rfl
theorem okB_eq {c : UInt8} (h : ¬ ((c.toNat : Int) ≤ 32)) : decide ((c.toNat : Int) ≥ 127) = !okB c := by
 unfold okB
 rw [decide_eq_true (show 32 < c.toNat by omega), Bool.true_and]
 by_cases q : c.toNat < 127
 ·rw [decide_eq_true q, decide_eq_false (by omega)]; rfl
 ·rw [decide_eq_false q, decide_eq_true (by omega)]; rfl
theorem may_l0 (K : Nat) (D : CallF) (j3) (bot) {n : ByteArray} {b : Nat} {h0 : AHeap} (hb : h0.get b = some (.cells (bytesL n) 5 true 0)) (hs : n.size ≤ 9223372036854775807) {Q : Bool × AHeap → Prop}
  (hj : (bl n).all okB = true → Gx.Wp (j3 n h0) Q) (hf : (bl n).all okB = false → Q (false, h0)) :
  ∀ (d i : Nat), i + d = n.size → ((bl n).take i).all okB = true → Gx.Wp (iterK bot (d + 1) (store_may_l0b K D j3) n (⟨(some ⟨b, 0, some 2⟩), n.size, n.size⟩ : Slc) (n.size : Int) (i : Int) h0) Q := fun d => by
 have hl : (bl n).length = n.size := rfl
 induction d with
 | zero =>
  intro i hi ha
  rw [iterK_s]; simp only [store_may_l0b]
  obtain rfl : i = n.size := by omega
  refine Gx.Wp.ifn (by simp) (hj ?_)
  rw [← hl, List.take_length] at ha; exact ha
 | succ d ih =>
  intro i hi ha
  rw [iterK_s]; simp only [store_may_l0b]
  obtain ⟨c, hc⟩ := isome (l := bl n) (i := i) (by omega)
  refine Gx.Wp.ifp (by simp; omega) ?_
  refine Gx.Wp.bnd (idxL_out (by omega)) (Gx.Wp.bnd (sldI_at hb (x := (c.toNat : Int)) ?_) ?_)
  ·show (List.map _ n.data.toList)[i]? = _
   rw [List.getElem?_map]
   have : n.data.toList[i]? = some c := hc
   rw [this]; rfl
  have hall : ((bl n).take (i + 1)).all okB = okB c := by
   rw [List.take_add_one, hc, List.all_append, ha]; simp
  have fin : okB c = false → (bl n).all okB = false := by
   intro q
   rw [← Bool.not_eq_true]
   intro q2
   rw [List.all_eq_true] at q2
   rw [q2 c (mem_of hc)] at q; cases q
  refine Gx.Wp.jn fun j hj' => ?_
  by_cases h1 : (c.toNat : Int) ≤ 32
  ·refine Gx.Wp.ifp (by simpa using h1) ?_
   subst hj'
   exact Gx.Wp.ifp rfl (Gx.Wp.of (hf (fin (okB_bad h1))))
  ·refine Gx.Wp.ifn (by simpa using h1) ?_
   subst hj'
   rw [okB_eq h1]
   cases hk : okB c with
   | false => exact Gx.Wp.ifp rfl (Gx.Wp.of (hf (fin hk)))
   | true =>
    refine Gx.Wp.ifn (by decide) ?_
    rw [Gx.w1 (by omega)]
    exact ih (i + 1) (by omega) (by rw [hall]; exact hk)
theorem may_spec {k : Nat} (D : CallF) {h : AHeap} (n : ByteArray) (hk : n.size < k) (hs : n.size ≤ 9223372036854775807) :
  Gx.Wp (store_may k D n h) fun q => q.1 = mayB n ∧ Keeps h q.2 := by
 simp only [store_may]
 refine Gx.Wp.jn fun j hj => ?_
 have k1 : Keeps h (h.new (.cells (bytesL n) 5 true 0)) := Keeps.new h _
 unfold store_may_l0
 obtain ⟨bot, eb⟩ := iterK_of (fun _ _ _ _ _ => none) (store_may_l0b k D j) (show n.size + 1 ≤ k by omega)
 rw [eb]
 refine may_l0 k D j bot (h0 := h.new (.cells (bytesL n) 5 true 0)) (b := h.next) (by simp) hs (fun ha => ?_) (fun ha => ⟨by simp only [mayB, ha]; rfl, k1⟩) n.size 0 (by omega) rfl
 subst hj
 by_cases he : n = ⟨#[]⟩
 ·have : (!(n == (⟨#[]⟩ : ByteArray))) = false := by rw [ba_beq, decide_eq_true he]; rfl
  exact Gx.Wp.ifn (by rw [this]; decide) (Gx.Wp.of ⟨by simp [mayB, he], k1⟩)
 ·have : (!(n == (⟨#[]⟩ : ByteArray))) = true := by rw [ba_beq, decide_eq_false he]; rfl
  refine Gx.Wp.ifp this (Gx.Wp.of ⟨?_, k1⟩)
  simp only [mayB, ha, Bool.true_and, decide_eq_true (show n ≠ ⟨#[]⟩ from he)]
  by_cases q : n.size ≤ 96
  ·rw [decide_eq_true q, decide_eq_true (by omega)]
  ·rw [decide_eq_false q, decide_eq_false (by omega)]
theorem fits_spec {k : Nat} (D : CallF) {h : AHeap} (n d : ByteArray) (hk : n.size < k) (hs : n.size ≤ 9223372036854775807) :
  Gx.Wp (store_fits k D n d h) fun q => q.1 = (fitsC n d : Int) ∧ Keeps h q.2 := by
 simp only [store_fits]
 refine Gx.Wp.call (may_spec D n hk hs) fun r hr => ?_
 rw [hr.1]
 unfold fitsC
 cases hm : mayB n with
 | false => exact Gx.Wp.ifp rfl (Gx.Wp.of ⟨rfl, hr.2⟩)
 | true =>
  refine Gx.Wp.ifn (by decide) ?_
  by_cases q : 131072 < d.size
  ·exact Gx.Wp.ifp (by simp; omega) (Gx.Wp.of ⟨by simp [q], hr.2⟩)
  ·exact Gx.Wp.ifn (by simp; omega) (Gx.Wp.of ⟨by simp [q], hr.2⟩)
theorem fits0 {n d : ByteArray} (h : fitsC n d = 0) : n.size ≤ 96 ∧ d.size ≤ 131072 ∧ mayB n = true := by
 unfold fitsC at h
 split at h
 ·cases h
 ·rename_i hm
  split at h
  ·cases h
  ·rename_i hd
   have : mayB n = true := by simpa using hm
   simp only [mayB, Bool.and_eq_true, decide_eq_true_eq] at this
   exact ⟨this.2, by omega, by simpa using hm⟩
theorem room_spec {k : Nat} (D : CallF) {h : AHeap} {sb rb : Nat} {p : PS} (s : SR h sb rb p) (g : Good p.es p.cl) (n : ByteArray) :
  store_Store_room k D (some ⟨sb, 0, none⟩) n h = some ((room n p.es : Int), h) := by
 obtain ⟨e, hb⟩ := s.blk
 simp only [store_Store_room]
 refine bnd rfl (bnd (ldM_at (m := some rb) hb rfl) ?_)
 unfold room
 cases hl : lk n p.es with
 | none => rw [look_none s.mp hl]; rfl
 | some d =>
  rw [look_some s.mp hl]
  obtain ⟨q, hq, he, hd⟩ : ∃ q ∈ p.es, q.1 = n ∧ q.2.1 = d := by
   have : ∀ es : List En, lk n es = some d → ∃ q ∈ es, q.1 = n ∧ q.2.1 = d := by
    intro es
    induction es with
    | nil => intro h; cases h
    | cons x es ih =>
     intro h
     simp only [lk] at h
     split at h
     ·rename_i q; cases h; exact ⟨x, by simp, q, rfl⟩
     ·obtain ⟨y, hy, e⟩ := ih h; exact ⟨y, by simp [hy], e⟩
   exact this _ hl
  have sm := g.small q hq
  rw [he, hd] at sm
  simp only [Option.bind_some, if_true]
  rw [w64 _ (by omega)]; simp
def PS.lay (p : PS) (n d : ByteArray) : PS := { p with es := pt n d p.cl p.es, cl := clk n p.es p.cl }
theorem lay_spec {k : Nat} (D : CallF) {h : AHeap} {sb rb : Nat} {p : PS} (s : SR h sb rb p) (g : Good p.es p.cl) {n d : ByteArray} (hn : n.size ≤ 96) (hd : d.size ≤ 131072) (hl : p.es.length ≤ 1048576) :
  Gx.Wp (store_Store_lay k D (some ⟨sb, 0, none⟩) n d h) fun q => Chg (SB sb rb) h q.2 ∧ SR q.2 sb rb (p.lay n d) ∧ Good (p.lay n d).es (p.lay n d).cl := by
 simp only [store_Store_lay]
 refine Gx.Wp.bnd (room_spec D s g n) ?_
 obtain ⟨e, hb⟩ := s.blk
 have t1 := tot_le g
 have t2 := room_le (n := n) p.es
 have t3 := tot_pt (n := n) (d := d) (cl := p.cl) p.es
 refine Gx.Wp.bnd rfl (Gx.Wp.bnd (sldI_at hb rfl) (Gx.Wp.gp (ssw1 ?_) ?_))
 ·exact bnd (sldI_at hb rfl) rfl
 refine Gx.Wp.bnd rfl ?_
 dsimp only
 rw [w64 ((n.size : Int) + d.size) (by omega), w64 ((n.size : Int) + d.size - _) (by omega), w64 _ (by omega)]
 refine Gx.Wp.bnd (st1_sb hb (by show 0 + 1 < 6; omega) rfl) ?_
 have hne := s.ne
 have hm1 : (h.set sb (.cells ([Value.int .i64 p.quota, .int .i64 (tot p.es), .int .i64 p.fails, .bool p.down, .map (some rb), .int .i64 p.calls].set 1 (.int .i64 ((tot p.es : Int) + ((n.size : Int) + (d.size : Int) - (room n p.es : Int))))) e true 0)).get rb = some (.map (p.es.map encE) p.cl) := by
  simp only [AHeap.get_set]; rw [if_neg (fun q => hne q.symm)]; exact s.mp
 refine Gx.Wp.bnd rfl (Gx.Wp.bnd (ldM_at (m := some rb) (sset_get h sb _) rfl) (Gx.Wp.bnd rfl (Gx.Wp.bnd (upd_at hm1 n d) (Gx.Wp.of ⟨?_, ?_, g.pt hn hd⟩))))
 ·exact (Chg.set (.inr (.inl rfl))).trans (Chg.set (.inr (.inr rfl)))
 ·refine ⟨⟨e, ?_⟩, by simp only [AHeap.get_set, if_true]; rfl, by simpa using s.lt⟩
  simp only [AHeap.get_set]
  rw [if_neg hne, if_true]
  have : (tot p.es : Int) + ((n.size : Int) + (d.size : Int) - (room n p.es : Int)) = (tot (pt n d p.cl p.es) : Int) := by omega
  rw [this]; rfl
end Gt
namespace Gt
open Go Gx
def ba (l : List UInt8) : ByteArray := ⟨⟨l⟩⟩
def nm (es : List En) : List ByteArray := (((es.map (·.1)).map bl).mergeSort leB).map ba
theorem srt_nm (es : List En) : srt (es.map (·.1)) = (nm es).map encS := by
 simp only [srt, nm, List.map_map]; rfl
theorem nm_len (es : List En) : (nm es).length = es.length := by simp [nm]
theorem nm_mem {es : List En} {n : ByteArray} : n ∈ nm es ↔ n ∈ es.map (·.1) := by
 simp only [nm, List.mem_map, List.mem_mergeSort]
 constructor
 ·rintro ⟨l, ⟨m, hm, rfl⟩, rfl⟩; exact hm
 ·intro h; exact ⟨bl n, ⟨n, h, rfl⟩, rfl⟩
theorem unstrs_enc (es : List En) : keysL (es.map encE) = some (es.map (·.1)) := by
 have : (es.map encE).map (·.1) = (es.map (·.1)).map Value.string := by simp [encE]
 simp only [keysL, this, unstrs_map]
theorem sizes_of : ∀ {l : List ByteArray}, (∀ s ∈ l, s.size ≤ 9223372036854775807) → sizesOk l = true
 | [], _ => rfl
 | s :: l, h => by
  have h2 : sizesOk l = true := sizes_of fun x hx => h x (List.mem_cons_of_mem _ hx)
  simp only [sizesOk, decide_eq_true (h s (by simp)), h2]; rfl
theorem mapGood_of {es : List En} {cl : Nat} (g : Good es cl) (hl : es.length ≤ 8796093022208) : mapGood (es.map encE) cl (es.map (·.1)) = true := by
 have e1 : (es.map encE).map (·.2.2) = es.map (·.2.2) := by simp [encE]
 simp only [mapGood, e1, Bool.and_eq_true, decide_eq_true_eq, List.all_eq_true]
 refine ⟨⟨⟨⟨sizes_of fun s hs => ?_, g.keys⟩, g.births⟩, fun x hx => ?_⟩, by simp; omega⟩
 ·obtain ⟨e, he, rfl⟩ := List.mem_map.1 hs
  have := (g.small e he).1; omega
 ·obtain ⟨e, he, rfl⟩ := List.mem_map.1 hx
  exact g.old e he
theorem sorted_at {h : AHeap} {bx rb cl : Nat} {es : List En} {t : TypeId} (hb : h.get bx = some (.cells [.map (some rb)] t true 0)) (hm : h.get rb = some (.map (es.map encE) cl)) (g : Good es cl) (hl : es.length ≤ 8796093022208) :
  ∃ s h', sortedA 87 9 [.func (.func 87) ⟨[]⟩ ⟨[.pointer (some ⟨bx, 0, none⟩)]⟩] h = some (s, h') ∧ Keeps h h' ∧ Acc encS 9 h.next h' s (nm es) := by
 have hbm : boxMap h bx = some (some rb) := by simp only [boxMap, hb]
 cases es with
 | nil =>
  have hn0 : nm [] = [] := List.eq_nil_of_length_eq_zero (nm_len [])
  refine ⟨⟨none, 0, 0⟩, h, ?_, Chg.refl _ _, by rw [hn0]; exact Acc.nil _ _ _ _⟩
  have hg := mapGood_of g hl
  simp only [sortedA, hbm, hm, unstrs_enc, hg]; rfl
 | cons e es =>
  have hg := mapGood_of g hl
  have hne : nm (e :: es) ≠ [] := fun q => by have := nm_len (e :: es); rw [q] at this; simp at this
  refine ⟨⟨some ⟨h.next, 0, some 2⟩, (nm (e :: es)).length, (nm (e :: es)).length⟩, h.new (outB encS 9 (nm (e :: es))), ?_, Keeps.new h _, ⟨.inr ⟨h.next, Grown.of hne⟩, fun a ha => by cases ha; simp⟩⟩
  have hs := srt_nm (e :: es)
  simp only [sortedA, hbm, hm, unstrs_enc, hg]
  simp only [List.map_cons] at hs ⊢
  simp only [cond_true, decide_true, Bool.and_self, hs, nm_len, List.length_cons, List.length_map, outB]
theorem Names_spec {k : Nat} (D : CallF) {h : AHeap} {sb rb : Nat} {p : PS} (s : SR h sb rb p) (g : Good p.es p.cl) (hl : p.es.length ≤ 8796093022208) :
  Gx.Wp (store_Store_Names k D (some ⟨sb, 0, none⟩) h) fun q => Keeps h q.2 ∧ Acc encS 9 h.next q.2 q.1 (nm p.es) := by
 obtain ⟨e, hb⟩ := s.blk
 simp only [store_Store_Names, maps_Keys_map_string_string_string_string]
 have k1 : Keeps h (h.new (.cells [.map (some rb)] 76 true 0)) := Keeps.new h _
 obtain ⟨sl, h', e1, k2, A⟩ := sorted_at (bx := h.next) (t := 76) (h := h.new (.cells [.map (some rb)] 76 true 0)) (by simp) (s.keeps k1).mp g hl
 refine Gx.Wp.bnd rfl (Gx.Wp.bnd (ldM_at (m := some rb) hb rfl) (Gx.Wp.bnd rfl (Gx.Wp.bnd e1 (Gx.Wp.of ⟨k1.trans k2, A.st, fun a ha => ⟨(A.lt a ha).1, ?_⟩⟩))))
 have := (A.lt a ha).2
 simp at this; omega
def starts (b n : ByteArray) : Bool := decide ((bl n).take b.size = bl b)
theorem starts_short {b n : ByteArray} (h : n.size < b.size) : starts b n = false := by
 apply decide_eq_false
 intro q
 have := congrArg List.length q
 have h1 : (bl n).length = n.size := rfl
 have h2 : (bl b).length = b.size := rfl
 simp at this; omega
theorem starts_sub {b n : ByteArray} (h : b.size ≤ n.size) : ∃ s, Gx.subS n none (some (b.size : Int)) = some s ∧ (s == b) = starts b n := by
 refine ⟨_, subS_of (i := 0) (j := b.size) rfl rfl (Nat.zero_le _) h, ?_⟩
 rw [ba_beq]
 unfold starts
 have : ((⟨⟨((bl n).take b.size).drop 0⟩⟩ : ByteArray) = b) ↔ (bl n).take b.size = bl b := by
  rw [List.drop_zero]
  exact ⟨fun q => congrArg bl q, fun q => by rw [q]; rfl⟩
 by_cases q : (bl n).take b.size = bl b
 ·rw [decide_eq_true q, decide_eq_true (this.2 q)]
 ·rw [decide_eq_false q, decide_eq_false fun e => q (this.1 e)]
theorem hasPrefix_spec {k : Nat} (D : CallF) (n b : ByteArray) (h : AHeap) : strings_HasPrefix k D n b h = some (starts b n, h) := by
 simp only [strings_HasPrefix, internal_stringslite_HasPrefix]
 by_cases q : b.size ≤ n.size
 ·obtain ⟨s, e1, e2⟩ := starts_sub q
  rw [if_pos (by simp; omega), e1]
  simp [e2]
 ·rw [if_neg (by simp; omega), starts_short (by omega)]; rfl
theorem encS_one (x : ByteArray) : one (encS x) = true := rfl
theorem list_l0 (K : Nat) (D : CallF) (bot) {b : ByteArray} {h0 h1 : AHeap} (_k0 : Keeps h0 h1) {sl : Slc} {ns : List ByteArray} (A0 : Acc encS 9 h0.next h1 sl ns) (hn : ns.length ≤ 1048576) :
  ∀ (d i : Nat) (o : Slc) (out : List ByteArray) (h : AHeap), i + d = ns.length → out.length ≤ i → Keeps h1 h → Acc encS 9 h1.next h o out →
   Gx.Wp (iterK bot (d + 1) (store_Store_list_l0b K D fun (out1 : Slc) (h2 : AHeap) => some (out1, h2)) b o sl (sl.len : Int) (i : Int) h) fun q => Keeps h1 q.2 ∧ Acc encS 9 h1.next q.2 q.1 (out ++ (ns.drop i).filter (starts b)) := fun d => by
 have len : sl.len = ns.length := A0.row.1
 induction d with
 | zero =>
  intro i o out h hi ho kp A
  rw [iterK_s]; simp only [store_Store_list_l0b]
  obtain rfl : i = ns.length := by omega
  refine Gx.Wp.ifn (by rw [len]; simp) (Gx.Wp.of ⟨kp, ?_⟩)
  simpa using A
 | succ d ih =>
  intro i o out h hi ho kp A
  rw [iterK_s]; simp only [store_Store_list_l0b]
  refine Gx.Wp.ifp (by rw [len]; simp; omega) ?_
  refine Gx.Wp.jn fun j hj => ?_
  obtain ⟨x, hx⟩ := isome (l := ns) (i := i) (by omega)
  obtain ⟨q, q1, q2⟩ := (A0.row.keeps kp).ldS hx
  refine Gx.Wp.bnd q1 (Gx.Wp.bnd q2 (Gx.Wp.bnd (hasPrefix_spec D x b h) ?_))
  rw [dropc hx]
  cases hst : starts b x with
  | true =>
   refine Gx.Wp.ifp rfl ?_
   refine Gx.Wp.bnd rdS_one ?_
   obtain ⟨s', h', a1, A2, c2, _⟩ := A.push encS_one x (bytes := 16) (by omega) (by decide) kp.nx
   refine Gx.Wp.bnd a1 ?_
   subst hj
   simp only
   rw [Gx.w1 (by omega), List.filter_cons_of_pos hst, show out ++ x :: (ns.drop (i + 1)).filter (starts b) = (out ++ [x]) ++ (ns.drop (i + 1)).filter (starts b) by simp]
   exact ih (i + 1) s' (out ++ [x]) h' (by omega) (by simp; omega) (Chg.beh kp c2 fun y hy ⟨a, ha, e⟩ => by have := (A.lt a ha).2; omega) A2
  | false =>
   refine Gx.Wp.ifn (fun q => by cases q) ?_
   subst hj
   simp only
   rw [Gx.w1 (by omega), List.filter_cons_of_neg (by rw [hst]; decide)]
   exact ih (i + 1) o out h (by omega) (by omega) kp A
theorem list_spec {k : Nat} (D : CallF) {h : AHeap} {sb rb : Nat} {p : PS} (s : SR h sb rb p) (g : Good p.es p.cl) (b : ByteArray) (hl : p.es.length ≤ 1048576) (hk : p.es.length < k) :
  Gx.Wp (store_Store_list k D (some ⟨sb, 0, none⟩) b h) fun q => Keeps h q.2 ∧ Acc encS 9 h.next q.2 q.1 ((nm p.es).filter (starts b)) := by
 simp only [store_Store_list]
 refine Gx.Wp.jn fun j hj => ?_
 refine Gx.Wp.call (Names_spec D s g (by omega)) fun r hr => ?_
 obtain ⟨k1, A⟩ := hr
 unfold store_Store_list_l0
 obtain ⟨bot, eb⟩ := iterK_of (fun _ _ _ _ _ _ => none) (store_Store_list_l0b k D j) (show (nm p.es).length + 1 ≤ k by rw [nm_len]; omega)
 rw [eb]
 subst hj
 refine Gx.Wp.mono (list_l0 k D bot k1 A (by rw [nm_len]; exact hl) _ 0 _ [] r.2 (by omega) (by simp) (Chg.refl _ _) (Acc.nil _ _ _ _)) fun q hq => ?_
 obtain ⟨k2, A2⟩ := hq
 refine ⟨k1.trans k2, by simpa using A2.st, fun a ha => ⟨(A2.lt a ha).1, ?_⟩⟩
 have := (A2.lt a ha).2
 have := k1.nx; omega
end Gt
namespace Gt
open Go Gx
def nob : ByteArray := ⟨#[]⟩
def PS.putS (p : PS) (n d : ByteArray) : PS × Nat :=
 if fitsC n d ≠ 0 then (p, fitsC n d) else if p.quota + room n p.es < tot p.es + (n.size + d.size) then (p, 71) else (p.lay n d, 0)
def PS.delS (p : PS) (n : ByteArray) : PS × Nat := if (lk n p.es).isSome then ({ p with es := rm n p.es }, 0) else (p, 5)
def PS.up (p : PS) : PS := { p with calls := p.calls + 1 }
def PS.doS (p : PS) (kind : Int) (n d : ByteArray) : PS × Nat × ByteArray × List ByteArray :=
 if p.down = true then (p.up, 70, nob, [])
 else if 0 < p.fails then ({ p.up with fails := p.fails - 1 }, 72, nob, [])
 else if kind = 1 then ((p.up.putS n d).1, (p.up.putS n d).2, nob, [])
 else if kind = 2 then (if (lk n p.es).isSome then (p.up, 0, (lk n p.es).getD nob, []) else (p.up, 5, nob, []))
 else if kind = 3 then (p.up, 0, nob, (nm p.es).filter (starts n))
 else if kind = 4 then ((p.up.delS n).1, (p.up.delS n).2, nob, [])
 else (p.up, 3, nob, [])
theorem put_spec {k : Nat} (D : CallF) {h : AHeap} {sb rb : Nat} {p : PS} (s : SR h sb rb p) (g : Good p.es p.cl) (n d : ByteArray) (hl : p.es.length ≤ 1048576) (_hq : p.quota ≤ 1073741824) (hk : n.size < k) (hs : n.size ≤ 9223372036854775807) :
  Gx.Wp (store_Store_put k D (some ⟨sb, 0, none⟩) n d h) fun q => q.1 = ((p.putS n d).2 : Int) ∧ Chg (SB sb rb) h q.2 ∧ SR q.2 sb rb (p.putS n d).1 ∧ Good (p.putS n d).1.es (p.putS n d).1.cl := by
 simp only [store_Store_put]
 refine Gx.Wp.call (fits_spec D n d hk hs) fun r hr => ?_
 obtain ⟨r1, k1⟩ := hr
 rw [r1]
 by_cases q : fitsC n d = 0
 ·have eP : p.putS n d = if p.quota + room n p.es < tot p.es + (n.size + d.size) then (p, 71) else (p.lay n d, 0) := if_neg fun z => z q
  rw [eP, q]
  refine Gx.Wp.ifn (by decide) ?_
  have s1 := s.keeps k1
  obtain ⟨f1, f2, _⟩ := fits0 q
  refine Gx.Wp.bnd (room_spec D s1 g n) ?_
  obtain ⟨e, hb⟩ := s1.blk
  have t1 := tot_le g
  have t2 := room_le (n := n) p.es
  refine Gx.Wp.bnd rfl (Gx.Wp.bnd (sldI_at hb rfl) (Gx.Wp.gp (ssw1 (bnd (sldI_at hb rfl) rfl)) ?_))
  refine Gx.Wp.bnd rfl (Gx.Wp.bnd (sldI_at hb rfl) (Gx.Wp.gp (ssw1 (bnd (sldI_at hb rfl) rfl)) ?_))
  dsimp only
  rw [w64 ((tot p.es : Int) - room n p.es) (by omega), w64 ((tot p.es : Int) - room n p.es + n.size) (by omega), w64 _ (by omega)]
  by_cases c : p.quota + room n p.es < tot p.es + (n.size + d.size)
  ·refine Gx.Wp.ifp (by simp; omega) ?_
   rw [if_pos c]
   exact Gx.Wp.of ⟨rfl, Chg.keeps k1, s1, g⟩
  ·refine Gx.Wp.ifn (by simp; omega) ?_
   rw [if_neg c]
   refine Gx.Wp.call (lay_spec D s1 g f1 f2 hl) fun r2 h2 => Gx.Wp.of ⟨rfl, (Chg.keeps k1).trans h2.1, h2.2.1, h2.2.2⟩
 ·have eP : p.putS n d = (p, fitsC n d) := if_pos q
  rw [eP]
  exact Gx.Wp.ifp (by simp; omega) (Gx.Wp.of ⟨rfl, Chg.keeps k1, s.keeps k1, g⟩)
theorem del_spec {k : Nat} (D : CallF) {h : AHeap} {sb rb : Nat} {p : PS} (s : SR h sb rb p) (g : Good p.es p.cl) (n : ByteArray) (hl : p.es.length ≤ 1048576) :
  Gx.Wp (store_Store_del k D (some ⟨sb, 0, none⟩) n h) fun q => q.1 = ((p.delS n).2 : Int) ∧ Chg (SB sb rb) h q.2 ∧ SR q.2 sb rb (p.delS n).1 ∧ Good (p.delS n).1.es (p.delS n).1.cl := by
 obtain ⟨e, hb⟩ := s.blk
 simp only [store_Store_del]
 refine Gx.Wp.bnd rfl (Gx.Wp.bnd (ldM_at (m := some rb) hb rfl) ?_)
 unfold PS.delS
 have t1 := tot_le g
 have t2 := tot_rm (n := n) p.es
 cases hl2 : lk n p.es with
 | none =>
  refine Gx.Wp.bnd (look_none s.mp hl2) (Gx.Wp.ifp rfl (Gx.Wp.of ⟨rfl, Chg.refl _ _, s, g⟩))
 | some x =>
  refine Gx.Wp.bnd (look_some s.mp hl2) (Gx.Wp.ifn (fun q => by cases q) ?_)
  refine Gx.Wp.bnd (room_spec D s g n) (Gx.Wp.bnd rfl (Gx.Wp.bnd (sldI_at hb rfl) (Gx.Wp.gp (ssw1 (bnd (sldI_at hb rfl) rfl)) ?_)))
  dsimp only
  rw [w64 _ (by omega)]
  have hne := s.ne
  refine Gx.Wp.bnd rfl (Gx.Wp.bnd (st1_sb hb (by show 0 + 1 < 6; omega) rfl) (Gx.Wp.bnd rfl (Gx.Wp.bnd (ldM_at (m := some rb) (sset_get h sb _) rfl) ?_)))
  refine Gx.Wp.bnd (del_at (es := p.es) (cl := p.cl) (by simp only [AHeap.get_set]; rw [if_neg (fun q => hne q.symm)]; exact s.mp) n) (Gx.Wp.of ⟨rfl, (Chg.set (.inr (.inl rfl))).trans (Chg.set (.inr (.inr rfl))), ⟨⟨e, ?_⟩, by simp only [AHeap.get_set, if_true]; rfl, by simpa using s.lt⟩, g.rm n⟩)
  simp only [AHeap.get_set]
  rw [if_neg hne, if_true]
  have : (tot p.es : Int) - (room n p.es : Int) = (tot (rm n p.es) : Int) := by omega
  rw [this]; rfl
theorem fin3 {H : AHeap} {b : Nat} {c : List Value} {e : TypeId} (hb : H.get b = some (.cells c e true 0)) (hc : c.length = 3) (cd : Int) (dt : ByteArray) (s : Slc) {Q : ((Int × ByteArray × Slc) × AHeap) → Prop}
  (hQ : Q ((cd, dt, s), H.set b (.cells [.int .i64 cd, .string dt, .slice s.a s.len s.cap] e true 0))) :
  Gx.Wp ((Gx.stL 3 (⟨b, 0, none⟩ : Addr) ([.int .i64 cd, .string dt, .slice s.a s.len s.cap]) H).bind fun h7 => (Gx.ldA 3 (⟨b, 0, none⟩ : Addr) h7).bind fun l8 => (decC [.i .i64, .s, .l] l8).bind fun x9 => some ((x9.1, x9.2.1, x9.2.2), h7)) Q := by
 refine Gx.Wp.bnd (sstL_at hb hc rfl rfl (by decide)) ?_
 refine Gx.Wp.bnd (sldA_at (sset_get H b _) rfl) ?_
 exact Gx.Wp.bnd rfl (Gx.Wp.of hQ)
end Gt
namespace Gt
open Go Gx
theorem SR.other {h : AHeap} {sb rb b : Nat} {B : ABlk} {p : PS} (s : SR h sb rb p) (h1 : b ≠ sb) (h2 : b ≠ rb) : SR (h.set b B) sb rb p := by
 obtain ⟨e, hb⟩ := s.blk
 exact ⟨⟨e, by simp only [AHeap.get_set]; rw [if_neg (fun q => h1 q.symm)]; exact hb⟩, by simp only [AHeap.get_set]; rw [if_neg (fun q => h2 q.symm)]; exact s.mp, s.lt⟩
theorem ldS_at {h : AHeap} {b o : Nat} {sp : Option Nat} {c : List Value} {e : TypeId} {r : Bool} {fz : Nat} {m : ByteArray} (hb : h.get b = some (.cells c e r fz)) (hc : c[o]? = some (.string m)) : Gx.ldS ⟨b, o, sp⟩ h = some m := by
 simp only [Gx.ldS, AHeap.rd1, hb, hc]; rfl
def DoQ (h : AHeap) (sb rb : Nat) (p : PS) (kind : Int) (n d : ByteArray) (q : (Int × ByteArray × Slc) × AHeap) : Prop :=
 q.1.1 = ((p.doS kind n d).2.1 : Int) ∧ q.1.2.1 = (p.doS kind n d).2.2.1 ∧ Acc encS 9 h.next q.2 q.1.2.2 (p.doS kind n d).2.2.2 ∧ Chg (SB sb rb) h q.2 ∧ SR q.2 sb rb (p.doS kind n d).1 ∧ Good (p.doS kind n d).1.es (p.doS kind n d).1.cl
theorem acc0 {h h' : AHeap} : Acc encS 9 h.next h' ⟨none, 0, 0⟩ [] := Acc.nil _ _ _ _
theorem Do_spec {k : Nat} (D : CallF) {h : AHeap} {sb rb : Nat} {p : PS} (s : SR h sb rb p) (g : Good p.es p.cl) (st kind : Int) (n d : ByteArray) (hl : p.es.length ≤ 1048576) (hq : p.quota ≤ 1073741824) (hc : p.calls ≤ 1099511627776) (hf : p.fails ≤ 1048576)
  (hk : kind = 1 → n.size < k) (hs : kind = 1 → n.size ≤ 9223372036854775807) (hk2 : p.es.length < k) :
  Gx.Wp (store_Store_Do k D (some ⟨sb, 0, none⟩) (st, kind, n, d) h) (DoQ h sb rb p kind n d) := by
 simp only [store_Store_Do, sync_atomic_Int64_Add]
 obtain ⟨H1, e1⟩ : ∃ H1, H1 = h.new (.cells [.int .i64 st, .int .i64 kind, .string n, .string d] 51 true 0) := ⟨_, rfl⟩
 rw [← e1]
 obtain ⟨H2, e2⟩ : ∃ H2, H2 = H1.new (.cells [.int .i64 0, .string ⟨#[]⟩, .slice none 0 0] 59 true 0) := ⟨_, rfl⟩
 rw [← e2]
 have k1 : Keeps h H1 := e1 ▸ Keeps.new h _
 have k2 : Keeps h H2 := k1.trans (e2 ▸ Keeps.new H1 _)
 have n1 : H1.next = h.next + 1 := by rw [e1]; rfl
 have n2 : H2.next = h.next + 2 := by rw [e2]; simp [n1]
 have rq : H2.get h.next = some (.cells [.int .i64 st, .int .i64 kind, .string n, .string d] 51 true 0) := by
  rw [e2]; simp only [AHeap.get_new]; rw [if_neg (by omega), e1]; simp
 have rs : H2.get H1.next = some (.cells [.int .i64 0, .string ⟨#[]⟩, .slice none 0 0] 59 true 0) := by rw [e2]; simp
 have s2 := s.keeps k2
 obtain ⟨lt1, lt2⟩ := s.lt
 obtain ⟨e, hb⟩ := s2.blk
 refine Gx.Wp.bnd rfl ?_
 have add : ((some (⟨sb, 0 + 5, none⟩ : Addr)).bind fun p1 => (ldI .i64 (⟨p1.block, p1.off + 0, none⟩ : Addr) H2).bind fun x2 => (Gx.st1 (⟨p1.block, p1.off + 0, none⟩ : Addr) (.int .i64 (IntKind.wrap .i64 (x2 + 1))) H2).bind fun h3 => some ((IntKind.wrap .i64 (x2 + 1)), h3)) =
   some (((p.calls + 1 : Nat) : Int), H2.set sb (.cells [.int .i64 p.quota, .int .i64 (tot p.es), .int .i64 p.fails, .bool p.down, .map (some rb), .int .i64 ((p.calls + 1 : Nat) : Int)] e true 0)) := by
  refine bnd rfl (bnd (sldI_at hb rfl) ?_)
  rw [w64 _ (by omega)]
  exact bnd (st1_sb hb (by show 5 < 6; omega) rfl) rfl
 refine Gx.Wp.bnd add ?_
 obtain ⟨H, eH⟩ : ∃ H, H = H2.set sb (.cells [.int .i64 p.quota, .int .i64 (tot p.es), .int .i64 p.fails, .bool p.down, .map (some rb), .int .i64 ((p.calls + 1 : Nat) : Int)] e true 0) := ⟨_, rfl⟩
 dsimp only
 rw [← eH]
 have cH : Chg (SB sb rb) h H := (Chg.keeps k2).trans (eH ▸ Chg.set (.inr (.inl rfl)))
 have nH : H.next = h.next + 2 := by rw [eH]; exact n2
 have hbH : H.get sb = some (.cells [.int .i64 p.quota, .int .i64 (tot p.es), .int .i64 p.fails, .bool p.down, .map (some rb), .int .i64 ((p.calls + 1 : Nat) : Int)] e true 0) := by rw [eH]; simp
 have oth : ∀ y, y ≠ sb → H.get y = H2.get y := fun y hy => by rw [eH]; simp [hy]
 have sH : SR H sb rb p.up := ⟨⟨e, hbH⟩, by rw [oth _ (fun q => s.ne q.symm)]; exact s2.mp, by omega⟩
 have rqH : H.get h.next = some (.cells [.int .i64 st, .int .i64 kind, .string n, .string d] 51 true 0) := by rw [oth _ (by omega)]; exact rq
 have rsH : H.get H1.next = some (.cells [.int .i64 0, .string ⟨#[]⟩, .slice none 0 0] 59 true 0) := by rw [oth _ (by omega)]; exact rs
 have ne1 : H1.next ≠ sb := by omega
 have ne2 : H1.next ≠ rb := by omega
 have fin : ∀ (K : AHeap) (p' : PS) (cd : Nat) (dt : ByteArray) (sl : Slc) (l : List ByteArray), Chg (SB sb rb) H K → SR K sb rb p' → Good p'.es p'.cl → Acc encS 9 H.next K sl l → p.doS kind n d = (p', cd, dt, l) →
   Gx.Wp ((Gx.stL 3 (⟨H1.next, 0, none⟩ : Addr) ([.int .i64 (cd : Int), .string dt, .slice sl.a sl.len sl.cap]) K).bind fun h7 => (Gx.ldA 3 (⟨H1.next, 0, none⟩ : Addr) h7).bind fun l8 => (decC [.i .i64, .s, .l] l8).bind fun x9 => some ((x9.1, x9.2.1, x9.2.2), h7)) (DoQ h sb rb p kind n d) := by
  intro K p' cd dt sl l cK sK gK AK eq
  have rsK : K.get H1.next = some (.cells [.int .i64 0, .string ⟨#[]⟩, .slice none 0 0] 59 true 0) := by
   rw [cK.oth _ (by omega) (by rintro (q | q) <;> omega)]; exact rsH
  refine fin3 rsK rfl _ _ _ ?_
  unfold DoQ
  rw [eq]
  refine ⟨rfl, rfl, ⟨?_, fun a ha => ⟨(AK.lt a ha).1, by have := (AK.lt a ha).2; omega⟩⟩, Chg.beh (T := fun y => y = H1.next) (cH.trans cK) (Chg.set (.inr rfl)) (fun x hx q => by omega), sK.other ne1 ne2, gK⟩
  exact (AK.chg (S := fun y => y = H1.next) (Chg.set (.inr rfl)) fun a ha q => by have := (AK.lt a ha).2; omega).st
 have ans : ∀ (p' : PS) (cd : Nat) (dt : ByteArray), SR H sb rb p' → Good p'.es p'.cl → p.doS kind n d = (p', cd, dt, []) →
   Gx.Wp ((Gx.stL 3 (⟨H1.next, 0, none⟩ : Addr) ([.int .i64 (cd : Int), .string dt, .slice none 0 0]) H).bind fun h7 => (Gx.ldA 3 (⟨H1.next, 0, none⟩ : Addr) h7).bind fun l8 => (decC [.i .i64, .s, .l] l8).bind fun x9 => some ((x9.1, x9.2.1, x9.2.2), h7)) (DoQ h sb rb p kind n d) :=
  fun p' cd dt s' g' eq => fin H p' cd dt ⟨none, 0, 0⟩ [] (Chg.refl _ _) s' g' acc0 eq
 refine Gx.Wp.bnd rfl (Gx.Wp.bnd (ldB_at hbH rfl) ?_)
 by_cases c1 : p.down = true
 ·refine Gx.Wp.ifp c1 (ans p.up 70 nob sH g ?_)
  unfold PS.doS; rw [if_pos c1]
 refine Gx.Wp.ifn c1 (Gx.Wp.bnd rfl (Gx.Wp.bnd (sldI_at hbH rfl) ?_))
 by_cases c2 : 0 < p.fails
 ·refine Gx.Wp.ifp (by simp; omega) ?_
  refine Gx.Wp.bnd rfl (Gx.Wp.bnd (sldI_at hbH rfl) (Gx.Wp.bnd rfl ?_))
  rw [w64 _ (by omega)]
  refine Gx.Wp.bnd (st1_sb hbH (by show 0 + 2 < 6; omega) rfl) ?_
  refine fin _ { p.up with fails := p.fails - 1 } 72 nob ⟨none, 0, 0⟩ [] (Chg.set (.inr (.inl rfl))) ⟨⟨e, ?_⟩, ?_, sH.lt⟩ g acc0 ?_
  ·rw [sset_get]
   have : ((p.fails : Int) - 1) = ((p.fails - 1 : Nat) : Int) := by omega
   rw [this]; rfl
  ·simp only [AHeap.get_set]; rw [if_neg (fun q => s.ne q.symm)]; exact sH.mp
  ·unfold PS.doS; rw [if_neg c1, if_pos c2]
 refine Gx.Wp.ifn (by simp; omega) ?_
 refine Gx.Wp.bnd (sldI_at rqH rfl) ?_
 by_cases c3 : kind = 1
 ·refine Gx.Wp.ifp (by simpa using c3) ?_
  refine Gx.Wp.bnd (ldS_at rqH rfl) (Gx.Wp.bnd (ldS_at rqH rfl) ?_)
  refine Gx.Wp.call (put_spec D sH g n d hl hq (hk c3) (hs c3)) fun r hr => ?_
  obtain ⟨r1, r2, r3, r4⟩ := hr
  rw [r1]
  refine fin r.2 _ _ nob ⟨none, 0, 0⟩ [] r2 r3 r4 acc0 ?_
  unfold PS.doS; rw [if_neg c1, if_neg c2, if_pos c3]
 refine Gx.Wp.ifn (by simpa using c3) ?_
 by_cases c4 : kind = 2
 ·refine Gx.Wp.ifp (by simpa using c4) ?_
  refine Gx.Wp.bnd rfl (Gx.Wp.bnd (ldM_at (m := some rb) hbH rfl) (Gx.Wp.bnd (ldS_at rqH rfl) ?_))
  cases hl2 : lk n p.es with
  | none =>
   refine Gx.Wp.bnd (look_none sH.mp hl2) (Gx.Wp.ifp rfl (ans p.up 5 nob sH g ?_))
   unfold PS.doS; rw [if_neg c1, if_neg c2, if_neg c3, if_pos c4, hl2]; rfl
  | some x =>
   refine Gx.Wp.bnd (look_some sH.mp hl2) (Gx.Wp.ifn (fun q => by cases q) (ans p.up 0 x sH g ?_))
   unfold PS.doS; rw [if_neg c1, if_neg c2, if_neg c3, if_pos c4, hl2]; rfl
 refine Gx.Wp.ifn (by simpa using c4) ?_
 by_cases c5 : kind = 3
 ·refine Gx.Wp.ifp (by simpa using c5) ?_
  refine Gx.Wp.bnd (ldS_at rqH rfl) ?_
  refine Gx.Wp.call (list_spec D sH g n hl hk2) fun r hr => ?_
  obtain ⟨r1, r2⟩ := hr
  refine fin r.2 p.up 0 nob r.1 _ (Chg.keeps r1) (sH.keeps r1) g r2 ?_
  unfold PS.doS; rw [if_neg c1, if_neg c2, if_neg c3, if_neg c4, if_pos c5]; rfl
 refine Gx.Wp.ifn (by simpa using c5) ?_
 by_cases c6 : kind = 4
 ·refine Gx.Wp.ifp (by simpa using c6) ?_
  refine Gx.Wp.bnd (ldS_at rqH rfl) ?_
  refine Gx.Wp.call (del_spec D sH g n hl) fun r hr => ?_
  obtain ⟨r1, r2, r3, r4⟩ := hr
  rw [r1]
  refine fin r.2 _ _ nob ⟨none, 0, 0⟩ [] r2 r3 r4 acc0 ?_
  unfold PS.doS; rw [if_neg c1, if_neg c2, if_neg c3, if_neg c4, if_neg c5, if_pos c6]
 refine Gx.Wp.ifn (by simpa using c6) (ans p.up 3 nob sH g ?_)
 unfold PS.doS; rw [if_neg c1, if_neg c2, if_neg c3, if_neg c4, if_neg c5, if_neg c6]
end Gt
namespace Gt
open Go Gx
def ps0 (q : Nat) : PS := ⟨q, 0, 0, false, [], 0⟩
theorem good0 : Good [] 0 := ⟨by simp, by simp, by simp, by simp⟩
theorem New_spec {k : Nat} (D : CallF) {h : AHeap} {q : Nat} (hq : q ≤ 1073741824) : ∃ h', store_New k D (q : Int) h = some ((some ⟨h.next + 1, 0, none⟩, 0), h') ∧ Keeps h h' ∧ SR h' (h.next + 1) h.next (ps0 q) := by
 refine ⟨(h.new (.map [] 0)).new (.cells [.int .i64 (q : Int), .int .i64 0, .int .i64 0, .bool false, .map (some h.next), .int .i64 0] 83 true 0), ?_, (Keeps.new h _).trans (Keeps.new _ _), ⟨83, ?_⟩, ?_, ?_⟩
 ·simp only [store_New]
  refine jn ?_
  refine ifn (by simp) ?_
  rw [decide_eq_false (by omega)]
  exact ifn (by decide) rfl
 ·rw [AHeap.get_new, AHeap.next_new, if_pos rfl]; rfl
 ·simp only [AHeap.get_new, AHeap.next_new]; rw [if_neg (by omega), if_true]; rfl
 ·simp only [AHeap.next_new]; omega
theorem sameS_spec {k : Nat} (D : CallF) {h : AHeap} {a b : Slc} {xs : List ByteArray} (Ra : Row encS h a xs) (Rb : Row encS h b xs) (hk : xs.length < k) (hs : xs.length < 9223372036854775807) : book_SameTexts k D a b h = some (true, h) := by
 unfold book_SameTexts
 refine ifn (by rw [Ra.1, Rb.1]; simp) ?_
 refine jn ?_
 unfold book_SameTexts_l0
 obtain ⟨bot, hbot⟩ := iterK_of (fun _ _ _ _ => none) (book_SameTexts_l0b k D fun h1 => some (true, h1)) (show xs.length + 1 ≤ k by omega)
 rw [hbot]
 have go : ∀ m i : Nat, i + m = xs.length → iterK bot (m + 1) (book_SameTexts_l0b k D fun h1 => some (true, h1)) a b (i : Int) h = some (true, h) := by
  intro m
  induction m with
  | zero => intro i hi; rw [iterK_s, book_SameTexts_l0b]; exact ifn (by rw [Ra.1]; simp; omega) rfl
  | succ m ih =>
   intro i hi
   obtain ⟨x, hx⟩ := isome (l := xs) (i := i) (by omega)
   obtain ⟨q, hq, hld⟩ := Ra.ldS hx
   obtain ⟨q2, hq2, hld2⟩ := Rb.ldS hx
   have w : IntKind.wrap .i64 ((i : Int) + 1) = ((i + 1 : Nat) : Int) := by rw [w64 _ (by omega)]; omega
   rw [iterK_s, book_SameTexts_l0b]
   refine ifp (by rw [Ra.1]; simp; omega) ?_
   refine bnd hq (bnd hld (bnd hq2 (bnd hld2 ?_)))
   refine ifn (by rw [ba_beq]; simp) ?_
   rw [w]
   exact ih (i + 1) (by omega)
 exact go xs.length 0 (by omega)
def nA : ByteArray := ⟨#[97]⟩
def dB : ByteArray := ⟨#[98, 99, 100]⟩
def pw1 : PS := ⟨4, 0, 1, false, [(nA, dB, 0)], 1⟩
def pw2 : PS := ⟨4, 0, 2, false, [(nA, dB, 0)], 1⟩
end Gt
namespace Gt
open Go Gx
theorem less_eq (a b : ByteArray) : Op.bytesLess a.toList b.toList = decide (bl a < bl b) := by
 rw [Go.Proofs.bytesLess_eq, ByteArray.toList_eq, ByteArray.toList_eq]; rfl
theorem lt_of_leB {a b : List UInt8} (h : leB a b = true) (hn : a ≠ b) : a < b := by
 simp only [leB, decide_eq_true_eq] at h
 exact List.not_le.1 fun q => hn (List.le_antisymm h q)
theorem nm_sorted {es : List En} (hk : (es.map (·.1)).Nodup) : (nm es).Pairwise fun a b => bl a < bl b := by
 have tr : ∀ a b c : List UInt8, leB a b = true → leB b c = true → leB a c = true := fun a b c h1 h2 => by simp only [leB, decide_eq_true_eq] at *; exact List.le_trans h1 h2
 have to : ∀ a b : List UInt8, (leB a b || leB b a) = true := fun a b => by simp only [leB, Bool.or_eq_true, decide_eq_true_eq]; exact List.le_total a b
 have h1 := List.pairwise_mergeSort tr to ((es.map (·.1)).map bl)
 have h2 : (((es.map (·.1)).map bl).mergeSort leB).Nodup := by
  refine (List.mergeSort_perm _ leB).nodup_iff.2 ?_
  exact List.Pairwise.map _ (fun a b hab q => hab (by have := congrArg ba q; exact this)) hk
 unfold nm
 refine List.Pairwise.map _ (fun a b hab => hab) ?_
 exact (h1.and h2).imp fun ⟨a, b⟩ => lt_of_leB a b
def cnt (b : ByteArray) (es : List En) : Nat := (es.map (·.1)).countP (starts b)
theorem cnt_pt (b n d : ByteArray) (cl : Nat) (es : List En) : cnt b (pt n d cl es) = if (lk n es).isSome then cnt b es else cnt b es + (if starts b n = true then 1 else 0) := by
 unfold cnt
 rw [keys_pt]
 split
 ·rfl
 ·rw [List.countP_append]; simp [List.countP_cons]
theorem cnt_pos {b n : ByteArray} {es : List En} (h : (lk n es).isSome = true) (hs : starts b n = true) : 0 < cnt b es := by
 rw [lk_mem] at h
 exact List.countP_pos_iff.2 ⟨n, h, hs⟩
structure LI (b : ByteArray) (i : Nat) (p : PS) (there : Nat) : Prop where
 q : p.quota = 1048576
 f : p.fails = 0
 dn : p.down = false
 c : p.calls ≤ i
 g : Good p.es p.cl
 l : p.es.length ≤ i
 t : tot p.es ≤ i * 96
 th : there ≤ i
 c1 : cnt b p.es ≤ there
 c2 : 0 < there → 0 < cnt b p.es
theorem LI.step {b : ByteArray} {i : Nat} {p : PS} {there : Nat} (I : LI b i p there) (hi : i < 40) (n : ByteArray) :
  LI b (i + 1) (p.doS 1 n nob).1 (if (p.doS 1 n nob).2.1 = 0 ∧ starts b n = true then there + 1 else there) := by
 have e : p.doS 1 n nob = ((p.up.putS n nob).1, (p.up.putS n nob).2, nob, []) := by
  unfold PS.doS; rw [if_neg (by rw [I.dn]; decide), if_neg (by rw [I.f]; decide), if_pos rfl]
 rw [e]
 by_cases q : fitsC n nob = 0
 ·obtain ⟨f1, f2, _⟩ := fits0 q
  have t1 := I.t
  have z0 : nob.size = 0 := rfl
  have eP : p.up.putS n nob = (p.up.lay n nob, 0) := by
   unfold PS.putS
   rw [if_neg (fun z => z q), if_neg]
   show ¬ p.quota + room n p.es < tot p.es + (n.size + nob.size)
   rw [I.q, z0]; omega
  rw [eP]
  have t3 := tot_pt (n := n) (d := nob) (cl := p.cl) p.es
  have l3 := len_pt (n := n) (d := nob) (cl := p.cl) p.es
  have c3 := cnt_pt b n nob p.cl p.es
  have i1 := I.c1
  have i2 := I.c2
  have i3 := I.l
  have i4 := I.th
  have i5 := I.c
  have fin : ∀ t, cnt b (pt n nob p.cl p.es) ≤ t → (0 < t → 0 < cnt b (pt n nob p.cl p.es)) → t ≤ i + 1 → LI b (i + 1) (p.up.lay n nob) t := fun t h1 h2 h3 =>
   ⟨I.q, I.f, I.dn, by show p.calls + 1 ≤ _; omega, I.g.pt f1 f2, by show (pt n nob p.cl p.es).length ≤ _; omega, by show tot (pt n nob p.cl p.es) ≤ _; omega, h3, h1, h2⟩
  by_cases hs : starts b n = true
  ·rw [if_pos hs] at c3
   refine (if_pos (⟨rfl, hs⟩ : (0 : Nat) = 0 ∧ starts b n = true)).symm ▸ fin (there + 1) ?_ (fun _ => ?_) (by omega)
   ·rw [c3]; split <;> omega
   ·rw [c3]
    split
    ·rename_i hl; exact cnt_pos hl hs
    ·omega
  ·rw [if_neg hs] at c3
   refine (if_neg (fun z => hs z.2 : ¬ ((0 : Nat) = 0 ∧ starts b n = true))).symm ▸ fin there ?_ (fun z => ?_) (by omega)
   ·rw [c3]; split <;> omega
   ·have := i2 z
    rw [c3]; split <;> omega
 ·have eP : p.up.putS n nob = (p.up, fitsC n nob) := if_pos q
  rw [eP, if_neg (fun z => q z.1)]
  exact ⟨I.q, I.f, I.dn, Nat.succ_le_succ I.c, I.g, Nat.le_succ_of_le I.l, Nat.le_trans I.t (by omega), Nat.le_succ_of_le I.th, I.c1, I.c2⟩
theorem st_cond {b x : ByteArray} {R : Type} {Q : R → Prop} {j : Bool → Option R} (hj : Gx.Wp (j (starts b x)) Q) :
  Gx.Wp (if (decide ((x.size : Int) ≥ (b.size : Int))) = true then (Gx.subS x none (some (b.size : Int))).bind fun s => j (s == b) else j false) Q := by
 by_cases q : b.size ≤ x.size
 ·obtain ⟨s, e1, e2⟩ := starts_sub q
  exact Gx.Wp.ifp (by simp; omega) (Gx.Wp.bnd e1 (by rw [e2]; exact hj))
 ·refine Gx.Wp.ifn (by simp; omega) ?_
  rw [starts_short (by omega)] at hj; exact hj
end Gt
namespace Gt
open Go Gx
def need (l : List ByteArray) : Nat := l.foldr (fun x m => x.size + m) 1000
end Gt
namespace Gt
open Go Gx
abbrev Ob := ByteArray × ByteArray
def encO (o : Ob) : List Value := [.string o.1, .string o.2]
theorem encO_len (o : Ob) : (encO o).length = 2 := rfl
theorem encO_one (o : Ob) : allOne (encO o) = true := rfl
structure AccV {α : Type} (w : Nat) (enc : α → List Value) (e : TypeId) (base : Nat) (h : AHeap) (s : Slc) (xs : List α) : Prop where
 st : (s.len = 0 ∧ s.cap = 0 ∧ xs = [] ∧ ∀ a, s.a = some a → a.spot = some 0) ∨ ∃ b, s = ⟨some ⟨b, 0, some (w + 1)⟩, xs.length, xs.length⟩ ∧ h.get b = some (.cells (xs.flatMap enc) e true 0) ∧ xs ≠ []
 lt : ∀ a, s.a = some a → a.block < h.next ∧ base ≤ a.block
section
variable {α : Type} {w : Nat} {enc : α → List Value} {e : TypeId} {base : Nat} {h h' : AHeap} {s : Slc} {xs : List α}
theorem AccV.nil (w : Nat) (enc : α → List Value) (e : TypeId) (base : Nat) (h : AHeap) : AccV w enc e base h ⟨none, 0, 0⟩ [] := ⟨.inl ⟨rfl, rfl, rfl, fun a ha => by cases ha⟩, fun a ha => by cases ha⟩
theorem AccV.chg {S : Nat → Prop} (A : AccV w enc e base h s xs) (c : Chg S h h') (hs : ∀ a, s.a = some a → ¬ S a.block) : AccV w enc e base h' s xs := by
 refine ⟨A.st.imp id ?_, fun a ha => ⟨Nat.lt_of_lt_of_le (A.lt a ha).1 c.nx, (A.lt a ha).2⟩⟩
 rintro ⟨b, h1, h2, h3⟩
 have hb := A.lt ⟨b, 0, some (w + 1)⟩ (by rw [h1])
 exact ⟨b, h1, (c.oth b hb.1 (hs ⟨b, 0, some (w + 1)⟩ (by rw [h1]))).trans h2, h3⟩
theorem AccV.keeps (A : AccV w enc e base h s xs) (c : Keeps h h') : AccV w enc e base h' s xs := A.chg c fun _ _ f => f
theorem AccV.row (A : AccV w enc e base h s xs) (hw : ∀ x, (enc x).length = w) : RowW w enc h s xs := by
 rcases A.st with ⟨h1, h2, rfl, _⟩ | ⟨b, rfl, h2, h3⟩
 ·exact ⟨h1, fun i x hx => by simp at hx⟩
 ·have := rowW_blk (cap := xs.length) (sp := some (w + 1)) hw h2 (A.lt ⟨b, 0, some (w + 1)⟩ rfl).1 (Nat.le_refl _)
  rw [List.take_length] at this
  exact this
theorem AccV.app (A : AccV w enc e base h s xs) (hw : ∀ x, (enc x).length = w) (ho : ∀ x, allOne (enc x) = true) (ys : List α) {bytes : Nat} (h1 : 1 ≤ bytes) (hs : 2 * (xs.length + ys.length) * bytes ≤ 281474976710656) (hbase : base ≤ h.next) :
  ∃ s' h', appendA w bytes e h s (ys.flatMap enc) ys.length = some (s', h') ∧ AccV w enc e base h' s' (xs ++ ys) ∧ Chg (ofS s) h h' ∧ ∀ a, s'.a = some a → h.next ≤ a.block ∨ s.a = some a := by
 by_cases hy : ys = []
 ·subst hy
  refine ⟨s, h, ?_, by rw [List.append_nil]; exact A, Chg.refl _ _, fun a ha => .inr ha⟩
  simp only [appendA, List.length_nil]
  have hle : s.len + 0 ≤ s.cap := by
   rcases A.st with ⟨q1, q2, _⟩ | ⟨b, rfl, _⟩
   ·omega
   ·exact Nat.le_refl _
  rw [if_pos hle]
  obtain ⟨a, n, c⟩ := s
  cases a with
  | none =>
   rcases A.st with ⟨q1, q2, _⟩ | ⟨b, q, _⟩
   ·simp only at q1 q2; subst q1 q2; rfl
   ·cases q
  | some a => rfl
 ·have ly : 0 < ys.length := List.length_pos_iff.2 hy
  rcases A.st with ⟨q1, q2, rfl, q3⟩ | ⟨b, rfl, h2, h3⟩
  ·refine ⟨⟨some ⟨h.next, 0, some (w + 1)⟩, ys.length, ys.length⟩, h.new (.cells (ys.flatMap enc) e true 0), ?_, ⟨.inr ⟨h.next, by simp, by simp, by simpa using hy⟩, ?_⟩, (Keeps.new h _).wk fun _ _ f => f.elim, ?_⟩
   ·simp only [appendA]
    rw [if_neg (by omega), if_pos ⟨by rw [q1]; simpa using hs, h1⟩]
    obtain ⟨a, n, c⟩ := s
    simp only at q1 q2; subst q1 q2
    cases a with
    | none => rfl
    | some a =>
     have := q3 a rfl
     obtain ⟨b, o, sp⟩ := a
     simp only at this; subst this
     simp [AHeap.rdL]
   ·intro a ha; cases ha; simp; exact hbase
   ·intro a ha; cases ha; exact .inl (Nat.le_refl _)
  ·have hb := A.lt ⟨b, 0, some (w + 1)⟩ rfl
   have hl := flatW_length hw xs
   have hx : 0 < xs.length := List.length_pos_iff.2 h3
   refine ⟨⟨some ⟨h.next, 0, some (w + 1)⟩, xs.length + ys.length, xs.length + ys.length⟩, (h.kill b).new (.cells ((xs ++ ys).flatMap enc) e true 0), ?_, ⟨.inr ⟨h.next, by simp, by simp, by simp [h3]⟩, ?_⟩, Chg.wk (S := (· = b)) (Chg.kill_new (.inr rfl)) fun y hy q => ⟨⟨b, 0, some (w + 1)⟩, rfl, q⟩, ?_⟩
   ·simp only [appendA]
    rw [if_neg (by omega), if_pos ⟨hs, h1⟩]
    simp only [h2]
    rw [if_pos ⟨by omega, trivial, by omega, by omega, trivial, trivial, flatW_one ho ys⟩, ← hl, List.take_length, List.flatMap_append]
   ·intro a ha; cases ha; simp; exact hbase
   ·intro a ha; cases ha; exact .inl (Nat.le_refl _)
theorem flatW_cut (hw : ∀ x, (enc x).length = w) : ∀ (xs : List α) (n : Nat), (xs.flatMap enc).take (n * w) = (xs.take n).flatMap enc ∧ (xs.flatMap enc).drop (n * w) = (xs.drop n).flatMap enc
 | [], n => by simp
 | x :: xs, 0 => by simp
 | x :: xs, n + 1 => by
  obtain ⟨i1, i2⟩ := flatW_cut hw xs n
  have hl := hw x
  have e : (n + 1) * w = (enc x).length + n * w := by rw [hl, Nat.succ_mul]; omega
  rw [List.flatMap_cons, e]
  constructor
  ·rw [List.take_length_add_append, i1]; rfl
  ·rw [List.drop_length_add_append, i2]; rfl
theorem AccV.sub (A : AccV w enc e base h s xs) (hw : ∀ x, (enc x).length = w) {lo hi : Option Int} {i j : Nat} (hl : lo.getD 0 = (i : Int)) (hh : hi.getD s.len = (j : Int)) (hij : i ≤ j) (hj : j ≤ xs.length) :
  ∃ t, subL w s lo hi none = some t ∧ t.len = j - i ∧ ∀ h', AccV w enc e base h' s xs → Gx.rdS w t h' = some (((xs.take j).drop i).flatMap enc) := by
 have e0 : ∀ (h : AHeap) (b o : Nat), h.rdL b o (0 * w) = some [] := fun h b o => by rw [Nat.zero_mul]; rfl
 rcases A.st with ⟨q1, q2, rfl, q3⟩ | ⟨b, rfl, h2, h3⟩
 ·obtain ⟨a, n, c⟩ := s
  simp only at q1 q2; subst q1 q2
  have j0 : j = 0 := by simpa using hj
  have i0 : i = 0 := by omega
  subst j0 i0
  simp only [subL, hl, hh, Option.getD_none]
  rw [if_pos (by simp)]
  cases a with
  | none => exact ⟨_, rfl, rfl, fun h' _ => by simp [rdS]⟩
  | some a =>
   have := q3 a rfl
   dsimp only
   rw [if_pos (by rw [this]; rfl)]
   exact ⟨_, rfl, rfl, fun h' _ => by simp only [rdS]; simp [AHeap.rdL]⟩
 ·have hl2 := flatW_length hw xs
  have hx : 0 < xs.length := List.length_pos_iff.2 h3
  simp only [subL, hl, hh, Option.getD_none]
  rw [if_pos (by omega), if_pos (by simp [spOk])]
  refine ⟨_, rfl, by simp only; omega, fun h' A' => ?_⟩
  obtain ⟨b', e1, h2', _⟩ : ∃ b', b' = b ∧ h'.get b = some (.cells (xs.flatMap enc) e true 0) ∧ True := by
   rcases A'.st with ⟨q1, q2, q, _⟩ | ⟨b', q, h2', _⟩
   ·exact absurd q h3
   ·cases q; exact ⟨b, rfl, h2', trivial⟩
  have jl : (j - i) * w + i * w ≤ xs.length * w := by rw [← Nat.add_mul]; exact Nat.mul_le_mul_right _ (by omega)
  have ee : ((j : Int) - (i : Int)).toNat = j - i := by omega
  simp only [rdS, ee, Int.toNat_natCast]
  have fin : ∀ o, o = i * w ∨ j - i = 0 → h'.rdL b o ((j - i) * w) = some (((xs.take j).drop i).flatMap enc) := by
   intro o ho
   by_cases z : j - i = 0
   ·rw [z, e0]
    have : (xs.take j).drop i = [] := List.drop_eq_nil_of_le (by simp; omega)
    rw [this]; rfl
   ·have ho : o = i * w := ho.resolve_right z
    subst ho
    cases hz : (j - i) * w with
    | zero =>
     have hz2 : (((xs.take j).drop i).flatMap enc).length = 0 := by
      rw [flatW_length hw]
      have : ((xs.take j).drop i).length = j - i := by simp; omega
      rw [this, hz]
     rw [List.length_eq_zero_iff.1 hz2]; rfl
    | succ m =>
     simp only [AHeap.rdL, h2']
     rw [if_pos (by omega), ← hz]
     congr 1
     rw [(flatW_cut hw xs i).2, (flatW_cut hw (xs.drop i) (j - i)).1, List.take_drop]
     congr 3; omega
  by_cases hm : ((xs.length : Int) = (i : Int))
  ·rw [if_pos hm]; exact fin 0 (.inr (by omega))
  ·rw [if_neg hm, Nat.zero_add]; exact fin _ (.inl rfl)
end
end Gt
namespace Gt
open Go Gx
variable {F : Nat → Prop}
structure RSt where
 quota : Nat
 fails : Nat
 many : Nat
 off : Bool
 L : List Ob
structure RR (F : Nat → Prop) (h : AHeap) (tb : Nat) (r : RSt) : Prop where
 blk : ∃ (_e : Unit) (l : Slc), h.get tb = some (.cells [.int .i64 r.quota, .int .i64 r.fails, .int .i64 r.many, .bool r.off, .slice l.a l.len l.cap] 72 true 0) ∧ AccV 2 encO 96 (tb + 1) h l r.L
 lt : tb < h.next
 fl : ∀ (v1 v2 v3 v4 : Value) (a : Addr) (n c : Nat) (e : TypeId) (rw : Bool) (fz : Nat), h.get tb = some (.cells [v1, v2, v3, v4, .slice (some a) n c] e rw fz) → F a.block
 up : ∀ y, h.next ≤ y → F y
theorem RR.flOf {h : AHeap} {tb : Nat} {r : RSt} (s : RR F h tb r) {l : Slc} {v1 v2 v3 v4 : Value} {e : TypeId} {rw : Bool} {fz : Nat} (hb : h.get tb = some (.cells [v1, v2, v3, v4, .slice l.a l.len l.cap] e rw fz)) : ∀ a, l.a = some a → F a.block :=
 fun a ha => s.fl v1 v2 v3 v4 a l.len l.cap e rw fz (by rw [hb, ha])
theorem fl_of {h : AHeap} {tb : Nat} {l : Slc} {w1 w2 w3 w4 : Value} {e' : TypeId} {rw' : Bool} {fz' : Nat} (hb : h.get tb = some (.cells [w1, w2, w3, w4, .slice l.a l.len l.cap] e' rw' fz')) (hf : ∀ a, l.a = some a → F a.block) (v1 v2 v3 v4 : Value) (a : Addr) (n c : Nat) (e : TypeId) (rw : Bool) (fz : Nat) (g : h.get tb = some (.cells [v1, v2, v3, v4, .slice (some a) n c] e rw fz)) : F a.block := by
 rw [hb] at g
 obtain ⟨la, ln, lc⟩ := l
 simp at g
 exact hf a g.1.2.2.2.2.1
theorem RR.make {h : AHeap} {tb : Nat} {r : RSt} {l : Slc} (hb : h.get tb = some (.cells [.int .i64 r.quota, .int .i64 r.fails, .int .i64 r.many, .bool r.off, .slice l.a l.len l.cap] 72 true 0)) (A : AccV 2 encO 96 (tb + 1) h l r.L) (lt : tb < h.next) (hf : ∀ a, l.a = some a → F a.block) (up : ∀ y, h.next ≤ y → F y) : RR F h tb r := ⟨⟨(), l, hb, A⟩, lt, fl_of hb hf, up⟩
theorem RR.chg {S : Nat → Prop} {h h' : AHeap} {tb : Nat} {r : RSt} (s : RR F h tb r) (c : Chg S h h') (hs : ∀ y, tb ≤ y → ¬ S y) : RR F h' tb r := by
 obtain ⟨e, l, hb, A⟩ := s.blk
 exact ⟨⟨e, l, (c.oth _ s.lt (hs _ (Nat.le_refl _))).trans hb, A.chg c fun a ha => hs _ (by have := (A.lt a ha).2; omega)⟩, Nat.lt_of_lt_of_le s.lt c.nx, fun v1 v2 v3 v4 a n cc e rw fz g => s.fl v1 v2 v3 v4 a n cc e rw fz ((c.oth _ s.lt (hs _ (Nat.le_refl _))).symm.trans g), fun y hy => s.up y (Nat.le_trans c.nx hy)⟩
theorem RR.keeps {h h' : AHeap} {tb : Nat} {r : RSt} (s : RR F h tb r) (c : Keeps h h') : RR F h' tb r := s.chg c fun _ _ f => f
def fi (n : ByteArray) : List Ob → Nat
 | [] => 0
 | o :: l => if bl o.1 < bl n then fi n l + 1 else 0
def at1 (n : ByteArray) : List Ob → Bool
 | [] => false
 | o :: _ => decide (o.1 = n)
def fnd (n : ByteArray) (L : List Ob) : Bool := at1 n (L.drop (fi n L))
theorem fi_le (n : ByteArray) : ∀ L : List Ob, fi n L ≤ L.length
 | [] => Nat.le_refl _
 | o :: l => by have := fi_le n l; simp only [fi]; split <;> simp; omega
theorem fnd_lt {n : ByteArray} {L : List Ob} (h : fnd n L = true) : fi n L < L.length := by
 have := fi_le n L
 rcases Nat.lt_or_eq_of_le this with h1 | h1
 ·exact h1
 ·unfold fnd at h; rw [h1, List.drop_length] at h; cases h
theorem rfind_l0 {k : Nat} (D : CallF) (bot) {h : AHeap} {tb : Nat} {r : RSt} (s : RR F h tb r) (n : ByteArray) (hl : r.L.length ≤ 1048576) {Q : (Int × Bool) × AHeap → Prop} (j5) (hj : Gx.Wp (j5 (some ⟨tb, 0, none⟩) n (fi n r.L : Int) h) Q) :
  ∀ (d i : Nat), i + d = r.L.length → i + fi n (r.L.drop i) = fi n r.L → Gx.Wp (iterK bot (d + 1) (ref07_Store_find_l0b k D j5) (some ⟨tb, 0, none⟩) n (i : Int) h) Q := fun d => by
 obtain ⟨e, l, hb, A⟩ := s.blk
 have R := A.row encO_len
 have len := R.len
 induction d with
 | zero =>
  intro i hi hf
  rw [iterK_s]; simp only [ref07_Store_find_l0b]
  obtain rfl : i = r.L.length := by omega
  rw [List.drop_length] at hf
  refine Gx.Wp.jn fun j hj' => Gx.Wp.bnd rfl (Gx.Wp.bnd (sldL_at hb rfl) (Gx.Wp.ifn (by show ¬ decide ((r.L.length : Int) < (l.len : Int)) = true; rw [len]; simp) ?_))
  subst hj'
  refine Gx.Wp.ifn (fun q => by cases q) ?_
  have : fi n r.L = r.L.length := hf.symm
  rw [← this]; exact hj
 | succ d ih =>
  intro i hi hf
  rw [iterK_s]; simp only [ref07_Store_find_l0b]
  obtain ⟨x, hx⟩ := isome (l := r.L) (i := i) (by omega)
  refine Gx.Wp.jn fun j hj' => Gx.Wp.bnd rfl (Gx.Wp.bnd (sldL_at hb rfl) (Gx.Wp.ifp (by show decide ((i : Int) < (l.len : Int)) = true; rw [len]; simp; omega) ?_))
  obtain ⟨q, q1, _, _, q2⟩ := R.ld encO_len (by decide) hx
  refine Gx.Wp.bnd rfl (Gx.Wp.bnd (sldL_at hb rfl) (Gx.Wp.bnd q1 (Gx.Wp.bnd (q2 0 x.1 rfl) ?_)))
  rw [less_eq]
  rw [dropc hx] at hf
  simp only [fi] at hf
  subst hj'
  by_cases c : bl x.1 < bl n
  ·rw [if_pos c] at hf
   refine Gx.Wp.ifp (decide_eq_true c) ?_
   rw [Gx.w1 (by omega)]
   exact ih (i + 1) (by omega) (by omega)
  ·rw [if_neg c] at hf
   refine Gx.Wp.ifn (by simpa using c) ?_
   have : fi n r.L = i := by omega
   rw [← this]; exact hj
theorem rfind_spec {k : Nat} (D : CallF) {h : AHeap} {tb : Nat} {r : RSt} (s : RR F h tb r) (n : ByteArray) (hl : r.L.length ≤ 1048576) (hk : r.L.length < k) :
  ref07_Store_find k D (some ⟨tb, 0, none⟩) n h = some (((fi n r.L : Int), fnd n r.L), h) := by
 have : Gx.Wp (ref07_Store_find k D (some ⟨tb, 0, none⟩) n h) fun q => q = (((fi n r.L : Int), fnd n r.L), h) := by
  obtain ⟨e, l, hb, A⟩ := s.blk
  have R := A.row encO_len
  have len := R.len
  simp only [ref07_Store_find]
  refine Gx.Wp.jn fun j hj => ?_
  unfold ref07_Store_find_l0
  obtain ⟨bot, eb⟩ := iterK_of (fun _ _ _ _ => none) (ref07_Store_find_l0b k D j) (show r.L.length + 1 ≤ k by omega)
  rw [eb]
  refine rfind_l0 D bot s n hl j ?_ r.L.length 0 (by omega) (by simp)
  subst hj
  refine Gx.Wp.bnd rfl (Gx.Wp.bnd (sldL_at hb rfl) ?_)
  by_cases c : fi n r.L < r.L.length
  ·refine Gx.Wp.ifp (by show decide ((fi n r.L : Int) < (l.len : Int)) = true; rw [len]; simp; omega) ?_
   obtain ⟨x, hx⟩ := isome c
   obtain ⟨q, q1, _, _, q2⟩ := R.ld encO_len (by decide) hx
   refine Gx.Wp.bnd rfl (Gx.Wp.bnd (sldL_at hb rfl) (Gx.Wp.bnd q1 (Gx.Wp.bnd (q2 0 x.1 rfl) (Gx.Wp.of ?_))))
   rw [ba_beq]
   have : fnd n r.L = decide (x.1 = n) := by unfold fnd; rw [dropc hx]; rfl
   rw [this]
  ·refine Gx.Wp.ifn (by show ¬ decide ((fi n r.L : Int) < (l.len : Int)) = true; rw [len]; simp; omega) (Gx.Wp.of ?_)
   have : fnd n r.L = false := by unfold fnd; rw [List.drop_eq_nil_of_le (by omega)]; rfl
   rw [this]
 obtain ⟨q, e, rfl⟩ := this
 exact e
theorem ssw2 {H1 H2 : AHeap} {F : AHeap → Option Value} {v : Value} (h1 : F H1 = some v) (h2 : F H2 = some v) : SameW [H1, H2] F v := by
 intro H hH; simp at hH; rcases hH with rfl | rfl
 ·exact h1
 ·exact h2
theorem RR.setL {h h' : AHeap} {tb : Nat} {r : RSt} {l l2 : Slc} {L : List Ob} {S : Nat → Prop} (lt : tb < h.next) (hb : h.get tb = some (.cells [.int .i64 r.quota, .int .i64 r.fails, .int .i64 r.many, .bool r.off, .slice l.a l.len l.cap] 72 true 0))
  (c : Chg S h h') (hs : ¬ S tb) (A : AccV 2 encO 96 (tb + 1) h' l2 L) (hf : ∀ a, l2.a = some a → F a.block) (up : ∀ y, h.next ≤ y → F y) : ∃ h2, Gx.st1 (⟨tb, 0 + 4, none⟩ : Addr) (.slice l2.a l2.len l2.cap) h' = some h2 ∧ Chg (· = tb) h' h2 ∧ RR F h2 tb { r with L := L } := by
 have hb' : h'.get tb = some (.cells [.int .i64 r.quota, .int .i64 r.fails, .int .i64 r.many, .bool r.off, .slice l.a l.len l.cap] 72 true 0) := (c.oth _ lt hs).trans hb
 refine ⟨_, st1_sb hb' (by show 0 + 4 < 5; omega) rfl, Chg.set (.inr rfl), ⟨⟨(), l2, by rw [sset_get]; rfl, A.chg (S := (· = tb)) (Chg.set (.inr rfl)) fun a ha q => by have := (A.lt a ha).2; omega⟩, Nat.lt_of_lt_of_le lt c.nx, fun v1 v2 v3 v4 a n cc e rw fz g => hf a ?_, fun y hy => up y (Nat.le_trans c.nx hy)⟩⟩
 rw [sset_get] at g
 obtain ⟨la, ln, lc⟩ := l2
 simp at g
 exact g.1.2.2.2.2.1
theorem rremove_spec {k : Nat} (D : CallF) {h : AHeap} {tb : Nat} {r : RSt} (s : RR F h tb r) {i : Nat} (hi : i < r.L.length) (hl : r.L.length ≤ 1048576) :
  Gx.Wp (ref07_Store_remove k D (some ⟨tb, 0, none⟩) (i : Int) h) fun q => Chg (· = tb) h q.2 ∧ RR F q.2 tb { r with L := r.L.take i ++ r.L.drop (i + 1) } := by
 obtain ⟨e, l, hb, A⟩ := s.blk
 have lt := s.lt
 have len := (A.row encO_len).len
 simp only [ref07_Store_remove]
 obtain ⟨h1, e1⟩ : ∃ h1, h1 = h.new (.cells [] 96 true 0) := ⟨_, rfl⟩
 rw [← e1]
 have k1 : Keeps h h1 := e1 ▸ Keeps.new h _
 have n1 : h1.next = h.next + 1 := by rw [e1]; rfl
 have hb1 := (k1.oth _ lt fun f => f).trans hb
 have A1 := A.keeps k1
 refine Gx.Wp.bnd rfl (Gx.Wp.bnd (sldL_at hb1 rfl) (Gx.Wp.gp (ssw1 (bnd (sldL_at hb rfl) rfl)) ?_))
 obtain ⟨t1, u1, u2, u3⟩ := A1.sub (lo := none) (hi := some (i : Int)) (i := 0) (j := i) encO_len rfl rfl (Nat.zero_le _) (by omega)
 refine Gx.Wp.bnd u1 (Gx.Wp.bnd (u3 h1 A1) ?_)
 have E0 : AccV 2 encO 96 (tb + 1) h1 (⟨some ⟨h.next, 0, some 0⟩, 0, 0⟩ : Slc) [] := ⟨.inl ⟨rfl, rfl, rfl, fun a ha => by cases ha; rfl⟩, fun a ha => by cases ha; simp only; omega⟩
 have hn : t1.len = (r.L.take i).length := by rw [u2]; simp; omega
 rw [hn, List.drop_zero]
 obtain ⟨s7, h7, a7, A7, c7, d7⟩ := E0.app encO_len encO_one (r.L.take i) (bytes := 32) (by decide) (by simp; omega) (by omega)
 refine Gx.Wp.bnd a7 ?_
 have n7 := c7.nx
 have nt : ∀ y, y ≤ tb → ¬ ofS (⟨some ⟨h.next, 0, some 0⟩, 0, 0⟩ : Slc) y := fun y hy ⟨a, ha, q⟩ => by cases ha; simp only at q; omega
 have nl : ∀ a, l.a = some a → ¬ ofS (⟨some ⟨h.next, 0, some 0⟩, 0, 0⟩ : Slc) a.block := fun a ha ⟨a', ha', q⟩ => by cases ha'; have := (A.lt a ha).1; simp only at q; omega
 have hb7 := (c7.oth _ (by omega) (nt tb (Nat.le_refl _))).trans hb1
 have AL7 := A1.chg c7 nl
 refine Gx.Wp.bnd rfl (Gx.Wp.bnd (sldL_at hb7 rfl) (Gx.Wp.gp (ssw2 (bnd (sldL_at hb1 rfl) rfl) (bnd (sldL_at hb rfl) rfl)) ?_))
 rw [Gx.w1 (by omega)]
 obtain ⟨t2, v1, v2, v3⟩ := AL7.sub (lo := some ((i + 1 : Nat) : Int)) (hi := none) (i := i + 1) (j := r.L.length) encO_len rfl (by simp [len]) (by omega) (Nat.le_refl _)
 refine Gx.Wp.bnd v1 (Gx.Wp.bnd (v3 h7 AL7) ?_)
 have hn2 : t2.len = (r.L.drop (i + 1)).length := by rw [v2]; simp
 rw [hn2, List.take_length]
 obtain ⟨s9, h9, a9, A9, c9, d9⟩ := A7.app encO_len encO_one (r.L.drop (i + 1)) (bytes := 32) (by decide) (by simp; omega) (by omega)
 refine Gx.Wp.bnd a9 (Gx.Wp.bnd rfl ?_)
 have nt7 : ∀ y, y < h.next → ¬ ofS s7 y := fun y hy ⟨a, ha, q⟩ => by
  rcases d7 a ha with z | z
  ·omega
  ·cases z; simp only at q; omega
 have cc : Chg NoB h h9 := Chg.beh (Chg.beh k1 c7 fun y hy q => nt y (by obtain ⟨a, ha, q⟩ := q; cases ha; simp only at q; omega) q) c9 fun y hy q => nt7 y hy q
 obtain ⟨h2, b1, b2, b3⟩ := RR.setL (r := r) lt hb cc (fun f => f) A9 (fun a ha => s.up _ (by
  rcases d9 a ha with z | z
  ·omega
  ·rcases d7 a z with z | z
   ·omega
   ·cases z; exact Nat.le_refl _)) s.up
 rw [List.nil_append] at b3
 exact Gx.Wp.bnd b1 (Gx.Wp.of ⟨(Chg.keeps cc).trans b2, b3⟩)
end Gt
namespace Gt
open Go Gx
variable {F : Nat → Prop}
def insO (i : Nat) (n d : ByteArray) (L : List Ob) : List Ob := L.take i ++ (n, d) :: L.drop i
def lyR (n d : ByteArray) (L : List Ob) : List Ob := insO (fi n L) n d (if fnd n L then L.take (fi n L) ++ L.drop (fi n L + 1) else L)
theorem rlay_spec {k : Nat} (D : CallF) {h : AHeap} {tb : Nat} {r : RSt} (s : RR F h tb r) (n d : ByteArray) (hl : r.L.length ≤ 1048576) (hk : r.L.length < k) :
  Gx.Wp (ref07_Store_lay k D (some ⟨tb, 0, none⟩) n d h) fun q => Chg (· = tb) h q.2 ∧ RR F q.2 tb { r with L := lyR n d r.L } := by
 simp only [ref07_Store_lay]
 refine Gx.Wp.bnd (rfind_spec D s n hl hk) ?_
 refine Gx.Wp.jn fun j hj => ?_
 have go : ∀ (g : AHeap) (r' : RSt), RR F g tb r' → fi n r.L ≤ r'.L.length → r'.L.length ≤ 1048576 → Gx.Wp (j (some ⟨tb, 0, none⟩) n d (fi n r.L : Int) g) fun q => Chg (· = tb) g q.2 ∧ RR F q.2 tb { r' with L := insO (fi n r.L) n d r'.L } := by
  intro g r' s' hi hl'
  subst hj
  obtain ⟨e, l, hb, A⟩ := s'.blk
  have lt := s'.lt
  have len := (A.row encO_len).len
  refine Gx.Wp.bnd rfl (Gx.Wp.bnd (sldL_at hb rfl) ?_)
  obtain ⟨t1, u1, u2, u3⟩ := A.sub (lo := none) (hi := some (fi n r.L : Int)) (i := 0) (j := fi n r.L) encO_len rfl rfl (Nat.zero_le _) hi
  refine Gx.Wp.bnd u1 (Gx.Wp.bnd (u3 g A) ?_)
  have hn : t1.len = (r'.L.take (fi n r.L)).length := by rw [u2]; simp; omega
  rw [hn, List.drop_zero]
  obtain ⟨s7, h7, a7, A7, c7, d7⟩ := (AccV.nil 2 encO 96 g.next g).app encO_len encO_one (r'.L.take (fi n r.L)) (bytes := 32) (by decide) (by simp; omega) (Nat.le_refl _)
  refine Gx.Wp.bnd a7 ?_
  have k7 : Keeps g h7 := c7.wk fun y _ ⟨a, ha, _⟩ => by cases ha
  obtain ⟨h8, e8⟩ : ∃ h8, h8 = h7.new (.cells [.string n, .string d] 96 true 0) := ⟨_, rfl⟩
  rw [← e8]
  have k8 : Keeps h7 h8 := e8 ▸ Keeps.new h7 _
  have n7 := k7.nx
  have n8 := k8.nx
  have rd8 : Gx.rdS 2 (⟨some ⟨h7.next, 0, some 0⟩, 1, 1⟩ : Slc) h8 = some (encO (n, d)) := e8 ▸ rdS_oneW encO_len (n, d) 96
  refine Gx.Wp.bnd rd8 ?_
  have A8 := A7.keeps k8
  obtain ⟨s9, h9, a9, A9, c9, d9⟩ := A8.app encO_len encO_one [(n, d)] (bytes := 32) (by decide) (by simp; omega) (by omega)
  have ef : [(n, d)].flatMap encO = encO (n, d) := by simp
  rw [ef] at a9
  refine Gx.Wp.bnd a9 (Gx.Wp.bnd rfl ?_)
  have n9 := c9.nx
  have k9 : Keeps g h9 := Chg.beh (k7.trans k8) c9 fun y hy ⟨a, ha, q⟩ => by have := (A7.lt a ha).2; omega
  have hb9 := (k9.oth _ lt fun f => f).trans hb
  have AL9 := A.keeps k9
  refine Gx.Wp.bnd (sldL_at hb9 rfl) ?_
  obtain ⟨t2, v1, v2, v3⟩ := AL9.sub (lo := some (fi n r.L : Int)) (hi := none) (i := fi n r.L) (j := r'.L.length) encO_len rfl (by simp [len]) hi (Nat.le_refl _)
  refine Gx.Wp.bnd v1 (Gx.Wp.bnd (v3 h9 AL9) ?_)
  have hn2 : t2.len = (r'.L.drop (fi n r.L)).length := by rw [v2]; simp
  rw [hn2, List.take_length]
  obtain ⟨s11, h11, a11, A11, c11, d11⟩ := A9.app encO_len encO_one (r'.L.drop (fi n r.L)) (bytes := 32) (by decide) (by simp; omega) (by omega)
  refine Gx.Wp.bnd a11 (Gx.Wp.bnd rfl ?_)
  have k11 : Keeps g h11 := Chg.beh k9 c11 fun y hy ⟨a, ha, q⟩ => by have := (A9.lt a ha).2; omega
  have A12 : AccV 2 encO 96 (tb + 1) h11 s11 (insO (fi n r.L) n d r'.L) := by
   have e1 : insO (fi n r.L) n d r'.L = [] ++ r'.L.take (fi n r.L) ++ [(n, d)] ++ r'.L.drop (fi n r.L) := by simp [insO]
   rw [e1]
   exact ⟨A11.st, fun a ha => ⟨(A11.lt a ha).1, by have := (A11.lt a ha).2; omega⟩⟩
  obtain ⟨h2, b1, b2, b3⟩ := RR.setL (r := r') lt hb k11 (fun f => f) A12 (fun a ha => s'.up _ (A11.lt a ha).2) s'.up
  exact Gx.Wp.bnd b1 (Gx.Wp.of ⟨(Chg.keeps k11).trans b2, b3⟩)
 have hf := fi_le n r.L
 cases hc : fnd n r.L with
 | true =>
  have hlt := fnd_lt hc
  refine Gx.Wp.ifp rfl (Gx.Wp.call (rremove_spec D s hlt hl) fun r2 h2 => ?_)
  obtain ⟨c1, s1⟩ := h2
  refine Gx.Wp.mono (go r2.2 _ s1 (by simp; omega) (by simp; omega)) fun q hq => ?_
  refine ⟨c1.trans hq.1, ?_⟩
  have e : lyR n d r.L = insO (fi n r.L) n d (r.L.take (fi n r.L) ++ r.L.drop (fi n r.L + 1)) := by unfold lyR; rw [hc]; rfl
  rw [e]; exact hq.2
 | false =>
  refine Gx.Wp.ifn (fun q => by cases q) (Gx.Wp.mono (go h r s hf hl) fun q hq => ?_)
  have e : lyR n d r.L = insO (fi n r.L) n d r.L := by unfold lyR; rw [hc]; rfl
  rw [e]; exact hq
def totR : List Ob → Nat
 | [] => 0
 | o :: l => o.1.size + o.2.size + totR l
theorem rused_l0 {k : Nat} (D : CallF) (bot) {h : AHeap} {tb : Nat} {r : RSt} (s : RR F h tb r) (hl : r.L.length ≤ 1048576) (ht : totR r.L ≤ 1152921504606846976) :
  ∀ (d i acc : Nat), i + d = r.L.length → acc + totR (r.L.drop i) = totR r.L → Gx.Wp (iterK bot (d + 1) (ref07_Store_Used_l0b k D fun (n1 : Int) (h2 : AHeap) => some (n1, h2)) (some ⟨tb, 0, none⟩) (acc : Int) (i : Int) h) fun q => q = ((totR r.L : Int), h) := fun d => by
 obtain ⟨e, l, hb, A⟩ := s.blk
 have R := A.row encO_len
 have len := R.len
 induction d with
 | zero =>
  intro i acc hi ha
  rw [iterK_s]; simp only [ref07_Store_Used_l0b]
  obtain rfl : i = r.L.length := by omega
  rw [List.drop_length] at ha
  refine Gx.Wp.bnd rfl (Gx.Wp.bnd (sldL_at hb rfl) (Gx.Wp.ifn (by show ¬ decide ((r.L.length : Int) < (l.len : Int)) = true; rw [len]; simp) (Gx.Wp.of ?_)))
  have : acc = totR r.L := ha
  rw [this]
 | succ d ih =>
  intro i acc hi ha
  rw [iterK_s]; simp only [ref07_Store_Used_l0b]
  obtain ⟨x, hx⟩ := isome (l := r.L) (i := i) (by omega)
  rw [dropc hx] at ha
  simp only [totR] at ha
  obtain ⟨q, q1, _, _, q2⟩ := R.ld encO_len (by decide) hx
  refine Gx.Wp.bnd rfl (Gx.Wp.bnd (sldL_at hb rfl) (Gx.Wp.ifp (by show decide ((i : Int) < (l.len : Int)) = true; rw [len]; simp; omega) ?_))
  refine Gx.Wp.bnd rfl (Gx.Wp.bnd (sldL_at hb rfl) (Gx.Wp.bnd q1 (Gx.Wp.bnd (q2 0 x.1 rfl) ?_)))
  refine Gx.Wp.bnd rfl (Gx.Wp.bnd (sldL_at hb rfl) (Gx.Wp.bnd q1 (Gx.Wp.bnd (q2 1 x.2 rfl) ?_)))
  have e1 : IntKind.wrap .i64 ((acc : Int) + IntKind.wrap .i64 ((x.1.size : Int) + (x.2.size : Int))) = ((acc + (x.1.size + x.2.size) : Nat) : Int) := by
   rw [w64 ((x.1.size : Int) + x.2.size) (by omega), w64 _ (by omega)]; omega
  simp only [e1]
  rw [Gx.w1 (by omega)]
  exact ih (i + 1) _ (by omega) (by omega)
theorem rused_spec {k : Nat} (D : CallF) {h : AHeap} {tb : Nat} {r : RSt} (s : RR F h tb r) (hl : r.L.length ≤ 1048576) (hk : r.L.length < k) (ht : totR r.L ≤ 1152921504606846976) :
  ref07_Store_Used k D (some ⟨tb, 0, none⟩) h = some ((totR r.L : Int), h) := by
 have : Gx.Wp (ref07_Store_Used k D (some ⟨tb, 0, none⟩) h) fun q => q = ((totR r.L : Int), h) := by
  simp only [ref07_Store_Used]
  refine Gx.Wp.jn fun j hj => ?_
  unfold ref07_Store_Used_l0
  obtain ⟨bot, eb⟩ := iterK_of (fun _ _ _ _ => none) (ref07_Store_Used_l0b k D j) (show r.L.length + 1 ≤ k by omega)
  rw [eb]
  subst hj
  exact rused_l0 D bot s hl ht r.L.length 0 0 (by omega) (by simp)
 obtain ⟨q, e, rfl⟩ := this
 exact e
theorem rnames_l0 {k : Nat} (D : CallF) (bot) {b : ByteArray} {h0 : AHeap} {tb : Nat} {r : RSt} (s : RR F h0 tb r) (hl : r.L.length ≤ 1048576) :
  ∀ (d i : Nat) (o : Slc) (out : List ByteArray) (h : AHeap), i + d = r.L.length → out.length ≤ i → Keeps h0 h → Acc encS 9 h0.next h o out →
   Gx.Wp (iterK bot (d + 1) (ref07_Store_Names_l0b k D fun (out1 : Slc) (h2 : AHeap) => some (out1, h2)) (some ⟨tb, 0, none⟩) b o (i : Int) h) fun q => Keeps h0 q.2 ∧ Acc encS 9 h0.next q.2 q.1 (out ++ ((r.L.drop i).map (·.1)).filter (starts b)) := fun d => by
 induction d with
 | zero =>
  intro i o out h hi ho kp A
  obtain ⟨e, l, hb, AL⟩ := (s.keeps kp).blk
  have len := (AL.row encO_len).len
  rw [iterK_s]; simp only [ref07_Store_Names_l0b]
  obtain rfl : i = r.L.length := by omega
  refine Gx.Wp.bnd rfl (Gx.Wp.bnd (sldL_at hb rfl) (Gx.Wp.ifn (by show ¬ decide ((r.L.length : Int) < (l.len : Int)) = true; rw [len]; simp) (Gx.Wp.of ⟨kp, ?_⟩)))
  simpa using A
 | succ d ih =>
  intro i o out h hi ho kp A
  obtain ⟨e, l, hb, AL⟩ := (s.keeps kp).blk
  have R := AL.row encO_len
  have len := R.len
  rw [iterK_s]; simp only [ref07_Store_Names_l0b]
  obtain ⟨x, hx⟩ := isome (l := r.L) (i := i) (by omega)
  obtain ⟨q, q1, _, _, q2⟩ := R.ld encO_len (by decide) hx
  refine Gx.Wp.bnd rfl (Gx.Wp.bnd (sldL_at hb rfl) (Gx.Wp.ifp (by show decide ((i : Int) < (l.len : Int)) = true; rw [len]; simp; omega) ?_))
  refine Gx.Wp.jn fun j hj => Gx.Wp.bnd rfl (Gx.Wp.bnd (sldL_at hb rfl) (Gx.Wp.bnd q1 (Gx.Wp.bnd (q2 0 x.1 rfl) (Gx.Wp.jn fun j2 hj2 => ?_))))
  refine st_cond (b := b) (x := x.1) (j := fun y => j2 (some ⟨tb, 0, none⟩) b o (i : Int) x.1 y h) ?_
  rw [dropc hx, List.map_cons]
  subst hj2
  cases hst : starts b x.1 with
  | true =>
   refine Gx.Wp.ifp rfl ?_
   refine Gx.Wp.bnd rdS_one ?_
   obtain ⟨s', h', a1, A2, c2, _⟩ := A.push encS_one x.1 (bytes := 16) (by omega) (by decide) kp.nx
   refine Gx.Wp.bnd a1 ?_
   subst hj
   simp only
   rw [Gx.w1 (by omega), List.filter_cons_of_pos hst, show out ++ x.1 :: ((r.L.drop (i + 1)).map (·.1)).filter (starts b) = (out ++ [x.1]) ++ ((r.L.drop (i + 1)).map (·.1)).filter (starts b) by simp]
   exact ih (i + 1) s' (out ++ [x.1]) h' (by omega) (by simp; omega) (Chg.beh kp c2 fun y hy ⟨a, ha, e⟩ => by have := (A.lt a ha).2; omega) A2
  | false =>
   refine Gx.Wp.ifn (fun q => by cases q) ?_
   subst hj
   simp only
   rw [Gx.w1 (by omega), List.filter_cons_of_neg (by rw [hst]; decide)]
   exact ih (i + 1) o out h (by omega) (by omega) kp A
theorem rnames_spec {k : Nat} (D : CallF) {h : AHeap} {tb : Nat} {r : RSt} (s : RR F h tb r) (b : ByteArray) (hl : r.L.length ≤ 1048576) (hk : r.L.length < k) :
  Gx.Wp (ref07_Store_Names k D (some ⟨tb, 0, none⟩) b h) fun q => Keeps h q.2 ∧ Acc encS 9 h.next q.2 q.1 ((r.L.map (·.1)).filter (starts b)) := by
 simp only [ref07_Store_Names]
 refine Gx.Wp.jn fun j hj => ?_
 unfold ref07_Store_Names_l0
 obtain ⟨bot, eb⟩ := iterK_of (fun _ _ _ _ _ => none) (ref07_Store_Names_l0b k D j) (show r.L.length + 1 ≤ k by omega)
 rw [eb]
 subst hj
 have := rnames_l0 (k := k) (b := b) D bot s hl r.L.length 0 _ [] h (by omega) (by simp) (Chg.refl _ _) (Acc.nil _ _ _ _)
 simpa using this
theorem rname_l0 {k : Nat} (D : CallF) (bot) {n : ByteArray} (hs : n.size ≤ 9223372036854775807) {h : AHeap} {Q : Bool × AHeap → Prop} (j6) (hj : (bl n).all okB = true → Gx.Wp (j6 h) Q) (hf : (bl n).all okB = false → Q (false, h)) :
  ∀ (d i : Nat), i + d = n.size → ((bl n).take i).all okB = true → Gx.Wp (iterK bot (d + 1) (ref07_Name_l0b k D j6) n (i : Int) h) Q := fun d => by
 have hl : (bl n).length = n.size := rfl
 induction d with
 | zero =>
  intro i hi ha
  rw [iterK_s]; simp only [ref07_Name_l0b]
  obtain rfl : i = n.size := by omega
  refine Gx.Wp.ifn (by simp) (hj ?_)
  rw [← hl, List.take_length] at ha; exact ha
 | succ d ih =>
  intro i hi ha
  rw [iterK_s]; simp only [ref07_Name_l0b]
  obtain ⟨c, hc⟩ := isome (l := bl n) (i := i) (by omega)
  refine Gx.Wp.ifp (by simp; omega) (Gx.Wp.jn fun j hj' => ?_)
  have e1 : Gx.idxS n (i : Int) = some (c.toNat : Int) := idxS_of hc
  have hall : ((bl n).take (i + 1)).all okB = okB c := by
   rw [List.take_add_one, hc, List.all_append, ha]; simp
  have fin : okB c = false → (bl n).all okB = false := by
   intro q
   rw [← Bool.not_eq_true]
   intro q2
   rw [List.all_eq_true] at q2
   rw [q2 c (mem_of hc)] at q; cases q
  refine Gx.Wp.bnd e1 ?_
  by_cases h1 : (c.toNat : Int) ≤ 32
  ·refine Gx.Wp.ifp (by simpa using h1) ?_
   subst hj'
   exact Gx.Wp.ifp rfl (Gx.Wp.of (hf (fin (okB_bad h1))))
  ·refine Gx.Wp.ifn (by simpa using h1) (Gx.Wp.bnd e1 ?_)
   subst hj'
   rw [okB_eq h1]
   cases hk : okB c with
   | false => exact Gx.Wp.ifp rfl (Gx.Wp.of (hf (fin hk)))
   | true =>
    refine Gx.Wp.ifn (by decide) ?_
    rw [Gx.w1 (by omega)]
    exact ih (i + 1) (by omega) (by rw [hall]; exact hk)
theorem rname_spec {k : Nat} (D : CallF) {h : AHeap} (n : ByteArray) (hk : 100 < k) : ref07_Name k D n h = some (mayB n, h) := by
 have : Gx.Wp (ref07_Name k D n h) fun q => q = (mayB n, h) := by
  simp only [ref07_Name]
  refine Gx.Wp.jn fun j hj => ?_
  by_cases he : n = ⟨#[]⟩
  ·have : (n == (⟨#[]⟩ : ByteArray)) = true := by rw [ba_beq, decide_eq_true he]
   refine Gx.Wp.ifp this ?_
   subst hj
   exact Gx.Wp.ifp rfl (Gx.Wp.of (by simp [mayB, he]))
  ·have : (n == (⟨#[]⟩ : ByteArray)) = false := by rw [ba_beq, decide_eq_false he]
   refine Gx.Wp.ifn (by rw [this]; decide) ?_
   subst hj
   by_cases q : n.size ≤ 96
   ·refine Gx.Wp.ifn (by simp; omega) (Gx.Wp.jn fun j6 h6 => ?_)
    unfold ref07_Name_l0
    obtain ⟨bot, eb⟩ := iterK_of (fun _ _ _ => none) (ref07_Name_l0b k D j6) (show n.size + 1 ≤ k by omega)
    rw [eb]
    refine rname_l0 D bot (by omega) j6 (fun ha => ?_) (fun ha => by simp only [mayB, ha]; rfl) n.size 0 (by omega) rfl
    subst h6
    exact Gx.Wp.of (by simp only [mayB, ha, Bool.true_and, decide_eq_true (show n ≠ ⟨#[]⟩ from he), decide_eq_true q])
   ·refine Gx.Wp.ifp (by simp; omega) (Gx.Wp.of ?_)
    simp only [mayB, decide_eq_false q, Bool.and_false]
 obtain ⟨q, e, rfl⟩ := this
 exact e
end Gt
namespace Gt
open Go Gx
theorem Used_spec {k : Nat} (D : CallF) {h : AHeap} {sb rb : Nat} {p : PS} (s : SR h sb rb p) : store_Store_Used k D (some ⟨sb, 0, none⟩) h = some ((tot p.es : Int), h) := by
 obtain ⟨e, hb⟩ := s.blk
 simp only [store_Store_Used]
 exact bnd rfl (bnd (sldI_at hb rfl) rfl)
end Gt
namespace Gt
open Go Gx
variable {F : Nat → Prop}
theorem AccV.rdS {α : Type} {w : Nat} {enc : α → List Value} {e : TypeId} {base : Nat} {h : AHeap} {s : Slc} {xs : List α} (A : AccV w enc e base h s xs) (hw : ∀ x, (enc x).length = w) : Gx.rdS w s h = some (xs.flatMap enc) := by
 rcases A.st with ⟨q1, q2, rfl, q3⟩ | ⟨b, rfl, h2, h3⟩
 ·obtain ⟨a, n, c⟩ := s
  simp only at q1 q2; subst q1 q2
  cases a with
  | none => rfl
  | some a => simp only [Gx.rdS]; simp [AHeap.rdL]
 ·have hl := flatW_length hw xs
  simp only [Gx.rdS]
  rw [← hl]
  exact rdL_all h2
theorem fitsC_eq {n d : ByteArray} (hm : mayB n = true) : fitsC n d = if 131072 < d.size then 2 else 0 := by unfold fitsC; rw [hm]; rfl
def lkR (n : ByteArray) (L : List Ob) : Option ByteArray := if fnd n L = true then (L[fi n L]?).map (·.2) else none
theorem lkR_some {n : ByteArray} {L : List Ob} (h : fnd n L = true) : ∃ x, L[fi n L]? = some x ∧ lkR n L = some x.2 := by
 obtain ⟨x, hx⟩ := isome (fnd_lt h)
 exact ⟨x, hx, by unfold lkR; rw [if_pos h, hx]; rfl⟩
end Gt
namespace Gt
open Go Gx
variable {F : Nat → Prop}
theorem AccV.apart {α : Type} {w : Nat} {enc : α → List Value} {e e' : TypeId} {base : Nat} {h : AHeap} {s : Slc} {xs : List α} {b0 : Nat} {c : List Value} {rw : Bool} {fz : Nat} {B : ABlk} (A : AccV w enc e base h s xs) (hb : h.get b0 = some (.cells c e' rw fz)) (he : e ≠ e') : AccV w enc e base (h.set b0 B) s xs := by
 refine ⟨A.st.imp id ?_, A.lt⟩
 rintro ⟨b, h1, h2, h3⟩
 refine ⟨b, h1, ?_, h3⟩
 simp only [AHeap.get_set]
 rw [if_neg]
 ·exact h2
 ·rintro rfl
  rw [h2] at hb; cases hb; exact he rfl
theorem rFork_spec {k : Nat} (D : CallF) {h : AHeap} {tb : Nat} {r : RSt} (s : RR F h tb r) (hl : r.L.length ≤ 1048576) :
  Gx.Wp (ref07_Store_Fork k D (some ⟨tb, 0, none⟩) h) fun q => q.1 = some ⟨h.next, 0, none⟩ ∧ Keeps h q.2 ∧ RR F q.2 h.next r := by
 obtain ⟨e, l, hb, A⟩ := s.blk
 simp only [ref07_Store_Fork]
 refine Gx.Wp.bnd rfl (Gx.Wp.bnd (sldA_at hb rfl) (Gx.Wp.bnd rfl ?_))
 obtain ⟨H1, e1⟩ : ∃ H1, H1 = h.new (.cells [.int .i64 0, .int .i64 0, .int .i64 0, .bool false, .slice none 0 0] 72 true 0) := ⟨_, rfl⟩
 rw [← e1]
 have k1 : Keeps h H1 := e1 ▸ Keeps.new h _
 have n1 : H1.next = h.next + 1 := by rw [e1]; rfl
 have g1 : H1.get h.next = some (.cells [.int .i64 0, .int .i64 0, .int .i64 0, .bool false, .slice none 0 0] 72 true 0) := by rw [e1]; simp
 refine Gx.Wp.bnd (sstL_at g1 rfl rfl rfl (by decide)) ?_
 obtain ⟨H2, e2⟩ : ∃ H2, H2 = H1.set h.next (.cells [.int .i64 r.quota, .int .i64 r.fails, .int .i64 r.many, .bool r.off, .slice l.a l.len l.cap] 72 true 0) := ⟨_, rfl⟩
 have k2 : Keeps h H2 := Chg.beh (T := (· = h.next)) k1 (e2 ▸ Chg.set (.inr rfl)) fun y hy q => by omega
 have g2 : H2.get h.next = some (.cells [.int .i64 r.quota, .int .i64 r.fails, .int .i64 r.many, .bool r.off, .slice l.a l.len l.cap] 72 true 0) := by rw [e2]; simp
 have n2 : H2.next = h.next + 1 := by rw [e2]; exact n1
 refine Gx.Wp.mono (x := _) (P := _) ?_ fun _ z => z
 have e2' : H1.set h.next (.cells [.int .i64 r.quota, .int .i64 r.fails, .int .i64 r.many, .bool r.off, .slice l.a l.len l.cap] 72 true 0) = H2 := e2.symm
 dsimp only
 rw [e2']
 obtain ⟨H3, e3⟩ : ∃ H3, H3 = H2.new (.cells [] 96 true 0) := ⟨_, rfl⟩
 rw [← e3]
 have k3 : Keeps H2 H3 := e3 ▸ Keeps.new H2 _
 have n3 : H3.next = h.next + 2 := by rw [e3, AHeap.next_new, n2]
 have lt := s.lt
 have hb3 := ((k2.trans k3).oth _ lt fun f => f).trans hb
 have A3 := A.keeps (k2.trans k3)
 have g3 := (k3.oth _ (by omega) fun f => f).trans g2
 refine Gx.Wp.bnd rfl (Gx.Wp.bnd (sldL_at hb3 rfl) (Gx.Wp.bnd (A3.rdS encO_len) ?_))
 have E0 : AccV 2 encO 96 (h.next + 1) H3 (⟨some ⟨H2.next, 0, some 0⟩, 0, 0⟩ : Slc) [] := ⟨.inl ⟨rfl, rfl, rfl, fun a ha => by cases ha; rfl⟩, fun a ha => by cases ha; simp only; omega⟩
 have hn : l.len = r.L.length := (A.row encO_len).len
 obtain ⟨s7, h7, a7, A7, c7, d7⟩ := E0.app encO_len encO_one r.L (bytes := 32) (by decide) (by simp; omega) (by omega)
 rw [List.nil_append] at A7
 rw [show (⟨l.a, l.len, l.cap⟩ : Slc).len = r.L.length from hn]
 refine Gx.Wp.bnd a7 ?_
 have nt : ¬ ofS (⟨some ⟨H2.next, 0, some 0⟩, 0, 0⟩ : Slc) h.next := fun ⟨a, ha, q⟩ => by cases ha; simp only at q; omega
 have kA : Keeps h h7 := Chg.beh (k2.trans k3) c7 fun y hy ⟨a, ha, q⟩ => by cases ha; simp only at q; omega
 obtain ⟨h2, b1, b2, b3⟩ := RR.setL (r := r) (l := l) (by omega) g3 c7 nt A7 (fun a ha => s.up _ (by have := (A7.lt a ha).2; omega)) (fun y hy => s.up y (by omega))
 rw [Nat.zero_add] at b1
 exact Gx.Wp.bnd b1 (Gx.Wp.of ⟨rfl, Chg.beh kA b2 fun y hy q => by omega, b3⟩)
def RSt.putS (r : RSt) (n d : ByteArray) : RSt × Nat :=
 if fitsC n d ≠ 0 then (r, fitsC n d) else if r.quota < totR (lyR n d r.L) then (r, 71) else ({ r with L := lyR n d r.L }, 0)
theorem ly_len (n d : ByteArray) (L : List Ob) : (lyR n d L).length ≤ L.length + 1 := by
 have := fi_le n L
 unfold lyR insO
 split
 ·rename_i c
  have := fnd_lt c
  simp; omega
 ·simp; omega
theorem rput_spec {k : Nat} (D : CallF) {h : AHeap} {tb : Nat} {r : RSt} (s : RR F h tb r) (st kind : Int) (n d : ByteArray) (hl : r.L.length + 1 ≤ 1048576) (hk : r.L.length + 1 < k) (hk2 : 100 < k) (ht : totR (lyR n d r.L) ≤ 1152921504606846976 ∨ fitsC n d ≠ 0) :
  Gx.Wp (ref07_Store_put k D (some ⟨tb, 0, none⟩) (st, kind, n, d) h) fun q => q.1 = ((r.putS n d).2 : Int) ∧ Chg (· = tb) h q.2 ∧ RR F q.2 tb (r.putS n d).1 := by
 simp only [ref07_Store_put]
 obtain ⟨H1, e1⟩ : ∃ H1, H1 = h.new (.cells [.int .i64 st, .int .i64 kind, .string n, .string d] 51 true 0) := ⟨_, rfl⟩
 rw [← e1]
 have k1 : Keeps h H1 := e1 ▸ Keeps.new h _
 have n1 : H1.next = h.next + 1 := by rw [e1]; rfl
 have rq : H1.get h.next = some (.cells [.int .i64 st, .int .i64 kind, .string n, .string d] 51 true 0) := by rw [e1]; simp
 have s1 := s.keeps k1
 have lt := s.lt
 refine Gx.Wp.bnd (ldS_at rq rfl) (Gx.Wp.bnd (rname_spec D n hk2) ?_)
 cases hm : mayB n with
 | false =>
  have eP : r.putS n d = (r, 3) := by unfold RSt.putS; rw [if_pos (by simp [fitsC, hm])]; simp [fitsC, hm]
  rw [eP]
  exact Gx.Wp.ifp rfl (Gx.Wp.of ⟨rfl, Chg.keeps k1, s1⟩)
 | true =>
  refine Gx.Wp.ifn (fun q => by cases q) (Gx.Wp.bnd (ldS_at rq rfl) ?_)
  by_cases q : 131072 < d.size
  ·have ef : fitsC n d = 2 := by rw [fitsC_eq hm, if_pos q]
   have eP : r.putS n d = (r, 2) := by unfold RSt.putS; rw [ef]; rfl
   rw [eP]
   exact Gx.Wp.ifp (by simp; omega) (Gx.Wp.of ⟨rfl, Chg.keeps k1, s1⟩)
  have ef : fitsC n d = 0 := by rw [fitsC_eq hm, if_neg q]
  have ht : totR (lyR n d r.L) ≤ 1152921504606846976 := ht.resolve_right fun z => z ef
  have eP : r.putS n d = if r.quota < totR (lyR n d r.L) then (r, 71) else ({ r with L := lyR n d r.L }, 0) := if_neg (by simp [ef])
  refine Gx.Wp.ifn (by simp; omega) (Gx.Wp.call (rFork_spec D s1 (by omega)) fun r5 h5 => ?_)
  obtain ⟨f1, k5, s5⟩ := h5
  have f1 : r5.1 = some ⟨H1.next, 0, none⟩ := f1
  have k5 : Keeps H1 r5.2 := k5
  have s5 : RR F r5.2 H1.next r := s5
  have m5 := k5.nx
  rw [f1]
  have rq5 := (k5.oth _ (by omega) fun f => f).trans rq
  refine Gx.Wp.bnd (ldS_at rq5 rfl) (Gx.Wp.bnd (ldS_at rq5 rfl) ?_)
  refine Gx.Wp.call (rlay_spec D s5 n d (by omega) (by omega)) fun r8 h8 => ?_
  obtain ⟨c8, s8⟩ := h8
  have k8 : Keeps h r8.2 := Chg.beh (k1.trans k5) c8 fun y hy q => by omega
  have ll := ly_len n d r.L
  refine Gx.Wp.bnd (rused_spec D s8 (by show (lyR n d r.L).length ≤ _; omega) (by show (lyR n d r.L).length < k; omega) ht) ?_
  have s9 := s.keeps k8
  obtain ⟨e, l, hb, A⟩ := s9.blk
  refine Gx.Wp.bnd rfl (Gx.Wp.bnd (sldI_at hb rfl) (Gx.Wp.gp (ssw1 (bnd (sldI_at hb rfl) rfl)) ?_))
  rw [eP]
  by_cases c : r.quota < totR (lyR n d r.L)
  ·rw [if_pos c]
   exact Gx.Wp.ifp (by simp; omega) (Gx.Wp.of ⟨rfl, Chg.keeps k8, s9⟩)
  ·refine Gx.Wp.ifn (by simp; omega) ?_
   rw [if_neg c]
   obtain ⟨e', l', hb', A'⟩ := s8.blk
   refine Gx.Wp.bnd rfl (Gx.Wp.bnd (sldL_at hb' rfl) (Gx.Wp.bnd rfl ?_))
   obtain ⟨h2, b1, b2, b3⟩ := RR.setL (r := r) (S := NoB) s9.lt hb (Chg.refl _ _) (fun f => f) (l2 := l') (L := lyR n d r.L) ⟨A'.st, fun a ha => ⟨(A'.lt a ha).1, by have := (A'.lt a ha).2; omega⟩⟩ (s8.flOf hb') s9.up
   exact Gx.Wp.bnd b1 (Gx.Wp.of ⟨rfl, (Chg.keeps k8).trans b2, b3⟩)
def RSt.up (r : RSt) : RSt := { r with many := r.many + 1 }
def RSt.doS (r : RSt) (kind : Int) (n d : ByteArray) : RSt × Nat × ByteArray × List ByteArray :=
 if r.off = true then (r.up, 70, nob, [])
 else if 0 < r.fails then ({ r.up with fails := r.fails - 1 }, 72, nob, [])
 else if kind = 1 then ((r.up.putS n d).1, (r.up.putS n d).2, nob, [])
 else if kind = 3 then (r.up, 0, nob, (r.L.map (·.1)).filter (starts n))
 else if kind = 2 then (if (lkR n r.L).isSome then (r.up, 0, (lkR n r.L).getD nob, []) else (r.up, 5, nob, []))
 else if kind = 4 then (if (lkR n r.L).isSome then ({ r.up with L := r.L.take (fi n r.L) ++ r.L.drop (fi n r.L + 1) }, 0, nob, []) else (r.up, 5, nob, []))
 else (r.up, 3, nob, [])
def RDoQ (F : Nat → Prop) (h : AHeap) (tb : Nat) (r : RSt) (kind : Int) (n d : ByteArray) (q : (Int × ByteArray × Slc) × AHeap) : Prop :=
 q.1.1 = ((r.doS kind n d).2.1 : Int) ∧ q.1.2.1 = (r.doS kind n d).2.2.1 ∧ Acc encS 9 h.next q.2 q.1.2.2 (r.doS kind n d).2.2.2 ∧ Chg (· = tb) h q.2 ∧ RR F q.2 tb (r.doS kind n d).1
theorem rDo_spec {k : Nat} (D : CallF) {h : AHeap} {tb : Nat} {r : RSt} (s : RR F h tb r) (st kind : Int) (n d : ByteArray) (hl : r.L.length + 1 ≤ 1048576) (hc : r.many ≤ 1099511627776) (hf : r.fails ≤ 1048576) (hk : r.L.length + 1 < k) (hk2 : 100 < k)
  (ht : kind = 1 → totR (lyR n d r.L) ≤ 1152921504606846976 ∨ fitsC n d ≠ 0) : Gx.Wp (ref07_Store_Do k D (some ⟨tb, 0, none⟩) (st, kind, n, d) h) (RDoQ F h tb r kind n d) := by
 simp only [ref07_Store_Do]
 obtain ⟨H1, e1⟩ : ∃ H1, H1 = h.new (.cells [.int .i64 st, .int .i64 kind, .string n, .string d] 51 true 0) := ⟨_, rfl⟩
 rw [← e1]
 obtain ⟨H2, e2⟩ : ∃ H2, H2 = H1.new (.cells [.int .i64 0, .string ⟨#[]⟩, .slice none 0 0] 59 true 0) := ⟨_, rfl⟩
 rw [← e2]
 have k1 : Keeps h H1 := e1 ▸ Keeps.new h _
 have k2 : Keeps h H2 := k1.trans (e2 ▸ Keeps.new H1 _)
 have n1 : H1.next = h.next + 1 := by rw [e1]; rfl
 have n2 : H2.next = h.next + 2 := by rw [e2]; simp [n1]
 have rq : H2.get h.next = some (.cells [.int .i64 st, .int .i64 kind, .string n, .string d] 51 true 0) := by
  rw [e2]; simp only [AHeap.get_new]; rw [if_neg (by omega), e1]; simp
 have rs : H2.get H1.next = some (.cells [.int .i64 0, .string ⟨#[]⟩, .slice none 0 0] 59 true 0) := by rw [e2]; simp
 have s2 := s.keeps k2
 have lt1 := s.lt
 obtain ⟨e, l, hb, A⟩ := s2.blk
 refine Gx.Wp.bnd rfl (Gx.Wp.bnd (sldI_at hb rfl) (Gx.Wp.bnd rfl ?_))
 rw [w64 _ (by omega)]
 refine Gx.Wp.bnd (st1_sb hb (by show 0 + 2 < 5; omega) rfl) ?_
 obtain ⟨H, eH⟩ : ∃ H, H = H2.set tb (.cells [.int .i64 r.quota, .int .i64 r.fails, .int .i64 ((r.many + 1 : Nat) : Int), .bool r.off, .slice l.a l.len l.cap] 72 true 0) := ⟨_, rfl⟩
 have eH' : H2.set tb (.cells ([Value.int .i64 r.quota, .int .i64 r.fails, .int .i64 r.many, .bool r.off, .slice l.a l.len l.cap].set (0 + 2) (.int .i64 ((r.many : Int) + 1))) 72 true 0) = H := eH.symm
 dsimp only
 rw [eH']
 have cH2 : Chg (· = tb) H2 H := eH ▸ Chg.set (.inr rfl)
 have cH : Chg (· = tb) h H := (Chg.keeps k2).trans cH2
 have nH : H.next = h.next + 2 := by rw [eH]; exact n2
 have hbH : H.get tb = some (.cells [.int .i64 r.quota, .int .i64 r.fails, .int .i64 ((r.many + 1 : Nat) : Int), .bool r.off, .slice l.a l.len l.cap] 72 true 0) := by rw [eH]; simp
 have AH := A.chg cH2 fun a ha q => by have := (A.lt a ha).2; omega
 have sH : RR F H tb r.up := ⟨⟨e, l, hbH, AH⟩, by omega, fl_of hbH (s2.flOf hb), fun y hy => s2.up y (by omega)⟩
 have rqH : H.get h.next = some (.cells [.int .i64 st, .int .i64 kind, .string n, .string d] 51 true 0) := (cH2.oth _ (by omega) (by omega)).trans rq
 have rsH : H.get H1.next = some (.cells [.int .i64 0, .string ⟨#[]⟩, .slice none 0 0] 59 true 0) := (cH2.oth _ (by omega) (by omega)).trans rs
 have fin : ∀ (K : AHeap) (r' : RSt) (cd : Nat) (dt : ByteArray) (sl : Slc) (lst : List ByteArray), Chg (· = tb) H K → RR F K tb r' → Acc encS 9 H.next K sl lst → r.doS kind n d = (r', cd, dt, lst) →
   Gx.Wp ((Gx.stL 3 (⟨H1.next, 0, none⟩ : Addr) ([.int .i64 (cd : Int), .string dt, .slice sl.a sl.len sl.cap]) K).bind fun h7 => (Gx.ldA 3 (⟨H1.next, 0, none⟩ : Addr) h7).bind fun l8 => (decC [.i .i64, .s, .l] l8).bind fun x9 => some ((x9.1, x9.2.1, x9.2.2), h7)) (RDoQ F h tb r kind n d) := by
  intro K r' cd dt sl lst cK sK AK eq
  have rsK : K.get H1.next = some (.cells [.int .i64 0, .string ⟨#[]⟩, .slice none 0 0] 59 true 0) := (cK.oth _ (by omega) (by omega)).trans rsH
  refine fin3 rsK rfl _ _ _ ?_
  unfold RDoQ
  rw [eq]
  refine ⟨rfl, rfl, ⟨?_, fun a ha => ⟨(AK.lt a ha).1, by have := (AK.lt a ha).2; omega⟩⟩, Chg.beh (T := (· = H1.next)) (cH.trans cK) (Chg.set (.inr rfl)) (fun x hx q => by omega), ?_⟩
  ·exact (AK.chg (S := fun y => y = H1.next) (Chg.set (.inr rfl)) fun a ha q => by have := (AK.lt a ha).2; omega).st
  ·obtain ⟨e', l', hb', A'⟩ := sK.blk
   exact RR.make (l := l') (by simp only [AHeap.get_set]; rw [if_neg (by omega)]; exact hb') (A'.apart rsK (by decide)) sK.lt (sK.flOf hb') sK.up
 have ans : ∀ (r' : RSt) (cd : Nat) (dt : ByteArray), RR F H tb r' → r.doS kind n d = (r', cd, dt, []) →
   Gx.Wp ((Gx.stL 3 (⟨H1.next, 0, none⟩ : Addr) ([.int .i64 (cd : Int), .string dt, .slice none 0 0]) H).bind fun h7 => (Gx.ldA 3 (⟨H1.next, 0, none⟩ : Addr) h7).bind fun l8 => (decC [.i .i64, .s, .l] l8).bind fun x9 => some ((x9.1, x9.2.1, x9.2.2), h7)) (RDoQ F h tb r kind n d) :=
  fun r' cd dt s' eq => fin H r' cd dt ⟨none, 0, 0⟩ [] (Chg.refl _ _) s' acc0 eq
 refine Gx.Wp.bnd rfl (Gx.Wp.bnd (ldB_at hbH rfl) ?_)
 by_cases c1 : r.off = true
 ·refine Gx.Wp.ifp c1 (ans r.up 70 nob sH ?_)
  unfold RSt.doS; rw [if_pos c1]
 refine Gx.Wp.ifn c1 (Gx.Wp.bnd rfl (Gx.Wp.bnd (sldI_at hbH rfl) ?_))
 by_cases c2 : 0 < r.fails
 ·refine Gx.Wp.ifp (by simp; omega) ?_
  refine Gx.Wp.bnd rfl (Gx.Wp.bnd (sldI_at hbH rfl) (Gx.Wp.bnd rfl ?_))
  rw [w64 _ (by omega)]
  refine Gx.Wp.bnd (st1_sb hbH (by show 0 + 1 < 5; omega) rfl) ?_
  refine fin _ { r.up with fails := r.fails - 1 } 72 nob ⟨none, 0, 0⟩ [] (Chg.set (.inr rfl)) (RR.make (l := l) ?_ (AH.chg (S := (· = tb)) (Chg.set (.inr rfl)) fun a ha q => by have := (AH.lt a ha).2; omega) sH.lt (sH.flOf hbH) sH.up) acc0 ?_
  ·rw [sset_get]
   have : ((r.fails : Int) - 1) = ((r.fails - 1 : Nat) : Int) := by omega
   rw [this]; rfl
  ·unfold RSt.doS; rw [if_neg c1, if_pos c2]
 refine Gx.Wp.ifn (by simp; omega) (Gx.Wp.bnd (ldS_at rqH rfl) (Gx.Wp.bnd (rfind_spec D sH n (by show r.L.length ≤ _; omega) (by show r.L.length < k; omega)) ?_))
 refine Gx.Wp.jn fun j25 h25 => Gx.Wp.bnd (sldI_at rqH rfl) ?_
 have none5 : r.doS kind n d = (r.up, 5, nob, []) → Gx.Wp (j25 (some ⟨H1.next, 0, none⟩) H) (RDoQ F h tb r kind n d) := fun eq => by
  subst h25
  exact Gx.Wp.bnd rfl (ans r.up 5 nob sH eq)
 by_cases c3 : kind = 1
 ·refine Gx.Wp.ifp (by simpa using c3) ?_
  refine Gx.Wp.bnd (sldA_at rqH rfl) (Gx.Wp.bnd rfl ?_)
  refine Gx.Wp.call (rput_spec D sH st kind n d hl hk hk2 (ht c3)) fun q hq => ?_
  obtain ⟨r1, r2, r3⟩ := hq
  rw [r1]
  refine fin q.2 _ _ nob ⟨none, 0, 0⟩ [] r2 r3 acc0 ?_
  unfold RSt.doS; rw [if_neg c1, if_neg c2, if_pos c3]
 refine Gx.Wp.ifn (by simpa using c3) ?_
 by_cases c5 : kind = 3
 ·refine Gx.Wp.ifp (by simpa using c5) (Gx.Wp.bnd (ldS_at rqH rfl) ?_)
  refine Gx.Wp.call (rnames_spec D sH n (by show r.L.length ≤ _; omega) (by show r.L.length < k; omega)) fun q hq => ?_
  obtain ⟨r1, r2⟩ := hq
  refine fin q.2 r.up 0 nob q.1 _ (Chg.keeps r1) (sH.keeps r1) r2 ?_
  unfold RSt.doS; rw [if_neg c1, if_neg c2, if_neg c3, if_pos c5]; rfl
 refine Gx.Wp.ifn (by simpa using c5) ?_
 have hfnd : r.up.L = r.L := rfl
 by_cases c4 : kind = 2
 ·refine Gx.Wp.ifp (by simpa using c4) ?_
  cases c : fnd n r.L with
  | false =>
   have el : lkR n r.L = none := by unfold lkR; rw [c]; rfl
   rw [hfnd, c]
   refine Gx.Wp.ifn (fun q => by cases q) (none5 ?_)
   unfold RSt.doS; rw [if_neg c1, if_neg c2, if_neg c3, if_neg c5, if_pos c4, el]; rfl
  | true =>
   obtain ⟨x, hx, el⟩ := lkR_some c
   rw [hfnd, c]
   obtain ⟨q, q1, _, _, q2⟩ := (AH.row encO_len).ld encO_len (by decide) hx
   refine Gx.Wp.ifp rfl (Gx.Wp.bnd rfl (Gx.Wp.bnd (sldL_at hbH rfl) (Gx.Wp.bnd q1 (Gx.Wp.bnd (q2 1 x.2 rfl) (ans r.up 0 x.2 sH ?_)))))
   unfold RSt.doS; rw [if_neg c1, if_neg c2, if_neg c3, if_neg c5, if_pos c4, el]; rfl
 refine Gx.Wp.ifn (by simpa using c4) ?_
 by_cases c6 : kind = 4
 ·refine Gx.Wp.ifp (by simpa using c6) ?_
  cases c : fnd n r.L with
  | false =>
   have el : lkR n r.L = none := by unfold lkR; rw [c]; rfl
   rw [hfnd, c]
   refine Gx.Wp.ifn (fun q => by cases q) (none5 ?_)
   unfold RSt.doS; rw [if_neg c1, if_neg c2, if_neg c3, if_neg c5, if_neg c4, if_pos c6, el]; rfl
  | true =>
   obtain ⟨x, hx, el⟩ := lkR_some c
   rw [hfnd, c]
   refine Gx.Wp.ifp rfl (Gx.Wp.call (rremove_spec D sH (fnd_lt c) (by show r.L.length ≤ _; omega)) fun q hq => ?_)
   refine fin q.2 _ 0 nob ⟨none, 0, 0⟩ [] hq.1 hq.2 acc0 ?_
   unfold RSt.doS; rw [if_neg c1, if_neg c2, if_neg c3, if_neg c5, if_neg c4, if_pos c6, el]; rfl
 refine Gx.Wp.ifn (by simpa using c6) (ans r.up 3 nob sH ?_)
 unfold RSt.doS; rw [if_neg c1, if_neg c2, if_neg c3, if_neg c5, if_neg c4, if_neg c6]
end Gt
namespace Gt
open Go Gx
end Gt
namespace Gt
open Go Gx
abbrev Rp := Int × ByteArray × Slc
abbrev Ry := Int × ByteArray × List ByteArray
def encP (x : Rp) : List Value := [.int .i64 x.1, .string x.2.1, .slice x.2.2.a x.2.2.len x.2.2.cap]
theorem encP_len (x : Rp) : (encP x).length = 3 := rfl
theorem encP_one (x : Rp) : allOne (encP x) = true := rfl
def Say (h : AHeap) (xs : List Rp) (ys : List Ry) : Prop := xs.length = ys.length ∧ ∀ (i : Nat) x y, xs[i]? = some x → ys[i]? = some y → x.1 = y.1 ∧ x.2.1 = y.2.1 ∧ Row encS h x.2.2 y.2.2
theorem Say.keeps {h h' : AHeap} {xs : List Rp} {ys : List Ry} (s : Say h xs ys) (k : Keeps h h') : Say h' xs ys := ⟨s.1, fun i x y a b => ⟨(s.2 i x y a b).1, (s.2 i x y a b).2.1, Row.keeps (s.2 i x y a b).2.2 k⟩⟩
structure Rz where
 code : Int
 n : Nat
 ids : List ByteArray
 texts : List ByteArray
def Rz.add (z : Rz) (y : Ry) : Rz := ⟨if y.1 = 0 then z.code else if z.code = 0 then y.1 else z.code, if y.1 = 0 then z.n + 1 else z.n, z.ids ++ y.2.2, z.texts ++ [y.2.1]⟩
def Rz.zero : Rz := ⟨0, 0, [], []⟩
def Rz.of (ys : List Ry) : Rz := ys.foldl Rz.add Rz.zero
def idsL : List Ry → Nat
 | [] => 0
 | y :: l => y.2.2.length + idsL l
structure ZA (h : AHeap) (rb : Nat) (z : Rz) : Prop where
 blk : ∃ s t : Slc, h.get rb = some (.cells [.int .i64 z.code, .string ⟨#[]⟩, .int .i64 z.n, .slice s.a s.len s.cap, .slice t.a t.len t.cap, .slice none 0 0, .slice none 0 0] 42 true 0) ∧ Acc encS 9 (rb + 1) h s z.ids ∧ Acc encS 9 (rb + 1) h t z.texts ∧ ApartS s t
 lt : rb < h.next
end Gt
namespace Gt
open Go Gx
structure Io where
 q : Rp × ByteArray
 th : Value
 over : Bool
 code : Int
 n : Int
 ids : Slc
 texts : Slc
 steps : Nat
abbrev Rq := Int × Int × ByteArray × ByteArray
def encQ (r : Rq) : List Value := [.int .i64 r.1, .int .i64 r.2.1, .string r.2.2.1, .string r.2.2.2]
theorem encQ_len (r : Rq) : (encQ r).length = 4 := rfl
theorem encQ_one (r : Rq) : allOne (encQ r) = true := rfl
def ioC (q : Rq) (th : Value) (over : Bool) (code n : Int) (ids texts : Slc) (steps : Nat) : List Value :=
 [.int .i64 q.1, .int .i64 q.2.1, .string q.2.2.1, .string q.2.2.2, th, .bool over, .int .i64 code, .string ⟨#[]⟩, .int .i64 n, .slice ids.a ids.len ids.cap, .slice texts.a texts.len texts.cap, .slice none 0 0, .slice none 0 0, .int .i64 steps]
theorem stL_part {h : AHeap} {b o : Nat} {sp : Option Nat} {c cs : List Value} {e : TypeId} (hb : h.get b = some (.cells c e true 0)) (hn : cs ≠ []) (hl : o + cs.length ≤ c.length) (ho : allOne cs = true) : Gx.stL cs.length ⟨b, o, sp⟩ cs h = some (h.set b (.cells (splice c o cs) e true 0)) := by
 unfold stL
 rw [Nat.beq_refl, cond_true]
 cases cs with
 | nil => exact absurd rfl hn
 | cons v t =>
  simp only [AHeap.wrL, hb]
  rw [if_pos ⟨hl, Nat.zero_le _, ho⟩]
theorem End_spec {k : Nat} (D : CallF) {h : AHeap} {ib : Nat} {q : Rq} {th : Value} {st : Nat} {code n : Int} {ids texts : Slc} {i0 t0 : Slc} {c0 n0 : Int} (hb : h.get ib = some (.cells (ioC q th false c0 n0 i0 t0 st) 89 true 0)) (hlt : ib < h.next) :
  Gx.Wp (port_IO_End k D (some ⟨ib, 0, none⟩) (code, ⟨#[]⟩, n, ids, texts, ⟨none, 0, 0⟩, ⟨none, 0, 0⟩) h) fun z => Chg (· = ib) h z.2 ∧ z.2.get ib = some (.cells (ioC q .nilFunc true code n ids texts st) 89 true 0) := by
 simp only [port_IO_End]
 obtain ⟨H1, e1⟩ : ∃ H1, H1 = h.new (.cells [.int .i64 code, .string ⟨#[]⟩, .int .i64 n, .slice ids.a ids.len ids.cap, .slice texts.a texts.len texts.cap, .slice none 0 0, .slice none 0 0] 42 true 0) := ⟨_, rfl⟩
 rw [← e1]
 have k1 : Keeps h H1 := e1 ▸ Keeps.new h _
 have g1 : H1.get h.next = some (.cells [.int .i64 code, .string ⟨#[]⟩, .int .i64 n, .slice ids.a ids.len ids.cap, .slice texts.a texts.len texts.cap, .slice none 0 0, .slice none 0 0] 42 true 0) := by rw [e1]; simp
 have hb1 := (k1.oth _ hlt fun f => f).trans hb
 refine Gx.Wp.bnd rfl (Gx.Wp.bnd (ldB_at hb1 rfl) (Gx.Wp.ifp rfl (Gx.Wp.bnd rfl (Gx.Wp.bnd (st1_sb hb1 (by show 0 + 5 < 14; omega) rfl) ?_))))
 have g2 : ∀ B, (H1.set ib B).get h.next = some (.cells [.int .i64 code, .string ⟨#[]⟩, .int .i64 n, .slice ids.a ids.len ids.cap, .slice texts.a texts.len texts.cap, .slice none 0 0, .slice none 0 0] 42 true 0) := fun B => by simp only [AHeap.get_set]; rw [if_neg (by omega)]; exact g1
 refine Gx.Wp.bnd (sldA_at (g2 _) rfl) (Gx.Wp.gp (ssw1 (bnd (sldA_at g1 rfl) rfl)) (Gx.Wp.bnd rfl (Gx.Wp.bnd rfl ?_)))
 refine Gx.Wp.bnd (stL_part (cs := [.int .i64 code, .string ⟨#[]⟩, .int .i64 n, .slice ids.a ids.len ids.cap, .slice texts.a texts.len texts.cap, .slice none 0 0, .slice none 0 0]) (sset_get _ _ _) (by simp) (by show 0 + 6 + 7 ≤ 14; omega) rfl) ?_
 refine Gx.Wp.bnd rfl (Gx.Wp.bnd (st1_sb (sset_get _ _ _) (by show 0 + 4 < 14; omega) rfl) (Gx.Wp.of ⟨?_, ?_⟩))
 ·exact (Chg.keeps k1).trans ((Chg.set (S := (· = ib)) (.inr rfl)).trans ((Chg.set (S := (· = ib)) (.inr rfl)).trans (Chg.set (S := (· = ib)) (.inr rfl))))
 ·rw [sset_get]; rfl
end Gt
namespace Gt
open Go Gx
theorem RowW.rdS {α : Type} {w : Nat} {enc : α → List Value} {h : AHeap} {s : Slc} {xs : List α} (R : RowW w enc h s xs) (hw : ∀ x, (enc x).length = w) (hw0 : 0 < w) : Gx.rdS w s h = some (xs.flatMap enc) := by
 cases xs with
 | nil =>
  have : s.len = 0 := R.len
  simp only [Gx.rdS, this]
  cases s.a with
  | none => rfl
  | some a => simp [AHeap.rdL]
 | cons y ys =>
  obtain ⟨a, c, e, r, fz, h1, h2, h3, _⟩ := R.at' 0 y rfl
  have each : ∀ (i : Nat) (x : α), (y :: ys)[i]? = some x → ∀ (j : Nat) (v : Value), (enc x)[j]? = some v → c[a.off + i * w + j]? = some v := fun i x hx => by
   obtain ⟨a', c', e', r', fz', g1, _, g3, g4⟩ := R.at' i x hx
   rw [h1] at g1; cases g1
   rw [h3] at g3; cases g3
   exact g4
  have hl := flatW_length hw (y :: ys)
  have fl : ∀ j, j < (y :: ys).length * w → c[a.off + j]? = ((y :: ys).flatMap enc)[j]? := fun j hj => by
   have hi : j / w < (y :: ys).length := (Nat.div_lt_iff_lt_mul hw0).2 hj
   obtain ⟨x, hx⟩ := isome hi
   have hr : j % w < (enc x).length := by rw [hw]; exact Nat.mod_lt _ hw0
   obtain ⟨v, hv⟩ := isome hr
   have e1 := each _ x hx _ v hv
   have e2 := flatW_get hw hx _ v hv
   have ej : j / w * w + j % w = j := Nat.div_add_mod' j w
   rw [show a.off + j / w * w + j % w = a.off + j by omega] at e1
   rw [ej] at e2
   rw [e1, e2]
  simp only [Gx.rdS, h1, R.len]
  cases hm : (y :: ys).length * w with
  | zero =>
   have : 0 < (y :: ys).length * w := Nat.mul_pos (by simp) hw0
   omega
  | succ m =>
   have hlast := fl m (by omega)
   obtain ⟨v, hv⟩ := isome (l := (y :: ys).flatMap enc) (i := m) (by omega)
   rw [hv] at hlast
   have := (List.getElem?_eq_some_iff.1 hlast).1
   simp only [AHeap.rdL, h3]
   rw [if_pos (by omega)]
   congr 1
   apply List.ext_getElem?
   intro j
   rw [List.getElem?_take, List.getElem?_drop]
   by_cases hj : j < m + 1
   ·rw [if_pos hj]; exact fl j (by omega)
   ·rw [if_neg hj, List.getElem?_eq_none (by omega)]
theorem empty0 {α : Type} {w : Nat} {enc : α → List Value} {e : TypeId} {base : Nat} {h : AHeap} {b : Nat} (hb : base ≤ b) (hl : b < h.next) : AccV w enc e base h (⟨some ⟨b, 0, some 0⟩, 0, 0⟩ : Slc) [] :=
 ⟨.inl ⟨rfl, rfl, rfl, fun a ha => by cases ha; rfl⟩, fun a ha => by cases ha; exact ⟨hl, hb⟩⟩
def encS1 (x : ByteArray) : List Value := [encS x]
theorem encS1_len (x : ByteArray) : (encS1 x).length = 1 := rfl
theorem encS1_one (x : ByteArray) : allOne (encS1 x) = true := rfl
theorem flatS : ∀ xs : List ByteArray, xs.flatMap encS1 = xs.map encS
 | [] => rfl
 | x :: xs => by rw [List.flatMap_cons, flatS xs]; rfl
theorem RowW.rowS {h : AHeap} {s : Slc} {xs : List ByteArray} (R : RowW 1 encS1 h s xs) : Row encS h s xs := by
 refine ⟨R.len, fun i x hx => ?_⟩
 obtain ⟨a, c, e, r, fz, h1, h2, h3, h4⟩ := R.at' i x hx
 have := h4 0 (encS x) rfl
 rw [Nat.mul_one, Nat.add_zero] at this
 exact ⟨a, c, e, r, fz, h1, h2, h3, this⟩
theorem cloneS_spec {k : Nat} (D : CallF) {h : AHeap} {s : Slc} {xs : List ByteArray} (R : Row encS h s xs) (hl : xs.length ≤ 1099511627776) : Gx.Wp (slices_Clone_string_string k D s h) fun q => Keeps h q.2 ∧ Row encS q.2 q.1 xs ∧ ∀ a, q.1.a = some a → h.next ≤ a.block := by
 simp only [slices_Clone_string_string]
 by_cases c : s.a = none
 ·have : xs = [] := by
   cases xs with
   | nil => rfl
   | cons x xs =>
    obtain ⟨a, _, _, _, _, h1, _⟩ := R.2 0 x rfl
    rw [c] at h1; cases h1
  subst this
  exact Gx.Wp.ifp (by rw [c]; rfl) (Gx.Wp.of ⟨Chg.refl _ _, ⟨rfl, fun i x hx => by simp at hx⟩, fun a ha => by cases ha⟩)
 ·refine Gx.Wp.ifn (by cases hs : s.a with | none => exact absurd hs c | some a => simp) ?_
  obtain ⟨H1, e1⟩ : ∃ H1, H1 = h.new (.cells [] 9 true 0) := ⟨_, rfl⟩
  rw [← e1]
  have k1 : Keeps h H1 := e1 ▸ Keeps.new h _
  have n1 : H1.next = h.next + 1 := by rw [e1]; rfl
  refine Gx.Wp.bnd (Row.keeps R k1).rdS ?_
  obtain ⟨s7, h7, a7, A7, c7, d7⟩ := (empty0 (w := 1) (enc := encS1) (e := 9) (base := h.next) (h := H1) (b := h.next) (Nat.le_refl _) (by omega)).app encS1_len encS1_one xs (bytes := 16) (by decide) (by simp; omega) (by omega)
  rw [flatS] at a7
  rw [show s.len = xs.length from R.1]
  refine Gx.Wp.bnd a7 (Gx.Wp.of ⟨Chg.beh k1 c7 fun y hy ⟨a, ha, q⟩ => by cases ha; simp only at q; omega, ?_, fun a ha => (A7.lt a ha).2⟩)
  rw [List.nil_append] at A7
  exact RowW.rowS (A7.row encS1_len)
theorem cloneQ_spec {k : Nat} (D : CallF) {h : AHeap} {s : Slc} {xs : List Rq} (R : RowW 4 encQ h s xs) (hl : xs.length ≤ 1048576) : Gx.Wp (slices_Clone_api_Req_api_Req k D s h) fun q => Keeps h q.2 ∧ AccV 4 encQ 51 h.next q.2 q.1 xs := by
 simp only [slices_Clone_api_Req_api_Req]
 by_cases c : s.a = none
 ·have : xs = [] := by
   cases xs with
   | nil => rfl
   | cons x xs =>
    obtain ⟨a, _, _, _, _, h1, _⟩ := R.at' 0 x rfl
    rw [c] at h1; cases h1
  subst this
  exact Gx.Wp.ifp (by rw [c]; rfl) (Gx.Wp.of ⟨Chg.refl _ _, AccV.nil _ _ _ _ _⟩)
 ·refine Gx.Wp.ifn (by cases hs : s.a with | none => exact absurd hs c | some a => simp) ?_
  obtain ⟨H1, e1⟩ : ∃ H1, H1 = h.new (.cells [] 51 true 0) := ⟨_, rfl⟩
  rw [← e1]
  have k1 : Keeps h H1 := e1 ▸ Keeps.new h _
  have n1 : H1.next = h.next + 1 := by rw [e1]; rfl
  refine Gx.Wp.bnd (RowW.rdS (R.keeps k1) encQ_len (by decide)) ?_
  obtain ⟨s7, h7, a7, A7, c7, d7⟩ := (empty0 (w := 4) (enc := encQ) (e := 51) (base := h.next) (h := H1) (b := h.next) (Nat.le_refl _) (by omega)).app encQ_len encQ_one xs (bytes := 48) (by decide) (by simp; omega) (by omega)
  rw [show s.len = xs.length from R.len]
  rw [List.nil_append] at A7
  exact Gx.Wp.bnd a7 (Gx.Wp.of ⟨Chg.beh k1 c7 fun y hy ⟨a, ha, q⟩ => by cases ha; simp only at q; omega, A7⟩)
structure JN where
 jb : Nat
 ib : Nat
 ab : Nat
 lb : Nat
 tb : Nat
 ob : Nat
 nb : Nat
 b1 : Nat
 ac : Nat
 ls : Slc
def ptr (b : Nat) : Value := .pointer (some ⟨b, 0, none⟩)
def JN.next (N : JN) : Value := .func (.func 94) ⟨[]⟩ ⟨[ptr N.ab, ptr N.lb, ptr N.tb, ptr N.ob, ptr N.nb]⟩
def JN.back (N : JN) : Value := .func (.func 96) ⟨[]⟩ ⟨[ptr N.ab, ptr N.nb]⟩
structure JW (h : AHeap) (base : Nat) (N : JN) (qs : List Rq) : Prop where
 l : h.get N.lb = some (.cells [.slice N.ls.a N.ls.len N.ls.cap] 124 true 0)
 t : h.get N.tb = some (.cells [.func (.func 73) ⟨[]⟩ ⟨[ptr N.b1]⟩] 127 true 0)
 o : h.get N.ob = some (.cells [ptr N.ib] 34 true 0)
 b : h.get N.b1 = some (.cells [ptr N.ib] 34 true 0)
 n : h.get N.nb = some (.cells [N.next] 1 true 0)
 ls : AccV 4 encQ 51 base h N.ls qs
 lt : (N.lb < h.next ∧ N.tb < h.next ∧ N.ob < h.next ∧ N.b1 < h.next ∧ N.nb < h.next) ∧ N.ib < h.next ∧ N.ab < h.next ∧ N.ac < h.next
 ge : (base ≤ N.lb ∧ base ≤ N.tb ∧ base ≤ N.ob ∧ base ≤ N.b1 ∧ base ≤ N.nb) ∧ base ≤ N.ib ∧ base ≤ N.ab ∧ base ≤ N.ac
theorem JW.keeps {h h' : AHeap} {base : Nat} {N : JN} {qs : List Rq} (W : JW h base N qs) (k : Keeps h h') : JW h' base N qs := by
 obtain ⟨⟨l1, l2, l3, l4, l5⟩, l6, l7, l8⟩ := W.lt
 have nx := k.nx
 exact ⟨(k.oth _ l1 fun f => f).trans W.l, (k.oth _ l2 fun f => f).trans W.t, (k.oth _ l3 fun f => f).trans W.o, (k.oth _ l4 fun f => f).trans W.b, (k.oth _ l5 fun f => f).trans W.n, W.ls.keeps k, by omega, W.ge⟩
def JT (N : JN) (y : Nat) : Prop := y = N.ib ∨ y = N.ab ∨ y = N.ac
structure JK (h : AHeap) (N : JN) : Prop where
 i : ∃ c, h.get N.ib = some (.cells c 89 true 0)
 a : ∃ c, h.get N.ab = some (.cells c 36 true 0)
 c : ∃ c, h.get N.ac = some (.cells c 59 true 0)
theorem JK.not {h : AHeap} {N : JN} (K : JK h N) {y : Nat} {c : List Value} {e : TypeId} {r : Bool} {fz : Nat} (hy : h.get y = some (.cells c e r fz)) (he : e ≠ 89 ∧ e ≠ 36 ∧ e ≠ 59) : ¬ JT N y := by
 obtain ⟨⟨c1, h1⟩, ⟨c2, h2⟩, ⟨c3, h3⟩⟩ := K
 rintro (rfl | rfl | rfl)
 ·rw [h1] at hy; cases hy; exact he.1 rfl
 ·rw [h2] at hy; cases hy; exact he.2.1 rfl
 ·rw [h3] at hy; cases hy; exact he.2.2 rfl
theorem JW.chg {h h' : AHeap} {base : Nat} {N : JN} {qs : List Rq} (W : JW h base N qs) (K : JK h N) (k : Chg (JT N) h h') : JW h' base N qs := by
 obtain ⟨⟨l1, l2, l3, l4, l5⟩, l6, l7, l8⟩ := W.lt
 have nx := k.nx
 refine ⟨(k.oth _ l1 (K.not W.l (by decide))).trans W.l, (k.oth _ l2 (K.not W.t (by decide))).trans W.t, (k.oth _ l3 (K.not W.o (by decide))).trans W.o, (k.oth _ l4 (K.not W.b (by decide))).trans W.b, (k.oth _ l5 (K.not W.n (by decide))).trans W.n, ⟨W.ls.st.imp id ?_, fun a ha => ⟨Nat.lt_of_lt_of_le (W.ls.lt a ha).1 nx, (W.ls.lt a ha).2⟩⟩, by omega, W.ge⟩
 rintro ⟨b, h1, h2, h3⟩
 exact ⟨b, h1, (k.oth b (W.ls.lt ⟨b, 0, some (4 + 1)⟩ (by rw [h1])).1 (K.not h2 (by decide))).trans h2, h3⟩
end Gt
namespace Gt
open Go Gx
theorem blk_ne {h : AHeap} {b b' : Nat} {c c' : List Value} {e e' : TypeId} {r r' : Bool} {fz fz' : Nat} (h1 : h.get b = some (.cells c e r fz)) (h2 : h.get b' = some (.cells c' e' r' fz')) (he : e ≠ e') : b ≠ b' := by
 rintro rfl
 rw [h1] at h2
 exact he (ABlk.cells.inj (Option.some.inj h2)).2.1
structure JD (h : AHeap) (N : JN) (qs : List Rq) (xs : List Rp) : Prop where
 a : h.get N.ab = some (.cells [.slice (some ⟨N.ac, 0, some 0⟩) xs.length qs.length] 36 true 0)
 c : ∃ rest, h.get N.ac = some (.cells (xs.flatMap encP ++ rest) 59 true 0) ∧ rest.length = (qs.length - xs.length) * 3
 le : xs.length ≤ qs.length
theorem JD.io {h h' : AHeap} {N : JN} {qs : List Rq} {xs : List Rp} (d : JD h N qs xs) {c : List Value} (hi : h.get N.ib = some (.cells c 89 true 0)) (l1 : N.ab < h.next) (l2 : N.ac < h.next) (k : Chg (· = N.ib) h h') : JD h' N qs xs := by
 obtain ⟨rest, hc, hr⟩ := d.c
 have n1 : ¬ N.ab = N.ib := blk_ne d.a hi (by decide)
 have n2 : ¬ N.ac = N.ib := blk_ne hc hi (by decide)
 exact ⟨(k.oth _ l1 n1).trans d.a, ⟨rest, (k.oth _ l2 n2).trans hc, hr⟩, d.le⟩
theorem JD.keeps {h h' : AHeap} {N : JN} {qs : List Rq} {xs : List Rp} (d : JD h N qs xs) (l1 : N.ab < h.next) (l2 : N.ac < h.next) (k : Keeps h h') : JD h' N qs xs := by
 obtain ⟨rest, hc, hr⟩ := d.c
 exact ⟨(k.oth _ l1 fun f => f).trans d.a, ⟨rest, (k.oth _ l2 fun f => f).trans hc, hr⟩, d.le⟩
def Aft (base : Nat) (h' : AHeap) (N : JN) (qs : List Rq) (ys : List Ry) (q : Rq) (c0 n0 : Int) (i0 t0 : Slc) (st : Nat) : Prop :=
 (ys.length = qs.length ∧ ∃ s t : Slc, h'.get N.ib = some (.cells (ioC q .nilFunc true (Rz.of ys).code (Rz.of ys).n s t st) 89 true 0) ∧ Acc encS 9 base h' s (Rz.of ys).ids ∧ Acc encS 9 base h' t (Rz.of ys).texts) ∨
 (∃ q', qs[ys.length]? = some q' ∧ h'.get N.ib = some (.cells (ioC q' N.back false c0 n0 i0 t0 st) 89 true 0))
theorem ldP_at {h : AHeap} {b o : Nat} {sp : Option Nat} {c : List Value} {e : TypeId} {r : Bool} {fz : Nat} {m : Option Addr} (hb : h.get b = some (.cells c e r fz)) (hc : c[o]? = some (.pointer m)) : Gx.ldP ⟨b, o, sp⟩ h = some m := by
 simp only [Gx.ldP, AHeap.rd1, hb, hc]; rfl
theorem ldV_at {h : AHeap} {b o : Nat} {sp : Option Nat} {c : List Value} {e : TypeId} {r : Bool} {fz : Nat} {f : Fn} {x y : Array Value} (hb : h.get b = some (.cells c e r fz)) (hc : c[o]? = some (.func f x y)) : Gx.ldV ⟨b, o, sp⟩ h = some (.func f x y) := by
 simp only [Gx.ldV, AHeap.rd1, hb, hc]; rfl
theorem ldV_nil {h : AHeap} {b o : Nat} {sp : Option Nat} {c : List Value} {e : TypeId} {r : Bool} {fz : Nat} (hb : h.get b = some (.cells c e r fz)) (hc : c[o]? = some .nilFunc) : Gx.ldV ⟨b, o, sp⟩ h = some .nilFunc := by
 simp only [Gx.ldV, AHeap.rd1, hb, hc]; rfl
theorem Ask_spec {k : Nat} (D : CallF) {h : AHeap} {ib : Nat} {q q' : Rq} {th : Value} {fn : Fn} {fx fy : Array Value} {st : Nat} {i0 t0 : Slc} {c0 n0 : Int} (hb : h.get ib = some (.cells (ioC q th false c0 n0 i0 t0 st) 89 true 0)) (hlt : ib < h.next) :
  Gx.Wp (port_IO_Ask k D (some ⟨ib, 0, none⟩) (q'.1, q'.2.1, q'.2.2.1, q'.2.2.2) (.func fn fx fy) h) fun z => Chg (· = ib) h z.2 ∧ z.2.get ib = some (.cells (ioC q' (.func fn fx fy) false c0 n0 i0 t0 st) 89 true 0) := by
 simp only [port_IO_Ask]
 obtain ⟨H1, e1⟩ : ∃ H1, H1 = h.new (.cells [.int .i64 q'.1, .int .i64 q'.2.1, .string q'.2.2.1, .string q'.2.2.2] 51 true 0) := ⟨_, rfl⟩
 rw [← e1]
 have k1 : Keeps h H1 := e1 ▸ Keeps.new h _
 have g1 : H1.get h.next = some (.cells [.int .i64 q'.1, .int .i64 q'.2.1, .string q'.2.2.1, .string q'.2.2.2] 51 true 0) := by rw [e1]; simp
 have hb1 := (k1.oth _ hlt fun f => f).trans hb
 refine Gx.Wp.bnd rfl (Gx.Wp.bnd (ldB_at hb1 rfl) (Gx.Wp.ifp rfl (Gx.Wp.bnd (sldA_at g1 rfl) (Gx.Wp.bnd rfl (Gx.Wp.bnd rfl ?_)))))
 refine Gx.Wp.bnd (stL_part (cs := [.int .i64 q'.1, .int .i64 q'.2.1, .string q'.2.2.1, .string q'.2.2.2]) hb1 (by simp) (by show 0 + 0 + 4 ≤ 14; omega) rfl) ?_
 refine Gx.Wp.bnd rfl (Gx.Wp.bnd (st1_sb (sset_get _ _ _) (by show 0 + 4 < 14; omega) rfl) (Gx.Wp.of ⟨?_, ?_⟩))
 ·exact (Chg.keeps k1).trans ((Chg.set (S := (· = ib)) (.inr rfl)).trans (Chg.set (S := (· = ib)) (.inr rfl)))
 ·rw [sset_get]; rfl
end Gt
namespace Gt
open Go Gx
def nils : Slc := ⟨none, 0, 0⟩
def IoS (base : Nat) (h : AHeap) (N : JN) (qs : List Rq) (ys : List Ry) : Prop := ∃ q, Aft base h N qs ys q 0 0 nils nils ys.length
theorem zeros_len (n : Nat) (v : Value) (w u : Value) : (zerosL n [v, w, u]).length = n * 3 := by
 show ((List.replicate n [v, w, u]).flatten).length = _
 simp
end Gt
namespace Gt
open Go Gx
structure Job (h : AHeap) (base top cl : Nat) (jb : Nat) (qs : List Rq) (ys : List Ry) : Prop where
 jl : base ≤ jb ∧ jb < h.next
 jt : jb < top
 tl : top ≤ h.next ∧ cl ≤ h.next
 st : ∃ N : JN, (∀ y, JT N y → y < top) ∧ (N.lb < top ∧ N.tb < top ∧ N.ob < top ∧ N.b1 < top ∧ N.nb < top ∧ ∀ a, N.ls.a = some a → a.block < top) ∧ h.get jb = some (.cells [ptr N.ib] 91 true 0) ∧ JW h base N qs ∧ (∃ xs, JD h N qs xs ∧ Say h xs ys ∧ ∀ (i : Nat) (z : Rp), xs[i]? = some z → ∀ (a : Addr), z.2.2.a = some a → top ≤ a.block ∧ cl ≤ a.block) ∧ IoS cl h N qs ys
theorem Aft.keeps {base : Nat} {h h' : AHeap} {N : JN} {qs : List Rq} {ys : List Ry} {q : Rq} {c0 n0 : Int} {i0 t0 : Slc} {st : Nat} (a : Aft base h N qs ys q c0 n0 i0 t0 st) (l : N.ib < h.next) (k : Keeps h h') : Aft base h' N qs ys q c0 n0 i0 t0 st := by
 rcases a with ⟨e, s, t, g, A, B⟩ | ⟨q', e, g⟩
 ·exact .inl ⟨e, s, t, (k.oth _ l fun f => f).trans g, A.keeps k, B.keeps k⟩
 ·exact .inr ⟨q', e, (k.oth _ l fun f => f).trans g⟩
theorem Job.keeps {h h' : AHeap} {base top cl jb : Nat} {qs : List Rq} {ys : List Ry} (J : Job h base top cl jb qs ys) (k : Keeps h h') : Job h' base top cl jb qs ys := by
 obtain ⟨N, tp, sp, j, W, ⟨xs, d, S, far⟩, q, a⟩ := J.st
 exact ⟨⟨J.jl.1, Nat.lt_of_lt_of_le J.jl.2 k.nx⟩, J.jt, ⟨Nat.le_trans J.tl.1 k.nx, Nat.le_trans J.tl.2 k.nx⟩, N, tp, sp, (k.oth _ J.jl.2 fun f => f).trans j, W.keeps k, ⟨xs, d.keeps W.lt.2.2.1 W.lt.2.2.2 k, S.keeps k, far⟩, q, a.keeps W.lt.2.1 k⟩
end Gt
namespace Gt
open Go Gx
end Gt
namespace Gt
open Go Gx
theorem lk_pt {n d : ByteArray} {cl : Nat} (m : ByteArray) : ∀ es : List En, lk m (pt n d cl es) = if m = n then some d else lk m es
 | [] => by
  simp only [pt, lk]
  by_cases h : m = n
  ·rw [if_pos h, if_pos h.symm]
  ·rw [if_neg h, if_neg fun q => h q.symm]
 | e :: es => by
  have ih := lk_pt (n := n) (d := d) (cl := cl) m es
  simp only [pt, lk]
  by_cases h : e.1 = n
  ·rw [if_pos h]
   simp only [lk]
   by_cases q : m = n
   ·rw [if_pos q, if_pos q.symm]
   ·rw [if_neg q, if_neg fun z => q z.symm, if_neg fun z => q (z.symm.trans h)]
  ·rw [if_neg h]
   simp only [lk, ih]
   by_cases q : e.1 = m
   ·rw [if_pos q, if_neg fun z => h (q.trans z), if_pos q]
   ·rw [if_neg q, if_neg q]
theorem lk_no {m : ByteArray} {es : List En} (h : m ∉ es.map (·.1)) : lk m es = none := by
 cases hl : lk m es with
 | none => rfl
 | some d => exact absurd (lk_mem.1 (by rw [hl]; rfl)) h
theorem lk_rm {n : ByteArray} (m : ByteArray) : ∀ {es : List En}, (es.map (·.1)).Nodup → lk m (rm n es) = if m = n then none else lk m es
 | [], _ => by simp [rm, lk]
 | e :: es, hk => by
  rw [List.map_cons, List.nodup_cons] at hk
  have ih := lk_rm (n := n) m hk.2
  simp only [rm, lk]
  by_cases h : e.1 = n
  ·rw [if_pos h]
   by_cases q : m = n
   ·rw [if_pos q]; exact lk_no (by rw [q, ← h]; exact hk.1)
   ·rw [if_neg q, if_neg fun z => q (z.symm.trans h)]
  ·rw [if_neg h]
   simp only [lk, ih]
   by_cases q : e.1 = m
   ·rw [if_pos q, if_neg fun z => h (q.trans z), if_pos q]
   ·rw [if_neg q, if_neg q]
def lkL (n : ByteArray) : List Ob → Option ByteArray
 | [] => none
 | o :: l => if o.1 = n then some o.2 else lkL n l
def Srt (L : List Ob) : Prop := L.Pairwise fun a b => bl a.1 < bl b.1
def insL (n d : ByteArray) : List Ob → List Ob
 | [] => [(n, d)]
 | o :: l => if bl o.1 < bl n then o :: insL n d l else if o.1 = n then (n, d) :: l else (n, d) :: o :: l
def rmL (n : ByteArray) : List Ob → List Ob
 | [] => []
 | o :: l => if bl o.1 < bl n then o :: rmL n l else if o.1 = n then l else o :: l
theorem bl_irr {a : List UInt8} : ¬ a < a := List.lt_irrefl a
theorem fnd_cons_lt {n : ByteArray} {o : Ob} {l : List Ob} (h : bl o.1 < bl n) : fi n (o :: l) = fi n l + 1 ∧ fnd n (o :: l) = fnd n l := by
 have e : fi n (o :: l) = fi n l + 1 := by simp only [fi]; rw [if_pos h]
 exact ⟨e, by unfold fnd; rw [e]; rfl⟩
theorem fnd_cons_ge {n : ByteArray} {o : Ob} {l : List Ob} (h : ¬ bl o.1 < bl n) : fi n (o :: l) = 0 ∧ fnd n (o :: l) = decide (o.1 = n) := by
 have e : fi n (o :: l) = 0 := by simp only [fi]; rw [if_neg h]
 exact ⟨e, by unfold fnd; rw [e]; rfl⟩
theorem ly_ins (n d : ByteArray) : ∀ L : List Ob, lyR n d L = insL n d L
 | [] => rfl
 | o :: l => by
  have ih := ly_ins n d l
  simp only [insL]
  by_cases h : bl o.1 < bl n
  ·obtain ⟨e1, e2⟩ := fnd_cons_lt (l := l) h
   rw [if_pos h, ← ih]
   unfold lyR
   rw [e1, e2]
   cases fnd n l with
   | true => simp [insO]
   | false => simp [insO]
  ·obtain ⟨e1, e2⟩ := fnd_cons_ge (l := l) h
   rw [if_neg h]
   unfold lyR
   rw [e1, e2]
   by_cases q : o.1 = n
   ·rw [if_pos q, decide_eq_true q]; simp [insO]
   ·rw [if_neg q, decide_eq_false q]; simp [insO]
theorem rm_rmL {n : ByteArray} : ∀ {L : List Ob}, fnd n L = true → L.take (fi n L) ++ L.drop (fi n L + 1) = rmL n L
 | [], h => by cases h
 | o :: l, h => by
  simp only [rmL]
  by_cases c : bl o.1 < bl n
  ·obtain ⟨e1, e2⟩ := fnd_cons_lt (l := l) c
   rw [e2] at h
   rw [if_pos c, ← rm_rmL h, e1]; simp
  ·obtain ⟨e1, e2⟩ := fnd_cons_ge (l := l) c
   rw [e2] at h
   rw [if_neg c, if_pos (of_decide_eq_true h), e1]; simp
theorem lkL_none {n : ByteArray} : ∀ {L : List Ob}, (∀ o ∈ L, o.1 ≠ n) → lkL n L = none
 | [], _ => rfl
 | o :: l, h => by
  simp only [lkL]
  rw [if_neg (h o (by simp))]
  exact lkL_none fun x hx => h x (by simp [hx])
theorem lkR_lkL {n : ByteArray} : ∀ {L : List Ob}, Srt L → lkR n L = lkL n L
 | [], _ => rfl
 | o :: l, h => by
  obtain ⟨h1, h2⟩ := List.pairwise_cons.1 h
  have ih := lkR_lkL (n := n) h2
  simp only [lkL]
  by_cases c : bl o.1 < bl n
  ·obtain ⟨e1, e2⟩ := fnd_cons_lt (l := l) c
   rw [if_neg (fun q => bl_irr (q ▸ c)), ← ih]
   unfold lkR
   rw [e1, e2]; rfl
  ·obtain ⟨e1, e2⟩ := fnd_cons_ge (l := l) c
   unfold lkR
   rw [e1, e2]
   by_cases q : o.1 = n
   ·rw [if_pos q, decide_eq_true q]; rfl
   ·rw [if_neg q, decide_eq_false q]
    refine (lkL_none fun x hx z => ?_).symm
    have := h1 x hx
    rw [z] at this
    exact c this
theorem lkL_ins {n d : ByteArray} (m : ByteArray) : ∀ L : List Ob, lkL m (insL n d L) = if m = n then some d else lkL m L
 | [] => by
  simp only [insL, lkL]
  by_cases h : m = n
  ·rw [if_pos h, if_pos h.symm]
  ·rw [if_neg h, if_neg fun q => h q.symm]
 | o :: l => by
  have ih := lkL_ins (n := n) (d := d) m l
  simp only [insL]
  by_cases c : bl o.1 < bl n
  ·have hn : o.1 ≠ n := fun q => bl_irr (q ▸ c)
   rw [if_pos c]
   simp only [lkL, ih]
   by_cases q : o.1 = m
   ·rw [if_pos q, if_neg fun z => hn (q.trans z), if_pos q]
   ·rw [if_neg q, if_neg q]
  ·rw [if_neg c]
   by_cases q : o.1 = n
   ·rw [if_pos q]
    simp only [lkL]
    by_cases z : m = n
    ·rw [if_pos z, if_pos z.symm]
    ·rw [if_neg z, if_neg fun y => z y.symm, if_neg fun y => z (y.symm.trans q)]
   ·rw [if_neg q]
    simp only [lkL]
    by_cases z : m = n
    ·rw [if_pos z, if_pos z.symm]
    ·rw [if_neg z, if_neg fun y => z y.symm]
theorem lkL_rm {n : ByteArray} (m : ByteArray) : ∀ {L : List Ob}, Srt L → lkL m (rmL n L) = if m = n then none else lkL m L
 | [], _ => by simp [rmL, lkL]
 | o :: l, h => by
  obtain ⟨h1, h2⟩ := List.pairwise_cons.1 h
  have ih := lkL_rm (n := n) m h2
  have out : ¬ bl o.1 < bl n → lkL n l = none := fun c => lkL_none fun x hx z => by have := h1 x hx; rw [z] at this; exact c this
  simp only [rmL]
  by_cases c : bl o.1 < bl n
  ·have hn : o.1 ≠ n := fun q => bl_irr (q ▸ c)
   rw [if_pos c]
   simp only [lkL, ih]
   by_cases q : o.1 = m
   ·rw [if_pos q, if_neg fun z => hn (q.trans z), if_pos q]
   ·rw [if_neg q, if_neg q]
  ·rw [if_neg c]
   by_cases q : o.1 = n
   ·rw [if_pos q]
    simp only [lkL]
    by_cases z : m = n
    ·rw [if_pos z, z]; exact out c
    ·rw [if_neg z, if_neg fun y => z (y.symm.trans q)]
   ·rw [if_neg q]
    by_cases z : m = n
    ·rw [if_pos z, z]; simp only [lkL]; rw [if_neg q]; exact out c
    ·rw [if_neg z]
theorem mem_ins {n d : ByteArray} {x : Ob} : ∀ {L : List Ob}, x ∈ insL n d L → x = (n, d) ∨ x ∈ L
 | [], h => by simp [insL] at h; exact .inl h
 | o :: l, h => by
  simp only [insL] at h
  split at h
  ·rcases List.mem_cons.1 h with rfl | h
   ·exact .inr (by simp)
   ·exact (mem_ins h).imp id fun z => by simp [z]
  ·split at h
   ·rcases List.mem_cons.1 h with rfl | h
    ·exact .inl rfl
    ·exact .inr (by simp [h])
   ·rcases List.mem_cons.1 h with rfl | h
    ·exact .inl rfl
    ·exact .inr h
theorem srt_ins {n d : ByteArray} : ∀ {L : List Ob}, Srt L → Srt (insL n d L)
 | [], _ => List.pairwise_cons.2 ⟨by simp, .nil⟩
 | o :: l, h => by
  obtain ⟨h1, h2⟩ := List.pairwise_cons.1 h
  simp only [insL]
  split
  ·rename_i c
   refine List.pairwise_cons.2 ⟨fun x hx => ?_, srt_ins h2⟩
   rcases mem_ins hx with rfl | hx
   ·exact c
   ·exact h1 x hx
  ·rename_i c
   split
   ·rename_i q
    exact List.pairwise_cons.2 ⟨fun x hx => by show bl n < bl x.1; rw [← q]; exact h1 x hx, h2⟩
   ·rename_i q
    have lt : bl n < bl o.1 := by
     refine List.not_le.1 fun z => ?_
     exact q (congrArg ba (List.le_antisymm z (List.not_lt.1 c)))
    refine List.pairwise_cons.2 ⟨fun x hx => ?_, h⟩
    rcases List.mem_cons.1 hx with rfl | hx
    ·exact lt
    ·exact List.lt_trans lt (h1 x hx)
theorem rmL_sub (n : ByteArray) : ∀ L : List Ob, (rmL n L).Sublist L
 | [] => .slnil
 | o :: l => by
  simp only [rmL]
  split
  ·exact (rmL_sub n l).cons_cons _
  ·split
   ·exact List.sublist_cons_self _ _
   ·exact List.Sublist.refl _
theorem lk_iff {n d : ByteArray} : ∀ {es : List En}, (es.map (·.1)).Nodup → (lk n es = some d ↔ (n, d) ∈ es.map fun e => (e.1, e.2.1))
 | [], _ => by simp [lk]
 | e :: es, hk => by
  rw [List.map_cons, List.nodup_cons] at hk
  have ih := lk_iff (n := n) (d := d) hk.2
  simp only [lk, List.map_cons, List.mem_cons]
  by_cases h : e.1 = n
  ·rw [if_pos h]
   constructor
   ·intro q; cases q; exact .inl (by rw [← h])
   ·rintro (q | q)
    ·cases q; rfl
    ·exfalso
     obtain ⟨y, hy, e1⟩ := List.mem_map.1 q
     cases e1
     exact hk.1 (List.mem_map.2 ⟨y, hy, h.symm⟩)
  ·rw [if_neg h, ih]
   constructor
   ·exact .inr
   ·rintro (q | q)
    ·cases q; exact absurd rfl h
    ·exact q
theorem lkL_iff {n d : ByteArray} : ∀ {L : List Ob}, Srt L → (lkL n L = some d ↔ (n, d) ∈ L)
 | [], _ => by simp [lkL]
 | o :: l, h => by
  obtain ⟨h1, h2⟩ := List.pairwise_cons.1 h
  have ih := lkL_iff (n := n) (d := d) h2
  simp only [lkL, List.mem_cons]
  by_cases q : o.1 = n
  ·rw [if_pos q]
   constructor
   ·intro z; cases z; exact .inl (by rw [← q])
   ·rintro (z | z)
    ·rw [← z]
    ·exfalso
     have := h1 _ z
     rw [q] at this; exact bl_irr this
  ·rw [if_neg q, ih]
   constructor
   ·exact .inr
   ·rintro (z | z)
    ·rw [← z] at q; exact absurd rfl q
    ·exact z
structure Rel (p : PS) (r : RSt) : Prop where
 q : p.quota = r.quota
 f : p.fails = r.fails
 c : p.calls = r.many
 d : p.down = r.off
 g : Good p.es p.cl
 s : Srt r.L
 eq : ∀ n, lk n p.es = lkL n r.L
theorem Rel.perm {p : PS} {r : RSt} (R : Rel p r) : (p.es.map fun e => (e.1, e.2.1)).Perm r.L := by
 refine (List.perm_ext_iff_of_nodup ?_ ?_).2 fun x => ?_
 ·have := R.g.keys
  rw [List.Nodup, List.pairwise_map] at this ⊢
  exact this.imp fun h q => h (Prod.mk.inj q).1
 ·exact List.Pairwise.imp (fun {a b} h (q : a = b) => by rw [q] at h; exact bl_irr h) R.s
 ·obtain ⟨n, d⟩ := x
  rw [← lk_iff R.g.keys, ← lkL_iff R.s, R.eq]
theorem totR_perm {a b : List Ob} (h : a.Perm b) : totR a = totR b := by
 induction h with
 | nil => rfl
 | cons x _ ih => simp only [totR, ih]
 | swap x y l => simp only [totR]; omega
 | trans _ _ i1 i2 => exact i1.trans i2
theorem totR_map : ∀ es : List En, totR (es.map fun e => (e.1, e.2.1)) = tot es
 | [] => rfl
 | e :: es => by simp only [List.map_cons, totR, tot, totR_map es]
theorem Rel.tot {p : PS} {r : RSt} (R : Rel p r) : tot p.es = totR r.L := by rw [← totR_map, totR_perm R.perm]
theorem Rel.len {p : PS} {r : RSt} (R : Rel p r) : p.es.length = r.L.length := by simpa using R.perm.length_eq
theorem Rel.nm {p : PS} {r : RSt} (R : Rel p r) : nm p.es = r.L.map (·.1) := by
 have h1 : (Gt.nm p.es).Perm (p.es.map (·.1)) := by
  unfold Gt.nm
  generalize p.es.map (·.1) = ks
  have h1 := (List.mergeSort_perm (ks.map bl) leB).map ba
  have e : (ks.map bl).map ba = ks := by rw [List.map_map]; exact List.map_id _
  rw [e] at h1
  exact h1
 have h2 : (p.es.map (·.1)).Perm (r.L.map (·.1)) := by
  have := R.perm.map Prod.fst
  rw [List.map_map] at this
  exact this
 refine List.Perm.eq_of_pairwise (le := fun a b => bl a < bl b) (fun a b _ _ h1 h2 => absurd (List.lt_trans h1 h2) bl_irr) (nm_sorted R.g.keys) ?_ (h1.trans h2)
 rw [List.pairwise_map]; exact R.s
theorem Rel.lk {p : PS} {r : RSt} (R : Rel p r) (n : ByteArray) : lkR n r.L = lk n p.es := by rw [lkR_lkL R.s, R.eq]
theorem Rel.lay {p : PS} {r : RSt} (R : Rel p r) {n d : ByteArray} (hn : n.size ≤ 96) (hd : d.size ≤ 131072) : Rel (p.lay n d) { r with L := lyR n d r.L } := by
 refine ⟨R.q, R.f, R.c, R.d, R.g.pt hn hd, by rw [ly_ins]; exact srt_ins R.s, fun m => ?_⟩
 show Gt.lk m (pt n d p.cl p.es) = lkL m (lyR n d r.L)
 rw [ly_ins, lk_pt, lkL_ins, R.eq]
theorem Rel.rm {p : PS} {r : RSt} (R : Rel p r) (n : ByteArray) : Rel { p with es := rm n p.es } { r with L := rmL n r.L } := by
 refine ⟨R.q, R.f, R.c, R.d, R.g.rm n, R.s.sublist (rmL_sub n _), fun m => ?_⟩
 show Gt.lk m (Gt.rm n p.es) = lkL m (rmL n r.L)
 rw [lk_rm m R.g.keys, lkL_rm m R.s, R.eq]
theorem Rel.up {p : PS} {r : RSt} (R : Rel p r) : Rel p.up r.up := ⟨R.q, R.f, by show p.calls + 1 = r.many + 1; rw [R.c], R.d, R.g, R.s, R.eq⟩
theorem Rel.put {p : PS} {r : RSt} (R : Rel p r) (n d : ByteArray) : Rel (p.putS n d).1 (r.putS n d).1 ∧ (p.putS n d).2 = (r.putS n d).2 := by
 unfold PS.putS RSt.putS
 by_cases c : fitsC n d ≠ 0
 ·rw [if_pos c, if_pos c]; exact ⟨R, rfl⟩
 ·rw [if_neg c, if_neg c]
  obtain ⟨f1, f2, _⟩ := fits0 (by simpa using c)
  have RL := R.lay f1 f2
  have t1 : Gt.tot (pt n d p.cl p.es) = totR (lyR n d r.L) := RL.tot
  have t2 := tot_pt (n := n) (d := d) (cl := p.cl) p.es
  have hq := R.q
  by_cases z : p.quota + room n p.es < Gt.tot p.es + (n.size + d.size)
  ·rw [if_pos z, if_pos (by omega)]; exact ⟨R, rfl⟩
  ·rw [if_neg z, if_neg (by omega)]; exact ⟨RL, rfl⟩
theorem Rel.do {p : PS} {r : RSt} (R : Rel p r) (kind : Int) (n d : ByteArray) : Rel (p.doS kind n d).1 (r.doS kind n d).1 ∧ (p.doS kind n d).2 = (r.doS kind n d).2 := by
 unfold PS.doS RSt.doS
 have U := R.up
 by_cases c1 : p.down = true
 ·rw [if_pos c1, if_pos (R.d ▸ c1)]; exact ⟨U, rfl⟩
 rw [if_neg c1, if_neg (fun z => c1 (R.d.trans z))]
 by_cases c2 : 0 < p.fails
 ·rw [if_pos c2, if_pos (R.f ▸ c2)]
  exact ⟨⟨U.q, by show p.fails - 1 = r.fails - 1; rw [R.f], U.c, U.d, U.g, U.s, U.eq⟩, rfl⟩
 rw [if_neg c2, if_neg (fun z => c2 (R.f ▸ z))]
 by_cases c3 : kind = 1
 ·rw [if_pos c3, if_pos c3]
  have := U.put n d
  exact ⟨this.1, by rw [this.2]⟩
 rw [if_neg c3, if_neg c3]
 by_cases c5 : kind = 3
 ·have c4 : kind ≠ 2 := by omega
  rw [if_neg c4, if_pos c5, if_pos c5]
  exact ⟨U, by rw [R.nm]⟩
 rw [if_neg c5, if_neg c5]
 by_cases c4 : kind = 2
 ·rw [if_pos c4, if_pos c4, R.lk]
  split
  ·exact ⟨U, rfl⟩
  ·exact ⟨U, rfl⟩
 rw [if_neg c4, if_neg c4]
 by_cases c6 : kind = 4
 ·rw [if_pos c6, if_pos c6, R.lk]
  unfold PS.delS
  have eu : p.up.es = p.es := rfl
  rw [eu]
  by_cases z : (Gt.lk n p.es).isSome = true
  ·rw [if_pos z, if_pos z]
   have hf : fnd n r.L = true := by
    rw [← R.lk] at z
    unfold lkR at z
    by_cases y : fnd n r.L = true
    ·exact y
    ·rw [if_neg y] at z; cases z
   rw [rm_rmL hf]
   exact ⟨U.rm n, rfl⟩
  ·rw [if_neg z, if_neg z]; exact ⟨U, rfl⟩
 rw [if_neg c6, if_neg c6]
 exact ⟨U, rfl⟩
end Gt
namespace Gt
open Go Gx
theorem ldA_part {h : AHeap} {b o n : Nat} {sp : Option Nat} {c : List Value} {e : TypeId} {r : Bool} {fz : Nat} (hb : h.get b = some (.cells c e r fz)) (hn : 0 < n) (hc : o + n ≤ c.length) : Gx.ldA n ⟨b, o, sp⟩ h = some ((c.drop o).take n) := by
 obtain ⟨m, rfl⟩ : ∃ m, n = m + 1 := ⟨n - 1, by omega⟩
 simp only [ldA, AHeap.rdL, hb]
 rw [if_pos (by omega)]
structure Two (h : AHeap) (sb rb tb : Nat) (i : Nat) (p : PS) (r : RSt) : Prop where
 s : SR h sb rb p
 t : RR (fun _ => True) h tb r
 r : Rel p r
 l : p.es.length ≤ i
 c : p.calls ≤ i
 f : p.fails ≤ 1048576
 q : p.quota ≤ 1073741824
 lt : sb < tb ∧ rb < tb
theorem lay_len (p : PS) (n d : ByteArray) : (p.lay n d).es.length ≤ p.es.length + 1 := len_pt _
theorem put_len (p : PS) (n d : ByteArray) : (p.putS n d).1.es.length ≤ p.es.length + 1 ∧ (p.putS n d).1.calls = p.calls ∧ (p.putS n d).1.fails = p.fails ∧ (p.putS n d).1.quota = p.quota := by
 unfold PS.putS
 have := lay_len p n d
 split
 ·exact ⟨Nat.le_succ _, rfl, rfl, rfl⟩
 ·split
  ·exact ⟨Nat.le_succ _, rfl, rfl, rfl⟩
  ·exact ⟨this, rfl, rfl, rfl⟩
theorem do_len (p : PS) (kind : Int) (n d : ByteArray) : (p.doS kind n d).1.es.length ≤ p.es.length + 1 ∧ (p.doS kind n d).1.calls = p.calls + 1 ∧ (p.doS kind n d).1.fails ≤ p.fails ∧ (p.doS kind n d).1.quota = p.quota := by
 have b : p.up.es.length ≤ p.es.length + 1 ∧ p.up.calls = p.calls + 1 ∧ p.up.fails ≤ p.fails ∧ p.up.quota = p.quota := ⟨Nat.le_succ _, rfl, Nat.le_refl _, rfl⟩
 unfold PS.doS
 split
 ·exact b
 ·split
  ·exact ⟨Nat.le_succ _, rfl, Nat.sub_le _ _, rfl⟩
  ·split
   ·obtain ⟨h1, h2, h3, h4⟩ := put_len p.up n d
    exact ⟨h1, h2, by show (p.up.putS n d).1.fails ≤ _; rw [h3]; exact Nat.le_refl _, h4⟩
   ·split
    ·split <;> exact b
    ·split
     ·exact b
     ·split
      ·unfold PS.delS
       split
       ·refine ⟨?_, rfl, Nat.le_refl _, rfl⟩
        show (rm n p.es).length ≤ _
        have := (rm_sub n p.es).length_le; omega
       ·exact b
      ·exact b
end Gt
namespace Gt
open Go Gx
theorem Job.io {h : AHeap} {base top cl jb : Nat} {qs : List Rq} {ys : List Ry} (J : Job h base top cl jb qs ys) :
  ∃ ib, h.get jb = some (.cells [ptr ib] 91 true 0) ∧ ib < h.next ∧ ((ys.length = qs.length ∧ ∃ q s t, h.get ib = some (.cells (ioC q .nilFunc true (Rz.of ys).code (Rz.of ys).n s t ys.length) 89 true 0) ∧ Acc encS 9 cl h s (Rz.of ys).ids ∧ Acc encS 9 cl h t (Rz.of ys).texts) ∨
   (∃ q' N, qs[ys.length]? = some q' ∧ h.get ib = some (.cells (ioC q' (JN.back N) false 0 0 nils nils ys.length) 89 true 0))) := by
 obtain ⟨N, _, _, j, W, _, q, a⟩ := J.st
 refine ⟨N.ib, j, W.lt.2.1, ?_⟩
 rcases a with ⟨e, s, t, g, A, B⟩ | ⟨q', e, g⟩
 ·exact .inl ⟨e, q, s, t, g, A, B⟩
 ·exact .inr ⟨q', N, e, g⟩
def q0 : Rq := (0, 0, ⟨#[]⟩, ⟨#[]⟩)
abbrev ResT := Int × ByteArray × Int × Slc × Slc × Slc × Slc
def ResOk (h : AHeap) (z : Rz) (v : ResT) : Prop := v.1 = z.code ∧ v.2.1 = nob ∧ v.2.2.1 = (z.n : Int) ∧ Row encS h v.2.2.2.1 z.ids ∧ Row encS h v.2.2.2.2.1 z.texts ∧ v.2.2.2.2.2.1 = nils ∧ v.2.2.2.2.2.2 = nils
theorem ResOk.keeps {h h' : AHeap} {z : Rz} {v : ResT} (r : ResOk h z v) (k : Keeps h h') : ResOk h' z v := ⟨r.1, r.2.1, r.2.2.1, Row.keeps r.2.2.2.1 k, Row.keeps r.2.2.2.2.1 k, r.2.2.2.2.2⟩
def Rz.told (qs : List Rq) (ys : List Ry) : Rz := if ys.length = qs.length then Rz.of ys else Rz.zero
end Gt
namespace Gt
open Go Gx
theorem Job.apart {S : Nat → Prop} {h h' : AHeap} {base top cl jb : Nat} {qs : List Rq} {ys : List Ry} (J : Job h base top cl jb qs ys) (k : Chg S h h') (hS : ∀ y, S y → ¬ (base ≤ y ∧ y < top) ∧ ¬ cl ≤ y) : Job h' base top cl jb qs ys := by
 obtain ⟨N, tp, sp, j, W, ⟨xs, d, S1, far⟩, q, a⟩ := J.st
 have nx := k.nx
 have jl := J.jl
 obtain ⟨⟨g1, g2, g3, g4, g5⟩, g6, g7, g8⟩ := W.ge
 obtain ⟨⟨l1, l2, l3, l4, l5⟩, l6, l7, l8⟩ := W.lt
 obtain ⟨s1, s2, s3, s4, s5, s6⟩ := sp
 have nS : ∀ {y}, base ≤ y → y < top → ¬ S y := fun h1 h2 z => (hS _ z).1 ⟨h1, h2⟩
 have nC : ∀ {y}, cl ≤ y → ¬ S y := fun h1 z => (hS _ z).2 h1
 obtain ⟨rest, hc, hr⟩ := d.c
 refine ⟨⟨jl.1, by omega⟩, J.jt, ⟨Nat.le_trans J.tl.1 nx, Nat.le_trans J.tl.2 nx⟩, N, tp, ⟨s1, s2, s3, s4, s5, s6⟩, (k.oth _ jl.2 (nS jl.1 J.jt)).trans j, ⟨(k.oth _ l1 (nS g1 s1)).trans W.l, (k.oth _ l2 (nS g2 s2)).trans W.t, (k.oth _ l3 (nS g3 s3)).trans W.o, (k.oth _ l4 (nS g4 s4)).trans W.b, (k.oth _ l5 (nS g5 s5)).trans W.n, W.ls.chg k fun a ha => nS (W.ls.lt a ha).2 (s6 a ha), by omega, W.ge⟩,
  ⟨xs, ⟨(k.oth _ l7 (nS g7 (tp _ (.inr (.inl rfl))))).trans d.a, ⟨rest, (k.oth _ l8 (nS g8 (tp _ (.inr (.inr rfl))))).trans hc, hr⟩, d.le⟩, ⟨S1.1, fun i u v hu hv => ⟨(S1.2 i u v hu hv).1, (S1.2 i u v hu hv).2.1, Row.chg (S1.2 i u v hu hv).2.2 k fun a ha => nC (far i u hu a ha).2⟩⟩, far⟩, q, ?_⟩
 rcases a with ⟨e, s, t, g, A, B⟩ | ⟨q', e, g⟩
 ·exact .inl ⟨e, s, t, (k.oth _ l6 (nS g6 (tp _ (.inl rfl)))).trans g, A.chg k fun a ha => nC (A.lt a ha).2, B.chg k fun a ha => nC (B.lt a ha).2⟩
 ·exact .inr ⟨q', e, (k.oth _ l6 (nS g6 (tp _ (.inl rfl)))).trans g⟩
theorem Job.below {S : Nat → Prop} {h h' : AHeap} {base top cl jb : Nat} {qs : List Rq} {ys : List Ry} (J : Job h base top cl jb qs ys) (k : Chg S h h') (hS : ∀ y, S y → y < base) (hb : base ≤ cl) : Job h' base top cl jb qs ys :=
 J.apart k fun y hy => ⟨fun q => by have := hS y hy; omega, fun q => by have := hS y hy; omega⟩
abbrev Sb := Nat × Nat × PS
def encB (s : Sb) : Value := ptr s.1
def SSet (ss : List Sb) (y : Nat) : Prop := ∃ s ∈ ss, SB s.1 s.2.1 y
structure StB (m : Nat) (p : PS) : Prop where
 g : Good p.es p.cl
 l : p.es.length ≤ m
 c : p.calls ≤ m
 f : p.fails ≤ 1048576
 q : p.quota ≤ 1073741824
theorem StB.mono {m m' : Nat} {p : PS} (b : StB m p) (h : m ≤ m') : StB m' p := ⟨b.g, Nat.le_trans b.l h, Nat.le_trans b.c h, b.f, b.q⟩
structure Sts (h : AHeap) (sl : Slc) (m : Nat) (ss : List Sb) : Prop where
 rd : Row encB h sl ss
 fr : ∀ a, sl.a = some a → ¬ SSet ss a.block
 st : ∀ (i : Nat) s, ss[i]? = some s → SR h s.1 s.2.1 s.2.2 ∧ StB m s.2.2
 ap : ∀ (i j : Nat) s t, ss[i]? = some s → ss[j]? = some t → i ≠ j → ¬ SB s.1 s.2.1 t.1 ∧ ¬ SB s.1 s.2.1 t.2.1
theorem Sts.keeps {h h' : AHeap} {sl : Slc} {m : Nat} {ss : List Sb} (T : Sts h sl m ss) (k : Keeps h h') : Sts h' sl m ss := ⟨Row.keeps T.rd k, T.fr, fun i s hi => ⟨(T.st i s hi).1.keeps k, (T.st i s hi).2⟩, T.ap⟩
theorem Sts.chg {S : Nat → Prop} {h h' : AHeap} {sl : Slc} {m : Nat} {ss : List Sb} (T : Sts h sl m ss) (k : Chg S h h') (hs : ∀ y, SSet ss y → ¬ S y) (ha : ∀ a, sl.a = some a → ¬ S a.block) : Sts h' sl m ss :=
 ⟨Row.chg T.rd k ha, T.fr, fun i s hi => ⟨(T.st i s hi).1.chg k (hs _ ⟨s, mem_of hi, .inl rfl⟩) (hs _ ⟨s, mem_of hi, .inr rfl⟩), (T.st i s hi).2⟩, T.ap⟩
def ansS (ss : List Sb) (r : Rq) : List Sb × Ry :=
 if r.1 < 0 then (ss, (1, nob, [])) else match ss[r.1.toNat]? with
  | none => (ss, (1, nob, []))
  | some s => (ss.set r.1.toNat (s.1, s.2.1, (s.2.2.doS r.2.1 r.2.2.1 r.2.2.2).1), ((s.2.2.doS r.2.1 r.2.2.1 r.2.2.2).2.1, (s.2.2.doS r.2.1 r.2.2.1 r.2.2.2).2.2.1, (s.2.2.doS r.2.1 r.2.2.1 r.2.2.2).2.2.2))
theorem SSet_set {ss : List Sb} {i : Nat} {s : Sb} {p : PS} (hi : ss[i]? = some s) (y : Nat) : SSet (ss.set i (s.1, s.2.1, p)) y ↔ SSet ss y := by
 constructor
 ·rintro ⟨t, ht, q⟩
  rcases List.mem_or_eq_of_mem_set ht with ht | rfl
  ·exact ⟨t, ht, q⟩
  ·exact ⟨s, mem_of hi, q⟩
 ·rintro ⟨t, ht, q⟩
  obtain ⟨j, hj⟩ := List.getElem?_of_mem ht
  by_cases c : j = i
  ·subst c
   rw [hi] at hj; cases hj
   have hlt := (List.getElem?_eq_some_iff.1 hi).1
   exact ⟨(s.1, s.2.1, p), List.mem_of_getElem? (i := j) (by rw [List.getElem?_set]; simp [hlt]), q⟩
  ·exact ⟨t, List.mem_of_getElem? (i := j) (by rw [List.getElem?_set_ne (fun z => c z.symm)]; exact hj), q⟩
theorem SSet_ans (ss : List Sb) (r : Rq) (y : Nat) : SSet (ansS ss r).1 y ↔ SSet ss y := by
 unfold ansS
 split
 ·exact Iff.rfl
 ·split
  ·exact Iff.rfl
  ·rename_i s hs; exact SSet_set hs y
end Gt
namespace Gt
open Go Gx
inductive Prg where
 | fin (z : Rz) (W : AHeap → Prop)
 | ask (q : Rq) (k : Ry → Prg)
def askAll : List Rq → List Ry → (List Ry → Prg) → Prg
 | [], acc, K => K acc
 | q :: qs, acc, K => .ask q fun y => askAll qs (acc ++ [y]) K
def closL : List Nat := [94, 96, 55, 56, 77, 78, 79, 81, 82, 84, 89, 68, 101, 102, 10, 33, 71, 97, 112]
def Does (D : CallF) (g : Nat) (x y : Array Value) (args : List Value) (h : AHeap) (Q : AHeap → Prop) : Prop :=
 g ∈ closL ∧ ∃ h', Q h' ∧ ∀ (R : Type) (κ : Value → AHeap → Option R), D R g (x.toList ++ (args ++ y.toList)) h κ = κ (.tuple ⟨[]⟩) h'
theorem mkC_skip {D : CallF} {g : Nat} {R : Type} {args : List Value} {h : AHeap} {κ : Value → AHeap → Option R} : ∀ {es : List Ent}, (es.all fun e => !Nat.beq g e.id) = true → mkC D es R g args h κ = D R g args h κ
 | [], _ => rfl
 | e :: es, hs => by
  simp only [List.all_cons, Bool.and_eq_true, Bool.not_eq_true'] at hs
  simp only [mkC, hs.1, cond_false]
  exact mkC_skip hs.2
def apartC (es : List Ent) : Bool := closL.all fun g => es.all fun e => !Nat.beq g e.id
theorem Does.wp {R : Type} {D : CallF} {g : Nat} {x y : Array Value} {args : List Value} {h : AHeap} {Q : AHeap → Prop} {es : List Ent} (d : Does D g x y args h Q) (hes : apartC es = true) {κ : Value → AHeap → Option R} {P : R → Prop} (k : ∀ h', Q h' → Gx.Wp (κ (.tuple ⟨[]⟩) h') P) :
  Gx.Wp (callD (mkC D es) (.func (.func g) x y) args h κ) P := by
 obtain ⟨hg, h', q, e⟩ := d
 have : callD (mkC D es) (.func (.func g) x y) args h κ = κ (.tuple ⟨[]⟩) h' := by
  show mkC D es R g (x.toList ++ (args ++ y.toList)) h κ = _
  rw [mkC_skip (List.all_eq_true.1 hes g hg)]
  exact e R κ
 rw [this]
 exact k h' q
theorem Does.of {D : CallF} {g : Nat} {x y : Array Value} {args : List Value} {h : AHeap} {Q : AHeap → Prop} (hg : g ∈ closL) {X : Option (Unit × AHeap)} (e : ∀ (R : Type) (κ : Value → AHeap → Option R), D R g (x.toList ++ (args ++ y.toList)) h κ = X.bind fun r => κ (.tuple ⟨[]⟩) r.2)
  (w : Gx.Wp X fun z => Q z.2) : Does D g x y args h Q := by
 obtain ⟨z, hz, q⟩ := w
 exact ⟨hg, z.2, q, fun R κ => by rw [e R κ, hz]; rfl⟩
theorem Does.mono {D : CallF} {g : Nat} {x y : Array Value} {args : List Value} {h : AHeap} {Q P : AHeap → Prop} (d : Does D g x y args h Q) (k : ∀ h', Q h' → P h') : Does D g x y args h P :=
 let ⟨hg, h', q, e⟩ := d
 ⟨hg, h', k h' q, e⟩
def In (O : Nat → Prop) (m : Nat) (y : Nat) : Prop := O y ∨ m ≤ y
def Gr (O : Nat → Prop) (m : Nat) (h : AHeap) (y : Nat) : Prop := O y ∨ (m ≤ y ∧ y < h.next)
def But (O : Nat → Prop) (b y : Nat) : Prop := O y ∧ y ≠ b
structure Agr (O : Nat → Prop) (h h' : AHeap) : Prop where
 nx : h.next ≤ h'.next
 eq : ∀ y, O y → h'.get y = h.get y
theorem Agr.refl (O : Nat → Prop) (h : AHeap) : Agr O h h := ⟨Nat.le_refl _, fun _ _ => rfl⟩
theorem Agr.trans {O : Nat → Prop} {h h1 h2 : AHeap} (a : Agr O h h1) (b : Agr O h1 h2) : Agr O h h2 := ⟨Nat.le_trans a.nx b.nx, fun y o => (b.eq y o).trans (a.eq y o)⟩
theorem Agr.wk {O P : Nat → Prop} {h h' : AHeap} (a : Agr O h h') (s : ∀ y, P y → O y) : Agr P h h' := ⟨a.nx, fun y o => a.eq y (s y o)⟩
theorem chg_agr {S O : Nat → Prop} {h h' : AHeap} (c : Chg S h h') (lt : ∀ y, O y → y < h.next) (ap : ∀ y, O y → ¬ S y) : Agr O h h' := ⟨c.nx, fun y o => c.oth y (lt y o) (ap y o)⟩
def OwnS (O : Nat → Prop) (s : Slc) : Prop := ∀ a, s.a = some a → O a.block
theorem OwnS.wk {O P : Nat → Prop} {s : Slc} (o : OwnS O s) (k : ∀ y, O y → P y) : OwnS P s := fun a ha => k _ (o a ha)
theorem Row.agr {α : Type} {enc : α → Value} {O : Nat → Prop} {h h' : AHeap} {s : Slc} {xs : List α} (R : Row enc h s xs) (a : Agr O h h') (o : OwnS O s) : Row enc h' s xs :=
 ⟨R.1, fun i x hx => by
  obtain ⟨b, cc, e, r, fz, h1, h2, h3, h4⟩ := R.2 i x hx
  exact ⟨b, cc, e, r, fz, h1, Nat.lt_of_lt_of_le h2 a.nx, (a.eq _ (o b h1)).trans h3, h4⟩⟩
theorem RowW.agr {α : Type} {w : Nat} {enc : α → List Value} {O : Nat → Prop} {h h' : AHeap} {s : Slc} {xs : List α} (R : RowW w enc h s xs) (a : Agr O h h') (o : OwnS O s) : RowW w enc h' s xs :=
 ⟨R.len, fun i x hx => by
  obtain ⟨b, cc, e, r, fz, h1, h2, h3, h4⟩ := R.at' i x hx
  exact ⟨b, cc, e, r, fz, h1, Nat.lt_of_lt_of_le h2 a.nx, (a.eq _ (o b h1)).trans h3, h4⟩⟩
theorem cloneS_acc {k : Nat} (D : CallF) {h : AHeap} {s : Slc} {xs : List ByteArray} (R : Row encS h s xs) (hl : xs.length ≤ 1099511627776) : Gx.Wp (slices_Clone_string_string k D s h) fun q => Keeps h q.2 ∧ Row encS q.2 q.1 xs ∧ ∀ a, q.1.a = some a → h.next ≤ a.block ∧ a.block < q.2.next := by
 simp only [slices_Clone_string_string]
 by_cases c : s.a = none
 ·have : xs = [] := by
   cases xs with
   | nil => rfl
   | cons x xs =>
    obtain ⟨a, _, _, _, _, h1, _⟩ := R.2 0 x rfl
    rw [c] at h1; cases h1
  subst this
  exact Gx.Wp.ifp (by rw [c]; rfl) (Gx.Wp.of ⟨Chg.refl _ _, ⟨rfl, fun i x hx => by simp at hx⟩, fun a ha => by cases ha⟩)
 ·refine Gx.Wp.ifn (by cases hs : s.a with | none => exact absurd hs c | some a => simp) ?_
  obtain ⟨H1, e1⟩ : ∃ H1, H1 = h.new (.cells [] 9 true 0) := ⟨_, rfl⟩
  rw [← e1]
  have k1 : Keeps h H1 := e1 ▸ Keeps.new h _
  have n1 : H1.next = h.next + 1 := by rw [e1]; rfl
  refine Gx.Wp.bnd (Row.keeps R k1).rdS ?_
  obtain ⟨s7, h7, a7, A7, c7, d7⟩ := (empty0 (w := 1) (enc := encS1) (e := 9) (base := h.next) (h := H1) (b := h.next) (Nat.le_refl _) (by omega)).app encS1_len encS1_one xs (bytes := 16) (by decide) (by simp; omega) (by omega)
  rw [flatS] at a7
  rw [show s.len = xs.length from R.1]
  refine Gx.Wp.bnd a7 (Gx.Wp.of ⟨Chg.beh k1 c7 fun y hy ⟨a, ha, q⟩ => by cases ha; simp only at q; omega, ?_, fun a ha => ⟨(A7.lt a ha).2, (A7.lt a ha).1⟩⟩)
  rw [List.nil_append] at A7
  exact RowW.rowS (A7.row encS1_len)
structure SmallY (y : Ry) : Prop where
 n : y.2.2.length ≤ 1048576
 s : ∀ x ∈ y.2.2, x.size ≤ 1048576
 d : y.2.1.size ≤ 1048576
def encY (c : Int) (d : ByteArray) (sl : Slc) : Value := .agg ⟨[.int .i64 c, .string d, .slice sl.a sl.len sl.cap]⟩
def IoQ (L : Nat → CallF) (N ib : Nat) : Prg → Nat → (Nat → Prop) → AHeap → Prop
 | .fin z W, st, O, h => (∀ h', Agr (But O ib) h h' → W h') ∧ ((∃ q i t, h.get ib = some (.cells (ioC q .nilFunc true z.code z.n i t st) 89 true 0) ∧ Row encS h i z.ids ∧ Row encS h t z.texts ∧ OwnS (But O ib) i ∧ OwnS (But O ib) t) ∨
   (z = Rz.zero ∧ ∃ q, h.get ib = some (.cells (ioC q .nilFunc false 0 0 nils nils st) 89 true 0)))
 | .ask q kk, st, O, h => ∃ g x y, h.get ib = some (.cells (ioC q (.func (.func g) x y) false 0 0 nils nils st) 89 true 0) ∧
   ∀ n, N ≤ n → ∀ (O' : Nat → Prop) (h' : AHeap) (m : Nat), (∀ y, O y → O' y) → Agr (But O ib) h h' → (∀ y, O' y → y < m) → m ≤ h'.next → h'.get ib = some (.cells (ioC q .nilFunc false 0 0 nils nils (st + 1)) 89 true 0) →
    ∀ (r : Ry) (sl : Slc), Row encS h' sl r.2.2 → OwnS (fun b => m ≤ b ∧ b < h'.next) sl → SmallY r →
    Does (L n) g x y [encY r.1 r.2.1 sl] h' fun h'' => Chg (In O' m) h' h'' ∧ IoQ L N ib (kk r) (st + 1) (Gr O' m h'') h''
section
variable {L : Nat → CallF} {N ib : Nat}
theorem IoQ.mono {p : Prg} {st : Nat} {O P : Nat → Prop} {h : AHeap} (i : IoQ L N ib p st O h) (s : ∀ y, O y → P y) : IoQ L N ib p st P h := by
 cases p with
 | fin z W =>
  obtain ⟨w, r⟩ := i
  refine ⟨fun h' a => w h' (a.wk fun y o => ⟨s y o.1, o.2⟩), r.imp ?_ id⟩
  rintro ⟨q, a, b, g, r1, r2, o1, o2⟩
  exact ⟨q, a, b, g, r1, r2, o1.wk fun y o => ⟨s y o.1, o.2⟩, o2.wk fun y o => ⟨s y o.1, o.2⟩⟩
 | ask q kk =>
  obtain ⟨g, x, y, e, c⟩ := i
  exact ⟨g, x, y, e, fun n hn O' h' m hs ha => c n hn O' h' m (fun z hz => hs z (s z hz)) (ha.wk fun z o => ⟨s z o.1, o.2⟩)⟩
theorem IoQ.agr {p : Prg} {st : Nat} {O : Nat → Prop} {h h' : AHeap} (i : IoQ L N ib p st O h) (o : O ib) (a : Agr O h h') : IoQ L N ib p st O h' := by
 have a' : Agr (But O ib) h h' := a.wk fun y q => q.1
 cases p with
 | fin z W =>
  obtain ⟨w, r⟩ := i
  refine ⟨fun h2 a2 => w h2 (a'.trans a2), ?_⟩
  rcases r with ⟨q, i, t, g, r1, r2, o1, o2⟩ | ⟨e, q, g⟩
  ·exact .inl ⟨q, i, t, (a.eq _ o).trans g, Row.agr r1 a' o1, Row.agr r2 a' o2, o1, o2⟩
  ·exact .inr ⟨e, q, (a.eq _ o).trans g⟩
 | ask q kk =>
  obtain ⟨g, x, y, e, c⟩ := i
  exact ⟨g, x, y, (a.eq _ o).trans e, fun n hn O' h2 m hs ha => c n hn O' h2 m hs (a'.trans ha)⟩
end
structure JobP (L : Nat → CallF) (N jb : Nat) (p : Prg) (st : Nat) (O : Nat → Prop) (h : AHeap) : Prop where
 lj : jb < h.next
 nj : ¬ O jb
 lt : ∀ y, O y → y < h.next
 io : ∃ ib, O ib ∧ h.get jb = some (.cells [ptr ib] 91 true 0) ∧ IoQ L N ib p st O h ∧ (∀ z W, p = .fin z W → ∃ q i t, h.get ib = some (.cells (ioC q .nilFunc true z.code z.n i t st) 89 true 0))
theorem JobP.agr {L : Nat → CallF} {N jb : Nat} {p : Prg} {st : Nat} {O : Nat → Prop} {h h' : AHeap} (J : JobP L N jb p st O h) (a : Agr O h h') (aj : h'.get jb = h.get jb) : JobP L N jb p st O h' := by
 obtain ⟨ib, o, j, i, f⟩ := J.io
 refine ⟨Nat.lt_of_lt_of_le J.lj a.nx, J.nj, fun y hy => Nat.lt_of_lt_of_le (J.lt y hy) a.nx, ib, o, aj.trans j, i.agr o a, fun z W e => ?_⟩
 obtain ⟨q, s, t, g⟩ := f z W e
 exact ⟨q, s, t, (a.eq _ o).trans g⟩
def JSet (O : Nat → Prop) (jb y : Nat) : Prop := O y ∨ y = jb
theorem JobP.chg {S : Nat → Prop} {L : Nat → CallF} {N jb : Nat} {p : Prg} {st : Nat} {O : Nat → Prop} {h h' : AHeap} (J : JobP L N jb p st O h) (c : Chg S h h') (hs : ∀ y, JSet O jb y → ¬ S y) : JobP L N jb p st O h' :=
 J.agr (chg_agr c J.lt fun y o => hs y (.inl o)) (c.oth jb J.lj (hs jb (.inr rfl)))
end Gt
namespace Gt
open Go Gx
def Prg.over : Prg → Bool
 | .fin _ _ => true
 | .ask _ _ => false
def Prg.nxt : Prg → Rq
 | .fin _ _ => q0
 | .ask q _ => q
def Prg.res : Prg → Rz
 | .fin z _ => z
 | .ask _ _ => Rz.zero
section
variable {L : Nat → CallF} {N jb : Nat} {p : Prg} {st : Nat} {O : Nat → Prop} {h : AHeap}
theorem JobP.cell (J : JobP L N jb p st O h) : ∃ ib q th c n i t, O ib ∧ h.get jb = some (.cells [ptr ib] 91 true 0) ∧ h.get ib = some (.cells (ioC q th p.over c n i t st) 89 true 0) ∧ (p.over = false → q = p.nxt) ∧ c = p.res.code ∧ n = p.res.n ∧ Row encS h i p.res.ids ∧ Row encS h t p.res.texts := by
 obtain ⟨ib, o, j, i, f⟩ := J.io
 cases p with
 | fin z W =>
  obtain ⟨q, s, t, g⟩ := f z W rfl
  obtain ⟨w, r⟩ := i
  rcases r with ⟨q', i', t', g', r1, r2, _⟩ | ⟨e, q', g'⟩
  ·exact ⟨ib, q', _, _, _, _, _, o, j, g', (fun z => by cases z), rfl, rfl, r1, r2⟩
  ·rw [g] at g'
   simp [ioC] at g'
 | ask q kk =>
  obtain ⟨gg, x, y, e, _⟩ := i
  exact ⟨ib, q, _, _, _, _, _, o, j, e, fun _ => rfl, rfl, rfl, ⟨rfl, fun i x hx => by simp [Prg.res, Rz.zero] at hx⟩, ⟨rfl, fun i x hx => by simp [Prg.res, Rz.zero] at hx⟩⟩
theorem Over_P {k : Nat} (D : CallF) (J : JobP L N jb p st O h) : port_Job_Over k D (some ⟨jb, 0, none⟩) h = some (p.over, h) := by
 obtain ⟨ib, q, th, c, n, i, t, o, j, g, _⟩ := J.cell
 simp only [port_Job_Over]
 exact bnd rfl (bnd (ldP_at j rfl) (bnd rfl (bnd (ldB_at g rfl) rfl)))
theorem Steps_P {k : Nat} (D : CallF) (J : JobP L N jb p st O h) : port_Job_Steps k D (some ⟨jb, 0, none⟩) h = some ((st : Int), h) := by
 obtain ⟨ib, q, th, c, n, i, t, o, j, g, _⟩ := J.cell
 simp only [port_Job_Steps]
 exact bnd rfl (bnd (ldP_at j rfl) (bnd rfl (bnd (sldI_at g rfl) rfl)))
theorem Next_P {k : Nat} (D : CallF) (J : JobP L N jb p st O h) : Gx.Wp (port_Job_Next k D (some ⟨jb, 0, none⟩) h) fun z => Keeps h z.2 ∧ z.1 = (p.nxt, !p.over) := by
 obtain ⟨ib, q, th, c, n, i, t, o, j, g, e, _⟩ := J.cell
 simp only [port_Job_Next]
 obtain ⟨H1, e1⟩ : ∃ H1, H1 = h.new (.cells [.int .i64 0, .int .i64 0, .string ⟨#[]⟩, .string ⟨#[]⟩] 51 true 0) := ⟨_, rfl⟩
 rw [← e1]
 have k1 : Keeps h H1 := e1 ▸ Keeps.new h _
 have r1 : H1.get h.next = some (.cells [.int .i64 0, .int .i64 0, .string ⟨#[]⟩, .string ⟨#[]⟩] 51 true 0) := by rw [e1]; simp
 have j1 := k1.got J.lj j
 have g1 := k1.got (J.lt ib o) g
 have fin : ∀ (q : Rq) (b : Bool), (p.nxt, !p.over) = (q, b) → Gx.Wp ((Gx.stL 4 (⟨h.next, 0, none⟩ : Addr) (encQ q) H1).bind fun h6 => (Gx.ldA 4 (⟨h.next, 0, none⟩ : Addr) h6).bind fun l7 => (decC [.i .i64, .i .i64, .s, .s] l7).bind fun x8 => some (((x8.1, x8.2.1, x8.2.2.1, x8.2.2.2), b), h6)) fun z => Keeps h z.2 ∧ z.1 = (p.nxt, !p.over) := by
  intro q b e
  refine Gx.Wp.bnd (sstL_at r1 rfl rfl rfl (by decide)) (Gx.Wp.bnd (sldA_at (sset_get _ _ _) rfl) (Gx.Wp.bnd rfl (Gx.Wp.of ⟨?_, e.symm⟩)))
  exact Chg.beh (T := (· = h.next)) k1 (Chg.set (.inr rfl)) fun y hy q => by omega
 refine Gx.Wp.bnd rfl (Gx.Wp.bnd (ldP_at j1 rfl) (Gx.Wp.bnd rfl (Gx.Wp.bnd (ldB_at g1 rfl) ?_)))
 rcases Bool.eq_false_or_eq_true p.over with ho | ho
 ·refine Gx.Wp.ifp ho (fin q0 false ?_)
  rw [ho]
  cases p with
  | fin z W => rfl
  | ask q kk => cases ho
 ·refine Gx.Wp.ifn (by rw [ho]; exact fun z => by cases z) (Gx.Wp.bnd rfl (Gx.Wp.bnd (ldP_at j1 rfl) (Gx.Wp.bnd rfl (Gx.Wp.bnd (ldA_part g1 (by decide) (by show 0 + 0 + 4 ≤ 14; omega)) (Gx.Wp.bnd rfl (fin q true ?_))))))
  rw [ho, e ho]; rfl
end
theorem settle_P {k : Nat} (D : CallF) {L : Nat → CallF} {N jb ib : Nat} {p : Prg} {st : Nat} {O : Nat → Prop} {h : AHeap} (hj : h.get jb = some (.cells [ptr ib] 91 true 0)) (i : IoQ L N ib p st O h) :
  Gx.Wp (port_Job_settle k D (some ⟨jb, 0, none⟩) h) fun z => Chg (· = ib) h z.2 ∧ z.2.next = h.next ∧ IoQ L N ib p st O z.2 ∧ (∀ z' W, p = .fin z' W → ∃ q i t, z.2.get ib = some (.cells (ioC q .nilFunc true z'.code z'.n i t st) 89 true 0)) := by
 simp only [port_Job_settle]
 refine Gx.Wp.bnd rfl (Gx.Wp.bnd (ldP_at hj rfl) (Gx.Wp.bnd rfl ?_))
 have ag : ∀ B, Agr (But O ib) h (h.set ib B) := fun B => ⟨Nat.le_refl _, fun y o => by simp only [AHeap.get_set]; rw [if_neg o.2]⟩
 cases p with
 | fin z W =>
  obtain ⟨w, r⟩ := i
  rcases r with ⟨q, i, t, g, r1, r2, o1, o2⟩ | ⟨rfl, q, g⟩
  ·refine Gx.Wp.bnd (ldV_nil g rfl) (Gx.Wp.bnd (a := true) rfl (Gx.Wp.ifp rfl (Gx.Wp.bnd rfl (Gx.Wp.bnd (ldP_at hj rfl) (Gx.Wp.bnd rfl (Gx.Wp.bnd (st1_sb g (by show 0 + 5 < 14; omega) rfl) (Gx.Wp.of ⟨Chg.set (.inr rfl), rfl, ⟨fun h' a => w h' ((ag _).trans a), .inl ⟨q, i, t, ?_, Row.agr r1 (ag _) o1, Row.agr r2 (ag _) o2, o1, o2⟩⟩, fun z' W' e => ?_⟩)))))))
   ·rw [sset_get]; rfl
   ·cases e; exact ⟨q, i, t, by rw [sset_get]; rfl⟩
  ·refine Gx.Wp.bnd (ldV_nil g rfl) (Gx.Wp.bnd (a := true) rfl (Gx.Wp.ifp rfl (Gx.Wp.bnd rfl (Gx.Wp.bnd (ldP_at hj rfl) (Gx.Wp.bnd rfl (Gx.Wp.bnd (st1_sb g (by show 0 + 5 < 14; omega) rfl) (Gx.Wp.of ⟨Chg.set (.inr rfl), rfl, ⟨fun h' a => w h' ((ag _).trans a), .inl ⟨q, nils, nils, ?_, ⟨rfl, fun i x hx => by simp [Rz.zero] at hx⟩, ⟨rfl, fun i x hx => by simp [Rz.zero] at hx⟩, (fun a ha => by cases ha), (fun a ha => by cases ha)⟩⟩, fun z' W' e => ?_⟩)))))))
   ·rw [sset_get]; rfl
   ·cases e; exact ⟨q, nils, nils, by rw [sset_get]; rfl⟩
 | ask q kk =>
  obtain ⟨gg, x, y, e, c⟩ := i
  exact Gx.Wp.bnd (ldV_at e rfl) (Gx.Wp.bnd (a := false) rfl (Gx.Wp.ifn (fun z => by cases z) (Gx.Wp.of ⟨Chg.refl _ _, rfl, ⟨gg, x, y, e, c⟩, fun z' W e => by cases e⟩)))
theorem Give_P {L : Nat → CallF} {k n N : Nat} (hn : N ≤ n) {jb : Nat} {q : Rq} {kk : Ry → Prg} {st : Nat} {O : Nat → Prop} {h : AHeap} (J : JobP L N jb (.ask q kk) st O h) {c : Int} {d : ByteArray} {sl : Slc} {names : List ByteArray} (R : Row encS h sl names)
  (hs : ∀ a, sl.a = some a → ¬ O a.block) (hy : SmallY (c, d, names)) (hst : st < 9223372036854775807) :
  Gx.Wp (port_Job_Give k (L n) (some ⟨jb, 0, none⟩) (c, d, sl) h) fun z => z.1 = 0 ∧ JobP L N jb (kk (c, d, names)) (st + 1) (Gr O h.next z.2) z.2 ∧ Chg O h z.2 := by
 obtain ⟨ib, o, j, i, _⟩ := J.io
 obtain ⟨gg, fx, fy, g, co⟩ := i
 have li := J.lt ib o
 have lj := J.lj
 have njb : jb ≠ ib := fun e => J.nj (e ▸ o)
 simp only [port_Job_Give]
 obtain ⟨H1, e1⟩ : ∃ H1, H1 = h.new (.cells [.int .i64 c, .string d, .slice sl.a sl.len sl.cap] 59 true 0) := ⟨_, rfl⟩
 rw [← e1]
 have k1 : Keeps h H1 := e1 ▸ Keeps.new h _
 have n1 : H1.next = h.next + 1 := by rw [e1]; rfl
 have r1 : H1.get h.next = some (.cells [.int .i64 c, .string d, .slice sl.a sl.len sl.cap] 59 true 0) := by rw [e1]; simp
 have j1 := k1.got lj j
 have g1 := k1.got li g
 refine Gx.Wp.bnd rfl (Gx.Wp.bnd (ldP_at j1 rfl) (Gx.Wp.bnd rfl (Gx.Wp.bnd (ldB_at g1 rfl) (Gx.Wp.ifn (fun z => by cases z) ?_))))
 refine Gx.Wp.bnd rfl (Gx.Wp.bnd (ldP_at j1 rfl) (Gx.Wp.bnd rfl (Gx.Wp.bnd (ldV_at g1 rfl) (Gx.Wp.bnd rfl (Gx.Wp.bnd (ldP_at j1 rfl) (Gx.Wp.bnd rfl (Gx.Wp.st (sp := none) g1 (by show 0 + 4 < 14; omega) rfl fun H2 (c2 : Chg (· = ib) H1 H2) n2 g2 => ?_)))))))
 have g2 : H2.get ib = some (.cells (ioC q .nilFunc false 0 0 nils nils st) 89 true 0) := g2
 have j2 := c2.got (by omega) njb j1
 refine Gx.Wp.bnd rfl (Gx.Wp.bnd (ldP_at j2 rfl) (Gx.Wp.bnd rfl (Gx.Wp.bnd (sldI_at g2 rfl) (Gx.Wp.bnd rfl ?_))))
 rw [Gx.w1 (by omega)]
 refine Gx.Wp.st (sp := none) g2 (by show 0 + 13 < 14; omega) rfl fun H3 (c3 : Chg (· = ib) H2 H3) n3 g3 => ?_
 have g3 : H3.get ib = some (.cells (ioC q .nilFunc false 0 0 nils nils (st + 1)) 89 true 0) := g3
 have c03 : Chg (· = ib) h H3 := (Chg.keeps k1).trans (c2.trans c3)
 have r3 := (c2.trans c3).got (by omega) (by omega) r1
 have R3 : Row encS H3 ⟨sl.a, sl.len, sl.cap⟩ names := Row.chg R c03 fun a ha q => hs a ha (q ▸ o)
 refine Gx.Wp.bnd (sldL_at r3 rfl) ?_
 refine Gx.Wp.call (cloneS_acc (L n) R3 (by have := hy.n; simp only at this; omega)) fun r21 q21 => ?_
 obtain ⟨k4, R4, f4⟩ := q21
 have m4 := k4.nx
 have r4 := k4.got (by omega) r3
 refine Gx.Wp.st (sp := none) r4 (by show 2 < 3; omega) rfl fun H5 (c5 : Chg (· = h.next) r21.2 H5) n5 r5 => ?_
 have r5 : H5.get h.next = some (.cells [.int .i64 c, .string d, .slice r21.1.a r21.1.len r21.1.cap] 59 true 0) := r5
 have cA : Chg (· = ib) h H5 := Chg.beh (T := (· = h.next)) (c03.trans (Chg.keeps k4)) c5 fun y hy q => by omega
 have g5 := c5.got (by omega) (by omega) (k4.got (by omega) g3)
 have j5 := cA.got lj njb j
 have R5 : Row encS H5 ⟨r21.1.a, r21.1.len, r21.1.cap⟩ names := Row.chg R4 c5 fun a ha q => by have := f4 a ha; omega
 refine Gx.Wp.bnd (sldA_at r5 rfl) (Gx.Wp.bnd rfl ?_)
 have ag : Agr (But O ib) h H5 := chg_agr cA (fun y o => J.lt y o.1) fun y o => o.2
 have dd := co n hn O H5 h.next (fun y o => o) ag J.lt (by omega) g5 (c, d, names) ⟨r21.1.a, r21.1.len, r21.1.cap⟩ R5 (fun a ha => by have := f4 a ha; show h.next ≤ _ ∧ _; omega) hy
 refine Does.wp dd (by kernel_rfl) fun h6 q6 => ?_
 obtain ⟨c6, i6⟩ := q6
 have j6 := c6.got (by omega) (fun z => z.elim J.nj fun z => by omega) j5
 refine Gx.Wp.call (settle_P (L n) j6 i6) fun y hy => ?_
 obtain ⟨cy, ny, iy, fy⟩ := hy
 have call : Chg O h y.2 := (Chg.beh (cA.wk fun y _ q => q ▸ o) c6 fun y hy z => z.elim id fun z => by omega).trans (cy.wk fun y _ q => q ▸ o)
 have n6 := c6.nx
 have eG : Gr O h.next y.2 = Gr O h.next h6 := by funext y'; unfold Gr; rw [ny]
 refine Gx.Wp.of ⟨rfl, ⟨by dsimp only; omega, fun z => z.elim J.nj fun z => by omega, fun y' z => z.elim (fun z => by have := J.lt y' z; dsimp only; omega) fun z => z.2, ib, .inl o, cy.got (by omega) njb j6, by rw [eG]; exact iy, fy⟩, call⟩
theorem Start_P {L : Nat → CallF} {k n N : Nat} {g : Nat} {x y : Array Value} {p : Prg} {O : Nat → Prop} {h : AHeap} (lt : ∀ y, O y → y < h.next)
  (run : ∀ h' : AHeap, Keeps h h' → h.next < h'.next → h'.get h.next = some (.cells (ioC q0 .nilFunc false 0 0 nils nils 0) 89 true 0) →
   Does (L n) g x y [ptr h.next] h' fun h'' => Chg (In (fun y => O y ∨ y = h.next) h'.next) h' h'' ∧ IoQ L N h.next p 0 (Gr (fun y => O y ∨ y = h.next) h'.next h'') h'') :
  Gx.Wp (port_Start k (L n) (.func (.func g) x y) h) fun z => ∃ jb O', z.1 = some ⟨jb, 0, none⟩ ∧ Chg O h z.2 ∧ JobP L N jb p 0 O' z.2 ∧ (∀ y, O y → O' y) ∧ (∀ y, O' y → O y ∨ h.next ≤ y) ∧ h.next ≤ jb := by
 simp only [port_Start]
 obtain ⟨H1, e1⟩ : ∃ H1, H1 = h.new (.cells (ioC q0 .nilFunc false 0 0 nils nils 0) 89 true 0) := ⟨_, rfl⟩
 have e1' : h.new (.cells [.int .i64 0, .int .i64 0, .string (⟨#[]⟩ : ByteArray), .string (⟨#[]⟩ : ByteArray), .nilFunc, .bool false, .int .i64 0, .string (⟨#[]⟩ : ByteArray), .int .i64 0, .slice none 0 0, .slice none 0 0, .slice none 0 0, .slice none 0 0, .int .i64 0] 89 true 0) = H1 := e1.symm
 rw [e1']
 have k1 : Keeps h H1 := e1 ▸ Keeps.new h _
 have n1 : H1.next = h.next + 1 := by rw [e1]; rfl
 have i1 : H1.get h.next = some (.cells (ioC q0 .nilFunc false 0 0 nils nils 0) 89 true 0) := by rw [e1]; simp
 obtain ⟨H2, e2⟩ : ∃ H2, H2 = H1.new (.cells [ptr h.next] 91 true 0) := ⟨_, rfl⟩
 have e2' : H1.new (.cells [.pointer (some ⟨h.next, 0, none⟩)] 91 true 0) = H2 := e2.symm
 rw [e2']
 have k2 : Keeps H1 H2 := e2 ▸ Keeps.new H1 _
 have n2 : H2.next = h.next + 2 := by rw [e2, AHeap.next_new, n1]
 have j2 : H2.get H1.next = some (.cells [ptr h.next] 91 true 0) := by rw [e2]; simp
 have i2 := k2.got (by omega) i1
 refine Gx.Wp.jn fun j5 h5 => Gx.Wp.bnd (a := false) rfl (Gx.Wp.ifp rfl (Gx.Wp.bnd (ldP_at j2 rfl) ?_))
 refine Does.wp (run H2 (k1.trans k2) (by omega) i2) (by kernel_rfl) fun h6 q6 => ?_
 obtain ⟨c6, i6⟩ := q6
 subst h5
 have n6 := c6.nx
 have nin : ¬ In (fun y => O y ∨ y = h.next) H2.next H1.next := by
  rintro ((z | z) | z)
  ·have := lt _ z; omega
  ·omega
  ·omega
 have j6 := c6.got (by omega) nin j2
 refine Gx.Wp.call (settle_P (L n) j6 i6) fun y hy => ?_
 obtain ⟨cy, ny, iy, fy⟩ := hy
 refine Gx.Wp.of ⟨H1.next, Gr (fun y => O y ∨ y = h.next) H2.next y.2, rfl, ?_, ⟨by dsimp only; omega, ?_, ?_, h.next, .inl (.inr rfl), cy.got (by omega) (by omega) j6, ?_, fy⟩, fun y o => .inl (.inl o), ?_, by omega⟩
 ·refine Chg.beh (Chg.beh (Chg.keeps (k1.trans k2)) c6 fun y hy z => ?_) cy fun y hy z => by omega
  rcases z with (z | z) | z
  ·exact z
  ·omega
  ·omega
 ·rintro ((z | z) | z)
  ·have := lt _ z; omega
  ·omega
  ·omega
 ·rintro y' ((z | z) | z)
  ·have := lt _ z; dsimp only; omega
  ·dsimp only; omega
  ·exact z.2
 ·have eG : Gr (fun y => O y ∨ y = h.next) H2.next y.2 = Gr (fun y => O y ∨ y = h.next) H2.next h6 := by funext y'; unfold Gr; rw [ny]
  rw [eG]; exact iy
 ·rintro y' ((z | z) | z)
  ·exact .inl z
  ·exact .inr (by omega)
  ·exact .inr (by omega)
end Gt
namespace Gt
open Go Gx
noncomputable def lvl (k : Nat) : Nat → CallF
 | 0 => noC
 | n + 1 => mkC (lvl k n) [e_fan_PutJob_1 k (lvl k n), e_fan_PutJob_1_1 k (lvl k n), e_fan_GetJob_1 k (lvl k n), e_fan_GetJob_1_1 k (lvl k n), e_fan_ListJob_1 k (lvl k n), e_fan_ListJob_1_1 k (lvl k n), e_fan_DelJob_1 k (lvl k n), e_fan_DelJob_1_1 k (lvl k n), e_port_IO_All_1 k (lvl k n), e_port_IO_All_1_1 k (lvl k n), e_fan_job_1 k (lvl k n), e_fan_Puts_1 k (lvl k n), e_fan_Lists_1 k (lvl k n), e_fan_Dels_1 k (lvl k n),
   e_law09_calls_begin k (lvl k n), e_law09_calls_put k (lvl k n), e_law09_calls_got k (lvl k n), e_law09_calls_listed k (lvl k n), e_law09_calls_gone k (lvl k n)]
theorem lvl_sound (k : Nat) : ∀ n, CSound Go.Proofs.Tryz.prog 0 (lvl k n)
 | 0 => noC_sound
 | n + 1 => mkC_sound (lvl_sound k n) (EntsOk.more (ok_fan_PutJob_1 (lvl_sound k n) k) (EntsOk.more (ok_fan_PutJob_1_1 (lvl_sound k n) k) (EntsOk.more (ok_fan_GetJob_1 (lvl_sound k n) k) (EntsOk.more (ok_fan_GetJob_1_1 (lvl_sound k n) k) (EntsOk.more (ok_fan_ListJob_1 (lvl_sound k n) k) (EntsOk.more (ok_fan_ListJob_1_1 (lvl_sound k n) k) (EntsOk.more (ok_fan_DelJob_1 (lvl_sound k n) k) (EntsOk.more (ok_fan_DelJob_1_1 (lvl_sound k n) k)
   (EntsOk.more (ok_port_IO_All_1 (lvl_sound k n) k) (EntsOk.more (ok_port_IO_All_1_1 (lvl_sound k n) k) (EntsOk.more (ok_fan_job_1 (lvl_sound k n) k) (EntsOk.more (ok_fan_Puts_1 (lvl_sound k n) k) (EntsOk.more (ok_fan_Lists_1 (lvl_sound k n) k) (EntsOk.more (ok_fan_Dels_1 (lvl_sound k n) k)
   (EntsOk.more (ok_law09_calls_begin (lvl_sound k n) k) (EntsOk.more (ok_law09_calls_put (lvl_sound k n) k) (EntsOk.more (ok_law09_calls_got (lvl_sound k n) k) (EntsOk.more (ok_law09_calls_listed (lvl_sound k n) k) (EntsOk.more (ok_law09_calls_gone (lvl_sound k n) k) EntsOk.none)))))))))))))))))))
def ThenP (L : Nat → CallF) (N c ib : Nat) (g : Nat) (x y : Array Value) (len : Nat) (K : List Ry → Prg) (O : Nat → Prop) (h : AHeap) : Prop :=
 ∀ n, c ≤ n → ∀ (P : Nat → Prop) (h' : AHeap) (m st : Nat) (q : Rq), (∀ y, O y → P y) → Agr (But O ib) h h' → (∀ y, P y → y < m) → m ≤ h'.next → P ib → h'.get ib = some (.cells (ioC q .nilFunc false 0 0 nils nils st) 89 true 0) →
  ∀ (ys : List Ry) (xs : List Rp) (sl : Slc), RowW 3 encP h' sl xs → Say h' xs ys → ys.length = len → OwnS (But (In P m) ib) sl → (∀ (i : Nat) (z : Rp), xs[i]? = some z → OwnS (But (In P m) ib) z.2.2) → (∀ y ∈ ys, SmallY y) → ((∀ a, sl.a = some a → ¬ O a.block) ∧ ∀ (i : Nat) (z : Rp), xs[i]? = some z → ∀ a, z.2.2.a = some a → ¬ O a.block) →
  Does (L n) g x y [.slice sl.a sl.len sl.cap] h' fun h'' => Chg (In P m) h' h'' ∧ IoQ L N ib (K ys) st (Gr P m h'') h''
structure AN where
 lb : Nat
 tb : Nat
 ob : Nat
 nb : Nat
 ab : Nat
 ac : Nat
 ls : Slc
def AN.next (A : AN) : Value := .func (.func 94) ⟨[]⟩ ⟨[ptr A.ab, ptr A.lb, ptr A.tb, ptr A.ob, ptr A.nb]⟩
structure AS (O0 : Nat → Prop) (m0 ib : Nat) (h0 : AHeap) (tv : Value) (A : AN) (qs : List Rq) (O : Nat → Prop) (h : AHeap) (xs : List Rp) (ys : List Ry) : Prop where
 sub : ∀ y, O0 y → O y
 low : ∀ y, O0 y → y < m0
 agr : Agr (But O0 ib) h0 h
 own : (But O ib A.lb ∧ But O ib A.tb ∧ But O ib A.ob ∧ But O ib A.nb) ∧ But O ib A.ab ∧ But O ib A.ac
 ge : m0 ≤ A.ab ∧ m0 ≤ A.ac
 l : h.get A.lb = some (.cells [.slice A.ls.a A.ls.len A.ls.cap] 124 true 0)
 t : h.get A.tb = some (.cells [tv] 127 true 0)
 o : h.get A.ob = some (.cells [ptr ib] 34 true 0)
 n : h.get A.nb = some (.cells [A.next] 1 true 0)
 a : h.get A.ab = some (.cells [.slice (some ⟨A.ac, 0, some 0⟩) xs.length qs.length] 36 true 0)
 c : ∃ rest, h.get A.ac = some (.cells (xs.flatMap encP ++ rest) 59 true 0) ∧ rest.length = (qs.length - xs.length) * 3
 ls : RowW 4 encQ h A.ls qs
 lso : ∀ a, A.ls.a = some a → But O ib a.block ∧ a.block ≠ A.ab ∧ a.block ≠ A.ac
 say : Say h xs ys
 so : ∀ (i : Nat) (z : Rp), xs[i]? = some z → ∀ a, z.2.2.a = some a → But O ib a.block ∧ a.block ≠ A.ab ∧ a.block ≠ A.ac
 le : xs.length ≤ qs.length
 sm : ∀ y ∈ ys, SmallY y
 no : ∀ (i : Nat) (z : Rp), xs[i]? = some z → ∀ a, z.2.2.a = some a → ¬ O0 a.block
theorem Say.agr {O : Nat → Prop} {h h' : AHeap} {xs : List Rp} {ys : List Ry} (s : Say h xs ys) (a : Agr O h h') (o : ∀ (i : Nat) (z : Rp), xs[i]? = some z → OwnS O z.2.2) : Say h' xs ys :=
 ⟨s.1, fun i x y hx hy => ⟨(s.2 i x y hx hy).1, (s.2 i x y hx hy).2.1, Row.agr (s.2 i x y hx hy).2.2 a (o i x hx)⟩⟩
theorem AS.frame {O0 : Nat → Prop} {m0 ib : Nat} {h0 : AHeap} {tv : Value} {A : AN} {qs : List Rq} {O P : Nat → Prop} {h h' : AHeap} {xs : List Rp} {ys : List Ry} (s : AS O0 m0 ib h0 tv A qs O h xs ys) (sub : ∀ y, O y → P y) (a : Agr (But O ib) h h') : AS O0 m0 ib h0 tv A qs P h' xs ys := by
 have up : ∀ y, But O ib y → But P ib y := fun y o => ⟨sub y o.1, o.2⟩
 obtain ⟨⟨w1, w2, w3, w4⟩, w5, w6⟩ := s.own
 obtain ⟨rest, hc, hr⟩ := s.c
 exact ⟨fun y o => sub y (s.sub y o), s.low, s.agr.trans (a.wk fun y o => ⟨s.sub y o.1, o.2⟩), ⟨⟨up _ w1, up _ w2, up _ w3, up _ w4⟩, up _ w5, up _ w6⟩, s.ge, (a.eq _ w1).trans s.l, (a.eq _ w2).trans s.t, (a.eq _ w3).trans s.o, (a.eq _ w4).trans s.n, (a.eq _ w5).trans s.a,
  ⟨rest, (a.eq _ w6).trans hc, hr⟩, RowW.agr s.ls a fun b hb => (s.lso b hb).1, fun b hb => ⟨up _ (s.lso b hb).1, (s.lso b hb).2⟩, s.say.agr a fun i z hz b hb => (s.so i z hz b hb).1, fun i z hz b hb => ⟨up _ (s.so i z hz b hb).1, (s.so i z hz b hb).2⟩, s.le, s.sm, s.no⟩
theorem Gr.le {O : Nat → Prop} {m : Nat} {h : AHeap} {y : Nat} (o : O y) : Gr O m h y := .inl o
section
variable {k N c : Nat} {O0 : Nat → Prop} {m0 ib : Nat} {h0 : AHeap} {g : Nat} {x y : Array Value} {A : AN} {qs : List Rq} {K : List Ry → Prg}
def NextOk (k N ib : Nat) (O0 : Nat → Prop) (m0 : Nat) (h0 : AHeap) (g : Nat) (x y : Array Value) (A : AN) (qs : List Rq) (K : List Ry → Prg) (c r : Nat) : Prop :=
 ∀ {P : Nat → Prop} {h : AHeap} {xs : List Rp} {ys : List Ry} {m st n : Nat} {q : Rq}, xs.length + r = qs.length → c + 1 ≤ n → AS O0 m0 ib h0 (.func (.func g) x y) A qs P h xs ys → P ib → (∀ y, P y → y < m) → m ≤ h.next →
  h.get ib = some (.cells (ioC q .nilFunc false 0 0 nils nils st) 89 true 0) →
  Gx.Wp (port_IO_All_1 k (lvl k n) (some ⟨A.ab, 0, none⟩) (some ⟨A.lb, 0, none⟩) (some ⟨A.tb, 0, none⟩) (some ⟨A.ob, 0, none⟩) (some ⟨A.nb, 0, none⟩) h) fun z => Chg (In P m) h z.2 ∧ IoQ (lvl k) N ib (askAll (qs.drop xs.length) ys K) st (Gr P m z.2) z.2
theorem back_io {r : Nat} (nx : NextOk k N ib O0 m0 h0 g x y A qs K c r) {P : Nat → Prop} {h : AHeap} {xs : List Rp} {ys : List Ry} {m st n : Nat} {q : Rq} (hr1 : xs.length + (r + 1) = qs.length) (hn : c + 2 ≤ n) (S : AS O0 m0 ib h0 (.func (.func g) x y) A qs P h xs ys) (hP : P ib) (lt : ∀ y, P y → y < m) (hm : m ≤ h.next)
  (hio : h.get ib = some (.cells (ioC q .nilFunc false 0 0 nils nils st) 89 true 0)) {a : Ry} {sl : Slc} (R : Row encS h sl a.2.2) (ow : OwnS (fun b => m ≤ b ∧ b < h.next) sl) (sm : SmallY a) :
  Gx.Wp (port_IO_All_1_1 k (lvl k n) (a.1, a.2.1, sl) (some ⟨A.ab, 0, none⟩) (some ⟨A.nb, 0, none⟩) h) fun z => Chg (In P m) h z.2 ∧ IoQ (lvl k) N ib (askAll (qs.drop (xs.length + 1)) (ys ++ [a]) K) st (Gr P m z.2) z.2 := by
 simp only [port_IO_All_1_1]
 have own := S.own
 obtain ⟨⟨w1, w2, w3, w4⟩, w5, w6⟩ := own
 have l5 := lt _ w5.1
 have l6 := lt _ w6.1
 have l4 := lt _ w4.1
 obtain ⟨H1, e1⟩ : ∃ H1, H1 = h.new (.cells [.int .i64 a.1, .string a.2.1, .slice sl.a sl.len sl.cap] 59 true 0) := ⟨_, rfl⟩
 rw [← e1]
 have k1 : Keeps h H1 := e1 ▸ Keeps.new h _
 have n1 : H1.next = h.next + 1 := by rw [e1]; rfl
 have g1 : H1.get h.next = some (.cells [.int .i64 a.1, .string a.2.1, .slice sl.a sl.len sl.cap] 59 true 0) := by rw [e1]; simp
 have a1 := k1.got (by omega) S.a
 refine Gx.Wp.bnd rfl (Gx.Wp.bnd (sldL_at a1 rfl) (Gx.Wp.bnd (sldA_at g1 rfl) (Gx.Wp.bnd rfl ?_)))
 obtain ⟨H2, e2⟩ : ∃ H2, H2 = H1.new (.cells (encP (a.1, a.2.1, sl)) 59 true 0) := ⟨_, rfl⟩
 have e2' : H1.new (.cells [.int .i64 a.1, .string a.2.1, .slice sl.a sl.len sl.cap] 59 true 0) = H2 := e2.symm
 dsimp only
 rw [e2']
 have k2 : Keeps H1 H2 := e2 ▸ Keeps.new H1 _
 have n2 : H2.next = h.next + 2 := by rw [e2, AHeap.next_new, n1]
 have rd : Gx.rdS 3 (⟨some ⟨H1.next, 0, some 0⟩, 1, 1⟩ : Slc) H2 = some (encP (a.1, a.2.1, sl)) := e2 ▸ rdS_oneW encP_len (a.1, a.2.1, sl) 59
 refine Gx.Wp.bnd rd ?_
 obtain ⟨rest, hc, hr⟩ := S.c
 have hc2 := Keeps.got (k1.trans k2) (by omega) hc
 have a2 := k2.got (by omega) a1
 have fl := flatW_length encP_len xs
 have hrl : rest.length = (qs.length - (xs.length + 1)) * 3 + 3 := by rw [hr]; omega
 have ap : appendA 3 48 59 H2 (⟨some ⟨A.ac, 0, some 0⟩, xs.length, qs.length⟩ : Slc) (encP (a.1, a.2.1, sl)) 1 = some (⟨some ⟨A.ac, 0, some 0⟩, xs.length + 1, qs.length⟩, H2.set A.ac (.cells (splice (xs.flatMap encP ++ rest) (0 + xs.length * 3) (encP (a.1, a.2.1, sl))) 59 true 0)) := by
  simp only [appendA]
  rw [if_pos (by omega), if_neg (by decide)]
  simp only [AHeap.wrL, encP, hc2]
  rw [if_pos ⟨by simp only [List.length_append, List.length_cons, List.length_nil]; rw [fl]; omega, Nat.zero_le _, rfl⟩]
  rfl
 refine Gx.Wp.bnd ap ?_
 have esp : splice (xs.flatMap encP ++ rest) (0 + xs.length * 3) (encP (a.1, a.2.1, sl)) = (xs ++ [(a.1, a.2.1, sl)]).flatMap encP ++ rest.drop 3 := by
  unfold splice
  rw [Nat.zero_add, ← fl, List.take_left', List.drop_length_add_append, List.flatMap_append, encP_len]
  ·simp
  ·rfl
 rw [esp]
 have nac : A.ab ≠ A.ac := blk_ne S.a hc (by decide)
 obtain ⟨H3, e3⟩ : ∃ H3, H3 = H2.set A.ac (.cells ((xs ++ [(a.1, a.2.1, sl)]).flatMap encP ++ rest.drop 3) 59 true 0) := ⟨_, rfl⟩
 dsimp only
 rw [← e3]
 have c3 : Chg (· = A.ac) H2 H3 := e3 ▸ Chg.set (.inr rfl)
 have n3 : H3.next = h.next + 2 := by rw [e3]; exact n2
 have a3 := c3.got (by omega) nac a2
 have x3 : H3.get A.ac = some (.cells ((xs ++ [(a.1, a.2.1, sl)]).flatMap encP ++ rest.drop 3) 59 true 0) := by rw [e3]; simp
 refine Gx.Wp.bnd rfl (Gx.Wp.st (sp := none) a3 (by show 0 < 1; omega) rfl fun H4 (c4 : Chg (· = A.ab) H3 H4) n4 a4 => ?_)
 have a4 : H4.get A.ab = some (.cells [.slice (some ⟨A.ac, 0, some 0⟩) (xs.length + 1) qs.length] 36 true 0) := a4
 have x4 := c4.got (by omega) (fun z => nac z.symm) x3
 have cT : Chg (fun z => z = A.ac ∨ z = A.ab) h H4 := (Chg.keeps (k1.trans k2)).trans ((c3.wk fun y _ q => .inl q).trans (c4.wk fun y _ q => .inr q))
 have hio4 := cT.got (lt _ hP |> fun z => by omega) (fun z => z.elim (fun z => w6.2 z.symm) fun z => w5.2 z.symm) hio
 have n4 : H4.next = h.next + 2 := n4.trans n3
 have ag0 : Agr (But O0 ib) h H4 := chg_agr cT (fun y o => by have := S.low y o.1; have := S.ge; have := lt _ (S.sub y o.1); omega) fun y o z => by have := S.low y o.1; have := S.ge; omega
 have upP : ∀ y, P y → Gr P m H4 y := fun y o => .inl o
 have up : ∀ y, But P ib y → But (Gr P m H4) ib y := fun y o => ⟨.inl o.1, o.2⟩
 have nb : ∀ {y}, But P ib y → y ≠ A.ab → y ≠ A.ac → ¬ (y = A.ac ∨ y = A.ab) := fun _ h1 h2 z => z.elim h2 h1
 have kp : ∀ {y B}, But P ib y → y ≠ A.ab → y ≠ A.ac → h.get y = some B → H4.get y = some B := fun o h1 h2 hb => cT.got (by have := lt _ o.1; omega) (nb o h1 h2) hb
 have S4 : AS O0 m0 ib h0 (.func (.func g) x y) A qs (Gr P m H4) H4 (xs ++ [(a.1, a.2.1, sl)]) (ys ++ [a]) := by
  refine ⟨fun y o => .inl (S.sub y o), S.low, S.agr.trans ag0, ⟨⟨up _ w1, up _ w2, up _ w3, up _ w4⟩, up _ w5, up _ w6⟩, S.ge, ?_, ?_, ?_, ?_, ?_, ⟨rest.drop 3, x4, by simp; omega⟩, ?_, ?_, ?_, ?_, by simp; omega, ?_, ?_⟩
  ·exact kp w1 (blk_ne S.l S.a (by decide)) (blk_ne S.l hc (by decide)) S.l
  ·exact kp w2 (blk_ne S.t S.a (by decide)) (blk_ne S.t hc (by decide)) S.t
  ·exact kp w3 (blk_ne S.o S.a (by decide)) (blk_ne S.o hc (by decide)) S.o
  ·exact kp w4 (blk_ne S.n S.a (by decide)) (blk_ne S.n hc (by decide)) S.n
  ·rw [a4]; simp
  ·exact RowW.chg S.ls cT fun b hb => nb (S.lso b hb).1 (S.lso b hb).2.1 (S.lso b hb).2.2
  ·exact fun b hb => ⟨up _ (S.lso b hb).1, (S.lso b hb).2⟩
  ·refine ⟨by simp [S.say.1], fun i u v hu hv => ?_⟩
   by_cases ci : i < xs.length
   ·rw [List.getElem?_append_left ci] at hu
    rw [List.getElem?_append_left (by rw [← S.say.1]; exact ci)] at hv
    obtain ⟨z1, z2, z3⟩ := S.say.2 i u v hu hv
    exact ⟨z1, z2, Row.chg z3 cT fun b hb => nb (S.so i u hu b hb).1 (S.so i u hu b hb).2.1 (S.so i u hu b hb).2.2⟩
   ·rw [List.getElem?_append_right (by omega)] at hu
    rw [List.getElem?_append_right (by rw [← S.say.1]; omega)] at hv
    rw [← S.say.1] at hv
    have i0 : i - xs.length = 0 := by
     have := (List.getElem?_eq_some_iff.1 hu).1
     simp at this; omega
    rw [i0] at hu hv
    simp at hu hv
    subst hu hv
    exact ⟨rfl, rfl, Row.chg R cT fun b hb z => by have := ow b hb; omega⟩
  ·intro i z hz b hb
   by_cases ci : i < xs.length
   ·rw [List.getElem?_append_left ci] at hz
    exact ⟨up _ (S.so i z hz b hb).1, (S.so i z hz b hb).2⟩
   ·rw [List.getElem?_append_right (by omega)] at hz
    have i0 : i - xs.length = 0 := by
     have := (List.getElem?_eq_some_iff.1 hz).1
     simp at this; omega
    rw [i0] at hz
    simp at hz
    subst hz
    have q := ow b hb
    have := lt _ hP
    exact ⟨⟨.inr ⟨q.1, by omega⟩, by omega⟩, by omega, by omega⟩
  ·intro z hz
   rcases List.mem_append.1 hz with hz | hz
   ·exact S.sm z hz
   ·simp at hz; subst hz; exact sm
  ·intro i z hz b hb
   by_cases ci : i < xs.length
   ·rw [List.getElem?_append_left ci] at hz
    exact S.no i z hz b hb
   ·rw [List.getElem?_append_right (by omega)] at hz
    have i0 : i - xs.length = 0 := by
     have := (List.getElem?_eq_some_iff.1 hz).1
     simp at this; omega
    rw [i0] at hz
    simp at hz
    subst hz
    have q := ow b hb
    exact fun z => by have := lt _ (S.sub _ z); omega
 refine Gx.Wp.bnd rfl (Gx.Wp.bnd (ldV_at S4.n rfl) ?_)
 obtain ⟨n', rfl⟩ : ∃ n', n = n' + 1 := ⟨n - 1, by omega⟩
 have w := nx (n := n') (m := H4.next) (st := st) (q := q) (by simp; omega) (by omega) S4 (.inl hP) (fun y o => o.elim (fun o => by have := lt y o; omega) fun o => o.2) (Nat.le_refl _) hio4
 refine Does.wp (Q := fun h' => Chg (In (Gr P m H4) H4.next) H4 h' ∧ IoQ (lvl k) N ib (askAll (qs.drop (xs ++ [(a.1, a.2.1, sl)]).length) (ys ++ [a]) K) st (Gr (Gr P m H4) H4.next h') h') (Does.of (X := port_IO_All_1 k (lvl k n') (some ⟨A.ab, 0, none⟩) (some ⟨A.lb, 0, none⟩) (some ⟨A.tb, 0, none⟩) (some ⟨A.ob, 0, none⟩) (some ⟨A.nb, 0, none⟩) H4) (by decide) (fun R κ => rfl) w) (by kernel_rfl) fun h5 q5 => ?_
 obtain ⟨c5, i5⟩ := q5
 have n5 := c5.nx
 refine Gx.Wp.of ⟨Chg.beh (cT.wk fun y _ q => .inl (q.elim (fun q => q ▸ w6.1) fun q => q ▸ w5.1)) c5 fun y hy q => ?_, ?_⟩
 ·rcases q with (q | q) | q
  ·exact .inl q
  ·exact .inr q.1
  ·exact .inr (by omega)
 ·rw [List.length_append] at i5
  refine i5.mono fun y q => ?_
  rcases q with (q | q) | q
  ·exact .inl q
  ·exact .inr ⟨q.1, by dsimp only; omega⟩
  ·exact .inr ⟨by omega, q.2⟩
end
end Gt
namespace Gt
open Go Gx
section
variable {k N c : Nat} {O0 : Nat → Prop} {m0 ib : Nat} {h0 : AHeap} {g : Nat} {x y : Array Value} {A : AN} {qs : List Rq} {K : List Ry → Prg}
theorem next_io (T : ThenP (lvl k) N c ib g x y qs.length K O0 h0) (hN : c + 3 ≤ N) : ∀ r, NextOk k N ib O0 m0 h0 g x y A qs K c r := fun r => by
 induction r with
 | zero =>
  intro P h xs ys m st n q hr hn S hP lt hm hio
  have hc : xs.length = qs.length := by omega
  simp only [port_IO_All_1]
  obtain ⟨⟨w1, w2, w3, w4⟩, w5, w6⟩ := S.own
  refine Gx.Wp.bnd rfl (Gx.Wp.bnd (sldL_at S.a rfl) (Gx.Wp.bnd rfl (Gx.Wp.bnd (sldL_at S.l rfl) ?_)))
  refine Gx.Wp.ifp (by show ((xs.length : Int) == (A.ls.len : Int)) = true; rw [S.ls.len, hc]; simp) ?_
  refine Gx.Wp.bnd rfl (Gx.Wp.bnd (ldV_at S.t rfl) (Gx.Wp.bnd rfl (Gx.Wp.bnd (sldL_at S.a rfl) ?_)))
  obtain ⟨rest, hcc, hrl⟩ := S.c
  have : rest = [] := List.eq_nil_of_length_eq_zero (by rw [hrl, hc]; omega)
  rw [this, List.append_nil] at hcc
  have R : RowW 3 encP h ⟨some ⟨A.ac, 0, some 0⟩, xs.length, qs.length⟩ xs := by
   have := rowW_blk (cap := qs.length) (sp := some 0) encP_len hcc (by have := lt _ w6.1; omega) (Nat.le_refl _)
   rw [List.take_length] at this
   exact this
  have d := T n (by omega) P h m st q S.sub S.agr lt hm hP hio ys xs _ R S.say (by rw [← S.say.1]; exact hc) (fun a ha => by cases ha; exact ⟨.inl w6.1, w6.2⟩) (fun i z hz a ha => ⟨.inl (S.so i z hz a ha).1.1, (S.so i z hz a ha).1.2⟩) S.sm ⟨fun a ha z => by cases ha; have := S.low _ z; have := S.ge; dsimp only at *; omega, S.no⟩
  refine Does.wp d (by kernel_rfl) fun h5 q5 => Gx.Wp.of ⟨q5.1, ?_⟩
  rw [hc, List.drop_length]; exact q5.2
 | succ r ih =>
  intro P h xs ys m st n q hr hn S hP lt hm hio
  simp only [port_IO_All_1]
  obtain ⟨⟨w1, w2, w3, w4⟩, w5, w6⟩ := S.own
  refine Gx.Wp.bnd rfl (Gx.Wp.bnd (sldL_at S.a rfl) (Gx.Wp.bnd rfl (Gx.Wp.bnd (sldL_at S.l rfl) ?_)))
  refine Gx.Wp.ifn (by show ¬ ((xs.length : Int) == (A.ls.len : Int)) = true; rw [S.ls.len]; simp; omega) ?_
  obtain ⟨q', hq'⟩ := isome (l := qs) (i := xs.length) (by omega)
  obtain ⟨a, b1, b2, _, _⟩ := S.ls.ld encQ_len (by decide) hq'
  refine Gx.Wp.bnd rfl (Gx.Wp.bnd (ldP_at S.o rfl) (Gx.Wp.bnd rfl (Gx.Wp.bnd (sldL_at S.l rfl) (Gx.Wp.bnd rfl (Gx.Wp.bnd (sldL_at S.a rfl) (Gx.Wp.bnd b1 (Gx.Wp.bnd b2 (Gx.Wp.bnd rfl ?_))))))))
  refine Gx.Wp.call (Ask_spec (q' := q') (lvl k n) hio (by have := lt _ hP; omega)) fun z hz => ?_
  obtain ⟨cz, gz⟩ := hz
  have agz : Agr (But P ib) h z.2 := chg_agr cz (fun y o => by have := lt _ o.1; omega) fun y o => o.2
  refine Gx.Wp.of ⟨cz.wk fun y _ q => .inl (q ▸ hP), ?_⟩
  rw [dropc hq']
  simp only [askAll]
  refine ⟨96, _, _, gz, fun n' hn' P' h' m' sub ag lt' hm' hio' a sl R ow sm => ?_⟩
  have S' := (S.frame (fun y o => (.inl o : Gr P m z.2 y)) agz).frame sub ag
  obtain ⟨n'', rfl⟩ : ∃ n'', n' = n'' + 1 := ⟨n' - 1, by omega⟩
  have w := back_io ih hr (n := n'') (by omega) S' (sub _ (.inl hP)) lt' hm' hio' R ow sm
  exact Does.of (X := port_IO_All_1_1 k (lvl k n'') (a.1, a.2.1, sl) (some ⟨A.ab, 0, none⟩) (some ⟨A.nb, 0, none⟩) h') (by decide) (fun R κ => rfl) w
theorem All_io {n st m : Nat} {q : Rq} {O : Nat → Prop} {h : AHeap} {l : Slc} (hN : c + 3 ≤ N) (hn : c + 2 ≤ n) (T : ThenP (lvl k) N c ib g x y qs.length K O h) (hO : O ib) (lt : ∀ y, O y → y < m) (hm : m ≤ h.next)
  (hio : h.get ib = some (.cells (ioC q .nilFunc false 0 0 nils nils st) 89 true 0)) (R : RowW 4 encQ h l qs) (hq : qs.length ≤ 1048576) :
  Gx.Wp (port_IO_All k (lvl k n) (some ⟨ib, 0, none⟩) l (.func (.func g) x y) h) fun z => Chg (In O m) h z.2 ∧ IoQ (lvl k) N ib (askAll qs [] K) st (Gr O m z.2) z.2 := by
 simp only [port_IO_All]
 have ec : (Value.func (.func g) x y).cells.toList = [.func (.func g) x y] := rfl
 rw [ec]
 obtain ⟨H1, e1⟩ : ∃ H1, H1 = h.new (.cells [.pointer (some ⟨ib, 0, none⟩)] 34 true 0) := ⟨_, rfl⟩
 rw [← e1]
 have k1 : Keeps h H1 := e1 ▸ Keeps.new h _
 have n1 : H1.next = h.next + 1 := by rw [e1]; rfl
 have o1 : H1.get h.next = some (.cells [ptr ib] 34 true 0) := by rw [e1]; simp; rfl
 obtain ⟨H2, e2⟩ : ∃ H2, H2 = H1.new (.cells [.slice l.a l.len l.cap] 124 true 0) := ⟨_, rfl⟩
 rw [← e2]
 have k2 : Keeps H1 H2 := e2 ▸ Keeps.new H1 _
 have n2 : H2.next = h.next + 2 := by rw [e2, AHeap.next_new, n1]
 have l2 : H2.get H1.next = some (.cells [.slice l.a l.len l.cap] 124 true 0) := by rw [e2]; simp
 obtain ⟨H3, e3⟩ : ∃ H3, H3 = H2.new (.cells [.func (.func g) x y] 127 true 0) := ⟨_, rfl⟩
 rw [← e3]
 have k3 : Keeps H2 H3 := e3 ▸ Keeps.new H2 _
 have n3 : H3.next = h.next + 3 := by rw [e3, AHeap.next_new, n2]
 have t3 : H3.get H2.next = some (.cells [.func (.func g) x y] 127 true 0) := by rw [e3]; simp
 have l3 := k3.got (by omega) l2
 have k03 : Keeps h H3 := (k1.trans k2).trans k3
 refine Gx.Wp.bnd (sldL_at l3 rfl) ?_
 refine Gx.Wp.call (cloneQ_spec (lvl k n) (s := ⟨l.a, l.len, l.cap⟩) (R.keeps k03) hq) fun r5 q5 => ?_
 obtain ⟨k5, A5⟩ := q5
 have m5 := k5.nx
 have l5 := k5.got (by omega) l3
 refine Gx.Wp.st (sp := none) l5 (by show 0 < 1; omega) rfl fun H6 (c6 : Chg (· = H1.next) r5.2 H6) n6 l6 => ?_
 have l6 : H6.get H1.next = some (.cells [.slice r5.1.a r5.1.len r5.1.cap] 124 true 0) := l6
 have k6 : Keeps h H6 := Chg.beh (k03.trans k5) c6 fun y hy q => by omega
 have A6 := A5.chg c6 fun a ha q => by have := (A5.lt a ha).2; omega
 have o6 := c6.got (by omega) (by omega) (k5.got (by omega) (Keeps.got (k2.trans k3) (by omega) o1))
 have t6 := c6.got (by omega) (by omega) (k5.got (by omega) t3)
 refine Gx.Wp.bnd (sldL_at l6 rfl) ?_
 have lsl : r5.1.len = qs.length := (A5.row encQ_len).len
 have el : (⟨r5.1.a, r5.1.len, r5.1.cap⟩ : Slc).len = qs.length := lsl
 rw [el]
 refine Gx.Wp.ifp ⟨by decide, by omega, by omega, by omega⟩ ?_
 rw [Int.toNat_natCast]
 obtain ⟨Z, eZ⟩ : ∃ Z, Z = zerosL qs.length [.int .i64 0, .string ⟨#[]⟩, .slice none 0 0] := ⟨_, rfl⟩
 have zl : Z.length = qs.length * 3 := by rw [eZ]; exact zeros_len _ _ _ _
 rw [← eZ]
 obtain ⟨H8, e8⟩ : ∃ H8, H8 = H6.new (.cells Z 59 true 0) := ⟨_, rfl⟩
 rw [← e8]
 have k8 : Keeps H6 H8 := e8 ▸ Keeps.new H6 _
 have n8 : H8.next = H6.next + 1 := by rw [e8]; rfl
 have z8 : H8.get H6.next = some (.cells Z 59 true 0) := by rw [e8]; simp
 obtain ⟨H9, e9⟩ : ∃ H9, H9 = H8.new (.cells [.slice none 0 0] 36 true 0) := ⟨_, rfl⟩
 rw [← e9]
 have k9 : Keeps H8 H9 := e9 ▸ Keeps.new H8 _
 have n9 : H9.next = H6.next + 2 := by rw [e9, AHeap.next_new, n8]
 have a9 : H9.get H8.next = some (.cells [.slice none 0 0] 36 true 0) := by rw [e9]; simp
 refine Gx.Wp.st (sp := none) a9 (by show 0 < 1; omega) rfl fun H10 (c10 : Chg (· = H8.next) H9 H10) n10 a10 => ?_
 have a10 : H10.get H8.next = some (.cells [.slice (some ⟨H6.next, 0, some 0⟩) 0 qs.length] 36 true 0) := a10
 obtain ⟨H11, e11⟩ : ∃ H11, H11 = H10.new (.cells [.nilFunc] 1 true 0) := ⟨_, rfl⟩
 rw [← e11]
 have k11 : Keeps H10 H11 := e11 ▸ Keeps.new H10 _
 have n11 : H11.next = H6.next + 3 := by rw [e11, AHeap.next_new, n10, n9]
 have f11 : H11.get H10.next = some (.cells [.nilFunc] 1 true 0) := by rw [e11]; simp
 obtain ⟨A, eA⟩ : ∃ A : AN, A = ⟨H1.next, H2.next, h.next, H10.next, H8.next, H6.next, r5.1⟩ := ⟨_, rfl⟩
 refine Gx.Wp.st (sp := none) f11 (by show 0 < 1; omega) rfl fun H12 (c12 : Chg (· = H10.next) H11 H12) n12 f12 => ?_
 have f12 : H12.get H10.next = some (.cells [A.next] 1 true 0) := by rw [eA]; exact f12
 have k612 : Keeps H6 H12 := Chg.beh ((Chg.beh (k8.trans k9) c10 fun y hy q => by omega).trans k11) c12 fun y hy q => by omega
 have a12 := c12.got (by omega) (by omega) (k11.got (by omega) a10)
 have z12 := c12.got (by omega) (by omega) (k11.got (by omega) (c10.got (by omega) (by omega) (k9.got (by omega) z8)))
 have kA : Keeps h H12 := k6.trans k612
 have hio12 := kA.got (by have := lt _ hO; omega) hio
 have n612 := k612.nx
 have agA : Agr (But O ib) h H12 := chg_agr kA (fun y o => by have := lt _ o.1; omega) fun y o f => f
 have li := lt _ hO
 have fr : ∀ {y}, h.next ≤ y → y < H12.next → But (Gr O m H12) ib y := fun h1 h2 => ⟨.inr ⟨by omega, h2⟩, by omega⟩
 have S : AS O m ib h (.func (.func g) x y) A qs (Gr O m H12) H12 [] [] := by
  rw [eA]
  refine ⟨fun y o => .inl o, lt, agA, ⟨⟨fr (by dsimp only; omega) (by dsimp only; omega), fr (by dsimp only; omega) (by dsimp only; omega), fr (by dsimp only; omega) (by dsimp only; omega), fr (by dsimp only; omega) (by dsimp only; omega)⟩, fr (by dsimp only; omega) (by dsimp only; omega), fr (by dsimp only; omega) (by dsimp only; omega)⟩, ⟨by dsimp only; omega, by dsimp only; omega⟩,
   k612.got (by dsimp only; omega) l6, k612.got (by dsimp only; omega) t6, k612.got (by dsimp only; omega) o6, ?_, a12, ⟨Z, by rw [List.flatMap_nil, List.nil_append]; exact z12, by rw [zl]; simp⟩, ?_, ?_, ⟨rfl, fun i x y hx => by simp at hx⟩, (fun i z hz => by simp at hz), Nat.zero_le _, (fun y hy => by simp at hy), fun i z hz => by simp at hz⟩
  ·rw [eA] at f12; exact f12
  ·exact (A6.keeps k612).row encQ_len
  ·intro a ha
   have := A6.lt a ha
   exact ⟨fr (by omega) (by omega), by dsimp only; omega, by dsimp only; omega⟩
 refine Gx.Wp.bnd (ldV_at f12 rfl) ?_
 obtain ⟨n', rfl⟩ : ∃ n', n = n' + 1 := ⟨n - 1, by omega⟩
 have w := next_io T hN qs.length (P := Gr O m H12) (m := H12.next) (n := n') (by simp) (by omega) S (.inl hO) (fun y o => o.elim (fun o => by have := lt y o; omega) fun o => o.2) (Nat.le_refl _) hio12
 refine Does.wp (Q := fun h' => Chg (In (Gr O m H12) H12.next) H12 h' ∧ IoQ (lvl k) N ib (askAll (qs.drop 0) [] K) st (Gr (Gr O m H12) H12.next h') h') (Does.of (X := port_IO_All_1 k (lvl k n') (some ⟨A.ab, 0, none⟩) (some ⟨A.lb, 0, none⟩) (some ⟨A.tb, 0, none⟩) (some ⟨A.ob, 0, none⟩) (some ⟨A.nb, 0, none⟩) H12) (by decide) (fun R κ => rfl) w) (by kernel_rfl) fun h5 q5 => ?_
 obtain ⟨c5, i5⟩ := q5
 have n5 := c5.nx
 rw [List.drop_zero] at i5
 refine Gx.Wp.of ⟨Chg.beh (Chg.keeps kA) c5 fun y hy q => ?_, i5.mono fun y q => ?_⟩
 ·rcases q with (q | q) | q
  ·exact .inl q
  ·exact .inr q.1
  ·exact .inr (by omega)
 ·rcases q with (q | q) | q
  ·exact .inl q
  ·exact .inr ⟨q.1, by dsimp only; omega⟩
  ·exact .inr ⟨by omega, q.2⟩
end
end Gt
namespace Gt
open Go Gx
theorem Answer_spec {k : Nat} (D : CallF) {h : AHeap} {sl : Slc} {m : Nat} {ss : List Sb} (T : Sts h sl m ss) (r : Rq) (hm : m ≤ 100000) (hk : m < k) (hn : r.2.2.1.size < k) (hs : r.2.2.1.size ≤ 9223372036854775807) :
  Gx.Wp (port_Answer k D sl r h) fun z => Chg (SSet ss) h z.2 ∧ Sts z.2 sl (m + 1) (ansS ss r).1 ∧ z.1.1 = (ansS ss r).2.1 ∧ z.1.2.1 = (ansS ss r).2.2.1 ∧ Acc encS 9 h.next z.2 z.1.2.2 (ansS ss r).2.2.2 := by
 obtain ⟨st, kind, n, d⟩ := r
 simp only [port_Answer]
 obtain ⟨H1, e1⟩ : ∃ H1, H1 = h.new (.cells [.int .i64 st, .int .i64 kind, .string n, .string d] 51 true 0) := ⟨_, rfl⟩
 rw [← e1]
 obtain ⟨H2, e2⟩ : ∃ H2, H2 = H1.new (.cells [.int .i64 0, .string ⟨#[]⟩, .slice none 0 0] 59 true 0) := ⟨_, rfl⟩
 rw [← e2]
 have k1 : Keeps h H1 := e1 ▸ Keeps.new h _
 have k2 : Keeps h H2 := k1.trans (e2 ▸ Keeps.new H1 _)
 have n1 : H1.next = h.next + 1 := by rw [e1]; rfl
 have n2 : H2.next = h.next + 2 := by rw [e2]; simp [n1]
 have rq : H2.get h.next = some (.cells [.int .i64 st, .int .i64 kind, .string n, .string d] 51 true 0) := by
  rw [e2]; simp only [AHeap.get_new]; rw [if_neg (by omega), e1]; simp
 have rs : H2.get H1.next = some (.cells [.int .i64 0, .string ⟨#[]⟩, .slice none 0 0] 59 true 0) := by rw [e2]; simp
 have T2 := T.keeps k2
 have len : sl.len = ss.length := T.rd.1
 refine Gx.Wp.jn fun j8 h8 => Gx.Wp.bnd (sldI_at rq rfl) ?_
 have bad : ansS ss (st, kind, n, d) = (ss, (1, nob, [])) → Gx.Wp (j8 sl (some ⟨h.next, 0, none⟩) (some ⟨H1.next, 0, none⟩) true H2) fun z => Chg (SSet ss) h z.2 ∧ Sts z.2 sl (m + 1) (ansS ss (st, kind, n, d)).1 ∧ z.1.1 = (ansS ss (st, kind, n, d)).2.1 ∧ z.1.2.1 = (ansS ss (st, kind, n, d)).2.2.1 ∧ Acc encS 9 h.next z.2 z.1.2.2 (ansS ss (st, kind, n, d)).2.2.2 := by
  intro ea
  subst h8
  refine Gx.Wp.ifp rfl (Gx.Wp.bnd rfl ?_)
  refine fin3 rs rfl 1 ⟨#[]⟩ ⟨none, 0, 0⟩ ?_
  have kf : Keeps h (H2.set H1.next (.cells [.int .i64 1, .string ⟨#[]⟩, .slice none 0 0] 59 true 0)) := Chg.beh (T := (· = H1.next)) k2 (Chg.set (.inr rfl)) fun y hy q => by omega
  rw [ea]
  have Tf := T.keeps kf
  exact ⟨Chg.keeps kf, ⟨Tf.rd, Tf.fr, fun i s hi => ⟨(Tf.st i s hi).1, (Tf.st i s hi).2.mono (by omega)⟩, Tf.ap⟩, rfl, rfl, Acc.nil _ _ _ _⟩
 by_cases c1 : st < 0
 ·refine Gx.Wp.ifp (by simpa using c1) (bad ?_)
  unfold ansS; rw [if_pos c1]
 refine Gx.Wp.ifn (by simpa using c1) (Gx.Wp.bnd (sldI_at rq rfl) ?_)
 obtain ⟨i, rfl⟩ : ∃ i : Nat, st = (i : Int) := ⟨st.toNat, by omega⟩
 by_cases c2 : ss.length ≤ i
 ·refine Gx.Wp.ifp (by rw [len]; simp; omega) (bad ?_)
  unfold ansS
  rw [if_neg c1]
  show (match ss[((i : Nat) : Int).toNat]? with | none => _ | some s => _) = _
  rw [Int.toNat_natCast, List.getElem?_eq_none c2]
 obtain ⟨s, hsi⟩ := isome (l := ss) (i := i) (by omega)
 refine Gx.Wp.ifn (by rw [len]; simp; omega) (Gx.Wp.bnd (sldI_at rq rfl) ?_)
 obtain ⟨q, q1, q2, _⟩ := T2.rd.rd hsi
 have ldp : Gx.ldP q H2 = some (some ⟨s.1, 0, none⟩) := by simp only [Gx.ldP, q2]; rfl
 refine Gx.Wp.bnd q1 (Gx.Wp.bnd ldp ?_)
 subst h8
 refine Gx.Wp.ifn (fun z => by cases z) (Gx.Wp.bnd rfl (Gx.Wp.bnd (sldI_at rq rfl) (Gx.Wp.bnd q1 (Gx.Wp.bnd ldp (Gx.Wp.bnd rfl (Gx.Wp.bnd (sldA_at rq rfl) (Gx.Wp.bnd rfl ?_)))))))
 obtain ⟨sR, sB⟩ := T2.st i s hsi
 refine Gx.Wp.call (Do_spec D sR sB.g i kind n d (by have := sB.l; omega) sB.q (by have := sB.c; omega) sB.f (fun _ => hn) (fun _ => hs) (by have := sB.l; omega)) fun r21 hq => ?_
 obtain ⟨a1, a2, A, c, s1, g1⟩ := hq
 rw [a1, a2]
 refine Gx.Wp.bnd rfl ?_
 have inS : ∀ y, SB s.1 s.2.1 y → SSet ss y := fun y z => ⟨s, mem_of hsi, z⟩
 have lts : ∀ y, SSet ss y → y < h.next := by
  rintro y ⟨t, ht, z⟩
  obtain ⟨j, hj⟩ := List.getElem?_of_mem ht
  have := ((T.st j t hj).1).lt
  rcases z with z | z <;> omega
 have rs2 : r21.2.get H1.next = some (.cells [.int .i64 0, .string ⟨#[]⟩, .slice none 0 0] 59 true 0) := (c.oth _ (by omega) (fun z => by have := lts _ (inS _ z); omega)).trans rs
 refine fin3 rs2 rfl _ _ _ ?_
 have ea : ansS ss ((i : Int), kind, n, d) = (ss.set i (s.1, s.2.1, (s.2.2.doS kind n d).1), (((s.2.2.doS kind n d).2.1 : Int), (s.2.2.doS kind n d).2.2.1, (s.2.2.doS kind n d).2.2.2)) := by
  unfold ansS
  rw [if_neg c1]
  show (match ss[((i : Nat) : Int).toNat]? with | none => _ | some s => _) = _
  rw [Int.toNat_natCast, hsi]
 rw [ea]
 have nA := c.nx
 have cS : Chg (SSet ss) h r21.2 := (Chg.keeps k2).trans (c.wk fun y _ z => inS y z)
 have cF : Chg (SSet ss) h (r21.2.set H1.next (.cells [.int .i64 ((s.2.2.doS kind n d).2.1 : Int), .string (s.2.2.doS kind n d).2.2.1, .slice r21.1.2.2.a r21.1.2.2.len r21.1.2.2.cap] 59 true 0)) := Chg.beh (T := (· = H1.next)) cS (Chg.set (.inr rfl)) fun y hy z => by omega
 obtain ⟨HF, eF⟩ : ∃ HF, HF = r21.2.set H1.next (.cells [.int .i64 ((s.2.2.doS kind n d).2.1 : Int), .string (s.2.2.doS kind n d).2.2.1, .slice r21.1.2.2.a r21.1.2.2.len r21.1.2.2.cap] 59 true 0) := ⟨_, rfl⟩
 rw [← eF] at cF ⊢
 have cl : Chg (· = H1.next) r21.2 HF := eF ▸ Chg.set (.inr rfl)
 have hlt := (List.getElem?_eq_some_iff.1 hsi).1
 refine ⟨cF, ⟨?_, ?_, ?_, ?_⟩, rfl, rfl, ⟨(A.chg cl fun a ha z => by have := (A.lt a ha).2; omega).st, fun a ha => ⟨Nat.lt_of_lt_of_le (A.lt a ha).1 cl.nx, by have := (A.lt a ha).2; omega⟩⟩⟩
 ·-- the list is the same
  have R : Row encB HF sl ss := Row.chg T.rd cF T.fr
  refine ⟨by rw [R.1]; simp, fun j t hj => ?_⟩
  by_cases cj : j = i
  ·subst cj
   rw [List.getElem?_set] at hj
   simp [hlt] at hj
   subst hj
   exact R.2 j s hsi
  ·rw [List.getElem?_set_ne (fun z => cj z.symm)] at hj
   exact R.2 j t hj
 ·intro a ha z
  exact T.fr a ha ((SSet_set hsi _).1 z)
 ·intro j t hj
  by_cases cj : j = i
  ·subst cj
   rw [List.getElem?_set] at hj
   simp [hlt] at hj
   subst hj
   obtain ⟨d1, d2, d3, d4⟩ := do_len s.2.2 kind n d
   exact ⟨s1.chg cl (by have := sR.lt; have := lts s.1 (inS _ (.inl rfl)); omega) (by have := lts s.2.1 (inS _ (.inr rfl)); omega), ⟨g1, by have := sB.l; show (s.2.2.doS kind n d).1.es.length ≤ _; omega, by have := sB.c; show (s.2.2.doS kind n d).1.calls ≤ _; omega, by have := sB.f; show (s.2.2.doS kind n d).1.fails ≤ _; omega, by show (s.2.2.doS kind n d).1.quota ≤ _; rw [d4]; exact sB.q⟩⟩
  ·rw [List.getElem?_set_ne (fun z => cj z.symm)] at hj
   obtain ⟨tR, tB⟩ := T2.st j t hj
   obtain ⟨p1, p2⟩ := T.ap i j s t hsi hj (fun z => cj z.symm)
   exact ⟨(tR.chg c p1 p2).chg cl (by have := lts t.1 ⟨t, mem_of hj, .inl rfl⟩; omega) (by have := lts t.2.1 ⟨t, mem_of hj, .inr rfl⟩; omega), tB.mono (by omega)⟩
 ·intro a b s' t' ha hb hab
  have back : ∀ (j : Nat) u, (ss.set i (s.1, s.2.1, (s.2.2.doS kind n d).1))[j]? = some u → ∃ v, ss[j]? = some v ∧ u.1 = v.1 ∧ u.2.1 = v.2.1 := by
   intro j u hu
   by_cases cj : j = i
   ·subst cj
    rw [List.getElem?_set] at hu
    simp [hlt] at hu
    subst hu
    exact ⟨s, hsi, rfl, rfl⟩
   ·rw [List.getElem?_set_ne (fun z => cj z.symm)] at hu
    exact ⟨u, hu, rfl, rfl⟩
  obtain ⟨u, hu, u1, u2⟩ := back a s' ha
  obtain ⟨v, hv, v1, v2⟩ := back b t' hb
  have := T.ap a b u v hu hv hab
  rw [u1, u2, v1, v2]; exact this
end Gt
namespace Gt
open Go Gx
theorem Result_F {k : Nat} (D : CallF) {L : Nat → CallF} {N jb : Nat} {p : Prg} {st : Nat} {O : Nat → Prop} {h : AHeap} (J : JobP L N jb p st O h) (li1 : p.res.ids.length ≤ 1099511627776) (li2 : p.res.texts.length ≤ 1099511627776) : Gx.Wp (port_Job_Result k D (some ⟨jb, 0, none⟩) h) fun v => (Keeps h v.2 ∧ ResOk v.2 p.res v.1) ∧ (∀ a, v.1.2.2.2.1.a = some a → h.next ≤ a.block) ∧ ∀ a, v.1.2.2.2.2.1.a = some a → h.next ≤ a.block := by
 obtain ⟨ib, q, th, cd, nn, s, t, o, j, g, _, hcd, hnn, Rs, Rt⟩ := J.cell
 have li := J.lt ib o
 simp only [port_Job_Result]
 obtain ⟨H1, e1⟩ : ∃ H1, H1 = h.new (.cells [.int .i64 0, .string ⟨#[]⟩, .int .i64 0, .slice none 0 0, .slice none 0 0, .slice none 0 0, .slice none 0 0] 42 true 0) := ⟨_, rfl⟩
 rw [← e1]
 have k1 : Keeps h H1 := e1 ▸ Keeps.new h _
 have n1 : H1.next = h.next + 1 := by rw [e1]; rfl
 have r1 : H1.get h.next = some (.cells [.int .i64 0, .string ⟨#[]⟩, .int .i64 0, .slice none 0 0, .slice none 0 0, .slice none 0 0, .slice none 0 0] 42 true 0) := by rw [e1]; simp
 have j1 := (k1.oth _ J.lj fun f => f).trans j
 have g1 := (k1.oth _ li fun f => f).trans g
 refine Gx.Wp.bnd rfl (Gx.Wp.bnd (ldP_at j1 rfl) (Gx.Wp.bnd rfl (Gx.Wp.bnd (ldA_part g1 (by decide) (by show 0 + 6 + 7 ≤ 14; omega)) (Gx.Wp.bnd rfl ?_))))
 obtain ⟨H7, e7⟩ : ∃ H7, H7 = H1.new (.cells [.int .i64 0, .string ⟨#[]⟩, .int .i64 0, .slice none 0 0, .slice none 0 0, .slice none 0 0, .slice none 0 0] 42 true 0) := ⟨_, rfl⟩
 rw [← e7]
 have k7 : Keeps H1 H7 := e7 ▸ Keeps.new H1 _
 have n7 : H7.next = h.next + 2 := by rw [e7, AHeap.next_new, n1]
 have r7 : H7.get H1.next = some (.cells [.int .i64 0, .string ⟨#[]⟩, .int .i64 0, .slice none 0 0, .slice none 0 0, .slice none 0 0, .slice none 0 0] 42 true 0) := by rw [e7]; simp
 refine Gx.Wp.bnd (sstL_at r7 rfl rfl rfl (by decide)) ?_
 obtain ⟨H8, e8⟩ : ∃ H8, H8 = H7.set H1.next (.cells [.int .i64 cd, .string ⟨#[]⟩, .int .i64 nn, .slice s.a s.len s.cap, .slice t.a t.len t.cap, .slice none 0 0, .slice none 0 0] 42 true 0) := ⟨_, rfl⟩
 have e8' : H7.set H1.next (.cells [.int .i64 cd, .string ⟨#[]⟩, .int .i64 nn, .slice s.a s.len s.cap, .slice t.a t.len t.cap, .slice none 0 0, .slice none 0 0] 42 true 0) = H8 := e8.symm
 dsimp only
 rw [e8']
 have c8 : Chg (· = H1.next) H7 H8 := e8 ▸ Chg.set (.inr rfl)
 have k8 : Keeps h H8 := Chg.beh (k1.trans k7) c8 fun y hy q => by omega
 have n8 : H8.next = h.next + 2 := by rw [e8]; exact n7
 have r8 : H8.get H1.next = some (.cells [.int .i64 cd, .string ⟨#[]⟩, .int .i64 nn, .slice s.a s.len s.cap, .slice t.a t.len t.cap, .slice none 0 0, .slice none 0 0] 42 true 0) := by rw [e8]; simp
 have w8 : H8.get h.next = _ := (c8.oth _ (by omega) (by omega)).trans ((k7.oth _ (by omega) fun f => f).trans r1)
 refine Gx.Wp.bnd (sldL_at r8 rfl) ?_
 refine Gx.Wp.call (cloneS_spec D (s := ⟨s.a, s.len, s.cap⟩) (Row.keeps Rs k8) li1) fun ra qa => ?_
 obtain ⟨ka, Ra, fa⟩ := qa
 have ra8 := (ka.oth _ (by omega) fun f => f).trans r8
 refine Gx.Wp.bnd (sldL_at ra8 rfl) (Gx.Wp.gp (ssw1 (bnd (sldL_at r8 rfl) rfl)) ?_)
 refine Gx.Wp.call (cloneS_spec D (s := ⟨t.a, t.len, t.cap⟩) (Row.keeps Rt (k8.trans ka)) li2) fun rb qb => ?_
 obtain ⟨kb, Rb, fb⟩ := qb
 have rb8 := (kb.oth _ (by have := ka.nx; omega) fun f => f).trans ra8
 have w9 := ((ka.trans kb).oth _ (by omega) fun f => f).trans w8
 refine Gx.Wp.bnd (st1_sb rb8 (by show 3 < 7; omega) rfl) (Gx.Wp.bnd (st1_sb (sset_get _ _ _) (by show 4 < 7; omega) rfl) (Gx.Wp.bnd (sldL_at (sset_get _ _ _) rfl) ?_))
 have nilE : ∀ H, slices_Clone_api_Entry_api_Entry k D ⟨none, 0, 0⟩ H = some (⟨none, 0, 0⟩, H) := fun H => rfl
 have nilS : ∀ H, slices_Clone_api_Snap_api_Snap k D ⟨none, 0, 0⟩ H = some (⟨none, 0, 0⟩, H) := fun H => rfl
 refine Gx.Wp.bnd (nilE _) (Gx.Wp.bnd (sldL_at (sset_get _ _ _) rfl) (Gx.Wp.gp (ssw1 (bnd (sldL_at (sset_get _ _ _) rfl) rfl)) (Gx.Wp.bnd (nilS _) ?_)))
 refine Gx.Wp.bnd (st1_sb (sset_get _ _ _) (by show 5 < 7; omega) rfl) (Gx.Wp.bnd (st1_sb (sset_get _ _ _) (by show 6 < 7; omega) rfl) (Gx.Wp.bnd (sldA_at (sset_get _ _ _) rfl) (Gx.Wp.bnd rfl ?_)))
 have na := ka.nx
 have nb := kb.nx
 obtain ⟨HX, eX⟩ : ∃ HX, HX = (((rb.2.set H1.next (.cells [.int .i64 cd, .string ⟨#[]⟩, .int .i64 nn, .slice ra.1.a ra.1.len ra.1.cap, .slice t.a t.len t.cap, .slice none 0 0, .slice none 0 0] 42 true 0)).set H1.next (.cells [.int .i64 cd, .string ⟨#[]⟩, .int .i64 nn, .slice ra.1.a ra.1.len ra.1.cap, .slice rb.1.a rb.1.len rb.1.cap, .slice none 0 0, .slice none 0 0] 42 true 0)).set H1.next (.cells [.int .i64 cd, .string ⟨#[]⟩, .int .i64 nn, .slice ra.1.a ra.1.len ra.1.cap, .slice rb.1.a rb.1.len rb.1.cap, .slice none 0 0, .slice none 0 0] 42 true 0)).set H1.next (.cells [.int .i64 cd, .string ⟨#[]⟩, .int .i64 nn, .slice ra.1.a ra.1.len ra.1.cap, .slice rb.1.a rb.1.len rb.1.cap, .slice none 0 0, .slice none 0 0] 42 true 0) := ⟨_, rfl⟩
 have cX : Chg (· = H1.next) rb.2 HX := eX ▸ (Chg.set (S := (· = H1.next)) (.inr rfl)).trans ((Chg.set (S := (· = H1.next)) (.inr rfl)).trans ((Chg.set (S := (· = H1.next)) (.inr rfl)).trans (Chg.set (S := (· = H1.next)) (.inr rfl))))
 have wX := (cX.oth _ (by omega) (by omega)).trans w9
 have fin : Gx.Wp ((Gx.stL 7 (⟨h.next, 0, none⟩ : Addr) [.int .i64 cd, .string ⟨#[]⟩, .int .i64 nn, .slice ra.1.a ra.1.len ra.1.cap, .slice rb.1.a rb.1.len rb.1.cap, .slice none 0 0, .slice none 0 0] HX).bind fun h27 => (Gx.ldA 7 (⟨h.next, 0, none⟩ : Addr) h27).bind fun l28 => (decC [.i .i64, .s, .i .i64, .l, .l, .l, .l] l28).bind fun x29 =>
   some ((x29.1, x29.2.1, x29.2.2.1, x29.2.2.2.1, x29.2.2.2.2.1, x29.2.2.2.2.2.1, x29.2.2.2.2.2.2), h27)) fun v => (Keeps h v.2 ∧ ResOk v.2 p.res v.1) ∧ (∀ a, v.1.2.2.2.1.a = some a → h.next ≤ a.block) ∧ ∀ a, v.1.2.2.2.2.1.a = some a → h.next ≤ a.block := by
  refine Gx.Wp.bnd (sstL_at wX rfl rfl rfl (by decide)) (Gx.Wp.bnd (sldA_at (sset_get _ _ _) rfl) (Gx.Wp.bnd rfl (Gx.Wp.of ⟨⟨?_, hcd, rfl, hnn, ?_, ?_, rfl, rfl⟩, fun a ha => by have := fa a ha; omega, fun a ha => by have := fb a ha; omega⟩)))
  ·exact Chg.beh (T := (· = h.next)) (Chg.beh (k8.trans (ka.trans kb)) cX fun y hy q => by omega) (Chg.set (.inr rfl)) fun y hy q => by omega
  ·exact Row.chg (Row.chg (Row.keeps Ra kb) cX fun a ha q => by have := fa a ha; omega) (Chg.set (S := (· = h.next)) (.inr rfl)) fun a ha q => by have := fa a ha; omega
  ·exact Row.chg (Row.chg Rb cX fun a ha q => by have := fb a ha; omega) (Chg.set (S := (· = h.next)) (.inr rfl)) fun a ha q => by have := fb a ha; omega
 rw [eX] at fin
 exact fin
inductive RunR (k : Nat) : Nat → Prg → List Sb → Prg → List Sb → Nat → Prop
 | stop {p : Prg} {ss : List Sb} : RunR k 0 p ss p ss 0
 | over {most : Nat} {z : Rz} {W : AHeap → Prop} {ss : List Sb} : RunR k most (.fin z W) ss (.fin z W) ss 0
 | step {most s : Nat} {q : Rq} {kk : Ry → Prg} {ss ss' : List Sb} {p' : Prg} : (q.2.2.1.size < k ∧ q.2.2.1.size ≤ 9223372036854775807) → RunR k most (kk (ansS ss q).2) (ansS ss q).1 p' ss' s → RunR k (most + 1) (.ask q kk) ss p' ss' (s + 1)
theorem do_small (p : PS) (g : Good p.es p.cl) (kind : Int) (n d : ByteArray) (hl : p.es.length ≤ 1048576) : SmallY ((p.doS kind n d).2.1, (p.doS kind n d).2.2.1, (p.doS kind n d).2.2.2) := by
 have e : ∀ c : Int, SmallY (c, nob, []) := fun c => ⟨Nat.zero_le _, fun x hx => (List.not_mem_nil hx).elim, Nat.zero_le _⟩
 have fl := List.length_filter_le (starts n) (nm p.es)
 rw [nm_len] at fl
 have lkd : ((lk n p.es).getD nob).size ≤ 1048576 := by
  have : ∀ es : List En, (∀ e ∈ es, e.1.size ≤ 96 ∧ e.2.1.size ≤ 131072) → ((lk n es).getD nob).size ≤ 1048576 := by
   intro es
   induction es with
   | nil => intro _; exact Nat.zero_le _
   | cons x es ih =>
    intro h
    simp only [lk]
    split
    ·have := (h x (by simp)).2
     show x.2.1.size ≤ _
     omega
    ·exact ih fun y hy => h y (by simp [hy])
  exact this p.es g.small
 have f3 : SmallY (0, nob, (nm p.es).filter (starts n)) := by
  refine ⟨by dsimp only; omega, fun x hx => ?_, Nat.zero_le _⟩
  have := nm_mem.1 (List.mem_filter.1 hx).1
  obtain ⟨en, he, rfl⟩ := List.mem_map.1 this
  have := (g.small en he).1
  omega
 unfold PS.doS
 repeat' split
 all_goals first | exact e _ | exact ⟨Nat.zero_le _, fun x hx => (List.not_mem_nil hx).elim, lkd⟩ | exact f3
theorem ans_small {h : AHeap} {sl : Slc} {m : Nat} {ss : List Sb} (T : Sts h sl m ss) (q : Rq) (hm : m ≤ 100000) : SmallY (ansS ss q).2 := by
 have e : SmallY (1, nob, []) := ⟨Nat.zero_le _, fun x hx => (List.not_mem_nil hx).elim, Nat.zero_le _⟩
 unfold ansS
 split
 ·exact e
 ·split
  ·exact e
  ·rename_i s hs
   have b := (T.st _ s hs).2
   exact do_small s.2.2 b.g _ _ _ (by have := b.l; omega)
theorem Run_Pl {L : Nat → CallF} {k n N jb : Nat} (hn : N ≤ n) (bot) {sl : Slc} {O0 : Nat → Prop} {h0 : AHeap} {ss0 : List Sb} (_lt0 : ∀ y, O0 y → y < h0.next) (lts : ∀ y, SSet ss0 y → y < h0.next ∧ ¬ JSet O0 jb y) (hsl : ∀ a, sl.a = some a → a.block < h0.next ∧ ¬ JSet O0 jb a.block) (hj0 : jb < h0.next) :
  ∀ {rest : Nat} {p : Prg} {ss : List Sb} {p' : Prg} {ss' : List Sb} {s : Nat}, RunR k rest p ss p' ss' s → ∀ (steps most m st : Nat) (O : Nat → Prop) (h : AHeap), steps + rest = most → steps + s < 9223372036854775807 → m + s ≤ 100000 → m + s < k → st + s ≤ 1048576 →
   (∀ y, O y → O0 y ∨ h0.next ≤ y) → (∀ y, SSet ss y ↔ SSet ss0 y) → JobP L N jb p st O h → Sts h sl m ss → Chg (fun y => SSet ss0 y ∨ O0 y) h0 h →
   Gx.Wp (iterK bot (s + 1) (port_Run_l0b k (L n) fun (j1 : Option Addr) (steps2 : Int) (h3 : AHeap) => (port_Job_Over k (L n) j1 h3).bind fun r5 => (if (!r5.1) = true then some ((steps2, 2), r5.2) else some ((steps2, 0), r5.2))) (some ⟨jb, 0, none⟩) sl (most : Int) (steps : Int) h)
    fun z => ∃ O', z.1 = (((steps + s : Nat) : Int), if p'.over then 0 else 2) ∧ JobP L N jb p' (st + s) O' z.2 ∧ (∀ y, O y → O' y) ∧ (∀ y, O' y → O0 y ∨ h0.next ≤ y) ∧ (∀ y, SSet ss' y ↔ SSet ss0 y) ∧ Sts z.2 sl (m + s) ss' ∧ Chg (fun y => SSet ss0 y ∨ O0 y) h0 z.2 := by
 intro rest p ss p' ss' s R
 induction R with
 | stop =>
  rename_i p ss
  intro steps most m st O h hst hmost hm hk hss hO hS J T hc
  rw [iterK_s]; simp only [port_Run_l0b]
  refine Gx.Wp.ifn (by simp; omega) (Gx.Wp.bnd (Over_P _ J) ?_)
  rcases Bool.eq_false_or_eq_true p.over with ho | ho
  ·exact Gx.Wp.ifn (by rw [ho]; exact fun q => by cases q) (Gx.Wp.of ⟨O, by rw [ho]; rfl, J, fun _ o => o, hO, hS, T, hc⟩)
  ·exact Gx.Wp.ifp (by rw [ho]; rfl) (Gx.Wp.of ⟨O, by rw [ho]; rfl, J, fun _ o => o, hO, hS, T, hc⟩)
 | over =>
  rename_i rest z W ss
  intro steps most m st O h hst hmost hm hk hss hO hS J T hc
  rw [iterK_s]; simp only [port_Run_l0b]
  by_cases c : steps < most
  ·refine Gx.Wp.ifp (by simp; omega) (Gx.Wp.call (Next_P _ J) fun y hy => ?_)
   obtain ⟨k1, e1⟩ := hy
   refine Gx.Wp.bnd (sstL_at (c := [.int .i64 0, .int .i64 0, .string ⟨#[]⟩, .string ⟨#[]⟩]) (e := 51) (by simp) rfl rfl rfl (by decide)) ?_
   rw [e1]
   have kk : Keeps h ((y.2.new (.cells [.int .i64 0, .int .i64 0, .string ⟨#[]⟩, .string ⟨#[]⟩] 51 true 0)).set y.2.next (.cells [.int .i64 q0.1, .int .i64 q0.2.1, .string q0.2.2.1, .string q0.2.2.2] 51 true 0)) := Chg.beh (T := (· = y.2.next)) (k1.trans (Keeps.new _ _)) (Chg.set (.inr rfl)) fun y hy q => by have := k1.nx; omega
   exact Gx.Wp.ifp rfl (Gx.Wp.of ⟨O, rfl, J.chg kk (fun _ _ f => f), fun _ o => o, hO, hS, T.keeps kk, hc.trans (Chg.keeps kk)⟩)
  ·refine Gx.Wp.ifn (by simp; omega) (Gx.Wp.bnd (Over_P _ J) ?_)
   exact Gx.Wp.ifn (fun q => by cases q) (Gx.Wp.of ⟨O, rfl, J, fun _ o => o, hO, hS, T, hc⟩)
 | step hq R ih =>
  rename_i rest s r kk ss ss' p'
  intro steps most m st O h hst hmost hm hk hss hO hS J T hc
  rw [iterK_s]; simp only [port_Run_l0b]
  refine Gx.Wp.ifp (by simp; omega) (Gx.Wp.call (Next_P _ J) fun z hz => ?_)
  obtain ⟨k1, e1⟩ := hz
  refine Gx.Wp.bnd (sstL_at (c := [.int .i64 0, .int .i64 0, .string ⟨#[]⟩, .string ⟨#[]⟩]) (e := 51) (by simp) rfl rfl rfl (by decide)) ?_
  rw [e1]
  obtain ⟨K, eK⟩ : ∃ K, K = (z.2.new (.cells [.int .i64 0, .int .i64 0, .string ⟨#[]⟩, .string ⟨#[]⟩] 51 true 0)).set z.2.next (.cells [.int .i64 r.1, .int .i64 r.2.1, .string r.2.2.1, .string r.2.2.2] 51 true 0) := ⟨_, rfl⟩
  have eK' : (z.2.new (.cells [.int .i64 0, .int .i64 0, .string ⟨#[]⟩, .string ⟨#[]⟩] 51 true 0)).set z.2.next (.cells [.int .i64 ((Prg.ask r kk).nxt, !(Prg.ask r kk).over).1.1, .int .i64 ((Prg.ask r kk).nxt, !(Prg.ask r kk).over).1.2.1, .string ((Prg.ask r kk).nxt, !(Prg.ask r kk).over).1.2.2.1, .string ((Prg.ask r kk).nxt, !(Prg.ask r kk).over).1.2.2.2] 51 true 0) = K := eK.symm
  rw [eK']
  have kk1 : Keeps h K := eK ▸ Chg.beh (T := (· = z.2.next)) (k1.trans (Keeps.new _ _)) (Chg.set (.inr rfl)) fun y hy q => by have := k1.nx; omega
  have gK : K.get z.2.next = some (.cells [.int .i64 r.1, .int .i64 r.2.1, .string r.2.2.1, .string r.2.2.2] 51 true 0) := by rw [eK]; simp
  refine Gx.Wp.ifn (fun q => by cases q) (Gx.Wp.bnd (sldA_at gK rfl) (Gx.Wp.bnd rfl ?_))
  refine Gx.Wp.call (Answer_spec (L n) (T.keeps kk1) r (by omega) (by omega) hq.1 hq.2) fun a ha => ?_
  obtain ⟨ca, Ta, v1, v2, Aa⟩ := ha
  have n0 := hc.nx
  have nK := kk1.nx
  have apO : ∀ y, JSet O jb y → ¬ SSet ss y := by
   intro y hy hs
   have q := lts y ((hS y).1 hs)
   rcases hy with hy | rfl
   ·rcases hO y hy with z | z
    ·exact q.2 (.inl z)
    ·omega
   ·exact q.2 (.inr rfl)
  have Ja := (J.chg kk1 fun _ _ f => f).chg ca apO
  have na := ca.nx
  have sm := ans_small (T.keeps kk1) r (by omega)
  rw [v1, v2]
  refine Gx.Wp.call (Give_P (L := L) hn Ja Aa.row (fun b hb z => by have := (Aa.lt b hb).2; have := J.lt _ z; omega) sm (by omega)) fun g hg => ?_
  obtain ⟨g1, Jg, cg⟩ := hg
  rw [Gx.w1 (by omega)]
  have Tg : Sts g.2 sl (m + 1) (ansS ss r).1 := Ta.chg cg (fun y hy z => apO y (.inl z) ((SSet_ans ss r y).1 hy)) (fun b hb z => by
   have q := hsl b hb
   rcases hO _ z with z | z
   ·exact q.2 (.inl z)
   ·omega)
  have call : Chg (fun y => SSet ss0 y ∨ O0 y) h0 g.2 := by
   refine Chg.beh (T := O) (((hc.trans (Chg.keeps kk1)).trans (ca.wk fun y _ q => .inl ((hS y).1 q)))) cg fun y hy z => ?_
   rcases hO _ z with z | z
   ·exact .inr z
   ·omega
  have ng := cg.nx
  have fin := ih (steps + 1) most (m + 1) (st + 1) _ g.2 (by omega) (by omega) (by omega) (by omega) (by omega) (fun y z => by
   rcases z with z | z
   ·exact hO y z
   ·exact .inr (by omega)) (fun y => (SSet_ans ss r y).trans (hS y)) Jg Tg call
  refine Gx.Wp.mono fin fun w hw => ?_
  obtain ⟨O', e, Jw, sub, hO', hS', Tw, cw⟩ := hw
  refine ⟨O', ?_, ?_, fun y o => sub y (.inl o), hO', hS', ?_, cw⟩
  ·rw [e, show steps + 1 + s = steps + (s + 1) by omega]
  ·rw [show st + (s + 1) = st + 1 + s by omega]; exact Jw
  ·rw [show m + (s + 1) = m + 1 + s by omega]; exact Tw
theorem Run_P {L : Nat → CallF} {k n N jb : Nat} (hn : N ≤ n) {sl : Slc} {most : Nat} {p p' : Prg} {ss ss' : List Sb} {s m st : Nat} {O : Nat → Prop} {h : AHeap} (R : RunR k most p ss p' ss' s) (J : JobP L N jb p st O h) (T : Sts h sl m ss) (lts : ∀ y, SSet ss y → y < h.next ∧ ¬ JSet O jb y) (hsl : ∀ a, sl.a = some a → a.block < h.next ∧ ¬ JSet O jb a.block)
  (hm : m + s ≤ 100000) (hk : m + s < k) (hss : st + s ≤ 1048576) :
  Gx.Wp (port_Run k (L n) (some ⟨jb, 0, none⟩) sl (most : Int) h) fun z => ∃ O', z.1 = ((s : Int), if p'.over then 0 else 2) ∧ JobP L N jb p' (st + s) O' z.2 ∧ (∀ y, O y → O' y) ∧ (∀ y, O' y → O y ∨ h.next ≤ y) ∧ (∀ y, SSet ss' y ↔ SSet ss y) ∧ Sts z.2 sl (m + s) ss' ∧ Chg (fun y => SSet ss y ∨ O y) h z.2 := by
 simp only [port_Run]
 refine Gx.Wp.ifn (fun q => by cases q) (Gx.Wp.ifn (by simp) (Gx.Wp.jn fun j hj => ?_))
 unfold port_Run_l0
 obtain ⟨bot, eb⟩ := iterK_of (fun _ _ _ _ _ => none) (port_Run_l0b k (L n) j) (show s + 1 ≤ k by omega)
 rw [eb]
 subst hj
 have w := Run_Pl (L := L) hn bot J.lt lts hsl J.lj R 0 most m st O h (by omega) (by omega) hm hk hss (fun y o => .inl o) (fun y => Iff.rfl) J T (Chg.refl _ _)
 rw [Nat.zero_add] at w
 exact w
end Gt
namespace Gt
open Go Gx
def finP (z : Rz) : Prg := .fin z fun _ => True
def ansL : List Rq → List Sb → List Sb × List Ry
 | [], ss => (ss, [])
 | q :: qs, ss => ((ansL qs (ansS ss q).1).1, (ansS ss q).2 :: (ansL qs (ansS ss q).1).2)
theorem ansL_len : ∀ (qs : List Rq) (ss : List Sb), (ansL qs ss).2.length = qs.length
 | [], _ => rfl
 | q :: qs, ss => by simp only [ansL, List.length_cons, ansL_len qs]
def NameOk (k : Nat) (q : Rq) : Prop := q.2.2.1.size < k ∧ q.2.2.1.size ≤ 9223372036854775807
theorem run_all {k : Nat} {K : List Ry → Prg} {most : Nat} {p' : Prg} {ss' : List Sb} {s : Nat} : ∀ {qs : List Rq} {acc : List Ry} {ss : List Sb}, (∀ q ∈ qs, NameOk k q) → RunR k most (K (acc ++ (ansL qs ss).2)) (ansL qs ss).1 p' ss' s → RunR k (most + qs.length) (askAll qs acc K) ss p' ss' (s + qs.length)
 | [], acc, ss, _, R => by simpa [ansL, askAll] using R
 | q :: qs, acc, ss, hn, R => by
  simp only [askAll]
  refine RunR.step (hn q (by simp)) ?_
  refine run_all (fun r hr => hn r (List.mem_cons_of_mem _ hr)) ?_
  simpa [ansL] using R
theorem run_part {k : Nat} {K : List Ry → Prg} : ∀ {most : Nat} {qs : List Rq} {acc : List Ry} {ss : List Sb}, (∀ q ∈ qs, NameOk k q) → most ≤ qs.length → RunR k most (askAll qs acc K) ss (askAll (qs.drop most) (acc ++ (ansL (qs.take most) ss).2) K) (ansL (qs.take most) ss).1 most
 | 0, qs, acc, ss, _, _ => by simpa [ansL] using RunR.stop
 | most + 1, [], acc, ss, _, h => by simp at h
 | most + 1, q :: qs, acc, ss, hn, h => by
  simp only [askAll]
  refine RunR.step (hn q (by simp)) ?_
  have := run_part (K := K) (acc := acc ++ [(ansS ss q).2]) (ss := (ansS ss q).1) (fun r hr => hn r (List.mem_cons_of_mem _ hr)) (Nat.le_of_succ_le_succ h)
  simpa [ansL] using this
end Gt
namespace Gt
open Go Gx
end Gt
namespace Gt
open Go Gx
theorem row_lit {h : AHeap} {b : Nat} {sp : Option Nat} {e : TypeId} {r : Bool} {fz : Nat} (xs : List ByteArray) (hb : h.get b = some (.cells (xs.map encS) e r fz)) (hl : b < h.next) : Row encS h ⟨some ⟨b, 0, sp⟩, xs.length, xs.length⟩ xs := by
 have hb' : h.get b = some (.cells (xs.flatMap encS1) e r fz) := by rw [flatS]; exact hb
 have := rowW_blk (cap := xs.length) (sp := sp) encS1_len hb' hl (Nat.le_refl _)
 rw [List.take_length] at this
 exact RowW.rowS this
end Gt
namespace Gt
open Go Gx
structure LR (h : AHeap) (kb : Nat) (l : Slc) (ac : Nat) (z : Rz) : Prop where
 blk : ∃ s t : Slc, h.get kb = some (.cells [.slice l.a l.len l.cap, .int .i64 ac, .int .i64 z.code, .string ⟨#[]⟩, .int .i64 z.n, .slice s.a s.len s.cap, .slice t.a t.len t.cap, .slice none 0 0, .slice none 0 0] 62 true 0) ∧ AccV 1 encS1 9 (kb + 1) h s z.ids ∧ AccV 1 encS1 9 (kb + 1) h t z.texts
 lt : kb < h.next
theorem LR.keeps {h h' : AHeap} {kb : Nat} {l : Slc} {ac : Nat} {z : Rz} (L : LR h kb l ac z) (k : Keeps h h') : LR h' kb l ac z := by
 obtain ⟨s, t, hb, A, B⟩ := L.blk
 exact ⟨⟨s, t, (k.oth _ L.lt fun f => f).trans hb, A.keeps k, B.keeps k⟩, Nat.lt_of_lt_of_le L.lt k.nx⟩
theorem LR.below {S : Nat → Prop} {h h' : AHeap} {kb : Nat} {l : Slc} {ac : Nat} {z : Rz} (L : LR h kb l ac z) (k : Chg S h h') (hS : ∀ y, S y → y < kb) : LR h' kb l ac z := by
 obtain ⟨s, t, hb, A, B⟩ := L.blk
 have nS : ∀ {y}, kb ≤ y → ¬ S y := fun h z => by have := hS _ z; omega
 exact ⟨⟨s, t, (k.oth _ L.lt (nS (Nat.le_refl _))).trans hb, A.chg k fun a ha => nS (by have := (A.lt a ha).2; omega), B.chg k fun a ha => nS (by have := (B.lt a ha).2; omega)⟩, Nat.lt_of_lt_of_le L.lt k.nx⟩
end Gt
namespace Gt
open Go Gx
end Gt
namespace Gt
open Go Gx
variable {F : Nat → Prop}
abbrev Tb := Nat × RSt
def encT1 (s : Tb) : Value := ptr s.1
structure RtB (m : Nat) (r : RSt) : Prop where
 l : r.L.length ≤ m
 c : r.many ≤ m
 f : r.fails ≤ 1048576
def ansR (ss : List Tb) (r : Rq) : List Tb × Ry :=
 if r.1 < 0 then (ss, (1, nob, [])) else match ss[r.1.toNat]? with
  | none => (ss, (1, nob, []))
  | some s => (ss.set r.1.toNat (s.1, (s.2.doS r.2.1 r.2.2.1 r.2.2.2).1), ((s.2.doS r.2.1 r.2.2.1 r.2.2.2).2.1, (s.2.doS r.2.1 r.2.2.1 r.2.2.2).2.2.1, (s.2.doS r.2.1 r.2.2.1 r.2.2.2).2.2.2))
structure Bth (ss : List Sb) (ts : List Tb) : Prop where
 len : ss.length = ts.length
 rel : ∀ (i : Nat) s t, ss[i]? = some s → ts[i]? = some t → Rel s.2.2 t.2
theorem Bth.ans {ss : List Sb} {ts : List Tb} (B : Bth ss ts) (r : Rq) : Bth (ansS ss r).1 (ansR ts r).1 ∧ (ansS ss r).2 = (ansR ts r).2 := by
 unfold ansS ansR
 by_cases c : r.1 < 0
 ·rw [if_pos c, if_pos c]; exact ⟨B, rfl⟩
 ·rw [if_neg c, if_neg c]
  cases hs : ss[r.1.toNat]? with
  | none =>
   have : ts[r.1.toNat]? = none := by
    rw [List.getElem?_eq_none_iff] at hs ⊢
    rw [← B.len]; exact hs
   rw [this]; exact ⟨B, rfl⟩
  | some s =>
   have hlt : r.1.toNat < ts.length := by rw [← B.len]; exact (List.getElem?_eq_some_iff.1 hs).1
   obtain ⟨t, ht⟩ := isome hlt
   rw [ht]
   have D := (B.rel _ s t hs ht).do r.2.1 r.2.2.1 r.2.2.2
   refine ⟨⟨by simp [B.len], fun i s' t' hi hj => ?_⟩, by simp only [D.2]⟩
   have hlt1 := (List.getElem?_eq_some_iff.1 hs).1
   by_cases ci : i = r.1.toNat
   ·subst ci
    rw [List.getElem?_set] at hi hj
    simp [hlt] at hj
    simp [hlt1] at hi
    subst hi hj
    exact D.1
   ·rw [List.getElem?_set_ne (fun z => ci z.symm)] at hi hj
    exact B.rel i s' t' hi hj
theorem RR.apartE {S : Nat → Prop} {h h' : AHeap} {tb : Nat} {r : RSt} (R : RR F h tb r) (c : Chg S h h') (hS : ∀ y, S y → y ≠ tb ∧ ∃ c e rw fz, h.get y = some (.cells c e rw fz) ∧ e ≠ 96) : RR F h' tb r := by
 obtain ⟨e, l, hb, A⟩ := R.blk
 refine ⟨⟨e, l, (c.oth _ R.lt fun q => (hS _ q).1 rfl).trans hb, A.st.imp id ?_, fun a ha => ⟨Nat.lt_of_lt_of_le (A.lt a ha).1 c.nx, (A.lt a ha).2⟩⟩, Nat.lt_of_lt_of_le R.lt c.nx, fun v1 v2 v3 v4 a n cc e rw fz g => R.fl v1 v2 v3 v4 a n cc e rw fz ((c.oth _ R.lt fun q => (hS _ q).1 rfl).symm.trans g), fun y hy => R.up y (Nat.le_trans c.nx hy)⟩
 rintro ⟨b, h1, h2, h3⟩
 refine ⟨b, h1, (c.oth b (A.lt ⟨b, 0, some (2 + 1)⟩ (by rw [h1])).1 fun q => ?_).trans h2, h3⟩
 obtain ⟨_, c', e', rw', fz', g, ne⟩ := hS b q
 exact blk_ne g h2 ne rfl
end Gt
namespace Gt
open Go Gx
theorem Two.keeps {h h' : AHeap} {sb rb tb i : Nat} {p : PS} {r : RSt} (T : Two h sb rb tb i p r) (k : Keeps h h') : Two h' sb rb tb i p r := ⟨T.s.keeps k, T.t.keeps k, T.r, T.l, T.c, T.f, T.q, T.lt⟩
theorem RR.sb {h h1 : AHeap} {sb rb tb : Nat} {r : RSt} (t : RR (fun _ => True) h tb r) (lt : sb < tb ∧ rb < tb) (c : Chg (SB sb rb) h h1) : RR (fun _ => True) h1 tb r := t.chg c fun y hy z => by rcases z with z | z <;> omega
end Gt
namespace Gt
open Go Gx
def rs0 (q : Nat) : RSt := ⟨q, 0, 0, false, []⟩
theorem rNew_spec {k : Nat} (D : CallF) {h : AHeap} {q : Nat} (hq : q ≤ 1073741824) : ∃ h', ref07_New k D (q : Int) h = some ((some ⟨h.next, 0, none⟩, 0), h') ∧ Keeps h h' ∧ RR (fun _ => True) h' h.next (rs0 q) := by
 refine ⟨h.new (.cells [.int .i64 (q : Int), .int .i64 0, .int .i64 0, .bool false, .slice none 0 0] 72 true 0), ?_, Keeps.new h _, ⟨(), ⟨none, 0, 0⟩, ?_, AccV.nil _ _ _ _ _⟩, ?_, fun _ _ _ _ _ _ _ _ _ _ _ => trivial, fun _ _ => trivial⟩
 ·simp only [ref07_New]
  refine jn ?_
  refine ifn (by simp) ?_
  rw [decide_eq_false (by omega)]
  exact ifn (by decide) rfl
 ·rw [AHeap.get_new, if_pos rfl]; rfl
 ·simp only [AHeap.next_new]; omega
end Gt
namespace Gt
open Go Gx
structure Mk (base q : Nat) (h : AHeap) (s r : Slc) (ss : List Sb) (ts : List Tb) : Prop where
 As : Acc encB 26 base h s ss
 At : Acc encT1 30 base h r ts
 sr : ∀ t ∈ ss, SR h t.1 t.2.1 (ps0 q) ∧ t.2.2 = ps0 q ∧ base ≤ t.1 ∧ base ≤ t.2.1
 tr : ∀ t ∈ ts, h.get t.1 = some (.cells [.int .i64 (q : Int), .int .i64 0, .int .i64 0, .bool false, .slice none 0 0] 72 true 0) ∧ t.2 = rs0 q ∧ base ≤ t.1 ∧ t.1 < h.next
 aps : ss.Pairwise fun s t => ¬ SB s.1 s.2.1 t.1 ∧ ¬ SB s.1 s.2.1 t.2.1
 apt : ts.Pairwise fun s t => s.1 ≠ t.1
 len : ss.length = ts.length
theorem Mk.nil (base q : Nat) (h : AHeap) : Mk base q h nils nils [] [] := ⟨Acc.nil _ _ _ _, Acc.nil _ _ _ _, fun t ht => by simp at ht, fun t ht => by simp at ht, .nil, .nil, rfl⟩
theorem acc_blk {α : Type} {enc : α → Value} {e : TypeId} {base : Nat} {h : AHeap} {s : Slc} {xs : List α} (A : Acc enc e base h s xs) {a : Addr} (ha : s.a = some a) : ∃ c, h.get a.block = some (.cells c e true 0) := by
 rcases A.st with ⟨rfl, _⟩ | ⟨b, g⟩
 ·cases ha
 ·rw [g.s] at ha
  cases ha
  exact ⟨_, g.blk⟩
theorem SR.notP {h : AHeap} {sb rb : Nat} {p : PS} (s : SR h sb rb p) {y : Nat} {m : Option Addr} {c : List Value} {e : TypeId} {r : Bool} {fz : Nat} (hy : h.get y = some (.cells (.pointer m :: c) e r fz)) : ¬ SB sb rb y := by
 rintro (rfl | rfl)
 ·obtain ⟨i, hb⟩ := s.blk
  rw [hy] at hb
  simp at hb
 ·have := s.mp
  rw [hy] at this
  cases this
theorem SR.not6 {h : AHeap} {sb rb : Nat} {p : PS} (s : SR h sb rb p) {y : Nat} {c : List Value} {e : TypeId} {r : Bool} {fz : Nat} (hy : h.get y = some (.cells c e r fz)) (hl : c.length ≠ 6) : ¬ SB sb rb y := by
 rintro (rfl | rfl)
 ·obtain ⟨i, hb⟩ := s.blk
  rw [hy] at hb
  simp at hb
  rw [hb.1] at hl
  exact hl rfl
 ·have := s.mp
  rw [hy] at this
  cases this
theorem accP_blk {α : Type} {enc : α → Value} (hp : ∀ x, ∃ m, enc x = .pointer m) {e : TypeId} {base : Nat} {h : AHeap} {s : Slc} {xs : List α} (A : Acc enc e base h s xs) {a : Addr} (ha : s.a = some a) : ∃ m c, h.get a.block = some (.cells (.pointer m :: c) e true 0) := by
 rcases A.st with ⟨rfl, _⟩ | ⟨b, g⟩
 ·cases ha
 ·rw [g.s] at ha
  cases ha
  cases xs with
  | nil => exact absurd rfl g.ne
  | cons x xs =>
   obtain ⟨m, hm⟩ := hp x
   have := g.blk
   simp only [outB, List.map_cons, hm] at this
   exact ⟨_, _, this⟩
theorem encB_one (s : Sb) : one (encB s) = true := rfl
theorem encT1_one (s : Tb) : one (encT1 s) = true := rfl
theorem encB_ptr (s : Sb) : ∃ m, encB s = .pointer m := ⟨_, rfl⟩
theorem encT1_ptr (s : Tb) : ∃ m, encT1 s = .pointer m := ⟨_, rfl⟩
theorem Mk.more {k : Nat} {D : CallF} {base q : Nat} {h : AHeap} {s r : Slc} {ss : List Sb} {ts : List Tb} (M : Mk base q h s r ss ts) (hq : q ≤ 1073741824) (hl : ss.length ≤ 1000) (hb : base ≤ h.next) {R : Type} {Q : R → Prop} {f : Slc → Slc → AHeap → Option R}
  (hf : ∀ (s' r' : Slc) (h' : AHeap) (x : Sb) (y : Tb), Mk base q h' s' r' (ss ++ [x]) (ts ++ [y]) → Chg (fun y => base ≤ y) h h' → Gx.Wp (f s' r' h') Q) :
  Gx.Wp ((store_New k D (q : Int) h).bind fun r10 => (ref07_New k D (q : Int) r10.2).bind fun r11 => newK r11.2 (.cells [.pointer r10.1.1] 26 true 0) fun h12 => (rdS 1 (⟨some ⟨r11.2.next, 0, some 0⟩, 1, 1⟩ : Slc) h12).bind fun n14 => (appendA 1 8 26 h12 s n14 1).bind fun r13 =>
   newK r13.2 (.cells [.pointer r11.1.1] 30 true 0) fun h15 => (rdS 1 (⟨some ⟨r13.2.next, 0, some 0⟩, 1, 1⟩ : Slc) h15).bind fun n17 => (appendA 1 8 30 h15 r n17 1).bind fun r16 => f r13.1 r16.1 r16.2) Q := by
 obtain ⟨h1, e1, k1, s1⟩ := New_spec (k := k) D (h := h) hq
 refine Gx.Wp.bnd e1 ?_
 obtain ⟨h2, e2, k2, t2⟩ := rNew_spec (k := k) D (h := h1) hq
 refine Gx.Wp.bnd e2 ?_
 have n1 := k1.nx
 have n2 := k2.nx
 have lt1 := s1.lt
 have tlt := t2.lt
 obtain ⟨x, ex⟩ : ∃ x : Sb, x = (h.next + 1, h.next, ps0 q) := ⟨_, rfl⟩
 obtain ⟨y, ey⟩ : ∃ y : Tb, y = (h1.next, rs0 q) := ⟨_, rfl⟩
 have c2 : h2.get h1.next = some (.cells [.int .i64 (q : Int), .int .i64 0, .int .i64 0, .bool false, .slice none 0 0] 72 true 0) := by
  have e := e2
  simp only [ref07_New, joinK] at e
  rw [if_neg (by simp), decide_eq_false (by omega), if_neg (by decide)] at e
  simp only [Option.some.injEq, Prod.mk.injEq] at e
  rw [← e.2]; simp
 have As := (M.As.keeps k1).keeps k2
 have At := (M.At.keeps k1).keeps k2
 obtain ⟨s', h3, a3, As', c3, d3⟩ := As.push encB_one x (bytes := 8) (by omega) (by decide) (by omega)
 have S2 : ∀ t ∈ ss ++ [x], SR h2 t.1 t.2.1 (ps0 q) ∧ t.2.2 = ps0 q ∧ base ≤ t.1 ∧ base ≤ t.2.1 := by
  intro t ht
  rcases List.mem_append.1 ht with ht | ht
  ·obtain ⟨b1, b2, b3⟩ := M.sr t ht
   exact ⟨(b1.keeps k1).keeps k2, b2, b3⟩
  ·simp at ht; subst ht ex
   exact ⟨s1.keeps k2, rfl, by dsimp only; omega, hb⟩
 have T2 : ∀ t ∈ ts ++ [y], h2.get t.1 = some (.cells [.int .i64 (q : Int), .int .i64 0, .int .i64 0, .bool false, .slice none 0 0] 72 true 0) ∧ t.2 = rs0 q ∧ base ≤ t.1 ∧ t.1 < h2.next := by
  intro t ht
  rcases List.mem_append.1 ht with ht | ht
  ·obtain ⟨b1, b2, b3, b4⟩ := M.tr t ht
   exact ⟨k2.got (by omega) (k1.got (by omega) b1), b2, b3, by omega⟩
  ·simp at ht; subst ht ey
   exact ⟨c2, rfl, by dsimp only; omega, by dsimp only; omega⟩
 refine (show newK h2 (.cells [encB x] 26 true 0) (fun h12 => (rdS 1 (⟨some ⟨h2.next, 0, some 0⟩, 1, 1⟩ : Slc) h12).bind fun n14 => (appendA 1 8 26 h12 s n14 1).bind fun r13 =>
   newK r13.2 (.cells [.pointer (some ⟨h1.next, 0, none⟩)] 30 true 0) fun h15 => (rdS 1 (⟨some ⟨r13.2.next, 0, some 0⟩, 1, 1⟩ : Slc) h15).bind fun n17 => (appendA 1 8 30 h15 r n17 1).bind fun r16 => f r13.1 r16.1 r16.2) = _ by rw [ex]) ▸ ?_
 refine Gx.Wp.bnd rdS_one (Gx.Wp.bnd a3 ?_)
 have n3 := c3.nx
 have sk : ∀ y, ofS s y → ∃ m c, h2.get y = some (.cells (.pointer m :: c) 26 true 0) := fun y ⟨a, ha, q⟩ => q ▸ accP_blk encB_ptr As ha
 have At3 := At.chg c3 fun a ha z => by
  obtain ⟨m, c, g⟩ := sk _ z
  obtain ⟨m', c', g'⟩ := accP_blk encT1_ptr At ha
  exact blk_ne g g' (by decide) rfl
 obtain ⟨r', h4, a4, At', c4, d4⟩ := At3.push encT1_one y (bytes := 8) (by rw [← M.len]; omega) (by decide) (by omega)
 refine (show newK h3 (.cells [encT1 y] 30 true 0) (fun h15 => (rdS 1 (⟨some ⟨h3.next, 0, some 0⟩, 1, 1⟩ : Slc) h15).bind fun n17 => (appendA 1 8 30 h15 r n17 1).bind fun r16 => f s' r16.1 r16.2) = _ by rw [ey]) ▸ ?_
 refine Gx.Wp.bnd rdS_one (Gx.Wp.bnd a4 ?_)
 have rk : ∀ y, ofS r y → ∃ m c, h3.get y = some (.cells (.pointer m :: c) 30 true 0) := fun y ⟨a, ha, q⟩ => q ▸ accP_blk encT1_ptr At3 ha
 have n4 := c4.nx
 refine hf s' r' h4 x y ⟨As'.chg c4 fun a ha z => ?_, At', fun t ht => ?_, fun t ht => ?_, ?_, ?_, by simp [M.len]⟩ (Chg.beh (T := fun y => base ≤ y) (Chg.keeps (k1.trans k2)) ((c3.wk fun y _ ⟨a, ha, q⟩ => by have := (As.lt a ha).2; omega).trans (c4.wk fun y _ ⟨a, ha, q⟩ => by have := (At3.lt a ha).2; omega)) fun y hy z => z)
 ·obtain ⟨m, c, g⟩ := rk _ z
  obtain ⟨m', c', g'⟩ := accP_blk encB_ptr As' ha
  exact blk_ne g g' (by decide) rfl
 ·obtain ⟨b1, b2, b3⟩ := S2 t ht
  have q3 := b1.chg c3 (fun z => by obtain ⟨m, c, g⟩ := sk _ z; exact b1.notP g (.inl rfl)) fun z => by obtain ⟨m, c, g⟩ := sk _ z; exact b1.notP g (.inr rfl)
  exact ⟨q3.chg c4 (fun z => by obtain ⟨m, c, g⟩ := rk _ z; exact q3.notP g (.inl rfl)) fun z => by obtain ⟨m, c, g⟩ := rk _ z; exact q3.notP g (.inr rfl), b2, b3⟩
 ·obtain ⟨b1, b2, b3, b4⟩ := T2 t ht
  have q3 := c3.got b4 (fun z => by obtain ⟨m, c, g⟩ := sk _ z; exact blk_ne g b1 (by decide) rfl) b1
  exact ⟨c4.got (by omega) (fun z => by obtain ⟨m, c, g⟩ := rk _ z; exact blk_ne g q3 (by decide) rfl) q3, b2, b3, by omega⟩
 ·refine List.pairwise_append.2 ⟨M.aps, by simp, fun a ha b hb => ?_⟩
  simp at hb; subst hb ex
  have := (M.sr a ha).1.lt
  exact ⟨fun z => by rcases z with z | z <;> simp only at z <;> omega, fun z => by rcases z with z | z <;> simp only at z <;> omega⟩
 ·refine List.pairwise_append.2 ⟨M.apt, by simp, fun a ha b hb => ?_⟩
  simp at hb; subst hb ey
  have := (M.tr a ha).2.2.2
  dsimp only; omega
end Gt
namespace Gt
open Go Gx
variable {F : Nat → Prop}
def TSet (ts : List Tb) (y : Nat) : Prop := ∃ t ∈ ts, y = t.1
structure Rts (F : Nat → Prop) (h : AHeap) (sl : Slc) (m : Nat) (ts : List Tb) : Prop where
 rd : Row encT1 h sl ts
 fr : ∀ a, sl.a = some a → ¬ TSet ts a.block
 st : ∀ (i : Nat) t, ts[i]? = some t → RR F h t.1 t.2 ∧ RtB m t.2
 ap : ∀ (i j : Nat) s t, ts[i]? = some s → ts[j]? = some t → i ≠ j → s.1 ≠ t.1
theorem RR.ty {h : AHeap} {tb : Nat} {r : RSt} (R : RR F h tb r) : ∃ c, h.get tb = some (.cells c 72 true 0) := by
 obtain ⟨_, l, hb, _⟩ := R.blk
 exact ⟨_, hb⟩
theorem Rts.keeps {h h' : AHeap} {sl : Slc} {m : Nat} {ts : List Tb} (T : Rts F h sl m ts) (k : Keeps h h') : Rts F h' sl m ts := ⟨Row.keeps T.rd k, T.fr, fun i s hi => ⟨(T.st i s hi).1.keeps k, (T.st i s hi).2⟩, T.ap⟩
theorem rput_len (r : RSt) (n d : ByteArray) : (r.putS n d).1.L.length ≤ r.L.length + 1 ∧ (r.putS n d).1.many = r.many ∧ (r.putS n d).1.fails = r.fails := by
 unfold RSt.putS
 have := ly_len n d r.L
 split
 ·exact ⟨Nat.le_succ _, rfl, rfl⟩
 ·split
  ·exact ⟨Nat.le_succ _, rfl, rfl⟩
  ·exact ⟨this, rfl, rfl⟩
theorem rdo_len (r : RSt) (kind : Int) (n d : ByteArray) : (r.doS kind n d).1.L.length ≤ r.L.length + 1 ∧ (r.doS kind n d).1.many = r.many + 1 ∧ (r.doS kind n d).1.fails ≤ r.fails := by
 have b : r.up.L.length ≤ r.L.length + 1 ∧ r.up.many = r.many + 1 ∧ r.up.fails ≤ r.fails := ⟨Nat.le_succ _, rfl, Nat.le_refl _⟩
 unfold RSt.doS
 split
 ·exact b
 ·split
  ·exact ⟨Nat.le_succ _, rfl, Nat.sub_le _ _⟩
  ·split
   ·obtain ⟨h1, h2, h3⟩ := rput_len r.up n d
    exact ⟨h1, h2, by show (r.up.putS n d).1.fails ≤ _; rw [h3]; exact Nat.le_refl _⟩
   ·split
    ·exact b
    ·split
     ·split <;> exact b
     ·split
      ·split
       ·refine ⟨?_, rfl, Nat.le_refl _⟩
        show (r.L.take (fi n r.L) ++ r.L.drop (fi n r.L + 1)).length ≤ _
        have := fi_le n r.L
        simp; omega
       ·exact b
      ·exact b
end Gt
namespace Gt
open Go Gx
section
variable {base q : Nat} {h : AHeap} {s r : Slc} {ss : List Sb} {ts : List Tb}
theorem pair_of {α : Type} {R : α → α → Prop} {l : List α} (p : l.Pairwise R) (sy : ∀ a b, a ∈ l → b ∈ l → R a b → R b a) {i j : Nat} {a b : α} (hi : l[i]? = some a) (hj : l[j]? = some b) (hij : i ≠ j) : R a b := by
 obtain ⟨li, rfl⟩ := getElem_of hi
 obtain ⟨lj, rfl⟩ := getElem_of hj
 rw [List.pairwise_iff_getElem] at p
 rcases Nat.lt_or_ge i j with c | c
 ·exact p i j li lj c
 ·exact sy _ _ (List.getElem_mem _) (List.getElem_mem _) (p j i lj li (by omega))
theorem Mk.sts (M : Mk base q h s r ss ts) (hq : q ≤ 1073741824) : Sts h s 0 ss := by
 refine ⟨M.As.row, fun a ha z => ?_, fun i t hi => ?_, fun i j a b hi hj hij => ?_⟩
 ·obtain ⟨t, ht, z⟩ := z
  obtain ⟨m, c, g⟩ := accP_blk encB_ptr M.As ha
  exact ((M.sr t ht).1).notP g z
 ·obtain ⟨b1, b2, _⟩ := M.sr t (mem_of hi)
  rw [b2]
  exact ⟨b1, good0, Nat.le_refl _, Nat.le_refl _, Nat.zero_le _, hq⟩
 ·refine pair_of M.aps (fun a b ha hb z => ?_) hi hj hij
  obtain ⟨z1, z2⟩ := z
  refine ⟨fun w => ?_, fun w => ?_⟩
  ·rcases w with w | w
   ·exact z1 (.inl w.symm)
   ·exact z2 (.inl w.symm)
  ·rcases w with w | w
   ·exact z1 (.inr w.symm)
   ·exact z2 (.inr w.symm)
theorem Mk.rr (M : Mk base q h s r ss ts) : ∀ t ∈ ts, RR (fun _ => True) h t.1 t.2 := fun t ht => by
 obtain ⟨b1, b2, b3, b4⟩ := M.tr t ht
 rw [b2]
 exact ⟨⟨(), ⟨none, 0, 0⟩, b1, AccV.nil _ _ _ _ _⟩, b4, fun _ _ _ _ _ _ _ _ _ _ _ => trivial, fun _ _ => trivial⟩
theorem Mk.rts (M : Mk base q h s r ss ts) : Rts (fun _ => True) h r 0 ts := by
 refine ⟨M.At.row, fun a ha z => ?_, fun i t hi => ?_, fun i j a b hi hj hij => pair_of M.apt (fun a b _ _ z => fun w => z w.symm) hi hj hij⟩
 ·obtain ⟨t, ht, z⟩ := z
  obtain ⟨m, c, g⟩ := accP_blk encT1_ptr M.At ha
  exact blk_ne g (M.tr t ht).1 (by decide) z
 ·obtain ⟨b1, b2, _⟩ := M.tr t (mem_of hi)
  refine ⟨M.rr t (mem_of hi), ?_⟩
  rw [b2]
  exact ⟨Nat.le_refl _, Nat.le_refl _, Nat.zero_le _⟩
theorem rel0 (q : Nat) : Rel (ps0 q) (rs0 q) := ⟨rfl, rfl, rfl, rfl, good0, .nil, fun _ => rfl⟩
theorem Mk.bth (M : Mk base q h s r ss ts) : Bth ss ts := ⟨M.len, fun i s t hi hj => by rw [(M.sr s (mem_of hi)).2.1, (M.tr t (mem_of hj)).2.1]; exact rel0 q⟩
theorem Mk.sset (M : Mk base q h s r ss ts) {y : Nat} (z : SSet ss y) : base ≤ y ∧ y < h.next := by
 obtain ⟨t, ht, z⟩ := z
 obtain ⟨b1, b2, b3, b4⟩ := M.sr t ht
 have := b1.lt
 rcases z with rfl | rfl <;> omega
theorem Mk.tset (M : Mk base q h s r ss ts) {y : Nat} (z : TSet ts y) : base ≤ y ∧ y < h.next := by
 obtain ⟨t, ht, z⟩ := z
 obtain ⟨b1, b2, b3, b4⟩ := M.tr t ht
 omega
theorem Mk.parts (M : Mk base q h s r ss ts) {y : Nat} (z : SSet ss y) : ¬ TSet ts y := by
 obtain ⟨t, ht, z⟩ := z
 rintro ⟨u, hu, rfl⟩
 exact ((M.sr t ht).1).not6 (M.tr u hu).1 (by simp) z
theorem Mk.ls (M : Mk base q h s r ss ts) {a : Addr} (ha : s.a = some a) : base ≤ a.block ∧ a.block < h.next ∧ ¬ SSet ss a.block ∧ ¬ TSet ts a.block := by
 have b := M.As.lt a ha
 obtain ⟨m, c, g⟩ := accP_blk encB_ptr M.As ha
 refine ⟨b.2, b.1, fun ⟨t, ht, z⟩ => ((M.sr t ht).1).notP g z, fun ⟨t, ht, z⟩ => blk_ne g (M.tr t ht).1 (by decide) z⟩
theorem Mk.lr (M : Mk base q h s r ss ts) {a : Addr} (ha : r.a = some a) : base ≤ a.block ∧ a.block < h.next ∧ ¬ SSet ss a.block ∧ ¬ TSet ts a.block := by
 have b := M.At.lt a ha
 obtain ⟨m, c, g⟩ := accP_blk encT1_ptr M.At ha
 refine ⟨b.2, b.1, fun ⟨t, ht, z⟩ => ((M.sr t ht).1).notP g z, fun ⟨t, ht, z⟩ => blk_ne g (M.tr t ht).1 (by decide) z⟩
end
end Gt
namespace Gt
open Go Gx
variable {F : Nat → Prop}
theorem TSet_set {ss : List Tb} {i : Nat} {s : Tb} {p : RSt} (hi : ss[i]? = some s) (y : Nat) : TSet (ss.set i (s.1, p)) y ↔ TSet ss y := by
 constructor
 ·rintro ⟨t, ht, q⟩
  rcases List.mem_or_eq_of_mem_set ht with ht | rfl
  ·exact ⟨t, ht, q⟩
  ·exact ⟨s, mem_of hi, q⟩
 ·rintro ⟨t, ht, q⟩
  obtain ⟨j, hj⟩ := List.getElem?_of_mem ht
  by_cases c : j = i
  ·subst c
   rw [hi] at hj; cases hj
   have hlt := (List.getElem?_eq_some_iff.1 hi).1
   exact ⟨(s.1, p), List.mem_of_getElem? (i := j) (by rw [List.getElem?_set]; simp [hlt]), q⟩
  ·exact ⟨t, List.mem_of_getElem? (i := j) (by rw [List.getElem?_set_ne (fun z => c z.symm)]; exact hj), q⟩
theorem RAnswer_spec {k : Nat} (D : CallF) {h : AHeap} {sl : Slc} {m : Nat} {ss : List Tb} (T : Rts F h sl m ss) (r : Rq) (hm : m ≤ 100000) (hk : m + 1 < k) (hk2 : 100 < k) (ht : ∀ t ∈ ss, ∀ n d, totR (lyR n d t.2.L) ≤ 1152921504606846976 ∨ fitsC n d ≠ 0) :
  Gx.Wp (ref08_Answer k D sl r h) fun z => Chg (TSet ss) h z.2 ∧ Rts F z.2 sl (m + 1) (ansR ss r).1 ∧ z.1.1 = (ansR ss r).2.1 ∧ z.1.2.1 = (ansR ss r).2.2.1 ∧ Acc encS 9 h.next z.2 z.1.2.2 (ansR ss r).2.2.2 := by
 obtain ⟨st, kind, n, d⟩ := r
 simp only [ref08_Answer]
 obtain ⟨H1, e1⟩ : ∃ H1, H1 = h.new (.cells [.int .i64 st, .int .i64 kind, .string n, .string d] 51 true 0) := ⟨_, rfl⟩
 rw [← e1]
 obtain ⟨H2, e2⟩ : ∃ H2, H2 = H1.new (.cells [.int .i64 0, .string ⟨#[]⟩, .slice none 0 0] 59 true 0) := ⟨_, rfl⟩
 rw [← e2]
 have k1 : Keeps h H1 := e1 ▸ Keeps.new h _
 have k2 : Keeps h H2 := k1.trans (e2 ▸ Keeps.new H1 _)
 have n1 : H1.next = h.next + 1 := by rw [e1]; rfl
 have n2 : H2.next = h.next + 2 := by rw [e2]; simp [n1]
 have rq : H2.get h.next = some (.cells [.int .i64 st, .int .i64 kind, .string n, .string d] 51 true 0) := by
  rw [e2]; simp only [AHeap.get_new]; rw [if_neg (by omega), e1]; simp
 have rs : H2.get H1.next = some (.cells [.int .i64 0, .string ⟨#[]⟩, .slice none 0 0] 59 true 0) := by rw [e2]; simp
 have T2 := T.keeps k2
 have len : sl.len = ss.length := T.rd.1
 refine Gx.Wp.jn fun j8 h8 => Gx.Wp.bnd (sldI_at rq rfl) ?_
 have bad : ansR ss (st, kind, n, d) = (ss, (1, nob, [])) → Gx.Wp (j8 sl (some ⟨h.next, 0, none⟩) (some ⟨H1.next, 0, none⟩) true H2) fun z => Chg (TSet ss) h z.2 ∧ Rts F z.2 sl (m + 1) (ansR ss (st, kind, n, d)).1 ∧ z.1.1 = (ansR ss (st, kind, n, d)).2.1 ∧ z.1.2.1 = (ansR ss (st, kind, n, d)).2.2.1 ∧ Acc encS 9 h.next z.2 z.1.2.2 (ansR ss (st, kind, n, d)).2.2.2 := by
  intro ea
  subst h8
  refine Gx.Wp.ifp rfl (Gx.Wp.bnd rfl ?_)
  refine fin3 rs rfl 1 ⟨#[]⟩ ⟨none, 0, 0⟩ ?_
  have kf : Keeps h (H2.set H1.next (.cells [.int .i64 1, .string ⟨#[]⟩, .slice none 0 0] 59 true 0)) := Chg.beh (T := (· = H1.next)) k2 (Chg.set (.inr rfl)) fun y hy q => by omega
  rw [ea]
  have Tf := T.keeps kf
  exact ⟨Chg.keeps kf, ⟨Tf.rd, Tf.fr, fun i s hi => ⟨(Tf.st i s hi).1, ⟨Nat.le_succ_of_le (Tf.st i s hi).2.l, Nat.le_succ_of_le (Tf.st i s hi).2.c, (Tf.st i s hi).2.f⟩⟩, Tf.ap⟩, rfl, rfl, Acc.nil _ _ _ _⟩
 by_cases c1 : st < 0
 ·refine Gx.Wp.ifp (by simpa using c1) (bad ?_)
  unfold ansR; rw [if_pos c1]
 refine Gx.Wp.ifn (by simpa using c1) (Gx.Wp.bnd (sldI_at rq rfl) ?_)
 obtain ⟨i, rfl⟩ : ∃ i : Nat, st = (i : Int) := ⟨st.toNat, by omega⟩
 by_cases c2 : ss.length ≤ i
 ·refine Gx.Wp.ifp (by rw [len]; simp; omega) (bad ?_)
  unfold ansR
  rw [if_neg c1]
  show (match ss[((i : Nat) : Int).toNat]? with | none => _ | some s => _) = _
  rw [Int.toNat_natCast, List.getElem?_eq_none c2]
 obtain ⟨s, hsi⟩ := isome (l := ss) (i := i) (by omega)
 refine Gx.Wp.ifn (by rw [len]; simp; omega) (Gx.Wp.bnd (sldI_at rq rfl) ?_)
 obtain ⟨q, q1, q2, _⟩ := T2.rd.rd hsi
 have ldp : Gx.ldP q H2 = some (some ⟨s.1, 0, none⟩) := by simp only [Gx.ldP, q2]; rfl
 refine Gx.Wp.bnd q1 (Gx.Wp.bnd ldp ?_)
 subst h8
 refine Gx.Wp.ifn (fun z => by cases z) (Gx.Wp.bnd rfl (Gx.Wp.bnd (sldI_at rq rfl) (Gx.Wp.bnd q1 (Gx.Wp.bnd ldp (Gx.Wp.bnd rfl (Gx.Wp.bnd (sldA_at rq rfl) (Gx.Wp.bnd rfl ?_)))))))
 obtain ⟨sR, sB⟩ := T2.st i s hsi
 refine Gx.Wp.call (rDo_spec D sR i kind n d (by have := sB.l; omega) (by have := sB.c; omega) sB.f (by have := sB.l; omega) hk2 (fun _ => ht s (mem_of hsi) n d)) fun r21 hq => ?_
 obtain ⟨a1, a2, A, c, s1⟩ := hq
 rw [a1, a2]
 refine Gx.Wp.bnd rfl ?_
 have inS : ∀ y, y = s.1 → TSet ss y := fun y z => ⟨s, mem_of hsi, z⟩
 have lts : ∀ y, TSet ss y → y < h.next := by
  rintro y ⟨t, ht, z⟩
  obtain ⟨j, hj⟩ := List.getElem?_of_mem ht
  have := ((T.st j t hj).1).lt
  omega
 have rs2 : r21.2.get H1.next = some (.cells [.int .i64 0, .string ⟨#[]⟩, .slice none 0 0] 59 true 0) := (c.oth _ (by omega) (fun z => by have := lts _ (inS _ z); omega)).trans rs
 refine fin3 rs2 rfl _ _ _ ?_
 have ea : ansR ss ((i : Int), kind, n, d) = (ss.set i (s.1, (s.2.doS kind n d).1), (((s.2.doS kind n d).2.1 : Int), (s.2.doS kind n d).2.2.1, (s.2.doS kind n d).2.2.2)) := by
  unfold ansR
  rw [if_neg c1]
  show (match ss[((i : Nat) : Int).toNat]? with | none => _ | some s => _) = _
  rw [Int.toNat_natCast, hsi]
 rw [ea]
 have nA := c.nx
 have cS : Chg (TSet ss) h r21.2 := (Chg.keeps k2).trans (c.wk fun y _ z => inS y z)
 have cF : Chg (TSet ss) h (r21.2.set H1.next (.cells [.int .i64 ((s.2.doS kind n d).2.1 : Int), .string (s.2.doS kind n d).2.2.1, .slice r21.1.2.2.a r21.1.2.2.len r21.1.2.2.cap] 59 true 0)) := Chg.beh (T := (· = H1.next)) cS (Chg.set (.inr rfl)) fun y hy z => by omega
 obtain ⟨HF, eF⟩ : ∃ HF, HF = r21.2.set H1.next (.cells [.int .i64 ((s.2.doS kind n d).2.1 : Int), .string (s.2.doS kind n d).2.2.1, .slice r21.1.2.2.a r21.1.2.2.len r21.1.2.2.cap] 59 true 0) := ⟨_, rfl⟩
 rw [← eF] at cF ⊢
 have cl : Chg (· = H1.next) r21.2 HF := eF ▸ Chg.set (.inr rfl)
 have hlt := (List.getElem?_eq_some_iff.1 hsi).1
 refine ⟨cF, ⟨?_, ?_, ?_, ?_⟩, rfl, rfl, ⟨(A.chg cl fun a ha z => by have := (A.lt a ha).2; omega).st, fun a ha => ⟨Nat.lt_of_lt_of_le (A.lt a ha).1 cl.nx, by have := (A.lt a ha).2; omega⟩⟩⟩
 ·-- the list is the same
  have R : Row encT1 HF sl ss := Row.chg T.rd cF T.fr
  refine ⟨by rw [R.1]; simp, fun j t hj => ?_⟩
  by_cases cj : j = i
  ·subst cj
   rw [List.getElem?_set] at hj
   simp [hlt] at hj
   subst hj
   exact R.2 j s hsi
  ·rw [List.getElem?_set_ne (fun z => cj z.symm)] at hj
   exact R.2 j t hj
 ·intro a ha z
  exact T.fr a ha ((TSet_set hsi _).1 z)
 ·intro j t hj
  by_cases cj : j = i
  ·subst cj
   rw [List.getElem?_set] at hj
   simp [hlt] at hj
   subst hj
   obtain ⟨d1, d2, d3⟩ := rdo_len s.2 kind n d
   refine ⟨s1.apartE cl fun y hy => ⟨by have := lts s.1 (inS _ rfl); show y ≠ s.1; omega, by subst hy; exact ⟨_, _, _, _, rs2, by decide⟩⟩, ⟨?_, ?_, ?_⟩⟩
   ·have := sB.l; show (s.2.doS kind n d).1.L.length ≤ _; omega
   ·have := sB.c; show (s.2.doS kind n d).1.many ≤ _; omega
   ·have := sB.f; show (s.2.doS kind n d).1.fails ≤ _; omega
  ·rw [List.getElem?_set_ne (fun z => cj z.symm)] at hj
   obtain ⟨tR, tB⟩ := T2.st j t hj
   have p1 := T.ap i j s t hsi hj (fun z => cj z.symm)
   obtain ⟨c0, g0⟩ := sR.ty
   have q1 := tR.apartE c fun y hy => ⟨by subst hy; exact p1, by subst hy; exact ⟨_, _, _, _, g0, by decide⟩⟩
   exact ⟨q1.apartE cl fun y hy => ⟨by have := lts t.1 ⟨t, mem_of hj, rfl⟩; show y ≠ t.1; omega, by subst hy; exact ⟨_, _, _, _, rs2, by decide⟩⟩, ⟨by have := tB.l; omega, by have := tB.c; omega, tB.f⟩⟩
 ·intro a b s' t' ha hb hab
  have back : ∀ (j : Nat) u, (ss.set i (s.1, (s.2.doS kind n d).1))[j]? = some u → ∃ v, ss[j]? = some v ∧ u.1 = v.1 := by
   intro j u hu
   by_cases cj : j = i
   ·subst cj
    rw [List.getElem?_set] at hu
    simp [hlt] at hu
    subst hu
    exact ⟨s, hsi, rfl⟩
   ·rw [List.getElem?_set_ne (fun z => cj z.symm)] at hu
    exact ⟨u, hu, rfl⟩
  obtain ⟨u, hu, u1⟩ := back a s' ha
  obtain ⟨v, hv, v1⟩ := back b t' hb
  have := T.ap a b u v hu hv hab
  rw [u1, v1]; exact this
end Gt
namespace Gt
open Go Gx
variable {F : Nat → Prop}
theorem ansS_len (ss : List Sb) (q : Rq) : (ansS ss q).1.length = ss.length := by
 unfold ansS
 split
 ·rfl
 ·split
  ·rfl
  ·simp
theorem ansL_ss : ∀ (qs : List Rq) (ss : List Sb), (ansL qs ss).1.length = ss.length
 | [], _ => rfl
 | q :: qs, ss => by simp only [ansL, ansL_ss qs, ansS_len]
def ansRL : List Rq → List Tb → List Tb × List Ry
 | [], ts => (ts, [])
 | q :: qs, ts => ((ansRL qs (ansR ts q).1).1, (ansR ts q).2 :: (ansRL qs (ansR ts q).1).2)
theorem both_all : ∀ {qs : List Rq} {ss : List Sb} {ts : List Tb}, Bth ss ts → (ansL qs ss).2 = (ansRL qs ts).2 ∧ Bth (ansL qs ss).1 (ansRL qs ts).1
 | [], _, _, B => ⟨rfl, B⟩
 | q :: qs, ss, ts, B => by
  obtain ⟨B', e⟩ := B.ans q
  obtain ⟨h1, h2⟩ := both_all (qs := qs) B'
  exact ⟨by simp only [ansL, ansRL, e, h1], h2⟩
theorem ansRL_snoc : ∀ (qs : List Rq) (q : Rq) (ts : List Tb), ansRL (qs ++ [q]) ts = ((ansR (ansRL qs ts).1 q).1, (ansRL qs ts).2 ++ [(ansR (ansRL qs ts).1 q).2])
 | [], q, ts => rfl
 | r :: qs, q, ts => by simp only [List.cons_append, ansRL, ansRL_snoc qs q]
theorem ansRL_len : ∀ (qs : List Rq) (ts : List Tb), (ansRL qs ts).2.length = qs.length
 | [], _ => rfl
 | q :: qs, ts => by simp only [ansRL, List.length_cons, ansRL_len qs]
theorem TSet_ans (ts : List Tb) (r : Rq) (y : Nat) : TSet (ansR ts r).1 y ↔ TSet ts y := by
 unfold ansR
 split
 ·exact Iff.rfl
 ·split
  ·exact Iff.rfl
  ·rename_i s hs; exact TSet_set hs y
theorem tot_rel {p : PS} {r : RSt} (R : Rel p r) (hl : r.L.length ≤ 1048576) (n d : ByteArray) : totR (lyR n d r.L) ≤ 1152921504606846976 ∨ fitsC n d ≠ 0 := by
 by_cases c : fitsC n d = 0
 ·obtain ⟨hn, hd, _⟩ := fits0 c
  have RL := R.lay hn hd
  have t1 : Gt.tot (pt n d p.cl p.es) = totR (lyR n d r.L) := RL.tot
  have t2 := tot_pt (n := n) (d := d) (cl := p.cl) p.es
  have t3 := tot_le R.g
  have := R.len
  exact .inl (by omega)
 ·exact .inr c
theorem Bth.tot {ss : List Sb} {ts : List Tb} {h : AHeap} {sl : Slc} {m : Nat} (B : Bth ss ts) (T : Rts F h sl m ts) (hm : m ≤ 100000) : ∀ t ∈ ts, ∀ n d, totR (lyR n d t.2.L) ≤ 1152921504606846976 ∨ fitsC n d ≠ 0 := by
 intro t ht n d
 obtain ⟨i, hi⟩ := List.getElem?_of_mem ht
 obtain ⟨s, hs⟩ := isome (l := ss) (i := i) (by rw [B.len]; exact (List.getElem?_eq_some_iff.1 hi).1)
 exact tot_rel (B.rel i s t hs hi) (by have := (T.st i t hi).2.l; omega) n d
theorem Rts.apartE {S : Nat → Prop} {h h' : AHeap} {sl : Slc} {m : Nat} {ts : List Tb} (T : Rts F h sl m ts) (c : Chg S h h') (hS : ∀ y, S y → ¬ TSet ts y ∧ ∃ c e rw fz, h.get y = some (.cells c e rw fz) ∧ e ≠ 96) (ha : ∀ a, sl.a = some a → ¬ S a.block) : Rts F h' sl m ts :=
 ⟨Row.chg T.rd c ha, T.fr, fun i t hi => ⟨(T.st i t hi).1.apartE c fun y hy => ⟨fun e => (hS y hy).1 ⟨t, mem_of hi, e⟩, (hS y hy).2⟩, (T.st i t hi).2⟩, T.ap⟩
end Gt
namespace Gt
open Go Gx
theorem rdo_names (r : RSt) (kind : Int) (n d : ByteArray) : (r.doS kind n d).2.2.2.length ≤ r.L.length := by
 have fl := List.length_filter_le (starts n) (r.L.map (·.1))
 rw [List.length_map] at fl
 unfold RSt.doS
 repeat' split
 all_goals first | exact fl | exact Nat.zero_le _
theorem ansR_names {ts : List Tb} {m : Nat} (h : ∀ t ∈ ts, t.2.L.length ≤ m) (q : Rq) : (ansR ts q).2.2.2.length ≤ m := by
 unfold ansR
 split
 ·exact Nat.zero_le _
 ·split
  ·exact Nat.zero_le _
  ·rename_i s hs
   exact Nat.le_trans (rdo_names _ _ _ _) (h s (mem_of hs))
section
variable {k : Nat} {h0 : AHeap} {kb : Nat} {r sl lk : Slc} {qs : List Rq} {ts0 : List Tb} {ss0 : List Sb}
structure Doc (h0 : AHeap) (kb : Nat) (r lk : Slc) (qs : List Rq) (ts0 : List Tb) (i : Nat) (h : AHeap) : Prop where
 t : Rts (fun _ => True) h r i (ansRL (qs.take i) ts0).1
 l : LR h kb lk i (Rz.of (ansRL (qs.take i) ts0).2)
 b : idsL (ansRL (qs.take i) ts0).2 ≤ i * 100000
 s : ∀ y, TSet (ansRL (qs.take i) ts0).1 y ↔ TSet ts0 y
 c : Chg (fun y => TSet ts0 y ∨ y = kb) h0 h
end
section
variable {k : Nat} {s r : Slc} {ss : List Sb} {ts : List Tb}
end
end Gt
namespace Gt
open Go Gx
end Gt
namespace Gt
open Go Gx
end Gt
namespace Gt
open Go Gx
noncomputable def DD (k : Nat) : CallF := lvl k 60
theorem DD_sound (k : Nat) : CSound Go.Proofs.Tryz.prog 0 (DD k) := lvl_sound k 60
end Gt
