import Derived.KernelRfl
import Derived.Test.YtkmfdiabghpejaaDoorFn1
namespace Gk
open Go Gx
abbrev En := ByteArray × ByteArray × Nat
def encE (e : En) : Value × Value × Nat := (.string e.1, .string e.2.1, e.2.2)
def fd (n : ByteArray) : List En → Nat → Option (Nat × ByteArray)
 | [], _ => none
 | e :: es, i => if e.1 = n then some (i, e.2.1) else fd n es (i + 1)
def lk (n : ByteArray) : List En → Option ByteArray
 | [] => none
 | e :: es => if e.1 = n then some e.2.1 else lk n es
def pt (n d : ByteArray) (cl : Nat) : List En → List En
 | [] => [(n, d, cl)]
 | e :: es => if e.1 = n then (n, d, e.2.2) :: es else e :: pt n d cl es
def rm (n : ByteArray) : List En → List En
 | [] => []
 | e :: es => if e.1 = n then es else e :: rm n es
def room (n : ByteArray) (es : List En) : Nat := match lk n es with | some d => n.size + d.size | none => 0
def tot : List En → Nat
 | [] => 0
 | e :: es => e.1.size + e.2.1.size + tot es
theorem findE_fd (n : ByteArray) : ∀ (es : List En) (i : Nat), findE (.string n) (es.map encE) i = some ((fd n es i).map fun p => (p.1, .string p.2))
 | [], _ => rfl
 | e :: es, i => by
  have ih := findE_fd n es (i + 1)
  simp only [List.map_cons, encE, findE, keyEq, fd]
  by_cases h : e.1 = n
  ·have hb : (n == n) = true := by rw [ba_beq]; simp
   rw [if_pos h, h, hb]; rfl
  ·have hb : (n == e.1) = false := by rw [ba_beq]; simpa using fun q => h q.symm
   rw [if_neg h, hb]
   simpa [encE] using ih
theorem fd_lk (n : ByteArray) : ∀ (es : List En) (i : Nat), (fd n es i).map (·.2) = lk n es
 | [], _ => rfl
 | e :: es, i => by
  simp only [fd, lk]
  by_cases h : e.1 = n
  ·rw [if_pos h, if_pos h]; rfl
  ·rw [if_neg h, if_neg h]; exact fd_lk n es (i + 1)
theorem fd_ge {n : ByteArray} : ∀ {es : List En} {i : Nat} {p}, fd n es i = some p → i ≤ p.1
 | [], _, _, h => by cases h
 | e :: es, i, p, h => by
  simp only [fd] at h
  split at h
  ·cases h; exact Nat.le_refl _
  ·have := fd_ge h; omega
theorem fd_mod {n d : ByteArray} {cl : Nat} : ∀ {es : List En} {i : Nat} {p}, fd n es i = some p → (es.map encE).modify (p.1 - i) (fun e => (.string n, .string d, e.2.2)) = (pt n d cl es).map encE
 | [], _, _, h => by cases h
 | e :: es, i, p, h => by
  simp only [fd] at h
  split at h
  ·rename_i q
   cases h
   simp only [Nat.sub_self, pt, if_pos q]; rfl
  ·rename_i q
   have h1 := fd_ge h
   have ih := fd_mod (d := d) (cl := cl) h
   simp only [pt, if_neg q, List.map_cons]
   rw [show p.1 - i = (p.1 - (i + 1)) + 1 by omega, List.modify_succ_cons, ih]
theorem fd_none {n d : ByteArray} {cl : Nat} : ∀ {es : List En} {i : Nat}, fd n es i = none → es.map encE ++ [(.string n, .string d, cl)] = (pt n d cl es).map encE
 | [], _, _ => rfl
 | e :: es, i, h => by
  simp only [fd] at h
  split at h
  ·cases h
  ·rename_i q
   simp only [pt, if_neg q, List.map_cons, List.cons_append]
   rw [fd_none h]
theorem fd_del {n : ByteArray} : ∀ {es : List En} {i : Nat} {p}, fd n es i = some p → (es.map encE).eraseIdx (p.1 - i) = (rm n es).map encE
 | [], _, _, h => by cases h
 | e :: es, i, p, h => by
  simp only [fd] at h
  split at h
  ·rename_i q
   cases h
   simp only [Nat.sub_self, rm, if_pos q]; rfl
  ·rename_i q
   have h1 := fd_ge h
   have ih := fd_del h
   simp only [rm, if_neg q, List.map_cons]
   rw [show p.1 - i = (p.1 - (i + 1)) + 1 by omega, List.eraseIdx_cons_succ, ih]
theorem rm_none {n : ByteArray} : ∀ {es : List En}, lk n es = none → rm n es = es
 | [], _ => rfl
 | e :: es, h => by
  simp only [lk] at h
  split at h
  ·cases h
  ·rename_i q; simp only [rm, if_neg q]; rw [rm_none h]
theorem fd_some {n : ByteArray} {es : List En} {i : Nat} {d : ByteArray} (h : lk n es = some d) : ∃ j, fd n es i = some (j, d) := by
 have := fd_lk n es i
 rw [h] at this
 cases hf : fd n es i with
 | none => rw [hf] at this; cases this
 | some p => rw [hf] at this; simp at this; exact ⟨p.1, by rw [← this]⟩
theorem fd_no {n : ByteArray} {es : List En} {i : Nat} (h : lk n es = none) : fd n es i = none := by
 have := fd_lk n es i
 rw [h] at this
 cases hf : fd n es i with
 | none => rfl
 | some p => rw [hf] at this; cases this
theorem tot_pt {n d : ByteArray} {cl : Nat} : ∀ es, tot (pt n d cl es) + room n es = tot es + (n.size + d.size)
 | [] => by simp [pt, tot, room, lk]
 | e :: es => by
  have ih := tot_pt (n := n) (d := d) (cl := cl) es
  by_cases h : e.1 = n
  ·simp only [pt, if_pos h, tot, room, lk]; rw [← h]; omega
  ·have hr : room n (e :: es) = room n es := by simp only [room, lk, if_neg h]
   simp only [pt, if_neg h, tot, hr]; omega
theorem tot_rm {n : ByteArray} : ∀ es, tot (rm n es) + room n es = tot es
 | [] => rfl
 | e :: es => by
  have ih := tot_rm (n := n) es
  by_cases h : e.1 = n
  ·simp only [rm, if_pos h, tot, room, lk]; rw [← h]; omega
  ·have hr : room n (e :: es) = room n es := by simp only [room, lk, if_neg h]
   simp only [rm, if_neg h, tot, hr]; omega
theorem room_le {n : ByteArray} (es : List En) : room n es ≤ tot es := by have := tot_rm (n := n) es; omega
structure PS where
 quota : Nat
 fails : Nat
 calls : Nat
 down : Bool
 es : List En
 cl : Nat
structure Good (es : List En) (cl : Nat) : Prop where
 keys : (es.map (·.1)).Nodup
 births : (es.map (·.2.2)).Nodup
 old : ∀ e ∈ es, e.2.2 < cl
 small : ∀ e ∈ es, e.1.size ≤ 96 ∧ e.2.1.size ≤ 131072
theorem tot_le {es : List En} {cl : Nat} (g : Good es cl) : tot es ≤ es.length * 131168 := by
 have : ∀ es : List En, (∀ e ∈ es, e.1.size ≤ 96 ∧ e.2.1.size ≤ 131072) → tot es ≤ es.length * 131168 := by
  intro es
  induction es with
  | nil => intro _; exact Nat.le_refl _
  | cons e es ih =>
   intro h
   have h1 := h e (by simp)
   have h2 := ih fun x hx => h x (by simp [hx])
   simp only [tot, List.length_cons]; omega
 exact this es g.small
theorem mem_pt {n d : ByteArray} {cl : Nat} : ∀ {es : List En} {x : En}, x ∈ pt n d cl es → x ∈ es ∨ (x.1 = n ∧ x.2.1 = d ∧ (x.2.2 = cl ∨ ∃ y ∈ es, x.2.2 = y.2.2))
 | [], x, h => by simp [pt] at h; subst h; exact .inr ⟨rfl, rfl, .inl rfl⟩
 | e :: es, x, h => by
  simp only [pt] at h
  split at h
  ·rcases List.mem_cons.1 h with rfl | h
   ·exact .inr ⟨rfl, rfl, .inr ⟨e, by simp, rfl⟩⟩
   ·exact .inl (by simp [h])
  ·rcases List.mem_cons.1 h with rfl | h
   ·exact .inl (by simp)
   ·rcases mem_pt h with h | ⟨h1, h2, h3⟩
    ·exact .inl (by simp [h])
    ·exact .inr ⟨h1, h2, h3.imp id fun ⟨y, hy, e⟩ => ⟨y, by simp [hy], e⟩⟩
theorem keys_pt {n d : ByteArray} {cl : Nat} : ∀ {es : List En}, (pt n d cl es).map (·.1) = if (lk n es).isSome then es.map (·.1) else es.map (·.1) ++ [n]
 | [] => rfl
 | e :: es => by
  have ih := keys_pt (n := n) (d := d) (cl := cl) (es := es)
  by_cases h : e.1 = n
  ·simp [pt, lk, h]
  ·simp only [pt, lk, if_neg h, List.map_cons, ih]
   split <;> rfl
theorem births_pt {n d : ByteArray} {cl : Nat} : ∀ {es : List En}, (pt n d cl es).map (·.2.2) = if (lk n es).isSome then es.map (·.2.2) else es.map (·.2.2) ++ [cl]
 | [] => rfl
 | e :: es => by
  have ih := births_pt (n := n) (d := d) (cl := cl) (es := es)
  by_cases h : e.1 = n
  ·simp [pt, lk, h]
  ·simp only [pt, lk, if_neg h, List.map_cons, ih]
   split <;> rfl
theorem lk_mem {n : ByteArray} : ∀ {es : List En}, (lk n es).isSome = true ↔ n ∈ es.map (·.1)
 | [] => by simp [lk]
 | e :: es => by
  simp only [lk, List.map_cons, List.mem_cons]
  by_cases h : e.1 = n
  ·simp [h]
  ·rw [if_neg h, lk_mem]; exact ⟨.inr, fun q => q.resolve_left fun e' => h e'.symm⟩
theorem rm_sub (n : ByteArray) : ∀ es : List En, (rm n es).Sublist es
 | [] => .slnil
 | e :: es => by
  simp only [rm]
  split
  ·exact List.sublist_cons_self _ _
  ·exact (rm_sub n es).cons_cons _
def clk (n : ByteArray) (es : List En) (cl : Nat) : Nat := if (lk n es).isSome then cl else cl + 1
theorem Good.pt {es : List En} {cl : Nat} (g : Good es cl) {n d : ByteArray} (hn : n.size ≤ 96) (hd : d.size ≤ 131072) : Good (pt n d cl es) (clk n es cl) where
 keys := by
  rw [keys_pt]
  split
  ·exact g.keys
  ·rename_i h
   rw [lk_mem] at h
   exact List.nodup_append.2 ⟨g.keys, by simp, fun a ha b hb => by simp at hb; subst hb; exact fun e => h (e ▸ ha)⟩
 births := by
  rw [births_pt]
  split
  ·exact g.births
  ·refine List.nodup_append.2 ⟨g.births, by simp, fun a ha b hb => ?_⟩
   simp at hb; subst hb
   obtain ⟨e, he, rfl⟩ := List.mem_map.1 ha
   have := g.old e he; omega
 old := by
  intro e he
  unfold clk
  rcases mem_pt he with h | ⟨h1, h2, h3⟩
  ·have := g.old e h; split <;> omega
  ·rcases h3 with h3 | ⟨y, hy, h3⟩
   ·split
    ·rename_i q
     have : e.2.2 ∈ (Gk.pt n d cl es).map (·.2.2) := List.mem_map.2 ⟨e, he, rfl⟩
     rw [births_pt, if_pos q] at this
     obtain ⟨y, hy, e1⟩ := List.mem_map.1 this
     have := g.old y hy; omega
    ·omega
   ·have := g.old y hy; split <;> omega
 small := by
  intro e he
  rcases mem_pt he with h | ⟨h1, h2, _⟩
  ·exact g.small e h
  ·rw [h1, h2]; exact ⟨hn, hd⟩
theorem Good.rm {es : List En} {cl : Nat} (g : Good es cl) (n : ByteArray) : Good (rm n es) cl :=
 ⟨g.keys.sublist ((rm_sub n es).map _), g.births.sublist ((rm_sub n es).map _), fun e he => g.old e ((rm_sub n es).subset he), fun e he => g.small e ((rm_sub n es).subset he)⟩
theorem len_pt {n d : ByteArray} {cl : Nat} : ∀ es : List En, (pt n d cl es).length ≤ es.length + 1
 | [] => Nat.le_refl _
 | e :: es => by
  have := len_pt (n := n) (d := d) (cl := cl) es
  simp only [pt]; split <;> simp <;> omega
structure SR (h : AHeap) (sb rb : Nat) (p : PS) : Prop where
 blk : ∃ e, h.get sb = some (.cells [.int .i64 p.quota, .int .i64 (tot p.es), .int .i64 p.fails, .bool p.down, .map (some rb), .int .i64 p.calls] e true 0)
 mp : h.get rb = some (.map (p.es.map encE) p.cl)
 lt : sb < h.next ∧ rb < h.next
def SB (sb rb : Nat) (y : Nat) : Prop := y = sb ∨ y = rb
theorem SR.ne {h : AHeap} {sb rb : Nat} {p : PS} (s : SR h sb rb p) : sb ≠ rb := by
 rintro rfl
 obtain ⟨e, hb⟩ := s.blk
 rw [s.mp] at hb; cases hb
theorem SR.keeps {h h' : AHeap} {sb rb : Nat} {p : PS} (s : SR h sb rb p) (k : Keeps h h') : SR h' sb rb p := by
 obtain ⟨e, hb⟩ := s.blk
 exact ⟨⟨e, (k.oth _ s.lt.1 fun f => f).trans hb⟩, (k.oth _ s.lt.2 fun f => f).trans s.mp, Nat.lt_of_lt_of_le s.lt.1 k.nx, Nat.lt_of_lt_of_le s.lt.2 k.nx⟩
theorem SR.chg {S : Nat → Prop} {h h' : AHeap} {sb rb : Nat} {p : PS} (s : SR h sb rb p) (k : Chg S h h') (h1 : ¬ S sb) (h2 : ¬ S rb) : SR h' sb rb p := by
 obtain ⟨e, hb⟩ := s.blk
 exact ⟨⟨e, (k.oth _ s.lt.1 h1).trans hb⟩, (k.oth _ s.lt.2 h2).trans s.mp, Nat.lt_of_lt_of_le s.lt.1 k.nx, Nat.lt_of_lt_of_le s.lt.2 k.nx⟩
theorem st1_sb {h : AHeap} {b o : Nat} {c : List Value} {e : TypeId} {v : Value} (hb : h.get b = some (.cells c e true 0)) (ho : o < c.length) (hv : one v = true) : Gx.st1 ⟨b, o, none⟩ v h = some (h.set b (.cells (c.set o v) e true 0)) := by
 simp only [Gx.st1, AHeap.wr1, hb]
 rw [if_pos ⟨ho, Nat.zero_le _, hv⟩]
theorem ldM_at {h : AHeap} {b o : Nat} {sp : Option Nat} {c : List Value} {e : TypeId} {r : Bool} {fz : Nat} {m : Option Nat} (hb : h.get b = some (.cells c e r fz)) (hc : c[o]? = some (.map m)) : ldM ⟨b, o, sp⟩ h = some m := by
 simp only [ldM, AHeap.rd1, hb, hc]; rfl
theorem ldB_at {h : AHeap} {b o : Nat} {sp : Option Nat} {c : List Value} {e : TypeId} {r : Bool} {fz : Nat} {m : Bool} (hb : h.get b = some (.cells c e r fz)) (hc : c[o]? = some (.bool m)) : ldB ⟨b, o, sp⟩ h = some m := by
 simp only [ldB, AHeap.rd1, hb, hc]; rfl
theorem look_some {h : AHeap} {rb cl : Nat} {es : List En} (hm : h.get rb = some (.map (es.map encE) cl)) {n d : ByteArray} (hl : lk n es = some d) : lookE decS (.string ⟨#[]⟩) h (some rb) (.string n) = some (d, true) := by
 obtain ⟨j, hj⟩ := fd_some (i := 0) hl
 simp only [lookE, hm, findE_fd, hj]; rfl
theorem look_none {h : AHeap} {rb cl : Nat} {es : List En} (hm : h.get rb = some (.map (es.map encE) cl)) {n : ByteArray} (hl : lk n es = none) : lookE decS (.string ⟨#[]⟩) h (some rb) (.string n) = some (⟨#[]⟩, false) := by
 simp only [lookE, hm, findE_fd, fd_no hl]; rfl
theorem upd_at {h : AHeap} {rb cl : Nat} {es : List En} (hm : h.get rb = some (.map (es.map encE) cl)) (n d : ByteArray) : updE h rb (.string n) (.string d) = some (h.set rb (.map ((pt n d cl es).map encE) (clk n es cl))) := by
 unfold clk
 cases hl : lk n es with
 | none =>
  simp only [updE, hm, findE_fd, fd_no hl, Option.map_none, Option.isSome_none]
  rw [fd_none (i := 0) (fd_no hl)]; rfl
 | some d' =>
  obtain ⟨j, hj⟩ := fd_some (i := 0) hl
  have := fd_mod (d := d) (cl := cl) hj
  simp only [Nat.sub_zero] at this
  simp only [updE, hm, findE_fd, hj, Option.map_some, Option.isSome_some]
  rw [this]; rfl
theorem del_at {h : AHeap} {rb cl : Nat} {es : List En} (hm : h.get rb = some (.map (es.map encE) cl)) (n : ByteArray) : delM h (some rb) (.string n) = some (h.set rb (.map ((rm n es).map encE) cl)) := by
 cases hl : lk n es with
 | none =>
  simp only [delM, delE, hm, findE_fd, fd_no hl, Option.map_none]
  rw [rm_none hl]
 | some d' =>
  obtain ⟨j, hj⟩ := fd_some (i := 0) hl
  have := fd_del hj
  simp only [Nat.sub_zero] at this
  simp only [delM, delE, hm, findE_fd, hj, Option.map_some]
  rw [this]
def okB (c : UInt8) : Bool := decide (32 < c.toNat) && decide (c.toNat < 127)
def mayB (n : ByteArray) : Bool := (bl n).all okB && decide (n ≠ ⟨#[]⟩) && decide (n.size ≤ 96)
def fitsC (n d : ByteArray) : Nat := if mayB n = false then 3 else if 131072 < d.size then 2 else 0
end Gk
namespace Gk
open Go Gx
theorem okB_bad {c : UInt8} (h : ((c.toNat : Int) ≤ 32)) : okB c = false := by
 unfold okB; rw [decide_eq_false (show ¬ 32 < c.toNat by omega)]; rfl
theorem okB_eq {c : UInt8} (h : ¬ ((c.toNat : Int) ≤ 32)) : decide ((c.toNat : Int) ≥ 127) = !okB c := by
 unfold okB
 rw [decide_eq_true (show 32 < c.toNat by omega), Bool.true_and]
 by_cases q : c.toNat < 127
 ·rw [decide_eq_true q, decide_eq_false (by omega)]; rfl
 ·rw [decide_eq_false q, decide_eq_true (by omega)]; rfl
theorem may_l0 (K : Nat) (D : CallF) (j3) (bot) {n : ByteArray} {b : Nat} {h0 : AHeap} (hb : h0.get b = some (.cells (bytesL n) 5 true 18446744073709551616)) (hs : n.size ≤ 9223372036854775807) {Q : Bool × AHeap → Prop}
  (hj : (bl n).all okB = true → Gx.Wp (j3 n h0) Q) (hf : (bl n).all okB = false → Q (false, h0)) :
  ∀ (d i : Nat), i + d = n.size → ((bl n).take i).all okB = true → Gx.Wp (iterK bot (d + 1) (store_may_l0b K D j3) n (⟨(some ⟨b, 0, some 2⟩), n.size, n.size⟩ : Slc) (n.size : Int) (i : Int) h0) Q := fun d => by
 have hl : (bl n).length = n.size := rfl
 induction d with
 | zero =>
  intro i hi ha
  rw [iterK_s]; simp only [store_may_l0b]
  obtain rfl : i = n.size := by omega
  refine Gx.Wp.ifn (by simp) (hj ?_)
  rw [← hl, List.take_length] at ha; exact ha
 | succ d ih =>
  intro i hi ha
  rw [iterK_s]; simp only [store_may_l0b]
  obtain ⟨c, hc⟩ := isome (l := bl n) (i := i) (by omega)
  refine Gx.Wp.ifp (by simp; omega) ?_
  refine Gx.Wp.bnd (idxL_out (by omega)) (Gx.Wp.bnd (sldI_at hb (x := (c.toNat : Int)) ?_) ?_)
  ·show (List.map _ n.data.toList)[i]? = _
   rw [List.getElem?_map]
   have : n.data.toList[i]? = some c := hc
   rw [this]; rfl
  have hall : ((bl n).take (i + 1)).all okB = okB c := by
   rw [List.take_add_one, hc, List.all_append, ha]; simp
  have fin : okB c = false → (bl n).all okB = false := by
   intro q
   rw [← Bool.not_eq_true]
   intro q2
   rw [List.all_eq_true] at q2
   rw [q2 c (mem_of hc)] at q; cases q
  refine Gx.Wp.jn fun j hj' => ?_
  by_cases h1 : (c.toNat : Int) ≤ 32
  ·refine Gx.Wp.ifp (by simpa using h1) ?_
   subst hj'
   exact Gx.Wp.ifp rfl (Gx.Wp.of (hf (fin (okB_bad h1))))
  ·refine Gx.Wp.ifn (by simpa using h1) ?_
   subst hj'
   rw [okB_eq h1]
   cases hk : okB c with
   | false => exact Gx.Wp.ifp rfl (Gx.Wp.of (hf (fin hk)))
   | true =>
    refine Gx.Wp.ifn (by decide) ?_
    rw [Gx.w1 (by omega)]
    exact ih (i + 1) (by omega) (by rw [hall]; exact hk)
theorem may_spec {k : Nat} (D : CallF) {h : AHeap} (n : ByteArray) (hk : n.size < k) (hs : n.size ≤ 9223372036854775807) :
  Gx.Wp (store_may k D n h) fun q => q.1 = mayB n ∧ Keeps h q.2 := by
 simp only [store_may]
 refine Gx.Wp.jn fun j hj => ?_
 have k1 : Keeps h (h.new (.cells (bytesL n) 5 true 18446744073709551616)) := Keeps.new h _
 unfold store_may_l0
 obtain ⟨bot, eb⟩ := iterK_of (fun _ _ _ _ _ => none) (store_may_l0b k D j) (show n.size + 1 ≤ k by omega)
 rw [eb]
 refine may_l0 k D j bot (h0 := h.new (.cells (bytesL n) 5 true 18446744073709551616)) (b := h.next) (by simp) hs (fun ha => ?_) (fun ha => ⟨by simp only [mayB, ha]; rfl, k1⟩) n.size 0 (by omega) rfl
 subst hj
 by_cases he : n = ⟨#[]⟩
 ·have : (!(n == (⟨#[]⟩ : ByteArray))) = false := by rw [ba_beq, decide_eq_true he]; rfl
  exact Gx.Wp.ifn (by rw [this]; decide) (Gx.Wp.of ⟨by simp [mayB, he], k1⟩)
 ·have : (!(n == (⟨#[]⟩ : ByteArray))) = true := by rw [ba_beq, decide_eq_false he]; rfl
  refine Gx.Wp.ifp this (Gx.Wp.of ⟨?_, k1⟩)
  simp only [mayB, ha, Bool.true_and, decide_eq_true (show n ≠ ⟨#[]⟩ from he)]
  by_cases q : n.size ≤ 96
  ·rw [decide_eq_true q, decide_eq_true (by omega)]
  ·rw [decide_eq_false q, decide_eq_false (by omega)]
theorem fits_spec {k : Nat} (D : CallF) {h : AHeap} (n d : ByteArray) (hk : n.size < k) (hs : n.size ≤ 9223372036854775807) :
  Gx.Wp (store_fits k D n d h) fun q => q.1 = (fitsC n d : Int) ∧ Keeps h q.2 := by
 simp only [store_fits]
 refine Gx.Wp.call (may_spec D n hk hs) fun r hr => ?_
 rw [hr.1]
 unfold fitsC
 cases hm : mayB n with
 | false => exact Gx.Wp.ifp rfl (Gx.Wp.of ⟨rfl, hr.2⟩)
 | true =>
  refine Gx.Wp.ifn (by decide) ?_
  by_cases q : 131072 < d.size
  ·exact Gx.Wp.ifp (by simp; omega) (Gx.Wp.of ⟨by simp [q], hr.2⟩)
  ·exact Gx.Wp.ifn (by simp; omega) (Gx.Wp.of ⟨by simp [q], hr.2⟩)
theorem fits0 {n d : ByteArray} (h : fitsC n d = 0) : n.size ≤ 96 ∧ d.size ≤ 131072 ∧ mayB n = true := by
 unfold fitsC at h
 split at h
 ·cases h
 ·rename_i hm
  split at h
  ·cases h
  ·rename_i hd
   have : mayB n = true := by simpa using hm
   simp only [mayB, Bool.and_eq_true, decide_eq_true_eq] at this
   exact ⟨this.2, by omega, by simpa using hm⟩
theorem room_spec {k : Nat} (D : CallF) {h : AHeap} {sb rb : Nat} {p : PS} (s : SR h sb rb p) (g : Good p.es p.cl) (n : ByteArray) :
  store_Store_room k D (some ⟨sb, 0, none⟩) n h = some ((room n p.es : Int), h) := by
 obtain ⟨e, hb⟩ := s.blk
 simp only [store_Store_room]
 refine bnd rfl (bnd (ldM_at (m := some rb) hb rfl) ?_)
 unfold room
 cases hl : lk n p.es with
 | none => rw [look_none s.mp hl]; rfl
 | some d =>
  rw [look_some s.mp hl]
  obtain ⟨q, hq, he, hd⟩ : ∃ q ∈ p.es, q.1 = n ∧ q.2.1 = d := by
   have : ∀ es : List En, lk n es = some d → ∃ q ∈ es, q.1 = n ∧ q.2.1 = d := by
    intro es
    induction es with
    | nil => intro h; cases h
    | cons x es ih =>
     intro h
     simp only [lk] at h
     split at h
     ·rename_i q; cases h; exact ⟨x, by simp, q, rfl⟩
     ·obtain ⟨y, hy, e⟩ := ih h; exact ⟨y, by simp [hy], e⟩
   exact this _ hl
  have sm := g.small q hq
  rw [he, hd] at sm
  simp only [Option.bind_some, if_true]
  rw [w64 _ (by omega)]; simp
def PS.lay (p : PS) (n d : ByteArray) : PS := { p with es := pt n d p.cl p.es, cl := clk n p.es p.cl }
theorem lay_spec {k : Nat} (D : CallF) {h : AHeap} {sb rb : Nat} {p : PS} (s : SR h sb rb p) (g : Good p.es p.cl) {n d : ByteArray} (hn : n.size ≤ 96) (hd : d.size ≤ 131072) (hl : p.es.length ≤ 1048576) :
  Gx.Wp (store_Store_lay k D (some ⟨sb, 0, none⟩) n d h) fun q => Chg (SB sb rb) h q.2 ∧ SR q.2 sb rb (p.lay n d) ∧ Good (p.lay n d).es (p.lay n d).cl := by
 simp only [store_Store_lay]
 refine Gx.Wp.bnd (room_spec D s g n) ?_
 obtain ⟨e, hb⟩ := s.blk
 have t1 := tot_le g
 have t2 := room_le (n := n) p.es
 have t3 := tot_pt (n := n) (d := d) (cl := p.cl) p.es
 refine Gx.Wp.bnd rfl (Gx.Wp.bnd (sldI_at hb rfl) (Gx.Wp.gp (ssw1 ?_) ?_))
 ·exact bnd (sldI_at hb rfl) rfl
 refine Gx.Wp.bnd rfl ?_
 dsimp only
 rw [w64 ((n.size : Int) + d.size) (by omega), w64 ((n.size : Int) + d.size - _) (by omega), w64 _ (by omega)]
 refine Gx.Wp.bnd (st1_sb hb (by show 0 + 1 < 6; omega) rfl) ?_
 have hne := s.ne
 have hm1 : (h.set sb (.cells ([Value.int .i64 p.quota, .int .i64 (tot p.es), .int .i64 p.fails, .bool p.down, .map (some rb), .int .i64 p.calls].set 1 (.int .i64 ((tot p.es : Int) + ((n.size : Int) + (d.size : Int) - (room n p.es : Int))))) e true 0)).get rb = some (.map (p.es.map encE) p.cl) := by
  simp only [AHeap.get_set]; rw [if_neg (fun q => hne q.symm)]; exact s.mp
 refine Gx.Wp.bnd rfl (Gx.Wp.bnd (ldM_at (m := some rb) (sset_get h sb _) rfl) (Gx.Wp.bnd rfl (Gx.Wp.bnd (upd_at hm1 n d) (Gx.Wp.of ⟨?_, ?_, g.pt hn hd⟩))))
 ·exact (Chg.set (.inr (.inl rfl))).trans (Chg.set (.inr (.inr rfl)))
 ·refine ⟨⟨e, ?_⟩, by simp only [AHeap.get_set, if_true]; rfl, by simpa using s.lt⟩
  simp only [AHeap.get_set]
  rw [if_neg hne, if_true]
  have : (tot p.es : Int) + ((n.size : Int) + (d.size : Int) - (room n p.es : Int)) = (tot (pt n d p.cl p.es) : Int) := by omega
  rw [this]; rfl
end Gk
namespace Gk
open Go Gx
def ba (l : List UInt8) : ByteArray := ⟨⟨l⟩⟩
theorem ba_bl (s : ByteArray) : ba (bl s) = s := rfl
def nm (es : List En) : List ByteArray := (((es.map (·.1)).map bl).mergeSort leB).map ba
theorem srt_nm (es : List En) : srt (es.map (·.1)) = (nm es).map encS := by
 simp only [srt, nm, List.map_map]; rfl
theorem nm_len (es : List En) : (nm es).length = es.length := by simp [nm]
theorem unstrs_enc (es : List En) : keysL (es.map encE) = some (es.map (·.1)) := by
 have : (es.map encE).map (·.1) = (es.map (·.1)).map Value.string := by simp [encE]
 simp only [keysL, this, unstrs_map]
theorem sizes_of : ∀ {l : List ByteArray}, (∀ s ∈ l, s.size ≤ 9223372036854775807) → sizesOk l = true
 | [], _ => rfl
 | s :: l, h => by
  have h2 : sizesOk l = true := sizes_of fun x hx => h x (List.mem_cons_of_mem _ hx)
  simp only [sizesOk, decide_eq_true (h s (by simp)), h2]; rfl
theorem mapGood_of {es : List En} {cl : Nat} (g : Good es cl) (hl : es.length ≤ 8796093022208) : mapGood (es.map encE) cl (es.map (·.1)) = true := by
 have e1 : (es.map encE).map (·.2.2) = es.map (·.2.2) := by simp [encE]
 simp only [mapGood, e1, Bool.and_eq_true, decide_eq_true_eq, List.all_eq_true]
 refine ⟨⟨⟨⟨sizes_of fun s hs => ?_, g.keys⟩, g.births⟩, fun x hx => ?_⟩, by simp; omega⟩
 ·obtain ⟨e, he, rfl⟩ := List.mem_map.1 hs
  have := (g.small e he).1; omega
 ·obtain ⟨e, he, rfl⟩ := List.mem_map.1 hx
  exact g.old e he
theorem sorted_at {h : AHeap} {bx rb cl : Nat} {es : List En} {t : TypeId} (hb : h.get bx = some (.cells [.map (some rb)] t true 0)) (hm : h.get rb = some (.map (es.map encE) cl)) (g : Good es cl) (hl : es.length ≤ 8796093022208) :
  ∃ s h', sortedA 38 9 [.func (.func 38) ⟨[]⟩ ⟨[.pointer (some ⟨bx, 0, none⟩)]⟩] h = some (s, h') ∧ Keeps h h' ∧ Row encS h' s (nm es) := by
 have hbm : boxMap h bx = some (some rb) := by simp only [boxMap, hb]
 cases es with
 | nil =>
  have hn0 : nm [] = [] := List.eq_nil_of_length_eq_zero (nm_len [])
  refine ⟨⟨none, 0, 0⟩, h, ?_, Chg.refl _ _, by rw [hn0]; exact Row.nil _ _ _ _⟩
  have hg := mapGood_of g hl
  simp only [sortedA, hbm, hm, unstrs_enc, hg]; rfl
 | cons e es =>
  have hg := mapGood_of g hl
  refine ⟨⟨some ⟨h.next, 0, some 2⟩, (nm (e :: es)).length, (nm (e :: es)).length⟩, h.new (.cells ((nm (e :: es)).map encS) 9 true 18446744073709551616), ?_, Keeps.new h _, ?_⟩
  ·have hs := srt_nm (e :: es)
   simp only [sortedA, hbm, hm, unstrs_enc, hg]
   simp only [List.map_cons] at hs ⊢
   simp only [cond_true, decide_true, Bool.and_self, hs, nm_len, List.length_cons, List.length_map]
  ·exact Row.of_block (c := (nm (e :: es)).map encS) (e := 9) (r := true) (fz := 18446744073709551616) (by simp) (by simp) fun i x hx => by rw [Nat.zero_add, List.getElem?_map, hx]; rfl
theorem Names_spec {k : Nat} (D : CallF) {h : AHeap} {sb rb : Nat} {p : PS} (s : SR h sb rb p) (g : Good p.es p.cl) (hl : p.es.length ≤ 8796093022208) :
  Gx.Wp (store_Store_Names k D (some ⟨sb, 0, none⟩) h) fun q => Keeps h q.2 ∧ Row encS q.2 q.1 (nm p.es) := by
 obtain ⟨e, hb⟩ := s.blk
 simp only [store_Store_Names, maps_Keys_map_string_string_string_string]
 have k1 : Keeps h (h.new (.cells [.map (some rb)] 29 true 0)) := Keeps.new h _
 obtain ⟨sl, h', e1, k2, A⟩ := sorted_at (bx := h.next) (t := 29) (h := h.new (.cells [.map (some rb)] 29 true 0)) (by simp) (s.keeps k1).mp g hl
 exact Gx.Wp.bnd rfl (Gx.Wp.bnd (ldM_at (m := some rb) hb rfl) (Gx.Wp.bnd rfl (Gx.Wp.bnd e1 (Gx.Wp.of ⟨k1.trans k2, A⟩))))
def starts (b n : ByteArray) : Bool := decide ((bl n).take b.size = bl b)
theorem starts_short {b n : ByteArray} (h : n.size < b.size) : starts b n = false := by
 apply decide_eq_false
 intro q
 have := congrArg List.length q
 have h1 : (bl n).length = n.size := rfl
 have h2 : (bl b).length = b.size := rfl
 simp at this; omega
theorem starts_sub {b n : ByteArray} (h : b.size ≤ n.size) : ∃ s, Gx.subS n none (some (b.size : Int)) = some s ∧ (s == b) = starts b n := by
 refine ⟨_, subS_of (i := 0) (j := b.size) rfl rfl (Nat.zero_le _) h, ?_⟩
 rw [ba_beq]
 unfold starts
 have : ((⟨⟨((bl n).take b.size).drop 0⟩⟩ : ByteArray) = b) ↔ (bl n).take b.size = bl b := by
  rw [List.drop_zero]
  exact ⟨fun q => congrArg bl q, fun q => by rw [q]; rfl⟩
 by_cases q : (bl n).take b.size = bl b
 ·rw [decide_eq_true q, decide_eq_true (this.2 q)]
 ·rw [decide_eq_false q, decide_eq_false fun e => q (this.1 e)]
theorem hasPrefix_spec {k : Nat} (D : CallF) (n b : ByteArray) (h : AHeap) : strings_HasPrefix k D n b h = some (starts b n, h) := by
 simp only [strings_HasPrefix, internal_stringslite_HasPrefix]
 by_cases q : b.size ≤ n.size
 ·obtain ⟨s, e1, e2⟩ := starts_sub q
  rw [if_pos (by simp; omega), e1]
  simp [e2]
 ·rw [if_neg (by simp; omega), starts_short (by omega)]; rfl
theorem encS_one (x : ByteArray) : one (encS x) = true := rfl
theorem list_l0 (K : Nat) (D : CallF) (bot) {b : ByteArray} {h0 h1 : AHeap} (_k0 : Keeps h0 h1) {sl : Slc} {ns : List ByteArray} (A0 : Row encS h1 sl ns) (hn : ns.length ≤ 1048576) :
  ∀ (d i : Nat) (o : Slc) (out : List ByteArray) (h : AHeap), i + d = ns.length → out.length ≤ i → Keeps h1 h → Acc encS 9 h1.next h o out →
   Gx.Wp (iterK bot (d + 1) (store_Store_list_l0b K D fun (out1 : Slc) (h2 : AHeap) => some (out1, h2)) b o sl (sl.len : Int) (i : Int) h) fun q => Keeps h1 q.2 ∧ Acc encS 9 h1.next q.2 q.1 (out ++ (ns.drop i).filter (starts b)) := fun d => by
 have len : sl.len = ns.length := A0.1
 induction d with
 | zero =>
  intro i o out h hi ho kp A
  rw [iterK_s]; simp only [store_Store_list_l0b]
  obtain rfl : i = ns.length := by omega
  refine Gx.Wp.ifn (by rw [len]; simp) (Gx.Wp.of ⟨kp, ?_⟩)
  simpa using A
 | succ d ih =>
  intro i o out h hi ho kp A
  rw [iterK_s]; simp only [store_Store_list_l0b]
  refine Gx.Wp.ifp (by rw [len]; simp; omega) ?_
  refine Gx.Wp.jn fun j hj => ?_
  obtain ⟨x, hx⟩ := isome (l := ns) (i := i) (by omega)
  obtain ⟨q, q1, q2⟩ := (A0.keeps kp).ldS hx
  refine Gx.Wp.bnd q1 (Gx.Wp.bnd q2 (Gx.Wp.bnd (hasPrefix_spec D x b h) ?_))
  rw [dropc hx]
  cases hst : starts b x with
  | true =>
   refine Gx.Wp.ifp rfl ?_
   refine Gx.Wp.bnd rdS_one ?_
   obtain ⟨s', h', a1, A2, c2, _⟩ := A.push encS_one x (bytes := 16) (by omega) (by decide) kp.nx
   refine Gx.Wp.bnd a1 ?_
   subst hj
   simp only
   rw [Gx.w1 (by omega), List.filter_cons_of_pos hst, show out ++ x :: (ns.drop (i + 1)).filter (starts b) = (out ++ [x]) ++ (ns.drop (i + 1)).filter (starts b) by simp]
   exact ih (i + 1) s' (out ++ [x]) h' (by omega) (by simp; omega) (Chg.beh kp c2 fun y hy ⟨a, ha, e⟩ => by have := (A.lt a ha).2; omega) A2
  | false =>
   refine Gx.Wp.ifn (fun q => by cases q) ?_
   subst hj
   simp only
   rw [Gx.w1 (by omega), List.filter_cons_of_neg (by rw [hst]; decide)]
   exact ih (i + 1) o out h (by omega) (by omega) kp A
theorem list_spec {k : Nat} (D : CallF) {h : AHeap} {sb rb : Nat} {p : PS} (s : SR h sb rb p) (g : Good p.es p.cl) (b : ByteArray) (hl : p.es.length ≤ 1048576) (hk : p.es.length < k) :
  Gx.Wp (store_Store_list k D (some ⟨sb, 0, none⟩) b h) fun q => Keeps h q.2 ∧ Acc encS 9 h.next q.2 q.1 ((nm p.es).filter (starts b)) := by
 simp only [store_Store_list]
 refine Gx.Wp.jn fun j hj => ?_
 refine Gx.Wp.call (Names_spec D s g (by omega)) fun r hr => ?_
 obtain ⟨k1, A⟩ := hr
 unfold store_Store_list_l0
 obtain ⟨bot, eb⟩ := iterK_of (fun _ _ _ _ _ _ => none) (store_Store_list_l0b k D j) (show (nm p.es).length + 1 ≤ k by rw [nm_len]; omega)
 rw [eb]
 subst hj
 refine Gx.Wp.mono (list_l0 k D bot k1 A (by rw [nm_len]; exact hl) _ 0 _ [] r.2 (by omega) (by simp) (Chg.refl _ _) (Acc.nil _ _ _ _)) fun q hq => ?_
 obtain ⟨k2, A2⟩ := hq
 refine ⟨k1.trans k2, by simpa using A2.st, fun a ha => ⟨(A2.lt a ha).1, ?_⟩⟩
 have := (A2.lt a ha).2
 have := k1.nx; omega
end Gk
namespace Gk
open Go Gx
def nob : ByteArray := ⟨#[]⟩
def PS.putS (p : PS) (n d : ByteArray) : PS × Nat :=
 if fitsC n d ≠ 0 then (p, fitsC n d) else if p.quota + room n p.es < tot p.es + (n.size + d.size) then (p, 71) else (p.lay n d, 0)
def PS.delS (p : PS) (n : ByteArray) : PS × Nat := if (lk n p.es).isSome then ({ p with es := rm n p.es }, 0) else (p, 5)
def PS.up (p : PS) : PS := { p with calls := p.calls + 1 }
def PS.doS (p : PS) (kind : Int) (n d : ByteArray) : PS × Nat × ByteArray × List ByteArray :=
 if p.down = true then (p.up, 70, nob, [])
 else if 0 < p.fails then ({ p.up with fails := p.fails - 1 }, 72, nob, [])
 else if kind = 1 then ((p.up.putS n d).1, (p.up.putS n d).2, nob, [])
 else if kind = 2 then (if (lk n p.es).isSome then (p.up, 0, (lk n p.es).getD nob, []) else (p.up, 5, nob, []))
 else if kind = 3 then (p.up, 0, nob, (nm p.es).filter (starts n))
 else if kind = 4 then ((p.up.delS n).1, (p.up.delS n).2, nob, [])
 else (p.up, 3, nob, [])
theorem put_spec {k : Nat} (D : CallF) {h : AHeap} {sb rb : Nat} {p : PS} (s : SR h sb rb p) (g : Good p.es p.cl) (n d : ByteArray) (hl : p.es.length ≤ 1048576) (_hq : p.quota ≤ 1073741824) (hk : n.size < k) (hs : n.size ≤ 9223372036854775807) :
  Gx.Wp (store_Store_put k D (some ⟨sb, 0, none⟩) n d h) fun q => q.1 = ((p.putS n d).2 : Int) ∧ Chg (SB sb rb) h q.2 ∧ SR q.2 sb rb (p.putS n d).1 ∧ Good (p.putS n d).1.es (p.putS n d).1.cl := by
 simp only [store_Store_put]
 refine Gx.Wp.call (fits_spec D n d hk hs) fun r hr => ?_
 obtain ⟨r1, k1⟩ := hr
 rw [r1]
 by_cases q : fitsC n d = 0
 ·have eP : p.putS n d = if p.quota + room n p.es < tot p.es + (n.size + d.size) then (p, 71) else (p.lay n d, 0) := if_neg fun z => z q
  rw [eP, q]
  refine Gx.Wp.ifn (by decide) ?_
  have s1 := s.keeps k1
  obtain ⟨f1, f2, _⟩ := fits0 q
  refine Gx.Wp.bnd (room_spec D s1 g n) ?_
  obtain ⟨e, hb⟩ := s1.blk
  have t1 := tot_le g
  have t2 := room_le (n := n) p.es
  refine Gx.Wp.bnd rfl (Gx.Wp.bnd (sldI_at hb rfl) (Gx.Wp.gp (ssw1 (bnd (sldI_at hb rfl) rfl)) ?_))
  refine Gx.Wp.bnd rfl (Gx.Wp.bnd (sldI_at hb rfl) (Gx.Wp.gp (ssw1 (bnd (sldI_at hb rfl) rfl)) ?_))
  dsimp only
  rw [w64 ((tot p.es : Int) - room n p.es) (by omega), w64 ((tot p.es : Int) - room n p.es + n.size) (by omega), w64 _ (by omega)]
  by_cases c : p.quota + room n p.es < tot p.es + (n.size + d.size)
  ·refine Gx.Wp.ifp (by simp; omega) ?_
   rw [if_pos c]
   exact Gx.Wp.of ⟨rfl, Chg.keeps k1, s1, g⟩
  ·refine Gx.Wp.ifn (by simp; omega) ?_
   rw [if_neg c]
   refine Gx.Wp.call (lay_spec D s1 g f1 f2 hl) fun r2 h2 => Gx.Wp.of ⟨rfl, (Chg.keeps k1).trans h2.1, h2.2.1, h2.2.2⟩
 ·have eP : p.putS n d = (p, fitsC n d) := if_pos q
  rw [eP]
  exact Gx.Wp.ifp (by simp; omega) (Gx.Wp.of ⟨rfl, Chg.keeps k1, s.keeps k1, g⟩)
theorem del_spec {k : Nat} (D : CallF) {h : AHeap} {sb rb : Nat} {p : PS} (s : SR h sb rb p) (g : Good p.es p.cl) (n : ByteArray) (hl : p.es.length ≤ 1048576) :
  Gx.Wp (store_Store_del k D (some ⟨sb, 0, none⟩) n h) fun q => q.1 = ((p.delS n).2 : Int) ∧ Chg (SB sb rb) h q.2 ∧ SR q.2 sb rb (p.delS n).1 ∧ Good (p.delS n).1.es (p.delS n).1.cl := by
 obtain ⟨e, hb⟩ := s.blk
 simp only [store_Store_del]
 refine Gx.Wp.bnd rfl (Gx.Wp.bnd (ldM_at (m := some rb) hb rfl) ?_)
 unfold PS.delS
 have t1 := tot_le g
 have t2 := tot_rm (n := n) p.es
 cases hl2 : lk n p.es with
 | none =>
  refine Gx.Wp.bnd (look_none s.mp hl2) (Gx.Wp.ifp rfl (Gx.Wp.of ⟨rfl, Chg.refl _ _, s, g⟩))
 | some x =>
  refine Gx.Wp.bnd (look_some s.mp hl2) (Gx.Wp.ifn (fun q => by cases q) ?_)
  refine Gx.Wp.bnd (room_spec D s g n) (Gx.Wp.bnd rfl (Gx.Wp.bnd (sldI_at hb rfl) (Gx.Wp.gp (ssw1 (bnd (sldI_at hb rfl) rfl)) ?_)))
  dsimp only
  rw [w64 _ (by omega)]
  have hne := s.ne
  refine Gx.Wp.bnd rfl (Gx.Wp.bnd (st1_sb hb (by show 0 + 1 < 6; omega) rfl) (Gx.Wp.bnd rfl (Gx.Wp.bnd (ldM_at (m := some rb) (sset_get h sb _) rfl) ?_)))
  refine Gx.Wp.bnd (del_at (es := p.es) (cl := p.cl) (by simp only [AHeap.get_set]; rw [if_neg (fun q => hne q.symm)]; exact s.mp) n) (Gx.Wp.of ⟨rfl, (Chg.set (.inr (.inl rfl))).trans (Chg.set (.inr (.inr rfl))), ⟨⟨e, ?_⟩, by simp only [AHeap.get_set, if_true]; rfl, by simpa using s.lt⟩, g.rm n⟩)
  simp only [AHeap.get_set]
  rw [if_neg hne, if_true]
  have : (tot p.es : Int) - (room n p.es : Int) = (tot (rm n p.es) : Int) := by omega
  rw [this]; rfl
theorem fin3 {H : AHeap} {b : Nat} {c : List Value} {e : TypeId} (hb : H.get b = some (.cells c e true 0)) (hc : c.length = 3) (cd : Int) (dt : ByteArray) (s : Slc) {Q : ((Int × ByteArray × Slc) × AHeap) → Prop}
  (hQ : Q ((cd, dt, s), H.set b (.cells [.int .i64 cd, .string dt, .slice s.a s.len s.cap] e true 0))) :
  Gx.Wp ((Gx.stL 3 (⟨b, 0, none⟩ : Addr) ([.int .i64 cd, .string dt, .slice s.a s.len s.cap]) H).bind fun h7 => (Gx.ldA 3 (⟨b, 0, none⟩ : Addr) h7).bind fun l8 => (decC [.i .i64, .s, .l] l8).bind fun x9 => some ((x9.1, x9.2.1, x9.2.2), h7)) Q := by
 refine Gx.Wp.bnd (sstL_at hb hc rfl rfl (by decide)) ?_
 refine Gx.Wp.bnd (sldA_at (sset_get H b _) rfl) ?_
 exact Gx.Wp.bnd rfl (Gx.Wp.of hQ)
end Gk
namespace Gk
open Go Gx
theorem SR.other {h : AHeap} {sb rb b : Nat} {B : ABlk} {p : PS} (s : SR h sb rb p) (h1 : b ≠ sb) (h2 : b ≠ rb) : SR (h.set b B) sb rb p := by
 obtain ⟨e, hb⟩ := s.blk
 exact ⟨⟨e, by simp only [AHeap.get_set]; rw [if_neg (fun q => h1 q.symm)]; exact hb⟩, by simp only [AHeap.get_set]; rw [if_neg (fun q => h2 q.symm)]; exact s.mp, s.lt⟩
theorem ldS_at {h : AHeap} {b o : Nat} {sp : Option Nat} {c : List Value} {e : TypeId} {r : Bool} {fz : Nat} {m : ByteArray} (hb : h.get b = some (.cells c e r fz)) (hc : c[o]? = some (.string m)) : Gx.ldS ⟨b, o, sp⟩ h = some m := by
 simp only [Gx.ldS, AHeap.rd1, hb, hc]; rfl
def DoQ (h : AHeap) (sb rb : Nat) (p : PS) (kind : Int) (n d : ByteArray) (q : (Int × ByteArray × Slc) × AHeap) : Prop :=
 q.1.1 = ((p.doS kind n d).2.1 : Int) ∧ q.1.2.1 = (p.doS kind n d).2.2.1 ∧ Acc encS 9 h.next q.2 q.1.2.2 (p.doS kind n d).2.2.2 ∧ Chg (SB sb rb) h q.2 ∧ SR q.2 sb rb (p.doS kind n d).1 ∧ Good (p.doS kind n d).1.es (p.doS kind n d).1.cl
theorem acc0 {h h' : AHeap} : Acc encS 9 h.next h' ⟨none, 0, 0⟩ [] := Acc.nil _ _ _ _
theorem Do_spec {k : Nat} (D : CallF) {h : AHeap} {sb rb : Nat} {p : PS} (s : SR h sb rb p) (g : Good p.es p.cl) (st kind : Int) (n d : ByteArray) (hl : p.es.length ≤ 1048576) (hq : p.quota ≤ 1073741824) (hc : p.calls ≤ 1099511627776) (hf : p.fails ≤ 1048576)
  (hk : kind = 1 → n.size < k) (hs : kind = 1 → n.size ≤ 9223372036854775807) (hk2 : p.es.length < k) :
  Gx.Wp (store_Store_Do k D (some ⟨sb, 0, none⟩) (st, kind, n, d) h) (DoQ h sb rb p kind n d) := by
 simp only [store_Store_Do, sync_atomic_Int64_Add]
 obtain ⟨H1, e1⟩ : ∃ H1, H1 = h.new (.cells [.int .i64 st, .int .i64 kind, .string n, .string d] 41 true 0) := ⟨_, rfl⟩
 rw [← e1]
 obtain ⟨H2, e2⟩ : ∃ H2, H2 = H1.new (.cells [.int .i64 0, .string ⟨#[]⟩, .slice none 0 0] 37 true 0) := ⟨_, rfl⟩
 rw [← e2]
 have k1 : Keeps h H1 := e1 ▸ Keeps.new h _
 have k2 : Keeps h H2 := k1.trans (e2 ▸ Keeps.new H1 _)
 have n1 : H1.next = h.next + 1 := by rw [e1]; rfl
 have n2 : H2.next = h.next + 2 := by rw [e2]; simp [n1]
 have rq : H2.get h.next = some (.cells [.int .i64 st, .int .i64 kind, .string n, .string d] 41 true 0) := by
  rw [e2]; simp only [AHeap.get_new]; rw [if_neg (by omega), e1]; simp
 have rs : H2.get H1.next = some (.cells [.int .i64 0, .string ⟨#[]⟩, .slice none 0 0] 37 true 0) := by rw [e2]; simp
 have s2 := s.keeps k2
 obtain ⟨lt1, lt2⟩ := s.lt
 obtain ⟨e, hb⟩ := s2.blk
 refine Gx.Wp.bnd rfl ?_
 have add : ((some (⟨sb, 0 + 5, none⟩ : Addr)).bind fun p1 => (ldI .i64 (⟨p1.block, p1.off + 0, none⟩ : Addr) H2).bind fun x2 => (Gx.st1 (⟨p1.block, p1.off + 0, none⟩ : Addr) (.int .i64 (IntKind.wrap .i64 (x2 + 1))) H2).bind fun h3 => some ((IntKind.wrap .i64 (x2 + 1)), h3)) =
   some (((p.calls + 1 : Nat) : Int), H2.set sb (.cells [.int .i64 p.quota, .int .i64 (tot p.es), .int .i64 p.fails, .bool p.down, .map (some rb), .int .i64 ((p.calls + 1 : Nat) : Int)] e true 0)) := by
  refine bnd rfl (bnd (sldI_at hb rfl) ?_)
  rw [w64 _ (by omega)]
  exact bnd (st1_sb hb (by show 5 < 6; omega) rfl) rfl
 refine Gx.Wp.bnd add ?_
 obtain ⟨H, eH⟩ : ∃ H, H = H2.set sb (.cells [.int .i64 p.quota, .int .i64 (tot p.es), .int .i64 p.fails, .bool p.down, .map (some rb), .int .i64 ((p.calls + 1 : Nat) : Int)] e true 0) := ⟨_, rfl⟩
 dsimp only
 rw [← eH]
 have cH : Chg (SB sb rb) h H := (Chg.keeps k2).trans (eH ▸ Chg.set (.inr (.inl rfl)))
 have nH : H.next = h.next + 2 := by rw [eH]; exact n2
 have hbH : H.get sb = some (.cells [.int .i64 p.quota, .int .i64 (tot p.es), .int .i64 p.fails, .bool p.down, .map (some rb), .int .i64 ((p.calls + 1 : Nat) : Int)] e true 0) := by rw [eH]; simp
 have oth : ∀ y, y ≠ sb → H.get y = H2.get y := fun y hy => by rw [eH]; simp [hy]
 have sH : SR H sb rb p.up := ⟨⟨e, hbH⟩, by rw [oth _ (fun q => s.ne q.symm)]; exact s2.mp, by omega⟩
 have rqH : H.get h.next = some (.cells [.int .i64 st, .int .i64 kind, .string n, .string d] 41 true 0) := by rw [oth _ (by omega)]; exact rq
 have rsH : H.get H1.next = some (.cells [.int .i64 0, .string ⟨#[]⟩, .slice none 0 0] 37 true 0) := by rw [oth _ (by omega)]; exact rs
 have ne1 : H1.next ≠ sb := by omega
 have ne2 : H1.next ≠ rb := by omega
 have fin : ∀ (K : AHeap) (p' : PS) (cd : Nat) (dt : ByteArray) (sl : Slc) (l : List ByteArray), Chg (SB sb rb) H K → SR K sb rb p' → Good p'.es p'.cl → Acc encS 9 H.next K sl l → p.doS kind n d = (p', cd, dt, l) →
   Gx.Wp ((Gx.stL 3 (⟨H1.next, 0, none⟩ : Addr) ([.int .i64 (cd : Int), .string dt, .slice sl.a sl.len sl.cap]) K).bind fun h7 => (Gx.ldA 3 (⟨H1.next, 0, none⟩ : Addr) h7).bind fun l8 => (decC [.i .i64, .s, .l] l8).bind fun x9 => some ((x9.1, x9.2.1, x9.2.2), h7)) (DoQ h sb rb p kind n d) := by
  intro K p' cd dt sl l cK sK gK AK eq
  have rsK : K.get H1.next = some (.cells [.int .i64 0, .string ⟨#[]⟩, .slice none 0 0] 37 true 0) := by
   rw [cK.oth _ (by omega) (by rintro (q | q) <;> omega)]; exact rsH
  refine fin3 rsK rfl _ _ _ ?_
  unfold DoQ
  rw [eq]
  refine ⟨rfl, rfl, ⟨?_, fun a ha => ⟨(AK.lt a ha).1, by have := (AK.lt a ha).2; omega⟩⟩, Chg.beh (T := fun y => y = H1.next) (cH.trans cK) (Chg.set (.inr rfl)) (fun x hx q => by omega), sK.other ne1 ne2, gK⟩
  exact (AK.chg (S := fun y => y = H1.next) (Chg.set (.inr rfl)) fun a ha q => by have := (AK.lt a ha).2; omega).st
 have ans : ∀ (p' : PS) (cd : Nat) (dt : ByteArray), SR H sb rb p' → Good p'.es p'.cl → p.doS kind n d = (p', cd, dt, []) →
   Gx.Wp ((Gx.stL 3 (⟨H1.next, 0, none⟩ : Addr) ([.int .i64 (cd : Int), .string dt, .slice none 0 0]) H).bind fun h7 => (Gx.ldA 3 (⟨H1.next, 0, none⟩ : Addr) h7).bind fun l8 => (decC [.i .i64, .s, .l] l8).bind fun x9 => some ((x9.1, x9.2.1, x9.2.2), h7)) (DoQ h sb rb p kind n d) :=
  fun p' cd dt s' g' eq => fin H p' cd dt ⟨none, 0, 0⟩ [] (Chg.refl _ _) s' g' acc0 eq
 refine Gx.Wp.bnd rfl (Gx.Wp.bnd (ldB_at hbH rfl) ?_)
 by_cases c1 : p.down = true
 ·refine Gx.Wp.ifp c1 (ans p.up 70 nob sH g ?_)
  unfold PS.doS; rw [if_pos c1]
 refine Gx.Wp.ifn c1 (Gx.Wp.bnd rfl (Gx.Wp.bnd (sldI_at hbH rfl) ?_))
 by_cases c2 : 0 < p.fails
 ·refine Gx.Wp.ifp (by simp; omega) ?_
  refine Gx.Wp.bnd rfl (Gx.Wp.bnd (sldI_at hbH rfl) (Gx.Wp.bnd rfl ?_))
  rw [w64 _ (by omega)]
  refine Gx.Wp.bnd (st1_sb hbH (by show 0 + 2 < 6; omega) rfl) ?_
  refine fin _ { p.up with fails := p.fails - 1 } 72 nob ⟨none, 0, 0⟩ [] (Chg.set (.inr (.inl rfl))) ⟨⟨e, ?_⟩, ?_, sH.lt⟩ g acc0 ?_
  ·rw [sset_get]
   have : ((p.fails : Int) - 1) = ((p.fails - 1 : Nat) : Int) := by omega
   rw [this]; rfl
  ·simp only [AHeap.get_set]; rw [if_neg (fun q => s.ne q.symm)]; exact sH.mp
  ·unfold PS.doS; rw [if_neg c1, if_pos c2]
 refine Gx.Wp.ifn (by simp; omega) ?_
 refine Gx.Wp.bnd (sldI_at rqH rfl) ?_
 by_cases c3 : kind = 1
 ·refine Gx.Wp.ifp (by simpa using c3) ?_
  refine Gx.Wp.bnd (ldS_at rqH rfl) (Gx.Wp.bnd (ldS_at rqH rfl) ?_)
  refine Gx.Wp.call (put_spec D sH g n d hl hq (hk c3) (hs c3)) fun r hr => ?_
  obtain ⟨r1, r2, r3, r4⟩ := hr
  rw [r1]
  refine fin r.2 _ _ nob ⟨none, 0, 0⟩ [] r2 r3 r4 acc0 ?_
  unfold PS.doS; rw [if_neg c1, if_neg c2, if_pos c3]
 refine Gx.Wp.ifn (by simpa using c3) ?_
 by_cases c4 : kind = 2
 ·refine Gx.Wp.ifp (by simpa using c4) ?_
  refine Gx.Wp.bnd rfl (Gx.Wp.bnd (ldM_at (m := some rb) hbH rfl) (Gx.Wp.bnd (ldS_at rqH rfl) ?_))
  cases hl2 : lk n p.es with
  | none =>
   refine Gx.Wp.bnd (look_none sH.mp hl2) (Gx.Wp.ifp rfl (ans p.up 5 nob sH g ?_))
   unfold PS.doS; rw [if_neg c1, if_neg c2, if_neg c3, if_pos c4, hl2]; rfl
  | some x =>
   refine Gx.Wp.bnd (look_some sH.mp hl2) (Gx.Wp.ifn (fun q => by cases q) (ans p.up 0 x sH g ?_))
   unfold PS.doS; rw [if_neg c1, if_neg c2, if_neg c3, if_pos c4, hl2]; rfl
 refine Gx.Wp.ifn (by simpa using c4) ?_
 by_cases c5 : kind = 3
 ·refine Gx.Wp.ifp (by simpa using c5) ?_
  refine Gx.Wp.bnd (ldS_at rqH rfl) ?_
  refine Gx.Wp.call (list_spec D sH g n hl hk2) fun r hr => ?_
  obtain ⟨r1, r2⟩ := hr
  refine fin r.2 p.up 0 nob r.1 _ (Chg.keeps r1) (sH.keeps r1) g r2 ?_
  unfold PS.doS; rw [if_neg c1, if_neg c2, if_neg c3, if_neg c4, if_pos c5]; rfl
 refine Gx.Wp.ifn (by simpa using c5) ?_
 by_cases c6 : kind = 4
 ·refine Gx.Wp.ifp (by simpa using c6) ?_
  refine Gx.Wp.bnd (ldS_at rqH rfl) ?_
  refine Gx.Wp.call (del_spec D sH g n hl) fun r hr => ?_
  obtain ⟨r1, r2, r3, r4⟩ := hr
  rw [r1]
  refine fin r.2 _ _ nob ⟨none, 0, 0⟩ [] r2 r3 r4 acc0 ?_
  unfold PS.doS; rw [if_neg c1, if_neg c2, if_neg c3, if_neg c4, if_neg c5, if_pos c6]
 refine Gx.Wp.ifn (by simpa using c6) (ans p.up 3 nob sH g ?_)
 unfold PS.doS; rw [if_neg c1, if_neg c2, if_neg c3, if_neg c4, if_neg c5, if_neg c6]
end Gk
namespace Gk
open Go Gx
def ps0 (q : Nat) : PS := ⟨q, 0, 0, false, [], 0⟩
theorem good0 : Good [] 0 := ⟨by simp, by simp, by simp, by simp⟩
theorem New_spec {k : Nat} (D : CallF) {h : AHeap} {q : Nat} (hq : q ≤ 1073741824) : ∃ h', store_New k D (q : Int) h = some ((some ⟨h.next + 1, 0, none⟩, 0), h') ∧ Keeps h h' ∧ SR h' (h.next + 1) h.next (ps0 q) := by
 refine ⟨(h.new (.map [] 0)).new (.cells [.int .i64 (q : Int), .int .i64 0, .int .i64 0, .bool false, .map (some h.next), .int .i64 0] 59 true 0), ?_, (Keeps.new h _).trans (Keeps.new _ _), ⟨59, ?_⟩, ?_, ?_⟩
 ·simp only [store_New]
  refine jn ?_
  refine ifn (by simp) ?_
  rw [decide_eq_false (by omega)]
  exact ifn (by decide) rfl
 ·rw [AHeap.get_new, AHeap.next_new, if_pos rfl]; rfl
 ·simp only [AHeap.get_new, AHeap.next_new]; rw [if_neg (by omega), if_true]; rfl
 ·simp only [AHeap.next_new]; omega
theorem keep3 {H : AHeap} (cd : Int) (dt : ByteArray) (s : Slc) {R : Type} {Q : R → Prop} {f : AHeap → Option R}
  (hf : Gx.Wp (f ((H.new (.cells [.int .i64 0, .string ⟨#[]⟩, .slice none 0 0] 37 true 0)).set H.next (.cells [.int .i64 cd, .string dt, .slice s.a s.len s.cap] 37 true 0))) Q) :
  Gx.Wp ((Gx.stL 3 (⟨H.next, 0, none⟩ : Addr) ([.int .i64 cd, .string dt, .slice s.a s.len s.cap]) (H.new (.cells [.int .i64 0, .string ⟨#[]⟩, .slice none 0 0] 37 true 0))).bind f) Q :=
 Gx.Wp.bnd (sstL_at (c := [.int .i64 0, .string ⟨#[]⟩, .slice none 0 0]) (by simp) rfl rfl rfl (by decide)) hf
def kept3 (H : AHeap) (cd : Int) (dt : ByteArray) (s : Slc) : AHeap := (H.new (.cells [.int .i64 0, .string ⟨#[]⟩, .slice none 0 0] 37 true 0)).set H.next (.cells [.int .i64 cd, .string dt, .slice s.a s.len s.cap] 37 true 0)
theorem kept3_keeps (H : AHeap) (cd : Int) (dt : ByteArray) (s : Slc) : Keeps H (kept3 H cd dt s) := Chg.beh (T := fun y => y = H.next) (Keeps.new H _) (Chg.set (.inr rfl)) fun x hx q => by omega
theorem kept3_get (H : AHeap) (cd : Int) (dt : ByteArray) (s : Slc) : (kept3 H cd dt s).get H.next = some (.cells [.int .i64 cd, .string dt, .slice s.a s.len s.cap] 37 true 0) := by simp [kept3]
theorem kept3_next (H : AHeap) (cd : Int) (dt : ByteArray) (s : Slc) : (kept3 H cd dt s).next = H.next + 1 := by simp [kept3]
def nA : ByteArray := ⟨#[97]⟩
def dB : ByteArray := ⟨#[98, 99, 100]⟩
def dC : ByteArray := ⟨#[98, 99, 100, 101]⟩
def pw1 : PS := ⟨4, 0, 1, false, [(nA, dB, 0)], 1⟩
def pw2 : PS := ⟨4, 0, 2, false, [(nA, dB, 0)], 1⟩
def pw3 : PS := ⟨4, 0, 3, false, [(nA, dB, 0)], 1⟩
theorem ew1 : (ps0 4).doS 1 nA dB = (pw1, 0, nob, []) := by kernel_rfl
theorem ew2 : pw1.doS 1 nA dC = (pw2, 71, nob, []) := by kernel_rfl
theorem ew3 : pw2.doS 2 nA nob = (pw3, 0, dB, []) := by kernel_rfl
theorem works_spec {k : Nat} (D : CallF) {h : AHeap} (hk : 10 ≤ k) : Gx.Wp (law07_works k D h) fun q => q.1 = true ∧ Keeps h q.2 := by
 simp only [law07_works]
 obtain ⟨h1, e1, k1, s1⟩ := New_spec (k := k) D (h := h) (q := 4) (by decide)
 refine Gx.Wp.bnd e1 ?_
 refine Gx.Wp.jn fun j hj => ?_
 refine Gx.Wp.ifn (fun q => by cases q) ?_
 subst hj
 refine Gx.Wp.ifn (fun q => by cases q) ?_
 have beh : ∀ {H H' : AHeap}, Keeps h H → Chg (SB (h.next + 1) h.next) H H' → Keeps h H' := fun a c => Chg.beh a c fun x hx q => by rcases q with q | q <;> omega
 refine Gx.Wp.call (Do_spec D s1 good0 0 1 nA dB (by decide) (by decide) (by decide) (by decide) (fun _ => by show 1 < k; omega) (fun _ => by decide) (by show 0 < k; omega)) fun r1 q1 => ?_
 unfold DoQ at q1; rw [ew1] at q1
 obtain ⟨a1, a2, _, c1, s2, g2⟩ := q1
 refine keep3 _ _ _ ?_
 have l1 := kept3_keeps r1.2 r1.1.1 r1.1.2.1 r1.1.2.2
 refine Gx.Wp.call (Do_spec D (s2.keeps l1) g2 0 1 nA dC (by decide) (by decide) (by decide) (by decide) (fun _ => by show 1 < k; omega) (fun _ => by decide) (by show 1 < k; omega)) fun r2 q2 => ?_
 unfold DoQ at q2; rw [ew2] at q2
 obtain ⟨b1, b2, _, c2, s3, g3⟩ := q2
 refine keep3 _ _ _ ?_
 have l2 := kept3_keeps r2.2 r2.1.1 r2.1.2.1 r2.1.2.2
 refine Gx.Wp.call (Do_spec D (s3.keeps l2) g3 0 2 nA nob (by decide) (by decide) (by decide) (by decide) (fun _ => by show 1 < k; omega) (fun _ => by decide) (by show 1 < k; omega)) fun r3 q3 => ?_
 unfold DoQ at q3; rw [ew3] at q3
 obtain ⟨d1, d2, _, c3, s4, g4⟩ := q3
 refine keep3 _ _ _ ?_
 have l3 := kept3_keeps r3.2 r3.1.1 r3.1.2.1 r3.1.2.2
 have lt := s1.lt
 have nx2 := c1.nx
 have y1 : ∀ {H : AHeap} {b : Nat}, H.next ≤ b → h1.next ≤ H.next → ¬ SB (h.next + 1) h.next b := fun a c => by rintro (q | q) <;> omega
 have z1 := kept3_next r1.2 r1.1.1 r1.1.2.1 r1.1.2.2
 have z2 := kept3_next r2.2 r2.1.1 r2.1.2.1 r2.1.2.2
 have m2 := c2.nx
 have m3 := c3.nx
 have G3 := kept3_get r3.2 r3.1.1 r3.1.2.1 r3.1.2.2
 have G2 : (kept3 r3.2 r3.1.1 r3.1.2.1 r3.1.2.2).get r2.2.next = _ := (l3.oth _ (by omega) fun f => f).trans ((c3.oth _ (by omega) (by rintro (q | q) <;> omega)).trans (kept3_get r2.2 r2.1.1 r2.1.2.1 r2.1.2.2))
 have G1 : (kept3 r3.2 r3.1.1 r3.1.2.1 r3.1.2.2).get r1.2.next = _ := (l3.oth _ (by omega) fun f => f).trans ((c3.oth _ (by omega) (by rintro (q | q) <;> omega)).trans ((l2.oth _ (by omega) fun f => f).trans ((c2.oth _ (by omega) (by rintro (q | q) <;> omega)).trans (kept3_get r1.2 r1.1.1 r1.1.2.1 r1.1.2.2))))
 refine Gx.Wp.bnd (sldI_at G1 rfl) (Gx.Wp.ifp (by rw [a1]; rfl) (Gx.Wp.bnd (sldI_at G2 rfl) (Gx.Wp.ifp (by rw [b1]; rfl) (Gx.Wp.bnd (sldI_at G3 rfl) (Gx.Wp.ifp (by rw [d1]; rfl) (Gx.Wp.bnd (ldS_at G3 rfl) (Gx.Wp.of ⟨?_, ?_⟩)))))))
 ·rw [d2]; rfl
 ·exact (beh ((beh ((beh k1 c1).trans l1) c2).trans l2) c3).trans l3
end Gk
namespace Gk
open Go Gx
def failC (n : Int) : Nat := if n < 0 ∨ 1048576 < n then 1 else 0
def failV (n : Int) (f : Nat) : Nat := if n < 0 ∨ 1048576 < n then f else n.toNat
theorem Fail_spec {k : Nat} (D : CallF) {h : AHeap} {sb rb : Nat} {p : PS} (s : SR h sb rb p) (n : Int) :
  Gx.Wp (store_Store_Fail k D (some ⟨sb, 0, none⟩) n h) fun q => q.1 = (failC n : Int) ∧ Chg (SB sb rb) h q.2 ∧ SR q.2 sb rb { p with fails := failV n p.fails } := by
 obtain ⟨e, hb⟩ := s.blk
 simp only [store_Store_Fail]
 refine Gx.Wp.jn fun j hj => ?_
 unfold failC failV
 by_cases c : n < 0 ∨ 1048576 < n
 ·rw [if_pos c, if_pos c]
  by_cases c1 : n < 0
  ·refine Gx.Wp.ifp (by simpa using c1) ?_
   subst hj
   exact Gx.Wp.ifp rfl (Gx.Wp.of ⟨rfl, Chg.refl _ _, s⟩)
  ·refine Gx.Wp.ifn (by simpa using c1) ?_
   subst hj
   exact Gx.Wp.ifp (by simp; omega) (Gx.Wp.of ⟨rfl, Chg.refl _ _, s⟩)
 ·rw [if_neg c, if_neg c]
  refine Gx.Wp.ifn (by simp; omega) ?_
  subst hj
  refine Gx.Wp.ifn (by simp; omega) (Gx.Wp.bnd rfl (Gx.Wp.bnd (st1_sb hb (by show 0 + 2 < 6; omega) rfl) (Gx.Wp.of ⟨rfl, Chg.set (.inr (.inl rfl)), ⟨e, ?_⟩, ?_, s.lt⟩)))
  ·rw [sset_get]
   have : n = (n.toNat : Int) := by omega
   rw [this]; rfl
  ·simp only [AHeap.get_set]; rw [if_neg (fun q => s.ne q.symm)]; exact s.mp
theorem Used_spec {k : Nat} (D : CallF) {h : AHeap} {sb rb : Nat} {p : PS} (s : SR h sb rb p) : store_Store_Used k D (some ⟨sb, 0, none⟩) h = some ((tot p.es : Int), h) := by
 obtain ⟨e, hb⟩ := s.blk
 simp only [store_Store_Used]
 exact bnd rfl (bnd (sldI_at hb rfl) rfl)
end Gk
namespace Gk
open Go Gx
def amg (x n : Int) : Int := Int.tmod (Int.tmod x n + n) n
theorem amg_lt (x : Int) {n : Int} (hn : 0 < n) : 0 ≤ amg x n ∧ amg x n < n := by
 unfold amg
 have h1 : Int.tmod x n < n := Int.tmod_lt_of_pos x hn
 have h2 : -n < Int.tmod x n := by
  have := Int.lt_tmod_of_pos x hn
  omega
 exact ⟨Int.tmod_nonneg _ (by omega), Int.tmod_lt_of_pos _ hn⟩
theorem among_spec (k : Nat) (D : CallF) (x : Int) {n : Int} (hn : 0 < n) (hn2 : n < 1000000000) (h : AHeap) : book_Among k D x n h = some (amg x n, h) := by
 simp only [book_Among]
 rw [if_neg (by omega), if_neg (by omega)]
 have h1 : Int.tmod x n < n := Int.tmod_lt_of_pos x hn
 have h2 : -n < Int.tmod x n := by
  have := Int.lt_tmod_of_pos x hn
  omega
 rw [Gx.w64 _ (by omega)]
 rfl
abbrev Dn := Int × Int × ByteArray × Bool
def encD (x : Dn) : List Value := [.int .i64 x.1, .int .i64 x.2.1, .string x.2.2.1, .bool x.2.2.2]
theorem encD_len (x : Dn) : (encD x).length = 4 := rfl
theorem decD (x : Dn) : decC [.i .i64, .i .i64, .s, .b] (encD x) = some x := rfl
def nmD (i : Nat) : ByteArray := (⟨#[110]⟩ : ByteArray) ++ (⟨(Lib.decDigits i).toArray⟩ : ByteArray)
theorem nmD_ok : ∀ i, i < 9 → (nmD i).size = 2 ∧ mayB (nmD i) = true := by
 intro i hi
 have : i = 0 ∨ i = 1 ∨ i = 2 ∨ i = 3 ∨ i = 4 ∨ i = 5 ∨ i = 6 ∨ i = 7 ∨ i = 8 := by omega
 rcases this with rfl | rfl | rfl | rfl | rfl | rfl | rfl | rfl | rfl <;> exact ⟨by kernel_rfl, by kernel_rfl⟩
theorem itoa_nm {i : Nat} (hi : i < 9) : itoaS (i : Int) = some ⟨(Lib.decDigits i).toArray⟩ := by
 unfold itoaS
 rw [if_pos (by omega), Int.toNat_natCast]
def cnt (b : ByteArray) (es : List En) : Nat := (es.map (·.1)).countP (starts b)
theorem cnt_nm (b : ByteArray) (es : List En) : ((nm es).filter (starts b)).length = cnt b es := by
 have hp : (nm es).Perm (es.map (·.1)) := by
  unfold nm
  generalize es.map (·.1) = ks
  have h1 := (List.mergeSort_perm (ks.map bl) leB).map ba
  have e : (ks.map bl).map ba = ks := by rw [List.map_map]; exact List.map_id _
  rw [e] at h1
  exact h1
 rw [← List.countP_eq_length_filter, hp.countP_eq]; rfl
theorem starts_two {b n : ByteArray} (h : n.size = b.size) : starts b n = decide (n = b) := by
 unfold starts
 have hl : (bl n).length = n.size := bl_length n
 rw [List.take_of_length_le (by omega)]
 refine decide_eq_decide.2 ⟨fun e => ?_, fun e => by rw [e]⟩
 have := congrArg ba e
 rwa [ba_bl, ba_bl] at this
theorem count_two {n : ByteArray} (hn : n.size = 2) : ∀ ks : List ByteArray, ks.Nodup → (∀ x ∈ ks, x.size = 2) → (n ∈ ks → ks.countP (starts n) = 1) ∧ (n ∉ ks → ks.countP (starts n) = 0)
 | [], _, _ => ⟨fun h => (List.not_mem_nil h).elim, fun _ => rfl⟩
 | x :: r, hd, ht => by
  obtain ⟨i1, i2⟩ := count_two hn r (List.nodup_cons.1 hd).2 fun y hy => ht y (by simp [hy])
  rw [List.countP_cons, starts_two (by rw [ht x (by simp), hn])]
  by_cases e : x = n
  ·subst e
   rw [i2 (List.nodup_cons.1 hd).1, decide_eq_true rfl]
   exact ⟨fun _ => rfl, fun h => (h (by simp)).elim⟩
  ·rw [decide_eq_false e]
   refine ⟨fun h => ?_, fun h => ?_⟩
   ·rcases List.mem_cons.1 h with h | h
    ·exact (e h.symm).elim
    ·rw [i1 h]; rfl
   ·rw [i2 fun q => h (List.mem_cons_of_mem _ q)]; rfl
theorem one_name {es : List En} {cl : Nat} (g : Good es cl) {n : ByteArray} (ht : ∀ e ∈ es, e.1.size = 2) (hn : n.size = 2) : ((nm es).filter (starts n)).length = if (lk n es).isSome then 1 else 0 := by
 rw [cnt_nm]
 unfold cnt
 obtain ⟨i1, i2⟩ := count_two hn _ g.keys fun x hx => by obtain ⟨y, hy, rfl⟩ := List.mem_map.1 hx; exact ht y hy
 by_cases c : (lk n es).isSome = true
 ·rw [if_pos c, i1 (lk_mem.1 c)]
 ·rw [if_neg c, i2 fun h => c (lk_mem.2 h)]
theorem look_any {h : AHeap} {rb cl : Nat} {es : List En} (hm : h.get rb = some (.map (es.map encE) cl)) (n : ByteArray) : lookE decS (.string ⟨#[]⟩) h (some rb) (.string n) = some ((lk n es).getD nob, (lk n es).isSome) := by
 cases hl : lk n es with
 | none => exact look_none hm hl
 | some d => exact look_some hm hl
def kindN (a : Nat) : Int := if a = 0 then 1 else if a = 1 then 2 else if a = 2 then 4 else 3
structure KI (h H : AHeap) (sb rb mb q i : Nat) (p : PS) : Prop where
 kp : Keeps h H
 s : SR H sb rb p
 m : H.get mb = some (.map (p.es.map encE) p.cl)
 g : Good p.es p.cl
 tw : ∀ e ∈ p.es, e.1.size = 2
 pq : p.quota = q
 dn : p.down = false
 l : p.es.length ≤ i
 c : p.calls ≤ i
 ge : h.next ≤ sb ∧ h.next ≤ rb ∧ h.next ≤ mb ∧ mb ≠ sb ∧ mb ≠ rb ∧ mb < H.next
theorem KI.keeps {h H H' : AHeap} {sb rb mb q i : Nat} {p : PS} (K : KI h H sb rb mb q i p) (k : Keeps H H') : KI h H' sb rb mb q i p :=
 ⟨K.kp.trans k, K.s.keeps k, k.got K.ge.2.2.2.2.2 K.m, K.g, K.tw, K.pq, K.dn, K.l, K.c, K.ge.1, K.ge.2.1, K.ge.2.2.1, K.ge.2.2.2.1, K.ge.2.2.2.2.1, Nat.lt_of_lt_of_le K.ge.2.2.2.2.2 k.nx⟩
theorem KI.up {h H : AHeap} {sb rb mb q i j : Nat} {p : PS} (K : KI h H sb rb mb q i p) (hij : i ≤ j) : KI h H sb rb mb q j p :=
 ⟨K.kp, K.s, K.m, K.g, K.tw, K.pq, K.dn, Nat.le_trans K.l hij, Nat.le_trans K.c hij, K.ge⟩
theorem KI.noSB {h H : AHeap} {sb rb mb q i : Nat} {p : PS} (K : KI h H sb rb mb q i p) : ¬ SB sb rb mb := by
 rintro (e | e)
 ·exact K.ge.2.2.2.1 e
 ·exact K.ge.2.2.2.2.1 e
theorem KI.sb {h H H' : AHeap} {sb rb mb q i : Nat} {p : PS} (K : KI h H sb rb mb q i p) (c : Chg (SB sb rb) H H') : Keeps h H' ∧ H'.get mb = some (.map (p.es.map encE) p.cl) ∧ mb < H'.next :=
 ⟨K.kp.keepsS c fun y hy => by rcases hy with e | e <;> (rw [e]; first | exact K.ge.1 | exact K.ge.2.1), (c.oth mb K.ge.2.2.2.2.2 K.noSB).trans K.m, Nat.lt_of_lt_of_le K.ge.2.2.2.2.2 c.nx⟩
theorem mem_key_pt {n d : ByteArray} {cl : Nat} {es : List En} (ht : ∀ e ∈ es, e.1.size = 2) (hn : n.size = 2) : ∀ e ∈ pt n d cl es, e.1.size = 2 := fun e he => by
 rcases mem_pt he with h | ⟨h, _⟩
 ·exact ht e h
 ·rw [h]; exact hn
theorem mem_key_rm {n : ByteArray} {es : List En} (ht : ∀ e ∈ es, e.1.size = 2) : ∀ e ∈ rm n es, e.1.size = 2 := fun e he => ht e ((rm_sub n es).subset he)
end Gk
namespace Gk
open Go Gx
theorem put_eq {p : PS} {n d : ByteArray} (hf : fitsC n d = 0) : p.putS n d = if p.quota + room n p.es < tot p.es + (n.size + d.size) then (p, 71) else (p.lay n d, 0) := if_neg fun z => z hf
section
variable {k : Nat} {h : AHeap} {sl : Slc} {acts : List Dn}
theorem keeps_l0 (hk : 200 ≤ k) (D : CallF) (R : RowW 4 encD h sl acts) {sb rb mb q : Nat} (hq : q ≤ 1000) {j14 : (Option Addr) → (Option Nat) → Int → AHeap → Option (Bool × AHeap)} {Q : Bool × AHeap → Prop}
  (J : ∀ H p, KI h H sb rb mb q 50 p → Gx.Wp (j14 (some ⟨sb, 0, none⟩) (some mb) (tot p.es : Int) H) Q) (bot) :
  ∀ (d i : Nat) (H : AHeap) (p : PS), i + d = min 50 acts.length → KI h H sb rb mb q i p → p.fails = 0 →
  Gx.Wp (iterK bot (d + 1) (law07_StoreKeeps_l0b k D j14) (q : Int) sl (some ⟨sb, 0, none⟩) (some mb) (tot p.es : Int) (i : Int) H) Q := by
 have sll := R.len
 intro d
 induction d with
 | zero =>
  intro i H p hd K hp0
  rw [iterK_s]; simp only [law07_StoreKeeps_l0b]
  refine Wp.jn fun j34 h34 => ?_
  have fin := J H p (K.up (by omega))
  by_cases c : i < acts.length
  ·refine .ifp (decide_eq_true (by omega)) ?_
   rw [h34, decide_eq_false (by omega)]
   exact .ifn (by decide) fin
  ·refine .ifn (fun w => by have := of_decide_eq_true w; omega) ?_
   rw [h34]
   exact .ifn (by decide) fin
 | succ d ih =>
  intro i H p hd K hp0
  rw [iterK_s]; simp only [law07_StoreKeeps_l0b]
  refine Wp.jn fun j34 h34 => ?_
  obtain ⟨x, hx⟩ := isome (l := acts) (i := i) (by omega)
  refine .ifp (decide_eq_true (by omega)) ?_
  rw [h34, decide_eq_true (show (i : Int) < 50 by omega)]
  refine .ifp rfl (Wp.jn fun j42 h42 => ?_)
  have go : ∀ H' p', KI h H' sb rb mb q (i + 1) p' → p'.fails = 0 → Gx.Wp (j42 (q : Int) sl (some ⟨sb, 0, none⟩) (some mb) (tot p'.es : Int) (i : Int) H') Q := fun H' p' K' f' => by
   rw [h42]
   dsimp only
   rw [Gx.w1 (by omega)]
   exact ih (i + 1) H' p' (by omega) K' f'
  obtain ⟨pa, a1, a2, _⟩ := (RowW.keeps R K.kp).ld encD_len (by decide) hx
  refine .bnd a1 (.bnd a2 (.bnd (decD x) (Wp.newE fun h46 e46 k46 n46 g46 => Wp.stL g46 rfl rfl rfl (by decide) fun h47 c47 n47 g47 => ?_)))
  have k47 : Keeps H h47 := k46.keepsS c47 fun y hy => by have hy : y = H.next := hy; omega
  have g47 : h47.get H.next = some (.cells (encD x) 31 true 0) := g47
  have K47 := K.keeps k47
  obtain ⟨a, ha, ea⟩ : ∃ a : Nat, a < 9 ∧ amg x.2.1 9 = (a : Int) := ⟨(amg x.2.1 9).toNat, by have := amg_lt x.2.1 (n := 9) (by decide); omega, by have := amg_lt x.2.1 (n := 9) (by decide); omega⟩
  obtain ⟨nm2, nmay⟩ := nmD_ok a ha
  refine .bnd (sldI_at g47 rfl) (.bnd (among_spec k D x.2.1 (by decide) (by decide) h47) ?_)
  dsimp only
  rw [ea]
  refine .bnd (itoa_nm ha) (.ifp (by have := ByteArray.size_append (a := (⟨#[110]⟩ : ByteArray)) (b := ⟨(Lib.decDigits a).toArray⟩); have e2 : nmD a = (⟨#[110]⟩ : ByteArray) ++ ⟨(Lib.decDigits a).toArray⟩ := rfl; rw [e2] at nm2; omega) (.bnd (ldS_at g47 rfl) ?_))
  rw [show (⟨#[110]⟩ : ByteArray) ++ (⟨(Lib.decDigits a).toArray⟩ : ByteArray) = nmD a from rfl]
  obtain ⟨n, en⟩ : ∃ n, n = nmD a := ⟨_, rfl⟩
  rw [← en] at nm2 nmay ⊢
  by_cases big : x.2.2.1.size > 100
  ·exact .ifp (decide_eq_true (by omega)) (go h47 p (K47.up (by omega)) hp0)
  refine .ifn (fun w => by have := of_decide_eq_true w; omega) (Wp.jn fun j61 h61 => .bnd (ldB_at g47 rfl) ?_)
  have hfit : fitsC n x.2.2.1 = 0 := by unfold fitsC; rw [nmay]; simp; omega
  have body : ∀ H0 p0, KI h H0 sb rb mb q i p0 → p0.es = p.es → p0.fails = (if x.2.2.2 = true then 1 else 0) → H0.get H.next = some (.cells (encD x) 31 true 0) → H.next < H0.next → Gx.Wp (j61 (q : Int) sl (some ⟨sb, 0, none⟩) (some mb) (tot p.es : Int) (i : Int) (some ⟨H.next, 0, none⟩) n H0) Q := fun H0 p0 K0 es0 fl0 g0 lt0 => by
   rw [h61]
   dsimp only
   rw [← es0]
   obtain ⟨H63, e63⟩ : ∃ H63, H63 = H0.resv 2 := ⟨_, rfl⟩
   rw [← e63]
   have n63 : H63.next = H0.next + 2 := by rw [e63]; rfl
   have k63 : Keeps H0 H63 := ⟨by omega, fun y _ _ => by rw [e63]; rfl⟩
   have g63 : H63.get H.next = some (.cells (encD x) 31 true 0) := k63.got lt0 g0
   obtain ⟨b, hb, eb⟩ : ∃ b : Nat, b < 4 ∧ amg x.1 4 = (b : Int) := ⟨(amg x.1 4).toNat, by have := amg_lt x.1 (n := 4) (by decide); omega, by have := amg_lt x.1 (n := 4) (by decide); omega⟩
   refine .bnd (look_any K0.m n) (.bnd rfl (.bnd (sldI_at g63 rfl) (.bnd (among_spec k D x.1 (by decide) (by decide) H63) ?_)))
   dsimp only
   rw [eb]
   obtain ⟨H67, e67⟩ : ∃ H67, H67 = AHeap.set H63 (H0.next + 0) (.cells [.int .i64 1, .int .i64 2, .int .i64 4, .int .i64 3] 3 true 0) := ⟨_, rfl⟩
   rw [← e67]
   have n67 : H67.next = H0.next + 2 := by rw [e67]; exact n63
   have G67 : H67.get (H0.next + 0) = some (.cells [.int .i64 1, .int .i64 2, .int .i64 4, .int .i64 3] 3 true 0) := by rw [e67]; simp
   have k67 : Keeps H0 H67 := k63.keepsS (S := (· = H0.next)) (by rw [e67]; exact Chg.set (.inr rfl)) fun y hy => by have hy : y = H0.next := hy; omega
   have g67 : H67.get H.next = some (.cells (encD x) 31 true 0) := k67.got lt0 g0
   have kn : ∀ HH : AHeap, HH.get (H0.next + 0) = some (.cells [.int .i64 1, .int .i64 2, .int .i64 4, .int .i64 3] 3 true 0) → ldI .i64 ⟨H0.next + 0, b, none⟩ HH = some (kindN b) := fun HH hH => by
    refine sldI_at hH ?_
    have : b = 0 ∨ b = 1 ∨ b = 2 ∨ b = 3 := by omega
    rcases this with rfl | rfl | rfl | rfl <;> rfl
   refine .bnd (idxL_out (by omega)) (.bnd (kn _ G67) (.gp ⟨_, G67, fun HH hH => bnd (kn HH hH) rfl⟩ (.bnd rfl (.bnd (ldS_at g67 rfl) (.gp (fun HH hH => ?_) ?_)))))
   ·simp only [List.mem_cons, List.not_mem_nil, or_false] at hH
    rcases hH with z | z <;> (rw [z]; exact bnd (ldS_at g63 rfl) rfl)
   have K67 := K0.keeps k67
   have el := K0.l
   have ec := K0.c
   refine .call (Do_spec D K67.s K67.g 0 (kindN b) n x.2.2.1 (by omega) (by rw [K67.pq]; omega) (by omega) (by rw [fl0]; split <;> omega) (fun _ => by omega) (fun _ => by omega) (by omega)) fun r76 q76 => ?_
   obtain ⟨d1, d2, A76, c76, s76, G76⟩ := q76
   obtain ⟨kp76, m76, lm76⟩ := K67.sb c76
   have n76 := c76.nx
   obtain ⟨H77, e77⟩ : ∃ H77, H77 = AHeap.set r76.2 (H0.next + 1) (.cells [.int .i64 0, .string ⟨#[]⟩, .slice none 0 0] 37 true 0) := ⟨_, rfl⟩
   rw [← e77]
   have g77 : H77.get (H0.next + 1) = some (.cells [.int .i64 0, .string ⟨#[]⟩, .slice none 0 0] 37 true 0) := by rw [e77]; simp
   refine Wp.stL g77 rfl rfl rfl (by decide) fun h78 c78 n78 g78 => ?_
   have n77 : H77.next = r76.2.next := by rw [e77]; rfl
   have ge := K0.ge
   have lt0' := K0.s.lt
   have oth78 : ∀ y, y < H0.next → h78.get y = r76.2.get y := fun y hy => by
    have e1 := c78.oth y (by omega) (show ¬ y = H0.next + 1 by omega)
    rw [e1, e77]
    simp only [AHeap.get_set]
    rw [if_neg (by omega)]
   have c78' : Chg (· = H0.next + 1) r76.2 h78 := ⟨by omega, fun y hy hne => by
    have e1 := c78.oth y (by omega) hne
    rw [e1, e77]
    simp only [AHeap.get_set]
    rw [if_neg (fun w => hne (by omega))]⟩
   have s78 : SR h78 sb rb (p0.doS (kindN b) n x.2.2.1).1 := s76.chg c78' (show ¬ sb = H0.next + 1 by omega) (show ¬ rb = H0.next + 1 by omega)
   have m78 : h78.get mb = some (.map (p0.es.map encE) p0.cl) := (oth78 mb ge.2.2.2.2.2).trans m76
   have kp78 : Keeps h h78 := kp76.keepsS c78' fun y hy => by have hy : y = H0.next + 1 := hy; have := K0.kp.nx; omega
   have gB : h78.get H.next = some (.cells (encD x) 31 true 0) := (oth78 H.next lt0).trans ((c76.oth _ (by omega) (fun w => by have := K.ge; have := K.s.lt; rcases w with w | w <;> omega)).trans g67)
   have done : ∀ (h' : AHeap) (p' : PS), Keeps h h' → SR h' sb rb p' → h'.get mb = some (.map (p'.es.map encE) p'.cl) → mb < h'.next → Good p'.es p'.cl → (∀ e ∈ p'.es, e.1.size = 2) → p'.quota = q → p'.down = false → p'.es.length ≤ i + 1 → p'.calls ≤ i + 1 → p'.fails = 0 → Gx.Wp (j42 (q : Int) sl (some ⟨sb, 0, none⟩) (some mb) (tot p'.es : Int) (i : Int) h') Q := fun h' p' z1 z2 z3 z4 z5 z6 z7 z8 z9 z10 z11 =>
    go h' p' ⟨z1, z2, z3, z5, z6, z7, z8, z9, z10, ge.1, ge.2.1, ge.2.2.1, ge.2.2.2.1, ge.2.2.2.2.1, z4⟩ z11
   have lm78 : mb < h78.next := by omega
   refine .bnd rfl (.bnd (ldB_at gB rfl) ?_)
   have dn := K0.dn
   by_cases fx : x.2.2.2 = true
   ·-- a call that fails
    rw [if_pos fx] at fl0
    have eD : p0.doS (kindN b) n x.2.2.1 = ({ p0.up with fails := p0.fails - 1 }, 72, nob, []) := by
     unfold PS.doS
     rw [if_neg (by rw [dn]; decide), if_pos (by omega)]
    rw [eD] at d1 s78 G76
    dsimp only at d1 s78 G76
    refine .ifp fx (.bnd (sldI_at g78 rfl) ?_)
    rw [d1]
    refine .ifn (by decide) ?_
    exact done h78 { p0.up with fails := p0.fails - 1 } kp78 s78 m78 lm78 G76 K0.tw K0.pq dn (by show p0.es.length ≤ _; omega) (by show p0.calls + 1 ≤ _; omega) (by show p0.fails - 1 = 0; omega)
   refine .ifn fx (.bnd rfl (.bnd (sldI_at gB rfl) (.bnd (among_spec k D x.1 (by decide) (by decide) h78) ?_)))
   rw [if_neg fx] at fl0
   dsimp only
   rw [eb]
   have nd : ¬ p0.down = true := by rw [dn]; decide
   have nf : ¬ 0 < p0.fails := by omega
   have tb := tot_le K0.g
   have same : SR h78 sb rb p0.up → Gx.Wp (j42 (q : Int) sl (some ⟨sb, 0, none⟩) (some mb) (tot p0.es : Int) (i : Int) h78) Q := fun z =>
    done h78 p0.up kp78 z m78 lm78 K0.g K0.tw K0.pq dn (by show p0.es.length ≤ _; omega) (by show p0.calls + 1 ≤ _; omega) (by show p0.fails = 0; omega)
   have rl := room_le (n := n) p0.es
   by_cases b0 : b = 0
   ·-- put
    subst b0
    refine .ifp rfl (.bnd rfl (.bnd (ldS_at gB rfl) (Wp.jn fun j98 h98 => ?_)))
    have eP := put_eq (p := p0.up) hfit
    have eD : p0.doS (kindN 0) n x.2.2.1 = ((p0.up.putS n x.2.2.1).1, (p0.up.putS n x.2.2.1).2, nob, []) := by
     unfold PS.doS
     rw [if_neg nd, if_neg nf, if_pos (show kindN 0 = 1 from rfl)]
    have pq := K0.pq
    have put : ∀ m : Int, m = ((n.size + x.2.2.1.size : Nat) : Int) - (room n p0.es : Int) → Gx.Wp (j98 (q : Int) sl (some ⟨sb, 0, none⟩) (some mb) (tot p0.es : Int) (i : Int) (some ⟨H.next, 0, none⟩) n (some ⟨H0.next + 1, 0, none⟩) m h78) Q := fun m em => by
     rw [h98]
     dsimp only
     refine Wp.jn fun j111 h111 => .bnd rfl (.bnd (sldI_at g78 rfl) ?_)
     rw [Gx.w64 _ (by omega)]
     by_cases c : p0.up.quota + room n p0.up.es < tot p0.up.es + (n.size + x.2.2.1.size)
     ·rw [if_pos c] at eP
      rw [eD, eP] at d1 s78
      dsimp only at d1 s78
      have c : p0.quota + room n p0.es < tot p0.es + (n.size + x.2.2.1.size) := c
      rw [d1]
      refine .ifn ?_ (.bnd rfl (.bnd (sldI_at g78 rfl) ?_))
      ·rw [decide_eq_true (by omega)]; decide
      rw [d1]
      refine .ifp (by decide) (.bnd rfl (.bnd (sldI_at g78 rfl) ?_))
      rw [d1, h111]
      dsimp only
      refine .ifn (by decide) (.bnd rfl (.bnd (sldI_at g78 rfl) ?_))
      rw [d1]
      refine .ifn (by decide) (same s78)
     ·rw [if_neg c] at eP
      rw [eD, eP] at d1 s78 G76
      dsimp only at d1 s78 G76
      have c : ¬ p0.quota + room n p0.es < tot p0.es + (n.size + x.2.2.1.size) := c
      rw [d1]
      refine .ifn ?_ (.bnd rfl (.bnd (sldI_at g78 rfl) ?_))
      ·rw [decide_eq_false (by omega)]; decide
      rw [d1]
      refine .ifn (by decide) ?_
      rw [h111]
      dsimp only
      refine .ifn (by decide) (.bnd rfl (.bnd (sldI_at g78 rfl) ?_))
      rw [d1]
      refine .ifp (by decide) (.bnd rfl (.bnd (ldS_at gB rfl) (.bnd rfl (.bnd (upd_at m78 n x.2.2.1) ?_))))
      have tp := tot_pt (n := n) (d := x.2.2.1) (cl := p0.cl) p0.es
      rw [Gx.w64 _ (by omega), show (tot p0.es : Int) + m = ((tot (p0.up.lay n x.2.2.1).es : Nat) : Int) by show _ = ((tot (pt n x.2.2.1 p0.cl p0.es) : Nat) : Int); omega]
      have lp := len_pt (n := n) (d := x.2.2.1) (cl := p0.cl) p0.es
      have cs : ∀ B, Chg (· = mb) h78 (h78.set mb B) := fun B => Chg.set (.inr rfl)
      exact done _ (p0.up.lay n x.2.2.1) (kp78.keepsS (cs _) fun y hy => by have hy : y = mb := hy; omega) (s78.chg (cs _) (fun w => ge.2.2.2.1 w.symm) (fun w => ge.2.2.2.2.1 w.symm)) (by rw [sset_get]; rfl) (by simpa using lm78) G76 (mem_key_pt K0.tw nm2) K0.pq dn (by show (pt n x.2.2.1 p0.cl p0.es).length ≤ _; omega) (by show p0.calls + 1 ≤ _; omega) (by show p0.fails = 0; omega)
    cases hl : lk n p0.es with
    | none =>
     refine .ifn (by simp) (put _ ?_)
     have : room n p0.es = 0 := by unfold room; rw [hl]
     rw [Gx.w64 _ (by omega)]; omega
    | some old =>
     refine .ifp (by simp) (.bnd rfl (.bnd (ldS_at gB rfl) (put _ ?_)))
     have : room n p0.es = n.size + old.size := by unfold room; rw [hl]
     show IntKind.wrap .i64 ((x.2.2.1.size : Int) - (old.size : Int)) = _
     rw [Gx.w64 _ (by omega)]; omega
   refine .ifn (by simp; omega) ?_
   by_cases b1 : b = 1
   ·-- get
    subst b1
    refine .ifp rfl (Wp.jn fun j134 h134 => .bnd (sldI_at g78 rfl) ?_)
    cases hl : lk n p0.es with
    | none =>
     have eD : p0.doS (kindN 1) n x.2.2.1 = (p0.up, 5, nob, []) := by
      unfold PS.doS
      rw [if_neg nd, if_neg nf, if_neg (by decide), if_pos (show kindN 1 = 2 from rfl), hl, if_neg (by simp)]
     rw [eD] at d1 d2 s78
     dsimp only at d1 d2 s78
     rw [d1]
     refine .ifn (by simp) (.bnd (ldS_at g78 rfl) ?_)
     rw [d2, h134]
     exact .ifn (by rw [show (nob == (none : Option ByteArray).getD nob) = true from by rw [show (none : Option ByteArray).getD nob = nob from rfl]; exact (by kernel_rfl)]; decide) (same s78)
    | some old =>
     have eD : p0.doS (kindN 1) n x.2.2.1 = (p0.up, 0, old, []) := by
      unfold PS.doS
      rw [if_neg nd, if_neg nf, if_neg (by decide), if_pos (show kindN 1 = 2 from rfl), hl, if_pos (by simp)]; rfl
     rw [eD] at d1 d2 s78
     dsimp only at d1 d2 s78
     rw [d1]
     refine .ifn (by simp) (.bnd (ldS_at g78 rfl) ?_)
     rw [d2, h134]
     exact .ifn (by rw [ba_beq]; simp) (same s78)
   refine .ifn (by simp; omega) ?_
   by_cases b2 : b = 2
   ·-- del
    subst b2
    refine .ifp rfl (.bnd (sldI_at g78 rfl) ?_)
    cases hl : lk n p0.es with
    | none =>
     have eD : p0.doS (kindN 2) n x.2.2.1 = (p0.up, 5, nob, []) := by
      unfold PS.doS
      rw [if_neg nd, if_neg nf, if_neg (by decide), if_neg (by decide), if_neg (by decide), if_pos (show kindN 2 = 4 from rfl)]
      unfold PS.delS
      rw [if_neg (show ¬ (lk n p0.up.es).isSome = true by show ¬ (lk n p0.es).isSome = true; rw [hl]; decide)]
     rw [eD] at d1 s78
     dsimp only at d1 s78
     rw [d1]
     exact .ifn (by simp) (.ifn (by simp) (same s78))
    | some old =>
     have eD : p0.doS (kindN 2) n x.2.2.1 = ({ p0.up with es := rm n p0.es }, 0, nob, []) := by
      unfold PS.doS
      rw [if_neg nd, if_neg nf, if_neg (by decide), if_neg (by decide), if_neg (by decide), if_pos (show kindN 2 = 4 from rfl)]
      unfold PS.delS
      rw [if_pos (show (lk n p0.up.es).isSome = true by show (lk n p0.es).isSome = true; rw [hl]; rfl)]; rfl
     rw [eD] at d1 s78 G76
     dsimp only at d1 s78 G76
     rw [d1]
     have rr : room n p0.es = n.size + old.size := by unfold room; rw [hl]
     have tr := tot_rm (n := n) p0.es
     refine .ifn (by simp) (.ifp (by simp) ?_)
     dsimp only [Option.getD_some]
     refine .bnd (del_at m78 n) ?_
     rw [Gx.w64 ((n.size : Int) + (old.size : Int)) (by omega), Gx.w64 _ (by omega), show (tot p0.es : Int) - ((n.size : Int) + (old.size : Int)) = ((tot (rm n p0.es) : Nat) : Int) by omega]
     have cs : ∀ B, Chg (· = mb) h78 (h78.set mb B) := fun B => Chg.set (.inr rfl)
     have ll := (rm_sub n p0.es).length_le
     exact done _ { p0.up with es := rm n p0.es } (kp78.keepsS (cs _) fun y hy => by have hy : y = mb := hy; omega) (s78.chg (cs _) (fun w => ge.2.2.2.1 w.symm) (fun w => ge.2.2.2.2.1 w.symm)) (by rw [sset_get]; rfl) (by simpa using lm78) G76 (mem_key_rm K0.tw) K0.pq dn (by show (rm n p0.es).length ≤ _; omega) (by show p0.calls + 1 ≤ _; omega) (by show p0.fails = 0; omega)
   refine .ifn (by simp; omega) (Wp.jn fun j148 h148 => ?_)
   obtain rfl : b = 3 := by omega
   have eD : p0.doS (kindN 3) n x.2.2.1 = (p0.up, 0, nob, (nm p0.es).filter (starts n)) := by
    unfold PS.doS
    rw [if_neg nd, if_neg nf, if_neg (by decide), if_neg (by decide), if_pos (show kindN 3 = 3 from rfl)]
   rw [eD] at d1 A76 s78
   dsimp only at d1 A76 s78
   have l76 : r76.1.2.2.len = if (lk n p0.es).isSome then 1 else 0 := by
    have : r76.1.2.2.len = ((nm p0.es).filter (starts n)).length := A76.row.1
    rw [this, one_name K0.g K0.tw nm2]
   refine .bnd (sldL_at g78 rfl) (.ifn ?_ (.bnd (sldI_at g78 rfl) ?_))
   ·show ¬ (!(((r76.1.2.2.len : Int) == 1) == (lk n p0.es).isSome)) = true
    rw [l76]
    cases (lk n p0.es).isSome <;> decide
   rw [d1, h148]
   exact .ifn (by decide) (same s78)
  by_cases fx : x.2.2.2 = true
  ·refine .ifp fx (.call (Fail_spec D K47.s 1) fun r152 ⟨_, c152, s152⟩ => ?_)
   obtain ⟨kp, m, lm⟩ := K47.sb c152
   have ge := K47.ge
   refine body r152.2 { p with fails := failV 1 p.fails } ⟨kp, s152, m, K.g, K.tw, K.pq, K.dn, K.l, K.c, ge.1, ge.2.1, ge.2.2.1, ge.2.2.2.1, ge.2.2.2.2.1, lm⟩ rfl ?_ ((c152.oth _ (by omega) (fun w => by have := K.ge; have := K.s.lt; rcases w with w | w <;> omega)).trans g47) (by have := c152.nx; omega)
   rw [if_pos fx]; rfl
  ·refine .ifn fx (body h47 p K47 rfl ?_ g47 (by omega))
   rw [if_neg fx]; exact hp0
end
end Gk
namespace Gk
open Go Gx
section
variable {k : Nat} {h : AHeap} {sl : Slc}
theorem keeps_true (hk : 300 ≤ k) (D : CallF) {acts : List Dn} (R : RowW 4 encD h sl acts) (quota : Int) : Gx.Wp (law07_StoreKeeps k D quota sl h) fun z => z.1 = true := by
 simp only [law07_StoreKeeps]
 obtain ⟨q, hq, eq⟩ : ∃ q : Nat, q < 500 ∧ amg quota 500 = (q : Int) := ⟨(amg quota 500).toNat, by have := amg_lt quota (n := 500) (by decide); omega, by have := amg_lt quota (n := 500) (by decide); omega⟩
 refine .bnd (among_spec k D quota (by decide) (by decide) h) ?_
 dsimp only
 rw [eq]
 obtain ⟨h2, e2, k2, s2⟩ := New_spec (k := k) D (h := h) (q := q) (by omega)
 have lt2 := s2.lt
 refine .bnd e2 (Wp.jn fun j8 h8 => .ifn (by simp) (.ifn (by simp) (.call (works_spec D (by omega)) fun r153 ⟨q153, k153⟩ => ?_)))
 rw [q153, h8]
 refine .ifn (by simp) (Wp.newE fun h9 e9 k9 n9 g9 => Wp.jn fun j14 h14 => ?_)
 have m153 : h2.next ≤ r153.2.next := k153.nx
 unfold law07_StoreKeeps_l0
 obtain ⟨bot, eb⟩ := iterK_of (fun _ _ _ _ _ _ _ => none) (law07_StoreKeeps_l0b k D j14) (show min 50 acts.length + 1 ≤ k by omega)
 rw [eb]
 have K : KI h h9 (h.next + 1) h.next r153.2.next q 0 (ps0 q) :=
  ⟨(k2.trans k153).trans k9, (s2.keeps k153).keeps k9, g9, good0, fun e he => (List.not_mem_nil he).elim, rfl, rfl, Nat.le_refl _, Nat.le_refl _, by omega, by omega, by omega, by omega, by omega, by omega⟩
 refine keeps_l0 (q := q) (by omega) D R (by omega) (fun H p K => ?_) bot (min 50 acts.length) 0 h9 (ps0 q) (by omega) K rfl
 rw [h14]
 refine .bnd (Used_spec D K.s) (.ifp (by simp) (.call (Names_spec D K.s K.g (by have := K.l; omega)) fun r16 ⟨k16, R16⟩ => ?_))
 have em : lenMap r16.2 (some r153.2.next) = some p.es.length := by
  have := k16.got K.ge.2.2.2.2.2 K.m
  simp only [lenMap, this, List.length_map]
 have l16 : r16.1.len = p.es.length := by rw [R16.1, nm_len]
 refine .bnd em (.of ?_)
 show (((r16.1.len : Int) == ((p.es.length : Nat) : Int))) = true
 rw [l16]; simp
def doT : DT := .pair (.int .i64) (.pair (.int .i64) (.pair .str (.pair .bool .unit)))
def doV (x : doT.V) : Dn := (x.1, x.2.1, x.2.2.1, x.2.2.2.1)
theorem do_enc {x : doT.V} {cs : List Value} (r : Gx.Rep h doT x cs) : cs = encD (doV x) := by
 obtain ⟨_, _, rfl, ⟨rfl, _⟩, _, _, rfl, ⟨rfl, _⟩, _, _, rfl, ⟨rfl, _⟩, _, _, rfl, rfl, rfl⟩ := r
 rfl
theorem keeps_T (hk : 300 ≤ k) (D : CallF) (quota : Int) {l : List doT.V} (R : Gx.Rep h (.list doT) l [.slice sl.a sl.len sl.cap]) : ∃ h', law07_StoreKeeps k D quota sl h = some (true, h') := by
 obtain ⟨⟨r, h'⟩, e, q⟩ := keeps_true hk D (R.rowW fun x cs hr => do_enc hr) quota
 obtain rfl : r = true := q
 exact ⟨h', e⟩
end
end Gk
