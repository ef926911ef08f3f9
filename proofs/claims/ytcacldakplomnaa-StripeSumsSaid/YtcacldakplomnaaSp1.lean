import Derived.Laws.BitsLemmas
import Derived.Test.YtcacldakplomnaaFn1
namespace Gb
open Go Gx
def dbl (x : Nat) : Nat := if 2 * x ≥ 256 then (2 * x) ^^^ 391 else 2 * x
def exL : List Nat := [1, 2, 4, 8, 16, 32, 64, 128, 135, 137, 149, 173, 221, 61, 122, 244, 111, 222, 59, 118, 236, 95, 190, 251, 113, 226, 67, 134, 139, 145, 165, 205, 29, 58, 116, 232, 87, 174, 219, 49, 98, 196, 15, 30, 60, 120, 240, 103, 206, 27, 54, 108, 216, 55, 110, 220, 63, 126, 252, 127, 254, 123, 246, 107, 214, 43, 86, 172, 223, 57, 114, 228, 79, 158, 187, 241, 101, 202, 19, 38, 76, 152, 183, 233, 85, 170, 211, 33, 66, 132, 143, 153, 181, 237, 93, 186, 243, 97, 194, 3, 6, 12, 24, 48, 96, 192, 7, 14, 28, 56, 112, 224, 71, 142, 155, 177, 229, 77, 154, 179, 225, 69, 138, 147, 161, 197, 13, 26, 52, 104, 208, 39, 78, 156, 191, 249, 117, 234, 83, 166, 203, 17, 34, 68, 136, 151, 169, 213, 45, 90, 180, 239, 89, 178, 227, 65, 130, 131, 129, 133, 141, 157, 189, 253, 125, 250, 115, 230, 75, 150, 171, 209, 37, 74, 148, 175, 217, 53, 106, 212, 47, 94, 188, 255, 121, 242, 99, 198, 11, 22, 44, 88, 176, 231, 73, 146, 163, 193, 5, 10, 20, 40, 80, 160, 199, 9, 18, 36, 72, 144, 167, 201, 21, 42, 84, 168, 215, 41, 82, 164, 207, 25, 50, 100, 200, 23, 46, 92, 184, 247, 105, 210, 35, 70, 140, 159, 185, 245, 109, 218, 51, 102, 204, 31, 62, 124, 248, 119, 238, 91, 182, 235, 81, 162, 195]
def lgL : List Nat := [0, 0, 1, 99, 2, 198, 100, 106, 3, 205, 199, 188, 101, 126, 107, 42, 4, 141, 206, 78, 200, 212, 189, 225, 102, 221, 127, 49, 108, 32, 43, 243, 5, 87, 142, 232, 207, 172, 79, 131, 201, 217, 213, 65, 190, 148, 226, 180, 103, 39, 222, 240, 128, 177, 50, 53, 109, 69, 33, 18, 44, 13, 244, 56, 6, 155, 88, 26, 143, 121, 233, 112, 208, 194, 173, 168, 80, 117, 132, 72, 202, 252, 218, 138, 214, 84, 66, 36, 191, 152, 149, 249, 227, 94, 181, 21, 104, 97, 40, 186, 223, 76, 241, 47, 129, 230, 178, 63, 51, 238, 54, 16, 110, 24, 70, 166, 34, 136, 19, 247, 45, 184, 14, 61, 245, 164, 57, 59, 7, 158, 156, 157, 89, 159, 27, 8, 144, 9, 122, 28, 234, 160, 113, 90, 209, 29, 195, 123, 174, 10, 169, 145, 81, 91, 118, 114, 133, 161, 73, 235, 203, 124, 253, 196, 219, 30, 139, 210, 215, 146, 85, 170, 67, 11, 37, 175, 192, 115, 153, 119, 150, 92, 250, 82, 228, 236, 95, 74, 182, 162, 22, 134, 105, 197, 98, 254, 41, 125, 187, 204, 224, 211, 77, 140, 242, 31, 48, 220, 130, 171, 231, 86, 179, 147, 64, 216, 52, 176, 239, 38, 55, 12, 17, 68, 111, 120, 25, 154, 71, 116, 167, 193, 35, 83, 137, 251, 20, 93, 248, 151, 46, 75, 185, 96, 15, 237, 62, 229, 246, 135, 165, 23, 58, 163, 60, 183]
def ex (i : Nat) : Nat := exL.getD i 0
def lg (a : Nat) : Nat := lgL.getD a 0
theorem ex_zero : ex 0 = 1 := rfl
theorem ex_lt : ∀ i, i < 255 → 1 ≤ ex i ∧ ex i < 256 := by decide +kernel
theorem ex_succ : ∀ i, i < 254 → dbl (ex i) = ex (i + 1) := by decide +kernel
theorem ex_last : dbl (ex 254) = 1 := by decide +kernel
theorem lg_ex : ∀ i, i < 255 → lg (ex i) = i := by decide +kernel
theorem ex_lg : ∀ a, a < 256 → 1 ≤ a → ex (lg a) = a := by decide +kernel
theorem lg_lt : ∀ a, a < 256 → lg a < 255 := by decide +kernel
theorem dbl_lt : ∀ a, a < 256 → dbl a < 256 := by decide +kernel
theorem ex_inj {i j : Nat} (hi : i < 255) (hj : j < 255) (h : ex i = ex j) : i = j := by
  rw [← lg_ex i hi, ← lg_ex j hj, h]
def mulT (a b : Nat) : Nat := if a = 0 ∨ b = 0 then 0 else ex ((lg a + lg b) % 255)
theorem dI (k : Nat) (D : CallF) (h : AHeap) : ∀ x : Nat, x < 256 → field_double k D (x : Int) h = some ((dbl x : Int), h) := by
  have key : ∀ x : Nat, x < 256 → (if (decide ((IntKind.wrap .i64 ((x : Int) * 2)) ≥ 256)) = true then Go.bits .xor .i64 (IntKind.wrap .i64 ((x : Int) * 2)) 391 else IntKind.wrap .i64 ((x : Int) * 2)) = (dbl x : Int) := by decide +kernel
  intro x hx
  have := key x hx
  unfold field_double joinK
  split <;> rename_i hc
  · rw [if_pos hc] at this; rw [this]
  · rw [if_neg hc] at this; rw [this]
theorem st1_of {h : AHeap} {b o : Nat} {sp : Option Nat} {c : List Value} {e : TypeId} {v : Value} (hb : h.get b = some (.cells c e true 0)) (ho : o < c.length) (hv : one v = true) : st1 ⟨b, o, sp⟩ v h = some (h.set b (.cells (c.set o v) e true 0)) := by
  simp [st1, AHeap.wr1, hb, ho, hv]
theorem ldI_of {h : AHeap} {b o : Nat} {sp : Option Nat} {c : List Value} {e : TypeId} {rw' : Bool} {fz : Nat} {k : IntKind} {x : Int} (hb : h.get b = some (.cells c e rw' fz)) (ho : c[o]? = some (.int k x)) : ldI k ⟨b, o, sp⟩ h = some x := by
  simp [ldI, AHeap.rd1, hb, ho, decI]
theorem set_set (h : AHeap) (b : Nat) (B C : ABlk) : (h.set b B).set b C = h.set b C := by
  simp only [AHeap.set, AHeap.mk.injEq, true_and]
  funext x
  by_cases e : x = b <;> simp [e]
theorem set_self {h : AHeap} {b : Nat} {B : ABlk} (hb : h.get b = some B) : h.set b B = h := by
  obtain ⟨n, g⟩ := h
  simp only [AHeap.set, AHeap.mk.injEq, true_and] at hb ⊢
  funext x
  by_cases e : x = b
  · simp [e, hb]
  · simp [e]
def fresh : List Value := [.int .u32 0] ++ [.int .i32 0] ++ [.int .u32 0] ++ List.replicate 510 (.int .u8 0) ++ List.replicate 256 (.int .i64 0)
structure Part (i : Nat) (c : List Value) : Prop where
  len : c.length = 769
  lo : ∀ j, j < i → c[3 + j]? = some (.int .u8 (ex j : Int))
  hi : ∀ j, j < i → c[258 + j]? = some (.int .u8 (ex j : Int))
  lg : ∀ j, j < i → c[513 + ex j]? = some (.int .i64 (j : Int))
  lz : c[513]? = some (.int .i64 0)
  done : c[0]? = some (.int .u32 0)
  mu : c[1]? = some (.int .i32 1)
theorem part_step {i : Nat} {c : List Value} (hi : i < 255) (p : Part i c) :
    Part (i + 1) (((c.set (3 + i) (.int .u8 (ex i : Int))).set (258 + i) (.int .u8 (ex i : Int))).set (513 + ex i) (.int .i64 (i : Int))) := by
  obtain ⟨e1, e2⟩ := ex_lt i hi
  have len := p.len
  refine ⟨by simp [len], fun j hj => ?_, fun j hj => ?_, fun j hj => ?_, ?_, ?_, ?_⟩
  · by_cases hji : j = i
    · subst hji
      rw [List.getElem?_set_ne (by omega), List.getElem?_set_ne (by omega), List.getElem?_set_self (by omega)]
    · rw [List.getElem?_set_ne (by omega), List.getElem?_set_ne (by omega), List.getElem?_set_ne (by omega)]
      exact p.lo j (by omega)
  · by_cases hji : j = i
    · subst hji
      rw [List.getElem?_set_ne (by omega), List.getElem?_set_self (by simp; omega)]
    · rw [List.getElem?_set_ne (by omega), List.getElem?_set_ne (by omega), List.getElem?_set_ne (by omega)]
      exact p.hi j (by omega)
  · by_cases hji : j = i
    · subst hji
      rw [List.getElem?_set_self (by simp; omega)]
    · have : ex j ≠ ex i := fun e => hji (ex_inj (by omega) hi e)
      rw [List.getElem?_set_ne (by omega), List.getElem?_set_ne (by omega), List.getElem?_set_ne (by omega)]
      exact p.lg j (by omega)
  · rw [List.getElem?_set_ne (by omega), List.getElem?_set_ne (by omega), List.getElem?_set_ne (by omega)]; exact p.lz
  · rw [List.getElem?_set_ne (by omega), List.getElem?_set_ne (by omega), List.getElem?_set_ne (by omega)]; exact p.done
  · rw [List.getElem?_set_ne (by omega), List.getElem?_set_ne (by omega), List.getElem?_set_ne (by omega)]; exact p.mu
theorem w64 (x : Int) (h : -9223372036854775808 ≤ x ∧ x ≤ 9223372036854775807) : IntKind.wrap .i64 x = x := by
  rw [IntKind.wrap_i64]; omega
theorem w8 (x : Int) (h : 0 ≤ x ∧ x < 256) : IntKind.wrap .u8 x = x := by
  rw [IntKind.wrap_u8]; omega
theorem idxA_of {n size b o : Nat} {sp : Option Nat} {i : Int} (h : 0 ≤ i ∧ i < n) : idxA n size ⟨b, o, sp⟩ i = some ⟨b, o + i.toNat * size, none⟩ := by
  unfold idxA; rw [if_pos h]
end Gb
namespace Gb
open Go Gx
theorem st1_set {h : AHeap} {b o : Nat} {sp : Option Nat} {c : List Value} {e : TypeId} {v : Value} (ho : o < c.length) (hv : one v = true) : st1 ⟨b, o, sp⟩ v (h.set b (.cells c e true 0)) = some (h.set b (.cells (c.set o v) e true 0)) := by
  rw [st1_of (c := c) (e := e) (by simp) ho hv, set_set]
theorem make_loop (K : Nat) (D : CallF) (b : Nat) (e : TypeId) (bot) : ∀ (m i : Nat) (c : List Value) (h : AHeap), i + m = 255 → h.get b = some (.cells c e true 0) → Part i c →
    ∃ c', Part 255 c' ∧ iterK bot (m + 1) (field_Field_make_l0b K D) (some ⟨b, 0, none⟩) ((if i = 255 then 1 else ex i : Nat) : Int) (i : Int) h = some ((), h.set b (.cells c' e true 0))
  | 0, i, c, h, hi, hb, p => by
    have : i = 255 := by omega
    subst this
    refine ⟨c, p, ?_⟩
    simp only [iterK, field_Field_make_l0b]
    rw [if_neg (by simp), set_self hb]
  | m + 1, i, c, h, hi, hb, p => by
    have hlt : i < 255 := by omega
    obtain ⟨e1, e2⟩ := ex_lt i hlt
    have len := p.len
    have hi0 : ((i : Int).toNat) = i := by simp
    have q := part_step hlt p
    obtain ⟨c', p', hr⟩ := make_loop K D b e bot m (i + 1) _ (h.set b (.cells (((c.set (3 + i) (.int .u8 (ex i : Int))).set (258 + i) (.int .u8 (ex i : Int))).set (513 + ex i) (.int .i64 (i : Int))) e true 0)) (by omega) (by simp) q
    refine ⟨c', p', ?_⟩
    rw [iterK, field_Field_make_l0b]
    have hne : ¬ i = 255 := by omega
    rw [if_pos (by simp; omega), if_neg hne]
    simp only [Option.bind_some]
    rw [idxA_of (by omega)]
    simp only [Option.bind_some, hi0]
    rw [w8 _ (by omega), st1_of hb (by omega) rfl]
    simp only [Option.bind_some]
    rw [w64 _ (by omega), idxA_of (by omega)]
    simp only [Option.bind_some]
    rw [show ((i : Int) + 255).toNat = i + 255 from by omega, st1_set (by simp; omega) rfl]
    simp only [Option.bind_some]
    rw [idxA_of (by omega)]
    simp only [Option.bind_some]
    rw [show ((ex i : Int)).toNat = ex i from by simp, st1_set (by simp; omega) rfl]
    simp only [Option.bind_some]
    rw [dI _ _ _ _ e2]
    simp only [Option.bind_some]
    rw [w64 _ (by omega)]
    have hx : (dbl (ex i) : Int) = ((if i + 1 = 255 then 1 else ex (i + 1) : Nat) : Int) := by
      split
      · rename_i h1
        have : i = 254 := by omega
        subst this; rw [ex_last]
      · rw [ex_succ i (by omega)]
    rw [hx]
    have h3 : 0 + 3 + 0 + i * 1 = 3 + i := by omega
    have h4 : 0 + 3 + 0 + (i + 255) * 1 = 258 + i := by omega
    have h5 : 0 + 3 + 510 + ex i * 1 = 513 + ex i := by omega
    rw [h3, h4, h5]
    rw [set_set] at hr
    exact_mod_cast hr
end Gb
namespace Gb
open Go Gx Go.Proofs
noncomputable def DD (k : Nat) : CallF := mkC noC [e_field_Field_make k noC]
theorem DD_sound (k : Nat) : CSound Try.prog 0 (DD k) := mkC_sound noC_sound (EntsOk.more (ok_field_Field_make noC_sound k) EntsOk.none)
structure Made (c : List Value) : Prop where
  len : c.length = 769
  lo : ∀ j, j < 255 → c[3 + j]? = some (.int .u8 (ex j : Int))
  hi : ∀ j, j < 255 → c[258 + j]? = some (.int .u8 (ex j : Int))
  lg : ∀ j, j < 255 → c[513 + ex j]? = some (.int .i64 (j : Int))
  lz : c[513]? = some (.int .i64 0)
  done : c[0]? = some (.int .u32 1)
def Fld (h : AHeap) (b : Nat) : Prop := ∃ c, h.get b = some (.cells c 131 true 0) ∧ (c = fresh ∨ Made c)
theorem fresh_part : Part 0 (fresh.set 1 (.int .i32 1)) where
  len := by kernel_rfl
  lo := fun j h => absurd h (Nat.not_lt_zero j)
  hi := fun j h => absurd h (Nat.not_lt_zero j)
  lg := fun j h => absurd h (Nat.not_lt_zero j)
  lz := by kernel_rfl
  done := rfl
  mu := rfl
theorem made_of {c : List Value} (p : Part 255 c) : Made ((c.set 0 (.int .u32 1)).set 1 (.int .i32 0)) where
  len := by simp [p.len]
  lo := fun j h => by rw [List.getElem?_set_ne (by omega), List.getElem?_set_ne (by omega)]; exact p.lo j h
  hi := fun j h => by rw [List.getElem?_set_ne (by omega), List.getElem?_set_ne (by omega)]; exact p.hi j h
  lg := fun j h => by rw [List.getElem?_set_ne (by omega), List.getElem?_set_ne (by omega)]; exact p.lg j h
  lz := by rw [List.getElem?_set_ne (by omega), List.getElem?_set_ne (by omega)]; exact p.lz
  done := by rw [List.getElem?_set_ne (by omega), List.getElem?_set_self (by rw [p.len]; omega)]
theorem lock_spec (k : Nat) (D : CallF) {h : AHeap} {b o : Nat} {c : List Value} {e : TypeId} (hb : h.get b = some (.cells c e true 0)) (ho : c[o]? = some (.int .i32 0)) :
    sync_Mutex_Lock k D (some ⟨b, o, none⟩) h = some ((), h.set b (.cells (c.set o (.int .i32 1)) e true 0)) := by
  have hlt : o < c.length := (List.getElem?_eq_some_iff.1 ho).1
  simp only [sync_Mutex_Lock, internal_sync_Mutex_Lock, Option.bind_some, Nat.add_zero]
  rw [ldI_of hb ho]
  simp only [Option.bind_some, if_true]
  rw [st1_of hb hlt rfl]
  simp [AHeap.rd1, hlt]
theorem unlock_spec (k : Nat) (D : CallF) {h : AHeap} {b o : Nat} {c : List Value} {e : TypeId} (hb : h.get b = some (.cells c e true 0)) (ho : c[o]? = some (.int .i32 1)) :
    sync_Mutex_Unlock k D (some ⟨b, o, none⟩) h = some ((), h.set b (.cells (c.set o (.int .i32 0)) e true 0)) := by
  have hlt : o < c.length := (List.getElem?_eq_some_iff.1 ho).1
  simp only [sync_Mutex_Unlock, internal_sync_Mutex_Unlock, joinK, Option.bind_some, Nat.add_zero]
  rw [ldI_of hb ho]
  have hr : AHeap.rd1 h b o = some (.int .i32 1) := by simp [AHeap.rd1, hb, ho]
  simp only [Option.bind_some, hr]
  have hw : IntKind.wrap .i32 (1 + -1) = 0 := by decide
  rw [hw, st1_of hb hlt rfl]
  simp
theorem store_spec (k : Nat) (D : CallF) {h : AHeap} {b o : Nat} {c : List Value} {e : TypeId} {x : Int} (hb : h.get b = some (.cells c e true 0)) (ho : c[o]? = some (.int .u32 x)) :
    sync_atomic_Bool_Store k D (some ⟨b, o, none⟩) true h = some ((), h.set b (.cells (c.set o (.int .u32 1)) e true 0)) := by
  have hlt : o < c.length := (List.getElem?_eq_some_iff.1 ho).1
  simp only [sync_atomic_Bool_Store, sync_atomic_b32, Option.bind_some, Nat.add_zero, if_true]
  rw [ldI_of hb ho]
  simp only [Option.bind_some]
  rw [st1_of hb hlt rfl]
  rfl
theorem iterK_add {α : Type} (bot : α) (b : α → α) (n : Nat) : ∀ m, iterK bot (m + n) b = iterK (iterK bot n b) m b
  | 0 => by rw [Nat.zero_add]; rfl
  | m + 1 => by rw [Nat.succ_add]; simp only [iterK]; rw [iterK_add bot b n m]
theorem tables_spec {k : Nat} (hk : 256 ≤ k) {h : AHeap} {b : Nat} (hf : Fld h b) :
    ∃ c', Made c' ∧ field_Field_tables k (DD k) (some ⟨b, 0, none⟩) h = some (some ⟨b, 3, none⟩, h.set b (.cells c' 131 true 0)) := by
  obtain ⟨c, hb, rfl | hm⟩ := hf
  · -- not yet
    obtain ⟨k', rfl⟩ : ∃ k', k = 255 + 1 + k' := ⟨k - 256, by omega⟩
    have hf0 : fresh[0]? = some (.int .u32 0) := rfl
    have hf1 : fresh[1]? = some (.int .i32 0) := rfl
    have hb1 : (h.set b (.cells (fresh.set 1 (.int .i32 1)) 131 true 0)).get b = some (.cells (fresh.set 1 (.int .i32 1)) 131 true 0) := by simp
    obtain ⟨c', p', hm⟩ := make_loop (255 + 1 + k') noC b 131 (iterK (fun _ _ _ _ => none) k' (field_Field_make_l0b (255 + 1 + k') noC)) 255 0 _ (h.set b (.cells (fresh.set 1 (.int .i32 1)) 131 true 0)) (by omega) hb1 fresh_part
    have hmk : field_Field_make (255 + 1 + k') noC (some ⟨b, 0, none⟩) (h.set b (.cells (fresh.set 1 (.int .i32 1)) 131 true 0)) = some ((), h.set b (.cells c' 131 true 0)) := by
      rw [set_set] at hm
      rw [field_Field_make, field_Field_make_l0, ← hm, iterK_add]
      rfl
    have l0 := p'.done
    have l1 := p'.mu
    refine ⟨_, made_of p', ?_⟩
    simp only [field_Field_tables, sync_Once_Do, sync_atomic_Bool_Load, Option.bind_some, Nat.add_zero]
    rw [ldI_of hb hf0]
    simp only [Option.bind_some, bne_self_eq_false, Bool.not_false, if_true, sync_Once_doSlow, sync_atomic_Bool_Load, Nat.zero_add, Nat.add_zero]
    rw [lock_spec _ _ hb hf1]
    simp only [Option.bind_some]
    rw [ldI_of (x := 0) (k := .u32) hb1 rfl]
    simp only [Option.bind_some, bne_self_eq_false, Bool.not_false, if_true]
    have hcall : ∀ {R : Type} (κ : Value → AHeap → Option R), callD (C_sync_Once_doSlow (255 + 1 + k') (DD (255 + 1 + k'))) (.func (.func 86) ⟨[.pointer (some ⟨b, 0, none⟩)]⟩ ⟨[]⟩) [] (h.set b (.cells (fresh.set 1 (.int .i32 1)) 131 true 0)) κ = κ (.tuple ⟨[]⟩) (h.set b (.cells c' 131 true 0)) := by
      intro R κ
      show (field_Field_make (255 + 1 + k') noC (some ⟨b, 0, none⟩) (h.set b (.cells (fresh.set 1 (.int .i32 1)) 131 true 0))).bind _ = _
      rw [hmk]
      rfl
    rw [hcall]
    rw [store_spec _ _ (c := c') (e := 131) (by simp) l0, set_set]
    simp only [Option.bind_some]
    have h1' : (c'.set 0 (.int .u32 1))[1]? = some (.int .i32 1) := by rw [List.getElem?_set_ne (by omega)]; exact l1
    rw [unlock_spec _ _ (c := c'.set 0 (.int .u32 1)) (e := 131) (by simp) h1', set_set]
    rfl
  · refine ⟨c, hm, ?_⟩
    simp only [field_Field_tables, sync_Once_Do, sync_atomic_Bool_Load, Option.bind_some, Nat.add_zero]
    rw [ldI_of hb hm.done]
    simp [set_self hb]
end Gb
namespace Gb
open Go Gx Go.Proofs
def inR (x : Int) : Bool := !(decide (x < 0) || decide (x ≥ 256))
theorem inR_nat {x : Nat} (h : x < 256) : inR (x : Int) = true := by
  simp [inR]; omega
theorem inR_iff {x : Int} : inR x = true ↔ ∃ n : Nat, x = n ∧ n < 256 := by
  simp [inR]
  constructor
  · rintro ⟨h1, h2⟩; exact ⟨x.toNat, by omega, by omega⟩
  · rintro ⟨n, rfl, h⟩; omega
theorem idxL_of {size b o len cap : Nat} {sp : Option Nat} {i : Int} (h : 0 ≤ i ∧ i < len) : idxL size ⟨some ⟨b, o, sp⟩, len, cap⟩ i = some ⟨b, o + i.toNat * size, none⟩ := by
  simp only [idxL]; rw [if_pos h]
theorem is_loop (K : Nat) (D : CallF) (n : Nat) (sp : Option Nat) (cap : Nat) (j2 : AHeap → Option (Bool × AHeap)) (bot) (xs : List Int) (e : TypeId) (rw' : Bool) (fz : Nat) (h : AHeap) (hsm : xs.length < 9223372036854775807)
    (hb : h.get n = some (.cells (xs.map fun x => .int .i64 x) e rw' fz)) : ∀ (m i : Nat), i + m = xs.length →
    iterK bot (m + 1) (field_is_l0b K D j2) ⟨some ⟨n, 0, sp⟩, xs.length, cap⟩ (xs.length : Int) (i : Int) h = if (xs.drop i).all inR = true then j2 h else some (false, h)
  | 0, i, hi => by
    have : xs.length ≤ i := by omega
    rw [iterK, field_is_l0b, if_neg (by simp; omega), List.drop_eq_nil_of_le this]
    simp
  | m + 1, i, hi => by
    have hlt : i < xs.length := by omega
    rw [iterK, field_is_l0b, if_pos (by simp; omega), idxL_of (by omega)]
    simp only [Option.bind_some]
    have hx : (xs.map fun x => Value.int .i64 x)[0 + (i : Int).toNat * 1]? = some (.int .i64 xs[i]) := by simp [hlt]
    rw [ldI_of hb hx]
    simp only [Option.bind_some, joinK]
    have ih := is_loop K D n sp cap j2 bot xs e rw' fz h hsm hb m (i + 1) (by omega)
    rw [w64 _ (by omega)]
    have hi1 : ((i : Int) + 1) = ((i + 1 : Nat) : Int) := by omega
    rw [hi1, ih]
    rw [List.drop_eq_getElem_cons hlt]
    simp only [List.all_cons, inR]
    by_cases c1 : xs[i] < 0
    · simp [c1]
    · by_cases c2 : xs[i] ≥ 256
      · simp [c1, c2]
      · simp [c1, c2, inR]
theorem is_spec {k : Nat} (D : CallF) {n : Nat} {sp : Option Nat} {cap : Nat} {xs : List Int} {e : TypeId} {rw' : Bool} {fz : Nat} {h : AHeap} (hk : xs.length < k) (hsm : xs.length < 9223372036854775807)
    (hb : h.get n = some (.cells (xs.map fun x => .int .i64 x) e rw' fz)) : field_is k D ⟨some ⟨n, 0, sp⟩, xs.length, cap⟩ h = some (xs.all inR, h) := by
  obtain ⟨k', rfl⟩ : ∃ k', k = xs.length + 1 + k' := ⟨k - (xs.length + 1), by omega⟩
  rw [field_is, joinK, field_is_l0, iterK_add]
  have := is_loop (xs.length + 1 + k') D n sp cap (fun h1 => some (true, h1)) (iterK (fun _ _ _ _ => none) k' (field_is_l0b (xs.length + 1 + k') D fun h1 => some (true, h1))) xs e rw' fz h hsm hb xs.length 0 (by omega)
  rw [List.drop_zero] at this
  refine this.trans ?_
  cases xs.all inR <;> rfl
structure FS (b : Nat) (h h' : AHeap) : Prop where
  nx : h.next ≤ h'.next
  oth : ∀ x, x < h.next → x ≠ b → h'.get x = h.get x
  fld : Fld h' b
theorem FS.trans {b : Nat} {h h1 h2 : AHeap} (a : FS b h h1) (c : FS b h1 h2) : FS b h h2 :=
  ⟨Nat.le_trans a.nx c.nx, fun x hx hb => (c.oth x (Nat.lt_of_lt_of_le hx a.nx) hb).trans (a.oth x hx hb), c.fld⟩
theorem FS.new {b : Nat} {h : AHeap} (hf : Fld h b) (hb : b < h.next) (B : ABlk) : FS b h (h.new B) :=
  ⟨by simp, fun x hx _ => by simp; omega, by
    obtain ⟨c, h1, h2⟩ := hf
    exact ⟨c, by simp; rw [if_neg (by omega)]; exact h1, h2⟩⟩
theorem FS.made {b : Nat} {h : AHeap} {c : List Value} (hm : Made c) : FS b h (h.set b (.cells c 131 true 0)) :=
  ⟨by simp, fun x hx hb => by simp [hb], ⟨c, by simp, .inr hm⟩⟩
theorem FS.refl {b : Nat} {h : AHeap} (hf : Fld h b) : FS b h h := ⟨Nat.le_refl _, fun _ _ _ => rfl, hf⟩
theorem log_at {h : AHeap} {b : Nat} {c : List Value} (hb : h.get b = some (.cells c 131 true 0)) (hm : Made c) {a : Nat} (ha : a < 256) {sp : Option Nat} : ldI .i64 ⟨b, 513 + a, sp⟩ h = some (lg a : Int) := by
  by_cases h0 : a = 0
  · subst h0; rw [ldI_of hb hm.lz]; rfl
  · have h1 := ex_lg a ha (by omega)
    have := hm.lg (lg a) (lg_lt a ha)
    rw [h1] at this
    exact ldI_of hb this
theorem exp_at {h : AHeap} {b : Nat} {c : List Value} (hb : h.get b = some (.cells c 131 true 0)) (hm : Made c) {j : Nat} (hj : j < 510) {sp : Option Nat} : ldI .u8 ⟨b, 3 + j, sp⟩ h = some (ex (j % 255) : Int) := by
  by_cases h1 : j < 255
  · rw [Nat.mod_eq_of_lt h1]; exact ldI_of hb (hm.lo j h1)
  · have := hm.hi (j - 255) (by omega)
    rw [show 258 + (j - 255) = 3 + j from by omega] at this
    rw [show j % 255 = j - 255 from by omega]
    exact ldI_of hb this
theorem times_spec (k : Nat) (D : CallF) {h : AHeap} {b : Nat} {c : List Value} (hb : h.get b = some (.cells c 131 true 0)) (hm : Made c) {x y : Nat} (hx : x < 256) (hy : y < 256) :
    field_tables_times k D (some ⟨b, 3, none⟩) x y h = some ((mulT x y : Int), h) := by
  unfold field_tables_times joinK mulT
  by_cases h0 : x = 0
  · subst h0; simp
  · by_cases h1 : y = 0
    · subst h1; simp [h0]
    · have e0 : ((x : Int) == 0) = false := by simp; omega
      have e1 : ((y : Int) == 0) = false := by simp; omega
      have l1 := lg_lt x hx
      have l2 := lg_lt y hy
      rw [e0, e1]
      simp only [Bool.false_eq_true, if_false, Option.bind_some]
      rw [idxA_of (by omega), idxA_of (by omega)]
      simp only [Option.bind_some]
      have a1 : 3 + 510 + (x : Int).toNat * 1 = 513 + x := by omega
      have a2 : 3 + 510 + (y : Int).toNat * 1 = 513 + y := by omega
      rw [a1, a2, log_at hb hm hx, log_at hb hm hy]
      simp only [Option.bind_some]
      rw [w64 _ (by omega), idxA_of (by omega)]
      simp only [Option.bind_some]
      have a3 : 3 + 0 + ((lg x : Int) + (lg y : Int)).toNat * 1 = 3 + (lg x + lg y) := by omega
      rw [a3, exp_at hb hm (by omega)]
      have := (ex_lt ((lg x + lg y) % 255) (Nat.mod_lt _ (by omega))).2
      simp only [Option.bind_some]
      rw [w64 _ (by omega)]
      simp [h0, h1]
theorem is2 {k : Nat} (hk : 256 ≤ k) (D : CallF) (h : AHeap) (x y : Int) (t : TypeId) : field_is k D (⟨some ⟨h.next, 0, some 0⟩, 2, 2⟩ : Slc) (AHeap.new h (.cells [.int .i64 x, .int .i64 y] t true 0)) = some (inR x && inR y, AHeap.new h (.cells [.int .i64 x, .int .i64 y] t true 0)) := by
  have := is_spec (k := k) D (n := h.next) (sp := some 0) (cap := 2) (xs := [x, y]) (e := t) (rw' := true) (fz := 0) (h := AHeap.new h (.cells [.int .i64 x, .int .i64 y] t true 0)) (by simp; omega) (by simp) (by simp)
  simpa using this
end Gb
namespace Gb
open Go Gx Go.Proofs
structure Ext (h h' : AHeap) : Prop where
  nx : h.next ≤ h'.next
  oth : ∀ x, x < h.next → h'.get x = h.get x
theorem Ext.trans {h h1 h2 : AHeap} (a : Ext h h1) (c : Ext h1 h2) : Ext h h2 :=
  ⟨Nat.le_trans a.nx c.nx, fun x hx => (c.oth x (Nat.lt_of_lt_of_le hx a.nx)).trans (a.oth x hx)⟩
theorem Ext.new (h : AHeap) (B : ABlk) : Ext h (h.new B) := ⟨by simp, fun x hx => by simp; omega⟩
theorem Ext.fs {h h1 h2 : AHeap} {b : Nat} (a : Ext h h1) (c : FS b h1 h2) (hb : h.next ≤ b) : Ext h h2 :=
  ⟨Nat.le_trans a.nx c.nx, fun x hx => (c.oth x (Nat.lt_of_lt_of_le hx a.nx) (by omega)).trans (a.oth x hx)⟩
theorem new_spec (k : Nat) (D : CallF) (h : AHeap) : field_New k D h = some (some ⟨h.next, 0, none⟩, h.new (.cells fresh 131 true 0)) := rfl
theorem fld_new (h : AHeap) : Fld (h.new (.cells fresh 131 true 0)) h.next := ⟨fresh, by simp, .inl rfl⟩
theorem among_spec (k : Nat) (D : CallF) (x : Int) (n : Nat) (h : AHeap) (hn : 0 < n) (hn2 : n < 1000000) : ∃ m : Nat, m < n ∧ book_Among k D x n h = some ((m : Int), h) := by
  have h1 := Int.tmod_lt_of_pos x (show (0 : Int) < n by omega)
  have h2 : -(n : Int) < Int.tmod x n := by
    have := Int.lt_tmod_of_pos x (show (0 : Int) < n by omega)
    omega
  refine ⟨(Int.tmod (Int.tmod x n + n) n).toNat, ?_, ?_⟩
  · rw [Int.tmod_eq_emod_of_nonneg (by omega)]
    have := Int.emod_lt_of_pos (Int.tmod x n + n) (show (0 : Int) < n by omega)
    have := Int.emod_nonneg (Int.tmod x n + n) (show (n : Int) ≠ 0 by omega)
    omega
  · simp only [book_Among]
    rw [if_neg (by omega), if_neg (by omega), w64 _ (by omega)]
    have : 0 ≤ Int.tmod (Int.tmod x n + n) n := by
      rw [Int.tmod_eq_emod_of_nonneg (by omega)]; exact Int.emod_nonneg _ (by omega)
    rw [Int.toNat_of_nonneg this]
end Gb
namespace Gb
open Go Gx Go.Proofs
theorem mulT_ex {i j : Nat} (hi : i < 255) (hj : j < 255) : mulT (ex i) (ex j) = ex ((i + j) % 255) := by
  have a := (ex_lt i hi).1
  have b := (ex_lt j hj).1
  unfold mulT
  rw [if_neg (by omega), lg_ex i hi, lg_ex j hj]
theorem mulT_lt (x y : Nat) : mulT x y < 256 := by
  unfold mulT
  split
  · omega
  · exact (ex_lt _ (Nat.mod_lt _ (by omega))).2
theorem mulT_ne {x y : Nat} (hx : x ≠ 0) (hy : y ≠ 0) : mulT x y ≠ 0 := by
  unfold mulT
  rw [if_neg (by omega)]
  have := (ex_lt ((lg x + lg y) % 255) (Nat.mod_lt _ (by omega))).1
  omega
theorem lg_mulT {x y : Nat} (hx : x ≠ 0) (hy : y ≠ 0) : lg (mulT x y) = (lg x + lg y) % 255 := by
  unfold mulT
  rw [if_neg (by omega), lg_ex _ (Nat.mod_lt _ (by omega))]
theorem bnd {α β : Type} {x : Option α} {f : α → Option β} {v : α} {r : Option β} (h : x = some v) (k : f v = r) : x.bind f = r := by rw [h]; exact k
theorem jn {α R : Type} {j : α} {b : α → R} {r : R} (k : b j = r) : joinK j b = r := k
theorem ifp {α : Type} {c : Prop} [Decidable c] {a b r : α} (h : c) (k : a = r) : (if c then a else b) = r := by rw [if_pos h]; exact k
theorem ifn {α : Type} {c : Prop} [Decidable c] {a b r : α} (h : ¬ c) (k : b = r) : (if c then a else b) = r := by rw [if_neg h]; exact k
theorem gp {R : Type} {p : Prop} {x r : Option R} (h : p) (k : x = r) : guardP p x = r := by rw [guardP_true h]; exact k
end Gb
namespace Gb
open Go Gx Go.Proofs
theorem dbl_bit : ∀ b, b < 256 → dbl b = (b * 2 ^ 1) ^^^ (if b.testBit 7 then 391 else 0) := by decide +kernel
theorem xlc (a b c : Nat) : a ^^^ (b ^^^ c) = b ^^^ (a ^^^ c) := by rw [← Nat.xor_assoc, Nat.xor_comm a b, Nat.xor_assoc]
theorem mul_xor (a b i : Nat) : (a ^^^ b) * 2 ^ i = (a * 2 ^ i) ^^^ (b * 2 ^ i) := by
  rw [← Nat.shiftLeft_eq, ← Nat.shiftLeft_eq, ← Nat.shiftLeft_eq, Nat.shiftLeft_xor_distrib]
theorem dbl_xor (b : Nat) (hb : b < 256) (c : Nat) (hc : c < 256) : dbl (b ^^^ c) = dbl b ^^^ dbl c := by
  rw [dbl_bit b hb, dbl_bit c hc, dbl_bit _ (Nat.xor_lt_two_pow (n := 8) hb hc), mul_xor, Nat.testBit_xor]
  cases b.testBit 7 <;> cases c.testBit 7 <;> simp [Nat.xor_assoc, Nat.xor_comm, xlc]
theorem xor_lt {b c : Nat} (hb : b < 256) (hc : c < 256) : b ^^^ c < 256 := Nat.xor_lt_two_pow (n := 8) hb hc
def dp : Nat → Nat → Nat
  | 0, b => b
  | n + 1, b => dbl (dp n b)
theorem dp_lt (n : Nat) {b : Nat} (hb : b < 256) : dp n b < 256 := by
  induction n with
  | zero => exact hb
  | succ n ih => exact dbl_lt _ ih
theorem dp_xor (n : Nat) {b c : Nat} (hb : b < 256) (hc : c < 256) : dp n (b ^^^ c) = dp n b ^^^ dp n c := by
  induction n with
  | zero => rfl
  | succ n ih => simp only [dp]; rw [ih, dbl_xor _ (dp_lt n hb) _ (dp_lt n hc)]
theorem dp_zero (n : Nat) : dp n 0 = 0 := by
  induction n with
  | zero => rfl
  | succ n ih => simp only [dp]; rw [ih]; rfl
theorem dp_ex (n : Nat) {j : Nat} (hj : j < 255) : dp n (ex j) = ex ((j + n) % 255) := by
  induction n with
  | zero => simp only [dp, Nat.add_zero]; rw [Nat.mod_eq_of_lt hj]
  | succ n ih =>
    simp only [dp]; rw [ih]
    have hm : (j + n) % 255 < 255 := Nat.mod_lt _ (by omega)
    by_cases h : (j + n) % 255 = 254
    · rw [h, ex_last]
      have : (j + (n + 1)) % 255 = 0 := by omega
      rw [this]; rfl
    · rw [ex_succ _ (by omega)]
      congr 1; omega
theorem mulT_dp {a b : Nat} (ha : a ≠ 0) (hb : b < 256) : mulT a b = dp (lg a) b := by
  unfold mulT
  by_cases h : b = 0
  · subst h; rw [dp_zero]; simp
  · rw [if_neg (by omega)]
    have := dp_ex (lg a) (lg_lt b hb)
    rw [ex_lg b hb (by omega)] at this
    rw [this, Nat.add_comm]
theorem mulT_zero (b : Nat) : mulT 0 b = 0 := by simp [mulT]
theorem mulT_comm (a b : Nat) : mulT a b = mulT b a := by
  unfold mulT
  by_cases h : a = 0 <;> by_cases h' : b = 0 <;> simp [h, h', Nat.add_comm]
theorem mulT_xor {a b c : Nat} (hb : b < 256) (hc : c < 256) : mulT a (b ^^^ c) = mulT a b ^^^ mulT a c := by
  by_cases h : a = 0
  · subst h; simp [mulT_zero]
  · rw [mulT_dp h (xor_lt hb hc), mulT_dp h hb, mulT_dp h hc, dp_xor _ hb hc]
theorem mulT_assoc {a b c : Nat} : mulT (mulT a b) c = mulT a (mulT b c) := by
  by_cases h : a = 0
  · subst h; simp [mulT_zero]
  · by_cases h' : b = 0
    · subst h'; simp [mulT]
    · by_cases h'' : c = 0
      · subst h''; simp [mulT_comm _ 0, mulT_zero]
      · have e1 : mulT a b = ex ((lg a + lg b) % 255) := by unfold mulT; rw [if_neg (by omega)]
        have e2 : mulT b c = ex ((lg b + lg c) % 255) := by unfold mulT; rw [if_neg (by omega)]
        have n1 := mulT_ne h h'
        have n2 := mulT_ne h' h''
        unfold mulT at n1 n2 ⊢
        rw [if_neg (show ¬ (a = 0 ∨ b = 0) by omega)] at n1 ⊢
        rw [if_neg (show ¬ (b = 0 ∨ c = 0) by omega)] at n2 ⊢
        rw [if_neg (by omega), if_neg (by omega), lg_ex _ (Nat.mod_lt _ (by omega)), lg_ex _ (Nat.mod_lt _ (by omega))]
        congr 1; omega
theorem mulT_one {a : Nat} (ha : a < 256) : mulT a 1 = a := by
  by_cases h : a = 0
  · subst h; rfl
  · rw [mulT_dp h (by omega)]
    have := dp_ex (lg a) (j := 0) (by omega)
    rw [ex_zero, Nat.zero_add, Nat.mod_eq_of_lt (lg_lt a ha), ex_lg a ha (by omega)] at this
    exact this
end Gb
namespace Gb
open Go Gx Go.Proofs
def divT (a b : Nat) : Nat := if a = 0 then 0 else ex ((lg a + 255 - lg b) % 255)
theorem div_spec {k : Nat} (hk : 256 ≤ k) {h : AHeap} {b : Nat} (hf : Fld h b) (hb : b < h.next) {x y : Nat} (hx : x < 256) (hy : y < 256) :
    ∃ h', field_Field_Div k (DD k) (some ⟨b, 0, none⟩) x y h = some (((if y = 0 then (0, 30) else ((divT x y : Nat), 0)) : Int × Int), h') ∧ FS b h h' := by
  have f1 := FS.new hf hb (.cells [.int .i64 (x : Int), .int .i64 (y : Int)] 3 true 0)
  simp only [field_Field_Div]
  rw [is2 hk, inR_nat hx, inR_nat hy]
  simp only [Option.bind_some, Bool.and_self, Bool.not_true, Bool.false_eq_true, if_false]
  by_cases y0 : y = 0
  · subst y0
    exact ⟨_, rfl, f1⟩
  · have e1 : ((y : Int) == 0) = false := by simp; omega
    simp only [e1, Bool.false_eq_true, if_false, y0]
    unfold divT
    by_cases x0 : x = 0
    · subst x0
      exact ⟨_, rfl, f1⟩
    · have e0 : ((x : Int) == 0) = false := by simp; omega
      simp only [e0, Bool.false_eq_true, if_false, x0]
      obtain ⟨c, hm, ht⟩ := tables_spec hk f1.fld
      refine ⟨_, ?_, f1.trans (.made hm)⟩
      rw [ht]
      simp only [Option.bind_some]
      have l1 := lg_lt x hx
      have l2 := lg_lt y hy
      rw [idxA_of (by omega), idxA_of (by omega)]
      simp only [Option.bind_some]
      have a1 : 3 + 510 + (x : Int).toNat * 1 = 513 + x := by omega
      have a2 : 3 + 510 + (y : Int).toNat * 1 = 513 + y := by omega
      rw [a1, a2, log_at (c := c) (by simp) hm hx, log_at (c := c) (by simp) hm hy]
      simp only [Option.bind_some]
      rw [w64 ((lg x : Int) + 255) (by omega), w64 _ (by omega), idxA_of (by omega)]
      simp only [Option.bind_some]
      have a3 : 3 + 0 + ((lg x : Int) + 255 - (lg y : Int)).toNat * 1 = 3 + (lg x + 255 - lg y) := by omega
      rw [a3, exp_at (c := c) (by simp) hm (by omega)]
      have := (ex_lt ((lg x + 255 - lg y) % 255) (Nat.mod_lt _ (by omega))).2
      simp only [Option.bind_some]
      rw [w64 _ (by omega)]
theorem mul_div {x y : Nat} (hx : x < 256) (hy : y < 256) (y0 : y ≠ 0) : mulT (divT x y) y = x := by
  unfold divT
  by_cases x0 : x = 0
  · subst x0; simp [mulT_zero]
  · simp only [x0, if_false]
    have l1 := lg_lt x hx
    have l2 := lg_lt y hy
    have hy' := ex_lg y hy (by omega)
    have hx' := ex_lg x hx (by omega)
    have := mulT_ex (i := (lg x + 255 - lg y) % 255) (j := lg y) (Nat.mod_lt _ (by omega)) l2
    rw [hy'] at this
    rw [this]
    have e : ((lg x + 255 - lg y) % 255 + lg y) % 255 = lg x := by omega
    rw [e, hx']
theorem divT_lt {x y : Nat} : divT x y < 256 := by
  unfold divT
  split
  · omega
  · exact (ex_lt _ (Nat.mod_lt _ (by omega))).2
end Gb
namespace Gb
open Go Gx Go.Proofs
def rdS (i n : Nat) : Nat := if n.testBit i then n ^^^ (391 * 2 ^ (i - 8)) else n
end Gb
namespace Gb
open Go Gx Go.Proofs
theorem div_mul {q b : Nat} (hq : q < 256) (hb : b < 256) (b0 : b ≠ 0) : divT (mulT q b) b = q := by
  by_cases q0 : q = 0
  · subst q0; rw [mulT_zero]; rfl
  · unfold divT
    rw [if_neg (mulT_ne q0 b0), lg_mulT q0 b0]
    have l1 := lg_lt q hq
    have l2 := lg_lt b hb
    have : ((lg q + lg b) % 255 + 255 - lg b) % 255 = lg q := by omega
    rw [this, ex_lg q hq (by omega)]
end Gb
namespace Gb
open Go Gx Go.Proofs
def addL (a b : List UInt8) : List UInt8 := List.zipWith (· ^^^ ·) a b
def scaleL (c : Nat) (l : List UInt8) : List UInt8 := l.map fun x => UInt8.ofNat (mulT x.toNat c)
theorem xor_u8 (x y : UInt8) : Go.bits .xor .u8 (x.toNat : Int) (y.toNat : Int) = (((x ^^^ y).toNat : Nat) : Int) := by
  rw [xor8 x.toNat_lt y.toNat_lt, UInt8.toNat_xor]
theorem u8_lt (x : UInt8) : x.toNat < 256 := x.toNat_lt
theorem stB {h : AHeap} {b i : Nat} {sp : Option Nat} {l : List UInt8} {e : TypeId} (x : UInt8) (hi : i < l.length) :
    st1 ⟨b, i, sp⟩ (.int .u8 (x.toNat : Int)) (h.set b (outB encB e l)) = some (h.set b (outB encB e (l.set i x))) := by
  rw [stB_out get_out hi (u8_lt x), UInt8.ofNat_toNat]
  exact congrArg some set_out
theorem getD_of {α : Type} {l : List α} {i : Nat} {x d : α} (h : l[i]? = some x) : l[i]?.getD d = x := by rw [h]; rfl
theorem isome {α : Type} {l : List α} {i : Nat} (h : i < l.length) : ∃ x, l[i]? = some x := ⟨l[i], by simp [h]⟩
theorem new_out {S : Nat → Prop} {h : AHeap} {b : Nat} (B C : ABlk) (hb : b = h.next) : Chg S h ((h.new B).set b C) := by
  subst hb
  exact (Chg.new h B).beh (T := fun x => x = h.next) (.set (.inr rfl)) fun x hx e => by omega
theorem zeros_out {h : AHeap} {n : Nat} {e : TypeId} : (h.new (.cells (zerosL n [.int .u8 0]) e true 0)).get h.next = some (outB encB e (List.replicate n 0)) := by
  simp [outB, zeros_bytes]
theorem scaleL_length (c : Nat) (s : ByteArray) : (scaleL c (bl s)).length = s.size := by simp [scaleL, bl_length]
theorem FS.chg {b : Nat} {h h' : AHeap} (s : FS b h h') : Chg (· = b) h h' := ⟨s.nx, fun x hx hb => s.oth x hx hb⟩
theorem fldchg {S : Nat → Prop} {h h' : AHeap} {b : Nat} (f : Fld h b) (hb : b < h.next) (c : Chg S h h') (hs : ¬ S b) : Fld h' b := by
  obtain ⟨t, h1, h2⟩ := f
  exact ⟨t, by rw [c.oth b hb hs]; exact h1, h2⟩
theorem Fld.keeps {b : Nat} {h h' : AHeap} (f : Fld h b) (hb : b < h.next) (c : Keeps h h') : Fld h' b := by
  obtain ⟨t, h1, h2⟩ := f
  exact ⟨t, by rw [c.oth b hb (fun f => f)]; exact h1, h2⟩
theorem FS.keeps {b : Nat} {h h' : AHeap} (f : Fld h b) (hb : b < h.next) (c : Keeps h h') : FS b h h' :=
  ⟨c.nx, fun x hx _ => c.oth x hx fun f => f, f.keeps hb c⟩
theorem FS.out {b : Nat} {h h' : AHeap} (f : FS b h h') {B : Nat} {C : ABlk} (hB : h.next ≤ B) (hne : B ≠ b) : FS b h (h'.set B C) :=
  ⟨f.nx, fun x hx hb => by rw [AHeap.get_set, if_neg (by omega)]; exact f.oth x hx hb, by
    obtain ⟨t, h1, h2⟩ := f.fld
    exact ⟨t, by rw [AHeap.get_set, if_neg (fun e => hne e.symm)]; exact h1, h2⟩⟩
end Gb
namespace Gb
open Go Gx Go.Proofs
def mixL (ls : List ByteArray) (cs : List Int) (o : List UInt8) : List UInt8 := (ls.zip cs).foldl (fun o p => addL o (scaleL p.2.toNat (bl p.1))) o
def sames (n : Nat) (ls : List ByteArray) : Bool := ls.all fun s => s.size == n
def mixA (ls : List ByteArray) (cs : List Int) : ByteArray × Int :=
  if ls.length = cs.length then
    if sames (ls.headD ⟨#[]⟩).size ls then
      if cs.all inR then
        (⟨⟨mixL ls cs (List.replicate (ls.headD ⟨#[]⟩).size 0)⟩⟩, 0)
      else (⟨#[]⟩, 1)
    else (⟨#[]⟩, 4)
  else (⟨#[]⟩, 4)
theorem sames_drop {n : Nat} {ls : List ByteArray} {i : Nat} {s : ByteArray} (h : ls[i]? = some s) : sames n (ls.drop i) = ((s.size == n) && sames n (ls.drop (i + 1))) := by
  obtain ⟨hi, rfl⟩ := List.getElem?_eq_some_iff.1 h
  rw [List.drop_eq_getElem_cons hi]
  rfl
theorem head_of {ls : List ByteArray} {s : ByteArray} (h : ls[0]? = some s) : ls.headD ⟨#[]⟩ = s := by
  cases ls with
  | nil => simp at h
  | cons a t => simpa using h
theorem fmix_l2 (K : Nat) (D : CallF) (j) (bot) {l : Slc} {ls : List ByteArray} {h : AHeap} (R : Row encS h l ls) (hs : ls.length < 9223372036854775807) {n0 : Nat} (hn0 : ∀ s, ls[0]? = some s → s.size = n0) (f : Option Addr) (c : Slc) : ∀ (m i : Nat) (long : Int), i + m = ls.length →
    long = (if i = 0 then -1 else (n0 : Int)) →
    iterK bot (m + 1) (field_Field_Mix_l2b K D j) f l c long l (ls.length : Int) (i : Int) h = j f l c (if sames n0 (ls.drop i) then (if ls.length = 0 then -1 else (n0 : Int)) else -1) h
  | 0, i, long, hi, hl => by
    rw [iterK_s, field_Field_Mix_l2b]
    refine ifn (by simp; omega) ?_
    obtain rfl : i = ls.length := by omega
    rw [hl, List.drop_length]
    rfl
  | m + 1, i, long, hi, hl => by
    obtain ⟨s, hsi⟩ := isome (l := ls) (i := i) (by omega)
    obtain ⟨q, hq, hld⟩ := R.ldS hsi
    have ih := fmix_l2 K D j bot R hs hn0 f c m (i + 1) n0 (by omega) (by simp)
    have w : IntKind.wrap .i64 ((i : Int) + 1) = ((i + 1 : Nat) : Int) := by rw [w64 _ (by omega)]; omega
    rw [iterK_s, field_Field_Mix_l2b]
    refine ifp (by simp; omega) ?_
    refine jn ?_
    refine bnd hq (bnd hld ?_)
    rw [sames_drop hsi]
    by_cases i0 : i = 0
    · subst i0
      refine ifp (by simp) ?_
      have e := hn0 s hsi
      subst e
      dsimp only
      rw [w, ih]
      simp
    · refine ifn (by simp; omega) ?_
      rw [hl, if_neg i0]
      by_cases e : s.size = n0
      · refine ifn (by simp [e]) ?_
        dsimp only
        rw [w, ih, e]
        simp
      · refine ifp (by simp; omega) ?_
        have : (s.size == n0) = false := by simpa using e
        rw [this]
        rfl
theorem addL_scale {n c : Nat} {o s : List UInt8} (ho : o.length = n) (hs : s.length = n) :
    (List.range n).map (fun i => (o[i]?.getD 0) ^^^ (UInt8.ofNat (mulT (s[i]?.getD 0).toNat c))) = addL o (scaleL c s) := by
  apply List.ext_getElem?
  intro i
  simp only [addL, scaleL, List.getElem?_map, List.getElem?_zipWith]
  by_cases hi : i < n
  · simp [show i < o.length by omega, show i < s.length by omega, hi]
  · simp [show ¬ i < o.length by omega, hi]
theorem fmix_l1 (k : Nat) (D : CallF) (j) {B b n : Nat} {t : List Value} (s : ByteArray) (o : List UInt8) (cv : Nat) (hcv : cv < 256) (c : Slc) (i : Int) (y : Slc) (y1 y2 : Int) (h : AHeap)
    (ho : o.length = n) (hs : s.size = n) (hk : n < k) (hn : n < 9223372036854775807) (hB : B ≠ b) (ht : h.get b = some (.cells t 131 true 0)) (hm : Made t)
    (hc : ∀ l : List UInt8, ∃ q, idxL 1 c i = some q ∧ Gx.ldI .i64 q (h.set B (outB encB 5 l)) = some (cv : Int)) :
    field_Field_Mix_l1 k D j c ⟨some ⟨B, 0, some 0⟩, n, n⟩ (some ⟨b, 3, none⟩) i s y y1 y2 (n : Int) 0 (h.set B (outB encB 5 o)) =
      j c ⟨some ⟨B, 0, some 0⟩, n, n⟩ (some ⟨b, 3, none⟩) y y1 y2 (h.set B (outB encB 5 (addL o (scaleL cv (bl s))))) := by
  unfold field_Field_Mix_l1
  obtain ⟨bot, hbot⟩ := iterK_of (fun _ _ _ _ _ _ _ _ _ _ _ => none) (field_Field_Mix_l1b k D j) (show n + 1 ≤ k by omega)
  rw [hbot]
  have key := fill0 encB 5 B (fun i => (o[i]?.getD 0) ^^^ (UInt8.ofNat (mulT ((bl s)[i]?.getD 0).toNat cv))) o (h.set B (outB encB 5 o)) (by simp)
    (fun m p h => iterK bot (m + 1) (field_Field_Mix_l1b k D j) c ⟨some ⟨B, 0, some 0⟩, n, n⟩ (some ⟨b, 3, none⟩) i s y y1 y2 (n : Int) (p : Int) h) (fun h => j c ⟨some ⟨B, 0, some 0⟩, n, n⟩ (some ⟨b, 3, none⟩) y y1 y2 h)
    (fun m p l hp hl hlk => by
      rw [set_out]
      obtain ⟨x, hx⟩ := isome (l := bl s) (i := p) (by rw [bl_length]; omega)
      obtain ⟨z, hz⟩ := isome (l := o) (i := p) (by omega)
      have hx1 := u8_lt x
      obtain ⟨q, hq, hld⟩ := hc l
      have hzl := rdB_out (sp := none) (get_out (enc := encB) (e := 5) (l := l) (h := h) (B := B)) ((hlk p (Nat.le_refl _)).trans hz)
      rw [iterK_s, field_Field_Mix_l1b]
      refine ifp (by simp; omega) ?_
      refine jn ?_
      refine bnd (idxS_of hx) ?_
      refine bnd hq (bnd hld ?_)
      rw [w64 _ (by omega)]
      refine bnd (times_spec k D (c := t) (by rw [AHeap.get_set, if_neg (fun e => hB e.symm)]; exact ht) hm hx1 hcv) ?_
      refine bnd (idxL_out (by omega)) ?_
      refine bnd hzl ?_
      refine gp (fun H hH => by simp at hH; subst hH; exact bnd hzl rfl) ?_
      refine bnd (idxL_out (by omega)) ?_
      have hm := mulT_lt x.toNat cv
      rw [w8 _ (by omega)]
      have hu : ((mulT x.toNat cv : Nat) : Int) = ((UInt8.ofNat (mulT x.toNat cv)).toNat : Int) := by rw [UInt8.toNat_ofNat_of_lt' (by simpa using hm)]
      rw [hu, xor_u8]
      refine bnd (stB _ (by omega)) ?_
      rw [w64 _ (by omega), getD_of hx, getD_of hz, set_out]
      rfl)
    (fun h => by
      show iterK bot (0 + 1) _ _ _ _ _ _ _ _ _ _ _ _ = _
      rw [iterK_s, field_Field_Mix_l1b]
      exact ifn (by simp [ho]) rfl)
  rw [set_out, ho, addL_scale ho (by rw [bl_length]; exact hs)] at key
  exact key
theorem mixL_cons {i : Nat} {ls : List ByteArray} {cs : List Int} {s : ByteArray} {c : Int} (hs : ls[i]? = some s) (hc : cs[i]? = some c) (o : List UInt8) :
    mixL (ls.drop i) (cs.drop i) o = mixL (ls.drop (i + 1)) (cs.drop (i + 1)) (addL o (scaleL c.toNat (bl s))) := by
  obtain ⟨h1, rfl⟩ := List.getElem?_eq_some_iff.1 hs
  obtain ⟨h2, rfl⟩ := List.getElem?_eq_some_iff.1 hc
  rw [List.drop_eq_getElem_cons h1, List.drop_eq_getElem_cons h2]
  rfl
theorem all_get {cs : List Int} (h : cs.all inR = true) {i : Nat} {c : Int} (hc : cs[i]? = some c) : ∃ n : Nat, c = n ∧ n < 256 := by
  obtain ⟨h2, rfl⟩ := List.getElem?_eq_some_iff.1 hc
  exact inR_iff.1 (List.all_eq_true.1 h _ (List.getElem_mem h2))
theorem sames_get {n : Nat} {ls : List ByteArray} (h : sames n ls = true) {i : Nat} {s : ByteArray} (hs : ls[i]? = some s) : s.size = n := by
  obtain ⟨h2, rfl⟩ := List.getElem?_eq_some_iff.1 hs
  simpa using List.all_eq_true.1 h _ (List.getElem_mem h2)
theorem fmix_l0 (k : Nat) (D : CallF) (j) (bot) {B b n : Nat} {t : List Value} {l c : Slc} {ls : List ByteArray} {cs : List Int} (h : AHeap) (hk : n < k) (hn : n < 9223372036854775807) (hlen : ls.length = cs.length) (hls : ls.length < 9223372036854775807)
    (Rl : ∀ o, Row encS (h.set B (outB encB 5 o)) l ls) (Rc : ∀ o, Row encI (h.set B (outB encB 5 o)) c cs) (hsm : sames n ls = true) (hin : cs.all inR = true)
    (hB : B ≠ b) (ht : h.get b = some (.cells t 131 true 0)) (hm : Made t) : ∀ (m i : Nat) (o : List UInt8), i + m = ls.length → o.length = n →
    iterK bot (m + 1) (field_Field_Mix_l0b k D j) c ⟨some ⟨B, 0, some 0⟩, n, n⟩ (some ⟨b, 3, none⟩) l (ls.length : Int) (i : Int) (h.set B (outB encB 5 o)) =
      j ⟨some ⟨B, 0, some 0⟩, n, n⟩ (h.set B (outB encB 5 (mixL (ls.drop i) (cs.drop i) o)))
  | 0, i, o, hi, ho => by
    rw [iterK_s, field_Field_Mix_l0b]
    refine ifn (by simp; omega) ?_
    obtain rfl : i = ls.length := by omega
    rw [List.drop_length]
    rfl
  | m + 1, i, o, hi, ho => by
    obtain ⟨s, hsi⟩ := isome (l := ls) (i := i) (by omega)
    obtain ⟨x, hx⟩ := isome (l := cs) (i := i) (by omega)
    obtain ⟨q, hq, hld⟩ := (Rl o).ldS hsi
    obtain ⟨cv, rfl, hcv⟩ := all_get hin hx
    have hsz := sames_get hsm hsi
    have w : IntKind.wrap .i64 ((i : Int) + 1) = ((i + 1 : Nat) : Int) := by rw [w64 _ (by omega)]; omega
    rw [iterK_s, field_Field_Mix_l0b]
    refine ifp (by simp; omega) ?_
    refine jn ?_
    refine bnd hq (bnd hld ?_)
    rw [fmix_l1 k D _ s o cv hcv c i l ls.length i h ho hsz hk hn hB ht hm (fun l => (Rc l).ldI hx)]
    rw [w, fmix_l0 k D j bot h hk hn hlen hls Rl Rc hsm hin hB ht hm m (i + 1) _ (by omega) (by simp [addL, scaleL, bl_length, ho, hsz]), mixL_cons hsi hx]
    rfl
theorem mixL_length {n : Nat} : ∀ {ls : List ByteArray} {cs : List Int} {o : List UInt8}, sames n ls = true → o.length = n → (mixL ls cs o).length = n
  | [], cs, o, _, ho => by simpa [mixL] using ho
  | s :: ls, [], o, _, ho => by simpa [mixL] using ho
  | s :: ls, c :: cs, o, hs, ho => by
    simp only [sames, List.all_cons, Bool.and_eq_true, beq_iff_eq] at hs
    exact mixL_length (ls := ls) (cs := cs) (o := addL o (scaleL c.toNat (bl s))) hs.2 (by simp [addL, scaleL, bl_length, ho, hs.1])
theorem sames_nil {n : Nat} {ls : List ByteArray} (h : ls.length = 0) : sames n ls = true := by
  cases ls with
  | nil => rfl
  | cons _ _ => simp at h
theorem Row.fis {h : AHeap} {c : Slc} {cs : List Int} (R : Row encI h c cs) (K : Nat) (D : CallF) (j2 : AHeap → Option (Bool × AHeap)) (bot) (hsm : cs.length < 9223372036854775807) : ∀ (m i : Nat), i + m = cs.length →
    iterK bot (m + 1) (field_is_l0b K D j2) c (cs.length : Int) (i : Int) h = if (cs.drop i).all inR = true then j2 h else some (false, h)
  | 0, i, hi => by
    rw [iterK_s, field_is_l0b]
    refine ifn (by simp; omega) ?_
    rw [List.drop_eq_nil_of_le (by omega)]
    simp
  | m + 1, i, hi => by
    obtain ⟨x, hx⟩ := isome (l := cs) (i := i) (by omega)
    obtain ⟨q, hq, hld⟩ := R.ldI hx
    have ih := Row.fis R K D j2 bot hsm m (i + 1) (by omega)
    have w : IntKind.wrap .i64 ((i : Int) + 1) = ((i + 1 : Nat) : Int) := by rw [w64 _ (by omega)]; omega
    rw [iterK_s, field_is_l0b]
    refine ifp (by simp; omega) ?_
    refine bnd hq (bnd hld ?_)
    obtain ⟨h2, h3⟩ := List.getElem?_eq_some_iff.1 hx
    rw [List.drop_eq_getElem_cons h2, h3]
    simp only [joinK, List.all_cons]
    rw [w, ih]
    simp only [inR]
    by_cases c1 : x < 0
    · simp [c1]
    · by_cases c2 : x ≥ 256
      · simp [c1, c2]
      · simp [c1, c2]
theorem fis_spec {k : Nat} (D : CallF) {h : AHeap} {c : Slc} {cs : List Int} (R : Row encI h c cs) (hk : cs.length < k) (hsm : cs.length < 9223372036854775807) : field_is k D c h = some (cs.all inR, h) := by
  rw [field_is, joinK, field_is_l0]
  obtain ⟨bot, hbot⟩ := iterK_of (fun _ _ _ _ => none) (field_is_l0b k D fun h1 => some (true, h1)) (show cs.length + 1 ≤ k by omega)
  rw [hbot, R.1]
  have := Row.fis R k D (fun h1 => some (true, h1)) bot hsm cs.length 0 (by omega)
  rw [List.drop_zero] at this
  refine this.trans ?_
  cases cs.all inR <;> rfl
theorem fmix_spec {k : Nat} (hk : 256 ≤ k) {h : AHeap} {b : Nat} (hf : Fld h b) (hb : b < h.next) {l c : Slc} {ls : List ByteArray} {cs : List Int} (Rl : Row encS h l ls) (Rc : Row encI h c cs)
    (hlb : ∀ a, l.a = some a → ¬ a.block = b) (hcb : ∀ a, c.a = some a → ¬ a.block = b) (hkl : ls.length < k) (hkc : cs.length < k) (hkn : ∀ s ∈ ls, s.size < k)
    (hl : ls.length < 9223372036854775807) (hc : cs.length < 9223372036854775807) (hn : ∀ s ∈ ls, s.size ≤ 281474976710656) :
    ∃ h', field_Field_Mix k (DD k) (some ⟨b, 0, none⟩) l c h = some (mixA ls cs, h') ∧ FS b h h' := by
  unfold field_Field_Mix mixA
  rw [Rl.1, Rc.1]
  by_cases hlen : ls.length = cs.length
  · rw [if_pos hlen]
    obtain ⟨n, hnn⟩ : ∃ n, n = (ls.headD ⟨#[]⟩).size := ⟨_, rfl⟩
    have hnk : n < k ∧ n ≤ 281474976710656 := by
      cases ls with
      | nil => subst hnn; exact ⟨by show 0 < k; omega, by show 0 ≤ _; omega⟩
      | cons s t => simp at hnn; subst hnn; exact ⟨hkn s (by simp), hn s (by simp)⟩
    have l2 : ∀ j, field_Field_Mix_l2 k (DD k) j (some ⟨b, 0, none⟩) l c (-1) l (ls.length : Int) 0 h = j (some ⟨b, 0, none⟩) l c (if sames n ls then (if ls.length = 0 then -1 else (n : Int)) else -1) h := fun j => by
      unfold field_Field_Mix_l2
      obtain ⟨bot, hbot⟩ := iterK_of (fun _ _ _ _ _ _ _ _ => none) (field_Field_Mix_l2b k (DD k) j) (show ls.length + 1 ≤ k by omega)
      rw [hbot]
      have := fmix_l2 k (DD k) j bot Rl hl (n0 := n) (fun s e => by rw [hnn, head_of e]) (some ⟨b, 0, none⟩) c ls.length 0 (-1) (by omega) (by simp)
      rw [List.drop_zero] at this
      exact this
    rw [← hnn]
    by_cases hsm : sames n ls = true
    · simp only [hsm, if_true] at l2 ⊢
      have lgt : (decide ((if ls.length = 0 then (-1 : Int) else (n : Int)) < 0)) = decide (ls.length = 0) := by
        by_cases e : ls.length = 0
        · simp [e]
        · simp [e]
      have mx : (if (if ls.length = 0 then (-1 : Int) else (n : Int)) > 0 then (if ls.length = 0 then (-1 : Int) else (n : Int)) else 0) = (n : Int) := by
        by_cases e : ls.length = 0
        · have : n = 0 := by
            cases ls with
            | nil => exact hnn
            | cons _ _ => simp at e
          simp [e, this]
        · by_cases n0 : n = 0
          · simp [e, n0]
          · simp [e, Nat.pos_of_ne_zero n0]
      by_cases hin : cs.all inR = true
      · simp only [hin, if_true]
        obtain ⟨h1, hh1⟩ : ∃ h1, h1 = h.new (.cells (zerosL n [.int .u8 0]) 5 true 0) := ⟨_, rfl⟩
        have f1 : FS b h h1 := hh1 ▸ FS.new hf hb _
        obtain ⟨t, hm, ht⟩ := tables_spec hk f1.fld
        obtain ⟨h2, hh2⟩ : ∃ h2, h2 = h1.set b (.cells t 131 true 0) := ⟨_, rfl⟩
        have f2 : FS b h h2 := hh2 ▸ f1.trans (.made hm)
        have hne : h.next ≠ b := by omega
        have key : ∀ o, FS b h (h2.set h.next (outB encB 5 o)) := fun o => f2.out (Nat.le_refl _) hne
        refine ⟨h2.set h.next (outB encB 5 (mixL ls cs (List.replicate n 0))), ?_, key _⟩
        refine ifn (by simp [hlen]) ?_
        refine jn ?_
        rw [l2]
        refine jn ?_
        have tl : field_is k (DD k) c h = some (true, h) := hin ▸ fis_spec (DD k) Rc hkc hc
        have rest : ((field_is k (DD k) c h).bind fun r14 =>
          if (!r14.1) = true then some (((⟨#[]⟩ : ByteArray), (1 : Int)), r14.2)
          else
            if 0 ≤ (n : Int) ∧ (n : Int) ≤ (n : Int) ∧ (n : Int) ≤ 281474976710656 ∧ 1 * (n : Int) ≤ 281474976710656 then
              (field_Field_tables k (DD k) (some ⟨b, 0, none⟩) (AHeap.new r14.2 (.cells (zerosL ((n : Int)).toNat [.int .u8 0]) 5 true 0))).bind fun r16 =>
              joinK (fun (out17 : Slc) (h18 : AHeap) => (bytesOf h18 out17).bind fun s20 => some ((s20, (0 : Int)), h18)) fun j19 =>
              field_Field_Mix_l0 k (DD k) j19 c (⟨(some ⟨r14.2.next, 0, some 0⟩), ((n : Int)).toNat, ((n : Int)).toNat⟩ : Slc) r16.1 l (l.len : Int) 0 r16.2
            else none) = some ((⟨⟨mixL ls cs (List.replicate n 0)⟩⟩, 0), h2.set h.next (outB encB 5 (mixL ls cs (List.replicate n 0)))) := by
          refine bnd tl ?_
          refine ifn (by simp) ?_
          refine ifp (by omega) ?_
          rw [Int.toNat_natCast]
          refine bnd (hh1 ▸ ht) ?_
          refine jn ?_
          rw [← hh1, ← hh2]
          have get2 : h2.get h.next = some (outB encB 5 (List.replicate n 0)) := by
            rw [hh2, AHeap.get_set, if_neg hne, hh1]; exact zeros_out
          unfold field_Field_Mix_l0
          obtain ⟨bot, hbot⟩ := iterK_of (fun _ _ _ _ _ _ _ => none) (field_Field_Mix_l0b k (DD k) fun (out17 : Slc) (h18 : AHeap) => (bytesOf h18 out17).bind fun s20 => some ((s20, (0 : Int)), h18)) (show ls.length + 1 ≤ k by omega)
          rw [hbot, Rl.1]
          have := fmix_l0 k (DD k) (fun (out17 : Slc) (h18 : AHeap) => (bytesOf h18 out17).bind fun s20 => some ((s20, (0 : Int)), h18)) bot (B := h.next) (b := b) (n := n) (t := t) h2 hnk.1 (by omega) hlen hl
            (fun o => Rl.chg (key o).chg hlb) (fun o => Rc.chg (key o).chg hcb) hsm hin hne (by rw [hh2]; simp) hm ls.length 0 (List.replicate n 0) (by omega) (by simp)
          rw [set_self get2, List.drop_zero, List.drop_zero] at this
          refine this.trans ?_
          have hl := mixL_length (cs := cs) hsm (List.length_replicate (n := n) (a := (0 : UInt8)))
          have bo := bytesOf_out (cap := n) (sp := some 0) (get_out (enc := encB) (e := 5) (l := mixL ls cs (List.replicate n 0)) (h := h2) (B := h.next))
          rw [hl] at bo
          exact bnd bo rfl
        rw [← mx] at rest
        by_cases e : ls.length = 0
        · refine ifn (by rw [Rl.1]; simp [e]) ?_
          exact ifn (by simp) rest
        · refine ifp (by rw [Rl.1]; simp; omega) ?_
          exact ifn (by rw [lgt]; simp [e]) rest
      · refine ⟨h, ?_, FS.refl hf⟩
        refine ifn (by simp [hlen]) ?_
        refine jn ?_
        rw [l2]
        refine jn ?_
        rw [if_neg hin]
        have tl : field_is k (DD k) c h = some (false, h) := by rw [fis_spec (DD k) Rc hkc hc]; simp only [Bool.not_eq_true] at hin; rw [hin]
        by_cases e : ls.length = 0
        · refine ifn (by rw [Rl.1]; simp [e]) ?_
          refine ifn (by simp) ?_
          exact bnd tl (ifp rfl rfl)
        · refine ifp (by rw [Rl.1]; simp; omega) ?_
          refine ifn (by rw [lgt]; simp [e]) ?_
          exact bnd tl (ifp rfl rfl)
    · refine ⟨h, ?_, FS.refl hf⟩
      refine ifn (by simp [hlen]) ?_
      refine jn ?_
      rw [l2, if_neg hsm, if_neg hsm]
      refine jn ?_
      have e : ls.length ≠ 0 := fun e => hsm (sames_nil e)
      refine ifp (by rw [Rl.1]; simp; omega) ?_
      exact ifp (by simp) rfl
  · rw [if_neg hlen]
    exact ⟨h, ifp (by simp; omega) rfl, FS.refl hf⟩
end Gb
namespace Gb
open Go Gx Go.Proofs
abbrev markS : ByteArray := ⟨#[109, 97, 114, 107]⟩
structure Lent (h : AHeap) (s : Slc) (xs : List ByteArray) : Prop where
  row : Row encS h ⟨s.a, xs.length + 1, s.cap⟩ (xs ++ [markS])
  len : s.len = xs.length
  cap : xs.length + 1 ≤ s.cap
  sp : ∀ a, s.a = some a → spOk a.spot 1 = true
theorem Lent.keeps {h h' : AHeap} {s : Slc} {xs : List ByteArray} (L : Lent h s xs) (c : Keeps h h') : Lent h' s xs := ⟨L.row.keeps c, L.len, L.cap, L.sp⟩
theorem Lent.chg {S : Nat → Prop} {h h' : AHeap} {s : Slc} {xs : List ByteArray} (L : Lent h s xs) (c : Chg S h h') (hs : ∀ a, s.a = some a → ¬ S a.block) : Lent h' s xs := ⟨L.row.chg c hs, L.len, L.cap, L.sp⟩
theorem Lent.own {h : AHeap} {s : Slc} {xs : List ByteArray} (L : Lent h s xs) : Row encS h s xs := by
  have := Row.take L.row (cap' := s.cap)
  rw [← L.len] at this
  exact this
end Gb
namespace Gb
open Go Gx Go.Proofs
def mat (N : Nat) (f : Nat → Int) : List Int := (List.range N).map f
theorem mat_length (N : Nat) (f : Nat → Int) : (mat N f).length = N := by simp [mat]
theorem mat_get {N : Nat} {f : Nat → Int} {t : Nat} (h : t < N) : (mat N f)[t]? = some (f t) := by simp [mat, h]
theorem mat_congr {N : Nat} {f g : Nat → Int} (h : ∀ t, t < N → f t = g t) : mat N f = mat N g := by
  apply List.map_congr_left
  intro t ht
  exact h t (List.mem_range.1 ht)
def upd (f : Nat → Int) (t : Nat) (x : Int) : Nat → Int := fun s => if s = t then x else f s
theorem mat_set {N : Nat} {f : Nat → Int} {t : Nat} {x : Int} : (mat N f).set t x = mat N (upd f t x) := by
  apply List.ext_getElem?
  intro i
  rw [List.getElem?_set]
  by_cases e : t = i
  · subst e
    by_cases h : t < N
    · rw [if_pos rfl, mat_length, if_pos h, mat_get h]; simp [upd]
    · rw [if_pos rfl, mat_length, if_neg h]; simp [mat, h]
  · rw [if_neg e]
    by_cases h : i < N
    · rw [mat_get h, mat_get h]; simp only [upd]; rw [if_neg fun x => e x.symm]
    · simp [mat, h]
theorem mat_ext {N : Nat} {f g : Nat → Int} (h : ∀ t, t < N → f t = g t) : outB encI 3 (mat N f) = outB encI 3 (mat N g) := by rw [mat_congr h]
theorem stI_out {h : AHeap} {b t N : Nat} {sp : Option Nat} {f : Nat → Int} (x : Int) (hb : h.get b = some (outB encI 3 (mat N f))) (ht : t < N) :
    st1 ⟨b, t, sp⟩ (.int .i64 x) h = some (h.set b (outB encI 3 (mat N (upd f t x)))) := by
  have : st1 ⟨b, t, sp⟩ (.int .i64 x) h = some (h.set b (.cells (((mat N f).map encI).set t (.int .i64 x)) 3 true 0)) := st1_of hb (by simp [mat_length]; exact ht) rfl
  rw [this, ← mat_set]
  simp only [outB]
  congr 4
  rw [List.map_set]; rfl
def mcell (r c : Int) (s : Slc) : List Value := [.int .i64 r, .int .i64 c, .slice s.a s.len s.cap]
theorem decM3 (r c : Int) (s : Slc) : decC [.i .i64, .i .i64, .l] (mcell r c s) = some (r, (c, s)) := rfl
theorem ldM3 {h : AHeap} {b : Nat} {e : TypeId} {rw' : Bool} {fz : Nat} {r c : Int} {s : Slc} {sp : Option Nat} (hb : h.get b = some (.cells (mcell r c s) e rw' fz)) : ldA 3 ⟨b, 0, sp⟩ h = some (mcell r c s) := by
  simp [ldA, AHeap.rdL, hb, mcell]
theorem stM3 {h : AHeap} {b : Nat} {e : TypeId} {cs : List Value} {r c : Int} {s : Slc} {sp : Option Nat} (hb : h.get b = some (.cells cs e true 0)) (hl : cs.length = 3) :
    stL 3 ⟨b, 0, sp⟩ (mcell r c s) h = some (h.set b (.cells (mcell r c s) e true 0)) := by
  have : cs.drop 3 = [] := List.drop_eq_nil_of_le (by omega)
  simp [stL, AHeap.wrL, hb, mcell, hl, allOne, one, splice, this]
theorem ldI1 {h : AHeap} {b : Nat} {e : TypeId} {rw' : Bool} {fz : Nat} {r c : Int} {s : Slc} {sp : Option Nat} (hb : h.get b = some (.cells (mcell r c s) e rw' fz)) : ldI .i64 ⟨b, 1, sp⟩ h = some c := ldI_of hb rfl
theorem ldL2 {h : AHeap} {b : Nat} {e : TypeId} {rw' : Bool} {fz : Nat} {r c : Int} {s : Slc} {sp : Option Nat} (hb : h.get b = some (.cells (mcell r c s) e rw' fz)) : ldL ⟨b, 2, sp⟩ h = some s := by
  simp [ldL, AHeap.rd1, hb, mcell, decL]
def whole (b N : Nat) (sp : Option Nat := some 0) : Slc := ⟨some ⟨b, 0, sp⟩, N, N⟩
theorem whole_row {h : AHeap} {b N : Nat} {sp : Option Nat} {f : Nat → Int} (hb : h.get b = some (outB encI 3 (mat N f))) (hn : b < h.next) : Row encI h (whole b N sp) (mat N f) := by
  have := Row.of_block (enc := encI) (h := h) (xs := mat N f) (b := b) (o := 0) (sp := sp) (cap := N) (c := (mat N f).map encI) (e := 3) (r := true) (fz := 0) hb hn (fun i x hx => by rw [Nat.zero_add, List.getElem?_map, hx]; rfl)
  rw [mat_length] at this
  exact this
theorem mk_out {h : AHeap} {n : Nat} : (AHeap.new h (.cells (zerosL n [.int .i64 0]) 3 true 0)) = h.new (outB encI 3 (mat n fun _ => 0)) := by
  congr 1
  simp [outB, zerosL, mat, encI, List.map_const']
theorem blank_spec (k : Nat) (D : CallF) (r c : Nat) (h : AHeap) (hs : r * c ≤ 100000) :
    ∃ h', matrix_blank k D r c h = some (((r : Int), (c : Int), whole (h.next + 1) (r * c)), h') ∧ Keeps h h' ∧ h'.next = h.next + 2 ∧ h'.get (h.next + 1) = some (outB encI 3 (mat (r * c) fun _ => 0)) := by
  obtain ⟨g1, hg1⟩ : ∃ g1, g1 = h.new (.cells [.int .i64 0, .int .i64 0, .slice none 0 0] 84 true 0) := ⟨_, rfl⟩
  obtain ⟨g2, hg2⟩ : ∃ g2, g2 = g1.new (outB encI 3 (mat (r * c) fun _ => 0)) := ⟨_, rfl⟩
  have e : IntKind.wrap .i64 ((r : Int) * (c : Int)) = ((r * c : Nat) : Int) := by
    rw [show (r : Int) * (c : Int) = ((r * c : Nat) : Int) by simp]
    exact w64 _ (by omega)
  have n1 : g1.next = h.next + 1 := by rw [hg1]; rfl
  have n2 : g2.next = h.next + 2 := by rw [hg2]; simp [n1]
  have hb : g2.get h.next = some (.cells [.int .i64 0, .int .i64 0, .slice none 0 0] 84 true 0) := by
    rw [hg2, AHeap.get_new, if_neg (by omega), hg1]; simp
  refine ⟨g2.set h.next (.cells (mcell r c (whole (h.next + 1) (r * c))) 84 true 0), ?_, ?_, by simp [n2], ?_⟩
  · unfold matrix_blank
    dsimp only
    rw [e]
    refine ifp (by omega) ?_
    rw [Int.toNat_natCast, ← hg1, mk_out, ← hg2]
    have st := stM3 (r := r) (c := c) (s := whole (h.next + 1) (r * c)) (sp := none) hb rfl
    rw [n1]
    refine bnd st ?_
    refine bnd (ldM3 (r := r) (c := c) (s := whole (h.next + 1) (r * c)) (e := 84) (rw' := true) (fz := 0) (by simp)) ?_
    exact bnd (decM3 _ _ _) rfl
  · have k2 : Keeps h g2 := (hg1 ▸ Keeps.new h _ : Keeps h g1).trans (hg2 ▸ Keeps.new g1 _)
    exact k2.beh (T := (· = h.next)) (.set (.inr rfl)) fun x hx e => by
      have e : x = h.next := e
      omega
  · rw [AHeap.get_set, if_neg (by omega), hg2, AHeap.get_new, n1, if_pos rfl]
theorem subL_whole {b N lo hi : Nat} {sp : Option Nat} (hsp : spOk sp 1 = true) (h1 : lo < hi) (h2 : hi ≤ N) : Gx.subL 1 (whole b N sp) (some (lo : Int)) (some (hi : Int)) (some (hi : Int)) = some ⟨some ⟨b, lo, some 0⟩, hi - lo, hi - lo⟩ := by
  unfold whole
  simp only [Gx.subL, Option.getD_some]
  rw [if_pos (by omega), if_pos hsp, if_neg (by omega)]
  simp
def rowOf (b c i : Nat) : Slc := ⟨some ⟨b, i * c, some 0⟩, c, c⟩
theorem row_specS (k : Nat) (D : CallF) {r c b i : Nat} {sp : Option Nat} (hsp : spOk sp 1 = true) (h : AHeap) (hi : i < r) (hc : 0 < c) (hs : r * c ≤ 100000) :
    ∃ h', matrix_M_row k D (r, c, whole b (r * c) sp) i h = some (rowOf b c i, h') ∧ Keeps h h' ∧ h'.next = h.next + 1 := by
  refine ⟨h.new (.cells (mcell r c (whole b (r * c) sp)) 84 true 0), ?_, Keeps.new h _, rfl⟩
  have hb : (h.new (.cells (mcell r c (whole b (r * c) sp)) 84 true 0)).get h.next = some (.cells (mcell r c (whole b (r * c) sp)) 84 true 0) := by simp
  have le : (i + 1) * c ≤ r * c := Nat.mul_le_mul_right c hi
  have e0 : (i + 1) * c = i * c + c := Nat.succ_mul i c
  have e1 : IntKind.wrap .i64 ((i : Int) * (c : Int)) = ((i * c : Nat) : Int) := by
    rw [show (i : Int) * (c : Int) = ((i * c : Nat) : Int) by simp]
    exact w64 _ (by omega)
  have r1 : r ≤ r * c := Nat.le_mul_of_pos_right r hc
  have e2 : IntKind.wrap .i64 (IntKind.wrap .i64 ((i : Int) + 1) * (c : Int)) = (((i + 1) * c : Nat) : Int) := by
    rw [w1 (by omega), show ((i + 1 : Nat) : Int) * (c : Int) = (((i + 1) * c : Nat) : Int) by simp]
    exact w64 _ (by omega)
  unfold matrix_M_row
  dsimp only
  refine bnd (ldL2 hb) (bnd (ldI1 hb) (bnd (ldI1 hb) (bnd (ldI1 hb) ?_)))
  rw [e1, e2]
  have sub := subL_whole (b := b) (N := r * c) (sp := sp) (lo := i * c) (hi := (i + 1) * c) hsp (by omega) le
  rw [e0, Nat.add_sub_cancel_left, ← e0] at sub
  exact bnd sub rfl
theorem row_spec (k : Nat) (D : CallF) {r c b i : Nat} (h : AHeap) (hi : i < r) (hc : 0 < c) (hs : r * c ≤ 100000) :
    ∃ h', matrix_M_row k D (r, c, whole b (r * c)) i h = some (rowOf b c i, h') ∧ Keeps h h' ∧ h'.next = h.next + 1 := row_specS k D rfl h hi hc hs
theorem rowOf_idx {b c i j : Nat} (hj : j < c) : idxL 1 (rowOf b c i) (j : Int) = some ⟨b, i * c + j, none⟩ := by
  unfold rowOf
  rw [idxL_of (by omega)]
  simp
end Gb
namespace Gb
open Go Gx Go.Proofs
structure Spc (h : AHeap) (sb fb : Nat) : Prop where
  sp : h.get sb = some (.cells [.pointer (some ⟨fb, 0, none⟩)] 111 true 0)
  fld : Fld h fb
  ne : sb ≠ fb
  ls : sb < h.next
  lf : fb < h.next
theorem Spc.chg {S : Nat → Prop} {h h' : AHeap} {sb fb : Nat} (s : Spc h sb fb) (c : Chg S h h') (h1 : ¬ S sb) (h2 : ¬ S fb) : Spc h' sb fb :=
  ⟨by rw [c.oth sb s.ls h1]; exact s.sp, fldchg s.fld s.lf c h2, s.ne, Nat.lt_of_lt_of_le s.ls c.nx, Nat.lt_of_lt_of_le s.lf c.nx⟩
theorem Spc.keeps {h h' : AHeap} {sb fb : Nat} (s : Spc h sb fb) (c : Keeps h h') : Spc h' sb fb := s.chg c (fun f => f) (fun f => f)
theorem Spc.fs {h h' : AHeap} {sb fb : Nat} (s : Spc h sb fb) (c : FS fb h h') : Spc h' sb fb :=
  ⟨by rw [c.oth sb s.ls s.ne]; exact s.sp, c.fld, s.ne, Nat.lt_of_lt_of_le s.ls c.nx, Nat.lt_of_lt_of_le s.lf c.nx⟩
theorem Spc.ld {h : AHeap} {sb fb : Nat} (s : Spc h sb fb) : ldP ⟨sb, 0, none⟩ h = some (some ⟨fb, 0, none⟩) := by simp [ldP, AHeap.rd1, s.sp, decP]
theorem mnew_spec (k : Nat) (D : CallF) (h : AHeap) : ∃ h', matrix_New k D h = some (some ⟨h.next + 1, 0, none⟩, h') ∧ Keeps h h' ∧ Spc h' (h.next + 1) h.next ∧ h'.next = h.next + 2 := by
  refine ⟨(h.new (.cells fresh 131 true 0)).new (.cells [.pointer (some ⟨h.next, 0, none⟩)] 111 true 0), ?_, (Keeps.new h _).trans (Keeps.new _ _), ⟨by simp, ?_, by omega, by simp, by simp; omega⟩, by simp⟩
  · unfold matrix_New
    exact bnd (new_spec _ _ _) rfl
  · exact ⟨fresh, by simp, .inl rfl⟩
def cau (k : Nat) (t : Nat) : Int := if t / k < k then (if t / k = t % k then 1 else 0) else (divT 1 ((t / k) ^^^ (t % k)) : Nat)
theorem pos_div {i j k : Nat} (hj : j < k) : (i * k + j) / k = i := by
  rw [Nat.add_comm, Nat.add_mul_div_right _ _ (by omega), Nat.div_eq_of_lt hj, Nat.zero_add]
theorem pos_mod {i j k : Nat} (hj : j < k) : (i * k + j) % k = j := by
  rw [Nat.add_comm, Nat.add_mul_mod_self_right, Nat.mod_eq_of_lt hj]
theorem cau_at {i j k : Nat} (hj : j < k) : cau k (i * k + j) = if i < k then (if i = j then (1 : Int) else 0) else ((divT 1 (i ^^^ j) : Nat) : Int) := by
  unfold cau
  rw [pos_div hj, pos_mod hj]
theorem xor_ne {i j : Nat} (h : i ≠ j) : i ^^^ j ≠ 0 := fun e => h (by
  have : i ^^^ (i ^^^ j) = i := by rw [e, Nat.xor_zero]
  rw [← Nat.xor_assoc, Nat.xor_self, Nat.zero_xor] at this
  exact this.symm)
theorem xor64' {i j : Nat} (hi : i < 256) (hj : j < 256) : Go.bits .xor .i64 (i : Int) (j : Int) = ((i ^^^ j : Nat) : Int) := xor64 (by omega) (by omega)
structure Fil (H0 : AHeap) (B ob sb fb N : Nat) (r c : Int) (e : TypeId) (f : Nat → Int) (h : AHeap) : Prop where
  blk : h.get B = some (outB encI 3 (mat N f))
  obk : h.get ob = some (.cells (mcell r c (whole B N)) e true 0)
  spc : Spc h sb fb
  lb : B < h.next
  lo : ob < h.next
  ne : B ≠ ob ∧ B ≠ sb ∧ B ≠ fb ∧ ob ≠ fb ∧ ob ≠ sb
  ch : Chg (fun x => x = B ∨ x = fb) H0 h
theorem Fil.keeps {H0 : AHeap} {B ob sb fb N : Nat} {r c : Int} {e : TypeId} {f : Nat → Int} {h h' : AHeap} (F : Fil H0 B ob sb fb N r c e f h) (k : Keeps h h') : Fil H0 B ob sb fb N r c e f h' :=
  ⟨by rw [k.oth B F.lb (fun f => f)]; exact F.blk, by rw [k.oth ob F.lo (fun f => f)]; exact F.obk, F.spc.keeps k, Nat.lt_of_lt_of_le F.lb k.nx, Nat.lt_of_lt_of_le F.lo k.nx, F.ne, F.ch.trans (Chg.keeps k)⟩
theorem Fil.fs {H0 : AHeap} {B ob sb fb N : Nat} {r c : Int} {e : TypeId} {f : Nat → Int} {h h' : AHeap} (F : Fil H0 B ob sb fb N r c e f h) (k : FS fb h h') : Fil H0 B ob sb fb N r c e f h' :=
  ⟨by rw [k.oth B F.lb F.ne.2.2.1]; exact F.blk, by rw [k.oth ob F.lo F.ne.2.2.2.1]; exact F.obk, F.spc.fs k, Nat.lt_of_lt_of_le F.lb k.nx, Nat.lt_of_lt_of_le F.lo k.nx, F.ne, F.ch.trans (k.chg.wk fun x _ e => .inr e)⟩
theorem Fil.put {H0 : AHeap} {B ob sb fb N : Nat} {r c : Int} {e : TypeId} {f : Nat → Int} {h : AHeap} (F : Fil H0 B ob sb fb N r c e f h) (g : Nat → Int) : Fil H0 B ob sb fb N r c e g (h.set B (outB encI 3 (mat N g))) :=
  ⟨by simp, by rw [AHeap.get_set, if_neg (fun x => F.ne.1 x.symm)]; exact F.obk, F.spc.chg (Chg.set (S := (· = B)) (.inr rfl)) (fun x => F.ne.2.1 x.symm) (fun x => F.ne.2.2.1 x.symm), F.lb, F.lo, F.ne, F.ch.trans (Chg.set (.inr (.inl rfl)))⟩
theorem Fil.congr {H0 : AHeap} {B ob sb fb N : Nat} {r c : Int} {e : TypeId} {f g : Nat → Int} {h : AHeap} (F : Fil H0 B ob sb fb N r c e f h) (hg : ∀ t, t < N → f t = g t) : Fil H0 B ob sb fb N r c e g h :=
  ⟨by rw [← mat_ext hg]; exact F.blk, F.obk, F.spc, F.lb, F.lo, F.ne, F.ch⟩
theorem cau_l1 {k0 : Nat} (hk : 1000 ≤ k0) {H0 : AHeap} {B ob sb fb k R i : Nat} (hk1 : 0 < k) (hR : R ≤ 255) (hkR : k ≤ R) (hi : i < R) (y : Option Addr) (a b : Int) : ∀ (m j : Nat) (h : AHeap), j + m = k → Fil H0 B ob sb fb (R * k) R k 84 (fun s => if s < i * k + j then cau k s else 0) h →
    ∃ h', Fil H0 B ob sb fb (R * k) R k 84 (fun s => if s < i * k + k then cau k s else 0) h' ∧
      ∀ jj bot, iterK bot (m + 1) (matrix_Space_Cauchy_l1b k0 (DD k0) jj) (some ⟨sb, 0, none⟩) (k : Int) y (some ⟨ob, 0, none⟩) (i : Int) a b (k : Int) (j : Int) h = jj (some ⟨sb, 0, none⟩) (k : Int) y (some ⟨ob, 0, none⟩) a b h' := by
  intro m
  induction m with
  | zero =>
    intro j h hj F
    obtain rfl : j = k := by omega
    exact ⟨h, F, fun jj bot => by rw [iterK_s, matrix_Space_Cauchy_l1b]; exact ifn (by simp) rfl⟩
  | succ m ih =>
    intro j h hj F
    have hj' : j < k := by omega
    have le : (i + 1) * k ≤ R * k := Nat.mul_le_mul_right k hi
    have e0 : (i + 1) * k = i * k + k := Nat.succ_mul i k
    have hN : R * k ≤ 100000 := Nat.le_trans (Nat.mul_le_mul hR (Nat.le_trans hkR hR)) (by omega)
    have hpos : i * k + j < R * k := by omega
    have step : ∀ (h1 : AHeap) (x : Int), Fil H0 B ob sb fb (R * k) R k 84 (fun s => if s < i * k + j then cau k s else 0) h1 → x = cau k (i * k + j) → Fil H0 B ob sb fb (R * k) R k 84 (fun s => if s < i * k + (j + 1) then cau k s else 0) (h1.set B (outB encI 3 (mat (R * k) (upd (fun s => if s < i * k + j then cau k s else 0) (i * k + j) x)))) := fun h1 x F1 hx =>
      (F1.put _).congr fun t ht => by
        simp only [upd]
        by_cases e : t = i * k + j
        · rw [if_pos e, if_pos (by omega), hx, e]
        · rw [if_neg e]
          by_cases e2 : t < i * k + j
          · rw [if_pos e2, if_pos (by omega)]
          · rw [if_neg e2, if_neg (by omega)]
    have w := w1 (i := j) (by omega)
    by_cases c1 : i < k
    · by_cases c2 : i = j
      · -- one
        obtain ⟨h1, e1, k1, _⟩ := row_spec k0 (DD k0) (r := R) (c := k) (b := B) (i := i) h hi hk1 hN
        have F1 := F.keeps k1
        obtain ⟨h', F', e'⟩ := ih (j + 1) _ (by omega) (step h1 1 F1 (by rw [cau_at hj', if_pos c1, if_pos c2]))
        refine ⟨h', F', fun jj bot => ?_⟩
        rw [iterK_s, matrix_Space_Cauchy_l1b]
        refine ifp (by simp; omega) ?_
        refine jn (jn ?_)
        refine ifp (by simp; omega) ?_
        refine ifp (by simp [c2]) ?_
        refine bnd rfl (bnd (ldM3 F.obk) (bnd (decM3 _ _ _) ?_))
        refine bnd e1 ?_
        refine bnd (rowOf_idx hj') ?_
        refine bnd (stI_out 1 F1.blk hpos) ?_
        dsimp only
        rw [w]
        exact e' jj bot
      · -- nothing
        have F1 : Fil H0 B ob sb fb (R * k) R k 84 (fun s => if s < i * k + (j + 1) then cau k s else 0) h := F.congr fun t ht => by
          by_cases e : t = i * k + j
          · rw [if_neg (by omega), if_pos (by omega), e]
            rw [cau_at hj', if_pos c1, if_neg c2]
          · by_cases e2 : t < i * k + j
            · rw [if_pos e2, if_pos (by omega)]
            · rw [if_neg e2, if_neg (by omega)]
        obtain ⟨h', F', e'⟩ := ih (j + 1) h (by omega) F1
        refine ⟨h', F', fun jj bot => ?_⟩
        rw [iterK_s, matrix_Space_Cauchy_l1b]
        refine ifp (by simp; omega) ?_
        refine jn (jn ?_)
        refine ifp (by simp; omega) ?_
        refine ifn (by simp; omega) ?_
        refine ifn (by simp; omega) ?_
        dsimp only
        rw [w]
        exact e' jj bot
    · -- a quotient
      obtain ⟨h1, e1, k1, _⟩ := row_spec k0 (DD k0) (r := R) (c := k) (b := B) (i := i) h hi hk1 hN
      have F1 := F.keeps k1
      have x0 := xor_ne (i := i) (j := j) (by omega)
      have xlt : i ^^^ j < 256 := xor_lt (by omega) (by omega)
      obtain ⟨h2, e2, s2⟩ := div_spec (k := k0) (by omega) F1.spc.fld F1.spc.lf (x := 1) (y := i ^^^ j) (by omega) xlt
      rw [if_neg x0] at e2
      have F2 := F1.fs s2
      obtain ⟨h', F', e'⟩ := ih (j + 1) _ (by omega) (step h2 (divT 1 (i ^^^ j) : Nat) F2 (by rw [cau_at hj', if_neg c1]))
      refine ⟨h', F', fun jj bot => ?_⟩
      rw [iterK_s, matrix_Space_Cauchy_l1b]
      refine ifp (by simp; omega) ?_
      refine jn (jn ?_)
      refine ifn (by simp; omega) ?_
      refine ifn (by simp) ?_
      refine ifp (by simp; omega) ?_
      refine bnd rfl (bnd (ldM3 F.obk) (bnd (decM3 _ _ _) ?_))
      refine bnd e1 ?_
      refine bnd rfl (bnd F1.spc.ld ?_)
      refine gp (fun H hH => by simp at hH; subst hH; exact bnd F.spc.ld rfl) ?_
      rw [xor64' (by omega) (by omega)]
      refine bnd e2 ?_
      refine bnd (rowOf_idx hj') ?_
      refine bnd (stI_out _ F2.blk hpos) ?_
      dsimp only
      rw [w]
      exact e' jj bot
theorem cau_l0 {k0 : Nat} (hk : 1000 ≤ k0) {H0 : AHeap} {B ob sb fb k R : Nat} (hk1 : 0 < k) (hR : R ≤ 255) (hkR : k ≤ R) (y : Option Addr) : ∀ (m i : Nat) (h : AHeap), i + m = R → Fil H0 B ob sb fb (R * k) R k 84 (fun s => if s < i * k then cau k s else 0) h →
    ∃ h', Fil H0 B ob sb fb (R * k) R k 84 (cau k) h' ∧
      ∀ jj bot, iterK bot (m + 1) (matrix_Space_Cauchy_l0b k0 (DD k0) jj) (some ⟨sb, 0, none⟩) (k : Int) y (some ⟨ob, 0, none⟩) (R : Int) (i : Int) h = jj y (some ⟨ob, 0, none⟩) h' := by
  intro m
  induction m with
  | zero =>
    intro i h hi F
    obtain rfl : i = R := by omega
    refine ⟨h, F.congr fun t ht => by rw [if_pos ht], fun jj bot => ?_⟩
    rw [iterK_s, matrix_Space_Cauchy_l0b]; exact ifn (by simp) rfl
  | succ m ih =>
    intro i h hi F
    obtain ⟨h1, F1, e1⟩ := cau_l1 hk hk1 hR hkR (show i < R by omega) y (R : Int) (i : Int) k 0 h (by omega) F
    have e0 : (i + 1) * k = i * k + k := Nat.succ_mul i k
    obtain ⟨h', F', e'⟩ := ih (i + 1) h1 (by omega) (by rw [e0]; exact F1)
    refine ⟨h', F', fun jj bot => ?_⟩
    rw [iterK_s, matrix_Space_Cauchy_l0b]
    refine ifp (by simp; omega) ?_
    refine jn ?_
    unfold matrix_Space_Cauchy_l1
    obtain ⟨bot1, hbot1⟩ := iterK_of (fun _ _ _ _ _ _ _ _ _ _ => none) (matrix_Space_Cauchy_l1b k0 (DD k0) _) (show k + 1 ≤ k0 by omega)
    rw [hbot1]
    refine (e1 _ bot1).trans ?_
    rw [w1 (by omega)]
    exact e' jj bot
structure MadeM (h h' : AHeap) (fb B N : Nat) (f : Nat → Int) : Prop where
  blk : h'.get B = some (outB encI 3 (mat N f))
  lb : B < h'.next
  nb : h.next ≤ B
  ch : Chg (· = fb) h h'
theorem cauchy_spec {k0 : Nat} (hk : 1000 ≤ k0) {h : AHeap} {sb fb k m : Nat} (S : Spc h sb fb) (hk1 : 0 < k) (hR : k + m ≤ 255) :
    ∃ h' B, matrix_Space_Cauchy k0 (DD k0) (some ⟨sb, 0, none⟩) k m h = some (((((k + m : Nat) : Int), (k : Int), whole B ((k + m) * k)), 0), h') ∧ Spc h' sb fb ∧ MadeM h h' fb B ((k + m) * k) (cau k) := by
  obtain ⟨g1, hg1⟩ : ∃ g1, g1 = h.new (.cells [.int .i64 0, .int .i64 0, .slice none 0 0] 84 true 0) := ⟨_, rfl⟩
  have k1 : Keeps h g1 := hg1 ▸ Keeps.new h _
  have n1 : g1.next = h.next + 1 := by rw [hg1]; rfl
  have y1 : g1.get h.next = some (.cells [.int .i64 0, .int .i64 0, .slice none 0 0] 84 true 0) := by rw [hg1]; simp
  have hN : (k + m) * k ≤ 100000 := Nat.le_trans (Nat.mul_le_mul hR (show k ≤ 255 by omega)) (by omega)
  obtain ⟨g2, e2, k2, n2, b2⟩ := blank_spec k0 (DD k0) (k + m) k g1 hN
  obtain ⟨g3, hg3⟩ : ∃ g3, g3 = g2.new (.cells [.int .i64 0, .int .i64 0, .slice none 0 0] 84 true 0) := ⟨_, rfl⟩
  have k3 : Keeps g2 g3 := hg3 ▸ Keeps.new g2 _
  have n3 : g3.next = g2.next + 1 := by rw [hg3]; rfl
  have o3 : g3.get g2.next = some (.cells [.int .i64 0, .int .i64 0, .slice none 0 0] 84 true 0) := by rw [hg3]; simp
  obtain ⟨g4, hg4⟩ : ∃ g4, g4 = g3.set g2.next (.cells (mcell ((k + m : Nat) : Int) k (whole (g1.next + 1) ((k + m) * k))) 84 true 0) := ⟨_, rfl⟩
  have n4 : g4.next = g3.next := by rw [hg4]; rfl
  have st3 : stL 3 ⟨g2.next, 0, none⟩ (mcell ((k + m : Nat) : Int) k (whole (g1.next + 1) ((k + m) * k))) g3 = some g4 := by rw [hg4]; exact stM3 o3 rfl
  have k04 : Keeps h g4 := ((k1.trans k2).trans k3).beh (T := (· = g2.next)) (hg4 ▸ Chg.set (.inr rfl)) fun x hx e => by
    have e : x = g2.next := e
    omega
  have S4 := S.keeps k04
  have b4 : g4.get (g1.next + 1) = some (outB encI 3 (mat ((k + m) * k) fun _ => 0)) := by
    rw [hg4, AHeap.get_set, if_neg (by omega), k3.oth _ (by omega) (fun f => f)]; exact b2
  have y4 : g4.get h.next = some (.cells [.int .i64 0, .int .i64 0, .slice none 0 0] 84 true 0) := by
    rw [hg4, AHeap.get_set, if_neg (by omega), k3.oth _ (by omega) (fun f => f), k2.oth _ (by omega) (fun f => f)]; exact y1
  have F4 : Fil g4 (g1.next + 1) g2.next sb fb ((k + m) * k) ((k + m : Nat) : Int) k 84 (fun s => if s < 0 * k then cau k s else 0) g4 := by
    have := S.ls; have := S.lf
    refine ⟨by rw [mat_ext (g := fun _ => 0) (fun t ht => by rw [if_neg (by omega)])]; exact b4, by rw [hg4]; simp, S4, by omega, by omega, ⟨by omega, by omega, by omega, by omega, by omega⟩, .refl _ _⟩
  obtain ⟨g5, F5, e5⟩ := cau_l0 hk hk1 hR (Nat.le_add_right k m) (some ⟨h.next, 0, none⟩) (k + m) 0 g4 (by omega) F4
  have y5 : g5.get h.next = some (.cells [.int .i64 0, .int .i64 0, .slice none 0 0] 84 true 0) := by
    rw [F5.ch.oth h.next (by omega) (fun e => by have := S.lf; omega)]; exact y4
  refine ⟨g5.set h.next (.cells (mcell ((k + m : Nat) : Int) k (whole (g1.next + 1) ((k + m) * k))) 84 true 0), g1.next + 1, ?_, ?_, ?_⟩
  · unfold matrix_Space_Cauchy
    have w : IntKind.wrap .i64 ((k : Int) + (m : Int)) = ((k + m : Nat) : Int) := by rw [w64 _ (by omega)]; omega
    have w2 : IntKind.wrap .i64 (255 - (k : Int)) = 255 - (k : Int) := w64 _ (by omega)
    dsimp only
    rw [← hg1]
    refine jn ?_
    refine ifn (by simp; omega) ?_
    refine ifn (by rw [decide_eq_true_eq]; omega) ?_
    refine ifn (by simp; omega) ?_
    rw [w2]
    refine ifn (by simp; omega) ?_
    rw [w]
    refine bnd e2 ?_
    dsimp only
    rw [← hg3]
    refine bnd st3 ?_
    refine jn ?_
    unfold matrix_Space_Cauchy_l0
    obtain ⟨bot, hbot⟩ := iterK_of (fun _ _ _ _ _ _ _ => none) (matrix_Space_Cauchy_l0b k0 (DD k0) _) (show (k + m) + 1 ≤ k0 by omega)
    rw [hbot]
    refine (e5 _ bot).trans ?_
    refine bnd rfl (bnd (ldM3 F5.obk) (bnd (decM3 _ _ _) ?_))
    refine bnd rfl ?_
    refine bnd (stM3 (r := ((k + m : Nat) : Int)) (c := k) (s := whole (g1.next + 1) ((k + m) * k)) y5 rfl) ?_
    refine bnd rfl ?_
    refine bnd (ldM3 (r := ((k + m : Nat) : Int)) (c := k) (s := whole (g1.next + 1) ((k + m) * k)) (e := 84) (rw' := true) (fz := 0) (by simp)) ?_
    exact bnd (decM3 _ _ _) rfl
  · exact F5.spc.chg (Chg.set (S := (· = h.next)) (.inr rfl)) (fun e => by have := S.ls; have e : sb = h.next := e; omega) (fun e => by have := S.lf; have e : fb = h.next := e; omega)
  · refine ⟨by rw [AHeap.get_set, if_neg (by omega)]; exact F5.blk, F5.lb, by omega, ?_⟩
    have c1 : Chg (· = fb) h g5 := (Chg.keeps k04).beh F5.ch fun x hx e => by
      rcases e with e | e
      · omega
      · exact e
    exact c1.beh (T := (· = h.next)) (.set (.inr rfl)) fun x hx e => by
      have e : x = h.next := e
      omega
structure MadeR (h h' : AHeap) (B N : Nat) (f : Nat → Int) : Prop where
  blk : h'.get B = some (outB encI 3 (mat N f))
  lb : B < h'.next
  nb : h.next ≤ B
  ch : Keeps h h'
end Gb
namespace Gb
open Go Gx Go.Proofs
def nilS : Slc := ⟨none, 0, 0⟩
structure Both (h h' : AHeap) (s : Slc) (xs : List Int) : Prop where
  row : Row encI h' s xs
  off : ∀ a, s.a = some a → h.next ≤ a.block
theorem MadeM.row {h h' : AHeap} {fb B N : Nat} {f : Nat → Int} (M : MadeM h h' fb B N f) : Row encI h' (whole B N) (mat N f) := whole_row M.blk M.lb
theorem MadeR.row {h h' : AHeap} {B N : Nat} {f : Nat → Int} (M : MadeR h h' B N f) : Row encI h' (whole B N) (mat N f) := whole_row M.blk M.lb
theorem mvar {h : AHeap} {e : TypeId} {r c : Int} {s : Slc} : ∃ h', stL 3 ⟨h.next, 0, none⟩ (mcell r c s) (h.new (.cells [.int .i64 0, .int .i64 0, .slice none 0 0] e true 0)) = some h' ∧ Keeps h h' ∧ h'.next = h.next + 1 ∧ h'.get h.next = some (.cells (mcell r c s) e true 0) := by
  refine ⟨_, stM3 (cs := [.int .i64 0, .int .i64 0, .slice none 0 0]) (e := e) (by simp) rfl, ?_, by simp, by simp⟩
  exact new_out _ _ rfl
end Gb
namespace Gb
open Go Gx Go.Proofs
def matN (N : Nat) (g : Nat → Nat) : List Int := mat N fun t => (g t : Int)
structure Mx (h : AHeap) (B N : Nat) (g : Nat → Nat) : Prop where
  blk : h.get B = some (outB encI 3 (matN N g))
  lt : B < h.next
  el : ∀ t, t < N → g t < 256
theorem Mx.chg {S : Nat → Prop} {h h' : AHeap} {B N : Nat} {g : Nat → Nat} (m : Mx h B N g) (c : Chg S h h') (hs : ¬ S B) : Mx h' B N g := ⟨by rw [c.oth B m.lt hs]; exact m.blk, Nat.lt_of_lt_of_le m.lt c.nx, m.el⟩
theorem Mx.keeps {h h' : AHeap} {B N : Nat} {g : Nat → Nat} (m : Mx h B N g) (c : Keeps h h') : Mx h' B N g := m.chg c fun f => f
theorem Mx.congr {h : AHeap} {B N : Nat} {g g' : Nat → Nat} (m : Mx h B N g) (e : ∀ t, t < N → g t = g' t) : Mx h B N g' :=
  ⟨by rw [m.blk]; unfold matN; rw [mat_ext fun t ht => by rw [e t ht]], m.lt, fun t ht => by rw [← e t ht]; exact m.el t ht⟩
theorem Mx.row {h : AHeap} {B N : Nat} {sp : Option Nat} {g : Nat → Nat} (m : Mx h B N g) : Row encI h (whole B N sp) (matN N g) := whole_row m.blk m.lt
theorem Mx.rd {h : AHeap} {B N t : Nat} {sp : Option Nat} {g : Nat → Nat} (m : Mx h B N g) (ht : t < N) : ldI .i64 ⟨B, t, sp⟩ h = some (g t : Int) := by
  refine ldI_of m.blk ?_
  rw [List.getElem?_map, matN, mat_get ht]; rfl
def elemB (x : Int) : Bool := !(decide (x < 0) || decide (x ≥ 256))
def chk (r c : Int) (xs : List Int) : Int := if r < 1 ∨ c < 1 ∨ r > 255 ∨ c > 255 then 1 else if (xs.length : Int) ≠ r * c then 4 else if xs.all elemB then 0 else 1
end Gb
namespace Gb
open Go Gx Go.Proofs
abbrev BF (B fb : Nat) : Nat → Prop := fun x => x = B ∨ x = fb
structure Row1 (h h' : AHeap) (B N sb fb : Nat) (g : Nat → Nat) : Prop where
  mx : Mx h' B N g
  spc : Spc h' sb fb
  ch : Chg (BF B fb) h h'
def divR (c i b : Nat) (g : Nat → Nat) : Nat → Nat := fun t => if t / c = i then divT (g t) b else g t
def swapR (c i k : Nat) (g : Nat → Nat) : Nat → Nat := fun t => if t / c = i then g (k * c + t % c) else if t / c = k then g (i * c + t % c) else g t
end Gb
namespace Gb
open Go Gx Go.Proofs
def leadN (C j : Nat) (g : Nat → Nat) : Nat → Nat → Nat
  | 0, i => i
  | m + 1, i => if g (i * C + j) = 0 then leadN C j g m (i + 1) else i
theorem leadN_le (C j : Nat) (g : Nat → Nat) : ∀ m i, i ≤ leadN C j g m i ∧ leadN C j g m i ≤ i + m
  | 0, i => ⟨Nat.le_refl _, Nat.le_refl _⟩
  | m + 1, i => by
    unfold leadN
    split
    · have := leadN_le C j g m (i + 1); omega
    · omega
theorem leadN_ne (C j : Nat) (g : Nat → Nat) : ∀ m i, leadN C j g m i < i + m → g (leadN C j g m i * C + j) ≠ 0
  | 0, i, h => by unfold leadN at h; omega
  | m + 1, i, h => by
    unfold leadN at h ⊢
    split
    · rename_i e; rw [if_pos e] at h; exact leadN_ne C j g m (i + 1) (by omega)
    · assumption
def elimG (C r j : Nat) (g : Nat → Nat) : Nat → Nat := fun t => if t / C = r then g t else g t ^^^ mulT (g (r * C + t % C)) (g (t / C * C + j))
def elimU (C C2 r j : Nat) (g u : Nat → Nat) : Nat → Nat := fun t => if t / C2 = r then u t else u t ^^^ mulT (u (r * C2 + t % C2)) (g (t / C2 * C + j))
def stepG (C j l r : Nat) (g : Nat → Nat) : Nat → Nat := let g1 := swapR C l r g; elimG C r j (divR C r (g1 (r * C + j)) g1)
def stepU (C C2 j l r : Nat) (g u : Nat → Nat) : Nat → Nat := let g1 := swapR C l r g; elimU C C2 r j (divR C r (g1 (r * C + j)) g1) (divR C2 r (g1 (r * C + j)) (swapR C2 l r u))
def stepsN (R C C2 : Nat) : Nat → Nat → Nat → (Nat → Nat) → (Nat → Nat) → Nat × (Nat → Nat) × (Nat → Nat)
  | 0, _, r, g, u => (r, g, u)
  | m + 1, j, r, g, u => if r < R then
      let l := leadN C j g (R - r) r
      if l = R then stepsN R C C2 m (j + 1) r g u else stepsN R C C2 m (j + 1) (r + 1) (stepG C j l r g) (stepU C C2 j l r g u)
    else (r, g, u)
structure Dist (B B2 oa ou sb fb : Nat) : Prop where
  d1 : B ≠ B2
  d2 : B ≠ oa
  d3 : B ≠ ou
  d4 : B ≠ sb
  d5 : B ≠ fb
  e2 : B2 ≠ oa
  e3 : B2 ≠ ou
  e4 : B2 ≠ sb
  e5 : B2 ≠ fb
  f1 : oa ≠ fb
  f2 : ou ≠ fb
structure SS (H0 : AHeap) (B B2 oa ou sb fb R C C2 : Nat) (sp sp2 : Option Nat) (g u : Nat → Nat) (h : AHeap) : Prop where
  a : Mx h B (R * C) g
  b : Mx h B2 (R * C2) u
  ca : h.get oa = some (.cells (mcell R C (whole B (R * C) sp)) 84 true 0)
  cb : h.get ou = some (.cells (mcell R C2 (whole B2 (R * C2) sp2)) 84 true 0)
  spc : Spc h sb fb
  la : oa < h.next
  lb : ou < h.next
  ch : Chg (fun x => x = B ∨ x = B2 ∨ x = fb) H0 h
section
variable {H0 : AHeap} {B B2 oa ou sb fb R C C2 : Nat} {sp sp2 : Option Nat} {g u g' u' : Nat → Nat} {h h' : AHeap}
theorem SS.keeps (s : SS H0 B B2 oa ou sb fb R C C2 sp sp2 g u h) (k : Keeps h h') : SS H0 B B2 oa ou sb fb R C C2 sp sp2 g u h' :=
  ⟨s.a.keeps k, s.b.keeps k, by rw [k.oth _ s.la (fun f => f)]; exact s.ca, by rw [k.oth _ s.lb (fun f => f)]; exact s.cb, s.spc.keeps k, Nat.lt_of_lt_of_le s.la k.nx, Nat.lt_of_lt_of_le s.lb k.nx, s.ch.trans (Chg.keeps k)⟩
theorem SS.congr (s : SS H0 B B2 oa ou sb fb R C C2 sp sp2 g u h) (e1 : ∀ t, t < R * C → g t = g' t) (e2 : ∀ t, t < R * C2 → u t = u' t) : SS H0 B B2 oa ou sb fb R C C2 sp sp2 g' u' h :=
  ⟨s.a.congr e1, s.b.congr e2, s.ca, s.cb, s.spc, s.la, s.lb, s.ch⟩
end
theorem le_row {i R c : Nat} (hi : i < R) : i * c + c ≤ R * c := by have := Nat.mul_le_mul_right c (show i + 1 ≤ R from hi); rw [Nat.succ_mul] at this; exact this
end Gb
namespace Gb
open Go Gx Go.Proofs
theorem divR_el {c i b N : Nat} {g : Nat → Nat} (h : ∀ t, t < N → g t < 256) : ∀ t, t < N → divR c i b g t < 256 := fun t ht => by
  unfold divR
  split
  · exact divT_lt
  · exact h t ht
end Gb
namespace Gb
open Go Gx Go.Proofs
structure InM (h : AHeap) (s : Slc) (xs : List Int) : Prop where
  row : Row encI h s xs
  own : xs ≠ [] → ∃ B sp, s = whole B xs.length sp ∧ spOk sp 1 = true ∧ h.get B = some (outB encI 3 xs) ∧ B < h.next
theorem InM.chg {S : Nat → Prop} {h h' : AHeap} {s : Slc} {xs : List Int} (i : InM h s xs) (c : Chg S h h') (hs : ∀ a, s.a = some a → ¬ S a.block) : InM h' s xs :=
  ⟨i.row.chg c hs, fun hx => by
    obtain ⟨B, sp, rfl, h1, h2, h3⟩ := i.own hx
    exact ⟨B, sp, rfl, h1, by rw [c.oth B h3 (hs _ rfl)]; exact h2, Nat.lt_of_lt_of_le h3 c.nx⟩⟩
theorem InM.keeps {h h' : AHeap} {s : Slc} {xs : List Int} (i : InM h s xs) (c : Keeps h h') : InM h' s xs := i.chg c fun _ _ f => f
theorem InM.mx {h : AHeap} {s : Slc} {N : Nat} {g : Nat → Nat} (i : InM h s (matN N g)) (hN : N ≠ 0) (he : ∀ t, t < N → g t < 256) : ∃ B sp, s = whole B N sp ∧ spOk sp 1 = true ∧ Mx h B N g := by
  have hl : (matN N g).length = N := mat_length N _
  obtain ⟨B, sp, h1, h2, h3, h4⟩ := i.own (fun e => hN (by rw [← hl, e]; rfl))
  rw [hl] at h1
  exact ⟨B, sp, h1, h2, h3, h4, he⟩
abbrev MRes := (Int × Int × List Int) × Int
structure Out (h h' : AHeap) (res : (Int × Int × Slc) × Int) (p : MRes) : Prop where
  r : res.1.1 = p.1.1
  c : res.1.2.1 = p.1.2.1
  code : res.2 = p.2
  inm : InM h' res.1.2.2 p.1.2.2
  off : ∀ a, res.1.2.2.a = some a → h.next ≤ a.block
def noM (code : Int) : MRes := ((0, 0, []), code)
theorem InM.nil (h : AHeap) : InM h nilS [] := ⟨Row.nil _ _ _ _, fun h => absurd rfl h⟩
theorem Out.no {h h' : AHeap} (code : Int) : Out h h' ((0, 0, nilS), code) (noM code) := ⟨rfl, rfl, rfl, .nil h', fun a ha => by cases ha⟩
def oneN (n t : Nat) : Nat := if t / n = t % n then 1 else 0
end Gb
namespace Gb
open Go Gx Go.Proofs
structure Dist3 (O BA BB oa ob oo sb fb : Nat) : Prop where
  oBA : O ≠ BA
  oBB : O ≠ BB
  ooa : O ≠ oa
  oob : O ≠ ob
  ooo : O ≠ oo
  osb : O ≠ sb
  ofb : O ≠ fb
  fBA : BA ≠ fb
  fBB : BB ≠ fb
  foa : oa ≠ fb
  fob : ob ≠ fb
  foo : oo ≠ fb
structure S3 (H0 : AHeap) (O BA BB oa ob oo sb fb R C C2 : Nat) (sa sb' : Option Nat) (ga gb f : Nat → Nat) (h : AHeap) : Prop where
  a : Mx h BA (R * C) ga
  b : Mx h BB (C * C2) gb
  o : Mx h O (R * C2) f
  ca : h.get oa = some (.cells (mcell R C (whole BA (R * C) sa)) 84 true 0)
  cb : h.get ob = some (.cells (mcell C C2 (whole BB (C * C2) sb')) 84 true 0)
  co : h.get oo = some (.cells (mcell R C2 (whole O (R * C2))) 84 true 0)
  spc : Spc h sb fb
  la : oa < h.next
  lb : ob < h.next
  lo : oo < h.next
  ch : Chg (BF O fb) H0 h
section
variable {H0 : AHeap} {O BA BB oa ob oo sb fb R C C2 : Nat} {sa sb' : Option Nat} {ga gb f f' : Nat → Nat} {h h' : AHeap}
theorem S3.keeps (s : S3 H0 O BA BB oa ob oo sb fb R C C2 sa sb' ga gb f h) (k : Keeps h h') : S3 H0 O BA BB oa ob oo sb fb R C C2 sa sb' ga gb f h' :=
  ⟨s.a.keeps k, s.b.keeps k, s.o.keeps k, by rw [k.oth _ s.la (fun f => f)]; exact s.ca, by rw [k.oth _ s.lb (fun f => f)]; exact s.cb, by rw [k.oth _ s.lo (fun f => f)]; exact s.co, s.spc.keeps k, Nat.lt_of_lt_of_le s.la k.nx, Nat.lt_of_lt_of_le s.lb k.nx, Nat.lt_of_lt_of_le s.lo k.nx, s.ch.trans (Chg.keeps k)⟩
theorem S3.op (D : Dist3 O BA BB oa ob oo sb fb) (s : S3 H0 O BA BB oa ob oo sb fb R C C2 sa sb' ga gb f h) (r : Row1 h h' O (R * C2) sb fb f') : S3 H0 O BA BB oa ob oo sb fb R C C2 sa sb' ga gb f' h' :=
  ⟨s.a.chg r.ch (fun e => e.elim (fun e => D.oBA e.symm) D.fBA), s.b.chg r.ch (fun e => e.elim (fun e => D.oBB e.symm) D.fBB), r.mx, by rw [r.ch.oth _ s.la (fun e => e.elim (fun e => D.ooa e.symm) D.foa)]; exact s.ca, by rw [r.ch.oth _ s.lb (fun e => e.elim (fun e => D.oob e.symm) D.fob)]; exact s.cb,
    by rw [r.ch.oth _ s.lo (fun e => e.elim (fun e => D.ooo e.symm) D.foo)]; exact s.co, r.spc, Nat.lt_of_lt_of_le s.la r.ch.nx, Nat.lt_of_lt_of_le s.lb r.ch.nx, Nat.lt_of_lt_of_le s.lo r.ch.nx, s.ch.trans r.ch⟩
theorem S3.congr (s : S3 H0 O BA BB oa ob oo sb fb R C C2 sa sb' ga gb f h) (e : ∀ t, t < R * C2 → f t = f' t) : S3 H0 O BA BB oa ob oo sb fb R C C2 sa sb' ga gb f' h :=
  ⟨s.a, s.b, s.o.congr e, s.ca, s.cb, s.co, s.spc, s.la, s.lb, s.lo, s.ch⟩
end
end Gb
namespace Gb
open Go Gx Go.Proofs
structure SI (H0 : AHeap) (B ob R C : Nat) (sp : Option Nat) (g : Nat → Nat) (h : AHeap) : Prop where
  m : Mx h B (R * C) g
  c : h.get ob = some (.cells (mcell R C (whole B (R * C) sp)) 94 true 0)
  lo : ob < h.next
  ne : ob ≠ B
  ch : Chg (· = B) H0 h
section
variable {H0 : AHeap} {B ob R C : Nat} {sp : Option Nat} {g g' : Nat → Nat} {h h' : AHeap}
theorem SI.keeps (s : SI H0 B ob R C sp g h) (k : Keeps h h') : SI H0 B ob R C sp g h' :=
  ⟨s.m.keeps k, by rw [k.oth _ s.lo (fun f => f)]; exact s.c, Nat.lt_of_lt_of_le s.lo k.nx, s.ne, s.ch.trans (Chg.keeps k)⟩
theorem SI.congr (s : SI H0 B ob R C sp g h) (e : ∀ t, t < R * C → g t = g' t) : SI H0 B ob R C sp g' h := ⟨s.m.congr e, s.c, s.lo, s.ne, s.ch⟩
end
end Gb
namespace Gb
open Go Gx Go.Proofs
structure In1 (h : AHeap) (O ob R C : Nat) (s : Slc) (e : TypeId) (g : Nat → Nat) : Prop where
  row : Row encI h s (matN (R * C) g)
  cel : h.get ob = some (.cells (mcell R C s) e true 0)
  lt : ob < h.next
  ne : ob ≠ O
  ap : ∀ a, s.a = some a → ¬ a.block = O
  el : ∀ t, t < R * C → g t < 256
structure Ou1 (H0 : AHeap) (O oo R C : Nat) (e : TypeId) (f : Nat → Nat) (h : AHeap) : Prop where
  o : Mx h O (R * C) f
  cel : h.get oo = some (.cells (mcell R C (whole O (R * C))) e true 0)
  lt : oo < h.next
  ne : oo ≠ O
  ch : Chg (· = O) H0 h
section
variable {H0 : AHeap} {O ob R C : Nat} {s : Slc} {e : TypeId} {f f' g : Nat → Nat} {h h' : AHeap}
theorem In1.chg (i : In1 h O ob R C s e g) (c : Chg (· = O) h h') : In1 h' O ob R C s e g :=
  ⟨i.row.chg c i.ap, by rw [c.oth _ i.lt i.ne]; exact i.cel, Nat.lt_of_lt_of_le i.lt c.nx, i.ne, i.ap, i.el⟩
theorem In1.keeps (i : In1 h O ob R C s e g) (c : Keeps h h') : In1 h' O ob R C s e g := i.chg (Chg.keeps c)
theorem Ou1.keeps (i : Ou1 H0 O ob R C e f h) (c : Keeps h h') : Ou1 H0 O ob R C e f h' :=
  ⟨i.o.keeps c, by rw [c.oth _ i.lt (fun f => f)]; exact i.cel, Nat.lt_of_lt_of_le i.lt c.nx, i.ne, i.ch.trans (Chg.keeps c)⟩
theorem Ou1.congr (i : Ou1 H0 O ob R C e f h) (q : ∀ t, t < R * C → f t = f' t) : Ou1 H0 O ob R C e f' h := ⟨i.o.congr q, i.cel, i.lt, i.ne, i.ch⟩
end
section
variable {k0 : Nat} {H0 : AHeap} {O oa ob oo R C C2 : Nat} {sA sB : Slc} {ga gb f : Nat → Nat}
end
end Gb
namespace Gb
open Go Gx Go.Proofs
section
variable {k0 : Nat} {H0 : AHeap} {O oa oo R C BA : Nat} {sA : Slc} {sp : Option Nat} {g : Nat → Nat}
end
end Gb
namespace Gb
open Go Gx Go.Proofs
def pickF (C : Nat) (g : Nat → Nat) (w : Nat → Nat) : Nat → Nat := fun t => g (w (t / C) * C + t % C)
section
variable {k0 : Nat} {H0 : AHeap} {O oa oo R C : Nat} {sA rs : Slc} {rows : List Int} {g : Nat → Nat}
theorem stS2 {h : AHeap} {b : Nat} {e : TypeId} {r c : Int} {s s' : Slc} {sp : Option Nat} (hb : h.get b = some (.cells (mcell r c s) e true 0)) : st1 ⟨b, 2, sp⟩ (.slice s'.a s'.len s'.cap) h = some (h.set b (.cells (mcell r c s') e true 0)) := by
  rw [st1_of hb (by simp [mcell]) rfl]
  rfl
structure PK (H0 : AHeap) (base oo C n : Nat) (w : Nat → Nat) (g : Nat → Nat) (i : Nat) (h : AHeap) (s : Slc) : Prop where
  ch : Chg (fun x => base ≤ x) H0 h
  co : h.get oo = some (.cells (mcell n C s) 84 true 0)
  lo : oo < h.next
  bo : base ≤ oo
  acc : (s = nilS ∧ i = 0) ∨ ∃ b, Grown encI 3 h b s (matN (i * C) (pickF C g w)) ∧ base ≤ b ∧ b < h.next ∧ b ≠ oo
end
end Gb
namespace Gb
open Go Gx Go.Proofs
theorem div_scl {x b : Nat} (hx : x < 256) (hb : b < 256) (b0 : b ≠ 0) : mulT x (divT 1 b) = divT x b := by
  have h1 : mulT (mulT x (divT 1 b)) b = x := by rw [mulT_assoc, mul_div (by omega) hb b0, mulT_one hx]
  have := div_mul (q := mulT x (divT 1 b)) (b := b) (mulT_lt _ _) hb b0
  rw [h1] at this
  exact this.symm
structure SR (H0 : AHeap) (B B2 oa ol ou yb R : Nat) (s : Slc) (sp sp2 : Option Nat) (g u : Nat → Nat) (h : AHeap) : Prop where
  a : Mx h B (R * R) g
  b : Mx h B2 (R * R) u
  ca : h.get oa = some (.cells (mcell R R s) 94 true 0)
  cl : h.get ol = some (.cells (mcell R R (whole B (R * R) sp)) 94 true 0)
  cu : h.get ou = some (.cells (mcell R R (whole B2 (R * R) sp2)) 94 true 0)
  cy : h.get yb = some (.cells (mcell 0 0 nilS) 94 true 0)
  la : oa < h.next
  ll : ol < h.next
  lu : ou < h.next
  ly : yb < h.next
  ch : Chg (fun x => x = B ∨ x = B2) H0 h
structure DR (B B2 oa ol ou yb : Nat) : Prop where
  bb : B ≠ B2
  a1 : oa ≠ B
  l1 : ol ≠ B
  u1 : ou ≠ B
  y1 : yb ≠ B
  a2 : oa ≠ B2
  l2 : ol ≠ B2
  u2 : ou ≠ B2
  y2 : yb ≠ B2
section
variable {H0 : AHeap} {B B2 oa ol ou yb R : Nat} {s : Slc} {sp sp2 : Option Nat} {g u g' u' : Nat → Nat} {h h' : AHeap}
theorem SR.keeps (S : SR H0 B B2 oa ol ou yb R s sp sp2 g u h) (k : Keeps h h') : SR H0 B B2 oa ol ou yb R s sp sp2 g u h' :=
  ⟨S.a.keeps k, S.b.keeps k, by rw [k.oth _ S.la (fun f => f)]; exact S.ca, by rw [k.oth _ S.ll (fun f => f)]; exact S.cl, by rw [k.oth _ S.lu (fun f => f)]; exact S.cu, by rw [k.oth _ S.ly (fun f => f)]; exact S.cy,
    Nat.lt_of_lt_of_le S.la k.nx, Nat.lt_of_lt_of_le S.ll k.nx, Nat.lt_of_lt_of_le S.lu k.nx, Nat.lt_of_lt_of_le S.ly k.nx, S.ch.trans (Chg.keeps k)⟩
theorem SR.congr (S : SR H0 B B2 oa ol ou yb R s sp sp2 g u h) (e1 : ∀ t, t < R * R → g t = g' t) (e2 : ∀ t, t < R * R → u t = u' t) : SR H0 B B2 oa ol ou yb R s sp sp2 g' u' h :=
  ⟨S.a.congr e1, S.b.congr e2, S.ca, S.cl, S.cu, S.cy, S.la, S.ll, S.lu, S.ly, S.ch⟩
end
section
variable {k0 : Nat} {H0 : AHeap} {B B2 oa ol ou yb R : Nat} {s : Slc} {sp sp2 : Option Nat} {g u : Nat → Nat}
end
end Gb
namespace Gb
open Go Gx
end Gb
namespace Gb
open Go Gx Go.Proofs
end Gb
namespace Gb
open Go Gx
theorem toNat_ofNat (n : Nat) : (UInt8.ofNat n).toNat = n % 256 := by simp
end Gb
namespace Gb
open Go Gx Go.Proofs
theorem ldI_at {h : AHeap} {b o : Nat} {sp : Option Nat} {c : List Value} {e : TypeId} {r : Bool} {fz : Nat} {k : IntKind} {x : Int} (hb : h.get b = some (.cells c e r fz)) (hc : c[o]? = some (.int k x)) : ldI k ⟨b, o, sp⟩ h = some x := by
  simp [ldI, AHeap.rd1, hb, hc, decI]
theorem ldA_at {h : AHeap} {b n : Nat} {sp : Option Nat} {c : List Value} {e : TypeId} {r : Bool} {fz : Nat} (hb : h.get b = some (.cells c e r fz)) (hc : c.length = n) : ldA n ⟨b, 0, sp⟩ h = some c := by
  subst hc; exact rdL_all hb
end Gb
namespace Gb
open Go Gx Go.Proofs
def Rdr (h : AHeap) (b : Nat) (s : ByteArray) (e : Int) : Prop := h.get b = some (.cells [.string s, .int .i64 e] 108 true 0)
theorem Rdr.chg {S : Nat → Prop} {h h' : AHeap} {b : Nat} {s : ByteArray} {e : Int} (R : Rdr h b s e) (c : Chg S h h') (hb : ¬ S b) (hl : b < h.next) : Rdr h' b s e := (c.oth b hl hb).trans R
end Gb
namespace Gb
open Go Gx Go.Proofs
theorem ba_app (a b : List UInt8) : (⟨⟨a⟩⟩ : ByteArray) ++ (⟨⟨b⟩⟩ : ByteArray) = ⟨⟨a ++ b⟩⟩ := by
  apply bl_inj
  simp [bl]
end Gb
namespace Gb
open Go Gx Go.Proofs
theorem sw1 {H1 : AHeap} {F : AHeap → Option Value} {v : Value} (h : F H1 = some v) : SameW [H1] F v := by
  intro H hH; simp only [List.mem_singleton] at hH; subst hH; exact h
end Gb
namespace Gb
open Go Gx Go.Proofs
theorem set_get (h : AHeap) (b : Nat) (B : ABlk) : (h.set b B).get b = some B := by simp
structure PL (h : AHeap) (pb f2 B sb fb k m : Nat) : Prop where
  blk : h.get pb = some (.cells [.int .i64 (k : Int), .int .i64 (m : Int), .pointer (some ⟨f2, 0, none⟩), .pointer (some ⟨sb, 0, none⟩), .int .i64 ((k + m : Nat) : Int), .int .i64 (k : Int), .slice (some ⟨B, 0, some 0⟩) ((k + m) * k) ((k + m) * k)] 90 true 0)
  fld : Fld h f2
  mat : h.get B = some (outB encI 3 (mat ((k + m) * k) (cau k)))
  spc : Spc h sb fb
  lp : pb < h.next
  lf : f2 < h.next
  lb : B < h.next
  n1 : B ≠ f2
  n2 : pb ≠ f2
  n3 : sb ≠ f2
  n4 : fb ≠ f2
  n5 : B ≠ fb
  n6 : pb ≠ fb
  n7 : B ≠ sb
  n8 : pb ≠ sb
theorem PL.chg {S : Nat → Prop} {h h' : AHeap} {pb f2 B sb fb k m : Nat} (p : PL h pb f2 B sb fb k m) (c : Chg S h h') (a1 : ¬ S pb) (a2 : ¬ S f2) (a3 : ¬ S B) (a4 : ¬ S sb) (a5 : ¬ S fb) : PL h' pb f2 B sb fb k m :=
  ⟨(c.oth _ p.lp a1).trans p.blk, fldchg p.fld p.lf c a2, (c.oth _ p.lb a3).trans p.mat, p.spc.chg c a4 a5, Nat.lt_of_lt_of_le p.lp c.nx, Nat.lt_of_lt_of_le p.lf c.nx, Nat.lt_of_lt_of_le p.lb c.nx, p.n1, p.n2, p.n3, p.n4, p.n5, p.n6, p.n7, p.n8⟩
theorem PL.keeps {h h' : AHeap} {pb f2 B sb fb k m : Nat} (p : PL h pb f2 B sb fb k m) (c : Keeps h h') : PL h' pb f2 B sb fb k m :=
  p.chg c (fun f => f) (fun f => f) (fun f => f) (fun f => f) (fun f => f)
theorem PL.fs2 {h h' : AHeap} {pb f2 B sb fb k m : Nat} (p : PL h pb f2 B sb fb k m) (s : FS f2 h h') : PL h' pb f2 B sb fb k m :=
  ⟨(s.oth _ p.lp p.n2).trans p.blk, s.fld, (s.oth _ p.lb p.n1).trans p.mat, p.spc.chg s.chg p.n3 p.n4, Nat.lt_of_lt_of_le p.lp s.nx, Nat.lt_of_lt_of_le p.lf s.nx, Nat.lt_of_lt_of_le p.lb s.nx, p.n1, p.n2, p.n3, p.n4, p.n5, p.n6, p.n7, p.n8⟩
theorem snew_spec {k0 : Nat} (hk : 1000 ≤ k0) (h : AHeap) {k m : Nat} (hk1 : 0 < k) (hR : k + m ≤ 255) :
    ∃ h' pb f2 B sb fb, stripe_New k0 (DD k0) (k : Int) (m : Int) h = some ((some ⟨pb, 0, none⟩, 0), h') ∧ PL h' pb f2 B sb fb k m ∧ Keeps h h' ∧ h.next ≤ pb ∧ h.next ≤ f2 ∧ h.next ≤ B ∧ h.next ≤ sb ∧ h.next ≤ fb := by
  simp only [stripe_New]
  obtain ⟨h1, r1, k1, S1, n1⟩ := mnew_spec k0 (DD k0) h
  obtain ⟨h2, B, r2, S2, M⟩ := cauchy_spec hk (k := k) (m := m) S1 hk1 hR
  obtain ⟨h4, r4, k4, n4, b4⟩ := mvar (h := h2) (e := 84) (r := ((k + m : Nat) : Int)) (c := (k : Int)) (s := whole B ((k + m) * k))
  have hs := S2.ls
  have hf := S2.lf
  have hB := M.lb
  have hnb := M.nb
  let h5 := h4.new (.cells fresh 131 true 0)
  have k5 : Keeps h4 h5 := Keeps.new _ _
  have b5 : h5.get h2.next = some (.cells (mcell ((k + m : Nat) : Int) (k : Int) (whole B ((k + m) * k))) 84 true 0) := (k5.oth _ (by omega) (fun f => f)).trans b4
  have q4 := ldA_at (sp := none) b4 (show (mcell ((k + m : Nat) : Int) (k : Int) (whole B ((k + m) * k))).length = 3 from rfl)
  have q5 := ldA_at (sp := none) b5 (show (mcell ((k + m : Nat) : Int) (k : Int) (whole B ((k + m) * k))).length = 3 from rfl)
  let h6 := h5.new (.cells [.int .i64 (k : Int), .int .i64 (m : Int), .pointer (some ⟨h4.next, 0, none⟩), .pointer (some ⟨h.next + 1, 0, none⟩), .int .i64 ((k + m : Nat) : Int), .int .i64 (k : Int), .slice (some ⟨B, 0, some 0⟩) ((k + m) * k) ((k + m) * k)] 90 true 0)
  have k6 : Keeps h5 h6 := Keeps.new _ _
  have K26 : Keeps h2 h6 := k4.trans (k5.trans k6)
  have n5 : h5.next = h4.next + 1 := rfl
  refine ⟨h6, h5.next, h4.next, B, h.next + 1, h.next, ?_, ⟨?_, ?_, ?_, S2.keeps K26, ?_, ?_, ?_, ?_, ?_, ?_, ?_, ?_, ?_, ?_, ?_⟩, ?_, ?_, ?_, ?_, ?_, ?_⟩
  · refine bnd r1 (bnd r2 (bnd r4 ?_))
    refine ifn (by simp) ?_
    refine bnd (new_spec k0 (DD k0) h4) ?_
    refine bnd q5 (gp (sw1 (bnd q4 rfl)) ?_)
    exact bnd rfl rfl
  · show h6.get h5.next = _; simp [h6]
  · exact fldchg (fld_new h4) (by show h4.next < h4.next + 1; omega) k6 (fun f => f)
  · exact (K26.oth _ hB (fun f => f)).trans M.blk
  · show h5.next < h5.next + 1; omega
  · show h4.next < h4.next + 1 + 1; omega
  · have := K26.nx; omega
  · omega
  · omega
  · omega
  · omega
  · omega
  · omega
  · omega
  · omega
  · exact Chg.beh (k1.trans (Chg.refl _ _)) (M.ch.trans (Chg.keeps K26)) (fun x hx e => by have : x = h.next := e; omega)
  · omega
  · omega
  · omega
  · omega
  · omega
structure PR (h : AHeap) (pb B k m : Nat) : Prop where
  blk : h.get pb = some (.cells [.int .i64 (k : Int), .int .i64 (m : Int), .int .i64 ((k + m : Nat) : Int), .int .i64 (k : Int), .slice (some ⟨B, 0, some 0⟩) ((k + m) * k) ((k + m) * k)] 98 true 0)
  mat : h.get B = some (outB encI 3 (mat ((k + m) * k) (cau k)))
  lp : pb < h.next
  lb : B < h.next
theorem PR.chg {S : Nat → Prop} {h h' : AHeap} {pb B k m : Nat} (p : PR h pb B k m) (c : Chg S h h') (a1 : ¬ S pb) (a3 : ¬ S B) : PR h' pb B k m :=
  ⟨(c.oth _ p.lp a1).trans p.blk, (c.oth _ p.lb a3).trans p.mat, Nat.lt_of_lt_of_le p.lp c.nx, Nat.lt_of_lt_of_le p.lb c.nx⟩
theorem PR.keeps {h h' : AHeap} {pb B k m : Nat} (p : PR h pb B k m) (c : Keeps h h') : PR h' pb B k m := p.chg c (fun f => f) (fun f => f)
end Gb
namespace Gb
open Go Gx Go.Proofs
def nE (k L : Nat) : Nat := (L + k - 1) / k
def padL (k : Nat) (s : ByteArray) : List UInt8 := bl s ++ List.replicate (k * nE k s.size - s.size) 0
def pieceB (k : Nat) (s : ByteArray) (i : Nat) : ByteArray := ⟨⟨((padL k s).take ((i + 1) * nE k s.size)).drop (i * nE k s.size)⟩⟩
def piecesL (k : Nat) (s : ByteArray) : List ByteArray := (List.range k).map (pieceB k s)
def rowC (k i : Nat) : List Int := (List.range k).map fun j => cau k (i * k + j)
def shardB (k : Nat) (s : ByteArray) (i : Nat) : ByteArray := if i < k then pieceB k s i else (mixA (piecesL k s) (rowC k i)).1
def shardsL (k m : Nat) (s : ByteArray) : List ByteArray := (List.range (k + m)).map (shardB k s)
theorem nE_ge {k : Nat} (hk : 0 < k) (L : Nat) : L ≤ k * nE k L := by
  unfold nE
  have := Nat.div_add_mod (L + k - 1) k
  have h2 := Nat.mod_lt (L + k - 1) hk
  omega
theorem nE_le {k : Nat} (_hk : 0 < k) (L : Nat) : k * nE k L ≤ L + k - 1 := Nat.mul_div_le _ _
theorem padL_length {k : Nat} (hk : 0 < k) (s : ByteArray) : (padL k s).length = k * nE k s.size := by
  have := nE_ge hk s.size
  simp only [padL, List.length_append, bl_length, List.length_replicate]; omega
theorem pieceB_size {k i : Nat} (hk : 0 < k) (s : ByteArray) (hi : i < k) : (pieceB k s i).size = nE k s.size := by
  have h1 : (i + 1) * nE k s.size ≤ k * nE k s.size := Nat.mul_le_mul_right _ hi
  rw [pieceB, size_mk, List.length_drop, List.length_take, padL_length hk, Nat.min_eq_left h1, Nat.add_mul]; omega
theorem piecesL_length (k : Nat) (s : ByteArray) : (piecesL k s).length = k := by simp [piecesL]
theorem rowC_length (k i : Nat) : (rowC k i).length = k := by simp [rowC]
theorem pieces_mem {k : Nat} (hk : 0 < k) {s x : ByteArray} (hx : x ∈ piecesL k s) : x.size = nE k s.size := by
  obtain ⟨i, hi, rfl⟩ := List.mem_map.1 hx
  exact pieceB_size hk s (List.mem_range.1 hi)
def emT : ByteArray := ⟨#[]⟩
def filT (f : Nat → ByteArray) (T i : Nat) : List ByteArray := (List.range i).map f ++ List.replicate (T - i) emT
theorem filT_length {f : Nat → ByteArray} {T i : Nat} (hi : i ≤ T) : (filT f T i).length = T := by simp [filT]; omega
theorem filT_get {f : Nat → ByteArray} {T i j : Nat} (hj : j < i) : (filT f T i)[j]? = some (f j) := by
  unfold filT
  rw [List.getElem?_append_left (by simpa using hj)]
  simp [hj]
theorem filT_all {f : Nat → ByteArray} {T : Nat} : filT f T T = (List.range T).map f := by simp [filT]
theorem fil_push {f : Nat → ByteArray} {T i : Nat} {h : AHeap} {ob : Nat} {x : ByteArray} (hb : h.get ob = some (outB encS 9 (filT f T i))) (hi : i < T) (hx : x = f i) :
    appendA 1 16 9 h (⟨some ⟨ob, 0, some 0⟩, i, T⟩ : Slc) [.string x] 1 = some (⟨some ⟨ob, 0, some 0⟩, i + 1, T⟩, h.set ob (outB encS 9 (filT f T (i + 1)))) := by
  subst hx
  unfold appendA
  rw [if_pos (show i + 1 ≤ T from hi)]
  simp only [Nat.one_ne_zero, if_false]
  have hl : ((filT f T i).map encS).length = T := by rw [List.length_map, filT_length (by omega)]
  have hw : h.wrL ob (0 + i * 1) [Value.string (f i)] = some (h.set ob (outB encS 9 (filT f T (i + 1)))) := by
    simp only [AHeap.wrL, hb, outB]
    rw [if_pos ⟨by rw [hl]; simp; omega, by omega, rfl⟩]
    congr 3
    simp only [splice, Nat.zero_add, Nat.mul_one, List.length_singleton]
    unfold filT
    have e1 : ((List.range i).map f).length = i := by simp
    rw [← List.map_take, ← List.map_drop, List.take_left' e1, List.drop_append, e1, List.drop_eq_nil_of_le (by rw [e1]; omega), List.nil_append, show i + 1 - i = 1 by omega, List.drop_replicate, List.range_succ, List.map_append, List.map_append, List.map_append, show T - i - 1 = T - (i + 1) by omega]
    simp [encS]
  rw [hw]; rfl
def eachA (k : Nat) (long : Int) : Int × Int := if long < 0 ∨ long > 65536 then (0, 1) else (Int.tdiv (long + k - 1) k, 0)
theorem eachA_nat {k L : Nat} (hk : 0 < k) (hL : L ≤ 65536) : eachA k (L : Int) = (((nE k L : Nat) : Int), 0) := by
  unfold eachA
  rw [if_neg (by omega)]
  have : (L : Int) + k - 1 = ((L + k - 1 : Nat) : Int) := by omega
  rw [this]; rfl
theorem each_spec (k0 : Nat) (D : CallF) {h : AHeap} {pb f2 B sb fb k m : Nat} (p : PL h pb f2 B sb fb k m) (hk : 0 < k) (hk2 : k ≤ 255) (long : Int) : stripe_Plan_Each k0 D (some ⟨pb, 0, none⟩) long h = some (eachA k long, h) := by
  simp only [stripe_Plan_Each]
  have l0 : ldI .i64 ⟨pb, 0, none⟩ h = some (k : Int) := ldI_at p.blk rfl
  unfold eachA
  by_cases c1 : long < 0
  · refine jn (ifp (decide_eq_true c1) (ifp rfl ?_)); rw [if_pos (.inl c1)]
  · refine jn (ifn (by simpa using c1) ?_)
    by_cases c2 : long > 65536
    · refine ifp (decide_eq_true c2) ?_; rw [if_pos (.inr c2)]
    · refine ifn (by simpa using c2) ?_
      rw [if_neg (by omega)]
      refine bnd rfl (bnd l0 (bnd rfl (bnd l0 ?_)))
      refine ifn (by omega) ?_
      have q2 : Int.tdiv (long + (k : Int) - 1) (k : Int) ≤ long + k - 1 := by rw [Int.tdiv_eq_ediv_of_nonneg (by omega)]; exact Int.ediv_le_self _ (by omega)
      have q1 : 0 ≤ Int.tdiv (long + (k : Int) - 1) (k : Int) := Int.tdiv_nonneg (by omega) (by omega)
      rw [w64 (long + (k : Int)) (by omega), w64 (long + (k : Int) - 1) (by omega), w64 _ (by omega)]
theorem mat_row {k N : Nat} {h : AHeap} {B : Nat} (hb : h.get B = some (outB encI 3 (mat N (cau k)))) (hl : B < h.next) {i : Nat} (hi : i * k + k ≤ N) (cap : Nat) (sp : Option Nat) : Row encI h (⟨some ⟨B, i * k, sp⟩, k, cap⟩ : Slc) (rowC k i) := by
  have := Row.of_block (enc := encI) (h := h) (xs := rowC k i) (b := B) (o := i * k) (sp := sp) (cap := cap) (c := (mat N (cau k)).map encI) (e := 3) (r := true) (fz := 0) hb hl (fun j x hx => by
    have hj : j < k := by
      have := (List.getElem?_eq_some_iff.1 hx).1; rwa [rowC_length] at this
    have hx' : x = cau k (i * k + j) := by simp [rowC, hj] at hx; exact hx.symm
    rw [List.getElem?_map, mat_get (show i * k + j < N by omega), hx']; rfl)
  rw [rowC_length] at this
  exact this
theorem subL_row {B k i N : Nat} (hk : 0 < k) (hi : i * k + k ≤ N) (hN : N ≤ 70000) (hi2 : i ≤ 255) : Gx.subL 1 (⟨some ⟨B, 0, some 0⟩, N, N⟩ : Slc) (some (IntKind.wrap .i64 ((i : Int) * (k : Int)))) (some (IntKind.wrap .i64 ((IntKind.wrap .i64 ((i : Int) + 1)) * (k : Int)))) none = some (⟨some ⟨B, i * k, some 0⟩, k, N - i * k⟩ : Slc) := by
  have e1 : (i : Int) * (k : Int) = ((i * k : Nat) : Int) := by simp
  have e3 : IntKind.wrap .i64 ((i : Int) + 1) = ((i + 1 : Nat) : Int) := by rw [w64 _ (by omega)]; omega
  have e4 : ((i + 1 : Nat) : Int) * (k : Int) = ((i * k + k : Nat) : Int) := by push_cast; rw [Int.add_mul, Int.one_mul]
  have e2 : IntKind.wrap .i64 ((i : Int) * (k : Int)) = ((i * k : Nat) : Int) := by rw [e1]; exact w64 _ (by omega)
  rw [e3, e4, e2, w64 ((i * k + k : Nat) : Int) (by omega)]
  simp only [Gx.subL, Option.getD_none, Option.getD_some]
  rw [if_pos (by omega), if_pos (by rfl), if_neg (by omega)]
  simp only [Int.toNat_natCast, Nat.mul_one, Nat.zero_add, Option.isSome_none, Bool.false_eq_true, if_false]
  rw [show (((i * k + k : Nat) : Int) - ((i * k : Nat) : Int)).toNat = k by omega, show ((N : Int) - ((i * k : Nat) : Int)).toNat = N - i * k by omega]
end Gb
namespace Gb
open Go Gx Go.Proofs
theorem repL (c : Nat) : Lib.repeatL [0] c = List.replicate c (0 : UInt8) := by
  induction c with
  | zero => rfl
  | succ c ih => simp [Lib.repeatL, ih, List.replicate_succ]
theorem pad_bl {k : Nat} (s : ByteArray) : s ++ repB (⟨#[0]⟩ : ByteArray) (k * nE k s.size - s.size) = ⟨⟨padL k s⟩⟩ := by
  have e : repB (⟨#[0]⟩ : ByteArray) (k * nE k s.size - s.size) = ⟨⟨List.replicate (k * nE k s.size - s.size) 0⟩⟩ := by
    unfold repB
    have : (⟨#[0]⟩ : ByteArray).data.toList = [0] := rfl
    rw [this, repL]
  rw [e]
  exact ba_app (bl s) _
theorem row_fill {h : AHeap} {ob T i k : Nat} {f : Nat → ByteArray} {cap : Nat} (hb : h.get ob = some (outB encS 9 (filT f T i))) (hl : ob < h.next) (hk : k ≤ i) : Row encS h (⟨some ⟨ob, 0, some 0⟩, k, cap⟩ : Slc) ((List.range k).map f) := by
  have := Row.of_block (enc := encS) (h := h) (xs := (List.range k).map f) (b := ob) (o := 0) (sp := some 0) (cap := cap) (c := (filT f T i).map encS) (e := 9) (r := true) (fz := 0) hb hl (fun j x hx => by
    have hj : j < k := by
      have := (List.getElem?_eq_some_iff.1 hx).1; simpa using this
    have hx' : x = f j := by simp [hj] at hx; exact hx.symm
    rw [Nat.zero_add, List.getElem?_map, filT_get (show j < i by omega), hx']; rfl)
  simpa using this
theorem shard_piece {k i : Nat} (s : ByteArray) (hi : i < k) : shardB k s i = pieceB k s i := by unfold shardB; rw [if_pos hi]
theorem pieces_range {k : Nat} (s : ByteArray) : (List.range k).map (shardB k s) = piecesL k s := by
  apply List.map_congr_left
  intro i hi
  exact shard_piece s (List.mem_range.1 hi)
theorem sub_piece {k i : Nat} (hk : 0 < k) (hk2 : k ≤ 255) (s : ByteArray) (hs : s.size ≤ 65536) (hi : i < k) :
    Gx.subS (⟨⟨padL k s⟩⟩ : ByteArray) (some (IntKind.wrap .i64 ((i : Int) * ((nE k s.size : Nat) : Int)))) (some (IntKind.wrap .i64 ((IntKind.wrap .i64 ((i : Int) + 1)) * ((nE k s.size : Nat) : Int)))) = some (pieceB k s i) := by
  have hn := nE_le hk s.size
  generalize hnn : nE k s.size = n at *
  have h1 : (i + 1) * n ≤ k * n := Nat.mul_le_mul_right _ hi
  have h2 : i * n ≤ (i + 1) * n := Nat.mul_le_mul_right _ (by omega)
  have e1 : (i : Int) * (n : Int) = ((i * n : Nat) : Int) := by simp
  have e3 : IntKind.wrap .i64 ((i : Int) + 1) = ((i + 1 : Nat) : Int) := by rw [w64 _ (by omega)]; omega
  have e4 : ((i + 1 : Nat) : Int) * (n : Int) = (((i + 1) * n : Nat) : Int) := by simp
  rw [e3, e4, e1, w64 ((i * n : Nat) : Int) (by omega), w64 (((i + 1) * n : Nat) : Int) (by omega)]
  have hsz : (⟨⟨padL k s⟩⟩ : ByteArray).size = k * n := by rw [size_mk, padL_length hk, hnn]
  rw [subS_of (i := i * n) (j := (i + 1) * n) rfl rfl h2 (by rw [hsz]; exact h1)]
  unfold pieceB; rw [hnn]; rfl
abbrev sl1T := Option Addr → ByteArray → Int → Slc → Int → Int → AHeap → Option ((Slc × Int) × AHeap)
theorem split_l1 (K : Nat) (D : CallF) (j) (bot : sl1T) (p : Option Addr) {k m : Nat} (hk : 0 < k) (hk2 : k ≤ 255) (s : ByteArray) (hs : s.size ≤ 65536) {ob : Nat} : ∀ (d i : Nat) (h : AHeap), i + d = k → ob < h.next → h.get ob = some (outB encS 9 (filT (shardB k s) (k + m) i)) →
    ∃ h', iterK bot (d + 1) (stripe_Plan_Split_l1b K D j) p (⟨⟨padL k s⟩⟩ : ByteArray) ((nE k s.size : Nat) : Int) (⟨some ⟨ob, 0, some 0⟩, i, k + m⟩ : Slc) (k : Int) (i : Int) h = j p (⟨some ⟨ob, 0, some 0⟩, k, k + m⟩ : Slc) h' ∧
      h'.get ob = some (outB encS 9 (filT (shardB k s) (k + m) k)) ∧ Chg (· = ob) h h'
  | 0, i, h, hi, hl, hb => by
    obtain rfl : i = k := by omega
    refine ⟨h, ?_, hb, Chg.refl _ _⟩
    rw [iterK_s]; simp only [stripe_Plan_Split_l1b]
    exact ifn (by simp) rfl
  | d + 1, i, h, hi, hl, hb => by
    let h1 := h.new (.cells [.string (pieceB k s i)] 9 true 0)
    have k1 : Keeps h h1 := Keeps.new _ _
    have hb1 : h1.get ob = some (outB encS 9 (filT (shardB k s) (k + m) i)) := (k1.oth _ hl (fun f => f)).trans hb
    let h2 := h1.set ob (outB encS 9 (filT (shardB k s) (k + m) (i + 1)))
    have c2 : Chg (· = ob) h1 h2 := Chg.set (.inr rfl)
    obtain ⟨h', r, b', c'⟩ := split_l1 K D j bot p hk hk2 s hs (m := m) (ob := ob) d (i + 1) h2 (by omega) (by show ob < h.next + 1; omega) (set_get _ _ _)
    refine ⟨h', ?_, b', (Chg.keeps k1).trans (c2.trans c')⟩
    rw [iterK_s]; simp only [stripe_Plan_Split_l1b]
    refine ifp (by simp; omega) ?_
    refine bnd (sub_piece hk hk2 s hs (by omega)) ?_
    refine bnd rdS_one ?_
    refine bnd (fil_push hb1 (by omega) (by rw [shard_piece s (by omega)])) ?_
    rw [w1 (by omega)]
    exact r
theorem srow_spec (k0 : Nat) (D : CallF) {h : AHeap} {pb f2 B sb fb k m : Nat} (p : PL h pb f2 B sb fb k m) (hk : 0 < k) (hR : k + m ≤ 255) {i : Nat} (hi : i < k + m) :
    ∃ h', stripe_Plan_row k0 D (some ⟨pb, 0, none⟩) (((k + m : Nat) : Int), (k : Int), whole B ((k + m) * k)) (i : Int) h = some ((⟨some ⟨B, i * k, some 0⟩, k, (k + m) * k - i * k⟩ : Slc), h') ∧ Keeps h h' := by
  simp only [stripe_Plan_row]
  let h1 := h.new (.cells (mcell ((k + m : Nat) : Int) (k : Int) (whole B ((k + m) * k))) 84 true 0)
  have k1 : Keeps h h1 := Keeps.new _ _
  have b1 : h1.get h.next = some (.cells (mcell ((k + m : Nat) : Int) (k : Int) (whole B ((k + m) * k))) 84 true 0) := by simp [h1]
  have p1 := p.keeps k1
  have l0 : ldI .i64 ⟨pb, 0, none⟩ h1 = some (k : Int) := ldI_at p1.blk rfl
  have hle : i * k + k ≤ (k + m) * k := by have := Nat.mul_le_mul_right k hi; rw [Nat.succ_mul] at this; exact this
  have hN : (k + m) * k ≤ 65025 := Nat.le_trans (Nat.mul_le_mul hR (show k ≤ 255 by omega)) (by decide)
  refine ⟨h1, ?_, k1⟩
  have hL : ldL ⟨h.next, 2, none⟩ h1 = some (whole B ((k + m) * k)) := by simp [ldL, AHeap.rd1, b1, mcell, decL, whole]
  refine bnd hL (bnd rfl (bnd l0 (bnd rfl (bnd l0 ?_))))
  exact bnd (subL_row hk hle (by omega) (by omega)) rfl
abbrev sl0T := Option Addr → Slc → Slc → Int → Int → AHeap → Option ((Slc × Int) × AHeap)
theorem mix_bounds {k : Nat} (hk : 0 < k) (hk2 : k ≤ 255) (s : ByteArray) (hs : s.size ≤ 65536) : ∀ x ∈ piecesL k s, x.size ≤ 66000 := fun x hx => by
  rw [pieces_mem hk hx]
  have := nE_le hk s.size
  have h2 : nE k s.size ≤ k * nE k s.size := Nat.le_mul_of_pos_left _ hk
  omega
theorem split_l0 {k0 : Nat} (hk0 : 70000 ≤ k0) (j) (bot : sl0T) {pb f2 B sb fb k m : Nat} (hk : 0 < k) (hR : k + m ≤ 255) (s : ByteArray) (hs : s.size ≤ 65536) {ob : Nat} (o1 : ob ≠ f2) (o2 : ob ≠ pb) (o3 : ob ≠ B) (o4 : ob ≠ sb) (o5 : ob ≠ fb) : ∀ (d i : Nat) (h : AHeap), i + d = m → PL h pb f2 B sb fb k m → ob < h.next → h.get ob = some (outB encS 9 (filT (shardB k s) (k + m) (k + i))) →
    ∃ h', iterK bot (d + 1) (stripe_Plan_Split_l0b k0 (DD k0) j) (some ⟨pb, 0, none⟩) (⟨some ⟨ob, 0, some 0⟩, k + i, k + m⟩ : Slc) (⟨some ⟨ob, 0, some 0⟩, k, k⟩ : Slc) (m : Int) (i : Int) h = j (⟨some ⟨ob, 0, some 0⟩, k + m, k + m⟩ : Slc) h' ∧
      h'.get ob = some (outB encS 9 (filT (shardB k s) (k + m) (k + m))) ∧ PL h' pb f2 B sb fb k m ∧ Chg (fun x => x = ob ∨ x = f2) h h'
  | 0, i, h, hi, p, hl, hb => by
    obtain rfl : i = m := by omega
    refine ⟨h, ?_, hb, p, Chg.refl _ _⟩
    rw [iterK_s]; simp only [stripe_Plan_Split_l0b]
    exact ifn (by simp) rfl
  | d + 1, i, h, hi, p, hl, hb => by
    obtain ⟨h1, r1, k1⟩ := srow_spec k0 (DD k0) p hk hR (i := k + i) (by omega)
    have p1 := p.keeps k1
    have hl1 : ob < h1.next := Nat.lt_of_lt_of_le hl k1.nx
    have hb1 : h1.get ob = some (outB encS 9 (filT (shardB k s) (k + m) (k + i))) := (k1.oth _ hl (fun f => f)).trans hb
    have Rp : Row encS h1 (⟨some ⟨ob, 0, some 0⟩, k, k⟩ : Slc) (piecesL k s) := by
      have := row_fill (cap := k) hb1 hl1 (show k ≤ k + i by omega)
      rwa [pieces_range] at this
    have hle : (k + i) * k + k ≤ (k + m) * k := by
      have := Nat.mul_le_mul_right k (show k + i + 1 ≤ k + m by omega); rw [Nat.succ_mul] at this; exact this
    have Rc := mat_row p1.mat p1.lb hle ((k + m) * k - (k + i) * k) (some 0)
    have mb := mix_bounds hk (by omega) s hs
    obtain ⟨h2, r2, s2⟩ := fmix_spec (k := k0) (by omega) p1.fld p1.lf Rp Rc (fun a ha => by cases ha; exact o1) (fun a ha => by cases ha; exact p1.n1) (by rw [piecesL_length]; omega) (by rw [rowC_length]; omega)
      (fun x hx => by have := mb x hx; omega) (by rw [piecesL_length]; omega) (by rw [rowC_length]; omega) (fun x hx => by have := mb x hx; omega)
    have p2 := p1.fs2 s2
    have hb2 : h2.get ob = some (outB encS 9 (filT (shardB k s) (k + m) (k + i))) := (s2.oth _ hl1 o1).trans hb1
    have hl2 : ob < h2.next := Nat.lt_of_lt_of_le hl1 s2.nx
    have ex : (mixA (piecesL k s) (rowC k (k + i))).1 = shardB k s (k + i) := by unfold shardB; rw [if_neg (by omega)]
    let h3 := h2.new (.cells [.string (mixA (piecesL k s) (rowC k (k + i))).1] 9 true 0)
    have k3 : Keeps h2 h3 := Keeps.new _ _
    have p3 := p2.keeps k3
    have hb3 : h3.get ob = some (outB encS 9 (filT (shardB k s) (k + m) (k + i))) := (k3.oth _ hl2 (fun f => f)).trans hb2
    let h4 := h3.set ob (outB encS 9 (filT (shardB k s) (k + m) (k + i + 1)))
    have c4 : Chg (· = ob) h3 h4 := Chg.set (.inr rfl)
    have p4 : PL h4 pb f2 B sb fb k m := p3.chg c4 (fun e => o2 e.symm) (fun e => o1 e.symm) (fun e => o3 e.symm) (fun e => o4 e.symm) (fun e => o5 e.symm)
    obtain ⟨h', r, b', p', c'⟩ := split_l0 hk0 j bot hk hR s hs o1 o2 o3 o4 o5 d (i + 1) h4 (by omega) p4 (by show ob < h2.next + 1; omega) (set_get _ _ _)
    refine ⟨h', ?_, b', p', ?_⟩
    · rw [iterK_s]; simp only [stripe_Plan_Split_l0b]
      refine ifp (by simp; omega) ?_
      refine bnd rfl ?_
      have q1 : ldA 3 (⟨pb, 0 + 4, none⟩ : Addr) h = some (mcell ((k + m : Nat) : Int) (k : Int) (whole B ((k + m) * k))) := by
        simp only [ldA, AHeap.rdL, p.blk]; rfl
      refine bnd q1 (bnd rfl ?_)
      refine bnd rfl (bnd (ldI_at p.blk rfl) ?_)
      have e1 : IntKind.wrap .i64 ((k : Int) + (i : Int)) = ((k + i : Nat) : Int) := by rw [w64 _ (by omega)]; omega
      rw [e1]
      refine bnd r1 ?_
      have q2 : ldP (⟨pb, 0 + 2, none⟩ : Addr) h1 = some (some ⟨f2, 0, none⟩) := by simp [ldP, AHeap.rd1, p1.blk, decP]
      have q3 : ldP (⟨pb, 0 + 2, none⟩ : Addr) h = some (some ⟨f2, 0, none⟩) := by simp [ldP, AHeap.rd1, p.blk, decP]
      refine bnd rfl (bnd q2 (gp (sw1 (bnd q3 rfl)) ?_))
      refine bnd r2 ?_
      refine bnd rdS_one ?_
      refine bnd (fil_push hb3 (by omega) ex) ?_
      rw [w1 (by omega)]
      exact r
    · have a1 : Chg (fun x => x = ob ∨ x = f2) h h1 := k1.keeps
      have a2 : Chg (fun x => x = ob ∨ x = f2) h1 h2 := s2.chg.wk fun x _ e => .inr e
      have a3 : Chg (fun x => x = ob ∨ x = f2) h2 h3 := k3.keeps
      have a4 : Chg (fun x => x = ob ∨ x = f2) h3 h4 := c4.wk fun x _ e => .inl e
      exact a1.trans (a2.trans (a3.trans (a4.trans c')))
theorem split_spec {k0 : Nat} (hk0 : 70000 ≤ k0) {h : AHeap} {pb f2 B sb fb k m : Nat} (p : PL h pb f2 B sb fb k m) (hk : 0 < k) (hR : k + m ≤ 255) (s : ByteArray) (hs : s.size ≤ 65536) :
    ∃ h' ob, stripe_Plan_Split k0 (DD k0) (some ⟨pb, 0, none⟩) s h = some (((⟨some ⟨ob, 0, some 0⟩, k + m, k + m⟩ : Slc), 0), h') ∧ h'.get ob = some (outB encS 9 (shardsL k m s)) ∧ h.next ≤ ob ∧ ob < h'.next ∧ PL h' pb f2 B sb fb k m ∧ Chg (· = f2) h h' := by
  simp only [stripe_Plan_Split]
  have re := each_spec k0 (DD k0) p hk (by omega) (s.size : Int)
  rw [eachA_nat hk hs] at re
  have l0 : ldI .i64 ⟨pb, 0, none⟩ h = some (k : Int) := ldI_at p.blk rfl
  have l1 : ldI .i64 ⟨pb, 1, none⟩ h = some (m : Int) := ldI_at p.blk rfl
  have hge := nE_ge hk s.size
  have hle := nE_le hk s.size
  have ekn : (k : Int) * ((nE k s.size : Nat) : Int) = ((k * nE k s.size : Nat) : Int) := by simp
  have et : IntKind.wrap .i64 ((IntKind.wrap .i64 ((k : Int) * ((nE k s.size : Nat) : Int))) - (s.size : Int)) = ((k * nE k s.size - s.size : Nat) : Int) := by
    rw [ekn, w64 ((k * nE k s.size : Nat) : Int) (by omega), w64 _ (by omega)]; omega
  have hrep : repeatA (⟨#[0]⟩ : ByteArray) ((k * nE k s.size - s.size : Nat) : Int) = some (repB (⟨#[0]⟩ : ByteArray) (k * nE k s.size - s.size)) := by
    unfold repeatA
    rw [if_pos ⟨by omega, by omega, by rw [Int.toNat_natCast]; show 1 * _ ≤ _; omega⟩, Int.toNat_natCast]
  have hrs : (repB (⟨#[0]⟩ : ByteArray) (k * nE k s.size - s.size)).size = k * nE k s.size - s.size := by
    unfold repB
    have e1 : (⟨#[0]⟩ : ByteArray).data.toList = [0] := rfl
    rw [e1, repL]; exact (size_mk _).trans List.length_replicate
  have ekm : IntKind.wrap .i64 ((k : Int) + (m : Int)) = ((k + m : Nat) : Int) := by rw [w64 _ (by omega)]; omega
  let ob := h.next
  let h1 := h.new (outB encS 9 (filT (shardB k s) (k + m) 0))
  have k1 : Keeps h h1 := Keeps.new _ _
  have hz : (zerosL (((k + m : Nat) : Int)).toNat [.string ⟨#[]⟩]) = (filT (shardB k s) (k + m) 0).map encS := by
    rw [Int.toNat_natCast]; simp [zerosL, filT, encS, emT]
  have b1 : h1.get ob = some (outB encS 9 (filT (shardB k s) (k + m) 0)) := by simp [h1, ob]
  have p1 := p.keeps k1
  have hlp := p.lp; have hlf := p.lf; have hlb := p.lb; have hls := p.spc.ls; have hlg := p.spc.lf
  generalize hj14 : (fun (p11 : Option Addr) (out12 : Slc) (h13 : AHeap) => (p11.bind fun p15 => _ : Option ((Slc × Int) × AHeap))) = j14
  unfold stripe_Plan_Split_l1
  obtain ⟨bot1, e1⟩ := iterK_of (α := sl1T) (fun _ _ _ _ _ _ _ => none) (stripe_Plan_Split_l1b k0 (DD k0) j14) (show k + 1 ≤ k0 by omega)
  obtain ⟨h2, r2, b2, c2⟩ := split_l1 k0 (DD k0) j14 bot1 (some ⟨pb, 0, none⟩) hk (by omega) s hs (m := m) (ob := ob) k 0 h1 (by omega) (by show h.next < h.next + 1; omega) b1
  have p2 : PL h2 pb f2 B sb fb k m := p1.chg c2 (fun e => by have : pb = h.next := e; omega) (fun e => by have : f2 = h.next := e; omega) (fun e => by have : B = h.next := e; omega) (fun e => by have : sb = h.next := e; omega) (fun e => by have : fb = h.next := e; omega)
  have hl2 : ob < h2.next := Nat.lt_of_lt_of_le (by show h.next < h.next + 1; omega) c2.nx
  obtain ⟨bot0, e0⟩ := iterK_of (α := sl0T) (fun _ _ _ _ _ _ => none) (stripe_Plan_Split_l0b k0 (DD k0) fun (out20 : Slc) (h21 : AHeap) => some ((out20, 0), h21)) (show m + 1 ≤ k0 by omega)
  obtain ⟨h3, r3, b3, p3, c3⟩ := split_l0 hk0 (fun (out20 : Slc) (h21 : AHeap) => some ((out20, 0), h21)) bot0 (pb := pb) (f2 := f2) (B := B) (sb := sb) (fb := fb) hk hR s hs (ob := ob) (by show h.next ≠ _; omega) (by show h.next ≠ _; omega) (by show h.next ≠ _; omega) (by show h.next ≠ _; omega) (by show h.next ≠ _; omega) m 0 h2 (by omega) p2 hl2 b2
  refine ⟨h3, ob, ?_, ?_, Nat.le_refl _, Nat.lt_of_lt_of_le hl2 c3.nx, p3, ?_⟩
  · refine bnd re ?_
    refine ifn (by simp) ?_
    refine bnd rfl (bnd l0 ?_)
    rw [et]
    refine bnd hrep ?_
    refine ifp (by rw [hrs]; omega) ?_
    refine bnd rfl (bnd l0 (bnd rfl (bnd l1 ?_)))
    rw [ekm]
    refine ifp (by omega) ?_
    rw [hz]
    refine jn ?_
    refine bnd rfl (bnd (ldI_at p1.blk rfl) ?_)
    rw [pad_bl, Int.toNat_natCast]
    show iterK _ k0 (stripe_Plan_Split_l1b k0 (DD k0) j14) (some ⟨pb, 0, none⟩) (⟨⟨padL k s⟩⟩ : ByteArray) ((nE k s.size : Nat) : Int) (⟨some ⟨ob, 0, some 0⟩, 0, k + m⟩ : Slc) (k : Int) ((0 : Nat) : Int) h1 = _
    rw [e1, r2]
    subst hj14
    refine bnd rfl (bnd (ldI_at p2.blk rfl) (bnd rfl (bnd (ldI_at p2.blk rfl) ?_)))
    have hsub : Gx.subL 1 (⟨some ⟨ob, 0, some 0⟩, k, k + m⟩ : Slc) none (some (k : Int)) (some (k : Int)) = some (⟨some ⟨ob, 0, some 0⟩, k, k⟩ : Slc) := by
      simp only [Gx.subL, Option.getD_none, Option.getD_some]
      rw [if_pos (by omega), if_pos (show spOk (some 0) 1 = true from rfl), if_neg (by omega)]
      simp
    refine bnd hsub ?_
    refine jn ?_
    refine bnd rfl (bnd (ldI_at p2.blk rfl) ?_)
    unfold stripe_Plan_Split_l0
    rw [e0]
    exact r3
  · rw [b3, filT_all]; rfl
  · exact Chg.beh k1.keeps ((c2.wk (T := fun x => x = ob ∨ x = f2) fun x _ e => .inl e).trans c3) (fun x hx e => by
      rcases e with e | e
      · have : x = h.next := e; omega
      · exact e)
end Gb
namespace Gb
open Go Gx Go.Proofs
end Gb
namespace Gb
open Go Gx Go.Proofs
def Tru {R : Type} (x : Option (R × AHeap)) (v : R) : Prop := ∃ h', x = some (v, h')
theorem Tru.bnd {R α : Type} {v : R} {x : Option α} {a : α} {f : α → Option (R × AHeap)} (h : x = some a) (k : Tru (f a) v) : Tru (x.bind f) v := by rw [h]; exact k
theorem Tru.jn {R α : Type} {v : R} {J : α} {b : α → Option (R × AHeap)} (k : ∀ j, j = J → Tru (b j) v) : Tru (joinK J b) v := k J rfl
theorem Tru.ifp {R : Type} {v : R} {c : Prop} [Decidable c] {a b : Option (R × AHeap)} (h : c) (k : Tru a v) : Tru (if c then a else b) v := by rw [if_pos h]; exact k
theorem Tru.ifn {R : Type} {v : R} {c : Prop} [Decidable c] {a b : Option (R × AHeap)} (h : ¬ c) (k : Tru b v) : Tru (if c then a else b) v := by rw [if_neg h]; exact k
theorem Tru.of {R : Type} {v : R} {h : AHeap} : Tru (some (v, h)) v := ⟨h, rfl⟩
def abc : ByteArray := ⟨#[97, 98, 99]⟩
theorem abc0 : shardB 2 abc 0 = ⟨#[97, 98]⟩ := by decide +kernel
theorem abc1 : shardB 2 abc 1 = ⟨#[99, 0]⟩ := by decide +kernel
theorem abc2 : (shardB 2 abc 2).size = 2 := by decide +kernel
theorem shards_get {k m i : Nat} (s : ByteArray) (hi : i < k + m) : (shardsL k m s)[i]? = some (shardB k s i) := by simp [shardsL, hi]
theorem shardsL_length (k m : Nat) (s : ByteArray) : (shardsL k m s).length = k + m := by simp [shardsL]
theorem shards_row {h : AHeap} {ob k m : Nat} {s : ByteArray} (hb : h.get ob = some (outB encS 9 (shardsL k m s))) (hl : ob < h.next) : Row encS h (⟨some ⟨ob, 0, some 0⟩, k + m, k + m⟩ : Slc) (shardsL k m s) := by
  rw [show shardsL k m s = filT (shardB k s) (k + m) (k + m) from filT_all.symm] at hb
  have := row_fill (cap := k + m) hb hl (Nat.le_refl _)
  exact this
theorem sworks_spec {k0 : Nat} (hk0 : 70000 ≤ k0) (h : AHeap) : ∃ h', law05_works k0 (DD k0) h = some (true, h') ∧ Keeps h h' := by
  simp only [law05_works]
  obtain ⟨h1, pb, f2, B, sb, fb, r1, p1, k1, a1, a2, a3, a4, a5⟩ := snew_spec (k0 := k0) (by omega) h (k := 2) (m := 1) (by decide) (by decide)
  obtain ⟨h2, ob, r2, b2, o1, o2, p2, c2⟩ := split_spec hk0 p1 (by decide) (by decide) abc (by decide)
  have R := shards_row b2 o2
  obtain ⟨q0, i0, l0⟩ := R.ldS (shards_get (i := 0) abc (by decide))
  obtain ⟨q1, i1, l1⟩ := R.ldS (shards_get (i := 1) abc (by decide))
  obtain ⟨q2, i2, l2⟩ := R.ldS (shards_get (i := 2) abc (by decide))
  refine ⟨h2, ?_, Chg.beh k1 c2 (fun x hx e => by have : x = f2 := e; omega)⟩
  refine bnd r1 ?_
  refine jn ?_
  refine ifn (by simp) ?_
  refine ifn (by simp) ?_
  refine bnd r2 ?_
  refine ifp (by simp) ?_
  refine ifp (by simp) ?_
  refine bnd i0 (bnd l0 ?_)
  refine ifp (by rw [abc0]; decide +kernel) ?_
  refine bnd i1 (bnd l1 ?_)
  refine ifp (by rw [abc1]; decide +kernel) ?_
  refine bnd i2 (bnd l2 ?_)
  rw [abc2]; rfl
end Gb
namespace Gb
open Go Gx Go.Proofs
abbrev Prt := Int × ByteArray
def enc2 (x : Prt) : List Value := [.int .i64 x.1, .string x.2]
structure Row2 (h : AHeap) (s : Slc) (xs : List Prt) : Prop where
  len : s.len = xs.length
  at' : ∀ (i : Nat) (x : Prt), xs[i]? = some x → ∃ a c e r fz, s.a = some a ∧ a.block < h.next ∧ h.get a.block = some (.cells c e r fz) ∧ c[a.off + i * 2]? = some (.int .i64 x.1) ∧ c[a.off + i * 2 + 1]? = some (.string x.2)
theorem Row2.nil (h : AHeap) (a : Option Addr) (cap : Nat) : Row2 h ⟨a, 0, cap⟩ [] := ⟨rfl, fun i x hx => by simp at hx⟩
theorem Row2.chg {S : Nat → Prop} {h h' : AHeap} {s : Slc} {xs : List Prt} (R : Row2 h s xs) (c : Chg S h h') (hs : ∀ a, s.a = some a → ¬ S a.block) : Row2 h' s xs :=
  ⟨R.len, fun i x hx => by
    obtain ⟨a, cs, e, r, fz, h1, h2, h3, h4⟩ := R.at' i x hx
    exact ⟨a, cs, e, r, fz, h1, Nat.lt_of_lt_of_le h2 c.nx, (c.oth _ h2 (hs a h1)).trans h3, h4⟩⟩
theorem Row2.keeps {h h' : AHeap} {s : Slc} {xs : List Prt} (R : Row2 h s xs) (c : Keeps h h') : Row2 h' s xs := R.chg c fun _ _ f => f
theorem drop_two {c : List Value} {o : Nat} {u v : Value} (h1 : c[o]? = some u) (h2 : c[o + 1]? = some v) : (c.drop o).take 2 = [u, v] := by
  rw [dropc h1, dropc h2]; rfl
theorem Row2.ld {h : AHeap} {s : Slc} {xs : List Prt} (R : Row2 h s xs) {i : Nat} {x : Prt} (hx : xs[i]? = some x) : ∃ q, idxL 2 s (i : Int) = some q ∧ ldA 2 q h = some (enc2 x) := by
  obtain ⟨a, c, e, r, fz, h1, h2, h3, h4, h5⟩ := R.at' i x hx
  have hi : i < s.len := by rw [R.len]; exact (List.getElem?_eq_some_iff.1 hx).1
  refine ⟨⟨a.block, a.off + i * 2, none⟩, ?_, ?_⟩
  · simp only [idxL, h1]
    rw [if_pos (by omega), Int.toNat_natCast]
  · have hlen : a.off + i * 2 + 1 < c.length := (List.getElem?_eq_some_iff.1 h5).1
    simp only [ldA, AHeap.rdL, h3]
    rw [if_pos (by omega), drop_two h4 h5]; rfl
def flat2 (xs : List Prt) : List Value := xs.flatMap enc2
theorem flat2_length (xs : List Prt) : (flat2 xs).length = xs.length * 2 := by
  induction xs with
  | nil => rfl
  | cons x xs ih => simp only [flat2, List.flatMap_cons, List.length_append] at ih ⊢; rw [ih]; simp [enc2]; omega
theorem flat2_append (xs ys : List Prt) : flat2 (xs ++ ys) = flat2 xs ++ flat2 ys := by simp [flat2]
theorem flat2_one : ∀ xs : List Prt, allOne (flat2 xs) = true
  | [] => rfl
  | x :: xs => by
    have := flat2_one xs
    simpa [flat2, enc2, allOne, one] using this
theorem flat2_get : ∀ {xs : List Prt} {i : Nat} {x : Prt}, xs[i]? = some x → (flat2 xs)[i * 2]? = some (.int .i64 x.1) ∧ (flat2 xs)[i * 2 + 1]? = some (.string x.2)
  | [], i, x, h => by simp at h
  | y :: xs, 0, x, h => by simp at h; subst h; exact ⟨rfl, rfl⟩
  | y :: xs, i + 1, x, h => by
    have := flat2_get (xs := xs) (i := i) (x := x) (by simpa using h)
    have e : flat2 (y :: xs) = .int .i64 y.1 :: .string y.2 :: flat2 xs := rfl
    rw [e, show (i + 1) * 2 = i * 2 + 1 + 1 by omega]
    simpa using this
theorem row2_blk {h : AHeap} {b n cap : Nat} {sp : Option Nat} {xs : List Prt} {e : TypeId} {r : Bool} {fz : Nat} (hb : h.get b = some (.cells (flat2 xs) e r fz)) (hl : b < h.next) (hn : n = xs.length) : Row2 h ⟨some ⟨b, 0, sp⟩, n, cap⟩ xs :=
  ⟨hn, fun i x hx => by
    obtain ⟨h1, h2⟩ := flat2_get hx
    exact ⟨_, _, _, _, _, rfl, hl, hb, by rw [Nat.zero_add]; exact h1, by rw [Nat.zero_add]; exact h2⟩⟩
structure Acc2 (base : Nat) (h : AHeap) (s : Slc) (xs : List Prt) : Prop where
  st : (s = ⟨none, 0, 0⟩ ∧ xs = []) ∨ ∃ b, s = ⟨some ⟨b, 0, some 3⟩, xs.length, xs.length⟩ ∧ h.get b = some (.cells (flat2 xs) 68 true 0) ∧ xs ≠ []
  lt : ∀ a, s.a = some a → a.block < h.next ∧ base ≤ a.block
theorem Acc2.nil (base : Nat) (h : AHeap) : Acc2 base h ⟨none, 0, 0⟩ [] := ⟨.inl ⟨rfl, rfl⟩, fun a ha => by cases ha⟩
theorem Acc2.chg {S : Nat → Prop} {base : Nat} {h h' : AHeap} {s : Slc} {xs : List Prt} (A : Acc2 base h s xs) (c : Chg S h h') (hs : ∀ a, s.a = some a → ¬ S a.block) : Acc2 base h' s xs := by
  refine ⟨A.st.imp id ?_, fun a ha => ⟨Nat.lt_of_lt_of_le (A.lt a ha).1 c.nx, (A.lt a ha).2⟩⟩
  rintro ⟨b, h1, h2, h3⟩
  have hb := A.lt ⟨b, 0, some 3⟩ (by rw [h1])
  exact ⟨b, h1, (c.oth b hb.1 (hs ⟨b, 0, some 3⟩ (by rw [h1]))).trans h2, h3⟩
theorem Acc2.keeps {base : Nat} {h h' : AHeap} {s : Slc} {xs : List Prt} (A : Acc2 base h s xs) (c : Keeps h h') : Acc2 base h' s xs := A.chg c fun _ _ f => f
theorem Acc2.row {base : Nat} {h : AHeap} {s : Slc} {xs : List Prt} (A : Acc2 base h s xs) : Row2 h s xs := by
  rcases A.st with ⟨rfl, rfl⟩ | ⟨b, rfl, h2, h3⟩
  · exact Row2.nil _ _ _
  · exact row2_blk h2 (A.lt ⟨b, 0, some 3⟩ rfl).1 rfl
theorem Acc2.len {base : Nat} {h : AHeap} {s : Slc} {xs : List Prt} (A : Acc2 base h s xs) : s.len = xs.length := A.row.len
theorem Acc2.push {base : Nat} {h : AHeap} {s : Slc} {xs : List Prt} (A : Acc2 base h s xs) (x : Prt) (hs : xs.length ≤ 1000000) (hbase : base ≤ h.next) :
    ∃ s' h', appendA 2 24 68 h s (enc2 x) 1 = some (s', h') ∧ Acc2 base h' s' (xs ++ [x]) ∧ Chg (ofS s) h h' := by
  rcases A.st with ⟨rfl, rfl⟩ | ⟨b, rfl, h2, h3⟩
  · refine ⟨⟨some ⟨h.next, 0, some 3⟩, 1, 1⟩, h.new (.cells (enc2 x) 68 true 0), ?_, ⟨.inr ⟨h.next, rfl, by simp [flat2], by simp⟩, ?_⟩, (Keeps.new h _).wk fun _ _ f => f.elim⟩
    · simp only [appendA]
      rw [if_neg (by omega), if_pos (by omega)]
    · intro a ha; cases ha; simp; omega
  · have hb := A.lt ⟨b, 0, some 3⟩ rfl
    have hl := flat2_length xs
    have e : flat2 xs ++ enc2 x = flat2 (xs ++ [x]) := by rw [flat2_append]; simp [flat2]
    refine ⟨⟨some ⟨h.next, 0, some 3⟩, xs.length + 1, xs.length + 1⟩, (h.kill b).new (.cells (flat2 (xs ++ [x])) 68 true 0), ?_, ⟨.inr ⟨h.next, by simp, by simp, by simp⟩, ?_⟩, ?_⟩
    · have hx : 0 < xs.length := List.length_pos_iff.2 h3
      simp only [appendA]
      rw [if_neg (by omega), if_pos (by omega)]
      simp only [h2]
      rw [if_pos ⟨by omega, trivial, by omega, by omega, trivial, trivial, rfl⟩, ← hl, List.take_length, e]
    · intro a ha; cases ha; simp; omega
    · exact Chg.kill_new (.inr ⟨⟨b, 0, some 3⟩, rfl, rfl⟩)
end Gb
namespace Gb
open Go Gx Go.Proofs
def idxs (out : List Prt) : List Int := out.map (·.1)
end Gb
namespace Gb
open Go Gx Go.Proofs
section
variable {k0 : Nat} {H0 : AHeap} {B oa ol R C : Nat} {s : Slc} {sp : Option Nat} {g : Nat → Nat}
structure SQ (H0 : AHeap) (B oa ol R C : Nat) (s : Slc) (sp : Option Nat) (g : Nat → Nat) (h : AHeap) : Prop where
  a : Mx h B (R * C) g
  ca : h.get oa = some (.cells (mcell R C s) 94 true 0)
  cl : h.get ol = some (.cells (mcell R C (whole B (R * C) sp)) 94 true 0)
  la : oa < h.next
  ll : ol < h.next
  ch : Chg (fun x => x = B) H0 h
theorem SQ.keeps {h h' : AHeap} (S : SQ H0 B oa ol R C s sp g h) (k : Keeps h h') : SQ H0 B oa ol R C s sp g h' :=
  ⟨S.a.keeps k, by rw [k.oth _ S.la (fun f => f)]; exact S.ca, by rw [k.oth _ S.ll (fun f => f)]; exact S.cl, Nat.lt_of_lt_of_le S.la k.nx, Nat.lt_of_lt_of_le S.ll k.nx, S.ch.trans (Chg.keeps k)⟩
theorem SQ.op {h h' : AHeap} {g' : Nat → Nat} (S : SQ H0 B oa ol R C s sp g h) (n1 : oa ≠ B) (n2 : ol ≠ B) (m : Mx h' B (R * C) g') (k : Chg (· = B) h h') : SQ H0 B oa ol R C s sp g' h' :=
  ⟨m, by rw [k.oth _ S.la n1]; exact S.ca, by rw [k.oth _ S.ll n2]; exact S.cl, Nat.lt_of_lt_of_le S.la k.nx, Nat.lt_of_lt_of_le S.ll k.nx, S.ch.trans k⟩
theorem SQ.congr {h : AHeap} {g' : Nat → Nat} (S : SQ H0 B oa ol R C s sp g h) (e : ∀ t, t < R * C → g t = g' t) : SQ H0 B oa ol R C s sp g' h := ⟨S.a.congr e, S.ca, S.cl, S.la, S.ll, S.ch⟩
end
end Gb
namespace Gb
open Go Gx Go.Proofs
structure LI (n m sb fb : Nat) (r1 c1 r2 c2 : Int) (s1 s2 rs sa sq so : Slc) (xs ys rows : List Int) (g : AHeap) : Prop where
  rp : Row encI g s1 xs
  rq : Row encI g s2 ys
  rr : Row encI g rs rows
  ia : InM g sa xs
  iq : InM g sq ys
  io : Row encI g so rows
  d1 : g.get n = some (.cells (mcell r1 c1 s1) 94 true 0)
  d2 : g.get (n + 1) = some (.cells (mcell r2 c2 s2) 94 true 0)
  d3 : g.get m = some (.cells (mcell r1 c1 sa) 84 true 0)
  d4 : g.get (m + 1) = some (.cells (mcell r2 c2 sq) 84 true 0)
  ln : n + 1 < g.next
  lm : m + 1 < g.next
structure LN (n m fb : Nat) (s1 s2 rs sa sq so : Slc) : Prop where
  n0 : n ≠ fb
  n1 : n + 1 ≠ fb
  m0 : m ≠ fb
  m1 : m + 1 ≠ fb
  a1 : ∀ a, s1.a = some a → ¬ a.block = fb
  a2 : ∀ a, s2.a = some a → ¬ a.block = fb
  a3 : ∀ a, rs.a = some a → ¬ a.block = fb
  a4 : ∀ a, sa.a = some a → ¬ a.block = fb
  a5 : ∀ a, sq.a = some a → ¬ a.block = fb
  a6 : ∀ a, so.a = some a → ¬ a.block = fb
theorem LI.chg {n m sb fb : Nat} {r1 c1 r2 c2 : Int} {s1 s2 rs sa sq so : Slc} {xs ys rows : List Int} {g g' : AHeap} (N : LN n m fb s1 s2 rs sa sq so) (L : LI n m sb fb r1 c1 r2 c2 s1 s2 rs sa sq so xs ys rows g) (c : Chg (· = fb) g g') :
    LI n m sb fb r1 c1 r2 c2 s1 s2 rs sa sq so xs ys rows g' := by
  have ln := L.ln
  have lm := L.lm
  have nx := c.nx
  exact ⟨L.rp.chg c N.a1, L.rq.chg c N.a2, L.rr.chg c N.a3, L.ia.chg c N.a4, L.iq.chg c N.a5, L.io.chg c N.a6, by rw [c.oth _ (by omega) N.n0]; exact L.d1, by rw [c.oth _ (by omega) N.n1]; exact L.d2,
    by rw [c.oth _ (by omega) N.m0]; exact L.d3, by rw [c.oth _ (by omega) N.m1]; exact L.d4, by omega, by omega⟩
end Gb
namespace Gb
open Go Gx Go.Proofs
structure Fe where
  v : Nat
  lt : v < 256
namespace Fe
theorem ext {a b : Fe} (h : a.v = b.v) : a = b := by cases a; cases b; cases h; rfl
def add (a b : Fe) : Fe := ⟨a.v ^^^ b.v, xor_lt a.lt b.lt⟩
def mul (a b : Fe) : Fe := ⟨mulT a.v b.v, mulT_lt _ _⟩
def inv (a : Fe) : Fe := ⟨divT 1 a.v, divT_lt⟩
instance : Add Fe := ⟨add⟩
instance : Mul Fe := ⟨mul⟩
instance : OfNat Fe 0 := ⟨⟨0, by omega⟩⟩
instance : OfNat Fe 1 := ⟨⟨1, by omega⟩⟩
theorem add_v (a b : Fe) : (a + b).v = a.v ^^^ b.v := rfl
theorem mul_v (a b : Fe) : (a * b).v = mulT a.v b.v := rfl
theorem add_comm (a b : Fe) : a + b = b + a := ext (Nat.xor_comm _ _)
theorem add_assoc (a b c : Fe) : a + b + c = a + (b + c) := ext (Nat.xor_assoc _ _ _)
theorem add_self (a : Fe) : a + a = 0 := ext (Nat.xor_self _)
theorem add_zero (a : Fe) : a + 0 = a := ext (Nat.xor_zero _)
theorem zero_add (a : Fe) : 0 + a = a := ext (Nat.zero_xor _)
theorem mul_comm (a b : Fe) : a * b = b * a := ext (mulT_comm _ _)
theorem mul_assoc (a b c : Fe) : a * b * c = a * (b * c) := ext mulT_assoc
theorem mul_add (a b c : Fe) : a * (b + c) = a * b + a * c := ext (mulT_xor b.lt c.lt)
theorem add_mul (a b c : Fe) : (a + b) * c = a * c + b * c := by rw [mul_comm, mul_add, mul_comm c, mul_comm c]
theorem zero_mul (a : Fe) : 0 * a = 0 := ext (mulT_zero a.v)
theorem mul_zero (a : Fe) : a * 0 = 0 := by rw [mul_comm, zero_mul]
theorem mul_one (a : Fe) : a * 1 = a := ext (mulT_one a.lt)
theorem one_mul (a : Fe) : 1 * a = a := by rw [mul_comm, mul_one]
theorem ne_v {a : Fe} (h : a ≠ 0) : a.v ≠ 0 := fun e => h (ext e)
theorem inv_mul {a : Fe} (h : a ≠ 0) : inv a * a = 1 := ext (mul_div (x := 1) (by omega) a.lt (ne_v h))
theorem one_ne : (1 : Fe) ≠ 0 := fun e => absurd (congrArg Fe.v e) (by decide)
instance : Std.Associative (α := Fe) (· + ·) := ⟨add_assoc⟩
instance : Std.Commutative (α := Fe) (· + ·) := ⟨add_comm⟩
instance : Std.Associative (α := Fe) (· * ·) := ⟨mul_assoc⟩
instance : Std.Commutative (α := Fe) (· * ·) := ⟨mul_comm⟩
def of (n : Nat) : Fe := ⟨n % 256, Nat.mod_lt _ (by omega)⟩
theorem of_v {n : Nat} (h : n < 256) : (of n).v = n := Nat.mod_eq_of_lt h
theorem of_xor {a b : Nat} (ha : a < 256) (hb : b < 256) : of (a ^^^ b) = of a + of b := ext (by rw [add_v, of_v ha, of_v hb, of_v (xor_lt ha hb)])
theorem of_mul {a b : Nat} (ha : a < 256) (hb : b < 256) : of (mulT a b) = of a * of b := ext (by rw [mul_v, of_v ha, of_v hb, of_v (mulT_lt _ _)])
theorem of_zero : of 0 = 0 := rfl
theorem of_one : of 1 = 1 := rfl
theorem of_inj {a b : Nat} (ha : a < 256) (hb : b < 256) (h : of a = of b) : a = b := by
  have := congrArg Fe.v h
  rwa [of_v ha, of_v hb] at this
end Fe
open Fe
def sm : Nat → (Nat → Fe) → Fe
  | 0, _ => 0
  | n + 1, f => sm n f + f n
theorem sm_s (n : Nat) (f : Nat → Fe) : sm (n + 1) f = sm n f + f n := rfl
theorem sm_congr : ∀ {n : Nat} {f g : Nat → Fe}, (∀ i, i < n → f i = g i) → sm n f = sm n g
  | 0, _, _, _ => rfl
  | n + 1, f, g, h => by
    unfold sm
    rw [sm_congr fun i hi => h i (by omega), h n (by omega)]
theorem sm_zero : ∀ {n : Nat} {f : Nat → Fe}, (∀ i, i < n → f i = 0) → sm n f = 0
  | 0, _, _ => rfl
  | n + 1, f, h => by
    unfold sm
    rw [sm_zero fun i hi => h i (by omega), h n (by omega), add_zero]
theorem sm_add : ∀ (n : Nat) (f g : Nat → Fe), sm n (fun i => f i + g i) = sm n f + sm n g
  | 0, _, _ => (add_zero 0).symm
  | n + 1, f, g => by
    rw [sm_s, sm_s, sm_s, sm_add n f g]
    show sm n f + sm n g + (f n + g n) = sm n f + f n + (sm n g + g n)
    ac_rfl
theorem sm_mul : ∀ (n : Nat) (c : Fe) (f : Nat → Fe), sm n (fun i => c * f i) = c * sm n f
  | 0, c, _ => (mul_zero c).symm
  | n + 1, c, f => by
    unfold sm
    rw [sm_mul n c f, mul_add]
theorem sm_mul' (n : Nat) (c : Fe) (f : Nat → Fe) : sm n (fun i => f i * c) = sm n f * c := by
  rw [mul_comm _ c, ← sm_mul]
  exact sm_congr fun i _ => mul_comm _ _
theorem sm_swap : ∀ (n m : Nat) (f : Nat → Nat → Fe), sm n (fun i => sm m fun j => f i j) = sm m (fun j => sm n fun i => f i j)
  | 0, m, f => (sm_zero fun _ _ => rfl).symm
  | n + 1, m, f => by
    show sm n (fun i => sm m fun j => f i j) + sm m (fun j => f n j) = sm m (fun j => sm n (fun i => f i j) + f n j)
    rw [sm_swap n m f, sm_add]
def dl (i j : Nat) : Fe := if i = j then 1 else 0
theorem sm_dl : ∀ {n i : Nat} (f : Nat → Fe), i < n → sm n (fun k => dl i k * f k) = f i
  | n + 1, i, f, h => by
    rw [sm_s]
    by_cases e : i = n
    · subst e
      rw [sm_zero fun k hk => by unfold dl; rw [if_neg (by omega), zero_mul], zero_add]
      show dl i i * f i = f i
      unfold dl; rw [if_pos rfl, one_mul]
    · rw [sm_dl f (by omega)]
      show f i + dl i n * f n = f i
      unfold dl; rw [if_neg e, zero_mul, add_zero]
theorem sm_dl' {n i : Nat} (f : Nat → Fe) (h : i < n) : sm n (fun k => f k * dl k i) = f i := by
  rw [← sm_dl f h]
  exact sm_congr fun k _ => by
    rw [mul_comm]
    unfold dl
    by_cases e : k = i
    · rw [if_pos e, if_pos e.symm]
    · rw [if_neg e, if_neg fun h => e h.symm]
abbrev Mt := Nat → Nat → Fe
def mm (n : Nat) (A B : Mt) : Mt := fun i j => sm n fun k => A i k * B k j
def Eqm (r c : Nat) (A B : Mt) : Prop := ∀ i j, i < r → j < c → A i j = B i j
theorem Eqm.refl (r c : Nat) (A : Mt) : Eqm r c A A := fun _ _ _ _ => rfl
theorem Eqm.symm {r c : Nat} {A B : Mt} (h : Eqm r c A B) : Eqm r c B A := fun i j hi hj => (h i j hi hj).symm
theorem Eqm.trans {r c : Nat} {A B D : Mt} (h : Eqm r c A B) (k : Eqm r c B D) : Eqm r c A D := fun i j hi hj => (h i j hi hj).trans (k i j hi hj)
theorem mm_assoc (n m : Nat) (A B D : Mt) : mm m (mm n A B) D = mm n A (mm m B D) := by
  funext i j
  show sm m (fun k => sm n (fun l => A i l * B l k) * D k j) = sm n fun l => A i l * sm m fun k => B l k * D k j
  rw [sm_congr (g := fun k => sm n fun l => A i l * (B l k * D k j)) fun k _ => by rw [← sm_mul']; exact sm_congr fun l _ => mul_assoc _ _ _, sm_swap]
  exact sm_congr fun l _ => sm_mul _ _ _
theorem mm_congr {r n c : Nat} {A A' B B' : Mt} (h : Eqm r n A A') (k : Eqm n c B B') : Eqm r c (mm n A B) (mm n A' B') := fun i j hi hj => sm_congr fun l hl => by rw [h i l hi hl, k l j hl hj]
theorem mm_dl {r n c : Nat} (h : r ≤ n) (A : Mt) : Eqm r c (mm n dl A) A := fun i j hi _ => sm_dl (fun k => A k j) (by omega)
theorem dl_mm {r n c : Nat} (h : c ≤ n) (A : Mt) : Eqm r c (mm n A dl) A := fun i j _ hj => sm_dl' (fun k => A i k) (by omega)
def tr (A : Mt) : Mt := fun i j => A j i
theorem tr_mm (n : Nat) (A B : Mt) : tr (mm n A B) = mm n (tr B) (tr A) := by
  funext i j
  exact sm_congr fun k _ => mul_comm _ _
structure Inv (n : Nat) (T T' : Mt) : Prop where
  l : Eqm n n (mm n T T') dl
  r : Eqm n n (mm n T' T) dl
theorem Inv.mul {n : Nat} {S S' T T' : Mt} (a : Inv n S S') (b : Inv n T T') : Inv n (mm n S T) (mm n T' S') := by
  constructor
  · have : mm n (mm n S T) (mm n T' S') = mm n S (mm n (mm n T T') S') := by rw [mm_assoc, mm_assoc]
    rw [this]
    exact (mm_congr (Eqm.refl n n S) ((mm_congr b.l (Eqm.refl n n S')).trans (mm_dl (Nat.le_refl n) S'))).trans a.l
  · have : mm n (mm n T' S') (mm n S T) = mm n T' (mm n (mm n S' S) T) := by rw [mm_assoc, mm_assoc]
    rw [this]
    exact (mm_congr (Eqm.refl n n T') ((mm_congr a.r (Eqm.refl n n T)).trans (mm_dl (Nat.le_refl n) T))).trans b.r
theorem Inv.one (n : Nat) : Inv n dl dl := ⟨mm_dl (Nat.le_refl n) dl, mm_dl (Nat.le_refl n) dl⟩
def swT (l r : Nat) : Mt := fun i k => dl (if i = l then r else if i = r then l else i) k
theorem sw_mm {n l r : Nat} (hl : l < n) (hr : r < n) (A : Mt) (i j : Nat) (hi : i < n) : mm n (swT l r) A i j = A (if i = l then r else if i = r then l else i) j := by
  refine sm_dl (fun k => A k j) ?_
  split
  · exact hr
  · split
    · exact hl
    · exact hi
theorem sw_inv {n l r : Nat} (hl : l < n) (hr : r < n) : Inv n (swT l r) (swT l r) := by
  have : Eqm n n (mm n (swT l r) (swT l r)) dl := fun i j hi _ => by
    rw [sw_mm hl hr _ i j hi]
    unfold swT
    by_cases e : i = l
    · subst e
      rw [if_pos rfl]
      by_cases e2 : r = i
      · subst e2; rw [if_pos rfl]
      · rw [if_neg e2, if_pos rfl]
    · rw [if_neg e]
      by_cases e2 : i = r
      · subst e2; rw [if_pos rfl, if_pos rfl]
      · rw [if_neg e2, if_neg e, if_neg e2]
  exact ⟨this, this⟩
def scT (r : Nat) (c : Fe) : Mt := fun i k => (if i = r then c else 1) * dl i k
theorem sc_mm {n r : Nat} {c : Fe} (A : Mt) (i j : Nat) (hi : i < n) : mm n (scT r c) A i j = (if i = r then c else 1) * A i j := by
  unfold mm scT
  rw [sm_congr (g := fun k => (if i = r then c else 1) * (dl i k * A k j)) fun k _ => mul_assoc _ _ _, sm_mul, sm_dl (fun k => A k j) hi]
theorem sc_inv {n r : Nat} {c c' : Fe} (h : c * c' = 1) : Inv n (scT r c) (scT r c') := by
  have go : ∀ {c c' : Fe}, c * c' = 1 → Eqm n n (mm n (scT r c) (scT r c')) dl := fun {c c'} h i j hi _ => by
    rw [sc_mm _ i j hi]
    unfold scT
    rw [← mul_assoc]
    by_cases e : i = r
    · rw [if_pos e, if_pos e, h, one_mul]
    · rw [if_neg e, if_neg e, one_mul, one_mul]
  exact ⟨go h, go (by rw [mul_comm]; exact h)⟩
def elT (r : Nat) (m : Nat → Fe) : Mt := fun i k => dl i k + (if i = r then 0 else m i) * dl r k
theorem el_mm {n r : Nat} (hr : r < n) {m : Nat → Fe} (A : Mt) (i j : Nat) (hi : i < n) : mm n (elT r m) A i j = A i j + (if i = r then 0 else m i) * A r j := by
  unfold mm elT
  rw [sm_congr (g := fun k => dl i k * A k j + (if i = r then 0 else m i) * (dl r k * A k j)) fun k _ => by rw [add_mul, mul_assoc], sm_add, sm_mul, sm_dl (fun k => A k j) hi, sm_dl (fun k => A k j) hr]
theorem el_inv {n r : Nat} (hr : r < n) (m : Nat → Fe) : Inv n (elT r m) (elT r m) := by
  have : Eqm n n (mm n (elT r m) (elT r m)) dl := fun i j hi _ => by
    rw [el_mm hr _ i j hi]
    unfold elT
    by_cases e : i = r
    · subst e; simp only [if_true, zero_mul, add_zero]
    · simp only [if_neg e, if_true, zero_mul, add_zero]
      rw [add_assoc, add_self, add_zero]
  exact ⟨this, this⟩
end Gb
namespace Gb
open Go Gx Go.Proofs Fe
def El (N : Nat) (g : Nat → Nat) : Prop := ∀ t, t < N → g t < 256
def Vw (C : Nat) (g : Nat → Nat) : Mt := fun i j => of (g (i * C + j))
def sg (l r i : Nat) : Nat := if i = l then r else if i = r then l else i
theorem pos_lt {R C i j : Nat} (hi : i < R) (hj : j < C) : i * C + j < R * C := by have := le_row (c := C) hi; omega
theorem sg_lt {R l r i : Nat} (hl : l < R) (hr : r < R) (hi : i < R) : sg l r i < R := by
  unfold sg
  split
  · exact hr
  · split
    · exact hl
    · exact hi
section
variable {R C C2 l r jj : Nat} {g u : Nat → Nat}
theorem Vw_swap {i j : Nat} (hj : j < C) : Vw C (swapR C l r g) i j = Vw C g (sg l r i) j := by
  unfold Vw swapR sg
  rw [pos_div hj, pos_mod hj]
  by_cases e : i = l
  · rw [if_pos e, if_pos e]
  · rw [if_neg e, if_neg e]
    by_cases e2 : i = r
    · rw [if_pos e2, if_pos e2]
    · rw [if_neg e2, if_neg e2]
theorem swap_El (hl : l < R) (hr : r < R) (hC : 0 < C) (h : El (R * C) g) : El (R * C) (swapR C l r g) := fun t ht => by
  have hm := Nat.mod_lt t hC
  unfold swapR
  split
  · exact h _ (pos_lt hr hm)
  · split
    · exact h _ (pos_lt hl hm)
    · exact h t ht
theorem Vw_div {b i j : Nat} (hb : b < 256) (b0 : b ≠ 0) (h : El (R * C) g) (hi : i < R) (hj : j < C) : Vw C (divR C r b g) i j = (if i = r then Fe.inv (of b) else 1) * Vw C g i j := by
  have hx := h _ (pos_lt hi hj)
  unfold Vw divR
  rw [pos_div hj]
  by_cases e : i = r
  · rw [if_pos e, if_pos e, ← div_scl hx hb b0, of_mul hx divT_lt, mul_comm]
    congr 1
    exact Fe.ext (by rw [of_v divT_lt]; show divT 1 b = divT 1 (of b).v; rw [of_v hb])
  · rw [if_neg e, if_neg e, one_mul]
theorem Vw_elim {i j : Nat} (h : El (R * C) g) (hr : r < R) (hjj : jj < C) (hi : i < R) (hj : j < C) : Vw C (elimG C r jj g) i j = Vw C g i j + (if i = r then 0 else Vw C g i jj) * Vw C g r j := by
  unfold Vw elimG
  rw [pos_div hj, pos_mod hj]
  by_cases e : i = r
  · rw [if_pos e, if_pos e, zero_mul, add_zero]
  · rw [if_neg e, if_neg e, of_xor (h _ (pos_lt hi hj)) (mulT_lt _ _), of_mul (h _ (pos_lt hr hj)) (h _ (pos_lt hi hjj)), mul_comm (of (g (r * C + j)))]
theorem Vw_elimU {i j : Nat} (h : El (R * C) g) (hu : El (R * C2) u) (hr : r < R) (hjj : jj < C) (hi : i < R) (hj : j < C2) : Vw C2 (elimU C C2 r jj g u) i j = Vw C2 u i j + (if i = r then 0 else Vw C g i jj) * Vw C2 u r j := by
  unfold Vw elimU
  rw [pos_div hj, pos_mod hj]
  by_cases e : i = r
  · rw [if_pos e, if_pos e, zero_mul, add_zero]
  · rw [if_neg e, if_neg e, of_xor (hu _ (pos_lt hi hj)) (mulT_lt _ _), of_mul (hu _ (pos_lt hr hj)) (h _ (pos_lt hi hjj)), mul_comm (of (u (r * C2 + j)))]
theorem elim_El (h : El (R * C) g) : El (R * C) (elimG C r jj g) := fun t ht => by
  unfold elimG
  split
  · exact h t ht
  · exact xor_lt (h t ht) (mulT_lt _ _)
theorem elimU_El (h : El (R * C2) u) : El (R * C2) (elimU C C2 r jj g u) := fun t ht => by
  unfold elimU
  split
  · exact h t ht
  · exact xor_lt (h t ht) (mulT_lt _ _)
def stM (l r jj : Nat) (A : Mt) (B : Mt) : Mt :=
  let h : Mt := fun i j => (if i = r then Fe.inv (A (sg l r r) jj) else 1) * B (sg l r i) j
  fun i j => h i j + (if i = r then 0 else (if i = r then Fe.inv (A (sg l r r) jj) else 1) * A (sg l r i) jj) * h r j
theorem Vw_stepG (h : El (R * C) g) (hl : l < R) (hr : r < R) (hjj : jj < C) (hp : g (l * C + jj) ≠ 0) : Eqm R C (Vw C (stepG C jj l r g)) (stM l r jj (Vw C g) (Vw C g)) ∧ El (R * C) (stepG C jj l r g) := by
  have hC : 0 < C := by omega
  have e1 := swap_El hl hr hC h
  obtain ⟨b, hb⟩ : ∃ b, b = swapR C l r g (r * C + jj) := ⟨_, rfl⟩
  have hb1 : b < 256 := by rw [hb]; exact e1 _ (pos_lt hr hjj)
  have ob : of b = Vw C g (sg l r r) jj := by rw [← Vw_swap hjj, hb]; rfl
  have hb0 : b ≠ 0 := fun e => hp (by
    have : Vw C g (sg l r r) jj = Vw C g l jj := by
      unfold sg
      by_cases e : r = l
      · rw [if_pos e, e]
      · rw [if_neg e, if_pos rfl]
    rw [this, e] at ob
    exact of_inj (h _ (pos_lt hl hjj)) (by omega) ob.symm)
  have e2 : El (R * C) (divR C r b (swapR C l r g)) := divR_el e1
  have es : stepG C jj l r g = elimG C r jj (divR C r b (swapR C l r g)) := by rw [hb]; rfl
  refine ⟨fun i j hi hj => ?_, by rw [es]; exact elim_El e2⟩
  rw [es, Vw_elim e2 hr hjj hi hj, Vw_div hb1 hb0 e1 hi hj, Vw_div hb1 hb0 e1 hi hjj, Vw_div hb1 hb0 e1 hr hj, Vw_swap hj, Vw_swap hj, Vw_swap hjj, ob]
  rfl
theorem Vw_stepU (h : El (R * C) g) (hu : El (R * C2) u) (hl : l < R) (hr : r < R) (hjj : jj < C) (hC2 : 0 < C2) (hp : g (l * C + jj) ≠ 0) : Eqm R C2 (Vw C2 (stepU C C2 jj l r g u)) (stM l r jj (Vw C g) (Vw C2 u)) ∧ El (R * C2) (stepU C C2 jj l r g u) := by
  have hC : 0 < C := by omega
  have e1 := swap_El hl hr hC h
  have u1 := swap_El hl hr hC2 hu
  obtain ⟨b, hb⟩ : ∃ b, b = swapR C l r g (r * C + jj) := ⟨_, rfl⟩
  have hb1 : b < 256 := by rw [hb]; exact e1 _ (pos_lt hr hjj)
  have ob : of b = Vw C g (sg l r r) jj := by rw [← Vw_swap hjj, hb]; rfl
  have hb0 : b ≠ 0 := fun e => hp (by
    have : Vw C g (sg l r r) jj = Vw C g l jj := by
      unfold sg
      by_cases e : r = l
      · rw [if_pos e, e]
      · rw [if_neg e, if_pos rfl]
    rw [this, e] at ob
    exact of_inj (h _ (pos_lt hl hjj)) (by omega) ob.symm)
  have e2 : El (R * C) (divR C r b (swapR C l r g)) := divR_el e1
  have u2 : El (R * C2) (divR C2 r b (swapR C2 l r u)) := divR_el u1
  have es : stepU C C2 jj l r g u = elimU C C2 r jj (divR C r b (swapR C l r g)) (divR C2 r b (swapR C2 l r u)) := by rw [hb]; rfl
  refine ⟨fun i j hi hj => ?_, by rw [es]; exact elimU_El u2⟩
  rw [es, Vw_elimU e2 u2 hr hjj hi hj, Vw_div hb1 hb0 u1 hi hj, Vw_div hb1 hb0 e1 hi hjj, Vw_div hb1 hb0 u1 hr hj, Vw_swap hj, Vw_swap hj, Vw_swap hjj, ob]
  rfl
theorem st_inv {A : Mt} (hl : l < R) (hr : r < R) (hp : A (sg l r r) jj ≠ 0) : ∃ T T', Inv R T T' ∧ ∀ (c : Nat) (B : Mt), Eqm R c (stM l r jj A B) (mm R T B) := by
  obtain ⟨k, hk⟩ : ∃ k, k = Fe.inv (A (sg l r r) jj) := ⟨_, rfl⟩
  have hkk : k * A (sg l r r) jj = 1 := by rw [hk]; exact inv_mul hp
  obtain ⟨m, hm⟩ : ∃ m : Nat → Fe, m = fun i => (if i = r then k else 1) * A (sg l r i) jj := ⟨_, rfl⟩
  refine ⟨mm R (elT r m) (mm R (scT r k) (swT l r)), _, (el_inv hr m).mul ((sc_inv hkk).mul (sw_inv hl hr)), fun c B i j hi _ => ?_⟩
  rw [mm_assoc, el_mm hr _ i j hi, mm_assoc, sc_mm _ i j hi, sc_mm _ r j hr, sw_mm hl hr B i j hi, sw_mm hl hr B r j hr, hm, hk]
  rfl
end
structure Ech (R : Nat) (G : Mt) (r j : Nat) (p : Nat → Nat) : Prop where
  rj : r ≤ j
  rR : r ≤ R
  pv : ∀ k, k < r → p k < j ∧ ∀ i, i < R → G i (p k) = dl i k
  zr : ∀ i, r ≤ i → i < R → ∀ c, c < j → G i c = 0
  sq : r = j → ∀ k, k < r → p k = k
theorem Ech.congr {R C r j : Nat} {G G' : Mt} {p : Nat → Nat} (h : Ech R G r j p) (hj : j ≤ C) (e : Eqm R C G' G) : Ech R G' r j p :=
  ⟨h.rj, h.rR, fun k hk => ⟨(h.pv k hk).1, fun i hi => by rw [e i _ hi (by have := (h.pv k hk).1; omega)]; exact (h.pv k hk).2 i hi⟩, fun i h1 h2 c hc => by rw [e i c h2 (by omega)]; exact h.zr i h1 h2 c hc, h.sq⟩
theorem dl_ne {i k : Nat} (h : i ≠ k) : dl i k = 0 := by unfold dl; rw [if_neg h]
theorem dl_eq (i : Nat) : dl i i = 1 := by unfold dl; rw [if_pos rfl]
theorem Ech.step {R r j l : Nat} {G : Mt} {p : Nat → Nat} (h : Ech R G r j p) (h1 : r ≤ l) (h2 : l < R) (hp : G (sg l r r) j ≠ 0) : Ech R (stM l r j G G) (r + 1) (j + 1) (fun k => if k = r then j else p k) := by
  have hr : r < R := by omega
  have sr : sg l r r = l := by
    unfold sg
    by_cases e : r = l
    · rw [if_pos e]; exact e
    · rw [if_neg e, if_pos rfl]
  have sge : ∀ i, r ≤ i → r ≤ sg l r i := fun i hi => by
    unfold sg
    split
    · omega
    · split <;> omega
  have slt : ∀ i, i < R → sg l r i < R := fun i hi => sg_lt h2 hr hi
  have kk : Fe.inv (G (sg l r r) j) * G (sg l r r) j = 1 := inv_mul hp
  have col : ∀ c, (∀ x, r ≤ x → x < R → G x c = 0) → ∀ i, i < R → stM l r j G G i c = if i = r then 0 else G (sg l r i) c := fun c hc i hi => by
    unfold stM
    dsimp only
    rw [hc (sg l r r) (by rw [sr]; exact h1) (by rw [sr]; exact h2), mul_zero, mul_zero, add_zero]
    by_cases e : i = r
    · rw [if_pos e, if_pos e, e, hc (sg l r r) (by rw [sr]; exact h1) (by rw [sr]; exact h2), mul_zero]
    · rw [if_neg e, if_neg e, one_mul]
  have colj : ∀ i, i < R → stM l r j G G i j = dl i r := fun i hi => by
    unfold stM
    dsimp only
    rw [if_pos rfl, kk, mul_one]
    by_cases e : i = r
    · rw [if_pos e, if_pos e, e, kk, add_zero, dl_eq]
    · rw [if_neg e, if_neg e, add_self, dl_ne e]
  refine ⟨by have := h.rj; omega, by omega, fun k hk => ?_, fun i h3 h4 c hc => ?_, fun e k hk => ?_⟩
  · by_cases e : k = r
    · rw [if_pos e]
      exact ⟨by omega, fun i hi => by rw [colj i hi, e]⟩
    · rw [if_neg e]
      obtain ⟨q1, q2⟩ := h.pv k (by omega)
      refine ⟨by omega, fun i hi => ?_⟩
      rw [col (p k) (fun x hx hx' => by rw [q2 x hx', dl_ne (by omega)]) i hi]
      by_cases e2 : i = r
      · rw [if_pos e2, dl_ne (by omega)]
      · rw [if_neg e2, q2 _ (slt i hi)]
        unfold sg
        by_cases e3 : i = l
        · rw [if_pos e3, dl_ne (by omega), dl_ne (by omega)]
        · rw [if_neg e3, if_neg e2]
  · by_cases e : c = j
    · rw [e, colj i h4, dl_ne (by omega)]
    · rw [col c (fun x hx hx' => h.zr x hx hx' c (by omega)) i h4, if_neg (by omega)]
      exact h.zr _ (sge i (by omega)) (slt i h4) c (by omega)
  · by_cases e2 : k = r
    · rw [if_pos e2]; omega
    · rw [if_neg e2]; exact h.sq (by omega) k (by omega)
theorem Ech.none {R r j : Nat} {G : Mt} {p : Nat → Nat} (h : Ech R G r j p) (hz : ∀ i, r ≤ i → i < R → G i j = 0) : Ech R G r (j + 1) p :=
  ⟨by have := h.rj; omega, h.rR, fun k hk => ⟨by have := (h.pv k hk).1; omega, (h.pv k hk).2⟩, fun i h1 h2 c hc => by
    by_cases e : c = j
    · rw [e]; exact hz i h1 h2
    · exact h.zr i h1 h2 c (by omega), fun e => by have := h.rj; omega⟩
theorem leadN_none (C j : Nat) (g : Nat → Nat) : ∀ m i, leadN C j g m i = i + m → ∀ x, i ≤ x → x < i + m → g (x * C + j) = 0
  | 0, i, _, x, h1, h2 => by omega
  | m + 1, i, h, x, h1, h2 => by
    unfold leadN at h
    split at h
    · rename_i e
      by_cases ex : x = i
      · rw [ex]; exact e
      · exact leadN_none C j g m (i + 1) (by omega) x (by omega) (by omega)
    · omega
theorem gaussN {R C C2 : Nat} (hC2 : 0 < C2) : ∀ (m j r : Nat) (g u : Nat → Nat) (p : Nat → Nat), j + m = C → El (R * C) g → El (R * C2) u → Ech R (Vw C g) r j p →
    ∃ T T' p' j', Inv R T T' ∧ Eqm R C (Vw C (stepsN R C C2 m j r g u).2.1) (mm R T (Vw C g)) ∧ Eqm R C2 (Vw C2 (stepsN R C C2 m j r g u).2.2) (mm R T (Vw C2 u)) ∧ El (R * C) (stepsN R C C2 m j r g u).2.1 ∧ El (R * C2) (stepsN R C C2 m j r g u).2.2 ∧
      Ech R (Vw C (stepsN R C C2 m j r g u).2.1) (stepsN R C C2 m j r g u).1 j' p' ∧ j' ≤ C ∧ (j' = C ∨ (stepsN R C C2 m j r g u).1 = R)
  | 0, j, r, g, u, p, hj, hg, hu, E => ⟨dl, dl, p, j, Inv.one R, (mm_dl (Nat.le_refl R) _).symm, (mm_dl (Nat.le_refl R) _).symm, hg, hu, E, by omega, .inl (by omega)⟩
  | m + 1, j, r, g, u, p, hj, hg, hu, E => by
    have hjC : j < C := by omega
    by_cases c1 : r < R
    · obtain ⟨l, hl⟩ : ∃ l, l = leadN C j g (R - r) r := ⟨_, rfl⟩
      have hle := leadN_le C j g (R - r) r
      rw [← hl] at hle
      by_cases c2 : l = R
      · have es : stepsN R C C2 (m + 1) j r g u = stepsN R C C2 m (j + 1) r g u := by
          simp only [stepsN]; rw [if_pos c1, ← hl, if_pos c2]
        rw [es]
        exact gaussN hC2 m (j + 1) r g u p (by omega) hg hu (E.none fun i h1 h2 => by
          unfold Vw
          rw [leadN_none C j g (R - r) r (by omega) i h1 (by omega), of_zero])
      · have es : stepsN R C C2 (m + 1) j r g u = stepsN R C C2 m (j + 1) (r + 1) (stepG C j l r g) (stepU C C2 j l r g u) := by
          simp only [stepsN]; rw [if_pos c1, ← hl, if_neg c2]
        have hlR : l < R := by omega
        have hp : g (l * C + j) ≠ 0 := by rw [hl]; exact leadN_ne C j g (R - r) r (by omega)
        have sr : sg l r r = l := by
          unfold sg
          by_cases e : r = l
          · rw [if_pos e]; exact e
          · rw [if_neg e, if_pos rfl]
        have hpV : Vw C g (sg l r r) j ≠ 0 := fun e => hp (by
          rw [sr] at e
          exact of_inj (hg _ (pos_lt hlR hjC)) (by omega) e)
        obtain ⟨gE, gL⟩ := Vw_stepG hg hlR c1 hjC hp
        obtain ⟨uE, uL⟩ := Vw_stepU hg hu hlR c1 hjC hC2 hp
        obtain ⟨T, T', TI, TE⟩ := st_inv (R := R) (jj := j) (A := Vw C g) hlR c1 hpV
        obtain ⟨S, S', p', j', SI, h1, h2, h3, h4, h5, h6, h7⟩ := gaussN hC2 m (j + 1) (r + 1) _ _ _ (by omega) gL uL ((E.step (by omega) hlR hpV).congr (by omega) gE)
        rw [es]
        refine ⟨mm R S T, _, p', j', SI.mul TI, ?_, ?_, h3, h4, h5, h6, h7⟩
        · rw [mm_assoc]
          exact h1.trans (mm_congr (Eqm.refl R R S) (gE.trans (TE C _)))
        · rw [mm_assoc]
          exact h2.trans (mm_congr (Eqm.refl R R S) (uE.trans (TE C2 _)))
    · have es : stepsN R C C2 (m + 1) j r g u = (r, g, u) := by simp only [stepsN]; rw [if_neg c1]
      rw [es]
      exact ⟨dl, dl, p, j, Inv.one R, (mm_dl (Nat.le_refl R) _).symm, (mm_dl (Nat.le_refl R) _).symm, hg, hu, E, by omega, .inr (by have := E.rR; show r = R; omega)⟩
theorem stepsN_fst {R C C2 C2' : Nat} : ∀ (m j r : Nat) (g u u' : Nat → Nat), (stepsN R C C2 m j r g u).1 = (stepsN R C C2' m j r g u').1
  | 0, _, _, _, _, _ => rfl
  | m + 1, j, r, g, u, u' => by
    simp only [stepsN]
    split
    · split
      · exact stepsN_fst m (j + 1) r g u u'
      · exact stepsN_fst m (j + 1) (r + 1) _ _ _
    · rfl
end Gb
namespace Gb
open Go Gx Go.Proofs Fe
def rk (R C : Nat) (g : Nat → Nat) : Nat := (stepsN R C 1 C 0 0 g fun _ => 0).1
theorem rk_any {R C : Nat} (C2 : Nat) (g u : Nat → Nat) : (stepsN R C C2 C 0 0 g u).1 = rk R C g := stepsN_fst _ _ _ _ _ _
theorem Vw_one {n i j : Nat} (hj : j < n) : Vw n (oneN n) i j = dl i j := by
  unfold Vw oneN dl
  rw [pos_div hj, pos_mod hj]
  split
  · exact of_one
  · exact of_zero
theorem oneN_El (n : Nat) : El (n * n) (oneN n) := fun t _ => by unfold oneN; split <;> omega
structure Gs (R C : Nat) (g : Nat → Nat) (T T' G : Mt) (p : Nat → Nat) : Prop where
  inv : Inv R T T'
  eq : Eqm R C G (mm R T (Vw C g))
  rR : rk R C g ≤ R
  pv : ∀ k, k < rk R C g → p k < C ∧ ∀ i, i < R → G i (p k) = dl i k
  zr : ∀ i, rk R C g ≤ i → i < R → ∀ c, c < C → G i c = 0
  sq : R = C → rk R C g = R → Eqm R R G dl
theorem gauss {R C : Nat} {g : Nat → Nat} (hR : 0 < R) (hg : El (R * C) g) : ∃ T T' G p, Gs R C g T T' G p ∧ Eqm R R (Vw R (stepsN R C R C 0 0 g (oneN R)).2.2) T := by
  obtain ⟨T, T', p, j, I, h1, h2, _, _, E, hj, h3⟩ := gaussN (C := C) hR C 0 0 g (oneN R) (fun k => k) (by omega) hg (oneN_El R) ⟨by omega, by omega, fun k hk => by omega, fun i _ _ c hc => by omega, fun _ k hk => by omega⟩
  have er := rk_any (R := R) (C := C) R g (oneN R)
  rw [er] at E h3
  refine ⟨T, T', _, p, ⟨I, h1, E.rR, fun k hk => ⟨by have := (E.pv k hk).1; omega, (E.pv k hk).2⟩, fun i h4 h5 c hc => ?_, fun e1 e2 => ?_⟩, ?_⟩
  · rcases h3 with h3 | h3
    · exact E.zr i h4 h5 c (by omega)
    · omega
  · subst e1
    have e3 : j = R := by
      have := E.rj
      omega
    intro i k hi hk
    have := (E.pv k (by omega)).2 i hi
    rwa [E.sq (by omega) k (by omega)] at this
  · exact h2.trans ((mm_congr (Eqm.refl R R T) (fun i j _ hj => Vw_one hj)).trans (dl_mm (Nat.le_refl R) T))
def Fac (k R C : Nat) (A : Mt) : Prop := ∃ P Q, Eqm R C A (mm k P Q)
theorem Gs.back {R C : Nat} {g : Nat → Nat} {T T' G : Mt} {p : Nat → Nat} (S : Gs R C g T T' G p) : Eqm R C (Vw C g) (mm R T' G) := by
  have : Eqm R C (mm R T' G) (mm R (mm R T' T) (Vw C g)) := by
    rw [mm_assoc]
    exact mm_congr (Eqm.refl R R T') S.eq
  exact (this.trans ((mm_congr S.inv.r (Eqm.refl R C _)).trans (mm_dl (Nat.le_refl R) _))).symm
theorem kernel {R C : Nat} {g : Nat → Nat} (hR : 0 < R) (hg : El (R * C) g) (h : rk R C g < R) : ∃ v : Nat → Fe, (∃ i, i < R ∧ v i ≠ 0) ∧ ∀ c, c < C → sm R (fun k => v k * Vw C g k c) = 0 := by
  obtain ⟨T, T', G, p, S, _⟩ := gauss hR hg
  refine ⟨T (R - 1), Classical.byContradiction fun hn => ?_, fun c hc => ?_⟩
  · have hz : ∀ i, i < R → T (R - 1) i = 0 := fun i hi => Classical.byContradiction fun e => hn ⟨i, hi, e⟩
    have := S.inv.l (R - 1) (R - 1) (by omega) (by omega)
    rw [dl_eq] at this
    exact one_ne (this.symm.trans (sm_zero fun k hk => by rw [hz k hk, zero_mul]))
  · exact (S.eq (R - 1) c (by omega) hc).symm.trans (S.zr (R - 1) (by omega) (by omega) c hc)
theorem Fac.congr {k R C : Nat} {A A' : Mt} (e : Eqm R C A A') (h : Fac k R C A) : Fac k R C A' := by
  obtain ⟨P, Q, f⟩ := h
  exact ⟨P, Q, e.symm.trans f⟩
theorem Fac.tr {k R C : Nat} {A : Mt} (h : Fac k R C A) : Fac k C R (tr A) := by
  obtain ⟨P, Q, e⟩ := h
  refine ⟨Gb.tr Q, Gb.tr P, fun i j hi hj => ?_⟩
  show A j i = _
  rw [e j i hj hi, ← tr_mm]
  rfl
end Gb
namespace Gb
open Go Gx Go.Proofs Fe
def ls : List Nat → (Nat → Fe) → Fe
  | [], _ => 0
  | y :: l, f => f y + ls l f
def cauN (k t : Nat) : Nat := (cau k t).toNat
theorem cauN_at {i j k : Nat} (hj : j < k) : cauN k (i * k + j) = if i < k then (if i = j then 1 else 0) else divT 1 (i ^^^ j) := by
  unfold cauN
  rw [cau_at hj]
  split
  · split <;> rfl
  · simp
theorem cauN_El {k N : Nat} (hk : 0 < k) : El N (cauN k) := fun t _ => by
  have e : t / k * k + t % k = t := by have := Nat.div_add_mod t k; rw [Nat.mul_comm] at this; exact this
  rw [← e, cauN_at (Nat.mod_lt _ hk)]
  split
  · split <;> omega
  · exact divT_lt
theorem Vw_cau {i j k : Nat} (hi : i < 256) (hj : j < k) (hk : k ≤ 256) : Vw k (cauN k) i j = if i < k then dl i j else Fe.inv (of i + of j) := by
  unfold Vw
  rw [cauN_at hj]
  by_cases e : i < k
  · rw [if_pos e, if_pos e]
    unfold dl
    split
    · exact of_one
    · exact of_zero
  · rw [if_neg e, if_neg e, ← of_xor hi (by omega)]
    refine Fe.ext ?_
    rw [of_v divT_lt]
    show _ = divT 1 (of (i ^^^ j)).v
    rw [of_v (xor_lt hi (by omega))]
end Gb
namespace Gb
open Go Gx Go.Proofs
structure Gl (base : Nat) (h : AHeap) (s : Slc) (xs : List Int) : Prop where
  st : ((s = nilS ∨ ∃ b0, s = ⟨some ⟨b0, 0, some 0⟩, 0, 0⟩) ∧ xs = []) ∨ ∃ b, Grown encI 3 h b s xs
  lt : ∀ a, s.a = some a → a.block < h.next ∧ base ≤ a.block
theorem Gl.nil (base : Nat) (h : AHeap) : Gl base h nilS [] := ⟨.inl ⟨.inl rfl, rfl⟩, fun a ha => by cases ha⟩
theorem Gl.zero {base b0 : Nat} {h : AHeap} (h1 : b0 < h.next) (h2 : base ≤ b0) : Gl base h ⟨some ⟨b0, 0, some 0⟩, 0, 0⟩ [] := ⟨.inl ⟨.inr ⟨b0, rfl⟩, rfl⟩, fun a ha => by cases ha; exact ⟨h1, h2⟩⟩
theorem Gl.row {base : Nat} {h : AHeap} {s : Slc} {xs : List Int} (G : Gl base h s xs) : Row encI h s xs := by
  rcases G.st with ⟨h1, rfl⟩ | ⟨b, g⟩
  · rcases h1 with rfl | ⟨b0, rfl⟩
    · exact Row.nil _ _ _ _
    · exact Row.nil _ _ _ _
  · exact g.row (G.lt ⟨b, 0, some 2⟩ (by rw [g.s])).1
theorem Gl.chg {base : Nat} {S : Nat → Prop} {h h' : AHeap} {s : Slc} {xs : List Int} (G : Gl base h s xs) (c : Chg S h h') (hs : ∀ a, s.a = some a → ¬ S a.block) : Gl base h' s xs := by
  refine ⟨G.st.imp id ?_, fun a ha => ⟨Nat.lt_of_lt_of_le (G.lt a ha).1 c.nx, (G.lt a ha).2⟩⟩
  rintro ⟨b, g⟩
  exact ⟨b, g.chg (G.lt ⟨b, 0, some 2⟩ (by rw [g.s])).1 c (hs ⟨b, 0, some 2⟩ (by rw [g.s]))⟩
theorem Gl.keeps {base : Nat} {h h' : AHeap} {s : Slc} {xs : List Int} (G : Gl base h s xs) (c : Keeps h h') : Gl base h' s xs := G.chg c fun _ _ f => f
theorem copy_nil' {h : AHeap} {xs : List Int} (hx : xs.length ≠ 0) (hs : 16 * xs.length ≤ 281474976710656) : appendA 1 8 3 h (⟨none, 0, 0⟩ : Slc) (xs.map encI) xs.length = some (whole h.next xs.length (some 2), h.new (outB encI 3 xs)) := by
  unfold appendA
  rw [if_neg (show ¬ (0 + xs.length ≤ 0) by omega), if_pos (show 2 * (0 + xs.length) * 8 ≤ 281474976710656 ∧ 1 ≤ 8 by omega)]
  rfl
theorem Gl.append {base : Nat} {h : AHeap} {s : Slc} {xs ys : List Int} (G : Gl base h s xs) (hs : 16 * (xs.length + ys.length) ≤ 281474976710656) (hb : base ≤ h.next) :
    ∃ s' h', appendA 1 8 3 h s (ys.map encI) ys.length = some (s', h') ∧ Gl base h' s' (xs ++ ys) ∧ Chg (ofS s) h h' ∧ ∀ a, s'.a = some a → h.next ≤ a.block ∨ ofS s a.block := by
  have nx : ∀ a : Addr, a.block < h.next → a.block < (h.new (outB encI 3 ys)).next := fun a ha => by simp; omega
  rcases G.st with ⟨h1, rfl⟩ | ⟨b, g⟩
  · by_cases e : ys = []
    · subst e
      rcases h1 with rfl | ⟨b0, rfl⟩
      · exact ⟨nilS, h, rfl, G, .refl _ _, fun a ha => by cases ha⟩
      · exact ⟨_, h, append_none (enc := encI), G, .refl _ _, fun a ha => .inr ⟨a, ha, rfl⟩⟩
    · have l0 : ys.length ≠ 0 := fun h => e (List.length_eq_zero_iff.1 h)
      have gr := Grown.of (enc := encI) (e := 3) (h := h) (xs := ys) e
      rcases h1 with rfl | ⟨b0, rfl⟩
      · exact ⟨_, _, copy_nil' l0 (by simp at hs; omega), ⟨.inr ⟨_, gr⟩, fun a ha => by cases ha; simp; omega⟩, Chg.new _ _, fun a ha => by cases ha; simp⟩
      · exact ⟨_, _, append_fresh (enc := encI) l0 (by simp at hs; omega) (by omega), ⟨.inr ⟨_, gr⟩, fun a ha => by cases ha; simp; omega⟩, Chg.new _ _, fun a ha => by cases ha; simp⟩
  · have hlt := G.lt ⟨b, 0, some 2⟩ (by rw [g.s])
    by_cases e : ys = []
    · subst e
      refine ⟨s, h, ?_, by rw [List.append_nil]; exact G, .refl _ _, fun a ha => .inr ⟨a, ha, rfl⟩⟩
      rw [g.s]
      simp [appendA]
    · have ap := g.append (bytes := 8) (ys := ys) (fun _ => rfl) e (by omega) (by omega)
      refine ⟨_, _, ap, ⟨.inr ⟨_, rfl, by simp, fun e' => e (List.append_eq_nil_iff.1 e').2⟩, fun a ha => by cases ha; simp; omega⟩, Chg.kill_new (.inr ⟨⟨b, 0, some 2⟩, by rw [g.s], rfl⟩), fun a ha => by cases ha; simp⟩
structure GA (H0 : AHeap) (base ob : Nat) (r c : Int) (xs : List Int) (h : AHeap) (s : Slc) : Prop where
  ch : Chg (fun x => base ≤ x) H0 h
  co : h.get ob = some (.cells (mcell r c s) 84 true 0)
  lo : ob < h.next
  bo : base ≤ ob
  gl : Gl base h s xs
  no : ∀ a, s.a = some a → a.block ≠ ob
theorem GA.push {H0 : AHeap} {base ob : Nat} {r c : Int} {xs : List Int} {h : AHeap} {s : Slc} (G : GA H0 base ob r c xs h s) (x : Int) (hs : xs.length ≤ 1000000) :
    ∃ g s' h1 h2, g = h.new (.cells [.int .i64 x] 3 true 0) ∧ Gx.rdS 1 (⟨some ⟨h.next, 0, some 0⟩, 1, 1⟩ : Slc) g = some [.int .i64 x] ∧ appendA 1 8 3 g s [.int .i64 x] 1 = some (s', h1) ∧ st1 ⟨ob, 2, none⟩ (.slice s'.a s'.len s'.cap) h1 = some h2 ∧
      g.get ob = some (.cells (mcell r c s) 84 true 0) ∧ GA H0 base ob r c (xs ++ [x]) h2 s' := by
  have k1 : Keeps h (h.new (.cells [.int .i64 x] 3 true 0)) := Keeps.new h _
  have lo := G.lo
  have bo := G.bo
  have cg : (h.new (.cells [.int .i64 x] 3 true 0)).get ob = some (.cells (mcell r c s) 84 true 0) := by rw [k1.oth _ lo (fun f => f)]; exact G.co
  obtain ⟨s', h1, ap, G1, c1, n1⟩ := (G.gl.keeps k1).append (ys := [x]) (by simp; omega) (by simp; omega)
  have no' : ∀ a, s'.a = some a → a.block ≠ ob := fun a ha => by
    rcases n1 a ha with q | ⟨b, hb, e⟩
    · simp at q; omega
    · rw [e]; exact G.no b hb
  have co1 : h1.get ob = some (.cells (mcell r c s) 84 true 0) := by rw [c1.oth _ (by simp; omega) (fun ⟨a, ha, e⟩ => G.no a ha e.symm)]; exact cg
  have cset : Chg (· = ob) h1 (h1.set ob (.cells (mcell r c s') 84 true 0)) := Chg.set (.inr rfl)
  have l1 : ob < h1.next := by have := c1.nx; simp at this; omega
  refine ⟨_, s', h1, _, rfl, rdS_one, ap, stS2 co1, cg, ⟨?_, by simp, l1, bo, G1.chg cset no', no'⟩⟩
  refine ((G.ch.trans (Chg.keeps k1)).trans (c1.wk fun x hx => ?_)).trans (cset.wk fun x _ e => ?_)
  · rintro ⟨a, ha, rfl⟩; exact (G.gl.lt a ha).2
  · have e : x = ob := e
    rw [e]; exact bo
end Gb
namespace Gb
open Go Gx Go.Proofs Fe
structure MV (sb fb : Nat) (h : AHeap) (b R C : Nat) (s : Slc) (g : Nat → Nat) : Prop where
  cel : h.get b = some (.cells (mcell R C s) 84 true 0)
  lt : b < h.next
  nf : b ≠ fb
  inm : InM h s (matN (R * C) g)
  ap : ∀ a, s.a = some a → a.block ≠ sb ∧ a.block ≠ fb
  r1 : 1 ≤ R
  r2 : R ≤ 255
  c1 : 1 ≤ C
  c2 : C ≤ 255
  el : El (R * C) g
section
variable {k0 : Nat} {sb fb : Nat} {h h' : AHeap} {b b2 R C C2 n : Nat} {s s2 : Slc} {f g : Nat → Nat}
theorem MV.chg (m : MV sb fb h b R C s g) (c : Chg (· = fb) h h') : MV sb fb h' b R C s g :=
  ⟨by rw [c.oth _ m.lt m.nf]; exact m.cel, Nat.lt_of_lt_of_le m.lt c.nx, m.nf, m.inm.chg c fun a ha => (m.ap a ha).2, m.ap, m.r1, m.r2, m.c1, m.c2, m.el⟩
theorem MV.keeps (m : MV sb fb h b R C s g) (c : Keeps h h') : MV sb fb h' b R C s g := m.chg (Chg.keeps c)
theorem MV.len (m : MV sb fb h b R C s g) : (matN (R * C) g).length ≤ 100000 := by
  rw [show (matN (R * C) g).length = R * C from mat_length _ _]
  exact Nat.le_trans (Nat.mul_le_mul m.r2 m.c2) (by omega)
theorem MV.put {h1 : AHeap} {X : (Int × Int × Slc) × Int} {p : MRes} (S : Spc h sb fb) (O : Out h h1 X p) (c1 : Chg (· = fb) h h1) (S1 : Spc h1 sb fb) (hp : p = (((R : Int), (C : Int), matN (R * C) g), 0)) (r1 : 1 ≤ R) (r2 : R ≤ 255) (q1 : 1 ≤ C) (q2 : C ≤ 255) (el : El (R * C) g) :
    ∃ h2 s', X = (((R : Int), (C : Int), s'), 0) ∧ stL 3 ⟨h1.next, 0, none⟩ (mcell R C s') (h1.new (.cells [.int .i64 0, .int .i64 0, .slice none 0 0] 84 true 0)) = some h2 ∧ MV sb fb h2 h1.next R C s' g ∧ Spc h2 sb fb ∧ Chg (· = fb) h h2 := by
  obtain ⟨⟨r, c, s'⟩, code⟩ := X
  subst hp
  obtain rfl : r = (R : Int) := O.r
  obtain rfl : c = (C : Int) := O.c
  obtain rfl : code = 0 := O.code
  obtain ⟨h2, st2, k2, n2, b2⟩ := mvar (h := h1) (e := 84) (r := (R : Int)) (c := (C : Int)) (s := s')
  have ls := S.ls
  have lf := S.lf
  have nx := c1.nx
  exact ⟨h2, s', rfl, st2, ⟨b2, by omega, by omega, O.inm.keeps k2, fun a ha => by have := O.off a ha; exact ⟨by omega, by omega⟩, r1, r2, q1, q2, el⟩, S1.keeps k2, c1.trans (Chg.keeps k2)⟩
end
end Gb
namespace Gb
open Go Gx Go.Proofs Fe
end Gb
namespace Gb
open Go Gx Go.Proofs Fe
section
variable {k0 : Nat} {H0 : AHeap} {base N K : Nat}
end
end Gb
namespace Gb
open Go Gx Go.Proofs
theorem cau_cast (k t : Nat) : cau k t = ((cauN k t : Nat) : Int) := by
  unfold cauN cau
  split
  · split <;> rfl
  · simp
structure GoodK (k m n : Nat) (ps : List Prt) : Prop where
  len : ps.length = k
  nd : (idxs ps).Nodup
  rng : ∀ x ∈ ps, 0 ≤ x.1 ∧ x.1 < ((k + m : Nat) : Int)
  sz : ∀ x ∈ ps, x.2.size = n
end Gb
namespace Gb
open Go Gx Go.Proofs
end Gb
namespace Gb
open Go Gx Go.Proofs
theorem addL_get {a b : List UInt8} {i : Nat} : (addL a b)[i]? = (a[i]?).bind fun x => (b[i]?).map fun y => x ^^^ y := by
  simp only [addL, List.getElem?_zipWith]
  cases a[i]? <;> cases b[i]? <;> rfl
theorem add_zero (n : Nat) : addL (List.replicate n 0) (List.replicate n 0) = List.replicate n (0 : UInt8) := by
  simp [addL]
theorem head_sz {n : Nat} {ls : List ByteArray} (h : sames n ls = true) (h0 : ls ≠ []) : (ls.headD ⟨#[]⟩).size = n := by
  cases ls with
  | nil => exact absurd rfl h0
  | cons a t => simp only [sames, List.all_cons, Bool.and_eq_true, beq_iff_eq] at h; exact h.1
theorem mixA_ok {n : Nat} {ls : List ByteArray} {cs : List Int} (h : sames n ls = true) (hl : ls.length = cs.length) (hin : cs.all inR = true) : ∃ m, mixA ls cs = (⟨⟨mixL ls cs (List.replicate m 0)⟩⟩, 0) ∧ (ls ≠ [] → m = n) ∧ (ls = [] → m = 0) := by
  refine ⟨(ls.headD ⟨#[]⟩).size, ?_, head_sz h, fun e => by rw [e]; rfl⟩
  unfold mixA
  have : sames (ls.headD ⟨#[]⟩).size ls = true := by
    by_cases e : ls = []
    · subst e; rfl
    · rw [head_sz h e]; exact h
  rw [if_pos hl, if_pos this, if_pos hin]
end Gb
namespace Gb
open Go Gx Go.Proofs Fe
def bv (l : List UInt8) (t : Nat) : Fe := of ((l[t]?.getD 0).toNat)
theorem bv_lt (c : UInt8) : c.toNat < 256 := UInt8.toNat_lt c
theorem bv_add {a b : List UInt8} {t : Nat} (ha : t < a.length) (hb : t < b.length) : bv (addL a b) t = bv a t + bv b t := by
  unfold bv
  rw [addL_get]
  obtain ⟨x, hx⟩ := isome ha
  obtain ⟨y, hy⟩ := isome hb
  simp only [hx, hy, Option.bind_some, Option.map_some, Option.getD_some]
  rw [UInt8.toNat_xor, of_xor (bv_lt x) (bv_lt y)]
theorem bv_scale {c : Nat} (hc : c < 256) {l : List UInt8} {t : Nat} (ht : t < l.length) : bv (scaleL c l) t = of c * bv l t := by
  unfold bv scaleL
  obtain ⟨x, hx⟩ := isome ht
  simp only [List.getElem?_map, hx, Option.map_some, Option.getD_some]
  have hm : mulT x.toNat c < 256 := mulT_lt _ _
  rw [toNat_ofNat, Nat.mod_eq_of_lt hm, of_mul (bv_lt x) hc, Fe.mul_comm]
theorem bv_zero (n t : Nat) : bv (List.replicate n 0) t = 0 := by
  unfold bv
  by_cases h : t < n
  · simp [h]; rfl
  · simp [h]; rfl
theorem bv_inj {a b : List UInt8} (hl : a.length = b.length) (h : ∀ t, t < a.length → bv a t = bv b t) : a = b := by
  apply List.ext_getElem?
  intro t
  by_cases ht : t < a.length
  · obtain ⟨x, hx⟩ := isome ht
    obtain ⟨y, hy⟩ := isome (l := b) (i := t) (by omega)
    have := h t ht
    unfold bv at this
    rw [hx, hy] at this
    have := of_inj (bv_lt x) (bv_lt y) this
    rw [hx, hy, UInt8.toNat_inj.1 this]
  · rw [List.getElem?_eq_none (by omega), List.getElem?_eq_none (by omega)]
theorem sm_shift : ∀ (n : Nat) (f : Nat → Fe), sm (n + 1) f = f 0 + sm n fun i => f (i + 1)
  | 0, f => by show (0 : Fe) + f 0 = f 0 + 0; rw [Fe.zero_add, Fe.add_zero]
  | n + 1, f => by
    rw [sm_s, sm_shift n f, sm_s]
    show f 0 + sm n (fun i => f (i + 1)) + f (n + 1) = f 0 + (sm n (fun i => f (i + 1)) + f (n + 1))
    ac_rfl
theorem mixL_bv {n t : Nat} (ht : t < n) : ∀ (ls : List ByteArray) (cs : List Int) (o : List UInt8), ls.length = cs.length → (∀ s ∈ ls, s.size = n) → (∀ c ∈ cs, 0 ≤ c ∧ c < 256) → o.length = n →
    bv (mixL ls cs o) t = bv o t + sm ls.length fun j => of ((cs[j]?.getD 0).toNat) * bv (bl (ls[j]?.getD ⟨#[]⟩)) t
  | [], cs, o, _, _, _, _ => by show bv o t = bv o t + 0; rw [Fe.add_zero]
  | s :: ls, [], o, h, _, _, _ => by simp at h
  | s :: ls, c :: cs, o, h, hs, hc, ho => by
    have hss : (bl s).length = n := by rw [bl_length]; exact hs s (List.mem_cons_self ..)
    have hcc := hc c (List.mem_cons_self ..)
    have hsc : (scaleL c.toNat (bl s)).length = n := by rw [scaleL_length]; exact hs s (List.mem_cons_self ..)
    have hol : (addL o (scaleL c.toNat (bl s))).length = n := by simp [addL, ho, hsc]
    have ih := mixL_bv ht ls cs (addL o (scaleL c.toNat (bl s))) (by simpa using h) (fun x hx => hs x (List.mem_cons_of_mem _ hx)) (fun x hx => hc x (List.mem_cons_of_mem _ hx)) hol
    show bv (mixL ls cs (addL o (scaleL c.toNat (bl s)))) t = _
    rw [ih, bv_add (by omega) (by omega), bv_scale (by omega) (by omega), List.length_cons, sm_shift]
    simp only [List.getElem?_cons_zero, List.getElem?_cons_succ, Option.getD_some]
    ac_rfl
theorem sames_of {n : Nat} {ls : List ByteArray} (h : ∀ s ∈ ls, s.size = n) : sames n ls = true := List.all_eq_true.2 fun s hs => by simpa using h s hs
theorem inR_of {cs : List Int} (h : ∀ c ∈ cs, 0 ≤ c ∧ c < 256) : cs.all inR = true := List.all_eq_true.2 fun c hc => by
  have := h c hc
  unfold inR
  rw [decide_eq_false (by omega), decide_eq_false (by omega)]; rfl
theorem mix_bv {n : Nat} {ls : List ByteArray} {cs : List Int} (hne : ls ≠ []) (hl : ls.length = cs.length) (hs : ∀ s ∈ ls, s.size = n) (hc : ∀ c ∈ cs, 0 ≤ c ∧ c < 256) :
    (mixA ls cs).2 = 0 ∧ (mixA ls cs).1.size = n ∧ ∀ t, t < n → bv (bl (mixA ls cs).1) t = sm ls.length fun j => of ((cs[j]?.getD 0).toNat) * bv (bl (ls[j]?.getD ⟨#[]⟩)) t := by
  obtain ⟨m, h1, h2⟩ := mixA_ok (sames_of hs) hl (inR_of hc)
  have hm := h2.1 hne
  subst hm
  rw [h1]
  refine ⟨rfl, ?_, fun t ht => ?_⟩
  · rw [size_mk]; exact mixL_length (sames_of hs) (by simp)
  · rw [bl_mk, mixL_bv ht ls cs _ hl hs hc (by simp), bv_zero, Fe.zero_add]
theorem rowC_eq (k i : Nat) : rowC k i = (List.range k).map fun j => ((cauN k (i * k + j) : Nat) : Int) := List.map_congr_left fun _ _ => cau_cast k _
theorem row_range {k : Nat} {f : Nat → Nat} (hf : ∀ j, j < k → f j < 256) : ∀ c ∈ (List.range k).map (fun j => ((f j : Nat) : Int)), 0 ≤ c ∧ c < 256 := fun c hc => by
  obtain ⟨j, hj, rfl⟩ := List.mem_map.1 hc
  have := hf j (List.mem_range.1 hj); omega
theorem range_get {α : Type} {k j : Nat} {f : Nat → α} {d : α} (hj : j < k) : (((List.range k).map f)[j]?).getD d = f j := by simp [hj]
theorem piecesL_ne {k : Nat} (hk : 0 < k) (s : ByteArray) : piecesL k s ≠ [] := fun e => by
  have := congrArg List.length e
  rw [piecesL_length] at this
  have : k = 0 := this
  omega
theorem shard_bv {k m r : Nat} (hk : 0 < k) (hR : k + m ≤ 255) (s : ByteArray) (hr : r < k + m) : (shardB k s r).size = nE k s.size ∧ ∀ t, t < nE k s.size → bv (bl (shardB k s r)) t = sm k fun j => Vw k (cauN k) r j * bv (bl (pieceB k s j)) t := by
  have hE : ∀ j, j < k → cauN k (r * k + j) < 256 := fun j hj => cauN_El hk (N := (k + m) * k) _ (pos_lt hr hj)
  by_cases h : r < k
  · rw [shard_piece s h]
    refine ⟨pieceB_size hk s h, fun t _ => ?_⟩
    rw [sm_congr (g := fun j => dl r j * bv (bl (pieceB k s j)) t) fun j hj => by rw [Vw_cau (by omega) hj (by omega), if_pos h]]
    exact (sm_dl (fun j => bv (bl (pieceB k s j)) t) h).symm
  · have e : shardB k s r = (mixA (piecesL k s) (rowC k r)).1 := by unfold shardB; rw [if_neg h]
    obtain ⟨_, h2, h3⟩ := mix_bv (n := nE k s.size) (ls := piecesL k s) (cs := rowC k r) (piecesL_ne hk s) (by rw [piecesL_length, rowC_length]) (fun x hx => pieces_mem hk hx) (by rw [rowC_eq k r]; exact row_range hE)
    rw [e]
    refine ⟨h2, fun t ht => ?_⟩
    rw [h3 t ht, piecesL_length]
    refine sm_congr fun j hj => ?_
    rw [rowC_eq k r, range_get hj, Int.toNat_natCast]
    congr 2
    unfold piecesL
    rw [range_get hj]
structure OfS (k m : Nat) (s : ByteArray) (ps : List Prt) : Prop where
  good : GoodK k m (nE k s.size) ps
  data : ∀ x ∈ ps, x.2 = shardB k s x.1.toNat
end Gb
namespace Gb
open Go Gx Go.Proofs
end Gb
namespace Gb
open Go Gx Go.Proofs
def Wp {R : Type} (x : Option R) (Q : R → Prop) : Prop := ∃ r, x = some r ∧ Q r
theorem Wp.bnd {R α : Type} {Q : R → Prop} {x : Option α} {a : α} {f : α → Option R} (h : x = some a) (k : Wp (f a) Q) : Wp (x.bind f) Q := by rw [h]; exact k
theorem Wp.jn {R α : Type} {Q : R → Prop} {J : α} {b : α → Option R} (k : ∀ j, j = J → Wp (b j) Q) : Wp (joinK J b) Q := k J rfl
theorem Wp.ifp {R : Type} {Q : R → Prop} {c : Prop} [Decidable c] {a b : Option R} (h : c) (k : Wp a Q) : Wp (if c then a else b) Q := by rw [if_pos h]; exact k
theorem Wp.ifn {R : Type} {Q : R → Prop} {c : Prop} [Decidable c] {a b : Option R} (h : ¬ c) (k : Wp b Q) : Wp (if c then a else b) Q := by rw [if_neg h]; exact k
theorem Wp.gp {R : Type} {Q : R → Prop} {p : Prop} {x : Option R} (h : p) (k : Wp x Q) : Wp (guardP p x) Q := by rw [guardP_true h]; exact k
theorem Wp.of {R : Type} {Q : R → Prop} {r : R} (h : Q r) : Wp (some r) Q := ⟨r, rfl, h⟩
theorem Wp.mono {R : Type} {Q P : R → Prop} {x : Option R} (h : Wp x Q) (k : ∀ r, Q r → P r) : Wp x P := let ⟨r, e, q⟩ := h; ⟨r, e, k r q⟩
structure Nw (n0 : Nat) (h : AHeap) (s : Slc) (xs : List Int) : Prop where
  st : (∃ b, s = ⟨some ⟨b, 0, some 0⟩, 0, 0⟩ ∧ xs = [] ∧ n0 ≤ b ∧ b < h.next) ∨ (∃ b, Grown encI 3 h b s xs ∧ n0 ≤ b ∧ b < h.next)
theorem Nw.row {n0 : Nat} {h : AHeap} {s : Slc} {xs : List Int} (w : Nw n0 h s xs) : Row encI h s xs := by
  rcases w.st with ⟨b, rfl, rfl, _⟩ | ⟨b, g, _, h1⟩
  · exact Row.nil _ _ _ _
  · exact g.row h1
theorem Nw.lt {n0 : Nat} {h : AHeap} {s : Slc} {xs : List Int} (w : Nw n0 h s xs) : ∀ a, s.a = some a → n0 ≤ a.block ∧ a.block < h.next := by
  rcases w.st with ⟨b, rfl, rfl, h1⟩ | ⟨b, g, h1⟩
  · intro a ha; cases ha; exact h1
  · intro a ha; rw [g.s] at ha; cases ha; exact h1
theorem Nw.sp {n0 : Nat} {h : AHeap} {s : Slc} {xs : List Int} (w : Nw n0 h s xs) : s.cap = s.len ∧ ∃ b sp, s.a = some ⟨b, 0, sp⟩ ∧ spOk sp 1 = true := by
  rcases w.st with ⟨b, rfl, rfl, h1⟩ | ⟨b, g, h1⟩
  · exact ⟨rfl, b, _, rfl, rfl⟩
  · rw [g.s]; exact ⟨rfl, b, _, rfl, rfl⟩
theorem Nw.chg {S : Nat → Prop} {n0 : Nat} {h h' : AHeap} {s : Slc} {xs : List Int} (w : Nw n0 h s xs) (c : Chg S h h') (hs : ∀ a, s.a = some a → ¬ S a.block) : Nw n0 h' s xs := by
  rcases w.st with ⟨b, h1, h2, h3, h4⟩ | ⟨b, g, h1, h2⟩
  · exact ⟨.inl ⟨b, h1, h2, h3, Nat.lt_of_lt_of_le h4 c.nx⟩⟩
  · exact ⟨.inr ⟨b, g.chg h2 c (hs ⟨b, 0, some 2⟩ (by rw [g.s])), h1, Nat.lt_of_lt_of_le h2 c.nx⟩⟩
theorem Nw.app {n0 : Nat} {h : AHeap} {s : Slc} {xs : List Int} (w : Nw n0 h s xs) (hn : n0 ≤ h.next) (ys : List Int) (hs : xs.length + ys.length ≤ 100000) :
    ∃ s' h', appendA 1 8 3 h s (ys.map encI) ys.length = some (s', h') ∧ Nw n0 h' s' (xs ++ ys) ∧ Chg (fun x => n0 ≤ x) h h' := by
  by_cases hy : ys = []
  · subst hy
    rw [List.append_nil]
    refine ⟨s, h, ?_, w, Chg.refl _ _⟩
    rcases w.st with ⟨b, rfl, _⟩ | ⟨b, g, _⟩
    · exact append_none
    · rw [g.s]; simp [appendA]
  · have hl : ys.length ≠ 0 := fun e => hy (List.length_eq_zero_iff.1 e)
    rcases w.st with ⟨b, rfl, rfl, h1, h2⟩ | ⟨b, g, h1, h2⟩
    · exact ⟨_, _, append_fresh (enc := encI) hl (by omega) (by omega), ⟨.inr ⟨h.next, Grown.of hy, hn, by simp⟩⟩, Chg.new _ _⟩
    · refine ⟨_, _, g.append (fun _ => rfl) hy (by omega) (by omega), ⟨.inr ⟨h.next, ⟨rfl, by simp, by simp [hy]⟩, hn, by simp⟩⟩, Chg.kill_new (.inr h1)⟩
def encN (ls : List Nat) : List Int := ls.map fun (x : Nat) => (x : Int)
structure LeftI (n0 : Nat) (h : AHeap) (left out : Slc) (ls : List Nat) : Prop where
  nw : Nw n0 h left (encN ls)
  ap : ∀ a b, left.a = some a → out.a = some b → a.block ≠ b.block
theorem shape_spec (k0 : Nat) (D : CallF) (n : Int × Int) (h : AHeap) : ∃ (h' : AHeap) (k m : Nat), law05_shape k0 D n h = some (((k : Int), (m : Int)), h') ∧ 1 ≤ k ∧ k ≤ 8 ∧ m ≤ 6 ∧ Keeps h h' := by
  obtain ⟨a, b⟩ := n
  let h1 := h.new (.cells [.int .i64 a, .int .i64 b] 40 true 0)
  have hb1 : h1.get h.next = some (.cells [.int .i64 a, .int .i64 b] 40 true 0) := by simp [h1]
  have l0 : ldI .i64 ⟨h.next, 0, none⟩ h1 = some a := ldI_at hb1 rfl
  have l1 : ldI .i64 ⟨h.next, 1, none⟩ h1 = some b := ldI_at hb1 rfl
  obtain ⟨p, hp, e1⟩ := among_spec k0 D a 8 h1 (by decide) (by decide)
  obtain ⟨q, hq, e2⟩ := among_spec k0 D b 7 h1 (by decide) (by decide)
  refine ⟨h1, 1 + p, q, ?_, by omega, by omega, by omega, Keeps.new h _⟩
  simp only [law05_shape]
  refine bnd l0 (bnd e1 (bnd l1 ?_))
  refine gp (sw1 (by show (ldI .i64 ⟨h.next, 1, none⟩ h1).bind _ = _; rw [l1]; rfl)) ?_
  refine bnd e2 ?_
  rw [w64 _ (by omega)]
  have : (1 : Int) + (p : Int) = ((1 + p : Nat) : Int) := by omega
  rw [this]
end Gb
namespace Gb
open Go Gx Go.Proofs
structure Fit (k m n : Nat) (ps : List Prt) : Prop where
  nd : (idxs ps).Nodup
  le : ps.length ≤ k
  ok : ∀ x ∈ ps, (0 ≤ x.1 ∧ x.1 < ((k + m : Nat) : Int)) ∧ x.2.size = n
theorem Fit.tail {k m n : Nat} {ps : List Prt} (f : Fit k m n ps) : Fit k m n ps.tail :=
  ⟨by
    have : idxs ps.tail = (idxs ps).tail := by simp [idxs, List.map_tail]
    rw [this]; exact f.nd.sublist (List.tail_sublist _), by have := f.le; simp; omega, fun x hx => f.ok x (List.mem_of_mem_tail hx)⟩
theorem Acc2.cut {base : Nat} {h : AHeap} {s : Slc} {xs : List Prt} (A : Acc2 base h s xs) (hx : 0 < xs.length) : ∃ t, Gx.subL 2 s (some 1) none none = some t ∧ Row2 h t xs.tail ∧ Gx.rdS 2 t h = some (flat2 xs.tail) ∧ (∀ a, t.a = some a → base ≤ a.block) ∧
    ∀ h', Chg (fun x => x < base) h h' → xs.length ≤ 1000 → ∃ u h2, appendA 2 24 68 h' t (flat2 xs.tail) t.len = some (u, h2) ∧ Row2 h2 u (xs.tail ++ xs.tail) ∧ Chg (fun x => base ≤ x) h' h2 ∧ (∀ a, u.a = some a → base ≤ a.block) := by
  rcases A.st with ⟨_, rfl⟩ | ⟨b, rfl, hb, _⟩
  · simp at hx
  have hbl := A.lt ⟨b, 0, some 3⟩ rfl
  have hl := flat2_length xs
  have hln : xs.tail.length = xs.length - 1 := by simp
  have hdrop : (flat2 xs).drop 2 = flat2 xs.tail := by
    cases xs with
    | nil => simp at hx
    | cons x xs => rfl
  have hlt := flat2_length xs.tail
  rw [hln] at hlt
  let o := if (xs.length : Int) = 1 then 0 else 2
  have R : Row2 h (⟨some ⟨b, o, some 3⟩, xs.length - 1, xs.length - 1⟩ : Slc) xs.tail := by
    refine ⟨by rw [hln], fun i x hi => ?_⟩
    have hi2 : xs[i + 1]? = some x := by rw [List.getElem?_tail] at hi; exact hi
    obtain ⟨q1, q2⟩ := flat2_get hi2
    have hlt := (List.getElem?_eq_some_iff.1 hi2).1
    have ho : o = 2 := by show (if (xs.length : Int) = 1 then 0 else 2) = 2; rw [if_neg (by omega)]
    refine ⟨_, _, _, _, _, rfl, hbl.1, hb, ?_, ?_⟩
    · rw [← q1]; simp only [ho]; congr 1; omega
    · rw [← q2]; simp only [ho]; congr 1; omega
  refine ⟨⟨some ⟨b, o, some 3⟩, xs.length - 1, xs.length - 1⟩, ?_, R, ?_, ?_, fun h' c hx1 => ?_⟩
  · simp only [Gx.subL, Option.getD_none, Option.getD_some]
    rw [if_pos (by omega), if_pos (by rfl)]
    rw [show ((xs.length : Int) - 1).toNat = xs.length - 1 by omega]
    simp [o]
  · by_cases h1 : xs.length = 1
    · have : xs.tail = [] := List.eq_nil_of_length_eq_zero (by omega)
      rw [this]
      simp [Gx.rdS, AHeap.rdL, h1, flat2]
    · have ho : o = 2 := by show (if (xs.length : Int) = 1 then 0 else 2) = 2; rw [if_neg (by omega)]
      rw [ho]
      simp only [Gx.rdS, AHeap.rdL]
      split
      · omega
      · rename_i m hm
        simp only [hb]
        rw [if_pos (by omega), hdrop, List.take_of_length_le (by omega)]
  · intro a ha; cases ha; exact hbl.2
  · by_cases h1 : xs.length = 1
    · have ht : xs.tail = [] := List.eq_nil_of_length_eq_zero (by omega)
      refine ⟨⟨some ⟨b, o, some 3⟩, 0, 0⟩, h', ?_, ?_, Chg.refl _ _, fun a ha => by cases ha; exact hbl.2⟩
      · simp [appendA, h1]
      · rw [ht]; exact Row2.nil _ _ _
    · have ho : o = 2 := by show (if (xs.length : Int) = 1 then 0 else 2) = 2; rw [if_neg (by omega)]
      have hb' : h'.get b = some (.cells (flat2 xs) 68 true 0) := (c.oth b hbl.1 (by have := hbl.2; show ¬ b < base; simp only at this; omega)).trans hb
      refine ⟨⟨some ⟨h'.next, 0, some 3⟩, (xs.length - 1) + (xs.length - 1), (xs.length - 1) + (xs.length - 1)⟩, (h'.kill b).new (.cells (flat2 (xs.tail ++ xs.tail)) 68 false 0), ?_, ?_, Chg.kill_new (.inr hbl.2), fun a ha => by
        cases ha
        have := c.nx; have := hbl.1
        show base ≤ h'.next
        omega⟩
      · rw [ho]
        simp only [appendA]
        rw [if_neg (by omega), if_pos (by omega)]
        simp only [hb']
        rw [if_neg (by omega), if_pos ⟨by omega, by omega, by omega, trivial, trivial, flat2_one _⟩]
        rw [flat2_append, hdrop, List.take_of_length_le (by omega)]
      · exact row2_blk (xs := xs.tail ++ xs.tail) (e := 68) (r := false) (fz := 0) (by simp) (by simp) (by rw [List.length_append, hln])
end Gb
namespace Gb
open Go Gx Go.Proofs Fe
theorem bv_take {l : List UInt8} {n t : Nat} (h : t < n) : bv (l.take n) t = bv l t := by
  unfold bv; rw [List.getElem?_take, if_pos h]
theorem bv_drop (l : List UInt8) (n t : Nat) : bv (l.drop n) t = bv l (n + t) := by
  unfold bv; rw [List.getElem?_drop]
theorem bv_left {l r : List UInt8} {t : Nat} (h : t < l.length) : bv (l ++ r) t = bv l t := by
  unfold bv; rw [List.getElem?_append_left h]
theorem bv_right {l r : List UInt8} {t : Nat} (h : l.length ≤ t) : bv (l ++ r) t = bv r (t - l.length) := by
  unfold bv; rw [List.getElem?_append_right h]
theorem piece_bv {k i : Nat} (s : ByteArray) {t : Nat} (ht : t < nE k s.size) : bv (bl (pieceB k s i)) t = bv (padL k s) (i * nE k s.size + t) := by
  unfold pieceB
  rw [bl_mk, bv_drop, bv_take]
  rw [Nat.add_mul]; omega
structure Sums (s t u : ByteArray) : Prop where
  st : t.size = s.size
  su : u.size = s.size
  eq : bl u = addL (bl s) (bl t)
theorem pad_bv {k : Nat} {s t u : ByteArray} (h : Sums s t u) (p : Nat) : bv (padL k u) p = bv (padL k s) p + bv (padL k t) p := by
  unfold padL
  rw [h.st, h.su]
  by_cases c : p < s.size
  · rw [bv_left (by rw [bl_length, h.su]; exact c), bv_left (by rw [bl_length]; exact c), bv_left (by rw [bl_length, h.st]; exact c), h.eq]
    exact bv_add (by rw [bl_length]; exact c) (by rw [bl_length, h.st]; exact c)
  · rw [bv_right (by rw [bl_length, h.su]; omega), bv_right (by rw [bl_length]; omega), bv_right (by rw [bl_length, h.st]; omega), bl_length, bl_length, bl_length, h.st, h.su, bv_zero]
    rfl
theorem shard_sums {k m r : Nat} (hk : 0 < k) (hR : k + m ≤ 255) {s t u : ByteArray} (h : Sums s t u) (hr : r < k + m) : bl (shardB k u r) = addL (bl (shardB k s r)) (bl (shardB k t r)) := by
  obtain ⟨u1, u2⟩ := shard_bv hk hR u hr
  obtain ⟨s1, s2⟩ := shard_bv hk hR s hr
  obtain ⟨t1, t2⟩ := shard_bv hk hR t hr
  rw [h.su] at u1 u2
  rw [h.st] at t1 t2
  have hl : (addL (bl (shardB k s r)) (bl (shardB k t r))).length = nE k s.size := by simp [addL, bl_length, s1, t1]
  refine bv_inj (by rw [bl_length, u1, hl]) fun p hp => ?_
  rw [bl_length, u1] at hp
  rw [bv_add (by rw [bl_length, s1]; exact hp) (by rw [bl_length, t1]; exact hp), u2 p hp, s2 p hp, t2 p hp, ← sm_add]
  refine sm_congr fun j _ => ?_
  have eu := piece_bv (k := k) (i := j) u (t := p) (by rw [h.su]; exact hp)
  have es := piece_bv (k := k) (i := j) s (t := p) hp
  have et := piece_bv (k := k) (i := j) t (t := p) (by rw [h.st]; exact hp)
  rw [h.su] at eu
  rw [h.st] at et
  rw [eu, es, et, pad_bv h, Fe.mul_add]
theorem dec_pos (s : ByteArray) (i : Nat) : 1 ≤ (Utf8.decode s i).2 := by
  unfold Utf8.decode
  simp only
  repeat' split
  all_goals simp
theorem sums_l2 (K : Nat) (D : CallF) (j) (bot) {a b : ByteArray} {p : Option Addr} {L : Nat} {cb cap : Nat} {sp : Option Nat} (hL : L ≤ 300) (ha : L ≤ a.size) (hb : L ≤ b.size)
    {h0 : AHeap} (hj : ∀ h, (∃ c, h = h0.set cb c) → h.get cb = some (outB encB 5 (addL ((bl a).take L) ((bl b).take L))) → (Tru (j a b p (L : Int) (⟨some ⟨cb, 0, sp⟩, L, cap⟩ : Slc) h) true)) :
    ∀ (d i : Nat) (h : AHeap), i + d = L → (∃ c, h = h0.set cb c) → h.get cb = some (outB encB 5 ((addL ((bl a).take L) ((bl b).take L)).take i ++ List.replicate (L - i) 0)) →
      Tru (iterK bot (d + 1) (law05_StripeSums_l2b K D j) a b p (L : Int) (⟨some ⟨cb, 0, sp⟩, L, cap⟩ : Slc) (L : Int) (i : Int) h) true
  | 0, i, h, hi, hc, hg => by
    obtain rfl : i = L := by omega
    rw [iterK_s]; simp only [law05_StripeSums_l2b]
    refine Tru.ifn (by simp) (hj h hc ?_)
    rw [hg, Nat.sub_self, List.replicate_zero, List.append_nil, List.take_of_length_le (by simp [addL]; omega)]
  | d + 1, i, h, hi, ⟨c, hc⟩, hg => by
    rw [iterK_s]; simp only [law05_StripeSums_l2b]
    refine Tru.ifp (by simp; omega) ?_
    obtain ⟨x, hx⟩ := isome (l := bl a) (i := i) (by rw [bl_length]; omega)
    obtain ⟨y, hy⟩ := isome (l := bl b) (i := i) (by rw [bl_length]; omega)
    refine Tru.bnd (idxS_of hx) (Tru.bnd (idxS_of hy) (Tru.bnd (idxL_out (by omega)) ?_))
    have ll : (addL ((bl a).take L) ((bl b).take L)).length = L := by simp [addL, bl_length]; omega
    have hlen : ((addL ((bl a).take L) ((bl b).take L)).take i ++ List.replicate (L - i) (0 : UInt8)).length = L := by rw [List.length_append, List.length_take, List.length_replicate, ll]; omega
    have hst := stB_out (sp := none) (i := i) (x := (x ^^^ y).toNat) hg (by rw [hlen]; omega) (UInt8.toNat_lt _)
    refine Tru.bnd (by rw [xor_u8]; exact hst) ?_
    rw [Gx.w1 (by omega)]
    refine sums_l2 K D j bot hL ha hb hj d (i + 1) _ (by omega) ⟨_, by rw [hc]; exact set_set _ _ _ _⟩ ?_
    rw [set_get, UInt8.ofNat_toNat]
    unfold outB
    congr 4
    have hg2 : (addL ((bl a).take L) ((bl b).take L))[i]? = some (x ^^^ y) := by
      rw [addL_get, List.getElem?_take, List.getElem?_take, if_pos (by omega), if_pos (by omega), hx, hy]; rfl
    rw [List.set_append_right _ _ (by rw [List.length_take, ll]; omega), List.length_take, ll, Nat.min_eq_left (by omega), Nat.sub_self, show L - i = (L - (i + 1)) + 1 by omega, List.replicate_succ, List.set_cons_zero]
    have ht : (addL ((bl a).take L) ((bl b).take L)).take (i + 1) = (addL ((bl a).take L) ((bl b).take L)).take i ++ [x ^^^ y] := by
      rw [List.take_add_one, hg2]; rfl
    rw [ht, List.append_assoc]; rfl
theorem sums_l1 (K : Nat) (D : CallF) (j) (bot) {X Y Z : Slc} {i ni nn : Nat} {ib : Nat} {xs ys zs : List ByteArray} {x y z : ByteArray} (hx : xs[i]? = some x) (hy : ys[i]? = some y) (hz : zs[i]? = some z) (e : bl z = addL (bl x) (bl y)) (lx : x.size = z.size) (ly : y.size = z.size)
    (aX : ∀ a, X.a = some a → a.block ≠ ib) (aY : ∀ a, Y.a = some a → a.block ≠ ib) (aZ : ∀ a, Z.a = some a → a.block ≠ ib)
    {n0 : Nat} (hj : ∀ h, n0 ≤ h.next → Row encS h X xs → Row encS h Y ys → Row encS h Z zs → Tru (j X Y Z (nn : Int) (ni : Int) h) true) :
    ∀ (d pos : Nat) (h : AHeap), n0 ≤ h.next → z.size ≤ pos + d → h.get ib = some (.iter z pos) → Row encS h X xs → Row encS h Y ys → Row encS h Z zs →
      Tru (iterK bot (d + 1) (law05_StripeSums_l1b K D j) X Y Z (i : Int) (nn : Int) (ni : Int) (some ⟨ib, 0, none⟩) h) true
  | d, pos, h, hn, hd, hg, RX, RY, RZ => by
    rw [iterK_s]; simp only [law05_StripeSums_l1b]
    refine Tru.bnd rfl ?_
    have hi : iterA ⟨ib, 0, none⟩ h = some (z, pos) := by simp [iterA, hg]
    refine Tru.bnd hi ?_
    by_cases c : pos < z.size
    · refine Tru.ifp c ?_
      obtain ⟨d', rfl⟩ : ∃ d', d = d' + 1 := ⟨d - 1, by omega⟩
      have ch : Chg (fun q => q = ib) h (h.set ib (.iter z (pos + (Utf8.decode z pos).2))) := Chg.set (.inr rfl)
      have RX' := RX.chg ch fun a ha e => aX a ha e
      have RY' := RY.chg ch fun a ha e => aY a ha e
      have RZ' := RZ.chg ch fun a ha e => aZ a ha e
      obtain ⟨q1, i1, i2⟩ := RX'.ldS hx
      obtain ⟨q2, i3, i4⟩ := RY'.ldS hy
      obtain ⟨q3, i5, i6⟩ := RZ'.ldS hz
      obtain ⟨u, hu⟩ := isome (l := bl x) (i := pos) (by rw [bl_length]; omega)
      obtain ⟨v, hv⟩ := isome (l := bl y) (i := pos) (by rw [bl_length]; omega)
      have hw : (bl z)[pos]? = some (u ^^^ v) := by rw [e, addL_get, hu, hv]; rfl
      refine Tru.bnd i1 (Tru.bnd i2 (Tru.bnd (idxS_of hu) (Tru.bnd i3 (Tru.bnd i4 (Tru.bnd (idxS_of hv) (Tru.bnd i5 (Tru.bnd i6 (Tru.bnd (idxS_of hw) ?_))))))))
      refine Tru.ifn (by rw [xor_u8]; simp) ?_
      have hp := dec_pos z pos
      exact sums_l1 K D j bot hx hy hz e lx ly aX aY aZ hj d' (pos + (Utf8.decode z pos).2) _ (by simpa using hn) (by omega) (set_get _ _ _) RX' RY' RZ'
    · exact Tru.ifn c (hj h hn RX RY RZ)
theorem sums_l0 (K : Nat) (D : CallF) (j) (bot) {X Y Z : Slc} {N : Nat} {xs ys zs : List ByteArray} (hN : N ≤ 1000) (lx : xs.length = N) (ly : ys.length = N) (lz : zs.length = N) {n : Nat} (hn : n < K)
    (e : ∀ (i : Nat) (x y z : ByteArray), xs[i]? = some x → ys[i]? = some y → zs[i]? = some z → bl z = addL (bl x) (bl y) ∧ x.size = n ∧ y.size = n ∧ z.size = n) {h0 : AHeap}
    (aX : ∀ a, X.a = some a → a.block < h0.next) (aY : ∀ a, Y.a = some a → a.block < h0.next) (aZ : ∀ a, Z.a = some a → a.block < h0.next)
    (hj : ∀ h, Tru (j h) true) :
    ∀ (d i : Nat) (h : AHeap), i + d = N → h0.next ≤ h.next → Row encS h X xs → Row encS h Y ys → Row encS h Z zs →
      Tru (iterK bot (d + 1) (law05_StripeSums_l0b K D j) X Y Z (N : Int) (i : Int) h) true
  | 0, i, h, hi, hh, RX, RY, RZ => by
    obtain rfl : i = N := by omega
    rw [iterK_s]; simp only [law05_StripeSums_l0b]
    exact Tru.ifn (by simp) (hj h)
  | d + 1, i, h, hi, hh, RX, RY, RZ => by
    rw [iterK_s]; simp only [law05_StripeSums_l0b]
    refine Tru.ifp (by simp; omega) ?_
    refine Tru.jn fun j1 hj1 => ?_
    refine Tru.jn fun j2 hj2 => ?_
    obtain ⟨x, hx⟩ := isome (l := xs) (i := i) (by omega)
    obtain ⟨y, hy⟩ := isome (l := ys) (i := i) (by omega)
    obtain ⟨z, hz⟩ := isome (l := zs) (i := i) (by omega)
    obtain ⟨e1, e2, e3, e4⟩ := e i x y z hx hy hz
    obtain ⟨q1, i1, i2⟩ := RX.ldS hx
    obtain ⟨q2, i3, i4⟩ := RY.ldS hy
    obtain ⟨q3, i5, i6⟩ := RZ.ldS hz
    refine Tru.bnd i1 (Tru.bnd i2 (Tru.bnd i5 (Tru.bnd i6 ?_)))
    refine Tru.ifn (by rw [e2, e4]; simp) ?_
    refine Tru.bnd i3 (Tru.bnd i4 (Tru.bnd i5 (Tru.bnd i6 ?_)))
    subst hj2
    refine Tru.ifn (by rw [e3, e4]; simp) ?_
    refine Tru.bnd i5 (Tru.bnd i6 ?_)
    unfold law05_StripeSums_l1
    obtain ⟨bot1, e0⟩ := iterK_of (fun _ _ _ _ _ _ _ _ => none) (law05_StripeSums_l1b K D j1) (show n + 1 ≤ K by omega)
    rw [e0]
    have k1 : Keeps h (h.new (.iter z 0)) := Keeps.new h _
    refine sums_l1 K D j1 bot1 (ib := h.next) hx hy hz e1 (by omega) (by omega) (fun a ha => by have := aX a ha; omega) (fun a ha => by have := aY a ha; omega) (fun a ha => by have := aZ a ha; omega) (n0 := h0.next) ?_ n 0 (h.new (.iter z 0)) (by have := k1.nx; omega) (by omega) (by simp) (RX.keeps k1) (RY.keeps k1) (RZ.keeps k1)
    intro h' hn' RX' RY' RZ'
    subst hj1
    dsimp only
    rw [Gx.w1 (by omega)]
    exact sums_l0 K D j bot hN lx ly lz hn e aX aY aZ hj d (i + 1) h' (by omega) hn' RX' RY' RZ'
theorem sums5_true {k0 : Nat} (hk0 : 200000 ≤ k0) (sh : Int × Int) (a b : ByteArray) (h : AHeap) : Tru (law05_StripeSums k0 (DD k0) sh a b h) true := by
  simp only [law05_StripeSums]
  obtain ⟨u, v⟩ := sh
  let h1 := h.new (.cells [.int .i64 u, .int .i64 v] 40 true 0)
  have hb1 : h1.get h.next = some (.cells [.int .i64 u, .int .i64 v] 40 true 0) := by simp [h1]
  obtain ⟨h2, k, m, r2, q1, q2, q3, k2⟩ := shape_spec k0 (DD k0) (u, v) h1
  have hk : 0 < k := by omega
  have hR : k + m ≤ 255 := by omega
  obtain ⟨h3, pb, f2, B, sb, fb, r3, p3, k3, _⟩ := snew_spec (k0 := k0) (by omega) h2 (k := k) (m := m) hk hR
  obtain ⟨h4, r4, k4⟩ := sworks_spec (k0 := k0) (by omega) h3
  have p4 := p3.keeps k4
  refine Tru.bnd (ldA_at hb1 rfl) (Tru.bnd rfl (Tru.bnd r2 (Tru.bnd r3 ?_)))
  refine Tru.jn fun j1 hj1 => ?_
  refine Tru.ifn (by simp) ?_
  refine Tru.ifn (by simp) ?_
  refine Tru.bnd r4 ?_
  subst hj1
  refine Tru.ifn (by simp) ?_
  obtain ⟨L, hL, hLa, hLb, hL3⟩ : ∃ L : Nat, (if 300 < (if (b.size : Int) < (a.size : Int) then (b.size : Int) else (a.size : Int)) then 300 else (if (b.size : Int) < (a.size : Int) then (b.size : Int) else (a.size : Int))) = (L : Int) ∧ L ≤ a.size ∧ L ≤ b.size ∧ L ≤ 300 := by
    by_cases c1 : (b.size : Int) < (a.size : Int)
    · rw [if_pos c1]
      by_cases c2 : 300 < (b.size : Int)
      · exact ⟨300, by rw [if_pos c2]; rfl, by omega, by omega, by omega⟩
      · exact ⟨b.size, by rw [if_neg c2], by omega, by omega, by omega⟩
    · rw [if_neg c1]
      by_cases c2 : 300 < (a.size : Int)
      · exact ⟨300, by rw [if_pos c2]; rfl, by omega, by omega, by omega⟩
      · exact ⟨a.size, by rw [if_neg c2], by omega, by omega, by omega⟩
  rw [hL]
  refine Tru.ifp (by omega) ?_
  rw [Int.toNat_natCast, zeros_bytes]
  let h5 := h4.new (.cells ((List.replicate L (0 : UInt8)).map encB) 5 true 0)
  have k5 : Keeps h4 h5 := Keeps.new h4 _
  have b5 : h5.get h4.next = some (outB encB 5 (List.replicate L (0 : UInt8))) := by simp [h5, outB]
  have n5 : h4.next < h5.next := by simp [h5]
  refine Tru.jn fun j2 hj2 => ?_
  unfold law05_StripeSums_l2
  obtain ⟨bot1, e1⟩ := iterK_of (fun _ _ _ _ _ _ _ _ => none) (law05_StripeSums_l2b k0 (DD k0) j2) (show L + 1 ≤ k0 by omega)
  rw [e1]
  refine sums_l2 k0 (DD k0) j2 bot1 (cb := h4.next) (h0 := h5) hL3 hLa hLb ?_ L 0 h5 (by omega) ⟨_, (set_self b5).symm⟩ (by rw [b5]; simp)
  rintro h6 ⟨c6, e6⟩ b6
  have kc : Chg (fun x => x = h4.next) h5 h6 := by rw [e6]; exact Chg.set (.inr rfl)
  have k6 : Keeps h4 h6 := Chg.beh k5 kc fun x hx e => by have e : x = h4.next := e; omega
  have p6 := p4.keeps k6
  have n6 : h4.next < h6.next := by have := kc.nx; omega
  subst hj2
  have ea : Gx.subS a none (some (L : Int)) = some ⟨⟨(bl a).take L⟩⟩ := by
    have := subS_of (s := a) (lo := none) (hi := some (L : Int)) (i := 0) (j := L) rfl rfl (by omega) (by omega)
    rw [this, List.drop_zero]
  have eb : Gx.subS b none (some (L : Int)) = some ⟨⟨(bl b).take L⟩⟩ := by
    have := subS_of (s := b) (lo := none) (hi := some (L : Int)) (i := 0) (j := L) rfl rfl (by omega) (by omega)
    rw [this, List.drop_zero]
  have za : (⟨⟨(bl a).take L⟩⟩ : ByteArray).size = L := by rw [size_mk, List.length_take, bl_length]; omega
  have zb : (⟨⟨(bl b).take L⟩⟩ : ByteArray).size = L := by rw [size_mk, List.length_take, bl_length]; omega
  have ll : (addL ((bl a).take L) ((bl b).take L)).length = L := by simp [addL, bl_length]; omega
  have zc : (⟨⟨addL ((bl a).take L) ((bl b).take L)⟩⟩ : ByteArray).size = L := by rw [size_mk, ll]
  obtain ⟨s, es⟩ : ∃ s : ByteArray, s = ⟨⟨(bl a).take L⟩⟩ := ⟨_, rfl⟩
  obtain ⟨t, et⟩ : ∃ t : ByteArray, t = ⟨⟨(bl b).take L⟩⟩ := ⟨_, rfl⟩
  obtain ⟨w, ew⟩ : ∃ w : ByteArray, w = ⟨⟨addL ((bl a).take L) ((bl b).take L)⟩⟩ := ⟨_, rfl⟩
  rw [← es] at ea za
  rw [← et] at eb zb
  rw [← ew] at zc
  have hsum : Sums s t w := ⟨by omega, by omega, by rw [es, et, ew]; rfl⟩
  obtain ⟨h7, o7, r7, b7, o7a, o7b, p7, c7⟩ := split_spec (k0 := k0) (by omega) p6 hk hR s (by omega)
  obtain ⟨h8, o8, r8, b8, o8a, o8b, p8, c8⟩ := split_spec (k0 := k0) (by omega) p7 hk hR t (by omega)
  have g8 : h8.get h4.next = some (outB encB 5 (addL ((bl a).take L) ((bl b).take L))) := by
    have l4 := p4.lf
    have x7 := (c7.oth h4.next n6 (fun e => by have e : h4.next = f2 := e; omega)).trans b6
    exact (c8.oth h4.next (Nat.lt_of_lt_of_le n6 c7.nx) (fun e => by have e : h4.next = f2 := e; omega)).trans x7
  have bo : bytesOf h8 (⟨some ⟨h4.next, 0, some 0⟩, L, L⟩ : Slc) = some w := by
    have := bytesOf_out (h := h8) (b := h4.next) (cap := L) (sp := some 0) (l := addL ((bl a).take L) ((bl b).take L)) (e := 5) (r := true) (fz := 0) g8
    rw [ll] at this
    rw [this, ew]
  obtain ⟨h9, o9, r9, b9, o9a, o9b, p9, c9⟩ := split_spec (k0 := k0) (by omega) p8 hk hR w (by omega)
  have f4 : f2 < h4.next := p4.lf
  have RX : Row encS h9 (⟨some ⟨o7, 0, some 0⟩, k + m, k + m⟩ : Slc) (shardsL k m s) := ((shards_row b7 o7b).chg c8 fun a ha e => by cases ha; have e : o7 = f2 := e; omega).chg c9 fun a ha e => by cases ha; have e : o7 = f2 := e; omega
  have RY : Row encS h9 (⟨some ⟨o8, 0, some 0⟩, k + m, k + m⟩ : Slc) (shardsL k m t) := (shards_row b8 o8b).chg c9 fun a ha e => by cases ha; have e : o8 = f2 := e; have := c7.nx; omega
  have RZ : Row encS h9 (⟨some ⟨o9, 0, some 0⟩, k + m, k + m⟩ : Slc) (shardsL k m w) := shards_row b9 o9b
  refine Tru.bnd ea (Tru.bnd r7 (Tru.bnd eb (Tru.bnd r8 (Tru.bnd bo (Tru.bnd r9 ?_)))))
  refine Tru.jn fun j3 hj3 => ?_
  refine Tru.ifn (by simp) ?_
  refine Tru.ifn (by simp) ?_
  refine Tru.ifn (by simp) ?_
  refine Tru.ifn (by simp) ?_
  subst hj3
  refine Tru.ifn (by simp) ?_
  refine Tru.jn fun j4 hj4 => ?_
  unfold law05_StripeSums_l0
  obtain ⟨bot2, e2⟩ := iterK_of (fun _ _ _ _ _ _ => none) (law05_StripeSums_l0b k0 (DD k0) j4) (show (k + m) + 1 ≤ k0 by omega)
  rw [e2]
  have hge := nE_ge hk L
  have hle := nE_le hk L
  have hn2 : nE k L ≤ k * nE k L := Nat.le_mul_of_pos_left _ hk
  refine sums_l0 k0 (DD k0) j4 bot2 (h0 := h9) (n := nE k L) (by omega) (shardsL_length k m s) (shardsL_length k m t) (shardsL_length k m w) (by omega) (fun i x y z hx hy hz => ?_) (fun a ha => by cases ha; have := c8.nx; have := c9.nx; show o7 < h9.next; omega) (fun a ha => by cases ha; have := c9.nx; show o8 < h9.next; omega) (fun a ha => by cases ha; exact o9b) (fun h => by subst hj4; exact Tru.of) (k + m) 0 h9 (by omega) (Nat.le_refl _) RX RY RZ
  have hi : i < k + m := by have := (List.getElem?_eq_some_iff.1 hx).1; rwa [shardsL_length] at this
  rw [shards_get _ hi] at hx hy hz
  cases hx; cases hy; cases hz
  have s1 := (shard_bv hk hR s hi).1
  have s2 := (shard_bv hk hR t hi).1
  have s3 := (shard_bv hk hR w hi).1
  rw [za] at s1; rw [zb] at s2; rw [zc] at s3
  exact ⟨shard_sums hk hR hsum hi, s1, s2, s3⟩
end Gb
