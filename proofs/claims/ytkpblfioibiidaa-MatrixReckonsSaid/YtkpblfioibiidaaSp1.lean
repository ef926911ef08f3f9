import Derived.Laws.BitsLemmas
import Derived.Test.YtkpblfioibiidaaFn2
/-! The field: plain laws of its tables. -/
namespace Gy
open Go Gx

/-- twice, in the field -/
def dbl (x : Nat) : Nat := if 2 * x ≥ 256 then (2 * x) ^^^ 391 else 2 * x
/-- the powers of 2 -/
def exL : List Nat := [1, 2, 4, 8, 16, 32, 64, 128, 135, 137, 149, 173, 221, 61, 122, 244, 111, 222, 59, 118, 236, 95, 190, 251, 113, 226, 67, 134, 139, 145, 165, 205, 29, 58, 116, 232, 87, 174, 219, 49, 98, 196, 15, 30, 60, 120, 240, 103, 206, 27, 54, 108, 216, 55, 110, 220, 63, 126, 252, 127, 254, 123, 246, 107, 214, 43, 86, 172, 223, 57, 114, 228, 79, 158, 187, 241, 101, 202, 19, 38, 76, 152, 183, 233, 85, 170, 211, 33, 66, 132, 143, 153, 181, 237, 93, 186, 243, 97, 194, 3, 6, 12, 24, 48, 96, 192, 7, 14, 28, 56, 112, 224, 71, 142, 155, 177, 229, 77, 154, 179, 225, 69, 138, 147, 161, 197, 13, 26, 52, 104, 208, 39, 78, 156, 191, 249, 117, 234, 83, 166, 203, 17, 34, 68, 136, 151, 169, 213, 45, 90, 180, 239, 89, 178, 227, 65, 130, 131, 129, 133, 141, 157, 189, 253, 125, 250, 115, 230, 75, 150, 171, 209, 37, 74, 148, 175, 217, 53, 106, 212, 47, 94, 188, 255, 121, 242, 99, 198, 11, 22, 44, 88, 176, 231, 73, 146, 163, 193, 5, 10, 20, 40, 80, 160, 199, 9, 18, 36, 72, 144, 167, 201, 21, 42, 84, 168, 215, 41, 82, 164, 207, 25, 50, 100, 200, 23, 46, 92, 184, 247, 105, 210, 35, 70, 140, 159, 185, 245, 109, 218, 51, 102, 204, 31, 62, 124, 248, 119, 238, 91, 182, 235, 81, 162, 195]
def lgL : List Nat := [0, 0, 1, 99, 2, 198, 100, 106, 3, 205, 199, 188, 101, 126, 107, 42, 4, 141, 206, 78, 200, 212, 189, 225, 102, 221, 127, 49, 108, 32, 43, 243, 5, 87, 142, 232, 207, 172, 79, 131, 201, 217, 213, 65, 190, 148, 226, 180, 103, 39, 222, 240, 128, 177, 50, 53, 109, 69, 33, 18, 44, 13, 244, 56, 6, 155, 88, 26, 143, 121, 233, 112, 208, 194, 173, 168, 80, 117, 132, 72, 202, 252, 218, 138, 214, 84, 66, 36, 191, 152, 149, 249, 227, 94, 181, 21, 104, 97, 40, 186, 223, 76, 241, 47, 129, 230, 178, 63, 51, 238, 54, 16, 110, 24, 70, 166, 34, 136, 19, 247, 45, 184, 14, 61, 245, 164, 57, 59, 7, 158, 156, 157, 89, 159, 27, 8, 144, 9, 122, 28, 234, 160, 113, 90, 209, 29, 195, 123, 174, 10, 169, 145, 81, 91, 118, 114, 133, 161, 73, 235, 203, 124, 253, 196, 219, 30, 139, 210, 215, 146, 85, 170, 67, 11, 37, 175, 192, 115, 153, 119, 150, 92, 250, 82, 228, 236, 95, 74, 182, 162, 22, 134, 105, 197, 98, 254, 41, 125, 187, 204, 224, 211, 77, 140, 242, 31, 48, 220, 130, 171, 231, 86, 179, 147, 64, 216, 52, 176, 239, 38, 55, 12, 17, 68, 111, 120, 25, 154, 71, 116, 167, 193, 35, 83, 137, 251, 20, 93, 248, 151, 46, 75, 185, 96, 15, 237, 62, 229, 246, 135, 165, 23, 58, 163, 60, 183]
def ex (i : Nat) : Nat := exL.getD i 0
def lg (a : Nat) : Nat := lgL.getD a 0

theorem ex_zero : ex 0 = 1 := rfl
theorem ex_lt : ∀ i, i < 255 → 1 ≤ ex i ∧ ex i < 256 := by decide +kernel
theorem ex_succ : ∀ i, i < 254 → dbl (ex i) = ex (i + 1) := by decide +kernel
theorem ex_last : dbl (ex 254) = 1 := by decide +kernel
theorem lg_ex : ∀ i, i < 255 → lg (ex i) = i := by decide +kernel
theorem ex_lg : ∀ a, a < 256 → 1 ≤ a → ex (lg a) = a := by decide +kernel
theorem lg_lt : ∀ a, a < 256 → lg a < 255 := by decide +kernel
theorem lg_zero : lg 0 = 0 := rfl
theorem dbl_lt : ∀ a, a < 256 → dbl a < 256 := by decide +kernel

theorem ex_inj {i j : Nat} (hi : i < 255) (hj : j < 255) (h : ex i = ex j) : i = j := by
  rw [← lg_ex i hi, ← lg_ex j hj, h]

/-- the product, by the tables -/
def mulT (a b : Nat) : Nat := if a = 0 ∨ b = 0 then 0 else ex ((lg a + lg b) % 255)

theorem dI (k : Nat) (D : CallF) (h : AHeap) : ∀ x : Nat, x < 256 → field_double k D (x : Int) h = some ((dbl x : Int), h) := by
  have key : ∀ x : Nat, x < 256 → (if (decide ((IntKind.wrap .i64 ((x : Int) * 2)) ≥ 256)) = true then Go.bits .xor .i64 (IntKind.wrap .i64 ((x : Int) * 2)) 391 else IntKind.wrap .i64 ((x : Int) * 2)) = (dbl x : Int) := by decide +kernel
  intro x hx
  have := key x hx
  unfold field_double joinK
  split <;> rename_i hc
  · rw [if_pos hc] at this; rw [this]
  · rw [if_neg hc] at this; rw [this]

/-! ### heaps -/
theorem st1_of {h : AHeap} {b o : Nat} {sp : Option Nat} {c : List Value} {e : TypeId} {v : Value} (hb : h.get b = some (.cells c e true 0)) (ho : o < c.length) (hv : one v = true) : st1 ⟨b, o, sp⟩ v h = some (h.set b (.cells (c.set o v) e true 0)) := by
  simp [st1, AHeap.wr1, hb, ho, hv]
theorem ldI_of {h : AHeap} {b o : Nat} {sp : Option Nat} {c : List Value} {e : TypeId} {rw' : Bool} {fz : Nat} {k : IntKind} {x : Int} (hb : h.get b = some (.cells c e rw' fz)) (ho : c[o]? = some (.int k x)) : ldI k ⟨b, o, sp⟩ h = some x := by
  simp [ldI, AHeap.rd1, hb, ho, decI]
theorem set_set (h : AHeap) (b : Nat) (B C : ABlk) : (h.set b B).set b C = h.set b C := by
  simp only [AHeap.set, AHeap.mk.injEq, true_and]
  funext x
  by_cases e : x = b <;> simp [e]
theorem set_self {h : AHeap} {b : Nat} {B : ABlk} (hb : h.get b = some B) : h.set b B = h := by
  obtain ⟨n, g⟩ := h
  simp only [AHeap.set, AHeap.mk.injEq, true_and] at hb ⊢
  funext x
  by_cases e : x = b
  · simp [e, hb]
  · simp [e]

/-! ### the tables -/
def fresh : List Value := [.int .u32 0] ++ [.int .i32 0] ++ [.int .u32 0] ++ List.replicate 510 (.int .u8 0) ++ List.replicate 256 (.int .i64 0)
structure Part (i : Nat) (c : List Value) : Prop where
  len : c.length = 769
  lo : ∀ j, j < i → c[3 + j]? = some (.int .u8 (ex j : Int))
  hi : ∀ j, j < i → c[258 + j]? = some (.int .u8 (ex j : Int))
  lg : ∀ j, j < i → c[513 + ex j]? = some (.int .i64 (j : Int))
  lz : c[513]? = some (.int .i64 0)
  done : c[0]? = some (.int .u32 0)
  mu : c[1]? = some (.int .i32 1)

theorem part_step {i : Nat} {c : List Value} (hi : i < 255) (p : Part i c) :
    Part (i + 1) (((c.set (3 + i) (.int .u8 (ex i : Int))).set (258 + i) (.int .u8 (ex i : Int))).set (513 + ex i) (.int .i64 (i : Int))) := by
  obtain ⟨e1, e2⟩ := ex_lt i hi
  have len := p.len
  refine ⟨by simp [len], fun j hj => ?_, fun j hj => ?_, fun j hj => ?_, ?_, ?_, ?_⟩
  · by_cases hji : j = i
    · subst hji
      rw [List.getElem?_set_ne (by omega), List.getElem?_set_ne (by omega), List.getElem?_set_self (by omega)]
    · rw [List.getElem?_set_ne (by omega), List.getElem?_set_ne (by omega), List.getElem?_set_ne (by omega)]
      exact p.lo j (by omega)
  · by_cases hji : j = i
    · subst hji
      rw [List.getElem?_set_ne (by omega), List.getElem?_set_self (by simp; omega)]
    · rw [List.getElem?_set_ne (by omega), List.getElem?_set_ne (by omega), List.getElem?_set_ne (by omega)]
      exact p.hi j (by omega)
  · by_cases hji : j = i
    · subst hji
      rw [List.getElem?_set_self (by simp; omega)]
    · have : ex j ≠ ex i := fun e => hji (ex_inj (by omega) hi e)
      rw [List.getElem?_set_ne (by omega), List.getElem?_set_ne (by omega), List.getElem?_set_ne (by omega)]
      exact p.lg j (by omega)
  · rw [List.getElem?_set_ne (by omega), List.getElem?_set_ne (by omega), List.getElem?_set_ne (by omega)]; exact p.lz
  · rw [List.getElem?_set_ne (by omega), List.getElem?_set_ne (by omega), List.getElem?_set_ne (by omega)]; exact p.done
  · rw [List.getElem?_set_ne (by omega), List.getElem?_set_ne (by omega), List.getElem?_set_ne (by omega)]; exact p.mu

theorem w64 (x : Int) (h : -9223372036854775808 ≤ x ∧ x ≤ 9223372036854775807) : IntKind.wrap .i64 x = x := by
  rw [IntKind.wrap_i64]; omega
theorem w8 (x : Int) (h : 0 ≤ x ∧ x < 256) : IntKind.wrap .u8 x = x := by
  rw [IntKind.wrap_u8]; omega
theorem idxA_of {n size b o : Nat} {sp : Option Nat} {i : Int} (h : 0 ≤ i ∧ i < n) : idxA n size ⟨b, o, sp⟩ i = some ⟨b, o + i.toNat * size, none⟩ := by
  unfold idxA; rw [if_pos h]

end Gy

/-! The field: its tables are made once. -/
namespace Gy
open Go Gx

theorem st1_set {h : AHeap} {b o : Nat} {sp : Option Nat} {c : List Value} {e : TypeId} {v : Value} (ho : o < c.length) (hv : one v = true) : st1 ⟨b, o, sp⟩ v (h.set b (.cells c e true 0)) = some (h.set b (.cells (c.set o v) e true 0)) := by
  rw [st1_of (c := c) (e := e) (by simp) ho hv, set_set]

theorem make_loop (K : Nat) (D : CallF) (b : Nat) (e : TypeId) (bot) : ∀ (m i : Nat) (c : List Value) (h : AHeap), i + m = 255 → h.get b = some (.cells c e true 0) → Part i c →
    ∃ c', Part 255 c' ∧ iterK bot (m + 1) (field_Field_make_l0b K D) (some ⟨b, 0, none⟩) ((if i = 255 then 1 else ex i : Nat) : Int) (i : Int) h = some ((), h.set b (.cells c' e true 0))
  | 0, i, c, h, hi, hb, p => by
    have : i = 255 := by omega
    subst this
    refine ⟨c, p, ?_⟩
    simp only [iterK, field_Field_make_l0b]
    rw [if_neg (by simp), set_self hb]
  | m + 1, i, c, h, hi, hb, p => by
    have hlt : i < 255 := by omega
    obtain ⟨e1, e2⟩ := ex_lt i hlt
    have len := p.len
    have hi0 : ((i : Int).toNat) = i := by simp
    have q := part_step hlt p
    obtain ⟨c', p', hr⟩ := make_loop K D b e bot m (i + 1) _ (h.set b (.cells (((c.set (3 + i) (.int .u8 (ex i : Int))).set (258 + i) (.int .u8 (ex i : Int))).set (513 + ex i) (.int .i64 (i : Int))) e true 0)) (by omega) (by simp) q
    refine ⟨c', p', ?_⟩
    rw [iterK, field_Field_make_l0b]
    have hne : ¬ i = 255 := by omega
    rw [if_pos (by simp; omega), if_neg hne]
    simp only [Option.bind_some]
    rw [idxA_of (by omega)]
    simp only [Option.bind_some, hi0]
    rw [w8 _ (by omega), st1_of hb (by omega) rfl]
    simp only [Option.bind_some]
    rw [w64 _ (by omega), idxA_of (by omega)]
    simp only [Option.bind_some]
    rw [show ((i : Int) + 255).toNat = i + 255 from by omega, st1_set (by simp; omega) rfl]
    simp only [Option.bind_some]
    rw [idxA_of (by omega)]
    simp only [Option.bind_some]
    rw [show ((ex i : Int)).toNat = ex i from by simp, st1_set (by simp; omega) rfl]
    simp only [Option.bind_some]
    rw [dI _ _ _ _ e2]
    simp only [Option.bind_some]
    rw [w64 _ (by omega)]
    have hx : (dbl (ex i) : Int) = ((if i + 1 = 255 then 1 else ex (i + 1) : Nat) : Int) := by
      split
      · rename_i h1
        have : i = 254 := by omega
        subst this; rw [ex_last]
      · rw [ex_succ i (by omega)]
    rw [hx]
    have h3 : 0 + 3 + 0 + i * 1 = 3 + i := by omega
    have h4 : 0 + 3 + 0 + (i + 255) * 1 = 258 + i := by omega
    have h5 : 0 + 3 + 510 + ex i * 1 = 513 + ex i := by omega
    rw [h3, h4, h5]
    rw [set_set] at hr
    exact_mod_cast hr
end Gy

/-! The field: 'tables', once. -/
namespace Gy
open Go Gx Go.Proofs

noncomputable def DD (k : Nat) : CallF := mkC noC [e_field_Field_make k noC]
theorem DD_sound (k : Nat) : CSound Try.prog 0 (DD k) := mkC_sound noC_sound (EntsOk.more (ok_field_Field_make noC_sound k) EntsOk.none)

structure Made (c : List Value) : Prop where
  len : c.length = 769
  lo : ∀ j, j < 255 → c[3 + j]? = some (.int .u8 (ex j : Int))
  hi : ∀ j, j < 255 → c[258 + j]? = some (.int .u8 (ex j : Int))
  lg : ∀ j, j < 255 → c[513 + ex j]? = some (.int .i64 (j : Int))
  lz : c[513]? = some (.int .i64 0)
  done : c[0]? = some (.int .u32 1)

def Fld (h : AHeap) (b : Nat) : Prop := ∃ c, h.get b = some (.cells c 97 true 0) ∧ (c = fresh ∨ Made c)

theorem fresh_part : Part 0 (fresh.set 1 (.int .i32 1)) where
  len := by kernel_rfl
  lo := fun j h => absurd h (Nat.not_lt_zero j)
  hi := fun j h => absurd h (Nat.not_lt_zero j)
  lg := fun j h => absurd h (Nat.not_lt_zero j)
  lz := by kernel_rfl
  done := rfl
  mu := rfl

theorem made_of {c : List Value} (p : Part 255 c) : Made ((c.set 0 (.int .u32 1)).set 1 (.int .i32 0)) where
  len := by simp [p.len]
  lo := fun j h => by rw [List.getElem?_set_ne (by omega), List.getElem?_set_ne (by omega)]; exact p.lo j h
  hi := fun j h => by rw [List.getElem?_set_ne (by omega), List.getElem?_set_ne (by omega)]; exact p.hi j h
  lg := fun j h => by rw [List.getElem?_set_ne (by omega), List.getElem?_set_ne (by omega)]; exact p.lg j h
  lz := by rw [List.getElem?_set_ne (by omega), List.getElem?_set_ne (by omega)]; exact p.lz
  done := by rw [List.getElem?_set_ne (by omega), List.getElem?_set_self (by rw [p.len]; omega)]

theorem lock_spec (k : Nat) (D : CallF) {h : AHeap} {b o : Nat} {c : List Value} {e : TypeId} (hb : h.get b = some (.cells c e true 0)) (ho : c[o]? = some (.int .i32 0)) :
    sync_Mutex_Lock k D (some ⟨b, o, none⟩) h = some ((), h.set b (.cells (c.set o (.int .i32 1)) e true 0)) := by
  have hlt : o < c.length := (List.getElem?_eq_some_iff.1 ho).1
  simp only [sync_Mutex_Lock, internal_sync_Mutex_Lock, Option.bind_some, Nat.add_zero]
  rw [ldI_of hb ho]
  simp only [Option.bind_some, if_true]
  rw [st1_of hb hlt rfl]
  simp [AHeap.rd1, hlt]

theorem unlock_spec (k : Nat) (D : CallF) {h : AHeap} {b o : Nat} {c : List Value} {e : TypeId} (hb : h.get b = some (.cells c e true 0)) (ho : c[o]? = some (.int .i32 1)) :
    sync_Mutex_Unlock k D (some ⟨b, o, none⟩) h = some ((), h.set b (.cells (c.set o (.int .i32 0)) e true 0)) := by
  have hlt : o < c.length := (List.getElem?_eq_some_iff.1 ho).1
  simp only [sync_Mutex_Unlock, internal_sync_Mutex_Unlock, joinK, Option.bind_some, Nat.add_zero]
  rw [ldI_of hb ho]
  have hr : AHeap.rd1 h b o = some (.int .i32 1) := by simp [AHeap.rd1, hb, ho]
  simp only [Option.bind_some, hr]
  have hw : IntKind.wrap .i32 (1 + -1) = 0 := by decide
  rw [hw, st1_of hb hlt rfl]
  simp

theorem store_spec (k : Nat) (D : CallF) {h : AHeap} {b o : Nat} {c : List Value} {e : TypeId} {x : Int} (hb : h.get b = some (.cells c e true 0)) (ho : c[o]? = some (.int .u32 x)) :
    sync_atomic_Bool_Store k D (some ⟨b, o, none⟩) true h = some ((), h.set b (.cells (c.set o (.int .u32 1)) e true 0)) := by
  have hlt : o < c.length := (List.getElem?_eq_some_iff.1 ho).1
  simp only [sync_atomic_Bool_Store, sync_atomic_b32, Option.bind_some, Nat.add_zero, if_true]
  rw [ldI_of hb ho]
  simp only [Option.bind_some]
  rw [st1_of hb hlt rfl]
  rfl

theorem iterK_add {α : Type} (bot : α) (b : α → α) (n : Nat) : ∀ m, iterK bot (m + n) b = iterK (iterK bot n b) m b
  | 0 => by rw [Nat.zero_add]; rfl
  | m + 1 => by rw [Nat.succ_add]; simp only [iterK]; rw [iterK_add bot b n m]

theorem tables_spec {k : Nat} (hk : 256 ≤ k) {h : AHeap} {b : Nat} (hf : Fld h b) :
    ∃ c', Made c' ∧ field_Field_tables k (DD k) (some ⟨b, 0, none⟩) h = some (some ⟨b, 3, none⟩, h.set b (.cells c' 97 true 0)) := by
  obtain ⟨c, hb, rfl | hm⟩ := hf
  · -- not yet
    obtain ⟨k', rfl⟩ : ∃ k', k = 255 + 1 + k' := ⟨k - 256, by omega⟩
    have hf0 : fresh[0]? = some (.int .u32 0) := rfl
    have hf1 : fresh[1]? = some (.int .i32 0) := rfl
    have hb1 : (h.set b (.cells (fresh.set 1 (.int .i32 1)) 97 true 0)).get b = some (.cells (fresh.set 1 (.int .i32 1)) 97 true 0) := by simp
    obtain ⟨c', p', hm⟩ := make_loop (255 + 1 + k') noC b 97 (iterK (fun _ _ _ _ => none) k' (field_Field_make_l0b (255 + 1 + k') noC)) 255 0 _ (h.set b (.cells (fresh.set 1 (.int .i32 1)) 97 true 0)) (by omega) hb1 fresh_part
    have hmk : field_Field_make (255 + 1 + k') noC (some ⟨b, 0, none⟩) (h.set b (.cells (fresh.set 1 (.int .i32 1)) 97 true 0)) = some ((), h.set b (.cells c' 97 true 0)) := by
      rw [set_set] at hm
      rw [field_Field_make, field_Field_make_l0, ← hm, iterK_add]
      rfl
    have l0 := p'.done
    have l1 := p'.mu
    refine ⟨_, made_of p', ?_⟩
    simp only [field_Field_tables, sync_Once_Do, sync_atomic_Bool_Load, Option.bind_some, Nat.add_zero]
    rw [ldI_of hb hf0]
    simp only [Option.bind_some, bne_self_eq_false, Bool.not_false, if_true, sync_Once_doSlow, sync_atomic_Bool_Load, Nat.zero_add, Nat.add_zero]
    rw [lock_spec _ _ hb hf1]
    simp only [Option.bind_some]
    rw [ldI_of (x := 0) (k := .u32) hb1 rfl]
    simp only [Option.bind_some, bne_self_eq_false, Bool.not_false, if_true]
    have hcall : ∀ {R : Type} (κ : Value → AHeap → Option R), callD (C_sync_Once_doSlow (255 + 1 + k') (DD (255 + 1 + k'))) (.func (.func 78) ⟨[.pointer (some ⟨b, 0, none⟩)]⟩ ⟨[]⟩) [] (h.set b (.cells (fresh.set 1 (.int .i32 1)) 97 true 0)) κ = κ (.tuple ⟨[]⟩) (h.set b (.cells c' 97 true 0)) := by
      intro R κ
      show (field_Field_make (255 + 1 + k') noC (some ⟨b, 0, none⟩) (h.set b (.cells (fresh.set 1 (.int .i32 1)) 97 true 0))).bind _ = _
      rw [hmk]
      rfl
    rw [hcall]
    rw [store_spec _ _ (c := c') (e := 97) (by simp) l0, set_set]
    simp only [Option.bind_some]
    have h1' : (c'.set 0 (.int .u32 1))[1]? = some (.int .i32 1) := by rw [List.getElem?_set_ne (by omega)]; exact l1
    rw [unlock_spec _ _ (c := c'.set 0 (.int .u32 1)) (e := 97) (by simp) h1', set_set]
    rfl
  · refine ⟨c, hm, ?_⟩
    simp only [field_Field_tables, sync_Once_Do, sync_atomic_Bool_Load, Option.bind_some, Nat.add_zero]
    rw [ldI_of hb hm.done]
    simp [set_self hb]
end Gy

/-! The field: 'is', powers, logarithms, products. -/
namespace Gy
open Go Gx Go.Proofs

def inR (x : Int) : Bool := !(decide (x < 0) || decide (x ≥ 256))
theorem inR_nat {x : Nat} (h : x < 256) : inR (x : Int) = true := by
  simp [inR]; omega
theorem inR_iff {x : Int} : inR x = true ↔ ∃ n : Nat, x = n ∧ n < 256 := by
  simp [inR]
  constructor
  · rintro ⟨h1, h2⟩; exact ⟨x.toNat, by omega, by omega⟩
  · rintro ⟨n, rfl, h⟩; omega

theorem idxL_of {size b o len cap : Nat} {sp : Option Nat} {i : Int} (h : 0 ≤ i ∧ i < len) : idxL size ⟨some ⟨b, o, sp⟩, len, cap⟩ i = some ⟨b, o + i.toNat * size, none⟩ := by
  simp only [idxL]; rw [if_pos h]

theorem is_loop (K : Nat) (D : CallF) (n : Nat) (sp : Option Nat) (cap : Nat) (j2 : AHeap → Option (Bool × AHeap)) (bot) (xs : List Int) (e : TypeId) (rw' : Bool) (fz : Nat) (h : AHeap) (hsm : xs.length < 9223372036854775807)
    (hb : h.get n = some (.cells (xs.map fun x => .int .i64 x) e rw' fz)) : ∀ (m i : Nat), i + m = xs.length →
    iterK bot (m + 1) (field_is_l0b K D j2) ⟨some ⟨n, 0, sp⟩, xs.length, cap⟩ (xs.length : Int) (i : Int) h = if (xs.drop i).all inR = true then j2 h else some (false, h)
  | 0, i, hi => by
    have : xs.length ≤ i := by omega
    rw [iterK, field_is_l0b, if_neg (by simp; omega), List.drop_eq_nil_of_le this]
    simp
  | m + 1, i, hi => by
    have hlt : i < xs.length := by omega
    rw [iterK, field_is_l0b, if_pos (by simp; omega), idxL_of (by omega)]
    simp only [Option.bind_some]
    have hx : (xs.map fun x => Value.int .i64 x)[0 + (i : Int).toNat * 1]? = some (.int .i64 xs[i]) := by simp [hlt]
    rw [ldI_of hb hx]
    simp only [Option.bind_some, joinK]
    have ih := is_loop K D n sp cap j2 bot xs e rw' fz h hsm hb m (i + 1) (by omega)
    rw [w64 _ (by omega)]
    have hi1 : ((i : Int) + 1) = ((i + 1 : Nat) : Int) := by omega
    rw [hi1, ih]
    rw [List.drop_eq_getElem_cons hlt]
    simp only [List.all_cons, inR]
    by_cases c1 : xs[i] < 0
    · simp [c1]
    · by_cases c2 : xs[i] ≥ 256
      · simp [c1, c2]
      · simp [c1, c2, inR]

theorem is_spec {k : Nat} (D : CallF) {n : Nat} {sp : Option Nat} {cap : Nat} {xs : List Int} {e : TypeId} {rw' : Bool} {fz : Nat} {h : AHeap} (hk : xs.length < k) (hsm : xs.length < 9223372036854775807)
    (hb : h.get n = some (.cells (xs.map fun x => .int .i64 x) e rw' fz)) : field_is k D ⟨some ⟨n, 0, sp⟩, xs.length, cap⟩ h = some (xs.all inR, h) := by
  obtain ⟨k', rfl⟩ : ∃ k', k = xs.length + 1 + k' := ⟨k - (xs.length + 1), by omega⟩
  rw [field_is, joinK, field_is_l0, iterK_add]
  have := is_loop (xs.length + 1 + k') D n sp cap (fun h1 => some (true, h1)) (iterK (fun _ _ _ _ => none) k' (field_is_l0b (xs.length + 1 + k') D fun h1 => some (true, h1))) xs e rw' fz h hsm hb xs.length 0 (by omega)
  rw [List.drop_zero] at this
  refine this.trans ?_
  cases xs.all inR <;> rfl

/-- only the field's block has turned, of what was there -/
structure FS (b : Nat) (h h' : AHeap) : Prop where
  nx : h.next ≤ h'.next
  oth : ∀ x, x < h.next → x ≠ b → h'.get x = h.get x
  fld : Fld h' b
theorem FS.trans {b : Nat} {h h1 h2 : AHeap} (a : FS b h h1) (c : FS b h1 h2) : FS b h h2 :=
  ⟨Nat.le_trans a.nx c.nx, fun x hx hb => (c.oth x (Nat.lt_of_lt_of_le hx a.nx) hb).trans (a.oth x hx hb), c.fld⟩
theorem FS.new {b : Nat} {h : AHeap} (hf : Fld h b) (hb : b < h.next) (B : ABlk) : FS b h (h.new B) :=
  ⟨by simp, fun x hx _ => by simp; omega, by
    obtain ⟨c, h1, h2⟩ := hf
    exact ⟨c, by simp; rw [if_neg (by omega)]; exact h1, h2⟩⟩
theorem FS.made {b : Nat} {h : AHeap} {c : List Value} (hm : Made c) : FS b h (h.set b (.cells c 97 true 0)) :=
  ⟨by simp, fun x hx hb => by simp [hb], ⟨c, by simp, .inr hm⟩⟩
theorem FS.refl {b : Nat} {h : AHeap} (hf : Fld h b) : FS b h h := ⟨Nat.le_refl _, fun _ _ _ => rfl, hf⟩

theorem log_at {h : AHeap} {b : Nat} {c : List Value} (hb : h.get b = some (.cells c 97 true 0)) (hm : Made c) {a : Nat} (ha : a < 256) {sp : Option Nat} : ldI .i64 ⟨b, 513 + a, sp⟩ h = some (lg a : Int) := by
  by_cases h0 : a = 0
  · subst h0; rw [ldI_of hb hm.lz]; rfl
  · have h1 := ex_lg a ha (by omega)
    have := hm.lg (lg a) (lg_lt a ha)
    rw [h1] at this
    exact ldI_of hb this
theorem exp_at {h : AHeap} {b : Nat} {c : List Value} (hb : h.get b = some (.cells c 97 true 0)) (hm : Made c) {j : Nat} (hj : j < 510) {sp : Option Nat} : ldI .u8 ⟨b, 3 + j, sp⟩ h = some (ex (j % 255) : Int) := by
  by_cases h1 : j < 255
  · rw [Nat.mod_eq_of_lt h1]; exact ldI_of hb (hm.lo j h1)
  · have := hm.hi (j - 255) (by omega)
    rw [show 258 + (j - 255) = 3 + j from by omega] at this
    rw [show j % 255 = j - 255 from by omega]
    exact ldI_of hb this

theorem times_spec (k : Nat) (D : CallF) {h : AHeap} {b : Nat} {c : List Value} (hb : h.get b = some (.cells c 97 true 0)) (hm : Made c) {x y : Nat} (hx : x < 256) (hy : y < 256) :
    field_tables_times k D (some ⟨b, 3, none⟩) x y h = some ((mulT x y : Int), h) := by
  unfold field_tables_times joinK mulT
  by_cases h0 : x = 0
  · subst h0; simp
  · by_cases h1 : y = 0
    · subst h1; simp [h0]
    · have e0 : ((x : Int) == 0) = false := by simp; omega
      have e1 : ((y : Int) == 0) = false := by simp; omega
      have l1 := lg_lt x hx
      have l2 := lg_lt y hy
      rw [e0, e1]
      simp only [Bool.false_eq_true, if_false, Option.bind_some]
      rw [idxA_of (by omega), idxA_of (by omega)]
      simp only [Option.bind_some]
      have a1 : 3 + 510 + (x : Int).toNat * 1 = 513 + x := by omega
      have a2 : 3 + 510 + (y : Int).toNat * 1 = 513 + y := by omega
      rw [a1, a2, log_at hb hm hx, log_at hb hm hy]
      simp only [Option.bind_some]
      rw [w64 _ (by omega), idxA_of (by omega)]
      simp only [Option.bind_some]
      have a3 : 3 + 0 + ((lg x : Int) + (lg y : Int)).toNat * 1 = 3 + (lg x + lg y) := by omega
      rw [a3, exp_at hb hm (by omega)]
      have := (ex_lt ((lg x + lg y) % 255) (Nat.mod_lt _ (by omega))).2
      simp only [Option.bind_some]
      rw [w64 _ (by omega)]
      simp [h0, h1]


/-- the power, by the tables -/
def powT (x n : Nat) : Nat := if n = 0 then 1 else if x = 0 then 0 else ex ((lg x * (n % 255)) % 255)

theorem is1 {k : Nat} (hk : 256 ≤ k) (D : CallF) (h : AHeap) (x : Int) (t : TypeId) : field_is k D (⟨some ⟨h.next, 0, some 0⟩, 1, 1⟩ : Slc) (AHeap.new h (.cells [.int .i64 x] t true 0)) = some (inR x, AHeap.new h (.cells [.int .i64 x] t true 0)) := by
  have := is_spec (k := k) D (n := h.next) (sp := some 0) (cap := 1) (xs := [x]) (e := t) (rw' := true) (fz := 0) (h := AHeap.new h (.cells [.int .i64 x] t true 0)) (by simp; omega) (by simp) (by simp)
  simpa using this
theorem is2 {k : Nat} (hk : 256 ≤ k) (D : CallF) (h : AHeap) (x y : Int) (t : TypeId) : field_is k D (⟨some ⟨h.next, 0, some 0⟩, 2, 2⟩ : Slc) (AHeap.new h (.cells [.int .i64 x, .int .i64 y] t true 0)) = some (inR x && inR y, AHeap.new h (.cells [.int .i64 x, .int .i64 y] t true 0)) := by
  have := is_spec (k := k) D (n := h.next) (sp := some 0) (cap := 2) (xs := [x, y]) (e := t) (rw' := true) (fz := 0) (h := AHeap.new h (.cells [.int .i64 x, .int .i64 y] t true 0)) (by simp; omega) (by simp) (by simp)
  simpa using this

theorem mul_spec {k : Nat} (hk : 256 ≤ k) {h : AHeap} {b : Nat} (hf : Fld h b) (hb : b < h.next) {x y : Nat} (hx : x < 256) (hy : y < 256) :
    ∃ h', field_Field_Mul k (DD k) (some ⟨b, 0, none⟩) x y h = some (((mulT x y : Int), 0), h') ∧ FS b h h' := by
  have f1 := FS.new hf hb (.cells [.int .i64 (x : Int), .int .i64 (y : Int)] 3 true 0)
  obtain ⟨c, hm, ht⟩ := tables_spec hk f1.fld
  refine ⟨_, ?_, f1.trans (.made hm)⟩
  simp only [field_Field_Mul]
  rw [is2 hk, inR_nat hx, inR_nat hy]
  simp only [Option.bind_some, Bool.and_self, Bool.not_true, Bool.false_eq_true, if_false]
  rw [ht]
  simp only [Option.bind_some]
  rw [times_spec k _ (c := c) (by simp) hm hx hy]
  rfl

theorem log_spec {k : Nat} (hk : 256 ≤ k) {h : AHeap} {b : Nat} (hf : Fld h b) (hb : b < h.next) {x : Nat} (hx : x < 256) (h0 : x ≠ 0) :
    ∃ h', field_Field_Log k (DD k) (some ⟨b, 0, none⟩) x h = some (((lg x : Int), 0), h') ∧ FS b h h' := by
  have f1 := FS.new hf hb (.cells [.int .i64 (x : Int)] 3 true 0)
  obtain ⟨c, hm, ht⟩ := tables_spec hk f1.fld
  refine ⟨_, ?_, f1.trans (.made hm)⟩
  simp only [field_Field_Log]
  rw [is1 hk, inR_nat hx]
  have e0 : ((x : Int) == 0) = false := by simp; omega
  simp only [Option.bind_some, Bool.not_true, Bool.false_eq_true, if_false, e0]
  rw [ht]
  simp only [Option.bind_some]
  rw [idxA_of (by omega)]
  simp only [Option.bind_some]
  have a1 : 3 + 510 + (x : Int).toNat * 1 = 513 + x := by omega
  rw [a1, log_at (c := c) (by simp) hm hx]
  rfl

theorem pow_spec0 {k : Nat} (hk : 256 ≤ k) {h : AHeap} {b : Nat} (hf : Fld h b) (hb : b < h.next) {x n : Nat} (hx : x < 256) :
    ∃ h', field_Field_Pow k (DD k) (some ⟨b, 0, none⟩) x n h = some (((powT x n : Int), 0), h') ∧ FS b h h' := by
  have f1 := FS.new hf hb (.cells [.int .i64 (x : Int)] 3 true 0)
  simp only [field_Field_Pow, joinK]
  rw [is1 hk, inR_nat hx]
  have e2 : decide ((n : Int) < 0) = false := by simp
  simp only [Option.bind_some, Bool.not_true, Bool.false_eq_true, if_false, e2]
  unfold powT
  by_cases n0 : n = 0
  · subst n0
    exact ⟨_, rfl, f1⟩
  · have e3 : ((n : Int) == 0) = false := by simp; omega
    simp only [e3, Bool.false_eq_true, if_false, n0]
    by_cases x0 : x = 0
    · subst x0
      exact ⟨_, rfl, f1⟩
    · have e0 : ((x : Int) == 0) = false := by simp; omega
      simp only [e0, Bool.false_eq_true, if_false, x0]
      obtain ⟨c, hm, ht⟩ := tables_spec hk f1.fld
      refine ⟨_, ?_, f1.trans (.made hm)⟩
      rw [ht]
      simp only [Option.bind_some]
      rw [idxA_of (by omega)]
      simp only [Option.bind_some]
      have a1 : 3 + 510 + (x : Int).toNat * 1 = 513 + x := by omega
      rw [a1, log_at (c := c) (by simp) hm hx]
      simp only [Option.bind_some]
      have l1 := lg_lt x hx
      have m1 : Int.tmod (n : Int) 255 = ((n % 255 : Nat) : Int) := by rw [Int.tmod_eq_emod_of_nonneg (by omega)]; omega
      have l3 : lg x * (n % 255) ≤ 254 * 254 := Nat.mul_le_mul (by omega) (by omega)
      have m2 : (lg x : Int) * ((n % 255 : Nat) : Int) = ((lg x * (n % 255) : Nat) : Int) := by simp
      rw [m1, m2, w64 _ (by omega)]
      have m3 : Int.tmod ((lg x * (n % 255) : Nat) : Int) 255 = (((lg x * (n % 255)) % 255 : Nat) : Int) := by rw [Int.tmod_eq_emod_of_nonneg (by omega)]; omega
      rw [m3, idxA_of (by omega)]
      simp only [Option.bind_some]
      have a3 : 3 + 0 + (((lg x * (n % 255)) % 255 : Nat) : Int).toNat * 1 = 3 + (lg x * (n % 255)) % 255 := by omega
      rw [a3, exp_at (c := c) (by simp) hm (by omega)]
      have := (ex_lt ((lg x * (n % 255)) % 255) (by omega)).2
      simp only [Option.bind_some]
      rw [Nat.mod_mod, w64 _ (by omega)]

theorem pow_spec {k : Nat} (hk : 256 ≤ k) {h : AHeap} {b : Nat} (hf : Fld h b) (hb : b < h.next) {x n : Nat} (hx : x < 256) (_hn : n < 4611686018427387904) :
    ∃ h', field_Field_Pow k (DD k) (some ⟨b, 0, none⟩) x n h = some (((powT x n : Int), 0), h') ∧ FS b h h' := pow_spec0 hk hf hb hx

end Gy

/-! The law FieldPowers. -/
namespace Gy
open Go Gx Go.Proofs

/-- all that was there stands -/
structure Ext (h h' : AHeap) : Prop where
  nx : h.next ≤ h'.next
  oth : ∀ x, x < h.next → h'.get x = h.get x
theorem Ext.trans {h h1 h2 : AHeap} (a : Ext h h1) (c : Ext h1 h2) : Ext h h2 :=
  ⟨Nat.le_trans a.nx c.nx, fun x hx => (c.oth x (Nat.lt_of_lt_of_le hx a.nx)).trans (a.oth x hx)⟩
theorem Ext.new (h : AHeap) (B : ABlk) : Ext h (h.new B) := ⟨by simp, fun x hx => by simp; omega⟩
theorem Ext.fs {h h1 h2 : AHeap} {b : Nat} (a : Ext h h1) (c : FS b h1 h2) (hb : h.next ≤ b) : Ext h h2 :=
  ⟨Nat.le_trans a.nx c.nx, fun x hx => (c.oth x (Nat.lt_of_lt_of_le hx a.nx) (by omega)).trans (a.oth x hx)⟩

theorem new_spec (k : Nat) (D : CallF) (h : AHeap) : field_New k D h = some (some ⟨h.next, 0, none⟩, h.new (.cells fresh 97 true 0)) := rfl
theorem fld_new (h : AHeap) : Fld (h.new (.cells fresh 97 true 0)) h.next := ⟨fresh, by simp, .inl rfl⟩

theorem works_spec {k : Nat} (hk : 256 ≤ k) (h : AHeap) : ∃ h', law03_works k (DD k) h = some (true, h') ∧ Ext h h' := by
  have f0 := fld_new h
  obtain ⟨h1, e1, s1⟩ := mul_spec hk f0 (by simp) (x := 2) (y := 128) (by omega) (by omega)
  obtain ⟨h2, e2, s2⟩ := pow_spec hk s1.fld (Nat.lt_of_lt_of_le (by simp) s1.nx) (x := 2) (n := 8) (by omega) (by omega)
  refine ⟨h2, ?_, ((Ext.new h _).fs s1 (Nat.le_refl _)).fs s2 (Nat.le_refl _)⟩
  have m1 : mulT 2 128 = 135 := by decide +kernel
  have m2 : powT 2 8 = 135 := by decide +kernel
  rw [m1] at e1
  rw [m2] at e2
  simp only [law03_works, new_spec, Option.bind_some, Option.isNone_some, Bool.false_eq_true, if_false]
  have e1' : field_Field_Mul k (DD k) (some ⟨h.next, 0, none⟩) 2 128 (h.new (.cells fresh 97 true 0)) = some ((135, 0), h1) := e1
  have e2' : field_Field_Pow k (DD k) (some ⟨h.next, 0, none⟩) 2 8 h1 = some ((135, 0), h2) := e2
  rw [e1']
  simp only [Option.bind_some]
  rw [e2']
  rfl

theorem among_spec (k : Nat) (D : CallF) (x : Int) (n : Nat) (h : AHeap) (hn : 0 < n) (hn2 : n < 1000000) : ∃ m : Nat, m < n ∧ book_Among k D x n h = some ((m : Int), h) := by
  have h1 := Int.tmod_lt_of_pos x (show (0 : Int) < n by omega)
  have h2 : -(n : Int) < Int.tmod x n := by
    have := Int.lt_tmod_of_pos x (show (0 : Int) < n by omega)
    omega
  refine ⟨(Int.tmod (Int.tmod x n + n) n).toNat, ?_, ?_⟩
  · rw [Int.tmod_eq_emod_of_nonneg (by omega)]
    have := Int.emod_lt_of_pos (Int.tmod x n + n) (show (0 : Int) < n by omega)
    have := Int.emod_nonneg (Int.tmod x n + n) (show (n : Int) ≠ 0 by omega)
    omega
  · simp only [book_Among]
    rw [if_neg (by omega), if_neg (by omega), w64 _ (by omega)]
    have : 0 ≤ Int.tmod (Int.tmod x n + n) n := by
      rw [Int.tmod_eq_emod_of_nonneg (by omega)]; exact Int.emod_nonneg _ (by omega)
    rw [Int.toNat_of_nonneg this]

/-- what stands while the law runs: the two numbers, the field's pointer, the field -/
structure PS1 (t0 t1 : Int) (h : AHeap) : Prop where
  b0 : h.get 0 = some (.cells [.int .i64 t0, .int .i64 t1] 22 true 0)
  b2 : h.get 2 = some (.cells [.pointer (some ⟨1, 0, none⟩)] 26 true 0)
  fld : Fld h 1
  nx : 3 ≤ h.next
theorem PS1.fs {t0 t1 : Int} {h h' : AHeap} (p : PS1 t0 t1 h) (s : FS 1 h h') : PS1 t0 t1 h' :=
  ⟨by rw [s.oth 0 (by have := p.nx; omega) (by omega)]; exact p.b0, by rw [s.oth 2 (by have := p.nx; omega) (by omega)]; exact p.b2, s.fld, Nat.le_trans p.nx s.nx⟩
theorem PS1.ext {t0 t1 : Int} {h h' : AHeap} (p : PS1 t0 t1 h) (s : Ext h h') : PS1 t0 t1 h' :=
  ⟨by rw [s.oth 0 (by have := p.nx; omega)]; exact p.b0, by rw [s.oth 2 (by have := p.nx; omega)]; exact p.b2, by
    obtain ⟨c, h1, h2⟩ := p.fld
    exact ⟨c, by rw [s.oth 1 (by have := p.nx; omega)]; exact h1, h2⟩, Nat.le_trans p.nx s.nx⟩
theorem PS1.ldp {t0 t1 : Int} {h : AHeap} (p : PS1 t0 t1 h) : ldP ⟨2, 0, none⟩ h = some (some ⟨1, 0, none⟩) := by
  simp [ldP, AHeap.rd1, p.b2, decP]
theorem PS1.lda {t0 t1 : Int} {h : AHeap} (p : PS1 t0 t1 h) : ldA 1 ⟨2, 0, none⟩ h = some [.pointer (some ⟨1, 0, none⟩)] := by
  simp [ldA, AHeap.rdL, p.b2]
theorem PS1.ld0 {t0 t1 : Int} {h : AHeap} (p : PS1 t0 t1 h) : ldI .i64 ⟨0, 0, none⟩ h = some t0 := ldI_of p.b0 rfl
theorem PS1.ld1 {t0 t1 : Int} {h : AHeap} (p : PS1 t0 t1 h) : ldI .i64 ⟨0, 1, none⟩ h = some t1 := ldI_of p.b0 rfl

theorem smul_spec {k : Nat} (hk : 256 ≤ k) {h : AHeap} {b : Nat} (hf : Fld h b) (hb : b < h.next) {x y : Nat} (hx : x < 256) (hy : y < 256) :
    ∃ h', law03_space_mul k (DD k) (some ⟨b, 0, none⟩) x y h = some ((mulT x y : Int), h') ∧ FS b h h' := by
  have f1 := FS.new hf hb (.cells [.pointer (some ⟨b, 0, none⟩)] 26 true 0)
  obtain ⟨h', e, s⟩ := mul_spec hk f1.fld (Nat.lt_of_lt_of_le hb f1.nx) hx hy
  refine ⟨h', ?_, f1.trans s⟩
  simp only [law03_space_mul]
  have : ldP ⟨h.next, 0, none⟩ (h.new (.cells [.pointer (some ⟨b, 0, none⟩)] 26 true 0)) = some (some ⟨b, 0, none⟩) := by simp [ldP, AHeap.rd1, decP]
  rw [this]
  simp only [Option.bind_some]
  rw [e]
  rfl
end Gy

/-! The law FieldPowers: it gives true. -/
namespace Gy
open Go Gx Go.Proofs

theorem powers_loop (K : Nat) (D : CallF) (n : Nat) (sp : Option Nat) (cap : Nat) (j) (bot) (xs : List Int) (e : TypeId) (rw' : Bool) (fz : Nat) (h : AHeap) (hsm : xs.length < 9223372036854775807)
    (hb : h.get n = some (.cells (xs.map fun x => .int .i64 x) e rw' fz)) (hz : ∀ x ∈ xs, x = 0) (s : Option Addr) (a1 a2 a3 a4 a5 a6 a7 a8 : Int) : ∀ (m i : Nat), i + m = xs.length →
    iterK bot (m + 1) (law03_FieldPowers_l0b K D j) s a1 a2 a3 a4 a5 a6 a7 a8 ⟨some ⟨n, 0, sp⟩, xs.length, cap⟩ (xs.length : Int) (i : Int) h = j s a1 a2 a3 a4 a5 a6 a7 a8 h
  | 0, i, hi => by
    rw [iterK, law03_FieldPowers_l0b, if_neg (by simp; omega)]
  | m + 1, i, hi => by
    have hlt : i < xs.length := by omega
    rw [iterK, law03_FieldPowers_l0b, if_pos (by simp; omega), idxL_of (by omega)]
    simp only [Option.bind_some]
    have hx : (xs.map fun x => Value.int .i64 x)[0 + (i : Int).toNat * 1]? = some (.int .i64 xs[i]) := by simp [hlt]
    rw [ldI_of hb hx, hz xs[i] (List.getElem_mem hlt)]
    simp only [Option.bind_some]
    rw [w64 _ (by omega)]
    have hi1 : ((i : Int) + 1) = ((i + 1 : Nat) : Int) := by omega
    rw [hi1]
    exact powers_loop K D n sp cap j bot xs e rw' fz h hsm hb hz s a1 a2 a3 a4 a5 a6 a7 a8 m (i + 1) (by omega)

theorem powT_ne {x n : Nat} (hx : x ≠ 0) : powT x n = ex ((lg x * (n % 255)) % 255) := by
  unfold powT
  by_cases h : n = 0
  · subst h; simp [ex_zero]
  · simp [h, hx]
theorem mulT_ex {i j : Nat} (hi : i < 255) (hj : j < 255) : mulT (ex i) (ex j) = ex ((i + j) % 255) := by
  have a := (ex_lt i hi).1
  have b := (ex_lt j hj).1
  unfold mulT
  rw [if_neg (by omega), lg_ex i hi, lg_ex j hj]
theorem powT_add {x m n : Nat} (hx : x ≠ 0) : mulT (powT x m) (powT x n) = powT x (m + n) := by
  rw [powT_ne hx, powT_ne hx, powT_ne hx, mulT_ex (Nat.mod_lt _ (by omega)) (Nat.mod_lt _ (by omega))]
  congr 1
  rw [← Nat.add_mod, ← Nat.mul_add, Nat.mul_mod, Nat.add_mod_mod, Nat.mod_add_mod]
  conv => rhs; rw [Nat.mul_mod, Nat.mod_mod]
theorem powT_lt {x n : Nat} (hx : x ≠ 0) : powT x n < 256 ∧ powT x n ≠ 0 := by
  rw [powT_ne hx]
  have := ex_lt ((lg x * (n % 255)) % 255) (Nat.mod_lt _ (by omega))
  omega
theorem mulT_lt (x y : Nat) : mulT x y < 256 := by
  unfold mulT
  split
  · omega
  · exact (ex_lt _ (Nat.mod_lt _ (by omega))).2
theorem mulT_ne {x y : Nat} (hx : x ≠ 0) (hy : y ≠ 0) : mulT x y ≠ 0 := by
  unfold mulT
  rw [if_neg (by omega)]
  have := (ex_lt ((lg x + lg y) % 255) (Nat.mod_lt _ (by omega))).1
  omega
theorem lg_mulT {x y : Nat} (hx : x ≠ 0) (hy : y ≠ 0) : lg (mulT x y) = (lg x + lg y) % 255 := by
  unfold mulT
  rw [if_neg (by omega), lg_ex _ (Nat.mod_lt _ (by omega))]
theorem lg_pow2 (m : Nat) : lg (powT 2 m) = m % 255 := by
  rw [powT_ne (by omega), lg_ex _ (Nat.mod_lt _ (by omega))]
  have : lg 2 = 1 := by decide +kernel
  rw [this]; omega

theorem bnd {α β : Type} {x : Option α} {f : α → Option β} {v : α} {r : Option β} (h : x = some v) (k : f v = r) : x.bind f = r := by rw [h]; exact k
theorem jn {α R : Type} {j : α} {b : α → R} {r : R} (k : b j = r) : joinK j b = r := k
theorem ifp {α : Type} {c : Prop} [Decidable c] {a b r : α} (h : c) (k : a = r) : (if c then a else b) = r := by rw [if_pos h]; exact k
theorem ifn {α : Type} {c : Prop} [Decidable c] {a b r : α} (h : ¬ c) (k : b = r) : (if c then a else b) = r := by rw [if_neg h]; exact k
theorem gp {R : Type} {p : Prop} {x r : Option R} (h : p) (k : x = r) : guardP p x = r := by rw [guardP_true h]; exact k
theorem start_ps (t0 t1 : Int) : PS1 t0 t1 (((Gx.h0.new (.cells [.int .i64 t0, .int .i64 t1] 22 true 0)).new (.cells fresh 97 true 0)).new (.cells [.pointer (some ⟨1, 0, none⟩)] 26 true 0)) :=
  ⟨by simp [Gx.h0], by simp [Gx.h0], ⟨fresh, by simp [Gx.h0], .inl rfl⟩, by simp [Gx.h0]⟩
theorem stL_one {h : AHeap} {b : Nat} {v u : Value} {e : TypeId} (hb : h.get b = some (.cells [u] e true 0)) (hv : one v = true) : stL 1 ⟨b, 0, none⟩ [v] h = some (h.set b (.cells [v] e true 0)) := by
  simp [stL, AHeap.wrL, hb, allOne, hv, splice]

theorem powers_true {k : Nat} (hk : 256 ≤ k) (a b t0 t1 : Int) : ∃ h', law03_FieldPowers k (DD k) a b (t0, t1) Gx.h0 = some (true, h') := by
  obtain ⟨h4, hh4⟩ : ∃ h4, h4 = (((Gx.h0.new (.cells [.int .i64 t0, .int .i64 t1] 22 true 0)).new (.cells fresh 97 true 0)).new (.cells [.pointer (some ⟨1, 0, none⟩)] 26 true 0)) := ⟨_, rfl⟩
  have p4 : PS1 t0 t1 h4 := hh4 ▸ start_ps t0 t1
  obtain ⟨h5, e5, x5⟩ := works_spec hk h4
  have p5 := p4.ext x5
  obtain ⟨A, hA, eA⟩ := among_spec k (DD k) a 255 h5 (by omega) (by omega)
  obtain ⟨B, hB, eB⟩ := among_spec k (DD k) b 255 h5 (by omega) (by omega)
  obtain ⟨M, hM, eM⟩ := among_spec k (DD k) t0 100000 h5 (by omega) (by omega)
  obtain ⟨N, hN, eN⟩ := among_spec k (DD k) t1 100000 h5 (by omega) (by omega)
  obtain ⟨h6, e6, s6⟩ := pow_spec hk p5.fld (by have := p5.nx; omega) (x := 1 + A) (n := M) (by omega) (by omega)
  have p6 := p5.fs s6
  obtain ⟨h7, e7, s7⟩ := pow_spec hk p6.fld (by have := p6.nx; omega) (x := 1 + A) (n := N) (by omega) (by omega)
  have p7 := p6.fs s7
  obtain ⟨h8, e8, s8⟩ := pow_spec hk p7.fld (by have := p7.nx; omega) (x := 1 + A) (n := M + N) (by omega) (by omega)
  have p8 := p7.fs s8
  obtain ⟨h9, e9, s9⟩ := log_spec hk p8.fld (by have := p8.nx; omega) (x := 1 + A) (by omega) (by omega)
  have p9 := p8.fs s9
  obtain ⟨h10, e10, s10⟩ := log_spec hk p9.fld (by have := p9.nx; omega) (x := 1 + B) (by omega) (by omega)
  have p10 := p9.fs s10
  obtain ⟨h11, e11, s11⟩ := smul_spec hk p10.fld (by have := p10.nx; omega) (x := 1 + A) (y := 1 + B) (by omega) (by omega)
  have p11 := p10.fs s11
  obtain ⟨h12, e12, s12⟩ := log_spec hk p11.fld (by have := p11.nx; omega) (x := mulT (1 + A) (1 + B)) (mulT_lt _ _) (mulT_ne (by omega) (by omega))
  have p12 := p11.fs s12
  obtain ⟨h13, e13, s13⟩ := pow_spec hk p12.fld (by have := p12.nx; omega) (x := 2) (n := M) (by omega) (by omega)
  have p13 := p12.fs s13
  obtain ⟨h14, e14, s14⟩ := log_spec hk p13.fld (by have := p13.nx; omega) (x := powT 2 M) (powT_lt (by omega)).1 (powT_lt (by omega)).2
  have p14 := p13.fs s14
  obtain ⟨h15, hh15⟩ : ∃ h15, h15 = h14.new (.cells ([0, 0, 0, 0, 0, 0, 0, 0].map fun x => .int .i64 x) 29 true 0) := ⟨_, rfl⟩
  have p15 : PS1 t0 t1 h15 := hh15 ▸ p14.ext (.new _ _)
  have b15 : h15.get h14.next = some (.cells ([0, 0, 0, 0, 0, 0, 0, 0].map fun x => .int .i64 x) 29 true 0) := by rw [hh15]; simp
  obtain ⟨h16, e16, s16⟩ := smul_spec hk p15.fld (by have := p15.nx; omega) (x := powT (1 + A) M) (y := powT (1 + A) N) (powT_lt (by omega)).1 (powT_lt (by omega)).1
  have c1 : IntKind.wrap .i64 (1 + (A : Int)) = ((1 + A : Nat) : Int) := by rw [w64 _ (by omega)]; simp
  have c2 : IntKind.wrap .i64 (1 + (B : Int)) = ((1 + B : Nat) : Int) := by rw [w64 _ (by omega)]; simp
  have c3 : IntKind.wrap .i64 ((M : Int) + (N : Int)) = ((M + N : Nat) : Int) := by rw [w64 _ (by omega)]; simp
  refine ⟨h16, ?_⟩
  unfold law03_FieldPowers
  have est : stL 1 (⟨((Gx.h0.new (.cells [.int .i64 t0, .int .i64 t1] 22 true 0)).new (.cells fresh 97 true 0)).next, 0, none⟩ : Addr) [.pointer (some ⟨(Gx.h0.new (.cells [.int .i64 t0, .int .i64 t1] 22 true 0)).next, 0, none⟩)]
      (((Gx.h0.new (.cells [.int .i64 t0, .int .i64 t1] 22 true 0)).new (.cells fresh 97 true 0)).new (.cells [.pointer none] 26 true 0)) = some h4 := by
    rw [stL_one (u := .pointer none) (e := 26) (by simp) rfl, hh4]
    congr 1
    simp only [AHeap.set, AHeap.new, Gx.h0, AHeap.mk.injEq, true_and]
    funext x
    by_cases e : x = 2 <;> simp [e]
  refine bnd (new_spec _ _ _) ?_
  refine bnd est ?_
  refine jn ?_
  refine bnd p4.ldp ?_
  refine ifn (by simp) ?_
  refine bnd e5 ?_
  refine ifn (by simp) ?_
  refine bnd eA ?_
  refine bnd eB ?_
  refine bnd rfl ?_
  refine bnd p5.ld0 ?_
  refine bnd eM ?_
  refine bnd rfl ?_
  refine bnd p5.ld1 ?_
  refine gp (fun H hH => ?_) ?_
  · simp at hH; subst hH; exact bnd p5.ld1 rfl
  refine bnd eN ?_
  refine bnd rfl ?_
  refine bnd p5.ldp ?_
  refine bnd (by rw [c1]; exact e6) ?_
  refine bnd rfl ?_
  refine bnd p6.ldp ?_
  refine bnd (by rw [c1]; exact e7) ?_
  refine bnd rfl ?_
  refine bnd p7.ldp ?_
  refine bnd (by rw [c1, c3]; exact e8) ?_
  refine bnd rfl ?_
  refine bnd p8.ldp ?_
  refine bnd (by rw [c1]; exact e9) ?_
  refine bnd rfl ?_
  refine bnd p9.ldp ?_
  refine bnd (by rw [c2]; exact e10) ?_
  refine bnd rfl ?_
  refine bnd p10.lda ?_
  refine bnd rfl ?_
  refine bnd (by rw [c1, c2]; exact e11) ?_
  refine bnd rfl ?_
  refine bnd p11.ldp ?_
  refine gp (fun H hH => ?_) ?_
  · simp at hH; subst hH; exact bnd p10.ldp rfl
  refine bnd e12 ?_
  refine bnd rfl ?_
  refine bnd p12.ldp ?_
  refine bnd e13 ?_
  refine bnd rfl ?_
  refine bnd p13.ldp ?_
  refine bnd e14 ?_
  refine jn ?_
  have el : ∀ j s a1 a2 a3 a4 a5 a6 a7 a8, law03_FieldPowers_l0 k (DD k) j s a1 a2 a3 a4 a5 a6 a7 a8 (⟨some ⟨h14.next, 0, some 0⟩, 8, 8⟩ : Slc) 8 0
      (h14.new (.cells [.int .i64 0, .int .i64 0, .int .i64 0, .int .i64 0, .int .i64 0, .int .i64 0, .int .i64 0, .int .i64 0] 29 true 0)) = j s a1 a2 a3 a4 a5 a6 a7 a8 h15 := by
    intro j s a1 a2 a3 a4 a5 a6 a7 a8
    obtain ⟨k', rfl⟩ : ∃ k', k = 8 + 1 + k' := ⟨k - 9, by omega⟩
    rw [law03_FieldPowers_l0, iterK_add]
    have := powers_loop (8 + 1 + k') (DD (8 + 1 + k')) h14.next (some 0) 8 j (iterK (fun _ _ _ _ _ _ _ _ _ _ _ _ _ => none) k' (law03_FieldPowers_l0b (8 + 1 + k') (DD (8 + 1 + k')) j)) [0, 0, 0, 0, 0, 0, 0, 0] 29 true 0 h15 (by simp) b15 (by simp) s a1 a2 a3 a4 a5 a6 a7 a8 8 0 (by simp)
    rw [hh15] at this ⊢
    exact this
  refine (el _ _ _ _ _ _ _ _ _ _).trans ?_
  refine bnd rfl ?_
  refine bnd p15.lda ?_
  refine bnd rfl ?_
  refine bnd e16 ?_
  refine ifp ?_ ?_
  · rw [powT_add (by omega)]; simp
  refine ifp ?_ ?_
  · rw [lg_mulT (by omega) (by omega)]
    have l1 := lg_lt (1 + A) (by omega)
    have l2 := lg_lt (1 + B) (by omega)
    show (Int.tmod (IntKind.wrap .i64 ((lg (1 + A) : Int) + (lg (1 + B) : Int))) 255 == (((lg (1 + A) + lg (1 + B)) % 255 : Nat) : Int)) = true
    rw [w64 _ (by omega), Int.tmod_eq_emod_of_nonneg (by omega)]
    simp
  · show some (((lg (powT 2 M) : Int) == Int.tmod (M : Int) 255), h16) = some (true, h16)
    rw [lg_pow2, Int.tmod_eq_emod_of_nonneg (by omega)]
    simp
end Gy

/-! The field's algebra. -/
namespace Gy
open Go Gx Go.Proofs

theorem dbl_bit : ∀ b, b < 256 → dbl b = (b * 2 ^ 1) ^^^ (if b.testBit 7 then 391 else 0) := by decide +kernel
theorem xlc (a b c : Nat) : a ^^^ (b ^^^ c) = b ^^^ (a ^^^ c) := by rw [← Nat.xor_assoc, Nat.xor_comm a b, Nat.xor_assoc]
theorem mul_xor (a b i : Nat) : (a ^^^ b) * 2 ^ i = (a * 2 ^ i) ^^^ (b * 2 ^ i) := by
  rw [← Nat.shiftLeft_eq, ← Nat.shiftLeft_eq, ← Nat.shiftLeft_eq, Nat.shiftLeft_xor_distrib]
theorem dbl_xor (b : Nat) (hb : b < 256) (c : Nat) (hc : c < 256) : dbl (b ^^^ c) = dbl b ^^^ dbl c := by
  rw [dbl_bit b hb, dbl_bit c hc, dbl_bit _ (Nat.xor_lt_two_pow (n := 8) hb hc), mul_xor, Nat.testBit_xor]
  cases b.testBit 7 <;> cases c.testBit 7 <;> simp [Nat.xor_assoc, Nat.xor_comm, xlc]
theorem xor_lt {b c : Nat} (hb : b < 256) (hc : c < 256) : b ^^^ c < 256 := Nat.xor_lt_two_pow (n := 8) hb hc
def dp : Nat → Nat → Nat
  | 0, b => b
  | n + 1, b => dbl (dp n b)
theorem dp_lt (n : Nat) {b : Nat} (hb : b < 256) : dp n b < 256 := by
  induction n with
  | zero => exact hb
  | succ n ih => exact dbl_lt _ ih
theorem dp_xor (n : Nat) {b c : Nat} (hb : b < 256) (hc : c < 256) : dp n (b ^^^ c) = dp n b ^^^ dp n c := by
  induction n with
  | zero => rfl
  | succ n ih => simp only [dp]; rw [ih, dbl_xor _ (dp_lt n hb) _ (dp_lt n hc)]
theorem dp_zero (n : Nat) : dp n 0 = 0 := by
  induction n with
  | zero => rfl
  | succ n ih => simp only [dp]; rw [ih]; rfl
theorem dp_ex (n : Nat) {j : Nat} (hj : j < 255) : dp n (ex j) = ex ((j + n) % 255) := by
  induction n with
  | zero => simp only [dp, Nat.add_zero]; rw [Nat.mod_eq_of_lt hj]
  | succ n ih =>
    simp only [dp]; rw [ih]
    have hm : (j + n) % 255 < 255 := Nat.mod_lt _ (by omega)
    by_cases h : (j + n) % 255 = 254
    · rw [h, ex_last]
      have : (j + (n + 1)) % 255 = 0 := by omega
      rw [this]; rfl
    · rw [ex_succ _ (by omega)]
      congr 1; omega
theorem mulT_dp {a b : Nat} (ha : a ≠ 0) (hb : b < 256) : mulT a b = dp (lg a) b := by
  unfold mulT
  by_cases h : b = 0
  · subst h; rw [dp_zero]; simp
  · rw [if_neg (by omega)]
    have := dp_ex (lg a) (lg_lt b hb)
    rw [ex_lg b hb (by omega)] at this
    rw [this, Nat.add_comm]
theorem mulT_zero (b : Nat) : mulT 0 b = 0 := by simp [mulT]
theorem mulT_comm (a b : Nat) : mulT a b = mulT b a := by
  unfold mulT
  by_cases h : a = 0 <;> by_cases h' : b = 0 <;> simp [h, h', Nat.add_comm]
theorem mulT_xor {a b c : Nat} (hb : b < 256) (hc : c < 256) : mulT a (b ^^^ c) = mulT a b ^^^ mulT a c := by
  by_cases h : a = 0
  · subst h; simp [mulT_zero]
  · rw [mulT_dp h (xor_lt hb hc), mulT_dp h hb, mulT_dp h hc, dp_xor _ hb hc]
theorem mulT_assoc {a b c : Nat} : mulT (mulT a b) c = mulT a (mulT b c) := by
  by_cases h : a = 0
  · subst h; simp [mulT_zero]
  · by_cases h' : b = 0
    · subst h'; simp [mulT]
    · by_cases h'' : c = 0
      · subst h''; simp [mulT_comm _ 0, mulT_zero]
      · have e1 : mulT a b = ex ((lg a + lg b) % 255) := by unfold mulT; rw [if_neg (by omega)]
        have e2 : mulT b c = ex ((lg b + lg c) % 255) := by unfold mulT; rw [if_neg (by omega)]
        have n1 := mulT_ne h h'
        have n2 := mulT_ne h' h''
        unfold mulT at n1 n2 ⊢
        rw [if_neg (show ¬ (a = 0 ∨ b = 0) by omega)] at n1 ⊢
        rw [if_neg (show ¬ (b = 0 ∨ c = 0) by omega)] at n2 ⊢
        rw [if_neg (by omega), if_neg (by omega), lg_ex _ (Nat.mod_lt _ (by omega)), lg_ex _ (Nat.mod_lt _ (by omega))]
        congr 1; omega
theorem mulT_one {a : Nat} (ha : a < 256) : mulT a 1 = a := by
  by_cases h : a = 0
  · subst h; rfl
  · rw [mulT_dp h (by omega)]
    have := dp_ex (lg a) (j := 0) (by omega)
    rw [ex_zero, Nat.zero_add, Nat.mod_eq_of_lt (lg_lt a ha), ex_lg a ha (by omega)] at this
    exact this
end Gy

/-! The field: quotients; xor. -/
namespace Gy
open Go Gx Go.Proofs

def divT (a b : Nat) : Nat := if a = 0 then 0 else ex ((lg a + 255 - lg b) % 255)
theorem div_spec {k : Nat} (hk : 256 ≤ k) {h : AHeap} {b : Nat} (hf : Fld h b) (hb : b < h.next) {x y : Nat} (hx : x < 256) (hy : y < 256) :
    ∃ h', field_Field_Div k (DD k) (some ⟨b, 0, none⟩) x y h = some (((if y = 0 then (0, 30) else ((divT x y : Nat), 0)) : Int × Int), h') ∧ FS b h h' := by
  have f1 := FS.new hf hb (.cells [.int .i64 (x : Int), .int .i64 (y : Int)] 3 true 0)
  simp only [field_Field_Div]
  rw [is2 hk, inR_nat hx, inR_nat hy]
  simp only [Option.bind_some, Bool.and_self, Bool.not_true, Bool.false_eq_true, if_false]
  by_cases y0 : y = 0
  · subst y0
    exact ⟨_, rfl, f1⟩
  · have e1 : ((y : Int) == 0) = false := by simp; omega
    simp only [e1, Bool.false_eq_true, if_false, y0]
    unfold divT
    by_cases x0 : x = 0
    · subst x0
      exact ⟨_, rfl, f1⟩
    · have e0 : ((x : Int) == 0) = false := by simp; omega
      simp only [e0, Bool.false_eq_true, if_false, x0]
      obtain ⟨c, hm, ht⟩ := tables_spec hk f1.fld
      refine ⟨_, ?_, f1.trans (.made hm)⟩
      rw [ht]
      simp only [Option.bind_some]
      have l1 := lg_lt x hx
      have l2 := lg_lt y hy
      rw [idxA_of (by omega), idxA_of (by omega)]
      simp only [Option.bind_some]
      have a1 : 3 + 510 + (x : Int).toNat * 1 = 513 + x := by omega
      have a2 : 3 + 510 + (y : Int).toNat * 1 = 513 + y := by omega
      rw [a1, a2, log_at (c := c) (by simp) hm hx, log_at (c := c) (by simp) hm hy]
      simp only [Option.bind_some]
      rw [w64 ((lg x : Int) + 255) (by omega), w64 _ (by omega), idxA_of (by omega)]
      simp only [Option.bind_some]
      have a3 : 3 + 0 + ((lg x : Int) + 255 - (lg y : Int)).toNat * 1 = 3 + (lg x + 255 - lg y) := by omega
      rw [a3, exp_at (c := c) (by simp) hm (by omega)]
      have := (ex_lt ((lg x + 255 - lg y) % 255) (Nat.mod_lt _ (by omega))).2
      simp only [Option.bind_some]
      rw [w64 _ (by omega)]
theorem mul_div {x y : Nat} (hx : x < 256) (hy : y < 256) (y0 : y ≠ 0) : mulT (divT x y) y = x := by
  unfold divT
  by_cases x0 : x = 0
  · subst x0; simp [mulT_zero]
  · simp only [x0, if_false]
    have l1 := lg_lt x hx
    have l2 := lg_lt y hy
    have hy' := ex_lg y hy (by omega)
    have hx' := ex_lg x hx (by omega)
    have := mulT_ex (i := (lg x + 255 - lg y) % 255) (j := lg y) (Nat.mod_lt _ (by omega)) l2
    rw [hy'] at this
    rw [this]
    have e : ((lg x + 255 - lg y) % 255 + lg y) % 255 = lg x := by omega
    rw [e, hx']
theorem divT_lt {x y : Nat} : divT x y < 256 := by
  unfold divT
  split
  · omega
  · exact (ex_lt _ (Nat.mod_lt _ (by omega))).2
theorem bits_xor (a : Nat) (ha : a < 256) (b : Nat) (hb : b < 256) : Go.bits .xor .i64 (Int.ofNat a) (Int.ofNat b) = Int.ofNat (a ^^^ b) := Gx.xor64 (by omega) (by omega)
end Gy

/-! The document's product: bit by bit. -/
namespace Gy
open Go Gx Go.Proofs

def rdS (i n : Nat) : Nat := if n.testBit i then n ^^^ (391 * 2 ^ (i - 8)) else n
def redN (n : Nat) : Nat := rdS 8 (rdS 9 (rdS 10 (rdS 11 (rdS 12 (rdS 13 (rdS 14 (rdS 15 n)))))))
theorem rdS_xor (i n m : Nat) : rdS i (n ^^^ m) = rdS i n ^^^ rdS i m := by
  unfold rdS
  rw [Nat.testBit_xor]
  cases n.testBit i <;> cases m.testBit i <;> simp [Nat.xor_assoc, Nat.xor_comm, xlc]
theorem redN_xor (n m : Nat) : redN (n ^^^ m) = redN n ^^^ redN m := by simp only [redN, rdS_xor]
theorem red_bit : ∀ i, i < 8 → ∀ a, a < 256 → redN (a * 2 ^ i) = mulT a (2 ^ i) := by decide +kernel
theorem bit_mod : ∀ i, i < 8 → ∀ b, b < 256 → b % 2 ^ (i + 1) = if b.testBit i then (b % 2 ^ i) ^^^ 2 ^ i else b % 2 ^ i := by decide +kernel
theorem rdS_lt {i n : Nat} (hi : i < 16) (h : n < 65536) : rdS i n < 65536 := by
  unfold rdS
  split
  · refine Nat.xor_lt_two_pow (n := 16) h ?_
    have : 2 ^ (i - 8) ≤ 2 ^ 7 := Nat.pow_le_pow_right (by decide) (by omega)
    omega
  · exact h

theorem times_l0_step (K : Nat) (D : CallF) (j) (bot) {i n : Nat} (hi : i < 16) (h8 : 8 ≤ i) (hn : n < 65536) (h : AHeap) (m : Nat) :
    iterK bot (m + 1) (ref03_Times_l0b K D j) (n : Int) (i : Int) h = iterK bot m (ref03_Times_l0b K D j) (rdS i n : Nat) ((i : Int) - 1) h := by
  rw [iterK, ref03_Times_l0b, if_pos (by simp; omega), joinK, if_pos (by omega)]
  rw [bit64 (by omega) (by omega)]
  dsimp only
  have w1 : IntKind.wrap .i64 ((i : Int) - 8) = ((i - 8 : Nat) : Int) := by rw [w64 _ (by omega)]; omega
  have w2 : IntKind.wrap .i64 ((i : Int) - 1) = (i : Int) - 1 := w64 _ (by omega)
  rw [w1, w2]
  have hp : 2 ^ (i - 8) ≤ 2 ^ 7 := Nat.pow_le_pow_right (by decide) (by omega)
  have hs := shl64 (a := 391) (i := i - 8) (by omega) (by omega)
  rw [show ((391 : Nat) : Int) = 391 from rfl] at hs
  rw [hs]
  simp only [rdS]
  by_cases c : n.testBit i = true
  · simp only [c, if_true]
    rw [if_pos (by simp), if_pos (by omega), xor64 (by omega) (by omega)]
  · rw [Bool.not_eq_true] at c
    simp only [c, Bool.false_eq_true, if_false]
    rw [if_neg (by simp)]

theorem times_l0 {K : Nat} (D : CallF) (j) (h : AHeap) (hK : 9 ≤ K) {n : Nat} (hn : n < 65536) : ref03_Times_l0 K D j (n : Int) 15 h = j (redN n : Nat) h := by
  obtain ⟨k', rfl⟩ : ∃ k', K = 8 + 1 + k' := ⟨K - 9, by omega⟩
  rw [ref03_Times_l0, iterK_add]
  have a1 := rdS_lt (i := 15) (by omega) hn
  have a2 := rdS_lt (i := 14) (by omega) a1
  have a3 := rdS_lt (i := 13) (by omega) a2
  have a4 := rdS_lt (i := 12) (by omega) a3
  have a5 := rdS_lt (i := 11) (by omega) a4
  have a6 := rdS_lt (i := 10) (by omega) a5
  have a7 := rdS_lt (i := 9) (by omega) a6
  refine (times_l0_step _ D j _ (i := 15) (by omega) (by omega) hn h 8).trans ?_
  refine (times_l0_step _ D j _ (i := 14) (by omega) (by omega) a1 h 7).trans ?_
  refine (times_l0_step _ D j _ (i := 13) (by omega) (by omega) a2 h 6).trans ?_
  refine (times_l0_step _ D j _ (i := 12) (by omega) (by omega) a3 h 5).trans ?_
  refine (times_l0_step _ D j _ (i := 11) (by omega) (by omega) a4 h 4).trans ?_
  refine (times_l0_step _ D j _ (i := 10) (by omega) (by omega) a5 h 3).trans ?_
  refine (times_l0_step _ D j _ (i := 9) (by omega) (by omega) a6 h 2).trans ?_
  refine (times_l0_step _ D j _ (i := 8) (by omega) (by omega) a7 h 1).trans ?_
  rw [iterK, ref03_Times_l0b, if_neg (by simp)]
  rfl

theorem times_l1 (K : Nat) (D : CallF) (j) (bot) {a b : Nat} (ha : a < 256) (hb : b < 256) (h : AHeap) : ∀ (m i n : Nat), i + m = 8 → n < 65536 → redN n = mulT a (b % 2 ^ i) →
    ∃ n', n' < 65536 ∧ redN n' = mulT a b ∧ iterK bot (m + 1) (ref03_Times_l1b K D j) (a : Int) (b : Int) (n : Int) (i : Int) h = j (n' : Nat) h
  | 0, i, n, hi, hn, hr => by
    obtain rfl : i = 8 := by omega
    refine ⟨n, hn, ?_, ?_⟩
    · rw [hr, Nat.mod_eq_of_lt hb]
    · rw [iterK, ref03_Times_l1b, if_neg (by simp)]
  | m + 1, i, n, hi, hn, hr => by
    have hp : 2 ^ i ≤ 2 ^ 7 := Nat.pow_le_pow_right (by decide) (by omega)
    have hlt : a * 2 ^ i < 65536 := Nat.lt_of_le_of_lt (Nat.mul_le_mul (Nat.le_of_lt ha) hp) (by omega)
    have hb1 := bit_mod i (by omega) b hb
    rw [iterK, ref03_Times_l1b, if_pos (by simp; omega), joinK, if_pos (by omega), bit64 (by omega) (by omega)]
    dsimp only
    have w1 : IntKind.wrap .i64 ((i : Int) + 1) = ((i + 1 : Nat) : Int) := by rw [w64 _ (by omega)]; omega
    rw [w1, shl64 (by omega) (by omega)]
    by_cases c : b.testBit i = true
    · simp only [c, if_true] at hb1 ⊢
      have hx : n ^^^ (a * 2 ^ i) < 65536 := Nat.xor_lt_two_pow (n := 16) hn hlt
      obtain ⟨n', h1, h2, h3⟩ := times_l1 K D j bot ha hb h m (i + 1) (n ^^^ (a * 2 ^ i)) (by omega) hx (by
        have q : b % 2 ^ i < 256 := Nat.lt_of_le_of_lt (Nat.mod_le _ _) hb
        rw [redN_xor, hr, red_bit i (by omega) a ha, hb1, mulT_xor q (by omega)])
      refine ⟨n', h1, h2, ?_⟩
      rw [if_pos (by simp), if_pos (by omega), xor64 (by omega) (by omega)]
      exact h3
    · rw [Bool.not_eq_true] at c
      simp only [c, Bool.false_eq_true, if_false] at hb1 ⊢
      obtain ⟨n', h1, h2, h3⟩ := times_l1 K D j bot ha hb h m (i + 1) n (by omega) hn (by rw [hr, hb1])
      refine ⟨n', h1, h2, ?_⟩
      rw [if_neg (by simp)]
      exact h3

theorem rtimes_spec {k : Nat} (hk : 9 ≤ k) (D : CallF) {a b : Nat} (ha : a < 256) (hb : b < 256) (h : AHeap) : ref03_Times k D (a : Int) (b : Int) h = some ((mulT a b : Int), h) := by
  unfold ref03_Times joinK ref03_Times_l1
  obtain ⟨k', hk'⟩ : ∃ k', k = 8 + 1 + k' := ⟨k - 9, by omega⟩
  obtain ⟨n', h1, h2, h3⟩ := times_l1 k D (fun n1 h2 => ref03_Times_l0 k D (fun n4 h5 => some (n4, h5)) n1 15 h2) (iterK (fun _ _ _ _ _ => none) k' (ref03_Times_l1b k D (fun n1 h2 => ref03_Times_l0 k D (fun n4 h5 => some (n4, h5)) n1 15 h2))) ha hb h 8 0 0 (by omega) (by omega) (by simp [Nat.mod_one, mulT_comm a 0, mulT_zero]; decide)
  have e := h3
  rw [← iterK_add, ← hk'] at e
  refine e.trans ?_
  rw [times_l0 D _ h hk h1, h2]
end Gy

/-! The document's quotients, powers, logarithms; the field's, of any numbers. -/
namespace Gy
open Go Gx Go.Proofs

theorem ris_spec (k : Nat) (D : CallF) (x : Int) (h : AHeap) : ref03_is k D x h = some (inR x, h) := by
  unfold ref03_is inR
  by_cases h1 : x < 0
  · simp [h1, show ¬ (0 ≤ x) by omega]
  · simp only [h1, show (x ≥ 0) by omega, decide_false, decide_true, if_true, Bool.false_or]
    by_cases h2 : x < 256
    · simp [h2, show ¬ 256 ≤ x by omega]
    · simp [h2, show 256 ≤ x by omega]

theorem div_mul {q b : Nat} (hq : q < 256) (hb : b < 256) (b0 : b ≠ 0) : divT (mulT q b) b = q := by
  by_cases q0 : q = 0
  · subst q0; rw [mulT_zero]; rfl
  · unfold divT
    rw [if_neg (mulT_ne q0 b0), lg_mulT q0 b0]
    have l1 := lg_lt q hq
    have l2 := lg_lt b hb
    have : ((lg q + lg b) % 255 + 255 - lg b) % 255 = lg q := by omega
    rw [this, ex_lg q hq (by omega)]

/-- what both answer -/
def mulA (x y : Int) : Int × Int := if inR x && inR y then ((mulT x.toNat y.toNat : Nat), 0) else (0, 1)
def divA (x y : Int) : Int × Int := if inR x && inR y then (if y = 0 then (0, 30) else ((divT x.toNat y.toNat : Nat), 0)) else (0, 1)
def powA (x n : Int) : Int × Int := if inR x && !decide (n < 0) then ((powT x.toNat n.toNat : Nat), 0) else (0, 1)
def logA (x : Int) : Int × Int := if inR x then (if x = 0 then (0, 30) else ((lg x.toNat : Nat), 0)) else (0, 1)

theorem rmul_spec {k : Nat} (hk : 256 ≤ k) (D : CallF) (x y : Int) (h : AHeap) : ref03_Mul k D x y h = some (mulA x y, h) := by
  unfold ref03_Mul joinK
  simp only [ris_spec, Option.bind_some]
  unfold mulA
  cases hx : inR x with
  | false => simp
  | true =>
    cases hy : inR y with
    | false => simp
    | true =>
      obtain ⟨a, rfl, ha⟩ := inR_iff.1 hx
      obtain ⟨b, rfl, hb⟩ := inR_iff.1 hy
      simp [rtimes_spec (show 9 ≤ k by omega) D ha hb]

theorem over_loop (K : Nat) (hK : 9 ≤ K) (D : CallF) (j) (bot) {a b : Nat} (ha : a < 256) (hb : b < 256) (b0 : b ≠ 0) (h : AHeap) : ∀ (m q : Nat), q + m = divT a b →
    iterK bot (m + 1) (ref03_Over_l0b K D j) (a : Int) (b : Int) (q : Int) h = some ((divT a b : Int), h)
  | 0, q, hq => by
    obtain rfl : q = divT a b := by omega
    rw [iterK, ref03_Over_l0b, if_pos (by have := divT_lt (x := a) (y := b); simp; omega), rtimes_spec hK D divT_lt hb, mul_div ha hb b0]
    simp
  | m + 1, q, hq => by
    have hlt := divT_lt (x := a) (y := b)
    rw [iterK, ref03_Over_l0b, if_pos (by simp; omega), rtimes_spec hK D (by omega) hb]
    simp only [Option.bind_some]
    have ne : mulT q b ≠ a := fun e => by
      have := div_mul (q := q) (by omega) hb b0
      rw [e] at this; omega
    rw [if_neg (by simp; omega), w64 _ (by omega)]
    exact over_loop K hK D j bot ha hb b0 h m (q + 1) (by omega)

theorem rdiv_spec {k : Nat} (hk : 256 ≤ k) (D : CallF) (x y : Int) (h : AHeap) : ref03_Div k D x y h = some (divA x y, h) := by
  unfold ref03_Div joinK
  simp only [ris_spec, Option.bind_some]
  unfold divA
  cases hx : inR x with
  | false => simp
  | true =>
    cases hy : inR y with
    | false => simp
    | true =>
      obtain ⟨a, rfl, ha⟩ := inR_iff.1 hx
      obtain ⟨b, rfl, hb⟩ := inR_iff.1 hy
      by_cases b0 : b = 0
      · subst b0; simp
      · have : ref03_Over k D (a : Int) (b : Int) h = some ((divT a b : Int), h) := by
          unfold ref03_Over joinK ref03_Over_l0
          have hlt := divT_lt (x := a) (y := b)
          obtain ⟨k', hk'⟩ : ∃ k', k = divT a b + 1 + k' := ⟨k - (divT a b + 1), by omega⟩
          have := over_loop k (by omega) D (fun h1 => some (0, h1)) (iterK (fun _ _ _ _ => none) k' (ref03_Over_l0b k D fun h1 => some (0, h1))) ha hb b0 h (divT a b) 0 (by omega)
          rw [← iterK_add, ← hk'] at this
          exact this
        simp [b0, this]

theorem powT_zero (x : Nat) : powT x 0 = 1 := by simp [powT]
theorem powT_z {n : Nat} (h : n ≠ 0) : powT 0 n = 0 := by simp [powT, h]
theorem powT_one {x : Nat} (hx : x < 256) : powT x 1 = x := by
  by_cases h : x = 0
  · subst h; rfl
  · rw [powT_ne h, Nat.mod_eq_of_lt (show 1 < 255 by omega), Nat.mul_one, Nat.mod_eq_of_lt (lg_lt x hx), ex_lg x hx (by omega)]
theorem powT_sq {x n : Nat} (h : x ≠ 0) : powT (mulT x x) n = powT x (2 * n) := by
  rw [powT_ne (mulT_ne h h), powT_ne h, lg_mulT h h]
  congr 1
  rw [← Nat.mul_mod, Nat.mul_mod (lg x) (2 * n % 255), Nat.mod_mod, ← Nat.mul_mod]
  congr 1
  rw [← Nat.two_mul, Nat.mul_comm 2 (lg x), Nat.mul_assoc]
theorem pow_step {a n out : Nat} (ha : a < 256) (hn : n ≠ 0) : mulT (if n % 2 = 1 then mulT out a else out) (powT (mulT a a) (n / 2)) = mulT out (powT a n) := by
  by_cases a0 : a = 0
  · subst a0
    rw [powT_z hn, mulT_zero, mulT_comm out 0, mulT_zero]
    by_cases c : n % 2 = 1
    · rw [if_pos c, mulT_zero]
    · rw [if_neg c, powT_z (by omega), mulT_comm out 0, mulT_zero]
  · rw [powT_sq a0]
    by_cases c : n % 2 = 1
    · rw [if_pos c, mulT_assoc]
      congr 1
      have := powT_add (m := 1) (n := 2 * (n / 2)) a0
      rw [powT_one ha] at this
      rw [this]
      congr 1; omega
    · rw [if_neg c]
      congr 2; omega

theorem pow_loop (K : Nat) (hK : 9 ≤ K) (D : CallF) (j) (bot) (h : AHeap) : ∀ (m a n out : Nat), a < 256 → out < 256 → n < 2 ^ m → n < 2 ^ 63 →
    iterK bot (m + 1) (ref03_Pow_l0b K D j) (a : Int) (n : Int) (out : Int) h = j (mulT out (powT a n) : Nat) h
  | 0, a, n, out, ha, ho, hm, _ => by
    obtain rfl : n = 0 := by simp at hm; omega
    rw [iterK, ref03_Pow_l0b, if_neg (by simp), powT_zero, mulT_one ho]
  | m + 1, a, n, out, ha, ho, hm, hn => by
    by_cases n0 : n = 0
    · subst n0
      rw [iterK, ref03_Pow_l0b, if_neg (by simp), powT_zero, mulT_one ho]
    · rw [iterK, ref03_Pow_l0b, if_pos (by simp; omega), joinK]
      have ih := fun out ho => pow_loop K hK D j bot h m (mulT a a) (n / 2) out (mulT_lt _ _) ho (by rw [Nat.pow_succ] at hm; omega) (by omega)
      have st := pow_step (out := out) ha n0
      have t1 : Int.tmod (n : Int) 2 = ((n % 2 : Nat) : Int) := by rw [Int.tmod_eq_emod_of_nonneg (by omega)]; omega
      have t2 : IntKind.wrap .i64 (Int.tdiv (n : Int) 2) = ((n / 2 : Nat) : Int) := by
        rw [Int.tdiv_eq_ediv_of_nonneg (by omega), w64 _ (by omega)]; omega
      rw [t1]
      by_cases c : n % 2 = 1
      · rw [if_pos c] at st
        rw [if_pos (by simp; omega), rtimes_spec hK D ho ha]
        simp only [Option.bind_some]
        rw [rtimes_spec hK D ha ha]
        simp only [Option.bind_some]
        rw [t2, ih _ (mulT_lt _ _), st]
      · rw [if_neg c] at st
        rw [if_neg (by simp; omega)]
        dsimp only
        rw [rtimes_spec hK D ha ha]
        simp only [Option.bind_some]
        rw [t2, ih _ ho, st]

theorem mulT_one' {a : Nat} (ha : a < 256) : mulT 1 a = a := by rw [mulT_comm, mulT_one ha]
theorem powT_lt' {x n : Nat} (hx : x < 256) : powT x n < 256 := by
  by_cases h : x = 0
  · subst h
    by_cases n0 : n = 0
    · subst n0; decide
    · rw [powT_z n0]; omega
  · exact (powT_lt h).1
theorem rpow_spec {k : Nat} (hk : 256 ≤ k) (D : CallF) (x n : Int) (hn : n < 9223372036854775808) (h : AHeap) : ref03_Pow k D x n h = some (powA x n, h) := by
  unfold ref03_Pow joinK
  simp only [ris_spec, Option.bind_some]
  unfold powA
  cases hx : inR x with
  | false => simp
  | true =>
    by_cases n0 : n < 0
    · simp [n0]
    · obtain ⟨a, rfl, ha⟩ := inR_iff.1 hx
      obtain ⟨m, rfl⟩ : ∃ m : Nat, n = m := ⟨n.toNat, by omega⟩
      have : ref03_Pow_l0 k D (fun out6 h7 => some ((out6, 0), h7)) (a : Int) (m : Int) 1 h = some (((powT a m : Int), 0), h) := by
        unfold ref03_Pow_l0
        obtain ⟨k', hk'⟩ : ∃ k', k = 63 + 1 + k' := ⟨k - 64, by omega⟩
        have := pow_loop k (by omega) D (fun out6 h7 => some ((out6, 0), h7)) (iterK (fun _ _ _ _ => none) k' (ref03_Pow_l0b k D fun out6 h7 => some ((out6, 0), h7))) h 63 a m 1 ha (by omega) (by omega) (by omega)
        rw [← iterK_add, ← hk', mulT_one' (powT_lt' ha)] at this
        exact this
      simp [n0, this]

theorem log_loop (K : Nat) (hK : 9 ≤ K) (D : CallF) (j) (bot) {a : Nat} (ha : a < 256) (a0 : a ≠ 0) (h : AHeap) : ∀ (m n : Nat), n + m = lg a →
    iterK bot (m + 1) (ref03_Log_l0b K D j) (a : Int) (ex n : Nat) (n : Int) h = some (((lg a : Int), 0), h)
  | 0, n, hn => by
    obtain rfl : n = lg a := by omega
    have := lg_lt a ha
    rw [iterK, ref03_Log_l0b, if_pos (by simp; omega), if_pos (by rw [ex_lg a ha (by omega)]; simp)]
  | m + 1, n, hn => by
    have := lg_lt a ha
    have ne : ex n ≠ a := fun e => by
      have := lg_ex n (by omega)
      rw [e] at this; omega
    rw [iterK, ref03_Log_l0b, if_pos (by simp; omega), if_neg (by simp; omega)]
    have e := (ex_lt n (by omega)).2
    have t := rtimes_spec hK D e (show 2 < 256 by omega) h
    have e2 : mulT (ex n) 2 = ex (n + 1) := by
      have := mulT_ex (i := n) (j := 1) (by omega) (by omega)
      rw [show ex 1 = 2 from rfl, Nat.mod_eq_of_lt (by omega)] at this
      exact this
    rw [e2] at t
    have t' : ref03_Times K D (ex n : Nat) 2 h = some ((ex (n + 1) : Int), h) := t
    rw [t']
    simp only [Option.bind_some]
    rw [w64 _ (by omega)]
    exact log_loop K hK D j bot ha a0 h m (n + 1) (by omega)

theorem rlog_spec {k : Nat} (hk : 256 ≤ k) (D : CallF) (x : Int) (h : AHeap) : ref03_Log k D x h = some (logA x, h) := by
  unfold ref03_Log joinK
  simp only [ris_spec, Option.bind_some]
  unfold logA
  cases hx : inR x with
  | false => simp
  | true =>
    obtain ⟨a, rfl, ha⟩ := inR_iff.1 hx
    by_cases a0 : a = 0
    · subst a0; simp
    · have : ref03_Log_l0 k D (fun h2 => some ((0, 0), h2)) (a : Int) 1 0 h = some (((lg a : Int), 0), h) := by
        unfold ref03_Log_l0
        have hlt := lg_lt a ha
        obtain ⟨k', hk'⟩ : ∃ k', k = lg a + 1 + k' := ⟨k - (lg a + 1), by omega⟩
        have := log_loop k (by omega) D (fun h2 => some ((0, 0), h2)) (iterK (fun _ _ _ _ => none) k' (ref03_Log_l0b k D fun h2 => some ((0, 0), h2))) ha a0 h (lg a) 0 (by omega)
        rw [← iterK_add, ← hk'] at this
        exact this
      simp [a0, this]

/-! ### the field's, of any numbers -/
theorem fmul_any {k : Nat} (hk : 256 ≤ k) {h : AHeap} {b : Nat} (hf : Fld h b) (hb : b < h.next) (x y : Int) :
    ∃ h', field_Field_Mul k (DD k) (some ⟨b, 0, none⟩) x y h = some (mulA x y, h') ∧ FS b h h' := by
  cases hr : inR x && inR y with
  | true =>
    simp only [Bool.and_eq_true] at hr
    obtain ⟨m, rfl, hm⟩ := inR_iff.1 hr.1
    obtain ⟨n, rfl, hn⟩ := inR_iff.1 hr.2
    obtain ⟨h', e, s⟩ := mul_spec hk hf hb hm hn
    exact ⟨h', by rw [e, mulA, hr.1, hr.2]; rfl, s⟩
  | false =>
    refine ⟨_, ?_, FS.new hf hb (.cells [.int .i64 x, .int .i64 y] 3 true 0)⟩
    simp only [field_Field_Mul, mulA]
    rw [is2 hk, hr]
    rfl
theorem fdiv_any {k : Nat} (hk : 256 ≤ k) {h : AHeap} {b : Nat} (hf : Fld h b) (hb : b < h.next) (x y : Int) :
    ∃ h', field_Field_Div k (DD k) (some ⟨b, 0, none⟩) x y h = some (divA x y, h') ∧ FS b h h' := by
  cases hr : inR x && inR y with
  | true =>
    simp only [Bool.and_eq_true] at hr
    obtain ⟨m, rfl, hm⟩ := inR_iff.1 hr.1
    obtain ⟨n, rfl, hn⟩ := inR_iff.1 hr.2
    obtain ⟨h', e, s⟩ := div_spec hk hf hb hm hn
    refine ⟨h', ?_, s⟩
    rw [e, divA, hr.1, hr.2]
    by_cases n0 : n = 0
    · simp [n0]
    · simp [n0]
  | false =>
    refine ⟨_, ?_, FS.new hf hb (.cells [.int .i64 x, .int .i64 y] 3 true 0)⟩
    simp only [field_Field_Div, divA]
    rw [is2 hk, hr]
    rfl
theorem flog_any {k : Nat} (hk : 256 ≤ k) {h : AHeap} {b : Nat} (hf : Fld h b) (hb : b < h.next) (x : Int) :
    ∃ h', field_Field_Log k (DD k) (some ⟨b, 0, none⟩) x h = some (logA x, h') ∧ FS b h h' := by
  cases hr : inR x with
  | true =>
    obtain ⟨m, rfl, hm⟩ := inR_iff.1 hr
    by_cases m0 : m = 0
    · subst m0
      refine ⟨_, ?_, FS.new hf hb (.cells [.int .i64 (0 : Nat)] 3 true 0)⟩
      simp only [field_Field_Log, logA]
      rw [is1 hk, hr]
      rfl
    · obtain ⟨h', e, s⟩ := log_spec hk hf hb hm m0
      exact ⟨h', by rw [e, logA, hr]; simp [m0], s⟩
  | false =>
    refine ⟨_, ?_, FS.new hf hb (.cells [.int .i64 x] 3 true 0)⟩
    simp only [field_Field_Log, logA]
    rw [is1 hk, hr]
    rfl
theorem fpow_any {k : Nat} (hk : 256 ≤ k) {h : AHeap} {b : Nat} (hf : Fld h b) (hb : b < h.next) (x n : Int) (hn : n < 9223372036854775808) :
    ∃ h', field_Field_Pow k (DD k) (some ⟨b, 0, none⟩) x n h = some (powA x n, h') ∧ FS b h h' := by
  cases hr : inR x && !decide (n < 0) with
  | true =>
    simp only [Bool.and_eq_true, Bool.not_eq_true', decide_eq_false_iff_not] at hr
    obtain ⟨m, rfl, hm⟩ := inR_iff.1 hr.1
    obtain ⟨p, rfl⟩ : ∃ p : Nat, n = p := ⟨n.toNat, by omega⟩
    obtain ⟨h', e, s⟩ := pow_spec0 hk hf hb hm (n := p)
    refine ⟨h', ?_, s⟩
    rw [e, powA, hr.1]
    simp
  | false =>
    refine ⟨_, ?_, FS.new hf hb (.cells [.int .i64 x] 3 true 0)⟩
    simp only [field_Field_Pow, powA, joinK]
    rw [is1 hk, hr]
    cases hx : inR x with
    | false => rfl
    | true =>
      rw [hx] at hr
      simp only [Bool.true_and, Bool.not_eq_false', decide_eq_true_eq] at hr
      simp [hr]
end Gy

/-! Sums of texts; texts times an element. -/
namespace Gy
open Go Gx Go.Proofs

def addL (a b : List UInt8) : List UInt8 := List.zipWith (· ^^^ ·) a b
def scaleL (c : Nat) (l : List UInt8) : List UInt8 := l.map fun x => UInt8.ofNat (mulT x.toNat c)
def addA (a b : ByteArray) : ByteArray × Int := if a.size = b.size then (⟨⟨addL (bl a) (bl b)⟩⟩, 0) else (⟨#[]⟩, 4)
def scaleA (s : ByteArray) (c : Int) : ByteArray × Int := if inR c then (⟨⟨scaleL c.toNat (bl s)⟩⟩, 0) else (⟨#[]⟩, 1)

theorem range_zip {a b : List UInt8} (h : a.length = b.length) : (List.range a.length).map (fun i => (a[i]?.getD 0) ^^^ (b[i]?.getD 0)) = addL a b := by
  apply List.ext_getElem?
  intro i
  simp only [addL, List.getElem?_map, List.getElem?_zipWith]
  by_cases hi : i < a.length
  · simp [hi, show i < b.length by omega]
  · simp [hi]
theorem range_map {a : List UInt8} (f : UInt8 → UInt8) : (List.range a.length).map (fun i => f (a[i]?.getD 0)) = a.map f := by
  apply List.ext_getElem?
  intro i
  simp only [List.getElem?_map]
  by_cases hi : i < a.length
  · simp [hi]
  · simp [hi]
theorem xor_u8 (x y : UInt8) : Go.bits .xor .u8 (x.toNat : Int) (y.toNat : Int) = (((x ^^^ y).toNat : Nat) : Int) := by
  rw [xor8 x.toNat_lt y.toNat_lt, UInt8.toNat_xor]
theorem u8_lt (x : UInt8) : x.toNat < 256 := x.toNat_lt

theorem stB {h : AHeap} {b i : Nat} {sp : Option Nat} {l : List UInt8} {e : TypeId} (x : UInt8) (hi : i < l.length) :
    st1 ⟨b, i, sp⟩ (.int .u8 (x.toNat : Int)) (h.set b (outB encB e l)) = some (h.set b (outB encB e (l.set i x))) := by
  rw [stB_out get_out hi (u8_lt x), UInt8.ofNat_toNat]
  exact congrArg some set_out


theorem getD_of {α : Type} {l : List α} {i : Nat} {x d : α} (h : l[i]? = some x) : l[i]?.getD d = x := by rw [h]; rfl
theorem isome {α : Type} {l : List α} {i : Nat} (h : i < l.length) : ∃ x, l[i]? = some x := ⟨l[i], by simp [h]⟩

theorem fadd_loop (k : Nat) (D : CallF) (J : Slc → AHeap → Option ((ByteArray × Int) × AHeap)) (a b : ByteArray) (B : Nat) (sp : Option Nat) (h : AHeap) (hk : a.size < k) (hs : a.size < 9223372036854775807) (hab : a.size = b.size)
    (hb : h.get B = some (outB encB 5 (bl a))) : field_Add_l0 k D J b ⟨some ⟨B, 0, sp⟩, a.size, a.size⟩ (a.size : Int) 0 h = J ⟨some ⟨B, 0, sp⟩, a.size, a.size⟩ (h.set B (outB encB 5 (addL (bl a) (bl b)))) := by
  unfold field_Add_l0
  obtain ⟨bot, hbot⟩ := iterK_of (fun _ _ _ _ _ => none) (field_Add_l0b k D J) (show a.size + 1 ≤ k by omega)
  rw [hbot]
  have key := fill0 encB 5 B (fun i => ((bl a)[i]?.getD 0) ^^^ ((bl b)[i]?.getD 0)) (bl a) h hb
    (fun m i h => iterK bot (m + 1) (field_Add_l0b k D J) b ⟨some ⟨B, 0, sp⟩, a.size, a.size⟩ (a.size : Int) (i : Int) h) (fun h => J ⟨some ⟨B, 0, sp⟩, a.size, a.size⟩ h)
    (fun m i l hi hl hlk => by
      rw [bl_length] at hi hl
      obtain ⟨x, hx⟩ := isome (l := bl a) (i := i) (by rw [bl_length]; omega)
      obtain ⟨y, hy⟩ := isome (l := bl b) (i := i) (by rw [bl_length]; omega)
      rw [iterK_s, field_Add_l0b]
      refine ifp (by simp; omega) ?_
      refine bnd (idxL_out (by omega)) ?_
      refine bnd (rdB_out get_out ((hlk i (Nat.le_refl _)).trans hx)) ?_
      refine bnd (idxS_of hy) ?_
      refine bnd (idxL_out (by omega)) ?_
      rw [xor_u8]
      refine bnd (stB (x ^^^ y) (by omega)) ?_
      rw [w64 _ (by omega), getD_of hx, getD_of hy]
      rfl)
    (fun h => by
      rw [bl_length]
      show iterK bot (0 + 1) _ _ _ _ _ _ = _
      rw [iterK_s, field_Add_l0b]
      exact ifn (by simp) rfl)
  rw [range_zip (by rw [bl_length, bl_length]; exact hab), bl_length] at key
  exact key
theorem addL_length {a b : ByteArray} (hab : a.size = b.size) : (addL (bl a) (bl b)).length = a.size := by simp [addL, bl_length, hab]

theorem new_out {S : Nat → Prop} {h : AHeap} {b : Nat} (B C : ABlk) (hb : b = h.next) : Chg S h ((h.new B).set b C) := by
  subst hb
  exact (Chg.new h B).beh (T := fun x => x = h.next) (.set (.inr rfl)) fun x hx e => by omega
theorem fadd_spec {k : Nat} (D : CallF) (a b : ByteArray) (h : AHeap) (hk : a.size < k) (hs : a.size < 9223372036854775807) : ∃ h', field_Add k D a b h = some (addA a b, h') ∧ Keeps h h' := by
  unfold addA field_Add
  by_cases hab : a.size = b.size
  · refine ⟨(h.new (.cells (bytesL a) 5 true 0)).set h.next (outB encB 5 (addL (bl a) (bl b))), ?_, new_out _ _ rfl⟩
    refine ifn (by simp [hab]) ?_
    refine jn ?_
    rw [fadd_loop k D _ a b h.next (some 2) (h.new (.cells (bytesL a) 5 true 0)) hk hs hab (by simp [outB, bytesL_bl])]
    have := bytesOf_out (cap := a.size) (sp := some 2) (get_out (enc := encB) (e := 5) (l := addL (bl a) (bl b)) (h := h.new (.cells (bytesL a) 5 true 0)) (B := h.next))
    rw [addL_length hab] at this
    refine bnd this ?_
    rw [if_pos hab]
  · refine ⟨h, ?_, .refl _ _⟩
    refine ifp (by simp; omega) ?_
    rw [if_neg hab]

theorem radd_loop (k : Nat) (D : CallF) (J : Slc → AHeap → Option ((ByteArray × Int) × AHeap)) (a b : ByteArray) (B : Nat) (sp : Option Nat) (h : AHeap) (hk : a.size < k) (hs : a.size < 9223372036854775807) (hab : a.size = b.size)
    (hb : h.get B = some (outB encB 5 (List.replicate a.size 0))) : ref03_Add_l0 k D J a b ⟨some ⟨B, 0, sp⟩, a.size, a.size⟩ 0 h = J ⟨some ⟨B, 0, sp⟩, a.size, a.size⟩ (h.set B (outB encB 5 (addL (bl a) (bl b)))) := by
  unfold ref03_Add_l0
  obtain ⟨bot, hbot⟩ := iterK_of (fun _ _ _ _ _ => none) (ref03_Add_l0b k D J) (show a.size + 1 ≤ k by omega)
  rw [hbot]
  have key := fill0 encB 5 B (fun i => ((bl a)[i]?.getD 0) ^^^ ((bl b)[i]?.getD 0)) (List.replicate a.size 0) h hb
    (fun m i h => iterK bot (m + 1) (ref03_Add_l0b k D J) a b ⟨some ⟨B, 0, sp⟩, a.size, a.size⟩ (i : Int) h) (fun h => J ⟨some ⟨B, 0, sp⟩, a.size, a.size⟩ h)
    (fun m i l hi hl hlk => by
      rw [List.length_replicate] at hi hl
      obtain ⟨x, hx⟩ := isome (l := bl a) (i := i) (by rw [bl_length]; omega)
      obtain ⟨y, hy⟩ := isome (l := bl b) (i := i) (by rw [bl_length]; omega)
      rw [iterK_s, ref03_Add_l0b]
      refine ifp (by simp; omega) ?_
      refine bnd (idxS_of hx) ?_
      refine bnd (idxS_of hy) ?_
      refine bnd (idxL_out (by omega)) ?_
      rw [xor_u8]
      refine bnd (stB (x ^^^ y) (by omega)) ?_
      rw [w64 _ (by omega), getD_of hx, getD_of hy]
      rfl)
    (fun h => by
      rw [List.length_replicate]
      show iterK bot (0 + 1) _ _ _ _ _ _ = _
      rw [iterK_s, ref03_Add_l0b]
      exact ifn (by simp) rfl)
  have e := range_zip (a := bl a) (b := bl b) (by rw [bl_length, bl_length]; exact hab)
  rw [bl_length] at e
  rw [List.length_replicate, e] at key
  exact key

theorem zeros_out {h : AHeap} {n : Nat} {e : TypeId} : (h.new (.cells (zerosL n [.int .u8 0]) e true 0)).get h.next = some (outB encB e (List.replicate n 0)) := by
  simp [outB, zeros_bytes]
theorem radd_spec {k : Nat} (D : CallF) (a b : ByteArray) (h : AHeap) (hk : a.size < k) (hs : a.size ≤ 281474976710656) : ∃ h', ref03_Add k D a b h = some (addA a b, h') ∧ Keeps h h' := by
  unfold addA ref03_Add
  by_cases hab : a.size = b.size
  · refine ⟨(h.new (.cells (zerosL a.size [.int .u8 0]) 5 true 0)).set h.next (outB encB 5 (addL (bl a) (bl b))), ?_, new_out _ _ rfl⟩
    refine ifn (by simp [hab]) ?_
    refine ifp (by omega) ?_
    refine jn ?_
    rw [Int.toNat_natCast]
    rw [radd_loop k D _ a b h.next (some 0) (h.new (.cells (zerosL a.size [.int .u8 0]) 5 true 0)) hk (by omega) hab zeros_out]
    have := bytesOf_out (cap := a.size) (sp := some 0) (get_out (enc := encB) (e := 5) (l := addL (bl a) (bl b)) (h := h.new (.cells (zerosL a.size [.int .u8 0]) 5 true 0)) (B := h.next))
    rw [addL_length hab] at this
    refine bnd this ?_
    rw [if_pos hab]
  · refine ⟨h, ?_, .refl _ _⟩
    refine ifp (by simp; omega) ?_
    rw [if_neg hab]

/-! ### times an element -/
theorem by_loop (k : Nat) (D : CallF) (J : Slc → AHeap → Option (ByteArray × AHeap)) (s : ByteArray) (c : Nat) (hc : c < 256) (B : Nat) (sp : Option Nat) (h : AHeap) (hk : s.size < k) (hk9 : 9 ≤ k) (hs : s.size < 9223372036854775807)
    (hb : h.get B = some (outB encB 5 (List.replicate s.size 0))) : ref03_By_l0 k D J s c ⟨some ⟨B, 0, sp⟩, s.size, s.size⟩ 0 h = J ⟨some ⟨B, 0, sp⟩, s.size, s.size⟩ (h.set B (outB encB 5 (scaleL c (bl s)))) := by
  unfold ref03_By_l0
  obtain ⟨bot, hbot⟩ := iterK_of (fun _ _ _ _ _ => none) (ref03_By_l0b k D J) (show s.size + 1 ≤ k by omega)
  rw [hbot]
  have key := fill0 encB 5 B (fun i => UInt8.ofNat (mulT ((bl s)[i]?.getD 0).toNat c)) (List.replicate s.size 0) h hb
    (fun m i h => iterK bot (m + 1) (ref03_By_l0b k D J) s c ⟨some ⟨B, 0, sp⟩, s.size, s.size⟩ (i : Int) h) (fun h => J ⟨some ⟨B, 0, sp⟩, s.size, s.size⟩ h)
    (fun m i l hi hl hlk => by
      rw [List.length_replicate] at hi hl
      obtain ⟨x, hx⟩ := isome (l := bl s) (i := i) (by rw [bl_length]; omega)
      have hx1 := u8_lt x
      rw [iterK_s, ref03_By_l0b]
      refine ifp (by simp; omega) ?_
      refine bnd (idxS_of hx) ?_
      rw [w64 _ (by omega)]
      refine bnd (rtimes_spec hk9 D hx1 hc _) ?_
      refine bnd (idxL_out (by omega)) ?_
      have hm := mulT_lt x.toNat c
      rw [w8 _ (by omega)]
      have hu : ((mulT x.toNat c : Nat) : Int) = ((UInt8.ofNat (mulT x.toNat c)).toNat : Int) := by rw [UInt8.toNat_ofNat_of_lt' (by simpa using hm)]
      rw [hu]
      refine bnd (stB _ (by omega)) ?_
      rw [w64 _ (by omega), getD_of hx]
      rfl)
    (fun h => by
      rw [List.length_replicate]
      show iterK bot (0 + 1) _ _ _ _ _ _ = _
      rw [iterK_s, ref03_By_l0b]
      exact ifn (by simp) rfl)
  have e := range_map (a := bl s) (fun x => UInt8.ofNat (mulT x.toNat c))
  rw [bl_length] at e
  rw [List.length_replicate, e] at key
  exact key
theorem scaleL_length (c : Nat) (s : ByteArray) : (scaleL c (bl s)).length = s.size := by simp [scaleL, bl_length]
theorem by_spec {k : Nat} (D : CallF) (s : ByteArray) (c : Nat) (hc : c < 256) (h : AHeap) (hk : s.size < k) (hk9 : 9 ≤ k) (hs : s.size ≤ 281474976710656) : ∃ h', ref03_By k D s c h = some (⟨⟨scaleL c (bl s)⟩⟩, h') ∧ Keeps h h' := by
  unfold ref03_By
  refine ⟨(h.new (.cells (zerosL s.size [.int .u8 0]) 5 true 0)).set h.next (outB encB 5 (scaleL c (bl s))), ?_, new_out _ _ rfl⟩
  refine ifp (by omega) ?_
  refine jn ?_
  rw [Int.toNat_natCast]
  rw [by_loop k D _ s c hc h.next (some 0) (h.new (.cells (zerosL s.size [.int .u8 0]) 5 true 0)) hk hk9 (by omega) zeros_out]
  have := bytesOf_out (cap := s.size) (sp := some 0) (get_out (enc := encB) (e := 5) (l := scaleL c (bl s)) (h := h.new (.cells (zerosL s.size [.int .u8 0]) 5 true 0)) (B := h.next))
  rw [scaleL_length] at this
  exact bnd this rfl
theorem rscale_spec {k : Nat} (D : CallF) (s : ByteArray) (c : Int) (h : AHeap) (hk : s.size < k) (hk9 : 9 ≤ k) (hs : s.size ≤ 281474976710656) : ∃ h', ref03_Scale k D s c h = some (scaleA s c, h') ∧ Keeps h h' := by
  unfold ref03_Scale scaleA
  cases hr : inR c with
  | false =>
    exact ⟨h, bnd (ris_spec _ _ _ _) (by rw [hr]; rfl), .refl _ _⟩
  | true =>
    obtain ⟨n, rfl, hn⟩ := inR_iff.1 hr
    obtain ⟨h', e, kp⟩ := by_spec D s n hn h hk hk9 hs
    refine ⟨h', bnd (ris_spec _ _ _ _) ?_, kp⟩
    rw [hr]
    exact ifn (by simp) (bnd e rfl)

theorem fscale_loop (k : Nat) (D : CallF) (J : Slc → AHeap → Option ((ByteArray × Int) × AHeap)) (s : ByteArray) (c : Nat) (hc : c < 256) (B : Nat) (sp : Option Nat) (h : AHeap) (hk : s.size < k) (hs : s.size < 9223372036854775807)
    {b : Nat} {t : List Value} (hB : B ≠ b) (ht : h.get b = some (.cells t 97 true 0)) (hm : Made t)
    (hb : h.get B = some (outB encB 5 (bl s))) : field_Field_Scale_l0 k D J c ⟨some ⟨B, 0, sp⟩, s.size, s.size⟩ (some ⟨b, 3, none⟩) ⟨some ⟨B, 0, sp⟩, s.size, s.size⟩ s.size 0 h = J ⟨some ⟨B, 0, sp⟩, s.size, s.size⟩ (h.set B (outB encB 5 (scaleL c (bl s)))) := by
  unfold field_Field_Scale_l0
  obtain ⟨bot, hbot⟩ := iterK_of (fun _ _ _ _ _ _ _ => none) (field_Field_Scale_l0b k D J) (show s.size + 1 ≤ k by omega)
  rw [hbot]
  have key := fill0 encB 5 B (fun i => UInt8.ofNat (mulT ((bl s)[i]?.getD 0).toNat c)) (bl s) h hb
    (fun m i h => iterK bot (m + 1) (field_Field_Scale_l0b k D J) c ⟨some ⟨B, 0, sp⟩, s.size, s.size⟩ (some ⟨b, 3, none⟩) ⟨some ⟨B, 0, sp⟩, s.size, s.size⟩ s.size (i : Int) h) (fun h => J ⟨some ⟨B, 0, sp⟩, s.size, s.size⟩ h)
    (fun m i l hi hl hlk => by
      rw [bl_length] at hi hl
      obtain ⟨x, hx⟩ := isome (l := bl s) (i := i) (by rw [bl_length]; omega)
      have hx1 := u8_lt x
      rw [iterK_s, field_Field_Scale_l0b]
      refine ifp (by simp; omega) ?_
      refine bnd (idxL_out (by omega)) ?_
      refine bnd (rdB_out get_out ((hlk i (Nat.le_refl _)).trans hx)) ?_
      rw [w64 _ (by omega)]
      refine bnd (times_spec k D (c := t) (by rw [AHeap.get_set, if_neg (fun e => hB e.symm)]; exact ht) hm hx1 hc) ?_
      refine bnd (idxL_out (by omega)) ?_
      have hm := mulT_lt x.toNat c
      rw [w8 _ (by omega)]
      have hu : ((mulT x.toNat c : Nat) : Int) = ((UInt8.ofNat (mulT x.toNat c)).toNat : Int) := by rw [UInt8.toNat_ofNat_of_lt' (by simpa using hm)]
      rw [hu]
      refine bnd (stB _ (by omega)) ?_
      rw [w64 _ (by omega), getD_of hx]
      rfl)
    (fun h => by
      rw [bl_length]
      show iterK bot (0 + 1) _ _ _ _ _ _ _ _ = _
      rw [iterK_s, field_Field_Scale_l0b]
      exact ifn (by simp) rfl)
  rw [range_map (a := bl s) (fun x => UInt8.ofNat (mulT x.toNat c)), bl_length] at key
  exact key

theorem FS.chg {b : Nat} {h h' : AHeap} (s : FS b h h') : Chg (· = b) h h' := ⟨s.nx, fun x hx hb => s.oth x hx hb⟩
theorem fldchg {S : Nat → Prop} {h h' : AHeap} {b : Nat} (f : Fld h b) (hb : b < h.next) (c : Chg S h h') (hs : ¬ S b) : Fld h' b := by
  obtain ⟨t, h1, h2⟩ := f
  exact ⟨t, by rw [c.oth b hb hs]; exact h1, h2⟩
theorem Fld.keeps {b : Nat} {h h' : AHeap} (f : Fld h b) (hb : b < h.next) (c : Keeps h h') : Fld h' b := by
  obtain ⟨t, h1, h2⟩ := f
  exact ⟨t, by rw [c.oth b hb (fun f => f)]; exact h1, h2⟩
theorem FS.keeps {b : Nat} {h h' : AHeap} (f : Fld h b) (hb : b < h.next) (c : Keeps h h') : FS b h h' :=
  ⟨c.nx, fun x hx _ => c.oth x hx fun f => f, f.keeps hb c⟩
theorem FS.out {b : Nat} {h h' : AHeap} (f : FS b h h') {B : Nat} {C : ABlk} (hB : h.next ≤ B) (hne : B ≠ b) : FS b h (h'.set B C) :=
  ⟨f.nx, fun x hx hb => by rw [AHeap.get_set, if_neg (by omega)]; exact f.oth x hx hb, by
    obtain ⟨t, h1, h2⟩ := f.fld
    exact ⟨t, by rw [AHeap.get_set, if_neg (fun e => hne e.symm)]; exact h1, h2⟩⟩
theorem fscale_spec {k : Nat} (hk : 256 ≤ k) {h : AHeap} {b : Nat} (hf : Fld h b) (hb : b < h.next) (s : ByteArray) (c : Int) (hks : s.size < k) (hs : s.size ≤ 281474976710656) :
    ∃ h', field_Field_Scale k (DD k) (some ⟨b, 0, none⟩) s c h = some (scaleA s c, h') ∧ FS b h h' := by
  unfold field_Field_Scale scaleA
  have f1 := FS.new hf hb (.cells [.int .i64 c] 3 true 0)
  cases hr : inR c with
  | false =>
    exact ⟨_, bnd (is1 hk _ h c 3) (by rw [hr]; rfl), f1⟩
  | true =>
    obtain ⟨n, rfl, hn⟩ := inR_iff.1 hr
    have hb1 : b < (h.new (.cells [.int .i64 (n : Int)] 3 true 0)).next := by simp; omega
    have f2 := f1.trans (FS.new f1.fld hb1 (.cells (bytesL s) 5 true 0))
    have hb2 : b ≠ (h.new (.cells [.int .i64 (n : Int)] 3 true 0)).next := by simp; omega
    obtain ⟨t, hm, ht⟩ := tables_spec hk f2.fld
    have f3 := f2.trans (.made hm)
    obtain ⟨h3, hh3⟩ : ∃ h3, h3 = ((h.new (.cells [.int .i64 (n : Int)] 3 true 0)).new (.cells (bytesL s) 5 true 0)).set b (.cells t 97 true 0) := ⟨_, rfl⟩
    rw [← hh3] at ht f3
    refine ⟨h3.set (h.new (.cells [.int .i64 (n : Int)] 3 true 0)).next (outB encB 5 (scaleL n (bl s))), bnd (is1 hk _ h n 3) ?_, f3.out (by simp) (fun e => hb2 e.symm)⟩
    rw [hr]
    refine ifn (by simp) ?_
    refine bnd ht ?_
    refine jn ?_
    rw [fscale_loop k _ _ s n hn (h.new (.cells [.int .i64 (n : Int)] 3 true 0)).next (some 2) h3 hks (by omega) (fun e => hb2 e.symm) (t := t) (by rw [hh3]; simp) hm (by
      rw [hh3, AHeap.get_set, if_neg (fun e => hb2 e.symm)]; simp [outB, bytesL_bl])]
    have := bytesOf_out (cap := s.size) (sp := some 2) (get_out (enc := encB) (e := 5) (l := scaleL n (bl s)) (h := h3) (B := (h.new (.cells [.int .i64 (n : Int)] 3 true 0)).next))
    rw [scaleL_length] at this
    exact bnd this rfl
end Gy

/-! Mixtures. -/
namespace Gy
open Go Gx Go.Proofs

def mixL (ls : List ByteArray) (cs : List Int) (o : List UInt8) : List UInt8 := (ls.zip cs).foldl (fun o p => addL o (scaleL p.2.toNat (bl p.1))) o
def sames (n : Nat) (ls : List ByteArray) : Bool := ls.all fun s => s.size == n
def mixA (ls : List ByteArray) (cs : List Int) : ByteArray × Int :=
  if ls.length = cs.length then
    if sames (ls.headD ⟨#[]⟩).size ls then
      if cs.all inR then
        (⟨⟨mixL ls cs (List.replicate (ls.headD ⟨#[]⟩).size 0)⟩⟩, 0)
      else (⟨#[]⟩, 1)
    else (⟨#[]⟩, 4)
  else (⟨#[]⟩, 4)

theorem sames_drop {n : Nat} {ls : List ByteArray} {i : Nat} {s : ByteArray} (h : ls[i]? = some s) : sames n (ls.drop i) = ((s.size == n) && sames n (ls.drop (i + 1))) := by
  obtain ⟨hi, rfl⟩ := List.getElem?_eq_some_iff.1 h
  rw [List.drop_eq_getElem_cons hi]
  rfl
theorem head_of {ls : List ByteArray} {s : ByteArray} (h : ls[0]? = some s) : ls.headD ⟨#[]⟩ = s := by
  cases ls with
  | nil => simp at h
  | cons a t => simpa using h

/-! ### the field's -/
theorem fmix_l2 (K : Nat) (D : CallF) (j) (bot) {l : Slc} {ls : List ByteArray} {h : AHeap} (R : Row encS h l ls) (hs : ls.length < 9223372036854775807) {n0 : Nat} (hn0 : ∀ s, ls[0]? = some s → s.size = n0) (f : Option Addr) (c : Slc) : ∀ (m i : Nat) (long : Int), i + m = ls.length →
    long = (if i = 0 then -1 else (n0 : Int)) →
    iterK bot (m + 1) (field_Field_Mix_l2b K D j) f l c long l (ls.length : Int) (i : Int) h = j f l c (if sames n0 (ls.drop i) then (if ls.length = 0 then -1 else (n0 : Int)) else -1) h
  | 0, i, long, hi, hl => by
    rw [iterK_s, field_Field_Mix_l2b]
    refine ifn (by simp; omega) ?_
    obtain rfl : i = ls.length := by omega
    rw [hl, List.drop_length]
    rfl
  | m + 1, i, long, hi, hl => by
    obtain ⟨s, hsi⟩ := isome (l := ls) (i := i) (by omega)
    obtain ⟨q, hq, hld⟩ := R.ldS hsi
    have ih := fmix_l2 K D j bot R hs hn0 f c m (i + 1) n0 (by omega) (by simp)
    have w : IntKind.wrap .i64 ((i : Int) + 1) = ((i + 1 : Nat) : Int) := by rw [w64 _ (by omega)]; omega
    rw [iterK_s, field_Field_Mix_l2b]
    refine ifp (by simp; omega) ?_
    refine jn ?_
    refine bnd hq (bnd hld ?_)
    rw [sames_drop hsi]
    by_cases i0 : i = 0
    · subst i0
      refine ifp (by simp) ?_
      have e := hn0 s hsi
      subst e
      dsimp only
      rw [w, ih]
      simp
    · refine ifn (by simp; omega) ?_
      rw [hl, if_neg i0]
      by_cases e : s.size = n0
      · refine ifn (by simp [e]) ?_
        dsimp only
        rw [w, ih, e]
        simp
      · refine ifp (by simp; omega) ?_
        have : (s.size == n0) = false := by simpa using e
        rw [this]
        rfl

theorem addL_scale {n c : Nat} {o s : List UInt8} (ho : o.length = n) (hs : s.length = n) :
    (List.range n).map (fun i => (o[i]?.getD 0) ^^^ (UInt8.ofNat (mulT (s[i]?.getD 0).toNat c))) = addL o (scaleL c s) := by
  apply List.ext_getElem?
  intro i
  simp only [addL, scaleL, List.getElem?_map, List.getElem?_zipWith]
  by_cases hi : i < n
  · simp [show i < o.length by omega, show i < s.length by omega, hi]
  · simp [show ¬ i < o.length by omega, hi]

theorem fmix_l1 (k : Nat) (D : CallF) (j) {B b n : Nat} {t : List Value} (s : ByteArray) (o : List UInt8) (cv : Nat) (hcv : cv < 256) (c : Slc) (i : Int) (y : Slc) (y1 y2 : Int) (h : AHeap)
    (ho : o.length = n) (hs : s.size = n) (hk : n < k) (hn : n < 9223372036854775807) (hB : B ≠ b) (ht : h.get b = some (.cells t 97 true 0)) (hm : Made t)
    (hc : ∀ l : List UInt8, ∃ q, idxL 1 c i = some q ∧ Gx.ldI .i64 q (h.set B (outB encB 5 l)) = some (cv : Int)) :
    field_Field_Mix_l1 k D j c ⟨some ⟨B, 0, some 0⟩, n, n⟩ (some ⟨b, 3, none⟩) i s y y1 y2 (n : Int) 0 (h.set B (outB encB 5 o)) =
      j c ⟨some ⟨B, 0, some 0⟩, n, n⟩ (some ⟨b, 3, none⟩) y y1 y2 (h.set B (outB encB 5 (addL o (scaleL cv (bl s))))) := by
  unfold field_Field_Mix_l1
  obtain ⟨bot, hbot⟩ := iterK_of (fun _ _ _ _ _ _ _ _ _ _ _ => none) (field_Field_Mix_l1b k D j) (show n + 1 ≤ k by omega)
  rw [hbot]
  have key := fill0 encB 5 B (fun i => (o[i]?.getD 0) ^^^ (UInt8.ofNat (mulT ((bl s)[i]?.getD 0).toNat cv))) o (h.set B (outB encB 5 o)) (by simp)
    (fun m p h => iterK bot (m + 1) (field_Field_Mix_l1b k D j) c ⟨some ⟨B, 0, some 0⟩, n, n⟩ (some ⟨b, 3, none⟩) i s y y1 y2 (n : Int) (p : Int) h) (fun h => j c ⟨some ⟨B, 0, some 0⟩, n, n⟩ (some ⟨b, 3, none⟩) y y1 y2 h)
    (fun m p l hp hl hlk => by
      rw [set_out]
      obtain ⟨x, hx⟩ := isome (l := bl s) (i := p) (by rw [bl_length]; omega)
      obtain ⟨z, hz⟩ := isome (l := o) (i := p) (by omega)
      have hx1 := u8_lt x
      obtain ⟨q, hq, hld⟩ := hc l
      have hzl := rdB_out (sp := none) (get_out (enc := encB) (e := 5) (l := l) (h := h) (B := B)) ((hlk p (Nat.le_refl _)).trans hz)
      rw [iterK_s, field_Field_Mix_l1b]
      refine ifp (by simp; omega) ?_
      refine jn ?_
      refine bnd (idxS_of hx) ?_
      refine bnd hq (bnd hld ?_)
      rw [w64 _ (by omega)]
      refine bnd (times_spec k D (c := t) (by rw [AHeap.get_set, if_neg (fun e => hB e.symm)]; exact ht) hm hx1 hcv) ?_
      refine bnd (idxL_out (by omega)) ?_
      refine bnd hzl ?_
      refine gp (fun H hH => by simp at hH; subst hH; exact bnd hzl rfl) ?_
      refine bnd (idxL_out (by omega)) ?_
      have hm := mulT_lt x.toNat cv
      rw [w8 _ (by omega)]
      have hu : ((mulT x.toNat cv : Nat) : Int) = ((UInt8.ofNat (mulT x.toNat cv)).toNat : Int) := by rw [UInt8.toNat_ofNat_of_lt' (by simpa using hm)]
      rw [hu, xor_u8]
      refine bnd (stB _ (by omega)) ?_
      rw [w64 _ (by omega), getD_of hx, getD_of hz, set_out]
      rfl)
    (fun h => by
      show iterK bot (0 + 1) _ _ _ _ _ _ _ _ _ _ _ _ = _
      rw [iterK_s, field_Field_Mix_l1b]
      exact ifn (by simp [ho]) rfl)
  rw [set_out, ho, addL_scale ho (by rw [bl_length]; exact hs)] at key
  exact key

theorem mixL_cons {i : Nat} {ls : List ByteArray} {cs : List Int} {s : ByteArray} {c : Int} (hs : ls[i]? = some s) (hc : cs[i]? = some c) (o : List UInt8) :
    mixL (ls.drop i) (cs.drop i) o = mixL (ls.drop (i + 1)) (cs.drop (i + 1)) (addL o (scaleL c.toNat (bl s))) := by
  obtain ⟨h1, rfl⟩ := List.getElem?_eq_some_iff.1 hs
  obtain ⟨h2, rfl⟩ := List.getElem?_eq_some_iff.1 hc
  rw [List.drop_eq_getElem_cons h1, List.drop_eq_getElem_cons h2]
  rfl
theorem all_get {cs : List Int} (h : cs.all inR = true) {i : Nat} {c : Int} (hc : cs[i]? = some c) : ∃ n : Nat, c = n ∧ n < 256 := by
  obtain ⟨h2, rfl⟩ := List.getElem?_eq_some_iff.1 hc
  exact inR_iff.1 (List.all_eq_true.1 h _ (List.getElem_mem h2))
theorem sames_get {n : Nat} {ls : List ByteArray} (h : sames n ls = true) {i : Nat} {s : ByteArray} (hs : ls[i]? = some s) : s.size = n := by
  obtain ⟨h2, rfl⟩ := List.getElem?_eq_some_iff.1 hs
  simpa using List.all_eq_true.1 h _ (List.getElem_mem h2)

theorem fmix_l0 (k : Nat) (D : CallF) (j) (bot) {B b n : Nat} {t : List Value} {l c : Slc} {ls : List ByteArray} {cs : List Int} (h : AHeap) (hk : n < k) (hn : n < 9223372036854775807) (hlen : ls.length = cs.length) (hls : ls.length < 9223372036854775807)
    (Rl : ∀ o, Row encS (h.set B (outB encB 5 o)) l ls) (Rc : ∀ o, Row encI (h.set B (outB encB 5 o)) c cs) (hsm : sames n ls = true) (hin : cs.all inR = true)
    (hB : B ≠ b) (ht : h.get b = some (.cells t 97 true 0)) (hm : Made t) : ∀ (m i : Nat) (o : List UInt8), i + m = ls.length → o.length = n →
    iterK bot (m + 1) (field_Field_Mix_l0b k D j) c ⟨some ⟨B, 0, some 0⟩, n, n⟩ (some ⟨b, 3, none⟩) l (ls.length : Int) (i : Int) (h.set B (outB encB 5 o)) =
      j ⟨some ⟨B, 0, some 0⟩, n, n⟩ (h.set B (outB encB 5 (mixL (ls.drop i) (cs.drop i) o)))
  | 0, i, o, hi, ho => by
    rw [iterK_s, field_Field_Mix_l0b]
    refine ifn (by simp; omega) ?_
    obtain rfl : i = ls.length := by omega
    rw [List.drop_length]
    rfl
  | m + 1, i, o, hi, ho => by
    obtain ⟨s, hsi⟩ := isome (l := ls) (i := i) (by omega)
    obtain ⟨x, hx⟩ := isome (l := cs) (i := i) (by omega)
    obtain ⟨q, hq, hld⟩ := (Rl o).ldS hsi
    obtain ⟨cv, rfl, hcv⟩ := all_get hin hx
    have hsz := sames_get hsm hsi
    have w : IntKind.wrap .i64 ((i : Int) + 1) = ((i + 1 : Nat) : Int) := by rw [w64 _ (by omega)]; omega
    rw [iterK_s, field_Field_Mix_l0b]
    refine ifp (by simp; omega) ?_
    refine jn ?_
    refine bnd hq (bnd hld ?_)
    rw [fmix_l1 k D _ s o cv hcv c i l ls.length i h ho hsz hk hn hB ht hm (fun l => (Rc l).ldI hx)]
    rw [w, fmix_l0 k D j bot h hk hn hlen hls Rl Rc hsm hin hB ht hm m (i + 1) _ (by omega) (by simp [addL, scaleL, bl_length, ho, hsz]), mixL_cons hsi hx]
    rfl

theorem mixL_length {n : Nat} : ∀ {ls : List ByteArray} {cs : List Int} {o : List UInt8}, sames n ls = true → o.length = n → (mixL ls cs o).length = n
  | [], cs, o, _, ho => by simpa [mixL] using ho
  | s :: ls, [], o, _, ho => by simpa [mixL] using ho
  | s :: ls, c :: cs, o, hs, ho => by
    simp only [sames, List.all_cons, Bool.and_eq_true, beq_iff_eq] at hs
    exact mixL_length (ls := ls) (cs := cs) (o := addL o (scaleL c.toNat (bl s))) hs.2 (by simp [addL, scaleL, bl_length, ho, hs.1])

theorem sames_nil {n : Nat} {ls : List ByteArray} (h : ls.length = 0) : sames n ls = true := by
  cases ls with
  | nil => rfl
  | cons _ _ => simp at h

theorem Row.fis {h : AHeap} {c : Slc} {cs : List Int} (R : Row encI h c cs) (K : Nat) (D : CallF) (j2 : AHeap → Option (Bool × AHeap)) (bot) (hsm : cs.length < 9223372036854775807) : ∀ (m i : Nat), i + m = cs.length →
    iterK bot (m + 1) (field_is_l0b K D j2) c (cs.length : Int) (i : Int) h = if (cs.drop i).all inR = true then j2 h else some (false, h)
  | 0, i, hi => by
    rw [iterK_s, field_is_l0b]
    refine ifn (by simp; omega) ?_
    rw [List.drop_eq_nil_of_le (by omega)]
    simp
  | m + 1, i, hi => by
    obtain ⟨x, hx⟩ := isome (l := cs) (i := i) (by omega)
    obtain ⟨q, hq, hld⟩ := R.ldI hx
    have ih := Row.fis R K D j2 bot hsm m (i + 1) (by omega)
    have w : IntKind.wrap .i64 ((i : Int) + 1) = ((i + 1 : Nat) : Int) := by rw [w64 _ (by omega)]; omega
    rw [iterK_s, field_is_l0b]
    refine ifp (by simp; omega) ?_
    refine bnd hq (bnd hld ?_)
    obtain ⟨h2, h3⟩ := List.getElem?_eq_some_iff.1 hx
    rw [List.drop_eq_getElem_cons h2, h3]
    simp only [joinK, List.all_cons]
    rw [w, ih]
    simp only [inR]
    by_cases c1 : x < 0
    · simp [c1]
    · by_cases c2 : x ≥ 256
      · simp [c1, c2]
      · simp [c1, c2]
theorem fis_spec {k : Nat} (D : CallF) {h : AHeap} {c : Slc} {cs : List Int} (R : Row encI h c cs) (hk : cs.length < k) (hsm : cs.length < 9223372036854775807) : field_is k D c h = some (cs.all inR, h) := by
  rw [field_is, joinK, field_is_l0]
  obtain ⟨bot, hbot⟩ := iterK_of (fun _ _ _ _ => none) (field_is_l0b k D fun h1 => some (true, h1)) (show cs.length + 1 ≤ k by omega)
  rw [hbot, R.1]
  have := Row.fis R k D (fun h1 => some (true, h1)) bot hsm cs.length 0 (by omega)
  rw [List.drop_zero] at this
  refine this.trans ?_
  cases cs.all inR <;> rfl

theorem fmix_spec {k : Nat} (hk : 256 ≤ k) {h : AHeap} {b : Nat} (hf : Fld h b) (hb : b < h.next) {l c : Slc} {ls : List ByteArray} {cs : List Int} (Rl : Row encS h l ls) (Rc : Row encI h c cs)
    (hlb : ∀ a, l.a = some a → ¬ a.block = b) (hcb : ∀ a, c.a = some a → ¬ a.block = b) (hkl : ls.length < k) (hkc : cs.length < k) (hkn : ∀ s ∈ ls, s.size < k)
    (hl : ls.length < 9223372036854775807) (hc : cs.length < 9223372036854775807) (hn : ∀ s ∈ ls, s.size ≤ 281474976710656) :
    ∃ h', field_Field_Mix k (DD k) (some ⟨b, 0, none⟩) l c h = some (mixA ls cs, h') ∧ FS b h h' := by
  unfold field_Field_Mix mixA
  rw [Rl.1, Rc.1]
  by_cases hlen : ls.length = cs.length
  · rw [if_pos hlen]
    obtain ⟨n, hnn⟩ : ∃ n, n = (ls.headD ⟨#[]⟩).size := ⟨_, rfl⟩
    have hnk : n < k ∧ n ≤ 281474976710656 := by
      cases ls with
      | nil => subst hnn; exact ⟨by show 0 < k; omega, by show 0 ≤ _; omega⟩
      | cons s t => simp at hnn; subst hnn; exact ⟨hkn s (by simp), hn s (by simp)⟩
    have l2 : ∀ j, field_Field_Mix_l2 k (DD k) j (some ⟨b, 0, none⟩) l c (-1) l (ls.length : Int) 0 h = j (some ⟨b, 0, none⟩) l c (if sames n ls then (if ls.length = 0 then -1 else (n : Int)) else -1) h := fun j => by
      unfold field_Field_Mix_l2
      obtain ⟨bot, hbot⟩ := iterK_of (fun _ _ _ _ _ _ _ _ => none) (field_Field_Mix_l2b k (DD k) j) (show ls.length + 1 ≤ k by omega)
      rw [hbot]
      have := fmix_l2 k (DD k) j bot Rl hl (n0 := n) (fun s e => by rw [hnn, head_of e]) (some ⟨b, 0, none⟩) c ls.length 0 (-1) (by omega) (by simp)
      rw [List.drop_zero] at this
      exact this
    rw [← hnn]
    by_cases hsm : sames n ls = true
    · simp only [hsm, if_true] at l2 ⊢
      have lgt : (decide ((if ls.length = 0 then (-1 : Int) else (n : Int)) < 0)) = decide (ls.length = 0) := by
        by_cases e : ls.length = 0
        · simp [e]
        · simp [e]
      have mx : (if (if ls.length = 0 then (-1 : Int) else (n : Int)) > 0 then (if ls.length = 0 then (-1 : Int) else (n : Int)) else 0) = (n : Int) := by
        by_cases e : ls.length = 0
        · have : n = 0 := by
            cases ls with
            | nil => exact hnn
            | cons _ _ => simp at e
          simp [e, this]
        · by_cases n0 : n = 0
          · simp [e, n0]
          · simp [e, Nat.pos_of_ne_zero n0]
      by_cases hin : cs.all inR = true
      · simp only [hin, if_true]
        obtain ⟨h1, hh1⟩ : ∃ h1, h1 = h.new (.cells (zerosL n [.int .u8 0]) 5 true 0) := ⟨_, rfl⟩
        have f1 : FS b h h1 := hh1 ▸ FS.new hf hb _
        obtain ⟨t, hm, ht⟩ := tables_spec hk f1.fld
        obtain ⟨h2, hh2⟩ : ∃ h2, h2 = h1.set b (.cells t 97 true 0) := ⟨_, rfl⟩
        have f2 : FS b h h2 := hh2 ▸ f1.trans (.made hm)
        have hne : h.next ≠ b := by omega
        have key : ∀ o, FS b h (h2.set h.next (outB encB 5 o)) := fun o => f2.out (Nat.le_refl _) hne
        refine ⟨h2.set h.next (outB encB 5 (mixL ls cs (List.replicate n 0))), ?_, key _⟩
        refine ifn (by simp [hlen]) ?_
        refine jn ?_
        rw [l2]
        refine jn ?_
        have tl : field_is k (DD k) c h = some (true, h) := hin ▸ fis_spec (DD k) Rc hkc hc
        have rest : ((field_is k (DD k) c h).bind fun r14 =>
          if (!r14.1) = true then some (((⟨#[]⟩ : ByteArray), (1 : Int)), r14.2)
          else
            if 0 ≤ (n : Int) ∧ (n : Int) ≤ (n : Int) ∧ (n : Int) ≤ 281474976710656 ∧ 1 * (n : Int) ≤ 281474976710656 then
              (field_Field_tables k (DD k) (some ⟨b, 0, none⟩) (AHeap.new r14.2 (.cells (zerosL ((n : Int)).toNat [.int .u8 0]) 5 true 0))).bind fun r16 =>
              joinK (fun (out17 : Slc) (h18 : AHeap) => (bytesOf h18 out17).bind fun s20 => some ((s20, (0 : Int)), h18)) fun j19 =>
              field_Field_Mix_l0 k (DD k) j19 c (⟨(some ⟨r14.2.next, 0, some 0⟩), ((n : Int)).toNat, ((n : Int)).toNat⟩ : Slc) r16.1 l (l.len : Int) 0 r16.2
            else none) = some ((⟨⟨mixL ls cs (List.replicate n 0)⟩⟩, 0), h2.set h.next (outB encB 5 (mixL ls cs (List.replicate n 0)))) := by
          refine bnd tl ?_
          refine ifn (by simp) ?_
          refine ifp (by omega) ?_
          rw [Int.toNat_natCast]
          refine bnd (hh1 ▸ ht) ?_
          refine jn ?_
          rw [← hh1, ← hh2]
          have get2 : h2.get h.next = some (outB encB 5 (List.replicate n 0)) := by
            rw [hh2, AHeap.get_set, if_neg hne, hh1]; exact zeros_out
          unfold field_Field_Mix_l0
          obtain ⟨bot, hbot⟩ := iterK_of (fun _ _ _ _ _ _ _ => none) (field_Field_Mix_l0b k (DD k) fun (out17 : Slc) (h18 : AHeap) => (bytesOf h18 out17).bind fun s20 => some ((s20, (0 : Int)), h18)) (show ls.length + 1 ≤ k by omega)
          rw [hbot, Rl.1]
          have := fmix_l0 k (DD k) (fun (out17 : Slc) (h18 : AHeap) => (bytesOf h18 out17).bind fun s20 => some ((s20, (0 : Int)), h18)) bot (B := h.next) (b := b) (n := n) (t := t) h2 hnk.1 (by omega) hlen hl
            (fun o => Rl.chg (key o).chg hlb) (fun o => Rc.chg (key o).chg hcb) hsm hin hne (by rw [hh2]; simp) hm ls.length 0 (List.replicate n 0) (by omega) (by simp)
          rw [set_self get2, List.drop_zero, List.drop_zero] at this
          refine this.trans ?_
          have hl := mixL_length (cs := cs) hsm (List.length_replicate (n := n) (a := (0 : UInt8)))
          have bo := bytesOf_out (cap := n) (sp := some 0) (get_out (enc := encB) (e := 5) (l := mixL ls cs (List.replicate n 0)) (h := h2) (B := h.next))
          rw [hl] at bo
          exact bnd bo rfl
        rw [← mx] at rest
        by_cases e : ls.length = 0
        · refine ifn (by rw [Rl.1]; simp [e]) ?_
          exact ifn (by simp) rest
        · refine ifp (by rw [Rl.1]; simp; omega) ?_
          exact ifn (by rw [lgt]; simp [e]) rest
      · refine ⟨h, ?_, FS.refl hf⟩
        refine ifn (by simp [hlen]) ?_
        refine jn ?_
        rw [l2]
        refine jn ?_
        rw [if_neg hin]
        have tl : field_is k (DD k) c h = some (false, h) := by rw [fis_spec (DD k) Rc hkc hc]; simp only [Bool.not_eq_true] at hin; rw [hin]
        by_cases e : ls.length = 0
        · refine ifn (by rw [Rl.1]; simp [e]) ?_
          refine ifn (by simp) ?_
          exact bnd tl (ifp rfl rfl)
        · refine ifp (by rw [Rl.1]; simp; omega) ?_
          refine ifn (by rw [lgt]; simp [e]) ?_
          exact bnd tl (ifp rfl rfl)
    · refine ⟨h, ?_, FS.refl hf⟩
      refine ifn (by simp [hlen]) ?_
      refine jn ?_
      rw [l2, if_neg hsm, if_neg hsm]
      refine jn ?_
      have e : ls.length ≠ 0 := fun e => hsm (sames_nil e)
      refine ifp (by rw [Rl.1]; simp; omega) ?_
      exact ifp (by simp) rfl
  · rw [if_neg hlen]
    exact ⟨h, ifp (by simp; omega) rfl, FS.refl hf⟩
end Gy

/-! The document's mixtures; lists that are lent, and kept. -/
namespace Gy
open Go Gx Go.Proofs

theorem rmix_l2 (K : Nat) (D : CallF) (j) (bot) {l : Slc} {ls : List ByteArray} {h : AHeap} (R : Row encS h l ls) (hs : ls.length < 9223372036854775807) {n0 : Nat} (hn0 : ∀ s, ls[0]? = some s → s.size = n0) (c : Slc) : ∀ (m i : Nat), i + m = ls.length →
    iterK bot (m + 1) (ref03_Mix_l2b K D j) l c (i : Int) h = if sames n0 (ls.drop i) then j l c h else some ((⟨#[]⟩, 4), h)
  | 0, i, hi => by
    rw [iterK_s, ref03_Mix_l2b]
    refine ifn (by rw [R.1]; simp; omega) ?_
    obtain rfl : i = ls.length := by omega
    rw [List.drop_length]
    rfl
  | m + 1, i, hi => by
    obtain ⟨s, hsi⟩ := isome (l := ls) (i := i) (by omega)
    obtain ⟨s0, hs0⟩ := isome (l := ls) (i := 0) (by omega)
    obtain ⟨q, hq, hld⟩ := R.ldS hsi
    obtain ⟨q0, hq0, hld0⟩ := R.ldS hs0
    have ih := rmix_l2 K D j bot R hs hn0 c m (i + 1) (by omega)
    have w : IntKind.wrap .i64 ((i : Int) + 1) = ((i + 1 : Nat) : Int) := by rw [w64 _ (by omega)]; omega
    rw [iterK_s, ref03_Mix_l2b]
    refine ifp (by rw [R.1]; simp; omega) ?_
    refine bnd hq (bnd hld (bnd hq0 (bnd hld0 ?_)))
    rw [sames_drop hsi, hn0 s0 hs0]
    by_cases e : s.size = n0
    · refine ifn (by simp [e]) ?_
      rw [w, ih, e]
      simp
    · refine ifp (by simp; omega) ?_
      simp [e]

theorem rmix_l1 (K : Nat) (D : CallF) (j) (bot) {c : Slc} {cs : List Int} {h : AHeap} (R : Row encI h c cs) (hs : cs.length < 9223372036854775807) (l : Slc) : ∀ (m i : Nat), i + m = cs.length →
    iterK bot (m + 1) (ref03_Mix_l1b K D j) l c (i : Int) h = if (cs.drop i).all inR = true then j l c h else some ((⟨#[]⟩, 1), h)
  | 0, i, hi => by
    rw [iterK_s, ref03_Mix_l1b]
    refine ifn (by rw [R.1]; simp; omega) ?_
    rw [List.drop_eq_nil_of_le (by omega)]
    simp
  | m + 1, i, hi => by
    obtain ⟨x, hx⟩ := isome (l := cs) (i := i) (by omega)
    obtain ⟨q, hq, hld⟩ := R.ldI hx
    have ih := rmix_l1 K D j bot R hs l m (i + 1) (by omega)
    have w : IntKind.wrap .i64 ((i : Int) + 1) = ((i + 1 : Nat) : Int) := by rw [w64 _ (by omega)]; omega
    rw [iterK_s, ref03_Mix_l1b]
    refine ifp (by rw [R.1]; simp; omega) ?_
    refine bnd hq (bnd hld (bnd (ris_spec _ _ _ _) ?_))
    obtain ⟨h2, h3⟩ := List.getElem?_eq_some_iff.1 hx
    rw [List.drop_eq_getElem_cons h2, h3]
    simp only [List.all_cons]
    by_cases hr : inR x = true
    · refine ifn (by simp [hr]) ?_
      rw [w, ih]
      simp [hr]
    · refine ifp (by simp [hr]) ?_
      simp [hr]

theorem rmix_l0 (k : Nat) (hk9 : 9 ≤ k) (D : CallF) (j) (bot) {n : Nat} {l c : Slc} {ls : List ByteArray} {cs : List Int} (hk : n < k) (hn : n ≤ 281474976710656) (hlen : ls.length = cs.length) (hls : ls.length < 9223372036854775807)
    (hsm : sames n ls = true) (hin : cs.all inR = true) : ∀ (m i : Nat) (o : List UInt8) (h : AHeap), Row encS h l ls → Row encI h c cs → i + m = ls.length → o.length = n →
    ∃ h', Keeps h h' ∧ iterK bot (m + 1) (ref03_Mix_l0b k D j) l c ⟨⟨o⟩⟩ (i : Int) h = j ⟨⟨mixL (ls.drop i) (cs.drop i) o⟩⟩ h'
  | 0, i, o, h, Rl, Rc, hi, ho => by
    refine ⟨h, .refl _ _, ?_⟩
    rw [iterK_s, ref03_Mix_l0b]
    refine ifn (by rw [Rl.1]; simp; omega) ?_
    obtain rfl : i = ls.length := by omega
    rw [List.drop_length]
    rfl
  | m + 1, i, o, h, Rl, Rc, hi, ho => by
    obtain ⟨s, hsi⟩ := isome (l := ls) (i := i) (by omega)
    obtain ⟨x, hx⟩ := isome (l := cs) (i := i) (by omega)
    obtain ⟨q, hq, hld⟩ := Rl.ldS hsi
    obtain ⟨q2, hq2, hld2⟩ := Rc.ldI hx
    obtain ⟨cv, rfl, hcv⟩ := all_get hin hx
    have hsz := sames_get hsm hsi
    have w : IntKind.wrap .i64 ((i : Int) + 1) = ((i + 1 : Nat) : Int) := by rw [w64 _ (by omega)]; omega
    obtain ⟨h1, e1, k1⟩ := by_spec D s cv hcv h (by omega) hk9 (by omega)
    obtain ⟨h2, e2, k2⟩ := radd_spec D ⟨⟨o⟩⟩ ⟨⟨scaleL cv (bl s)⟩⟩ h1 (k := k) (by rw [size_mk]; omega) (by rw [size_mk]; omega)
    have k12 := k1.trans k2
    obtain ⟨h', k3, e3⟩ := rmix_l0 k hk9 D j bot hk hn hlen hls hsm hin m (i + 1) (addL o (scaleL cv (bl s))) h2 (Rl.keeps k12) (Rc.keeps k12) (by omega) (by simp [addL, scaleL, bl_length, ho, hsz])
    refine ⟨h', k12.trans k3, ?_⟩
    rw [iterK_s, ref03_Mix_l0b]
    refine ifp (by rw [Rl.1]; simp; omega) ?_
    refine bnd hq (bnd hld (bnd hq2 (bnd hld2 (bnd e1 (bnd e2 ?_)))))
    rw [w, mixL_cons hsi hx, Int.toNat_natCast, ← e3]
    simp only [addA, size_mk, bl_mk, scaleL_length, ho, hsz, if_true]

theorem rmix_spec {k : Nat} (hk : 256 ≤ k) (D : CallF) {h : AHeap} {l c : Slc} {ls : List ByteArray} {cs : List Int} (Rl : Row encS h l ls) (Rc : Row encI h c cs)
    (hkl : ls.length < k) (hkc : cs.length < k) (hkn : ∀ s ∈ ls, s.size < k)
    (hl : ls.length < 9223372036854775807) (hc : cs.length < 9223372036854775807) (hn : ∀ s ∈ ls, s.size ≤ 281474976710656) :
    ∃ h', ref03_Mix k D l c h = some (mixA ls cs, h') ∧ Keeps h h' := by
  unfold ref03_Mix mixA
  rw [Rl.1, Rc.1]
  by_cases hlen : ls.length = cs.length
  · rw [if_pos hlen]
    obtain ⟨n, hnn⟩ : ∃ n, n = (ls.headD ⟨#[]⟩).size := ⟨_, rfl⟩
    have hnk : n < k ∧ n ≤ 281474976710656 := by
      cases ls with
      | nil => subst hnn; exact ⟨by show 0 < k; omega, by show 0 ≤ _; omega⟩
      | cons s t => simp at hnn; subst hnn; exact ⟨hkn s (by simp), hn s (by simp)⟩
    have l2 : ∀ j, ref03_Mix_l2 k D j l c 0 h = (if sames n ls then j l c h else some ((⟨#[]⟩, 4), h)) := fun j => by
      unfold ref03_Mix_l2
      obtain ⟨bot, hbot⟩ := iterK_of (fun _ _ _ _ => none) (ref03_Mix_l2b k D j) (show ls.length + 1 ≤ k by omega)
      rw [hbot]
      have := rmix_l2 k D j bot Rl hl (n0 := n) (fun s e => by rw [hnn, head_of e]) c ls.length 0 (by omega)
      rw [List.drop_zero] at this
      exact this
    have l1 : ∀ j, ref03_Mix_l1 k D j l c 0 h = (if cs.all inR then j l c h else some ((⟨#[]⟩, 1), h)) := fun j => by
      unfold ref03_Mix_l1
      obtain ⟨bot, hbot⟩ := iterK_of (fun _ _ _ _ => none) (ref03_Mix_l1b k D j) (show cs.length + 1 ≤ k by omega)
      rw [hbot]
      have := rmix_l1 k D j bot Rc hc l cs.length 0 (by omega)
      rw [List.drop_zero] at this
      exact this
    rw [← hnn]
    by_cases hsm : sames n ls = true
    · simp only [hsm, if_true] at l2 ⊢
      by_cases hin : cs.all inR = true
      · simp only [hin, if_true] at l1 ⊢
        by_cases e : ls.length = 0
        · refine ⟨h, ?_, .refl _ _⟩
          refine ifn (by simp [hlen]) ?_
          refine jn ?_
          rw [l2]
          refine jn ?_
          rw [l1]
          refine ifp (by rw [Rl.1]; simp [e]) ?_
          have : ls = [] := by simpa using e
          subst this
          obtain rfl : n = 0 := hnn
          rfl
        · obtain ⟨s0, hs0⟩ := isome (l := ls) (i := 0) (by omega)
          have hs0n : s0.size = n := by rw [hnn, head_of hs0]
          obtain ⟨q0, hq0, hld0⟩ := Rl.ldS hs0
          obtain ⟨h1, hh1⟩ : ∃ h1, h1 = h.new (.cells (zerosL n [.int .u8 0]) 5 true 0) := ⟨_, rfl⟩
          have k1 : Keeps h h1 := hh1 ▸ Keeps.new h _
          obtain ⟨bot, hbot⟩ := iterK_of (fun _ _ _ _ _ => none) (ref03_Mix_l0b k D fun (out13 : ByteArray) (h14 : AHeap) => some ((out13, (0 : Int)), h14)) (show ls.length + 1 ≤ k by omega)
          obtain ⟨h', k2, e2⟩ := rmix_l0 k (by omega) D (fun (out13 : ByteArray) (h14 : AHeap) => some ((out13, (0 : Int)), h14)) bot (n := n) (by omega) (by omega) hlen hl hsm hin ls.length 0 (List.replicate n 0) h1 (Rl.keeps k1) (Rc.keeps k1) (by omega) (by simp)
          refine ⟨h', ?_, k1.trans k2⟩
          refine ifn (by simp [hlen]) ?_
          refine jn ?_
          rw [l2]
          refine jn ?_
          rw [l1]
          refine ifn (by rw [Rl.1]; exact ne_nz e) ?_
          refine bnd hq0 (bnd hld0 ?_)
          refine ifp (by omega) ?_
          rw [Int.toNat_natCast, hs0n, ← hh1]
          have hz : h1.get h.next = some (outB encB 5 (List.replicate n 0)) := by rw [hh1]; exact zeros_out
          have bo := bytesOf_out (cap := n) (sp := some 0) (l := List.replicate n 0) hz
          rw [List.length_replicate] at bo
          refine bnd bo ?_
          refine jn ?_
          unfold ref03_Mix_l0
          rw [hbot]
          rw [List.drop_zero, List.drop_zero] at e2
          exact e2
      · refine ⟨h, ?_, .refl _ _⟩
        refine ifn (by simp [hlen]) ?_
        refine jn ?_
        rw [l2]
        refine jn ?_
        rw [l1, if_neg hin, if_neg hin]
    · refine ⟨h, ?_, .refl _ _⟩
      refine ifn (by simp [hlen]) ?_
      refine jn ?_
      rw [l2, if_neg hsm, if_neg hsm]
  · rw [if_neg hlen]
    exact ⟨h, ifp (by simp; omega) rfl, .refl _ _⟩

/-! ### the same lists -/
theorem sameI_spec {k : Nat} (D : CallF) {h : AHeap} {a b : Slc} {xs : List Int} (Ra : Row encI h a xs) (Rb : Row encI h b xs) (hk : xs.length < k) (hs : xs.length < 9223372036854775807) : book_SameInts k D a b h = some (true, h) := by
  unfold book_SameInts
  refine ifn (by rw [Ra.1, Rb.1]; simp) ?_
  refine jn ?_
  unfold book_SameInts_l0
  obtain ⟨bot, hbot⟩ := iterK_of (fun _ _ _ _ => none) (book_SameInts_l0b k D fun h1 => some (true, h1)) (show xs.length + 1 ≤ k by omega)
  rw [hbot]
  have go : ∀ m i : Nat, i + m = xs.length → iterK bot (m + 1) (book_SameInts_l0b k D fun h1 => some (true, h1)) a b (i : Int) h = some (true, h) := by
    intro m
    induction m with
    | zero => intro i hi; rw [iterK_s, book_SameInts_l0b]; exact ifn (by rw [Ra.1]; simp; omega) rfl
    | succ m ih =>
      intro i hi
      obtain ⟨x, hx⟩ := isome (l := xs) (i := i) (by omega)
      obtain ⟨q, hq, hld⟩ := Ra.ldI hx
      obtain ⟨q2, hq2, hld2⟩ := Rb.ldI hx
      have w : IntKind.wrap .i64 ((i : Int) + 1) = ((i + 1 : Nat) : Int) := by rw [w64 _ (by omega)]; omega
      rw [iterK_s, book_SameInts_l0b]
      refine ifp (by rw [Ra.1]; simp; omega) ?_
      refine bnd hq (bnd hld (bnd hq2 (bnd hld2 ?_)))
      refine ifn (by simp) ?_
      rw [w]
      exact ih (i + 1) (by omega)
  exact go xs.length 0 (by omega)
theorem sameS_spec {k : Nat} (D : CallF) {h : AHeap} {a b : Slc} {xs : List ByteArray} (Ra : Row encS h a xs) (Rb : Row encS h b xs) (hk : xs.length < k) (hs : xs.length < 9223372036854775807) : book_SameTexts k D a b h = some (true, h) := by
  unfold book_SameTexts
  refine ifn (by rw [Ra.1, Rb.1]; simp) ?_
  refine jn ?_
  unfold book_SameTexts_l0
  obtain ⟨bot, hbot⟩ := iterK_of (fun _ _ _ _ => none) (book_SameTexts_l0b k D fun h1 => some (true, h1)) (show xs.length + 1 ≤ k by omega)
  rw [hbot]
  have go : ∀ m i : Nat, i + m = xs.length → iterK bot (m + 1) (book_SameTexts_l0b k D fun h1 => some (true, h1)) a b (i : Int) h = some (true, h) := by
    intro m
    induction m with
    | zero => intro i hi; rw [iterK_s, book_SameTexts_l0b]; exact ifn (by rw [Ra.1]; simp; omega) rfl
    | succ m ih =>
      intro i hi
      obtain ⟨x, hx⟩ := isome (l := xs) (i := i) (by omega)
      obtain ⟨q, hq, hld⟩ := Ra.ldS hx
      obtain ⟨q2, hq2, hld2⟩ := Rb.ldS hx
      have w : IntKind.wrap .i64 ((i : Int) + 1) = ((i + 1 : Nat) : Int) := by rw [w64 _ (by omega)]; omega
      rw [iterK_s, book_SameTexts_l0b]
      refine ifp (by rw [Ra.1]; simp; omega) ?_
      refine bnd hq (bnd hld (bnd hq2 (bnd hld2 ?_)))
      refine ifn (by rw [ba_beq]; simp) ?_
      rw [w]
      exact ih (i + 1) (by omega)
  exact go xs.length 0 (by omega)

/-! ### lent lists -/
abbrev markS : ByteArray := ⟨#[109, 97, 114, 107]⟩
/-- what is lent: the list, the mark behind its end -/
structure Lent (h : AHeap) (s : Slc) (xs : List ByteArray) : Prop where
  row : Row encS h ⟨s.a, xs.length + 1, s.cap⟩ (xs ++ [markS])
  len : s.len = xs.length
  cap : xs.length + 1 ≤ s.cap
  sp : ∀ a, s.a = some a → spOk a.spot 1 = true
theorem Lent.keeps {h h' : AHeap} {s : Slc} {xs : List ByteArray} (L : Lent h s xs) (c : Keeps h h') : Lent h' s xs := ⟨L.row.keeps c, L.len, L.cap, L.sp⟩
theorem Lent.chg {S : Nat → Prop} {h h' : AHeap} {s : Slc} {xs : List ByteArray} (L : Lent h s xs) (c : Chg S h h') (hs : ∀ a, s.a = some a → ¬ S a.block) : Lent h' s xs := ⟨L.row.chg c hs, L.len, L.cap, L.sp⟩
theorem Lent.own {h : AHeap} {s : Slc} {xs : List ByteArray} (L : Lent h s xs) : Row encS h s xs := by
  have := Row.take L.row (cap' := s.cap)
  rw [← L.len] at this
  exact this

theorem lend_spec (k : Nat) (D : CallF) {h : AHeap} {l : Slc} {xs : List ByteArray} (R : Row encS h l xs) (hs : xs.length ≤ 1000000) :
    ∃ s h', book_Lend k D l h = some (s, h') ∧ Keeps h h' ∧ Lent h' s xs ∧ ∀ a, s.a = some a → h.next ≤ a.block := by
  unfold book_Lend
  rw [R.1]
  by_cases e : xs.length = 0
  · obtain rfl : xs = [] := by simpa using e
    obtain ⟨h1, hh1⟩ : ∃ h1, h1 = h.new (.cells [] 9 true 0) := ⟨_, rfl⟩
    have k1 : Keeps h h1 := hh1 ▸ Keeps.new h _
    obtain ⟨h2, hh2⟩ : ∃ h2, h2 = h1.new (.cells [.string markS] 9 true 0) := ⟨_, rfl⟩
    have k2 : Keeps h1 h2 := hh2 ▸ Keeps.new h1 _
    have n1 : h1.next = h.next + 1 := by rw [hh1]; rfl
    have n2 : h2.next = h1.next + 1 := by rw [hh2]; rfl
    have rd1 : Gx.rdS 1 l h1 = some (([] : List ByteArray).map encS) := Row.rdS (R.keeps k1)
    have hb2 : h2.get h.next = some (.cells [] 9 true 0) := by rw [k2.oth _ (by omega) (fun f => f), hh1]; simp
    have rd2 : Gx.rdS 1 (⟨some ⟨h1.next, 0, some 0⟩, 1, 1⟩ : Slc) h2 = some ([markS].map encS) := by
      have := rdL_all (h := h2) (b := h1.next) (c := [.string markS]) (e := 9) (r := true) (fz := 0) (by rw [hh2]; simp)
      simpa [Gx.rdS, encS] using this
    have ap := append_fresh (enc := encS) (bytes := 16) (e := 9) (h := h2) (b := h.next) (xs := [markS]) (by simp) (by simp) (by omega)
    refine ⟨⟨some ⟨h2.next, 0, some 2⟩, 0, 1⟩, h2.new (outB encS 9 [markS]), ?_, (k1.trans k2).trans (Keeps.new h2 _), ⟨?_, rfl, by simp, by simp [spOk]⟩, ?_⟩
    · rw [← hh1]
      refine bnd rd1 ?_
      refine bnd append_none ?_
      dsimp only
      rw [← hh2]
      refine bnd rd2 ?_
      refine bnd ap ?_
      simp [subL, spOk]
    · exact Row.of_block (xs := [markS]) (c := [markS].map encS) (o := 0) (b := h2.next) (e := 9) (r := true) (fz := 0) (by simp [outB]) (by simp) (fun i x hx => by rw [Nat.zero_add, List.getElem?_map, hx]; rfl)
    · intro a ha; simp at ha; subst ha; simp; omega
  · obtain ⟨h1, hh1⟩ : ∃ h1, h1 = h.new (.cells [] 9 true 0) := ⟨_, rfl⟩
    have k1 : Keeps h h1 := hh1 ▸ Keeps.new h _
    have n1 : h1.next = h.next + 1 := by rw [hh1]; rfl
    have rd1 := Row.rdS (R.keeps k1)
    have hb1 : h1.get h.next = some (.cells [] 9 true 0) := by rw [hh1]; simp
    have ap1 := append_fresh (enc := encS) (bytes := 16) (e := 9) (h := h1) (b := h.next) (xs := xs) e (by omega) (by omega)
    obtain ⟨h2, hh2⟩ : ∃ h2, h2 = h1.new (outB encS 9 xs) := ⟨_, rfl⟩
    have k2 : Keeps h1 h2 := hh2 ▸ Keeps.new h1 _
    have n2 : h2.next = h1.next + 1 := by rw [hh2]; rfl
    obtain ⟨h3, hh3⟩ : ∃ h3, h3 = h2.new (.cells [.string markS] 9 true 0) := ⟨_, rfl⟩
    have k3 : Keeps h2 h3 := hh3 ▸ Keeps.new h2 _
    have n3 : h3.next = h2.next + 1 := by rw [hh3]; rfl
    have rd2 : Gx.rdS 1 (⟨some ⟨h2.next, 0, some 0⟩, 1, 1⟩ : Slc) h3 = some ([markS].map encS) := by
      have := rdL_all (h := h3) (b := h2.next) (c := [.string markS]) (e := 9) (r := true) (fz := 0) (by rw [hh3]; simp)
      simpa [Gx.rdS, encS] using this
    have hb3 : h3.get h1.next = some (.cells (xs.map encS) 9 true 0) := by rw [k3.oth _ (by omega) (fun f => f), hh2]; simp [outB]
    refine ⟨⟨some ⟨h3.next, 0, some 2⟩, xs.length, xs.length + 1⟩, (h3.kill h1.next).new (outB encS 9 (xs ++ [markS])), ?_, ?_, ⟨?_, rfl, Nat.le_refl _, by simp [spOk]⟩, ?_⟩
    · rw [← hh1]
      refine bnd rd1 ?_
      refine bnd ap1 ?_
      dsimp only
      rw [← hh2, ← hh3]
      refine bnd rd2 ?_
      have ap2 : appendA 1 16 9 h3 (⟨some ⟨h1.next, 0, some 2⟩, xs.length, xs.length⟩ : Slc) ([markS].map encS) 1 = some (⟨some ⟨h3.next, 0, some 2⟩, xs.length + 1, xs.length + 1⟩, (h3.kill h1.next).new (outB encS 9 (xs ++ [markS]))) := by
        have g : Grown encS 9 h3 h1.next ⟨some ⟨h1.next, 0, some 2⟩, xs.length, xs.length⟩ xs := ⟨rfl, hb3, fun e' => e (by rw [e']; rfl)⟩
        have := g.append (bytes := 16) (ys := [markS]) (fun _ => rfl) (by simp) (by simp; omega) (by omega)
        simpa using this
      refine bnd ap2 ?_
      simp only [subL, Option.getD_some, Option.getD_none]
      rw [if_pos (by simp; omega), if_pos (by simp [spOk])]
      simp
    · exact ((k1.trans k2).trans k3).beh (T := (· = h1.next)) (Chg.kill_new (.inr rfl)) fun x hx e => by
        have e : x = h1.next := e
        omega
    · have := Row.of_block (h := (h3.kill h1.next).new (outB encS 9 (xs ++ [markS]))) (enc := encS) (xs := xs ++ [markS]) (b := h3.next) (o := 0) (sp := some 2) (cap := xs.length + 1) (c := (xs ++ [markS]).map encS) (e := 9) (r := true) (fz := 0) (by simp [outB]) (by simp) (fun i x hx => by simp only [Nat.zero_add, List.getElem?_map, hx]; rfl)
      rw [List.length_append] at this
      exact this
    · intro a ha; simp at ha; subst ha; simp; omega

theorem kept_spec {k : Nat} (D : CallF) {h : AHeap} {s l : Slc} {xs : List ByteArray} (L : Lent h s xs) (R : Row encS h l xs) (hk : xs.length < k) (hs : xs.length ≤ 1000000) : book_Kept k D s l h = some (true, h) := by
  unfold book_Kept
  refine bnd (sameS_spec D L.own R hk (by omega)) ?_
  refine ifp rfl ?_
  rw [R.1, w1 (by omega)]
  obtain ⟨q, hq, hld⟩ := L.row.ldS (i := xs.length) (x := markS) (by simp)
  obtain ⟨a, c, e, r, fz, ha, _⟩ := L.row.2 xs.length markS (by simp)
  have sp := L.sp a ha
  have sub : Gx.subL 1 s none (some ((xs.length + 1 : Nat) : Int)) none = some ⟨s.a, xs.length + 1, s.cap⟩ := by
    have hc := L.cap
    obtain ⟨sa, sl, sc⟩ := s
    dsimp only at ha hc
    subst ha
    simp only [subL, Option.getD_some, Option.getD_none]
    rw [if_pos (by omega), if_pos sp]
    simp
  refine bnd sub ?_
  refine bnd hq (bnd hld ?_)
  rw [ba_beq]
  simp [markS]
end Gy

/-! Matrices: how they lie, rows, and those that are made. -/
namespace Gy
open Go Gx Go.Proofs

/-- contents, by a function of the place -/
def mat (N : Nat) (f : Nat → Int) : List Int := (List.range N).map f
theorem mat_length (N : Nat) (f : Nat → Int) : (mat N f).length = N := by simp [mat]
theorem mat_get {N : Nat} {f : Nat → Int} {t : Nat} (h : t < N) : (mat N f)[t]? = some (f t) := by simp [mat, h]
theorem mat_congr {N : Nat} {f g : Nat → Int} (h : ∀ t, t < N → f t = g t) : mat N f = mat N g := by
  apply List.map_congr_left
  intro t ht
  exact h t (List.mem_range.1 ht)
def upd (f : Nat → Int) (t : Nat) (x : Int) : Nat → Int := fun s => if s = t then x else f s
theorem mat_set {N : Nat} {f : Nat → Int} {t : Nat} {x : Int} : (mat N f).set t x = mat N (upd f t x) := by
  apply List.ext_getElem?
  intro i
  rw [List.getElem?_set]
  by_cases e : t = i
  · subst e
    by_cases h : t < N
    · rw [if_pos rfl, mat_length, if_pos h, mat_get h]; simp [upd]
    · rw [if_pos rfl, mat_length, if_neg h]; simp [mat, h]
  · rw [if_neg e]
    by_cases h : i < N
    · rw [mat_get h, mat_get h]; simp only [upd]; rw [if_neg fun x => e x.symm]
    · simp [mat, h]
theorem mat_ext {N : Nat} {f g : Nat → Int} (h : ∀ t, t < N → f t = g t) : outB encI 3 (mat N f) = outB encI 3 (mat N g) := by rw [mat_congr h]
theorem stI_out {h : AHeap} {b t N : Nat} {sp : Option Nat} {f : Nat → Int} (x : Int) (hb : h.get b = some (outB encI 3 (mat N f))) (ht : t < N) :
    st1 ⟨b, t, sp⟩ (.int .i64 x) h = some (h.set b (outB encI 3 (mat N (upd f t x)))) := by
  have : st1 ⟨b, t, sp⟩ (.int .i64 x) h = some (h.set b (.cells (((mat N f).map encI).set t (.int .i64 x)) 3 true 0)) := st1_of hb (by simp [mat_length]; exact ht) rfl
  rw [this, ← mat_set]
  simp only [outB]
  congr 4
  rw [List.map_set]; rfl

/-- a matrix's own three cells -/
def mcell (r c : Int) (s : Slc) : List Value := [.int .i64 r, .int .i64 c, .slice s.a s.len s.cap]
theorem decM3 (r c : Int) (s : Slc) : decC [.i .i64, .i .i64, .l] (mcell r c s) = some (r, (c, s)) := rfl
theorem ldM3 {h : AHeap} {b : Nat} {e : TypeId} {rw' : Bool} {fz : Nat} {r c : Int} {s : Slc} {sp : Option Nat} (hb : h.get b = some (.cells (mcell r c s) e rw' fz)) : ldA 3 ⟨b, 0, sp⟩ h = some (mcell r c s) := by
  simp [ldA, AHeap.rdL, hb, mcell]
theorem stM3 {h : AHeap} {b : Nat} {e : TypeId} {cs : List Value} {r c : Int} {s : Slc} {sp : Option Nat} (hb : h.get b = some (.cells cs e true 0)) (hl : cs.length = 3) :
    stL 3 ⟨b, 0, sp⟩ (mcell r c s) h = some (h.set b (.cells (mcell r c s) e true 0)) := by
  have : cs.drop 3 = [] := List.drop_eq_nil_of_le (by omega)
  simp [stL, AHeap.wrL, hb, mcell, hl, allOne, one, splice, this]
theorem ldI0 {h : AHeap} {b : Nat} {e : TypeId} {rw' : Bool} {fz : Nat} {r c : Int} {s : Slc} {sp : Option Nat} (hb : h.get b = some (.cells (mcell r c s) e rw' fz)) : ldI .i64 ⟨b, 0, sp⟩ h = some r := ldI_of hb rfl
theorem ldI1 {h : AHeap} {b : Nat} {e : TypeId} {rw' : Bool} {fz : Nat} {r c : Int} {s : Slc} {sp : Option Nat} (hb : h.get b = some (.cells (mcell r c s) e rw' fz)) : ldI .i64 ⟨b, 1, sp⟩ h = some c := ldI_of hb rfl
theorem ldL2 {h : AHeap} {b : Nat} {e : TypeId} {rw' : Bool} {fz : Nat} {r c : Int} {s : Slc} {sp : Option Nat} (hb : h.get b = some (.cells (mcell r c s) e rw' fz)) : ldL ⟨b, 2, sp⟩ h = some s := by
  simp [ldL, AHeap.rd1, hb, mcell, decL]

/-- a slice of all of a block -/
def whole (b N : Nat) (sp : Option Nat := some 0) : Slc := ⟨some ⟨b, 0, sp⟩, N, N⟩
theorem whole_row {h : AHeap} {b N : Nat} {sp : Option Nat} {f : Nat → Int} (hb : h.get b = some (outB encI 3 (mat N f))) (hn : b < h.next) : Row encI h (whole b N sp) (mat N f) := by
  have := Row.of_block (enc := encI) (h := h) (xs := mat N f) (b := b) (o := 0) (sp := sp) (cap := N) (c := (mat N f).map encI) (e := 3) (r := true) (fz := 0) hb hn (fun i x hx => by rw [Nat.zero_add, List.getElem?_map, hx]; rfl)
  rw [mat_length] at this
  exact this

theorem mk_out {h : AHeap} {n : Nat} : (AHeap.new h (.cells (zerosL n [.int .i64 0]) 3 true 0)) = h.new (outB encI 3 (mat n fun _ => 0)) := by
  congr 1
  simp [outB, zerosL, mat, encI, List.map_const']

/-- a matrix of noughts -/
theorem blank_spec (k : Nat) (D : CallF) (r c : Nat) (h : AHeap) (hs : r * c ≤ 100000) :
    ∃ h', matrix_blank k D r c h = some (((r : Int), (c : Int), whole (h.next + 1) (r * c)), h') ∧ Keeps h h' ∧ h'.next = h.next + 2 ∧ h'.get (h.next + 1) = some (outB encI 3 (mat (r * c) fun _ => 0)) := by
  obtain ⟨g1, hg1⟩ : ∃ g1, g1 = h.new (.cells [.int .i64 0, .int .i64 0, .slice none 0 0] 51 true 0) := ⟨_, rfl⟩
  obtain ⟨g2, hg2⟩ : ∃ g2, g2 = g1.new (outB encI 3 (mat (r * c) fun _ => 0)) := ⟨_, rfl⟩
  have e : IntKind.wrap .i64 ((r : Int) * (c : Int)) = ((r * c : Nat) : Int) := by
    rw [show (r : Int) * (c : Int) = ((r * c : Nat) : Int) by simp]
    exact w64 _ (by omega)
  have n1 : g1.next = h.next + 1 := by rw [hg1]; rfl
  have n2 : g2.next = h.next + 2 := by rw [hg2]; simp [n1]
  have hb : g2.get h.next = some (.cells [.int .i64 0, .int .i64 0, .slice none 0 0] 51 true 0) := by
    rw [hg2, AHeap.get_new, if_neg (by omega), hg1]; simp
  refine ⟨g2.set h.next (.cells (mcell r c (whole (h.next + 1) (r * c))) 51 true 0), ?_, ?_, by simp [n2], ?_⟩
  · unfold matrix_blank
    dsimp only
    rw [e]
    refine ifp (by omega) ?_
    rw [Int.toNat_natCast, ← hg1, mk_out, ← hg2]
    have st := stM3 (r := r) (c := c) (s := whole (h.next + 1) (r * c)) (sp := none) hb rfl
    rw [n1]
    refine bnd st ?_
    refine bnd (ldM3 (r := r) (c := c) (s := whole (h.next + 1) (r * c)) (e := 51) (rw' := true) (fz := 0) (by simp)) ?_
    exact bnd (decM3 _ _ _) rfl
  · have k2 : Keeps h g2 := (hg1 ▸ Keeps.new h _ : Keeps h g1).trans (hg2 ▸ Keeps.new g1 _)
    exact k2.beh (T := (· = h.next)) (.set (.inr rfl)) fun x hx e => by
      have e : x = h.next := e
      omega
  · rw [AHeap.get_set, if_neg (by omega), hg2, AHeap.get_new, n1, if_pos rfl]
theorem zero_spec (k : Nat) (D : CallF) (r c : Nat) (h : AHeap) (hs : r * c ≤ 100000) :
    ∃ h', ref04_zero k D r c h = some (((r : Int), (c : Int), whole (h.next + 1) (r * c)), h') ∧ Keeps h h' ∧ h'.next = h.next + 2 ∧ h'.get (h.next + 1) = some (outB encI 3 (mat (r * c) fun _ => 0)) := by
  obtain ⟨g1, hg1⟩ : ∃ g1, g1 = h.new (.cells [.int .i64 0, .int .i64 0, .slice none 0 0] 54 true 0) := ⟨_, rfl⟩
  obtain ⟨g2, hg2⟩ : ∃ g2, g2 = g1.new (outB encI 3 (mat (r * c) fun _ => 0)) := ⟨_, rfl⟩
  have e : IntKind.wrap .i64 ((r : Int) * (c : Int)) = ((r * c : Nat) : Int) := by
    rw [show (r : Int) * (c : Int) = ((r * c : Nat) : Int) by simp]
    exact w64 _ (by omega)
  have n1 : g1.next = h.next + 1 := by rw [hg1]; rfl
  have n2 : g2.next = h.next + 2 := by rw [hg2]; simp [n1]
  have hb : g2.get h.next = some (.cells [.int .i64 0, .int .i64 0, .slice none 0 0] 54 true 0) := by
    rw [hg2, AHeap.get_new, if_neg (by omega), hg1]; simp
  refine ⟨g2.set h.next (.cells (mcell r c (whole (h.next + 1) (r * c))) 54 true 0), ?_, ?_, by simp [n2], ?_⟩
  · unfold ref04_zero
    dsimp only
    rw [e]
    refine ifp (by omega) ?_
    rw [Int.toNat_natCast, ← hg1, mk_out, ← hg2]
    have st := stM3 (r := r) (c := c) (s := whole (h.next + 1) (r * c)) (sp := none) hb rfl
    rw [n1]
    refine bnd st ?_
    refine bnd (ldM3 (r := r) (c := c) (s := whole (h.next + 1) (r * c)) (e := 54) (rw' := true) (fz := 0) (by simp)) ?_
    exact bnd (decM3 _ _ _) rfl
  · have k2 : Keeps h g2 := (hg1 ▸ Keeps.new h _ : Keeps h g1).trans (hg2 ▸ Keeps.new g1 _)
    exact k2.beh (T := (· = h.next)) (.set (.inr rfl)) fun x hx e => by
      have e : x = h.next := e
      omega
  · rw [AHeap.get_set, if_neg (by omega), hg2, AHeap.get_new, n1, if_pos rfl]

theorem subL_whole {b N lo hi : Nat} {sp : Option Nat} (hsp : spOk sp 1 = true) (h1 : lo < hi) (h2 : hi ≤ N) : Gx.subL 1 (whole b N sp) (some (lo : Int)) (some (hi : Int)) (some (hi : Int)) = some ⟨some ⟨b, lo, some 0⟩, hi - lo, hi - lo⟩ := by
  unfold whole
  simp only [Gx.subL, Option.getD_some]
  rw [if_pos (by omega), if_pos hsp, if_neg (by omega)]
  simp
/-- a row -/
def rowOf (b c i : Nat) : Slc := ⟨some ⟨b, i * c, some 0⟩, c, c⟩
theorem row_specS (k : Nat) (D : CallF) {r c b i : Nat} {sp : Option Nat} (hsp : spOk sp 1 = true) (h : AHeap) (hi : i < r) (hc : 0 < c) (hs : r * c ≤ 100000) :
    ∃ h', matrix_M_row k D (r, c, whole b (r * c) sp) i h = some (rowOf b c i, h') ∧ Keeps h h' ∧ h'.next = h.next + 1 := by
  refine ⟨h.new (.cells (mcell r c (whole b (r * c) sp)) 51 true 0), ?_, Keeps.new h _, rfl⟩
  have hb : (h.new (.cells (mcell r c (whole b (r * c) sp)) 51 true 0)).get h.next = some (.cells (mcell r c (whole b (r * c) sp)) 51 true 0) := by simp
  have le : (i + 1) * c ≤ r * c := Nat.mul_le_mul_right c hi
  have e0 : (i + 1) * c = i * c + c := Nat.succ_mul i c
  have e1 : IntKind.wrap .i64 ((i : Int) * (c : Int)) = ((i * c : Nat) : Int) := by
    rw [show (i : Int) * (c : Int) = ((i * c : Nat) : Int) by simp]
    exact w64 _ (by omega)
  have r1 : r ≤ r * c := Nat.le_mul_of_pos_right r hc
  have e2 : IntKind.wrap .i64 (IntKind.wrap .i64 ((i : Int) + 1) * (c : Int)) = (((i + 1) * c : Nat) : Int) := by
    rw [w1 (by omega), show ((i + 1 : Nat) : Int) * (c : Int) = (((i + 1) * c : Nat) : Int) by simp]
    exact w64 _ (by omega)
  unfold matrix_M_row
  dsimp only
  refine bnd (ldL2 hb) (bnd (ldI1 hb) (bnd (ldI1 hb) (bnd (ldI1 hb) ?_)))
  rw [e1, e2]
  have sub := subL_whole (b := b) (N := r * c) (sp := sp) (lo := i * c) (hi := (i + 1) * c) hsp (by omega) le
  rw [e0, Nat.add_sub_cancel_left, ← e0] at sub
  exact bnd sub rfl
theorem row_spec (k : Nat) (D : CallF) {r c b i : Nat} (h : AHeap) (hi : i < r) (hc : 0 < c) (hs : r * c ≤ 100000) :
    ∃ h', matrix_M_row k D (r, c, whole b (r * c)) i h = some (rowOf b c i, h') ∧ Keeps h h' ∧ h'.next = h.next + 1 := row_specS k D rfl h hi hc hs
theorem rowOf_idx {b c i j : Nat} (hj : j < c) : idxL 1 (rowOf b c i) (j : Int) = some ⟨b, i * c + j, none⟩ := by
  unfold rowOf
  rw [idxL_of (by omega)]
  simp
theorem whole_idx {b N t : Nat} {sp : Option Nat} (ht : t < N) : idxL 1 (whole b N sp) (t : Int) = some ⟨b, t, none⟩ := by
  unfold whole
  rw [idxL_of (by omega)]
  simp
end Gy

/-! Matrices that are made: Cauchy's, and the one that changes nothing. -/
namespace Gy
open Go Gx Go.Proofs

/-- the space -/
structure Spc (h : AHeap) (sb fb : Nat) : Prop where
  sp : h.get sb = some (.cells [.pointer (some ⟨fb, 0, none⟩)] 105 true 0)
  fld : Fld h fb
  ne : sb ≠ fb
  ls : sb < h.next
  lf : fb < h.next
theorem Spc.chg {S : Nat → Prop} {h h' : AHeap} {sb fb : Nat} (s : Spc h sb fb) (c : Chg S h h') (h1 : ¬ S sb) (h2 : ¬ S fb) : Spc h' sb fb :=
  ⟨by rw [c.oth sb s.ls h1]; exact s.sp, fldchg s.fld s.lf c h2, s.ne, Nat.lt_of_lt_of_le s.ls c.nx, Nat.lt_of_lt_of_le s.lf c.nx⟩
theorem Spc.keeps {h h' : AHeap} {sb fb : Nat} (s : Spc h sb fb) (c : Keeps h h') : Spc h' sb fb := s.chg c (fun f => f) (fun f => f)
theorem Spc.fs {h h' : AHeap} {sb fb : Nat} (s : Spc h sb fb) (c : FS fb h h') : Spc h' sb fb :=
  ⟨by rw [c.oth sb s.ls s.ne]; exact s.sp, c.fld, s.ne, Nat.lt_of_lt_of_le s.ls c.nx, Nat.lt_of_lt_of_le s.lf c.nx⟩
theorem Spc.ld {h : AHeap} {sb fb : Nat} (s : Spc h sb fb) : ldP ⟨sb, 0, none⟩ h = some (some ⟨fb, 0, none⟩) := by simp [ldP, AHeap.rd1, s.sp, decP]

theorem mnew_spec (k : Nat) (D : CallF) (h : AHeap) : ∃ h', matrix_New k D h = some (some ⟨h.next + 1, 0, none⟩, h') ∧ Keeps h h' ∧ Spc h' (h.next + 1) h.next ∧ h'.next = h.next + 2 := by
  refine ⟨(h.new (.cells fresh 97 true 0)).new (.cells [.pointer (some ⟨h.next, 0, none⟩)] 105 true 0), ?_, (Keeps.new h _).trans (Keeps.new _ _), ⟨by simp, ?_, by omega, by simp, by simp; omega⟩, by simp⟩
  · unfold matrix_New
    exact bnd (new_spec _ _ _) rfl
  · exact ⟨fresh, by simp, .inl rfl⟩

/-- Cauchy's member at a place -/
def cau (k : Nat) (t : Nat) : Int := if t / k < k then (if t / k = t % k then 1 else 0) else (divT 1 ((t / k) ^^^ (t % k)) : Nat)
theorem pos_div {i j k : Nat} (hj : j < k) : (i * k + j) / k = i := by
  rw [Nat.add_comm, Nat.add_mul_div_right _ _ (by omega), Nat.div_eq_of_lt hj, Nat.zero_add]
theorem pos_mod {i j k : Nat} (hj : j < k) : (i * k + j) % k = j := by
  rw [Nat.add_comm, Nat.add_mul_mod_self_right, Nat.mod_eq_of_lt hj]
theorem cau_at {i j k : Nat} (hj : j < k) : cau k (i * k + j) = if i < k then (if i = j then (1 : Int) else 0) else ((divT 1 (i ^^^ j) : Nat) : Int) := by
  unfold cau
  rw [pos_div hj, pos_mod hj]
theorem xor_ne {i j : Nat} (h : i ≠ j) : i ^^^ j ≠ 0 := fun e => h (by
  have : i ^^^ (i ^^^ j) = i := by rw [e, Nat.xor_zero]
  rw [← Nat.xor_assoc, Nat.xor_self, Nat.zero_xor] at this
  exact this.symm)
theorem xor64' {i j : Nat} (hi : i < 256) (hj : j < 256) : Go.bits .xor .i64 (i : Int) (j : Int) = ((i ^^^ j : Nat) : Int) := xor64 (by omega) (by omega)

/-- while a matrix is filled: its block B, the space -/
structure Fil (H0 : AHeap) (B ob sb fb N : Nat) (r c : Int) (e : TypeId) (f : Nat → Int) (h : AHeap) : Prop where
  blk : h.get B = some (outB encI 3 (mat N f))
  obk : h.get ob = some (.cells (mcell r c (whole B N)) e true 0)
  spc : Spc h sb fb
  lb : B < h.next
  lo : ob < h.next
  ne : B ≠ ob ∧ B ≠ sb ∧ B ≠ fb ∧ ob ≠ fb ∧ ob ≠ sb
  ch : Chg (fun x => x = B ∨ x = fb) H0 h
theorem Fil.keeps {H0 : AHeap} {B ob sb fb N : Nat} {r c : Int} {e : TypeId} {f : Nat → Int} {h h' : AHeap} (F : Fil H0 B ob sb fb N r c e f h) (k : Keeps h h') : Fil H0 B ob sb fb N r c e f h' :=
  ⟨by rw [k.oth B F.lb (fun f => f)]; exact F.blk, by rw [k.oth ob F.lo (fun f => f)]; exact F.obk, F.spc.keeps k, Nat.lt_of_lt_of_le F.lb k.nx, Nat.lt_of_lt_of_le F.lo k.nx, F.ne, F.ch.trans (Chg.keeps k)⟩
theorem Fil.fs {H0 : AHeap} {B ob sb fb N : Nat} {r c : Int} {e : TypeId} {f : Nat → Int} {h h' : AHeap} (F : Fil H0 B ob sb fb N r c e f h) (k : FS fb h h') : Fil H0 B ob sb fb N r c e f h' :=
  ⟨by rw [k.oth B F.lb F.ne.2.2.1]; exact F.blk, by rw [k.oth ob F.lo F.ne.2.2.2.1]; exact F.obk, F.spc.fs k, Nat.lt_of_lt_of_le F.lb k.nx, Nat.lt_of_lt_of_le F.lo k.nx, F.ne, F.ch.trans (k.chg.wk fun x _ e => .inr e)⟩
theorem Fil.put {H0 : AHeap} {B ob sb fb N : Nat} {r c : Int} {e : TypeId} {f : Nat → Int} {h : AHeap} (F : Fil H0 B ob sb fb N r c e f h) (g : Nat → Int) : Fil H0 B ob sb fb N r c e g (h.set B (outB encI 3 (mat N g))) :=
  ⟨by simp, by rw [AHeap.get_set, if_neg (fun x => F.ne.1 x.symm)]; exact F.obk, F.spc.chg (Chg.set (S := (· = B)) (.inr rfl)) (fun x => F.ne.2.1 x.symm) (fun x => F.ne.2.2.1 x.symm), F.lb, F.lo, F.ne, F.ch.trans (Chg.set (.inr (.inl rfl)))⟩
theorem Fil.congr {H0 : AHeap} {B ob sb fb N : Nat} {r c : Int} {e : TypeId} {f g : Nat → Int} {h : AHeap} (F : Fil H0 B ob sb fb N r c e f h) (hg : ∀ t, t < N → f t = g t) : Fil H0 B ob sb fb N r c e g h :=
  ⟨by rw [← mat_ext hg]; exact F.blk, F.obk, F.spc, F.lb, F.lo, F.ne, F.ch⟩

theorem cau_l1 {k0 : Nat} (hk : 1000 ≤ k0) {H0 : AHeap} {B ob sb fb k R i : Nat} (hk1 : 0 < k) (hR : R ≤ 255) (hkR : k ≤ R) (hi : i < R) (y : Option Addr) (a b : Int) : ∀ (m j : Nat) (h : AHeap), j + m = k → Fil H0 B ob sb fb (R * k) R k 51 (fun s => if s < i * k + j then cau k s else 0) h →
    ∃ h', Fil H0 B ob sb fb (R * k) R k 51 (fun s => if s < i * k + k then cau k s else 0) h' ∧
      ∀ jj bot, iterK bot (m + 1) (matrix_Space_Cauchy_l1b k0 (DD k0) jj) (some ⟨sb, 0, none⟩) (k : Int) y (some ⟨ob, 0, none⟩) (i : Int) a b (k : Int) (j : Int) h = jj (some ⟨sb, 0, none⟩) (k : Int) y (some ⟨ob, 0, none⟩) a b h' := by
  intro m
  induction m with
  | zero =>
    intro j h hj F
    obtain rfl : j = k := by omega
    exact ⟨h, F, fun jj bot => by rw [iterK_s, matrix_Space_Cauchy_l1b]; exact ifn (by simp) rfl⟩
  | succ m ih =>
    intro j h hj F
    have hj' : j < k := by omega
    have le : (i + 1) * k ≤ R * k := Nat.mul_le_mul_right k hi
    have e0 : (i + 1) * k = i * k + k := Nat.succ_mul i k
    have hN : R * k ≤ 100000 := Nat.le_trans (Nat.mul_le_mul hR (Nat.le_trans hkR hR)) (by omega)
    have hpos : i * k + j < R * k := by omega
    have step : ∀ (h1 : AHeap) (x : Int), Fil H0 B ob sb fb (R * k) R k 51 (fun s => if s < i * k + j then cau k s else 0) h1 → x = cau k (i * k + j) → Fil H0 B ob sb fb (R * k) R k 51 (fun s => if s < i * k + (j + 1) then cau k s else 0) (h1.set B (outB encI 3 (mat (R * k) (upd (fun s => if s < i * k + j then cau k s else 0) (i * k + j) x)))) := fun h1 x F1 hx =>
      (F1.put _).congr fun t ht => by
        simp only [upd]
        by_cases e : t = i * k + j
        · rw [if_pos e, if_pos (by omega), hx, e]
        · rw [if_neg e]
          by_cases e2 : t < i * k + j
          · rw [if_pos e2, if_pos (by omega)]
          · rw [if_neg e2, if_neg (by omega)]
    have w := w1 (i := j) (by omega)
    by_cases c1 : i < k
    · by_cases c2 : i = j
      · -- one
        obtain ⟨h1, e1, k1, _⟩ := row_spec k0 (DD k0) (r := R) (c := k) (b := B) (i := i) h hi hk1 hN
        have F1 := F.keeps k1
        obtain ⟨h', F', e'⟩ := ih (j + 1) _ (by omega) (step h1 1 F1 (by rw [cau_at hj', if_pos c1, if_pos c2]))
        refine ⟨h', F', fun jj bot => ?_⟩
        rw [iterK_s, matrix_Space_Cauchy_l1b]
        refine ifp (by simp; omega) ?_
        refine jn (jn ?_)
        refine ifp (by simp; omega) ?_
        refine ifp (by simp [c2]) ?_
        refine bnd rfl (bnd (ldM3 F.obk) (bnd (decM3 _ _ _) ?_))
        refine bnd e1 ?_
        refine bnd (rowOf_idx hj') ?_
        refine bnd (stI_out 1 F1.blk hpos) ?_
        dsimp only
        rw [w]
        exact e' jj bot
      · -- nothing
        have F1 : Fil H0 B ob sb fb (R * k) R k 51 (fun s => if s < i * k + (j + 1) then cau k s else 0) h := F.congr fun t ht => by
          by_cases e : t = i * k + j
          · rw [if_neg (by omega), if_pos (by omega), e]
            rw [cau_at hj', if_pos c1, if_neg c2]
          · by_cases e2 : t < i * k + j
            · rw [if_pos e2, if_pos (by omega)]
            · rw [if_neg e2, if_neg (by omega)]
        obtain ⟨h', F', e'⟩ := ih (j + 1) h (by omega) F1
        refine ⟨h', F', fun jj bot => ?_⟩
        rw [iterK_s, matrix_Space_Cauchy_l1b]
        refine ifp (by simp; omega) ?_
        refine jn (jn ?_)
        refine ifp (by simp; omega) ?_
        refine ifn (by simp; omega) ?_
        refine ifn (by simp; omega) ?_
        dsimp only
        rw [w]
        exact e' jj bot
    · -- a quotient
      obtain ⟨h1, e1, k1, _⟩ := row_spec k0 (DD k0) (r := R) (c := k) (b := B) (i := i) h hi hk1 hN
      have F1 := F.keeps k1
      have x0 := xor_ne (i := i) (j := j) (by omega)
      have xlt : i ^^^ j < 256 := xor_lt (by omega) (by omega)
      obtain ⟨h2, e2, s2⟩ := div_spec (k := k0) (by omega) F1.spc.fld F1.spc.lf (x := 1) (y := i ^^^ j) (by omega) xlt
      rw [if_neg x0] at e2
      have F2 := F1.fs s2
      obtain ⟨h', F', e'⟩ := ih (j + 1) _ (by omega) (step h2 (divT 1 (i ^^^ j) : Nat) F2 (by rw [cau_at hj', if_neg c1]))
      refine ⟨h', F', fun jj bot => ?_⟩
      rw [iterK_s, matrix_Space_Cauchy_l1b]
      refine ifp (by simp; omega) ?_
      refine jn (jn ?_)
      refine ifn (by simp; omega) ?_
      refine ifn (by simp) ?_
      refine ifp (by simp; omega) ?_
      refine bnd rfl (bnd (ldM3 F.obk) (bnd (decM3 _ _ _) ?_))
      refine bnd e1 ?_
      refine bnd rfl (bnd F1.spc.ld ?_)
      refine gp (fun H hH => by simp at hH; subst hH; exact bnd F.spc.ld rfl) ?_
      rw [xor64' (by omega) (by omega)]
      refine bnd e2 ?_
      refine bnd (rowOf_idx hj') ?_
      refine bnd (stI_out _ F2.blk hpos) ?_
      dsimp only
      rw [w]
      exact e' jj bot

theorem cau_l0 {k0 : Nat} (hk : 1000 ≤ k0) {H0 : AHeap} {B ob sb fb k R : Nat} (hk1 : 0 < k) (hR : R ≤ 255) (hkR : k ≤ R) (y : Option Addr) : ∀ (m i : Nat) (h : AHeap), i + m = R → Fil H0 B ob sb fb (R * k) R k 51 (fun s => if s < i * k then cau k s else 0) h →
    ∃ h', Fil H0 B ob sb fb (R * k) R k 51 (cau k) h' ∧
      ∀ jj bot, iterK bot (m + 1) (matrix_Space_Cauchy_l0b k0 (DD k0) jj) (some ⟨sb, 0, none⟩) (k : Int) y (some ⟨ob, 0, none⟩) (R : Int) (i : Int) h = jj y (some ⟨ob, 0, none⟩) h' := by
  intro m
  induction m with
  | zero =>
    intro i h hi F
    obtain rfl : i = R := by omega
    refine ⟨h, F.congr fun t ht => by rw [if_pos ht], fun jj bot => ?_⟩
    rw [iterK_s, matrix_Space_Cauchy_l0b]; exact ifn (by simp) rfl
  | succ m ih =>
    intro i h hi F
    obtain ⟨h1, F1, e1⟩ := cau_l1 hk hk1 hR hkR (show i < R by omega) y (R : Int) (i : Int) k 0 h (by omega) F
    have e0 : (i + 1) * k = i * k + k := Nat.succ_mul i k
    obtain ⟨h', F', e'⟩ := ih (i + 1) h1 (by omega) (by rw [e0]; exact F1)
    refine ⟨h', F', fun jj bot => ?_⟩
    rw [iterK_s, matrix_Space_Cauchy_l0b]
    refine ifp (by simp; omega) ?_
    refine jn ?_
    unfold matrix_Space_Cauchy_l1
    obtain ⟨bot1, hbot1⟩ := iterK_of (fun _ _ _ _ _ _ _ _ _ _ => none) (matrix_Space_Cauchy_l1b k0 (DD k0) _) (show k + 1 ≤ k0 by omega)
    rw [hbot1]
    refine (e1 _ bot1).trans ?_
    rw [w1 (by omega)]
    exact e' jj bot

/-- what is made: a matrix of its own -/
structure MadeM (h h' : AHeap) (fb B N : Nat) (f : Nat → Int) : Prop where
  blk : h'.get B = some (outB encI 3 (mat N f))
  lb : B < h'.next
  nb : h.next ≤ B
  ch : Chg (· = fb) h h'

theorem cauchy_spec {k0 : Nat} (hk : 1000 ≤ k0) {h : AHeap} {sb fb k m : Nat} (S : Spc h sb fb) (hk1 : 0 < k) (hR : k + m ≤ 255) :
    ∃ h' B, matrix_Space_Cauchy k0 (DD k0) (some ⟨sb, 0, none⟩) k m h = some (((((k + m : Nat) : Int), (k : Int), whole B ((k + m) * k)), 0), h') ∧ Spc h' sb fb ∧ MadeM h h' fb B ((k + m) * k) (cau k) := by
  obtain ⟨g1, hg1⟩ : ∃ g1, g1 = h.new (.cells [.int .i64 0, .int .i64 0, .slice none 0 0] 51 true 0) := ⟨_, rfl⟩
  have k1 : Keeps h g1 := hg1 ▸ Keeps.new h _
  have n1 : g1.next = h.next + 1 := by rw [hg1]; rfl
  have y1 : g1.get h.next = some (.cells [.int .i64 0, .int .i64 0, .slice none 0 0] 51 true 0) := by rw [hg1]; simp
  have hN : (k + m) * k ≤ 100000 := Nat.le_trans (Nat.mul_le_mul hR (show k ≤ 255 by omega)) (by omega)
  obtain ⟨g2, e2, k2, n2, b2⟩ := blank_spec k0 (DD k0) (k + m) k g1 hN
  obtain ⟨g3, hg3⟩ : ∃ g3, g3 = g2.new (.cells [.int .i64 0, .int .i64 0, .slice none 0 0] 51 true 0) := ⟨_, rfl⟩
  have k3 : Keeps g2 g3 := hg3 ▸ Keeps.new g2 _
  have n3 : g3.next = g2.next + 1 := by rw [hg3]; rfl
  have o3 : g3.get g2.next = some (.cells [.int .i64 0, .int .i64 0, .slice none 0 0] 51 true 0) := by rw [hg3]; simp
  obtain ⟨g4, hg4⟩ : ∃ g4, g4 = g3.set g2.next (.cells (mcell ((k + m : Nat) : Int) k (whole (g1.next + 1) ((k + m) * k))) 51 true 0) := ⟨_, rfl⟩
  have n4 : g4.next = g3.next := by rw [hg4]; rfl
  have st3 : stL 3 ⟨g2.next, 0, none⟩ (mcell ((k + m : Nat) : Int) k (whole (g1.next + 1) ((k + m) * k))) g3 = some g4 := by rw [hg4]; exact stM3 o3 rfl
  have k04 : Keeps h g4 := ((k1.trans k2).trans k3).beh (T := (· = g2.next)) (hg4 ▸ Chg.set (.inr rfl)) fun x hx e => by
    have e : x = g2.next := e
    omega
  have S4 := S.keeps k04
  have b4 : g4.get (g1.next + 1) = some (outB encI 3 (mat ((k + m) * k) fun _ => 0)) := by
    rw [hg4, AHeap.get_set, if_neg (by omega), k3.oth _ (by omega) (fun f => f)]; exact b2
  have y4 : g4.get h.next = some (.cells [.int .i64 0, .int .i64 0, .slice none 0 0] 51 true 0) := by
    rw [hg4, AHeap.get_set, if_neg (by omega), k3.oth _ (by omega) (fun f => f), k2.oth _ (by omega) (fun f => f)]; exact y1
  have F4 : Fil g4 (g1.next + 1) g2.next sb fb ((k + m) * k) ((k + m : Nat) : Int) k 51 (fun s => if s < 0 * k then cau k s else 0) g4 := by
    have := S.ls; have := S.lf
    refine ⟨by rw [mat_ext (g := fun _ => 0) (fun t ht => by rw [if_neg (by omega)])]; exact b4, by rw [hg4]; simp, S4, by omega, by omega, ⟨by omega, by omega, by omega, by omega, by omega⟩, .refl _ _⟩
  obtain ⟨g5, F5, e5⟩ := cau_l0 hk hk1 hR (Nat.le_add_right k m) (some ⟨h.next, 0, none⟩) (k + m) 0 g4 (by omega) F4
  have y5 : g5.get h.next = some (.cells [.int .i64 0, .int .i64 0, .slice none 0 0] 51 true 0) := by
    rw [F5.ch.oth h.next (by omega) (fun e => by have := S.lf; omega)]; exact y4
  refine ⟨g5.set h.next (.cells (mcell ((k + m : Nat) : Int) k (whole (g1.next + 1) ((k + m) * k))) 51 true 0), g1.next + 1, ?_, ?_, ?_⟩
  · unfold matrix_Space_Cauchy
    have w : IntKind.wrap .i64 ((k : Int) + (m : Int)) = ((k + m : Nat) : Int) := by rw [w64 _ (by omega)]; omega
    have w2 : IntKind.wrap .i64 (255 - (k : Int)) = 255 - (k : Int) := w64 _ (by omega)
    dsimp only
    rw [← hg1]
    refine jn ?_
    refine ifn (by simp; omega) ?_
    refine ifn (by rw [decide_eq_true_eq]; omega) ?_
    refine ifn (by simp; omega) ?_
    rw [w2]
    refine ifn (by simp; omega) ?_
    rw [w]
    refine bnd e2 ?_
    dsimp only
    rw [← hg3]
    refine bnd st3 ?_
    refine jn ?_
    unfold matrix_Space_Cauchy_l0
    obtain ⟨bot, hbot⟩ := iterK_of (fun _ _ _ _ _ _ _ => none) (matrix_Space_Cauchy_l0b k0 (DD k0) _) (show (k + m) + 1 ≤ k0 by omega)
    rw [hbot]
    refine (e5 _ bot).trans ?_
    refine bnd rfl (bnd (ldM3 F5.obk) (bnd (decM3 _ _ _) ?_))
    refine bnd rfl ?_
    refine bnd (stM3 (r := ((k + m : Nat) : Int)) (c := k) (s := whole (g1.next + 1) ((k + m) * k)) y5 rfl) ?_
    refine bnd rfl ?_
    refine bnd (ldM3 (r := ((k + m : Nat) : Int)) (c := k) (s := whole (g1.next + 1) ((k + m) * k)) (e := 51) (rw' := true) (fz := 0) (by simp)) ?_
    exact bnd (decM3 _ _ _) rfl
  · exact F5.spc.chg (Chg.set (S := (· = h.next)) (.inr rfl)) (fun e => by have := S.ls; have e : sb = h.next := e; omega) (fun e => by have := S.lf; have e : fb = h.next := e; omega)
  · refine ⟨by rw [AHeap.get_set, if_neg (by omega)]; exact F5.blk, F5.lb, by omega, ?_⟩
    have c1 : Chg (· = fb) h g5 := (Chg.keeps k04).beh F5.ch fun x hx e => by
      rcases e with e | e
      · omega
      · exact e
    exact c1.beh (T := (· = h.next)) (.set (.inr rfl)) fun x hx e => by
      have e : x = h.next := e
      omega

/-! ### the document's -/
theorem rover_spec {k : Nat} (hk : 256 ≤ k) (D : CallF) {a b : Nat} (ha : a < 256) (hb : b < 256) (b0 : b ≠ 0) (h : AHeap) : ref03_Over k D (a : Int) (b : Int) h = some ((divT a b : Int), h) := by
  unfold ref03_Over
  refine jn ?_
  unfold ref03_Over_l0
  have hlt := divT_lt (x := a) (y := b)
  obtain ⟨bot, hbot⟩ := iterK_of (fun _ _ _ _ => none) (ref03_Over_l0b k D fun h1 => some (0, h1)) (show divT a b + 1 ≤ k by omega)
  rw [hbot]
  exact over_loop k (by omega) D (fun h1 => some (0, h1)) bot ha hb b0 h (divT a b) 0 (by omega)

/-- what has been laid when columns up to j, and of column j the rows up to R, are done -/
def cauP (k j R : Nat) (t : Nat) : Int := if t % k < j ∨ (t % k = j ∧ t / k < R) then cau k t else 0

theorem rcau_l1 {k0 : Nat} (hk : 1000 ≤ k0) {D : CallF} {H0 : AHeap} {B ob k m j : Nat} (hj : j < k) (hR : k + m ≤ 255) (y : Option Addr) : ∀ (n i : Nat) (h : AHeap), i + n = m →
    h.get B = some (outB encI 3 (mat ((k + m) * k) (cauP k j (k + i)))) → h.get ob = some (.cells (mcell ((k + m : Nat) : Int) k (whole B ((k + m) * k))) 54 true 0) → B ≠ ob → Chg (· = B) H0 h →
    ∃ h', h'.get B = some (outB encI 3 (mat ((k + m) * k) (cauP k j (k + m)))) ∧ h'.get ob = some (.cells (mcell ((k + m : Nat) : Int) k (whole B ((k + m) * k))) 54 true 0) ∧ Chg (· = B) H0 h' ∧ h'.next = h.next ∧
      ∀ jj bot, iterK bot (n + 1) (ref04_Cauchy_l1b k0 D jj) (k : Int) (m : Int) y (some ⟨ob, 0, none⟩) (j : Int) (i : Int) h = jj (k : Int) (m : Int) y (some ⟨ob, 0, none⟩) (j : Int) h' := by
  intro n
  induction n with
  | zero =>
    intro i h hi hb ho hne hc
    obtain rfl : i = m := by omega
    exact ⟨h, hb, ho, hc, rfl, fun jj bot => by rw [iterK_s, ref04_Cauchy_l1b]; exact ifn (by simp) rfl⟩
  | succ n ih =>
    intro i h hi hb ho hne hc
    have le : (k + i + 1) * k ≤ (k + m) * k := Nat.mul_le_mul_right k (by omega)
    have e0 : (k + i + 1) * k = (k + i) * k + k := Nat.succ_mul (k + i) k
    have hN : (k + m) * k ≤ 100000 := Nat.le_trans (Nat.mul_le_mul hR (show k ≤ 255 by omega)) (by omega)
    have hpos : (k + i) * k + j < (k + m) * k := by omega
    have x0 := xor_ne (i := k + i) (j := j) (by omega)
    have xlt : (k + i) ^^^ j < 256 := xor_lt (by omega) (by omega)
    have upd' : ∀ t, t < (k + m) * k → upd (cauP k j (k + i)) ((k + i) * k + j) (divT 1 ((k + i) ^^^ j) : Nat) t = cauP k j (k + (i + 1)) t := fun t ht => by
      simp only [upd]
      by_cases e : t = (k + i) * k + j
      · subst e
        rw [if_pos rfl]
        unfold cauP
        rw [pos_div hj, pos_mod hj, if_pos (.inr ⟨rfl, by omega⟩), cau_at hj, if_neg (by omega)]
      · rw [if_neg e]
        unfold cauP
        have hdm := Nat.div_add_mod t k
        by_cases c1 : t % k = j
        · have : t / k ≠ k + i := fun e2 => e (by rw [← hdm, e2, c1, Nat.mul_comm])
          by_cases c2 : t / k < k + i
          · rw [if_pos (.inr ⟨c1, c2⟩), if_pos (.inr ⟨c1, by omega⟩)]
          · rw [if_neg (by omega), if_neg (by omega)]
        · by_cases c2 : t % k < j
          · rw [if_pos (.inl c2), if_pos (.inl c2)]
          · rw [if_neg (by omega), if_neg (by omega)]
    obtain ⟨h', b', o', c', n', e'⟩ := ih (i + 1) (h.set B (outB encI 3 (mat ((k + m) * k) (upd (cauP k j (k + i)) ((k + i) * k + j) (divT 1 ((k + i) ^^^ j) : Nat))))) (by omega)
      (by rw [mat_ext (fun t ht => (upd' t ht).symm)]; simp) (by rw [AHeap.get_set, if_neg (fun e => hne e.symm)]; exact ho) hne (hc.trans (Chg.set (.inr rfl)))
    refine ⟨h', b', o', c', n', fun jj bot => ?_⟩
    rw [iterK_s, ref04_Cauchy_l1b]
    refine ifp (by rw [decide_eq_true_eq]; omega) ?_
    have w : IntKind.wrap .i64 ((k : Int) + (i : Int)) = ((k + i : Nat) : Int) := by rw [w64 _ (by omega)]; omega
    have w2 : IntKind.wrap .i64 (((k + i : Nat) : Int) * (k : Int)) = (((k + i) * k : Nat) : Int) := by
      rw [show ((k + i : Nat) : Int) * (k : Int) = (((k + i) * k : Nat) : Int) by simp]
      exact w64 _ (by omega)
    have w3 : IntKind.wrap .i64 ((((k + i) * k : Nat) : Int) + (j : Int)) = (((k + i) * k + j : Nat) : Int) := by rw [w64 _ (by omega)]; omega
    rw [w, xor64' (by omega) (by omega)]
    refine bnd (rover_spec (k := k0) (by omega) D (a := 1) (by omega) xlt x0 h) ?_
    refine bnd rfl (bnd (ldL2 ho) ?_)
    refine gp (fun H hH => by simp at hH; subst hH; exact bnd (ldL2 ho) rfl) ?_
    rw [w2]
    dsimp only
    rw [w3]
    refine bnd (whole_idx hpos) ?_
    refine bnd (stI_out _ hb hpos) ?_
    rw [w1 (by omega)]
    exact e' jj bot

theorem rcau_l0 {k0 : Nat} (hk : 1000 ≤ k0) {D : CallF} {H0 : AHeap} {B ob k m : Nat} (hk1 : 0 < k) (hR : k + m ≤ 255) (y : Option Addr) : ∀ (n j : Nat) (h : AHeap), j + n = k →
    h.get B = some (outB encI 3 (mat ((k + m) * k) (fun t => if t % k < j then cau k t else 0))) → h.get ob = some (.cells (mcell ((k + m : Nat) : Int) k (whole B ((k + m) * k))) 54 true 0) → B ≠ ob → Chg (· = B) H0 h →
    ∃ h', h'.get B = some (outB encI 3 (mat ((k + m) * k) (cau k))) ∧ h'.get ob = some (.cells (mcell ((k + m : Nat) : Int) k (whole B ((k + m) * k))) 54 true 0) ∧ Chg (· = B) H0 h' ∧ h'.next = h.next ∧
      ∀ jj bot, iterK bot (n + 1) (ref04_Cauchy_l0b k0 D jj) (k : Int) (m : Int) y (some ⟨ob, 0, none⟩) (j : Int) h = jj y (some ⟨ob, 0, none⟩) h' := by
  intro n
  induction n with
  | zero =>
    intro j h hj hb ho hne hc
    obtain rfl : j = k := by omega
    refine ⟨h, ?_, ho, hc, rfl, fun jj bot => by rw [iterK_s, ref04_Cauchy_l0b]; exact ifn (by simp) rfl⟩
    rw [hb, mat_ext (fun t ht => by rw [if_pos (Nat.mod_lt t hk1)])]
  | succ n ih =>
    intro j h hj hb ho hne hc
    have hj' : j < k := by omega
    have hN : (k + m) * k ≤ 100000 := Nat.le_trans (Nat.mul_le_mul hR (show k ≤ 255 by omega)) (by omega)
    have le : (j + 1) * k ≤ (k + m) * k := Nat.mul_le_mul_right k (by omega)
    have e0 : (j + 1) * k = j * k + k := Nat.succ_mul j k
    have hpos : j * k + j < (k + m) * k := by omega
    have upd' : ∀ t, t < (k + m) * k → upd (fun t => if t % k < j then cau k t else 0) (j * k + j) 1 t = cauP k j (k + 0) t := fun t ht => by
      simp only [upd]
      by_cases e : t = j * k + j
      · subst e
        rw [if_pos rfl]
        unfold cauP
        rw [pos_div hj', pos_mod hj', if_pos (.inr ⟨rfl, by omega⟩), cau_at hj', if_pos hj', if_pos rfl]
      · rw [if_neg e]
        unfold cauP
        have hdm := Nat.div_add_mod t k
        by_cases c1 : t % k = j
        · rw [if_neg (by omega)]
          by_cases c2 : t / k < k
          · rw [if_pos (.inr ⟨c1, by omega⟩)]
            have : t / k ≠ j := fun e2 => e (by rw [← hdm, e2, c1, Nat.mul_comm])
            unfold cau
            rw [if_pos c2, if_neg (by omega)]
          · rw [if_neg (by omega)]
        · by_cases c2 : t % k < j
          · rw [if_pos c2, if_pos (.inl c2)]
          · rw [if_neg c2, if_neg (by omega)]
    obtain ⟨h1, b1, o1, c1, n1, e1⟩ := rcau_l1 (D := D) hk hj' hR y m 0 (h.set B (outB encI 3 (mat ((k + m) * k) (upd (fun t => if t % k < j then cau k t else 0) (j * k + j) 1)))) (by omega)
      (by rw [mat_ext (fun t ht => (upd' t ht).symm)]; simp) (by rw [AHeap.get_set, if_neg (fun e => hne e.symm)]; exact ho) hne (hc.trans (Chg.set (.inr rfl)))
    have b1' : h1.get B = some (outB encI 3 (mat ((k + m) * k) (fun t => if t % k < j + 1 then cau k t else 0))) := by
      rw [b1, mat_ext (g := fun t => if t % k < j + 1 then cau k t else 0) (fun t ht => by
        unfold cauP
        have : t / k < k + m := (Nat.div_lt_iff_lt_mul hk1).2 ht
        by_cases c : t % k < j + 1
        · rw [if_pos (by omega), if_pos c]
        · rw [if_neg (by omega), if_neg c])]
    obtain ⟨h', b', o', c', n', e'⟩ := ih (j + 1) h1 (by omega) b1' o1 hne c1
    refine ⟨h', b', o', c', n'.trans n1, fun jj bot => ?_⟩
    rw [iterK_s, ref04_Cauchy_l0b]
    refine ifp (by rw [decide_eq_true_eq]; omega) ?_
    refine jn ?_
    have w2 : IntKind.wrap .i64 ((j : Int) * (k : Int)) = ((j * k : Nat) : Int) := by
      rw [show (j : Int) * (k : Int) = ((j * k : Nat) : Int) by simp]
      exact w64 _ (by omega)
    have w3 : IntKind.wrap .i64 (((j * k : Nat) : Int) + (j : Int)) = ((j * k + j : Nat) : Int) := by rw [w64 _ (by omega)]; omega
    refine bnd rfl (bnd (ldL2 ho) ?_)
    rw [w2, w3]
    refine bnd (whole_idx hpos) ?_
    refine bnd (stI_out _ hb hpos) ?_
    unfold ref04_Cauchy_l1
    obtain ⟨bot1, hbot1⟩ := iterK_of (fun _ _ _ _ _ _ _ => none) (ref04_Cauchy_l1b k0 D _) (show m + 1 ≤ k0 by omega)
    rw [hbot1]
    refine (e1 _ bot1).trans ?_
    rw [w1 (by omega)]
    exact e' jj bot

/-- a matrix of its own, nothing else changed -/
structure MadeR (h h' : AHeap) (B N : Nat) (f : Nat → Int) : Prop where
  blk : h'.get B = some (outB encI 3 (mat N f))
  lb : B < h'.next
  nb : h.next ≤ B
  ch : Keeps h h'

theorem rcauchy_spec {k0 : Nat} (hk : 1000 ≤ k0) (D : CallF) {h : AHeap} {k m : Nat} (hk1 : 0 < k) (hR : k + m ≤ 255) :
    ∃ h' B, ref04_Cauchy k0 D k m h = some (((((k + m : Nat) : Int), (k : Int), whole B ((k + m) * k)), 0), h') ∧ MadeR h h' B ((k + m) * k) (cau k) := by
  obtain ⟨g1, hg1⟩ : ∃ g1, g1 = h.new (.cells [.int .i64 0, .int .i64 0, .slice none 0 0] 54 true 0) := ⟨_, rfl⟩
  have k1 : Keeps h g1 := hg1 ▸ Keeps.new h _
  have n1 : g1.next = h.next + 1 := by rw [hg1]; rfl
  have y1 : g1.get h.next = some (.cells [.int .i64 0, .int .i64 0, .slice none 0 0] 54 true 0) := by rw [hg1]; simp
  have hN : (k + m) * k ≤ 100000 := Nat.le_trans (Nat.mul_le_mul hR (show k ≤ 255 by omega)) (by omega)
  obtain ⟨g2, e2, k2, n2, b2⟩ := zero_spec k0 D (k + m) k g1 hN
  obtain ⟨g3, hg3⟩ : ∃ g3, g3 = g2.new (.cells [.int .i64 0, .int .i64 0, .slice none 0 0] 54 true 0) := ⟨_, rfl⟩
  have k3 : Keeps g2 g3 := hg3 ▸ Keeps.new g2 _
  have n3 : g3.next = g2.next + 1 := by rw [hg3]; rfl
  have o3 : g3.get g2.next = some (.cells [.int .i64 0, .int .i64 0, .slice none 0 0] 54 true 0) := by rw [hg3]; simp
  obtain ⟨g4, hg4⟩ : ∃ g4, g4 = g3.set g2.next (.cells (mcell ((k + m : Nat) : Int) k (whole (g1.next + 1) ((k + m) * k))) 54 true 0) := ⟨_, rfl⟩
  have n4 : g4.next = g3.next := by rw [hg4]; rfl
  have st3 : stL 3 ⟨g2.next, 0, none⟩ (mcell ((k + m : Nat) : Int) k (whole (g1.next + 1) ((k + m) * k))) g3 = some g4 := by rw [hg4]; exact stM3 o3 rfl
  have k04 : Keeps h g4 := ((k1.trans k2).trans k3).beh (T := (· = g2.next)) (hg4 ▸ Chg.set (.inr rfl)) fun x hx e => by
    have e : x = g2.next := e
    omega
  have b4 : g4.get (g1.next + 1) = some (outB encI 3 (mat ((k + m) * k) fun _ => 0)) := by
    rw [hg4, AHeap.get_set, if_neg (by omega), k3.oth _ (by omega) (fun f => f)]; exact b2
  have y4 : g4.get h.next = some (.cells [.int .i64 0, .int .i64 0, .slice none 0 0] 54 true 0) := by
    rw [hg4, AHeap.get_set, if_neg (by omega), k3.oth _ (by omega) (fun f => f), k2.oth _ (by omega) (fun f => f)]; exact y1
  obtain ⟨g5, b5, o5, c5, n5, e5⟩ := rcau_l0 (D := D) (H0 := g4) (B := g1.next + 1) (ob := g2.next) hk hk1 hR (some ⟨h.next, 0, none⟩) k 0 g4 (by omega)
    (by rw [mat_ext (g := fun _ => 0) (fun t ht => by rw [if_neg (by omega)])]; exact b4) (by rw [hg4]; simp) (by omega) (.refl _ _)
  have y5 : g5.get h.next = some (.cells [.int .i64 0, .int .i64 0, .slice none 0 0] 54 true 0) := by
    rw [c5.oth h.next (by omega) (by omega)]; exact y4
  refine ⟨g5.set h.next (.cells (mcell ((k + m : Nat) : Int) k (whole (g1.next + 1) ((k + m) * k))) 54 true 0), g1.next + 1, ?_, ?_⟩
  · unfold ref04_Cauchy
    have w : IntKind.wrap .i64 ((k : Int) + (m : Int)) = ((k + m : Nat) : Int) := by rw [w64 _ (by omega)]; omega
    have w2 : IntKind.wrap .i64 (255 - (k : Int)) = 255 - (k : Int) := w64 _ (by omega)
    dsimp only
    rw [← hg1]
    refine jn ?_
    refine ifn (by rw [decide_eq_true_eq]; omega) ?_
    refine ifn (by rw [decide_eq_true_eq]; omega) ?_
    refine ifn (by rw [decide_eq_true_eq]; omega) ?_
    rw [w2]
    refine ifn (by rw [decide_eq_true_eq]; omega) ?_
    rw [w]
    refine bnd e2 ?_
    dsimp only
    rw [← hg3]
    refine bnd st3 ?_
    refine jn ?_
    unfold ref04_Cauchy_l0
    obtain ⟨bot, hbot⟩ := iterK_of (fun _ _ _ _ _ _ => none) (ref04_Cauchy_l0b k0 D _) (show k + 1 ≤ k0 by omega)
    rw [hbot]
    refine (e5 _ bot).trans ?_
    refine bnd rfl (bnd (ldM3 o5) (bnd (decM3 _ _ _) ?_))
    refine bnd rfl ?_
    refine bnd (stM3 (r := ((k + m : Nat) : Int)) (c := k) (s := whole (g1.next + 1) ((k + m) * k)) y5 rfl) ?_
    refine bnd rfl ?_
    refine bnd (ldM3 (r := ((k + m : Nat) : Int)) (c := k) (s := whole (g1.next + 1) ((k + m) * k)) (e := 54) (rw' := true) (fz := 0) (by simp)) ?_
    exact bnd (decM3 _ _ _) rfl
  · refine ⟨by rw [AHeap.get_set, if_neg (by omega)]; exact b5, by simp; omega, by omega, ?_⟩
    have c1 : Keeps h g5 := k04.beh c5 fun x hx e => by omega
    exact c1.beh (T := (· = h.next)) (.set (.inr rfl)) fun x hx e => by
      have e : x = h.next := e
      omega
end Gy

/-! The one that changes nothing; whether two are the same; the law MatrixMakes. -/
namespace Gy
open Go Gx Go.Proofs

def oneF (n : Nat) (t : Nat) : Int := if t / n = t % n then 1 else 0
def oneP (n i : Nat) (t : Nat) : Int := if t / n < i then oneF n t else 0
theorem oneP_upd {n i : Nat} (hi : i < n) (t : Nat) : upd (oneP n i) (i * n + i) 1 t = oneP n (i + 1) t := by
  simp only [upd]
  by_cases e : t = i * n + i
  · subst e
    rw [if_pos rfl]
    unfold oneP oneF
    rw [pos_div hi, pos_mod hi, if_pos (by omega), if_pos rfl]
  · rw [if_neg e]
    unfold oneP oneF
    have hdm := Nat.div_add_mod t n
    by_cases c : t / n < i
    · rw [if_pos c, if_pos (show t / n < i + 1 by omega)]
    · rw [if_neg c]
      by_cases c2 : t / n < i + 1
      · have e2 : t / n = i := by omega
        rw [if_pos c2, if_neg (fun e3 => e (by rw [← hdm, ← e3, e2, Nat.mul_comm]))]
      · rw [if_neg c2]

theorem one_l0 {k0 : Nat} {D : CallF} {H0 : AHeap} {B ob n : Nat} (hn1 : 0 < n) (hR : n ≤ 255) (y : Option Addr) : ∀ (m i : Nat) (h : AHeap), i + m = n →
    h.get B = some (outB encI 3 (mat (n * n) (oneP n i))) → h.get ob = some (.cells (mcell n n (whole B (n * n))) 51 true 0) → B ≠ ob → B < h.next → ob < h.next → Chg (· = B) H0 h →
    ∃ h', h'.get B = some (outB encI 3 (mat (n * n) (oneF n))) ∧ h'.get ob = some (.cells (mcell n n (whole B (n * n))) 51 true 0) ∧ Chg (· = B) H0 h' ∧ h.next ≤ h'.next ∧
      ∀ jj bot, iterK bot (m + 1) (matrix_One_l0b k0 D jj) y (some ⟨ob, 0, none⟩) (n : Int) (i : Int) h = jj y (some ⟨ob, 0, none⟩) h' := by
  intro m
  induction m with
  | zero =>
    intro i h hi hb ho hne lb lo hc
    obtain rfl : i = n := by omega
    refine ⟨h, ?_, ho, hc, Nat.le_refl _, fun jj bot => by rw [iterK_s, matrix_One_l0b]; exact ifn (by simp) rfl⟩
    rw [hb, mat_ext (g := oneF i) (fun t ht => by
      have : t / i < i := (Nat.div_lt_iff_lt_mul hn1).2 ht
      unfold oneP; rw [if_pos this])]
  | succ m ih =>
    intro i h hi hb ho hne lb lo hc
    have hi' : i < n := by omega
    have hN : n * n ≤ 100000 := Nat.le_trans (Nat.mul_le_mul hR hR) (by omega)
    have le : (i + 1) * n ≤ n * n := Nat.mul_le_mul_right n (by omega)
    have e0 : (i + 1) * n = i * n + n := Nat.succ_mul i n
    have hpos : i * n + i < n * n := by omega
    obtain ⟨h1, e1, k1, n1⟩ := row_spec k0 D (r := n) (c := n) (b := B) (i := i) h hi' hn1 hN
    have b1 : h1.get B = some (outB encI 3 (mat (n * n) (oneP n i))) := by rw [k1.oth B lb (fun f => f)]; exact hb
    have o1 : h1.get ob = some (.cells (mcell n n (whole B (n * n))) 51 true 0) := by rw [k1.oth ob lo (fun f => f)]; exact ho
    obtain ⟨h', b', o', c', n', e'⟩ := ih (i + 1) (h1.set B (outB encI 3 (mat (n * n) (upd (oneP n i) (i * n + i) 1)))) (by omega)
      (by rw [mat_ext (fun t _ => (oneP_upd hi' t).symm)]; simp) (by rw [AHeap.get_set, if_neg (fun e => hne e.symm)]; exact o1) hne (by simp; omega) (by simp; omega) ((hc.trans (Chg.keeps k1)).trans (Chg.set (.inr rfl)))
    refine ⟨h', b', o', c', by simp at n'; omega, fun jj bot => ?_⟩
    rw [iterK_s, matrix_One_l0b]
    refine ifp (by rw [decide_eq_true_eq]; omega) ?_
    refine bnd rfl (bnd (ldM3 ho) (bnd (decM3 _ _ _) ?_))
    refine bnd e1 ?_
    refine bnd (rowOf_idx hi') ?_
    refine bnd (stI_out 1 b1 hpos) ?_
    rw [w1 (by omega)]
    exact e' jj bot

theorem one_spec {k0 : Nat} (hk : 1000 ≤ k0) (D : CallF) {h : AHeap} {n : Nat} (hn1 : 0 < n) (hR : n ≤ 255) :
    ∃ h' B, matrix_One k0 D n h = some ((((n : Int), (n : Int), whole B (n * n)), 0), h') ∧ MadeR h h' B (n * n) (oneF n) := by
  obtain ⟨g1, hg1⟩ : ∃ g1, g1 = h.new (.cells [.int .i64 0, .int .i64 0, .slice none 0 0] 51 true 0) := ⟨_, rfl⟩
  have k1 : Keeps h g1 := hg1 ▸ Keeps.new h _
  have n1 : g1.next = h.next + 1 := by rw [hg1]; rfl
  have y1 : g1.get h.next = some (.cells [.int .i64 0, .int .i64 0, .slice none 0 0] 51 true 0) := by rw [hg1]; simp
  have hN : n * n ≤ 100000 := Nat.le_trans (Nat.mul_le_mul hR hR) (by omega)
  obtain ⟨g2, e2, k2, n2, b2⟩ := blank_spec k0 D n n g1 hN
  obtain ⟨g3, hg3⟩ : ∃ g3, g3 = g2.new (.cells [.int .i64 0, .int .i64 0, .slice none 0 0] 51 true 0) := ⟨_, rfl⟩
  have k3 : Keeps g2 g3 := hg3 ▸ Keeps.new g2 _
  have n3 : g3.next = g2.next + 1 := by rw [hg3]; rfl
  have o3 : g3.get g2.next = some (.cells [.int .i64 0, .int .i64 0, .slice none 0 0] 51 true 0) := by rw [hg3]; simp
  obtain ⟨g4, hg4⟩ : ∃ g4, g4 = g3.set g2.next (.cells (mcell n n (whole (g1.next + 1) (n * n))) 51 true 0) := ⟨_, rfl⟩
  have n4 : g4.next = g3.next := by rw [hg4]; rfl
  have st3 : stL 3 ⟨g2.next, 0, none⟩ (mcell n n (whole (g1.next + 1) (n * n))) g3 = some g4 := by rw [hg4]; exact stM3 o3 rfl
  have k04 : Keeps h g4 := ((k1.trans k2).trans k3).beh (T := (· = g2.next)) (hg4 ▸ Chg.set (.inr rfl)) fun x hx e => by
    have e : x = g2.next := e
    omega
  have b4 : g4.get (g1.next + 1) = some (outB encI 3 (mat (n * n) fun _ => 0)) := by
    rw [hg4, AHeap.get_set, if_neg (by omega), k3.oth _ (by omega) (fun f => f)]; exact b2
  have y4 : g4.get h.next = some (.cells [.int .i64 0, .int .i64 0, .slice none 0 0] 51 true 0) := by
    rw [hg4, AHeap.get_set, if_neg (by omega), k3.oth _ (by omega) (fun f => f), k2.oth _ (by omega) (fun f => f)]; exact y1
  obtain ⟨g5, b5, o5, c5, n5, e5⟩ := one_l0 (k0 := k0) (D := D) (H0 := g4) (B := g1.next + 1) (ob := g2.next) hn1 hR (some ⟨h.next, 0, none⟩) n 0 g4 (by omega)
    (by rw [mat_ext (g := fun _ => 0) (fun t ht => by unfold oneP; rw [if_neg (Nat.not_lt_zero _)])]; exact b4) (by rw [hg4]; simp) (by omega) (by omega) (by omega) (.refl _ _)
  have y5 : g5.get h.next = some (.cells [.int .i64 0, .int .i64 0, .slice none 0 0] 51 true 0) := by
    rw [c5.oth h.next (by omega) (by omega)]; exact y4
  refine ⟨g5.set h.next (.cells (mcell n n (whole (g1.next + 1) (n * n))) 51 true 0), g1.next + 1, ?_, ?_⟩
  · unfold matrix_One
    dsimp only
    rw [← hg1]
    refine jn ?_
    refine ifn (by rw [decide_eq_true_eq]; omega) ?_
    refine ifn (by rw [decide_eq_true_eq]; omega) ?_
    refine bnd e2 ?_
    dsimp only
    rw [← hg3]
    refine bnd st3 ?_
    refine jn ?_
    unfold matrix_One_l0
    obtain ⟨bot, hbot⟩ := iterK_of (fun _ _ _ _ _ => none) (matrix_One_l0b k0 D _) (show n + 1 ≤ k0 by omega)
    rw [hbot]
    refine (e5 _ bot).trans ?_
    refine bnd rfl (bnd (ldM3 o5) (bnd (decM3 _ _ _) ?_))
    refine bnd rfl ?_
    refine bnd (stM3 (r := n) (c := n) (s := whole (g1.next + 1) (n * n)) y5 rfl) ?_
    refine bnd rfl ?_
    refine bnd (ldM3 (r := n) (c := n) (s := whole (g1.next + 1) (n * n)) (e := 51) (rw' := true) (fz := 0) (by simp)) ?_
    exact bnd (decM3 _ _ _) rfl
  · refine ⟨by rw [AHeap.get_set, if_neg (by omega)]; exact b5, by simp; omega, by omega, ?_⟩
    have c1 : Keeps h g5 := k04.beh c5 fun x hx e => by omega
    exact c1.beh (T := (· = h.next)) (.set (.inr rfl)) fun x hx e => by
      have e : x = h.next := e
      omega

theorem rone_l0 {k0 : Nat} {D : CallF} {H0 : AHeap} {B ob n : Nat} (hn1 : 0 < n) (hR : n ≤ 255) (y : Option Addr) : ∀ (m i : Nat) (h : AHeap), i + m = n →
    h.get B = some (outB encI 3 (mat (n * n) (oneP n i))) → h.get ob = some (.cells (mcell n n (whole B (n * n))) 54 true 0) → B ≠ ob → Chg (· = B) H0 h →
    ∃ h', h'.get B = some (outB encI 3 (mat (n * n) (oneF n))) ∧ h'.get ob = some (.cells (mcell n n (whole B (n * n))) 54 true 0) ∧ Chg (· = B) H0 h' ∧ h'.next = h.next ∧
      ∀ jj bot, iterK bot (m + 1) (ref04_One_l0b k0 D jj) (n : Int) y (some ⟨ob, 0, none⟩) (i : Int) h = jj y (some ⟨ob, 0, none⟩) h' := by
  intro m
  induction m with
  | zero =>
    intro i h hi hb ho hne hc
    obtain rfl : i = n := by omega
    refine ⟨h, ?_, ho, hc, rfl, fun jj bot => by rw [iterK_s, ref04_One_l0b]; exact ifn (by simp) rfl⟩
    rw [hb, mat_ext (g := oneF i) (fun t ht => by
      have : t / i < i := (Nat.div_lt_iff_lt_mul hn1).2 ht
      unfold oneP; rw [if_pos this])]
  | succ m ih =>
    intro i h hi hb ho hne hc
    have hi' : i < n := by omega
    have hN : n * n ≤ 100000 := Nat.le_trans (Nat.mul_le_mul hR hR) (by omega)
    have le : (i + 1) * n ≤ n * n := Nat.mul_le_mul_right n (by omega)
    have e0 : (i + 1) * n = i * n + n := Nat.succ_mul i n
    have hpos : i * n + i < n * n := by omega
    obtain ⟨h', b', o', c', n', e'⟩ := ih (i + 1) (h.set B (outB encI 3 (mat (n * n) (upd (oneP n i) (i * n + i) 1)))) (by omega)
      (by rw [mat_ext (fun t _ => (oneP_upd hi' t).symm)]; simp) (by rw [AHeap.get_set, if_neg (fun e => hne e.symm)]; exact ho) hne (hc.trans (Chg.set (.inr rfl)))
    refine ⟨h', b', o', c', n', fun jj bot => ?_⟩
    rw [iterK_s, ref04_One_l0b]
    refine ifp (by rw [decide_eq_true_eq]; omega) ?_
    have w2 : IntKind.wrap .i64 ((i : Int) * (n : Int)) = ((i * n : Nat) : Int) := by
      rw [show (i : Int) * (n : Int) = ((i * n : Nat) : Int) by simp]
      exact w64 _ (by omega)
    have w3 : IntKind.wrap .i64 (((i * n : Nat) : Int) + (i : Int)) = ((i * n + i : Nat) : Int) := by rw [w64 _ (by omega)]; omega
    refine bnd rfl (bnd (ldL2 ho) ?_)
    rw [w2, w3]
    refine bnd (whole_idx hpos) ?_
    refine bnd (stI_out _ hb hpos) ?_
    rw [w1 (by omega)]
    exact e' jj bot

theorem rone_spec {k0 : Nat} (hk : 1000 ≤ k0) (D : CallF) {h : AHeap} {n : Nat} (hn1 : 0 < n) (hR : n ≤ 255) :
    ∃ h' B, ref04_One k0 D n h = some ((((n : Int), (n : Int), whole B (n * n)), 0), h') ∧ MadeR h h' B (n * n) (oneF n) := by
  obtain ⟨g1, hg1⟩ : ∃ g1, g1 = h.new (.cells [.int .i64 0, .int .i64 0, .slice none 0 0] 54 true 0) := ⟨_, rfl⟩
  have k1 : Keeps h g1 := hg1 ▸ Keeps.new h _
  have n1 : g1.next = h.next + 1 := by rw [hg1]; rfl
  have y1 : g1.get h.next = some (.cells [.int .i64 0, .int .i64 0, .slice none 0 0] 54 true 0) := by rw [hg1]; simp
  have hN : n * n ≤ 100000 := Nat.le_trans (Nat.mul_le_mul hR hR) (by omega)
  obtain ⟨g2, e2, k2, n2, b2⟩ := zero_spec k0 D n n g1 hN
  obtain ⟨g3, hg3⟩ : ∃ g3, g3 = g2.new (.cells [.int .i64 0, .int .i64 0, .slice none 0 0] 54 true 0) := ⟨_, rfl⟩
  have k3 : Keeps g2 g3 := hg3 ▸ Keeps.new g2 _
  have n3 : g3.next = g2.next + 1 := by rw [hg3]; rfl
  have o3 : g3.get g2.next = some (.cells [.int .i64 0, .int .i64 0, .slice none 0 0] 54 true 0) := by rw [hg3]; simp
  obtain ⟨g4, hg4⟩ : ∃ g4, g4 = g3.set g2.next (.cells (mcell n n (whole (g1.next + 1) (n * n))) 54 true 0) := ⟨_, rfl⟩
  have n4 : g4.next = g3.next := by rw [hg4]; rfl
  have st3 : stL 3 ⟨g2.next, 0, none⟩ (mcell n n (whole (g1.next + 1) (n * n))) g3 = some g4 := by rw [hg4]; exact stM3 o3 rfl
  have k04 : Keeps h g4 := ((k1.trans k2).trans k3).beh (T := (· = g2.next)) (hg4 ▸ Chg.set (.inr rfl)) fun x hx e => by
    have e : x = g2.next := e
    omega
  have b4 : g4.get (g1.next + 1) = some (outB encI 3 (mat (n * n) fun _ => 0)) := by
    rw [hg4, AHeap.get_set, if_neg (by omega), k3.oth _ (by omega) (fun f => f)]; exact b2
  have y4 : g4.get h.next = some (.cells [.int .i64 0, .int .i64 0, .slice none 0 0] 54 true 0) := by
    rw [hg4, AHeap.get_set, if_neg (by omega), k3.oth _ (by omega) (fun f => f), k2.oth _ (by omega) (fun f => f)]; exact y1
  obtain ⟨g5, b5, o5, c5, n5, e5⟩ := rone_l0 (k0 := k0) (D := D) (H0 := g4) (B := g1.next + 1) (ob := g2.next) hn1 hR (some ⟨h.next, 0, none⟩) n 0 g4 (by omega)
    (by rw [mat_ext (g := fun _ => 0) (fun t ht => by unfold oneP; rw [if_neg (Nat.not_lt_zero _)])]; exact b4) (by rw [hg4]; simp) (by omega) (.refl _ _)
  have y5 : g5.get h.next = some (.cells [.int .i64 0, .int .i64 0, .slice none 0 0] 54 true 0) := by
    rw [c5.oth h.next (by omega) (by omega)]; exact y4
  refine ⟨g5.set h.next (.cells (mcell n n (whole (g1.next + 1) (n * n))) 54 true 0), g1.next + 1, ?_, ?_⟩
  · unfold ref04_One
    dsimp only
    rw [← hg1]
    refine jn ?_
    refine ifn (by rw [decide_eq_true_eq]; omega) ?_
    refine ifn (by rw [decide_eq_true_eq]; omega) ?_
    refine bnd e2 ?_
    dsimp only
    rw [← hg3]
    refine bnd st3 ?_
    refine jn ?_
    unfold ref04_One_l0
    obtain ⟨bot, hbot⟩ := iterK_of (fun _ _ _ _ _ => none) (ref04_One_l0b k0 D _) (show n + 1 ≤ k0 by omega)
    rw [hbot]
    refine (e5 _ bot).trans ?_
    refine bnd rfl (bnd (ldM3 o5) (bnd (decM3 _ _ _) ?_))
    refine bnd rfl ?_
    refine bnd (stM3 (r := n) (c := n) (s := whole (g1.next + 1) (n * n)) y5 rfl) ?_
    refine bnd rfl ?_
    refine bnd (ldM3 (r := n) (c := n) (s := whole (g1.next + 1) (n * n)) (e := 54) (rw' := true) (fz := 0) (by simp)) ?_
    exact bnd (decM3 _ _ _) rfl
  · refine ⟨by rw [AHeap.get_set, if_neg (by omega)]; exact b5, by simp; omega, by omega, ?_⟩
    have c1 : Keeps h g5 := k04.beh c5 fun x hx e => by omega
    exact c1.beh (T := (· = h.next)) (.set (.inr rfl)) fun x hx e => by
      have e : x = h.next := e
      omega

/-! ### refusals -/
def nilS : Slc := ⟨none, 0, 0⟩
theorem cauchy_no (k0 : Nat) (D : CallF) (s : Option Addr) {k m : Int} (h : AHeap) (hb : k < 1 ∨ m < 0 ∨ k > 255 ∨ m > 255 - k) : ∃ h', matrix_Space_Cauchy k0 D s k m h = some (((0, 0, nilS), 1), h') ∧ Keeps h h' := by
  obtain ⟨g1, hg1⟩ : ∃ g1, g1 = h.new (.cells [.int .i64 0, .int .i64 0, .slice none 0 0] 51 true 0) := ⟨_, rfl⟩
  have k1 : Keeps h g1 := hg1 ▸ Keeps.new h _
  have y1 : g1.get h.next = some (.cells (mcell 0 0 nilS) 51 true 0) := by rw [hg1]; simp [mcell, nilS]
  have fin : ∀ {R : Type} (K : (Int × Int × Slc) → AHeap → Option R), ((some (⟨h.next, 0, none⟩ : Addr)).bind fun p9 => (stL 3 p9 ([.int .i64 0, .int .i64 0, .slice none 0 0]) g1).bind fun h10 => (some (⟨h.next, 0, none⟩ : Addr)).bind fun p11 => (ldA 3 p11 h10).bind fun l12 => (decC [.i .i64, .i .i64, .l] l12).bind fun x13 => K (x13.1, x13.2.1, x13.2.2) h10) = K (0, 0, nilS) g1 := fun K => by
    refine bnd rfl (bnd (stM3 (r := 0) (c := 0) (s := nilS) y1 rfl) ?_)
    rw [set_self y1]
    exact bnd rfl (bnd (ldM3 y1) (bnd (decM3 _ _ _) rfl))
  refine ⟨g1, ?_, k1⟩
  unfold matrix_Space_Cauchy
  dsimp only
  rw [← hg1]
  refine jn ?_
  by_cases c1 : k < 1
  · exact ifp (by rw [decide_eq_true_eq]; exact c1) (ifp rfl (fin fun x h => some ((x, 1), h)))
  · refine ifn (by rw [decide_eq_true_eq]; exact c1) ?_
    by_cases c2 : m < 0
    · exact ifp (by rw [decide_eq_true_eq]; exact c2) (ifp rfl (fin fun x h => some ((x, 1), h)))
    · refine ifn (by rw [decide_eq_true_eq]; exact c2) ?_
      by_cases c3 : k > 255
      · exact ifp (by rw [decide_eq_true_eq]; exact c3) (ifp rfl (fin fun x h => some ((x, 1), h)))
      · refine ifn (by rw [decide_eq_true_eq]; exact c3) ?_
        rw [w64 (255 - k) (by omega)]
        exact ifp (by rw [decide_eq_true_eq]; omega) (fin fun x h => some ((x, 1), h))
theorem rcauchy_no (k0 : Nat) (D : CallF) {k m : Int} (h : AHeap) (hb : k < 1 ∨ m < 0 ∨ k > 255 ∨ m > 255 - k) : ∃ h', ref04_Cauchy k0 D k m h = some (((0, 0, nilS), 1), h') ∧ Keeps h h' := by
  obtain ⟨g1, hg1⟩ : ∃ g1, g1 = h.new (.cells [.int .i64 0, .int .i64 0, .slice none 0 0] 54 true 0) := ⟨_, rfl⟩
  have k1 : Keeps h g1 := hg1 ▸ Keeps.new h _
  have y1 : g1.get h.next = some (.cells (mcell 0 0 nilS) 54 true 0) := by rw [hg1]; simp [mcell, nilS]
  have fin : ∀ {R : Type} (K : (Int × Int × Slc) → AHeap → Option R), ((some (⟨h.next, 0, none⟩ : Addr)).bind fun p9 => (stL 3 p9 ([.int .i64 0, .int .i64 0, .slice none 0 0]) g1).bind fun h10 => (some (⟨h.next, 0, none⟩ : Addr)).bind fun p11 => (ldA 3 p11 h10).bind fun l12 => (decC [.i .i64, .i .i64, .l] l12).bind fun x13 => K (x13.1, x13.2.1, x13.2.2) h10) = K (0, 0, nilS) g1 := fun K => by
    refine bnd rfl (bnd (stM3 (r := 0) (c := 0) (s := nilS) y1 rfl) ?_)
    rw [set_self y1]
    exact bnd rfl (bnd (ldM3 y1) (bnd (decM3 _ _ _) rfl))
  refine ⟨g1, ?_, k1⟩
  unfold ref04_Cauchy
  dsimp only
  rw [← hg1]
  refine jn ?_
  by_cases c1 : k < 1
  · exact ifp (by rw [decide_eq_true_eq]; exact c1) (ifp rfl (fin fun x h => some ((x, 1), h)))
  · refine ifn (by rw [decide_eq_true_eq]; exact c1) ?_
    by_cases c2 : m < 0
    · exact ifp (by rw [decide_eq_true_eq]; exact c2) (ifp rfl (fin fun x h => some ((x, 1), h)))
    · refine ifn (by rw [decide_eq_true_eq]; exact c2) ?_
      by_cases c3 : k > 255
      · exact ifp (by rw [decide_eq_true_eq]; exact c3) (ifp rfl (fin fun x h => some ((x, 1), h)))
      · refine ifn (by rw [decide_eq_true_eq]; exact c3) ?_
        rw [w64 (255 - k) (by omega)]
        exact ifp (by rw [decide_eq_true_eq]; omega) (fin fun x h => some ((x, 1), h))
theorem one_no (k0 : Nat) (D : CallF) {n : Int} (h : AHeap) (hb : n < 1 ∨ n > 255) : ∃ h', matrix_One k0 D n h = some (((0, 0, nilS), 1), h') ∧ Keeps h h' := by
  obtain ⟨g1, hg1⟩ : ∃ g1, g1 = h.new (.cells [.int .i64 0, .int .i64 0, .slice none 0 0] 51 true 0) := ⟨_, rfl⟩
  have k1 : Keeps h g1 := hg1 ▸ Keeps.new h _
  have y1 : g1.get h.next = some (.cells (mcell 0 0 nilS) 51 true 0) := by rw [hg1]; simp [mcell, nilS]
  have fin : ∀ {R : Type} (K : (Int × Int × Slc) → AHeap → Option R), ((some (⟨h.next, 0, none⟩ : Addr)).bind fun p9 => (stL 3 p9 ([.int .i64 0, .int .i64 0, .slice none 0 0]) g1).bind fun h10 => (some (⟨h.next, 0, none⟩ : Addr)).bind fun p11 => (ldA 3 p11 h10).bind fun l12 => (decC [.i .i64, .i .i64, .l] l12).bind fun x13 => K (x13.1, x13.2.1, x13.2.2) h10) = K (0, 0, nilS) g1 := fun K => by
    refine bnd rfl (bnd (stM3 (r := 0) (c := 0) (s := nilS) y1 rfl) ?_)
    rw [set_self y1]
    exact bnd rfl (bnd (ldM3 y1) (bnd (decM3 _ _ _) rfl))
  refine ⟨g1, ?_, k1⟩
  unfold matrix_One
  dsimp only
  rw [← hg1]
  refine jn ?_
  by_cases c1 : n < 1
  · exact ifp (by rw [decide_eq_true_eq]; exact c1) (ifp rfl (fin fun x h => some ((x, 1), h)))
  · refine ifn (by rw [decide_eq_true_eq]; exact c1) ?_
    exact ifp (by rw [decide_eq_true_eq]; omega) (fin fun x h => some ((x, 1), h))
theorem rone_no (k0 : Nat) (D : CallF) {n : Int} (h : AHeap) (hb : n < 1 ∨ n > 255) : ∃ h', ref04_One k0 D n h = some (((0, 0, nilS), 1), h') ∧ Keeps h h' := by
  obtain ⟨g1, hg1⟩ : ∃ g1, g1 = h.new (.cells [.int .i64 0, .int .i64 0, .slice none 0 0] 54 true 0) := ⟨_, rfl⟩
  have k1 : Keeps h g1 := hg1 ▸ Keeps.new h _
  have y1 : g1.get h.next = some (.cells (mcell 0 0 nilS) 54 true 0) := by rw [hg1]; simp [mcell, nilS]
  have fin : ∀ {R : Type} (K : (Int × Int × Slc) → AHeap → Option R), ((some (⟨h.next, 0, none⟩ : Addr)).bind fun p9 => (stL 3 p9 ([.int .i64 0, .int .i64 0, .slice none 0 0]) g1).bind fun h10 => (some (⟨h.next, 0, none⟩ : Addr)).bind fun p11 => (ldA 3 p11 h10).bind fun l12 => (decC [.i .i64, .i .i64, .l] l12).bind fun x13 => K (x13.1, x13.2.1, x13.2.2) h10) = K (0, 0, nilS) g1 := fun K => by
    refine bnd rfl (bnd (stM3 (r := 0) (c := 0) (s := nilS) y1 rfl) ?_)
    rw [set_self y1]
    exact bnd rfl (bnd (ldM3 y1) (bnd (decM3 _ _ _) rfl))
  refine ⟨g1, ?_, k1⟩
  unfold ref04_One
  dsimp only
  rw [← hg1]
  refine jn ?_
  by_cases c1 : n < 1
  · exact ifp (by rw [decide_eq_true_eq]; exact c1) (ifp rfl (fin fun x h => some ((x, 1), h)))
  · refine ifn (by rw [decide_eq_true_eq]; exact c1) ?_
    exact ifp (by rw [decide_eq_true_eq]; omega) (fin fun x h => some ((x, 1), h))

/-! ### the same -/
theorem same_spec {k0 : Nat} (D : CallF) {h : AHeap} {r c : Int} {s t : Slc} {xs : List Int} (Rs : Row encI h s xs) (Rt : Row encI h t xs) (hk : xs.length < k0) (hl : xs.length < 9223372036854775807) :
    ∃ h', law04_same k0 D (r, c, s) (r, c, t) h = some (true, h') ∧ Keeps h h' := by
  obtain ⟨g1, hg1⟩ : ∃ g1, g1 = h.new (.cells [.int .i64 r, .int .i64 c, .slice s.a s.len s.cap] 51 true 0) := ⟨_, rfl⟩
  obtain ⟨g2, hg2⟩ : ∃ g2, g2 = g1.new (.cells [.int .i64 r, .int .i64 c, .slice t.a t.len t.cap] 54 true 0) := ⟨_, rfl⟩
  have k1 : Keeps h g1 := hg1 ▸ Keeps.new h _
  have k2 : Keeps g1 g2 := hg2 ▸ Keeps.new g1 _
  have n1 : g1.next = h.next + 1 := by rw [hg1]; rfl
  have b1 : g2.get h.next = some (.cells (mcell r c s) 51 true 0) := by rw [k2.oth _ (by omega) (fun f => f), hg1]; simp [mcell]
  have b2 : g2.get g1.next = some (.cells (mcell r c t) 54 true 0) := by rw [hg2]; simp [mcell]
  have k12 := k1.trans k2
  refine ⟨g2, ?_, k12⟩
  unfold law04_same
  dsimp only
  rw [← hg1, ← hg2]
  refine bnd (ldI0 b1) (bnd (ldI0 b2) ?_)
  refine ifp (by simp) ?_
  refine bnd (ldI1 b1) (bnd (ldI1 b2) ?_)
  refine ifp (by simp) ?_
  refine bnd (ldL2 b1) (bnd (ldL2 b2) ?_)
  exact bnd (sameI_spec (k := k0) D (Rs.keeps k12) (Rt.keeps k12) hk hl) rfl

theorem works4_spec {k0 : Nat} (hk : 1000 ≤ k0) (h : AHeap) : ∃ h', law04_works k0 (DD k0) h = some (true, h') ∧ Keeps h h' := by
  obtain ⟨h1, e1, k1, S1, n1⟩ := mnew_spec k0 (DD k0) h
  obtain ⟨h2, B, e2, S2, M2⟩ := cauchy_spec hk (k := 1) (m := 1) S1 (by omega) (by omega)
  obtain ⟨h3, hh3⟩ : ∃ h3, h3 = h2.new (.cells [.int .i64 0, .int .i64 0, .slice none 0 0] 51 true 0) := ⟨_, rfl⟩
  have k3 : Keeps h2 h3 := hh3 ▸ Keeps.new h2 _
  have n3 : h3.next = h2.next + 1 := by rw [hh3]; rfl
  obtain ⟨h4, hh4⟩ : ∃ h4, h4 = h3.set h2.next (.cells (mcell 2 1 (whole B 2)) 51 true 0) := ⟨_, rfl⟩
  have n4 : h4.next = h3.next := by rw [hh4]; rfl
  have st4 : stL 3 ⟨h2.next, 0, none⟩ (mcell 2 1 (whole B 2)) h3 = some h4 := by rw [hh4]; exact stM3 (cs := [.int .i64 0, .int .i64 0, .slice none 0 0]) (e := 51) (by rw [hh3]; simp) rfl
  have b4 : h4.get h2.next = some (.cells (mcell 2 1 (whole B 2)) 51 true 0) := by rw [hh4]; simp
  have lb := M2.lb
  have m4 : h4.get B = some (outB encI 3 (mat 2 (cau 1))) := by
    rw [hh4, AHeap.get_set, if_neg (by omega), k3.oth _ lb (fun f => f)]; exact M2.blk
  obtain ⟨h5, hh5⟩ : ∃ h5, h5 = h4.new (.cells [.int .i64 1, .int .i64 1] 3 true 0) := ⟨_, rfl⟩
  have k5 : Keeps h4 h5 := hh5 ▸ Keeps.new h4 _
  have R1 : Row encI h5 (whole B 2) [1, 1] := by
    have := whole_row (h := h5) (b := B) (N := 2) (sp := some 0) (f := cau 1) (by rw [k5.oth _ (by omega) (fun f => f)]; exact m4) (by have := k5.nx; omega)
    rw [show mat 2 (cau 1) = [1, 1] from by decide +kernel] at this
    exact this
  have R2 : Row encI h5 ⟨some ⟨h4.next, 0, some 0⟩, 2, 2⟩ [1, 1] := by
    have := Row.of_block (enc := encI) (h := h5) (xs := [1, 1]) (b := h4.next) (o := 0) (sp := some 0) (cap := 2) (c := ([1, 1] : List Int).map encI) (e := 3) (r := true) (fz := 0) (by rw [hh5]; simp [encI]) (by rw [hh5]; simp) (fun i x hx => by rw [Nat.zero_add, List.getElem?_map, hx]; rfl)
    exact this
  have kk : Keeps h h5 := by
    have c1 : Keeps h h2 := k1.beh M2.ch fun x hx e => by
      have := S1.lf
      omega
    have c2 : Keeps h h4 := (c1.trans k3).beh (T := (· = h2.next)) (hh4 ▸ Chg.set (.inr rfl)) fun x hx e => by
      have e : x = h2.next := e
      have := c1.nx
      omega
    exact c2.trans k5
  refine ⟨h5, ?_, kk⟩
  unfold law04_works
  refine bnd e1 ?_
  refine ifn (by simp) ?_
  refine bnd e2 ?_
  dsimp only
  rw [← hh3]
  refine bnd st4 ?_
  refine ifp (by simp) ?_
  refine bnd (ldI0 b4) (ifp (by simp) ?_)
  refine bnd (ldI1 b4) (ifp (by simp) ?_)
  refine bnd (ldL2 b4) ?_
  rw [← hh5]
  exact bnd (sameI_spec (k := k0) (DD k0) R1 R2 (by simp; omega) (by simp)) rfl

/-- what a call of one of the four gives: a matrix, a code; both hands the same -/
structure Both (h h' : AHeap) (s : Slc) (xs : List Int) : Prop where
  row : Row encI h' s xs
  off : ∀ a, s.a = some a → h.next ≤ a.block
theorem MadeM.row {h h' : AHeap} {fb B N : Nat} {f : Nat → Int} (M : MadeM h h' fb B N f) : Row encI h' (whole B N) (mat N f) := whole_row M.blk M.lb
theorem MadeR.row {h h' : AHeap} {B N : Nat} {f : Nat → Int} (M : MadeR h h' B N f) : Row encI h' (whole B N) (mat N f) := whole_row M.blk M.lb
theorem whole_off {b N : Nat} {n : Nat} (hb : n ≤ b) : ∀ a, (whole b N).a = some a → n ≤ a.block := fun a ha => by cases ha; exact hb

/-- Cauchy, whatever the numbers -/
theorem cauchy_any {k0 : Nat} (hk : 1000 ≤ k0) {h : AHeap} {sb fb : Nat} (S : Spc h sb fb) (k m : Int) :
    ∃ h' r c s xs code, matrix_Space_Cauchy k0 (DD k0) (some ⟨sb, 0, none⟩) k m h = some (((r, c, s), code), h') ∧ Spc h' sb fb ∧ Chg (· = fb) h h' ∧ Row encI h' s xs ∧ (∀ a, s.a = some a → h.next ≤ a.block) ∧ xs.length ≤ 100000 ∧
      ∀ (D : CallF) (g : AHeap), ∃ g' t, ref04_Cauchy k0 D k m g = some (((r, c, t), code), g') ∧ Keeps g g' ∧ Row encI g' t xs := by
  by_cases hb : k < 1 ∨ m < 0 ∨ k > 255 ∨ m > 255 - k
  · obtain ⟨h', e, kp⟩ := cauchy_no k0 (DD k0) (some ⟨sb, 0, none⟩) h hb
    refine ⟨h', 0, 0, nilS, [], 1, e, S.keeps kp, Chg.keeps kp, Row.nil _ _ _ _, by simp [nilS], by simp, fun D g => ?_⟩
    obtain ⟨g', e', kp'⟩ := rcauchy_no k0 D g hb
    exact ⟨g', nilS, e', kp', Row.nil _ _ _ _⟩
  · obtain ⟨a, rfl⟩ : ∃ a : Nat, k = a := ⟨k.toNat, by omega⟩
    obtain ⟨b, rfl⟩ : ∃ b : Nat, m = b := ⟨m.toNat, by omega⟩
    obtain ⟨h', B, e, S', M⟩ := cauchy_spec hk S (k := a) (m := b) (by omega) (by omega)
    have hN : (a + b) * a ≤ 100000 := Nat.le_trans (Nat.mul_le_mul (show a + b ≤ 255 by omega) (show a ≤ 255 by omega)) (by omega)
    refine ⟨h', _, _, _, mat ((a + b) * a) (cau a), 0, e, S', M.ch, M.row, whole_off M.nb, by rw [mat_length]; exact hN, fun D g => ?_⟩
    obtain ⟨g', B', e', M'⟩ := rcauchy_spec hk D (h := g) (k := a) (m := b) (by omega) (by omega)
    exact ⟨g', _, e', M'.ch, M'.row⟩
theorem one_any {k0 : Nat} (hk : 1000 ≤ k0) (D : CallF) (h : AHeap) (n : Int) :
    ∃ h' r c s xs code, matrix_One k0 D n h = some (((r, c, s), code), h') ∧ Keeps h h' ∧ Row encI h' s xs ∧ xs.length ≤ 100000 ∧
      ∀ (D : CallF) (g : AHeap), ∃ g' t, ref04_One k0 D n g = some (((r, c, t), code), g') ∧ Keeps g g' ∧ Row encI g' t xs := by
  by_cases hb : n < 1 ∨ n > 255
  · obtain ⟨h', e, kp⟩ := one_no k0 D h hb
    refine ⟨h', 0, 0, nilS, [], 1, e, kp, Row.nil _ _ _ _, by simp, fun D g => ?_⟩
    obtain ⟨g', e', kp'⟩ := rone_no k0 D g hb
    exact ⟨g', nilS, e', kp', Row.nil _ _ _ _⟩
  · obtain ⟨a, rfl⟩ : ∃ a : Nat, n = a := ⟨n.toNat, by omega⟩
    obtain ⟨h', B, e, M⟩ := one_spec hk D (h := h) (n := a) (by omega) (by omega)
    have hN : a * a ≤ 100000 := Nat.le_trans (Nat.mul_le_mul (show a ≤ 255 by omega) (show a ≤ 255 by omega)) (by omega)
    refine ⟨h', _, _, _, mat (a * a) (oneF a), 0, e, M.ch, M.row, by rw [mat_length]; exact hN, fun D g => ?_⟩
    obtain ⟨g', B', e', M'⟩ := rone_spec hk D (h := g) (n := a) (by omega) (by omega)
    exact ⟨g', _, e', M'.ch, M'.row⟩

/-- a variable for a matrix -/
theorem mvar {h : AHeap} {e : TypeId} {r c : Int} {s : Slc} : ∃ h', stL 3 ⟨h.next, 0, none⟩ (mcell r c s) (h.new (.cells [.int .i64 0, .int .i64 0, .slice none 0 0] e true 0)) = some h' ∧ Keeps h h' ∧ h'.next = h.next + 1 ∧ h'.get h.next = some (.cells (mcell r c s) e true 0) := by
  refine ⟨_, stM3 (cs := [.int .i64 0, .int .i64 0, .slice none 0 0]) (e := e) (by simp) rfl, ?_, by simp, by simp⟩
  exact new_out _ _ rfl

theorem makes_true {k0 : Nat} (hk : 200000 ≤ k0) (k m : Int) : ∃ h', law04_MatrixMakes k0 (DD k0) k m Gx.h0 = some (true, h') := by
  have hk' : 1000 ≤ k0 := by omega
  obtain ⟨h1, e1, k1, S1, n1⟩ := mnew_spec k0 (DD k0) Gx.h0
  obtain ⟨h2, e2, k2⟩ := works4_spec hk' h1
  have S2 := S1.keeps k2
  obtain ⟨h3, r3, c3, s3, xs3, q3, e3, S3, ch3, R3, o3, l3, ref3⟩ := cauchy_any hk' S2 k m
  obtain ⟨h4, st4, k4, n4, b4⟩ := mvar (h := h3) (e := 51) (r := r3) (c := c3) (s := s3)
  obtain ⟨h5, t5, e5, k5, R5⟩ := ref3 (DD k0) h4
  obtain ⟨h6, st6, k6, n6, b6⟩ := mvar (h := h5) (e := 54) (r := r3) (c := c3) (s := t5)
  obtain ⟨h7, r7, c7, s7, xs7, q7, e7, k7, R7, l7, ref7⟩ := one_any hk' (DD k0) h6 k
  obtain ⟨h8, st8, k8, n8, b8⟩ := mvar (h := h7) (e := 51) (r := r7) (c := c7) (s := s7)
  obtain ⟨h9, t9, e9, k9, R9⟩ := ref7 (DD k0) h8
  obtain ⟨h10, st10, k10, n10, b10⟩ := mvar (h := h9) (e := 54) (r := r7) (c := c7) (s := t9)
  have k4_5 : Keeps h4 h5 := k5
  have k4_10 : Keeps h4 h10 := ((((k5.trans k6).trans k7).trans k8).trans k9).trans k10
  have k6_10 : Keeps h6 h10 := ((k7.trans k8).trans k9).trans k10
  have k8_10 : Keeps h8 h10 := k9.trans k10
  have bA : h10.get h3.next = some (.cells (mcell r3 c3 s3) 51 true 0) := by rw [k4_10.oth _ (by omega) (fun f => f)]; exact b4
  have bB : h10.get h5.next = some (.cells (mcell r3 c3 t5) 54 true 0) := by rw [k6_10.oth _ (by omega) (fun f => f)]; exact b6
  have bC : h10.get h7.next = some (.cells (mcell r7 c7 s7) 51 true 0) := by rw [k8_10.oth _ (by omega) (fun f => f)]; exact b8
  have RA := R3.keeps (k4.trans k4_10)
  have RB := R5.keeps (k6.trans k6_10)
  have RC := R7.keeps (k8.trans k8_10)
  have RD := R9.keeps k10
  obtain ⟨h11, e11, k11⟩ := same_spec (k0 := k0) (DD k0) (r := r3) (c := c3) RA RB (by omega) (by omega)
  have bC' : h11.get h7.next = some (.cells (mcell r7 c7 s7) 51 true 0) := by rw [k11.oth _ (by have := k8_10.nx; omega) (fun f => f)]; exact bC
  have bD' : h11.get h9.next = some (.cells (mcell r7 c7 t9) 54 true 0) := by rw [k11.oth _ (by omega) (fun f => f)]; exact b10
  obtain ⟨h12, e12, k12⟩ := same_spec (k0 := k0) (DD k0) (r := r7) (c := c7) (RC.keeps k11) (RD.keeps k11) (by omega) (by omega)
  have go : ∀ {y : Bool}, ∃ h', (if y = true then some (true, h2) else
      (matrix_Space_Cauchy k0 (DD k0) (some ⟨Gx.h0.next + 1, 0, none⟩) k m h2).bind fun r14 =>
      (stL 3 (⟨r14.2.next, 0, none⟩ : Addr) ([.int .i64 r14.1.1.1, .int .i64 r14.1.1.2.1, .slice r14.1.1.2.2.a r14.1.1.2.2.len r14.1.1.2.2.cap]) (AHeap.new r14.2 (.cells [.int .i64 0, .int .i64 0, .slice none 0 0] 51 true 0))).bind fun h16 =>
      (ref04_Cauchy k0 (DD k0) k m h16).bind fun r17 =>
      (stL 3 (⟨r17.2.next, 0, none⟩ : Addr) ([.int .i64 r17.1.1.1, .int .i64 r17.1.1.2.1, .slice r17.1.1.2.2.a r17.1.1.2.2.len r17.1.1.2.2.cap]) (AHeap.new r17.2 (.cells [.int .i64 0, .int .i64 0, .slice none 0 0] 54 true 0))).bind fun h19 =>
      (matrix_One k0 (DD k0) k h19).bind fun r20 =>
      (stL 3 (⟨r20.2.next, 0, none⟩ : Addr) ([.int .i64 r20.1.1.1, .int .i64 r20.1.1.2.1, .slice r20.1.1.2.2.a r20.1.1.2.2.len r20.1.1.2.2.cap]) (AHeap.new r20.2 (.cells [.int .i64 0, .int .i64 0, .slice none 0 0] 51 true 0))).bind fun h22 =>
      (ref04_One k0 (DD k0) k h22).bind fun r23 =>
      (stL 3 (⟨r23.2.next, 0, none⟩ : Addr) ([.int .i64 r23.1.1.1, .int .i64 r23.1.1.2.1, .slice r23.1.1.2.2.a r23.1.1.2.2.len r23.1.1.2.2.cap]) (AHeap.new r23.2 (.cells [.int .i64 0, .int .i64 0, .slice none 0 0] 54 true 0))).bind fun h25 =>
      (ldA 3 (⟨r14.2.next, 0, none⟩ : Addr) h25).bind fun l26 =>
      (decC [.i .i64, .i .i64, .l] l26).bind fun x27 =>
      (ldA 3 (⟨r17.2.next, 0, none⟩ : Addr) h25).bind fun l28 =>
      (decC [.i .i64, .i .i64, .l] l28).bind fun x29 =>
      (law04_same k0 (DD k0) (x27.1, x27.2.1, x27.2.2) (x29.1, x29.2.1, x29.2.2) h25).bind fun r30 =>
      (if r30.1 = true then
      (if (r14.1.2 == r17.1.2) = true then
      (ldA 3 (⟨r20.2.next, 0, none⟩ : Addr) r30.2).bind fun l31 =>
      (decC [.i .i64, .i .i64, .l] l31).bind fun x32 =>
      (ldA 3 (⟨r23.2.next, 0, none⟩ : Addr) r30.2).bind fun l33 =>
      (decC [.i .i64, .i .i64, .l] l33).bind fun x34 =>
      (law04_same k0 (DD k0) (x32.1, x32.2.1, x32.2.2) (x34.1, x34.2.1, x34.2.2) r30.2).bind fun r35 =>
      (if r35.1 = true then
      some ((r20.1.2 == r23.1.2), r35.2)
      else
      some (false, r35.2))
      else
      some (false, r30.2))
      else
      some (false, r30.2))) = some (true, h') := fun {y} => by
    cases y with
    | true => exact ⟨h2, ifp rfl rfl⟩
    | false =>
      refine ⟨h12, ifn (by simp) ?_⟩
      refine bnd e3 (bnd st4 ?_)
      refine bnd e5 (bnd st6 ?_)
      refine bnd e7 (bnd st8 ?_)
      refine bnd e9 (bnd st10 ?_)
      refine bnd (ldM3 bA) (bnd (decM3 _ _ _) (bnd (ldM3 bB) (bnd (decM3 _ _ _) ?_)))
      refine bnd e11 ?_
      refine ifp rfl ?_
      refine ifp (by simp) ?_
      refine bnd (ldM3 bC') (bnd (decM3 _ _ _) (bnd (ldM3 bD') (bnd (decM3 _ _ _) ?_)))
      refine bnd e12 ?_
      exact ifp rfl (by simp)
  unfold law04_MatrixMakes
  by_cases c1 : k > 40
  · by_cases c2 : k ≤ 255
    · obtain ⟨h', e⟩ := go (y := true)
      refine ⟨h', bnd e1 (jn (ifn (by simp) (bnd e2 (ifn (by simp) (jn ?_)))))⟩
      exact ifp (by rw [decide_eq_true_eq]; exact c1) (ifp (by rw [decide_eq_true_eq]; exact c2) e)
    · by_cases c3 : m > 40
      · obtain ⟨h', e⟩ := go (y := decide (m ≤ 255))
        refine ⟨h', bnd e1 (jn (ifn (by simp) (bnd e2 (ifn (by simp) (jn ?_)))))⟩
        exact ifp (by rw [decide_eq_true_eq]; exact c1) (ifn (by rw [decide_eq_true_eq]; exact c2) (ifp (by rw [decide_eq_true_eq]; exact c3) e))
      · obtain ⟨h', e⟩ := go (y := false)
        refine ⟨h', bnd e1 (jn (ifn (by simp) (bnd e2 (ifn (by simp) (jn ?_)))))⟩
        exact ifp (by rw [decide_eq_true_eq]; exact c1) (ifn (by rw [decide_eq_true_eq]; exact c2) (ifn (by rw [decide_eq_true_eq]; exact c3) e))
  · by_cases c3 : m > 40
    · obtain ⟨h', e⟩ := go (y := decide (m ≤ 255))
      refine ⟨h', bnd e1 (jn (ifn (by simp) (bnd e2 (ifn (by simp) (jn ?_)))))⟩
      exact ifn (by rw [decide_eq_true_eq]; exact c1) (ifp (by rw [decide_eq_true_eq]; exact c3) e)
    · obtain ⟨h', e⟩ := go (y := false)
      refine ⟨h', bnd e1 (jn (ifn (by simp) (bnd e2 (ifn (by simp) (jn ?_)))))⟩
      exact ifn (by rw [decide_eq_true_eq]; exact c1) (ifn (by rw [decide_eq_true_eq]; exact c3) e)
end Gy

/-! Matrices that are turned in place. -/
namespace Gy
open Go Gx Go.Proofs

/-- contents that are elements -/
def matN (N : Nat) (g : Nat → Nat) : List Int := mat N fun t => (g t : Int)
/-- a block that is a matrix's -/
structure Mx (h : AHeap) (B N : Nat) (g : Nat → Nat) : Prop where
  blk : h.get B = some (outB encI 3 (matN N g))
  lt : B < h.next
  el : ∀ t, t < N → g t < 256
theorem Mx.chg {S : Nat → Prop} {h h' : AHeap} {B N : Nat} {g : Nat → Nat} (m : Mx h B N g) (c : Chg S h h') (hs : ¬ S B) : Mx h' B N g := ⟨by rw [c.oth B m.lt hs]; exact m.blk, Nat.lt_of_lt_of_le m.lt c.nx, m.el⟩
theorem Mx.keeps {h h' : AHeap} {B N : Nat} {g : Nat → Nat} (m : Mx h B N g) (c : Keeps h h') : Mx h' B N g := m.chg c fun f => f
theorem Mx.congr {h : AHeap} {B N : Nat} {g g' : Nat → Nat} (m : Mx h B N g) (e : ∀ t, t < N → g t = g' t) : Mx h B N g' :=
  ⟨by rw [m.blk]; unfold matN; rw [mat_ext fun t ht => by rw [e t ht]], m.lt, fun t ht => by rw [← e t ht]; exact m.el t ht⟩
theorem Mx.row {h : AHeap} {B N : Nat} {sp : Option Nat} {g : Nat → Nat} (m : Mx h B N g) : Row encI h (whole B N sp) (matN N g) := whole_row m.blk m.lt
theorem Mx.rd {h : AHeap} {B N t : Nat} {sp : Option Nat} {g : Nat → Nat} (m : Mx h B N g) (ht : t < N) : ldI .i64 ⟨B, t, sp⟩ h = some (g t : Int) := by
  refine ldI_of m.blk ?_
  rw [List.getElem?_map, matN, mat_get ht]; rfl
def updN (g : Nat → Nat) (t x : Nat) : Nat → Nat := fun s => if s = t then x else g s
theorem Mx.wr {h : AHeap} {B N t : Nat} {sp : Option Nat} {g : Nat → Nat} (m : Mx h B N g) (ht : t < N) {x : Nat} (hx : x < 256) :
    st1 ⟨B, t, sp⟩ (.int .i64 (x : Int)) h = some (h.set B (outB encI 3 (matN N (updN g t x)))) ∧ Mx (h.set B (outB encI 3 (matN N (updN g t x)))) B N (updN g t x) := by
  have e : matN N (updN g t x) = mat N (upd (fun t => (g t : Int)) t (x : Int)) := by
    unfold matN
    refine mat_congr fun s _ => ?_
    simp only [upd, updN]
    by_cases c : s = t
    · rw [if_pos c, if_pos c]
    · rw [if_neg c, if_neg c]
  refine ⟨by rw [e]; exact stI_out (x : Int) m.blk ht, ⟨by simp, m.lt, fun s hs => ?_⟩⟩
  unfold updN
  split
  · exact hx
  · exact m.el s hs

/-! ### checks -/
def elemB (x : Int) : Bool := !(decide (x < 0) || decide (x ≥ 256))
def chk (r c : Int) (xs : List Int) : Int := if r < 1 ∨ c < 1 ∨ r > 255 ∨ c > 255 then 1 else if (xs.length : Int) ≠ r * c then 4 else if xs.all elemB then 0 else 1

theorem check_l0 (K : Nat) (D : CallF) (j) {s : Slc} {xs : List Int} {h : AHeap} (R : Row encI h s xs) (hl : xs.length < 9223372036854775807) : ∀ (m i : Nat), i + m = xs.length → ∀ bot,
    iterK bot (m + 1) (matrix_Check_l0b K D j) s (xs.length : Int) (i : Int) h = if (xs.drop i).all elemB = true then j h else some (1, h)
  | 0, i, hi, bot => by
    rw [iterK_s, matrix_Check_l0b]
    refine ifn (by rw [decide_eq_true_eq]; omega) ?_
    rw [List.drop_eq_nil_of_le (by omega)]
    rfl
  | m + 1, i, hi, bot => by
    obtain ⟨x, hx⟩ := isome (l := xs) (i := i) (by omega)
    obtain ⟨q, hq, hld⟩ := R.ldI hx
    have ih := check_l0 K D j R hl m (i + 1) (by omega) bot
    rw [iterK_s, matrix_Check_l0b]
    refine ifp (by rw [decide_eq_true_eq]; omega) ?_
    refine bnd hq (bnd hld (jn ?_))
    rw [dropc hx]
    dsimp only
    rw [w1 (by omega), ih]
    simp only [List.all_cons, elemB]
    by_cases c1 : x < 0
    · simp [c1]
    · by_cases c2 : x ≥ 256
      · simp [c1, c2]
      · simp [c1, c2]
theorem check_spec {k0 : Nat} (D : CallF) {h : AHeap} {r c : Int} {s : Slc} {xs : List Int} (R : Row encI h s xs) (hk : xs.length < k0) (hl : xs.length < 9223372036854775807) :
    ∃ h', matrix_Check k0 D (r, c, s) h = some (chk r c xs, h') ∧ Keeps h h' := by
  obtain ⟨g1, hg1⟩ : ∃ g1, g1 = h.new (.cells [.int .i64 r, .int .i64 c, .slice s.a s.len s.cap] 51 true 0) := ⟨_, rfl⟩
  have k1 : Keeps h g1 := hg1 ▸ Keeps.new h _
  have b1 : g1.get h.next = some (.cells (mcell r c s) 51 true 0) := by rw [hg1]; simp [mcell]
  refine ⟨g1, ?_, k1⟩
  unfold matrix_Check
  dsimp only
  rw [← hg1]
  refine jn ?_
  have i0 := ldI0 (sp := none) b1
  have i1 := ldI1 (sp := none) b1
  have i2 := ldL2 (sp := none) b1
  unfold chk
  have fin : r ≥ 1 → c ≥ 1 → r ≤ 255 → c ≤ 255 → ((some (⟨h.next, 0, none⟩ : Addr)).bind fun p6 =>
      (ldL (⟨p6.block, p6.off + 2, none⟩ : Addr) g1).bind fun x7 => (some (⟨h.next, 0, none⟩ : Addr)).bind fun p8 => (ldI .i64 (⟨p8.block, p8.off + 0, none⟩ : Addr) g1).bind fun x9 =>
      (some (⟨h.next, 0, none⟩ : Addr)).bind fun p10 => (ldI .i64 (⟨p10.block, p10.off + 1, none⟩ : Addr) g1).bind fun x11 =>
      (if ((x7.len : Int) != (IntKind.wrap .i64 (x9 * x11))) = true then some (4, g1) else
      joinK (fun (h12 : AHeap) => some (0, h12)) fun j13 => (some (⟨h.next, 0, none⟩ : Addr)).bind fun p14 => (ldL (⟨p14.block, p14.off + 2, none⟩ : Addr) g1).bind fun x15 => matrix_Check_l0 k0 D j13 x15 (x15.len : Int) 0 g1)) =
      some (if (xs.length : Int) ≠ r * c then 4 else if xs.all elemB then 0 else 1, g1) := fun a1 a2 a3 a4 => by
    refine bnd rfl (bnd i2 (bnd rfl (bnd i0 (bnd rfl (bnd i1 ?_)))))
    have m1 : r * c ≤ 255 * 255 := Int.mul_le_mul a3 a4 (by omega) (by omega)
    have m2 : 0 ≤ r * c := Int.mul_nonneg (by omega) (by omega)
    rw [w64 _ (by omega), R.1]
    by_cases e : (xs.length : Int) = r * c
    · refine ifn (by simp [e]) ?_
      refine jn (bnd rfl (bnd i2 ?_))
      unfold matrix_Check_l0
      obtain ⟨bot, hbot⟩ := iterK_of (fun _ _ _ _ => none) (matrix_Check_l0b k0 D _) (show xs.length + 1 ≤ k0 by omega)
      rw [hbot, R.1]
      refine (check_l0 k0 D _ (R.keeps k1) hl xs.length 0 (by omega) bot).trans ?_
      rw [List.drop_zero, if_neg (show ¬ ((xs.length : Int) ≠ r * c) from fun x => x e)]
      split <;> rfl
    · refine ifp (by simpa using e) ?_
      rw [if_pos e]
  refine bnd i0 (bnd i1 ?_)
  by_cases a1 : r < 1
  · refine ifp (by rw [decide_eq_true_eq]; split <;> omega) (ifp rfl ?_)
    rw [if_pos (.inl a1)]
  · by_cases a2 : c < 1
    · refine ifp (by rw [decide_eq_true_eq]; split <;> omega) (ifp rfl ?_)
      rw [if_pos (.inr (.inl a2))]
    · refine ifn (by rw [decide_eq_true_eq]; split <;> omega) ?_
      refine bnd i0 (bnd i1 ?_)
      by_cases a3 : r > 255
      · refine ifp (by rw [decide_eq_true_eq]; split <;> omega) ?_
        rw [if_pos (.inr (.inr (.inl a3)))]
      · by_cases a4 : c > 255
        · refine ifp (by rw [decide_eq_true_eq]; split <;> omega) ?_
          rw [if_pos (.inr (.inr (.inr a4)))]
        · refine ifn (by rw [decide_eq_true_eq]; split <;> omega) ?_
          rw [if_neg (by omega)]
          exact fin (by omega) (by omega) (by omega) (by omega)

theorem rcheck_l0 (K : Nat) (D : CallF) (j) {s : Slc} {xs : List Int} {h : AHeap} {r c : Int} {ob : Nat} (b : h.get ob = some (.cells (mcell r c s) 54 true 0)) (R : Row encI h s xs) (hl : xs.length < 9223372036854775807) : ∀ (m i : Nat), i + m = xs.length → ∀ bot,
    iterK bot (m + 1) (ref04_Check_l0b K D j) (some ⟨ob, 0, none⟩) (i : Int) h = if (xs.drop i).all elemB = true then j h else some (1, h)
  | 0, i, hi, bot => by
    rw [iterK_s, ref04_Check_l0b]
    refine bnd rfl (bnd (ldL2 b) ?_)
    refine ifn (by rw [decide_eq_true_eq, R.1]; omega) ?_
    rw [List.drop_eq_nil_of_le (by omega)]
    rfl
  | m + 1, i, hi, bot => by
    obtain ⟨x, hx⟩ := isome (l := xs) (i := i) (by omega)
    obtain ⟨q, hq, hld⟩ := R.ldI hx
    have ih := rcheck_l0 K D j b R hl m (i + 1) (by omega) bot
    rw [iterK_s, ref04_Check_l0b]
    refine bnd rfl (bnd (ldL2 b) ?_)
    refine ifp (by rw [decide_eq_true_eq, R.1]; omega) (jn ?_)
    refine bnd rfl (bnd (ldL2 b) (bnd hq (bnd hld ?_)))
    rw [dropc hx]
    simp only [List.all_cons, elemB]
    by_cases c1 : x < 0
    · refine ifp (by rw [decide_eq_true_eq]; exact c1) (ifp trivial ?_)
      simp [c1]
    · refine ifn (by rw [decide_eq_true_eq]; exact c1) ?_
      refine bnd rfl (bnd (ldL2 b) (bnd hq (bnd hld ?_)))
      by_cases c2 : x ≥ 256
      · refine ifp (by rw [decide_eq_true_eq]; omega) ?_
        simp [c1, c2]
      · refine ifn (by rw [decide_eq_true_eq]; omega) ?_
        rw [w1 (by omega), ih]
        simp [c1, c2, elemB]
theorem rcheck_spec {k0 : Nat} (D : CallF) {h : AHeap} {r c : Int} {s : Slc} {xs : List Int} (R : Row encI h s xs) (hk : xs.length < k0) (hl : xs.length < 9223372036854775807) :
    ∃ h', ref04_Check k0 D (r, c, s) h = some (chk r c xs, h') ∧ Keeps h h' := by
  obtain ⟨g1, hg1⟩ : ∃ g1, g1 = h.new (.cells [.int .i64 r, .int .i64 c, .slice s.a s.len s.cap] 54 true 0) := ⟨_, rfl⟩
  have k1 : Keeps h g1 := hg1 ▸ Keeps.new h _
  have b1 : g1.get h.next = some (.cells (mcell r c s) 54 true 0) := by rw [hg1]; simp [mcell]
  refine ⟨g1, ?_, k1⟩
  unfold ref04_Check
  dsimp only
  rw [← hg1]
  refine jn ?_
  have i0 := ldI0 (sp := none) b1
  have i1 := ldI1 (sp := none) b1
  have i2 := ldL2 (sp := none) b1
  unfold chk
  have fin : r ≥ 1 → c ≥ 1 → r ≤ 255 → c ≤ 255 → ((some (⟨h.next, 0, none⟩ : Addr)).bind fun p6 =>
      (ldL (⟨p6.block, p6.off + 2, none⟩ : Addr) g1).bind fun x7 => (some (⟨h.next, 0, none⟩ : Addr)).bind fun p8 => (ldI .i64 (⟨p8.block, p8.off + 0, none⟩ : Addr) g1).bind fun x9 =>
      (some (⟨h.next, 0, none⟩ : Addr)).bind fun p10 => (ldI .i64 (⟨p10.block, p10.off + 1, none⟩ : Addr) g1).bind fun x11 =>
      (if ((x7.len : Int) != (IntKind.wrap .i64 (x9 * x11))) = true then some (4, g1) else
      joinK (fun (h12 : AHeap) => some (0, h12)) fun j13 => ref04_Check_l0 k0 D j13 (some (⟨h.next, 0, none⟩ : Addr)) 0 g1)) =
      some (if (xs.length : Int) ≠ r * c then 4 else if xs.all elemB then 0 else 1, g1) := fun a1 a2 a3 a4 => by
    refine bnd rfl (bnd i2 (bnd rfl (bnd i0 (bnd rfl (bnd i1 ?_)))))
    have m1 : r * c ≤ 255 * 255 := Int.mul_le_mul a3 a4 (by omega) (by omega)
    have m2 : 0 ≤ r * c := Int.mul_nonneg (by omega) (by omega)
    rw [w64 _ (by omega), R.1]
    by_cases e : (xs.length : Int) = r * c
    · refine ifn (by simp [e]) ?_
      refine jn ?_
      unfold ref04_Check_l0
      obtain ⟨bot, hbot⟩ := iterK_of (fun _ _ _ => none) (ref04_Check_l0b k0 D _) (show xs.length + 1 ≤ k0 by omega)
      rw [hbot]
      refine (rcheck_l0 k0 D _ b1 (R.keeps k1) hl xs.length 0 (by omega) bot).trans ?_
      rw [List.drop_zero, if_neg (show ¬ ((xs.length : Int) ≠ r * c) from fun x => x e)]
      split <;> rfl
    · refine ifp (by simpa using e) ?_
      rw [if_pos e]
  refine bnd i0 ?_
  by_cases a1 : r < 1
  · refine ifp (by rw [decide_eq_true_eq]; omega) (ifp rfl ?_)
    rw [if_pos (.inl a1)]
  · refine ifn (by rw [decide_eq_true_eq]; omega) (bnd i0 ?_)
    by_cases a3 : r > 255
    · refine ifp (by rw [decide_eq_true_eq]; omega) (ifp rfl ?_)
      rw [if_pos (.inr (.inr (.inl a3)))]
    · refine ifn (by rw [decide_eq_true_eq]; omega) (bnd i1 ?_)
      by_cases a2 : c < 1
      · refine ifp (by rw [decide_eq_true_eq]; omega) (ifp rfl ?_)
        rw [if_pos (.inr (.inl a2))]
      · refine ifn (by rw [decide_eq_true_eq]; omega) (bnd i1 ?_)
        by_cases a4 : c > 255
        · refine ifp (by rw [decide_eq_true_eq]; omega) ?_
          rw [if_pos (.inr (.inr (.inr a4)))]
        · refine ifn (by rw [decide_eq_true_eq]; omega) ?_
          rw [if_neg (by omega)]
          exact fin (by omega) (by omega) (by omega) (by omega)

/-- what a check that passes tells -/
theorem chk_ok {r c : Int} {xs : List Int} (h : chk r c xs = 0) : ∃ R C : Nat, ∃ g : Nat → Nat, r = R ∧ c = C ∧ 1 ≤ R ∧ R ≤ 255 ∧ 1 ≤ C ∧ C ≤ 255 ∧ xs = matN (R * C) g ∧ ∀ t, t < R * C → g t < 256 := by
  unfold chk at h
  split at h
  · cases h
  · rename_i h1
    split at h
    · cases h
    · rename_i h2
      split at h
      · rename_i h3
        obtain ⟨R, rfl⟩ : ∃ R : Nat, r = R := ⟨r.toNat, by omega⟩
        obtain ⟨C, rfl⟩ : ∃ C : Nat, c = C := ⟨c.toNat, by omega⟩
        have hl : xs.length = R * C := by
          have h2 := Decidable.not_not.1 h2
          exact_mod_cast h2
        have hx : ∀ (t : Nat) (x : Int), xs[t]? = some x → 0 ≤ x ∧ x < 256 := fun t x hx => by
          have := List.all_eq_true.1 h3 x (mem_of hx)
          simp only [elemB, Bool.not_eq_true', Bool.or_eq_false_iff, decide_eq_false_iff_not] at this
          omega
        refine ⟨R, C, fun t => (xs[t]?.getD 0).toNat, rfl, rfl, by omega, by omega, by omega, by omega, ?_, fun t ht => ?_⟩
        · apply List.ext_getElem?
          intro t
          by_cases ht : t < R * C
          · obtain ⟨x, e⟩ := isome (l := xs) (i := t) (by omega)
            have := hx t x e
            rw [e]
            unfold matN
            rw [mat_get ht]
            dsimp only
            rw [e]
            simp
            omega
          · rw [List.getElem?_eq_none (by omega), List.getElem?_eq_none (by unfold matN; rw [mat_length]; omega)]
        · obtain ⟨x, e⟩ := isome (l := xs) (i := t) (by omega)
          have := hx t x e
          dsimp only
          rw [e]
          simp
          omega
      · cases h
end Gy

/-! Rows that are added, divided, swapped: the program's. -/
namespace Gy
open Go Gx Go.Proofs

theorem times4 {k0 : Nat} (hk : 256 ≤ k0) {h : AHeap} {sb fb : Nat} (S : Spc h sb fb) {x y : Nat} (hx : x < 256) (hy : y < 256) :
    ∃ h', matrix_Space_times k0 (DD k0) (some ⟨sb, 0, none⟩) x y h = some ((mulT x y : Int), h') ∧ FS fb h h' := by
  obtain ⟨h', e, s⟩ := mul_spec hk S.fld S.lf hx hy
  refine ⟨h', ?_, s⟩
  unfold matrix_Space_times
  exact bnd rfl (bnd S.ld (bnd e rfl))

/-- a row with another one's multiple added, up to column j -/
def addJ (c i b j : Nat) (v g : Nat → Nat) : Nat → Nat := fun t => if t / c = i ∧ t % c < j then g t ^^^ mulT (v (t % c)) b else g t
def addR (c i b : Nat) (v g : Nat → Nat) : Nat → Nat := fun t => if t / c = i then g t ^^^ mulT (v (t % c)) b else g t
theorem pos_eq {t i j c : Nat} (hc : 0 < c) : t = i * c + j ∧ j < c ↔ t / c = i ∧ t % c = j := by
  constructor
  · rintro ⟨rfl, h⟩; exact ⟨pos_div h, pos_mod h⟩
  · rintro ⟨rfl, rfl⟩
    exact ⟨by have := Nat.div_add_mod t c; rw [Nat.mul_comm] at this; exact this.symm, Nat.mod_lt _ hc⟩
theorem jstep {c i j t : Nat} (hj : j < c) (g n : Nat → Nat) : updN (fun t => if t / c = i ∧ t % c < j then n t else g t) (i * c + j) (n (i * c + j)) t = if t / c = i ∧ t % c < j + 1 then n t else g t := by
  have hc : 0 < c := by omega
  simp only [updN]
  by_cases e : t = i * c + j
  · subst e
    rw [if_pos rfl, pos_div hj, pos_mod hj, if_pos ⟨rfl, by omega⟩]
  · rw [if_neg e]
    by_cases d : t / c = i
    · have : t % c ≠ j := fun h => e ((pos_eq hc).2 ⟨d, h⟩).1
      by_cases l : t % c < j
      · rw [if_pos ⟨d, l⟩, if_pos ⟨d, by omega⟩]
      · rw [if_neg (fun h => l h.2), if_neg (fun h => by have := h.2; omega)]
    · rw [if_neg (fun h => d h.1), if_neg (fun h => d h.1)]
theorem xor_mul_lt {a b c : Nat} (ha : a < 256) : a ^^^ mulT b c < 256 := xor_lt ha (mulT_lt _ _)

theorem rowOf_at {b c i j : Nat} : (⟨b, i * c + j, none⟩ : Addr) = ⟨b, i * c + j, none⟩ := rfl

/-- what a row in place changes -/
abbrev BF (B fb : Nat) : Nat → Prop := fun x => x = B ∨ x = fb
structure Row1 (h h' : AHeap) (B N sb fb : Nat) (g : Nat → Nat) : Prop where
  mx : Mx h' B N g
  spc : Spc h' sb fb
  ch : Chg (BF B fb) h h'

theorem mx_fs {h h' : AHeap} {B N fb : Nat} {g : Nat → Nat} (m : Mx h B N g) (hne : B ≠ fb) (f : FS fb h h') : Mx h' B N g := m.chg f.chg hne
theorem spc_set {h : AHeap} {B sb fb : Nat} {X : ABlk} (S : Spc h sb fb) (h1 : B ≠ sb) (h2 : B ≠ fb) : Spc (h.set B X) sb fb := S.chg (Chg.set (S := (· = B)) (.inr rfl)) (fun e => h1 e.symm) (fun e => h2 e.symm)

theorem add_spec {k0 : Nat} (hk : 1000 ≤ k0) {h : AHeap} {B B2 N sb fb c i k by' : Nat} {g v : Nat → Nat} (m : Mx h B N g) (S : Spc h sb fb) (h1 : B ≠ sb) (h2 : B ≠ fb) (hc0 : 0 < c) (hc : c ≤ 255) (hi : i * c + c ≤ N) (hby : by' < 256)
    (hv : ∀ h1 g1, Mx h1 B N g1 → (∀ t, t < N → t / c ≠ i → g1 t = g t) → Chg (BF B fb) h h1 → ∀ j, j < c → ldI .i64 ⟨B2, k * c + j, none⟩ h1 = some (v j : Int)) (hv2 : ∀ j, j < c → v j < 256) :
    ∃ h', matrix_Space_add k0 (DD k0) (some ⟨sb, 0, none⟩) (rowOf B c i) (rowOf B2 c k) (by' : Int) h = some ((), h') ∧ Row1 h h' B N sb fb (addR c i by' v g) := by
  have go : ∀ m' j (h3 : AHeap), j + m' = c → Row1 h h3 B N sb fb (addJ c i by' j v g) → ∃ h', Row1 h h' B N sb fb (addR c i by' v g) ∧ ∀ bot, iterK bot (m' + 1) (matrix_Space_add_l0b k0 (DD k0)) (some ⟨sb, 0, none⟩) (rowOf B c i) (by' : Int) (rowOf B2 c k) (c : Int) (j : Int) h3 = some ((), h') := by
    intro m'
    induction m' with
    | zero =>
      intro j h3 hj R
      obtain rfl : j = c := by omega
      refine ⟨h3, ⟨R.mx.congr fun t ht => ?_, R.spc, R.ch⟩, fun bot => ?_⟩
      · unfold addJ addR
        have : t % j < j := Nat.mod_lt _ (by omega)
        by_cases d : t / j = i
        · rw [if_pos ⟨d, this⟩, if_pos d]
        · rw [if_neg (fun h => d h.1), if_neg d]
      · rw [iterK_s, matrix_Space_add_l0b]
        exact ifn (by rw [decide_eq_true_eq]; omega) rfl
    | succ m' ih =>
      intro j h3 hj R
      have hj' : j < c := by omega
      have hpos : i * c + j < N := by omega
      have rdF := hv h3 _ R.mx (fun t ht hd => by unfold addJ; rw [if_neg (fun h => hd h.1)]) R.ch j hj'
      obtain ⟨h4, e4, f4⟩ := times4 (k0 := k0) (by omega) R.spc (hv2 j hj') hby
      have m4 := mx_fs R.mx h2 f4
      have ge : addJ c i by' j v g (i * c + j) = g (i * c + j) := by
        unfold addJ; rw [if_neg (fun h => by have := h.2; rw [pos_mod hj'] at this; omega)]
      have rdT3 := R.mx.rd (sp := none) hpos
      have rdT := m4.rd (sp := none) hpos
      rw [ge] at rdT rdT3
      have hlt : g (i * c + j) ^^^ mulT (v j) by' < 256 := xor_mul_lt (m.el _ hpos)
      obtain ⟨e5, m5⟩ := m4.wr (sp := none) hpos hlt
      have new : ∀ t, t < N → updN (addJ c i by' j v g) (i * c + j) (g (i * c + j) ^^^ mulT (v j) by') t = addJ c i by' (j + 1) v g t := fun t _ => by
        have := jstep (i := i) (t := t) hj' g (fun t => g t ^^^ mulT (v (t % c)) by')
        rw [pos_mod hj'] at this
        exact this
      obtain ⟨h', R', e'⟩ := ih (j + 1) _ (by omega) ⟨m5.congr new, spc_set (R.spc.fs f4) h1 h2, (R.ch.trans (f4.chg.wk fun x _ e => .inr e)).trans (Chg.set (.inr (.inl rfl)))⟩
      refine ⟨h', R', fun bot => ?_⟩
      rw [iterK_s, matrix_Space_add_l0b]
      refine ifp (by rw [decide_eq_true_eq]; omega) ?_
      refine bnd (rowOf_idx hj') (bnd rdF ?_)
      refine bnd e4 ?_
      refine bnd (rowOf_idx hj') (bnd rdT ?_)
      refine gp (fun H hH => by simp at hH; subst hH; exact bnd rdT3 rfl) ?_
      refine bnd (rowOf_idx hj') ?_
      rw [xor64' (m.el _ hpos) (mulT_lt _ _)]
      refine bnd e5 ?_
      rw [w1 (by omega)]
      exact e' bot
  obtain ⟨h', R', e'⟩ := go c 0 h (by omega) ⟨m.congr fun t _ => by unfold addJ; rw [if_neg (fun h => by have := h.2; omega)], S, .refl _ _⟩
  refine ⟨h', ?_, R'⟩
  unfold matrix_Space_add matrix_Space_add_l0
  obtain ⟨bot, hbot⟩ := iterK_of (fun _ _ _ _ _ _ _ => none) (matrix_Space_add_l0b k0 (DD k0)) (show c + 1 ≤ k0 by omega)
  rw [hbot]
  exact e' bot

def divR (c i b : Nat) (g : Nat → Nat) : Nat → Nat := fun t => if t / c = i then divT (g t) b else g t
theorem divide_spec {k0 : Nat} (hk : 1000 ≤ k0) {h : AHeap} {B N sb fb c i by' : Nat} {g : Nat → Nat} (m : Mx h B N g) (S : Spc h sb fb) (h1 : B ≠ sb) (h2 : B ≠ fb) (hc0 : 0 < c) (hc : c ≤ 255) (hi : i * c + c ≤ N) (hby : by' < 256) (hb0 : by' ≠ 0) :
    ∃ h', matrix_Space_divide k0 (DD k0) (some ⟨sb, 0, none⟩) (rowOf B c i) (by' : Int) h = some ((), h') ∧ Row1 h h' B N sb fb (divR c i by' g) := by
  have go : ∀ m' j (h3 : AHeap), j + m' = c → Row1 h h3 B N sb fb (fun t => if t / c = i ∧ t % c < j then divT (g t) by' else g t) → ∃ h', Row1 h h' B N sb fb (divR c i by' g) ∧ ∀ bot, iterK bot (m' + 1) (matrix_Space_divide_l0b k0 (DD k0)) (some ⟨sb, 0, none⟩) (rowOf B c i) (by' : Int) (rowOf B c i) (c : Int) (j : Int) h3 = some ((), h') := by
    intro m'
    induction m' with
    | zero =>
      intro j h3 hj R
      obtain rfl : j = c := by omega
      refine ⟨h3, ⟨R.mx.congr fun t ht => ?_, R.spc, R.ch⟩, fun bot => ?_⟩
      · unfold divR
        have : t % j < j := Nat.mod_lt _ (by omega)
        by_cases d : t / j = i
        · rw [if_pos ⟨d, this⟩, if_pos d]
        · rw [if_neg (fun h => d h.1), if_neg d]
      · rw [iterK_s, matrix_Space_divide_l0b]
        exact ifn (by rw [decide_eq_true_eq]; omega) rfl
    | succ m' ih =>
      intro j h3 hj R
      have hj' : j < c := by omega
      have hpos : i * c + j < N := by omega
      have rdT := R.mx.rd (sp := none) hpos
      rw [if_neg (fun h => by have := h.2; rw [pos_mod hj'] at this; omega)] at rdT
      obtain ⟨h4, e4, f4⟩ := div_spec (k := k0) (by omega) R.spc.fld R.spc.lf (m.el _ hpos) hby
      rw [if_neg hb0] at e4
      have m4 := mx_fs R.mx h2 f4
      obtain ⟨e5, m5⟩ := m4.wr (sp := none) hpos (divT_lt (x := g (i * c + j)) (y := by'))
      have new : ∀ t, t < N → updN (fun t => if t / c = i ∧ t % c < j then divT (g t) by' else g t) (i * c + j) (divT (g (i * c + j)) by') t = if t / c = i ∧ t % c < j + 1 then divT (g t) by' else g t := fun t _ => jstep (i := i) (t := t) hj' g (fun t => divT (g t) by')
      obtain ⟨h', R', e'⟩ := ih (j + 1) _ (by omega) ⟨m5.congr new, spc_set (R.spc.fs f4) h1 h2, (R.ch.trans (f4.chg.wk fun x _ e => .inr e)).trans (Chg.set (.inr (.inl rfl)))⟩
      refine ⟨h', R', fun bot => ?_⟩
      rw [iterK_s, matrix_Space_divide_l0b]
      refine ifp (by rw [decide_eq_true_eq]; omega) ?_
      refine bnd (rowOf_idx hj') (bnd rdT ?_)
      refine bnd rfl (bnd R.spc.ld ?_)
      refine bnd e4 ?_
      refine bnd (rowOf_idx hj') ?_
      refine bnd e5 ?_
      rw [w1 (by omega)]
      exact e' bot
  obtain ⟨h', R', e'⟩ := go c 0 h (by omega) ⟨m.congr fun t _ => by rw [if_neg (fun h => by have := h.2; omega)], S, .refl _ _⟩
  refine ⟨h', ?_, R'⟩
  unfold matrix_Space_divide matrix_Space_divide_l0
  obtain ⟨bot, hbot⟩ := iterK_of (fun _ _ _ _ _ _ _ => none) (matrix_Space_divide_l0b k0 (DD k0)) (show c + 1 ≤ k0 by omega)
  rw [hbot]
  exact e' bot

/-- two rows swapped, up to column j -/
def swapJ (c i k j : Nat) (g : Nat → Nat) : Nat → Nat := fun t => if t % c < j then (if t / c = i then g (k * c + t % c) else if t / c = k then g (i * c + t % c) else g t) else g t
def swapR (c i k : Nat) (g : Nat → Nat) : Nat → Nat := fun t => if t / c = i then g (k * c + t % c) else if t / c = k then g (i * c + t % c) else g t
theorem swap_step {c i k j t : Nat} (hj : j < c) (g : Nat → Nat) :
    updN (updN (swapJ c i k j g) (i * c + j) (g (k * c + j))) (k * c + j) (g (i * c + j)) t = swapJ c i k (j + 1) g t := by
  have hc : 0 < c := by omega
  simp only [updN]
  by_cases e2 : t = k * c + j
  · subst e2
    rw [if_pos rfl]
    unfold swapJ
    rw [pos_div hj, pos_mod hj, if_pos (by omega)]
    by_cases e : k = i
    · subst e; rw [if_pos rfl]
    · rw [if_neg e, if_pos rfl]
  · rw [if_neg e2]
    by_cases e1 : t = i * c + j
    · subst e1
      rw [if_pos rfl]
      unfold swapJ
      rw [pos_div hj, pos_mod hj, if_pos (by omega), if_pos rfl]
    · rw [if_neg e1]
      unfold swapJ
      by_cases l : t % c < j
      · rw [if_pos l, if_pos (show t % c < j + 1 by omega)]
      · rw [if_neg l]
        by_cases l2 : t % c < j + 1
        · have hm : t % c = j := by omega
          rw [if_pos l2, if_neg (fun d => e1 ((pos_eq hc).2 ⟨d, hm⟩).1), if_neg (fun d => e2 ((pos_eq hc).2 ⟨d, hm⟩).1)]
        · rw [if_neg l2]
theorem swap_el {c i k j N : Nat} {g : Nat → Nat} (hc : 0 < c) (hi : i * c + c ≤ N) (hk : k * c + c ≤ N) (h : ∀ t, t < N → g t < 256) : ∀ t, t < N → swapJ c i k j g t < 256 := fun t ht => by
  have := Nat.mod_lt t hc
  unfold swapJ
  split
  · split
    · exact h _ (by omega)
    · split
      · exact h _ (by omega)
      · exact h t ht
  · exact h t ht
theorem swapJ_all {c i k : Nat} (hc : 0 < c) (g : Nat → Nat) (t : Nat) : swapJ c i k c g t = swapR c i k g t := by
  unfold swapJ swapR
  rw [if_pos (Nat.mod_lt t hc)]
theorem swapJ_i {c i k j : Nat} (hj : j < c) (g : Nat → Nat) : swapJ c i k j g (i * c + j) = g (i * c + j) := by
  unfold swapJ; rw [pos_mod hj, if_neg (by omega)]
theorem swapJ_k {c i k j : Nat} (hj : j < c) (g : Nat → Nat) : swapJ c i k j g (k * c + j) = g (k * c + j) := by
  unfold swapJ; rw [pos_mod hj, if_neg (by omega)]

theorem swap_spec {k0 : Nat} (hk : 1000 ≤ k0) (D : CallF) {h : AHeap} {B r c i k : Nat} {sp : Option Nat} (hsp : spOk sp 1 = true) {g : Nat → Nat} (m : Mx h B (r * c) g) (hc0 : 0 < c) (hc : c ≤ 255) (hs : r * c ≤ 100000) (hi : i < r) (hk' : k < r) :
    ∃ h', matrix_M_swap k0 D (r, c, whole B (r * c) sp) i k h = some ((), h') ∧ Mx h' B (r * c) (swapR c i k g) ∧ Chg (· = B) h h' := by
  have pi : i * c + c ≤ r * c := by have := Nat.mul_le_mul_right c (show i + 1 ≤ r from hi); rw [Nat.succ_mul] at this; exact this
  have pk : k * c + c ≤ r * c := by have := Nat.mul_le_mul_right c (show k + 1 ≤ r from hk'); rw [Nat.succ_mul] at this; exact this
  have go : ∀ m' j (h3 : AHeap), j + m' = c → Mx h3 B (r * c) (swapJ c i k j g) → Chg (· = B) h h3 → ∃ h', Mx h' B (r * c) (swapR c i k g) ∧ Chg (· = B) h h' ∧ ∀ bot, iterK bot (m' + 1) (matrix_M_swap_l0b k0 D) (rowOf B c i) (rowOf B c k) (c : Int) (j : Int) h3 = some ((), h') := by
    intro m'
    induction m' with
    | zero =>
      intro j h3 hj M C
      obtain rfl : j = c := by omega
      refine ⟨h3, M.congr fun t _ => swapJ_all hc0 g t, C, fun bot => ?_⟩
      rw [iterK_s, matrix_M_swap_l0b]
      exact ifn (by rw [decide_eq_true_eq]; omega) rfl
    | succ m' ih =>
      intro j h3 hj M C
      have hj' : j < c := by omega
      have rI := M.rd (sp := none) (show i * c + j < r * c by omega)
      have rK := M.rd (sp := none) (show k * c + j < r * c by omega)
      rw [swapJ_i hj'] at rI
      rw [swapJ_k hj'] at rK
      obtain ⟨e5, m5⟩ := M.wr (sp := none) (show i * c + j < r * c by omega) (m.el (k * c + j) (by omega))
      obtain ⟨e6, m6⟩ := m5.wr (sp := none) (show k * c + j < r * c by omega) (m.el (i * c + j) (by omega))
      obtain ⟨h', M', C', e'⟩ := ih (j + 1) _ (by omega) (m6.congr fun t _ => swap_step hj' g) ((C.trans (Chg.set (.inr rfl))).trans (Chg.set (.inr rfl)))
      refine ⟨h', M', C', fun bot => ?_⟩
      rw [iterK_s, matrix_M_swap_l0b]
      refine ifp (by rw [decide_eq_true_eq]; omega) ?_
      refine bnd (rowOf_idx hj') (bnd rK ?_)
      refine bnd (rowOf_idx hj') (bnd rI ?_)
      refine bnd (rowOf_idx hj') (bnd e5 ?_)
      refine bnd (rowOf_idx hj') (bnd e6 ?_)
      rw [w1 (by omega)]
      exact e' bot
  obtain ⟨g1, hg1⟩ : ∃ g1, g1 = h.new (.cells (mcell r c (whole B (r * c) sp)) 51 true 0) := ⟨_, rfl⟩
  have k1 : Keeps h g1 := hg1 ▸ Keeps.new h _
  have n1 : g1.next = h.next + 1 := by rw [hg1]; rfl
  have b1 : g1.get h.next = some (.cells (mcell r c (whole B (r * c) sp)) 51 true 0) := by rw [hg1]; simp
  obtain ⟨g2, e2, k2, n2⟩ := row_specS k0 D (r := r) (c := c) (b := B) (i := i) hsp g1 hi hc0 hs
  have b2 : g2.get h.next = some (.cells (mcell r c (whole B (r * c) sp)) 51 true 0) := by rw [k2.oth _ (by omega) (fun f => f)]; exact b1
  obtain ⟨g3, e3, k3, n3⟩ := row_specS k0 D (r := r) (c := c) (b := B) (i := k) hsp g2 hk' hc0 hs
  have k13 := (k1.trans k2).trans k3
  obtain ⟨h', M', C', e'⟩ := go c 0 g3 (by omega) ((m.keeps k13).congr fun t _ => by unfold swapJ; rw [if_neg (by omega)]) (Chg.keeps k13)
  refine ⟨h', ?_, M', C'⟩
  unfold matrix_M_swap
  show ((ldA 3 (⟨h.next, 0, none⟩ : Addr) (h.new (.cells (mcell r c (whole B (r * c) sp)) 51 true 0))).bind _) = _
  refine bnd (ldM3 (hg1 ▸ b1)) (bnd (decM3 _ _ _) ?_)
  refine bnd (hg1 ▸ e2) ?_
  refine bnd (ldM3 b2) ?_
  refine gp (fun H hH => by simp at hH; subst hH; exact bnd (ldM3 (hg1 ▸ b1)) rfl) ?_
  refine bnd (decM3 _ _ _) ?_
  refine bnd e3 ?_
  unfold matrix_M_swap_l0
  obtain ⟨bot, hbot⟩ := iterK_of (fun _ _ _ _ _ => none) (matrix_M_swap_l0b k0 D) (show c + 1 ≤ k0 by omega)
  rw [hbot]
  exact e' bot
end Gy

/-! Rows brought into steps: the program's. -/
namespace Gy
open Go Gx Go.Proofs

/-- the first row from i on, of m, that has something in a column -/
def leadN (C j : Nat) (g : Nat → Nat) : Nat → Nat → Nat
  | 0, i => i
  | m + 1, i => if g (i * C + j) = 0 then leadN C j g m (i + 1) else i
theorem leadN_le (C j : Nat) (g : Nat → Nat) : ∀ m i, i ≤ leadN C j g m i ∧ leadN C j g m i ≤ i + m
  | 0, i => ⟨Nat.le_refl _, Nat.le_refl _⟩
  | m + 1, i => by
    unfold leadN
    split
    · have := leadN_le C j g m (i + 1); omega
    · omega
theorem leadN_ne (C j : Nat) (g : Nat → Nat) : ∀ m i, leadN C j g m i < i + m → g (leadN C j g m i * C + j) ≠ 0
  | 0, i, h => by unfold leadN at h; omega
  | m + 1, i, h => by
    unfold leadN at h ⊢
    split
    · rename_i e; rw [if_pos e] at h; exact leadN_ne C j g m (i + 1) (by omega)
    · assumption
def elimG (C r j : Nat) (g : Nat → Nat) : Nat → Nat := fun t => if t / C = r then g t else g t ^^^ mulT (g (r * C + t % C)) (g (t / C * C + j))
def elimU (C C2 r j : Nat) (g u : Nat → Nat) : Nat → Nat := fun t => if t / C2 = r then u t else u t ^^^ mulT (u (r * C2 + t % C2)) (g (t / C2 * C + j))
def stepG (C j l r : Nat) (g : Nat → Nat) : Nat → Nat := let g1 := swapR C l r g; elimG C r j (divR C r (g1 (r * C + j)) g1)
def stepU (C C2 j l r : Nat) (g u : Nat → Nat) : Nat → Nat := let g1 := swapR C l r g; elimU C C2 r j (divR C r (g1 (r * C + j)) g1) (divR C2 r (g1 (r * C + j)) (swapR C2 l r u))
/-- all of it: m columns from j on -/
def stepsN (R C C2 : Nat) : Nat → Nat → Nat → (Nat → Nat) → (Nat → Nat) → Nat × (Nat → Nat) × (Nat → Nat)
  | 0, _, r, g, u => (r, g, u)
  | m + 1, j, r, g, u => if r < R then
      let l := leadN C j g (R - r) r
      if l = R then stepsN R C C2 m (j + 1) r g u else stepsN R C C2 m (j + 1) (r + 1) (stepG C j l r g) (stepU C C2 j l r g u)
    else (r, g, u)

/-- where the blocks lie: all apart -/
structure Dist (B B2 oa ou sb fb : Nat) : Prop where
  d1 : B ≠ B2
  d2 : B ≠ oa
  d3 : B ≠ ou
  d4 : B ≠ sb
  d5 : B ≠ fb
  e2 : B2 ≠ oa
  e3 : B2 ≠ ou
  e4 : B2 ≠ sb
  e5 : B2 ≠ fb
  f1 : oa ≠ fb
  f2 : ou ≠ fb
structure SS (H0 : AHeap) (B B2 oa ou sb fb R C C2 : Nat) (sp sp2 : Option Nat) (g u : Nat → Nat) (h : AHeap) : Prop where
  a : Mx h B (R * C) g
  b : Mx h B2 (R * C2) u
  ca : h.get oa = some (.cells (mcell R C (whole B (R * C) sp)) 51 true 0)
  cb : h.get ou = some (.cells (mcell R C2 (whole B2 (R * C2) sp2)) 51 true 0)
  spc : Spc h sb fb
  la : oa < h.next
  lb : ou < h.next
  ch : Chg (fun x => x = B ∨ x = B2 ∨ x = fb) H0 h
section
variable {H0 : AHeap} {B B2 oa ou sb fb R C C2 : Nat} {sp sp2 : Option Nat} {g u g' u' : Nat → Nat} {h h' : AHeap}
theorem SS.keeps (s : SS H0 B B2 oa ou sb fb R C C2 sp sp2 g u h) (k : Keeps h h') : SS H0 B B2 oa ou sb fb R C C2 sp sp2 g u h' :=
  ⟨s.a.keeps k, s.b.keeps k, by rw [k.oth _ s.la (fun f => f)]; exact s.ca, by rw [k.oth _ s.lb (fun f => f)]; exact s.cb, s.spc.keeps k, Nat.lt_of_lt_of_le s.la k.nx, Nat.lt_of_lt_of_le s.lb k.nx, s.ch.trans (Chg.keeps k)⟩
theorem SS.opA (D : Dist B B2 oa ou sb fb) (s : SS H0 B B2 oa ou sb fb R C C2 sp sp2 g u h) (r : Row1 h h' B (R * C) sb fb g') : SS H0 B B2 oa ou sb fb R C C2 sp sp2 g' u h' :=
  ⟨r.mx, s.b.chg r.ch (fun e => e.elim (fun e => D.d1 e.symm) D.e5), by rw [r.ch.oth _ s.la (fun e => e.elim (fun e => D.d2 e.symm) D.f1)]; exact s.ca, by rw [r.ch.oth _ s.lb (fun e => e.elim (fun e => D.d3 e.symm) D.f2)]; exact s.cb, r.spc, Nat.lt_of_lt_of_le s.la r.ch.nx, Nat.lt_of_lt_of_le s.lb r.ch.nx, s.ch.trans (r.ch.wk fun x _ e => e.imp id .inr)⟩
theorem SS.opB (D : Dist B B2 oa ou sb fb) (s : SS H0 B B2 oa ou sb fb R C C2 sp sp2 g u h) (r : Row1 h h' B2 (R * C2) sb fb u') : SS H0 B B2 oa ou sb fb R C C2 sp sp2 g u' h' :=
  ⟨s.a.chg r.ch (fun e => e.elim D.d1 D.d5), r.mx, by rw [r.ch.oth _ s.la (fun e => e.elim (fun e => D.e2 e.symm) D.f1)]; exact s.ca, by rw [r.ch.oth _ s.lb (fun e => e.elim (fun e => D.e3 e.symm) D.f2)]; exact s.cb, r.spc, Nat.lt_of_lt_of_le s.la r.ch.nx, Nat.lt_of_lt_of_le s.lb r.ch.nx, s.ch.trans (r.ch.wk fun x _ e => .inr e)⟩
theorem row1_sw {N : Nat} {X : Nat} {f : Nat → Nat} (S : Spc h sb fb) (h1 : X ≠ sb) (h2 : X ≠ fb) (m : Mx h' X N f) (c : Chg (· = X) h h') : Row1 h h' X N sb fb f :=
  ⟨m, S.chg c (fun e => h1 e.symm) (fun e => h2 e.symm), c.wk fun _ _ e => .inl e⟩
theorem SS.congr (s : SS H0 B B2 oa ou sb fb R C C2 sp sp2 g u h) (e1 : ∀ t, t < R * C → g t = g' t) (e2 : ∀ t, t < R * C2 → u t = u' t) : SS H0 B B2 oa ou sb fb R C C2 sp sp2 g' u' h :=
  ⟨s.a.congr e1, s.b.congr e2, s.ca, s.cb, s.spc, s.la, s.lb, s.ch⟩
end

theorem le_row {i R c : Nat} (hi : i < R) : i * c + c ≤ R * c := by have := Nat.mul_le_mul_right c (show i + 1 ≤ R from hi); rw [Nat.succ_mul] at this; exact this

theorem steps_l2 {k0 : Nat} (_hk : 1000 ≤ k0) {D : CallF} {H0 : AHeap} {B B2 oa ou sb fb R C C2 : Nat} {sp sp2 : Option Nat} {g u : Nat → Nat} (hsp : spOk sp 1 = true) (hC : 0 < C) (hs : R * C ≤ 100000) {j : Nat} (hj : j < C) (s beside : Option Addr) (rank jj : Int) : ∀ (m i : Nat) (h : AHeap), i + m = R → SS H0 B B2 oa ou sb fb R C C2 sp sp2 g u h → jj = (j : Int) →
    ∃ h', SS H0 B B2 oa ou sb fb R C C2 sp sp2 g u h' ∧ Keeps h h' ∧ ∀ K bot, iterK bot (m + 1) (matrix_Space_steps_l2b k0 D K) s (some ⟨oa, 0, none⟩) beside rank jj (i : Int) h = K s (some ⟨oa, 0, none⟩) beside rank jj (leadN C j g m i : Int) h' := by
  intro m
  induction m with
  | zero =>
    intro i h hi S hjj
    obtain rfl : i = R := by omega
    refine ⟨h, S, .refl _ _, fun K bot => ?_⟩
    rw [iterK_s, matrix_Space_steps_l2b]
    refine jn (bnd rfl (bnd (ldI0 S.ca) ?_))
    exact ifn (by rw [decide_eq_true_eq]; omega) (ifn (by simp) rfl)
  | succ m ih =>
    intro i h hi S hjj
    have hi' : i < R := by omega
    have hpos : i * C + j < R * C := by have := le_row (c := C) hi'; omega
    have rR : R ≤ R * C := Nat.le_mul_of_pos_right R hC
    obtain ⟨h1, e1, k1, _⟩ := row_specS k0 D (r := R) (c := C) (b := B) (i := i) hsp h hi' hC hs
    have S1 := S.keeps k1
    have rd := S1.a.rd (sp := none) hpos
    subst hjj
    by_cases e : g (i * C + j) = 0
    · obtain ⟨h', S', k', e'⟩ := ih (i + 1) h1 (by omega) S1 rfl
      refine ⟨h', S', k1.trans k', fun K bot => ?_⟩
      rw [iterK_s, matrix_Space_steps_l2b]
      refine jn (bnd rfl (bnd (ldI0 S.ca) ?_))
      refine ifp (by rw [decide_eq_true_eq]; omega) ?_
      refine bnd rfl (bnd (ldM3 S.ca) (bnd (decM3 _ _ _) (bnd e1 (bnd (rowOf_idx hj) (bnd rd ?_)))))
      refine ifp (by simp [e]) ?_
      rw [w1 (by omega)]
      have := e' K bot
      rw [show leadN C j g (m + 1) i = leadN C j g m (i + 1) by rw [leadN, if_pos e]]
      exact this
    · refine ⟨h1, S1, k1, fun K bot => ?_⟩
      rw [iterK_s, matrix_Space_steps_l2b]
      refine jn (bnd rfl (bnd (ldI0 S.ca) ?_))
      refine ifp (by rw [decide_eq_true_eq]; omega) ?_
      refine bnd rfl (bnd (ldM3 S.ca) (bnd (decM3 _ _ _) (bnd e1 (bnd (rowOf_idx hj) (bnd rd ?_)))))
      refine ifn (by simp; omega) ?_
      rw [show leadN C j g (m + 1) i = i by rw [leadN, if_neg e]]

/-- the elimination, rows up to i done -/
def elimGi (C r j i : Nat) (g : Nat → Nat) : Nat → Nat := fun t => if t / C < i then elimG C r j g t else g t
def elimUi (C C2 r j i : Nat) (g u : Nat → Nat) : Nat → Nat := fun t => if t / C2 < i then elimU C C2 r j g u t else u t
theorem elimGi_r {C r j i : Nat} (g : Nat → Nat) {x : Nat} (hx : x < C) : elimGi C r j i g (r * C + x) = g (r * C + x) := by
  unfold elimGi elimG
  rw [pos_div hx, if_pos rfl]
  split <;> rfl
theorem elimUi_r {C C2 r j i : Nat} (g u : Nat → Nat) {x : Nat} (hx : x < C2) : elimUi C C2 r j i g u (r * C2 + x) = u (r * C2 + x) := by
  unfold elimUi elimU
  rw [pos_div hx, if_pos rfl]
  split <;> rfl

theorem steps_l1 {k0 : Nat} (hk : 1000 ≤ k0) {H0 : AHeap} {B B2 oa ou sb fb R C C2 : Nat} {sp sp2 : Option Nat} {g u : Nat → Nat} (D : Dist B B2 oa ou sb fb) (hsp : spOk sp 1 = true) (hsp2 : spOk sp2 1 = true) (hC : 0 < C) (hC2 : 0 < C2) (hCl : C ≤ 255) (hCl2 : C2 ≤ 255) (hs : R * C ≤ 100000) (hs2 : R * C2 ≤ 100000)
    {j r : Nat} (hj : j < C) (hr : r < R) : ∀ (m i : Nat) (h : AHeap), i + m = R → SS H0 B B2 oa ou sb fb R C C2 sp sp2 (elimGi C r j i g) (elimUi C C2 r j i g u) h →
    ∃ h', SS H0 B B2 oa ou sb fb R C C2 sp sp2 (elimG C r j g) (elimU C C2 r j g u) h' ∧ ∀ K bot, iterK bot (m + 1) (matrix_Space_steps_l1b k0 (DD k0) K) (some ⟨sb, 0, none⟩) (some ⟨oa, 0, none⟩) (some ⟨ou, 0, none⟩) (r : Int) (j : Int) (R : Int) (i : Int) h = K (some ⟨sb, 0, none⟩) (some ⟨oa, 0, none⟩) (some ⟨ou, 0, none⟩) (r : Int) (j : Int) h' := by
  intro m
  induction m with
  | zero =>
    intro i h hi S
    obtain rfl : i = R := by omega
    refine ⟨h, S.congr (fun t ht => ?_) (fun t ht => ?_), fun K bot => ?_⟩
    · unfold elimGi; rw [if_pos ((Nat.div_lt_iff_lt_mul hC).2 ht)]
    · unfold elimUi; rw [if_pos ((Nat.div_lt_iff_lt_mul hC2).2 ht)]
    · rw [iterK_s, matrix_Space_steps_l1b]
      exact ifn (by rw [decide_eq_true_eq]; omega) rfl
  | succ m ih =>
    intro i h hi S
    have hi' : i < R := by omega
    have pi := le_row (c := C) hi'
    have pr := le_row (c := C) hr
    have pi2 := le_row (c := C2) hi'
    have pr2 := le_row (c := C2) hr
    have rR : R ≤ R * C := Nat.le_mul_of_pos_right R hC
    obtain ⟨h1, e1, k1, _⟩ := row_specS k0 (DD k0) (r := R) (c := C) (b := B) (i := i) hsp h hi' hC hs
    have S1 := S.keeps k1
    have rd := S1.a.rd (sp := none) (show i * C + j < R * C by omega)
    have geq : elimGi C r j i g (i * C + j) = g (i * C + j) := by
      unfold elimGi; rw [pos_div hj, if_neg (by omega)]
    rw [geq] at rd
    by_cases c1 : i = r
    · -- the row itself
      obtain ⟨h', S', e'⟩ := ih (i + 1) h1 (by omega) (S1.congr (fun t _ => by
          unfold elimGi
          by_cases d : t / C < i
          · rw [if_pos d, if_pos (by omega)]
          · rw [if_neg d]
            by_cases d2 : t / C < i + 1
            · rw [if_pos d2]; unfold elimG; rw [if_pos (by omega)]
            · rw [if_neg d2]) (fun t _ => by
          unfold elimUi
          by_cases d : t / C2 < i
          · rw [if_pos d, if_pos (by omega)]
          · rw [if_neg d]
            by_cases d2 : t / C2 < i + 1
            · rw [if_pos d2]; unfold elimU; rw [if_pos (by omega)]
            · rw [if_neg d2]))
      refine ⟨h', S', fun K bot => ?_⟩
      rw [iterK_s, matrix_Space_steps_l1b]
      refine ifp (by rw [decide_eq_true_eq]; omega) ?_
      refine jn (bnd rfl (bnd (ldM3 S.ca) (bnd (decM3 _ _ _) (bnd e1 (bnd (rowOf_idx hj) (bnd rd (jn ?_)))))))
      refine ifn (by simp [c1]) (ifn (by simp) ?_)
      dsimp only
      rw [w1 (by omega)]
      exact e' K bot
    · by_cases c2 : g (i * C + j) = 0
      · -- nothing to add
        obtain ⟨h', S', e'⟩ := ih (i + 1) h1 (by omega) (S1.congr (fun t _ => by
            unfold elimGi
            by_cases d : t / C < i
            · rw [if_pos d, if_pos (by omega)]
            · rw [if_neg d]
              by_cases d2 : t / C < i + 1
              · have : t / C = i := by omega
                rw [if_pos d2]; unfold elimG; rw [if_neg (by omega), this, c2, mulT_comm, mulT_zero, Nat.xor_zero]
              · rw [if_neg d2]) (fun t _ => by
            unfold elimUi
            by_cases d : t / C2 < i
            · rw [if_pos d, if_pos (by omega)]
            · rw [if_neg d]
              by_cases d2 : t / C2 < i + 1
              · have : t / C2 = i := by omega
                rw [if_pos d2]; unfold elimU; rw [if_neg (by omega), this, c2, mulT_comm, mulT_zero, Nat.xor_zero]
              · rw [if_neg d2]))
        refine ⟨h', S', fun K bot => ?_⟩
        rw [iterK_s, matrix_Space_steps_l1b]
        refine ifp (by rw [decide_eq_true_eq]; omega) ?_
        refine jn (bnd rfl (bnd (ldM3 S.ca) (bnd (decM3 _ _ _) (bnd e1 (bnd (rowOf_idx hj) (bnd rd (jn ?_)))))))
        refine ifp (by simp; omega) ?_
        refine ifn (by simp [c2]) ?_
        dsimp only
        rw [w1 (by omega)]
        exact e' K bot
      · -- rows are added
        obtain ⟨h2, e2, k2, _⟩ := row_specS k0 (DD k0) (r := R) (c := C) (b := B) (i := i) hsp h1 hi' hC hs
        have S2 := S1.keeps k2
        obtain ⟨h3, e3, k3, _⟩ := row_specS k0 (DD k0) (r := R) (c := C) (b := B) (i := r) hsp h2 hr hC hs
        have S3 := S2.keeps k3
        have gel : g (i * C + j) < 256 := by rw [← geq]; exact S.a.el _ (by omega)
        obtain ⟨h4, e4, R4⟩ := add_spec hk (B := B) (B2 := B) (N := R * C) (c := C) (i := i) (k := r) (by' := g (i * C + j)) (v := fun x => g (r * C + x)) S3.a S3.spc D.d4 D.d5 hC hCl pi gel
          (fun hh gg mm same _ x hx => by
            rw [mm.rd (show r * C + x < R * C by omega), same _ (by omega) (by rw [pos_div hx]; exact fun e => c1 e.symm), elimGi_r g hx])
          (fun x hx => by rw [← elimGi_r (j := j) (i := i) g hx]; exact S.a.el _ (by omega))
        have S4 := S3.opA D R4
        obtain ⟨h5, e5, k5, _⟩ := row_specS k0 (DD k0) (r := R) (c := C2) (b := B2) (i := i) hsp2 h4 hi' hC2 hs2
        have S5 := S4.keeps k5
        obtain ⟨h6, e6, k6, _⟩ := row_specS k0 (DD k0) (r := R) (c := C2) (b := B2) (i := r) hsp2 h5 hr hC2 hs2
        have S6 := S5.keeps k6
        obtain ⟨h7, e7, R7⟩ := add_spec hk (B := B2) (B2 := B2) (N := R * C2) (c := C2) (i := i) (k := r) (by' := g (i * C + j)) (v := fun x => u (r * C2 + x)) S6.b S6.spc D.e4 D.e5 hC2 hCl2 pi2 gel
          (fun hh gg mm same _ x hx => by
            rw [mm.rd (show r * C2 + x < R * C2 by omega), same _ (by omega) (by rw [pos_div hx]; exact fun e => c1 e.symm), elimUi_r g u hx])
          (fun x hx => by rw [← elimUi_r (C := C) (j := j) (i := i) g u hx]; exact S.b.el _ (by omega))
        have S7 := S6.opB D R7
        obtain ⟨h', S', e'⟩ := ih (i + 1) h7 (by omega) (S7.congr (fun t _ => by
            unfold addR elimGi
            by_cases d : t / C = i
            · rw [if_pos d, if_neg (by omega), if_pos (by omega)]
              unfold elimG
              rw [if_neg (by omega), d]
            · rw [if_neg d]
              by_cases d2 : t / C < i
              · rw [if_pos d2, if_pos (by omega)]
              · rw [if_neg d2, if_neg (by omega)]) (fun t _ => by
            unfold addR elimUi
            by_cases d : t / C2 = i
            · rw [if_pos d, if_neg (by omega), if_pos (by omega)]
              unfold elimU
              rw [if_neg (by omega), d]
            · rw [if_neg d]
              by_cases d2 : t / C2 < i
              · rw [if_pos d2, if_pos (by omega)]
              · rw [if_neg d2, if_neg (by omega)]))
        refine ⟨h', S', fun K bot => ?_⟩
        rw [iterK_s, matrix_Space_steps_l1b]
        refine ifp (by rw [decide_eq_true_eq]; omega) ?_
        refine jn (bnd rfl (bnd (ldM3 S.ca) (bnd (decM3 _ _ _) (bnd e1 (bnd (rowOf_idx hj) (bnd rd (jn ?_)))))))
        refine ifp (by simp; omega) ?_
        refine ifp (by simp; omega) ?_
        refine bnd rfl (bnd (ldM3 S1.ca) (bnd (decM3 _ _ _) (bnd e2 ?_)))
        refine bnd rfl (bnd (ldM3 S2.ca) ?_)
        refine gp (fun H hH => by simp at hH; subst hH; exact bnd rfl (bnd (ldM3 S1.ca) rfl)) ?_
        refine bnd (decM3 _ _ _) (bnd e3 (bnd e4 ?_))
        refine bnd rfl (bnd (ldM3 S4.cb) (bnd (decM3 _ _ _) (bnd e5 ?_)))
        refine bnd rfl (bnd (ldM3 S5.cb) ?_)
        refine gp (fun H hH => by simp at hH; subst hH; exact bnd rfl (bnd (ldM3 S4.cb) rfl)) ?_
        refine bnd (decM3 _ _ _) (bnd e6 (bnd e7 ?_))
        dsimp only
        rw [w1 (by omega)]
        exact e' K bot

theorem leadN_lt {C j : Nat} {g : Nat → Nat} {R r : Nat} (hr : r < R) (h : leadN C j g (R - r) r ≠ R) : r ≤ leadN C j g (R - r) r ∧ leadN C j g (R - r) r < R := by
  have := leadN_le C j g (R - r) r
  omega

end Gy
