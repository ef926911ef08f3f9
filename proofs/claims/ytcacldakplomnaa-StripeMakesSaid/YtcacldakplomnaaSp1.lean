import Derived.Laws.BitsLemmas
import Derived.Test.YtcacldakplomnaaFn1
namespace Gb
open Go Gx
def dbl (x : Nat) : Nat := if 2 * x ≥ 256 then (2 * x) ^^^ 391 else 2 * x
def exL : List Nat := [1, 2, 4, 8, 16, 32, 64, 128, 135, 137, 149, 173, 221, 61, 122, 244, 111, 222, 59, 118, 236, 95, 190, 251, 113, 226, 67, 134, 139, 145, 165, 205, 29, 58, 116, 232, 87, 174, 219, 49, 98, 196, 15, 30, 60, 120, 240, 103, 206, 27, 54, 108, 216, 55, 110, 220, 63, 126, 252, 127, 254, 123, 246, 107, 214, 43, 86, 172, 223, 57, 114, 228, 79, 158, 187, 241, 101, 202, 19, 38, 76, 152, 183, 233, 85, 170, 211, 33, 66, 132, 143, 153, 181, 237, 93, 186, 243, 97, 194, 3, 6, 12, 24, 48, 96, 192, 7, 14, 28, 56, 112, 224, 71, 142, 155, 177, 229, 77, 154, 179, 225, 69, 138, 147, 161, 197, 13, 26, 52, 104, 208, 39, 78, 156, 191, 249, 117, 234, 83, 166, 203, 17, 34, 68, 136, 151, 169, 213, 45, 90, 180, 239, 89, 178, 227, 65, 130, 131, 129, 133, 141, 157, 189, 253, 125, 250, 115, 230, 75, 150, 171, 209, 37, 74, 148, 175, 217, 53, 106, 212, 47, 94, 188, 255, 121, 242, 99, 198, 11, 22, 44, 88, 176, 231, 73, 146, 163, 193, 5, 10, 20, 40, 80, 160, 199, 9, 18, 36, 72, 144, 167, 201, 21, 42, 84, 168, 215, 41, 82, 164, 207, 25, 50, 100, 200, 23, 46, 92, 184, 247, 105, 210, 35, 70, 140, 159, 185, 245, 109, 218, 51, 102, 204, 31, 62, 124, 248, 119, 238, 91, 182, 235, 81, 162, 195]
def lgL : List Nat := [0, 0, 1, 99, 2, 198, 100, 106, 3, 205, 199, 188, 101, 126, 107, 42, 4, 141, 206, 78, 200, 212, 189, 225, 102, 221, 127, 49, 108, 32, 43, 243, 5, 87, 142, 232, 207, 172, 79, 131, 201, 217, 213, 65, 190, 148, 226, 180, 103, 39, 222, 240, 128, 177, 50, 53, 109, 69, 33, 18, 44, 13, 244, 56, 6, 155, 88, 26, 143, 121, 233, 112, 208, 194, 173, 168, 80, 117, 132, 72, 202, 252, 218, 138, 214, 84, 66, 36, 191, 152, 149, 249, 227, 94, 181, 21, 104, 97, 40, 186, 223, 76, 241, 47, 129, 230, 178, 63, 51, 238, 54, 16, 110, 24, 70, 166, 34, 136, 19, 247, 45, 184, 14, 61, 245, 164, 57, 59, 7, 158, 156, 157, 89, 159, 27, 8, 144, 9, 122, 28, 234, 160, 113, 90, 209, 29, 195, 123, 174, 10, 169, 145, 81, 91, 118, 114, 133, 161, 73, 235, 203, 124, 253, 196, 219, 30, 139, 210, 215, 146, 85, 170, 67, 11, 37, 175, 192, 115, 153, 119, 150, 92, 250, 82, 228, 236, 95, 74, 182, 162, 22, 134, 105, 197, 98, 254, 41, 125, 187, 204, 224, 211, 77, 140, 242, 31, 48, 220, 130, 171, 231, 86, 179, 147, 64, 216, 52, 176, 239, 38, 55, 12, 17, 68, 111, 120, 25, 154, 71, 116, 167, 193, 35, 83, 137, 251, 20, 93, 248, 151, 46, 75, 185, 96, 15, 237, 62, 229, 246, 135, 165, 23, 58, 163, 60, 183]
def ex (i : Nat) : Nat := exL.getD i 0
def lg (a : Nat) : Nat := lgL.getD a 0
theorem ex_lt : ∀ i, i < 255 → 1 ≤ ex i ∧ ex i < 256 := by decide +kernel
theorem ex_succ : ∀ i, i < 254 → dbl (ex i) = ex (i + 1) := by decide +kernel
theorem ex_last : dbl (ex 254) = 1 := by decide +kernel
theorem lg_ex : ∀ i, i < 255 → lg (ex i) = i := by decide +kernel
theorem ex_lg : ∀ a, a < 256 → 1 ≤ a → ex (lg a) = a := by decide +kernel
theorem lg_lt : ∀ a, a < 256 → lg a < 255 := by decide +kernel
theorem dbl_lt : ∀ a, a < 256 → dbl a < 256 := by decide +kernel
theorem ex_inj {i j : Nat} (hi : i < 255) (hj : j < 255) (h : ex i = ex j) : i = j := by
  rw [← lg_ex i hi, ← lg_ex j hj, h]
def mulT (a b : Nat) : Nat := if a = 0 ∨ b = 0 then 0 else ex ((lg a + lg b) % 255)
theorem dI (k : Nat) (D : CallF) (h : AHeap) : ∀ x : Nat, x < 256 → field_double k D (x : Int) h = some ((dbl x : Int), h) := by
  have key : ∀ x : Nat, x < 256 → (if (decide ((IntKind.wrap .i64 ((x : Int) * 2)) ≥ 256)) = true then Go.bits .xor .i64 (IntKind.wrap .i64 ((x : Int) * 2)) 391 else IntKind.wrap .i64 ((x : Int) * 2)) = (dbl x : Int) := by decide +kernel
  intro x hx
  have := key x hx
  unfold field_double joinK
  split <;> rename_i hc
  · rw [if_pos hc] at this; rw [this]
  · rw [if_neg hc] at this; rw [this]
theorem st1_of {h : AHeap} {b o : Nat} {sp : Option Nat} {c : List Value} {e : TypeId} {v : Value} (hb : h.get b = some (.cells c e true 0)) (ho : o < c.length) (hv : one v = true) : st1 ⟨b, o, sp⟩ v h = some (h.set b (.cells (c.set o v) e true 0)) := by
  simp [st1, AHeap.wr1, hb, ho, hv]
theorem ldI_of {h : AHeap} {b o : Nat} {sp : Option Nat} {c : List Value} {e : TypeId} {rw' : Bool} {fz : Nat} {k : IntKind} {x : Int} (hb : h.get b = some (.cells c e rw' fz)) (ho : c[o]? = some (.int k x)) : ldI k ⟨b, o, sp⟩ h = some x := by
  simp [ldI, AHeap.rd1, hb, ho, decI]
theorem set_set (h : AHeap) (b : Nat) (B C : ABlk) : (h.set b B).set b C = h.set b C := by
  simp only [AHeap.set, AHeap.mk.injEq, true_and]
  funext x
  by_cases e : x = b <;> simp [e]
theorem set_self {h : AHeap} {b : Nat} {B : ABlk} (hb : h.get b = some B) : h.set b B = h := by
  obtain ⟨n, g⟩ := h
  simp only [AHeap.set, AHeap.mk.injEq, true_and] at hb ⊢
  funext x
  by_cases e : x = b
  · simp [e, hb]
  · simp [e]
def fresh : List Value := [.int .u32 0] ++ [.int .i32 0] ++ [.int .u32 0] ++ List.replicate 510 (.int .u8 0) ++ List.replicate 256 (.int .i64 0)
structure Part (i : Nat) (c : List Value) : Prop where
  len : c.length = 769
  lo : ∀ j, j < i → c[3 + j]? = some (.int .u8 (ex j : Int))
  hi : ∀ j, j < i → c[258 + j]? = some (.int .u8 (ex j : Int))
  lg : ∀ j, j < i → c[513 + ex j]? = some (.int .i64 (j : Int))
  lz : c[513]? = some (.int .i64 0)
  done : c[0]? = some (.int .u32 0)
  mu : c[1]? = some (.int .i32 1)
theorem part_step {i : Nat} {c : List Value} (hi : i < 255) (p : Part i c) :
    Part (i + 1) (((c.set (3 + i) (.int .u8 (ex i : Int))).set (258 + i) (.int .u8 (ex i : Int))).set (513 + ex i) (.int .i64 (i : Int))) := by
  obtain ⟨e1, e2⟩ := ex_lt i hi
  have len := p.len
  refine ⟨by simp [len], fun j hj => ?_, fun j hj => ?_, fun j hj => ?_, ?_, ?_, ?_⟩
  · by_cases hji : j = i
    · subst hji
      rw [List.getElem?_set_ne (by omega), List.getElem?_set_ne (by omega), List.getElem?_set_self (by omega)]
    · rw [List.getElem?_set_ne (by omega), List.getElem?_set_ne (by omega), List.getElem?_set_ne (by omega)]
      exact p.lo j (by omega)
  · by_cases hji : j = i
    · subst hji
      rw [List.getElem?_set_ne (by omega), List.getElem?_set_self (by simp; omega)]
    · rw [List.getElem?_set_ne (by omega), List.getElem?_set_ne (by omega), List.getElem?_set_ne (by omega)]
      exact p.hi j (by omega)
  · by_cases hji : j = i
    · subst hji
      rw [List.getElem?_set_self (by simp; omega)]
    · have : ex j ≠ ex i := fun e => hji (ex_inj (by omega) hi e)
      rw [List.getElem?_set_ne (by omega), List.getElem?_set_ne (by omega), List.getElem?_set_ne (by omega)]
      exact p.lg j (by omega)
  · rw [List.getElem?_set_ne (by omega), List.getElem?_set_ne (by omega), List.getElem?_set_ne (by omega)]; exact p.lz
  · rw [List.getElem?_set_ne (by omega), List.getElem?_set_ne (by omega), List.getElem?_set_ne (by omega)]; exact p.done
  · rw [List.getElem?_set_ne (by omega), List.getElem?_set_ne (by omega), List.getElem?_set_ne (by omega)]; exact p.mu
theorem w64 (x : Int) (h : -9223372036854775808 ≤ x ∧ x ≤ 9223372036854775807) : IntKind.wrap .i64 x = x := by
  rw [IntKind.wrap_i64]; omega
theorem w8 (x : Int) (h : 0 ≤ x ∧ x < 256) : IntKind.wrap .u8 x = x := by
  rw [IntKind.wrap_u8]; omega
theorem idxA_of {n size b o : Nat} {sp : Option Nat} {i : Int} (h : 0 ≤ i ∧ i < n) : idxA n size ⟨b, o, sp⟩ i = some ⟨b, o + i.toNat * size, none⟩ := by
  unfold idxA; rw [if_pos h]
end Gb
namespace Gb
open Go Gx
theorem st1_set {h : AHeap} {b o : Nat} {sp : Option Nat} {c : List Value} {e : TypeId} {v : Value} (ho : o < c.length) (hv : one v = true) : st1 ⟨b, o, sp⟩ v (h.set b (.cells c e true 0)) = some (h.set b (.cells (c.set o v) e true 0)) := by
  rw [st1_of (c := c) (e := e) (by simp) ho hv, set_set]
theorem make_loop (K : Nat) (D : CallF) (b : Nat) (e : TypeId) (bot) : ∀ (m i : Nat) (c : List Value) (h : AHeap), i + m = 255 → h.get b = some (.cells c e true 0) → Part i c →
    ∃ c', Part 255 c' ∧ iterK bot (m + 1) (field_Field_make_l0b K D) (some ⟨b, 0, none⟩) ((if i = 255 then 1 else ex i : Nat) : Int) (i : Int) h = some ((), h.set b (.cells c' e true 0))
  | 0, i, c, h, hi, hb, p => by
    have : i = 255 := by omega
    subst this
    refine ⟨c, p, ?_⟩
    simp only [iterK, field_Field_make_l0b]
    rw [if_neg (by simp), set_self hb]
  | m + 1, i, c, h, hi, hb, p => by
    have hlt : i < 255 := by omega
    obtain ⟨e1, e2⟩ := ex_lt i hlt
    have len := p.len
    have hi0 : ((i : Int).toNat) = i := by simp
    have q := part_step hlt p
    obtain ⟨c', p', hr⟩ := make_loop K D b e bot m (i + 1) _ (h.set b (.cells (((c.set (3 + i) (.int .u8 (ex i : Int))).set (258 + i) (.int .u8 (ex i : Int))).set (513 + ex i) (.int .i64 (i : Int))) e true 0)) (by omega) (by simp) q
    refine ⟨c', p', ?_⟩
    rw [iterK, field_Field_make_l0b]
    have hne : ¬ i = 255 := by omega
    rw [if_pos (by simp; omega), if_neg hne]
    simp only [Option.bind_some]
    rw [idxA_of (by omega)]
    simp only [Option.bind_some, hi0]
    rw [w8 _ (by omega), st1_of hb (by omega) rfl]
    simp only [Option.bind_some]
    rw [w64 _ (by omega), idxA_of (by omega)]
    simp only [Option.bind_some]
    rw [show ((i : Int) + 255).toNat = i + 255 from by omega, st1_set (by simp; omega) rfl]
    simp only [Option.bind_some]
    rw [idxA_of (by omega)]
    simp only [Option.bind_some]
    rw [show ((ex i : Int)).toNat = ex i from by simp, st1_set (by simp; omega) rfl]
    simp only [Option.bind_some]
    rw [dI _ _ _ _ e2]
    simp only [Option.bind_some]
    rw [w64 _ (by omega)]
    have hx : (dbl (ex i) : Int) = ((if i + 1 = 255 then 1 else ex (i + 1) : Nat) : Int) := by
      split
      · rename_i h1
        have : i = 254 := by omega
        subst this; rw [ex_last]
      · rw [ex_succ i (by omega)]
    rw [hx]
    have h3 : 0 + 3 + 0 + i * 1 = 3 + i := by omega
    have h4 : 0 + 3 + 0 + (i + 255) * 1 = 258 + i := by omega
    have h5 : 0 + 3 + 510 + ex i * 1 = 513 + ex i := by omega
    rw [h3, h4, h5]
    rw [set_set] at hr
    exact_mod_cast hr
end Gb
namespace Gb
open Go Gx Go.Proofs
noncomputable def DD (k : Nat) : CallF := mkC noC [e_field_Field_make k noC]
theorem DD_sound (k : Nat) : CSound Try.prog 0 (DD k) := mkC_sound noC_sound (EntsOk.more (ok_field_Field_make noC_sound k) EntsOk.none)
structure Made (c : List Value) : Prop where
  len : c.length = 769
  lo : ∀ j, j < 255 → c[3 + j]? = some (.int .u8 (ex j : Int))
  hi : ∀ j, j < 255 → c[258 + j]? = some (.int .u8 (ex j : Int))
  lg : ∀ j, j < 255 → c[513 + ex j]? = some (.int .i64 (j : Int))
  lz : c[513]? = some (.int .i64 0)
  done : c[0]? = some (.int .u32 1)
def Fld (h : AHeap) (b : Nat) : Prop := ∃ c, h.get b = some (.cells c 131 true 0) ∧ (c = fresh ∨ Made c)
theorem fresh_part : Part 0 (fresh.set 1 (.int .i32 1)) where
  len := by kernel_rfl
  lo := fun j h => absurd h (Nat.not_lt_zero j)
  hi := fun j h => absurd h (Nat.not_lt_zero j)
  lg := fun j h => absurd h (Nat.not_lt_zero j)
  lz := by kernel_rfl
  done := rfl
  mu := rfl
theorem made_of {c : List Value} (p : Part 255 c) : Made ((c.set 0 (.int .u32 1)).set 1 (.int .i32 0)) where
  len := by simp [p.len]
  lo := fun j h => by rw [List.getElem?_set_ne (by omega), List.getElem?_set_ne (by omega)]; exact p.lo j h
  hi := fun j h => by rw [List.getElem?_set_ne (by omega), List.getElem?_set_ne (by omega)]; exact p.hi j h
  lg := fun j h => by rw [List.getElem?_set_ne (by omega), List.getElem?_set_ne (by omega)]; exact p.lg j h
  lz := by rw [List.getElem?_set_ne (by omega), List.getElem?_set_ne (by omega)]; exact p.lz
  done := by rw [List.getElem?_set_ne (by omega), List.getElem?_set_self (by rw [p.len]; omega)]
theorem lock_spec (k : Nat) (D : CallF) {h : AHeap} {b o : Nat} {c : List Value} {e : TypeId} (hb : h.get b = some (.cells c e true 0)) (ho : c[o]? = some (.int .i32 0)) :
    sync_Mutex_Lock k D (some ⟨b, o, none⟩) h = some ((), h.set b (.cells (c.set o (.int .i32 1)) e true 0)) := by
  have hlt : o < c.length := (List.getElem?_eq_some_iff.1 ho).1
  simp only [sync_Mutex_Lock, internal_sync_Mutex_Lock, Option.bind_some, Nat.add_zero]
  rw [ldI_of hb ho]
  simp only [Option.bind_some, if_true]
  rw [st1_of hb hlt rfl]
  simp [AHeap.rd1, hlt]
theorem unlock_spec (k : Nat) (D : CallF) {h : AHeap} {b o : Nat} {c : List Value} {e : TypeId} (hb : h.get b = some (.cells c e true 0)) (ho : c[o]? = some (.int .i32 1)) :
    sync_Mutex_Unlock k D (some ⟨b, o, none⟩) h = some ((), h.set b (.cells (c.set o (.int .i32 0)) e true 0)) := by
  have hlt : o < c.length := (List.getElem?_eq_some_iff.1 ho).1
  simp only [sync_Mutex_Unlock, internal_sync_Mutex_Unlock, joinK, Option.bind_some, Nat.add_zero]
  rw [ldI_of hb ho]
  have hr : AHeap.rd1 h b o = some (.int .i32 1) := by simp [AHeap.rd1, hb, ho]
  simp only [Option.bind_some, hr]
  have hw : IntKind.wrap .i32 (1 + -1) = 0 := by decide
  rw [hw, st1_of hb hlt rfl]
  simp
theorem store_spec (k : Nat) (D : CallF) {h : AHeap} {b o : Nat} {c : List Value} {e : TypeId} {x : Int} (hb : h.get b = some (.cells c e true 0)) (ho : c[o]? = some (.int .u32 x)) :
    sync_atomic_Bool_Store k D (some ⟨b, o, none⟩) true h = some ((), h.set b (.cells (c.set o (.int .u32 1)) e true 0)) := by
  have hlt : o < c.length := (List.getElem?_eq_some_iff.1 ho).1
  simp only [sync_atomic_Bool_Store, sync_atomic_b32, Option.bind_some, Nat.add_zero, if_true]
  rw [ldI_of hb ho]
  simp only [Option.bind_some]
  rw [st1_of hb hlt rfl]
  rfl
theorem iterK_add {α : Type} (bot : α) (b : α → α) (n : Nat) : ∀ m, iterK bot (m + n) b = iterK (iterK bot n b) m b
  | 0 => by rw [Nat.zero_add]; rfl
  | m + 1 => by rw [Nat.succ_add]; simp only [iterK]; rw [iterK_add bot b n m]
theorem tables_spec {k : Nat} (hk : 256 ≤ k) {h : AHeap} {b : Nat} (hf : Fld h b) :
    ∃ c', Made c' ∧ field_Field_tables k (DD k) (some ⟨b, 0, none⟩) h = some (some ⟨b, 3, none⟩, h.set b (.cells c' 131 true 0)) := by
  obtain ⟨c, hb, rfl | hm⟩ := hf
  · -- not yet
    obtain ⟨k', rfl⟩ : ∃ k', k = 255 + 1 + k' := ⟨k - 256, by omega⟩
    have hf0 : fresh[0]? = some (.int .u32 0) := rfl
    have hf1 : fresh[1]? = some (.int .i32 0) := rfl
    have hb1 : (h.set b (.cells (fresh.set 1 (.int .i32 1)) 131 true 0)).get b = some (.cells (fresh.set 1 (.int .i32 1)) 131 true 0) := by simp
    obtain ⟨c', p', hm⟩ := make_loop (255 + 1 + k') noC b 131 (iterK (fun _ _ _ _ => none) k' (field_Field_make_l0b (255 + 1 + k') noC)) 255 0 _ (h.set b (.cells (fresh.set 1 (.int .i32 1)) 131 true 0)) (by omega) hb1 fresh_part
    have hmk : field_Field_make (255 + 1 + k') noC (some ⟨b, 0, none⟩) (h.set b (.cells (fresh.set 1 (.int .i32 1)) 131 true 0)) = some ((), h.set b (.cells c' 131 true 0)) := by
      rw [set_set] at hm
      rw [field_Field_make, field_Field_make_l0, ← hm, iterK_add]
      rfl
    have l0 := p'.done
    have l1 := p'.mu
    refine ⟨_, made_of p', ?_⟩
    simp only [field_Field_tables, sync_Once_Do, sync_atomic_Bool_Load, Option.bind_some, Nat.add_zero]
    rw [ldI_of hb hf0]
    simp only [Option.bind_some, bne_self_eq_false, Bool.not_false, if_true, sync_Once_doSlow, sync_atomic_Bool_Load, Nat.zero_add, Nat.add_zero]
    rw [lock_spec _ _ hb hf1]
    simp only [Option.bind_some]
    rw [ldI_of (x := 0) (k := .u32) hb1 rfl]
    simp only [Option.bind_some, bne_self_eq_false, Bool.not_false, if_true]
    have hcall : ∀ {R : Type} (κ : Value → AHeap → Option R), callD (C_sync_Once_doSlow (255 + 1 + k') (DD (255 + 1 + k'))) (.func (.func 86) ⟨[.pointer (some ⟨b, 0, none⟩)]⟩ ⟨[]⟩) [] (h.set b (.cells (fresh.set 1 (.int .i32 1)) 131 true 0)) κ = κ (.tuple ⟨[]⟩) (h.set b (.cells c' 131 true 0)) := by
      intro R κ
      show (field_Field_make (255 + 1 + k') noC (some ⟨b, 0, none⟩) (h.set b (.cells (fresh.set 1 (.int .i32 1)) 131 true 0))).bind _ = _
      rw [hmk]
      rfl
    rw [hcall]
    rw [store_spec _ _ (c := c') (e := 131) (by simp) l0, set_set]
    simp only [Option.bind_some]
    have h1' : (c'.set 0 (.int .u32 1))[1]? = some (.int .i32 1) := by rw [List.getElem?_set_ne (by omega)]; exact l1
    rw [unlock_spec _ _ (c := c'.set 0 (.int .u32 1)) (e := 131) (by simp) h1', set_set]
    rfl
  · refine ⟨c, hm, ?_⟩
    simp only [field_Field_tables, sync_Once_Do, sync_atomic_Bool_Load, Option.bind_some, Nat.add_zero]
    rw [ldI_of hb hm.done]
    simp [set_self hb]
end Gb
namespace Gb
open Go Gx Go.Proofs
def inR (x : Int) : Bool := !(decide (x < 0) || decide (x ≥ 256))
theorem inR_nat {x : Nat} (h : x < 256) : inR (x : Int) = true := by
  simp [inR]; omega
theorem inR_iff {x : Int} : inR x = true ↔ ∃ n : Nat, x = n ∧ n < 256 := by
  simp [inR]
  constructor
  · rintro ⟨h1, h2⟩; exact ⟨x.toNat, by omega, by omega⟩
  · rintro ⟨n, rfl, h⟩; omega
theorem idxL_of {size b o len cap : Nat} {sp : Option Nat} {i : Int} (h : 0 ≤ i ∧ i < len) : idxL size ⟨some ⟨b, o, sp⟩, len, cap⟩ i = some ⟨b, o + i.toNat * size, none⟩ := by
  simp only [idxL]; rw [if_pos h]
theorem is_loop (K : Nat) (D : CallF) (n : Nat) (sp : Option Nat) (cap : Nat) (j2 : AHeap → Option (Bool × AHeap)) (bot) (xs : List Int) (e : TypeId) (rw' : Bool) (fz : Nat) (h : AHeap) (hsm : xs.length < 9223372036854775807)
    (hb : h.get n = some (.cells (xs.map fun x => .int .i64 x) e rw' fz)) : ∀ (m i : Nat), i + m = xs.length →
    iterK bot (m + 1) (field_is_l0b K D j2) ⟨some ⟨n, 0, sp⟩, xs.length, cap⟩ (xs.length : Int) (i : Int) h = if (xs.drop i).all inR = true then j2 h else some (false, h)
  | 0, i, hi => by
    have : xs.length ≤ i := by omega
    rw [iterK, field_is_l0b, if_neg (by simp; omega), List.drop_eq_nil_of_le this]
    simp
  | m + 1, i, hi => by
    have hlt : i < xs.length := by omega
    rw [iterK, field_is_l0b, if_pos (by simp; omega), idxL_of (by omega)]
    simp only [Option.bind_some]
    have hx : (xs.map fun x => Value.int .i64 x)[0 + (i : Int).toNat * 1]? = some (.int .i64 xs[i]) := by simp [hlt]
    rw [ldI_of hb hx]
    simp only [Option.bind_some, joinK]
    have ih := is_loop K D n sp cap j2 bot xs e rw' fz h hsm hb m (i + 1) (by omega)
    rw [w64 _ (by omega)]
    have hi1 : ((i : Int) + 1) = ((i + 1 : Nat) : Int) := by omega
    rw [hi1, ih]
    rw [List.drop_eq_getElem_cons hlt]
    simp only [List.all_cons, inR]
    by_cases c1 : xs[i] < 0
    · simp [c1]
    · by_cases c2 : xs[i] ≥ 256
      · simp [c1, c2]
      · simp [c1, c2, inR]
theorem is_spec {k : Nat} (D : CallF) {n : Nat} {sp : Option Nat} {cap : Nat} {xs : List Int} {e : TypeId} {rw' : Bool} {fz : Nat} {h : AHeap} (hk : xs.length < k) (hsm : xs.length < 9223372036854775807)
    (hb : h.get n = some (.cells (xs.map fun x => .int .i64 x) e rw' fz)) : field_is k D ⟨some ⟨n, 0, sp⟩, xs.length, cap⟩ h = some (xs.all inR, h) := by
  obtain ⟨k', rfl⟩ : ∃ k', k = xs.length + 1 + k' := ⟨k - (xs.length + 1), by omega⟩
  rw [field_is, joinK, field_is_l0, iterK_add]
  have := is_loop (xs.length + 1 + k') D n sp cap (fun h1 => some (true, h1)) (iterK (fun _ _ _ _ => none) k' (field_is_l0b (xs.length + 1 + k') D fun h1 => some (true, h1))) xs e rw' fz h hsm hb xs.length 0 (by omega)
  rw [List.drop_zero] at this
  refine this.trans ?_
  cases xs.all inR <;> rfl
structure FS (b : Nat) (h h' : AHeap) : Prop where
  nx : h.next ≤ h'.next
  oth : ∀ x, x < h.next → x ≠ b → h'.get x = h.get x
  fld : Fld h' b
theorem FS.trans {b : Nat} {h h1 h2 : AHeap} (a : FS b h h1) (c : FS b h1 h2) : FS b h h2 :=
  ⟨Nat.le_trans a.nx c.nx, fun x hx hb => (c.oth x (Nat.lt_of_lt_of_le hx a.nx) hb).trans (a.oth x hx hb), c.fld⟩
theorem FS.new {b : Nat} {h : AHeap} (hf : Fld h b) (hb : b < h.next) (B : ABlk) : FS b h (h.new B) :=
  ⟨by simp, fun x hx _ => by simp; omega, by
    obtain ⟨c, h1, h2⟩ := hf
    exact ⟨c, by simp; rw [if_neg (by omega)]; exact h1, h2⟩⟩
theorem FS.made {b : Nat} {h : AHeap} {c : List Value} (hm : Made c) : FS b h (h.set b (.cells c 131 true 0)) :=
  ⟨by simp, fun x hx hb => by simp [hb], ⟨c, by simp, .inr hm⟩⟩
theorem FS.refl {b : Nat} {h : AHeap} (hf : Fld h b) : FS b h h := ⟨Nat.le_refl _, fun _ _ _ => rfl, hf⟩
theorem log_at {h : AHeap} {b : Nat} {c : List Value} (hb : h.get b = some (.cells c 131 true 0)) (hm : Made c) {a : Nat} (ha : a < 256) {sp : Option Nat} : ldI .i64 ⟨b, 513 + a, sp⟩ h = some (lg a : Int) := by
  by_cases h0 : a = 0
  · subst h0; rw [ldI_of hb hm.lz]; rfl
  · have h1 := ex_lg a ha (by omega)
    have := hm.lg (lg a) (lg_lt a ha)
    rw [h1] at this
    exact ldI_of hb this
theorem exp_at {h : AHeap} {b : Nat} {c : List Value} (hb : h.get b = some (.cells c 131 true 0)) (hm : Made c) {j : Nat} (hj : j < 510) {sp : Option Nat} : ldI .u8 ⟨b, 3 + j, sp⟩ h = some (ex (j % 255) : Int) := by
  by_cases h1 : j < 255
  · rw [Nat.mod_eq_of_lt h1]; exact ldI_of hb (hm.lo j h1)
  · have := hm.hi (j - 255) (by omega)
    rw [show 258 + (j - 255) = 3 + j from by omega] at this
    rw [show j % 255 = j - 255 from by omega]
    exact ldI_of hb this
theorem times_spec (k : Nat) (D : CallF) {h : AHeap} {b : Nat} {c : List Value} (hb : h.get b = some (.cells c 131 true 0)) (hm : Made c) {x y : Nat} (hx : x < 256) (hy : y < 256) :
    field_tables_times k D (some ⟨b, 3, none⟩) x y h = some ((mulT x y : Int), h) := by
  unfold field_tables_times joinK mulT
  by_cases h0 : x = 0
  · subst h0; simp
  · by_cases h1 : y = 0
    · subst h1; simp [h0]
    · have e0 : ((x : Int) == 0) = false := by simp; omega
      have e1 : ((y : Int) == 0) = false := by simp; omega
      have l1 := lg_lt x hx
      have l2 := lg_lt y hy
      rw [e0, e1]
      simp only [Bool.false_eq_true, if_false, Option.bind_some]
      rw [idxA_of (by omega), idxA_of (by omega)]
      simp only [Option.bind_some]
      have a1 : 3 + 510 + (x : Int).toNat * 1 = 513 + x := by omega
      have a2 : 3 + 510 + (y : Int).toNat * 1 = 513 + y := by omega
      rw [a1, a2, log_at hb hm hx, log_at hb hm hy]
      simp only [Option.bind_some]
      rw [w64 _ (by omega), idxA_of (by omega)]
      simp only [Option.bind_some]
      have a3 : 3 + 0 + ((lg x : Int) + (lg y : Int)).toNat * 1 = 3 + (lg x + lg y) := by omega
      rw [a3, exp_at hb hm (by omega)]
      have := (ex_lt ((lg x + lg y) % 255) (Nat.mod_lt _ (by omega))).2
      simp only [Option.bind_some]
      rw [w64 _ (by omega)]
      simp [h0, h1]
theorem is2 {k : Nat} (hk : 256 ≤ k) (D : CallF) (h : AHeap) (x y : Int) (t : TypeId) : field_is k D (⟨some ⟨h.next, 0, some 0⟩, 2, 2⟩ : Slc) (AHeap.new h (.cells [.int .i64 x, .int .i64 y] t true 0)) = some (inR x && inR y, AHeap.new h (.cells [.int .i64 x, .int .i64 y] t true 0)) := by
  have := is_spec (k := k) D (n := h.next) (sp := some 0) (cap := 2) (xs := [x, y]) (e := t) (rw' := true) (fz := 0) (h := AHeap.new h (.cells [.int .i64 x, .int .i64 y] t true 0)) (by simp; omega) (by simp) (by simp)
  simpa using this
end Gb
namespace Gb
open Go Gx Go.Proofs
structure Ext (h h' : AHeap) : Prop where
  nx : h.next ≤ h'.next
  oth : ∀ x, x < h.next → h'.get x = h.get x
theorem Ext.trans {h h1 h2 : AHeap} (a : Ext h h1) (c : Ext h1 h2) : Ext h h2 :=
  ⟨Nat.le_trans a.nx c.nx, fun x hx => (c.oth x (Nat.lt_of_lt_of_le hx a.nx)).trans (a.oth x hx)⟩
theorem Ext.new (h : AHeap) (B : ABlk) : Ext h (h.new B) := ⟨by simp, fun x hx => by simp; omega⟩
theorem Ext.fs {h h1 h2 : AHeap} {b : Nat} (a : Ext h h1) (c : FS b h1 h2) (hb : h.next ≤ b) : Ext h h2 :=
  ⟨Nat.le_trans a.nx c.nx, fun x hx => (c.oth x (Nat.lt_of_lt_of_le hx a.nx) (by omega)).trans (a.oth x hx)⟩
theorem new_spec (k : Nat) (D : CallF) (h : AHeap) : field_New k D h = some (some ⟨h.next, 0, none⟩, h.new (.cells fresh 131 true 0)) := rfl
theorem fld_new (h : AHeap) : Fld (h.new (.cells fresh 131 true 0)) h.next := ⟨fresh, by simp, .inl rfl⟩
end Gb
namespace Gb
open Go Gx Go.Proofs
theorem mulT_ex {i j : Nat} (hi : i < 255) (hj : j < 255) : mulT (ex i) (ex j) = ex ((i + j) % 255) := by
  have a := (ex_lt i hi).1
  have b := (ex_lt j hj).1
  unfold mulT
  rw [if_neg (by omega), lg_ex i hi, lg_ex j hj]
theorem mulT_lt (x y : Nat) : mulT x y < 256 := by
  unfold mulT
  split
  · omega
  · exact (ex_lt _ (Nat.mod_lt _ (by omega))).2
theorem mulT_ne {x y : Nat} (hx : x ≠ 0) (hy : y ≠ 0) : mulT x y ≠ 0 := by
  unfold mulT
  rw [if_neg (by omega)]
  have := (ex_lt ((lg x + lg y) % 255) (Nat.mod_lt _ (by omega))).1
  omega
theorem lg_mulT {x y : Nat} (hx : x ≠ 0) (hy : y ≠ 0) : lg (mulT x y) = (lg x + lg y) % 255 := by
  unfold mulT
  rw [if_neg (by omega), lg_ex _ (Nat.mod_lt _ (by omega))]
theorem bnd {α β : Type} {x : Option α} {f : α → Option β} {v : α} {r : Option β} (h : x = some v) (k : f v = r) : x.bind f = r := by rw [h]; exact k
theorem jn {α R : Type} {j : α} {b : α → R} {r : R} (k : b j = r) : joinK j b = r := k
theorem ifp {α : Type} {c : Prop} [Decidable c] {a b r : α} (h : c) (k : a = r) : (if c then a else b) = r := by rw [if_pos h]; exact k
theorem ifn {α : Type} {c : Prop} [Decidable c] {a b r : α} (h : ¬ c) (k : b = r) : (if c then a else b) = r := by rw [if_neg h]; exact k
theorem gp {R : Type} {p : Prop} {x r : Option R} (h : p) (k : x = r) : guardP p x = r := by rw [guardP_true h]; exact k
end Gb
namespace Gb
open Go Gx Go.Proofs
theorem dbl_bit : ∀ b, b < 256 → dbl b = (b * 2 ^ 1) ^^^ (if b.testBit 7 then 391 else 0) := by decide +kernel
theorem xlc (a b c : Nat) : a ^^^ (b ^^^ c) = b ^^^ (a ^^^ c) := by rw [← Nat.xor_assoc, Nat.xor_comm a b, Nat.xor_assoc]
theorem mul_xor (a b i : Nat) : (a ^^^ b) * 2 ^ i = (a * 2 ^ i) ^^^ (b * 2 ^ i) := by
  rw [← Nat.shiftLeft_eq, ← Nat.shiftLeft_eq, ← Nat.shiftLeft_eq, Nat.shiftLeft_xor_distrib]
theorem dbl_xor (b : Nat) (hb : b < 256) (c : Nat) (hc : c < 256) : dbl (b ^^^ c) = dbl b ^^^ dbl c := by
  rw [dbl_bit b hb, dbl_bit c hc, dbl_bit _ (Nat.xor_lt_two_pow (n := 8) hb hc), mul_xor, Nat.testBit_xor]
  cases b.testBit 7 <;> cases c.testBit 7 <;> simp [Nat.xor_assoc, Nat.xor_comm, xlc]
theorem xor_lt {b c : Nat} (hb : b < 256) (hc : c < 256) : b ^^^ c < 256 := Nat.xor_lt_two_pow (n := 8) hb hc
def dp : Nat → Nat → Nat
  | 0, b => b
  | n + 1, b => dbl (dp n b)
theorem dp_lt (n : Nat) {b : Nat} (hb : b < 256) : dp n b < 256 := by
  induction n with
  | zero => exact hb
  | succ n ih => exact dbl_lt _ ih
theorem dp_xor (n : Nat) {b c : Nat} (hb : b < 256) (hc : c < 256) : dp n (b ^^^ c) = dp n b ^^^ dp n c := by
  induction n with
  | zero => rfl
  | succ n ih => simp only [dp]; rw [ih, dbl_xor _ (dp_lt n hb) _ (dp_lt n hc)]
theorem dp_zero (n : Nat) : dp n 0 = 0 := by
  induction n with
  | zero => rfl
  | succ n ih => simp only [dp]; rw [ih]; rfl
theorem dp_ex (n : Nat) {j : Nat} (hj : j < 255) : dp n (ex j) = ex ((j + n) % 255) := by
  induction n with
  | zero => simp only [dp, Nat.add_zero]; rw [Nat.mod_eq_of_lt hj]
  | succ n ih =>
    simp only [dp]; rw [ih]
    have hm : (j + n) % 255 < 255 := Nat.mod_lt _ (by omega)
    by_cases h : (j + n) % 255 = 254
    · rw [h, ex_last]
      have : (j + (n + 1)) % 255 = 0 := by omega
      rw [this]; rfl
    · rw [ex_succ _ (by omega)]
      congr 1; omega
theorem mulT_dp {a b : Nat} (ha : a ≠ 0) (hb : b < 256) : mulT a b = dp (lg a) b := by
  unfold mulT
  by_cases h : b = 0
  · subst h; rw [dp_zero]; simp
  · rw [if_neg (by omega)]
    have := dp_ex (lg a) (lg_lt b hb)
    rw [ex_lg b hb (by omega)] at this
    rw [this, Nat.add_comm]
theorem mulT_zero (b : Nat) : mulT 0 b = 0 := by simp [mulT]
theorem mulT_comm (a b : Nat) : mulT a b = mulT b a := by
  unfold mulT
  by_cases h : a = 0 <;> by_cases h' : b = 0 <;> simp [h, h', Nat.add_comm]
theorem mulT_xor {a b c : Nat} (hb : b < 256) (hc : c < 256) : mulT a (b ^^^ c) = mulT a b ^^^ mulT a c := by
  by_cases h : a = 0
  · subst h; simp [mulT_zero]
  · rw [mulT_dp h (xor_lt hb hc), mulT_dp h hb, mulT_dp h hc, dp_xor _ hb hc]
end Gb
namespace Gb
open Go Gx Go.Proofs
def divT (a b : Nat) : Nat := if a = 0 then 0 else ex ((lg a + 255 - lg b) % 255)
theorem div_spec {k : Nat} (hk : 256 ≤ k) {h : AHeap} {b : Nat} (hf : Fld h b) (hb : b < h.next) {x y : Nat} (hx : x < 256) (hy : y < 256) :
    ∃ h', field_Field_Div k (DD k) (some ⟨b, 0, none⟩) x y h = some (((if y = 0 then (0, 30) else ((divT x y : Nat), 0)) : Int × Int), h') ∧ FS b h h' := by
  have f1 := FS.new hf hb (.cells [.int .i64 (x : Int), .int .i64 (y : Int)] 3 true 0)
  simp only [field_Field_Div]
  rw [is2 hk, inR_nat hx, inR_nat hy]
  simp only [Option.bind_some, Bool.and_self, Bool.not_true, Bool.false_eq_true, if_false]
  by_cases y0 : y = 0
  · subst y0
    exact ⟨_, rfl, f1⟩
  · have e1 : ((y : Int) == 0) = false := by simp; omega
    simp only [e1, Bool.false_eq_true, if_false, y0]
    unfold divT
    by_cases x0 : x = 0
    · subst x0
      exact ⟨_, rfl, f1⟩
    · have e0 : ((x : Int) == 0) = false := by simp; omega
      simp only [e0, Bool.false_eq_true, if_false, x0]
      obtain ⟨c, hm, ht⟩ := tables_spec hk f1.fld
      refine ⟨_, ?_, f1.trans (.made hm)⟩
      rw [ht]
      simp only [Option.bind_some]
      have l1 := lg_lt x hx
      have l2 := lg_lt y hy
      rw [idxA_of (by omega), idxA_of (by omega)]
      simp only [Option.bind_some]
      have a1 : 3 + 510 + (x : Int).toNat * 1 = 513 + x := by omega
      have a2 : 3 + 510 + (y : Int).toNat * 1 = 513 + y := by omega
      rw [a1, a2, log_at (c := c) (by simp) hm hx, log_at (c := c) (by simp) hm hy]
      simp only [Option.bind_some]
      rw [w64 ((lg x : Int) + 255) (by omega), w64 _ (by omega), idxA_of (by omega)]
      simp only [Option.bind_some]
      have a3 : 3 + 0 + ((lg x : Int) + 255 - (lg y : Int)).toNat * 1 = 3 + (lg x + 255 - lg y) := by omega
      rw [a3, exp_at (c := c) (by simp) hm (by omega)]
      have := (ex_lt ((lg x + 255 - lg y) % 255) (Nat.mod_lt _ (by omega))).2
      simp only [Option.bind_some]
      rw [w64 _ (by omega)]
theorem mul_div {x y : Nat} (hx : x < 256) (hy : y < 256) (y0 : y ≠ 0) : mulT (divT x y) y = x := by
  unfold divT
  by_cases x0 : x = 0
  · subst x0; simp [mulT_zero]
  · simp only [x0, if_false]
    have l1 := lg_lt x hx
    have l2 := lg_lt y hy
    have hy' := ex_lg y hy (by omega)
    have hx' := ex_lg x hx (by omega)
    have := mulT_ex (i := (lg x + 255 - lg y) % 255) (j := lg y) (Nat.mod_lt _ (by omega)) l2
    rw [hy'] at this
    rw [this]
    have e : ((lg x + 255 - lg y) % 255 + lg y) % 255 = lg x := by omega
    rw [e, hx']
theorem divT_lt {x y : Nat} : divT x y < 256 := by
  unfold divT
  split
  · omega
  · exact (ex_lt _ (Nat.mod_lt _ (by omega))).2
end Gb
namespace Gb
open Go Gx Go.Proofs
def rdS (i n : Nat) : Nat := if n.testBit i then n ^^^ (391 * 2 ^ (i - 8)) else n
def redN (n : Nat) : Nat := rdS 8 (rdS 9 (rdS 10 (rdS 11 (rdS 12 (rdS 13 (rdS 14 (rdS 15 n)))))))
theorem rdS_xor (i n m : Nat) : rdS i (n ^^^ m) = rdS i n ^^^ rdS i m := by
  unfold rdS
  rw [Nat.testBit_xor]
  cases n.testBit i <;> cases m.testBit i <;> simp [Nat.xor_assoc, Nat.xor_comm, xlc]
theorem redN_xor (n m : Nat) : redN (n ^^^ m) = redN n ^^^ redN m := by simp only [redN, rdS_xor]
theorem red_bit : ∀ i, i < 8 → ∀ a, a < 256 → redN (a * 2 ^ i) = mulT a (2 ^ i) := by decide +kernel
theorem bit_mod : ∀ i, i < 8 → ∀ b, b < 256 → b % 2 ^ (i + 1) = if b.testBit i then (b % 2 ^ i) ^^^ 2 ^ i else b % 2 ^ i := by decide +kernel
theorem rdS_lt {i n : Nat} (hi : i < 16) (h : n < 65536) : rdS i n < 65536 := by
  unfold rdS
  split
  · refine Nat.xor_lt_two_pow (n := 16) h ?_
    have : 2 ^ (i - 8) ≤ 2 ^ 7 := Nat.pow_le_pow_right (by decide) (by omega)
    omega
  · exact h
theorem times_l0_step (K : Nat) (D : CallF) (j) (bot) {i n : Nat} (hi : i < 16) (h8 : 8 ≤ i) (hn : n < 65536) (h : AHeap) (m : Nat) :
    iterK bot (m + 1) (ref03_Times_l0b K D j) (n : Int) (i : Int) h = iterK bot m (ref03_Times_l0b K D j) (rdS i n : Nat) ((i : Int) - 1) h := by
  rw [iterK, ref03_Times_l0b, if_pos (by simp; omega), joinK, if_pos (by omega)]
  rw [bit64 (by omega) (by omega)]
  dsimp only
  have w1 : IntKind.wrap .i64 ((i : Int) - 8) = ((i - 8 : Nat) : Int) := by rw [w64 _ (by omega)]; omega
  have w2 : IntKind.wrap .i64 ((i : Int) - 1) = (i : Int) - 1 := w64 _ (by omega)
  rw [w1, w2]
  have hp : 2 ^ (i - 8) ≤ 2 ^ 7 := Nat.pow_le_pow_right (by decide) (by omega)
  have hs := shl64 (a := 391) (i := i - 8) (by omega) (by omega)
  rw [show ((391 : Nat) : Int) = 391 from rfl] at hs
  rw [hs]
  simp only [rdS]
  by_cases c : n.testBit i = true
  · simp only [c, if_true]
    rw [if_pos (by simp), if_pos (by omega), xor64 (by omega) (by omega)]
  · rw [Bool.not_eq_true] at c
    simp only [c, Bool.false_eq_true, if_false]
    rw [if_neg (by simp)]
theorem times_l0 {K : Nat} (D : CallF) (j) (h : AHeap) (hK : 9 ≤ K) {n : Nat} (hn : n < 65536) : ref03_Times_l0 K D j (n : Int) 15 h = j (redN n : Nat) h := by
  obtain ⟨k', rfl⟩ : ∃ k', K = 8 + 1 + k' := ⟨K - 9, by omega⟩
  rw [ref03_Times_l0, iterK_add]
  have a1 := rdS_lt (i := 15) (by omega) hn
  have a2 := rdS_lt (i := 14) (by omega) a1
  have a3 := rdS_lt (i := 13) (by omega) a2
  have a4 := rdS_lt (i := 12) (by omega) a3
  have a5 := rdS_lt (i := 11) (by omega) a4
  have a6 := rdS_lt (i := 10) (by omega) a5
  have a7 := rdS_lt (i := 9) (by omega) a6
  refine (times_l0_step _ D j _ (i := 15) (by omega) (by omega) hn h 8).trans ?_
  refine (times_l0_step _ D j _ (i := 14) (by omega) (by omega) a1 h 7).trans ?_
  refine (times_l0_step _ D j _ (i := 13) (by omega) (by omega) a2 h 6).trans ?_
  refine (times_l0_step _ D j _ (i := 12) (by omega) (by omega) a3 h 5).trans ?_
  refine (times_l0_step _ D j _ (i := 11) (by omega) (by omega) a4 h 4).trans ?_
  refine (times_l0_step _ D j _ (i := 10) (by omega) (by omega) a5 h 3).trans ?_
  refine (times_l0_step _ D j _ (i := 9) (by omega) (by omega) a6 h 2).trans ?_
  refine (times_l0_step _ D j _ (i := 8) (by omega) (by omega) a7 h 1).trans ?_
  rw [iterK, ref03_Times_l0b, if_neg (by simp)]
  rfl
theorem times_l1 (K : Nat) (D : CallF) (j) (bot) {a b : Nat} (ha : a < 256) (hb : b < 256) (h : AHeap) : ∀ (m i n : Nat), i + m = 8 → n < 65536 → redN n = mulT a (b % 2 ^ i) →
    ∃ n', n' < 65536 ∧ redN n' = mulT a b ∧ iterK bot (m + 1) (ref03_Times_l1b K D j) (a : Int) (b : Int) (n : Int) (i : Int) h = j (n' : Nat) h
  | 0, i, n, hi, hn, hr => by
    obtain rfl : i = 8 := by omega
    refine ⟨n, hn, ?_, ?_⟩
    · rw [hr, Nat.mod_eq_of_lt hb]
    · rw [iterK, ref03_Times_l1b, if_neg (by simp)]
  | m + 1, i, n, hi, hn, hr => by
    have hp : 2 ^ i ≤ 2 ^ 7 := Nat.pow_le_pow_right (by decide) (by omega)
    have hlt : a * 2 ^ i < 65536 := Nat.lt_of_le_of_lt (Nat.mul_le_mul (Nat.le_of_lt ha) hp) (by omega)
    have hb1 := bit_mod i (by omega) b hb
    rw [iterK, ref03_Times_l1b, if_pos (by simp; omega), joinK, if_pos (by omega), bit64 (by omega) (by omega)]
    dsimp only
    have w1 : IntKind.wrap .i64 ((i : Int) + 1) = ((i + 1 : Nat) : Int) := by rw [w64 _ (by omega)]; omega
    rw [w1, shl64 (by omega) (by omega)]
    by_cases c : b.testBit i = true
    · simp only [c, if_true] at hb1 ⊢
      have hx : n ^^^ (a * 2 ^ i) < 65536 := Nat.xor_lt_two_pow (n := 16) hn hlt
      obtain ⟨n', h1, h2, h3⟩ := times_l1 K D j bot ha hb h m (i + 1) (n ^^^ (a * 2 ^ i)) (by omega) hx (by
        have q : b % 2 ^ i < 256 := Nat.lt_of_le_of_lt (Nat.mod_le _ _) hb
        rw [redN_xor, hr, red_bit i (by omega) a ha, hb1, mulT_xor q (by omega)])
      refine ⟨n', h1, h2, ?_⟩
      rw [if_pos (by simp), if_pos (by omega), xor64 (by omega) (by omega)]
      exact h3
    · rw [Bool.not_eq_true] at c
      simp only [c, Bool.false_eq_true, if_false] at hb1 ⊢
      obtain ⟨n', h1, h2, h3⟩ := times_l1 K D j bot ha hb h m (i + 1) n (by omega) hn (by rw [hr, hb1])
      refine ⟨n', h1, h2, ?_⟩
      rw [if_neg (by simp)]
      exact h3
theorem rtimes_spec {k : Nat} (hk : 9 ≤ k) (D : CallF) {a b : Nat} (ha : a < 256) (hb : b < 256) (h : AHeap) : ref03_Times k D (a : Int) (b : Int) h = some ((mulT a b : Int), h) := by
  unfold ref03_Times joinK ref03_Times_l1
  obtain ⟨k', hk'⟩ : ∃ k', k = 8 + 1 + k' := ⟨k - 9, by omega⟩
  obtain ⟨n', h1, h2, h3⟩ := times_l1 k D (fun n1 h2 => ref03_Times_l0 k D (fun n4 h5 => some (n4, h5)) n1 15 h2) (iterK (fun _ _ _ _ _ => none) k' (ref03_Times_l1b k D (fun n1 h2 => ref03_Times_l0 k D (fun n4 h5 => some (n4, h5)) n1 15 h2))) ha hb h 8 0 0 (by omega) (by omega) (by simp [Nat.mod_one, mulT_comm a 0, mulT_zero]; decide)
  have e := h3
  rw [← iterK_add, ← hk'] at e
  refine e.trans ?_
  rw [times_l0 D _ h hk h1, h2]
end Gb
namespace Gb
open Go Gx Go.Proofs
theorem ris_spec (k : Nat) (D : CallF) (x : Int) (h : AHeap) : ref03_is k D x h = some (inR x, h) := by
  unfold ref03_is inR
  by_cases h1 : x < 0
  · simp [h1, show ¬ (0 ≤ x) by omega]
  · simp only [h1, show (x ≥ 0) by omega, decide_false, decide_true, if_true, Bool.false_or]
    by_cases h2 : x < 256
    · simp [h2, show ¬ 256 ≤ x by omega]
    · simp [h2, show 256 ≤ x by omega]
theorem div_mul {q b : Nat} (hq : q < 256) (hb : b < 256) (b0 : b ≠ 0) : divT (mulT q b) b = q := by
  by_cases q0 : q = 0
  · subst q0; rw [mulT_zero]; rfl
  · unfold divT
    rw [if_neg (mulT_ne q0 b0), lg_mulT q0 b0]
    have l1 := lg_lt q hq
    have l2 := lg_lt b hb
    have : ((lg q + lg b) % 255 + 255 - lg b) % 255 = lg q := by omega
    rw [this, ex_lg q hq (by omega)]
theorem over_loop (K : Nat) (hK : 9 ≤ K) (D : CallF) (j) (bot) {a b : Nat} (ha : a < 256) (hb : b < 256) (b0 : b ≠ 0) (h : AHeap) : ∀ (m q : Nat), q + m = divT a b →
    iterK bot (m + 1) (ref03_Over_l0b K D j) (a : Int) (b : Int) (q : Int) h = some ((divT a b : Int), h)
  | 0, q, hq => by
    obtain rfl : q = divT a b := by omega
    rw [iterK, ref03_Over_l0b, if_pos (by have := divT_lt (x := a) (y := b); simp; omega), rtimes_spec hK D divT_lt hb, mul_div ha hb b0]
    simp
  | m + 1, q, hq => by
    have hlt := divT_lt (x := a) (y := b)
    rw [iterK, ref03_Over_l0b, if_pos (by simp; omega), rtimes_spec hK D (by omega) hb]
    simp only [Option.bind_some]
    have ne : mulT q b ≠ a := fun e => by
      have := div_mul (q := q) (by omega) hb b0
      rw [e] at this; omega
    rw [if_neg (by simp; omega), w64 _ (by omega)]
    exact over_loop K hK D j bot ha hb b0 h m (q + 1) (by omega)
end Gb
namespace Gb
open Go Gx Go.Proofs
def addL (a b : List UInt8) : List UInt8 := List.zipWith (· ^^^ ·) a b
def scaleL (c : Nat) (l : List UInt8) : List UInt8 := l.map fun x => UInt8.ofNat (mulT x.toNat c)
def addA (a b : ByteArray) : ByteArray × Int := if a.size = b.size then (⟨⟨addL (bl a) (bl b)⟩⟩, 0) else (⟨#[]⟩, 4)
theorem range_zip {a b : List UInt8} (h : a.length = b.length) : (List.range a.length).map (fun i => (a[i]?.getD 0) ^^^ (b[i]?.getD 0)) = addL a b := by
  apply List.ext_getElem?
  intro i
  simp only [addL, List.getElem?_map, List.getElem?_zipWith]
  by_cases hi : i < a.length
  · simp [hi, show i < b.length by omega]
  · simp [hi]
theorem range_map {a : List UInt8} (f : UInt8 → UInt8) : (List.range a.length).map (fun i => f (a[i]?.getD 0)) = a.map f := by
  apply List.ext_getElem?
  intro i
  simp only [List.getElem?_map]
  by_cases hi : i < a.length
  · simp [hi]
  · simp [hi]
theorem xor_u8 (x y : UInt8) : Go.bits .xor .u8 (x.toNat : Int) (y.toNat : Int) = (((x ^^^ y).toNat : Nat) : Int) := by
  rw [xor8 x.toNat_lt y.toNat_lt, UInt8.toNat_xor]
theorem u8_lt (x : UInt8) : x.toNat < 256 := x.toNat_lt
theorem stB {h : AHeap} {b i : Nat} {sp : Option Nat} {l : List UInt8} {e : TypeId} (x : UInt8) (hi : i < l.length) :
    st1 ⟨b, i, sp⟩ (.int .u8 (x.toNat : Int)) (h.set b (outB encB e l)) = some (h.set b (outB encB e (l.set i x))) := by
  rw [stB_out get_out hi (u8_lt x), UInt8.ofNat_toNat]
  exact congrArg some set_out
theorem getD_of {α : Type} {l : List α} {i : Nat} {x d : α} (h : l[i]? = some x) : l[i]?.getD d = x := by rw [h]; rfl
theorem isome {α : Type} {l : List α} {i : Nat} (h : i < l.length) : ∃ x, l[i]? = some x := ⟨l[i], by simp [h]⟩
theorem addL_length {a b : ByteArray} (hab : a.size = b.size) : (addL (bl a) (bl b)).length = a.size := by simp [addL, bl_length, hab]
theorem new_out {S : Nat → Prop} {h : AHeap} {b : Nat} (B C : ABlk) (hb : b = h.next) : Chg S h ((h.new B).set b C) := by
  subst hb
  exact (Chg.new h B).beh (T := fun x => x = h.next) (.set (.inr rfl)) fun x hx e => by omega
theorem radd_loop (k : Nat) (D : CallF) (J : Slc → AHeap → Option ((ByteArray × Int) × AHeap)) (a b : ByteArray) (B : Nat) (sp : Option Nat) (h : AHeap) (hk : a.size < k) (hs : a.size < 9223372036854775807) (hab : a.size = b.size)
    (hb : h.get B = some (outB encB 5 (List.replicate a.size 0))) : ref03_Add_l0 k D J a b ⟨some ⟨B, 0, sp⟩, a.size, a.size⟩ 0 h = J ⟨some ⟨B, 0, sp⟩, a.size, a.size⟩ (h.set B (outB encB 5 (addL (bl a) (bl b)))) := by
  unfold ref03_Add_l0
  obtain ⟨bot, hbot⟩ := iterK_of (fun _ _ _ _ _ => none) (ref03_Add_l0b k D J) (show a.size + 1 ≤ k by omega)
  rw [hbot]
  have key := fill0 encB 5 B (fun i => ((bl a)[i]?.getD 0) ^^^ ((bl b)[i]?.getD 0)) (List.replicate a.size 0) h hb
    (fun m i h => iterK bot (m + 1) (ref03_Add_l0b k D J) a b ⟨some ⟨B, 0, sp⟩, a.size, a.size⟩ (i : Int) h) (fun h => J ⟨some ⟨B, 0, sp⟩, a.size, a.size⟩ h)
    (fun m i l hi hl hlk => by
      rw [List.length_replicate] at hi hl
      obtain ⟨x, hx⟩ := isome (l := bl a) (i := i) (by rw [bl_length]; omega)
      obtain ⟨y, hy⟩ := isome (l := bl b) (i := i) (by rw [bl_length]; omega)
      rw [iterK_s, ref03_Add_l0b]
      refine ifp (by simp; omega) ?_
      refine bnd (idxS_of hx) ?_
      refine bnd (idxS_of hy) ?_
      refine bnd (idxL_out (by omega)) ?_
      rw [xor_u8]
      refine bnd (stB (x ^^^ y) (by omega)) ?_
      rw [w64 _ (by omega), getD_of hx, getD_of hy]
      rfl)
    (fun h => by
      rw [List.length_replicate]
      show iterK bot (0 + 1) _ _ _ _ _ _ = _
      rw [iterK_s, ref03_Add_l0b]
      exact ifn (by simp) rfl)
  have e := range_zip (a := bl a) (b := bl b) (by rw [bl_length, bl_length]; exact hab)
  rw [bl_length] at e
  rw [List.length_replicate, e] at key
  exact key
theorem zeros_out {h : AHeap} {n : Nat} {e : TypeId} : (h.new (.cells (zerosL n [.int .u8 0]) e true 0)).get h.next = some (outB encB e (List.replicate n 0)) := by
  simp [outB, zeros_bytes]
theorem radd_spec {k : Nat} (D : CallF) (a b : ByteArray) (h : AHeap) (hk : a.size < k) (hs : a.size ≤ 281474976710656) : ∃ h', ref03_Add k D a b h = some (addA a b, h') ∧ Keeps h h' := by
  unfold addA ref03_Add
  by_cases hab : a.size = b.size
  · refine ⟨(h.new (.cells (zerosL a.size [.int .u8 0]) 5 true 0)).set h.next (outB encB 5 (addL (bl a) (bl b))), ?_, new_out _ _ rfl⟩
    refine ifn (by simp [hab]) ?_
    refine ifp (by omega) ?_
    refine jn ?_
    rw [Int.toNat_natCast]
    rw [radd_loop k D _ a b h.next (some 0) (h.new (.cells (zerosL a.size [.int .u8 0]) 5 true 0)) hk (by omega) hab zeros_out]
    have := bytesOf_out (cap := a.size) (sp := some 0) (get_out (enc := encB) (e := 5) (l := addL (bl a) (bl b)) (h := h.new (.cells (zerosL a.size [.int .u8 0]) 5 true 0)) (B := h.next))
    rw [addL_length hab] at this
    refine bnd this ?_
    rw [if_pos hab]
  · refine ⟨h, ?_, .refl _ _⟩
    refine ifp (by simp; omega) ?_
    rw [if_neg hab]
theorem by_loop (k : Nat) (D : CallF) (J : Slc → AHeap → Option (ByteArray × AHeap)) (s : ByteArray) (c : Nat) (hc : c < 256) (B : Nat) (sp : Option Nat) (h : AHeap) (hk : s.size < k) (hk9 : 9 ≤ k) (hs : s.size < 9223372036854775807)
    (hb : h.get B = some (outB encB 5 (List.replicate s.size 0))) : ref03_By_l0 k D J s c ⟨some ⟨B, 0, sp⟩, s.size, s.size⟩ 0 h = J ⟨some ⟨B, 0, sp⟩, s.size, s.size⟩ (h.set B (outB encB 5 (scaleL c (bl s)))) := by
  unfold ref03_By_l0
  obtain ⟨bot, hbot⟩ := iterK_of (fun _ _ _ _ _ => none) (ref03_By_l0b k D J) (show s.size + 1 ≤ k by omega)
  rw [hbot]
  have key := fill0 encB 5 B (fun i => UInt8.ofNat (mulT ((bl s)[i]?.getD 0).toNat c)) (List.replicate s.size 0) h hb
    (fun m i h => iterK bot (m + 1) (ref03_By_l0b k D J) s c ⟨some ⟨B, 0, sp⟩, s.size, s.size⟩ (i : Int) h) (fun h => J ⟨some ⟨B, 0, sp⟩, s.size, s.size⟩ h)
    (fun m i l hi hl hlk => by
      rw [List.length_replicate] at hi hl
      obtain ⟨x, hx⟩ := isome (l := bl s) (i := i) (by rw [bl_length]; omega)
      have hx1 := u8_lt x
      rw [iterK_s, ref03_By_l0b]
      refine ifp (by simp; omega) ?_
      refine bnd (idxS_of hx) ?_
      rw [w64 _ (by omega)]
      refine bnd (rtimes_spec hk9 D hx1 hc _) ?_
      refine bnd (idxL_out (by omega)) ?_
      have hm := mulT_lt x.toNat c
      rw [w8 _ (by omega)]
      have hu : ((mulT x.toNat c : Nat) : Int) = ((UInt8.ofNat (mulT x.toNat c)).toNat : Int) := by rw [UInt8.toNat_ofNat_of_lt' (by simpa using hm)]
      rw [hu]
      refine bnd (stB _ (by omega)) ?_
      rw [w64 _ (by omega), getD_of hx]
      rfl)
    (fun h => by
      rw [List.length_replicate]
      show iterK bot (0 + 1) _ _ _ _ _ _ = _
      rw [iterK_s, ref03_By_l0b]
      exact ifn (by simp) rfl)
  have e := range_map (a := bl s) (fun x => UInt8.ofNat (mulT x.toNat c))
  rw [bl_length] at e
  rw [List.length_replicate, e] at key
  exact key
theorem scaleL_length (c : Nat) (s : ByteArray) : (scaleL c (bl s)).length = s.size := by simp [scaleL, bl_length]
theorem by_spec {k : Nat} (D : CallF) (s : ByteArray) (c : Nat) (hc : c < 256) (h : AHeap) (hk : s.size < k) (hk9 : 9 ≤ k) (hs : s.size ≤ 281474976710656) : ∃ h', ref03_By k D s c h = some (⟨⟨scaleL c (bl s)⟩⟩, h') ∧ Keeps h h' := by
  unfold ref03_By
  refine ⟨(h.new (.cells (zerosL s.size [.int .u8 0]) 5 true 0)).set h.next (outB encB 5 (scaleL c (bl s))), ?_, new_out _ _ rfl⟩
  refine ifp (by omega) ?_
  refine jn ?_
  rw [Int.toNat_natCast]
  rw [by_loop k D _ s c hc h.next (some 0) (h.new (.cells (zerosL s.size [.int .u8 0]) 5 true 0)) hk hk9 (by omega) zeros_out]
  have := bytesOf_out (cap := s.size) (sp := some 0) (get_out (enc := encB) (e := 5) (l := scaleL c (bl s)) (h := h.new (.cells (zerosL s.size [.int .u8 0]) 5 true 0)) (B := h.next))
  rw [scaleL_length] at this
  exact bnd this rfl
theorem FS.chg {b : Nat} {h h' : AHeap} (s : FS b h h') : Chg (· = b) h h' := ⟨s.nx, fun x hx hb => s.oth x hx hb⟩
theorem fldchg {S : Nat → Prop} {h h' : AHeap} {b : Nat} (f : Fld h b) (hb : b < h.next) (c : Chg S h h') (hs : ¬ S b) : Fld h' b := by
  obtain ⟨t, h1, h2⟩ := f
  exact ⟨t, by rw [c.oth b hb hs]; exact h1, h2⟩
theorem Fld.keeps {b : Nat} {h h' : AHeap} (f : Fld h b) (hb : b < h.next) (c : Keeps h h') : Fld h' b := by
  obtain ⟨t, h1, h2⟩ := f
  exact ⟨t, by rw [c.oth b hb (fun f => f)]; exact h1, h2⟩
theorem FS.keeps {b : Nat} {h h' : AHeap} (f : Fld h b) (hb : b < h.next) (c : Keeps h h') : FS b h h' :=
  ⟨c.nx, fun x hx _ => c.oth x hx fun f => f, f.keeps hb c⟩
theorem FS.out {b : Nat} {h h' : AHeap} (f : FS b h h') {B : Nat} {C : ABlk} (hB : h.next ≤ B) (hne : B ≠ b) : FS b h (h'.set B C) :=
  ⟨f.nx, fun x hx hb => by rw [AHeap.get_set, if_neg (by omega)]; exact f.oth x hx hb, by
    obtain ⟨t, h1, h2⟩ := f.fld
    exact ⟨t, by rw [AHeap.get_set, if_neg (fun e => hne e.symm)]; exact h1, h2⟩⟩
end Gb
namespace Gb
open Go Gx Go.Proofs
def mixL (ls : List ByteArray) (cs : List Int) (o : List UInt8) : List UInt8 := (ls.zip cs).foldl (fun o p => addL o (scaleL p.2.toNat (bl p.1))) o
def sames (n : Nat) (ls : List ByteArray) : Bool := ls.all fun s => s.size == n
def mixA (ls : List ByteArray) (cs : List Int) : ByteArray × Int :=
  if ls.length = cs.length then
    if sames (ls.headD ⟨#[]⟩).size ls then
      if cs.all inR then
        (⟨⟨mixL ls cs (List.replicate (ls.headD ⟨#[]⟩).size 0)⟩⟩, 0)
      else (⟨#[]⟩, 1)
    else (⟨#[]⟩, 4)
  else (⟨#[]⟩, 4)
theorem sames_drop {n : Nat} {ls : List ByteArray} {i : Nat} {s : ByteArray} (h : ls[i]? = some s) : sames n (ls.drop i) = ((s.size == n) && sames n (ls.drop (i + 1))) := by
  obtain ⟨hi, rfl⟩ := List.getElem?_eq_some_iff.1 h
  rw [List.drop_eq_getElem_cons hi]
  rfl
theorem head_of {ls : List ByteArray} {s : ByteArray} (h : ls[0]? = some s) : ls.headD ⟨#[]⟩ = s := by
  cases ls with
  | nil => simp at h
  | cons a t => simpa using h
theorem fmix_l2 (K : Nat) (D : CallF) (j) (bot) {l : Slc} {ls : List ByteArray} {h : AHeap} (R : Row encS h l ls) (hs : ls.length < 9223372036854775807) {n0 : Nat} (hn0 : ∀ s, ls[0]? = some s → s.size = n0) (f : Option Addr) (c : Slc) : ∀ (m i : Nat) (long : Int), i + m = ls.length →
    long = (if i = 0 then -1 else (n0 : Int)) →
    iterK bot (m + 1) (field_Field_Mix_l2b K D j) f l c long l (ls.length : Int) (i : Int) h = j f l c (if sames n0 (ls.drop i) then (if ls.length = 0 then -1 else (n0 : Int)) else -1) h
  | 0, i, long, hi, hl => by
    rw [iterK_s, field_Field_Mix_l2b]
    refine ifn (by simp; omega) ?_
    obtain rfl : i = ls.length := by omega
    rw [hl, List.drop_length]
    rfl
  | m + 1, i, long, hi, hl => by
    obtain ⟨s, hsi⟩ := isome (l := ls) (i := i) (by omega)
    obtain ⟨q, hq, hld⟩ := R.ldS hsi
    have ih := fmix_l2 K D j bot R hs hn0 f c m (i + 1) n0 (by omega) (by simp)
    have w : IntKind.wrap .i64 ((i : Int) + 1) = ((i + 1 : Nat) : Int) := by rw [w64 _ (by omega)]; omega
    rw [iterK_s, field_Field_Mix_l2b]
    refine ifp (by simp; omega) ?_
    refine jn ?_
    refine bnd hq (bnd hld ?_)
    rw [sames_drop hsi]
    by_cases i0 : i = 0
    · subst i0
      refine ifp (by simp) ?_
      have e := hn0 s hsi
      subst e
      dsimp only
      rw [w, ih]
      simp
    · refine ifn (by simp; omega) ?_
      rw [hl, if_neg i0]
      by_cases e : s.size = n0
      · refine ifn (by simp [e]) ?_
        dsimp only
        rw [w, ih, e]
        simp
      · refine ifp (by simp; omega) ?_
        have : (s.size == n0) = false := by simpa using e
        rw [this]
        rfl
theorem addL_scale {n c : Nat} {o s : List UInt8} (ho : o.length = n) (hs : s.length = n) :
    (List.range n).map (fun i => (o[i]?.getD 0) ^^^ (UInt8.ofNat (mulT (s[i]?.getD 0).toNat c))) = addL o (scaleL c s) := by
  apply List.ext_getElem?
  intro i
  simp only [addL, scaleL, List.getElem?_map, List.getElem?_zipWith]
  by_cases hi : i < n
  · simp [show i < o.length by omega, show i < s.length by omega, hi]
  · simp [show ¬ i < o.length by omega, hi]
theorem fmix_l1 (k : Nat) (D : CallF) (j) {B b n : Nat} {t : List Value} (s : ByteArray) (o : List UInt8) (cv : Nat) (hcv : cv < 256) (c : Slc) (i : Int) (y : Slc) (y1 y2 : Int) (h : AHeap)
    (ho : o.length = n) (hs : s.size = n) (hk : n < k) (hn : n < 9223372036854775807) (hB : B ≠ b) (ht : h.get b = some (.cells t 131 true 0)) (hm : Made t)
    (hc : ∀ l : List UInt8, ∃ q, idxL 1 c i = some q ∧ Gx.ldI .i64 q (h.set B (outB encB 5 l)) = some (cv : Int)) :
    field_Field_Mix_l1 k D j c ⟨some ⟨B, 0, some 0⟩, n, n⟩ (some ⟨b, 3, none⟩) i s y y1 y2 (n : Int) 0 (h.set B (outB encB 5 o)) =
      j c ⟨some ⟨B, 0, some 0⟩, n, n⟩ (some ⟨b, 3, none⟩) y y1 y2 (h.set B (outB encB 5 (addL o (scaleL cv (bl s))))) := by
  unfold field_Field_Mix_l1
  obtain ⟨bot, hbot⟩ := iterK_of (fun _ _ _ _ _ _ _ _ _ _ _ => none) (field_Field_Mix_l1b k D j) (show n + 1 ≤ k by omega)
  rw [hbot]
  have key := fill0 encB 5 B (fun i => (o[i]?.getD 0) ^^^ (UInt8.ofNat (mulT ((bl s)[i]?.getD 0).toNat cv))) o (h.set B (outB encB 5 o)) (by simp)
    (fun m p h => iterK bot (m + 1) (field_Field_Mix_l1b k D j) c ⟨some ⟨B, 0, some 0⟩, n, n⟩ (some ⟨b, 3, none⟩) i s y y1 y2 (n : Int) (p : Int) h) (fun h => j c ⟨some ⟨B, 0, some 0⟩, n, n⟩ (some ⟨b, 3, none⟩) y y1 y2 h)
    (fun m p l hp hl hlk => by
      rw [set_out]
      obtain ⟨x, hx⟩ := isome (l := bl s) (i := p) (by rw [bl_length]; omega)
      obtain ⟨z, hz⟩ := isome (l := o) (i := p) (by omega)
      have hx1 := u8_lt x
      obtain ⟨q, hq, hld⟩ := hc l
      have hzl := rdB_out (sp := none) (get_out (enc := encB) (e := 5) (l := l) (h := h) (B := B)) ((hlk p (Nat.le_refl _)).trans hz)
      rw [iterK_s, field_Field_Mix_l1b]
      refine ifp (by simp; omega) ?_
      refine jn ?_
      refine bnd (idxS_of hx) ?_
      refine bnd hq (bnd hld ?_)
      rw [w64 _ (by omega)]
      refine bnd (times_spec k D (c := t) (by rw [AHeap.get_set, if_neg (fun e => hB e.symm)]; exact ht) hm hx1 hcv) ?_
      refine bnd (idxL_out (by omega)) ?_
      refine bnd hzl ?_
      refine gp (fun H hH => by simp at hH; subst hH; exact bnd hzl rfl) ?_
      refine bnd (idxL_out (by omega)) ?_
      have hm := mulT_lt x.toNat cv
      rw [w8 _ (by omega)]
      have hu : ((mulT x.toNat cv : Nat) : Int) = ((UInt8.ofNat (mulT x.toNat cv)).toNat : Int) := by rw [UInt8.toNat_ofNat_of_lt' (by simpa using hm)]
      rw [hu, xor_u8]
      refine bnd (stB _ (by omega)) ?_
      rw [w64 _ (by omega), getD_of hx, getD_of hz, set_out]
      rfl)
    (fun h => by
      show iterK bot (0 + 1) _ _ _ _ _ _ _ _ _ _ _ _ = _
      rw [iterK_s, field_Field_Mix_l1b]
      exact ifn (by simp [ho]) rfl)
  rw [set_out, ho, addL_scale ho (by rw [bl_length]; exact hs)] at key
  exact key
theorem mixL_cons {i : Nat} {ls : List ByteArray} {cs : List Int} {s : ByteArray} {c : Int} (hs : ls[i]? = some s) (hc : cs[i]? = some c) (o : List UInt8) :
    mixL (ls.drop i) (cs.drop i) o = mixL (ls.drop (i + 1)) (cs.drop (i + 1)) (addL o (scaleL c.toNat (bl s))) := by
  obtain ⟨h1, rfl⟩ := List.getElem?_eq_some_iff.1 hs
  obtain ⟨h2, rfl⟩ := List.getElem?_eq_some_iff.1 hc
  rw [List.drop_eq_getElem_cons h1, List.drop_eq_getElem_cons h2]
  rfl
theorem all_get {cs : List Int} (h : cs.all inR = true) {i : Nat} {c : Int} (hc : cs[i]? = some c) : ∃ n : Nat, c = n ∧ n < 256 := by
  obtain ⟨h2, rfl⟩ := List.getElem?_eq_some_iff.1 hc
  exact inR_iff.1 (List.all_eq_true.1 h _ (List.getElem_mem h2))
theorem sames_get {n : Nat} {ls : List ByteArray} (h : sames n ls = true) {i : Nat} {s : ByteArray} (hs : ls[i]? = some s) : s.size = n := by
  obtain ⟨h2, rfl⟩ := List.getElem?_eq_some_iff.1 hs
  simpa using List.all_eq_true.1 h _ (List.getElem_mem h2)
theorem fmix_l0 (k : Nat) (D : CallF) (j) (bot) {B b n : Nat} {t : List Value} {l c : Slc} {ls : List ByteArray} {cs : List Int} (h : AHeap) (hk : n < k) (hn : n < 9223372036854775807) (hlen : ls.length = cs.length) (hls : ls.length < 9223372036854775807)
    (Rl : ∀ o, Row encS (h.set B (outB encB 5 o)) l ls) (Rc : ∀ o, Row encI (h.set B (outB encB 5 o)) c cs) (hsm : sames n ls = true) (hin : cs.all inR = true)
    (hB : B ≠ b) (ht : h.get b = some (.cells t 131 true 0)) (hm : Made t) : ∀ (m i : Nat) (o : List UInt8), i + m = ls.length → o.length = n →
    iterK bot (m + 1) (field_Field_Mix_l0b k D j) c ⟨some ⟨B, 0, some 0⟩, n, n⟩ (some ⟨b, 3, none⟩) l (ls.length : Int) (i : Int) (h.set B (outB encB 5 o)) =
      j ⟨some ⟨B, 0, some 0⟩, n, n⟩ (h.set B (outB encB 5 (mixL (ls.drop i) (cs.drop i) o)))
  | 0, i, o, hi, ho => by
    rw [iterK_s, field_Field_Mix_l0b]
    refine ifn (by simp; omega) ?_
    obtain rfl : i = ls.length := by omega
    rw [List.drop_length]
    rfl
  | m + 1, i, o, hi, ho => by
    obtain ⟨s, hsi⟩ := isome (l := ls) (i := i) (by omega)
    obtain ⟨x, hx⟩ := isome (l := cs) (i := i) (by omega)
    obtain ⟨q, hq, hld⟩ := (Rl o).ldS hsi
    obtain ⟨cv, rfl, hcv⟩ := all_get hin hx
    have hsz := sames_get hsm hsi
    have w : IntKind.wrap .i64 ((i : Int) + 1) = ((i + 1 : Nat) : Int) := by rw [w64 _ (by omega)]; omega
    rw [iterK_s, field_Field_Mix_l0b]
    refine ifp (by simp; omega) ?_
    refine jn ?_
    refine bnd hq (bnd hld ?_)
    rw [fmix_l1 k D _ s o cv hcv c i l ls.length i h ho hsz hk hn hB ht hm (fun l => (Rc l).ldI hx)]
    rw [w, fmix_l0 k D j bot h hk hn hlen hls Rl Rc hsm hin hB ht hm m (i + 1) _ (by omega) (by simp [addL, scaleL, bl_length, ho, hsz]), mixL_cons hsi hx]
    rfl
theorem mixL_length {n : Nat} : ∀ {ls : List ByteArray} {cs : List Int} {o : List UInt8}, sames n ls = true → o.length = n → (mixL ls cs o).length = n
  | [], cs, o, _, ho => by simpa [mixL] using ho
  | s :: ls, [], o, _, ho => by simpa [mixL] using ho
  | s :: ls, c :: cs, o, hs, ho => by
    simp only [sames, List.all_cons, Bool.and_eq_true, beq_iff_eq] at hs
    exact mixL_length (ls := ls) (cs := cs) (o := addL o (scaleL c.toNat (bl s))) hs.2 (by simp [addL, scaleL, bl_length, ho, hs.1])
theorem sames_nil {n : Nat} {ls : List ByteArray} (h : ls.length = 0) : sames n ls = true := by
  cases ls with
  | nil => rfl
  | cons _ _ => simp at h
theorem Row.fis {h : AHeap} {c : Slc} {cs : List Int} (R : Row encI h c cs) (K : Nat) (D : CallF) (j2 : AHeap → Option (Bool × AHeap)) (bot) (hsm : cs.length < 9223372036854775807) : ∀ (m i : Nat), i + m = cs.length →
    iterK bot (m + 1) (field_is_l0b K D j2) c (cs.length : Int) (i : Int) h = if (cs.drop i).all inR = true then j2 h else some (false, h)
  | 0, i, hi => by
    rw [iterK_s, field_is_l0b]
    refine ifn (by simp; omega) ?_
    rw [List.drop_eq_nil_of_le (by omega)]
    simp
  | m + 1, i, hi => by
    obtain ⟨x, hx⟩ := isome (l := cs) (i := i) (by omega)
    obtain ⟨q, hq, hld⟩ := R.ldI hx
    have ih := Row.fis R K D j2 bot hsm m (i + 1) (by omega)
    have w : IntKind.wrap .i64 ((i : Int) + 1) = ((i + 1 : Nat) : Int) := by rw [w64 _ (by omega)]; omega
    rw [iterK_s, field_is_l0b]
    refine ifp (by simp; omega) ?_
    refine bnd hq (bnd hld ?_)
    obtain ⟨h2, h3⟩ := List.getElem?_eq_some_iff.1 hx
    rw [List.drop_eq_getElem_cons h2, h3]
    simp only [joinK, List.all_cons]
    rw [w, ih]
    simp only [inR]
    by_cases c1 : x < 0
    · simp [c1]
    · by_cases c2 : x ≥ 256
      · simp [c1, c2]
      · simp [c1, c2]
theorem fis_spec {k : Nat} (D : CallF) {h : AHeap} {c : Slc} {cs : List Int} (R : Row encI h c cs) (hk : cs.length < k) (hsm : cs.length < 9223372036854775807) : field_is k D c h = some (cs.all inR, h) := by
  rw [field_is, joinK, field_is_l0]
  obtain ⟨bot, hbot⟩ := iterK_of (fun _ _ _ _ => none) (field_is_l0b k D fun h1 => some (true, h1)) (show cs.length + 1 ≤ k by omega)
  rw [hbot, R.1]
  have := Row.fis R k D (fun h1 => some (true, h1)) bot hsm cs.length 0 (by omega)
  rw [List.drop_zero] at this
  refine this.trans ?_
  cases cs.all inR <;> rfl
theorem fmix_spec {k : Nat} (hk : 256 ≤ k) {h : AHeap} {b : Nat} (hf : Fld h b) (hb : b < h.next) {l c : Slc} {ls : List ByteArray} {cs : List Int} (Rl : Row encS h l ls) (Rc : Row encI h c cs)
    (hlb : ∀ a, l.a = some a → ¬ a.block = b) (hcb : ∀ a, c.a = some a → ¬ a.block = b) (hkl : ls.length < k) (hkc : cs.length < k) (hkn : ∀ s ∈ ls, s.size < k)
    (hl : ls.length < 9223372036854775807) (hc : cs.length < 9223372036854775807) (hn : ∀ s ∈ ls, s.size ≤ 281474976710656) :
    ∃ h', field_Field_Mix k (DD k) (some ⟨b, 0, none⟩) l c h = some (mixA ls cs, h') ∧ FS b h h' := by
  unfold field_Field_Mix mixA
  rw [Rl.1, Rc.1]
  by_cases hlen : ls.length = cs.length
  · rw [if_pos hlen]
    obtain ⟨n, hnn⟩ : ∃ n, n = (ls.headD ⟨#[]⟩).size := ⟨_, rfl⟩
    have hnk : n < k ∧ n ≤ 281474976710656 := by
      cases ls with
      | nil => subst hnn; exact ⟨by show 0 < k; omega, by show 0 ≤ _; omega⟩
      | cons s t => simp at hnn; subst hnn; exact ⟨hkn s (by simp), hn s (by simp)⟩
    have l2 : ∀ j, field_Field_Mix_l2 k (DD k) j (some ⟨b, 0, none⟩) l c (-1) l (ls.length : Int) 0 h = j (some ⟨b, 0, none⟩) l c (if sames n ls then (if ls.length = 0 then -1 else (n : Int)) else -1) h := fun j => by
      unfold field_Field_Mix_l2
      obtain ⟨bot, hbot⟩ := iterK_of (fun _ _ _ _ _ _ _ _ => none) (field_Field_Mix_l2b k (DD k) j) (show ls.length + 1 ≤ k by omega)
      rw [hbot]
      have := fmix_l2 k (DD k) j bot Rl hl (n0 := n) (fun s e => by rw [hnn, head_of e]) (some ⟨b, 0, none⟩) c ls.length 0 (-1) (by omega) (by simp)
      rw [List.drop_zero] at this
      exact this
    rw [← hnn]
    by_cases hsm : sames n ls = true
    · simp only [hsm, if_true] at l2 ⊢
      have lgt : (decide ((if ls.length = 0 then (-1 : Int) else (n : Int)) < 0)) = decide (ls.length = 0) := by
        by_cases e : ls.length = 0
        · simp [e]
        · simp [e]
      have mx : (if (if ls.length = 0 then (-1 : Int) else (n : Int)) > 0 then (if ls.length = 0 then (-1 : Int) else (n : Int)) else 0) = (n : Int) := by
        by_cases e : ls.length = 0
        · have : n = 0 := by
            cases ls with
            | nil => exact hnn
            | cons _ _ => simp at e
          simp [e, this]
        · by_cases n0 : n = 0
          · simp [e, n0]
          · simp [e, Nat.pos_of_ne_zero n0]
      by_cases hin : cs.all inR = true
      · simp only [hin, if_true]
        obtain ⟨h1, hh1⟩ : ∃ h1, h1 = h.new (.cells (zerosL n [.int .u8 0]) 5 true 0) := ⟨_, rfl⟩
        have f1 : FS b h h1 := hh1 ▸ FS.new hf hb _
        obtain ⟨t, hm, ht⟩ := tables_spec hk f1.fld
        obtain ⟨h2, hh2⟩ : ∃ h2, h2 = h1.set b (.cells t 131 true 0) := ⟨_, rfl⟩
        have f2 : FS b h h2 := hh2 ▸ f1.trans (.made hm)
        have hne : h.next ≠ b := by omega
        have key : ∀ o, FS b h (h2.set h.next (outB encB 5 o)) := fun o => f2.out (Nat.le_refl _) hne
        refine ⟨h2.set h.next (outB encB 5 (mixL ls cs (List.replicate n 0))), ?_, key _⟩
        refine ifn (by simp [hlen]) ?_
        refine jn ?_
        rw [l2]
        refine jn ?_
        have tl : field_is k (DD k) c h = some (true, h) := hin ▸ fis_spec (DD k) Rc hkc hc
        have rest : ((field_is k (DD k) c h).bind fun r14 =>
          if (!r14.1) = true then some (((⟨#[]⟩ : ByteArray), (1 : Int)), r14.2)
          else
            if 0 ≤ (n : Int) ∧ (n : Int) ≤ (n : Int) ∧ (n : Int) ≤ 281474976710656 ∧ 1 * (n : Int) ≤ 281474976710656 then
              (field_Field_tables k (DD k) (some ⟨b, 0, none⟩) (AHeap.new r14.2 (.cells (zerosL ((n : Int)).toNat [.int .u8 0]) 5 true 0))).bind fun r16 =>
              joinK (fun (out17 : Slc) (h18 : AHeap) => (bytesOf h18 out17).bind fun s20 => some ((s20, (0 : Int)), h18)) fun j19 =>
              field_Field_Mix_l0 k (DD k) j19 c (⟨(some ⟨r14.2.next, 0, some 0⟩), ((n : Int)).toNat, ((n : Int)).toNat⟩ : Slc) r16.1 l (l.len : Int) 0 r16.2
            else none) = some ((⟨⟨mixL ls cs (List.replicate n 0)⟩⟩, 0), h2.set h.next (outB encB 5 (mixL ls cs (List.replicate n 0)))) := by
          refine bnd tl ?_
          refine ifn (by simp) ?_
          refine ifp (by omega) ?_
          rw [Int.toNat_natCast]
          refine bnd (hh1 ▸ ht) ?_
          refine jn ?_
          rw [← hh1, ← hh2]
          have get2 : h2.get h.next = some (outB encB 5 (List.replicate n 0)) := by
            rw [hh2, AHeap.get_set, if_neg hne, hh1]; exact zeros_out
          unfold field_Field_Mix_l0
          obtain ⟨bot, hbot⟩ := iterK_of (fun _ _ _ _ _ _ _ => none) (field_Field_Mix_l0b k (DD k) fun (out17 : Slc) (h18 : AHeap) => (bytesOf h18 out17).bind fun s20 => some ((s20, (0 : Int)), h18)) (show ls.length + 1 ≤ k by omega)
          rw [hbot, Rl.1]
          have := fmix_l0 k (DD k) (fun (out17 : Slc) (h18 : AHeap) => (bytesOf h18 out17).bind fun s20 => some ((s20, (0 : Int)), h18)) bot (B := h.next) (b := b) (n := n) (t := t) h2 hnk.1 (by omega) hlen hl
            (fun o => Rl.chg (key o).chg hlb) (fun o => Rc.chg (key o).chg hcb) hsm hin hne (by rw [hh2]; simp) hm ls.length 0 (List.replicate n 0) (by omega) (by simp)
          rw [set_self get2, List.drop_zero, List.drop_zero] at this
          refine this.trans ?_
          have hl := mixL_length (cs := cs) hsm (List.length_replicate (n := n) (a := (0 : UInt8)))
          have bo := bytesOf_out (cap := n) (sp := some 0) (get_out (enc := encB) (e := 5) (l := mixL ls cs (List.replicate n 0)) (h := h2) (B := h.next))
          rw [hl] at bo
          exact bnd bo rfl
        rw [← mx] at rest
        by_cases e : ls.length = 0
        · refine ifn (by rw [Rl.1]; simp [e]) ?_
          exact ifn (by simp) rest
        · refine ifp (by rw [Rl.1]; simp; omega) ?_
          exact ifn (by rw [lgt]; simp [e]) rest
      · refine ⟨h, ?_, FS.refl hf⟩
        refine ifn (by simp [hlen]) ?_
        refine jn ?_
        rw [l2]
        refine jn ?_
        rw [if_neg hin]
        have tl : field_is k (DD k) c h = some (false, h) := by rw [fis_spec (DD k) Rc hkc hc]; simp only [Bool.not_eq_true] at hin; rw [hin]
        by_cases e : ls.length = 0
        · refine ifn (by rw [Rl.1]; simp [e]) ?_
          refine ifn (by simp) ?_
          exact bnd tl (ifp rfl rfl)
        · refine ifp (by rw [Rl.1]; simp; omega) ?_
          refine ifn (by rw [lgt]; simp [e]) ?_
          exact bnd tl (ifp rfl rfl)
    · refine ⟨h, ?_, FS.refl hf⟩
      refine ifn (by simp [hlen]) ?_
      refine jn ?_
      rw [l2, if_neg hsm, if_neg hsm]
      refine jn ?_
      have e : ls.length ≠ 0 := fun e => hsm (sames_nil e)
      refine ifp (by rw [Rl.1]; simp; omega) ?_
      exact ifp (by simp) rfl
  · rw [if_neg hlen]
    exact ⟨h, ifp (by simp; omega) rfl, FS.refl hf⟩
end Gb
namespace Gb
open Go Gx Go.Proofs
theorem rmix_l2 (K : Nat) (D : CallF) (j) (bot) {l : Slc} {ls : List ByteArray} {h : AHeap} (R : Row encS h l ls) (hs : ls.length < 9223372036854775807) {n0 : Nat} (hn0 : ∀ s, ls[0]? = some s → s.size = n0) (c : Slc) : ∀ (m i : Nat), i + m = ls.length →
    iterK bot (m + 1) (ref03_Mix_l2b K D j) l c (i : Int) h = if sames n0 (ls.drop i) then j l c h else some ((⟨#[]⟩, 4), h)
  | 0, i, hi => by
    rw [iterK_s, ref03_Mix_l2b]
    refine ifn (by rw [R.1]; simp; omega) ?_
    obtain rfl : i = ls.length := by omega
    rw [List.drop_length]
    rfl
  | m + 1, i, hi => by
    obtain ⟨s, hsi⟩ := isome (l := ls) (i := i) (by omega)
    obtain ⟨s0, hs0⟩ := isome (l := ls) (i := 0) (by omega)
    obtain ⟨q, hq, hld⟩ := R.ldS hsi
    obtain ⟨q0, hq0, hld0⟩ := R.ldS hs0
    have ih := rmix_l2 K D j bot R hs hn0 c m (i + 1) (by omega)
    have w : IntKind.wrap .i64 ((i : Int) + 1) = ((i + 1 : Nat) : Int) := by rw [w64 _ (by omega)]; omega
    rw [iterK_s, ref03_Mix_l2b]
    refine ifp (by rw [R.1]; simp; omega) ?_
    refine bnd hq (bnd hld (bnd hq0 (bnd hld0 ?_)))
    rw [sames_drop hsi, hn0 s0 hs0]
    by_cases e : s.size = n0
    · refine ifn (by simp [e]) ?_
      rw [w, ih, e]
      simp
    · refine ifp (by simp; omega) ?_
      simp [e]
theorem rmix_l1 (K : Nat) (D : CallF) (j) (bot) {c : Slc} {cs : List Int} {h : AHeap} (R : Row encI h c cs) (hs : cs.length < 9223372036854775807) (l : Slc) : ∀ (m i : Nat), i + m = cs.length →
    iterK bot (m + 1) (ref03_Mix_l1b K D j) l c (i : Int) h = if (cs.drop i).all inR = true then j l c h else some ((⟨#[]⟩, 1), h)
  | 0, i, hi => by
    rw [iterK_s, ref03_Mix_l1b]
    refine ifn (by rw [R.1]; simp; omega) ?_
    rw [List.drop_eq_nil_of_le (by omega)]
    simp
  | m + 1, i, hi => by
    obtain ⟨x, hx⟩ := isome (l := cs) (i := i) (by omega)
    obtain ⟨q, hq, hld⟩ := R.ldI hx
    have ih := rmix_l1 K D j bot R hs l m (i + 1) (by omega)
    have w : IntKind.wrap .i64 ((i : Int) + 1) = ((i + 1 : Nat) : Int) := by rw [w64 _ (by omega)]; omega
    rw [iterK_s, ref03_Mix_l1b]
    refine ifp (by rw [R.1]; simp; omega) ?_
    refine bnd hq (bnd hld (bnd (ris_spec _ _ _ _) ?_))
    obtain ⟨h2, h3⟩ := List.getElem?_eq_some_iff.1 hx
    rw [List.drop_eq_getElem_cons h2, h3]
    simp only [List.all_cons]
    by_cases hr : inR x = true
    · refine ifn (by simp [hr]) ?_
      rw [w, ih]
      simp [hr]
    · refine ifp (by simp [hr]) ?_
      simp [hr]
theorem rmix_l0 (k : Nat) (hk9 : 9 ≤ k) (D : CallF) (j) (bot) {n : Nat} {l c : Slc} {ls : List ByteArray} {cs : List Int} (hk : n < k) (hn : n ≤ 281474976710656) (hlen : ls.length = cs.length) (hls : ls.length < 9223372036854775807)
    (hsm : sames n ls = true) (hin : cs.all inR = true) : ∀ (m i : Nat) (o : List UInt8) (h : AHeap), Row encS h l ls → Row encI h c cs → i + m = ls.length → o.length = n →
    ∃ h', Keeps h h' ∧ iterK bot (m + 1) (ref03_Mix_l0b k D j) l c ⟨⟨o⟩⟩ (i : Int) h = j ⟨⟨mixL (ls.drop i) (cs.drop i) o⟩⟩ h'
  | 0, i, o, h, Rl, Rc, hi, ho => by
    refine ⟨h, .refl _ _, ?_⟩
    rw [iterK_s, ref03_Mix_l0b]
    refine ifn (by rw [Rl.1]; simp; omega) ?_
    obtain rfl : i = ls.length := by omega
    rw [List.drop_length]
    rfl
  | m + 1, i, o, h, Rl, Rc, hi, ho => by
    obtain ⟨s, hsi⟩ := isome (l := ls) (i := i) (by omega)
    obtain ⟨x, hx⟩ := isome (l := cs) (i := i) (by omega)
    obtain ⟨q, hq, hld⟩ := Rl.ldS hsi
    obtain ⟨q2, hq2, hld2⟩ := Rc.ldI hx
    obtain ⟨cv, rfl, hcv⟩ := all_get hin hx
    have hsz := sames_get hsm hsi
    have w : IntKind.wrap .i64 ((i : Int) + 1) = ((i + 1 : Nat) : Int) := by rw [w64 _ (by omega)]; omega
    obtain ⟨h1, e1, k1⟩ := by_spec D s cv hcv h (by omega) hk9 (by omega)
    obtain ⟨h2, e2, k2⟩ := radd_spec D ⟨⟨o⟩⟩ ⟨⟨scaleL cv (bl s)⟩⟩ h1 (k := k) (by rw [size_mk]; omega) (by rw [size_mk]; omega)
    have k12 := k1.trans k2
    obtain ⟨h', k3, e3⟩ := rmix_l0 k hk9 D j bot hk hn hlen hls hsm hin m (i + 1) (addL o (scaleL cv (bl s))) h2 (Rl.keeps k12) (Rc.keeps k12) (by omega) (by simp [addL, scaleL, bl_length, ho, hsz])
    refine ⟨h', k12.trans k3, ?_⟩
    rw [iterK_s, ref03_Mix_l0b]
    refine ifp (by rw [Rl.1]; simp; omega) ?_
    refine bnd hq (bnd hld (bnd hq2 (bnd hld2 (bnd e1 (bnd e2 ?_)))))
    rw [w, mixL_cons hsi hx, Int.toNat_natCast, ← e3]
    simp only [addA, size_mk, bl_mk, scaleL_length, ho, hsz, if_true]
theorem rmix_spec {k : Nat} (hk : 256 ≤ k) (D : CallF) {h : AHeap} {l c : Slc} {ls : List ByteArray} {cs : List Int} (Rl : Row encS h l ls) (Rc : Row encI h c cs)
    (hkl : ls.length < k) (hkc : cs.length < k) (hkn : ∀ s ∈ ls, s.size < k)
    (hl : ls.length < 9223372036854775807) (hc : cs.length < 9223372036854775807) (hn : ∀ s ∈ ls, s.size ≤ 281474976710656) :
    ∃ h', ref03_Mix k D l c h = some (mixA ls cs, h') ∧ Keeps h h' := by
  unfold ref03_Mix mixA
  rw [Rl.1, Rc.1]
  by_cases hlen : ls.length = cs.length
  · rw [if_pos hlen]
    obtain ⟨n, hnn⟩ : ∃ n, n = (ls.headD ⟨#[]⟩).size := ⟨_, rfl⟩
    have hnk : n < k ∧ n ≤ 281474976710656 := by
      cases ls with
      | nil => subst hnn; exact ⟨by show 0 < k; omega, by show 0 ≤ _; omega⟩
      | cons s t => simp at hnn; subst hnn; exact ⟨hkn s (by simp), hn s (by simp)⟩
    have l2 : ∀ j, ref03_Mix_l2 k D j l c 0 h = (if sames n ls then j l c h else some ((⟨#[]⟩, 4), h)) := fun j => by
      unfold ref03_Mix_l2
      obtain ⟨bot, hbot⟩ := iterK_of (fun _ _ _ _ => none) (ref03_Mix_l2b k D j) (show ls.length + 1 ≤ k by omega)
      rw [hbot]
      have := rmix_l2 k D j bot Rl hl (n0 := n) (fun s e => by rw [hnn, head_of e]) c ls.length 0 (by omega)
      rw [List.drop_zero] at this
      exact this
    have l1 : ∀ j, ref03_Mix_l1 k D j l c 0 h = (if cs.all inR then j l c h else some ((⟨#[]⟩, 1), h)) := fun j => by
      unfold ref03_Mix_l1
      obtain ⟨bot, hbot⟩ := iterK_of (fun _ _ _ _ => none) (ref03_Mix_l1b k D j) (show cs.length + 1 ≤ k by omega)
      rw [hbot]
      have := rmix_l1 k D j bot Rc hc l cs.length 0 (by omega)
      rw [List.drop_zero] at this
      exact this
    rw [← hnn]
    by_cases hsm : sames n ls = true
    · simp only [hsm, if_true] at l2 ⊢
      by_cases hin : cs.all inR = true
      · simp only [hin, if_true] at l1 ⊢
        by_cases e : ls.length = 0
        · refine ⟨h, ?_, .refl _ _⟩
          refine ifn (by simp [hlen]) ?_
          refine jn ?_
          rw [l2]
          refine jn ?_
          rw [l1]
          refine ifp (by rw [Rl.1]; simp [e]) ?_
          have : ls = [] := by simpa using e
          subst this
          obtain rfl : n = 0 := hnn
          rfl
        · obtain ⟨s0, hs0⟩ := isome (l := ls) (i := 0) (by omega)
          have hs0n : s0.size = n := by rw [hnn, head_of hs0]
          obtain ⟨q0, hq0, hld0⟩ := Rl.ldS hs0
          obtain ⟨h1, hh1⟩ : ∃ h1, h1 = h.new (.cells (zerosL n [.int .u8 0]) 5 true 0) := ⟨_, rfl⟩
          have k1 : Keeps h h1 := hh1 ▸ Keeps.new h _
          obtain ⟨bot, hbot⟩ := iterK_of (fun _ _ _ _ _ => none) (ref03_Mix_l0b k D fun (out13 : ByteArray) (h14 : AHeap) => some ((out13, (0 : Int)), h14)) (show ls.length + 1 ≤ k by omega)
          obtain ⟨h', k2, e2⟩ := rmix_l0 k (by omega) D (fun (out13 : ByteArray) (h14 : AHeap) => some ((out13, (0 : Int)), h14)) bot (n := n) (by omega) (by omega) hlen hl hsm hin ls.length 0 (List.replicate n 0) h1 (Rl.keeps k1) (Rc.keeps k1) (by omega) (by simp)
          refine ⟨h', ?_, k1.trans k2⟩
          refine ifn (by simp [hlen]) ?_
          refine jn ?_
          rw [l2]
          refine jn ?_
          rw [l1]
          refine ifn (by rw [Rl.1]; exact ne_nz e) ?_
          refine bnd hq0 (bnd hld0 ?_)
          refine ifp (by omega) ?_
          rw [Int.toNat_natCast, hs0n, ← hh1]
          have hz : h1.get h.next = some (outB encB 5 (List.replicate n 0)) := by rw [hh1]; exact zeros_out
          have bo := bytesOf_out (cap := n) (sp := some 0) (l := List.replicate n 0) hz
          rw [List.length_replicate] at bo
          refine bnd bo ?_
          refine jn ?_
          unfold ref03_Mix_l0
          rw [hbot]
          rw [List.drop_zero, List.drop_zero] at e2
          exact e2
      · refine ⟨h, ?_, .refl _ _⟩
        refine ifn (by simp [hlen]) ?_
        refine jn ?_
        rw [l2]
        refine jn ?_
        rw [l1, if_neg hin, if_neg hin]
    · refine ⟨h, ?_, .refl _ _⟩
      refine ifn (by simp [hlen]) ?_
      refine jn ?_
      rw [l2, if_neg hsm, if_neg hsm]
  · rw [if_neg hlen]
    exact ⟨h, ifp (by simp; omega) rfl, .refl _ _⟩
theorem sameS_spec {k : Nat} (D : CallF) {h : AHeap} {a b : Slc} {xs : List ByteArray} (Ra : Row encS h a xs) (Rb : Row encS h b xs) (hk : xs.length < k) (hs : xs.length < 9223372036854775807) : book_SameTexts k D a b h = some (true, h) := by
  unfold book_SameTexts
  refine ifn (by rw [Ra.1, Rb.1]; simp) ?_
  refine jn ?_
  unfold book_SameTexts_l0
  obtain ⟨bot, hbot⟩ := iterK_of (fun _ _ _ _ => none) (book_SameTexts_l0b k D fun h1 => some (true, h1)) (show xs.length + 1 ≤ k by omega)
  rw [hbot]
  have go : ∀ m i : Nat, i + m = xs.length → iterK bot (m + 1) (book_SameTexts_l0b k D fun h1 => some (true, h1)) a b (i : Int) h = some (true, h) := by
    intro m
    induction m with
    | zero => intro i hi; rw [iterK_s, book_SameTexts_l0b]; exact ifn (by rw [Ra.1]; simp; omega) rfl
    | succ m ih =>
      intro i hi
      obtain ⟨x, hx⟩ := isome (l := xs) (i := i) (by omega)
      obtain ⟨q, hq, hld⟩ := Ra.ldS hx
      obtain ⟨q2, hq2, hld2⟩ := Rb.ldS hx
      have w : IntKind.wrap .i64 ((i : Int) + 1) = ((i + 1 : Nat) : Int) := by rw [w64 _ (by omega)]; omega
      rw [iterK_s, book_SameTexts_l0b]
      refine ifp (by rw [Ra.1]; simp; omega) ?_
      refine bnd hq (bnd hld (bnd hq2 (bnd hld2 ?_)))
      refine ifn (by rw [ba_beq]; simp) ?_
      rw [w]
      exact ih (i + 1) (by omega)
  exact go xs.length 0 (by omega)
abbrev markS : ByteArray := ⟨#[109, 97, 114, 107]⟩
structure Lent (h : AHeap) (s : Slc) (xs : List ByteArray) : Prop where
  row : Row encS h ⟨s.a, xs.length + 1, s.cap⟩ (xs ++ [markS])
  len : s.len = xs.length
  cap : xs.length + 1 ≤ s.cap
  sp : ∀ a, s.a = some a → spOk a.spot 1 = true
theorem Lent.keeps {h h' : AHeap} {s : Slc} {xs : List ByteArray} (L : Lent h s xs) (c : Keeps h h') : Lent h' s xs := ⟨L.row.keeps c, L.len, L.cap, L.sp⟩
theorem Lent.chg {S : Nat → Prop} {h h' : AHeap} {s : Slc} {xs : List ByteArray} (L : Lent h s xs) (c : Chg S h h') (hs : ∀ a, s.a = some a → ¬ S a.block) : Lent h' s xs := ⟨L.row.chg c hs, L.len, L.cap, L.sp⟩
theorem Lent.own {h : AHeap} {s : Slc} {xs : List ByteArray} (L : Lent h s xs) : Row encS h s xs := by
  have := Row.take L.row (cap' := s.cap)
  rw [← L.len] at this
  exact this
end Gb
namespace Gb
open Go Gx Go.Proofs
def mat (N : Nat) (f : Nat → Int) : List Int := (List.range N).map f
theorem mat_length (N : Nat) (f : Nat → Int) : (mat N f).length = N := by simp [mat]
theorem mat_get {N : Nat} {f : Nat → Int} {t : Nat} (h : t < N) : (mat N f)[t]? = some (f t) := by simp [mat, h]
theorem mat_congr {N : Nat} {f g : Nat → Int} (h : ∀ t, t < N → f t = g t) : mat N f = mat N g := by
  apply List.map_congr_left
  intro t ht
  exact h t (List.mem_range.1 ht)
def upd (f : Nat → Int) (t : Nat) (x : Int) : Nat → Int := fun s => if s = t then x else f s
theorem mat_set {N : Nat} {f : Nat → Int} {t : Nat} {x : Int} : (mat N f).set t x = mat N (upd f t x) := by
  apply List.ext_getElem?
  intro i
  rw [List.getElem?_set]
  by_cases e : t = i
  · subst e
    by_cases h : t < N
    · rw [if_pos rfl, mat_length, if_pos h, mat_get h]; simp [upd]
    · rw [if_pos rfl, mat_length, if_neg h]; simp [mat, h]
  · rw [if_neg e]
    by_cases h : i < N
    · rw [mat_get h, mat_get h]; simp only [upd]; rw [if_neg fun x => e x.symm]
    · simp [mat, h]
theorem mat_ext {N : Nat} {f g : Nat → Int} (h : ∀ t, t < N → f t = g t) : outB encI 3 (mat N f) = outB encI 3 (mat N g) := by rw [mat_congr h]
theorem stI_out {h : AHeap} {b t N : Nat} {sp : Option Nat} {f : Nat → Int} (x : Int) (hb : h.get b = some (outB encI 3 (mat N f))) (ht : t < N) :
    st1 ⟨b, t, sp⟩ (.int .i64 x) h = some (h.set b (outB encI 3 (mat N (upd f t x)))) := by
  have : st1 ⟨b, t, sp⟩ (.int .i64 x) h = some (h.set b (.cells (((mat N f).map encI).set t (.int .i64 x)) 3 true 0)) := st1_of hb (by simp [mat_length]; exact ht) rfl
  rw [this, ← mat_set]
  simp only [outB]
  congr 4
  rw [List.map_set]; rfl
def mcell (r c : Int) (s : Slc) : List Value := [.int .i64 r, .int .i64 c, .slice s.a s.len s.cap]
theorem decM3 (r c : Int) (s : Slc) : decC [.i .i64, .i .i64, .l] (mcell r c s) = some (r, (c, s)) := rfl
theorem ldM3 {h : AHeap} {b : Nat} {e : TypeId} {rw' : Bool} {fz : Nat} {r c : Int} {s : Slc} {sp : Option Nat} (hb : h.get b = some (.cells (mcell r c s) e rw' fz)) : ldA 3 ⟨b, 0, sp⟩ h = some (mcell r c s) := by
  simp [ldA, AHeap.rdL, hb, mcell]
theorem stM3 {h : AHeap} {b : Nat} {e : TypeId} {cs : List Value} {r c : Int} {s : Slc} {sp : Option Nat} (hb : h.get b = some (.cells cs e true 0)) (hl : cs.length = 3) :
    stL 3 ⟨b, 0, sp⟩ (mcell r c s) h = some (h.set b (.cells (mcell r c s) e true 0)) := by
  have : cs.drop 3 = [] := List.drop_eq_nil_of_le (by omega)
  simp [stL, AHeap.wrL, hb, mcell, hl, allOne, one, splice, this]
theorem ldI1 {h : AHeap} {b : Nat} {e : TypeId} {rw' : Bool} {fz : Nat} {r c : Int} {s : Slc} {sp : Option Nat} (hb : h.get b = some (.cells (mcell r c s) e rw' fz)) : ldI .i64 ⟨b, 1, sp⟩ h = some c := ldI_of hb rfl
theorem ldL2 {h : AHeap} {b : Nat} {e : TypeId} {rw' : Bool} {fz : Nat} {r c : Int} {s : Slc} {sp : Option Nat} (hb : h.get b = some (.cells (mcell r c s) e rw' fz)) : ldL ⟨b, 2, sp⟩ h = some s := by
  simp [ldL, AHeap.rd1, hb, mcell, decL]
def whole (b N : Nat) (sp : Option Nat := some 0) : Slc := ⟨some ⟨b, 0, sp⟩, N, N⟩
theorem whole_row {h : AHeap} {b N : Nat} {sp : Option Nat} {f : Nat → Int} (hb : h.get b = some (outB encI 3 (mat N f))) (hn : b < h.next) : Row encI h (whole b N sp) (mat N f) := by
  have := Row.of_block (enc := encI) (h := h) (xs := mat N f) (b := b) (o := 0) (sp := sp) (cap := N) (c := (mat N f).map encI) (e := 3) (r := true) (fz := 0) hb hn (fun i x hx => by rw [Nat.zero_add, List.getElem?_map, hx]; rfl)
  rw [mat_length] at this
  exact this
theorem mk_out {h : AHeap} {n : Nat} : (AHeap.new h (.cells (zerosL n [.int .i64 0]) 3 true 0)) = h.new (outB encI 3 (mat n fun _ => 0)) := by
  congr 1
  simp [outB, zerosL, mat, encI, List.map_const']
theorem blank_spec (k : Nat) (D : CallF) (r c : Nat) (h : AHeap) (hs : r * c ≤ 100000) :
    ∃ h', matrix_blank k D r c h = some (((r : Int), (c : Int), whole (h.next + 1) (r * c)), h') ∧ Keeps h h' ∧ h'.next = h.next + 2 ∧ h'.get (h.next + 1) = some (outB encI 3 (mat (r * c) fun _ => 0)) := by
  obtain ⟨g1, hg1⟩ : ∃ g1, g1 = h.new (.cells [.int .i64 0, .int .i64 0, .slice none 0 0] 84 true 0) := ⟨_, rfl⟩
  obtain ⟨g2, hg2⟩ : ∃ g2, g2 = g1.new (outB encI 3 (mat (r * c) fun _ => 0)) := ⟨_, rfl⟩
  have e : IntKind.wrap .i64 ((r : Int) * (c : Int)) = ((r * c : Nat) : Int) := by
    rw [show (r : Int) * (c : Int) = ((r * c : Nat) : Int) by simp]
    exact w64 _ (by omega)
  have n1 : g1.next = h.next + 1 := by rw [hg1]; rfl
  have n2 : g2.next = h.next + 2 := by rw [hg2]; simp [n1]
  have hb : g2.get h.next = some (.cells [.int .i64 0, .int .i64 0, .slice none 0 0] 84 true 0) := by
    rw [hg2, AHeap.get_new, if_neg (by omega), hg1]; simp
  refine ⟨g2.set h.next (.cells (mcell r c (whole (h.next + 1) (r * c))) 84 true 0), ?_, ?_, by simp [n2], ?_⟩
  · unfold matrix_blank
    dsimp only
    rw [e]
    refine ifp (by omega) ?_
    rw [Int.toNat_natCast, ← hg1, mk_out, ← hg2]
    have st := stM3 (r := r) (c := c) (s := whole (h.next + 1) (r * c)) (sp := none) hb rfl
    rw [n1]
    refine bnd st ?_
    refine bnd (ldM3 (r := r) (c := c) (s := whole (h.next + 1) (r * c)) (e := 84) (rw' := true) (fz := 0) (by simp)) ?_
    exact bnd (decM3 _ _ _) rfl
  · have k2 : Keeps h g2 := (hg1 ▸ Keeps.new h _ : Keeps h g1).trans (hg2 ▸ Keeps.new g1 _)
    exact k2.beh (T := (· = h.next)) (.set (.inr rfl)) fun x hx e => by
      have e : x = h.next := e
      omega
  · rw [AHeap.get_set, if_neg (by omega), hg2, AHeap.get_new, n1, if_pos rfl]
theorem zero_spec (k : Nat) (D : CallF) (r c : Nat) (h : AHeap) (hs : r * c ≤ 100000) :
    ∃ h', ref04_zero k D r c h = some (((r : Int), (c : Int), whole (h.next + 1) (r * c)), h') ∧ Keeps h h' ∧ h'.next = h.next + 2 ∧ h'.get (h.next + 1) = some (outB encI 3 (mat (r * c) fun _ => 0)) := by
  obtain ⟨g1, hg1⟩ : ∃ g1, g1 = h.new (.cells [.int .i64 0, .int .i64 0, .slice none 0 0] 94 true 0) := ⟨_, rfl⟩
  obtain ⟨g2, hg2⟩ : ∃ g2, g2 = g1.new (outB encI 3 (mat (r * c) fun _ => 0)) := ⟨_, rfl⟩
  have e : IntKind.wrap .i64 ((r : Int) * (c : Int)) = ((r * c : Nat) : Int) := by
    rw [show (r : Int) * (c : Int) = ((r * c : Nat) : Int) by simp]
    exact w64 _ (by omega)
  have n1 : g1.next = h.next + 1 := by rw [hg1]; rfl
  have n2 : g2.next = h.next + 2 := by rw [hg2]; simp [n1]
  have hb : g2.get h.next = some (.cells [.int .i64 0, .int .i64 0, .slice none 0 0] 94 true 0) := by
    rw [hg2, AHeap.get_new, if_neg (by omega), hg1]; simp
  refine ⟨g2.set h.next (.cells (mcell r c (whole (h.next + 1) (r * c))) 94 true 0), ?_, ?_, by simp [n2], ?_⟩
  · unfold ref04_zero
    dsimp only
    rw [e]
    refine ifp (by omega) ?_
    rw [Int.toNat_natCast, ← hg1, mk_out, ← hg2]
    have st := stM3 (r := r) (c := c) (s := whole (h.next + 1) (r * c)) (sp := none) hb rfl
    rw [n1]
    refine bnd st ?_
    refine bnd (ldM3 (r := r) (c := c) (s := whole (h.next + 1) (r * c)) (e := 94) (rw' := true) (fz := 0) (by simp)) ?_
    exact bnd (decM3 _ _ _) rfl
  · have k2 : Keeps h g2 := (hg1 ▸ Keeps.new h _ : Keeps h g1).trans (hg2 ▸ Keeps.new g1 _)
    exact k2.beh (T := (· = h.next)) (.set (.inr rfl)) fun x hx e => by
      have e : x = h.next := e
      omega
  · rw [AHeap.get_set, if_neg (by omega), hg2, AHeap.get_new, n1, if_pos rfl]
theorem subL_whole {b N lo hi : Nat} {sp : Option Nat} (hsp : spOk sp 1 = true) (h1 : lo < hi) (h2 : hi ≤ N) : Gx.subL 1 (whole b N sp) (some (lo : Int)) (some (hi : Int)) (some (hi : Int)) = some ⟨some ⟨b, lo, some 0⟩, hi - lo, hi - lo⟩ := by
  unfold whole
  simp only [Gx.subL, Option.getD_some]
  rw [if_pos (by omega), if_pos hsp, if_neg (by omega)]
  simp
def rowOf (b c i : Nat) : Slc := ⟨some ⟨b, i * c, some 0⟩, c, c⟩
theorem row_specS (k : Nat) (D : CallF) {r c b i : Nat} {sp : Option Nat} (hsp : spOk sp 1 = true) (h : AHeap) (hi : i < r) (hc : 0 < c) (hs : r * c ≤ 100000) :
    ∃ h', matrix_M_row k D (r, c, whole b (r * c) sp) i h = some (rowOf b c i, h') ∧ Keeps h h' ∧ h'.next = h.next + 1 := by
  refine ⟨h.new (.cells (mcell r c (whole b (r * c) sp)) 84 true 0), ?_, Keeps.new h _, rfl⟩
  have hb : (h.new (.cells (mcell r c (whole b (r * c) sp)) 84 true 0)).get h.next = some (.cells (mcell r c (whole b (r * c) sp)) 84 true 0) := by simp
  have le : (i + 1) * c ≤ r * c := Nat.mul_le_mul_right c hi
  have e0 : (i + 1) * c = i * c + c := Nat.succ_mul i c
  have e1 : IntKind.wrap .i64 ((i : Int) * (c : Int)) = ((i * c : Nat) : Int) := by
    rw [show (i : Int) * (c : Int) = ((i * c : Nat) : Int) by simp]
    exact w64 _ (by omega)
  have r1 : r ≤ r * c := Nat.le_mul_of_pos_right r hc
  have e2 : IntKind.wrap .i64 (IntKind.wrap .i64 ((i : Int) + 1) * (c : Int)) = (((i + 1) * c : Nat) : Int) := by
    rw [w1 (by omega), show ((i + 1 : Nat) : Int) * (c : Int) = (((i + 1) * c : Nat) : Int) by simp]
    exact w64 _ (by omega)
  unfold matrix_M_row
  dsimp only
  refine bnd (ldL2 hb) (bnd (ldI1 hb) (bnd (ldI1 hb) (bnd (ldI1 hb) ?_)))
  rw [e1, e2]
  have sub := subL_whole (b := b) (N := r * c) (sp := sp) (lo := i * c) (hi := (i + 1) * c) hsp (by omega) le
  rw [e0, Nat.add_sub_cancel_left, ← e0] at sub
  exact bnd sub rfl
theorem row_spec (k : Nat) (D : CallF) {r c b i : Nat} (h : AHeap) (hi : i < r) (hc : 0 < c) (hs : r * c ≤ 100000) :
    ∃ h', matrix_M_row k D (r, c, whole b (r * c)) i h = some (rowOf b c i, h') ∧ Keeps h h' ∧ h'.next = h.next + 1 := row_specS k D rfl h hi hc hs
theorem rowOf_idx {b c i j : Nat} (hj : j < c) : idxL 1 (rowOf b c i) (j : Int) = some ⟨b, i * c + j, none⟩ := by
  unfold rowOf
  rw [idxL_of (by omega)]
  simp
theorem whole_idx {b N t : Nat} {sp : Option Nat} (ht : t < N) : idxL 1 (whole b N sp) (t : Int) = some ⟨b, t, none⟩ := by
  unfold whole
  rw [idxL_of (by omega)]
  simp
end Gb
namespace Gb
open Go Gx Go.Proofs
structure Spc (h : AHeap) (sb fb : Nat) : Prop where
  sp : h.get sb = some (.cells [.pointer (some ⟨fb, 0, none⟩)] 111 true 0)
  fld : Fld h fb
  ne : sb ≠ fb
  ls : sb < h.next
  lf : fb < h.next
theorem Spc.chg {S : Nat → Prop} {h h' : AHeap} {sb fb : Nat} (s : Spc h sb fb) (c : Chg S h h') (h1 : ¬ S sb) (h2 : ¬ S fb) : Spc h' sb fb :=
  ⟨by rw [c.oth sb s.ls h1]; exact s.sp, fldchg s.fld s.lf c h2, s.ne, Nat.lt_of_lt_of_le s.ls c.nx, Nat.lt_of_lt_of_le s.lf c.nx⟩
theorem Spc.keeps {h h' : AHeap} {sb fb : Nat} (s : Spc h sb fb) (c : Keeps h h') : Spc h' sb fb := s.chg c (fun f => f) (fun f => f)
theorem Spc.fs {h h' : AHeap} {sb fb : Nat} (s : Spc h sb fb) (c : FS fb h h') : Spc h' sb fb :=
  ⟨by rw [c.oth sb s.ls s.ne]; exact s.sp, c.fld, s.ne, Nat.lt_of_lt_of_le s.ls c.nx, Nat.lt_of_lt_of_le s.lf c.nx⟩
theorem Spc.ld {h : AHeap} {sb fb : Nat} (s : Spc h sb fb) : ldP ⟨sb, 0, none⟩ h = some (some ⟨fb, 0, none⟩) := by simp [ldP, AHeap.rd1, s.sp, decP]
theorem mnew_spec (k : Nat) (D : CallF) (h : AHeap) : ∃ h', matrix_New k D h = some (some ⟨h.next + 1, 0, none⟩, h') ∧ Keeps h h' ∧ Spc h' (h.next + 1) h.next ∧ h'.next = h.next + 2 := by
  refine ⟨(h.new (.cells fresh 131 true 0)).new (.cells [.pointer (some ⟨h.next, 0, none⟩)] 111 true 0), ?_, (Keeps.new h _).trans (Keeps.new _ _), ⟨by simp, ?_, by omega, by simp, by simp; omega⟩, by simp⟩
  · unfold matrix_New
    exact bnd (new_spec _ _ _) rfl
  · exact ⟨fresh, by simp, .inl rfl⟩
def cau (k : Nat) (t : Nat) : Int := if t / k < k then (if t / k = t % k then 1 else 0) else (divT 1 ((t / k) ^^^ (t % k)) : Nat)
theorem pos_div {i j k : Nat} (hj : j < k) : (i * k + j) / k = i := by
  rw [Nat.add_comm, Nat.add_mul_div_right _ _ (by omega), Nat.div_eq_of_lt hj, Nat.zero_add]
theorem pos_mod {i j k : Nat} (hj : j < k) : (i * k + j) % k = j := by
  rw [Nat.add_comm, Nat.add_mul_mod_self_right, Nat.mod_eq_of_lt hj]
theorem cau_at {i j k : Nat} (hj : j < k) : cau k (i * k + j) = if i < k then (if i = j then (1 : Int) else 0) else ((divT 1 (i ^^^ j) : Nat) : Int) := by
  unfold cau
  rw [pos_div hj, pos_mod hj]
theorem xor_ne {i j : Nat} (h : i ≠ j) : i ^^^ j ≠ 0 := fun e => h (by
  have : i ^^^ (i ^^^ j) = i := by rw [e, Nat.xor_zero]
  rw [← Nat.xor_assoc, Nat.xor_self, Nat.zero_xor] at this
  exact this.symm)
theorem xor64' {i j : Nat} (hi : i < 256) (hj : j < 256) : Go.bits .xor .i64 (i : Int) (j : Int) = ((i ^^^ j : Nat) : Int) := xor64 (by omega) (by omega)
structure Fil (H0 : AHeap) (B ob sb fb N : Nat) (r c : Int) (e : TypeId) (f : Nat → Int) (h : AHeap) : Prop where
  blk : h.get B = some (outB encI 3 (mat N f))
  obk : h.get ob = some (.cells (mcell r c (whole B N)) e true 0)
  spc : Spc h sb fb
  lb : B < h.next
  lo : ob < h.next
  ne : B ≠ ob ∧ B ≠ sb ∧ B ≠ fb ∧ ob ≠ fb ∧ ob ≠ sb
  ch : Chg (fun x => x = B ∨ x = fb) H0 h
theorem Fil.keeps {H0 : AHeap} {B ob sb fb N : Nat} {r c : Int} {e : TypeId} {f : Nat → Int} {h h' : AHeap} (F : Fil H0 B ob sb fb N r c e f h) (k : Keeps h h') : Fil H0 B ob sb fb N r c e f h' :=
  ⟨by rw [k.oth B F.lb (fun f => f)]; exact F.blk, by rw [k.oth ob F.lo (fun f => f)]; exact F.obk, F.spc.keeps k, Nat.lt_of_lt_of_le F.lb k.nx, Nat.lt_of_lt_of_le F.lo k.nx, F.ne, F.ch.trans (Chg.keeps k)⟩
theorem Fil.fs {H0 : AHeap} {B ob sb fb N : Nat} {r c : Int} {e : TypeId} {f : Nat → Int} {h h' : AHeap} (F : Fil H0 B ob sb fb N r c e f h) (k : FS fb h h') : Fil H0 B ob sb fb N r c e f h' :=
  ⟨by rw [k.oth B F.lb F.ne.2.2.1]; exact F.blk, by rw [k.oth ob F.lo F.ne.2.2.2.1]; exact F.obk, F.spc.fs k, Nat.lt_of_lt_of_le F.lb k.nx, Nat.lt_of_lt_of_le F.lo k.nx, F.ne, F.ch.trans (k.chg.wk fun x _ e => .inr e)⟩
theorem Fil.put {H0 : AHeap} {B ob sb fb N : Nat} {r c : Int} {e : TypeId} {f : Nat → Int} {h : AHeap} (F : Fil H0 B ob sb fb N r c e f h) (g : Nat → Int) : Fil H0 B ob sb fb N r c e g (h.set B (outB encI 3 (mat N g))) :=
  ⟨by simp, by rw [AHeap.get_set, if_neg (fun x => F.ne.1 x.symm)]; exact F.obk, F.spc.chg (Chg.set (S := (· = B)) (.inr rfl)) (fun x => F.ne.2.1 x.symm) (fun x => F.ne.2.2.1 x.symm), F.lb, F.lo, F.ne, F.ch.trans (Chg.set (.inr (.inl rfl)))⟩
theorem Fil.congr {H0 : AHeap} {B ob sb fb N : Nat} {r c : Int} {e : TypeId} {f g : Nat → Int} {h : AHeap} (F : Fil H0 B ob sb fb N r c e f h) (hg : ∀ t, t < N → f t = g t) : Fil H0 B ob sb fb N r c e g h :=
  ⟨by rw [← mat_ext hg]; exact F.blk, F.obk, F.spc, F.lb, F.lo, F.ne, F.ch⟩
theorem cau_l1 {k0 : Nat} (hk : 1000 ≤ k0) {H0 : AHeap} {B ob sb fb k R i : Nat} (hk1 : 0 < k) (hR : R ≤ 255) (hkR : k ≤ R) (hi : i < R) (y : Option Addr) (a b : Int) : ∀ (m j : Nat) (h : AHeap), j + m = k → Fil H0 B ob sb fb (R * k) R k 84 (fun s => if s < i * k + j then cau k s else 0) h →
    ∃ h', Fil H0 B ob sb fb (R * k) R k 84 (fun s => if s < i * k + k then cau k s else 0) h' ∧
      ∀ jj bot, iterK bot (m + 1) (matrix_Space_Cauchy_l1b k0 (DD k0) jj) (some ⟨sb, 0, none⟩) (k : Int) y (some ⟨ob, 0, none⟩) (i : Int) a b (k : Int) (j : Int) h = jj (some ⟨sb, 0, none⟩) (k : Int) y (some ⟨ob, 0, none⟩) a b h' := by
  intro m
  induction m with
  | zero =>
    intro j h hj F
    obtain rfl : j = k := by omega
    exact ⟨h, F, fun jj bot => by rw [iterK_s, matrix_Space_Cauchy_l1b]; exact ifn (by simp) rfl⟩
  | succ m ih =>
    intro j h hj F
    have hj' : j < k := by omega
    have le : (i + 1) * k ≤ R * k := Nat.mul_le_mul_right k hi
    have e0 : (i + 1) * k = i * k + k := Nat.succ_mul i k
    have hN : R * k ≤ 100000 := Nat.le_trans (Nat.mul_le_mul hR (Nat.le_trans hkR hR)) (by omega)
    have hpos : i * k + j < R * k := by omega
    have step : ∀ (h1 : AHeap) (x : Int), Fil H0 B ob sb fb (R * k) R k 84 (fun s => if s < i * k + j then cau k s else 0) h1 → x = cau k (i * k + j) → Fil H0 B ob sb fb (R * k) R k 84 (fun s => if s < i * k + (j + 1) then cau k s else 0) (h1.set B (outB encI 3 (mat (R * k) (upd (fun s => if s < i * k + j then cau k s else 0) (i * k + j) x)))) := fun h1 x F1 hx =>
      (F1.put _).congr fun t ht => by
        simp only [upd]
        by_cases e : t = i * k + j
        · rw [if_pos e, if_pos (by omega), hx, e]
        · rw [if_neg e]
          by_cases e2 : t < i * k + j
          · rw [if_pos e2, if_pos (by omega)]
          · rw [if_neg e2, if_neg (by omega)]
    have w := w1 (i := j) (by omega)
    by_cases c1 : i < k
    · by_cases c2 : i = j
      · -- one
        obtain ⟨h1, e1, k1, _⟩ := row_spec k0 (DD k0) (r := R) (c := k) (b := B) (i := i) h hi hk1 hN
        have F1 := F.keeps k1
        obtain ⟨h', F', e'⟩ := ih (j + 1) _ (by omega) (step h1 1 F1 (by rw [cau_at hj', if_pos c1, if_pos c2]))
        refine ⟨h', F', fun jj bot => ?_⟩
        rw [iterK_s, matrix_Space_Cauchy_l1b]
        refine ifp (by simp; omega) ?_
        refine jn (jn ?_)
        refine ifp (by simp; omega) ?_
        refine ifp (by simp [c2]) ?_
        refine bnd rfl (bnd (ldM3 F.obk) (bnd (decM3 _ _ _) ?_))
        refine bnd e1 ?_
        refine bnd (rowOf_idx hj') ?_
        refine bnd (stI_out 1 F1.blk hpos) ?_
        dsimp only
        rw [w]
        exact e' jj bot
      · -- nothing
        have F1 : Fil H0 B ob sb fb (R * k) R k 84 (fun s => if s < i * k + (j + 1) then cau k s else 0) h := F.congr fun t ht => by
          by_cases e : t = i * k + j
          · rw [if_neg (by omega), if_pos (by omega), e]
            rw [cau_at hj', if_pos c1, if_neg c2]
          · by_cases e2 : t < i * k + j
            · rw [if_pos e2, if_pos (by omega)]
            · rw [if_neg e2, if_neg (by omega)]
        obtain ⟨h', F', e'⟩ := ih (j + 1) h (by omega) F1
        refine ⟨h', F', fun jj bot => ?_⟩
        rw [iterK_s, matrix_Space_Cauchy_l1b]
        refine ifp (by simp; omega) ?_
        refine jn (jn ?_)
        refine ifp (by simp; omega) ?_
        refine ifn (by simp; omega) ?_
        refine ifn (by simp; omega) ?_
        dsimp only
        rw [w]
        exact e' jj bot
    · -- a quotient
      obtain ⟨h1, e1, k1, _⟩ := row_spec k0 (DD k0) (r := R) (c := k) (b := B) (i := i) h hi hk1 hN
      have F1 := F.keeps k1
      have x0 := xor_ne (i := i) (j := j) (by omega)
      have xlt : i ^^^ j < 256 := xor_lt (by omega) (by omega)
      obtain ⟨h2, e2, s2⟩ := div_spec (k := k0) (by omega) F1.spc.fld F1.spc.lf (x := 1) (y := i ^^^ j) (by omega) xlt
      rw [if_neg x0] at e2
      have F2 := F1.fs s2
      obtain ⟨h', F', e'⟩ := ih (j + 1) _ (by omega) (step h2 (divT 1 (i ^^^ j) : Nat) F2 (by rw [cau_at hj', if_neg c1]))
      refine ⟨h', F', fun jj bot => ?_⟩
      rw [iterK_s, matrix_Space_Cauchy_l1b]
      refine ifp (by simp; omega) ?_
      refine jn (jn ?_)
      refine ifn (by simp; omega) ?_
      refine ifn (by simp) ?_
      refine ifp (by simp; omega) ?_
      refine bnd rfl (bnd (ldM3 F.obk) (bnd (decM3 _ _ _) ?_))
      refine bnd e1 ?_
      refine bnd rfl (bnd F1.spc.ld ?_)
      refine gp (fun H hH => by simp at hH; subst hH; exact bnd F.spc.ld rfl) ?_
      rw [xor64' (by omega) (by omega)]
      refine bnd e2 ?_
      refine bnd (rowOf_idx hj') ?_
      refine bnd (stI_out _ F2.blk hpos) ?_
      dsimp only
      rw [w]
      exact e' jj bot
theorem cau_l0 {k0 : Nat} (hk : 1000 ≤ k0) {H0 : AHeap} {B ob sb fb k R : Nat} (hk1 : 0 < k) (hR : R ≤ 255) (hkR : k ≤ R) (y : Option Addr) : ∀ (m i : Nat) (h : AHeap), i + m = R → Fil H0 B ob sb fb (R * k) R k 84 (fun s => if s < i * k then cau k s else 0) h →
    ∃ h', Fil H0 B ob sb fb (R * k) R k 84 (cau k) h' ∧
      ∀ jj bot, iterK bot (m + 1) (matrix_Space_Cauchy_l0b k0 (DD k0) jj) (some ⟨sb, 0, none⟩) (k : Int) y (some ⟨ob, 0, none⟩) (R : Int) (i : Int) h = jj y (some ⟨ob, 0, none⟩) h' := by
  intro m
  induction m with
  | zero =>
    intro i h hi F
    obtain rfl : i = R := by omega
    refine ⟨h, F.congr fun t ht => by rw [if_pos ht], fun jj bot => ?_⟩
    rw [iterK_s, matrix_Space_Cauchy_l0b]; exact ifn (by simp) rfl
  | succ m ih =>
    intro i h hi F
    obtain ⟨h1, F1, e1⟩ := cau_l1 hk hk1 hR hkR (show i < R by omega) y (R : Int) (i : Int) k 0 h (by omega) F
    have e0 : (i + 1) * k = i * k + k := Nat.succ_mul i k
    obtain ⟨h', F', e'⟩ := ih (i + 1) h1 (by omega) (by rw [e0]; exact F1)
    refine ⟨h', F', fun jj bot => ?_⟩
    rw [iterK_s, matrix_Space_Cauchy_l0b]
    refine ifp (by simp; omega) ?_
    refine jn ?_
    unfold matrix_Space_Cauchy_l1
    obtain ⟨bot1, hbot1⟩ := iterK_of (fun _ _ _ _ _ _ _ _ _ _ => none) (matrix_Space_Cauchy_l1b k0 (DD k0) _) (show k + 1 ≤ k0 by omega)
    rw [hbot1]
    refine (e1 _ bot1).trans ?_
    rw [w1 (by omega)]
    exact e' jj bot
structure MadeM (h h' : AHeap) (fb B N : Nat) (f : Nat → Int) : Prop where
  blk : h'.get B = some (outB encI 3 (mat N f))
  lb : B < h'.next
  nb : h.next ≤ B
  ch : Chg (· = fb) h h'
theorem cauchy_spec {k0 : Nat} (hk : 1000 ≤ k0) {h : AHeap} {sb fb k m : Nat} (S : Spc h sb fb) (hk1 : 0 < k) (hR : k + m ≤ 255) :
    ∃ h' B, matrix_Space_Cauchy k0 (DD k0) (some ⟨sb, 0, none⟩) k m h = some (((((k + m : Nat) : Int), (k : Int), whole B ((k + m) * k)), 0), h') ∧ Spc h' sb fb ∧ MadeM h h' fb B ((k + m) * k) (cau k) := by
  obtain ⟨g1, hg1⟩ : ∃ g1, g1 = h.new (.cells [.int .i64 0, .int .i64 0, .slice none 0 0] 84 true 0) := ⟨_, rfl⟩
  have k1 : Keeps h g1 := hg1 ▸ Keeps.new h _
  have n1 : g1.next = h.next + 1 := by rw [hg1]; rfl
  have y1 : g1.get h.next = some (.cells [.int .i64 0, .int .i64 0, .slice none 0 0] 84 true 0) := by rw [hg1]; simp
  have hN : (k + m) * k ≤ 100000 := Nat.le_trans (Nat.mul_le_mul hR (show k ≤ 255 by omega)) (by omega)
  obtain ⟨g2, e2, k2, n2, b2⟩ := blank_spec k0 (DD k0) (k + m) k g1 hN
  obtain ⟨g3, hg3⟩ : ∃ g3, g3 = g2.new (.cells [.int .i64 0, .int .i64 0, .slice none 0 0] 84 true 0) := ⟨_, rfl⟩
  have k3 : Keeps g2 g3 := hg3 ▸ Keeps.new g2 _
  have n3 : g3.next = g2.next + 1 := by rw [hg3]; rfl
  have o3 : g3.get g2.next = some (.cells [.int .i64 0, .int .i64 0, .slice none 0 0] 84 true 0) := by rw [hg3]; simp
  obtain ⟨g4, hg4⟩ : ∃ g4, g4 = g3.set g2.next (.cells (mcell ((k + m : Nat) : Int) k (whole (g1.next + 1) ((k + m) * k))) 84 true 0) := ⟨_, rfl⟩
  have n4 : g4.next = g3.next := by rw [hg4]; rfl
  have st3 : stL 3 ⟨g2.next, 0, none⟩ (mcell ((k + m : Nat) : Int) k (whole (g1.next + 1) ((k + m) * k))) g3 = some g4 := by rw [hg4]; exact stM3 o3 rfl
  have k04 : Keeps h g4 := ((k1.trans k2).trans k3).beh (T := (· = g2.next)) (hg4 ▸ Chg.set (.inr rfl)) fun x hx e => by
    have e : x = g2.next := e
    omega
  have S4 := S.keeps k04
  have b4 : g4.get (g1.next + 1) = some (outB encI 3 (mat ((k + m) * k) fun _ => 0)) := by
    rw [hg4, AHeap.get_set, if_neg (by omega), k3.oth _ (by omega) (fun f => f)]; exact b2
  have y4 : g4.get h.next = some (.cells [.int .i64 0, .int .i64 0, .slice none 0 0] 84 true 0) := by
    rw [hg4, AHeap.get_set, if_neg (by omega), k3.oth _ (by omega) (fun f => f), k2.oth _ (by omega) (fun f => f)]; exact y1
  have F4 : Fil g4 (g1.next + 1) g2.next sb fb ((k + m) * k) ((k + m : Nat) : Int) k 84 (fun s => if s < 0 * k then cau k s else 0) g4 := by
    have := S.ls; have := S.lf
    refine ⟨by rw [mat_ext (g := fun _ => 0) (fun t ht => by rw [if_neg (by omega)])]; exact b4, by rw [hg4]; simp, S4, by omega, by omega, ⟨by omega, by omega, by omega, by omega, by omega⟩, .refl _ _⟩
  obtain ⟨g5, F5, e5⟩ := cau_l0 hk hk1 hR (Nat.le_add_right k m) (some ⟨h.next, 0, none⟩) (k + m) 0 g4 (by omega) F4
  have y5 : g5.get h.next = some (.cells [.int .i64 0, .int .i64 0, .slice none 0 0] 84 true 0) := by
    rw [F5.ch.oth h.next (by omega) (fun e => by have := S.lf; omega)]; exact y4
  refine ⟨g5.set h.next (.cells (mcell ((k + m : Nat) : Int) k (whole (g1.next + 1) ((k + m) * k))) 84 true 0), g1.next + 1, ?_, ?_, ?_⟩
  · unfold matrix_Space_Cauchy
    have w : IntKind.wrap .i64 ((k : Int) + (m : Int)) = ((k + m : Nat) : Int) := by rw [w64 _ (by omega)]; omega
    have w2 : IntKind.wrap .i64 (255 - (k : Int)) = 255 - (k : Int) := w64 _ (by omega)
    dsimp only
    rw [← hg1]
    refine jn ?_
    refine ifn (by simp; omega) ?_
    refine ifn (by rw [decide_eq_true_eq]; omega) ?_
    refine ifn (by simp; omega) ?_
    rw [w2]
    refine ifn (by simp; omega) ?_
    rw [w]
    refine bnd e2 ?_
    dsimp only
    rw [← hg3]
    refine bnd st3 ?_
    refine jn ?_
    unfold matrix_Space_Cauchy_l0
    obtain ⟨bot, hbot⟩ := iterK_of (fun _ _ _ _ _ _ _ => none) (matrix_Space_Cauchy_l0b k0 (DD k0) _) (show (k + m) + 1 ≤ k0 by omega)
    rw [hbot]
    refine (e5 _ bot).trans ?_
    refine bnd rfl (bnd (ldM3 F5.obk) (bnd (decM3 _ _ _) ?_))
    refine bnd rfl ?_
    refine bnd (stM3 (r := ((k + m : Nat) : Int)) (c := k) (s := whole (g1.next + 1) ((k + m) * k)) y5 rfl) ?_
    refine bnd rfl ?_
    refine bnd (ldM3 (r := ((k + m : Nat) : Int)) (c := k) (s := whole (g1.next + 1) ((k + m) * k)) (e := 84) (rw' := true) (fz := 0) (by simp)) ?_
    exact bnd (decM3 _ _ _) rfl
  · exact F5.spc.chg (Chg.set (S := (· = h.next)) (.inr rfl)) (fun e => by have := S.ls; have e : sb = h.next := e; omega) (fun e => by have := S.lf; have e : fb = h.next := e; omega)
  · refine ⟨by rw [AHeap.get_set, if_neg (by omega)]; exact F5.blk, F5.lb, by omega, ?_⟩
    have c1 : Chg (· = fb) h g5 := (Chg.keeps k04).beh F5.ch fun x hx e => by
      rcases e with e | e
      · omega
      · exact e
    exact c1.beh (T := (· = h.next)) (.set (.inr rfl)) fun x hx e => by
      have e : x = h.next := e
      omega
theorem rover_spec {k : Nat} (hk : 256 ≤ k) (D : CallF) {a b : Nat} (ha : a < 256) (hb : b < 256) (b0 : b ≠ 0) (h : AHeap) : ref03_Over k D (a : Int) (b : Int) h = some ((divT a b : Int), h) := by
  unfold ref03_Over
  refine jn ?_
  unfold ref03_Over_l0
  have hlt := divT_lt (x := a) (y := b)
  obtain ⟨bot, hbot⟩ := iterK_of (fun _ _ _ _ => none) (ref03_Over_l0b k D fun h1 => some (0, h1)) (show divT a b + 1 ≤ k by omega)
  rw [hbot]
  exact over_loop k (by omega) D (fun h1 => some (0, h1)) bot ha hb b0 h (divT a b) 0 (by omega)
def cauP (k j R : Nat) (t : Nat) : Int := if t % k < j ∨ (t % k = j ∧ t / k < R) then cau k t else 0
theorem rcau_l1 {k0 : Nat} (hk : 1000 ≤ k0) {D : CallF} {H0 : AHeap} {B ob k m j : Nat} (hj : j < k) (hR : k + m ≤ 255) (y : Option Addr) : ∀ (n i : Nat) (h : AHeap), i + n = m →
    h.get B = some (outB encI 3 (mat ((k + m) * k) (cauP k j (k + i)))) → h.get ob = some (.cells (mcell ((k + m : Nat) : Int) k (whole B ((k + m) * k))) 94 true 0) → B ≠ ob → Chg (· = B) H0 h →
    ∃ h', h'.get B = some (outB encI 3 (mat ((k + m) * k) (cauP k j (k + m)))) ∧ h'.get ob = some (.cells (mcell ((k + m : Nat) : Int) k (whole B ((k + m) * k))) 94 true 0) ∧ Chg (· = B) H0 h' ∧ h'.next = h.next ∧
      ∀ jj bot, iterK bot (n + 1) (ref04_Cauchy_l1b k0 D jj) (k : Int) (m : Int) y (some ⟨ob, 0, none⟩) (j : Int) (i : Int) h = jj (k : Int) (m : Int) y (some ⟨ob, 0, none⟩) (j : Int) h' := by
  intro n
  induction n with
  | zero =>
    intro i h hi hb ho hne hc
    obtain rfl : i = m := by omega
    exact ⟨h, hb, ho, hc, rfl, fun jj bot => by rw [iterK_s, ref04_Cauchy_l1b]; exact ifn (by simp) rfl⟩
  | succ n ih =>
    intro i h hi hb ho hne hc
    have le : (k + i + 1) * k ≤ (k + m) * k := Nat.mul_le_mul_right k (by omega)
    have e0 : (k + i + 1) * k = (k + i) * k + k := Nat.succ_mul (k + i) k
    have hN : (k + m) * k ≤ 100000 := Nat.le_trans (Nat.mul_le_mul hR (show k ≤ 255 by omega)) (by omega)
    have hpos : (k + i) * k + j < (k + m) * k := by omega
    have x0 := xor_ne (i := k + i) (j := j) (by omega)
    have xlt : (k + i) ^^^ j < 256 := xor_lt (by omega) (by omega)
    have upd' : ∀ t, t < (k + m) * k → upd (cauP k j (k + i)) ((k + i) * k + j) (divT 1 ((k + i) ^^^ j) : Nat) t = cauP k j (k + (i + 1)) t := fun t ht => by
      simp only [upd]
      by_cases e : t = (k + i) * k + j
      · subst e
        rw [if_pos rfl]
        unfold cauP
        rw [pos_div hj, pos_mod hj, if_pos (.inr ⟨rfl, by omega⟩), cau_at hj, if_neg (by omega)]
      · rw [if_neg e]
        unfold cauP
        have hdm := Nat.div_add_mod t k
        by_cases c1 : t % k = j
        · have : t / k ≠ k + i := fun e2 => e (by rw [← hdm, e2, c1, Nat.mul_comm])
          by_cases c2 : t / k < k + i
          · rw [if_pos (.inr ⟨c1, c2⟩), if_pos (.inr ⟨c1, by omega⟩)]
          · rw [if_neg (by omega), if_neg (by omega)]
        · by_cases c2 : t % k < j
          · rw [if_pos (.inl c2), if_pos (.inl c2)]
          · rw [if_neg (by omega), if_neg (by omega)]
    obtain ⟨h', b', o', c', n', e'⟩ := ih (i + 1) (h.set B (outB encI 3 (mat ((k + m) * k) (upd (cauP k j (k + i)) ((k + i) * k + j) (divT 1 ((k + i) ^^^ j) : Nat))))) (by omega)
      (by rw [mat_ext (fun t ht => (upd' t ht).symm)]; simp) (by rw [AHeap.get_set, if_neg (fun e => hne e.symm)]; exact ho) hne (hc.trans (Chg.set (.inr rfl)))
    refine ⟨h', b', o', c', n', fun jj bot => ?_⟩
    rw [iterK_s, ref04_Cauchy_l1b]
    refine ifp (by rw [decide_eq_true_eq]; omega) ?_
    have w : IntKind.wrap .i64 ((k : Int) + (i : Int)) = ((k + i : Nat) : Int) := by rw [w64 _ (by omega)]; omega
    have w2 : IntKind.wrap .i64 (((k + i : Nat) : Int) * (k : Int)) = (((k + i) * k : Nat) : Int) := by
      rw [show ((k + i : Nat) : Int) * (k : Int) = (((k + i) * k : Nat) : Int) by simp]
      exact w64 _ (by omega)
    have w3 : IntKind.wrap .i64 ((((k + i) * k : Nat) : Int) + (j : Int)) = (((k + i) * k + j : Nat) : Int) := by rw [w64 _ (by omega)]; omega
    rw [w, xor64' (by omega) (by omega)]
    refine bnd (rover_spec (k := k0) (by omega) D (a := 1) (by omega) xlt x0 h) ?_
    refine bnd rfl (bnd (ldL2 ho) ?_)
    refine gp (fun H hH => by simp at hH; subst hH; exact bnd (ldL2 ho) rfl) ?_
    rw [w2]
    dsimp only
    rw [w3]
    refine bnd (whole_idx hpos) ?_
    refine bnd (stI_out _ hb hpos) ?_
    rw [w1 (by omega)]
    exact e' jj bot
theorem rcau_l0 {k0 : Nat} (hk : 1000 ≤ k0) {D : CallF} {H0 : AHeap} {B ob k m : Nat} (hk1 : 0 < k) (hR : k + m ≤ 255) (y : Option Addr) : ∀ (n j : Nat) (h : AHeap), j + n = k →
    h.get B = some (outB encI 3 (mat ((k + m) * k) (fun t => if t % k < j then cau k t else 0))) → h.get ob = some (.cells (mcell ((k + m : Nat) : Int) k (whole B ((k + m) * k))) 94 true 0) → B ≠ ob → Chg (· = B) H0 h →
    ∃ h', h'.get B = some (outB encI 3 (mat ((k + m) * k) (cau k))) ∧ h'.get ob = some (.cells (mcell ((k + m : Nat) : Int) k (whole B ((k + m) * k))) 94 true 0) ∧ Chg (· = B) H0 h' ∧ h'.next = h.next ∧
      ∀ jj bot, iterK bot (n + 1) (ref04_Cauchy_l0b k0 D jj) (k : Int) (m : Int) y (some ⟨ob, 0, none⟩) (j : Int) h = jj y (some ⟨ob, 0, none⟩) h' := by
  intro n
  induction n with
  | zero =>
    intro j h hj hb ho hne hc
    obtain rfl : j = k := by omega
    refine ⟨h, ?_, ho, hc, rfl, fun jj bot => by rw [iterK_s, ref04_Cauchy_l0b]; exact ifn (by simp) rfl⟩
    rw [hb, mat_ext (fun t ht => by rw [if_pos (Nat.mod_lt t hk1)])]
  | succ n ih =>
    intro j h hj hb ho hne hc
    have hj' : j < k := by omega
    have hN : (k + m) * k ≤ 100000 := Nat.le_trans (Nat.mul_le_mul hR (show k ≤ 255 by omega)) (by omega)
    have le : (j + 1) * k ≤ (k + m) * k := Nat.mul_le_mul_right k (by omega)
    have e0 : (j + 1) * k = j * k + k := Nat.succ_mul j k
    have hpos : j * k + j < (k + m) * k := by omega
    have upd' : ∀ t, t < (k + m) * k → upd (fun t => if t % k < j then cau k t else 0) (j * k + j) 1 t = cauP k j (k + 0) t := fun t ht => by
      simp only [upd]
      by_cases e : t = j * k + j
      · subst e
        rw [if_pos rfl]
        unfold cauP
        rw [pos_div hj', pos_mod hj', if_pos (.inr ⟨rfl, by omega⟩), cau_at hj', if_pos hj', if_pos rfl]
      · rw [if_neg e]
        unfold cauP
        have hdm := Nat.div_add_mod t k
        by_cases c1 : t % k = j
        · rw [if_neg (by omega)]
          by_cases c2 : t / k < k
          · rw [if_pos (.inr ⟨c1, by omega⟩)]
            have : t / k ≠ j := fun e2 => e (by rw [← hdm, e2, c1, Nat.mul_comm])
            unfold cau
            rw [if_pos c2, if_neg (by omega)]
          · rw [if_neg (by omega)]
        · by_cases c2 : t % k < j
          · rw [if_pos c2, if_pos (.inl c2)]
          · rw [if_neg c2, if_neg (by omega)]
    obtain ⟨h1, b1, o1, c1, n1, e1⟩ := rcau_l1 (D := D) hk hj' hR y m 0 (h.set B (outB encI 3 (mat ((k + m) * k) (upd (fun t => if t % k < j then cau k t else 0) (j * k + j) 1)))) (by omega)
      (by rw [mat_ext (fun t ht => (upd' t ht).symm)]; simp) (by rw [AHeap.get_set, if_neg (fun e => hne e.symm)]; exact ho) hne (hc.trans (Chg.set (.inr rfl)))
    have b1' : h1.get B = some (outB encI 3 (mat ((k + m) * k) (fun t => if t % k < j + 1 then cau k t else 0))) := by
      rw [b1, mat_ext (g := fun t => if t % k < j + 1 then cau k t else 0) (fun t ht => by
        unfold cauP
        have : t / k < k + m := (Nat.div_lt_iff_lt_mul hk1).2 ht
        by_cases c : t % k < j + 1
        · rw [if_pos (by omega), if_pos c]
        · rw [if_neg (by omega), if_neg c])]
    obtain ⟨h', b', o', c', n', e'⟩ := ih (j + 1) h1 (by omega) b1' o1 hne c1
    refine ⟨h', b', o', c', n'.trans n1, fun jj bot => ?_⟩
    rw [iterK_s, ref04_Cauchy_l0b]
    refine ifp (by rw [decide_eq_true_eq]; omega) ?_
    refine jn ?_
    have w2 : IntKind.wrap .i64 ((j : Int) * (k : Int)) = ((j * k : Nat) : Int) := by
      rw [show (j : Int) * (k : Int) = ((j * k : Nat) : Int) by simp]
      exact w64 _ (by omega)
    have w3 : IntKind.wrap .i64 (((j * k : Nat) : Int) + (j : Int)) = ((j * k + j : Nat) : Int) := by rw [w64 _ (by omega)]; omega
    refine bnd rfl (bnd (ldL2 ho) ?_)
    rw [w2, w3]
    refine bnd (whole_idx hpos) ?_
    refine bnd (stI_out _ hb hpos) ?_
    unfold ref04_Cauchy_l1
    obtain ⟨bot1, hbot1⟩ := iterK_of (fun _ _ _ _ _ _ _ => none) (ref04_Cauchy_l1b k0 D _) (show m + 1 ≤ k0 by omega)
    rw [hbot1]
    refine (e1 _ bot1).trans ?_
    rw [w1 (by omega)]
    exact e' jj bot
structure MadeR (h h' : AHeap) (B N : Nat) (f : Nat → Int) : Prop where
  blk : h'.get B = some (outB encI 3 (mat N f))
  lb : B < h'.next
  nb : h.next ≤ B
  ch : Keeps h h'
theorem rcauchy_spec {k0 : Nat} (hk : 1000 ≤ k0) (D : CallF) {h : AHeap} {k m : Nat} (hk1 : 0 < k) (hR : k + m ≤ 255) :
    ∃ h' B, ref04_Cauchy k0 D k m h = some (((((k + m : Nat) : Int), (k : Int), whole B ((k + m) * k)), 0), h') ∧ MadeR h h' B ((k + m) * k) (cau k) := by
  obtain ⟨g1, hg1⟩ : ∃ g1, g1 = h.new (.cells [.int .i64 0, .int .i64 0, .slice none 0 0] 94 true 0) := ⟨_, rfl⟩
  have k1 : Keeps h g1 := hg1 ▸ Keeps.new h _
  have n1 : g1.next = h.next + 1 := by rw [hg1]; rfl
  have y1 : g1.get h.next = some (.cells [.int .i64 0, .int .i64 0, .slice none 0 0] 94 true 0) := by rw [hg1]; simp
  have hN : (k + m) * k ≤ 100000 := Nat.le_trans (Nat.mul_le_mul hR (show k ≤ 255 by omega)) (by omega)
  obtain ⟨g2, e2, k2, n2, b2⟩ := zero_spec k0 D (k + m) k g1 hN
  obtain ⟨g3, hg3⟩ : ∃ g3, g3 = g2.new (.cells [.int .i64 0, .int .i64 0, .slice none 0 0] 94 true 0) := ⟨_, rfl⟩
  have k3 : Keeps g2 g3 := hg3 ▸ Keeps.new g2 _
  have n3 : g3.next = g2.next + 1 := by rw [hg3]; rfl
  have o3 : g3.get g2.next = some (.cells [.int .i64 0, .int .i64 0, .slice none 0 0] 94 true 0) := by rw [hg3]; simp
  obtain ⟨g4, hg4⟩ : ∃ g4, g4 = g3.set g2.next (.cells (mcell ((k + m : Nat) : Int) k (whole (g1.next + 1) ((k + m) * k))) 94 true 0) := ⟨_, rfl⟩
  have n4 : g4.next = g3.next := by rw [hg4]; rfl
  have st3 : stL 3 ⟨g2.next, 0, none⟩ (mcell ((k + m : Nat) : Int) k (whole (g1.next + 1) ((k + m) * k))) g3 = some g4 := by rw [hg4]; exact stM3 o3 rfl
  have k04 : Keeps h g4 := ((k1.trans k2).trans k3).beh (T := (· = g2.next)) (hg4 ▸ Chg.set (.inr rfl)) fun x hx e => by
    have e : x = g2.next := e
    omega
  have b4 : g4.get (g1.next + 1) = some (outB encI 3 (mat ((k + m) * k) fun _ => 0)) := by
    rw [hg4, AHeap.get_set, if_neg (by omega), k3.oth _ (by omega) (fun f => f)]; exact b2
  have y4 : g4.get h.next = some (.cells [.int .i64 0, .int .i64 0, .slice none 0 0] 94 true 0) := by
    rw [hg4, AHeap.get_set, if_neg (by omega), k3.oth _ (by omega) (fun f => f), k2.oth _ (by omega) (fun f => f)]; exact y1
  obtain ⟨g5, b5, o5, c5, n5, e5⟩ := rcau_l0 (D := D) (H0 := g4) (B := g1.next + 1) (ob := g2.next) hk hk1 hR (some ⟨h.next, 0, none⟩) k 0 g4 (by omega)
    (by rw [mat_ext (g := fun _ => 0) (fun t ht => by rw [if_neg (by omega)])]; exact b4) (by rw [hg4]; simp) (by omega) (.refl _ _)
  have y5 : g5.get h.next = some (.cells [.int .i64 0, .int .i64 0, .slice none 0 0] 94 true 0) := by
    rw [c5.oth h.next (by omega) (by omega)]; exact y4
  refine ⟨g5.set h.next (.cells (mcell ((k + m : Nat) : Int) k (whole (g1.next + 1) ((k + m) * k))) 94 true 0), g1.next + 1, ?_, ?_⟩
  · unfold ref04_Cauchy
    have w : IntKind.wrap .i64 ((k : Int) + (m : Int)) = ((k + m : Nat) : Int) := by rw [w64 _ (by omega)]; omega
    have w2 : IntKind.wrap .i64 (255 - (k : Int)) = 255 - (k : Int) := w64 _ (by omega)
    dsimp only
    rw [← hg1]
    refine jn ?_
    refine ifn (by rw [decide_eq_true_eq]; omega) ?_
    refine ifn (by rw [decide_eq_true_eq]; omega) ?_
    refine ifn (by rw [decide_eq_true_eq]; omega) ?_
    rw [w2]
    refine ifn (by rw [decide_eq_true_eq]; omega) ?_
    rw [w]
    refine bnd e2 ?_
    dsimp only
    rw [← hg3]
    refine bnd st3 ?_
    refine jn ?_
    unfold ref04_Cauchy_l0
    obtain ⟨bot, hbot⟩ := iterK_of (fun _ _ _ _ _ _ => none) (ref04_Cauchy_l0b k0 D _) (show k + 1 ≤ k0 by omega)
    rw [hbot]
    refine (e5 _ bot).trans ?_
    refine bnd rfl (bnd (ldM3 o5) (bnd (decM3 _ _ _) ?_))
    refine bnd rfl ?_
    refine bnd (stM3 (r := ((k + m : Nat) : Int)) (c := k) (s := whole (g1.next + 1) ((k + m) * k)) y5 rfl) ?_
    refine bnd rfl ?_
    refine bnd (ldM3 (r := ((k + m : Nat) : Int)) (c := k) (s := whole (g1.next + 1) ((k + m) * k)) (e := 94) (rw' := true) (fz := 0) (by simp)) ?_
    exact bnd (decM3 _ _ _) rfl
  · refine ⟨by rw [AHeap.get_set, if_neg (by omega)]; exact b5, by simp; omega, by omega, ?_⟩
    have c1 : Keeps h g5 := k04.beh c5 fun x hx e => by omega
    exact c1.beh (T := (· = h.next)) (.set (.inr rfl)) fun x hx e => by
      have e : x = h.next := e
      omega
end Gb
namespace Gb
open Go Gx Go.Proofs
def nilS : Slc := ⟨none, 0, 0⟩
theorem cauchy_no (k0 : Nat) (D : CallF) (s : Option Addr) {k m : Int} (h : AHeap) (hb : k < 1 ∨ m < 0 ∨ k > 255 ∨ m > 255 - k) : ∃ h', matrix_Space_Cauchy k0 D s k m h = some (((0, 0, nilS), 1), h') ∧ Keeps h h' := by
  obtain ⟨g1, hg1⟩ : ∃ g1, g1 = h.new (.cells [.int .i64 0, .int .i64 0, .slice none 0 0] 84 true 0) := ⟨_, rfl⟩
  have k1 : Keeps h g1 := hg1 ▸ Keeps.new h _
  have y1 : g1.get h.next = some (.cells (mcell 0 0 nilS) 84 true 0) := by rw [hg1]; simp [mcell, nilS]
  have fin : ∀ {R : Type} (K : (Int × Int × Slc) → AHeap → Option R), ((some (⟨h.next, 0, none⟩ : Addr)).bind fun p9 => (stL 3 p9 ([.int .i64 0, .int .i64 0, .slice none 0 0]) g1).bind fun h10 => (some (⟨h.next, 0, none⟩ : Addr)).bind fun p11 => (ldA 3 p11 h10).bind fun l12 => (decC [.i .i64, .i .i64, .l] l12).bind fun x13 => K (x13.1, x13.2.1, x13.2.2) h10) = K (0, 0, nilS) g1 := fun K => by
    refine bnd rfl (bnd (stM3 (r := 0) (c := 0) (s := nilS) y1 rfl) ?_)
    rw [set_self y1]
    exact bnd rfl (bnd (ldM3 y1) (bnd (decM3 _ _ _) rfl))
  refine ⟨g1, ?_, k1⟩
  unfold matrix_Space_Cauchy
  dsimp only
  rw [← hg1]
  refine jn ?_
  by_cases c1 : k < 1
  · exact ifp (by rw [decide_eq_true_eq]; exact c1) (ifp rfl (fin fun x h => some ((x, 1), h)))
  · refine ifn (by rw [decide_eq_true_eq]; exact c1) ?_
    by_cases c2 : m < 0
    · exact ifp (by rw [decide_eq_true_eq]; exact c2) (ifp rfl (fin fun x h => some ((x, 1), h)))
    · refine ifn (by rw [decide_eq_true_eq]; exact c2) ?_
      by_cases c3 : k > 255
      · exact ifp (by rw [decide_eq_true_eq]; exact c3) (ifp rfl (fin fun x h => some ((x, 1), h)))
      · refine ifn (by rw [decide_eq_true_eq]; exact c3) ?_
        rw [w64 (255 - k) (by omega)]
        exact ifp (by rw [decide_eq_true_eq]; omega) (fin fun x h => some ((x, 1), h))
theorem rcauchy_no (k0 : Nat) (D : CallF) {k m : Int} (h : AHeap) (hb : k < 1 ∨ m < 0 ∨ k > 255 ∨ m > 255 - k) : ∃ h', ref04_Cauchy k0 D k m h = some (((0, 0, nilS), 1), h') ∧ Keeps h h' := by
  obtain ⟨g1, hg1⟩ : ∃ g1, g1 = h.new (.cells [.int .i64 0, .int .i64 0, .slice none 0 0] 94 true 0) := ⟨_, rfl⟩
  have k1 : Keeps h g1 := hg1 ▸ Keeps.new h _
  have y1 : g1.get h.next = some (.cells (mcell 0 0 nilS) 94 true 0) := by rw [hg1]; simp [mcell, nilS]
  have fin : ∀ {R : Type} (K : (Int × Int × Slc) → AHeap → Option R), ((some (⟨h.next, 0, none⟩ : Addr)).bind fun p9 => (stL 3 p9 ([.int .i64 0, .int .i64 0, .slice none 0 0]) g1).bind fun h10 => (some (⟨h.next, 0, none⟩ : Addr)).bind fun p11 => (ldA 3 p11 h10).bind fun l12 => (decC [.i .i64, .i .i64, .l] l12).bind fun x13 => K (x13.1, x13.2.1, x13.2.2) h10) = K (0, 0, nilS) g1 := fun K => by
    refine bnd rfl (bnd (stM3 (r := 0) (c := 0) (s := nilS) y1 rfl) ?_)
    rw [set_self y1]
    exact bnd rfl (bnd (ldM3 y1) (bnd (decM3 _ _ _) rfl))
  refine ⟨g1, ?_, k1⟩
  unfold ref04_Cauchy
  dsimp only
  rw [← hg1]
  refine jn ?_
  by_cases c1 : k < 1
  · exact ifp (by rw [decide_eq_true_eq]; exact c1) (ifp rfl (fin fun x h => some ((x, 1), h)))
  · refine ifn (by rw [decide_eq_true_eq]; exact c1) ?_
    by_cases c2 : m < 0
    · exact ifp (by rw [decide_eq_true_eq]; exact c2) (ifp rfl (fin fun x h => some ((x, 1), h)))
    · refine ifn (by rw [decide_eq_true_eq]; exact c2) ?_
      by_cases c3 : k > 255
      · exact ifp (by rw [decide_eq_true_eq]; exact c3) (ifp rfl (fin fun x h => some ((x, 1), h)))
      · refine ifn (by rw [decide_eq_true_eq]; exact c3) ?_
        rw [w64 (255 - k) (by omega)]
        exact ifp (by rw [decide_eq_true_eq]; omega) (fin fun x h => some ((x, 1), h))
structure Both (h h' : AHeap) (s : Slc) (xs : List Int) : Prop where
  row : Row encI h' s xs
  off : ∀ a, s.a = some a → h.next ≤ a.block
theorem MadeM.row {h h' : AHeap} {fb B N : Nat} {f : Nat → Int} (M : MadeM h h' fb B N f) : Row encI h' (whole B N) (mat N f) := whole_row M.blk M.lb
theorem MadeR.row {h h' : AHeap} {B N : Nat} {f : Nat → Int} (M : MadeR h h' B N f) : Row encI h' (whole B N) (mat N f) := whole_row M.blk M.lb
theorem mvar {h : AHeap} {e : TypeId} {r c : Int} {s : Slc} : ∃ h', stL 3 ⟨h.next, 0, none⟩ (mcell r c s) (h.new (.cells [.int .i64 0, .int .i64 0, .slice none 0 0] e true 0)) = some h' ∧ Keeps h h' ∧ h'.next = h.next + 1 ∧ h'.get h.next = some (.cells (mcell r c s) e true 0) := by
  refine ⟨_, stM3 (cs := [.int .i64 0, .int .i64 0, .slice none 0 0]) (e := e) (by simp) rfl, ?_, by simp, by simp⟩
  exact new_out _ _ rfl
end Gb
namespace Gb
open Go Gx Go.Proofs
def matN (N : Nat) (g : Nat → Nat) : List Int := mat N fun t => (g t : Int)
structure Mx (h : AHeap) (B N : Nat) (g : Nat → Nat) : Prop where
  blk : h.get B = some (outB encI 3 (matN N g))
  lt : B < h.next
  el : ∀ t, t < N → g t < 256
theorem Mx.chg {S : Nat → Prop} {h h' : AHeap} {B N : Nat} {g : Nat → Nat} (m : Mx h B N g) (c : Chg S h h') (hs : ¬ S B) : Mx h' B N g := ⟨by rw [c.oth B m.lt hs]; exact m.blk, Nat.lt_of_lt_of_le m.lt c.nx, m.el⟩
theorem Mx.keeps {h h' : AHeap} {B N : Nat} {g : Nat → Nat} (m : Mx h B N g) (c : Keeps h h') : Mx h' B N g := m.chg c fun f => f
theorem Mx.congr {h : AHeap} {B N : Nat} {g g' : Nat → Nat} (m : Mx h B N g) (e : ∀ t, t < N → g t = g' t) : Mx h B N g' :=
  ⟨by rw [m.blk]; unfold matN; rw [mat_ext fun t ht => by rw [e t ht]], m.lt, fun t ht => by rw [← e t ht]; exact m.el t ht⟩
theorem Mx.row {h : AHeap} {B N : Nat} {sp : Option Nat} {g : Nat → Nat} (m : Mx h B N g) : Row encI h (whole B N sp) (matN N g) := whole_row m.blk m.lt
theorem Mx.rd {h : AHeap} {B N t : Nat} {sp : Option Nat} {g : Nat → Nat} (m : Mx h B N g) (ht : t < N) : ldI .i64 ⟨B, t, sp⟩ h = some (g t : Int) := by
  refine ldI_of m.blk ?_
  rw [List.getElem?_map, matN, mat_get ht]; rfl
def elemB (x : Int) : Bool := !(decide (x < 0) || decide (x ≥ 256))
def chk (r c : Int) (xs : List Int) : Int := if r < 1 ∨ c < 1 ∨ r > 255 ∨ c > 255 then 1 else if (xs.length : Int) ≠ r * c then 4 else if xs.all elemB then 0 else 1
end Gb
namespace Gb
open Go Gx Go.Proofs
abbrev BF (B fb : Nat) : Nat → Prop := fun x => x = B ∨ x = fb
structure Row1 (h h' : AHeap) (B N sb fb : Nat) (g : Nat → Nat) : Prop where
  mx : Mx h' B N g
  spc : Spc h' sb fb
  ch : Chg (BF B fb) h h'
end Gb
namespace Gb
open Go Gx Go.Proofs
structure Dist (B B2 oa ou sb fb : Nat) : Prop where
  d1 : B ≠ B2
  d2 : B ≠ oa
  d3 : B ≠ ou
  d4 : B ≠ sb
  d5 : B ≠ fb
  e2 : B2 ≠ oa
  e3 : B2 ≠ ou
  e4 : B2 ≠ sb
  e5 : B2 ≠ fb
  f1 : oa ≠ fb
  f2 : ou ≠ fb
structure SS (H0 : AHeap) (B B2 oa ou sb fb R C C2 : Nat) (sp sp2 : Option Nat) (g u : Nat → Nat) (h : AHeap) : Prop where
  a : Mx h B (R * C) g
  b : Mx h B2 (R * C2) u
  ca : h.get oa = some (.cells (mcell R C (whole B (R * C) sp)) 84 true 0)
  cb : h.get ou = some (.cells (mcell R C2 (whole B2 (R * C2) sp2)) 84 true 0)
  spc : Spc h sb fb
  la : oa < h.next
  lb : ou < h.next
  ch : Chg (fun x => x = B ∨ x = B2 ∨ x = fb) H0 h
section
variable {H0 : AHeap} {B B2 oa ou sb fb R C C2 : Nat} {sp sp2 : Option Nat} {g u g' u' : Nat → Nat} {h h' : AHeap}
theorem SS.keeps (s : SS H0 B B2 oa ou sb fb R C C2 sp sp2 g u h) (k : Keeps h h') : SS H0 B B2 oa ou sb fb R C C2 sp sp2 g u h' :=
  ⟨s.a.keeps k, s.b.keeps k, by rw [k.oth _ s.la (fun f => f)]; exact s.ca, by rw [k.oth _ s.lb (fun f => f)]; exact s.cb, s.spc.keeps k, Nat.lt_of_lt_of_le s.la k.nx, Nat.lt_of_lt_of_le s.lb k.nx, s.ch.trans (Chg.keeps k)⟩
theorem SS.congr (s : SS H0 B B2 oa ou sb fb R C C2 sp sp2 g u h) (e1 : ∀ t, t < R * C → g t = g' t) (e2 : ∀ t, t < R * C2 → u t = u' t) : SS H0 B B2 oa ou sb fb R C C2 sp sp2 g' u' h :=
  ⟨s.a.congr e1, s.b.congr e2, s.ca, s.cb, s.spc, s.la, s.lb, s.ch⟩
end
end Gb
namespace Gb
open Go Gx Go.Proofs
end Gb
namespace Gb
open Go Gx Go.Proofs
structure InM (h : AHeap) (s : Slc) (xs : List Int) : Prop where
  row : Row encI h s xs
  own : xs ≠ [] → ∃ B sp, s = whole B xs.length sp ∧ spOk sp 1 = true ∧ h.get B = some (outB encI 3 xs) ∧ B < h.next
theorem InM.chg {S : Nat → Prop} {h h' : AHeap} {s : Slc} {xs : List Int} (i : InM h s xs) (c : Chg S h h') (hs : ∀ a, s.a = some a → ¬ S a.block) : InM h' s xs :=
  ⟨i.row.chg c hs, fun hx => by
    obtain ⟨B, sp, rfl, h1, h2, h3⟩ := i.own hx
    exact ⟨B, sp, rfl, h1, by rw [c.oth B h3 (hs _ rfl)]; exact h2, Nat.lt_of_lt_of_le h3 c.nx⟩⟩
theorem InM.keeps {h h' : AHeap} {s : Slc} {xs : List Int} (i : InM h s xs) (c : Keeps h h') : InM h' s xs := i.chg c fun _ _ f => f
theorem InM.mx {h : AHeap} {s : Slc} {N : Nat} {g : Nat → Nat} (i : InM h s (matN N g)) (hN : N ≠ 0) (he : ∀ t, t < N → g t < 256) : ∃ B sp, s = whole B N sp ∧ spOk sp 1 = true ∧ Mx h B N g := by
  have hl : (matN N g).length = N := mat_length N _
  obtain ⟨B, sp, h1, h2, h3, h4⟩ := i.own (fun e => hN (by rw [← hl, e]; rfl))
  rw [hl] at h1
  exact ⟨B, sp, h1, h2, h3, h4, he⟩
abbrev MRes := (Int × Int × List Int) × Int
structure Out (h h' : AHeap) (res : (Int × Int × Slc) × Int) (p : MRes) : Prop where
  r : res.1.1 = p.1.1
  c : res.1.2.1 = p.1.2.1
  code : res.2 = p.2
  inm : InM h' res.1.2.2 p.1.2.2
  off : ∀ a, res.1.2.2.a = some a → h.next ≤ a.block
theorem InM.nil (h : AHeap) : InM h nilS [] := ⟨Row.nil _ _ _ _, fun h => absurd rfl h⟩
end Gb
namespace Gb
open Go Gx Go.Proofs
structure Dist3 (O BA BB oa ob oo sb fb : Nat) : Prop where
  oBA : O ≠ BA
  oBB : O ≠ BB
  ooa : O ≠ oa
  oob : O ≠ ob
  ooo : O ≠ oo
  osb : O ≠ sb
  ofb : O ≠ fb
  fBA : BA ≠ fb
  fBB : BB ≠ fb
  foa : oa ≠ fb
  fob : ob ≠ fb
  foo : oo ≠ fb
structure S3 (H0 : AHeap) (O BA BB oa ob oo sb fb R C C2 : Nat) (sa sb' : Option Nat) (ga gb f : Nat → Nat) (h : AHeap) : Prop where
  a : Mx h BA (R * C) ga
  b : Mx h BB (C * C2) gb
  o : Mx h O (R * C2) f
  ca : h.get oa = some (.cells (mcell R C (whole BA (R * C) sa)) 84 true 0)
  cb : h.get ob = some (.cells (mcell C C2 (whole BB (C * C2) sb')) 84 true 0)
  co : h.get oo = some (.cells (mcell R C2 (whole O (R * C2))) 84 true 0)
  spc : Spc h sb fb
  la : oa < h.next
  lb : ob < h.next
  lo : oo < h.next
  ch : Chg (BF O fb) H0 h
section
variable {H0 : AHeap} {O BA BB oa ob oo sb fb R C C2 : Nat} {sa sb' : Option Nat} {ga gb f f' : Nat → Nat} {h h' : AHeap}
theorem S3.keeps (s : S3 H0 O BA BB oa ob oo sb fb R C C2 sa sb' ga gb f h) (k : Keeps h h') : S3 H0 O BA BB oa ob oo sb fb R C C2 sa sb' ga gb f h' :=
  ⟨s.a.keeps k, s.b.keeps k, s.o.keeps k, by rw [k.oth _ s.la (fun f => f)]; exact s.ca, by rw [k.oth _ s.lb (fun f => f)]; exact s.cb, by rw [k.oth _ s.lo (fun f => f)]; exact s.co, s.spc.keeps k, Nat.lt_of_lt_of_le s.la k.nx, Nat.lt_of_lt_of_le s.lb k.nx, Nat.lt_of_lt_of_le s.lo k.nx, s.ch.trans (Chg.keeps k)⟩
theorem S3.op (D : Dist3 O BA BB oa ob oo sb fb) (s : S3 H0 O BA BB oa ob oo sb fb R C C2 sa sb' ga gb f h) (r : Row1 h h' O (R * C2) sb fb f') : S3 H0 O BA BB oa ob oo sb fb R C C2 sa sb' ga gb f' h' :=
  ⟨s.a.chg r.ch (fun e => e.elim (fun e => D.oBA e.symm) D.fBA), s.b.chg r.ch (fun e => e.elim (fun e => D.oBB e.symm) D.fBB), r.mx, by rw [r.ch.oth _ s.la (fun e => e.elim (fun e => D.ooa e.symm) D.foa)]; exact s.ca, by rw [r.ch.oth _ s.lb (fun e => e.elim (fun e => D.oob e.symm) D.fob)]; exact s.cb,
    by rw [r.ch.oth _ s.lo (fun e => e.elim (fun e => D.ooo e.symm) D.foo)]; exact s.co, r.spc, Nat.lt_of_lt_of_le s.la r.ch.nx, Nat.lt_of_lt_of_le s.lb r.ch.nx, Nat.lt_of_lt_of_le s.lo r.ch.nx, s.ch.trans r.ch⟩
theorem S3.congr (s : S3 H0 O BA BB oa ob oo sb fb R C C2 sa sb' ga gb f h) (e : ∀ t, t < R * C2 → f t = f' t) : S3 H0 O BA BB oa ob oo sb fb R C C2 sa sb' ga gb f' h :=
  ⟨s.a, s.b, s.o.congr e, s.ca, s.cb, s.co, s.spc, s.la, s.lb, s.lo, s.ch⟩
end
end Gb
namespace Gb
open Go Gx Go.Proofs
structure SI (H0 : AHeap) (B ob R C : Nat) (sp : Option Nat) (g : Nat → Nat) (h : AHeap) : Prop where
  m : Mx h B (R * C) g
  c : h.get ob = some (.cells (mcell R C (whole B (R * C) sp)) 94 true 0)
  lo : ob < h.next
  ne : ob ≠ B
  ch : Chg (· = B) H0 h
section
variable {H0 : AHeap} {B ob R C : Nat} {sp : Option Nat} {g g' : Nat → Nat} {h h' : AHeap}
theorem SI.keeps (s : SI H0 B ob R C sp g h) (k : Keeps h h') : SI H0 B ob R C sp g h' :=
  ⟨s.m.keeps k, by rw [k.oth _ s.lo (fun f => f)]; exact s.c, Nat.lt_of_lt_of_le s.lo k.nx, s.ne, s.ch.trans (Chg.keeps k)⟩
theorem SI.congr (s : SI H0 B ob R C sp g h) (e : ∀ t, t < R * C → g t = g' t) : SI H0 B ob R C sp g' h := ⟨s.m.congr e, s.c, s.lo, s.ne, s.ch⟩
end
end Gb
namespace Gb
open Go Gx Go.Proofs
structure In1 (h : AHeap) (O ob R C : Nat) (s : Slc) (e : TypeId) (g : Nat → Nat) : Prop where
  row : Row encI h s (matN (R * C) g)
  cel : h.get ob = some (.cells (mcell R C s) e true 0)
  lt : ob < h.next
  ne : ob ≠ O
  ap : ∀ a, s.a = some a → ¬ a.block = O
  el : ∀ t, t < R * C → g t < 256
structure Ou1 (H0 : AHeap) (O oo R C : Nat) (e : TypeId) (f : Nat → Nat) (h : AHeap) : Prop where
  o : Mx h O (R * C) f
  cel : h.get oo = some (.cells (mcell R C (whole O (R * C))) e true 0)
  lt : oo < h.next
  ne : oo ≠ O
  ch : Chg (· = O) H0 h
section
variable {H0 : AHeap} {O ob R C : Nat} {s : Slc} {e : TypeId} {f f' g : Nat → Nat} {h h' : AHeap}
theorem In1.chg (i : In1 h O ob R C s e g) (c : Chg (· = O) h h') : In1 h' O ob R C s e g :=
  ⟨i.row.chg c i.ap, by rw [c.oth _ i.lt i.ne]; exact i.cel, Nat.lt_of_lt_of_le i.lt c.nx, i.ne, i.ap, i.el⟩
theorem In1.keeps (i : In1 h O ob R C s e g) (c : Keeps h h') : In1 h' O ob R C s e g := i.chg (Chg.keeps c)
theorem Ou1.keeps (i : Ou1 H0 O ob R C e f h) (c : Keeps h h') : Ou1 H0 O ob R C e f h' :=
  ⟨i.o.keeps c, by rw [c.oth _ i.lt (fun f => f)]; exact i.cel, Nat.lt_of_lt_of_le i.lt c.nx, i.ne, i.ch.trans (Chg.keeps c)⟩
theorem Ou1.congr (i : Ou1 H0 O ob R C e f h) (q : ∀ t, t < R * C → f t = f' t) : Ou1 H0 O ob R C e f' h := ⟨i.o.congr q, i.cel, i.lt, i.ne, i.ch⟩
end
section
variable {k0 : Nat} {H0 : AHeap} {O oa ob oo R C C2 : Nat} {sA sB : Slc} {ga gb f : Nat → Nat}
end
end Gb
namespace Gb
open Go Gx Go.Proofs
section
variable {k0 : Nat} {H0 : AHeap} {O oa oo R C BA : Nat} {sA : Slc} {sp : Option Nat} {g : Nat → Nat}
end
end Gb
namespace Gb
open Go Gx Go.Proofs
def pickF (C : Nat) (g : Nat → Nat) (w : Nat → Nat) : Nat → Nat := fun t => g (w (t / C) * C + t % C)
section
variable {k0 : Nat} {H0 : AHeap} {O oa oo R C : Nat} {sA rs : Slc} {rows : List Int} {g : Nat → Nat}
structure PK (H0 : AHeap) (base oo C n : Nat) (w : Nat → Nat) (g : Nat → Nat) (i : Nat) (h : AHeap) (s : Slc) : Prop where
  ch : Chg (fun x => base ≤ x) H0 h
  co : h.get oo = some (.cells (mcell n C s) 84 true 0)
  lo : oo < h.next
  bo : base ≤ oo
  acc : (s = nilS ∧ i = 0) ∨ ∃ b, Grown encI 3 h b s (matN (i * C) (pickF C g w)) ∧ base ≤ b ∧ b < h.next ∧ b ≠ oo
end
end Gb
namespace Gb
open Go Gx Go.Proofs
structure SR (H0 : AHeap) (B B2 oa ol ou yb R : Nat) (s : Slc) (sp sp2 : Option Nat) (g u : Nat → Nat) (h : AHeap) : Prop where
  a : Mx h B (R * R) g
  b : Mx h B2 (R * R) u
  ca : h.get oa = some (.cells (mcell R R s) 94 true 0)
  cl : h.get ol = some (.cells (mcell R R (whole B (R * R) sp)) 94 true 0)
  cu : h.get ou = some (.cells (mcell R R (whole B2 (R * R) sp2)) 94 true 0)
  cy : h.get yb = some (.cells (mcell 0 0 nilS) 94 true 0)
  la : oa < h.next
  ll : ol < h.next
  lu : ou < h.next
  ly : yb < h.next
  ch : Chg (fun x => x = B ∨ x = B2) H0 h
structure DR (B B2 oa ol ou yb : Nat) : Prop where
  bb : B ≠ B2
  a1 : oa ≠ B
  l1 : ol ≠ B
  u1 : ou ≠ B
  y1 : yb ≠ B
  a2 : oa ≠ B2
  l2 : ol ≠ B2
  u2 : ou ≠ B2
  y2 : yb ≠ B2
section
variable {H0 : AHeap} {B B2 oa ol ou yb R : Nat} {s : Slc} {sp sp2 : Option Nat} {g u g' u' : Nat → Nat} {h h' : AHeap}
theorem SR.keeps (S : SR H0 B B2 oa ol ou yb R s sp sp2 g u h) (k : Keeps h h') : SR H0 B B2 oa ol ou yb R s sp sp2 g u h' :=
  ⟨S.a.keeps k, S.b.keeps k, by rw [k.oth _ S.la (fun f => f)]; exact S.ca, by rw [k.oth _ S.ll (fun f => f)]; exact S.cl, by rw [k.oth _ S.lu (fun f => f)]; exact S.cu, by rw [k.oth _ S.ly (fun f => f)]; exact S.cy,
    Nat.lt_of_lt_of_le S.la k.nx, Nat.lt_of_lt_of_le S.ll k.nx, Nat.lt_of_lt_of_le S.lu k.nx, Nat.lt_of_lt_of_le S.ly k.nx, S.ch.trans (Chg.keeps k)⟩
theorem SR.congr (S : SR H0 B B2 oa ol ou yb R s sp sp2 g u h) (e1 : ∀ t, t < R * R → g t = g' t) (e2 : ∀ t, t < R * R → u t = u' t) : SR H0 B B2 oa ol ou yb R s sp sp2 g' u' h :=
  ⟨S.a.congr e1, S.b.congr e2, S.ca, S.cl, S.cu, S.cy, S.la, S.ll, S.lu, S.ly, S.ch⟩
end
section
variable {k0 : Nat} {H0 : AHeap} {B B2 oa ol ou yb R : Nat} {s : Slc} {sp sp2 : Option Nat} {g u : Nat → Nat}
end
end Gb
namespace Gb
open Go Gx
end Gb
namespace Gb
open Go Gx Go.Proofs
end Gb
namespace Gb
open Go Gx
theorem toNat_ofNat (n : Nat) : (UInt8.ofNat n).toNat = n % 256 := by simp
end Gb
namespace Gb
open Go Gx Go.Proofs
theorem ldI_at {h : AHeap} {b o : Nat} {sp : Option Nat} {c : List Value} {e : TypeId} {r : Bool} {fz : Nat} {k : IntKind} {x : Int} (hb : h.get b = some (.cells c e r fz)) (hc : c[o]? = some (.int k x)) : ldI k ⟨b, o, sp⟩ h = some x := by
  simp [ldI, AHeap.rd1, hb, hc, decI]
theorem ldA_at {h : AHeap} {b n : Nat} {sp : Option Nat} {c : List Value} {e : TypeId} {r : Bool} {fz : Nat} (hb : h.get b = some (.cells c e r fz)) (hc : c.length = n) : ldA n ⟨b, 0, sp⟩ h = some c := by
  subst hc; exact rdL_all hb
end Gb
namespace Gb
open Go Gx Go.Proofs
def Rdr (h : AHeap) (b : Nat) (s : ByteArray) (e : Int) : Prop := h.get b = some (.cells [.string s, .int .i64 e] 108 true 0)
theorem Rdr.chg {S : Nat → Prop} {h h' : AHeap} {b : Nat} {s : ByteArray} {e : Int} (R : Rdr h b s e) (c : Chg S h h') (hb : ¬ S b) (hl : b < h.next) : Rdr h' b s e := (c.oth b hl hb).trans R
end Gb
namespace Gb
open Go Gx Go.Proofs
theorem ba_app (a b : List UInt8) : (⟨⟨a⟩⟩ : ByteArray) ++ (⟨⟨b⟩⟩ : ByteArray) = ⟨⟨a ++ b⟩⟩ := by
  apply bl_inj
  simp [bl]
end Gb
namespace Gb
open Go Gx Go.Proofs
theorem sw1 {H1 : AHeap} {F : AHeap → Option Value} {v : Value} (h : F H1 = some v) : SameW [H1] F v := by
  intro H hH; simp only [List.mem_singleton] at hH; subst hH; exact h
end Gb
namespace Gb
open Go Gx Go.Proofs
theorem set_get (h : AHeap) (b : Nat) (B : ABlk) : (h.set b B).get b = some B := by simp
structure PL (h : AHeap) (pb f2 B sb fb k m : Nat) : Prop where
  blk : h.get pb = some (.cells [.int .i64 (k : Int), .int .i64 (m : Int), .pointer (some ⟨f2, 0, none⟩), .pointer (some ⟨sb, 0, none⟩), .int .i64 ((k + m : Nat) : Int), .int .i64 (k : Int), .slice (some ⟨B, 0, some 0⟩) ((k + m) * k) ((k + m) * k)] 90 true 0)
  fld : Fld h f2
  mat : h.get B = some (outB encI 3 (mat ((k + m) * k) (cau k)))
  spc : Spc h sb fb
  lp : pb < h.next
  lf : f2 < h.next
  lb : B < h.next
  n1 : B ≠ f2
  n2 : pb ≠ f2
  n3 : sb ≠ f2
  n4 : fb ≠ f2
  n5 : B ≠ fb
  n6 : pb ≠ fb
  n7 : B ≠ sb
  n8 : pb ≠ sb
theorem PL.chg {S : Nat → Prop} {h h' : AHeap} {pb f2 B sb fb k m : Nat} (p : PL h pb f2 B sb fb k m) (c : Chg S h h') (a1 : ¬ S pb) (a2 : ¬ S f2) (a3 : ¬ S B) (a4 : ¬ S sb) (a5 : ¬ S fb) : PL h' pb f2 B sb fb k m :=
  ⟨(c.oth _ p.lp a1).trans p.blk, fldchg p.fld p.lf c a2, (c.oth _ p.lb a3).trans p.mat, p.spc.chg c a4 a5, Nat.lt_of_lt_of_le p.lp c.nx, Nat.lt_of_lt_of_le p.lf c.nx, Nat.lt_of_lt_of_le p.lb c.nx, p.n1, p.n2, p.n3, p.n4, p.n5, p.n6, p.n7, p.n8⟩
theorem PL.keeps {h h' : AHeap} {pb f2 B sb fb k m : Nat} (p : PL h pb f2 B sb fb k m) (c : Keeps h h') : PL h' pb f2 B sb fb k m :=
  p.chg c (fun f => f) (fun f => f) (fun f => f) (fun f => f) (fun f => f)
theorem PL.fs2 {h h' : AHeap} {pb f2 B sb fb k m : Nat} (p : PL h pb f2 B sb fb k m) (s : FS f2 h h') : PL h' pb f2 B sb fb k m :=
  ⟨(s.oth _ p.lp p.n2).trans p.blk, s.fld, (s.oth _ p.lb p.n1).trans p.mat, p.spc.chg s.chg p.n3 p.n4, Nat.lt_of_lt_of_le p.lp s.nx, Nat.lt_of_lt_of_le p.lf s.nx, Nat.lt_of_lt_of_le p.lb s.nx, p.n1, p.n2, p.n3, p.n4, p.n5, p.n6, p.n7, p.n8⟩
theorem snew_spec {k0 : Nat} (hk : 1000 ≤ k0) (h : AHeap) {k m : Nat} (hk1 : 0 < k) (hR : k + m ≤ 255) :
    ∃ h' pb f2 B sb fb, stripe_New k0 (DD k0) (k : Int) (m : Int) h = some ((some ⟨pb, 0, none⟩, 0), h') ∧ PL h' pb f2 B sb fb k m ∧ Keeps h h' ∧ h.next ≤ pb ∧ h.next ≤ f2 ∧ h.next ≤ B ∧ h.next ≤ sb ∧ h.next ≤ fb := by
  simp only [stripe_New]
  obtain ⟨h1, r1, k1, S1, n1⟩ := mnew_spec k0 (DD k0) h
  obtain ⟨h2, B, r2, S2, M⟩ := cauchy_spec hk (k := k) (m := m) S1 hk1 hR
  obtain ⟨h4, r4, k4, n4, b4⟩ := mvar (h := h2) (e := 84) (r := ((k + m : Nat) : Int)) (c := (k : Int)) (s := whole B ((k + m) * k))
  have hs := S2.ls
  have hf := S2.lf
  have hB := M.lb
  have hnb := M.nb
  let h5 := h4.new (.cells fresh 131 true 0)
  have k5 : Keeps h4 h5 := Keeps.new _ _
  have b5 : h5.get h2.next = some (.cells (mcell ((k + m : Nat) : Int) (k : Int) (whole B ((k + m) * k))) 84 true 0) := (k5.oth _ (by omega) (fun f => f)).trans b4
  have q4 := ldA_at (sp := none) b4 (show (mcell ((k + m : Nat) : Int) (k : Int) (whole B ((k + m) * k))).length = 3 from rfl)
  have q5 := ldA_at (sp := none) b5 (show (mcell ((k + m : Nat) : Int) (k : Int) (whole B ((k + m) * k))).length = 3 from rfl)
  let h6 := h5.new (.cells [.int .i64 (k : Int), .int .i64 (m : Int), .pointer (some ⟨h4.next, 0, none⟩), .pointer (some ⟨h.next + 1, 0, none⟩), .int .i64 ((k + m : Nat) : Int), .int .i64 (k : Int), .slice (some ⟨B, 0, some 0⟩) ((k + m) * k) ((k + m) * k)] 90 true 0)
  have k6 : Keeps h5 h6 := Keeps.new _ _
  have K26 : Keeps h2 h6 := k4.trans (k5.trans k6)
  have n5 : h5.next = h4.next + 1 := rfl
  refine ⟨h6, h5.next, h4.next, B, h.next + 1, h.next, ?_, ⟨?_, ?_, ?_, S2.keeps K26, ?_, ?_, ?_, ?_, ?_, ?_, ?_, ?_, ?_, ?_, ?_⟩, ?_, ?_, ?_, ?_, ?_, ?_⟩
  · refine bnd r1 (bnd r2 (bnd r4 ?_))
    refine ifn (by simp) ?_
    refine bnd (new_spec k0 (DD k0) h4) ?_
    refine bnd q5 (gp (sw1 (bnd q4 rfl)) ?_)
    exact bnd rfl rfl
  · show h6.get h5.next = _; simp [h6]
  · exact fldchg (fld_new h4) (by show h4.next < h4.next + 1; omega) k6 (fun f => f)
  · exact (K26.oth _ hB (fun f => f)).trans M.blk
  · show h5.next < h5.next + 1; omega
  · show h4.next < h4.next + 1 + 1; omega
  · have := K26.nx; omega
  · omega
  · omega
  · omega
  · omega
  · omega
  · omega
  · omega
  · omega
  · exact Chg.beh (k1.trans (Chg.refl _ _)) (M.ch.trans (Chg.keeps K26)) (fun x hx e => by have : x = h.next := e; omega)
  · omega
  · omega
  · omega
  · omega
  · omega
theorem snew_no {k0 : Nat} (h : AHeap) {k m : Int} (hb : k < 1 ∨ m < 0 ∨ k > 255 ∨ m > 255 - k) : ∃ h', stripe_New k0 (DD k0) k m h = some ((none, 1), h') ∧ Keeps h h' := by
  simp only [stripe_New]
  obtain ⟨h1, r1, k1, S1, n1⟩ := mnew_spec k0 (DD k0) h
  obtain ⟨h2, r2, k2⟩ := cauchy_no k0 (DD k0) (some ⟨h.next + 1, 0, none⟩) h1 hb
  obtain ⟨h4, r4, k4, n4, b4⟩ := mvar (h := h2) (e := 84) (r := 0) (c := 0) (s := nilS)
  refine ⟨h4, ?_, k1.trans (k2.trans k4)⟩
  refine bnd r1 (bnd r2 (bnd r4 ?_))
  exact ifp (by simp) rfl
structure PR (h : AHeap) (pb B k m : Nat) : Prop where
  blk : h.get pb = some (.cells [.int .i64 (k : Int), .int .i64 (m : Int), .int .i64 ((k + m : Nat) : Int), .int .i64 (k : Int), .slice (some ⟨B, 0, some 0⟩) ((k + m) * k) ((k + m) * k)] 98 true 0)
  mat : h.get B = some (outB encI 3 (mat ((k + m) * k) (cau k)))
  lp : pb < h.next
  lb : B < h.next
theorem PR.chg {S : Nat → Prop} {h h' : AHeap} {pb B k m : Nat} (p : PR h pb B k m) (c : Chg S h h') (a1 : ¬ S pb) (a3 : ¬ S B) : PR h' pb B k m :=
  ⟨(c.oth _ p.lp a1).trans p.blk, (c.oth _ p.lb a3).trans p.mat, Nat.lt_of_lt_of_le p.lp c.nx, Nat.lt_of_lt_of_le p.lb c.nx⟩
theorem PR.keeps {h h' : AHeap} {pb B k m : Nat} (p : PR h pb B k m) (c : Keeps h h') : PR h' pb B k m := p.chg c (fun f => f) (fun f => f)
theorem rsnew_spec {k0 : Nat} (hk : 1000 ≤ k0) (D : CallF) (h : AHeap) {k m : Nat} (hk1 : 0 < k) (hR : k + m ≤ 255) :
    ∃ h' pb B, ref05_New k0 D (k : Int) (m : Int) h = some ((some ⟨pb, 0, none⟩, 0), h') ∧ PR h' pb B k m ∧ Keeps h h' ∧ h.next ≤ pb ∧ h.next ≤ B := by
  simp only [ref05_New]
  obtain ⟨h2, B, r2, M⟩ := rcauchy_spec hk D (h := h) (k := k) (m := m) hk1 hR
  obtain ⟨h4, r4, k4, n4, b4⟩ := mvar (h := h2) (e := 94) (r := ((k + m : Nat) : Int)) (c := (k : Int)) (s := whole B ((k + m) * k))
  have hB := M.lb
  have hnb := M.nb
  have hn2 := M.ch.nx
  have q4 := ldA_at (sp := none) b4 (show (mcell ((k + m : Nat) : Int) (k : Int) (whole B ((k + m) * k))).length = 3 from rfl)
  let h6 := h4.new (.cells [.int .i64 (k : Int), .int .i64 (m : Int), .int .i64 ((k + m : Nat) : Int), .int .i64 (k : Int), .slice (some ⟨B, 0, some 0⟩) ((k + m) * k) ((k + m) * k)] 98 true 0)
  have k6 : Keeps h4 h6 := Keeps.new _ _
  refine ⟨h6, h4.next, B, ?_, ⟨?_, ?_, ?_, ?_⟩, M.ch.trans (k4.trans k6), ?_, hnb⟩
  · refine bnd r2 (bnd r4 ?_)
    refine ifn (by simp) ?_
    exact bnd q4 (bnd rfl rfl)
  · show h6.get h4.next = _; simp [h6]
  · exact ((k4.trans k6).oth _ hB (fun f => f)).trans M.blk
  · show h4.next < h4.next + 1; omega
  · have := (k4.trans k6).nx; omega
  · omega
theorem rsnew_no {k0 : Nat} (D : CallF) (h : AHeap) {k m : Int} (hb : k < 1 ∨ m < 0 ∨ k > 255 ∨ m > 255 - k) : ∃ h', ref05_New k0 D k m h = some ((none, 1), h') ∧ Keeps h h' := by
  simp only [ref05_New]
  obtain ⟨h2, r2, k2⟩ := rcauchy_no k0 D h hb
  obtain ⟨h4, r4, k4, n4, b4⟩ := mvar (h := h2) (e := 94) (r := 0) (c := 0) (s := nilS)
  refine ⟨h4, ?_, k2.trans k4⟩
  refine bnd r2 (bnd r4 ?_)
  exact ifp (by simp) rfl
end Gb
namespace Gb
open Go Gx Go.Proofs
def nE (k L : Nat) : Nat := (L + k - 1) / k
def padL (k : Nat) (s : ByteArray) : List UInt8 := bl s ++ List.replicate (k * nE k s.size - s.size) 0
def pieceB (k : Nat) (s : ByteArray) (i : Nat) : ByteArray := ⟨⟨((padL k s).take ((i + 1) * nE k s.size)).drop (i * nE k s.size)⟩⟩
def piecesL (k : Nat) (s : ByteArray) : List ByteArray := (List.range k).map (pieceB k s)
def rowC (k i : Nat) : List Int := (List.range k).map fun j => cau k (i * k + j)
def shardB (k : Nat) (s : ByteArray) (i : Nat) : ByteArray := if i < k then pieceB k s i else (mixA (piecesL k s) (rowC k i)).1
def shardsL (k m : Nat) (s : ByteArray) : List ByteArray := (List.range (k + m)).map (shardB k s)
theorem nE_ge {k : Nat} (hk : 0 < k) (L : Nat) : L ≤ k * nE k L := by
  unfold nE
  have := Nat.div_add_mod (L + k - 1) k
  have h2 := Nat.mod_lt (L + k - 1) hk
  omega
theorem nE_le {k : Nat} (_hk : 0 < k) (L : Nat) : k * nE k L ≤ L + k - 1 := Nat.mul_div_le _ _
theorem padL_length {k : Nat} (hk : 0 < k) (s : ByteArray) : (padL k s).length = k * nE k s.size := by
  have := nE_ge hk s.size
  simp only [padL, List.length_append, bl_length, List.length_replicate]; omega
theorem pieceB_size {k i : Nat} (hk : 0 < k) (s : ByteArray) (hi : i < k) : (pieceB k s i).size = nE k s.size := by
  have h1 : (i + 1) * nE k s.size ≤ k * nE k s.size := Nat.mul_le_mul_right _ hi
  rw [pieceB, size_mk, List.length_drop, List.length_take, padL_length hk, Nat.min_eq_left h1, Nat.add_mul]; omega
theorem piecesL_length (k : Nat) (s : ByteArray) : (piecesL k s).length = k := by simp [piecesL]
theorem rowC_length (k i : Nat) : (rowC k i).length = k := by simp [rowC]
theorem pieces_mem {k : Nat} (hk : 0 < k) {s x : ByteArray} (hx : x ∈ piecesL k s) : x.size = nE k s.size := by
  obtain ⟨i, hi, rfl⟩ := List.mem_map.1 hx
  exact pieceB_size hk s (List.mem_range.1 hi)
def emT : ByteArray := ⟨#[]⟩
def filT (f : Nat → ByteArray) (T i : Nat) : List ByteArray := (List.range i).map f ++ List.replicate (T - i) emT
theorem filT_length {f : Nat → ByteArray} {T i : Nat} (hi : i ≤ T) : (filT f T i).length = T := by simp [filT]; omega
theorem filT_get {f : Nat → ByteArray} {T i j : Nat} (hj : j < i) : (filT f T i)[j]? = some (f j) := by
  unfold filT
  rw [List.getElem?_append_left (by simpa using hj)]
  simp [hj]
theorem filT_all {f : Nat → ByteArray} {T : Nat} : filT f T T = (List.range T).map f := by simp [filT]
theorem fil_push {f : Nat → ByteArray} {T i : Nat} {h : AHeap} {ob : Nat} {x : ByteArray} (hb : h.get ob = some (outB encS 9 (filT f T i))) (hi : i < T) (hx : x = f i) :
    appendA 1 16 9 h (⟨some ⟨ob, 0, some 0⟩, i, T⟩ : Slc) [.string x] 1 = some (⟨some ⟨ob, 0, some 0⟩, i + 1, T⟩, h.set ob (outB encS 9 (filT f T (i + 1)))) := by
  subst hx
  unfold appendA
  rw [if_pos (show i + 1 ≤ T from hi)]
  simp only [Nat.one_ne_zero, if_false]
  have hl : ((filT f T i).map encS).length = T := by rw [List.length_map, filT_length (by omega)]
  have hw : h.wrL ob (0 + i * 1) [Value.string (f i)] = some (h.set ob (outB encS 9 (filT f T (i + 1)))) := by
    simp only [AHeap.wrL, hb, outB]
    rw [if_pos ⟨by rw [hl]; simp; omega, by omega, rfl⟩]
    congr 3
    simp only [splice, Nat.zero_add, Nat.mul_one, List.length_singleton]
    unfold filT
    have e1 : ((List.range i).map f).length = i := by simp
    rw [← List.map_take, ← List.map_drop, List.take_left' e1, List.drop_append, e1, List.drop_eq_nil_of_le (by rw [e1]; omega), List.nil_append, show i + 1 - i = 1 by omega, List.drop_replicate, List.range_succ, List.map_append, List.map_append, List.map_append, show T - i - 1 = T - (i + 1) by omega]
    simp [encS]
  rw [hw]; rfl
def eachA (k : Nat) (long : Int) : Int × Int := if long < 0 ∨ long > 65536 then (0, 1) else (Int.tdiv (long + k - 1) k, 0)
theorem eachA_nat {k L : Nat} (hk : 0 < k) (hL : L ≤ 65536) : eachA k (L : Int) = (((nE k L : Nat) : Int), 0) := by
  unfold eachA
  rw [if_neg (by omega)]
  have : (L : Int) + k - 1 = ((L + k - 1 : Nat) : Int) := by omega
  rw [this]; rfl
theorem each_spec (k0 : Nat) (D : CallF) {h : AHeap} {pb f2 B sb fb k m : Nat} (p : PL h pb f2 B sb fb k m) (hk : 0 < k) (hk2 : k ≤ 255) (long : Int) : stripe_Plan_Each k0 D (some ⟨pb, 0, none⟩) long h = some (eachA k long, h) := by
  simp only [stripe_Plan_Each]
  have l0 : ldI .i64 ⟨pb, 0, none⟩ h = some (k : Int) := ldI_at p.blk rfl
  unfold eachA
  by_cases c1 : long < 0
  · refine jn (ifp (decide_eq_true c1) (ifp rfl ?_)); rw [if_pos (.inl c1)]
  · refine jn (ifn (by simpa using c1) ?_)
    by_cases c2 : long > 65536
    · refine ifp (decide_eq_true c2) ?_; rw [if_pos (.inr c2)]
    · refine ifn (by simpa using c2) ?_
      rw [if_neg (by omega)]
      refine bnd rfl (bnd l0 (bnd rfl (bnd l0 ?_)))
      refine ifn (by omega) ?_
      have q2 : Int.tdiv (long + (k : Int) - 1) (k : Int) ≤ long + k - 1 := by rw [Int.tdiv_eq_ediv_of_nonneg (by omega)]; exact Int.ediv_le_self _ (by omega)
      have q1 : 0 ≤ Int.tdiv (long + (k : Int) - 1) (k : Int) := Int.tdiv_nonneg (by omega) (by omega)
      rw [w64 (long + (k : Int)) (by omega), w64 (long + (k : Int) - 1) (by omega), w64 _ (by omega)]
theorem reach_spec (k0 : Nat) (D : CallF) {h : AHeap} {pb B k m : Nat} (p : PR h pb B k m) (hk : 0 < k) (hk2 : k ≤ 255) (long : Int) : ref05_Plan_Each k0 D (some ⟨pb, 0, none⟩) long h = some (eachA k long, h) := by
  simp only [ref05_Plan_Each]
  have l0 : ldI .i64 ⟨pb, 0, none⟩ h = some (k : Int) := ldI_at p.blk rfl
  unfold eachA
  by_cases c1 : long < 0
  · refine jn (ifp (decide_eq_true c1) (ifp rfl ?_)); rw [if_pos (.inl c1)]
  · refine jn (ifn (by simpa using c1) ?_)
    by_cases c2 : long > 65536
    · refine ifp (decide_eq_true c2) ?_; rw [if_pos (.inr c2)]
    · refine ifn (by simpa using c2) ?_
      rw [if_neg (by omega)]
      refine bnd rfl (bnd l0 ?_)
      have q2 : Int.tdiv (long + (k : Int) - 1) (k : Int) ≤ long + k - 1 := by rw [Int.tdiv_eq_ediv_of_nonneg (by omega)]; exact Int.ediv_le_self _ (by omega)
      have q1 : 0 ≤ Int.tdiv (long + (k : Int) - 1) (k : Int) := Int.tdiv_nonneg (by omega) (by omega)
      have e : ref05_Size k0 D (k : Int) long h = some (Int.tdiv (long + (k : Int) - 1) (k : Int), h) := by
        simp only [ref05_Size]
        refine ifn (by omega) ?_
        rw [w64 (long + (k : Int)) (by omega), w64 (long + (k : Int) - 1) (by omega), w64 _ (by omega)]
      exact bnd e rfl
theorem mat_row {k N : Nat} {h : AHeap} {B : Nat} (hb : h.get B = some (outB encI 3 (mat N (cau k)))) (hl : B < h.next) {i : Nat} (hi : i * k + k ≤ N) (cap : Nat) (sp : Option Nat) : Row encI h (⟨some ⟨B, i * k, sp⟩, k, cap⟩ : Slc) (rowC k i) := by
  have := Row.of_block (enc := encI) (h := h) (xs := rowC k i) (b := B) (o := i * k) (sp := sp) (cap := cap) (c := (mat N (cau k)).map encI) (e := 3) (r := true) (fz := 0) hb hl (fun j x hx => by
    have hj : j < k := by
      have := (List.getElem?_eq_some_iff.1 hx).1; rwa [rowC_length] at this
    have hx' : x = cau k (i * k + j) := by simp [rowC, hj] at hx; exact hx.symm
    rw [List.getElem?_map, mat_get (show i * k + j < N by omega), hx']; rfl)
  rw [rowC_length] at this
  exact this
theorem subL_row {B k i N : Nat} (hk : 0 < k) (hi : i * k + k ≤ N) (hN : N ≤ 70000) (hi2 : i ≤ 255) : Gx.subL 1 (⟨some ⟨B, 0, some 0⟩, N, N⟩ : Slc) (some (IntKind.wrap .i64 ((i : Int) * (k : Int)))) (some (IntKind.wrap .i64 ((IntKind.wrap .i64 ((i : Int) + 1)) * (k : Int)))) none = some (⟨some ⟨B, i * k, some 0⟩, k, N - i * k⟩ : Slc) := by
  have e1 : (i : Int) * (k : Int) = ((i * k : Nat) : Int) := by simp
  have e3 : IntKind.wrap .i64 ((i : Int) + 1) = ((i + 1 : Nat) : Int) := by rw [w64 _ (by omega)]; omega
  have e4 : ((i + 1 : Nat) : Int) * (k : Int) = ((i * k + k : Nat) : Int) := by push_cast; rw [Int.add_mul, Int.one_mul]
  have e2 : IntKind.wrap .i64 ((i : Int) * (k : Int)) = ((i * k : Nat) : Int) := by rw [e1]; exact w64 _ (by omega)
  rw [e3, e4, e2, w64 ((i * k + k : Nat) : Int) (by omega)]
  simp only [Gx.subL, Option.getD_none, Option.getD_some]
  rw [if_pos (by omega), if_pos (by rfl), if_neg (by omega)]
  simp only [Int.toNat_natCast, Nat.mul_one, Nat.zero_add, Option.isSome_none, Bool.false_eq_true, if_false]
  rw [show (((i * k + k : Nat) : Int) - ((i * k : Nat) : Int)).toNat = k by omega, show ((N : Int) - ((i * k : Nat) : Int)).toNat = N - i * k by omega]
end Gb
namespace Gb
open Go Gx Go.Proofs
theorem repL (c : Nat) : Lib.repeatL [0] c = List.replicate c (0 : UInt8) := by
  induction c with
  | zero => rfl
  | succ c ih => simp [Lib.repeatL, ih, List.replicate_succ]
theorem pad_bl {k : Nat} (s : ByteArray) : s ++ repB (⟨#[0]⟩ : ByteArray) (k * nE k s.size - s.size) = ⟨⟨padL k s⟩⟩ := by
  have e : repB (⟨#[0]⟩ : ByteArray) (k * nE k s.size - s.size) = ⟨⟨List.replicate (k * nE k s.size - s.size) 0⟩⟩ := by
    unfold repB
    have : (⟨#[0]⟩ : ByteArray).data.toList = [0] := rfl
    rw [this, repL]
  rw [e]
  exact ba_app (bl s) _
theorem row_fill {h : AHeap} {ob T i k : Nat} {f : Nat → ByteArray} {cap : Nat} (hb : h.get ob = some (outB encS 9 (filT f T i))) (hl : ob < h.next) (hk : k ≤ i) : Row encS h (⟨some ⟨ob, 0, some 0⟩, k, cap⟩ : Slc) ((List.range k).map f) := by
  have := Row.of_block (enc := encS) (h := h) (xs := (List.range k).map f) (b := ob) (o := 0) (sp := some 0) (cap := cap) (c := (filT f T i).map encS) (e := 9) (r := true) (fz := 0) hb hl (fun j x hx => by
    have hj : j < k := by
      have := (List.getElem?_eq_some_iff.1 hx).1; simpa using this
    have hx' : x = f j := by simp [hj] at hx; exact hx.symm
    rw [Nat.zero_add, List.getElem?_map, filT_get (show j < i by omega), hx']; rfl)
  simpa using this
theorem shard_piece {k i : Nat} (s : ByteArray) (hi : i < k) : shardB k s i = pieceB k s i := by unfold shardB; rw [if_pos hi]
theorem pieces_range {k : Nat} (s : ByteArray) : (List.range k).map (shardB k s) = piecesL k s := by
  apply List.map_congr_left
  intro i hi
  exact shard_piece s (List.mem_range.1 hi)
theorem sub_piece {k i : Nat} (hk : 0 < k) (hk2 : k ≤ 255) (s : ByteArray) (hs : s.size ≤ 65536) (hi : i < k) :
    Gx.subS (⟨⟨padL k s⟩⟩ : ByteArray) (some (IntKind.wrap .i64 ((i : Int) * ((nE k s.size : Nat) : Int)))) (some (IntKind.wrap .i64 ((IntKind.wrap .i64 ((i : Int) + 1)) * ((nE k s.size : Nat) : Int)))) = some (pieceB k s i) := by
  have hn := nE_le hk s.size
  generalize hnn : nE k s.size = n at *
  have h1 : (i + 1) * n ≤ k * n := Nat.mul_le_mul_right _ hi
  have h2 : i * n ≤ (i + 1) * n := Nat.mul_le_mul_right _ (by omega)
  have e1 : (i : Int) * (n : Int) = ((i * n : Nat) : Int) := by simp
  have e3 : IntKind.wrap .i64 ((i : Int) + 1) = ((i + 1 : Nat) : Int) := by rw [w64 _ (by omega)]; omega
  have e4 : ((i + 1 : Nat) : Int) * (n : Int) = (((i + 1) * n : Nat) : Int) := by simp
  rw [e3, e4, e1, w64 ((i * n : Nat) : Int) (by omega), w64 (((i + 1) * n : Nat) : Int) (by omega)]
  have hsz : (⟨⟨padL k s⟩⟩ : ByteArray).size = k * n := by rw [size_mk, padL_length hk, hnn]
  rw [subS_of (i := i * n) (j := (i + 1) * n) rfl rfl h2 (by rw [hsz]; exact h1)]
  unfold pieceB; rw [hnn]; rfl
abbrev sl1T := Option Addr → ByteArray → Int → Slc → Int → Int → AHeap → Option ((Slc × Int) × AHeap)
theorem split_l1 (K : Nat) (D : CallF) (j) (bot : sl1T) (p : Option Addr) {k m : Nat} (hk : 0 < k) (hk2 : k ≤ 255) (s : ByteArray) (hs : s.size ≤ 65536) {ob : Nat} : ∀ (d i : Nat) (h : AHeap), i + d = k → ob < h.next → h.get ob = some (outB encS 9 (filT (shardB k s) (k + m) i)) →
    ∃ h', iterK bot (d + 1) (stripe_Plan_Split_l1b K D j) p (⟨⟨padL k s⟩⟩ : ByteArray) ((nE k s.size : Nat) : Int) (⟨some ⟨ob, 0, some 0⟩, i, k + m⟩ : Slc) (k : Int) (i : Int) h = j p (⟨some ⟨ob, 0, some 0⟩, k, k + m⟩ : Slc) h' ∧
      h'.get ob = some (outB encS 9 (filT (shardB k s) (k + m) k)) ∧ Chg (· = ob) h h'
  | 0, i, h, hi, hl, hb => by
    obtain rfl : i = k := by omega
    refine ⟨h, ?_, hb, Chg.refl _ _⟩
    rw [iterK_s]; simp only [stripe_Plan_Split_l1b]
    exact ifn (by simp) rfl
  | d + 1, i, h, hi, hl, hb => by
    let h1 := h.new (.cells [.string (pieceB k s i)] 9 true 0)
    have k1 : Keeps h h1 := Keeps.new _ _
    have hb1 : h1.get ob = some (outB encS 9 (filT (shardB k s) (k + m) i)) := (k1.oth _ hl (fun f => f)).trans hb
    let h2 := h1.set ob (outB encS 9 (filT (shardB k s) (k + m) (i + 1)))
    have c2 : Chg (· = ob) h1 h2 := Chg.set (.inr rfl)
    obtain ⟨h', r, b', c'⟩ := split_l1 K D j bot p hk hk2 s hs (m := m) (ob := ob) d (i + 1) h2 (by omega) (by show ob < h.next + 1; omega) (set_get _ _ _)
    refine ⟨h', ?_, b', (Chg.keeps k1).trans (c2.trans c')⟩
    rw [iterK_s]; simp only [stripe_Plan_Split_l1b]
    refine ifp (by simp; omega) ?_
    refine bnd (sub_piece hk hk2 s hs (by omega)) ?_
    refine bnd rdS_one ?_
    refine bnd (fil_push hb1 (by omega) (by rw [shard_piece s (by omega)])) ?_
    rw [w1 (by omega)]
    exact r
theorem srow_spec (k0 : Nat) (D : CallF) {h : AHeap} {pb f2 B sb fb k m : Nat} (p : PL h pb f2 B sb fb k m) (hk : 0 < k) (hR : k + m ≤ 255) {i : Nat} (hi : i < k + m) :
    ∃ h', stripe_Plan_row k0 D (some ⟨pb, 0, none⟩) (((k + m : Nat) : Int), (k : Int), whole B ((k + m) * k)) (i : Int) h = some ((⟨some ⟨B, i * k, some 0⟩, k, (k + m) * k - i * k⟩ : Slc), h') ∧ Keeps h h' := by
  simp only [stripe_Plan_row]
  let h1 := h.new (.cells (mcell ((k + m : Nat) : Int) (k : Int) (whole B ((k + m) * k))) 84 true 0)
  have k1 : Keeps h h1 := Keeps.new _ _
  have b1 : h1.get h.next = some (.cells (mcell ((k + m : Nat) : Int) (k : Int) (whole B ((k + m) * k))) 84 true 0) := by simp [h1]
  have p1 := p.keeps k1
  have l0 : ldI .i64 ⟨pb, 0, none⟩ h1 = some (k : Int) := ldI_at p1.blk rfl
  have hle : i * k + k ≤ (k + m) * k := by have := Nat.mul_le_mul_right k hi; rw [Nat.succ_mul] at this; exact this
  have hN : (k + m) * k ≤ 65025 := Nat.le_trans (Nat.mul_le_mul hR (show k ≤ 255 by omega)) (by decide)
  refine ⟨h1, ?_, k1⟩
  have hL : ldL ⟨h.next, 2, none⟩ h1 = some (whole B ((k + m) * k)) := by simp [ldL, AHeap.rd1, b1, mcell, decL, whole]
  refine bnd hL (bnd rfl (bnd l0 (bnd rfl (bnd l0 ?_))))
  exact bnd (subL_row hk hle (by omega) (by omega)) rfl
abbrev sl0T := Option Addr → Slc → Slc → Int → Int → AHeap → Option ((Slc × Int) × AHeap)
theorem mix_bounds {k : Nat} (hk : 0 < k) (hk2 : k ≤ 255) (s : ByteArray) (hs : s.size ≤ 65536) : ∀ x ∈ piecesL k s, x.size ≤ 66000 := fun x hx => by
  rw [pieces_mem hk hx]
  have := nE_le hk s.size
  have h2 : nE k s.size ≤ k * nE k s.size := Nat.le_mul_of_pos_left _ hk
  omega
theorem split_l0 {k0 : Nat} (hk0 : 70000 ≤ k0) (j) (bot : sl0T) {pb f2 B sb fb k m : Nat} (hk : 0 < k) (hR : k + m ≤ 255) (s : ByteArray) (hs : s.size ≤ 65536) {ob : Nat} (o1 : ob ≠ f2) (o2 : ob ≠ pb) (o3 : ob ≠ B) (o4 : ob ≠ sb) (o5 : ob ≠ fb) : ∀ (d i : Nat) (h : AHeap), i + d = m → PL h pb f2 B sb fb k m → ob < h.next → h.get ob = some (outB encS 9 (filT (shardB k s) (k + m) (k + i))) →
    ∃ h', iterK bot (d + 1) (stripe_Plan_Split_l0b k0 (DD k0) j) (some ⟨pb, 0, none⟩) (⟨some ⟨ob, 0, some 0⟩, k + i, k + m⟩ : Slc) (⟨some ⟨ob, 0, some 0⟩, k, k⟩ : Slc) (m : Int) (i : Int) h = j (⟨some ⟨ob, 0, some 0⟩, k + m, k + m⟩ : Slc) h' ∧
      h'.get ob = some (outB encS 9 (filT (shardB k s) (k + m) (k + m))) ∧ PL h' pb f2 B sb fb k m ∧ Chg (fun x => x = ob ∨ x = f2) h h'
  | 0, i, h, hi, p, hl, hb => by
    obtain rfl : i = m := by omega
    refine ⟨h, ?_, hb, p, Chg.refl _ _⟩
    rw [iterK_s]; simp only [stripe_Plan_Split_l0b]
    exact ifn (by simp) rfl
  | d + 1, i, h, hi, p, hl, hb => by
    obtain ⟨h1, r1, k1⟩ := srow_spec k0 (DD k0) p hk hR (i := k + i) (by omega)
    have p1 := p.keeps k1
    have hl1 : ob < h1.next := Nat.lt_of_lt_of_le hl k1.nx
    have hb1 : h1.get ob = some (outB encS 9 (filT (shardB k s) (k + m) (k + i))) := (k1.oth _ hl (fun f => f)).trans hb
    have Rp : Row encS h1 (⟨some ⟨ob, 0, some 0⟩, k, k⟩ : Slc) (piecesL k s) := by
      have := row_fill (cap := k) hb1 hl1 (show k ≤ k + i by omega)
      rwa [pieces_range] at this
    have hle : (k + i) * k + k ≤ (k + m) * k := by
      have := Nat.mul_le_mul_right k (show k + i + 1 ≤ k + m by omega); rw [Nat.succ_mul] at this; exact this
    have Rc := mat_row p1.mat p1.lb hle ((k + m) * k - (k + i) * k) (some 0)
    have mb := mix_bounds hk (by omega) s hs
    obtain ⟨h2, r2, s2⟩ := fmix_spec (k := k0) (by omega) p1.fld p1.lf Rp Rc (fun a ha => by cases ha; exact o1) (fun a ha => by cases ha; exact p1.n1) (by rw [piecesL_length]; omega) (by rw [rowC_length]; omega)
      (fun x hx => by have := mb x hx; omega) (by rw [piecesL_length]; omega) (by rw [rowC_length]; omega) (fun x hx => by have := mb x hx; omega)
    have p2 := p1.fs2 s2
    have hb2 : h2.get ob = some (outB encS 9 (filT (shardB k s) (k + m) (k + i))) := (s2.oth _ hl1 o1).trans hb1
    have hl2 : ob < h2.next := Nat.lt_of_lt_of_le hl1 s2.nx
    have ex : (mixA (piecesL k s) (rowC k (k + i))).1 = shardB k s (k + i) := by unfold shardB; rw [if_neg (by omega)]
    let h3 := h2.new (.cells [.string (mixA (piecesL k s) (rowC k (k + i))).1] 9 true 0)
    have k3 : Keeps h2 h3 := Keeps.new _ _
    have p3 := p2.keeps k3
    have hb3 : h3.get ob = some (outB encS 9 (filT (shardB k s) (k + m) (k + i))) := (k3.oth _ hl2 (fun f => f)).trans hb2
    let h4 := h3.set ob (outB encS 9 (filT (shardB k s) (k + m) (k + i + 1)))
    have c4 : Chg (· = ob) h3 h4 := Chg.set (.inr rfl)
    have p4 : PL h4 pb f2 B sb fb k m := p3.chg c4 (fun e => o2 e.symm) (fun e => o1 e.symm) (fun e => o3 e.symm) (fun e => o4 e.symm) (fun e => o5 e.symm)
    obtain ⟨h', r, b', p', c'⟩ := split_l0 hk0 j bot hk hR s hs o1 o2 o3 o4 o5 d (i + 1) h4 (by omega) p4 (by show ob < h2.next + 1; omega) (set_get _ _ _)
    refine ⟨h', ?_, b', p', ?_⟩
    · rw [iterK_s]; simp only [stripe_Plan_Split_l0b]
      refine ifp (by simp; omega) ?_
      refine bnd rfl ?_
      have q1 : ldA 3 (⟨pb, 0 + 4, none⟩ : Addr) h = some (mcell ((k + m : Nat) : Int) (k : Int) (whole B ((k + m) * k))) := by
        simp only [ldA, AHeap.rdL, p.blk]; rfl
      refine bnd q1 (bnd rfl ?_)
      refine bnd rfl (bnd (ldI_at p.blk rfl) ?_)
      have e1 : IntKind.wrap .i64 ((k : Int) + (i : Int)) = ((k + i : Nat) : Int) := by rw [w64 _ (by omega)]; omega
      rw [e1]
      refine bnd r1 ?_
      have q2 : ldP (⟨pb, 0 + 2, none⟩ : Addr) h1 = some (some ⟨f2, 0, none⟩) := by simp [ldP, AHeap.rd1, p1.blk, decP]
      have q3 : ldP (⟨pb, 0 + 2, none⟩ : Addr) h = some (some ⟨f2, 0, none⟩) := by simp [ldP, AHeap.rd1, p.blk, decP]
      refine bnd rfl (bnd q2 (gp (sw1 (bnd q3 rfl)) ?_))
      refine bnd r2 ?_
      refine bnd rdS_one ?_
      refine bnd (fil_push hb3 (by omega) ex) ?_
      rw [w1 (by omega)]
      exact r
    · have a1 : Chg (fun x => x = ob ∨ x = f2) h h1 := k1.keeps
      have a2 : Chg (fun x => x = ob ∨ x = f2) h1 h2 := s2.chg.wk fun x _ e => .inr e
      have a3 : Chg (fun x => x = ob ∨ x = f2) h2 h3 := k3.keeps
      have a4 : Chg (fun x => x = ob ∨ x = f2) h3 h4 := c4.wk fun x _ e => .inl e
      exact a1.trans (a2.trans (a3.trans (a4.trans c')))
theorem split_spec {k0 : Nat} (hk0 : 70000 ≤ k0) {h : AHeap} {pb f2 B sb fb k m : Nat} (p : PL h pb f2 B sb fb k m) (hk : 0 < k) (hR : k + m ≤ 255) (s : ByteArray) (hs : s.size ≤ 65536) :
    ∃ h' ob, stripe_Plan_Split k0 (DD k0) (some ⟨pb, 0, none⟩) s h = some (((⟨some ⟨ob, 0, some 0⟩, k + m, k + m⟩ : Slc), 0), h') ∧ h'.get ob = some (outB encS 9 (shardsL k m s)) ∧ h.next ≤ ob ∧ ob < h'.next ∧ PL h' pb f2 B sb fb k m ∧ Chg (· = f2) h h' := by
  simp only [stripe_Plan_Split]
  have re := each_spec k0 (DD k0) p hk (by omega) (s.size : Int)
  rw [eachA_nat hk hs] at re
  have l0 : ldI .i64 ⟨pb, 0, none⟩ h = some (k : Int) := ldI_at p.blk rfl
  have l1 : ldI .i64 ⟨pb, 1, none⟩ h = some (m : Int) := ldI_at p.blk rfl
  have hge := nE_ge hk s.size
  have hle := nE_le hk s.size
  have ekn : (k : Int) * ((nE k s.size : Nat) : Int) = ((k * nE k s.size : Nat) : Int) := by simp
  have et : IntKind.wrap .i64 ((IntKind.wrap .i64 ((k : Int) * ((nE k s.size : Nat) : Int))) - (s.size : Int)) = ((k * nE k s.size - s.size : Nat) : Int) := by
    rw [ekn, w64 ((k * nE k s.size : Nat) : Int) (by omega), w64 _ (by omega)]; omega
  have hrep : repeatA (⟨#[0]⟩ : ByteArray) ((k * nE k s.size - s.size : Nat) : Int) = some (repB (⟨#[0]⟩ : ByteArray) (k * nE k s.size - s.size)) := by
    unfold repeatA
    rw [if_pos ⟨by omega, by omega, by rw [Int.toNat_natCast]; show 1 * _ ≤ _; omega⟩, Int.toNat_natCast]
  have hrs : (repB (⟨#[0]⟩ : ByteArray) (k * nE k s.size - s.size)).size = k * nE k s.size - s.size := by
    unfold repB
    have e1 : (⟨#[0]⟩ : ByteArray).data.toList = [0] := rfl
    rw [e1, repL]; exact (size_mk _).trans List.length_replicate
  have ekm : IntKind.wrap .i64 ((k : Int) + (m : Int)) = ((k + m : Nat) : Int) := by rw [w64 _ (by omega)]; omega
  let ob := h.next
  let h1 := h.new (outB encS 9 (filT (shardB k s) (k + m) 0))
  have k1 : Keeps h h1 := Keeps.new _ _
  have hz : (zerosL (((k + m : Nat) : Int)).toNat [.string ⟨#[]⟩]) = (filT (shardB k s) (k + m) 0).map encS := by
    rw [Int.toNat_natCast]; simp [zerosL, filT, encS, emT]
  have b1 : h1.get ob = some (outB encS 9 (filT (shardB k s) (k + m) 0)) := by simp [h1, ob]
  have p1 := p.keeps k1
  have hlp := p.lp; have hlf := p.lf; have hlb := p.lb; have hls := p.spc.ls; have hlg := p.spc.lf
  generalize hj14 : (fun (p11 : Option Addr) (out12 : Slc) (h13 : AHeap) => (p11.bind fun p15 => _ : Option ((Slc × Int) × AHeap))) = j14
  unfold stripe_Plan_Split_l1
  obtain ⟨bot1, e1⟩ := iterK_of (α := sl1T) (fun _ _ _ _ _ _ _ => none) (stripe_Plan_Split_l1b k0 (DD k0) j14) (show k + 1 ≤ k0 by omega)
  obtain ⟨h2, r2, b2, c2⟩ := split_l1 k0 (DD k0) j14 bot1 (some ⟨pb, 0, none⟩) hk (by omega) s hs (m := m) (ob := ob) k 0 h1 (by omega) (by show h.next < h.next + 1; omega) b1
  have p2 : PL h2 pb f2 B sb fb k m := p1.chg c2 (fun e => by have : pb = h.next := e; omega) (fun e => by have : f2 = h.next := e; omega) (fun e => by have : B = h.next := e; omega) (fun e => by have : sb = h.next := e; omega) (fun e => by have : fb = h.next := e; omega)
  have hl2 : ob < h2.next := Nat.lt_of_lt_of_le (by show h.next < h.next + 1; omega) c2.nx
  obtain ⟨bot0, e0⟩ := iterK_of (α := sl0T) (fun _ _ _ _ _ _ => none) (stripe_Plan_Split_l0b k0 (DD k0) fun (out20 : Slc) (h21 : AHeap) => some ((out20, 0), h21)) (show m + 1 ≤ k0 by omega)
  obtain ⟨h3, r3, b3, p3, c3⟩ := split_l0 hk0 (fun (out20 : Slc) (h21 : AHeap) => some ((out20, 0), h21)) bot0 (pb := pb) (f2 := f2) (B := B) (sb := sb) (fb := fb) hk hR s hs (ob := ob) (by show h.next ≠ _; omega) (by show h.next ≠ _; omega) (by show h.next ≠ _; omega) (by show h.next ≠ _; omega) (by show h.next ≠ _; omega) m 0 h2 (by omega) p2 hl2 b2
  refine ⟨h3, ob, ?_, ?_, Nat.le_refl _, Nat.lt_of_lt_of_le hl2 c3.nx, p3, ?_⟩
  · refine bnd re ?_
    refine ifn (by simp) ?_
    refine bnd rfl (bnd l0 ?_)
    rw [et]
    refine bnd hrep ?_
    refine ifp (by rw [hrs]; omega) ?_
    refine bnd rfl (bnd l0 (bnd rfl (bnd l1 ?_)))
    rw [ekm]
    refine ifp (by omega) ?_
    rw [hz]
    refine jn ?_
    refine bnd rfl (bnd (ldI_at p1.blk rfl) ?_)
    rw [pad_bl, Int.toNat_natCast]
    show iterK _ k0 (stripe_Plan_Split_l1b k0 (DD k0) j14) (some ⟨pb, 0, none⟩) (⟨⟨padL k s⟩⟩ : ByteArray) ((nE k s.size : Nat) : Int) (⟨some ⟨ob, 0, some 0⟩, 0, k + m⟩ : Slc) (k : Int) ((0 : Nat) : Int) h1 = _
    rw [e1, r2]
    subst hj14
    refine bnd rfl (bnd (ldI_at p2.blk rfl) (bnd rfl (bnd (ldI_at p2.blk rfl) ?_)))
    have hsub : Gx.subL 1 (⟨some ⟨ob, 0, some 0⟩, k, k + m⟩ : Slc) none (some (k : Int)) (some (k : Int)) = some (⟨some ⟨ob, 0, some 0⟩, k, k⟩ : Slc) := by
      simp only [Gx.subL, Option.getD_none, Option.getD_some]
      rw [if_pos (by omega), if_pos (show spOk (some 0) 1 = true from rfl), if_neg (by omega)]
      simp
    refine bnd hsub ?_
    refine jn ?_
    refine bnd rfl (bnd (ldI_at p2.blk rfl) ?_)
    unfold stripe_Plan_Split_l0
    rw [e0]
    exact r3
  · rw [b3, filT_all]; rfl
  · exact Chg.beh k1.keeps ((c2.wk (T := fun x => x = ob ∨ x = f2) fun x _ e => .inl e).trans c3) (fun x hx e => by
      rcases e with e | e
      · have : x = h.next := e; omega
      · exact e)
end Gb
namespace Gb
open Go Gx Go.Proofs
theorem beh_acc {α : Type} {enc : α → Value} {e : TypeId} {h0 h h' : AHeap} {s : Slc} {xs : List α} (k : Keeps h0 h) (A : Acc enc e h0.next h s xs) (c : Chg (ofS s) h h') : Keeps h0 h' :=
  Chg.beh k c fun x hx e => by
    obtain ⟨a, ha, rfl⟩ := e
    have := (A.lt a ha).2
    omega
theorem encS_one : ∀ x : ByteArray, one (encS x) = true := fun _ => rfl
abbrev rp0T := Option Addr → ByteArray → Int → Slc → Int → AHeap → Option ((Slc) × AHeap)
theorem rpieces_l0 (K : Nat) (D : CallF) (j) (bot : rp0T) {h0 : AHeap} {pb B k m : Nat} (hk : 0 < k) (hk2 : k ≤ 255) (s : ByteArray) (hs : s.size ≤ 65536) : ∀ (d i : Nat) (h : AHeap) (o : Slc), i + d = k → PR h0 pb B k m → Keeps h0 h → Acc encS 9 h0.next h o ((List.range i).map (pieceB k s)) →
    ∃ h' o', iterK bot (d + 1) (ref05_Plan_pieces_l0b K D j) (some ⟨pb, 0, none⟩) (⟨⟨padL k s⟩⟩ : ByteArray) ((nE k s.size : Nat) : Int) o (i : Int) h = j o' h' ∧ Keeps h0 h' ∧ Acc encS 9 h0.next h' o' (piecesL k s)
  | 0, i, h, o, hi, p, kh, A => by
    obtain rfl : i = k := by omega
    refine ⟨h, o, ?_, kh, A⟩
    rw [iterK_s]; simp only [ref05_Plan_pieces_l0b]
    refine bnd rfl (bnd (ldI_at (p.keeps kh).blk rfl) ?_)
    exact ifn (by simp) rfl
  | d + 1, i, h, o, hi, p, kh, A => by
    obtain ⟨o1, h1, ra, A1, c1, _⟩ := A.push (bytes := 16) encS_one (pieceB k s i) (by simp; omega) (by decide) kh.nx
    have kh1 := beh_acc kh A c1
    have e1 : (List.range i).map (pieceB k s) ++ [pieceB k s i] = (List.range (i + 1)).map (pieceB k s) := by rw [List.range_succ, List.map_append]; rfl
    rw [e1] at A1
    obtain ⟨h', o', r, k', A'⟩ := rpieces_l0 K D j bot (h0 := h0) (pb := pb) (B := B) (m := m) hk hk2 s hs d (i + 1) h1 o1 (by omega) p kh1 A1
    refine ⟨h', o', ?_, k', A'⟩
    rw [iterK_s]; simp only [ref05_Plan_pieces_l0b]
    refine bnd rfl (bnd (ldI_at (p.keeps kh).blk rfl) ?_)
    refine ifp (by simp; omega) ?_
    refine bnd (sub_piece hk hk2 s hs (by omega)) ?_
    refine bnd rdS_one ?_
    refine bnd ra ?_
    rw [w1 (by omega)]
    exact r
theorem size_run (k0 : Nat) (D : CallF) {k L : Nat} (hk : 0 < k) (hk2 : k ≤ 255) (hL : L ≤ 65536) (h : AHeap) : ref05_Size k0 D (k : Int) (L : Int) h = some (((nE k L : Nat) : Int), h) := by
  simp only [ref05_Size]
  refine ifn (by omega) ?_
  have e1 : (L : Int) + (k : Int) - 1 = ((L + k - 1 : Nat) : Int) := by omega
  have e2 : Int.tdiv ((L + k - 1 : Nat) : Int) (k : Int) = ((nE k L : Nat) : Int) := rfl
  have := nE_le hk L
  have h2 : nE k L ≤ k * nE k L := Nat.le_mul_of_pos_left _ hk
  rw [w64 ((L : Int) + (k : Int)) (by omega), e1, w64 ((L + k - 1 : Nat) : Int) (by omega), e2, w64 _ (by omega)]
theorem rpieces_spec {k0 : Nat} (hk0 : 70000 ≤ k0) (D : CallF) {h : AHeap} {pb B k m : Nat} (p : PR h pb B k m) (hk : 0 < k) (hk2 : k ≤ 255) (s : ByteArray) (hs : s.size ≤ 65536) :
    ∃ h' o, ref05_Plan_pieces k0 D (some ⟨pb, 0, none⟩) s h = some (o, h') ∧ Keeps h h' ∧ Acc encS 9 h.next h' o (piecesL k s) := by
  simp only [ref05_Plan_pieces]
  have l0 : ldI .i64 ⟨pb, 0, none⟩ h = some (k : Int) := ldI_at p.blk rfl
  have hge := nE_ge hk s.size
  have hle := nE_le hk s.size
  have ekn : (k : Int) * ((nE k s.size : Nat) : Int) = ((k * nE k s.size : Nat) : Int) := by simp
  have et : IntKind.wrap .i64 ((IntKind.wrap .i64 ((k : Int) * ((nE k s.size : Nat) : Int))) - (s.size : Int)) = ((k * nE k s.size - s.size : Nat) : Int) := by
    rw [ekn, w64 ((k * nE k s.size : Nat) : Int) (by omega), w64 _ (by omega)]; omega
  let h1 := h.new (.cells ((List.replicate (k * nE k s.size - s.size) (0 : UInt8)).map encB) 5 true 0)
  have k1 : Keeps h h1 := Keeps.new _ _
  have b1 : h1.get h.next = some (.cells ((List.replicate (k * nE k s.size - s.size) (0 : UInt8)).map encB) 5 true 0) := by simp [h1]
  have hbs := bytesOf_out (cap := k * nE k s.size - s.size) (sp := some 0) b1
  rw [List.length_replicate] at hbs
  obtain ⟨bot1, e1⟩ := iterK_of (α := rp0T) (fun _ _ _ _ _ _ => none) (ref05_Plan_pieces_l0b k0 D fun (out9 : Slc) (h10 : AHeap) => some (out9, h10)) (show k + 1 ≤ k0 by omega)
  obtain ⟨h', o', r, k', A'⟩ := rpieces_l0 k0 D (fun (out9 : Slc) (h10 : AHeap) => some (out9, h10)) bot1 (h0 := h) (pb := pb) (B := B) (m := m) hk hk2 s hs k 0 h1 ⟨none, 0, 0⟩ (by omega) p k1 (Acc.nil _ _ _ _)
  refine ⟨h', o', ?_, k', A'⟩
  refine bnd rfl (bnd l0 (bnd (size_run k0 D hk hk2 hs h) ?_))
  refine bnd rfl (bnd l0 ?_)
  rw [et]
  refine ifp (by omega) ?_
  rw [Int.toNat_natCast, zeros_bytes]
  refine bnd hbs ?_
  have hsz : (⟨⟨List.replicate (k * nE k s.size - s.size) (0 : UInt8)⟩⟩ : ByteArray).size = k * nE k s.size - s.size := (size_mk _).trans List.length_replicate
  refine ifp (by rw [hsz]; omega) ?_
  refine jn ?_
  have ep : s ++ (⟨⟨List.replicate (k * nE k s.size - s.size) 0⟩⟩ : ByteArray) = ⟨⟨padL k s⟩⟩ := ba_app (bl s) _
  rw [ep]
  unfold ref05_Plan_pieces_l0
  rw [e1]
  exact r
theorem rrow_spec (k0 : Nat) (D : CallF) {h : AHeap} {pb B k m : Nat} (p : PR h pb B k m) (hk : 0 < k) (hR : k + m ≤ 255) {i : Nat} (hi : i < k + m) :
    ref05_Plan_row k0 D (some ⟨pb, 0, none⟩) (i : Int) h = some ((⟨some ⟨B, i * k, some 0⟩, k, (k + m) * k - i * k⟩ : Slc), h) := by
  simp only [ref05_Plan_row]
  have l0 : ldI .i64 ⟨pb, 0, none⟩ h = some (k : Int) := ldI_at p.blk rfl
  have hle : i * k + k ≤ (k + m) * k := by have := Nat.mul_le_mul_right k hi; rw [Nat.succ_mul] at this; exact this
  have hN : (k + m) * k ≤ 65025 := Nat.le_trans (Nat.mul_le_mul hR (show k ≤ 255 by omega)) (by decide)
  have hL : ldL (⟨pb, 0 + 2 + 2, none⟩ : Addr) h = some (⟨some ⟨B, 0, some 0⟩, (k + m) * k, (k + m) * k⟩ : Slc) := by simp [ldL, AHeap.rd1, p.blk, decL]
  refine bnd rfl (bnd hL (bnd rfl (bnd l0 (bnd rfl (bnd l0 ?_)))))
  exact bnd (subL_row hk hle (by omega) (by omega)) rfl
abbrev rs0T := Option Addr → Slc → Slc → Int → AHeap → Option ((Slc) × AHeap)
theorem rshards_l0 {k0 : Nat} (hk0 : 70000 ≤ k0) (D : CallF) (j) (bot : rs0T) {h0 : AHeap} {pb B k m : Nat} (hk : 0 < k) (hR : k + m ≤ 255) (s : ByteArray) (hs : s.size ≤ 65536) (l : Slc) (hl : ∀ a, l.a = some a → a.block < h0.next) (R : Row encS h0 l (piecesL k s)) : ∀ (d i : Nat) (h : AHeap) (o : Slc), i + d = m → PR h0 pb B k m → Keeps h0 h → Acc encS 9 h0.next h o ((List.range (k + i)).map (shardB k s)) →
    ∃ h' o', iterK bot (d + 1) (ref05_Plan_Shards_l0b k0 D j) (some ⟨pb, 0, none⟩) l o ((k + i : Nat) : Int) h = j o' h' ∧ Keeps h0 h' ∧ Acc encS 9 h0.next h' o' (shardsL k m s)
  | 0, i, h, o, hi, p, kh, A => by
    obtain rfl : i = m := by omega
    refine ⟨h, o, ?_, kh, A⟩
    rw [iterK_s]; simp only [ref05_Plan_Shards_l0b]
    refine bnd rfl (bnd (ldI_at (p.keeps kh).blk rfl) (bnd rfl (bnd (ldI_at (p.keeps kh).blk rfl) ?_)))
    rw [w64 ((k : Int) + (i : Int)) (by omega)]
    exact ifn (by simp) rfl
  | d + 1, i, h, o, hi, p, kh, A => by
    have p1 := p.keeps kh
    have Rl : Row encS h l (piecesL k s) := R.keeps kh
    have hle : (k + i) * k + k ≤ (k + m) * k := by
      have := Nat.mul_le_mul_right k (show k + i + 1 ≤ k + m by omega); rw [Nat.succ_mul] at this; exact this
    have Rc := mat_row p1.mat p1.lb hle ((k + m) * k - (k + i) * k) (some 0)
    have mb := mix_bounds hk (by omega) s hs
    obtain ⟨h2, r2, k2⟩ := rmix_spec (k := k0) (by omega) D Rl Rc (by rw [piecesL_length]; omega) (by rw [rowC_length]; omega) (fun x hx => by have := mb x hx; omega) (by rw [piecesL_length]; omega) (by rw [rowC_length]; omega) (fun x hx => by have := mb x hx; omega)
    have kh2 := kh.trans k2
    have A2 := A.keeps k2
    have ex : (mixA (piecesL k s) (rowC k (k + i))).1 = shardB k s (k + i) := by unfold shardB; rw [if_neg (by omega)]
    obtain ⟨o3, h3, ra, A3, c3, _⟩ := A2.push (bytes := 16) encS_one (mixA (piecesL k s) (rowC k (k + i))).1 (by simp; omega) (by decide) kh2.nx
    have kh3 := beh_acc kh2 A2 c3
    have e1 : (List.range (k + i)).map (shardB k s) ++ [(mixA (piecesL k s) (rowC k (k + i))).1] = (List.range (k + (i + 1))).map (shardB k s) := by rw [ex, ← Nat.add_assoc, List.range_succ, List.map_append]; rfl
    rw [e1] at A3
    obtain ⟨h', o', r, k', A'⟩ := rshards_l0 hk0 D j bot hk hR s hs l hl R d (i + 1) h3 o3 (by omega) p kh3 A3
    refine ⟨h', o', ?_, k', A'⟩
    rw [iterK_s]; simp only [ref05_Plan_Shards_l0b]
    refine bnd rfl (bnd (ldI_at p1.blk rfl) (bnd rfl (bnd (ldI_at p1.blk rfl) ?_)))
    rw [w64 ((k : Int) + (m : Int)) (by omega)]
    refine ifp (by simp; omega) ?_
    refine bnd (rrow_spec k0 D p1 hk hR (by omega)) ?_
    refine bnd r2 (bnd rdS_one (bnd ra ?_))
    rw [w1 (by omega)]
    exact r
theorem rsplit_spec {k0 : Nat} (hk0 : 70000 ≤ k0) (D : CallF) {h : AHeap} {pb B k m : Nat} (p : PR h pb B k m) (hk : 0 < k) (hR : k + m ≤ 255) (s : ByteArray) (hs : s.size ≤ 65536) :
    ∃ h' o, ref05_Plan_Split k0 D (some ⟨pb, 0, none⟩) s h = some ((o, 0), h') ∧ Keeps h h' ∧ Acc encS 9 h.next h' o (shardsL k m s) := by
  simp only [ref05_Plan_Split]
  obtain ⟨h1, o1, r1, k1, A1⟩ := rpieces_spec hk0 D p hk (by omega) s hs
  let h2 := h1.new (.cells [] 9 true 0)
  have k2 : Keeps h1 h2 := Keeps.new _ _
  have R2 : Row encS h2 o1 (piecesL k s) := A1.row.keeps k2
  have hne : piecesL k s ≠ [] := by intro e; have := congrArg List.length e; rw [piecesL_length] at this; simp at this; omega
  let h3 := h2.new (outB encS 9 (piecesL k s))
  have k3 : Keeps h2 h3 := Keeps.new _ _
  have G := Grown.of (enc := encS) (e := 9) (h := h2) hne
  have p3 := p.keeps (k1.trans (k2.trans k3))
  have hol : o1.len = k := by rw [R2.1, piecesL_length]
  have rap : appendA 1 16 9 h2 (⟨some ⟨h1.next, 0, some 0⟩, 0, 0⟩ : Slc) ((piecesL k s).map encS) o1.len = some (⟨some ⟨h2.next, 0, some 2⟩, k, k⟩, h3) := by
    rw [hol]
    unfold appendA
    rw [if_neg (by show ¬ 0 + k ≤ 0; omega), if_pos (by show 2 * (0 + k) * 16 ≤ _ ∧ _; omega)]
    simp only [Nat.zero_mul, AHeap.rdL, Option.bind_some, List.nil_append, Nat.zero_add]
    rfl
  have hl3 : ∀ a, o1.a = some a → a.block < h2.next := fun a ha => Nat.lt_of_lt_of_le (A1.lt a ha).1 k2.nx
  have Gk : Grown encS 9 h3 h2.next ⟨some ⟨h2.next, 0, some 2⟩, k, k⟩ (piecesL k s) := by
    have e : (piecesL k s).length = k := piecesL_length k s
    rw [e] at G; exact G
  have Ak : Acc encS 9 h2.next h3 ⟨some ⟨h2.next, 0, some 2⟩, k, k⟩ ((List.range (k + 0)).map (shardB k s)) := by
    rw [Nat.add_zero, pieces_range]
    exact ⟨.inr ⟨h2.next, Gk⟩, fun a ha => by cases ha; exact ⟨by show h2.next < h2.next + 1; omega, Nat.le_refl _⟩⟩
  obtain ⟨bot1, e1⟩ := iterK_of (α := rs0T) (fun _ _ _ _ _ => none) (ref05_Plan_Shards_l0b k0 D fun (out5 : Slc) (h6 : AHeap) => some (out5, h6)) (show m + 1 ≤ k0 by omega)
  obtain ⟨h', o', r, k', A'⟩ := rshards_l0 hk0 D (fun (out5 : Slc) (h6 : AHeap) => some (out5, h6)) bot1 hk hR s hs o1 hl3 R2 m 0 h3 ⟨some ⟨h2.next, 0, some 2⟩, k, k⟩ (by omega) (p.keeps (k1.trans k2)) k3 Ak
  refine ⟨h', o', ?_, k1.trans (k2.trans k'), ⟨A'.st, fun a ha => ⟨(A'.lt a ha).1, Nat.le_trans (k1.trans k2).nx (A'.lt a ha).2⟩⟩⟩
  refine ifn (by simp; omega) ?_
  refine bnd (v := (o', h')) ?_ rfl
  simp only [ref05_Plan_Shards]
  refine bnd r1 (bnd R2.rdS (bnd rap ?_))
  refine jn ?_
  refine bnd rfl (bnd (ldI_at p3.blk rfl) ?_)
  unfold ref05_Plan_Shards_l0
  rw [e1]
  exact r
theorem rsplit_no {k0 : Nat} (D : CallF) (p : Option Addr) (s : ByteArray) (h : AHeap) (hs : s.size > 65536) : ref05_Plan_Split k0 D p s h = some ((⟨none, 0, 0⟩, 2), h) := by
  simp only [ref05_Plan_Split]
  exact ifp (by simp; omega) rfl
theorem split_no {k0 : Nat} {h : AHeap} {pb f2 B sb fb k m : Nat} (p : PL h pb f2 B sb fb k m) (hk : 0 < k) (hk2 : k ≤ 255) (s : ByteArray) (hs : s.size > 65536) : stripe_Plan_Split k0 (DD k0) (some ⟨pb, 0, none⟩) s h = some ((⟨none, 0, 0⟩, 2), h) := by
  simp only [stripe_Plan_Split]
  have re := each_spec k0 (DD k0) p hk hk2 (s.size : Int)
  unfold eachA at re
  rw [if_pos (by omega)] at re
  exact bnd re (ifp (by simp) rfl)
end Gb
namespace Gb
open Go Gx Go.Proofs
def Tru {R : Type} (x : Option (R × AHeap)) (v : R) : Prop := ∃ h', x = some (v, h')
theorem Tru.bnd {R α : Type} {v : R} {x : Option α} {a : α} {f : α → Option (R × AHeap)} (h : x = some a) (k : Tru (f a) v) : Tru (x.bind f) v := by rw [h]; exact k
theorem Tru.jn {R α : Type} {v : R} {J : α} {b : α → Option (R × AHeap)} (k : ∀ j, j = J → Tru (b j) v) : Tru (joinK J b) v := k J rfl
theorem Tru.ifp {R : Type} {v : R} {c : Prop} [Decidable c] {a b : Option (R × AHeap)} (h : c) (k : Tru a v) : Tru (if c then a else b) v := by rw [if_pos h]; exact k
theorem Tru.ifn {R : Type} {v : R} {c : Prop} [Decidable c] {a b : Option (R × AHeap)} (h : ¬ c) (k : Tru b v) : Tru (if c then a else b) v := by rw [if_neg h]; exact k
theorem Tru.of {R : Type} {v : R} {h : AHeap} : Tru (some (v, h)) v := ⟨h, rfl⟩
def abc : ByteArray := ⟨#[97, 98, 99]⟩
theorem abc0 : shardB 2 abc 0 = ⟨#[97, 98]⟩ := by decide +kernel
theorem abc1 : shardB 2 abc 1 = ⟨#[99, 0]⟩ := by decide +kernel
theorem abc2 : (shardB 2 abc 2).size = 2 := by decide +kernel
theorem shards_get {k m i : Nat} (s : ByteArray) (hi : i < k + m) : (shardsL k m s)[i]? = some (shardB k s i) := by simp [shardsL, hi]
theorem shardsL_length (k m : Nat) (s : ByteArray) : (shardsL k m s).length = k + m := by simp [shardsL]
theorem shards_row {h : AHeap} {ob k m : Nat} {s : ByteArray} (hb : h.get ob = some (outB encS 9 (shardsL k m s))) (hl : ob < h.next) : Row encS h (⟨some ⟨ob, 0, some 0⟩, k + m, k + m⟩ : Slc) (shardsL k m s) := by
  rw [show shardsL k m s = filT (shardB k s) (k + m) (k + m) from filT_all.symm] at hb
  have := row_fill (cap := k + m) hb hl (Nat.le_refl _)
  exact this
theorem sworks_spec {k0 : Nat} (hk0 : 70000 ≤ k0) (h : AHeap) : ∃ h', law05_works k0 (DD k0) h = some (true, h') ∧ Keeps h h' := by
  simp only [law05_works]
  obtain ⟨h1, pb, f2, B, sb, fb, r1, p1, k1, a1, a2, a3, a4, a5⟩ := snew_spec (k0 := k0) (by omega) h (k := 2) (m := 1) (by decide) (by decide)
  obtain ⟨h2, ob, r2, b2, o1, o2, p2, c2⟩ := split_spec hk0 p1 (by decide) (by decide) abc (by decide)
  have R := shards_row b2 o2
  obtain ⟨q0, i0, l0⟩ := R.ldS (shards_get (i := 0) abc (by decide))
  obtain ⟨q1, i1, l1⟩ := R.ldS (shards_get (i := 1) abc (by decide))
  obtain ⟨q2, i2, l2⟩ := R.ldS (shards_get (i := 2) abc (by decide))
  refine ⟨h2, ?_, Chg.beh k1 c2 (fun x hx e => by have : x = f2 := e; omega)⟩
  refine bnd r1 ?_
  refine jn ?_
  refine ifn (by simp) ?_
  refine ifn (by simp) ?_
  refine bnd r2 ?_
  refine ifp (by simp) ?_
  refine ifp (by simp) ?_
  refine bnd i0 (bnd l0 ?_)
  refine ifp (by rw [abc0]; decide +kernel) ?_
  refine bnd i1 (bnd l1 ?_)
  refine ifp (by rw [abc1]; decide +kernel) ?_
  refine bnd i2 (bnd l2 ?_)
  rw [abc2]; rfl
def spo : ByteArray := ⟨#[115, 112, 111, 105, 108, 116]⟩
abbrev spT := Slc → Int → AHeap → Option ((Unit) × AHeap)
theorem spoil_l0 (K : Nat) (D : CallF) (bot : spT) {ob n cap : Nat} {sp : Option Nat} (hn : n < 9223372036854775807) : ∀ (d i : Nat) (h : AHeap) (l : List ByteArray), i + d = n → l.length = n → h.get ob = some (outB encS 9 l) →
    Tru (iterK bot (d + 1) (book_SpoilTexts_l0b K D) (⟨some ⟨ob, 0, sp⟩, n, cap⟩ : Slc) (i : Int) h) ()
  | 0, i, h, l, hi, hl, hb => by
    obtain rfl : i = n := by omega
    rw [iterK_s]; simp only [book_SpoilTexts_l0b]
    exact Tru.ifn (by simp) Tru.of
  | d + 1, i, h, l, hi, hl, hb => by
    rw [iterK_s]; simp only [book_SpoilTexts_l0b]
    refine Tru.ifp (by simp; omega) ?_
    refine Tru.bnd (idxL_out (by omega)) ?_
    have hst : st1 (⟨ob, i, none⟩ : Addr) (.string spo) h = some (h.set ob (outB encS 9 (l.set i spo))) := by
      have := st1_of (sp := none) (o := i) (v := .string spo) hb (by rw [List.length_map]; omega) rfl
      rw [this]; congr 3
      rw [List.map_set]; rfl
    refine Tru.bnd hst ?_
    rw [w1 (by omega)]
    exact spoil_l0 K D bot hn d (i + 1) _ (l.set i spo) (by omega) (by simpa using hl) (set_get _ _ _)
theorem spoil_spec {k0 : Nat} (D : CallF) {h : AHeap} {ob n cap : Nat} {sp : Option Nat} {l : List ByteArray} (hb : h.get ob = some (outB encS 9 l)) (hl : l.length = n) (hn : n < 9223372036854775807) (hk : n < k0) : Tru (book_SpoilTexts k0 D (⟨some ⟨ob, 0, sp⟩, n, cap⟩ : Slc) h) () := by
  simp only [book_SpoilTexts]
  unfold book_SpoilTexts_l0
  obtain ⟨bot1, e1⟩ := iterK_of (α := spT) (fun _ _ _ => none) (book_SpoilTexts_l0b k0 D) (show n + 1 ≤ k0 by omega)
  rw [e1]
  exact spoil_l0 k0 D bot1 hn n 0 h l (by omega) hl hb
theorem spoil_nil {k0 : Nat} (hk : 1 ≤ k0) (D : CallF) (h : AHeap) : Tru (book_SpoilTexts k0 D (⟨none, 0, 0⟩ : Slc) h) () := by
  simp only [book_SpoilTexts]
  unfold book_SpoilTexts_l0
  obtain ⟨bot1, e1⟩ := iterK_of (α := spT) (fun _ _ _ => none) (book_SpoilTexts_l0b k0 D) hk
  rw [e1, iterK_s]; simp only [book_SpoilTexts_l0b]
  exact Tru.ifn (by simp) Tru.of
theorem makes5_true {k0 : Nat} (hk0 : 70000 ≤ k0) (sh : Int × Int) (s : ByteArray) (long : Int) (h : AHeap) : Tru (law05_StripeMakes k0 (DD k0) sh s long h) true := by
  simp only [law05_StripeMakes]
  obtain ⟨a, b⟩ := sh
  let h1 := h.new (.cells [.int .i64 a, .int .i64 b] 40 true 0)
  have hb1 : h1.get h.next = some (.cells [.int .i64 a, .int .i64 b] 40 true 0) := by simp [h1]
  have hn1 : h1.next = h.next + 1 := rfl
  have l0 : ldI .i64 ⟨h.next, 0, none⟩ h1 = some a := ldI_at hb1 rfl
  have l1 : ldI .i64 ⟨h.next, 1, none⟩ h1 = some b := ldI_at hb1 rfl
  refine Tru.jn fun j hj => ?_
  have key : ∀ y : Bool, (y = false → ¬ (a > 12 ∧ a ≤ 255) ∧ ¬ (b > 8 ∧ b ≤ 255) ∧ ¬ (s.size > 500 ∧ s.size ≤ 65536)) → Tru (j s long (some ⟨h.next, 0, none⟩) y h1) true := by
    intro y hy
    subst hj
    cases y with
    | true =>
      obtain ⟨h', r, _⟩ := sworks_spec hk0 h1
      refine Tru.ifp rfl ?_
      exact Tru.bnd r Tru.of
    | false =>
      obtain ⟨c1, c2, c3⟩ := hy rfl
      refine Tru.ifn (by decide) ?_
      refine Tru.bnd rfl (Tru.bnd l0 (Tru.bnd rfl (Tru.bnd l1 ?_)))
      by_cases hv : a < 1 ∨ b < 0 ∨ a > 255 ∨ b > 255 - a
      · obtain ⟨g1, r1, k1⟩ := snew_no (k0 := k0) h1 hv
        have l0' : ldI .i64 ⟨h.next, 0, none⟩ g1 = some a := ldI_at ((k1.oth _ (by omega) (fun f => f)).trans hb1) rfl
        have l1' : ldI .i64 ⟨h.next, 1, none⟩ g1 = some b := ldI_at ((k1.oth _ (by omega) (fun f => f)).trans hb1) rfl
        obtain ⟨g2, r2, k2⟩ := rsnew_no (k0 := k0) (DD k0) g1 hv
        obtain ⟨g3, r3, _⟩ := sworks_spec hk0 g2
        refine Tru.bnd r1 (Tru.bnd rfl (Tru.bnd l0' (Tru.bnd rfl (Tru.bnd l1' (Tru.bnd r2 ?_)))))
        refine Tru.jn fun j2 hj2 => ?_
        refine Tru.ifn (by simp) ?_
        refine Tru.ifn (by simp) ?_
        refine Tru.bnd r3 ?_
        subst hj2
        refine Tru.ifn (by simp) ?_
        exact Tru.ifp rfl Tru.of
      · obtain ⟨k, rfl⟩ : ∃ k : Nat, a = k := ⟨a.toNat, by omega⟩
        obtain ⟨m, rfl⟩ : ∃ m : Nat, b = m := ⟨b.toNat, by omega⟩
        have hk : 0 < k := by omega
        have hk12 : k ≤ 12 := by omega
        have hm8 : m ≤ 8 := by omega
        have hR : k + m ≤ 255 := by omega
        obtain ⟨g1, pb, f2, B, sb, fb, r1, p1, k1, q1, q2, q3, q4, q5⟩ := snew_spec (k0 := k0) (by omega) h1 (k := k) (m := m) hk hR
        have x1 := (k1.oth h.next (by omega) (fun f => f)).trans hb1
        obtain ⟨g2, pr, B2, r2, p2, k2, q6, q7⟩ := rsnew_spec (k0 := k0) (by omega) (DD k0) g1 (k := k) (m := m) hk hR
        obtain ⟨g3, r3, k3⟩ := sworks_spec hk0 g2
        have P3 := p1.keeps (k2.trans k3)
        have Q3 := p2.keeps k3
        refine Tru.bnd r1 (Tru.bnd rfl (Tru.bnd (ldI_at x1 rfl) (Tru.bnd rfl (Tru.bnd (ldI_at x1 rfl) (Tru.bnd r2 ?_)))))
        refine Tru.jn fun j2 hj2 => ?_
        refine Tru.ifn (by simp) ?_
        refine Tru.ifn (by simp) ?_
        refine Tru.bnd r3 ?_
        subst hj2
        refine Tru.ifn (by simp) ?_
        refine Tru.ifn (by simp) ?_
        have rs : stripe_Plan_Shape k0 (DD k0) (some ⟨pb, 0, none⟩) g3 = some (((k : Int), (m : Int)), g3) := by
          simp only [stripe_Plan_Shape]
          exact bnd rfl (bnd (ldI_at P3.blk rfl) (bnd rfl (bnd (ldI_at P3.blk rfl) rfl)))
        refine Tru.bnd rs ?_
        refine Tru.bnd (each_spec k0 (DD k0) P3 hk (by omega) long) ?_
        refine Tru.bnd (reach_spec k0 (DD k0) Q3 hk (by omega) long) ?_
        have x3 : g3.get h.next = some (.cells [.int .i64 (k : Int), .int .i64 (m : Int)] 40 true 0) := by
          have n1 := k1.nx
          exact ((k2.trans k3).oth h.next (by omega) (fun f => f)).trans x1
        by_cases hs : s.size ≤ 65536
        · obtain ⟨g4, ob, r4, b4, o1, o2, P4, c4⟩ := split_spec hk0 P3 hk hR s hs
          obtain ⟨g5, o, r5, k5, A5⟩ := rsplit_spec hk0 (DD k0) (Q3.chg c4 (fun e => by
            have := P3.lf; have : pr = f2 := e; have n1 := p1.lf; omega) (fun e => by have : B2 = f2 := e; have n1 := p1.lf; omega)) hk hR s hs
          have Rp : Row encS g5 (⟨some ⟨ob, 0, some 0⟩, k + m, k + m⟩ : Slc) (shardsL k m s) := (shards_row b4 o2).keeps k5
          have rsame := sameS_spec (k := k0) (DD k0) Rp A5.row (by rw [shardsL_length]; omega) (by rw [shardsL_length]; omega)
          have b5 : g5.get ob = some (outB encS 9 (shardsL k m s)) := (k5.oth _ o2 (fun f => f)).trans b4
          have x5 : g5.get h.next = some (.cells [.int .i64 (k : Int), .int .i64 (m : Int)] 40 true 0) := by
            have n1 := k1.nx; have n2 := k2.nx; have n3 := k3.nx; have n4 := c4.nx
            exact (k5.oth h.next (by omega) (fun f => f)).trans ((c4.oth h.next (by omega) (fun e => by have : h.next = f2 := e; omega)).trans x3)
          obtain ⟨g6, r6⟩ := spoil_spec (k0 := k0) (DD k0) (cap := k + m) (sp := some 0) b5 (shardsL_length k m s) (by omega) (by omega)
          refine Tru.bnd r4 (Tru.bnd r5 ?_)
          refine Tru.jn fun j3 hj3 => ?_
          refine Tru.bnd rfl (Tru.bnd (ldI_at x5 rfl) ?_)
          refine Tru.ifp (by simp) ?_
          refine Tru.bnd rfl (Tru.bnd (ldI_at x5 rfl) ?_)
          refine Tru.ifp (by simp) ?_
          refine Tru.ifp (by simp) ?_
          refine Tru.ifp (by simp) ?_
          refine Tru.bnd rsame ?_
          refine Tru.ifp rfl ?_
          subst hj3
          exact Tru.bnd r6 Tru.of
        · have r4 := split_no (k0 := k0) P3 hk (by omega) s (by omega)
          have r5 := rsplit_no (k0 := k0) (DD k0) (some ⟨pr, 0, none⟩) s g3 (by omega)
          have rsame := sameS_spec (k := k0) (DD k0) (Row.nil encS g3 none 0) (Row.nil encS g3 none 0) (by simp; omega) (by simp)
          obtain ⟨g6, r6⟩ := spoil_nil (k0 := k0) (by omega) (DD k0) g3
          refine Tru.bnd r4 (Tru.bnd r5 ?_)
          refine Tru.jn fun j3 hj3 => ?_
          refine Tru.bnd rfl (Tru.bnd (ldI_at x3 rfl) ?_)
          refine Tru.ifp (by simp) ?_
          refine Tru.bnd rfl (Tru.bnd (ldI_at x3 rfl) ?_)
          refine Tru.ifp (by simp) ?_
          refine Tru.ifp (by simp) ?_
          refine Tru.ifp (by simp) ?_
          refine Tru.bnd rsame ?_
          refine Tru.ifp rfl ?_
          subst hj3
          exact Tru.bnd r6 Tru.of
  refine Tru.bnd l0 ?_
  by_cases c1 : a > 12
  · refine Tru.ifp (decide_eq_true c1) ?_
    refine Tru.bnd l0 ?_
    by_cases c2 : a ≤ 255
    · exact Tru.ifp (decide_eq_true c2) (key true (fun e => by cases e))
    · refine Tru.ifn (by simpa using c2) ?_
      refine Tru.bnd l1 ?_
      by_cases c3 : b > 8
      · refine Tru.ifp (decide_eq_true c3) (Tru.bnd l1 ?_)
        by_cases c4 : b ≤ 255
        · exact Tru.ifp (decide_eq_true c4) (key true (fun e => by cases e))
        · refine Tru.ifn (by simpa using c4) ?_
          by_cases c5 : (s.size : Int) > 500
          · exact Tru.ifp (decide_eq_true c5) (key _ (fun e => by simp at e; omega))
          · exact Tru.ifn (by simpa using c5) (key false (fun _ => by omega))
      · refine Tru.ifn (by simpa using c3) ?_
        by_cases c5 : (s.size : Int) > 500
        · exact Tru.ifp (decide_eq_true c5) (key _ (fun e => by simp at e; omega))
        · exact Tru.ifn (by simpa using c5) (key false (fun _ => by omega))
  · refine Tru.ifn (by simpa using c1) ?_
    refine Tru.bnd l1 ?_
    by_cases c3 : b > 8
    · refine Tru.ifp (decide_eq_true c3) (Tru.bnd l1 ?_)
      by_cases c4 : b ≤ 255
      · exact Tru.ifp (decide_eq_true c4) (key true (fun e => by cases e))
      · refine Tru.ifn (by simpa using c4) ?_
        by_cases c5 : (s.size : Int) > 500
        · exact Tru.ifp (decide_eq_true c5) (key _ (fun e => by simp at e; omega))
        · exact Tru.ifn (by simpa using c5) (key false (fun _ => by omega))
    · refine Tru.ifn (by simpa using c3) ?_
      by_cases c5 : (s.size : Int) > 500
      · exact Tru.ifp (decide_eq_true c5) (key _ (fun e => by simp at e; omega))
      · exact Tru.ifn (by simpa using c5) (key false (fun _ => by omega))
end Gb
