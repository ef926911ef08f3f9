import Derived.Test.YtkpblfioibiidaaProg
import Derived.Test.YtkpblfioibiidaaGx2
namespace Gy
open Go Gx Go.Proofs
set_option maxRecDepth 100000

noncomputable def C_field_New (_k : Nat) (D : CallF) : CallF := mkC D []
noncomputable def field_New (_k : Nat) (_D : CallF)  (h : AHeap) : Option (((Option Addr)) × AHeap) :=
  let h1 := AHeap.new h (.cells ([.int .u32 0] ++ [.int .i32 0] ++ [.int .u32 0] ++ List.replicate 510 (.int .u8 0) ++ List.replicate 256 (.int .i64 0)) 97 true 0)
  some ((some (⟨h.next, 0, none⟩ : Addr)), h1)
def r_field_New : RCode := .seq (.region [⟨some 0, .p (.mv (.const (.pointer none))), none, none⟩])
  (.seq (.region [⟨some 1, .p (.build ([.int .u32 0] ++ [.int .i32 0] ++ [.int .u32 0] ++ List.replicate 510 (.int .u8 0) ++ List.replicate 256 (.int .i64 0)) []), none, none⟩,
  ⟨some 2, .a (.box 97 (.tmp 1)), none, none⟩,
  ⟨some 0, .p (.mv (.tmp 2)), none, none⟩])
  (.ret))
noncomputable def e_field_New (k : Nat) (D : CallF) : Ent := entOf 13 [] [(0, .p)] (field_New k D)
theorem q_field_New : (Try.f13.body).bind (rcodeOf Try.prog 0 Try.f13.ntmps) = some (strip r_field_New) := by kernel_rfl
theorem t_field_New (k : Nat) (D : CallF) : curF [] (fun args h => denF (C_field_New k D) k r_field_New [(0, .p)] [none] args h) = field_New k D := by kernel_rfl
theorem ok_field_New {D : CallF} (hD : CSound Try.prog 0 D) (k : Nat) : EntOk Try.prog 0 (e_field_New k D) :=
  entOf_ok2 (mkC_sound hD (EntsOk.none)) Try.func13 rfl q_field_New rfl (t_field_New k D)
end Gy

namespace Gy
open Go Gx Go.Proofs
set_option maxRecDepth 100000

noncomputable def C_book_Among (_k : Nat) (D : CallF) : CallF := mkC D []
noncomputable def book_Among (_k : Nat) (_D : CallF) (x_0 : Int) (n_1 : Int) (h : AHeap) : Option ((Int) × AHeap) :=
  (if n_1 = 0 then none else
  (if n_1 = 0 then none else
  let t1 : Int := (Int.tmod (IntKind.wrap .i64 ((Int.tmod x_0 n_1) + n_1)) n_1)
  some (t1, h)))
def r_book_Among : RCode := .seq (.region [⟨some 4, .p (.mv (.const (.int .i64 0))), none, none⟩])
  (.seq (.region [⟨some 5, .p (.mv (.tmp 0)), none, none⟩,
  ⟨some 6, .p (.mv (.tmp 1)), none, none⟩,
  ⟨some 7, .p (.bin .rem (.tmp 5) (.tmp 6)), none, none⟩,
  ⟨some 8, .p (.mv (.tmp 1)), none, none⟩,
  ⟨some 9, .p (.bin .add (.tmp 7) (.tmp 8)), none, none⟩,
  ⟨some 10, .p (.mv (.tmp 1)), none, none⟩,
  ⟨some 11, .p (.bin .rem (.tmp 9) (.tmp 10)), none, none⟩,
  ⟨some 4, .p (.mv (.tmp 11)), none, none⟩])
  (.ret))
noncomputable def e_book_Among (k : Nat) (D : CallF) : Ent := entOf 15 [(0, .i .i64), (1, .i .i64)] [(4, .i .i64)] (book_Among k D)
theorem q_book_Among : (Try.f15.body).bind (rcodeOf Try.prog 0 Try.f15.ntmps) = some (strip r_book_Among) := by kernel_rfl
theorem t_book_Among (k : Nat) (D : CallF) : curF [(0, .i .i64), (1, .i .i64)] (fun args h => denF (C_book_Among k D) k r_book_Among [(4, .i .i64)] [none] args h) = book_Among k D := by kernel_rfl
theorem ok_book_Among {D : CallF} (hD : CSound Try.prog 0 D) (k : Nat) : EntOk Try.prog 0 (e_book_Among k D) :=
  entOf_ok2 (mkC_sound hD (EntsOk.none)) Try.func15 rfl q_book_Among rfl (t_book_Among k D)
end Gy

namespace Gy
open Go Gx Go.Proofs
noncomputable def e_sync_atomic_LoadUint32 (_k : Nat) (_D : CallF) : Ent := eLoad 85 .u32
theorem ok_sync_atomic_LoadUint32 {D : CallF} (_hD : CSound Try.prog 0 D) (k : Nat) : EntOk Try.prog 0 (e_sync_atomic_LoadUint32 k D) :=
  load_ok Try.func85 rfl rfl rfl .u32 (by kernel_rfl)
end Gy

namespace Gy
open Go Gx Go.Proofs
set_option maxRecDepth 100000

noncomputable def C_sync_atomic_Bool_Load (k : Nat) (D : CallF) : CallF := mkC D [e_sync_atomic_LoadUint32 k D]
noncomputable def sync_atomic_Bool_Load (_k : Nat) (_D : CallF) (x_0 : Option Addr) (h : AHeap) : Option ((Bool) × AHeap) :=
  (x_0).bind fun p1 =>
  (ldI .u32 (⟨p1.block, p1.off + 0, none⟩ : Addr) h).bind fun x2 =>
  some ((x2 != 0), h)
def r_sync_atomic_Bool_Load : RCode := .seq (.region [⟨some 2, .p (.mv (.const (.bool false))), none, none⟩])
  (.seq (.region [⟨some 3, .p (.mv (.tmp 0)), none, none⟩,
  ⟨some 4, .p (.nilP (.tmp 3)), none, none⟩,
  ⟨some 5, .p (.fieldAddr 0 (.tmp 4)), none, none⟩,
  ⟨some 6, .e (.call (.func 85) [.tmp 5]), none, none⟩,
  ⟨some 7, .p (.bin .neq (.tmp 6) (.const (.int .u32 0))), none, none⟩,
  ⟨some 2, .p (.mv (.tmp 7)), none, none⟩])
  (.ret))
noncomputable def e_sync_atomic_Bool_Load (k : Nat) (D : CallF) : Ent := entOf 82 [(0, .p)] [(2, .b)] (sync_atomic_Bool_Load k D)
theorem q_sync_atomic_Bool_Load : (Try.f82.body).bind (rcodeOf Try.prog 0 Try.f82.ntmps) = some (strip r_sync_atomic_Bool_Load) := by kernel_rfl
theorem t_sync_atomic_Bool_Load (k : Nat) (D : CallF) : curF [(0, .p)] (fun args h => denF (C_sync_atomic_Bool_Load k D) k r_sync_atomic_Bool_Load [(2, .b)] [none] args h) = sync_atomic_Bool_Load k D := by kernel_rfl
theorem ok_sync_atomic_Bool_Load {D : CallF} (hD : CSound Try.prog 0 D) (k : Nat) : EntOk Try.prog 0 (e_sync_atomic_Bool_Load k D) :=
  entOf_ok2 (mkC_sound hD (EntsOk.more (ok_sync_atomic_LoadUint32 hD k) (EntsOk.none))) Try.func82 rfl q_sync_atomic_Bool_Load rfl (t_sync_atomic_Bool_Load k D)
end Gy

namespace Gy
open Go Gx Go.Proofs
noncomputable def e_internal_race_Disable (_k : Nat) (_D : CallF) : Ent := eMark0 93
theorem ok_internal_race_Disable {D : CallF} (_hD : CSound Try.prog 0 D) (k : Nat) : EntOk Try.prog 0 (e_internal_race_Disable k D) :=
  mark0_ok Try.func93 rfl rfl rfl .disable (by kernel_rfl)
end Gy

namespace Gy
open Go Gx Go.Proofs
noncomputable def e_sync_atomic_CompareAndSwapInt32 (_k : Nat) (_D : CallF) : Ent := eCas 94 .i32
theorem ok_sync_atomic_CompareAndSwapInt32 {D : CallF} (_hD : CSound Try.prog 0 D) (k : Nat) : EntOk Try.prog 0 (e_sync_atomic_CompareAndSwapInt32 k D) :=
  cas_ok Try.func94 rfl rfl rfl .i32 (by kernel_rfl)
end Gy

namespace Gy
open Go Gx Go.Proofs
noncomputable def e_internal_race_Enable (_k : Nat) (_D : CallF) : Ent := eMark0 95
theorem ok_internal_race_Enable {D : CallF} (_hD : CSound Try.prog 0 D) (k : Nat) : EntOk Try.prog 0 (e_internal_race_Enable k D) :=
  mark0_ok Try.func95 rfl rfl rfl .enable (by kernel_rfl)
end Gy

namespace Gy
open Go Gx Go.Proofs
noncomputable def e_internal_race_Acquire (_k : Nat) (_D : CallF) : Ent := eMark1 96
theorem ok_internal_race_Acquire {D : CallF} (_hD : CSound Try.prog 0 D) (k : Nat) : EntOk Try.prog 0 (e_internal_race_Acquire k D) :=
  mark1_ok Try.func96 rfl rfl rfl .acquire (by kernel_rfl)
end Gy

namespace Gy
open Go Gx Go.Proofs
set_option maxRecDepth 100000

noncomputable def C_internal_sync_Mutex_Lock (k : Nat) (D : CallF) : CallF := mkC D [e_internal_race_Disable k D, e_sync_atomic_CompareAndSwapInt32 k D, e_internal_race_Enable k D, e_internal_race_Acquire k D]
noncomputable def internal_sync_Mutex_Lock (_k : Nat) (_D : CallF) (m_0 : Option Addr) (h : AHeap) : Option ((Unit) × AHeap) :=
  (m_0).bind fun p1 =>
  (ldI .i32 (⟨p1.block, p1.off + 0, none⟩ : Addr) h).bind fun x2 =>
  (if x2 = 0 then
  (st1 (⟨p1.block, p1.off + 0, none⟩ : Addr) (.int .i32 1) h).bind fun h3 =>
  (m_0).bind fun p4 =>
  (AHeap.rd1 h3 p4.block p4.off).bind fun _ =>
  some ((), h3)
  else none)
def r_internal_sync_Mutex_Lock : RCode := .seq (.region [⟨some 2, .e (.call (.func 93) []), none, none⟩])
  (.seq (.seq (.region [⟨some 3, .p (.mv (.tmp 0)), none, none⟩,
  ⟨some 4, .p (.nilP (.tmp 3)), none, none⟩,
  ⟨some 5, .p (.fieldAddr 0 (.tmp 4)), none, none⟩,
  ⟨some 6, .e (.call (.func 94) [.tmp 5, .const (.int .i32 0), .const (.int .i32 1)]), none, none⟩])
  (.cond (.tmp 6) (.seq (.cond (.const (.bool true)) (.seq (.region [⟨some 7, .e (.call (.func 95) []), none, none⟩])
  (.region [⟨some 8, .p (.mv (.tmp 0)), none, none⟩,
  ⟨some 9, .l (.convUP (.tmp 8)), none, none⟩,
  ⟨some 10, .e (.call (.func 96) [.tmp 9]), none, none⟩])) (.skip))
  (.ret)) (.skip)))
  (.region [⟨some 11, .p (.mv (.tmp 0)), none, none⟩,
  ⟨some 12, .e (.call (.func 97) [.tmp 11]), none, none⟩]))
noncomputable def e_internal_sync_Mutex_Lock (k : Nat) (D : CallF) : Ent := entOf 89 [(0, .p)] [] (internal_sync_Mutex_Lock k D)
theorem q_internal_sync_Mutex_Lock : (Try.f89.body).bind (rcodeOf Try.prog 0 Try.f89.ntmps) = some (strip r_internal_sync_Mutex_Lock) := by kernel_rfl
theorem t_internal_sync_Mutex_Lock (k : Nat) (D : CallF) : curF [(0, .p)] (fun args h => denF (C_internal_sync_Mutex_Lock k D) k r_internal_sync_Mutex_Lock [] [] args h) = internal_sync_Mutex_Lock k D := by kernel_rfl
theorem ok_internal_sync_Mutex_Lock {D : CallF} (hD : CSound Try.prog 0 D) (k : Nat) : EntOk Try.prog 0 (e_internal_sync_Mutex_Lock k D) :=
  entOf_ok2 (mkC_sound hD (EntsOk.more (ok_internal_race_Disable hD k) (EntsOk.more (ok_sync_atomic_CompareAndSwapInt32 hD k) (EntsOk.more (ok_internal_race_Enable hD k) (EntsOk.more (ok_internal_race_Acquire hD k) (EntsOk.none)))))) Try.func89 rfl q_internal_sync_Mutex_Lock rfl (t_internal_sync_Mutex_Lock k D)
end Gy

namespace Gy
open Go Gx Go.Proofs
set_option maxRecDepth 100000

noncomputable def C_sync_Mutex_Lock (k : Nat) (D : CallF) : CallF := mkC D [e_internal_sync_Mutex_Lock k D]
noncomputable def sync_Mutex_Lock (k : Nat) (D : CallF) (m_0 : Option Addr) (h : AHeap) : Option ((Unit) × AHeap) :=
  (m_0).bind fun p1 =>
  (internal_sync_Mutex_Lock k D (some (⟨p1.block, p1.off + 0, none⟩ : Addr)) h).bind fun r2 =>
  some ((), r2.2)
def r_sync_Mutex_Lock : RCode := .region [⟨some 2, .p (.mv (.tmp 0)), none, none⟩,
  ⟨some 3, .p (.nilP (.tmp 2)), none, none⟩,
  ⟨some 4, .p (.fieldAddr 0 (.tmp 3)), none, none⟩,
  ⟨some 5, .e (.call (.func 89) [.tmp 4]), none, none⟩]
noncomputable def e_sync_Mutex_Lock (k : Nat) (D : CallF) : Ent := entOf 86 [(0, .p)] [] (sync_Mutex_Lock k D)
theorem q_sync_Mutex_Lock : (Try.f86.body).bind (rcodeOf Try.prog 0 Try.f86.ntmps) = some (strip r_sync_Mutex_Lock) := by kernel_rfl
theorem t_sync_Mutex_Lock (k : Nat) (D : CallF) : curF [(0, .p)] (fun args h => denF (C_sync_Mutex_Lock k D) k r_sync_Mutex_Lock [] [] args h) = sync_Mutex_Lock k D := by kernel_rfl
theorem ok_sync_Mutex_Lock {D : CallF} (hD : CSound Try.prog 0 D) (k : Nat) : EntOk Try.prog 0 (e_sync_Mutex_Lock k D) :=
  entOf_ok2 (mkC_sound hD (EntsOk.more (ok_internal_sync_Mutex_Lock hD k) (EntsOk.none))) Try.func86 rfl q_sync_Mutex_Lock rfl (t_sync_Mutex_Lock k D)
end Gy

namespace Gy
open Go Gx Go.Proofs
set_option maxRecDepth 100000

noncomputable def C_sync_atomic_b32 (_k : Nat) (D : CallF) : CallF := mkC D []
noncomputable def sync_atomic_b32 (_k : Nat) (_D : CallF) (b_0 : Bool) (h : AHeap) : Option ((Int) × AHeap) :=
  (if b_0 = true then
  some (1, h)
  else
  some (0, h))
def r_sync_atomic_b32 : RCode := .seq (.region [⟨some 2, .p (.mv (.const (.int .u32 0))), none, none⟩])
  (.seq (.seq (.region [⟨some 3, .p (.mv (.tmp 0)), none, none⟩])
  (.cond (.tmp 3) (.seq (.region [⟨some 2, .p (.mv (.const (.int .u32 1))), none, none⟩])
  (.ret)) (.skip)))
  (.seq (.region [⟨some 2, .p (.mv (.const (.int .u32 0))), none, none⟩])
  (.ret)))
noncomputable def e_sync_atomic_b32 (k : Nat) (D : CallF) : Ent := entOf 92 [(0, .b)] [(2, .i .u32)] (sync_atomic_b32 k D)
theorem q_sync_atomic_b32 : (Try.f92.body).bind (rcodeOf Try.prog 0 Try.f92.ntmps) = some (strip r_sync_atomic_b32) := by kernel_rfl
theorem t_sync_atomic_b32 (k : Nat) (D : CallF) : curF [(0, .b)] (fun args h => denF (C_sync_atomic_b32 k D) k r_sync_atomic_b32 [(2, .i .u32)] [none] args h) = sync_atomic_b32 k D := by kernel_rfl
theorem ok_sync_atomic_b32 {D : CallF} (hD : CSound Try.prog 0 D) (k : Nat) : EntOk Try.prog 0 (e_sync_atomic_b32 k D) :=
  entOf_ok2 (mkC_sound hD (EntsOk.none)) Try.func92 rfl q_sync_atomic_b32 rfl (t_sync_atomic_b32 k D)
end Gy

namespace Gy
open Go Gx Go.Proofs
noncomputable def e_sync_atomic_StoreUint32 (_k : Nat) (_D : CallF) : Ent := eStore 91 .u32
theorem ok_sync_atomic_StoreUint32 {D : CallF} (_hD : CSound Try.prog 0 D) (k : Nat) : EntOk Try.prog 0 (e_sync_atomic_StoreUint32 k D) :=
  store_ok Try.func91 rfl rfl rfl .u32 (by kernel_rfl)
end Gy

namespace Gy
open Go Gx Go.Proofs
set_option maxRecDepth 100000

noncomputable def C_sync_atomic_Bool_Store (k : Nat) (D : CallF) : CallF := mkC D [e_sync_atomic_b32 k D, e_sync_atomic_StoreUint32 k D]
noncomputable def sync_atomic_Bool_Store (k : Nat) (D : CallF) (x_0 : Option Addr) (val_1 : Bool) (h : AHeap) : Option ((Unit) × AHeap) :=
  (sync_atomic_b32 k D val_1 h).bind fun r1 =>
  (x_0).bind fun p2 =>
  (ldI .u32 (⟨p2.block, p2.off + 0, none⟩ : Addr) r1.2).bind fun _ =>
  (st1 (⟨p2.block, p2.off + 0, none⟩ : Addr) (.int .u32 r1.1) r1.2).bind fun h4 =>
  some ((), h4)
def r_sync_atomic_Bool_Store : RCode := .draw [⟨3, ⟨some 7, .p (.mv (.tmp 1)), none, none⟩, [1], 0⟩,
  ⟨4, ⟨some 8, .e (.call (.func 92) [.tmp 7]), none, none⟩, [7], 0⟩,
  ⟨0, ⟨some 4, .p (.mv (.tmp 0)), none, none⟩, [0], 1⟩,
  ⟨1, ⟨some 5, .p (.nilP (.tmp 4)), none, none⟩, [4], 1⟩,
  ⟨2, ⟨some 6, .p (.fieldAddr 0 (.tmp 5)), none, none⟩, [5], 1⟩,
  ⟨5, ⟨some 9, .e (.call (.func 91) [.tmp 6, .tmp 8]), none, none⟩, [6, 8], 0⟩]
noncomputable def e_sync_atomic_Bool_Store (k : Nat) (D : CallF) : Ent := entOf 88 [(0, .p), (1, .b)] [] (sync_atomic_Bool_Store k D)
theorem q_sync_atomic_Bool_Store : (Try.f88.body).bind (rcodeOf Try.prog 0 Try.f88.ntmps) = some (strip r_sync_atomic_Bool_Store) := by kernel_rfl
theorem t_sync_atomic_Bool_Store (k : Nat) (D : CallF) : curF [(0, .p), (1, .b)] (fun args h => denF (C_sync_atomic_Bool_Store k D) k r_sync_atomic_Bool_Store [] [] args h) = sync_atomic_Bool_Store k D := by kernel_rfl
theorem ok_sync_atomic_Bool_Store {D : CallF} (hD : CSound Try.prog 0 D) (k : Nat) : EntOk Try.prog 0 (e_sync_atomic_Bool_Store k D) :=
  entOf_ok2 (mkC_sound hD (EntsOk.more (ok_sync_atomic_b32 hD k) (EntsOk.more (ok_sync_atomic_StoreUint32 hD k) (EntsOk.none)))) Try.func88 rfl q_sync_atomic_Bool_Store rfl (t_sync_atomic_Bool_Store k D)
theorem d_sync_atomic_Bool_Store {D : CallF} (hD : CSound Try.prog 0 D) (k : Nat) : EntD Try.prog 0 (e_sync_atomic_Bool_Store k D) :=
  entOf_okD (mkC_sound hD (EntsOk.more (ok_sync_atomic_b32 hD k) (EntsOk.more (ok_sync_atomic_StoreUint32 hD k) (EntsOk.none)))) Try.func88 rfl q_sync_atomic_Bool_Store rfl (t_sync_atomic_Bool_Store k D)
end Gy

namespace Gy
open Go Gx Go.Proofs
noncomputable def e_sync_atomic_AddInt32 (_k : Nat) (_D : CallF) : Ent := eAdd 99 .i32
theorem ok_sync_atomic_AddInt32 {D : CallF} (_hD : CSound Try.prog 0 D) (k : Nat) : EntOk Try.prog 0 (e_sync_atomic_AddInt32 k D) :=
  add_ok Try.func99 rfl rfl rfl .i32 (by kernel_rfl)
end Gy

namespace Gy
open Go Gx Go.Proofs
noncomputable def e_internal_race_ReleaseMerge (_k : Nat) (_D : CallF) : Ent := eMark1 98
theorem ok_internal_race_ReleaseMerge {D : CallF} (_hD : CSound Try.prog 0 D) (k : Nat) : EntOk Try.prog 0 (e_internal_race_ReleaseMerge k D) :=
  mark1_ok Try.func98 rfl rfl rfl .releaseMerge (by kernel_rfl)
end Gy

namespace Gy
open Go Gx Go.Proofs
set_option maxRecDepth 100000

noncomputable def C_internal_sync_Mutex_Unlock (k : Nat) (D : CallF) : CallF := mkC D [e_sync_atomic_AddInt32 k D, e_internal_race_Enable k D, e_internal_race_ReleaseMerge k D, e_internal_race_Disable k D]
noncomputable def internal_sync_Mutex_Unlock (_k : Nat) (D : CallF) (m_0 : Option Addr) (h : AHeap) : Option ((Unit) × AHeap) :=
  joinK (fun (m1 : Option Addr) (h2 : AHeap) =>
  (m1).bind fun p4 =>
  (ldI .i32 (⟨p4.block, p4.off + 0, none⟩ : Addr) h2).bind fun x5 =>
  (st1 (⟨p4.block, p4.off + 0, none⟩ : Addr) (.int .i32 (IntKind.wrap .i32 (x5 + (-1)))) h2).bind fun h6 =>
  joinK (fun (h7 : AHeap) =>
  some ((), h7)) fun j8 =>
  (if ((IntKind.wrap .i32 (x5 + (-1))) != 0) = true then
  D ((Unit) × AHeap) 100 [.pointer m1, .int .i32 (IntKind.wrap .i32 (x5 + (-1)))] h6 fun _ h10 =>
  j8 h10
  else
  j8 h6)) fun j3 =>
  (m_0).bind fun p11 =>
  (ldI .i32 (⟨p11.block, p11.off + 0, none⟩ : Addr) h).bind fun _x12 =>
  (m_0).bind fun p13 =>
  (AHeap.rd1 h p13.block p13.off).bind fun _ =>
  j3 m_0 h
def r_internal_sync_Mutex_Unlock : RCode := .seq (.join [(0, .p)] (.cond (.const (.bool true)) (.seq (.region [⟨some 3, .p (.mv (.tmp 0)), none, none⟩,
  ⟨some 4, .p (.nilP (.tmp 3)), none, none⟩,
  ⟨some 5, .p (.fieldAddr 0 (.tmp 4)), none, none⟩,
  ⟨some 6, .l (.load (.i .i32) (.tmp 5)), none, none⟩])
  (.seq (.region [⟨some 7, .p (.mv (.tmp 0)), none, none⟩,
  ⟨some 8, .l (.convUP (.tmp 7)), none, none⟩,
  ⟨some 9, .e (.call (.func 98) [.tmp 8]), none, none⟩])
  (.region [⟨some 10, .e (.call (.func 93) []), none, none⟩]))) (.skip)))
  (.seq (.region [⟨some 11, .p (.mv (.tmp 0)), none, none⟩,
  ⟨some 12, .p (.nilP (.tmp 11)), none, none⟩,
  ⟨some 13, .p (.fieldAddr 0 (.tmp 12)), none, none⟩,
  ⟨some 14, .e (.call (.func 99) [.tmp 13, .const (.int .i32 (-1))]), none, none⟩,
  ⟨some 2, .p (.mv (.tmp 14)), none, none⟩])
  (.seq (.join [] (.seq (.region [⟨some 15, .p (.mv (.tmp 2)), none, none⟩,
  ⟨some 16, .p (.bin .neq (.tmp 15) (.const (.int .i32 0))), none, none⟩])
  (.cond (.tmp 16) (.region [⟨some 17, .p (.mv (.tmp 0)), none, none⟩,
  ⟨some 18, .p (.mv (.tmp 2)), none, none⟩,
  ⟨some 19, .e (.call (.func 100) [.tmp 17, .tmp 18]), none, none⟩]) (.skip))))
  (.region [⟨some 20, .e (.call (.func 95) []), none, none⟩])))
noncomputable def e_internal_sync_Mutex_Unlock (k : Nat) (D : CallF) : Ent := entOf 90 [(0, .p)] [] (internal_sync_Mutex_Unlock k D)
theorem q_internal_sync_Mutex_Unlock : (Try.f90.body).bind (rcodeOf Try.prog 0 Try.f90.ntmps) = some (strip r_internal_sync_Mutex_Unlock) := by kernel_rfl
theorem t_internal_sync_Mutex_Unlock (k : Nat) (D : CallF) : curF [(0, .p)] (fun args h => denF (C_internal_sync_Mutex_Unlock k D) k r_internal_sync_Mutex_Unlock [] [] args h) = internal_sync_Mutex_Unlock k D := by kernel_rfl
theorem ok_internal_sync_Mutex_Unlock {D : CallF} (hD : CSound Try.prog 0 D) (k : Nat) : EntOk Try.prog 0 (e_internal_sync_Mutex_Unlock k D) :=
  entOf_ok2 (mkC_sound hD (EntsOk.more (ok_sync_atomic_AddInt32 hD k) (EntsOk.more (ok_internal_race_Enable hD k) (EntsOk.more (ok_internal_race_ReleaseMerge hD k) (EntsOk.more (ok_internal_race_Disable hD k) (EntsOk.none)))))) Try.func90 rfl q_internal_sync_Mutex_Unlock rfl (t_internal_sync_Mutex_Unlock k D)
end Gy

namespace Gy
open Go Gx Go.Proofs
set_option maxRecDepth 100000

noncomputable def C_sync_Mutex_Unlock (k : Nat) (D : CallF) : CallF := mkC D [e_internal_sync_Mutex_Unlock k D]
noncomputable def sync_Mutex_Unlock (k : Nat) (D : CallF) (m_0 : Option Addr) (h : AHeap) : Option ((Unit) × AHeap) :=
  (m_0).bind fun p1 =>
  (internal_sync_Mutex_Unlock k D (some (⟨p1.block, p1.off + 0, none⟩ : Addr)) h).bind fun r2 =>
  some ((), r2.2)
def r_sync_Mutex_Unlock : RCode := .region [⟨some 2, .p (.mv (.tmp 0)), none, none⟩,
  ⟨some 3, .p (.nilP (.tmp 2)), none, none⟩,
  ⟨some 4, .p (.fieldAddr 0 (.tmp 3)), none, none⟩,
  ⟨some 5, .e (.call (.func 90) [.tmp 4]), none, none⟩]
noncomputable def e_sync_Mutex_Unlock (k : Nat) (D : CallF) : Ent := entOf 87 [(0, .p)] [] (sync_Mutex_Unlock k D)
theorem q_sync_Mutex_Unlock : (Try.f87.body).bind (rcodeOf Try.prog 0 Try.f87.ntmps) = some (strip r_sync_Mutex_Unlock) := by kernel_rfl
theorem t_sync_Mutex_Unlock (k : Nat) (D : CallF) : curF [(0, .p)] (fun args h => denF (C_sync_Mutex_Unlock k D) k r_sync_Mutex_Unlock [] [] args h) = sync_Mutex_Unlock k D := by kernel_rfl
theorem ok_sync_Mutex_Unlock {D : CallF} (hD : CSound Try.prog 0 D) (k : Nat) : EntOk Try.prog 0 (e_sync_Mutex_Unlock k D) :=
  entOf_ok2 (mkC_sound hD (EntsOk.more (ok_internal_sync_Mutex_Unlock hD k) (EntsOk.none))) Try.func87 rfl q_sync_Mutex_Unlock rfl (t_sync_Mutex_Unlock k D)
theorem d_sync_Mutex_Unlock {D : CallF} (hD : CSound Try.prog 0 D) (k : Nat) : EntD Try.prog 0 (e_sync_Mutex_Unlock k D) :=
  entOf_okD (mkC_sound hD (EntsOk.more (ok_internal_sync_Mutex_Unlock hD k) (EntsOk.none))) Try.func87 rfl q_sync_Mutex_Unlock rfl (t_sync_Mutex_Unlock k D)
end Gy

namespace Gy
open Go Gx Go.Proofs
set_option maxRecDepth 100000

noncomputable def C_sync_Once_doSlow (k : Nat) (D : CallF) : CallF := mkC D [e_sync_Mutex_Lock k D, e_sync_atomic_Bool_Load k D, e_sync_atomic_Bool_Store k D, e_sync_Mutex_Unlock k D]
noncomputable def sync_Once_doSlow (k : Nat) (D : CallF) (a_0 : Option Addr) (a_1 : Value) (h : AHeap) : Option (Unit × AHeap) :=
  (a_0).bind fun p1 =>
  (sync_Mutex_Lock k D (some (⟨p1.block, p1.off + 1, none⟩ : Addr)) h).bind fun r2 =>
  (a_0).bind fun p3 =>
  (a_0).bind fun p4 =>
  (sync_atomic_Bool_Load k D (some (⟨p4.block, p4.off + 0, none⟩ : Addr)) r2.2).bind fun r5 =>
  (if (!r5.1) = true then
  (a_0).bind fun p6 =>
  callD (C_sync_Once_doSlow k D) a_1 [] r5.2 fun _ h8 =>
  (sync_atomic_Bool_Store k D (some (⟨p6.block, p6.off + 0, none⟩ : Addr)) true h8).bind fun r9 =>
  (sync_Mutex_Unlock k D (some (⟨p3.block, p3.off + 1, none⟩ : Addr)) r9.2).bind fun r10 =>
  some ((), r10.2)
  else none)
def r_sync_Once_doSlow : OnceC := ⟨83, [⟨some 4, .p (.mv (.tmp 0)), none, none⟩, ⟨some 5, .p (.nilP (.tmp 4)), none, none⟩, ⟨some 6, .p (.fieldAddr 1 (.tmp 5)), none, none⟩, ⟨some 7, .e (.call (.func 86) [.tmp 6]), none, none⟩], [⟨some 8, .p (.mv (.tmp 0)), none, none⟩, ⟨some 9, .p (.nilP (.tmp 8)), none, none⟩, ⟨some 10, .p (.fieldAddr 1 (.tmp 9)), none, none⟩], 87, [.tmp 10], [⟨some 11, .p (.mv (.tmp 0)), none, none⟩, ⟨some 12, .p (.nilP (.tmp 11)), none, none⟩, ⟨some 13, .p (.fieldAddr 0 (.tmp 12)), none, none⟩, ⟨some 14, .e (.call (.func 82) [.tmp 13]), none, none⟩, ⟨some 15, .p (.un .not (.tmp 14)), none, none⟩], 15, [⟨some 16, .p (.mv (.tmp 0)), none, none⟩, ⟨some 17, .p (.nilP (.tmp 16)), none, none⟩, ⟨some 18, .p (.fieldAddr 0 (.tmp 17)), none, none⟩], 88, [.tmp 18, .const (.bool true)], [⟨some 19, .p (.mv (.tmp 1)), none, none⟩, ⟨some 20, .e (.call (.tmp 19) []), none, none⟩]⟩
noncomputable def e_sync_Once_doSlow (k : Nat) (D : CallF) : Ent := entOf 83 [(0, .p), (1, .v)] [] (sync_Once_doSlow k D)
theorem q_sync_Once_doSlow : (Try.f83.body).bind (onceOf Try.prog 0 Try.f83.ntmps r_sync_Once_doSlow.id) = some (stripOnce r_sync_Once_doSlow) := by kernel_rfl
theorem t_sync_Once_doSlow (k : Nat) (D : CallF) : curF [(0, .p), (1, .v)] (fun args h => (eOnce (C_sync_Once_doSlow k D) r_sync_Once_doSlow (e_sync_Mutex_Unlock k D) (e_sync_atomic_Bool_Store k D)).run (Unit × AHeap) args h fun v h => match v with | .tuple ⟨[]⟩ => some ((), h) | _ => none) = sync_Once_doSlow k D := by kernel_rfl
theorem ok_sync_Once_doSlow {D : CallF} (hD : CSound Try.prog 0 D) (k : Nat) : EntOk Try.prog 0 (e_sync_Once_doSlow k D) :=
  entOk_unit (once_ok (mkC_sound hD (EntsOk.more (ok_sync_Mutex_Lock hD k) (EntsOk.more (ok_sync_atomic_Bool_Load hD k) (EntsOk.more (ok_sync_atomic_Bool_Store hD k) (EntsOk.more (ok_sync_Mutex_Unlock hD k) (EntsOk.none)))))) Try.func83 rfl rfl (onceOf_some q_sync_Once_doSlow) (d_sync_Mutex_Unlock hD k) (d_sync_atomic_Bool_Store hD k) rfl rfl) (t_sync_Once_doSlow k D)
end Gy

namespace Gy
open Go Gx Go.Proofs
set_option maxRecDepth 100000

noncomputable def C_sync_Once_Do (k : Nat) (D : CallF) : CallF := mkC D [e_sync_atomic_Bool_Load k D, e_sync_Once_doSlow k D]
noncomputable def sync_Once_Do (k : Nat) (D : CallF) (o_0 : Option Addr) (f_1 : Value) (h : AHeap) : Option ((Unit) × AHeap) :=
  (o_0).bind fun p1 =>
  (sync_atomic_Bool_Load k D (some (⟨p1.block, p1.off + 0, none⟩ : Addr)) h).bind fun r2 =>
  (if (!r2.1) = true then
  (sync_Once_doSlow k D o_0 f_1 r2.2).bind fun r3 =>
  some ((), r3.2)
  else
  some ((), r2.2))
def r_sync_Once_Do : RCode := .seq (.region [⟨some 4, .p (.mv (.tmp 0)), none, none⟩,
  ⟨some 5, .p (.nilP (.tmp 4)), none, none⟩,
  ⟨some 6, .p (.fieldAddr 0 (.tmp 5)), none, none⟩,
  ⟨some 7, .e (.call (.func 82) [.tmp 6]), none, none⟩,
  ⟨some 8, .p (.un .not (.tmp 7)), none, none⟩])
  (.cond (.tmp 8) (.region [⟨some 9, .p (.mv (.tmp 0)), none, none⟩,
  ⟨some 10, .p (.mv (.tmp 1)), none, none⟩,
  ⟨some 11, .e (.call (.func 83) [.tmp 9, .tmp 10]), none, none⟩]) (.skip))
noncomputable def e_sync_Once_Do (k : Nat) (D : CallF) : Ent := entOf 77 [(0, .p), (1, .v)] [] (sync_Once_Do k D)
theorem q_sync_Once_Do : (Try.f77.body).bind (rcodeOf Try.prog 0 Try.f77.ntmps) = some (strip r_sync_Once_Do) := by kernel_rfl
theorem t_sync_Once_Do (k : Nat) (D : CallF) : curF [(0, .p), (1, .v)] (fun args h => denF (C_sync_Once_Do k D) k r_sync_Once_Do [] [] args h) = sync_Once_Do k D := by kernel_rfl
theorem ok_sync_Once_Do {D : CallF} (hD : CSound Try.prog 0 D) (k : Nat) : EntOk Try.prog 0 (e_sync_Once_Do k D) :=
  entOf_ok2 (mkC_sound hD (EntsOk.more (ok_sync_atomic_Bool_Load hD k) (EntsOk.more (ok_sync_Once_doSlow hD k) (EntsOk.none)))) Try.func77 rfl q_sync_Once_Do rfl (t_sync_Once_Do k D)
end Gy

namespace Gy
open Go Gx Go.Proofs
set_option maxRecDepth 100000

noncomputable def C_field_Field_tables (k : Nat) (D : CallF) : CallF := mkC D [e_sync_Once_Do k D]
noncomputable def field_Field_tables (k : Nat) (D : CallF) (f_0 : Option Addr) (h : AHeap) : Option (((Option Addr)) × AHeap) :=
  (f_0).bind fun p1 =>
  (sync_Once_Do k D (some (⟨p1.block, p1.off + 0, none⟩ : Addr)) (.func (.func 78) ⟨[.pointer f_0]⟩ ⟨[]⟩) h).bind fun r2 =>
  (f_0).bind fun p3 =>
  some ((some (⟨p3.block, p3.off + 3, none⟩ : Addr)), r2.2)
def r_field_Field_tables : RCode := .seq (.region [⟨some 2, .p (.mv (.const (.pointer none))), none, none⟩])
  (.seq (.region [⟨some 3, .p (.mv (.tmp 0)), none, none⟩,
  ⟨some 4, .p (.nilP (.tmp 3)), none, none⟩,
  ⟨some 5, .p (.fieldAddr 0 (.tmp 4)), none, none⟩,
  ⟨some 6, .p (.mv (.tmp 0)), none, none⟩,
  ⟨some 7, .p (.mkFunc 78 [.tmp 6] []), none, none⟩,
  ⟨some 8, .e (.call (.func 77) [.tmp 5, .tmp 7]), none, none⟩])
  (.seq (.region [⟨some 9, .p (.mv (.tmp 0)), none, none⟩,
  ⟨some 10, .p (.nilP (.tmp 9)), none, none⟩,
  ⟨some 11, .p (.fieldAddr 3 (.tmp 10)), none, none⟩,
  ⟨some 2, .p (.mv (.tmp 11)), none, none⟩])
  (.ret)))
noncomputable def e_field_Field_tables (k : Nat) (D : CallF) : Ent := entOf 58 [(0, .p)] [(2, .p)] (field_Field_tables k D)
theorem q_field_Field_tables : (Try.f58.body).bind (rcodeOf Try.prog 0 Try.f58.ntmps) = some (strip r_field_Field_tables) := by kernel_rfl
theorem t_field_Field_tables (k : Nat) (D : CallF) : curF [(0, .p)] (fun args h => denF (C_field_Field_tables k D) k r_field_Field_tables [(2, .p)] [none] args h) = field_Field_tables k D := by kernel_rfl
theorem ok_field_Field_tables {D : CallF} (hD : CSound Try.prog 0 D) (k : Nat) : EntOk Try.prog 0 (e_field_Field_tables k D) :=
  entOf_ok2 (mkC_sound hD (EntsOk.more (ok_sync_Once_Do hD k) (EntsOk.none))) Try.func58 rfl q_field_Field_tables rfl (t_field_Field_tables k D)
end Gy

namespace Gy
open Go Gx Go.Proofs
set_option maxRecDepth 100000

noncomputable def C_field_is (_k : Nat) (D : CallF) : CallF := mkC D []
noncomputable def field_is_l0b (_k : Nat) (_D : CallF) (j2 : AHeap → Option ((Bool) × AHeap)) (rec7 : Slc → Int → Int → AHeap → Option ((Bool) × AHeap)) (y3 : Slc) (y4 : Int) (y5 : Int) (h6 : AHeap) : Option ((Bool) × AHeap) :=
  (if (decide (y5 < y4)) = true then
  (Gx.idxL 1 y3 y5).bind fun q8 =>
  (ldI .i64 q8 h6).bind fun x9 =>
  joinK (fun (y10 : Slc) (y11 : Int) (y12 : Int) (y13 : Bool) (h14 : AHeap) =>
  (if y13 = true then
  some (false, h14)
  else
  rec7 y10 y11 (IntKind.wrap .i64 (y12 + 1)) h14)) fun j15 =>
  (if (decide (x9 < 0)) = true then
  j15 y3 y4 y5 true h6
  else
  j15 y3 y4 y5 (decide (x9 ≥ 256)) h6)
  else
  j2 h6)
noncomputable def field_is_l0 (k : Nat) (D : CallF) (j2 : AHeap → Option ((Bool) × AHeap)) : Slc → Int → Int → AHeap → Option ((Bool) × AHeap) :=
  iterK (α := Slc → Int → Int → AHeap → Option ((Bool) × AHeap)) (fun _ _ _ _ => none) k (field_is_l0b k D j2)
noncomputable def field_is (k : Nat) (D : CallF) (l_0 : Slc) (h : AHeap) : Option ((Bool) × AHeap) :=
  joinK (fun (h1 : AHeap) =>
  some (true, h1)) fun j2 =>
  field_is_l0 k D j2 l_0 (l_0.len : Int) 0 h
def r_field_is : RCode := .seq (.region [⟨some 2, .p (.mv (.const (.bool false))), none, none⟩])
  (.seq (.join [] (.seq (.region [⟨some 5, .p (.mv (.tmp 0)), none, none⟩,
  ⟨some 6, .p (.lenL (.tmp 5)), none, none⟩,
  ⟨some 7, .p (.mv (.const (.int .i64 0))), none, none⟩])
  (.block 0 (.loop [(5, .l), (6, .i .i64), (7, .i .i64)] (.seq (.region [⟨some 8, .p (.bin .lss (.tmp 7) (.tmp 6)), none, none⟩])
  (.seq (.cond (.tmp 8) (.skip) (.exit 0))
  (.seq (.block 1 (.seq (.region [⟨some 9, .p (.idxL 1 (.tmp 5) (.tmp 7)), none, none⟩,
  ⟨some 10, .l (.load (.i .i64) (.tmp 9)), none, none⟩,
  ⟨some 4, .p (.mv (.tmp 10)), none, none⟩])
  (.seq (.join [(5, .l), (6, .i .i64), (7, .i .i64), (16, .b)] (.region [⟨some 11, .p (.mv (.tmp 4)), none, none⟩,
  ⟨some 12, .p (.bin .lss (.tmp 11) (.const (.int .i64 0))), none, none⟩,
  ⟨some 13, .p (.mv (.tmp 12)), none, none⟩,
  ⟨some 14, .p (.mv (.tmp 4)), (some (13, false)), none⟩,
  ⟨some 15, .p (.bin .geq (.tmp 14) (.const (.int .i64 256))), (some (13, false)), none⟩,
  ⟨some 16, .p (.pick (.tmp 13) (.const (.bool true)) (.tmp 15)), none, none⟩]))
  (.cond (.tmp 16) (.seq (.region [⟨some 2, .p (.mv (.const (.bool false))), none, none⟩])
  (.ret)) (.skip)))))
  (.region [⟨some 17, .p (.bin .add (.tmp 7) (.const (.int .i64 1))), none, none⟩,
  ⟨some 7, .p (.mv (.tmp 17)), none, none⟩]))))))))
  (.seq (.region [⟨some 2, .p (.mv (.const (.bool true))), none, none⟩])
  (.ret)))
noncomputable def e_field_is (k : Nat) (D : CallF) : Ent := entOf 57 [(0, .l)] [(2, .b)] (field_is k D)
theorem q_field_is : (Try.f57.body).bind (rcodeOf Try.prog 0 Try.f57.ntmps) = some (strip r_field_is) := by kernel_rfl
theorem t_field_is (k : Nat) (D : CallF) : curF [(0, .l)] (fun args h => denF (C_field_is k D) k r_field_is [(2, .b)] [none] args h) = field_is k D := by kernel_rfl
theorem ok_field_is {D : CallF} (hD : CSound Try.prog 0 D) (k : Nat) : EntOk Try.prog 0 (e_field_is k D) :=
  entOf_ok2 (mkC_sound hD (EntsOk.none)) Try.func57 rfl q_field_is rfl (t_field_is k D)
end Gy

namespace Gy
open Go Gx Go.Proofs
set_option maxRecDepth 100000

noncomputable def C_field_Field_Pow (k : Nat) (D : CallF) : CallF := mkC D [e_field_Field_tables k D, e_field_is k D]
noncomputable def field_Field_Pow (k : Nat) (D : CallF) (f_0 : Option Addr) (a_1 : Int) (n_2 : Int) (h : AHeap) : Option ((Int × Int) × AHeap) :=
  joinK (fun (f1 : Option Addr) (a2 : Int) (n3 : Int) (y4 : Bool) (h5 : AHeap) =>
  (if y4 = true then
  some ((0, 1), h5)
  else
  (if (n3 == 0) = true then
  some ((1, 0), h5)
  else
  (if (a2 == 0) = true then
  some ((0, 0), h5)
  else
  (field_Field_tables k D f1 h5).bind fun r7 =>
  (r7.1).bind fun p8 =>
  (Gx.idxA 256 1 (⟨p8.block, p8.off + 510, none⟩ : Addr) a2).bind fun q9 =>
  (ldI .i64 q9 r7.2).bind fun x10 =>
  (r7.1).bind fun p11 =>
  (Gx.idxA 510 1 (⟨p11.block, p11.off + 0, none⟩ : Addr) (Int.tmod (IntKind.wrap .i64 (x10 * (Int.tmod n3 255))) 255)).bind fun q12 =>
  (ldI .u8 q12 r7.2).bind fun x13 =>
  some (((IntKind.wrap .i64 x13), 0), r7.2))))) fun j6 =>
  let h14 := AHeap.new h (.cells [.int .i64 a_1] 3 true 0)
  (field_is k D (⟨(some ⟨h.next, 0, some 0⟩), 1, 1⟩ : Slc) h14).bind fun r15 =>
  (if (!r15.1) = true then
  j6 f_0 a_1 n_2 true r15.2
  else
  j6 f_0 a_1 n_2 (decide (n_2 < 0)) r15.2)
def r_field_Field_Pow : RCode := .seq (.region [⟨some 6, .p (.mv (.const (.int .i64 0))), none, none⟩,
  ⟨some 7, .p (.mv (.const (.int .i64 0))), none, none⟩])
  (.seq (.block 0 (.seq (.join [(0, .p), (1, .i .i64), (2, .i .i64), (9, .b)] (.region [⟨some 10, .p (.mv (.tmp 1)), none, none⟩,
  ⟨some 11, .a (.buildSlice 3 1 (zerosL 1 [.int .i64 0]) [(0, 1, .tmp 10)]), none, none⟩,
  ⟨some 12, .e (.call (.func 57) [.tmp 11]), none, none⟩,
  ⟨some 13, .p (.un .not (.tmp 12)), none, none⟩,
  ⟨some 14, .p (.mv (.tmp 13)), none, none⟩,
  ⟨some 15, .p (.mv (.tmp 2)), (some (14, false)), none⟩,
  ⟨some 16, .p (.bin .lss (.tmp 15) (.const (.int .i64 0))), (some (14, false)), none⟩,
  ⟨some 17, .p (.pick (.tmp 14) (.const (.bool true)) (.tmp 16)), none, none⟩,
  ⟨some 9, .p (.mv (.tmp 17)), none, none⟩]))
  (.cond (.tmp 9) (.seq (.region [⟨some 6, .p (.mv (.const (.int .i64 0))), none, none⟩,
  ⟨some 7, .p (.mv (.const (.int .i64 1))), none, none⟩])
  (.ret)) (.seq (.region [⟨some 19, .p (.mv (.tmp 2)), none, none⟩,
  ⟨some 20, .p (.bin .eql (.tmp 19) (.const (.int .i64 0))), none, none⟩,
  ⟨some 18, .p (.mv (.tmp 20)), none, none⟩])
  (.cond (.tmp 18) (.seq (.region [⟨some 6, .p (.mv (.const (.int .i64 1))), none, none⟩,
  ⟨some 7, .p (.mv (.const (.int .i64 0))), none, none⟩])
  (.ret)) (.seq (.region [⟨some 22, .p (.mv (.tmp 1)), none, none⟩,
  ⟨some 23, .p (.bin .eql (.tmp 22) (.const (.int .i64 0))), none, none⟩,
  ⟨some 21, .p (.mv (.tmp 23)), none, none⟩])
  (.cond (.tmp 21) (.seq (.region [⟨some 6, .p (.mv (.const (.int .i64 0))), none, none⟩,
  ⟨some 7, .p (.mv (.const (.int .i64 0))), none, none⟩])
  (.ret)) (.skip))))))))
  (.seq (.region [⟨some 24, .p (.mv (.tmp 0)), none, none⟩,
  ⟨some 25, .e (.call (.func 58) [.tmp 24]), none, none⟩,
  ⟨some 8, .p (.mv (.tmp 25)), none, none⟩])
  (.seq (.draw [⟨0, ⟨some 26, .p (.mv (.tmp 8)), none, none⟩, [8], 0⟩,
  ⟨1, ⟨some 27, .p (.mv (.tmp 8)), none, none⟩, [8], 0⟩,
  ⟨2, ⟨some 28, .p (.mv (.tmp 1)), none, none⟩, [1], 0⟩,
  ⟨3, ⟨some 29, .p (.nilP (.tmp 27)), none, none⟩, [27], 0⟩,
  ⟨4, ⟨some 30, .p (.fieldAddr 510 (.tmp 29)), none, none⟩, [29], 0⟩,
  ⟨5, ⟨some 31, .p (.idxA 256 1 (.tmp 30) (.tmp 28)), none, none⟩, [30, 28], 0⟩,
  ⟨6, ⟨some 32, .l (.load (.i .i64) (.tmp 31)), none, none⟩, [31], 0⟩,
  ⟨7, ⟨some 33, .p (.mv (.tmp 2)), none, none⟩, [2], 0⟩,
  ⟨8, ⟨some 34, .p (.bin .rem (.tmp 33) (.const (.int .i64 255))), none, none⟩, [33], 0⟩,
  ⟨9, ⟨some 35, .p (.bin .mul (.tmp 32) (.tmp 34)), none, none⟩, [32, 34], 0⟩,
  ⟨10, ⟨some 36, .p (.bin .rem (.tmp 35) (.const (.int .i64 255))), none, none⟩, [35], 0⟩,
  ⟨11, ⟨some 37, .p (.nilP (.tmp 26)), none, none⟩, [26], 0⟩,
  ⟨12, ⟨some 38, .p (.fieldAddr 0 (.tmp 37)), none, none⟩, [37], 0⟩,
  ⟨13, ⟨some 39, .p (.idxA 510 1 (.tmp 38) (.tmp 36)), none, none⟩, [38, 36], 0⟩,
  ⟨14, ⟨some 40, .l (.load (.i .u8) (.tmp 39)), none, none⟩, [39], 0⟩,
  ⟨15, ⟨some 41, .p (.convI .i64 (.tmp 40)), none, none⟩, [40], 0⟩,
  ⟨16, ⟨some 6, .p (.mv (.tmp 41)), none, none⟩, [41], 0⟩,
  ⟨17, ⟨some 7, .p (.mv (.const (.int .i64 0))), none, none⟩, [], 0⟩])
  (.ret))))
noncomputable def e_field_Field_Pow (k : Nat) (D : CallF) : Ent := entOf 16 [(0, .p), (1, .i .i64), (2, .i .i64)] [(6, .i .i64), (7, .i .i64)] (field_Field_Pow k D)
theorem q_field_Field_Pow : (Try.f16.body).bind (rcodeOf Try.prog 0 Try.f16.ntmps) = some (strip r_field_Field_Pow) := by kernel_rfl
theorem t_field_Field_Pow (k : Nat) (D : CallF) : curF [(0, .p), (1, .i .i64), (2, .i .i64)] (fun args h => denF (C_field_Field_Pow k D) k r_field_Field_Pow [(6, .i .i64), (7, .i .i64)] [none, none] args h) = field_Field_Pow k D := by kernel_rfl
theorem ok_field_Field_Pow {D : CallF} (hD : CSound Try.prog 0 D) (k : Nat) : EntOk Try.prog 0 (e_field_Field_Pow k D) :=
  entOf_ok2 (mkC_sound hD (EntsOk.more (ok_field_Field_tables hD k) (EntsOk.more (ok_field_is hD k) (EntsOk.none)))) Try.func16 rfl q_field_Field_Pow rfl (t_field_Field_Pow k D)
end Gy

namespace Gy
open Go Gx Go.Proofs
set_option maxRecDepth 100000

noncomputable def C_field_Field_Log (k : Nat) (D : CallF) : CallF := mkC D [e_field_is k D, e_field_Field_tables k D]
noncomputable def field_Field_Log (k : Nat) (D : CallF) (f_0 : Option Addr) (a_1 : Int) (h : AHeap) : Option ((Int × Int) × AHeap) :=
  let h1 := AHeap.new h (.cells [.int .i64 a_1] 3 true 0)
  (field_is k D (⟨(some ⟨h.next, 0, some 0⟩), 1, 1⟩ : Slc) h1).bind fun r2 =>
  (if (!r2.1) = true then
  some ((0, 1), r2.2)
  else
  (if (a_1 == 0) = true then
  some ((0, 30), r2.2)
  else
  (field_Field_tables k D f_0 r2.2).bind fun r3 =>
  (r3.1).bind fun p4 =>
  (Gx.idxA 256 1 (⟨p4.block, p4.off + 510, none⟩ : Addr) a_1).bind fun q5 =>
  (ldI .i64 q5 r3.2).bind fun x6 =>
  some ((x6, 0), r3.2)))
def r_field_Field_Log : RCode := .seq (.region [⟨some 4, .p (.mv (.const (.int .i64 0))), none, none⟩,
  ⟨some 5, .p (.mv (.const (.int .i64 0))), none, none⟩])
  (.seq (.block 0 (.seq (.region [⟨some 7, .p (.mv (.tmp 1)), none, none⟩,
  ⟨some 8, .a (.buildSlice 3 1 (zerosL 1 [.int .i64 0]) [(0, 1, .tmp 7)]), none, none⟩,
  ⟨some 9, .e (.call (.func 57) [.tmp 8]), none, none⟩,
  ⟨some 10, .p (.un .not (.tmp 9)), none, none⟩,
  ⟨some 6, .p (.mv (.tmp 10)), none, none⟩])
  (.cond (.tmp 6) (.seq (.region [⟨some 4, .p (.mv (.const (.int .i64 0))), none, none⟩,
  ⟨some 5, .p (.mv (.const (.int .i64 1))), none, none⟩])
  (.ret)) (.seq (.region [⟨some 12, .p (.mv (.tmp 1)), none, none⟩,
  ⟨some 13, .p (.bin .eql (.tmp 12) (.const (.int .i64 0))), none, none⟩,
  ⟨some 11, .p (.mv (.tmp 13)), none, none⟩])
  (.cond (.tmp 11) (.seq (.region [⟨some 4, .p (.mv (.const (.int .i64 0))), none, none⟩,
  ⟨some 5, .p (.mv (.const (.int .i64 30))), none, none⟩])
  (.ret)) (.skip))))))
  (.seq (.region [⟨some 14, .p (.mv (.tmp 0)), none, none⟩,
  ⟨some 15, .e (.call (.func 58) [.tmp 14]), none, none⟩,
  ⟨some 16, .p (.mv (.tmp 1)), none, none⟩,
  ⟨some 17, .p (.nilP (.tmp 15)), none, none⟩,
  ⟨some 18, .p (.fieldAddr 510 (.tmp 17)), none, none⟩,
  ⟨some 19, .p (.idxA 256 1 (.tmp 18) (.tmp 16)), none, none⟩,
  ⟨some 20, .l (.load (.i .i64) (.tmp 19)), none, none⟩,
  ⟨some 4, .p (.mv (.tmp 20)), none, none⟩,
  ⟨some 5, .p (.mv (.const (.int .i64 0))), none, none⟩])
  (.ret)))
noncomputable def e_field_Field_Log (k : Nat) (D : CallF) : Ent := entOf 17 [(0, .p), (1, .i .i64)] [(4, .i .i64), (5, .i .i64)] (field_Field_Log k D)
theorem q_field_Field_Log : (Try.f17.body).bind (rcodeOf Try.prog 0 Try.f17.ntmps) = some (strip r_field_Field_Log) := by kernel_rfl
theorem t_field_Field_Log (k : Nat) (D : CallF) : curF [(0, .p), (1, .i .i64)] (fun args h => denF (C_field_Field_Log k D) k r_field_Field_Log [(4, .i .i64), (5, .i .i64)] [none, none] args h) = field_Field_Log k D := by kernel_rfl
theorem ok_field_Field_Log {D : CallF} (hD : CSound Try.prog 0 D) (k : Nat) : EntOk Try.prog 0 (e_field_Field_Log k D) :=
  entOf_ok2 (mkC_sound hD (EntsOk.more (ok_field_is hD k) (EntsOk.more (ok_field_Field_tables hD k) (EntsOk.none)))) Try.func17 rfl q_field_Field_Log rfl (t_field_Field_Log k D)
end Gy

namespace Gy
open Go Gx Go.Proofs
set_option maxRecDepth 100000

noncomputable def C_field_tables_times (_k : Nat) (D : CallF) : CallF := mkC D []
noncomputable def field_tables_times (_k : Nat) (_D : CallF) (t_0 : Option Addr) (a_1 : Int) (b_2 : Int) (h : AHeap) : Option ((Int) × AHeap) :=
  joinK (fun (t1 : Option Addr) (a2 : Int) (b3 : Int) (y4 : Bool) (h5 : AHeap) =>
  (if y4 = true then
  some (0, h5)
  else
  (t1).bind fun p7 =>
  (Gx.idxA 256 1 (⟨p7.block, p7.off + 510, none⟩ : Addr) a2).bind fun q8 =>
  (ldI .i64 q8 h5).bind fun x9 =>
  (t1).bind fun p10 =>
  (Gx.idxA 256 1 (⟨p10.block, p10.off + 510, none⟩ : Addr) b3).bind fun q11 =>
  (ldI .i64 q11 h5).bind fun x12 =>
  (t1).bind fun p13 =>
  (Gx.idxA 510 1 (⟨p13.block, p13.off + 0, none⟩ : Addr) (IntKind.wrap .i64 (x9 + x12))).bind fun q14 =>
  (ldI .u8 q14 h5).bind fun x15 =>
  some ((IntKind.wrap .i64 x15), h5))) fun j6 =>
  (if (a_1 == 0) = true then
  j6 t_0 a_1 b_2 true h
  else
  j6 t_0 a_1 b_2 (b_2 == 0) h)
def r_field_tables_times : RCode := .seq (.region [⟨some 6, .p (.mv (.const (.int .i64 0))), none, none⟩])
  (.seq (.seq (.join [(0, .p), (1, .i .i64), (2, .i .i64), (12, .b)] (.region [⟨some 7, .p (.mv (.tmp 1)), none, none⟩,
  ⟨some 8, .p (.bin .eql (.tmp 7) (.const (.int .i64 0))), none, none⟩,
  ⟨some 9, .p (.mv (.tmp 8)), none, none⟩,
  ⟨some 10, .p (.mv (.tmp 2)), (some (9, false)), none⟩,
  ⟨some 11, .p (.bin .eql (.tmp 10) (.const (.int .i64 0))), (some (9, false)), none⟩,
  ⟨some 12, .p (.pick (.tmp 9) (.const (.bool true)) (.tmp 11)), none, none⟩]))
  (.cond (.tmp 12) (.seq (.region [⟨some 6, .p (.mv (.const (.int .i64 0))), none, none⟩])
  (.ret)) (.skip)))
  (.seq (.draw [⟨0, ⟨some 13, .p (.mv (.tmp 0)), none, none⟩, [0], 0⟩,
  ⟨1, ⟨some 14, .p (.mv (.tmp 0)), none, none⟩, [0], 0⟩,
  ⟨2, ⟨some 15, .p (.mv (.tmp 1)), none, none⟩, [1], 0⟩,
  ⟨3, ⟨some 16, .p (.nilP (.tmp 14)), none, none⟩, [14], 0⟩,
  ⟨4, ⟨some 17, .p (.fieldAddr 510 (.tmp 16)), none, none⟩, [16], 0⟩,
  ⟨5, ⟨some 18, .p (.idxA 256 1 (.tmp 17) (.tmp 15)), none, none⟩, [17, 15], 0⟩,
  ⟨6, ⟨some 19, .l (.load (.i .i64) (.tmp 18)), none, none⟩, [18], 0⟩,
  ⟨7, ⟨some 20, .p (.mv (.tmp 0)), none, none⟩, [0], 0⟩,
  ⟨8, ⟨some 21, .p (.mv (.tmp 2)), none, none⟩, [2], 0⟩,
  ⟨9, ⟨some 22, .p (.nilP (.tmp 20)), none, none⟩, [20], 0⟩,
  ⟨10, ⟨some 23, .p (.fieldAddr 510 (.tmp 22)), none, none⟩, [22], 0⟩,
  ⟨11, ⟨some 24, .p (.idxA 256 1 (.tmp 23) (.tmp 21)), none, none⟩, [23, 21], 0⟩,
  ⟨12, ⟨some 25, .l (.load (.i .i64) (.tmp 24)), none, none⟩, [24], 0⟩,
  ⟨13, ⟨some 26, .p (.bin .add (.tmp 19) (.tmp 25)), none, none⟩, [19, 25], 0⟩,
  ⟨14, ⟨some 27, .p (.nilP (.tmp 13)), none, none⟩, [13], 0⟩,
  ⟨15, ⟨some 28, .p (.fieldAddr 0 (.tmp 27)), none, none⟩, [27], 0⟩,
  ⟨16, ⟨some 29, .p (.idxA 510 1 (.tmp 28) (.tmp 26)), none, none⟩, [28, 26], 0⟩,
  ⟨17, ⟨some 30, .l (.load (.i .u8) (.tmp 29)), none, none⟩, [29], 0⟩,
  ⟨18, ⟨some 31, .p (.convI .i64 (.tmp 30)), none, none⟩, [30], 0⟩,
  ⟨19, ⟨some 6, .p (.mv (.tmp 31)), none, none⟩, [31], 0⟩])
  (.ret)))
noncomputable def e_field_tables_times (k : Nat) (D : CallF) : Ent := entOf 59 [(0, .p), (1, .i .i64), (2, .i .i64)] [(6, .i .i64)] (field_tables_times k D)
theorem q_field_tables_times : (Try.f59.body).bind (rcodeOf Try.prog 0 Try.f59.ntmps) = some (strip r_field_tables_times) := by kernel_rfl
theorem t_field_tables_times (k : Nat) (D : CallF) : curF [(0, .p), (1, .i .i64), (2, .i .i64)] (fun args h => denF (C_field_tables_times k D) k r_field_tables_times [(6, .i .i64)] [none] args h) = field_tables_times k D := by kernel_rfl
theorem ok_field_tables_times {D : CallF} (hD : CSound Try.prog 0 D) (k : Nat) : EntOk Try.prog 0 (e_field_tables_times k D) :=
  entOf_ok2 (mkC_sound hD (EntsOk.none)) Try.func59 rfl q_field_tables_times rfl (t_field_tables_times k D)
end Gy

namespace Gy
open Go Gx Go.Proofs
set_option maxRecDepth 100000

noncomputable def C_field_Field_Mul (k : Nat) (D : CallF) : CallF := mkC D [e_field_is k D, e_field_Field_tables k D, e_field_tables_times k D]
noncomputable def field_Field_Mul (k : Nat) (D : CallF) (f_0 : Option Addr) (a_1 : Int) (b_2 : Int) (h : AHeap) : Option ((Int × Int) × AHeap) :=
  let h1 := AHeap.new h (.cells [.int .i64 a_1, .int .i64 b_2] 3 true 0)
  (field_is k D (⟨(some ⟨h.next, 0, some 0⟩), 2, 2⟩ : Slc) h1).bind fun r2 =>
  (if (!r2.1) = true then
  some ((0, 1), r2.2)
  else
  (field_Field_tables k D f_0 r2.2).bind fun r3 =>
  (field_tables_times k D r3.1 a_1 b_2 r3.2).bind fun r4 =>
  some ((r4.1, 0), r4.2))
def r_field_Field_Mul : RCode := .seq (.region [⟨some 6, .p (.mv (.const (.int .i64 0))), none, none⟩,
  ⟨some 7, .p (.mv (.const (.int .i64 0))), none, none⟩])
  (.seq (.seq (.region [⟨some 8, .p (.mv (.tmp 1)), none, none⟩,
  ⟨some 9, .p (.mv (.tmp 2)), none, none⟩,
  ⟨some 10, .a (.buildSlice 3 2 (zerosL 2 [.int .i64 0]) [(0, 1, .tmp 8), (1, 1, .tmp 9)]), none, none⟩,
  ⟨some 11, .e (.call (.func 57) [.tmp 10]), none, none⟩,
  ⟨some 12, .p (.un .not (.tmp 11)), none, none⟩])
  (.cond (.tmp 12) (.seq (.region [⟨some 6, .p (.mv (.const (.int .i64 0))), none, none⟩,
  ⟨some 7, .p (.mv (.const (.int .i64 1))), none, none⟩])
  (.ret)) (.skip)))
  (.seq (.region [⟨some 13, .p (.mv (.tmp 0)), none, none⟩,
  ⟨some 14, .e (.call (.func 58) [.tmp 13]), none, none⟩,
  ⟨some 15, .p (.mv (.tmp 1)), none, none⟩,
  ⟨some 16, .p (.mv (.tmp 2)), none, none⟩,
  ⟨some 17, .e (.call (.func 59) [.tmp 14, .tmp 15, .tmp 16]), none, none⟩,
  ⟨some 6, .p (.mv (.tmp 17)), none, none⟩,
  ⟨some 7, .p (.mv (.const (.int .i64 0))), none, none⟩])
  (.ret)))
noncomputable def e_field_Field_Mul (k : Nat) (D : CallF) : Ent := entOf 20 [(0, .p), (1, .i .i64), (2, .i .i64)] [(6, .i .i64), (7, .i .i64)] (field_Field_Mul k D)
theorem q_field_Field_Mul : (Try.f20.body).bind (rcodeOf Try.prog 0 Try.f20.ntmps) = some (strip r_field_Field_Mul) := by kernel_rfl
theorem t_field_Field_Mul (k : Nat) (D : CallF) : curF [(0, .p), (1, .i .i64), (2, .i .i64)] (fun args h => denF (C_field_Field_Mul k D) k r_field_Field_Mul [(6, .i .i64), (7, .i .i64)] [none, none] args h) = field_Field_Mul k D := by kernel_rfl
theorem ok_field_Field_Mul {D : CallF} (hD : CSound Try.prog 0 D) (k : Nat) : EntOk Try.prog 0 (e_field_Field_Mul k D) :=
  entOf_ok2 (mkC_sound hD (EntsOk.more (ok_field_is hD k) (EntsOk.more (ok_field_Field_tables hD k) (EntsOk.more (ok_field_tables_times hD k) (EntsOk.none))))) Try.func20 rfl q_field_Field_Mul rfl (t_field_Field_Mul k D)
end Gy

namespace Gy
open Go Gx Go.Proofs
set_option maxRecDepth 100000

noncomputable def C_law03_space_mul (k : Nat) (D : CallF) : CallF := mkC D [e_field_Field_Mul k D]
noncomputable def law03_space_mul (k : Nat) (D : CallF) (s_0 : (Option Addr)) (a_1 : Int) (b_2 : Int) (h : AHeap) : Option ((Int) × AHeap) :=
  let h1 := AHeap.new h (.cells [.pointer s_0] 26 true 0)
  (ldP (⟨h.next, 0, none⟩ : Addr) h1).bind fun x2 =>
  (field_Field_Mul k D x2 a_1 b_2 h1).bind fun r3 =>
  (if (r3.1.2 != 0) = true then
  some ((-1), r3.2)
  else
  some (r3.1.1, r3.2))
def r_law03_space_mul : RCode := .seq (.region [⟨some 3, .a (.box 26 (.tmp 0)), none, none⟩,
  ⟨some 6, .p (.mv (.const (.int .i64 0))), none, none⟩])
  (.seq (.region [⟨some 10, .p (.fieldAddr 0 (.tmp 3)), none, none⟩,
  ⟨some 11, .l (.load (.p) (.tmp 10)), none, none⟩,
  ⟨some 12, .p (.mv (.tmp 1)), none, none⟩,
  ⟨some 13, .p (.mv (.tmp 2)), none, none⟩,
  ⟨some 14, .e (.call (.func 20) [.tmp 11, .tmp 12, .tmp 13]), none, none⟩,
  ⟨some 9, .p (.mv (.tmp 14)), none, none⟩,
  ⟨some 15, .p (.extract (.tmp 9) 0), none, none⟩,
  ⟨some 16, .p (.extract (.tmp 9) 1), none, none⟩,
  ⟨some 7, .p (.mv (.tmp 15)), none, none⟩,
  ⟨some 8, .p (.mv (.tmp 16)), none, none⟩])
  (.seq (.seq (.region [⟨some 17, .p (.mv (.tmp 8)), none, none⟩,
  ⟨some 18, .p (.bin .neq (.tmp 17) (.const (.int .i64 0))), none, none⟩])
  (.cond (.tmp 18) (.seq (.region [⟨some 6, .p (.mv (.const (.int .i64 (-1)))), none, none⟩])
  (.ret)) (.skip)))
  (.seq (.region [⟨some 19, .p (.mv (.tmp 7)), none, none⟩,
  ⟨some 6, .p (.mv (.tmp 19)), none, none⟩])
  (.ret))))
noncomputable def e_law03_space_mul (k : Nat) (D : CallF) : Ent := entOf 18 [(0, .st [.p]), (1, .i .i64), (2, .i .i64)] [(6, .i .i64)] (law03_space_mul k D)
theorem q_law03_space_mul : (Try.f18.body).bind (rcodeOf Try.prog 0 Try.f18.ntmps) = some (strip r_law03_space_mul) := by kernel_rfl
theorem t_law03_space_mul (k : Nat) (D : CallF) : curF [(0, .st [.p]), (1, .i .i64), (2, .i .i64)] (fun args h => denF (C_law03_space_mul k D) k r_law03_space_mul [(6, .i .i64)] [none] args h) = law03_space_mul k D := by kernel_rfl
theorem ok_law03_space_mul {D : CallF} (hD : CSound Try.prog 0 D) (k : Nat) : EntOk Try.prog 0 (e_law03_space_mul k D) :=
  entOf_ok2 (mkC_sound hD (EntsOk.more (ok_field_Field_Mul hD k) (EntsOk.none))) Try.func18 rfl q_law03_space_mul rfl (t_law03_space_mul k D)
end Gy

namespace Gy
open Go Gx Go.Proofs
set_option maxRecDepth 100000

noncomputable def C_law03_works (k : Nat) (D : CallF) : CallF := mkC D [e_field_New k D, e_field_Field_Mul k D, e_field_Field_Pow k D]
noncomputable def law03_works (k : Nat) (D : CallF)  (h : AHeap) : Option ((Bool) × AHeap) :=
  (field_New k D h).bind fun r1 =>
  (if r1.1.isNone = true then
  some (false, r1.2)
  else
  (field_Field_Mul k D r1.1 2 128 r1.2).bind fun r2 =>
  (field_Field_Pow k D r1.1 2 8 r2.2).bind fun r3 =>
  (if (r2.1.1 == 135) = true then
  (if (r3.1.1 == 135) = true then
  (if (r2.1.2 == 0) = true then
  some ((r3.1.2 == 0), r3.2)
  else
  some (false, r3.2))
  else
  some (false, r3.2))
  else
  some (false, r3.2)))
def r_law03_works : RCode := .seq (.region [⟨some 0, .p (.mv (.const (.bool false))), none, none⟩])
  (.seq (.region [⟨some 6, .e (.call (.func 13) []), none, none⟩,
  ⟨some 1, .p (.mv (.tmp 6)), none, none⟩])
  (.seq (.seq (.region [⟨some 7, .p (.mv (.tmp 1)), none, none⟩,
  ⟨some 8, .p (.isNil .p false (.tmp 7)), none, none⟩])
  (.cond (.tmp 8) (.seq (.region [⟨some 0, .p (.mv (.const (.bool false))), none, none⟩])
  (.ret)) (.skip)))
  (.seq (.region [⟨some 10, .p (.mv (.tmp 1)), none, none⟩,
  ⟨some 11, .e (.call (.func 20) [.tmp 10, .const (.int .i64 2), .const (.int .i64 128)]), none, none⟩,
  ⟨some 9, .p (.mv (.tmp 11)), none, none⟩,
  ⟨some 12, .p (.extract (.tmp 9) 0), none, none⟩,
  ⟨some 13, .p (.extract (.tmp 9) 1), none, none⟩,
  ⟨some 2, .p (.mv (.tmp 12)), none, none⟩,
  ⟨some 3, .p (.mv (.tmp 13)), none, none⟩])
  (.seq (.region [⟨some 15, .p (.mv (.tmp 1)), none, none⟩,
  ⟨some 16, .e (.call (.func 16) [.tmp 15, .const (.int .i64 2), .const (.int .i64 8)]), none, none⟩,
  ⟨some 14, .p (.mv (.tmp 16)), none, none⟩,
  ⟨some 17, .p (.extract (.tmp 14) 0), none, none⟩,
  ⟨some 18, .p (.extract (.tmp 14) 1), none, none⟩,
  ⟨some 4, .p (.mv (.tmp 17)), none, none⟩,
  ⟨some 5, .p (.mv (.tmp 18)), none, none⟩])
  (.seq (.region [⟨some 19, .p (.mv (.tmp 2)), none, none⟩,
  ⟨some 20, .p (.bin .eql (.tmp 19) (.const (.int .i64 135))), none, none⟩,
  ⟨some 21, .p (.mv (.tmp 20)), none, none⟩,
  ⟨some 22, .p (.mv (.tmp 4)), (some (21, true)), none⟩,
  ⟨some 23, .p (.bin .eql (.tmp 22) (.const (.int .i64 135))), (some (21, true)), none⟩,
  ⟨some 24, .p (.pick (.tmp 21) (.tmp 23) (.const (.bool false))), none, none⟩,
  ⟨some 25, .p (.mv (.tmp 24)), none, none⟩,
  ⟨some 26, .p (.mv (.tmp 3)), (some (25, true)), none⟩,
  ⟨some 27, .p (.bin .eql (.tmp 26) (.const (.int .i64 0))), (some (25, true)), none⟩,
  ⟨some 28, .p (.pick (.tmp 25) (.tmp 27) (.const (.bool false))), none, none⟩,
  ⟨some 29, .p (.mv (.tmp 28)), none, none⟩,
  ⟨some 30, .p (.mv (.tmp 5)), (some (29, true)), none⟩,
  ⟨some 31, .p (.bin .eql (.tmp 30) (.const (.int .i64 0))), (some (29, true)), none⟩,
  ⟨some 32, .p (.pick (.tmp 29) (.tmp 31) (.const (.bool false))), none, none⟩,
  ⟨some 0, .p (.mv (.tmp 32)), none, none⟩])
  (.ret))))))
noncomputable def e_law03_works (k : Nat) (D : CallF) : Ent := entOf 14 [] [(0, .b)] (law03_works k D)
theorem q_law03_works : (Try.f14.body).bind (rcodeOf Try.prog 0 Try.f14.ntmps) = some (strip r_law03_works) := by kernel_rfl
theorem t_law03_works (k : Nat) (D : CallF) : curF [] (fun args h => denF (C_law03_works k D) k r_law03_works [(0, .b)] [none] args h) = law03_works k D := by kernel_rfl
theorem ok_law03_works {D : CallF} (hD : CSound Try.prog 0 D) (k : Nat) : EntOk Try.prog 0 (e_law03_works k D) :=
  entOf_ok2 (mkC_sound hD (EntsOk.more (ok_field_New hD k) (EntsOk.more (ok_field_Field_Mul hD k) (EntsOk.more (ok_field_Field_Pow hD k) (EntsOk.none))))) Try.func14 rfl q_law03_works rfl (t_law03_works k D)
end Gy

namespace Gy
open Go Gx Go.Proofs
set_option maxRecDepth 100000

noncomputable def C_law03_FieldPowers (k : Nat) (D : CallF) : CallF := mkC D [e_field_New k D, e_book_Among k D, e_field_Field_Pow k D, e_field_Field_Log k D, e_law03_space_mul k D, e_law03_works k D]
noncomputable def law03_FieldPowers_l0b (_k : Nat) (_D : CallF) (j64 : (Option Addr) → Int → Int → Int → Int → Int → Int → Int → Int → AHeap → Option ((Bool) × AHeap)) (rec83 : (Option Addr) → Int → Int → Int → Int → Int → Int → Int → Int → Slc → Int → Int → AHeap → Option ((Bool) × AHeap)) (s70 : Option Addr) (n71 : Int) (x72 : Int) (y73 : Int) (z74 : Int) (p75 : Int) (q76 : Int) (r77 : Int) (u78 : Int) (y79 : Slc) (y80 : Int) (y81 : Int) (h82 : AHeap) : Option ((Bool) × AHeap) :=
  (if (decide (y81 < y80)) = true then
  (Gx.idxL 1 y79 y81).bind fun q84 =>
  (ldI .i64 q84 h82).bind fun x85 =>
  (if (x85 != 0) = true then
  some (false, h82)
  else
  rec83 s70 n71 x72 y73 z74 p75 q76 r77 u78 y79 y80 (IntKind.wrap .i64 (y81 + 1)) h82)
  else
  j64 s70 n71 x72 y73 z74 p75 q76 r77 u78 h82)
noncomputable def law03_FieldPowers_l0 (k : Nat) (D : CallF) (j64 : (Option Addr) → Int → Int → Int → Int → Int → Int → Int → Int → AHeap → Option ((Bool) × AHeap)) : (Option Addr) → Int → Int → Int → Int → Int → Int → Int → Int → Slc → Int → Int → AHeap → Option ((Bool) × AHeap) :=
  iterK (α := (Option Addr) → Int → Int → Int → Int → Int → Int → Int → Int → Slc → Int → Int → AHeap → Option ((Bool) × AHeap)) (fun _ _ _ _ _ _ _ _ _ _ _ _ _ => none) k (law03_FieldPowers_l0b k D j64)
noncomputable def law03_FieldPowers (k : Nat) (D : CallF) (a_0 : Int) (b_1 : Int) (to_2 : Int × Int) (h : AHeap) : Option ((Bool) × AHeap) :=
  let h1 := AHeap.new h (.cells [.int .i64 to_2.1, .int .i64 to_2.2] 22 true 0)
  (field_New k D h1).bind fun r2 =>
  let h3 := AHeap.new r2.2 (.cells [.pointer none] 26 true 0)
  (stL 1 (⟨r2.2.next, 0, none⟩ : Addr) ([.pointer r2.1]) h3).bind fun h4 =>
  joinK (fun (a5 : Int) (b6 : Int) (to7 : Option Addr) (s8 : Option Addr) (y9 : Bool) (h10 : AHeap) =>
  (if y9 = true then
  some (false, h10)
  else
  (book_Among k D a5 255 h10).bind fun r12 =>
  (book_Among k D b6 255 r12.2).bind fun r13 =>
  (to7).bind fun p15 =>
  (ldI .i64 (⟨p15.block, p15.off + 0, none⟩ : Addr) r13.2).bind fun x16 =>
  (book_Among k D x16 100000 r13.2).bind fun r17 =>
  (to7).bind fun p19 =>
  (ldI .i64 (⟨p19.block, p19.off + 1, none⟩ : Addr) r17.2).bind fun x20 =>
  guardP (SameW [r13.2] (fun H22 => (ldI .i64 (⟨p19.block, p19.off + 1, none⟩ : Addr) H22).bind fun y21 => some (.int .i64 y21)) (.int .i64 x20)) (
  (book_Among k D x20 100000 r17.2).bind fun r23 =>
  (s8).bind fun p24 =>
  (ldP (⟨p24.block, p24.off + 0, none⟩ : Addr) r23.2).bind fun x25 =>
  (field_Field_Pow k D x25 (IntKind.wrap .i64 (1 + r12.1)) r17.1 r23.2).bind fun r26 =>
  (s8).bind fun p27 =>
  (ldP (⟨p27.block, p27.off + 0, none⟩ : Addr) r26.2).bind fun x28 =>
  (field_Field_Pow k D x28 (IntKind.wrap .i64 (1 + r12.1)) r23.1 r26.2).bind fun r29 =>
  (s8).bind fun p30 =>
  (ldP (⟨p30.block, p30.off + 0, none⟩ : Addr) r29.2).bind fun x31 =>
  (field_Field_Pow k D x31 (IntKind.wrap .i64 (1 + r12.1)) (IntKind.wrap .i64 (r17.1 + r23.1)) r29.2).bind fun r32 =>
  (s8).bind fun p33 =>
  (ldP (⟨p33.block, p33.off + 0, none⟩ : Addr) r32.2).bind fun x34 =>
  (field_Field_Log k D x34 (IntKind.wrap .i64 (1 + r12.1)) r32.2).bind fun r35 =>
  (s8).bind fun p36 =>
  (ldP (⟨p36.block, p36.off + 0, none⟩ : Addr) r35.2).bind fun x37 =>
  (field_Field_Log k D x37 (IntKind.wrap .i64 (1 + r13.1)) r35.2).bind fun r38 =>
  (s8).bind fun p39 =>
  (ldA 1 p39 r38.2).bind fun l40 =>
  (decC [.p] l40).bind fun x41 =>
  (law03_space_mul k D x41 (IntKind.wrap .i64 (1 + r12.1)) (IntKind.wrap .i64 (1 + r13.1)) r38.2).bind fun r42 =>
  (s8).bind fun p43 =>
  (ldP (⟨p43.block, p43.off + 0, none⟩ : Addr) r42.2).bind fun x44 =>
  guardP (SameW [r38.2] (fun H46 => (ldP (⟨p43.block, p43.off + 0, none⟩ : Addr) H46).bind fun y45 => some (.pointer y45)) (.pointer x44)) (
  (field_Field_Log k D x44 r42.1 r42.2).bind fun r47 =>
  (s8).bind fun p48 =>
  (ldP (⟨p48.block, p48.off + 0, none⟩ : Addr) r47.2).bind fun x49 =>
  (field_Field_Pow k D x49 2 r17.1 r47.2).bind fun r50 =>
  (s8).bind fun p51 =>
  (ldP (⟨p51.block, p51.off + 0, none⟩ : Addr) r50.2).bind fun x52 =>
  (field_Field_Log k D x52 r50.1.1 r50.2).bind fun r53 =>
  joinK (fun (s54 : Option Addr) (n55 : Int) (x56 : Int) (y57 : Int) (z58 : Int) (p59 : Int) (q60 : Int) (r61 : Int) (u62 : Int) (h63 : AHeap) =>
  (s54).bind fun p65 =>
  (ldA 1 p65 h63).bind fun l66 =>
  (decC [.p] l66).bind fun x67 =>
  (law03_space_mul k D x67 x56 y57 h63).bind fun r68 =>
  (if (r68.1 == z58) = true then
  (if ((Int.tmod (IntKind.wrap .i64 (p59 + q60)) 255) == r61) = true then
  some ((u62 == (Int.tmod n55 255)), r68.2)
  else
  some (false, r68.2))
  else
  some (false, r68.2))) fun j64 =>
  let h69 := AHeap.new r53.2 (.cells [.int .i64 r26.1.2, .int .i64 r29.1.2, .int .i64 r32.1.2, .int .i64 r35.1.2, .int .i64 r38.1.2, .int .i64 r47.1.2, .int .i64 r50.1.2, .int .i64 r53.1.2] 29 true 0)
  law03_FieldPowers_l0 k D j64 s8 r17.1 r26.1.1 r29.1.1 r32.1.1 r35.1.1 r38.1.1 r47.1.1 r53.1.1 (⟨(some ⟨r53.2.next, 0, some 0⟩), 8, 8⟩ : Slc) 8 0 h69)))) fun j11 =>
  (ldP (⟨r2.2.next, 0, none⟩ : Addr) h4).bind fun x86 =>
  (if x86.isNone = true then
  j11 a_0 b_1 (some (⟨h.next, 0, none⟩ : Addr)) (some (⟨r2.2.next, 0, none⟩ : Addr)) true h4
  else
  (law03_works k D h4).bind fun r87 =>
  j11 a_0 b_1 (some (⟨h.next, 0, none⟩ : Addr)) (some (⟨r2.2.next, 0, none⟩ : Addr)) (!r87.1) r87.2)
def r_law03_FieldPowers : RCode := .seq (.region [⟨some 5, .a (.box 22 (.tmp 2)), none, none⟩,
  ⟨some 6, .p (.mv (.const (.bool false))), none, none⟩])
  (.seq (.region [⟨some 28, .e (.call (.func 13) []), none, none⟩,
  ⟨some 29, .p (.build [.pointer none] [(0, 1, .tmp 28)]), none, none⟩,
  ⟨some 7, .a (.alloc 26 [.pointer none]), none, none⟩,
  ⟨none, .e (.store (some 1) (.tmp 7) (.tmp 29)), none, none⟩])
  (.seq (.seq (.join [(0, .i .i64), (1, .i .i64), (5, .p), (7, .p), (36, .b)] (.region [⟨some 30, .p (.fieldAddr 0 (.tmp 7)), none, none⟩,
  ⟨some 31, .l (.load (.p) (.tmp 30)), none, none⟩,
  ⟨some 32, .p (.isNil .p false (.tmp 31)), none, none⟩,
  ⟨some 33, .p (.mv (.tmp 32)), none, none⟩,
  ⟨some 34, .e (.call (.func 14) []), (some (33, false)), none⟩,
  ⟨some 35, .p (.un .not (.tmp 34)), (some (33, false)), none⟩,
  ⟨some 36, .p (.pick (.tmp 33) (.const (.bool true)) (.tmp 35)), none, none⟩]))
  (.cond (.tmp 36) (.seq (.region [⟨some 6, .p (.mv (.const (.bool false))), none, none⟩])
  (.ret)) (.skip)))
  (.seq (.region [⟨some 37, .p (.mv (.tmp 0)), none, none⟩,
  ⟨some 38, .e (.call (.func 15) [.tmp 37, .const (.int .i64 255)]), none, none⟩,
  ⟨some 39, .p (.bin .add (.const (.int .i64 1)) (.tmp 38)), none, none⟩,
  ⟨some 40, .p (.mv (.tmp 1)), none, none⟩,
  ⟨some 41, .e (.call (.func 15) [.tmp 40, .const (.int .i64 255)]), none, none⟩,
  ⟨some 42, .p (.bin .add (.const (.int .i64 1)) (.tmp 41)), none, none⟩,
  ⟨some 0, .p (.mv (.tmp 39)), none, none⟩,
  ⟨some 1, .p (.mv (.tmp 42)), none, none⟩])
  (.seq (.draw [⟨0, ⟨some 43, .p (.idxA 2 1 (.tmp 5) (.const (.int .i64 0))), none, none⟩, [5], 0⟩,
  ⟨1, ⟨some 44, .l (.load (.i .i64) (.tmp 43)), none, none⟩, [43], 0⟩,
  ⟨2, ⟨some 45, .e (.call (.func 15) [.tmp 44, .const (.int .i64 100000)]), none, none⟩, [44], 0⟩,
  ⟨3, ⟨some 46, .p (.idxA 2 1 (.tmp 5) (.const (.int .i64 1))), none, none⟩, [5], 1⟩,
  ⟨4, ⟨some 47, .l (.load (.i .i64) (.tmp 46)), none, none⟩, [46], 1⟩,
  ⟨5, ⟨some 48, .e (.call (.func 15) [.tmp 47, .const (.int .i64 100000)]), none, none⟩, [47], 0⟩,
  ⟨6, ⟨some 8, .p (.mv (.tmp 45)), none, none⟩, [45], 0⟩,
  ⟨7, ⟨some 9, .p (.mv (.tmp 48)), none, none⟩, [48], 0⟩])
  (.seq (.region [⟨some 50, .p (.fieldAddr 0 (.tmp 7)), none, none⟩,
  ⟨some 51, .l (.load (.p) (.tmp 50)), none, none⟩,
  ⟨some 52, .p (.mv (.tmp 0)), none, none⟩,
  ⟨some 53, .p (.mv (.tmp 8)), none, none⟩,
  ⟨some 54, .e (.call (.func 16) [.tmp 51, .tmp 52, .tmp 53]), none, none⟩,
  ⟨some 49, .p (.mv (.tmp 54)), none, none⟩,
  ⟨some 55, .p (.extract (.tmp 49) 0), none, none⟩,
  ⟨some 56, .p (.extract (.tmp 49) 1), none, none⟩,
  ⟨some 10, .p (.mv (.tmp 55)), none, none⟩,
  ⟨some 11, .p (.mv (.tmp 56)), none, none⟩])
  (.seq (.region [⟨some 58, .p (.fieldAddr 0 (.tmp 7)), none, none⟩,
  ⟨some 59, .l (.load (.p) (.tmp 58)), none, none⟩,
  ⟨some 60, .p (.mv (.tmp 0)), none, none⟩,
  ⟨some 61, .p (.mv (.tmp 9)), none, none⟩,
  ⟨some 62, .e (.call (.func 16) [.tmp 59, .tmp 60, .tmp 61]), none, none⟩,
  ⟨some 57, .p (.mv (.tmp 62)), none, none⟩,
  ⟨some 63, .p (.extract (.tmp 57) 0), none, none⟩,
  ⟨some 64, .p (.extract (.tmp 57) 1), none, none⟩,
  ⟨some 12, .p (.mv (.tmp 63)), none, none⟩,
  ⟨some 13, .p (.mv (.tmp 64)), none, none⟩])
  (.seq (.region [⟨some 66, .p (.fieldAddr 0 (.tmp 7)), none, none⟩,
  ⟨some 67, .l (.load (.p) (.tmp 66)), none, none⟩,
  ⟨some 68, .p (.mv (.tmp 0)), none, none⟩,
  ⟨some 69, .p (.mv (.tmp 8)), none, none⟩,
  ⟨some 70, .p (.mv (.tmp 9)), none, none⟩,
  ⟨some 71, .p (.bin .add (.tmp 69) (.tmp 70)), none, none⟩,
  ⟨some 72, .e (.call (.func 16) [.tmp 67, .tmp 68, .tmp 71]), none, none⟩,
  ⟨some 65, .p (.mv (.tmp 72)), none, none⟩,
  ⟨some 73, .p (.extract (.tmp 65) 0), none, none⟩,
  ⟨some 74, .p (.extract (.tmp 65) 1), none, none⟩,
  ⟨some 14, .p (.mv (.tmp 73)), none, none⟩,
  ⟨some 15, .p (.mv (.tmp 74)), none, none⟩])
  (.seq (.region [⟨some 76, .p (.fieldAddr 0 (.tmp 7)), none, none⟩,
  ⟨some 77, .l (.load (.p) (.tmp 76)), none, none⟩,
  ⟨some 78, .p (.mv (.tmp 0)), none, none⟩,
  ⟨some 79, .e (.call (.func 17) [.tmp 77, .tmp 78]), none, none⟩,
  ⟨some 75, .p (.mv (.tmp 79)), none, none⟩,
  ⟨some 80, .p (.extract (.tmp 75) 0), none, none⟩,
  ⟨some 81, .p (.extract (.tmp 75) 1), none, none⟩,
  ⟨some 16, .p (.mv (.tmp 80)), none, none⟩,
  ⟨some 17, .p (.mv (.tmp 81)), none, none⟩])
  (.seq (.region [⟨some 83, .p (.fieldAddr 0 (.tmp 7)), none, none⟩,
  ⟨some 84, .l (.load (.p) (.tmp 83)), none, none⟩,
  ⟨some 85, .p (.mv (.tmp 1)), none, none⟩,
  ⟨some 86, .e (.call (.func 17) [.tmp 84, .tmp 85]), none, none⟩,
  ⟨some 82, .p (.mv (.tmp 86)), none, none⟩,
  ⟨some 87, .p (.extract (.tmp 82) 0), none, none⟩,
  ⟨some 88, .p (.extract (.tmp 82) 1), none, none⟩,
  ⟨some 18, .p (.mv (.tmp 87)), none, none⟩,
  ⟨some 19, .p (.mv (.tmp 88)), none, none⟩])
  (.seq (.draw [⟨2, ⟨some 92, .l (.load (.agg 1) (.tmp 7)), none, some (.st [.p])⟩, [7], 0⟩,
  ⟨3, ⟨some 93, .p (.mv (.tmp 0)), none, none⟩, [0], 0⟩,
  ⟨4, ⟨some 94, .p (.mv (.tmp 1)), none, none⟩, [1], 0⟩,
  ⟨5, ⟨some 95, .e (.call (.func 18) [.tmp 92, .tmp 93, .tmp 94]), none, none⟩, [92, 93, 94], 0⟩,
  ⟨0, ⟨some 90, .p (.fieldAddr 0 (.tmp 7)), none, none⟩, [7], 1⟩,
  ⟨1, ⟨some 91, .l (.load (.p) (.tmp 90)), none, none⟩, [90], 1⟩,
  ⟨6, ⟨some 96, .e (.call (.func 17) [.tmp 91, .tmp 95]), none, none⟩, [91, 95], 0⟩,
  ⟨7, ⟨some 89, .p (.mv (.tmp 96)), none, none⟩, [96], 0⟩,
  ⟨8, ⟨some 97, .p (.extract (.tmp 89) 0), none, none⟩, [89], 0⟩,
  ⟨9, ⟨some 98, .p (.extract (.tmp 89) 1), none, none⟩, [89], 0⟩,
  ⟨10, ⟨some 20, .p (.mv (.tmp 97)), none, none⟩, [97], 0⟩,
  ⟨11, ⟨some 21, .p (.mv (.tmp 98)), none, none⟩, [98], 0⟩])
  (.seq (.region [⟨some 100, .p (.fieldAddr 0 (.tmp 7)), none, none⟩,
  ⟨some 101, .l (.load (.p) (.tmp 100)), none, none⟩,
  ⟨some 102, .p (.mv (.tmp 8)), none, none⟩,
  ⟨some 103, .e (.call (.func 16) [.tmp 101, .const (.int .i64 2), .tmp 102]), none, none⟩,
  ⟨some 99, .p (.mv (.tmp 103)), none, none⟩,
  ⟨some 104, .p (.extract (.tmp 99) 0), none, none⟩,
  ⟨some 105, .p (.extract (.tmp 99) 1), none, none⟩,
  ⟨some 22, .p (.mv (.tmp 104)), none, none⟩,
  ⟨some 23, .p (.mv (.tmp 105)), none, none⟩])
  (.seq (.region [⟨some 107, .p (.fieldAddr 0 (.tmp 7)), none, none⟩,
  ⟨some 108, .l (.load (.p) (.tmp 107)), none, none⟩,
  ⟨some 109, .p (.mv (.tmp 22)), none, none⟩,
  ⟨some 110, .e (.call (.func 17) [.tmp 108, .tmp 109]), none, none⟩,
  ⟨some 106, .p (.mv (.tmp 110)), none, none⟩,
  ⟨some 111, .p (.extract (.tmp 106) 0), none, none⟩,
  ⟨some 112, .p (.extract (.tmp 106) 1), none, none⟩,
  ⟨some 24, .p (.mv (.tmp 111)), none, none⟩,
  ⟨some 25, .p (.mv (.tmp 112)), none, none⟩])
  (.seq (.join [(7, .p), (8, .i .i64), (10, .i .i64), (12, .i .i64), (14, .i .i64), (16, .i .i64), (18, .i .i64), (20, .i .i64), (24, .i .i64)] (.seq (.region [⟨some 113, .p (.mv (.tmp 11)), none, none⟩,
  ⟨some 114, .p (.mv (.tmp 13)), none, none⟩,
  ⟨some 115, .p (.mv (.tmp 15)), none, none⟩,
  ⟨some 116, .p (.mv (.tmp 17)), none, none⟩,
  ⟨some 117, .p (.mv (.tmp 19)), none, none⟩,
  ⟨some 118, .p (.mv (.tmp 21)), none, none⟩,
  ⟨some 119, .p (.mv (.tmp 23)), none, none⟩,
  ⟨some 120, .p (.mv (.tmp 25)), none, none⟩,
  ⟨some 121, .a (.buildSlice 29 8 (zerosL 8 [.int .i64 0]) [(0, 1, .tmp 113), (1, 1, .tmp 114), (2, 1, .tmp 115), (3, 1, .tmp 116), (4, 1, .tmp 117), (5, 1, .tmp 118), (6, 1, .tmp 119), (7, 1, .tmp 120)]), none, none⟩,
  ⟨some 122, .p (.lenL (.tmp 121)), none, none⟩,
  ⟨some 123, .p (.mv (.const (.int .i64 0))), none, none⟩])
  (.block 0 (.loop [(7, .p), (8, .i .i64), (10, .i .i64), (12, .i .i64), (14, .i .i64), (16, .i .i64), (18, .i .i64), (20, .i .i64), (24, .i .i64), (121, .l), (122, .i .i64), (123, .i .i64)] (.seq (.region [⟨some 124, .p (.bin .lss (.tmp 123) (.tmp 122)), none, none⟩])
  (.seq (.cond (.tmp 124) (.skip) (.exit 0))
  (.seq (.block 1 (.seq (.region [⟨some 125, .p (.idxL 1 (.tmp 121) (.tmp 123)), none, none⟩,
  ⟨some 126, .l (.load (.i .i64) (.tmp 125)), none, none⟩,
  ⟨some 27, .p (.mv (.tmp 126)), none, none⟩])
  (.seq (.region [⟨some 127, .p (.mv (.tmp 27)), none, none⟩,
  ⟨some 128, .p (.bin .neq (.tmp 127) (.const (.int .i64 0))), none, none⟩])
  (.cond (.tmp 128) (.seq (.region [⟨some 6, .p (.mv (.const (.bool false))), none, none⟩])
  (.ret)) (.skip)))))
  (.region [⟨some 129, .p (.bin .add (.tmp 123) (.const (.int .i64 1))), none, none⟩,
  ⟨some 123, .p (.mv (.tmp 129)), none, none⟩]))))))))
  (.seq (.region [⟨some 130, .l (.load (.agg 1) (.tmp 7)), none, some (.st [.p])⟩,
  ⟨some 131, .p (.mv (.tmp 10)), none, none⟩,
  ⟨some 132, .p (.mv (.tmp 12)), none, none⟩,
  ⟨some 133, .e (.call (.func 18) [.tmp 130, .tmp 131, .tmp 132]), none, none⟩,
  ⟨some 134, .p (.mv (.tmp 14)), none, none⟩,
  ⟨some 135, .p (.bin .eql (.tmp 133) (.tmp 134)), none, none⟩,
  ⟨some 136, .p (.mv (.tmp 135)), none, none⟩,
  ⟨some 137, .p (.mv (.tmp 16)), (some (136, true)), none⟩,
  ⟨some 138, .p (.mv (.tmp 18)), (some (136, true)), none⟩,
  ⟨some 139, .p (.bin .add (.tmp 137) (.tmp 138)), (some (136, true)), none⟩,
  ⟨some 140, .p (.bin .rem (.tmp 139) (.const (.int .i64 255))), (some (136, true)), none⟩,
  ⟨some 141, .p (.mv (.tmp 20)), (some (136, true)), none⟩,
  ⟨some 142, .p (.bin .eql (.tmp 140) (.tmp 141)), (some (136, true)), none⟩,
  ⟨some 143, .p (.pick (.tmp 136) (.tmp 142) (.const (.bool false))), none, none⟩,
  ⟨some 144, .p (.mv (.tmp 143)), none, none⟩,
  ⟨some 145, .p (.mv (.tmp 24)), (some (144, true)), none⟩,
  ⟨some 146, .p (.mv (.tmp 8)), (some (144, true)), none⟩,
  ⟨some 147, .p (.bin .rem (.tmp 146) (.const (.int .i64 255))), (some (144, true)), none⟩,
  ⟨some 148, .p (.bin .eql (.tmp 145) (.tmp 147)), (some (144, true)), none⟩,
  ⟨some 149, .p (.pick (.tmp 144) (.tmp 148) (.const (.bool false))), none, none⟩,
  ⟨some 6, .p (.mv (.tmp 149)), none, none⟩])
  (.ret)))))))))))))))
noncomputable def e_law03_FieldPowers (k : Nat) (D : CallF) : Ent := entOf 3 [(0, .i .i64), (1, .i .i64), (2, .st [.i .i64, .i .i64])] [(6, .b)] (law03_FieldPowers k D)
theorem q_law03_FieldPowers : (Try.f3.body).bind (rcodeOf Try.prog 0 Try.f3.ntmps) = some (strip r_law03_FieldPowers) := by kernel_rfl
theorem t_law03_FieldPowers (k : Nat) (D : CallF) : curF [(0, .i .i64), (1, .i .i64), (2, .st [.i .i64, .i .i64])] (fun args h => denF (C_law03_FieldPowers k D) k r_law03_FieldPowers [(6, .b)] [none] args h) = law03_FieldPowers k D := by kernel_rfl
theorem ok_law03_FieldPowers {D : CallF} (hD : CSound Try.prog 0 D) (k : Nat) : EntOk Try.prog 0 (e_law03_FieldPowers k D) :=
  entOf_ok2 (mkC_sound hD (EntsOk.more (ok_field_New hD k) (EntsOk.more (ok_book_Among hD k) (EntsOk.more (ok_field_Field_Pow hD k) (EntsOk.more (ok_field_Field_Log hD k) (EntsOk.more (ok_law03_space_mul hD k) (EntsOk.more (ok_law03_works hD k) (EntsOk.none)))))))) Try.func3 rfl q_law03_FieldPowers rfl (t_law03_FieldPowers k D)
end Gy

namespace Gy
open Go Gx Go.Proofs
set_option maxRecDepth 100000

noncomputable def C_field_double (_k : Nat) (D : CallF) : CallF := mkC D []
noncomputable def field_double (_k : Nat) (_D : CallF) (a_0 : Int) (h : AHeap) : Option ((Int) × AHeap) :=
  joinK (fun (a1 : Int) (h2 : AHeap) =>
  some (a1, h2)) fun j3 =>
  (if (decide ((IntKind.wrap .i64 (a_0 * 2)) ≥ 256)) = true then
  j3 (Go.bits .xor .i64 (IntKind.wrap .i64 (a_0 * 2)) 391) h
  else
  j3 (IntKind.wrap .i64 (a_0 * 2)) h)
def r_field_double : RCode := .seq (.region [⟨some 2, .p (.mv (.const (.int .i64 0))), none, none⟩])
  (.seq (.region [⟨some 3, .p (.mv (.tmp 0)), none, none⟩,
  ⟨some 4, .p (.bin .shl (.tmp 3) (.const (.int .u64 1))), none, none⟩,
  ⟨some 0, .p (.mv (.tmp 4)), none, none⟩])
  (.seq (.join [(0, .i .i64)] (.seq (.region [⟨some 5, .p (.mv (.tmp 0)), none, none⟩,
  ⟨some 6, .p (.bin .geq (.tmp 5) (.const (.int .i64 256))), none, none⟩])
  (.cond (.tmp 6) (.region [⟨some 7, .p (.mv (.tmp 0)), none, none⟩,
  ⟨some 8, .p (.bin .xor (.tmp 7) (.const (.int .i64 391))), none, none⟩,
  ⟨some 0, .p (.mv (.tmp 8)), none, none⟩]) (.skip))))
  (.seq (.region [⟨some 9, .p (.mv (.tmp 0)), none, none⟩,
  ⟨some 2, .p (.mv (.tmp 9)), none, none⟩])
  (.ret))))
noncomputable def e_field_double (k : Nat) (D : CallF) : Ent := entOf 84 [(0, .i .i64)] [(2, .i .i64)] (field_double k D)
theorem q_field_double : (Try.f84.body).bind (rcodeOf Try.prog 0 Try.f84.ntmps) = some (strip r_field_double) := by kernel_rfl
theorem t_field_double (k : Nat) (D : CallF) : curF [(0, .i .i64)] (fun args h => denF (C_field_double k D) k r_field_double [(2, .i .i64)] [none] args h) = field_double k D := by kernel_rfl
theorem ok_field_double {D : CallF} (hD : CSound Try.prog 0 D) (k : Nat) : EntOk Try.prog 0 (e_field_double k D) :=
  entOf_ok2 (mkC_sound hD (EntsOk.none)) Try.func84 rfl q_field_double rfl (t_field_double k D)
end Gy

namespace Gy
open Go Gx Go.Proofs
set_option maxRecDepth 100000

noncomputable def C_field_Field_make (k : Nat) (D : CallF) : CallF := mkC D [e_field_double k D]
noncomputable def field_Field_make_l0b (k : Nat) (D : CallF)  (rec5 : (Option Addr) → Int → Int → AHeap → Option ((Unit) × AHeap)) (f1 : Option Addr) (x2 : Int) (y3 : Int) (h4 : AHeap) : Option ((Unit) × AHeap) :=
  (if (decide (y3 < 255)) = true then
  (f1).bind fun p6 =>
  (Gx.idxA 510 1 (⟨p6.block, p6.off + 3 + 0, none⟩ : Addr) y3).bind fun q7 =>
  (st1 q7 (.int .u8 (IntKind.wrap .u8 x2)) h4).bind fun h8 =>
  (f1).bind fun p9 =>
  (Gx.idxA 510 1 (⟨p9.block, p9.off + 3 + 0, none⟩ : Addr) (IntKind.wrap .i64 (y3 + 255))).bind fun q10 =>
  (st1 q10 (.int .u8 (IntKind.wrap .u8 x2)) h8).bind fun h11 =>
  (f1).bind fun p12 =>
  (Gx.idxA 256 1 (⟨p12.block, p12.off + 3 + 510, none⟩ : Addr) x2).bind fun q13 =>
  (st1 q13 (.int .i64 y3) h11).bind fun h14 =>
  (field_double k D x2 h14).bind fun r15 =>
  rec5 f1 r15.1 (IntKind.wrap .i64 (y3 + 1)) r15.2
  else
  some ((), h4))
noncomputable def field_Field_make_l0 (k : Nat) (D : CallF)  : (Option Addr) → Int → Int → AHeap → Option ((Unit) × AHeap) :=
  iterK (α := (Option Addr) → Int → Int → AHeap → Option ((Unit) × AHeap)) (fun _ _ _ _ => none) k (field_Field_make_l0b k D )
noncomputable def field_Field_make (k : Nat) (D : CallF) (f_0 : Option Addr) (h : AHeap) : Option ((Unit) × AHeap) :=
  field_Field_make_l0 k D f_0 1 0 h
def r_field_Field_make : RCode := .seq (.region [⟨some 2, .p (.mv (.const (.int .i64 1))), none, none⟩])
  (.seq (.region [⟨some 4, .p (.mv (.const (.int .i64 0))), none, none⟩])
  (.block 0 (.loop [(0, .p), (2, .i .i64), (4, .i .i64)] (.seq (.region [⟨some 5, .p (.bin .lss (.tmp 4) (.const (.int .i64 255))), none, none⟩])
  (.seq (.cond (.tmp 5) (.skip) (.exit 0))
  (.seq (.block 1 (.seq (.region [⟨some 6, .p (.mv (.tmp 4)), none, none⟩,
  ⟨some 3, .p (.mv (.tmp 6)), none, none⟩])
  (.seq (.draw [⟨0, ⟨some 7, .p (.mv (.tmp 0)), none, none⟩, [0], 0⟩,
  ⟨1, ⟨some 8, .p (.mv (.tmp 3)), none, none⟩, [3], 0⟩,
  ⟨5, ⟨some 12, .p (.mv (.tmp 2)), none, none⟩, [2], 0⟩,
  ⟨6, ⟨some 13, .p (.convI .u8 (.tmp 12)), none, none⟩, [12], 0⟩,
  ⟨9, ⟨some 16, .p (.nilP (.tmp 7)), none, none⟩, [7], 0⟩,
  ⟨10, ⟨some 17, .p (.fieldAddr 3 (.tmp 16)), none, none⟩, [16], 0⟩,
  ⟨11, ⟨some 18, .p (.fieldAddr 0 (.tmp 17)), none, none⟩, [17], 0⟩,
  ⟨12, ⟨some 19, .p (.idxA 510 1 (.tmp 18) (.tmp 8)), none, none⟩, [18, 8], 0⟩,
  ⟨13, ⟨none, .e (.store none (.tmp 19) (.tmp 13)), none, none⟩, [19, 13], 0⟩,
  ⟨2, ⟨some 9, .p (.mv (.tmp 0)), none, none⟩, [0], 1⟩,
  ⟨3, ⟨some 10, .p (.mv (.tmp 3)), none, none⟩, [3], 1⟩,
  ⟨4, ⟨some 11, .p (.bin .add (.tmp 10) (.const (.int .i64 255))), none, none⟩, [10], 1⟩,
  ⟨7, ⟨some 14, .p (.mv (.tmp 2)), none, none⟩, [2], 1⟩,
  ⟨8, ⟨some 15, .p (.convI .u8 (.tmp 14)), none, none⟩, [14], 1⟩,
  ⟨14, ⟨some 20, .p (.nilP (.tmp 9)), none, none⟩, [9], 1⟩,
  ⟨15, ⟨some 21, .p (.fieldAddr 3 (.tmp 20)), none, none⟩, [20], 1⟩,
  ⟨16, ⟨some 22, .p (.fieldAddr 0 (.tmp 21)), none, none⟩, [21], 1⟩,
  ⟨17, ⟨some 23, .p (.idxA 510 1 (.tmp 22) (.tmp 11)), none, none⟩, [22, 11], 0⟩,
  ⟨18, ⟨none, .e (.store none (.tmp 23) (.tmp 15)), none, none⟩, [23, 15], 0⟩])
  (.seq (.region [⟨some 24, .p (.mv (.tmp 0)), none, none⟩,
  ⟨some 25, .p (.mv (.tmp 2)), none, none⟩,
  ⟨some 26, .p (.mv (.tmp 3)), none, none⟩,
  ⟨some 27, .p (.nilP (.tmp 24)), none, none⟩,
  ⟨some 28, .p (.fieldAddr 3 (.tmp 27)), none, none⟩,
  ⟨some 29, .p (.fieldAddr 510 (.tmp 28)), none, none⟩,
  ⟨some 30, .p (.idxA 256 1 (.tmp 29) (.tmp 25)), none, none⟩,
  ⟨none, .e (.store none (.tmp 30) (.tmp 26)), none, none⟩])
  (.region [⟨some 31, .p (.mv (.tmp 2)), none, none⟩,
  ⟨some 32, .e (.call (.func 84) [.tmp 31]), none, none⟩,
  ⟨some 2, .p (.mv (.tmp 32)), none, none⟩])))))
  (.region [⟨some 33, .p (.bin .add (.tmp 4) (.const (.int .i64 1))), none, none⟩,
  ⟨some 4, .p (.mv (.tmp 33)), none, none⟩])))))))
noncomputable def e_field_Field_make (k : Nat) (D : CallF) : Ent := entOf 78 [(0, .p)] [] (field_Field_make k D)
theorem q_field_Field_make : (Try.f78.body).bind (rcodeOf Try.prog 0 Try.f78.ntmps) = some (strip r_field_Field_make) := by kernel_rfl
theorem t_field_Field_make (k : Nat) (D : CallF) : curF [(0, .p)] (fun args h => denF (C_field_Field_make k D) k r_field_Field_make [] [] args h) = field_Field_make k D := by kernel_rfl
theorem ok_field_Field_make {D : CallF} (hD : CSound Try.prog 0 D) (k : Nat) : EntOk Try.prog 0 (e_field_Field_make k D) :=
  entOf_ok2 (mkC_sound hD (EntsOk.more (ok_field_double hD k) (EntsOk.none))) Try.func78 rfl q_field_Field_make rfl (t_field_Field_make k D)
end Gy

namespace Gy
open Go Gx Go.Proofs
set_option maxRecDepth 100000

noncomputable def C_field_Field_Div (k : Nat) (D : CallF) : CallF := mkC D [e_field_is k D, e_field_Field_tables k D]
noncomputable def field_Field_Div (k : Nat) (D : CallF) (f_0 : Option Addr) (a_1 : Int) (b_2 : Int) (h : AHeap) : Option ((Int × Int) × AHeap) :=
  let h1 := AHeap.new h (.cells [.int .i64 a_1, .int .i64 b_2] 3 true 0)
  (field_is k D (⟨(some ⟨h.next, 0, some 0⟩), 2, 2⟩ : Slc) h1).bind fun r2 =>
  (if (!r2.1) = true then
  some ((0, 1), r2.2)
  else
  (if (b_2 == 0) = true then
  some ((0, 30), r2.2)
  else
  (if (a_1 == 0) = true then
  some ((0, 0), r2.2)
  else
  (field_Field_tables k D f_0 r2.2).bind fun r3 =>
  (r3.1).bind fun p4 =>
  (Gx.idxA 256 1 (⟨p4.block, p4.off + 510, none⟩ : Addr) a_1).bind fun q5 =>
  (ldI .i64 q5 r3.2).bind fun x6 =>
  (r3.1).bind fun p7 =>
  (Gx.idxA 256 1 (⟨p7.block, p7.off + 510, none⟩ : Addr) b_2).bind fun q8 =>
  (ldI .i64 q8 r3.2).bind fun x9 =>
  (r3.1).bind fun p10 =>
  (Gx.idxA 510 1 (⟨p10.block, p10.off + 0, none⟩ : Addr) (IntKind.wrap .i64 ((IntKind.wrap .i64 (x6 + 255)) - x9))).bind fun q11 =>
  (ldI .u8 q11 r3.2).bind fun x12 =>
  some (((IntKind.wrap .i64 x12), 0), r3.2))))
def r_field_Field_Div : RCode := .seq (.region [⟨some 6, .p (.mv (.const (.int .i64 0))), none, none⟩,
  ⟨some 7, .p (.mv (.const (.int .i64 0))), none, none⟩])
  (.seq (.block 0 (.seq (.region [⟨some 10, .p (.mv (.tmp 1)), none, none⟩,
  ⟨some 11, .p (.mv (.tmp 2)), none, none⟩,
  ⟨some 12, .a (.buildSlice 3 2 (zerosL 2 [.int .i64 0]) [(0, 1, .tmp 10), (1, 1, .tmp 11)]), none, none⟩,
  ⟨some 13, .e (.call (.func 57) [.tmp 12]), none, none⟩,
  ⟨some 14, .p (.un .not (.tmp 13)), none, none⟩,
  ⟨some 9, .p (.mv (.tmp 14)), none, none⟩])
  (.cond (.tmp 9) (.seq (.region [⟨some 6, .p (.mv (.const (.int .i64 0))), none, none⟩,
  ⟨some 7, .p (.mv (.const (.int .i64 1))), none, none⟩])
  (.ret)) (.seq (.region [⟨some 16, .p (.mv (.tmp 2)), none, none⟩,
  ⟨some 17, .p (.bin .eql (.tmp 16) (.const (.int .i64 0))), none, none⟩,
  ⟨some 15, .p (.mv (.tmp 17)), none, none⟩])
  (.cond (.tmp 15) (.seq (.region [⟨some 6, .p (.mv (.const (.int .i64 0))), none, none⟩,
  ⟨some 7, .p (.mv (.const (.int .i64 30))), none, none⟩])
  (.ret)) (.seq (.region [⟨some 19, .p (.mv (.tmp 1)), none, none⟩,
  ⟨some 20, .p (.bin .eql (.tmp 19) (.const (.int .i64 0))), none, none⟩,
  ⟨some 18, .p (.mv (.tmp 20)), none, none⟩])
  (.cond (.tmp 18) (.seq (.region [⟨some 6, .p (.mv (.const (.int .i64 0))), none, none⟩,
  ⟨some 7, .p (.mv (.const (.int .i64 0))), none, none⟩])
  (.ret)) (.skip))))))))
  (.seq (.region [⟨some 21, .p (.mv (.tmp 0)), none, none⟩,
  ⟨some 22, .e (.call (.func 58) [.tmp 21]), none, none⟩,
  ⟨some 8, .p (.mv (.tmp 22)), none, none⟩])
  (.seq (.draw [⟨0, ⟨some 23, .p (.mv (.tmp 8)), none, none⟩, [8], 0⟩,
  ⟨1, ⟨some 24, .p (.mv (.tmp 8)), none, none⟩, [8], 0⟩,
  ⟨2, ⟨some 25, .p (.mv (.tmp 1)), none, none⟩, [1], 0⟩,
  ⟨3, ⟨some 26, .p (.nilP (.tmp 24)), none, none⟩, [24], 0⟩,
  ⟨4, ⟨some 27, .p (.fieldAddr 510 (.tmp 26)), none, none⟩, [26], 0⟩,
  ⟨5, ⟨some 28, .p (.idxA 256 1 (.tmp 27) (.tmp 25)), none, none⟩, [27, 25], 0⟩,
  ⟨6, ⟨some 29, .l (.load (.i .i64) (.tmp 28)), none, none⟩, [28], 0⟩,
  ⟨7, ⟨some 30, .p (.bin .add (.tmp 29) (.const (.int .i64 255))), none, none⟩, [29], 0⟩,
  ⟨8, ⟨some 31, .p (.mv (.tmp 8)), none, none⟩, [8], 0⟩,
  ⟨9, ⟨some 32, .p (.mv (.tmp 2)), none, none⟩, [2], 0⟩,
  ⟨10, ⟨some 33, .p (.nilP (.tmp 31)), none, none⟩, [31], 0⟩,
  ⟨11, ⟨some 34, .p (.fieldAddr 510 (.tmp 33)), none, none⟩, [33], 0⟩,
  ⟨12, ⟨some 35, .p (.idxA 256 1 (.tmp 34) (.tmp 32)), none, none⟩, [34, 32], 0⟩,
  ⟨13, ⟨some 36, .l (.load (.i .i64) (.tmp 35)), none, none⟩, [35], 0⟩,
  ⟨14, ⟨some 37, .p (.bin .sub (.tmp 30) (.tmp 36)), none, none⟩, [30, 36], 0⟩,
  ⟨15, ⟨some 38, .p (.nilP (.tmp 23)), none, none⟩, [23], 0⟩,
  ⟨16, ⟨some 39, .p (.fieldAddr 0 (.tmp 38)), none, none⟩, [38], 0⟩,
  ⟨17, ⟨some 40, .p (.idxA 510 1 (.tmp 39) (.tmp 37)), none, none⟩, [39, 37], 0⟩,
  ⟨18, ⟨some 41, .l (.load (.i .u8) (.tmp 40)), none, none⟩, [40], 0⟩,
  ⟨19, ⟨some 42, .p (.convI .i64 (.tmp 41)), none, none⟩, [41], 0⟩,
  ⟨20, ⟨some 6, .p (.mv (.tmp 42)), none, none⟩, [42], 0⟩,
  ⟨21, ⟨some 7, .p (.mv (.const (.int .i64 0))), none, none⟩, [], 0⟩])
  (.ret))))
noncomputable def e_field_Field_Div (k : Nat) (D : CallF) : Ent := entOf 19 [(0, .p), (1, .i .i64), (2, .i .i64)] [(6, .i .i64), (7, .i .i64)] (field_Field_Div k D)
theorem q_field_Field_Div : (Try.f19.body).bind (rcodeOf Try.prog 0 Try.f19.ntmps) = some (strip r_field_Field_Div) := by kernel_rfl
theorem t_field_Field_Div (k : Nat) (D : CallF) : curF [(0, .p), (1, .i .i64), (2, .i .i64)] (fun args h => denF (C_field_Field_Div k D) k r_field_Field_Div [(6, .i .i64), (7, .i .i64)] [none, none] args h) = field_Field_Div k D := by kernel_rfl
theorem ok_field_Field_Div {D : CallF} (hD : CSound Try.prog 0 D) (k : Nat) : EntOk Try.prog 0 (e_field_Field_Div k D) :=
  entOf_ok2 (mkC_sound hD (EntsOk.more (ok_field_is hD k) (EntsOk.more (ok_field_Field_tables hD k) (EntsOk.none)))) Try.func19 rfl q_field_Field_Div rfl (t_field_Field_Div k D)
end Gy

namespace Gy
open Go Gx Go.Proofs
set_option maxRecDepth 100000

noncomputable def C_ref03_Times (_k : Nat) (D : CallF) : CallF := mkC D []
noncomputable def ref03_Times_l1b (_k : Nat) (_D : CallF) (j3 : Int → AHeap → Option ((Int) × AHeap)) (rec22 : Int → Int → Int → Int → AHeap → Option ((Int) × AHeap)) (a17 : Int) (b18 : Int) (n19 : Int) (i20 : Int) (h21 : AHeap) : Option ((Int) × AHeap) :=
  (if (decide (i20 < 8)) = true then
  joinK (fun (a23 : Int) (b24 : Int) (n25 : Int) (i26 : Int) (h27 : AHeap) =>
  rec22 a23 b24 n25 (IntKind.wrap .i64 (i26 + 1)) h27) fun j28 =>
  (if 0 ≤ i20 then
  let t29 : Int := (Go.bits .and .i64 (Int.fdiv b18 (2 ^ (min (i20).toNat (IntKind.bits .i64)))) 1)
  (if (t29 == 1) = true then
  (if 0 ≤ i20 then
  let t30 : Int := (IntKind.wrap .i64 (a17 * 2 ^ (min (i20).toNat (IntKind.bits .i64))))
  j28 a17 b18 (Go.bits .xor .i64 n19 t30) i20 h21
  else none)
  else
  j28 a17 b18 n19 i20 h21)
  else none)
  else
  j3 n19 h21)
noncomputable def ref03_Times_l1 (k : Nat) (D : CallF) (j3 : Int → AHeap → Option ((Int) × AHeap)) : Int → Int → Int → Int → AHeap → Option ((Int) × AHeap) :=
  iterK (α := Int → Int → Int → Int → AHeap → Option ((Int) × AHeap)) (fun _ _ _ _ _ => none) k (ref03_Times_l1b k D j3)
noncomputable def ref03_Times_l0b (_k : Nat) (_D : CallF) (j6 : Int → AHeap → Option ((Int) × AHeap)) (rec10 : Int → Int → AHeap → Option ((Int) × AHeap)) (n7 : Int) (i8 : Int) (h9 : AHeap) : Option ((Int) × AHeap) :=
  (if (decide (i8 ≥ 8)) = true then
  joinK (fun (n11 : Int) (i12 : Int) (h13 : AHeap) =>
  rec10 n11 (IntKind.wrap .i64 (i12 - 1)) h13) fun j14 =>
  (if 0 ≤ i8 then
  let t15 : Int := (Go.bits .and .i64 (Int.fdiv n7 (2 ^ (min (i8).toNat (IntKind.bits .i64)))) 1)
  (if (t15 == 1) = true then
  (if 0 ≤ (IntKind.wrap .i64 (i8 - 8)) then
  let t16 : Int := (IntKind.wrap .i64 (391 * 2 ^ (min ((IntKind.wrap .i64 (i8 - 8))).toNat (IntKind.bits .i64))))
  j14 (Go.bits .xor .i64 n7 t16) i8 h9
  else none)
  else
  j14 n7 i8 h9)
  else none)
  else
  j6 n7 h9)
noncomputable def ref03_Times_l0 (k : Nat) (D : CallF) (j6 : Int → AHeap → Option ((Int) × AHeap)) : Int → Int → AHeap → Option ((Int) × AHeap) :=
  iterK (α := Int → Int → AHeap → Option ((Int) × AHeap)) (fun _ _ _ => none) k (ref03_Times_l0b k D j6)
noncomputable def ref03_Times (k : Nat) (D : CallF) (a_0 : Int) (b_1 : Int) (h : AHeap) : Option ((Int) × AHeap) :=
  joinK (fun (n1 : Int) (h2 : AHeap) =>
  joinK (fun (n4 : Int) (h5 : AHeap) =>
  some (n4, h5)) fun j6 =>
  ref03_Times_l0 k D j6 n1 15 h2) fun j3 =>
  ref03_Times_l1 k D j3 a_0 b_1 0 0 h
def r_ref03_Times : RCode := .seq (.region [⟨some 4, .p (.mv (.const (.int .i64 0))), none, none⟩])
  (.seq (.region [⟨some 5, .p (.mv (.const (.int .i64 0))), none, none⟩])
  (.seq (.join [(5, .i .i64)] (.seq (.region [⟨some 6, .p (.mv (.const (.int .i64 0))), none, none⟩])
  (.block 0 (.loop [(0, .i .i64), (1, .i .i64), (5, .i .i64), (6, .i .i64)] (.seq (.seq (.region [⟨some 8, .p (.mv (.tmp 6)), none, none⟩,
  ⟨some 9, .p (.bin .lss (.tmp 8) (.const (.int .i64 8))), none, none⟩])
  (.cond (.tmp 9) (.skip) (.exit 0)))
  (.seq (.join [(0, .i .i64), (1, .i .i64), (5, .i .i64), (6, .i .i64)] (.block 1 (.seq (.region [⟨some 12, .p (.mv (.tmp 1)), none, none⟩,
  ⟨some 13, .p (.mv (.tmp 6)), none, none⟩,
  ⟨some 14, .p (.bin .shr (.tmp 12) (.tmp 13)), none, none⟩,
  ⟨some 15, .p (.bin .and (.tmp 14) (.const (.int .i64 1))), none, none⟩,
  ⟨some 16, .p (.bin .eql (.tmp 15) (.const (.int .i64 1))), none, none⟩])
  (.cond (.tmp 16) (.region [⟨some 17, .p (.mv (.tmp 5)), none, none⟩,
  ⟨some 18, .p (.mv (.tmp 0)), none, none⟩,
  ⟨some 19, .p (.mv (.tmp 6)), none, none⟩,
  ⟨some 20, .p (.bin .shl (.tmp 18) (.tmp 19)), none, none⟩,
  ⟨some 21, .p (.bin .xor (.tmp 17) (.tmp 20)), none, none⟩,
  ⟨some 5, .p (.mv (.tmp 21)), none, none⟩]) (.skip)))))
  (.region [⟨some 10, .p (.mv (.tmp 6)), none, none⟩,
  ⟨some 11, .p (.bin .add (.tmp 10) (.const (.int .i64 1))), none, none⟩,
  ⟨some 6, .p (.mv (.tmp 11)), none, none⟩])))))))
  (.seq (.join [(5, .i .i64)] (.seq (.region [⟨some 7, .p (.mv (.const (.int .i64 15))), none, none⟩])
  (.block 2 (.loop [(5, .i .i64), (7, .i .i64)] (.seq (.seq (.region [⟨some 22, .p (.mv (.tmp 7)), none, none⟩,
  ⟨some 23, .p (.bin .geq (.tmp 22) (.const (.int .i64 8))), none, none⟩])
  (.cond (.tmp 23) (.skip) (.exit 2)))
  (.seq (.join [(5, .i .i64), (7, .i .i64)] (.block 3 (.seq (.region [⟨some 26, .p (.mv (.tmp 5)), none, none⟩,
  ⟨some 27, .p (.mv (.tmp 7)), none, none⟩,
  ⟨some 28, .p (.bin .shr (.tmp 26) (.tmp 27)), none, none⟩,
  ⟨some 29, .p (.bin .and (.tmp 28) (.const (.int .i64 1))), none, none⟩,
  ⟨some 30, .p (.bin .eql (.tmp 29) (.const (.int .i64 1))), none, none⟩])
  (.cond (.tmp 30) (.region [⟨some 31, .p (.mv (.tmp 5)), none, none⟩,
  ⟨some 32, .p (.mv (.tmp 7)), none, none⟩,
  ⟨some 33, .p (.bin .sub (.tmp 32) (.const (.int .i64 8))), none, none⟩,
  ⟨some 34, .p (.bin .shl (.const (.int .i64 391)) (.tmp 33)), none, none⟩,
  ⟨some 35, .p (.bin .xor (.tmp 31) (.tmp 34)), none, none⟩,
  ⟨some 5, .p (.mv (.tmp 35)), none, none⟩]) (.skip)))))
  (.region [⟨some 24, .p (.mv (.tmp 7)), none, none⟩,
  ⟨some 25, .p (.bin .sub (.tmp 24) (.const (.int .i64 1))), none, none⟩,
  ⟨some 7, .p (.mv (.tmp 25)), none, none⟩])))))))
  (.seq (.region [⟨some 36, .p (.mv (.tmp 5)), none, none⟩,
  ⟨some 4, .p (.mv (.tmp 36)), none, none⟩])
  (.ret)))))
noncomputable def e_ref03_Times (k : Nat) (D : CallF) : Ent := entOf 61 [(0, .i .i64), (1, .i .i64)] [(4, .i .i64)] (ref03_Times k D)
theorem q_ref03_Times : (Try.f61.body).bind (rcodeOf Try.prog 0 Try.f61.ntmps) = some (strip r_ref03_Times) := by kernel_rfl
theorem t_ref03_Times (k : Nat) (D : CallF) : curF [(0, .i .i64), (1, .i .i64)] (fun args h => denF (C_ref03_Times k D) k r_ref03_Times [(4, .i .i64)] [none] args h) = ref03_Times k D := by kernel_rfl
theorem ok_ref03_Times {D : CallF} (hD : CSound Try.prog 0 D) (k : Nat) : EntOk Try.prog 0 (e_ref03_Times k D) :=
  entOf_ok2 (mkC_sound hD (EntsOk.none)) Try.func61 rfl q_ref03_Times rfl (t_ref03_Times k D)
end Gy

namespace Gy
open Go Gx Go.Proofs
set_option maxRecDepth 100000

noncomputable def C_ref03_is (_k : Nat) (D : CallF) : CallF := mkC D []
noncomputable def ref03_is (_k : Nat) (_D : CallF) (a_0 : Int) (h : AHeap) : Option ((Bool) × AHeap) :=
  (if (decide (a_0 ≥ 0)) = true then
  some ((decide (a_0 < 256)), h)
  else
  some (false, h))
def r_ref03_is : RCode := .seq (.region [⟨some 2, .p (.mv (.const (.bool false))), none, none⟩])
  (.seq (.region [⟨some 3, .p (.mv (.tmp 0)), none, none⟩,
  ⟨some 4, .p (.bin .geq (.tmp 3) (.const (.int .i64 0))), none, none⟩,
  ⟨some 5, .p (.mv (.tmp 4)), none, none⟩,
  ⟨some 6, .p (.mv (.tmp 0)), (some (5, true)), none⟩,
  ⟨some 7, .p (.bin .lss (.tmp 6) (.const (.int .i64 256))), (some (5, true)), none⟩,
  ⟨some 8, .p (.pick (.tmp 5) (.tmp 7) (.const (.bool false))), none, none⟩,
  ⟨some 2, .p (.mv (.tmp 8)), none, none⟩])
  (.ret))
noncomputable def e_ref03_is (k : Nat) (D : CallF) : Ent := entOf 60 [(0, .i .i64)] [(2, .b)] (ref03_is k D)
theorem q_ref03_is : (Try.f60.body).bind (rcodeOf Try.prog 0 Try.f60.ntmps) = some (strip r_ref03_is) := by kernel_rfl
theorem t_ref03_is (k : Nat) (D : CallF) : curF [(0, .i .i64)] (fun args h => denF (C_ref03_is k D) k r_ref03_is [(2, .b)] [none] args h) = ref03_is k D := by kernel_rfl
theorem ok_ref03_is {D : CallF} (hD : CSound Try.prog 0 D) (k : Nat) : EntOk Try.prog 0 (e_ref03_is k D) :=
  entOf_ok2 (mkC_sound hD (EntsOk.none)) Try.func60 rfl q_ref03_is rfl (t_ref03_is k D)
end Gy

namespace Gy
open Go Gx Go.Proofs
set_option maxRecDepth 100000

noncomputable def C_ref03_Mul (k : Nat) (D : CallF) : CallF := mkC D [e_ref03_Times k D, e_ref03_is k D]
noncomputable def ref03_Mul (k : Nat) (D : CallF) (a_0 : Int) (b_1 : Int) (h : AHeap) : Option ((Int × Int) × AHeap) :=
  joinK (fun (a1 : Int) (b2 : Int) (y3 : Bool) (h4 : AHeap) =>
  (if y3 = true then
  some ((0, 1), h4)
  else
  (ref03_Times k D a1 b2 h4).bind fun r6 =>
  some ((r6.1, 0), r6.2))) fun j5 =>
  (ref03_is k D a_0 h).bind fun r7 =>
  (if (!r7.1) = true then
  j5 a_0 b_1 true r7.2
  else
  (ref03_is k D b_1 r7.2).bind fun r8 =>
  j5 a_0 b_1 (!r8.1) r8.2)
def r_ref03_Mul : RCode := .seq (.region [⟨some 4, .p (.mv (.const (.int .i64 0))), none, none⟩,
  ⟨some 5, .p (.mv (.const (.int .i64 0))), none, none⟩])
  (.seq (.seq (.join [(0, .i .i64), (1, .i .i64), (13, .b)] (.region [⟨some 6, .p (.mv (.tmp 0)), none, none⟩,
  ⟨some 7, .e (.call (.func 60) [.tmp 6]), none, none⟩,
  ⟨some 8, .p (.un .not (.tmp 7)), none, none⟩,
  ⟨some 9, .p (.mv (.tmp 8)), none, none⟩,
  ⟨some 10, .p (.mv (.tmp 1)), (some (9, false)), none⟩,
  ⟨some 11, .e (.call (.func 60) [.tmp 10]), (some (9, false)), none⟩,
  ⟨some 12, .p (.un .not (.tmp 11)), (some (9, false)), none⟩,
  ⟨some 13, .p (.pick (.tmp 9) (.const (.bool true)) (.tmp 12)), none, none⟩]))
  (.cond (.tmp 13) (.seq (.region [⟨some 4, .p (.mv (.const (.int .i64 0))), none, none⟩,
  ⟨some 5, .p (.mv (.const (.int .i64 1))), none, none⟩])
  (.ret)) (.skip)))
  (.seq (.region [⟨some 14, .p (.mv (.tmp 0)), none, none⟩,
  ⟨some 15, .p (.mv (.tmp 1)), none, none⟩,
  ⟨some 16, .e (.call (.func 61) [.tmp 14, .tmp 15]), none, none⟩,
  ⟨some 4, .p (.mv (.tmp 16)), none, none⟩,
  ⟨some 5, .p (.mv (.const (.int .i64 0))), none, none⟩])
  (.ret)))
noncomputable def e_ref03_Mul (k : Nat) (D : CallF) : Ent := entOf 21 [(0, .i .i64), (1, .i .i64)] [(4, .i .i64), (5, .i .i64)] (ref03_Mul k D)
theorem q_ref03_Mul : (Try.f21.body).bind (rcodeOf Try.prog 0 Try.f21.ntmps) = some (strip r_ref03_Mul) := by kernel_rfl
theorem t_ref03_Mul (k : Nat) (D : CallF) : curF [(0, .i .i64), (1, .i .i64)] (fun args h => denF (C_ref03_Mul k D) k r_ref03_Mul [(4, .i .i64), (5, .i .i64)] [none, none] args h) = ref03_Mul k D := by kernel_rfl
theorem ok_ref03_Mul {D : CallF} (hD : CSound Try.prog 0 D) (k : Nat) : EntOk Try.prog 0 (e_ref03_Mul k D) :=
  entOf_ok2 (mkC_sound hD (EntsOk.more (ok_ref03_Times hD k) (EntsOk.more (ok_ref03_is hD k) (EntsOk.none)))) Try.func21 rfl q_ref03_Mul rfl (t_ref03_Mul k D)
end Gy

namespace Gy
open Go Gx Go.Proofs
set_option maxRecDepth 100000

noncomputable def C_ref03_Over (k : Nat) (D : CallF) : CallF := mkC D [e_ref03_Times k D]
noncomputable def ref03_Over_l0b (k : Nat) (D : CallF) (j2 : AHeap → Option ((Int) × AHeap)) (rec7 : Int → Int → Int → AHeap → Option ((Int) × AHeap)) (a3 : Int) (b4 : Int) (q5 : Int) (h6 : AHeap) : Option ((Int) × AHeap) :=
  (if (decide (q5 < 256)) = true then
  (ref03_Times k D q5 b4 h6).bind fun r8 =>
  (if (r8.1 == a3) = true then
  some (q5, r8.2)
  else
  rec7 a3 b4 (IntKind.wrap .i64 (q5 + 1)) r8.2)
  else
  j2 h6)
noncomputable def ref03_Over_l0 (k : Nat) (D : CallF) (j2 : AHeap → Option ((Int) × AHeap)) : Int → Int → Int → AHeap → Option ((Int) × AHeap) :=
  iterK (α := Int → Int → Int → AHeap → Option ((Int) × AHeap)) (fun _ _ _ _ => none) k (ref03_Over_l0b k D j2)
noncomputable def ref03_Over (k : Nat) (D : CallF) (a_0 : Int) (b_1 : Int) (h : AHeap) : Option ((Int) × AHeap) :=
  joinK (fun (h1 : AHeap) =>
  some (0, h1)) fun j2 =>
  ref03_Over_l0 k D j2 a_0 b_1 0 h
def r_ref03_Over : RCode := .seq (.region [⟨some 4, .p (.mv (.const (.int .i64 0))), none, none⟩])
  (.seq (.join [] (.seq (.region [⟨some 5, .p (.mv (.const (.int .i64 0))), none, none⟩])
  (.block 0 (.loop [(0, .i .i64), (1, .i .i64), (5, .i .i64)] (.seq (.seq (.region [⟨some 6, .p (.mv (.tmp 5)), none, none⟩,
  ⟨some 7, .p (.bin .lss (.tmp 6) (.const (.int .i64 256))), none, none⟩])
  (.cond (.tmp 7) (.skip) (.exit 0)))
  (.seq (.block 1 (.seq (.region [⟨some 10, .p (.mv (.tmp 5)), none, none⟩,
  ⟨some 11, .p (.mv (.tmp 1)), none, none⟩,
  ⟨some 12, .e (.call (.func 61) [.tmp 10, .tmp 11]), none, none⟩,
  ⟨some 13, .p (.mv (.tmp 0)), none, none⟩,
  ⟨some 14, .p (.bin .eql (.tmp 12) (.tmp 13)), none, none⟩])
  (.cond (.tmp 14) (.seq (.region [⟨some 15, .p (.mv (.tmp 5)), none, none⟩,
  ⟨some 4, .p (.mv (.tmp 15)), none, none⟩])
  (.ret)) (.skip))))
  (.region [⟨some 8, .p (.mv (.tmp 5)), none, none⟩,
  ⟨some 9, .p (.bin .add (.tmp 8) (.const (.int .i64 1))), none, none⟩,
  ⟨some 5, .p (.mv (.tmp 9)), none, none⟩])))))))
  (.seq (.region [⟨some 4, .p (.mv (.const (.int .i64 0))), none, none⟩])
  (.ret)))
noncomputable def e_ref03_Over (k : Nat) (D : CallF) : Ent := entOf 62 [(0, .i .i64), (1, .i .i64)] [(4, .i .i64)] (ref03_Over k D)
theorem q_ref03_Over : (Try.f62.body).bind (rcodeOf Try.prog 0 Try.f62.ntmps) = some (strip r_ref03_Over) := by kernel_rfl
theorem t_ref03_Over (k : Nat) (D : CallF) : curF [(0, .i .i64), (1, .i .i64)] (fun args h => denF (C_ref03_Over k D) k r_ref03_Over [(4, .i .i64)] [none] args h) = ref03_Over k D := by kernel_rfl
theorem ok_ref03_Over {D : CallF} (hD : CSound Try.prog 0 D) (k : Nat) : EntOk Try.prog 0 (e_ref03_Over k D) :=
  entOf_ok2 (mkC_sound hD (EntsOk.more (ok_ref03_Times hD k) (EntsOk.none))) Try.func62 rfl q_ref03_Over rfl (t_ref03_Over k D)
end Gy

namespace Gy
open Go Gx Go.Proofs
set_option maxRecDepth 100000

noncomputable def C_ref03_Div (k : Nat) (D : CallF) : CallF := mkC D [e_ref03_Over k D, e_ref03_is k D]
noncomputable def ref03_Div (k : Nat) (D : CallF) (a_0 : Int) (b_1 : Int) (h : AHeap) : Option ((Int × Int) × AHeap) :=
  joinK (fun (a1 : Int) (b2 : Int) (y3 : Bool) (h4 : AHeap) =>
  (if y3 = true then
  some ((0, 1), h4)
  else
  (if (b2 == 0) = true then
  some ((0, 30), h4)
  else
  (ref03_Over k D a1 b2 h4).bind fun r6 =>
  some ((r6.1, 0), r6.2)))) fun j5 =>
  (ref03_is k D a_0 h).bind fun r7 =>
  (if (!r7.1) = true then
  j5 a_0 b_1 true r7.2
  else
  (ref03_is k D b_1 r7.2).bind fun r8 =>
  j5 a_0 b_1 (!r8.1) r8.2)
def r_ref03_Div : RCode := .seq (.region [⟨some 4, .p (.mv (.const (.int .i64 0))), none, none⟩,
  ⟨some 5, .p (.mv (.const (.int .i64 0))), none, none⟩])
  (.seq (.seq (.join [(0, .i .i64), (1, .i .i64), (13, .b)] (.region [⟨some 6, .p (.mv (.tmp 0)), none, none⟩,
  ⟨some 7, .e (.call (.func 60) [.tmp 6]), none, none⟩,
  ⟨some 8, .p (.un .not (.tmp 7)), none, none⟩,
  ⟨some 9, .p (.mv (.tmp 8)), none, none⟩,
  ⟨some 10, .p (.mv (.tmp 1)), (some (9, false)), none⟩,
  ⟨some 11, .e (.call (.func 60) [.tmp 10]), (some (9, false)), none⟩,
  ⟨some 12, .p (.un .not (.tmp 11)), (some (9, false)), none⟩,
  ⟨some 13, .p (.pick (.tmp 9) (.const (.bool true)) (.tmp 12)), none, none⟩]))
  (.cond (.tmp 13) (.seq (.region [⟨some 4, .p (.mv (.const (.int .i64 0))), none, none⟩,
  ⟨some 5, .p (.mv (.const (.int .i64 1))), none, none⟩])
  (.ret)) (.skip)))
  (.seq (.seq (.region [⟨some 14, .p (.mv (.tmp 1)), none, none⟩,
  ⟨some 15, .p (.bin .eql (.tmp 14) (.const (.int .i64 0))), none, none⟩])
  (.cond (.tmp 15) (.seq (.region [⟨some 4, .p (.mv (.const (.int .i64 0))), none, none⟩,
  ⟨some 5, .p (.mv (.const (.int .i64 30))), none, none⟩])
  (.ret)) (.skip)))
  (.seq (.region [⟨some 16, .p (.mv (.tmp 0)), none, none⟩,
  ⟨some 17, .p (.mv (.tmp 1)), none, none⟩,
  ⟨some 18, .e (.call (.func 62) [.tmp 16, .tmp 17]), none, none⟩,
  ⟨some 4, .p (.mv (.tmp 18)), none, none⟩,
  ⟨some 5, .p (.mv (.const (.int .i64 0))), none, none⟩])
  (.ret))))
noncomputable def e_ref03_Div (k : Nat) (D : CallF) : Ent := entOf 22 [(0, .i .i64), (1, .i .i64)] [(4, .i .i64), (5, .i .i64)] (ref03_Div k D)
theorem q_ref03_Div : (Try.f22.body).bind (rcodeOf Try.prog 0 Try.f22.ntmps) = some (strip r_ref03_Div) := by kernel_rfl
theorem t_ref03_Div (k : Nat) (D : CallF) : curF [(0, .i .i64), (1, .i .i64)] (fun args h => denF (C_ref03_Div k D) k r_ref03_Div [(4, .i .i64), (5, .i .i64)] [none, none] args h) = ref03_Div k D := by kernel_rfl
theorem ok_ref03_Div {D : CallF} (hD : CSound Try.prog 0 D) (k : Nat) : EntOk Try.prog 0 (e_ref03_Div k D) :=
  entOf_ok2 (mkC_sound hD (EntsOk.more (ok_ref03_Over hD k) (EntsOk.more (ok_ref03_is hD k) (EntsOk.none)))) Try.func22 rfl q_ref03_Div rfl (t_ref03_Div k D)
end Gy

namespace Gy
open Go Gx Go.Proofs
set_option maxRecDepth 100000

noncomputable def C_ref03_Pow (k : Nat) (D : CallF) : CallF := mkC D [e_ref03_Times k D, e_ref03_is k D]
noncomputable def ref03_Pow_l0b (k : Nat) (D : CallF) (j8 : Int → AHeap → Option ((Int × Int) × AHeap)) (rec13 : Int → Int → Int → AHeap → Option ((Int × Int) × AHeap)) (a9 : Int) (n10 : Int) (out11 : Int) (h12 : AHeap) : Option ((Int × Int) × AHeap) :=
  (if (decide (n10 > 0)) = true then
  joinK (fun (a14 : Int) (n15 : Int) (out16 : Int) (h17 : AHeap) =>
  (ref03_Times k D a14 a14 h17).bind fun r19 =>
  rec13 r19.1 (IntKind.wrap .i64 (Int.tdiv n15 2)) out16 r19.2) fun j18 =>
  (if ((Int.tmod n10 2) == 1) = true then
  (ref03_Times k D out11 a9 h12).bind fun r20 =>
  j18 a9 n10 r20.1 r20.2
  else
  j18 a9 n10 out11 h12)
  else
  j8 out11 h12)
noncomputable def ref03_Pow_l0 (k : Nat) (D : CallF) (j8 : Int → AHeap → Option ((Int × Int) × AHeap)) : Int → Int → Int → AHeap → Option ((Int × Int) × AHeap) :=
  iterK (α := Int → Int → Int → AHeap → Option ((Int × Int) × AHeap)) (fun _ _ _ _ => none) k (ref03_Pow_l0b k D j8)
noncomputable def ref03_Pow (k : Nat) (D : CallF) (a_0 : Int) (n_1 : Int) (h : AHeap) : Option ((Int × Int) × AHeap) :=
  joinK (fun (a1 : Int) (n2 : Int) (y3 : Bool) (h4 : AHeap) =>
  (if y3 = true then
  some ((0, 1), h4)
  else
  joinK (fun (out6 : Int) (h7 : AHeap) =>
  some ((out6, 0), h7)) fun j8 =>
  ref03_Pow_l0 k D j8 a1 n2 1 h4)) fun j5 =>
  (ref03_is k D a_0 h).bind fun r21 =>
  (if (!r21.1) = true then
  j5 a_0 n_1 true r21.2
  else
  j5 a_0 n_1 (decide (n_1 < 0)) r21.2)
def r_ref03_Pow : RCode := .seq (.region [⟨some 4, .p (.mv (.const (.int .i64 0))), none, none⟩,
  ⟨some 5, .p (.mv (.const (.int .i64 0))), none, none⟩])
  (.seq (.seq (.join [(0, .i .i64), (1, .i .i64), (13, .b)] (.region [⟨some 7, .p (.mv (.tmp 0)), none, none⟩,
  ⟨some 8, .e (.call (.func 60) [.tmp 7]), none, none⟩,
  ⟨some 9, .p (.un .not (.tmp 8)), none, none⟩,
  ⟨some 10, .p (.mv (.tmp 9)), none, none⟩,
  ⟨some 11, .p (.mv (.tmp 1)), (some (10, false)), none⟩,
  ⟨some 12, .p (.bin .lss (.tmp 11) (.const (.int .i64 0))), (some (10, false)), none⟩,
  ⟨some 13, .p (.pick (.tmp 10) (.const (.bool true)) (.tmp 12)), none, none⟩]))
  (.cond (.tmp 13) (.seq (.region [⟨some 4, .p (.mv (.const (.int .i64 0))), none, none⟩,
  ⟨some 5, .p (.mv (.const (.int .i64 1))), none, none⟩])
  (.ret)) (.skip)))
  (.seq (.region [⟨some 6, .p (.mv (.const (.int .i64 1))), none, none⟩])
  (.seq (.join [(6, .i .i64)] (.block 0 (.loop [(0, .i .i64), (1, .i .i64), (6, .i .i64)] (.seq (.seq (.region [⟨some 14, .p (.mv (.tmp 1)), none, none⟩,
  ⟨some 15, .p (.bin .gtr (.tmp 14) (.const (.int .i64 0))), none, none⟩])
  (.cond (.tmp 15) (.skip) (.exit 0)))
  (.block 1 (.seq (.join [(0, .i .i64), (1, .i .i64), (6, .i .i64)] (.seq (.region [⟨some 16, .p (.mv (.tmp 1)), none, none⟩,
  ⟨some 17, .p (.bin .rem (.tmp 16) (.const (.int .i64 2))), none, none⟩,
  ⟨some 18, .p (.bin .eql (.tmp 17) (.const (.int .i64 1))), none, none⟩])
  (.cond (.tmp 18) (.region [⟨some 19, .p (.mv (.tmp 6)), none, none⟩,
  ⟨some 20, .p (.mv (.tmp 0)), none, none⟩,
  ⟨some 21, .e (.call (.func 61) [.tmp 19, .tmp 20]), none, none⟩,
  ⟨some 6, .p (.mv (.tmp 21)), none, none⟩]) (.skip))))
  (.seq (.region [⟨some 22, .p (.mv (.tmp 0)), none, none⟩,
  ⟨some 23, .p (.mv (.tmp 0)), none, none⟩,
  ⟨some 24, .e (.call (.func 61) [.tmp 22, .tmp 23]), none, none⟩,
  ⟨some 0, .p (.mv (.tmp 24)), none, none⟩])
  (.region [⟨some 25, .p (.mv (.tmp 1)), none, none⟩,
  ⟨some 26, .p (.bin .quo (.tmp 25) (.const (.int .i64 2))), none, none⟩,
  ⟨some 1, .p (.mv (.tmp 26)), none, none⟩]))))))))
  (.seq (.region [⟨some 27, .p (.mv (.tmp 6)), none, none⟩,
  ⟨some 4, .p (.mv (.tmp 27)), none, none⟩,
  ⟨some 5, .p (.mv (.const (.int .i64 0))), none, none⟩])
  (.ret)))))
noncomputable def e_ref03_Pow (k : Nat) (D : CallF) : Ent := entOf 23 [(0, .i .i64), (1, .i .i64)] [(4, .i .i64), (5, .i .i64)] (ref03_Pow k D)
theorem q_ref03_Pow : (Try.f23.body).bind (rcodeOf Try.prog 0 Try.f23.ntmps) = some (strip r_ref03_Pow) := by kernel_rfl
theorem t_ref03_Pow (k : Nat) (D : CallF) : curF [(0, .i .i64), (1, .i .i64)] (fun args h => denF (C_ref03_Pow k D) k r_ref03_Pow [(4, .i .i64), (5, .i .i64)] [none, none] args h) = ref03_Pow k D := by kernel_rfl
theorem ok_ref03_Pow {D : CallF} (hD : CSound Try.prog 0 D) (k : Nat) : EntOk Try.prog 0 (e_ref03_Pow k D) :=
  entOf_ok2 (mkC_sound hD (EntsOk.more (ok_ref03_Times hD k) (EntsOk.more (ok_ref03_is hD k) (EntsOk.none)))) Try.func23 rfl q_ref03_Pow rfl (t_ref03_Pow k D)
end Gy

namespace Gy
open Go Gx Go.Proofs
set_option maxRecDepth 100000

noncomputable def C_ref03_Log (k : Nat) (D : CallF) : CallF := mkC D [e_ref03_is k D, e_ref03_Times k D]
noncomputable def ref03_Log_l0b (k : Nat) (D : CallF) (j3 : AHeap → Option ((Int × Int) × AHeap)) (rec8 : Int → Int → Int → AHeap → Option ((Int × Int) × AHeap)) (a4 : Int) (x5 : Int) (n6 : Int) (h7 : AHeap) : Option ((Int × Int) × AHeap) :=
  (if (decide (n6 < 255)) = true then
  (if (x5 == a4) = true then
  some ((n6, 0), h7)
  else
  (ref03_Times k D x5 2 h7).bind fun r9 =>
  rec8 a4 r9.1 (IntKind.wrap .i64 (n6 + 1)) r9.2)
  else
  j3 h7)
noncomputable def ref03_Log_l0 (k : Nat) (D : CallF) (j3 : AHeap → Option ((Int × Int) × AHeap)) : Int → Int → Int → AHeap → Option ((Int × Int) × AHeap) :=
  iterK (α := Int → Int → Int → AHeap → Option ((Int × Int) × AHeap)) (fun _ _ _ _ => none) k (ref03_Log_l0b k D j3)
noncomputable def ref03_Log (k : Nat) (D : CallF) (a_0 : Int) (h : AHeap) : Option ((Int × Int) × AHeap) :=
  (ref03_is k D a_0 h).bind fun r1 =>
  (if (!r1.1) = true then
  some ((0, 1), r1.2)
  else
  (if (a_0 == 0) = true then
  some ((0, 30), r1.2)
  else
  joinK (fun (h2 : AHeap) =>
  some ((0, 0), h2)) fun j3 =>
  ref03_Log_l0 k D j3 a_0 1 0 r1.2))
def r_ref03_Log : RCode := .seq (.region [⟨some 2, .p (.mv (.const (.int .i64 0))), none, none⟩,
  ⟨some 3, .p (.mv (.const (.int .i64 0))), none, none⟩])
  (.seq (.seq (.region [⟨some 6, .p (.mv (.tmp 0)), none, none⟩,
  ⟨some 7, .e (.call (.func 60) [.tmp 6]), none, none⟩,
  ⟨some 8, .p (.un .not (.tmp 7)), none, none⟩])
  (.cond (.tmp 8) (.seq (.region [⟨some 2, .p (.mv (.const (.int .i64 0))), none, none⟩,
  ⟨some 3, .p (.mv (.const (.int .i64 1))), none, none⟩])
  (.ret)) (.skip)))
  (.seq (.seq (.region [⟨some 9, .p (.mv (.tmp 0)), none, none⟩,
  ⟨some 10, .p (.bin .eql (.tmp 9) (.const (.int .i64 0))), none, none⟩])
  (.cond (.tmp 10) (.seq (.region [⟨some 2, .p (.mv (.const (.int .i64 0))), none, none⟩,
  ⟨some 3, .p (.mv (.const (.int .i64 30))), none, none⟩])
  (.ret)) (.skip)))
  (.seq (.region [⟨some 4, .p (.mv (.const (.int .i64 1))), none, none⟩])
  (.seq (.join [] (.seq (.region [⟨some 5, .p (.mv (.const (.int .i64 0))), none, none⟩])
  (.block 0 (.loop [(0, .i .i64), (4, .i .i64), (5, .i .i64)] (.seq (.seq (.region [⟨some 11, .p (.mv (.tmp 5)), none, none⟩,
  ⟨some 12, .p (.bin .lss (.tmp 11) (.const (.int .i64 255))), none, none⟩])
  (.cond (.tmp 12) (.skip) (.exit 0)))
  (.seq (.block 1 (.seq (.seq (.region [⟨some 15, .p (.mv (.tmp 4)), none, none⟩,
  ⟨some 16, .p (.mv (.tmp 0)), none, none⟩,
  ⟨some 17, .p (.bin .eql (.tmp 15) (.tmp 16)), none, none⟩])
  (.cond (.tmp 17) (.seq (.region [⟨some 18, .p (.mv (.tmp 5)), none, none⟩,
  ⟨some 2, .p (.mv (.tmp 18)), none, none⟩,
  ⟨some 3, .p (.mv (.const (.int .i64 0))), none, none⟩])
  (.ret)) (.skip)))
  (.region [⟨some 19, .p (.mv (.tmp 4)), none, none⟩,
  ⟨some 20, .e (.call (.func 61) [.tmp 19, .const (.int .i64 2)]), none, none⟩,
  ⟨some 4, .p (.mv (.tmp 20)), none, none⟩])))
  (.region [⟨some 13, .p (.mv (.tmp 5)), none, none⟩,
  ⟨some 14, .p (.bin .add (.tmp 13) (.const (.int .i64 1))), none, none⟩,
  ⟨some 5, .p (.mv (.tmp 14)), none, none⟩])))))))
  (.seq (.region [⟨some 2, .p (.mv (.const (.int .i64 0))), none, none⟩,
  ⟨some 3, .p (.mv (.const (.int .i64 0))), none, none⟩])
  (.ret))))))
noncomputable def e_ref03_Log (k : Nat) (D : CallF) : Ent := entOf 24 [(0, .i .i64)] [(2, .i .i64), (3, .i .i64)] (ref03_Log k D)
theorem q_ref03_Log : (Try.f24.body).bind (rcodeOf Try.prog 0 Try.f24.ntmps) = some (strip r_ref03_Log) := by kernel_rfl
theorem t_ref03_Log (k : Nat) (D : CallF) : curF [(0, .i .i64)] (fun args h => denF (C_ref03_Log k D) k r_ref03_Log [(2, .i .i64), (3, .i .i64)] [none, none] args h) = ref03_Log k D := by kernel_rfl
theorem ok_ref03_Log {D : CallF} (hD : CSound Try.prog 0 D) (k : Nat) : EntOk Try.prog 0 (e_ref03_Log k D) :=
  entOf_ok2 (mkC_sound hD (EntsOk.more (ok_ref03_is hD k) (EntsOk.more (ok_ref03_Times hD k) (EntsOk.none)))) Try.func24 rfl q_ref03_Log rfl (t_ref03_Log k D)
end Gy

namespace Gy
open Go Gx Go.Proofs
set_option maxRecDepth 100000

noncomputable def C_field_Add (_k : Nat) (D : CallF) : CallF := mkC D []
noncomputable def field_Add_l0b (_k : Nat) (_D : CallF) (j4 : Slc → AHeap → Option ((ByteArray × Int) × AHeap)) (rec11 : ByteArray → Slc → Int → Int → AHeap → Option ((ByteArray × Int) × AHeap)) (b6 : ByteArray) (out7 : Slc) (y8 : Int) (y9 : Int) (h10 : AHeap) : Option ((ByteArray × Int) × AHeap) :=
  (if (decide (y9 < y8)) = true then
  (Gx.idxL 1 out7 y9).bind fun q12 =>
  (ldI .u8 q12 h10).bind fun x13 =>
  (Gx.idxS b6 y9).bind fun b14 =>
  (Gx.idxL 1 out7 y9).bind fun q15 =>
  (st1 q15 (.int .u8 (Go.bits .xor .u8 x13 b14)) h10).bind fun h16 =>
  rec11 b6 out7 y8 (IntKind.wrap .i64 (y9 + 1)) h16
  else
  j4 out7 h10)
noncomputable def field_Add_l0 (k : Nat) (D : CallF) (j4 : Slc → AHeap → Option ((ByteArray × Int) × AHeap)) : ByteArray → Slc → Int → Int → AHeap → Option ((ByteArray × Int) × AHeap) :=
  iterK (α := ByteArray → Slc → Int → Int → AHeap → Option ((ByteArray × Int) × AHeap)) (fun _ _ _ _ _ => none) k (field_Add_l0b k D j4)
noncomputable def field_Add (k : Nat) (D : CallF) (a_0 : ByteArray) (b_1 : ByteArray) (h : AHeap) : Option ((ByteArray × Int) × AHeap) :=
  (if ((a_0.size : Int) != (b_1.size : Int)) = true then
  some (((⟨#[]⟩ : ByteArray), 4), h)
  else
  let h1 := AHeap.new h (.cells (bytesL a_0) 5 true 0)
  joinK (fun (out2 : Slc) (h3 : AHeap) =>
  (bytesOf h3 out2).bind fun s5 =>
  some ((s5, 0), h3)) fun j4 =>
  field_Add_l0 k D j4 b_1 (⟨(some ⟨h.next, 0, some 2⟩), a_0.size, a_0.size⟩ : Slc) (a_0.size : Int) 0 h1)
def r_field_Add : RCode := .seq (.region [⟨some 4, .p (.mv (.const (.string ⟨#[]⟩))), none, none⟩,
  ⟨some 5, .p (.mv (.const (.int .i64 0))), none, none⟩])
  (.seq (.seq (.region [⟨some 8, .p (.mv (.tmp 0)), none, none⟩,
  ⟨some 9, .p (.lenS (.tmp 8)), none, none⟩,
  ⟨some 10, .p (.mv (.tmp 1)), none, none⟩,
  ⟨some 11, .p (.lenS (.tmp 10)), none, none⟩,
  ⟨some 12, .p (.bin .neq (.tmp 9) (.tmp 11)), none, none⟩])
  (.cond (.tmp 12) (.seq (.region [⟨some 4, .p (.mv (.const (.string ⟨#[]⟩))), none, none⟩,
  ⟨some 5, .p (.mv (.const (.int .i64 4))), none, none⟩])
  (.ret)) (.skip)))
  (.seq (.region [⟨some 13, .p (.mv (.tmp 0)), none, none⟩,
  ⟨some 14, .a (.convSB 5 (.tmp 13)), none, none⟩,
  ⟨some 6, .p (.mv (.tmp 14)), none, none⟩])
  (.seq (.join [(6, .l)] (.seq (.region [⟨some 15, .p (.mv (.tmp 6)), none, none⟩,
  ⟨some 16, .p (.lenL (.tmp 15)), none, none⟩,
  ⟨some 17, .p (.mv (.const (.int .i64 0))), none, none⟩])
  (.block 0 (.loop [(1, .s), (6, .l), (16, .i .i64), (17, .i .i64)] (.seq (.region [⟨some 18, .p (.bin .lss (.tmp 17) (.tmp 16)), none, none⟩])
  (.seq (.cond (.tmp 18) (.skip) (.exit 0))
  (.seq (.block 1 (.seq (.region [⟨some 19, .p (.mv (.tmp 17)), none, none⟩,
  ⟨some 7, .p (.mv (.tmp 19)), none, none⟩])
  (.draw [⟨0, ⟨some 20, .p (.mv (.tmp 6)), none, none⟩, [6], 0⟩,
  ⟨1, ⟨some 21, .p (.mv (.tmp 7)), none, none⟩, [7], 0⟩,
  ⟨2, ⟨some 22, .p (.idxL 1 (.tmp 20) (.tmp 21)), none, none⟩, [20, 21], 0⟩,
  ⟨3, ⟨some 23, .l (.load (.i .u8) (.tmp 22)), none, none⟩, [22], 0⟩,
  ⟨4, ⟨some 24, .p (.mv (.tmp 1)), none, none⟩, [1], 0⟩,
  ⟨5, ⟨some 25, .p (.mv (.tmp 7)), none, none⟩, [7], 0⟩,
  ⟨6, ⟨some 26, .p (.idxS (.tmp 24) (.tmp 25)), none, none⟩, [24, 25], 0⟩,
  ⟨7, ⟨some 27, .p (.bin .xor (.tmp 23) (.tmp 26)), none, none⟩, [23, 26], 0⟩,
  ⟨8, ⟨some 28, .p (.idxL 1 (.tmp 20) (.tmp 21)), none, none⟩, [20, 21], 0⟩,
  ⟨9, ⟨none, .e (.store none (.tmp 28) (.tmp 27)), none, none⟩, [28, 27], 0⟩])))
  (.region [⟨some 29, .p (.bin .add (.tmp 17) (.const (.int .i64 1))), none, none⟩,
  ⟨some 17, .p (.mv (.tmp 29)), none, none⟩]))))))))
  (.seq (.region [⟨some 30, .p (.mv (.tmp 6)), none, none⟩,
  ⟨some 31, .l (.convBS (.tmp 30)), none, none⟩,
  ⟨some 4, .p (.mv (.tmp 31)), none, none⟩,
  ⟨some 5, .p (.mv (.const (.int .i64 0))), none, none⟩])
  (.ret)))))
noncomputable def e_field_Add (k : Nat) (D : CallF) : Ent := entOf 30 [(0, .s), (1, .s)] [(4, .s), (5, .i .i64)] (field_Add k D)
theorem q_field_Add : (Try.f30.body).bind (rcodeOf Try.prog 0 Try.f30.ntmps) = some (strip r_field_Add) := by kernel_rfl
theorem t_field_Add (k : Nat) (D : CallF) : curF [(0, .s), (1, .s)] (fun args h => denF (C_field_Add k D) k r_field_Add [(4, .s), (5, .i .i64)] [none, none] args h) = field_Add k D := by kernel_rfl
theorem ok_field_Add {D : CallF} (hD : CSound Try.prog 0 D) (k : Nat) : EntOk Try.prog 0 (e_field_Add k D) :=
  entOf_ok2 (mkC_sound hD (EntsOk.none)) Try.func30 rfl q_field_Add rfl (t_field_Add k D)
end Gy

namespace Gy
open Go Gx Go.Proofs
set_option maxRecDepth 100000

noncomputable def C_ref03_Add (_k : Nat) (D : CallF) : CallF := mkC D []
noncomputable def ref03_Add_l0b (_k : Nat) (_D : CallF) (j4 : Slc → AHeap → Option ((ByteArray × Int) × AHeap)) (rec11 : ByteArray → ByteArray → Slc → Int → AHeap → Option ((ByteArray × Int) × AHeap)) (a6 : ByteArray) (b7 : ByteArray) (out8 : Slc) (i9 : Int) (h10 : AHeap) : Option ((ByteArray × Int) × AHeap) :=
  (if (decide (i9 < (a6.size : Int))) = true then
  (Gx.idxS a6 i9).bind fun b12 =>
  (Gx.idxS b7 i9).bind fun b13 =>
  (Gx.idxL 1 out8 i9).bind fun q14 =>
  (st1 q14 (.int .u8 (Go.bits .xor .u8 b12 b13)) h10).bind fun h15 =>
  rec11 a6 b7 out8 (IntKind.wrap .i64 (i9 + 1)) h15
  else
  j4 out8 h10)
noncomputable def ref03_Add_l0 (k : Nat) (D : CallF) (j4 : Slc → AHeap → Option ((ByteArray × Int) × AHeap)) : ByteArray → ByteArray → Slc → Int → AHeap → Option ((ByteArray × Int) × AHeap) :=
  iterK (α := ByteArray → ByteArray → Slc → Int → AHeap → Option ((ByteArray × Int) × AHeap)) (fun _ _ _ _ _ => none) k (ref03_Add_l0b k D j4)
noncomputable def ref03_Add (k : Nat) (D : CallF) (a_0 : ByteArray) (b_1 : ByteArray) (h : AHeap) : Option ((ByteArray × Int) × AHeap) :=
  (if ((a_0.size : Int) != (b_1.size : Int)) = true then
  some (((⟨#[]⟩ : ByteArray), 4), h)
  else
  (if 0 ≤ (a_0.size : Int) ∧ (a_0.size : Int) ≤ (a_0.size : Int) ∧ (a_0.size : Int) ≤ 281474976710656 ∧ 1 * (a_0.size : Int) ≤ 281474976710656 then
  let h1 := AHeap.new h (.cells (zerosL ((a_0.size : Int)).toNat [.int .u8 0]) 5 true 0)
  joinK (fun (out2 : Slc) (h3 : AHeap) =>
  (bytesOf h3 out2).bind fun s5 =>
  some ((s5, 0), h3)) fun j4 =>
  ref03_Add_l0 k D j4 a_0 b_1 (⟨(some ⟨h.next, 0, some 0⟩), ((a_0.size : Int)).toNat, ((a_0.size : Int)).toNat⟩ : Slc) 0 h1
  else none))
def r_ref03_Add : RCode := .seq (.region [⟨some 4, .p (.mv (.const (.string ⟨#[]⟩))), none, none⟩,
  ⟨some 5, .p (.mv (.const (.int .i64 0))), none, none⟩])
  (.seq (.seq (.region [⟨some 8, .p (.mv (.tmp 0)), none, none⟩,
  ⟨some 9, .p (.lenS (.tmp 8)), none, none⟩,
  ⟨some 10, .p (.mv (.tmp 1)), none, none⟩,
  ⟨some 11, .p (.lenS (.tmp 10)), none, none⟩,
  ⟨some 12, .p (.bin .neq (.tmp 9) (.tmp 11)), none, none⟩])
  (.cond (.tmp 12) (.seq (.region [⟨some 4, .p (.mv (.const (.string ⟨#[]⟩))), none, none⟩,
  ⟨some 5, .p (.mv (.const (.int .i64 4))), none, none⟩])
  (.ret)) (.skip)))
  (.seq (.region [⟨some 13, .p (.mv (.tmp 0)), none, none⟩,
  ⟨some 14, .p (.lenS (.tmp 13)), none, none⟩,
  ⟨some 15, .a (.mkSlice 5 1 [.int .u8 0] (.tmp 14) (.tmp 14)), none, none⟩,
  ⟨some 6, .p (.mv (.tmp 15)), none, none⟩])
  (.seq (.join [(6, .l)] (.seq (.region [⟨some 7, .p (.mv (.const (.int .i64 0))), none, none⟩])
  (.block 0 (.loop [(0, .s), (1, .s), (6, .l), (7, .i .i64)] (.seq (.seq (.region [⟨some 16, .p (.mv (.tmp 7)), none, none⟩,
  ⟨some 17, .p (.mv (.tmp 0)), none, none⟩,
  ⟨some 18, .p (.lenS (.tmp 17)), none, none⟩,
  ⟨some 19, .p (.bin .lss (.tmp 16) (.tmp 18)), none, none⟩])
  (.cond (.tmp 19) (.skip) (.exit 0)))
  (.seq (.block 1 (.draw [⟨0, ⟨some 22, .p (.mv (.tmp 6)), none, none⟩, [6], 0⟩,
  ⟨1, ⟨some 23, .p (.mv (.tmp 7)), none, none⟩, [7], 0⟩,
  ⟨2, ⟨some 24, .p (.mv (.tmp 0)), none, none⟩, [0], 0⟩,
  ⟨3, ⟨some 25, .p (.mv (.tmp 7)), none, none⟩, [7], 0⟩,
  ⟨4, ⟨some 26, .p (.idxS (.tmp 24) (.tmp 25)), none, none⟩, [24, 25], 0⟩,
  ⟨5, ⟨some 27, .p (.mv (.tmp 1)), none, none⟩, [1], 0⟩,
  ⟨6, ⟨some 28, .p (.mv (.tmp 7)), none, none⟩, [7], 0⟩,
  ⟨7, ⟨some 29, .p (.idxS (.tmp 27) (.tmp 28)), none, none⟩, [27, 28], 0⟩,
  ⟨8, ⟨some 30, .p (.bin .xor (.tmp 26) (.tmp 29)), none, none⟩, [26, 29], 0⟩,
  ⟨9, ⟨some 31, .p (.idxL 1 (.tmp 22) (.tmp 23)), none, none⟩, [22, 23], 0⟩,
  ⟨10, ⟨none, .e (.store none (.tmp 31) (.tmp 30)), none, none⟩, [31, 30], 0⟩]))
  (.region [⟨some 20, .p (.mv (.tmp 7)), none, none⟩,
  ⟨some 21, .p (.bin .add (.tmp 20) (.const (.int .i64 1))), none, none⟩,
  ⟨some 7, .p (.mv (.tmp 21)), none, none⟩])))))))
  (.seq (.region [⟨some 32, .p (.mv (.tmp 6)), none, none⟩,
  ⟨some 33, .l (.convBS (.tmp 32)), none, none⟩,
  ⟨some 4, .p (.mv (.tmp 33)), none, none⟩,
  ⟨some 5, .p (.mv (.const (.int .i64 0))), none, none⟩])
  (.ret)))))
noncomputable def e_ref03_Add (k : Nat) (D : CallF) : Ent := entOf 31 [(0, .s), (1, .s)] [(4, .s), (5, .i .i64)] (ref03_Add k D)
theorem q_ref03_Add : (Try.f31.body).bind (rcodeOf Try.prog 0 Try.f31.ntmps) = some (strip r_ref03_Add) := by kernel_rfl
theorem t_ref03_Add (k : Nat) (D : CallF) : curF [(0, .s), (1, .s)] (fun args h => denF (C_ref03_Add k D) k r_ref03_Add [(4, .s), (5, .i .i64)] [none, none] args h) = ref03_Add k D := by kernel_rfl
theorem ok_ref03_Add {D : CallF} (hD : CSound Try.prog 0 D) (k : Nat) : EntOk Try.prog 0 (e_ref03_Add k D) :=
  entOf_ok2 (mkC_sound hD (EntsOk.none)) Try.func31 rfl q_ref03_Add rfl (t_ref03_Add k D)
end Gy

namespace Gy
open Go Gx Go.Proofs
set_option maxRecDepth 100000

noncomputable def C_field_Field_Scale (k : Nat) (D : CallF) : CallF := mkC D [e_field_is k D, e_field_Field_tables k D, e_field_tables_times k D]
noncomputable def field_Field_Scale_l0b (k : Nat) (D : CallF) (j7 : Slc → AHeap → Option ((ByteArray × Int) × AHeap)) (rec16 : Int → Slc → (Option Addr) → Slc → Int → Int → AHeap → Option ((ByteArray × Int) × AHeap)) (c9 : Int) (out10 : Slc) (t11 : Option Addr) (y12 : Slc) (y13 : Int) (y14 : Int) (h15 : AHeap) : Option ((ByteArray × Int) × AHeap) :=
  (if (decide (y14 < y13)) = true then
  (Gx.idxL 1 y12 y14).bind fun q17 =>
  (ldI .u8 q17 h15).bind fun x18 =>
  (field_tables_times k D t11 (IntKind.wrap .i64 x18) c9 h15).bind fun r19 =>
  (Gx.idxL 1 out10 y14).bind fun q20 =>
  (st1 q20 (.int .u8 (IntKind.wrap .u8 r19.1)) r19.2).bind fun h21 =>
  rec16 c9 out10 t11 y12 y13 (IntKind.wrap .i64 (y14 + 1)) h21
  else
  j7 out10 h15)
noncomputable def field_Field_Scale_l0 (k : Nat) (D : CallF) (j7 : Slc → AHeap → Option ((ByteArray × Int) × AHeap)) : Int → Slc → (Option Addr) → Slc → Int → Int → AHeap → Option ((ByteArray × Int) × AHeap) :=
  iterK (α := Int → Slc → (Option Addr) → Slc → Int → Int → AHeap → Option ((ByteArray × Int) × AHeap)) (fun _ _ _ _ _ _ _ => none) k (field_Field_Scale_l0b k D j7)
noncomputable def field_Field_Scale (k : Nat) (D : CallF) (f_0 : Option Addr) (s_1 : ByteArray) (c_2 : Int) (h : AHeap) : Option ((ByteArray × Int) × AHeap) :=
  let h1 := AHeap.new h (.cells [.int .i64 c_2] 3 true 0)
  (field_is k D (⟨(some ⟨h.next, 0, some 0⟩), 1, 1⟩ : Slc) h1).bind fun r2 =>
  (if (!r2.1) = true then
  some (((⟨#[]⟩ : ByteArray), 1), r2.2)
  else
  let h3 := AHeap.new r2.2 (.cells (bytesL s_1) 5 true 0)
  (field_Field_tables k D f_0 h3).bind fun r4 =>
  joinK (fun (out5 : Slc) (h6 : AHeap) =>
  (bytesOf h6 out5).bind fun s8 =>
  some ((s8, 0), h6)) fun j7 =>
  field_Field_Scale_l0 k D j7 c_2 (⟨(some ⟨r2.2.next, 0, some 2⟩), s_1.size, s_1.size⟩ : Slc) r4.1 (⟨(some ⟨r2.2.next, 0, some 2⟩), s_1.size, s_1.size⟩ : Slc) (s_1.size : Int) 0 r4.2)
def r_field_Field_Scale : RCode := .seq (.region [⟨some 6, .p (.mv (.const (.string ⟨#[]⟩))), none, none⟩,
  ⟨some 7, .p (.mv (.const (.int .i64 0))), none, none⟩])
  (.seq (.seq (.region [⟨some 12, .p (.mv (.tmp 2)), none, none⟩,
  ⟨some 13, .a (.buildSlice 3 1 (zerosL 1 [.int .i64 0]) [(0, 1, .tmp 12)]), none, none⟩,
  ⟨some 14, .e (.call (.func 57) [.tmp 13]), none, none⟩,
  ⟨some 15, .p (.un .not (.tmp 14)), none, none⟩])
  (.cond (.tmp 15) (.seq (.region [⟨some 6, .p (.mv (.const (.string ⟨#[]⟩))), none, none⟩,
  ⟨some 7, .p (.mv (.const (.int .i64 1))), none, none⟩])
  (.ret)) (.skip)))
  (.seq (.region [⟨some 16, .p (.mv (.tmp 1)), none, none⟩,
  ⟨some 17, .a (.convSB 5 (.tmp 16)), none, none⟩,
  ⟨some 8, .p (.mv (.tmp 17)), none, none⟩])
  (.seq (.region [⟨some 18, .p (.mv (.tmp 0)), none, none⟩,
  ⟨some 19, .e (.call (.func 58) [.tmp 18]), none, none⟩,
  ⟨some 9, .p (.mv (.tmp 19)), none, none⟩])
  (.seq (.join [(8, .l)] (.seq (.region [⟨some 20, .p (.mv (.tmp 8)), none, none⟩,
  ⟨some 21, .p (.lenL (.tmp 20)), none, none⟩,
  ⟨some 22, .p (.mv (.const (.int .i64 0))), none, none⟩])
  (.block 0 (.loop [(2, .i .i64), (8, .l), (9, .p), (20, .l), (21, .i .i64), (22, .i .i64)] (.seq (.region [⟨some 23, .p (.bin .lss (.tmp 22) (.tmp 21)), none, none⟩])
  (.seq (.cond (.tmp 23) (.skip) (.exit 0))
  (.seq (.block 1 (.seq (.region [⟨some 24, .p (.mv (.tmp 22)), none, none⟩,
  ⟨some 25, .p (.idxL 1 (.tmp 20) (.tmp 22)), none, none⟩,
  ⟨some 26, .l (.load (.i .u8) (.tmp 25)), none, none⟩,
  ⟨some 10, .p (.mv (.tmp 24)), none, none⟩,
  ⟨some 11, .p (.mv (.tmp 26)), none, none⟩])
  (.region [⟨some 27, .p (.mv (.tmp 8)), none, none⟩,
  ⟨some 28, .p (.mv (.tmp 10)), none, none⟩,
  ⟨some 29, .p (.mv (.tmp 9)), none, none⟩,
  ⟨some 30, .p (.mv (.tmp 11)), none, none⟩,
  ⟨some 31, .p (.convI .i64 (.tmp 30)), none, none⟩,
  ⟨some 32, .p (.mv (.tmp 2)), none, none⟩,
  ⟨some 33, .e (.call (.func 59) [.tmp 29, .tmp 31, .tmp 32]), none, none⟩,
  ⟨some 34, .p (.convI .u8 (.tmp 33)), none, none⟩,
  ⟨some 35, .p (.idxL 1 (.tmp 27) (.tmp 28)), none, none⟩,
  ⟨none, .e (.store none (.tmp 35) (.tmp 34)), none, none⟩])))
  (.region [⟨some 36, .p (.bin .add (.tmp 22) (.const (.int .i64 1))), none, none⟩,
  ⟨some 22, .p (.mv (.tmp 36)), none, none⟩]))))))))
  (.seq (.region [⟨some 37, .p (.mv (.tmp 8)), none, none⟩,
  ⟨some 38, .l (.convBS (.tmp 37)), none, none⟩,
  ⟨some 6, .p (.mv (.tmp 38)), none, none⟩,
  ⟨some 7, .p (.mv (.const (.int .i64 0))), none, none⟩])
  (.ret))))))
noncomputable def e_field_Field_Scale (k : Nat) (D : CallF) : Ent := entOf 32 [(0, .p), (1, .s), (2, .i .i64)] [(6, .s), (7, .i .i64)] (field_Field_Scale k D)
theorem q_field_Field_Scale : (Try.f32.body).bind (rcodeOf Try.prog 0 Try.f32.ntmps) = some (strip r_field_Field_Scale) := by kernel_rfl
theorem t_field_Field_Scale (k : Nat) (D : CallF) : curF [(0, .p), (1, .s), (2, .i .i64)] (fun args h => denF (C_field_Field_Scale k D) k r_field_Field_Scale [(6, .s), (7, .i .i64)] [none, none] args h) = field_Field_Scale k D := by kernel_rfl
theorem ok_field_Field_Scale {D : CallF} (hD : CSound Try.prog 0 D) (k : Nat) : EntOk Try.prog 0 (e_field_Field_Scale k D) :=
  entOf_ok2 (mkC_sound hD (EntsOk.more (ok_field_is hD k) (EntsOk.more (ok_field_Field_tables hD k) (EntsOk.more (ok_field_tables_times hD k) (EntsOk.none))))) Try.func32 rfl q_field_Field_Scale rfl (t_field_Field_Scale k D)
end Gy

namespace Gy
open Go Gx Go.Proofs
set_option maxRecDepth 100000

noncomputable def C_ref03_By (k : Nat) (D : CallF) : CallF := mkC D [e_ref03_Times k D]
noncomputable def ref03_By_l0b (k : Nat) (D : CallF) (j4 : Slc → AHeap → Option ((ByteArray) × AHeap)) (rec11 : ByteArray → Int → Slc → Int → AHeap → Option ((ByteArray) × AHeap)) (s6 : ByteArray) (c7 : Int) (out8 : Slc) (i9 : Int) (h10 : AHeap) : Option ((ByteArray) × AHeap) :=
  (if (decide (i9 < (s6.size : Int))) = true then
  (Gx.idxS s6 i9).bind fun b12 =>
  (ref03_Times k D (IntKind.wrap .i64 b12) c7 h10).bind fun r13 =>
  (Gx.idxL 1 out8 i9).bind fun q14 =>
  (st1 q14 (.int .u8 (IntKind.wrap .u8 r13.1)) r13.2).bind fun h15 =>
  rec11 s6 c7 out8 (IntKind.wrap .i64 (i9 + 1)) h15
  else
  j4 out8 h10)
noncomputable def ref03_By_l0 (k : Nat) (D : CallF) (j4 : Slc → AHeap → Option ((ByteArray) × AHeap)) : ByteArray → Int → Slc → Int → AHeap → Option ((ByteArray) × AHeap) :=
  iterK (α := ByteArray → Int → Slc → Int → AHeap → Option ((ByteArray) × AHeap)) (fun _ _ _ _ _ => none) k (ref03_By_l0b k D j4)
noncomputable def ref03_By (k : Nat) (D : CallF) (s_0 : ByteArray) (c_1 : Int) (h : AHeap) : Option ((ByteArray) × AHeap) :=
  (if 0 ≤ (s_0.size : Int) ∧ (s_0.size : Int) ≤ (s_0.size : Int) ∧ (s_0.size : Int) ≤ 281474976710656 ∧ 1 * (s_0.size : Int) ≤ 281474976710656 then
  let h1 := AHeap.new h (.cells (zerosL ((s_0.size : Int)).toNat [.int .u8 0]) 5 true 0)
  joinK (fun (out2 : Slc) (h3 : AHeap) =>
  (bytesOf h3 out2).bind fun s5 =>
  some (s5, h3)) fun j4 =>
  ref03_By_l0 k D j4 s_0 c_1 (⟨(some ⟨h.next, 0, some 0⟩), ((s_0.size : Int)).toNat, ((s_0.size : Int)).toNat⟩ : Slc) 0 h1
  else none)
def r_ref03_By : RCode := .seq (.region [⟨some 4, .p (.mv (.const (.string ⟨#[]⟩))), none, none⟩])
  (.seq (.region [⟨some 7, .p (.mv (.tmp 0)), none, none⟩,
  ⟨some 8, .p (.lenS (.tmp 7)), none, none⟩,
  ⟨some 9, .a (.mkSlice 5 1 [.int .u8 0] (.tmp 8) (.tmp 8)), none, none⟩,
  ⟨some 5, .p (.mv (.tmp 9)), none, none⟩])
  (.seq (.join [(5, .l)] (.seq (.region [⟨some 6, .p (.mv (.const (.int .i64 0))), none, none⟩])
  (.block 0 (.loop [(0, .s), (1, .i .i64), (5, .l), (6, .i .i64)] (.seq (.seq (.region [⟨some 10, .p (.mv (.tmp 6)), none, none⟩,
  ⟨some 11, .p (.mv (.tmp 0)), none, none⟩,
  ⟨some 12, .p (.lenS (.tmp 11)), none, none⟩,
  ⟨some 13, .p (.bin .lss (.tmp 10) (.tmp 12)), none, none⟩])
  (.cond (.tmp 13) (.skip) (.exit 0)))
  (.seq (.block 1 (.region [⟨some 16, .p (.mv (.tmp 5)), none, none⟩,
  ⟨some 17, .p (.mv (.tmp 6)), none, none⟩,
  ⟨some 18, .p (.mv (.tmp 0)), none, none⟩,
  ⟨some 19, .p (.mv (.tmp 6)), none, none⟩,
  ⟨some 20, .p (.idxS (.tmp 18) (.tmp 19)), none, none⟩,
  ⟨some 21, .p (.convI .i64 (.tmp 20)), none, none⟩,
  ⟨some 22, .p (.mv (.tmp 1)), none, none⟩,
  ⟨some 23, .e (.call (.func 61) [.tmp 21, .tmp 22]), none, none⟩,
  ⟨some 24, .p (.convI .u8 (.tmp 23)), none, none⟩,
  ⟨some 25, .p (.idxL 1 (.tmp 16) (.tmp 17)), none, none⟩,
  ⟨none, .e (.store none (.tmp 25) (.tmp 24)), none, none⟩]))
  (.region [⟨some 14, .p (.mv (.tmp 6)), none, none⟩,
  ⟨some 15, .p (.bin .add (.tmp 14) (.const (.int .i64 1))), none, none⟩,
  ⟨some 6, .p (.mv (.tmp 15)), none, none⟩])))))))
  (.seq (.region [⟨some 26, .p (.mv (.tmp 5)), none, none⟩,
  ⟨some 27, .l (.convBS (.tmp 26)), none, none⟩,
  ⟨some 4, .p (.mv (.tmp 27)), none, none⟩])
  (.ret))))
noncomputable def e_ref03_By (k : Nat) (D : CallF) : Ent := entOf 63 [(0, .s), (1, .i .i64)] [(4, .s)] (ref03_By k D)
theorem q_ref03_By : (Try.f63.body).bind (rcodeOf Try.prog 0 Try.f63.ntmps) = some (strip r_ref03_By) := by kernel_rfl
theorem t_ref03_By (k : Nat) (D : CallF) : curF [(0, .s), (1, .i .i64)] (fun args h => denF (C_ref03_By k D) k r_ref03_By [(4, .s)] [none] args h) = ref03_By k D := by kernel_rfl
theorem ok_ref03_By {D : CallF} (hD : CSound Try.prog 0 D) (k : Nat) : EntOk Try.prog 0 (e_ref03_By k D) :=
  entOf_ok2 (mkC_sound hD (EntsOk.more (ok_ref03_Times hD k) (EntsOk.none))) Try.func63 rfl q_ref03_By rfl (t_ref03_By k D)
end Gy

namespace Gy
open Go Gx Go.Proofs
set_option maxRecDepth 100000

noncomputable def C_ref03_Scale (k : Nat) (D : CallF) : CallF := mkC D [e_ref03_is k D, e_ref03_By k D]
noncomputable def ref03_Scale (k : Nat) (D : CallF) (s_0 : ByteArray) (c_1 : Int) (h : AHeap) : Option ((ByteArray × Int) × AHeap) :=
  (ref03_is k D c_1 h).bind fun r1 =>
  (if (!r1.1) = true then
  some (((⟨#[]⟩ : ByteArray), 1), r1.2)
  else
  (ref03_By k D s_0 c_1 r1.2).bind fun r2 =>
  some ((r2.1, 0), r2.2))
def r_ref03_Scale : RCode := .seq (.region [⟨some 4, .p (.mv (.const (.string ⟨#[]⟩))), none, none⟩,
  ⟨some 5, .p (.mv (.const (.int .i64 0))), none, none⟩])
  (.seq (.seq (.region [⟨some 6, .p (.mv (.tmp 1)), none, none⟩,
  ⟨some 7, .e (.call (.func 60) [.tmp 6]), none, none⟩,
  ⟨some 8, .p (.un .not (.tmp 7)), none, none⟩])
  (.cond (.tmp 8) (.seq (.region [⟨some 4, .p (.mv (.const (.string ⟨#[]⟩))), none, none⟩,
  ⟨some 5, .p (.mv (.const (.int .i64 1))), none, none⟩])
  (.ret)) (.skip)))
  (.seq (.region [⟨some 9, .p (.mv (.tmp 0)), none, none⟩,
  ⟨some 10, .p (.mv (.tmp 1)), none, none⟩,
  ⟨some 11, .e (.call (.func 63) [.tmp 9, .tmp 10]), none, none⟩,
  ⟨some 4, .p (.mv (.tmp 11)), none, none⟩,
  ⟨some 5, .p (.mv (.const (.int .i64 0))), none, none⟩])
  (.ret)))
noncomputable def e_ref03_Scale (k : Nat) (D : CallF) : Ent := entOf 33 [(0, .s), (1, .i .i64)] [(4, .s), (5, .i .i64)] (ref03_Scale k D)
theorem q_ref03_Scale : (Try.f33.body).bind (rcodeOf Try.prog 0 Try.f33.ntmps) = some (strip r_ref03_Scale) := by kernel_rfl
theorem t_ref03_Scale (k : Nat) (D : CallF) : curF [(0, .s), (1, .i .i64)] (fun args h => denF (C_ref03_Scale k D) k r_ref03_Scale [(4, .s), (5, .i .i64)] [none, none] args h) = ref03_Scale k D := by kernel_rfl
theorem ok_ref03_Scale {D : CallF} (hD : CSound Try.prog 0 D) (k : Nat) : EntOk Try.prog 0 (e_ref03_Scale k D) :=
  entOf_ok2 (mkC_sound hD (EntsOk.more (ok_ref03_is hD k) (EntsOk.more (ok_ref03_By hD k) (EntsOk.none)))) Try.func33 rfl q_ref03_Scale rfl (t_ref03_Scale k D)
end Gy

namespace Gy
open Go Gx Go.Proofs
set_option maxRecDepth 100000

noncomputable def C_field_Field_Mix (k : Nat) (D : CallF) : CallF := mkC D [e_field_is k D, e_field_Field_tables k D, e_field_tables_times k D]
noncomputable def field_Field_Mix_l2b (_k : Nat) (_D : CallF) (j6 : (Option Addr) → Slc → Slc → Int → AHeap → Option ((ByteArray × Int) × AHeap)) (rec69 : (Option Addr) → Slc → Slc → Int → Slc → Int → Int → AHeap → Option ((ByteArray × Int) × AHeap)) (f61 : Option Addr) (l62 : Slc) (c63 : Slc) (long64 : Int) (y65 : Slc) (y66 : Int) (y67 : Int) (h68 : AHeap) : Option ((ByteArray × Int) × AHeap) :=
  (if (decide (y67 < y66)) = true then
  joinK (fun (f70 : Option Addr) (l71 : Slc) (c72 : Slc) (long73 : Int) (y74 : Slc) (y75 : Int) (y76 : Int) (h77 : AHeap) =>
  rec69 f70 l71 c72 long73 y74 y75 (IntKind.wrap .i64 (y76 + 1)) h77) fun j78 =>
  (Gx.idxL 1 y65 y67).bind fun q79 =>
  (ldS q79 h68).bind fun x80 =>
  (if (y67 == 0) = true then
  j78 f61 l62 c63 (x80.size : Int) y65 y66 y67 h68
  else
  (if ((x80.size : Int) != long64) = true then
  j6 f61 l62 c63 (-1) h68
  else
  j78 f61 l62 c63 long64 y65 y66 y67 h68))
  else
  j6 f61 l62 c63 long64 h68)
noncomputable def field_Field_Mix_l2 (k : Nat) (D : CallF) (j6 : (Option Addr) → Slc → Slc → Int → AHeap → Option ((ByteArray × Int) × AHeap)) : (Option Addr) → Slc → Slc → Int → Slc → Int → Int → AHeap → Option ((ByteArray × Int) × AHeap) :=
  iterK (α := (Option Addr) → Slc → Slc → Int → Slc → Int → Int → AHeap → Option ((ByteArray × Int) × AHeap)) (fun _ _ _ _ _ _ _ _ => none) k (field_Field_Mix_l2b k D j6)
noncomputable def field_Field_Mix_l1b (k : Nat) (D : CallF) (j36 : Slc → Slc → (Option Addr) → Slc → Int → Int → AHeap → Option ((ByteArray × Int) × AHeap)) (rec50 : Slc → Slc → (Option Addr) → Int → ByteArray → Slc → Int → Int → Int → Int → AHeap → Option ((ByteArray × Int) × AHeap)) (c39 : Slc) (out40 : Slc) (t41 : Option Addr) (i42 : Int) (s43 : ByteArray) (y44 : Slc) (y45 : Int) (y46 : Int) (y47 : Int) (y48 : Int) (h49 : AHeap) : Option ((ByteArray × Int) × AHeap) :=
  (if (decide (y48 < y47)) = true then
  (Gx.idxS s43 y48).bind fun b51 =>
  (Gx.idxL 1 c39 i42).bind fun q52 =>
  (ldI .i64 q52 h49).bind fun x53 =>
  (field_tables_times k D t41 (IntKind.wrap .i64 b51) x53 h49).bind fun r54 =>
  (Gx.idxL 1 out40 y48).bind fun q55 =>
  (ldI .u8 q55 r54.2).bind fun x56 =>
  guardP (SameW [h49] (fun H58 => (ldI .u8 q55 H58).bind fun y57 => some (.int .u8 y57)) (.int .u8 x56)) (
  (Gx.idxL 1 out40 y48).bind fun q59 =>
  (st1 q59 (.int .u8 (Go.bits .xor .u8 x56 (IntKind.wrap .u8 r54.1))) r54.2).bind fun h60 =>
  rec50 c39 out40 t41 i42 s43 y44 y45 y46 y47 (IntKind.wrap .i64 (y48 + 1)) h60)
  else
  j36 c39 out40 t41 y44 y45 y46 h49)
noncomputable def field_Field_Mix_l1 (k : Nat) (D : CallF) (j36 : Slc → Slc → (Option Addr) → Slc → Int → Int → AHeap → Option ((ByteArray × Int) × AHeap)) : Slc → Slc → (Option Addr) → Int → ByteArray → Slc → Int → Int → Int → Int → AHeap → Option ((ByteArray × Int) × AHeap) :=
  iterK (α := Slc → Slc → (Option Addr) → Int → ByteArray → Slc → Int → Int → Int → Int → AHeap → Option ((ByteArray × Int) × AHeap)) (fun _ _ _ _ _ _ _ _ _ _ _ => none) k (field_Field_Mix_l1b k D j36)
noncomputable def field_Field_Mix_l0b (k : Nat) (D : CallF) (j19 : Slc → AHeap → Option ((ByteArray × Int) × AHeap)) (rec28 : Slc → Slc → (Option Addr) → Slc → Int → Int → AHeap → Option ((ByteArray × Int) × AHeap)) (c21 : Slc) (out22 : Slc) (t23 : Option Addr) (y24 : Slc) (y25 : Int) (y26 : Int) (h27 : AHeap) : Option ((ByteArray × Int) × AHeap) :=
  (if (decide (y26 < y25)) = true then
  joinK (fun (c29 : Slc) (out30 : Slc) (t31 : Option Addr) (y32 : Slc) (y33 : Int) (y34 : Int) (h35 : AHeap) =>
  rec28 c29 out30 t31 y32 y33 (IntKind.wrap .i64 (y34 + 1)) h35) fun j36 =>
  (Gx.idxL 1 y24 y26).bind fun q37 =>
  (ldS q37 h27).bind fun x38 =>
  field_Field_Mix_l1 k D j36 c21 out22 t23 y26 x38 y24 y25 y26 (out22.len : Int) 0 h27
  else
  j19 out22 h27)
noncomputable def field_Field_Mix_l0 (k : Nat) (D : CallF) (j19 : Slc → AHeap → Option ((ByteArray × Int) × AHeap)) : Slc → Slc → (Option Addr) → Slc → Int → Int → AHeap → Option ((ByteArray × Int) × AHeap) :=
  iterK (α := Slc → Slc → (Option Addr) → Slc → Int → Int → AHeap → Option ((ByteArray × Int) × AHeap)) (fun _ _ _ _ _ _ _ => none) k (field_Field_Mix_l0b k D j19)
noncomputable def field_Field_Mix (k : Nat) (D : CallF) (f_0 : Option Addr) (l_1 : Slc) (c_2 : Slc) (h : AHeap) : Option ((ByteArray × Int) × AHeap) :=
  (if ((l_1.len : Int) != (c_2.len : Int)) = true then
  some (((⟨#[]⟩ : ByteArray), 4), h)
  else
  joinK (fun (f1 : Option Addr) (l2 : Slc) (c3 : Slc) (long4 : Int) (h5 : AHeap) =>
  joinK (fun (f7 : Option Addr) (l8 : Slc) (c9 : Slc) (long10 : Int) (y11 : Bool) (h12 : AHeap) =>
  (if y11 = true then
  some (((⟨#[]⟩ : ByteArray), 4), h12)
  else
  (field_is k D c9 h12).bind fun r14 =>
  (if (!r14.1) = true then
  some (((⟨#[]⟩ : ByteArray), 1), r14.2)
  else
  (if 0 ≤ (if long10 > 0 then long10 else 0) ∧ (if long10 > 0 then long10 else 0) ≤ (if long10 > 0 then long10 else 0) ∧ (if long10 > 0 then long10 else 0) ≤ 281474976710656 ∧ 1 * (if long10 > 0 then long10 else 0) ≤ 281474976710656 then
  let h15 := AHeap.new r14.2 (.cells (zerosL ((if long10 > 0 then long10 else 0)).toNat [.int .u8 0]) 5 true 0)
  (field_Field_tables k D f7 h15).bind fun r16 =>
  joinK (fun (out17 : Slc) (h18 : AHeap) =>
  (bytesOf h18 out17).bind fun s20 =>
  some ((s20, 0), h18)) fun j19 =>
  field_Field_Mix_l0 k D j19 c9 (⟨(some ⟨r14.2.next, 0, some 0⟩), ((if long10 > 0 then long10 else 0)).toNat, ((if long10 > 0 then long10 else 0)).toNat⟩ : Slc) r16.1 l8 (l8.len : Int) 0 r16.2
  else none)))) fun j13 =>
  (if (decide ((l2.len : Int) > 0)) = true then
  j13 f1 l2 c3 long4 (decide (long4 < 0)) h5
  else
  j13 f1 l2 c3 long4 false h5)) fun j6 =>
  field_Field_Mix_l2 k D j6 f_0 l_1 c_2 (-1) l_1 (l_1.len : Int) 0 h)
def r_field_Field_Mix : RCode := .seq (.region [⟨some 6, .p (.mv (.const (.string ⟨#[]⟩))), none, none⟩,
  ⟨some 7, .p (.mv (.const (.int .i64 0))), none, none⟩])
  (.scope (.seq (.seq (.region [⟨some 16, .p (.mv (.tmp 1)), none, none⟩,
  ⟨some 17, .p (.lenL (.tmp 16)), none, none⟩,
  ⟨some 18, .p (.mv (.tmp 2)), none, none⟩,
  ⟨some 19, .p (.lenL (.tmp 18)), none, none⟩,
  ⟨some 20, .p (.bin .neq (.tmp 17) (.tmp 19)), none, none⟩])
  (.cond (.tmp 20) (.seq (.region [⟨some 6, .p (.mv (.const (.string ⟨#[]⟩))), none, none⟩,
  ⟨some 7, .p (.mv (.const (.int .i64 4))), none, none⟩])
  (.ret)) (.skip)))
  (.seq (.region [⟨some 8, .p (.mv (.const (.int .i64 (-1)))), none, none⟩])
  (.seq (.skip)
  (.seq (.join [(0, .p), (1, .l), (2, .l), (8, .i .i64)] (.seq (.region [⟨some 21, .p (.mv (.tmp 1)), none, none⟩,
  ⟨some 22, .p (.lenL (.tmp 21)), none, none⟩,
  ⟨some 23, .p (.mv (.const (.int .i64 0))), none, none⟩])
  (.block 0 (.loop [(0, .p), (1, .l), (2, .l), (8, .i .i64), (21, .l), (22, .i .i64), (23, .i .i64)] (.seq (.region [⟨some 24, .p (.bin .lss (.tmp 23) (.tmp 22)), none, none⟩])
  (.seq (.cond (.tmp 24) (.skip) (.exit 0))
  (.seq (.join [(0, .p), (1, .l), (2, .l), (8, .i .i64), (21, .l), (22, .i .i64), (23, .i .i64)] (.block 1 (.seq (.region [⟨some 25, .p (.mv (.tmp 23)), none, none⟩,
  ⟨some 26, .p (.idxL 1 (.tmp 21) (.tmp 23)), none, none⟩,
  ⟨some 27, .l (.load (.s) (.tmp 26)), none, none⟩,
  ⟨some 9, .p (.mv (.tmp 25)), none, none⟩,
  ⟨some 10, .p (.mv (.tmp 27)), none, none⟩])
  (.block 2 (.seq (.region [⟨some 29, .p (.mv (.tmp 9)), none, none⟩,
  ⟨some 30, .p (.bin .eql (.tmp 29) (.const (.int .i64 0))), none, none⟩,
  ⟨some 28, .p (.mv (.tmp 30)), none, none⟩])
  (.cond (.tmp 28) (.region [⟨some 31, .p (.mv (.tmp 10)), none, none⟩,
  ⟨some 32, .p (.lenS (.tmp 31)), none, none⟩,
  ⟨some 8, .p (.mv (.tmp 32)), none, none⟩]) (.seq (.region [⟨some 34, .p (.mv (.tmp 10)), none, none⟩,
  ⟨some 35, .p (.lenS (.tmp 34)), none, none⟩,
  ⟨some 36, .p (.mv (.tmp 8)), none, none⟩,
  ⟨some 37, .p (.bin .neq (.tmp 35) (.tmp 36)), none, none⟩,
  ⟨some 33, .p (.mv (.tmp 37)), none, none⟩])
  (.cond (.tmp 33) (.seq (.region [⟨some 8, .p (.mv (.const (.int .i64 (-1)))), none, none⟩])
  (.exit 0)) (.skip)))))))))
  (.region [⟨some 38, .p (.bin .add (.tmp 23) (.const (.int .i64 1))), none, none⟩,
  ⟨some 23, .p (.mv (.tmp 38)), none, none⟩]))))))))
  (.seq (.block 3 (.seq (.join [(0, .p), (1, .l), (2, .l), (8, .i .i64), (39, .b)] (.region [⟨some 40, .p (.mv (.tmp 1)), none, none⟩,
  ⟨some 41, .p (.lenL (.tmp 40)), none, none⟩,
  ⟨some 42, .p (.bin .gtr (.tmp 41) (.const (.int .i64 0))), none, none⟩,
  ⟨some 43, .p (.mv (.tmp 42)), none, none⟩,
  ⟨some 44, .p (.mv (.tmp 8)), (some (43, true)), none⟩,
  ⟨some 45, .p (.bin .lss (.tmp 44) (.const (.int .i64 0))), (some (43, true)), none⟩,
  ⟨some 46, .p (.pick (.tmp 43) (.tmp 45) (.const (.bool false))), none, none⟩,
  ⟨some 39, .p (.mv (.tmp 46)), none, none⟩]))
  (.cond (.tmp 39) (.seq (.region [⟨some 6, .p (.mv (.const (.string ⟨#[]⟩))), none, none⟩,
  ⟨some 7, .p (.mv (.const (.int .i64 4))), none, none⟩])
  (.ret)) (.seq (.region [⟨some 48, .p (.mv (.tmp 2)), none, none⟩,
  ⟨some 49, .e (.call (.func 57) [.tmp 48]), none, none⟩,
  ⟨some 50, .p (.un .not (.tmp 49)), none, none⟩,
  ⟨some 47, .p (.mv (.tmp 50)), none, none⟩])
  (.cond (.tmp 47) (.seq (.region [⟨some 6, .p (.mv (.const (.string ⟨#[]⟩))), none, none⟩,
  ⟨some 7, .p (.mv (.const (.int .i64 1))), none, none⟩])
  (.ret)) (.skip))))))
  (.seq (.region [⟨some 51, .p (.mv (.tmp 8)), none, none⟩,
  ⟨some 52, .p (.maxI (.const (.int .i64 0)) (.tmp 51)), none, none⟩,
  ⟨some 53, .a (.mkSlice 5 1 [.int .u8 0] (.tmp 52) (.tmp 52)), none, none⟩,
  ⟨some 11, .p (.mv (.tmp 53)), none, none⟩])
  (.seq (.region [⟨some 54, .p (.mv (.tmp 0)), none, none⟩,
  ⟨some 55, .e (.call (.func 58) [.tmp 54]), none, none⟩,
  ⟨some 12, .p (.mv (.tmp 55)), none, none⟩])
  (.seq (.join [(11, .l)] (.seq (.region [⟨some 56, .p (.mv (.tmp 1)), none, none⟩,
  ⟨some 57, .p (.lenL (.tmp 56)), none, none⟩,
  ⟨some 58, .p (.mv (.const (.int .i64 0))), none, none⟩])
  (.block 4 (.loop [(2, .l), (11, .l), (12, .p), (56, .l), (57, .i .i64), (58, .i .i64)] (.seq (.region [⟨some 59, .p (.bin .lss (.tmp 58) (.tmp 57)), none, none⟩])
  (.seq (.cond (.tmp 59) (.skip) (.exit 4))
  (.seq (.join [(2, .l), (11, .l), (12, .p), (56, .l), (57, .i .i64), (58, .i .i64)] (.block 5 (.seq (.region [⟨some 60, .p (.mv (.tmp 58)), none, none⟩,
  ⟨some 61, .p (.idxL 1 (.tmp 56) (.tmp 58)), none, none⟩,
  ⟨some 62, .l (.load (.s) (.tmp 61)), none, none⟩,
  ⟨some 13, .p (.mv (.tmp 60)), none, none⟩,
  ⟨some 14, .p (.mv (.tmp 62)), none, none⟩])
  (.seq (.region [⟨some 63, .p (.mv (.tmp 11)), none, none⟩,
  ⟨some 64, .p (.lenL (.tmp 63)), none, none⟩,
  ⟨some 65, .p (.mv (.const (.int .i64 0))), none, none⟩])
  (.block 6 (.loop [(2, .l), (11, .l), (12, .p), (13, .i .i64), (14, .s), (56, .l), (57, .i .i64), (58, .i .i64), (64, .i .i64), (65, .i .i64)] (.seq (.region [⟨some 66, .p (.bin .lss (.tmp 65) (.tmp 64)), none, none⟩])
  (.seq (.cond (.tmp 66) (.skip) (.exit 6))
  (.seq (.block 7 (.seq (.region [⟨some 67, .p (.mv (.tmp 65)), none, none⟩,
  ⟨some 15, .p (.mv (.tmp 67)), none, none⟩])
  (.draw [⟨4, ⟨some 72, .p (.mv (.tmp 12)), none, none⟩, [12], 0⟩,
  ⟨5, ⟨some 73, .p (.mv (.tmp 14)), none, none⟩, [14], 0⟩,
  ⟨6, ⟨some 74, .p (.mv (.tmp 15)), none, none⟩, [15], 0⟩,
  ⟨7, ⟨some 75, .p (.idxS (.tmp 73) (.tmp 74)), none, none⟩, [73, 74], 0⟩,
  ⟨8, ⟨some 76, .p (.convI .i64 (.tmp 75)), none, none⟩, [75], 0⟩,
  ⟨9, ⟨some 77, .p (.mv (.tmp 2)), none, none⟩, [2], 0⟩,
  ⟨10, ⟨some 78, .p (.mv (.tmp 13)), none, none⟩, [13], 0⟩,
  ⟨11, ⟨some 79, .p (.idxL 1 (.tmp 77) (.tmp 78)), none, none⟩, [77, 78], 0⟩,
  ⟨12, ⟨some 80, .l (.load (.i .i64) (.tmp 79)), none, none⟩, [79], 0⟩,
  ⟨13, ⟨some 81, .e (.call (.func 59) [.tmp 72, .tmp 76, .tmp 80]), none, none⟩, [72, 76, 80], 0⟩,
  ⟨0, ⟨some 68, .p (.mv (.tmp 11)), none, none⟩, [11], 1⟩,
  ⟨1, ⟨some 69, .p (.mv (.tmp 15)), none, none⟩, [15], 1⟩,
  ⟨2, ⟨some 70, .p (.idxL 1 (.tmp 68) (.tmp 69)), none, none⟩, [68, 69], 1⟩,
  ⟨3, ⟨some 71, .l (.load (.i .u8) (.tmp 70)), none, none⟩, [70], 1⟩,
  ⟨14, ⟨some 82, .p (.convI .u8 (.tmp 81)), none, none⟩, [81], 0⟩,
  ⟨15, ⟨some 83, .p (.bin .xor (.tmp 71) (.tmp 82)), none, none⟩, [71, 82], 0⟩,
  ⟨16, ⟨some 84, .p (.idxL 1 (.tmp 68) (.tmp 69)), none, none⟩, [68, 69], 0⟩,
  ⟨17, ⟨none, .e (.store none (.tmp 84) (.tmp 83)), none, none⟩, [84, 83], 0⟩])))
  (.region [⟨some 85, .p (.bin .add (.tmp 65) (.const (.int .i64 1))), none, none⟩,
  ⟨some 65, .p (.mv (.tmp 85)), none, none⟩]))))))))))
  (.region [⟨some 86, .p (.bin .add (.tmp 58) (.const (.int .i64 1))), none, none⟩,
  ⟨some 58, .p (.mv (.tmp 86)), none, none⟩]))))))))
  (.seq (.region [⟨some 87, .p (.mv (.tmp 11)), none, none⟩,
  ⟨some 88, .l (.convBS (.tmp 87)), none, none⟩,
  ⟨some 6, .p (.mv (.tmp 88)), none, none⟩,
  ⟨some 7, .p (.mv (.const (.int .i64 0))), none, none⟩])
  (.ret)))))))))))
noncomputable def e_field_Field_Mix (k : Nat) (D : CallF) : Ent := entOf 26 [(0, .p), (1, .l), (2, .l)] [(6, .s), (7, .i .i64)] (field_Field_Mix k D)
theorem q_field_Field_Mix : (Try.f26.body).bind (rcodeOf Try.prog 0 Try.f26.ntmps) = some (strip r_field_Field_Mix) := by kernel_rfl
theorem t_field_Field_Mix (k : Nat) (D : CallF) : curF [(0, .p), (1, .l), (2, .l)] (fun args h => denF (C_field_Field_Mix k D) k r_field_Field_Mix [(6, .s), (7, .i .i64)] [none, none] args h) = field_Field_Mix k D := by kernel_rfl
theorem ok_field_Field_Mix {D : CallF} (hD : CSound Try.prog 0 D) (k : Nat) : EntOk Try.prog 0 (e_field_Field_Mix k D) :=
  entOf_ok2 (mkC_sound hD (EntsOk.more (ok_field_is hD k) (EntsOk.more (ok_field_Field_tables hD k) (EntsOk.more (ok_field_tables_times hD k) (EntsOk.none))))) Try.func26 rfl q_field_Field_Mix rfl (t_field_Field_Mix k D)
end Gy

namespace Gy
open Go Gx Go.Proofs
set_option maxRecDepth 100000

noncomputable def C_ref03_Mix (k : Nat) (D : CallF) : CallF := mkC D [e_ref03_By k D, e_ref03_Add k D, e_ref03_is k D]
noncomputable def ref03_Mix_l2b (_k : Nat) (_D : CallF) (j4 : Slc → Slc → AHeap → Option ((ByteArray × Int) × AHeap)) (rec40 : Slc → Slc → Int → AHeap → Option ((ByteArray × Int) × AHeap)) (l36 : Slc) (c37 : Slc) (i38 : Int) (h39 : AHeap) : Option ((ByteArray × Int) × AHeap) :=
  (if (decide (i38 < (l36.len : Int))) = true then
  (Gx.idxL 1 l36 i38).bind fun q41 =>
  (ldS q41 h39).bind fun x42 =>
  (Gx.idxL 1 l36 0).bind fun q43 =>
  (ldS q43 h39).bind fun x44 =>
  (if ((x42.size : Int) != (x44.size : Int)) = true then
  some (((⟨#[]⟩ : ByteArray), 4), h39)
  else
  rec40 l36 c37 (IntKind.wrap .i64 (i38 + 1)) h39)
  else
  j4 l36 c37 h39)
noncomputable def ref03_Mix_l2 (k : Nat) (D : CallF) (j4 : Slc → Slc → AHeap → Option ((ByteArray × Int) × AHeap)) : Slc → Slc → Int → AHeap → Option ((ByteArray × Int) × AHeap) :=
  iterK (α := Slc → Slc → Int → AHeap → Option ((ByteArray × Int) × AHeap)) (fun _ _ _ _ => none) k (ref03_Mix_l2b k D j4)
noncomputable def ref03_Mix_l1b (k : Nat) (D : CallF) (j8 : Slc → Slc → AHeap → Option ((ByteArray × Int) × AHeap)) (rec32 : Slc → Slc → Int → AHeap → Option ((ByteArray × Int) × AHeap)) (l28 : Slc) (c29 : Slc) (i30 : Int) (h31 : AHeap) : Option ((ByteArray × Int) × AHeap) :=
  (if (decide (i30 < (c29.len : Int))) = true then
  (Gx.idxL 1 c29 i30).bind fun q33 =>
  (ldI .i64 q33 h31).bind fun x34 =>
  (ref03_is k D x34 h31).bind fun r35 =>
  (if (!r35.1) = true then
  some (((⟨#[]⟩ : ByteArray), 1), r35.2)
  else
  rec32 l28 c29 (IntKind.wrap .i64 (i30 + 1)) r35.2)
  else
  j8 l28 c29 h31)
noncomputable def ref03_Mix_l1 (k : Nat) (D : CallF) (j8 : Slc → Slc → AHeap → Option ((ByteArray × Int) × AHeap)) : Slc → Slc → Int → AHeap → Option ((ByteArray × Int) × AHeap) :=
  iterK (α := Slc → Slc → Int → AHeap → Option ((ByteArray × Int) × AHeap)) (fun _ _ _ _ => none) k (ref03_Mix_l1b k D j8)
noncomputable def ref03_Mix_l0b (k : Nat) (D : CallF) (j15 : ByteArray → AHeap → Option ((ByteArray × Int) × AHeap)) (rec21 : Slc → Slc → ByteArray → Int → AHeap → Option ((ByteArray × Int) × AHeap)) (l16 : Slc) (c17 : Slc) (out18 : ByteArray) (i19 : Int) (h20 : AHeap) : Option ((ByteArray × Int) × AHeap) :=
  (if (decide (i19 < (l16.len : Int))) = true then
  (Gx.idxL 1 l16 i19).bind fun q22 =>
  (ldS q22 h20).bind fun x23 =>
  (Gx.idxL 1 c17 i19).bind fun q24 =>
  (ldI .i64 q24 h20).bind fun x25 =>
  (ref03_By k D x23 x25 h20).bind fun r26 =>
  (ref03_Add k D out18 r26.1 r26.2).bind fun r27 =>
  rec21 l16 c17 r27.1.1 (IntKind.wrap .i64 (i19 + 1)) r27.2
  else
  j15 out18 h20)
noncomputable def ref03_Mix_l0 (k : Nat) (D : CallF) (j15 : ByteArray → AHeap → Option ((ByteArray × Int) × AHeap)) : Slc → Slc → ByteArray → Int → AHeap → Option ((ByteArray × Int) × AHeap) :=
  iterK (α := Slc → Slc → ByteArray → Int → AHeap → Option ((ByteArray × Int) × AHeap)) (fun _ _ _ _ _ => none) k (ref03_Mix_l0b k D j15)
noncomputable def ref03_Mix (k : Nat) (D : CallF) (l_0 : Slc) (c_1 : Slc) (h : AHeap) : Option ((ByteArray × Int) × AHeap) :=
  (if ((l_0.len : Int) != (c_1.len : Int)) = true then
  some (((⟨#[]⟩ : ByteArray), 4), h)
  else
  joinK (fun (l1 : Slc) (c2 : Slc) (h3 : AHeap) =>
  joinK (fun (l5 : Slc) (c6 : Slc) (h7 : AHeap) =>
  (if ((l5.len : Int) == 0) = true then
  some (((⟨#[]⟩ : ByteArray), 0), h7)
  else
  (Gx.idxL 1 l5 0).bind fun q9 =>
  (ldS q9 h7).bind fun x10 =>
  (if 0 ≤ (x10.size : Int) ∧ (x10.size : Int) ≤ (x10.size : Int) ∧ (x10.size : Int) ≤ 281474976710656 ∧ 1 * (x10.size : Int) ≤ 281474976710656 then
  let h11 := AHeap.new h7 (.cells (zerosL ((x10.size : Int)).toNat [.int .u8 0]) 5 true 0)
  (bytesOf h11 (⟨(some ⟨h7.next, 0, some 0⟩), ((x10.size : Int)).toNat, ((x10.size : Int)).toNat⟩ : Slc)).bind fun s12 =>
  joinK (fun (out13 : ByteArray) (h14 : AHeap) =>
  some ((out13, 0), h14)) fun j15 =>
  ref03_Mix_l0 k D j15 l5 c6 s12 0 h11
  else none))) fun j8 =>
  ref03_Mix_l1 k D j8 l1 c2 0 h3) fun j4 =>
  ref03_Mix_l2 k D j4 l_0 c_1 0 h)
def r_ref03_Mix : RCode := .seq (.region [⟨some 4, .p (.mv (.const (.string ⟨#[]⟩))), none, none⟩,
  ⟨some 5, .p (.mv (.const (.int .i64 0))), none, none⟩])
  (.seq (.seq (.region [⟨some 10, .p (.mv (.tmp 0)), none, none⟩,
  ⟨some 11, .p (.lenL (.tmp 10)), none, none⟩,
  ⟨some 12, .p (.mv (.tmp 1)), none, none⟩,
  ⟨some 13, .p (.lenL (.tmp 12)), none, none⟩,
  ⟨some 14, .p (.bin .neq (.tmp 11) (.tmp 13)), none, none⟩])
  (.cond (.tmp 14) (.seq (.region [⟨some 4, .p (.mv (.const (.string ⟨#[]⟩))), none, none⟩,
  ⟨some 5, .p (.mv (.const (.int .i64 4))), none, none⟩])
  (.ret)) (.skip)))
  (.seq (.join [(0, .l), (1, .l)] (.seq (.region [⟨some 6, .p (.mv (.const (.int .i64 0))), none, none⟩])
  (.block 0 (.loop [(0, .l), (1, .l), (6, .i .i64)] (.seq (.seq (.region [⟨some 15, .p (.mv (.tmp 6)), none, none⟩,
  ⟨some 16, .p (.mv (.tmp 0)), none, none⟩,
  ⟨some 17, .p (.lenL (.tmp 16)), none, none⟩,
  ⟨some 18, .p (.bin .lss (.tmp 15) (.tmp 17)), none, none⟩])
  (.cond (.tmp 18) (.skip) (.exit 0)))
  (.seq (.block 1 (.seq (.draw [⟨0, ⟨some 21, .p (.mv (.tmp 0)), none, none⟩, [0], 0⟩,
  ⟨1, ⟨some 22, .p (.mv (.tmp 6)), none, none⟩, [6], 0⟩,
  ⟨2, ⟨some 23, .p (.idxL 1 (.tmp 21) (.tmp 22)), none, none⟩, [21, 22], 0⟩,
  ⟨3, ⟨some 24, .l (.load (.s) (.tmp 23)), none, none⟩, [23], 0⟩,
  ⟨4, ⟨some 25, .p (.lenS (.tmp 24)), none, none⟩, [24], 0⟩,
  ⟨5, ⟨some 26, .p (.mv (.tmp 0)), none, none⟩, [0], 0⟩,
  ⟨6, ⟨some 27, .p (.idxL 1 (.tmp 26) (.const (.int .i64 0))), none, none⟩, [26], 0⟩,
  ⟨7, ⟨some 28, .l (.load (.s) (.tmp 27)), none, none⟩, [27], 0⟩,
  ⟨8, ⟨some 29, .p (.lenS (.tmp 28)), none, none⟩, [28], 0⟩,
  ⟨9, ⟨some 30, .p (.bin .neq (.tmp 25) (.tmp 29)), none, none⟩, [25, 29], 0⟩])
  (.cond (.tmp 30) (.seq (.region [⟨some 4, .p (.mv (.const (.string ⟨#[]⟩))), none, none⟩,
  ⟨some 5, .p (.mv (.const (.int .i64 4))), none, none⟩])
  (.ret)) (.skip))))
  (.region [⟨some 19, .p (.mv (.tmp 6)), none, none⟩,
  ⟨some 20, .p (.bin .add (.tmp 19) (.const (.int .i64 1))), none, none⟩,
  ⟨some 6, .p (.mv (.tmp 20)), none, none⟩])))))))
  (.seq (.join [(0, .l), (1, .l)] (.seq (.region [⟨some 7, .p (.mv (.const (.int .i64 0))), none, none⟩])
  (.block 2 (.loop [(0, .l), (1, .l), (7, .i .i64)] (.seq (.seq (.region [⟨some 31, .p (.mv (.tmp 7)), none, none⟩,
  ⟨some 32, .p (.mv (.tmp 1)), none, none⟩,
  ⟨some 33, .p (.lenL (.tmp 32)), none, none⟩,
  ⟨some 34, .p (.bin .lss (.tmp 31) (.tmp 33)), none, none⟩])
  (.cond (.tmp 34) (.skip) (.exit 2)))
  (.seq (.block 3 (.seq (.region [⟨some 37, .p (.mv (.tmp 1)), none, none⟩,
  ⟨some 38, .p (.mv (.tmp 7)), none, none⟩,
  ⟨some 39, .p (.idxL 1 (.tmp 37) (.tmp 38)), none, none⟩,
  ⟨some 40, .l (.load (.i .i64) (.tmp 39)), none, none⟩,
  ⟨some 41, .e (.call (.func 60) [.tmp 40]), none, none⟩,
  ⟨some 42, .p (.un .not (.tmp 41)), none, none⟩])
  (.cond (.tmp 42) (.seq (.region [⟨some 4, .p (.mv (.const (.string ⟨#[]⟩))), none, none⟩,
  ⟨some 5, .p (.mv (.const (.int .i64 1))), none, none⟩])
  (.ret)) (.skip))))
  (.region [⟨some 35, .p (.mv (.tmp 7)), none, none⟩,
  ⟨some 36, .p (.bin .add (.tmp 35) (.const (.int .i64 1))), none, none⟩,
  ⟨some 7, .p (.mv (.tmp 36)), none, none⟩])))))))
  (.seq (.seq (.region [⟨some 43, .p (.mv (.tmp 0)), none, none⟩,
  ⟨some 44, .p (.lenL (.tmp 43)), none, none⟩,
  ⟨some 45, .p (.bin .eql (.tmp 44) (.const (.int .i64 0))), none, none⟩])
  (.cond (.tmp 45) (.seq (.region [⟨some 4, .p (.mv (.const (.string ⟨#[]⟩))), none, none⟩,
  ⟨some 5, .p (.mv (.const (.int .i64 0))), none, none⟩])
  (.ret)) (.skip)))
  (.seq (.region [⟨some 46, .p (.mv (.tmp 0)), none, none⟩,
  ⟨some 47, .p (.idxL 1 (.tmp 46) (.const (.int .i64 0))), none, none⟩,
  ⟨some 48, .l (.load (.s) (.tmp 47)), none, none⟩,
  ⟨some 49, .p (.lenS (.tmp 48)), none, none⟩,
  ⟨some 50, .a (.mkSlice 5 1 [.int .u8 0] (.tmp 49) (.tmp 49)), none, none⟩,
  ⟨some 51, .l (.convBS (.tmp 50)), none, none⟩,
  ⟨some 8, .p (.mv (.tmp 51)), none, none⟩])
  (.seq (.join [(8, .s)] (.seq (.region [⟨some 9, .p (.mv (.const (.int .i64 0))), none, none⟩])
  (.block 4 (.loop [(0, .l), (1, .l), (8, .s), (9, .i .i64)] (.seq (.seq (.region [⟨some 52, .p (.mv (.tmp 9)), none, none⟩,
  ⟨some 53, .p (.mv (.tmp 0)), none, none⟩,
  ⟨some 54, .p (.lenL (.tmp 53)), none, none⟩,
  ⟨some 55, .p (.bin .lss (.tmp 52) (.tmp 54)), none, none⟩])
  (.cond (.tmp 55) (.skip) (.exit 4)))
  (.seq (.block 5 (.draw [⟨1, ⟨some 60, .p (.mv (.tmp 0)), none, none⟩, [0], 0⟩,
  ⟨2, ⟨some 61, .p (.mv (.tmp 9)), none, none⟩, [9], 0⟩,
  ⟨3, ⟨some 62, .p (.idxL 1 (.tmp 60) (.tmp 61)), none, none⟩, [60, 61], 0⟩,
  ⟨4, ⟨some 63, .l (.load (.s) (.tmp 62)), none, none⟩, [62], 0⟩,
  ⟨5, ⟨some 64, .p (.mv (.tmp 1)), none, none⟩, [1], 0⟩,
  ⟨6, ⟨some 65, .p (.mv (.tmp 9)), none, none⟩, [9], 0⟩,
  ⟨7, ⟨some 66, .p (.idxL 1 (.tmp 64) (.tmp 65)), none, none⟩, [64, 65], 0⟩,
  ⟨8, ⟨some 67, .l (.load (.i .i64) (.tmp 66)), none, none⟩, [66], 0⟩,
  ⟨9, ⟨some 68, .e (.call (.func 63) [.tmp 63, .tmp 67]), none, none⟩, [63, 67], 0⟩,
  ⟨0, ⟨some 59, .p (.mv (.tmp 8)), none, none⟩, [8], 1⟩,
  ⟨10, ⟨some 69, .e (.call (.func 31) [.tmp 59, .tmp 68]), none, none⟩, [59, 68], 0⟩,
  ⟨11, ⟨some 58, .p (.mv (.tmp 69)), none, none⟩, [69], 0⟩,
  ⟨12, ⟨some 70, .p (.extract (.tmp 58) 0), none, none⟩, [58], 0⟩,
  ⟨13, ⟨some 71, .p (.extract (.tmp 58) 1), none, none⟩, [58], 0⟩,
  ⟨14, ⟨some 8, .p (.mv (.tmp 70)), none, none⟩, [70], 0⟩]))
  (.region [⟨some 56, .p (.mv (.tmp 9)), none, none⟩,
  ⟨some 57, .p (.bin .add (.tmp 56) (.const (.int .i64 1))), none, none⟩,
  ⟨some 9, .p (.mv (.tmp 57)), none, none⟩])))))))
  (.seq (.region [⟨some 72, .p (.mv (.tmp 8)), none, none⟩,
  ⟨some 4, .p (.mv (.tmp 72)), none, none⟩,
  ⟨some 5, .p (.mv (.const (.int .i64 0))), none, none⟩])
  (.ret))))))))
noncomputable def e_ref03_Mix (k : Nat) (D : CallF) : Ent := entOf 27 [(0, .l), (1, .l)] [(4, .s), (5, .i .i64)] (ref03_Mix k D)
theorem q_ref03_Mix : (Try.f27.body).bind (rcodeOf Try.prog 0 Try.f27.ntmps) = some (strip r_ref03_Mix) := by kernel_rfl
theorem t_ref03_Mix (k : Nat) (D : CallF) : curF [(0, .l), (1, .l)] (fun args h => denF (C_ref03_Mix k D) k r_ref03_Mix [(4, .s), (5, .i .i64)] [none, none] args h) = ref03_Mix k D := by kernel_rfl
theorem ok_ref03_Mix {D : CallF} (hD : CSound Try.prog 0 D) (k : Nat) : EntOk Try.prog 0 (e_ref03_Mix k D) :=
  entOf_ok2 (mkC_sound hD (EntsOk.more (ok_ref03_By hD k) (EntsOk.more (ok_ref03_Add hD k) (EntsOk.more (ok_ref03_is hD k) (EntsOk.none))))) Try.func27 rfl q_ref03_Mix rfl (t_ref03_Mix k D)
end Gy

namespace Gy
open Go Gx Go.Proofs
set_option maxRecDepth 100000

noncomputable def C_book_Lend (_k : Nat) (D : CallF) : CallF := mkC D []
noncomputable def book_Lend (_k : Nat) (_D : CallF) (l_0 : Slc) (h : AHeap) : Option ((Slc) × AHeap) :=
  let h1 := AHeap.new h (.cells [] 9 true 0)
  (rdS 1 l_0 h1).bind fun n3 =>
  (appendA 1 16 9 h1 (⟨(some ⟨h.next, 0, some 0⟩), 0, 0⟩ : Slc) n3 l_0.len).bind fun r2 =>
  let h4 := AHeap.new r2.2 (.cells [.string (⟨#[109, 97, 114, 107]⟩ : ByteArray)] 9 true 0)
  (rdS 1 (⟨(some ⟨r2.2.next, 0, some 0⟩), 1, 1⟩ : Slc) h4).bind fun n6 =>
  (appendA 1 16 9 h4 r2.1 n6 1).bind fun r5 =>
  (Gx.subL 1 r5.1 none (some (l_0.len : Int)) none).bind fun l7 =>
  some (l7, r5.2)
def r_book_Lend : RCode := .seq (.region [⟨some 2, .p (.mv (.const (.slice none 0 0))), none, none⟩])
  (.seq (.region [⟨some 4, .a (.buildSlice 9 0 (zerosL 0 [.string ⟨#[]⟩]) []), none, none⟩,
  ⟨some 5, .p (.mv (.tmp 0)), none, none⟩,
  ⟨some 6, .e (.append 1 16 9 [.string ⟨#[]⟩] .slice (.tmp 4) (.tmp 5)), none, none⟩,
  ⟨some 3, .p (.mv (.tmp 6)), none, none⟩])
  (.seq (.region [⟨some 7, .p (.mv (.tmp 3)), none, none⟩,
  ⟨some 8, .a (.buildSlice 9 1 (zerosL 1 [.string ⟨#[]⟩]) [(0, 1, .const (.string ⟨#[109, 97, 114, 107]⟩))]), none, none⟩,
  ⟨some 9, .e (.append 1 16 9 [.string ⟨#[]⟩] .slice (.tmp 7) (.tmp 8)), none, none⟩,
  ⟨some 3, .p (.mv (.tmp 9)), none, none⟩])
  (.seq (.region [⟨some 10, .p (.mv (.tmp 3)), none, none⟩,
  ⟨some 11, .p (.mv (.tmp 0)), none, none⟩,
  ⟨some 12, .p (.lenL (.tmp 11)), none, none⟩,
  ⟨some 13, .p (.subL 1 (.tmp 10) none (some (.tmp 12)) none), none, none⟩,
  ⟨some 2, .p (.mv (.tmp 13)), none, none⟩])
  (.ret))))
noncomputable def e_book_Lend (k : Nat) (D : CallF) : Ent := entOf 25 [(0, .l)] [(2, .l)] (book_Lend k D)
theorem q_book_Lend : (Try.f25.body).bind (rcodeOf Try.prog 0 Try.f25.ntmps) = some (strip r_book_Lend) := by kernel_rfl
theorem t_book_Lend (k : Nat) (D : CallF) : curF [(0, .l)] (fun args h => denF (C_book_Lend k D) k r_book_Lend [(2, .l)] [none] args h) = book_Lend k D := by kernel_rfl
theorem ok_book_Lend {D : CallF} (hD : CSound Try.prog 0 D) (k : Nat) : EntOk Try.prog 0 (e_book_Lend k D) :=
  entOf_ok2 (mkC_sound hD (EntsOk.none)) Try.func25 rfl q_book_Lend rfl (t_book_Lend k D)
end Gy

namespace Gy
open Go Gx Go.Proofs
set_option maxRecDepth 100000

noncomputable def C_book_SameTexts (_k : Nat) (D : CallF) : CallF := mkC D []
noncomputable def book_SameTexts_l0b (_k : Nat) (_D : CallF) (j2 : AHeap → Option ((Bool) × AHeap)) (rec7 : Slc → Slc → Int → AHeap → Option ((Bool) × AHeap)) (a3 : Slc) (b4 : Slc) (i5 : Int) (h6 : AHeap) : Option ((Bool) × AHeap) :=
  (if (decide (i5 < (a3.len : Int))) = true then
  (Gx.idxL 1 a3 i5).bind fun q8 =>
  (ldS q8 h6).bind fun x9 =>
  (Gx.idxL 1 b4 i5).bind fun q10 =>
  (ldS q10 h6).bind fun x11 =>
  (if (!(x9 == x11)) = true then
  some (false, h6)
  else
  rec7 a3 b4 (IntKind.wrap .i64 (i5 + 1)) h6)
  else
  j2 h6)
noncomputable def book_SameTexts_l0 (k : Nat) (D : CallF) (j2 : AHeap → Option ((Bool) × AHeap)) : Slc → Slc → Int → AHeap → Option ((Bool) × AHeap) :=
  iterK (α := Slc → Slc → Int → AHeap → Option ((Bool) × AHeap)) (fun _ _ _ _ => none) k (book_SameTexts_l0b k D j2)
noncomputable def book_SameTexts (k : Nat) (D : CallF) (a_0 : Slc) (b_1 : Slc) (h : AHeap) : Option ((Bool) × AHeap) :=
  (if ((a_0.len : Int) != (b_1.len : Int)) = true then
  some (false, h)
  else
  joinK (fun (h1 : AHeap) =>
  some (true, h1)) fun j2 =>
  book_SameTexts_l0 k D j2 a_0 b_1 0 h)
def r_book_SameTexts : RCode := .seq (.region [⟨some 4, .p (.mv (.const (.bool false))), none, none⟩])
  (.seq (.seq (.region [⟨some 6, .p (.mv (.tmp 0)), none, none⟩,
  ⟨some 7, .p (.lenL (.tmp 6)), none, none⟩,
  ⟨some 8, .p (.mv (.tmp 1)), none, none⟩,
  ⟨some 9, .p (.lenL (.tmp 8)), none, none⟩,
  ⟨some 10, .p (.bin .neq (.tmp 7) (.tmp 9)), none, none⟩])
  (.cond (.tmp 10) (.seq (.region [⟨some 4, .p (.mv (.const (.bool false))), none, none⟩])
  (.ret)) (.skip)))
  (.seq (.join [] (.seq (.region [⟨some 5, .p (.mv (.const (.int .i64 0))), none, none⟩])
  (.block 0 (.loop [(0, .l), (1, .l), (5, .i .i64)] (.seq (.seq (.region [⟨some 11, .p (.mv (.tmp 5)), none, none⟩,
  ⟨some 12, .p (.mv (.tmp 0)), none, none⟩,
  ⟨some 13, .p (.lenL (.tmp 12)), none, none⟩,
  ⟨some 14, .p (.bin .lss (.tmp 11) (.tmp 13)), none, none⟩])
  (.cond (.tmp 14) (.skip) (.exit 0)))
  (.seq (.block 1 (.seq (.draw [⟨0, ⟨some 17, .p (.mv (.tmp 0)), none, none⟩, [0], 0⟩,
  ⟨1, ⟨some 18, .p (.mv (.tmp 5)), none, none⟩, [5], 0⟩,
  ⟨2, ⟨some 19, .p (.idxL 1 (.tmp 17) (.tmp 18)), none, none⟩, [17, 18], 0⟩,
  ⟨3, ⟨some 20, .l (.load (.s) (.tmp 19)), none, none⟩, [19], 0⟩,
  ⟨4, ⟨some 21, .p (.mv (.tmp 1)), none, none⟩, [1], 0⟩,
  ⟨5, ⟨some 22, .p (.mv (.tmp 5)), none, none⟩, [5], 0⟩,
  ⟨6, ⟨some 23, .p (.idxL 1 (.tmp 21) (.tmp 22)), none, none⟩, [21, 22], 0⟩,
  ⟨7, ⟨some 24, .l (.load (.s) (.tmp 23)), none, none⟩, [23], 0⟩,
  ⟨8, ⟨some 25, .p (.bin .neq (.tmp 20) (.tmp 24)), none, none⟩, [20, 24], 0⟩])
  (.cond (.tmp 25) (.seq (.region [⟨some 4, .p (.mv (.const (.bool false))), none, none⟩])
  (.ret)) (.skip))))
  (.region [⟨some 15, .p (.mv (.tmp 5)), none, none⟩,
  ⟨some 16, .p (.bin .add (.tmp 15) (.const (.int .i64 1))), none, none⟩,
  ⟨some 5, .p (.mv (.tmp 16)), none, none⟩])))))))
  (.seq (.region [⟨some 4, .p (.mv (.const (.bool true))), none, none⟩])
  (.ret))))
noncomputable def e_book_SameTexts (k : Nat) (D : CallF) : Ent := entOf 64 [(0, .l), (1, .l)] [(4, .b)] (book_SameTexts k D)
theorem q_book_SameTexts : (Try.f64.body).bind (rcodeOf Try.prog 0 Try.f64.ntmps) = some (strip r_book_SameTexts) := by kernel_rfl
theorem t_book_SameTexts (k : Nat) (D : CallF) : curF [(0, .l), (1, .l)] (fun args h => denF (C_book_SameTexts k D) k r_book_SameTexts [(4, .b)] [none] args h) = book_SameTexts k D := by kernel_rfl
theorem ok_book_SameTexts {D : CallF} (hD : CSound Try.prog 0 D) (k : Nat) : EntOk Try.prog 0 (e_book_SameTexts k D) :=
  entOf_ok2 (mkC_sound hD (EntsOk.none)) Try.func64 rfl q_book_SameTexts rfl (t_book_SameTexts k D)
end Gy

namespace Gy
open Go Gx Go.Proofs
set_option maxRecDepth 100000

noncomputable def C_book_Kept (k : Nat) (D : CallF) : CallF := mkC D [e_book_SameTexts k D]
noncomputable def book_Kept (k : Nat) (D : CallF) (lent_0 : Slc) (l_1 : Slc) (h : AHeap) : Option ((Bool) × AHeap) :=
  (book_SameTexts k D lent_0 l_1 h).bind fun r1 =>
  (if r1.1 = true then
  (Gx.subL 1 lent_0 none (some (IntKind.wrap .i64 ((l_1.len : Int) + 1))) none).bind fun l2 =>
  (Gx.idxL 1 l2 (l_1.len : Int)).bind fun q3 =>
  (ldS q3 r1.2).bind fun x4 =>
  some ((x4 == (⟨#[109, 97, 114, 107]⟩ : ByteArray)), r1.2)
  else
  some (false, r1.2))
def r_book_Kept : RCode := .seq (.region [⟨some 4, .p (.mv (.const (.bool false))), none, none⟩])
  (.seq (.region [⟨some 5, .p (.mv (.tmp 0)), none, none⟩,
  ⟨some 6, .p (.mv (.tmp 1)), none, none⟩,
  ⟨some 7, .e (.call (.func 64) [.tmp 5, .tmp 6]), none, none⟩,
  ⟨some 8, .p (.mv (.tmp 7)), none, none⟩,
  ⟨some 9, .p (.mv (.tmp 0)), (some (8, true)), none⟩,
  ⟨some 10, .p (.mv (.tmp 1)), (some (8, true)), none⟩,
  ⟨some 11, .p (.lenL (.tmp 10)), (some (8, true)), none⟩,
  ⟨some 12, .p (.bin .add (.tmp 11) (.const (.int .i64 1))), (some (8, true)), none⟩,
  ⟨some 13, .p (.subL 1 (.tmp 9) none (some (.tmp 12)) none), (some (8, true)), none⟩,
  ⟨some 14, .p (.mv (.tmp 1)), (some (8, true)), none⟩,
  ⟨some 15, .p (.lenL (.tmp 14)), (some (8, true)), none⟩,
  ⟨some 16, .p (.idxL 1 (.tmp 13) (.tmp 15)), (some (8, true)), none⟩,
  ⟨some 17, .l (.load (.s) (.tmp 16)), (some (8, true)), none⟩,
  ⟨some 18, .p (.bin .eql (.tmp 17) (.const (.string ⟨#[109, 97, 114, 107]⟩))), (some (8, true)), none⟩,
  ⟨some 19, .p (.pick (.tmp 8) (.tmp 18) (.const (.bool false))), none, none⟩,
  ⟨some 4, .p (.mv (.tmp 19)), none, none⟩])
  (.ret))
noncomputable def e_book_Kept (k : Nat) (D : CallF) : Ent := entOf 28 [(0, .l), (1, .l)] [(4, .b)] (book_Kept k D)
theorem q_book_Kept : (Try.f28.body).bind (rcodeOf Try.prog 0 Try.f28.ntmps) = some (strip r_book_Kept) := by kernel_rfl
theorem t_book_Kept (k : Nat) (D : CallF) : curF [(0, .l), (1, .l)] (fun args h => denF (C_book_Kept k D) k r_book_Kept [(4, .b)] [none] args h) = book_Kept k D := by kernel_rfl
theorem ok_book_Kept {D : CallF} (hD : CSound Try.prog 0 D) (k : Nat) : EntOk Try.prog 0 (e_book_Kept k D) :=
  entOf_ok2 (mkC_sound hD (EntsOk.more (ok_book_SameTexts hD k) (EntsOk.none))) Try.func28 rfl q_book_Kept rfl (t_book_Kept k D)
end Gy

namespace Gy
open Go Gx Go.Proofs
set_option maxRecDepth 100000

noncomputable def C_book_SameInts (_k : Nat) (D : CallF) : CallF := mkC D []
noncomputable def book_SameInts_l0b (_k : Nat) (_D : CallF) (j2 : AHeap → Option ((Bool) × AHeap)) (rec7 : Slc → Slc → Int → AHeap → Option ((Bool) × AHeap)) (a3 : Slc) (b4 : Slc) (i5 : Int) (h6 : AHeap) : Option ((Bool) × AHeap) :=
  (if (decide (i5 < (a3.len : Int))) = true then
  (Gx.idxL 1 a3 i5).bind fun q8 =>
  (ldI .i64 q8 h6).bind fun x9 =>
  (Gx.idxL 1 b4 i5).bind fun q10 =>
  (ldI .i64 q10 h6).bind fun x11 =>
  (if (x9 != x11) = true then
  some (false, h6)
  else
  rec7 a3 b4 (IntKind.wrap .i64 (i5 + 1)) h6)
  else
  j2 h6)
noncomputable def book_SameInts_l0 (k : Nat) (D : CallF) (j2 : AHeap → Option ((Bool) × AHeap)) : Slc → Slc → Int → AHeap → Option ((Bool) × AHeap) :=
  iterK (α := Slc → Slc → Int → AHeap → Option ((Bool) × AHeap)) (fun _ _ _ _ => none) k (book_SameInts_l0b k D j2)
noncomputable def book_SameInts (k : Nat) (D : CallF) (a_0 : Slc) (b_1 : Slc) (h : AHeap) : Option ((Bool) × AHeap) :=
  (if ((a_0.len : Int) != (b_1.len : Int)) = true then
  some (false, h)
  else
  joinK (fun (h1 : AHeap) =>
  some (true, h1)) fun j2 =>
  book_SameInts_l0 k D j2 a_0 b_1 0 h)
def r_book_SameInts : RCode := .seq (.region [⟨some 4, .p (.mv (.const (.bool false))), none, none⟩])
  (.seq (.seq (.region [⟨some 6, .p (.mv (.tmp 0)), none, none⟩,
  ⟨some 7, .p (.lenL (.tmp 6)), none, none⟩,
  ⟨some 8, .p (.mv (.tmp 1)), none, none⟩,
  ⟨some 9, .p (.lenL (.tmp 8)), none, none⟩,
  ⟨some 10, .p (.bin .neq (.tmp 7) (.tmp 9)), none, none⟩])
  (.cond (.tmp 10) (.seq (.region [⟨some 4, .p (.mv (.const (.bool false))), none, none⟩])
  (.ret)) (.skip)))
  (.seq (.join [] (.seq (.region [⟨some 5, .p (.mv (.const (.int .i64 0))), none, none⟩])
  (.block 0 (.loop [(0, .l), (1, .l), (5, .i .i64)] (.seq (.seq (.region [⟨some 11, .p (.mv (.tmp 5)), none, none⟩,
  ⟨some 12, .p (.mv (.tmp 0)), none, none⟩,
  ⟨some 13, .p (.lenL (.tmp 12)), none, none⟩,
  ⟨some 14, .p (.bin .lss (.tmp 11) (.tmp 13)), none, none⟩])
  (.cond (.tmp 14) (.skip) (.exit 0)))
  (.seq (.block 1 (.seq (.draw [⟨0, ⟨some 17, .p (.mv (.tmp 0)), none, none⟩, [0], 0⟩,
  ⟨1, ⟨some 18, .p (.mv (.tmp 5)), none, none⟩, [5], 0⟩,
  ⟨2, ⟨some 19, .p (.idxL 1 (.tmp 17) (.tmp 18)), none, none⟩, [17, 18], 0⟩,
  ⟨3, ⟨some 20, .l (.load (.i .i64) (.tmp 19)), none, none⟩, [19], 0⟩,
  ⟨4, ⟨some 21, .p (.mv (.tmp 1)), none, none⟩, [1], 0⟩,
  ⟨5, ⟨some 22, .p (.mv (.tmp 5)), none, none⟩, [5], 0⟩,
  ⟨6, ⟨some 23, .p (.idxL 1 (.tmp 21) (.tmp 22)), none, none⟩, [21, 22], 0⟩,
  ⟨7, ⟨some 24, .l (.load (.i .i64) (.tmp 23)), none, none⟩, [23], 0⟩,
  ⟨8, ⟨some 25, .p (.bin .neq (.tmp 20) (.tmp 24)), none, none⟩, [20, 24], 0⟩])
  (.cond (.tmp 25) (.seq (.region [⟨some 4, .p (.mv (.const (.bool false))), none, none⟩])
  (.ret)) (.skip))))
  (.region [⟨some 15, .p (.mv (.tmp 5)), none, none⟩,
  ⟨some 16, .p (.bin .add (.tmp 15) (.const (.int .i64 1))), none, none⟩,
  ⟨some 5, .p (.mv (.tmp 16)), none, none⟩])))))))
  (.seq (.region [⟨some 4, .p (.mv (.const (.bool true))), none, none⟩])
  (.ret))))
noncomputable def e_book_SameInts (k : Nat) (D : CallF) : Ent := entOf 29 [(0, .l), (1, .l)] [(4, .b)] (book_SameInts k D)
theorem q_book_SameInts : (Try.f29.body).bind (rcodeOf Try.prog 0 Try.f29.ntmps) = some (strip r_book_SameInts) := by kernel_rfl
theorem t_book_SameInts (k : Nat) (D : CallF) : curF [(0, .l), (1, .l)] (fun args h => denF (C_book_SameInts k D) k r_book_SameInts [(4, .b)] [none] args h) = book_SameInts k D := by kernel_rfl
theorem ok_book_SameInts {D : CallF} (hD : CSound Try.prog 0 D) (k : Nat) : EntOk Try.prog 0 (e_book_SameInts k D) :=
  entOf_ok2 (mkC_sound hD (EntsOk.none)) Try.func29 rfl q_book_SameInts rfl (t_book_SameInts k D)
end Gy

namespace Gy
open Go Gx Go.Proofs
set_option maxRecDepth 100000

noncomputable def C_matrix_New (k : Nat) (D : CallF) : CallF := mkC D [e_field_New k D]
noncomputable def matrix_New (k : Nat) (D : CallF)  (h : AHeap) : Option (((Option Addr)) × AHeap) :=
  (field_New k D h).bind fun r1 =>
  let h2 := AHeap.new r1.2 (.cells [.pointer r1.1] 105 true 0)
  some ((some (⟨r1.2.next, 0, none⟩ : Addr)), h2)
def r_matrix_New : RCode := .seq (.region [⟨some 0, .p (.mv (.const (.pointer none))), none, none⟩])
  (.seq (.region [⟨some 1, .e (.call (.func 13) []), none, none⟩,
  ⟨some 2, .p (.build [.pointer none] [(0, 1, .tmp 1)]), none, none⟩,
  ⟨some 3, .a (.box 105 (.tmp 2)), none, none⟩,
  ⟨some 0, .p (.mv (.tmp 3)), none, none⟩])
  (.ret))
noncomputable def e_matrix_New (k : Nat) (D : CallF) : Ent := entOf 34 [] [(0, .p)] (matrix_New k D)
theorem q_matrix_New : (Try.f34.body).bind (rcodeOf Try.prog 0 Try.f34.ntmps) = some (strip r_matrix_New) := by kernel_rfl
theorem t_matrix_New (k : Nat) (D : CallF) : curF [] (fun args h => denF (C_matrix_New k D) k r_matrix_New [(0, .p)] [none] args h) = matrix_New k D := by kernel_rfl
theorem ok_matrix_New {D : CallF} (hD : CSound Try.prog 0 D) (k : Nat) : EntOk Try.prog 0 (e_matrix_New k D) :=
  entOf_ok2 (mkC_sound hD (EntsOk.more (ok_field_New hD k) (EntsOk.none))) Try.func34 rfl q_matrix_New rfl (t_matrix_New k D)
end Gy

namespace Gy
open Go Gx Go.Proofs
set_option maxRecDepth 100000

noncomputable def C_matrix_blank (_k : Nat) (D : CallF) : CallF := mkC D []
noncomputable def matrix_blank (_k : Nat) (_D : CallF) (rows_0 : Int) (cols_1 : Int) (h : AHeap) : Option (((Int × Int × Slc)) × AHeap) :=
  let h1 := AHeap.new h (.cells [.int .i64 0, .int .i64 0, .slice none 0 0] 51 true 0)
  (if 0 ≤ (IntKind.wrap .i64 (rows_0 * cols_1)) ∧ (IntKind.wrap .i64 (rows_0 * cols_1)) ≤ (IntKind.wrap .i64 (rows_0 * cols_1)) ∧ (IntKind.wrap .i64 (rows_0 * cols_1)) ≤ 281474976710656 ∧ 8 * (IntKind.wrap .i64 (rows_0 * cols_1)) ≤ 281474976710656 then
  let h2 := AHeap.new h1 (.cells (zerosL ((IntKind.wrap .i64 (rows_0 * cols_1))).toNat [.int .i64 0]) 3 true 0)
  (stL 3 (⟨h.next, 0, none⟩ : Addr) ([.int .i64 rows_0, .int .i64 cols_1, .slice (some ⟨h1.next, 0, some 0⟩) (((IntKind.wrap .i64 (rows_0 * cols_1))).toNat) (((IntKind.wrap .i64 (rows_0 * cols_1))).toNat)]) h2).bind fun h3 =>
  (ldA 3 (⟨h.next, 0, none⟩ : Addr) h3).bind fun l4 =>
  (decC [.i .i64, .i .i64, .l] l4).bind fun x5 =>
  some ((x5.1, x5.2.1, x5.2.2), h3)
  else none)
def r_matrix_blank : RCode := .seq (.region [⟨some 4, .a (.alloc 51 [.int .i64 0, .int .i64 0, .slice none 0 0]), none, none⟩])
  (.seq (.region [⟨some 5, .p (.mv (.tmp 0)), none, none⟩,
  ⟨some 6, .p (.mv (.tmp 1)), none, none⟩,
  ⟨some 7, .p (.mv (.tmp 0)), none, none⟩,
  ⟨some 8, .p (.mv (.tmp 1)), none, none⟩,
  ⟨some 9, .p (.bin .mul (.tmp 7) (.tmp 8)), none, none⟩,
  ⟨some 10, .a (.mkSlice 3 8 [.int .i64 0] (.tmp 9) (.tmp 9)), none, none⟩,
  ⟨some 11, .p (.build [.int .i64 0, .int .i64 0, .slice none 0 0] [(0, 1, .tmp 5), (1, 1, .tmp 6), (2, 1, .tmp 10)]), none, none⟩,
  ⟨none, .e (.store (some 3) (.tmp 4) (.tmp 11)), none, none⟩])
  (.ret))
noncomputable def e_matrix_blank (k : Nat) (D : CallF) : Ent := entOf 65 [(0, .i .i64), (1, .i .i64)] [(4, .st [.i .i64, .i .i64, .l])] (matrix_blank k D)
theorem q_matrix_blank : (Try.f65.body).bind (rcodeOf Try.prog 0 Try.f65.ntmps) = some (strip r_matrix_blank) := by kernel_rfl
theorem t_matrix_blank (k : Nat) (D : CallF) : curF [(0, .i .i64), (1, .i .i64)] (fun args h => denF (C_matrix_blank k D) k r_matrix_blank [(4, .st [.i .i64, .i .i64, .l])] [some (.agg 3)] args h) = matrix_blank k D := by kernel_rfl
theorem ok_matrix_blank {D : CallF} (hD : CSound Try.prog 0 D) (k : Nat) : EntOk Try.prog 0 (e_matrix_blank k D) :=
  entOf_ok2 (mkC_sound hD (EntsOk.none)) Try.func65 rfl q_matrix_blank rfl (t_matrix_blank k D)
end Gy

namespace Gy
open Go Gx Go.Proofs
set_option maxRecDepth 100000

noncomputable def C_matrix_M_row (_k : Nat) (D : CallF) : CallF := mkC D []
noncomputable def matrix_M_row (_k : Nat) (_D : CallF) (a_0 : Int × Int × Slc) (i_1 : Int) (h : AHeap) : Option ((Slc) × AHeap) :=
  let h1 := AHeap.new h (.cells [.int .i64 a_0.1, .int .i64 a_0.2.1, .slice a_0.2.2.a a_0.2.2.len a_0.2.2.cap] 51 true 0)
  (ldL (⟨h.next, 2, none⟩ : Addr) h1).bind fun x2 =>
  (ldI .i64 (⟨h.next, 1, none⟩ : Addr) h1).bind fun x3 =>
  (ldI .i64 (⟨h.next, 1, none⟩ : Addr) h1).bind fun x4 =>
  (ldI .i64 (⟨h.next, 1, none⟩ : Addr) h1).bind fun x5 =>
  (Gx.subL 1 x2 (some (IntKind.wrap .i64 (i_1 * x3))) (some (IntKind.wrap .i64 ((IntKind.wrap .i64 (i_1 + 1)) * x4))) (some (IntKind.wrap .i64 ((IntKind.wrap .i64 (i_1 + 1)) * x5)))).bind fun l6 =>
  some (l6, h1)
def r_matrix_M_row : RCode := .seq (.region [⟨some 2, .a (.box 51 (.tmp 0)), none, none⟩,
  ⟨some 4, .p (.mv (.const (.slice none 0 0))), none, none⟩])
  (.seq (.region [⟨some 5, .p (.fieldAddr 2 (.tmp 2)), none, none⟩,
  ⟨some 6, .l (.load (.l) (.tmp 5)), none, none⟩,
  ⟨some 7, .p (.mv (.tmp 1)), none, none⟩,
  ⟨some 8, .p (.fieldAddr 1 (.tmp 2)), none, none⟩,
  ⟨some 9, .l (.load (.i .i64) (.tmp 8)), none, none⟩,
  ⟨some 10, .p (.bin .mul (.tmp 7) (.tmp 9)), none, none⟩,
  ⟨some 11, .p (.mv (.tmp 1)), none, none⟩,
  ⟨some 12, .p (.bin .add (.tmp 11) (.const (.int .i64 1))), none, none⟩,
  ⟨some 13, .p (.fieldAddr 1 (.tmp 2)), none, none⟩,
  ⟨some 14, .l (.load (.i .i64) (.tmp 13)), none, none⟩,
  ⟨some 15, .p (.bin .mul (.tmp 12) (.tmp 14)), none, none⟩,
  ⟨some 16, .p (.mv (.tmp 1)), none, none⟩,
  ⟨some 17, .p (.bin .add (.tmp 16) (.const (.int .i64 1))), none, none⟩,
  ⟨some 18, .p (.fieldAddr 1 (.tmp 2)), none, none⟩,
  ⟨some 19, .l (.load (.i .i64) (.tmp 18)), none, none⟩,
  ⟨some 20, .p (.bin .mul (.tmp 17) (.tmp 19)), none, none⟩,
  ⟨some 21, .p (.subL 1 (.tmp 6) (some (.tmp 10)) (some (.tmp 15)) (some (.tmp 20))), none, none⟩,
  ⟨some 4, .p (.mv (.tmp 21)), none, none⟩])
  (.ret))
noncomputable def e_matrix_M_row (k : Nat) (D : CallF) : Ent := entOf 66 [(0, .st [.i .i64, .i .i64, .l]), (1, .i .i64)] [(4, .l)] (matrix_M_row k D)
theorem q_matrix_M_row : (Try.f66.body).bind (rcodeOf Try.prog 0 Try.f66.ntmps) = some (strip r_matrix_M_row) := by kernel_rfl
theorem t_matrix_M_row (k : Nat) (D : CallF) : curF [(0, .st [.i .i64, .i .i64, .l]), (1, .i .i64)] (fun args h => denF (C_matrix_M_row k D) k r_matrix_M_row [(4, .l)] [none] args h) = matrix_M_row k D := by kernel_rfl
theorem ok_matrix_M_row {D : CallF} (hD : CSound Try.prog 0 D) (k : Nat) : EntOk Try.prog 0 (e_matrix_M_row k D) :=
  entOf_ok2 (mkC_sound hD (EntsOk.none)) Try.func66 rfl q_matrix_M_row rfl (t_matrix_M_row k D)
end Gy

namespace Gy
open Go Gx Go.Proofs
set_option maxRecDepth 100000

noncomputable def C_matrix_Space_Cauchy (k : Nat) (D : CallF) : CallF := mkC D [e_matrix_blank k D, e_matrix_M_row k D, e_field_Field_Div k D]
noncomputable def matrix_Space_Cauchy_l1b (k : Nat) (D : CallF) (j44 : (Option Addr) → Int → (Option Addr) → (Option Addr) → Int → Int → AHeap → Option (((Int × Int × Slc) × Int) × AHeap)) (rec55 : (Option Addr) → Int → (Option Addr) → (Option Addr) → Int → Int → Int → Int → Int → AHeap → Option (((Int × Int × Slc) × Int) × AHeap)) (s45 : Option Addr) (kv46 : Int) (y47 : Option Addr) (out48 : Option Addr) (i49 : Int) (y50 : Int) (y51 : Int) (y52 : Int) (y53 : Int) (h54 : AHeap) : Option (((Int × Int × Slc) × Int) × AHeap) :=
  (if (decide (y53 < y52)) = true then
  joinK (fun (s56 : Option Addr) (kv57 : Int) (y58 : Option Addr) (out59 : Option Addr) (i60 : Int) (y61 : Int) (y62 : Int) (y63 : Int) (y64 : Int) (h65 : AHeap) =>
  rec55 s56 kv57 y58 out59 i60 y61 y62 y63 (IntKind.wrap .i64 (y64 + 1)) h65) fun j66 =>
  joinK (fun (s67 : Option Addr) (kv68 : Int) (y69 : Option Addr) (out70 : Option Addr) (i71 : Int) (j72 : Int) (y73 : Int) (y74 : Int) (y75 : Int) (y76 : Int) (y77 : Bool) (h78 : AHeap) =>
  (if y77 = true then
  (out70).bind fun p80 =>
  (ldA 3 p80 h78).bind fun l81 =>
  (decC [.i .i64, .i .i64, .l] l81).bind fun x82 =>
  (matrix_M_row k D (x82.1, x82.2.1, x82.2.2) i71 h78).bind fun r83 =>
  (Gx.idxL 1 r83.1 j72).bind fun q84 =>
  (st1 q84 (.int .i64 1) r83.2).bind fun h85 =>
  j66 s67 kv68 y69 out70 i71 y73 y74 y75 y76 h85
  else
  (if (decide (i71 ≥ kv68)) = true then
  (out70).bind fun p86 =>
  (ldA 3 p86 h78).bind fun l87 =>
  (decC [.i .i64, .i .i64, .l] l87).bind fun x88 =>
  (matrix_M_row k D (x88.1, x88.2.1, x88.2.2) i71 h78).bind fun r89 =>
  (s67).bind fun p90 =>
  (ldP (⟨p90.block, p90.off + 0, none⟩ : Addr) r89.2).bind fun x91 =>
  guardP (SameW [h78] (fun H93 => (ldP (⟨p90.block, p90.off + 0, none⟩ : Addr) H93).bind fun y92 => some (.pointer y92)) (.pointer x91)) (
  (field_Field_Div k D x91 1 (Go.bits .xor .i64 i71 j72) r89.2).bind fun r94 =>
  (Gx.idxL 1 r89.1 j72).bind fun q95 =>
  (st1 q95 (.int .i64 r94.1.1) r94.2).bind fun h96 =>
  j66 s67 kv68 y69 out70 i71 y73 y74 y75 y76 h96)
  else
  j66 s67 kv68 y69 out70 i71 y73 y74 y75 y76 h78))) fun j79 =>
  (if (decide (i49 < kv46)) = true then
  j79 s45 kv46 y47 out48 i49 y53 y50 y51 y52 y53 (i49 == y53) h54
  else
  j79 s45 kv46 y47 out48 i49 y53 y50 y51 y52 y53 false h54)
  else
  j44 s45 kv46 y47 out48 y50 y51 h54)
noncomputable def matrix_Space_Cauchy_l1 (k : Nat) (D : CallF) (j44 : (Option Addr) → Int → (Option Addr) → (Option Addr) → Int → Int → AHeap → Option (((Int × Int × Slc) × Int) × AHeap)) : (Option Addr) → Int → (Option Addr) → (Option Addr) → Int → Int → Int → Int → Int → AHeap → Option (((Int × Int × Slc) × Int) × AHeap) :=
  iterK (α := (Option Addr) → Int → (Option Addr) → (Option Addr) → Int → Int → Int → Int → Int → AHeap → Option (((Int × Int × Slc) × Int) × AHeap)) (fun _ _ _ _ _ _ _ _ _ _ => none) k (matrix_Space_Cauchy_l1b k D j44)
noncomputable def matrix_Space_Cauchy_l0b (k : Nat) (D : CallF) (j20 : (Option Addr) → (Option Addr) → AHeap → Option (((Int × Int × Slc) × Int) × AHeap)) (rec36 : (Option Addr) → Int → (Option Addr) → (Option Addr) → Int → Int → AHeap → Option (((Int × Int × Slc) × Int) × AHeap)) (s29 : Option Addr) (kv30 : Int) (y31 : Option Addr) (out32 : Option Addr) (y33 : Int) (y34 : Int) (h35 : AHeap) : Option (((Int × Int × Slc) × Int) × AHeap) :=
  (if (decide (y34 < y33)) = true then
  joinK (fun (s37 : Option Addr) (kv38 : Int) (y39 : Option Addr) (out40 : Option Addr) (y41 : Int) (y42 : Int) (h43 : AHeap) =>
  rec36 s37 kv38 y39 out40 y41 (IntKind.wrap .i64 (y42 + 1)) h43) fun j44 =>
  matrix_Space_Cauchy_l1 k D j44 s29 kv30 y31 out32 y34 y33 y34 kv30 0 h35
  else
  j20 y31 out32 h35)
noncomputable def matrix_Space_Cauchy_l0 (k : Nat) (D : CallF) (j20 : (Option Addr) → (Option Addr) → AHeap → Option (((Int × Int × Slc) × Int) × AHeap)) : (Option Addr) → Int → (Option Addr) → (Option Addr) → Int → Int → AHeap → Option (((Int × Int × Slc) × Int) × AHeap) :=
  iterK (α := (Option Addr) → Int → (Option Addr) → (Option Addr) → Int → Int → AHeap → Option (((Int × Int × Slc) × Int) × AHeap)) (fun _ _ _ _ _ _ _ => none) k (matrix_Space_Cauchy_l0b k D j20)
noncomputable def matrix_Space_Cauchy (k : Nat) (D : CallF) (s_0 : Option Addr) (k_1 : Int) (m_2 : Int) (h : AHeap) : Option (((Int × Int × Slc) × Int) × AHeap) :=
  let h1 := AHeap.new h (.cells [.int .i64 0, .int .i64 0, .slice none 0 0] 51 true 0)
  joinK (fun (s2 : Option Addr) (kv3 : Int) (m4 : Int) (y5 : Option Addr) (y6 : Bool) (h7 : AHeap) =>
  (if y6 = true then
  (y5).bind fun p9 =>
  (stL 3 p9 ([.int .i64 0, .int .i64 0, .slice none 0 0]) h7).bind fun h10 =>
  (y5).bind fun p11 =>
  (ldA 3 p11 h10).bind fun l12 =>
  (decC [.i .i64, .i .i64, .l] l12).bind fun x13 =>
  some (((x13.1, x13.2.1, x13.2.2), 1), h10)
  else
  (matrix_blank k D (IntKind.wrap .i64 (kv3 + m4)) kv3 h7).bind fun r14 =>
  let h15 := AHeap.new r14.2 (.cells [.int .i64 0, .int .i64 0, .slice none 0 0] 51 true 0)
  (stL 3 (⟨r14.2.next, 0, none⟩ : Addr) ([.int .i64 r14.1.1, .int .i64 r14.1.2.1, .slice r14.1.2.2.a r14.1.2.2.len r14.1.2.2.cap]) h15).bind fun h16 =>
  joinK (fun (y17 : Option Addr) (out18 : Option Addr) (h19 : AHeap) =>
  (out18).bind fun p21 =>
  (ldA 3 p21 h19).bind fun l22 =>
  (decC [.i .i64, .i .i64, .l] l22).bind fun x23 =>
  (y17).bind fun p24 =>
  (stL 3 p24 ([.int .i64 x23.1, .int .i64 x23.2.1, .slice x23.2.2.a x23.2.2.len x23.2.2.cap]) h19).bind fun h25 =>
  (y17).bind fun p26 =>
  (ldA 3 p26 h25).bind fun l27 =>
  (decC [.i .i64, .i .i64, .l] l27).bind fun x28 =>
  some (((x28.1, x28.2.1, x28.2.2), 0), h25)) fun j20 =>
  matrix_Space_Cauchy_l0 k D j20 s2 kv3 y5 (some (⟨r14.2.next, 0, none⟩ : Addr)) (IntKind.wrap .i64 (kv3 + m4)) 0 h16)) fun j8 =>
  (if (decide (k_1 < 1)) = true then
  j8 s_0 k_1 m_2 (some (⟨h.next, 0, none⟩ : Addr)) true h1
  else
  (if (decide (m_2 < 0)) = true then
  j8 s_0 k_1 m_2 (some (⟨h.next, 0, none⟩ : Addr)) true h1
  else
  (if (decide (k_1 > 255)) = true then
  j8 s_0 k_1 m_2 (some (⟨h.next, 0, none⟩ : Addr)) true h1
  else
  j8 s_0 k_1 m_2 (some (⟨h.next, 0, none⟩ : Addr)) (decide (m_2 > (IntKind.wrap .i64 (255 - k_1)))) h1)))
def r_matrix_Space_Cauchy : RCode := .seq (.region [⟨some 6, .a (.alloc 51 [.int .i64 0, .int .i64 0, .slice none 0 0]), none, none⟩,
  ⟨some 7, .p (.mv (.const (.int .i64 0))), none, none⟩])
  (.seq (.seq (.join [(0, .p), (1, .i .i64), (2, .i .i64), (6, .p), (26, .b)] (.region [⟨some 11, .p (.mv (.tmp 1)), none, none⟩,
  ⟨some 12, .p (.bin .lss (.tmp 11) (.const (.int .i64 1))), none, none⟩,
  ⟨some 13, .p (.mv (.tmp 12)), none, none⟩,
  ⟨some 14, .p (.mv (.tmp 2)), (some (13, false)), none⟩,
  ⟨some 15, .p (.bin .lss (.tmp 14) (.const (.int .i64 0))), (some (13, false)), none⟩,
  ⟨some 16, .p (.pick (.tmp 13) (.const (.bool true)) (.tmp 15)), none, none⟩,
  ⟨some 17, .p (.mv (.tmp 16)), none, none⟩,
  ⟨some 18, .p (.mv (.tmp 1)), (some (17, false)), none⟩,
  ⟨some 19, .p (.bin .gtr (.tmp 18) (.const (.int .i64 255))), (some (17, false)), none⟩,
  ⟨some 20, .p (.pick (.tmp 17) (.const (.bool true)) (.tmp 19)), none, none⟩,
  ⟨some 21, .p (.mv (.tmp 20)), none, none⟩,
  ⟨some 22, .p (.mv (.tmp 2)), (some (21, false)), none⟩,
  ⟨some 23, .p (.mv (.tmp 1)), (some (21, false)), none⟩,
  ⟨some 24, .p (.bin .sub (.const (.int .i64 255)) (.tmp 23)), (some (21, false)), none⟩,
  ⟨some 25, .p (.bin .gtr (.tmp 22) (.tmp 24)), (some (21, false)), none⟩,
  ⟨some 26, .p (.pick (.tmp 21) (.const (.bool true)) (.tmp 25)), none, none⟩]))
  (.cond (.tmp 26) (.seq (.region [⟨some 27, .p (.build [.int .i64 0, .int .i64 0, .slice none 0 0] []), none, none⟩,
  ⟨none, .e (.store (some 3) (.tmp 6) (.tmp 27)), none, none⟩,
  ⟨some 7, .p (.mv (.const (.int .i64 1))), none, none⟩])
  (.ret)) (.skip)))
  (.seq (.region [⟨some 28, .p (.mv (.tmp 1)), none, none⟩,
  ⟨some 29, .p (.mv (.tmp 2)), none, none⟩,
  ⟨some 30, .p (.bin .add (.tmp 28) (.tmp 29)), none, none⟩,
  ⟨some 31, .p (.mv (.tmp 1)), none, none⟩,
  ⟨some 32, .e (.call (.func 65) [.tmp 30, .tmp 31]), none, none⟩,
  ⟨some 8, .a (.alloc 51 [.int .i64 0, .int .i64 0, .slice none 0 0]), none, none⟩,
  ⟨none, .e (.store (some 3) (.tmp 8) (.tmp 32)), none, none⟩])
  (.seq (.join [(6, .p), (8, .p)] (.seq (.region [⟨some 33, .p (.mv (.tmp 1)), none, none⟩,
  ⟨some 34, .p (.mv (.tmp 2)), none, none⟩,
  ⟨some 35, .p (.bin .add (.tmp 33) (.tmp 34)), none, none⟩,
  ⟨some 36, .p (.mv (.const (.int .i64 0))), none, none⟩])
  (.block 0 (.loop [(0, .p), (1, .i .i64), (6, .p), (8, .p), (35, .i .i64), (36, .i .i64)] (.seq (.region [⟨some 37, .p (.bin .lss (.tmp 36) (.tmp 35)), none, none⟩])
  (.seq (.cond (.tmp 37) (.skip) (.exit 0))
  (.seq (.join [(0, .p), (1, .i .i64), (6, .p), (8, .p), (35, .i .i64), (36, .i .i64)] (.block 1 (.seq (.region [⟨some 38, .p (.mv (.tmp 36)), none, none⟩,
  ⟨some 9, .p (.mv (.tmp 38)), none, none⟩])
  (.seq (.region [⟨some 39, .p (.mv (.tmp 1)), none, none⟩,
  ⟨some 40, .p (.mv (.const (.int .i64 0))), none, none⟩])
  (.block 2 (.loop [(0, .p), (1, .i .i64), (6, .p), (8, .p), (9, .i .i64), (35, .i .i64), (36, .i .i64), (39, .i .i64), (40, .i .i64)] (.seq (.region [⟨some 41, .p (.bin .lss (.tmp 40) (.tmp 39)), none, none⟩])
  (.seq (.cond (.tmp 41) (.skip) (.exit 2))
  (.seq (.join [(0, .p), (1, .i .i64), (6, .p), (8, .p), (9, .i .i64), (35, .i .i64), (36, .i .i64), (39, .i .i64), (40, .i .i64)] (.block 3 (.seq (.region [⟨some 42, .p (.mv (.tmp 40)), none, none⟩,
  ⟨some 10, .p (.mv (.tmp 42)), none, none⟩])
  (.block 4 (.seq (.join [(0, .p), (1, .i .i64), (6, .p), (8, .p), (9, .i .i64), (10, .i .i64), (35, .i .i64), (36, .i .i64), (39, .i .i64), (40, .i .i64), (43, .b)] (.region [⟨some 44, .p (.mv (.tmp 9)), none, none⟩,
  ⟨some 45, .p (.mv (.tmp 1)), none, none⟩,
  ⟨some 46, .p (.bin .lss (.tmp 44) (.tmp 45)), none, none⟩,
  ⟨some 47, .p (.mv (.tmp 46)), none, none⟩,
  ⟨some 48, .p (.mv (.tmp 9)), (some (47, true)), none⟩,
  ⟨some 49, .p (.mv (.tmp 10)), (some (47, true)), none⟩,
  ⟨some 50, .p (.bin .eql (.tmp 48) (.tmp 49)), (some (47, true)), none⟩,
  ⟨some 51, .p (.pick (.tmp 47) (.tmp 50) (.const (.bool false))), none, none⟩,
  ⟨some 43, .p (.mv (.tmp 51)), none, none⟩]))
  (.cond (.tmp 43) (.region [⟨some 52, .l (.load (.agg 3) (.tmp 8)), none, some (.st [.i .i64, .i .i64, .l])⟩,
  ⟨some 53, .p (.mv (.tmp 9)), none, none⟩,
  ⟨some 54, .e (.call (.func 66) [.tmp 52, .tmp 53]), none, none⟩,
  ⟨some 55, .p (.mv (.tmp 10)), none, none⟩,
  ⟨some 56, .p (.idxL 1 (.tmp 54) (.tmp 55)), none, none⟩,
  ⟨none, .e (.store none (.tmp 56) (.const (.int .i64 1))), none, none⟩]) (.seq (.region [⟨some 58, .p (.mv (.tmp 9)), none, none⟩,
  ⟨some 59, .p (.mv (.tmp 1)), none, none⟩,
  ⟨some 60, .p (.bin .geq (.tmp 58) (.tmp 59)), none, none⟩,
  ⟨some 57, .p (.mv (.tmp 60)), none, none⟩])
  (.cond (.tmp 57) (.draw [⟨0, ⟨some 62, .l (.load (.agg 3) (.tmp 8)), none, some (.st [.i .i64, .i .i64, .l])⟩, [8], 0⟩,
  ⟨1, ⟨some 63, .p (.mv (.tmp 9)), none, none⟩, [9], 0⟩,
  ⟨2, ⟨some 64, .e (.call (.func 66) [.tmp 62, .tmp 63]), none, none⟩, [62, 63], 0⟩,
  ⟨4, ⟨some 66, .p (.mv (.tmp 0)), none, none⟩, [0], 1⟩,
  ⟨5, ⟨some 67, .p (.nilP (.tmp 66)), none, none⟩, [66], 1⟩,
  ⟨6, ⟨some 68, .p (.fieldAddr 0 (.tmp 67)), none, none⟩, [67], 1⟩,
  ⟨7, ⟨some 69, .l (.load (.p) (.tmp 68)), none, none⟩, [68], 1⟩,
  ⟨8, ⟨some 70, .p (.mv (.tmp 9)), none, none⟩, [9], 1⟩,
  ⟨9, ⟨some 71, .p (.mv (.tmp 10)), none, none⟩, [10], 1⟩,
  ⟨10, ⟨some 72, .p (.bin .xor (.tmp 70) (.tmp 71)), none, none⟩, [70, 71], 1⟩,
  ⟨11, ⟨some 73, .e (.call (.func 19) [.tmp 69, .const (.int .i64 1), .tmp 72]), none, none⟩, [69, 72], 0⟩,
  ⟨3, ⟨some 65, .p (.mv (.tmp 10)), none, none⟩, [10], 2⟩,
  ⟨12, ⟨some 61, .p (.mv (.tmp 73)), none, none⟩, [73], 0⟩,
  ⟨13, ⟨some 74, .p (.extract (.tmp 61) 0), none, none⟩, [61], 0⟩,
  ⟨15, ⟨some 76, .p (.idxL 1 (.tmp 64) (.tmp 65)), none, none⟩, [64, 65], 0⟩,
  ⟨16, ⟨none, .e (.store none (.tmp 76) (.tmp 74)), none, none⟩, [76, 74], 0⟩,
  ⟨14, ⟨some 75, .p (.extract (.tmp 61) 1), none, none⟩, [61], 1⟩]) (.skip)))))))))
  (.region [⟨some 77, .p (.bin .add (.tmp 40) (.const (.int .i64 1))), none, none⟩,
  ⟨some 40, .p (.mv (.tmp 77)), none, none⟩]))))))))))
  (.region [⟨some 78, .p (.bin .add (.tmp 36) (.const (.int .i64 1))), none, none⟩,
  ⟨some 36, .p (.mv (.tmp 78)), none, none⟩]))))))))
  (.seq (.region [⟨some 79, .l (.load (.agg 3) (.tmp 8)), none, some (.st [.i .i64, .i .i64, .l])⟩,
  ⟨none, .e (.store (some 3) (.tmp 6) (.tmp 79)), none, none⟩,
  ⟨some 7, .p (.mv (.const (.int .i64 0))), none, none⟩])
  (.ret)))))
noncomputable def e_matrix_Space_Cauchy (k : Nat) (D : CallF) : Ent := entOf 36 [(0, .p), (1, .i .i64), (2, .i .i64)] [(6, .st [.i .i64, .i .i64, .l]), (7, .i .i64)] (matrix_Space_Cauchy k D)
theorem q_matrix_Space_Cauchy : (Try.f36.body).bind (rcodeOf Try.prog 0 Try.f36.ntmps) = some (strip r_matrix_Space_Cauchy) := by kernel_rfl
theorem t_matrix_Space_Cauchy (k : Nat) (D : CallF) : curF [(0, .p), (1, .i .i64), (2, .i .i64)] (fun args h => denF (C_matrix_Space_Cauchy k D) k r_matrix_Space_Cauchy [(6, .st [.i .i64, .i .i64, .l]), (7, .i .i64)] [some (.agg 3), none] args h) = matrix_Space_Cauchy k D := by kernel_rfl
theorem ok_matrix_Space_Cauchy {D : CallF} (hD : CSound Try.prog 0 D) (k : Nat) : EntOk Try.prog 0 (e_matrix_Space_Cauchy k D) :=
  entOf_ok2 (mkC_sound hD (EntsOk.more (ok_matrix_blank hD k) (EntsOk.more (ok_matrix_M_row hD k) (EntsOk.more (ok_field_Field_Div hD k) (EntsOk.none))))) Try.func36 rfl q_matrix_Space_Cauchy rfl (t_matrix_Space_Cauchy k D)
end Gy

namespace Gy
open Go Gx Go.Proofs
set_option maxRecDepth 100000

noncomputable def C_law04_works (k : Nat) (D : CallF) : CallF := mkC D [e_matrix_New k D, e_matrix_Space_Cauchy k D, e_book_SameInts k D]
noncomputable def law04_works (k : Nat) (D : CallF)  (h : AHeap) : Option ((Bool) × AHeap) :=
  (matrix_New k D h).bind fun r1 =>
  (if r1.1.isNone = true then
  some (false, r1.2)
  else
  (matrix_Space_Cauchy k D r1.1 1 1 r1.2).bind fun r2 =>
  let h3 := AHeap.new r2.2 (.cells [.int .i64 0, .int .i64 0, .slice none 0 0] 51 true 0)
  (stL 3 (⟨r2.2.next, 0, none⟩ : Addr) ([.int .i64 r2.1.1.1, .int .i64 r2.1.1.2.1, .slice r2.1.1.2.2.a r2.1.1.2.2.len r2.1.1.2.2.cap]) h3).bind fun h4 =>
  (if (r2.1.2 == 0) = true then
  (ldI .i64 (⟨r2.2.next, 0, none⟩ : Addr) h4).bind fun x5 =>
  (if (x5 == 2) = true then
  (ldI .i64 (⟨r2.2.next, 1, none⟩ : Addr) h4).bind fun x6 =>
  (if (x6 == 1) = true then
  (ldL (⟨r2.2.next, 2, none⟩ : Addr) h4).bind fun x7 =>
  let h8 := AHeap.new h4 (.cells [.int .i64 1, .int .i64 1] 3 true 0)
  (book_SameInts k D x7 (⟨(some ⟨h4.next, 0, some 0⟩), 2, 2⟩ : Slc) h8).bind fun r9 =>
  some (r9.1, r9.2)
  else
  some (false, h4))
  else
  some (false, h4))
  else
  some (false, h4)))
def r_law04_works : RCode := .seq (.region [⟨some 0, .p (.mv (.const (.bool false))), none, none⟩])
  (.seq (.region [⟨some 4, .e (.call (.func 34) []), none, none⟩,
  ⟨some 1, .p (.mv (.tmp 4)), none, none⟩])
  (.seq (.seq (.region [⟨some 5, .p (.mv (.tmp 1)), none, none⟩,
  ⟨some 6, .p (.isNil .p false (.tmp 5)), none, none⟩])
  (.cond (.tmp 6) (.seq (.region [⟨some 0, .p (.mv (.const (.bool false))), none, none⟩])
  (.ret)) (.skip)))
  (.seq (.region [⟨some 8, .p (.mv (.tmp 1)), none, none⟩,
  ⟨some 9, .e (.call (.func 36) [.tmp 8, .const (.int .i64 1), .const (.int .i64 1)]), none, none⟩,
  ⟨some 7, .p (.mv (.tmp 9)), none, none⟩,
  ⟨some 10, .p (.extract (.tmp 7) 0), none, none⟩,
  ⟨some 11, .p (.extract (.tmp 7) 1), none, none⟩,
  ⟨some 2, .a (.alloc 51 [.int .i64 0, .int .i64 0, .slice none 0 0]), none, none⟩,
  ⟨none, .e (.store (some 3) (.tmp 2) (.tmp 10)), none, none⟩,
  ⟨some 3, .p (.mv (.tmp 11)), none, none⟩])
  (.seq (.region [⟨some 12, .p (.mv (.tmp 3)), none, none⟩,
  ⟨some 13, .p (.bin .eql (.tmp 12) (.const (.int .i64 0))), none, none⟩,
  ⟨some 14, .p (.mv (.tmp 13)), none, none⟩,
  ⟨some 15, .p (.fieldAddr 0 (.tmp 2)), (some (14, true)), none⟩,
  ⟨some 16, .l (.load (.i .i64) (.tmp 15)), (some (14, true)), none⟩,
  ⟨some 17, .p (.bin .eql (.tmp 16) (.const (.int .i64 2))), (some (14, true)), none⟩,
  ⟨some 18, .p (.pick (.tmp 14) (.tmp 17) (.const (.bool false))), none, none⟩,
  ⟨some 19, .p (.mv (.tmp 18)), none, none⟩,
  ⟨some 20, .p (.fieldAddr 1 (.tmp 2)), (some (19, true)), none⟩,
  ⟨some 21, .l (.load (.i .i64) (.tmp 20)), (some (19, true)), none⟩,
  ⟨some 22, .p (.bin .eql (.tmp 21) (.const (.int .i64 1))), (some (19, true)), none⟩,
  ⟨some 23, .p (.pick (.tmp 19) (.tmp 22) (.const (.bool false))), none, none⟩,
  ⟨some 24, .p (.mv (.tmp 23)), none, none⟩,
  ⟨some 25, .p (.fieldAddr 2 (.tmp 2)), (some (24, true)), none⟩,
  ⟨some 26, .l (.load (.l) (.tmp 25)), (some (24, true)), none⟩,
  ⟨some 27, .a (.buildSlice 3 2 (zerosL 2 [.int .i64 0]) [(0, 1, .const (.int .i64 1)), (1, 1, .const (.int .i64 1))]), (some (24, true)), none⟩,
  ⟨some 28, .e (.call (.func 29) [.tmp 26, .tmp 27]), (some (24, true)), none⟩,
  ⟨some 29, .p (.pick (.tmp 24) (.tmp 28) (.const (.bool false))), none, none⟩,
  ⟨some 0, .p (.mv (.tmp 29)), none, none⟩])
  (.ret)))))
noncomputable def e_law04_works (k : Nat) (D : CallF) : Ent := entOf 35 [] [(0, .b)] (law04_works k D)
theorem q_law04_works : (Try.f35.body).bind (rcodeOf Try.prog 0 Try.f35.ntmps) = some (strip r_law04_works) := by kernel_rfl
theorem t_law04_works (k : Nat) (D : CallF) : curF [] (fun args h => denF (C_law04_works k D) k r_law04_works [(0, .b)] [none] args h) = law04_works k D := by kernel_rfl
theorem ok_law04_works {D : CallF} (hD : CSound Try.prog 0 D) (k : Nat) : EntOk Try.prog 0 (e_law04_works k D) :=
  entOf_ok2 (mkC_sound hD (EntsOk.more (ok_matrix_New hD k) (EntsOk.more (ok_matrix_Space_Cauchy hD k) (EntsOk.more (ok_book_SameInts hD k) (EntsOk.none))))) Try.func35 rfl q_law04_works rfl (t_law04_works k D)
end Gy

namespace Gy
open Go Gx Go.Proofs
set_option maxRecDepth 100000

noncomputable def C_ref04_zero (_k : Nat) (D : CallF) : CallF := mkC D []
noncomputable def ref04_zero (_k : Nat) (_D : CallF) (rows_0 : Int) (cols_1 : Int) (h : AHeap) : Option (((Int × Int × Slc)) × AHeap) :=
  let h1 := AHeap.new h (.cells [.int .i64 0, .int .i64 0, .slice none 0 0] 54 true 0)
  (if 0 ≤ (IntKind.wrap .i64 (rows_0 * cols_1)) ∧ (IntKind.wrap .i64 (rows_0 * cols_1)) ≤ (IntKind.wrap .i64 (rows_0 * cols_1)) ∧ (IntKind.wrap .i64 (rows_0 * cols_1)) ≤ 281474976710656 ∧ 8 * (IntKind.wrap .i64 (rows_0 * cols_1)) ≤ 281474976710656 then
  let h2 := AHeap.new h1 (.cells (zerosL ((IntKind.wrap .i64 (rows_0 * cols_1))).toNat [.int .i64 0]) 3 true 0)
  (stL 3 (⟨h.next, 0, none⟩ : Addr) ([.int .i64 rows_0, .int .i64 cols_1, .slice (some ⟨h1.next, 0, some 0⟩) (((IntKind.wrap .i64 (rows_0 * cols_1))).toNat) (((IntKind.wrap .i64 (rows_0 * cols_1))).toNat)]) h2).bind fun h3 =>
  (ldA 3 (⟨h.next, 0, none⟩ : Addr) h3).bind fun l4 =>
  (decC [.i .i64, .i .i64, .l] l4).bind fun x5 =>
  some ((x5.1, x5.2.1, x5.2.2), h3)
  else none)
def r_ref04_zero : RCode := .seq (.region [⟨some 4, .a (.alloc 54 [.int .i64 0, .int .i64 0, .slice none 0 0]), none, none⟩])
  (.seq (.region [⟨some 5, .p (.mv (.tmp 0)), none, none⟩,
  ⟨some 6, .p (.mv (.tmp 1)), none, none⟩,
  ⟨some 7, .p (.mv (.tmp 0)), none, none⟩,
  ⟨some 8, .p (.mv (.tmp 1)), none, none⟩,
  ⟨some 9, .p (.bin .mul (.tmp 7) (.tmp 8)), none, none⟩,
  ⟨some 10, .a (.mkSlice 3 8 [.int .i64 0] (.tmp 9) (.tmp 9)), none, none⟩,
  ⟨some 11, .p (.build [.int .i64 0, .int .i64 0, .slice none 0 0] [(0, 1, .tmp 5), (1, 1, .tmp 6), (2, 1, .tmp 10)]), none, none⟩,
  ⟨none, .e (.store (some 3) (.tmp 4) (.tmp 11)), none, none⟩])
  (.ret))
noncomputable def e_ref04_zero (k : Nat) (D : CallF) : Ent := entOf 67 [(0, .i .i64), (1, .i .i64)] [(4, .st [.i .i64, .i .i64, .l])] (ref04_zero k D)
theorem q_ref04_zero : (Try.f67.body).bind (rcodeOf Try.prog 0 Try.f67.ntmps) = some (strip r_ref04_zero) := by kernel_rfl
theorem t_ref04_zero (k : Nat) (D : CallF) : curF [(0, .i .i64), (1, .i .i64)] (fun args h => denF (C_ref04_zero k D) k r_ref04_zero [(4, .st [.i .i64, .i .i64, .l])] [some (.agg 3)] args h) = ref04_zero k D := by kernel_rfl
theorem ok_ref04_zero {D : CallF} (hD : CSound Try.prog 0 D) (k : Nat) : EntOk Try.prog 0 (e_ref04_zero k D) :=
  entOf_ok2 (mkC_sound hD (EntsOk.none)) Try.func67 rfl q_ref04_zero rfl (t_ref04_zero k D)
end Gy

namespace Gy
open Go Gx Go.Proofs
set_option maxRecDepth 100000

noncomputable def C_ref04_Cauchy (k : Nat) (D : CallF) : CallF := mkC D [e_ref04_zero k D, e_ref03_Over k D]
noncomputable def ref04_Cauchy_l1b (k : Nat) (D : CallF) (j41 : Int → Int → (Option Addr) → (Option Addr) → Int → AHeap → Option (((Int × Int × Slc) × Int) × AHeap)) (rec53 : Int → Int → (Option Addr) → (Option Addr) → Int → Int → AHeap → Option (((Int × Int × Slc) × Int) × AHeap)) (kv46 : Int) (m47 : Int) (y48 : Option Addr) (out49 : Option Addr) (j50 : Int) (i51 : Int) (h52 : AHeap) : Option (((Int × Int × Slc) × Int) × AHeap) :=
  (if (decide (i51 < m47)) = true then
  (ref03_Over k D 1 (Go.bits .xor .i64 (IntKind.wrap .i64 (kv46 + i51)) j50) h52).bind fun r54 =>
  (out49).bind fun p55 =>
  (ldL (⟨p55.block, p55.off + 2, none⟩ : Addr) r54.2).bind fun x56 =>
  guardP (SameW [h52] (fun H58 => (ldL (⟨p55.block, p55.off + 2, none⟩ : Addr) H58).bind fun y57 => some (.slice y57.a y57.len y57.cap)) (.slice x56.a x56.len x56.cap)) (
  let t59 : Int := (IntKind.wrap .i64 ((IntKind.wrap .i64 (kv46 + i51)) * kv46))
  (Gx.idxL 1 x56 (IntKind.wrap .i64 (t59 + j50))).bind fun q60 =>
  (st1 q60 (.int .i64 r54.1) r54.2).bind fun h61 =>
  rec53 kv46 m47 y48 out49 j50 (IntKind.wrap .i64 (i51 + 1)) h61)
  else
  j41 kv46 m47 y48 out49 j50 h52)
noncomputable def ref04_Cauchy_l1 (k : Nat) (D : CallF) (j41 : Int → Int → (Option Addr) → (Option Addr) → Int → AHeap → Option (((Int × Int × Slc) × Int) × AHeap)) : Int → Int → (Option Addr) → (Option Addr) → Int → Int → AHeap → Option (((Int × Int × Slc) × Int) × AHeap) :=
  iterK (α := Int → Int → (Option Addr) → (Option Addr) → Int → Int → AHeap → Option (((Int × Int × Slc) × Int) × AHeap)) (fun _ _ _ _ _ _ _ => none) k (ref04_Cauchy_l1b k D j41)
noncomputable def ref04_Cauchy_l0b (k : Nat) (D : CallF) (j19 : (Option Addr) → (Option Addr) → AHeap → Option (((Int × Int × Slc) × Int) × AHeap)) (rec34 : Int → Int → (Option Addr) → (Option Addr) → Int → AHeap → Option (((Int × Int × Slc) × Int) × AHeap)) (kv28 : Int) (m29 : Int) (y30 : Option Addr) (out31 : Option Addr) (j32 : Int) (h33 : AHeap) : Option (((Int × Int × Slc) × Int) × AHeap) :=
  (if (decide (j32 < kv28)) = true then
  joinK (fun (kv35 : Int) (m36 : Int) (y37 : Option Addr) (out38 : Option Addr) (j39 : Int) (h40 : AHeap) =>
  rec34 kv35 m36 y37 out38 (IntKind.wrap .i64 (j39 + 1)) h40) fun j41 =>
  (out31).bind fun p42 =>
  (ldL (⟨p42.block, p42.off + 2, none⟩ : Addr) h33).bind fun x43 =>
  (Gx.idxL 1 x43 (IntKind.wrap .i64 ((IntKind.wrap .i64 (j32 * kv28)) + j32))).bind fun q44 =>
  (st1 q44 (.int .i64 1) h33).bind fun h45 =>
  ref04_Cauchy_l1 k D j41 kv28 m29 y30 out31 j32 0 h45
  else
  j19 y30 out31 h33)
noncomputable def ref04_Cauchy_l0 (k : Nat) (D : CallF) (j19 : (Option Addr) → (Option Addr) → AHeap → Option (((Int × Int × Slc) × Int) × AHeap)) : Int → Int → (Option Addr) → (Option Addr) → Int → AHeap → Option (((Int × Int × Slc) × Int) × AHeap) :=
  iterK (α := Int → Int → (Option Addr) → (Option Addr) → Int → AHeap → Option (((Int × Int × Slc) × Int) × AHeap)) (fun _ _ _ _ _ _ => none) k (ref04_Cauchy_l0b k D j19)
noncomputable def ref04_Cauchy (k : Nat) (D : CallF) (k_0 : Int) (m_1 : Int) (h : AHeap) : Option (((Int × Int × Slc) × Int) × AHeap) :=
  let h1 := AHeap.new h (.cells [.int .i64 0, .int .i64 0, .slice none 0 0] 54 true 0)
  joinK (fun (kv2 : Int) (m3 : Int) (y4 : Option Addr) (y5 : Bool) (h6 : AHeap) =>
  (if y5 = true then
  (y4).bind fun p8 =>
  (stL 3 p8 ([.int .i64 0, .int .i64 0, .slice none 0 0]) h6).bind fun h9 =>
  (y4).bind fun p10 =>
  (ldA 3 p10 h9).bind fun l11 =>
  (decC [.i .i64, .i .i64, .l] l11).bind fun x12 =>
  some (((x12.1, x12.2.1, x12.2.2), 1), h9)
  else
  (ref04_zero k D (IntKind.wrap .i64 (kv2 + m3)) kv2 h6).bind fun r13 =>
  let h14 := AHeap.new r13.2 (.cells [.int .i64 0, .int .i64 0, .slice none 0 0] 54 true 0)
  (stL 3 (⟨r13.2.next, 0, none⟩ : Addr) ([.int .i64 r13.1.1, .int .i64 r13.1.2.1, .slice r13.1.2.2.a r13.1.2.2.len r13.1.2.2.cap]) h14).bind fun h15 =>
  joinK (fun (y16 : Option Addr) (out17 : Option Addr) (h18 : AHeap) =>
  (out17).bind fun p20 =>
  (ldA 3 p20 h18).bind fun l21 =>
  (decC [.i .i64, .i .i64, .l] l21).bind fun x22 =>
  (y16).bind fun p23 =>
  (stL 3 p23 ([.int .i64 x22.1, .int .i64 x22.2.1, .slice x22.2.2.a x22.2.2.len x22.2.2.cap]) h18).bind fun h24 =>
  (y16).bind fun p25 =>
  (ldA 3 p25 h24).bind fun l26 =>
  (decC [.i .i64, .i .i64, .l] l26).bind fun x27 =>
  some (((x27.1, x27.2.1, x27.2.2), 0), h24)) fun j19 =>
  ref04_Cauchy_l0 k D j19 kv2 m3 y4 (some (⟨r13.2.next, 0, none⟩ : Addr)) 0 h15)) fun j7 =>
  (if (decide (k_0 < 1)) = true then
  j7 k_0 m_1 (some (⟨h.next, 0, none⟩ : Addr)) true h1
  else
  (if (decide (m_1 < 0)) = true then
  j7 k_0 m_1 (some (⟨h.next, 0, none⟩ : Addr)) true h1
  else
  (if (decide (k_0 > 255)) = true then
  j7 k_0 m_1 (some (⟨h.next, 0, none⟩ : Addr)) true h1
  else
  j7 k_0 m_1 (some (⟨h.next, 0, none⟩ : Addr)) (decide (m_1 > (IntKind.wrap .i64 (255 - k_0)))) h1)))
def r_ref04_Cauchy : RCode := .seq (.region [⟨some 4, .a (.alloc 54 [.int .i64 0, .int .i64 0, .slice none 0 0]), none, none⟩,
  ⟨some 5, .p (.mv (.const (.int .i64 0))), none, none⟩])
  (.seq (.seq (.join [(0, .i .i64), (1, .i .i64), (4, .p), (24, .b)] (.region [⟨some 9, .p (.mv (.tmp 0)), none, none⟩,
  ⟨some 10, .p (.bin .lss (.tmp 9) (.const (.int .i64 1))), none, none⟩,
  ⟨some 11, .p (.mv (.tmp 10)), none, none⟩,
  ⟨some 12, .p (.mv (.tmp 1)), (some (11, false)), none⟩,
  ⟨some 13, .p (.bin .lss (.tmp 12) (.const (.int .i64 0))), (some (11, false)), none⟩,
  ⟨some 14, .p (.pick (.tmp 11) (.const (.bool true)) (.tmp 13)), none, none⟩,
  ⟨some 15, .p (.mv (.tmp 14)), none, none⟩,
  ⟨some 16, .p (.mv (.tmp 0)), (some (15, false)), none⟩,
  ⟨some 17, .p (.bin .gtr (.tmp 16) (.const (.int .i64 255))), (some (15, false)), none⟩,
  ⟨some 18, .p (.pick (.tmp 15) (.const (.bool true)) (.tmp 17)), none, none⟩,
  ⟨some 19, .p (.mv (.tmp 18)), none, none⟩,
  ⟨some 20, .p (.mv (.tmp 1)), (some (19, false)), none⟩,
  ⟨some 21, .p (.mv (.tmp 0)), (some (19, false)), none⟩,
  ⟨some 22, .p (.bin .sub (.const (.int .i64 255)) (.tmp 21)), (some (19, false)), none⟩,
  ⟨some 23, .p (.bin .gtr (.tmp 20) (.tmp 22)), (some (19, false)), none⟩,
  ⟨some 24, .p (.pick (.tmp 19) (.const (.bool true)) (.tmp 23)), none, none⟩]))
  (.cond (.tmp 24) (.seq (.region [⟨some 25, .p (.build [.int .i64 0, .int .i64 0, .slice none 0 0] []), none, none⟩,
  ⟨none, .e (.store (some 3) (.tmp 4) (.tmp 25)), none, none⟩,
  ⟨some 5, .p (.mv (.const (.int .i64 1))), none, none⟩])
  (.ret)) (.skip)))
  (.seq (.region [⟨some 26, .p (.mv (.tmp 0)), none, none⟩,
  ⟨some 27, .p (.mv (.tmp 1)), none, none⟩,
  ⟨some 28, .p (.bin .add (.tmp 26) (.tmp 27)), none, none⟩,
  ⟨some 29, .p (.mv (.tmp 0)), none, none⟩,
  ⟨some 30, .e (.call (.func 67) [.tmp 28, .tmp 29]), none, none⟩,
  ⟨some 6, .a (.alloc 54 [.int .i64 0, .int .i64 0, .slice none 0 0]), none, none⟩,
  ⟨none, .e (.store (some 3) (.tmp 6) (.tmp 30)), none, none⟩])
  (.seq (.join [(4, .p), (6, .p)] (.seq (.region [⟨some 7, .p (.mv (.const (.int .i64 0))), none, none⟩])
  (.block 0 (.loop [(0, .i .i64), (1, .i .i64), (4, .p), (6, .p), (7, .i .i64)] (.seq (.seq (.region [⟨some 31, .p (.mv (.tmp 7)), none, none⟩,
  ⟨some 32, .p (.mv (.tmp 0)), none, none⟩,
  ⟨some 33, .p (.bin .lss (.tmp 31) (.tmp 32)), none, none⟩])
  (.cond (.tmp 33) (.skip) (.exit 0)))
  (.seq (.join [(0, .i .i64), (1, .i .i64), (4, .p), (6, .p), (7, .i .i64)] (.block 1 (.seq (.region [⟨some 36, .p (.fieldAddr 2 (.tmp 6)), none, none⟩,
  ⟨some 37, .l (.load (.l) (.tmp 36)), none, none⟩,
  ⟨some 38, .p (.mv (.tmp 7)), none, none⟩,
  ⟨some 39, .p (.mv (.tmp 0)), none, none⟩,
  ⟨some 40, .p (.bin .mul (.tmp 38) (.tmp 39)), none, none⟩,
  ⟨some 41, .p (.mv (.tmp 7)), none, none⟩,
  ⟨some 42, .p (.bin .add (.tmp 40) (.tmp 41)), none, none⟩,
  ⟨some 43, .p (.idxL 1 (.tmp 37) (.tmp 42)), none, none⟩,
  ⟨none, .e (.store none (.tmp 43) (.const (.int .i64 1))), none, none⟩])
  (.seq (.region [⟨some 8, .p (.mv (.const (.int .i64 0))), none, none⟩])
  (.block 2 (.loop [(0, .i .i64), (1, .i .i64), (4, .p), (6, .p), (7, .i .i64), (8, .i .i64)] (.seq (.seq (.region [⟨some 44, .p (.mv (.tmp 8)), none, none⟩,
  ⟨some 45, .p (.mv (.tmp 1)), none, none⟩,
  ⟨some 46, .p (.bin .lss (.tmp 44) (.tmp 45)), none, none⟩])
  (.cond (.tmp 46) (.skip) (.exit 2)))
  (.seq (.block 3 (.draw [⟨9, ⟨some 58, .p (.mv (.tmp 0)), none, none⟩, [0], 0⟩,
  ⟨10, ⟨some 59, .p (.mv (.tmp 8)), none, none⟩, [8], 0⟩,
  ⟨11, ⟨some 60, .p (.bin .add (.tmp 58) (.tmp 59)), none, none⟩, [58, 59], 0⟩,
  ⟨12, ⟨some 61, .p (.mv (.tmp 7)), none, none⟩, [7], 0⟩,
  ⟨13, ⟨some 62, .p (.bin .xor (.tmp 60) (.tmp 61)), none, none⟩, [60, 61], 0⟩,
  ⟨14, ⟨some 63, .e (.call (.func 62) [.const (.int .i64 1), .tmp 62]), none, none⟩, [62], 0⟩,
  ⟨0, ⟨some 49, .p (.fieldAddr 2 (.tmp 6)), none, none⟩, [6], 1⟩,
  ⟨1, ⟨some 50, .l (.load (.l) (.tmp 49)), none, none⟩, [49], 1⟩,
  ⟨2, ⟨some 51, .p (.mv (.tmp 0)), none, none⟩, [0], 1⟩,
  ⟨3, ⟨some 52, .p (.mv (.tmp 8)), none, none⟩, [8], 1⟩,
  ⟨4, ⟨some 53, .p (.bin .add (.tmp 51) (.tmp 52)), none, none⟩, [51, 52], 1⟩,
  ⟨5, ⟨some 54, .p (.mv (.tmp 0)), none, none⟩, [0], 1⟩,
  ⟨6, ⟨some 55, .p (.bin .mul (.tmp 53) (.tmp 54)), none, none⟩, [53, 54], 1⟩,
  ⟨7, ⟨some 56, .p (.mv (.tmp 7)), none, none⟩, [7], 1⟩,
  ⟨8, ⟨some 57, .p (.bin .add (.tmp 55) (.tmp 56)), none, none⟩, [55, 56], 1⟩,
  ⟨15, ⟨some 64, .p (.idxL 1 (.tmp 50) (.tmp 57)), none, none⟩, [50, 57], 0⟩,
  ⟨16, ⟨none, .e (.store none (.tmp 64) (.tmp 63)), none, none⟩, [64, 63], 0⟩]))
  (.region [⟨some 47, .p (.mv (.tmp 8)), none, none⟩,
  ⟨some 48, .p (.bin .add (.tmp 47) (.const (.int .i64 1))), none, none⟩,
  ⟨some 8, .p (.mv (.tmp 48)), none, none⟩])))))))))
  (.region [⟨some 34, .p (.mv (.tmp 7)), none, none⟩,
  ⟨some 35, .p (.bin .add (.tmp 34) (.const (.int .i64 1))), none, none⟩,
  ⟨some 7, .p (.mv (.tmp 35)), none, none⟩])))))))
  (.seq (.region [⟨some 65, .l (.load (.agg 3) (.tmp 6)), none, some (.st [.i .i64, .i .i64, .l])⟩,
  ⟨none, .e (.store (some 3) (.tmp 4) (.tmp 65)), none, none⟩,
  ⟨some 5, .p (.mv (.const (.int .i64 0))), none, none⟩])
  (.ret)))))
noncomputable def e_ref04_Cauchy (k : Nat) (D : CallF) : Ent := entOf 37 [(0, .i .i64), (1, .i .i64)] [(4, .st [.i .i64, .i .i64, .l]), (5, .i .i64)] (ref04_Cauchy k D)
theorem q_ref04_Cauchy : (Try.f37.body).bind (rcodeOf Try.prog 0 Try.f37.ntmps) = some (strip r_ref04_Cauchy) := by kernel_rfl
theorem t_ref04_Cauchy (k : Nat) (D : CallF) : curF [(0, .i .i64), (1, .i .i64)] (fun args h => denF (C_ref04_Cauchy k D) k r_ref04_Cauchy [(4, .st [.i .i64, .i .i64, .l]), (5, .i .i64)] [some (.agg 3), none] args h) = ref04_Cauchy k D := by kernel_rfl
theorem ok_ref04_Cauchy {D : CallF} (hD : CSound Try.prog 0 D) (k : Nat) : EntOk Try.prog 0 (e_ref04_Cauchy k D) :=
  entOf_ok2 (mkC_sound hD (EntsOk.more (ok_ref04_zero hD k) (EntsOk.more (ok_ref03_Over hD k) (EntsOk.none)))) Try.func37 rfl q_ref04_Cauchy rfl (t_ref04_Cauchy k D)
end Gy

namespace Gy
open Go Gx Go.Proofs
set_option maxRecDepth 100000

noncomputable def C_matrix_One (k : Nat) (D : CallF) : CallF := mkC D [e_matrix_blank k D, e_matrix_M_row k D]
noncomputable def matrix_One_l0b (k : Nat) (D : CallF) (j18 : (Option Addr) → (Option Addr) → AHeap → Option (((Int × Int × Slc) × Int) × AHeap)) (rec32 : (Option Addr) → (Option Addr) → Int → Int → AHeap → Option (((Int × Int × Slc) × Int) × AHeap)) (y27 : Option Addr) (out28 : Option Addr) (y29 : Int) (y30 : Int) (h31 : AHeap) : Option (((Int × Int × Slc) × Int) × AHeap) :=
  (if (decide (y30 < y29)) = true then
  (out28).bind fun p33 =>
  (ldA 3 p33 h31).bind fun l34 =>
  (decC [.i .i64, .i .i64, .l] l34).bind fun x35 =>
  (matrix_M_row k D (x35.1, x35.2.1, x35.2.2) y30 h31).bind fun r36 =>
  (Gx.idxL 1 r36.1 y30).bind fun q37 =>
  (st1 q37 (.int .i64 1) r36.2).bind fun h38 =>
  rec32 y27 out28 y29 (IntKind.wrap .i64 (y30 + 1)) h38
  else
  j18 y27 out28 h31)
noncomputable def matrix_One_l0 (k : Nat) (D : CallF) (j18 : (Option Addr) → (Option Addr) → AHeap → Option (((Int × Int × Slc) × Int) × AHeap)) : (Option Addr) → (Option Addr) → Int → Int → AHeap → Option (((Int × Int × Slc) × Int) × AHeap) :=
  iterK (α := (Option Addr) → (Option Addr) → Int → Int → AHeap → Option (((Int × Int × Slc) × Int) × AHeap)) (fun _ _ _ _ _ => none) k (matrix_One_l0b k D j18)
noncomputable def matrix_One (k : Nat) (D : CallF) (n_0 : Int) (h : AHeap) : Option (((Int × Int × Slc) × Int) × AHeap) :=
  let h1 := AHeap.new h (.cells [.int .i64 0, .int .i64 0, .slice none 0 0] 51 true 0)
  joinK (fun (n2 : Int) (y3 : Option Addr) (y4 : Bool) (h5 : AHeap) =>
  (if y4 = true then
  (y3).bind fun p7 =>
  (stL 3 p7 ([.int .i64 0, .int .i64 0, .slice none 0 0]) h5).bind fun h8 =>
  (y3).bind fun p9 =>
  (ldA 3 p9 h8).bind fun l10 =>
  (decC [.i .i64, .i .i64, .l] l10).bind fun x11 =>
  some (((x11.1, x11.2.1, x11.2.2), 1), h8)
  else
  (matrix_blank k D n2 n2 h5).bind fun r12 =>
  let h13 := AHeap.new r12.2 (.cells [.int .i64 0, .int .i64 0, .slice none 0 0] 51 true 0)
  (stL 3 (⟨r12.2.next, 0, none⟩ : Addr) ([.int .i64 r12.1.1, .int .i64 r12.1.2.1, .slice r12.1.2.2.a r12.1.2.2.len r12.1.2.2.cap]) h13).bind fun h14 =>
  joinK (fun (y15 : Option Addr) (out16 : Option Addr) (h17 : AHeap) =>
  (out16).bind fun p19 =>
  (ldA 3 p19 h17).bind fun l20 =>
  (decC [.i .i64, .i .i64, .l] l20).bind fun x21 =>
  (y15).bind fun p22 =>
  (stL 3 p22 ([.int .i64 x21.1, .int .i64 x21.2.1, .slice x21.2.2.a x21.2.2.len x21.2.2.cap]) h17).bind fun h23 =>
  (y15).bind fun p24 =>
  (ldA 3 p24 h23).bind fun l25 =>
  (decC [.i .i64, .i .i64, .l] l25).bind fun x26 =>
  some (((x26.1, x26.2.1, x26.2.2), 0), h23)) fun j18 =>
  matrix_One_l0 k D j18 y3 (some (⟨r12.2.next, 0, none⟩ : Addr)) n2 0 h14)) fun j6 =>
  (if (decide (n_0 < 1)) = true then
  j6 n_0 (some (⟨h.next, 0, none⟩ : Addr)) true h1
  else
  j6 n_0 (some (⟨h.next, 0, none⟩ : Addr)) (decide (n_0 > 255)) h1)
def r_matrix_One : RCode := .seq (.region [⟨some 2, .a (.alloc 51 [.int .i64 0, .int .i64 0, .slice none 0 0]), none, none⟩,
  ⟨some 3, .p (.mv (.const (.int .i64 0))), none, none⟩])
  (.seq (.seq (.join [(0, .i .i64), (2, .p), (11, .b)] (.region [⟨some 6, .p (.mv (.tmp 0)), none, none⟩,
  ⟨some 7, .p (.bin .lss (.tmp 6) (.const (.int .i64 1))), none, none⟩,
  ⟨some 8, .p (.mv (.tmp 7)), none, none⟩,
  ⟨some 9, .p (.mv (.tmp 0)), (some (8, false)), none⟩,
  ⟨some 10, .p (.bin .gtr (.tmp 9) (.const (.int .i64 255))), (some (8, false)), none⟩,
  ⟨some 11, .p (.pick (.tmp 8) (.const (.bool true)) (.tmp 10)), none, none⟩]))
  (.cond (.tmp 11) (.seq (.region [⟨some 12, .p (.build [.int .i64 0, .int .i64 0, .slice none 0 0] []), none, none⟩,
  ⟨none, .e (.store (some 3) (.tmp 2) (.tmp 12)), none, none⟩,
  ⟨some 3, .p (.mv (.const (.int .i64 1))), none, none⟩])
  (.ret)) (.skip)))
  (.seq (.region [⟨some 13, .p (.mv (.tmp 0)), none, none⟩,
  ⟨some 14, .p (.mv (.tmp 0)), none, none⟩,
  ⟨some 15, .e (.call (.func 65) [.tmp 13, .tmp 14]), none, none⟩,
  ⟨some 4, .a (.alloc 51 [.int .i64 0, .int .i64 0, .slice none 0 0]), none, none⟩,
  ⟨none, .e (.store (some 3) (.tmp 4) (.tmp 15)), none, none⟩])
  (.seq (.join [(2, .p), (4, .p)] (.seq (.region [⟨some 16, .p (.mv (.tmp 0)), none, none⟩,
  ⟨some 17, .p (.mv (.const (.int .i64 0))), none, none⟩])
  (.block 0 (.loop [(2, .p), (4, .p), (16, .i .i64), (17, .i .i64)] (.seq (.region [⟨some 18, .p (.bin .lss (.tmp 17) (.tmp 16)), none, none⟩])
  (.seq (.cond (.tmp 18) (.skip) (.exit 0))
  (.seq (.block 1 (.seq (.region [⟨some 19, .p (.mv (.tmp 17)), none, none⟩,
  ⟨some 5, .p (.mv (.tmp 19)), none, none⟩])
  (.region [⟨some 20, .l (.load (.agg 3) (.tmp 4)), none, some (.st [.i .i64, .i .i64, .l])⟩,
  ⟨some 21, .p (.mv (.tmp 5)), none, none⟩,
  ⟨some 22, .e (.call (.func 66) [.tmp 20, .tmp 21]), none, none⟩,
  ⟨some 23, .p (.mv (.tmp 5)), none, none⟩,
  ⟨some 24, .p (.idxL 1 (.tmp 22) (.tmp 23)), none, none⟩,
  ⟨none, .e (.store none (.tmp 24) (.const (.int .i64 1))), none, none⟩])))
  (.region [⟨some 25, .p (.bin .add (.tmp 17) (.const (.int .i64 1))), none, none⟩,
  ⟨some 17, .p (.mv (.tmp 25)), none, none⟩]))))))))
  (.seq (.region [⟨some 26, .l (.load (.agg 3) (.tmp 4)), none, some (.st [.i .i64, .i .i64, .l])⟩,
  ⟨none, .e (.store (some 3) (.tmp 2) (.tmp 26)), none, none⟩,
  ⟨some 3, .p (.mv (.const (.int .i64 0))), none, none⟩])
  (.ret)))))
noncomputable def e_matrix_One (k : Nat) (D : CallF) : Ent := entOf 38 [(0, .i .i64)] [(2, .st [.i .i64, .i .i64, .l]), (3, .i .i64)] (matrix_One k D)
theorem q_matrix_One : (Try.f38.body).bind (rcodeOf Try.prog 0 Try.f38.ntmps) = some (strip r_matrix_One) := by kernel_rfl
theorem t_matrix_One (k : Nat) (D : CallF) : curF [(0, .i .i64)] (fun args h => denF (C_matrix_One k D) k r_matrix_One [(2, .st [.i .i64, .i .i64, .l]), (3, .i .i64)] [some (.agg 3), none] args h) = matrix_One k D := by kernel_rfl
theorem ok_matrix_One {D : CallF} (hD : CSound Try.prog 0 D) (k : Nat) : EntOk Try.prog 0 (e_matrix_One k D) :=
  entOf_ok2 (mkC_sound hD (EntsOk.more (ok_matrix_blank hD k) (EntsOk.more (ok_matrix_M_row hD k) (EntsOk.none)))) Try.func38 rfl q_matrix_One rfl (t_matrix_One k D)
end Gy

namespace Gy
open Go Gx Go.Proofs
set_option maxRecDepth 100000

noncomputable def C_ref04_One (k : Nat) (D : CallF) : CallF := mkC D [e_ref04_zero k D]
noncomputable def ref04_One_l0b (_k : Nat) (_D : CallF) (j18 : (Option Addr) → (Option Addr) → AHeap → Option (((Int × Int × Slc) × Int) × AHeap)) (rec32 : Int → (Option Addr) → (Option Addr) → Int → AHeap → Option (((Int × Int × Slc) × Int) × AHeap)) (n27 : Int) (y28 : Option Addr) (a29 : Option Addr) (i30 : Int) (h31 : AHeap) : Option (((Int × Int × Slc) × Int) × AHeap) :=
  (if (decide (i30 < n27)) = true then
  (a29).bind fun p33 =>
  (ldL (⟨p33.block, p33.off + 2, none⟩ : Addr) h31).bind fun x34 =>
  (Gx.idxL 1 x34 (IntKind.wrap .i64 ((IntKind.wrap .i64 (i30 * n27)) + i30))).bind fun q35 =>
  (st1 q35 (.int .i64 1) h31).bind fun h36 =>
  rec32 n27 y28 a29 (IntKind.wrap .i64 (i30 + 1)) h36
  else
  j18 y28 a29 h31)
noncomputable def ref04_One_l0 (k : Nat) (D : CallF) (j18 : (Option Addr) → (Option Addr) → AHeap → Option (((Int × Int × Slc) × Int) × AHeap)) : Int → (Option Addr) → (Option Addr) → Int → AHeap → Option (((Int × Int × Slc) × Int) × AHeap) :=
  iterK (α := Int → (Option Addr) → (Option Addr) → Int → AHeap → Option (((Int × Int × Slc) × Int) × AHeap)) (fun _ _ _ _ _ => none) k (ref04_One_l0b k D j18)
noncomputable def ref04_One (k : Nat) (D : CallF) (n_0 : Int) (h : AHeap) : Option (((Int × Int × Slc) × Int) × AHeap) :=
  let h1 := AHeap.new h (.cells [.int .i64 0, .int .i64 0, .slice none 0 0] 54 true 0)
  joinK (fun (n2 : Int) (y3 : Option Addr) (y4 : Bool) (h5 : AHeap) =>
  (if y4 = true then
  (y3).bind fun p7 =>
  (stL 3 p7 ([.int .i64 0, .int .i64 0, .slice none 0 0]) h5).bind fun h8 =>
  (y3).bind fun p9 =>
  (ldA 3 p9 h8).bind fun l10 =>
  (decC [.i .i64, .i .i64, .l] l10).bind fun x11 =>
  some (((x11.1, x11.2.1, x11.2.2), 1), h8)
  else
  (ref04_zero k D n2 n2 h5).bind fun r12 =>
  let h13 := AHeap.new r12.2 (.cells [.int .i64 0, .int .i64 0, .slice none 0 0] 54 true 0)
  (stL 3 (⟨r12.2.next, 0, none⟩ : Addr) ([.int .i64 r12.1.1, .int .i64 r12.1.2.1, .slice r12.1.2.2.a r12.1.2.2.len r12.1.2.2.cap]) h13).bind fun h14 =>
  joinK (fun (y15 : Option Addr) (a16 : Option Addr) (h17 : AHeap) =>
  (a16).bind fun p19 =>
  (ldA 3 p19 h17).bind fun l20 =>
  (decC [.i .i64, .i .i64, .l] l20).bind fun x21 =>
  (y15).bind fun p22 =>
  (stL 3 p22 ([.int .i64 x21.1, .int .i64 x21.2.1, .slice x21.2.2.a x21.2.2.len x21.2.2.cap]) h17).bind fun h23 =>
  (y15).bind fun p24 =>
  (ldA 3 p24 h23).bind fun l25 =>
  (decC [.i .i64, .i .i64, .l] l25).bind fun x26 =>
  some (((x26.1, x26.2.1, x26.2.2), 0), h23)) fun j18 =>
  ref04_One_l0 k D j18 n2 y3 (some (⟨r12.2.next, 0, none⟩ : Addr)) 0 h14)) fun j6 =>
  (if (decide (n_0 < 1)) = true then
  j6 n_0 (some (⟨h.next, 0, none⟩ : Addr)) true h1
  else
  j6 n_0 (some (⟨h.next, 0, none⟩ : Addr)) (decide (n_0 > 255)) h1)
def r_ref04_One : RCode := .seq (.region [⟨some 2, .a (.alloc 54 [.int .i64 0, .int .i64 0, .slice none 0 0]), none, none⟩,
  ⟨some 3, .p (.mv (.const (.int .i64 0))), none, none⟩])
  (.seq (.seq (.join [(0, .i .i64), (2, .p), (11, .b)] (.region [⟨some 6, .p (.mv (.tmp 0)), none, none⟩,
  ⟨some 7, .p (.bin .lss (.tmp 6) (.const (.int .i64 1))), none, none⟩,
  ⟨some 8, .p (.mv (.tmp 7)), none, none⟩,
  ⟨some 9, .p (.mv (.tmp 0)), (some (8, false)), none⟩,
  ⟨some 10, .p (.bin .gtr (.tmp 9) (.const (.int .i64 255))), (some (8, false)), none⟩,
  ⟨some 11, .p (.pick (.tmp 8) (.const (.bool true)) (.tmp 10)), none, none⟩]))
  (.cond (.tmp 11) (.seq (.region [⟨some 12, .p (.build [.int .i64 0, .int .i64 0, .slice none 0 0] []), none, none⟩,
  ⟨none, .e (.store (some 3) (.tmp 2) (.tmp 12)), none, none⟩,
  ⟨some 3, .p (.mv (.const (.int .i64 1))), none, none⟩])
  (.ret)) (.skip)))
  (.seq (.region [⟨some 13, .p (.mv (.tmp 0)), none, none⟩,
  ⟨some 14, .p (.mv (.tmp 0)), none, none⟩,
  ⟨some 15, .e (.call (.func 67) [.tmp 13, .tmp 14]), none, none⟩,
  ⟨some 4, .a (.alloc 54 [.int .i64 0, .int .i64 0, .slice none 0 0]), none, none⟩,
  ⟨none, .e (.store (some 3) (.tmp 4) (.tmp 15)), none, none⟩])
  (.seq (.join [(2, .p), (4, .p)] (.seq (.region [⟨some 5, .p (.mv (.const (.int .i64 0))), none, none⟩])
  (.block 0 (.loop [(0, .i .i64), (2, .p), (4, .p), (5, .i .i64)] (.seq (.seq (.region [⟨some 16, .p (.mv (.tmp 5)), none, none⟩,
  ⟨some 17, .p (.mv (.tmp 0)), none, none⟩,
  ⟨some 18, .p (.bin .lss (.tmp 16) (.tmp 17)), none, none⟩])
  (.cond (.tmp 18) (.skip) (.exit 0)))
  (.seq (.block 1 (.region [⟨some 21, .p (.fieldAddr 2 (.tmp 4)), none, none⟩,
  ⟨some 22, .l (.load (.l) (.tmp 21)), none, none⟩,
  ⟨some 23, .p (.mv (.tmp 5)), none, none⟩,
  ⟨some 24, .p (.mv (.tmp 0)), none, none⟩,
  ⟨some 25, .p (.bin .mul (.tmp 23) (.tmp 24)), none, none⟩,
  ⟨some 26, .p (.mv (.tmp 5)), none, none⟩,
  ⟨some 27, .p (.bin .add (.tmp 25) (.tmp 26)), none, none⟩,
  ⟨some 28, .p (.idxL 1 (.tmp 22) (.tmp 27)), none, none⟩,
  ⟨none, .e (.store none (.tmp 28) (.const (.int .i64 1))), none, none⟩]))
  (.region [⟨some 19, .p (.mv (.tmp 5)), none, none⟩,
  ⟨some 20, .p (.bin .add (.tmp 19) (.const (.int .i64 1))), none, none⟩,
  ⟨some 5, .p (.mv (.tmp 20)), none, none⟩])))))))
  (.seq (.region [⟨some 29, .l (.load (.agg 3) (.tmp 4)), none, some (.st [.i .i64, .i .i64, .l])⟩,
  ⟨none, .e (.store (some 3) (.tmp 2) (.tmp 29)), none, none⟩,
  ⟨some 3, .p (.mv (.const (.int .i64 0))), none, none⟩])
  (.ret)))))
noncomputable def e_ref04_One (k : Nat) (D : CallF) : Ent := entOf 39 [(0, .i .i64)] [(2, .st [.i .i64, .i .i64, .l]), (3, .i .i64)] (ref04_One k D)
theorem q_ref04_One : (Try.f39.body).bind (rcodeOf Try.prog 0 Try.f39.ntmps) = some (strip r_ref04_One) := by kernel_rfl
theorem t_ref04_One (k : Nat) (D : CallF) : curF [(0, .i .i64)] (fun args h => denF (C_ref04_One k D) k r_ref04_One [(2, .st [.i .i64, .i .i64, .l]), (3, .i .i64)] [some (.agg 3), none] args h) = ref04_One k D := by kernel_rfl
theorem ok_ref04_One {D : CallF} (hD : CSound Try.prog 0 D) (k : Nat) : EntOk Try.prog 0 (e_ref04_One k D) :=
  entOf_ok2 (mkC_sound hD (EntsOk.more (ok_ref04_zero hD k) (EntsOk.none))) Try.func39 rfl q_ref04_One rfl (t_ref04_One k D)
end Gy

namespace Gy
open Go Gx Go.Proofs
set_option maxRecDepth 100000

noncomputable def C_law04_same (k : Nat) (D : CallF) : CallF := mkC D [e_book_SameInts k D]
noncomputable def law04_same (k : Nat) (D : CallF) (a_0 : Int × Int × Slc) (b_1 : Int × Int × Slc) (h : AHeap) : Option ((Bool) × AHeap) :=
  let h1 := AHeap.new h (.cells [.int .i64 a_0.1, .int .i64 a_0.2.1, .slice a_0.2.2.a a_0.2.2.len a_0.2.2.cap] 51 true 0)
  let h2 := AHeap.new h1 (.cells [.int .i64 b_1.1, .int .i64 b_1.2.1, .slice b_1.2.2.a b_1.2.2.len b_1.2.2.cap] 54 true 0)
  (ldI .i64 (⟨h.next, 0, none⟩ : Addr) h2).bind fun x3 =>
  (ldI .i64 (⟨h1.next, 0, none⟩ : Addr) h2).bind fun x4 =>
  (if (x3 == x4) = true then
  (ldI .i64 (⟨h.next, 1, none⟩ : Addr) h2).bind fun x5 =>
  (ldI .i64 (⟨h1.next, 1, none⟩ : Addr) h2).bind fun x6 =>
  (if (x5 == x6) = true then
  (ldL (⟨h.next, 2, none⟩ : Addr) h2).bind fun x7 =>
  (ldL (⟨h1.next, 2, none⟩ : Addr) h2).bind fun x8 =>
  (book_SameInts k D x7 x8 h2).bind fun r9 =>
  some (r9.1, r9.2)
  else
  some (false, h2))
  else
  some (false, h2))
def r_law04_same : RCode := .seq (.region [⟨some 2, .a (.box 51 (.tmp 0)), none, none⟩,
  ⟨some 3, .a (.box 54 (.tmp 1)), none, none⟩,
  ⟨some 4, .p (.mv (.const (.bool false))), none, none⟩])
  (.seq (.region [⟨some 5, .p (.fieldAddr 0 (.tmp 2)), none, none⟩,
  ⟨some 6, .l (.load (.i .i64) (.tmp 5)), none, none⟩,
  ⟨some 7, .p (.fieldAddr 0 (.tmp 3)), none, none⟩,
  ⟨some 8, .l (.load (.i .i64) (.tmp 7)), none, none⟩,
  ⟨some 9, .p (.bin .eql (.tmp 6) (.tmp 8)), none, none⟩,
  ⟨some 10, .p (.mv (.tmp 9)), none, none⟩,
  ⟨some 11, .p (.fieldAddr 1 (.tmp 2)), (some (10, true)), none⟩,
  ⟨some 12, .l (.load (.i .i64) (.tmp 11)), (some (10, true)), none⟩,
  ⟨some 13, .p (.fieldAddr 1 (.tmp 3)), (some (10, true)), none⟩,
  ⟨some 14, .l (.load (.i .i64) (.tmp 13)), (some (10, true)), none⟩,
  ⟨some 15, .p (.bin .eql (.tmp 12) (.tmp 14)), (some (10, true)), none⟩,
  ⟨some 16, .p (.pick (.tmp 10) (.tmp 15) (.const (.bool false))), none, none⟩,
  ⟨some 17, .p (.mv (.tmp 16)), none, none⟩,
  ⟨some 18, .p (.fieldAddr 2 (.tmp 2)), (some (17, true)), none⟩,
  ⟨some 19, .l (.load (.l) (.tmp 18)), (some (17, true)), none⟩,
  ⟨some 20, .p (.fieldAddr 2 (.tmp 3)), (some (17, true)), none⟩,
  ⟨some 21, .l (.load (.l) (.tmp 20)), (some (17, true)), none⟩,
  ⟨some 22, .e (.call (.func 29) [.tmp 19, .tmp 21]), (some (17, true)), none⟩,
  ⟨some 23, .p (.pick (.tmp 17) (.tmp 22) (.const (.bool false))), none, none⟩,
  ⟨some 4, .p (.mv (.tmp 23)), none, none⟩])
  (.ret))
noncomputable def e_law04_same (k : Nat) (D : CallF) : Ent := entOf 40 [(0, .st [.i .i64, .i .i64, .l]), (1, .st [.i .i64, .i .i64, .l])] [(4, .b)] (law04_same k D)
theorem q_law04_same : (Try.f40.body).bind (rcodeOf Try.prog 0 Try.f40.ntmps) = some (strip r_law04_same) := by kernel_rfl
theorem t_law04_same (k : Nat) (D : CallF) : curF [(0, .st [.i .i64, .i .i64, .l]), (1, .st [.i .i64, .i .i64, .l])] (fun args h => denF (C_law04_same k D) k r_law04_same [(4, .b)] [none] args h) = law04_same k D := by kernel_rfl
theorem ok_law04_same {D : CallF} (hD : CSound Try.prog 0 D) (k : Nat) : EntOk Try.prog 0 (e_law04_same k D) :=
  entOf_ok2 (mkC_sound hD (EntsOk.more (ok_book_SameInts hD k) (EntsOk.none))) Try.func40 rfl q_law04_same rfl (t_law04_same k D)
end Gy

namespace Gy
open Go Gx Go.Proofs
set_option maxRecDepth 100000

noncomputable def C_law04_MatrixMakes (k : Nat) (D : CallF) : CallF := mkC D [e_matrix_New k D, e_matrix_Space_Cauchy k D, e_ref04_Cauchy k D, e_matrix_One k D, e_ref04_One k D, e_law04_same k D, e_law04_works k D]
noncomputable def law04_MatrixMakes (k : Nat) (D : CallF) (k_0 : Int) (m_1 : Int) (h : AHeap) : Option ((Bool) × AHeap) :=
  (matrix_New k D h).bind fun r1 =>
  joinK (fun (kv2 : Int) (m3 : Int) (s4 : Option Addr) (y5 : Bool) (h6 : AHeap) =>
  (if y5 = true then
  some (false, h6)
  else
  joinK (fun (kv8 : Int) (m9 : Int) (s10 : Option Addr) (y11 : Bool) (h12 : AHeap) =>
  (if y11 = true then
  some (true, h12)
  else
  (matrix_Space_Cauchy k D s10 kv8 m9 h12).bind fun r14 =>
  let h15 := AHeap.new r14.2 (.cells [.int .i64 0, .int .i64 0, .slice none 0 0] 51 true 0)
  (stL 3 (⟨r14.2.next, 0, none⟩ : Addr) ([.int .i64 r14.1.1.1, .int .i64 r14.1.1.2.1, .slice r14.1.1.2.2.a r14.1.1.2.2.len r14.1.1.2.2.cap]) h15).bind fun h16 =>
  (ref04_Cauchy k D kv8 m9 h16).bind fun r17 =>
  let h18 := AHeap.new r17.2 (.cells [.int .i64 0, .int .i64 0, .slice none 0 0] 54 true 0)
  (stL 3 (⟨r17.2.next, 0, none⟩ : Addr) ([.int .i64 r17.1.1.1, .int .i64 r17.1.1.2.1, .slice r17.1.1.2.2.a r17.1.1.2.2.len r17.1.1.2.2.cap]) h18).bind fun h19 =>
  (matrix_One k D kv8 h19).bind fun r20 =>
  let h21 := AHeap.new r20.2 (.cells [.int .i64 0, .int .i64 0, .slice none 0 0] 51 true 0)
  (stL 3 (⟨r20.2.next, 0, none⟩ : Addr) ([.int .i64 r20.1.1.1, .int .i64 r20.1.1.2.1, .slice r20.1.1.2.2.a r20.1.1.2.2.len r20.1.1.2.2.cap]) h21).bind fun h22 =>
  (ref04_One k D kv8 h22).bind fun r23 =>
  let h24 := AHeap.new r23.2 (.cells [.int .i64 0, .int .i64 0, .slice none 0 0] 54 true 0)
  (stL 3 (⟨r23.2.next, 0, none⟩ : Addr) ([.int .i64 r23.1.1.1, .int .i64 r23.1.1.2.1, .slice r23.1.1.2.2.a r23.1.1.2.2.len r23.1.1.2.2.cap]) h24).bind fun h25 =>
  (ldA 3 (⟨r14.2.next, 0, none⟩ : Addr) h25).bind fun l26 =>
  (decC [.i .i64, .i .i64, .l] l26).bind fun x27 =>
  (ldA 3 (⟨r17.2.next, 0, none⟩ : Addr) h25).bind fun l28 =>
  (decC [.i .i64, .i .i64, .l] l28).bind fun x29 =>
  (law04_same k D (x27.1, x27.2.1, x27.2.2) (x29.1, x29.2.1, x29.2.2) h25).bind fun r30 =>
  (if r30.1 = true then
  (if (r14.1.2 == r17.1.2) = true then
  (ldA 3 (⟨r20.2.next, 0, none⟩ : Addr) r30.2).bind fun l31 =>
  (decC [.i .i64, .i .i64, .l] l31).bind fun x32 =>
  (ldA 3 (⟨r23.2.next, 0, none⟩ : Addr) r30.2).bind fun l33 =>
  (decC [.i .i64, .i .i64, .l] l33).bind fun x34 =>
  (law04_same k D (x32.1, x32.2.1, x32.2.2) (x34.1, x34.2.1, x34.2.2) r30.2).bind fun r35 =>
  (if r35.1 = true then
  some ((r20.1.2 == r23.1.2), r35.2)
  else
  some (false, r35.2))
  else
  some (false, r30.2))
  else
  some (false, r30.2)))) fun j13 =>
  (if (decide (kv2 > 40)) = true then
  (if (decide (kv2 ≤ 255)) = true then
  j13 kv2 m3 s4 true h6
  else
  (if (decide (m3 > 40)) = true then
  j13 kv2 m3 s4 (decide (m3 ≤ 255)) h6
  else
  j13 kv2 m3 s4 false h6))
  else
  (if (decide (m3 > 40)) = true then
  j13 kv2 m3 s4 (decide (m3 ≤ 255)) h6
  else
  j13 kv2 m3 s4 false h6)))) fun j7 =>
  (if r1.1.isNone = true then
  j7 k_0 m_1 r1.1 true r1.2
  else
  (law04_works k D r1.2).bind fun r36 =>
  j7 k_0 m_1 r1.1 (!r36.1) r36.2)
def r_law04_MatrixMakes : RCode := .seq (.region [⟨some 4, .p (.mv (.const (.bool false))), none, none⟩])
  (.seq (.region [⟨some 14, .e (.call (.func 34) []), none, none⟩,
  ⟨some 5, .p (.mv (.tmp 14)), none, none⟩])
  (.seq (.seq (.join [(0, .i .i64), (1, .i .i64), (5, .p), (20, .b)] (.region [⟨some 15, .p (.mv (.tmp 5)), none, none⟩,
  ⟨some 16, .p (.isNil .p false (.tmp 15)), none, none⟩,
  ⟨some 17, .p (.mv (.tmp 16)), none, none⟩,
  ⟨some 18, .e (.call (.func 35) []), (some (17, false)), none⟩,
  ⟨some 19, .p (.un .not (.tmp 18)), (some (17, false)), none⟩,
  ⟨some 20, .p (.pick (.tmp 17) (.const (.bool true)) (.tmp 19)), none, none⟩]))
  (.cond (.tmp 20) (.seq (.region [⟨some 4, .p (.mv (.const (.bool false))), none, none⟩])
  (.ret)) (.skip)))
  (.seq (.seq (.join [(0, .i .i64), (1, .i .i64), (5, .p), (34, .b)] (.region [⟨some 21, .p (.mv (.tmp 0)), none, none⟩,
  ⟨some 22, .p (.bin .gtr (.tmp 21) (.const (.int .i64 40))), none, none⟩,
  ⟨some 23, .p (.mv (.tmp 22)), none, none⟩,
  ⟨some 24, .p (.mv (.tmp 0)), (some (23, true)), none⟩,
  ⟨some 25, .p (.bin .leq (.tmp 24) (.const (.int .i64 255))), (some (23, true)), none⟩,
  ⟨some 26, .p (.pick (.tmp 23) (.tmp 25) (.const (.bool false))), none, none⟩,
  ⟨some 27, .p (.mv (.tmp 26)), none, none⟩,
  ⟨some 28, .p (.mv (.tmp 1)), (some (27, false)), none⟩,
  ⟨some 29, .p (.bin .gtr (.tmp 28) (.const (.int .i64 40))), (some (27, false)), none⟩,
  ⟨some 30, .p (.mv (.tmp 29)), (some (27, false)), none⟩,
  ⟨some 31, .p (.mv (.tmp 1)), (some (30, true)), none⟩,
  ⟨some 32, .p (.bin .leq (.tmp 31) (.const (.int .i64 255))), (some (30, true)), none⟩,
  ⟨some 33, .p (.pick (.tmp 30) (.tmp 32) (.const (.bool false))), (some (27, false)), none⟩,
  ⟨some 34, .p (.pick (.tmp 27) (.const (.bool true)) (.tmp 33)), none, none⟩]))
  (.cond (.tmp 34) (.seq (.region [⟨some 4, .p (.mv (.const (.bool true))), none, none⟩])
  (.ret)) (.skip)))
  (.seq (.region [⟨some 36, .p (.mv (.tmp 5)), none, none⟩,
  ⟨some 37, .p (.mv (.tmp 0)), none, none⟩,
  ⟨some 38, .p (.mv (.tmp 1)), none, none⟩,
  ⟨some 39, .e (.call (.func 36) [.tmp 36, .tmp 37, .tmp 38]), none, none⟩,
  ⟨some 35, .p (.mv (.tmp 39)), none, none⟩,
  ⟨some 40, .p (.extract (.tmp 35) 0), none, none⟩,
  ⟨some 41, .p (.extract (.tmp 35) 1), none, none⟩,
  ⟨some 6, .a (.alloc 51 [.int .i64 0, .int .i64 0, .slice none 0 0]), none, none⟩,
  ⟨none, .e (.store (some 3) (.tmp 6) (.tmp 40)), none, none⟩,
  ⟨some 7, .p (.mv (.tmp 41)), none, none⟩])
  (.seq (.region [⟨some 43, .p (.mv (.tmp 0)), none, none⟩,
  ⟨some 44, .p (.mv (.tmp 1)), none, none⟩,
  ⟨some 45, .e (.call (.func 37) [.tmp 43, .tmp 44]), none, none⟩,
  ⟨some 42, .p (.mv (.tmp 45)), none, none⟩,
  ⟨some 46, .p (.extract (.tmp 42) 0), none, none⟩,
  ⟨some 47, .p (.extract (.tmp 42) 1), none, none⟩,
  ⟨some 8, .a (.alloc 54 [.int .i64 0, .int .i64 0, .slice none 0 0]), none, none⟩,
  ⟨none, .e (.store (some 3) (.tmp 8) (.tmp 46)), none, none⟩,
  ⟨some 9, .p (.mv (.tmp 47)), none, none⟩])
  (.seq (.region [⟨some 49, .p (.mv (.tmp 0)), none, none⟩,
  ⟨some 50, .e (.call (.func 38) [.tmp 49]), none, none⟩,
  ⟨some 48, .p (.mv (.tmp 50)), none, none⟩,
  ⟨some 51, .p (.extract (.tmp 48) 0), none, none⟩,
  ⟨some 52, .p (.extract (.tmp 48) 1), none, none⟩,
  ⟨some 10, .a (.alloc 51 [.int .i64 0, .int .i64 0, .slice none 0 0]), none, none⟩,
  ⟨none, .e (.store (some 3) (.tmp 10) (.tmp 51)), none, none⟩,
  ⟨some 11, .p (.mv (.tmp 52)), none, none⟩])
  (.seq (.region [⟨some 54, .p (.mv (.tmp 0)), none, none⟩,
  ⟨some 55, .e (.call (.func 39) [.tmp 54]), none, none⟩,
  ⟨some 53, .p (.mv (.tmp 55)), none, none⟩,
  ⟨some 56, .p (.extract (.tmp 53) 0), none, none⟩,
  ⟨some 57, .p (.extract (.tmp 53) 1), none, none⟩,
  ⟨some 12, .a (.alloc 54 [.int .i64 0, .int .i64 0, .slice none 0 0]), none, none⟩,
  ⟨none, .e (.store (some 3) (.tmp 12) (.tmp 56)), none, none⟩,
  ⟨some 13, .p (.mv (.tmp 57)), none, none⟩])
  (.seq (.region [⟨some 58, .l (.load (.agg 3) (.tmp 6)), none, some (.st [.i .i64, .i .i64, .l])⟩,
  ⟨some 59, .l (.load (.agg 3) (.tmp 8)), none, some (.st [.i .i64, .i .i64, .l])⟩,
  ⟨some 60, .e (.call (.func 40) [.tmp 58, .tmp 59]), none, none⟩,
  ⟨some 61, .p (.mv (.tmp 60)), none, none⟩,
  ⟨some 62, .p (.mv (.tmp 7)), (some (61, true)), none⟩,
  ⟨some 63, .p (.mv (.tmp 9)), (some (61, true)), none⟩,
  ⟨some 64, .p (.bin .eql (.tmp 62) (.tmp 63)), (some (61, true)), none⟩,
  ⟨some 65, .p (.pick (.tmp 61) (.tmp 64) (.const (.bool false))), none, none⟩,
  ⟨some 66, .p (.mv (.tmp 65)), none, none⟩,
  ⟨some 67, .l (.load (.agg 3) (.tmp 10)), (some (66, true)), some (.st [.i .i64, .i .i64, .l])⟩,
  ⟨some 68, .l (.load (.agg 3) (.tmp 12)), (some (66, true)), some (.st [.i .i64, .i .i64, .l])⟩,
  ⟨some 69, .e (.call (.func 40) [.tmp 67, .tmp 68]), (some (66, true)), none⟩,
  ⟨some 70, .p (.pick (.tmp 66) (.tmp 69) (.const (.bool false))), none, none⟩,
  ⟨some 71, .p (.mv (.tmp 70)), none, none⟩,
  ⟨some 72, .p (.mv (.tmp 11)), (some (71, true)), none⟩,
  ⟨some 73, .p (.mv (.tmp 13)), (some (71, true)), none⟩,
  ⟨some 74, .p (.bin .eql (.tmp 72) (.tmp 73)), (some (71, true)), none⟩,
  ⟨some 75, .p (.pick (.tmp 71) (.tmp 74) (.const (.bool false))), none, none⟩,
  ⟨some 4, .p (.mv (.tmp 75)), none, none⟩])
  (.ret)))))))))
noncomputable def e_law04_MatrixMakes (k : Nat) (D : CallF) : Ent := entOf 8 [(0, .i .i64), (1, .i .i64)] [(4, .b)] (law04_MatrixMakes k D)
theorem q_law04_MatrixMakes : (Try.f8.body).bind (rcodeOf Try.prog 0 Try.f8.ntmps) = some (strip r_law04_MatrixMakes) := by kernel_rfl
theorem t_law04_MatrixMakes (k : Nat) (D : CallF) : curF [(0, .i .i64), (1, .i .i64)] (fun args h => denF (C_law04_MatrixMakes k D) k r_law04_MatrixMakes [(4, .b)] [none] args h) = law04_MatrixMakes k D := by kernel_rfl
theorem ok_law04_MatrixMakes {D : CallF} (hD : CSound Try.prog 0 D) (k : Nat) : EntOk Try.prog 0 (e_law04_MatrixMakes k D) :=
  entOf_ok2 (mkC_sound hD (EntsOk.more (ok_matrix_New hD k) (EntsOk.more (ok_matrix_Space_Cauchy hD k) (EntsOk.more (ok_ref04_Cauchy hD k) (EntsOk.more (ok_matrix_One hD k) (EntsOk.more (ok_ref04_One hD k) (EntsOk.more (ok_law04_same hD k) (EntsOk.more (ok_law04_works hD k) (EntsOk.none))))))))) Try.func8 rfl q_law04_MatrixMakes rfl (t_law04_MatrixMakes k D)
end Gy

namespace Gy
open Go Gx Go.Proofs
set_option maxRecDepth 100000

noncomputable def C_law04_of (_k : Nat) (D : CallF) : CallF := mkC D []
noncomputable def law04_of (_k : Nat) (_D : CallF) (a_0 : Int × Int × Slc) (h : AHeap) : Option (((Int × Int × Slc)) × AHeap) :=
  let h1 := AHeap.new h (.cells [.int .i64 a_0.1, .int .i64 a_0.2.1, .slice a_0.2.2.a a_0.2.2.len a_0.2.2.cap] 54 true 0)
  let h2 := AHeap.new h1 (.cells [.int .i64 0, .int .i64 0, .slice none 0 0] 51 true 0)
  let h3 := AHeap.new h2 (.cells [] 3 true 0)
  (ldL (⟨h.next, 2, none⟩ : Addr) h3).bind fun x4 =>
  guardP (SameW [h2] (fun H6 => (ldL (⟨h.next, 2, none⟩ : Addr) H6).bind fun y5 => some (.slice y5.a y5.len y5.cap)) (.slice x4.a x4.len x4.cap)) (
  (rdS 1 x4 h3).bind fun n8 =>
  (appendA 1 8 3 h3 (⟨(some ⟨h2.next, 0, some 0⟩), 0, 0⟩ : Slc) n8 x4.len).bind fun r7 =>
  (ldI .i64 (⟨h.next, 0, none⟩ : Addr) r7.2).bind fun x9 =>
  guardP (SameW [h3, h2] (fun H11 => (ldI .i64 (⟨h.next, 0, none⟩ : Addr) H11).bind fun y10 => some (.int .i64 y10)) (.int .i64 x9)) (
  (ldI .i64 (⟨h.next, 1, none⟩ : Addr) r7.2).bind fun x12 =>
  guardP (SameW [h3, h2] (fun H14 => (ldI .i64 (⟨h.next, 1, none⟩ : Addr) H14).bind fun y13 => some (.int .i64 y13)) (.int .i64 x12)) (
  (stL 3 (⟨h1.next, 0, none⟩ : Addr) ([.int .i64 x9, .int .i64 x12, .slice r7.1.a r7.1.len r7.1.cap]) r7.2).bind fun h15 =>
  (ldA 3 (⟨h1.next, 0, none⟩ : Addr) h15).bind fun l16 =>
  (decC [.i .i64, .i .i64, .l] l16).bind fun x17 =>
  some ((x17.1, x17.2.1, x17.2.2), h15))))
def r_law04_of : RCode := .seq (.region [⟨some 1, .a (.box 54 (.tmp 0)), none, none⟩,
  ⟨some 2, .a (.alloc 51 [.int .i64 0, .int .i64 0, .slice none 0 0]), none, none⟩])
  (.seq (.draw [⟨4, ⟨some 7, .a (.buildSlice 3 0 (zerosL 0 [.int .i64 0]) []), none, none⟩, [], 0⟩,
  ⟨5, ⟨some 8, .p (.fieldAddr 2 (.tmp 1)), none, none⟩, [1], 1⟩,
  ⟨6, ⟨some 9, .l (.load (.l) (.tmp 8)), none, none⟩, [8], 1⟩,
  ⟨7, ⟨some 10, .e (.append 1 8 3 [.int .i64 0] .slice (.tmp 7) (.tmp 9)), none, none⟩, [7, 9], 0⟩,
  ⟨0, ⟨some 3, .p (.fieldAddr 0 (.tmp 1)), none, none⟩, [1], 2⟩,
  ⟨1, ⟨some 4, .l (.load (.i .i64) (.tmp 3)), none, none⟩, [3], 2⟩,
  ⟨2, ⟨some 5, .p (.fieldAddr 1 (.tmp 1)), none, none⟩, [1], 2⟩,
  ⟨3, ⟨some 6, .l (.load (.i .i64) (.tmp 5)), none, none⟩, [5], 2⟩,
  ⟨8, ⟨some 11, .p (.build [.int .i64 0, .int .i64 0, .slice none 0 0] [(0, 1, .tmp 4), (1, 1, .tmp 6), (2, 1, .tmp 10)]), none, none⟩, [4, 6, 10], 0⟩,
  ⟨9, ⟨none, .e (.store (some 3) (.tmp 2) (.tmp 11)), none, none⟩, [2, 11], 0⟩])
  (.ret))
noncomputable def e_law04_of (k : Nat) (D : CallF) : Ent := entOf 49 [(0, .st [.i .i64, .i .i64, .l])] [(2, .st [.i .i64, .i .i64, .l])] (law04_of k D)
theorem q_law04_of : (Try.f49.body).bind (rcodeOf Try.prog 0 Try.f49.ntmps) = some (strip r_law04_of) := by kernel_rfl
theorem t_law04_of (k : Nat) (D : CallF) : curF [(0, .st [.i .i64, .i .i64, .l])] (fun args h => denF (C_law04_of k D) k r_law04_of [(2, .st [.i .i64, .i .i64, .l])] [some (.agg 3)] args h) = law04_of k D := by kernel_rfl
theorem ok_law04_of {D : CallF} (hD : CSound Try.prog 0 D) (k : Nat) : EntOk Try.prog 0 (e_law04_of k D) :=
  entOf_ok2 (mkC_sound hD (EntsOk.none)) Try.func49 rfl q_law04_of rfl (t_law04_of k D)
end Gy

namespace Gy
open Go Gx Go.Proofs
set_option maxRecDepth 100000

noncomputable def C_matrix_Check (_k : Nat) (D : CallF) : CallF := mkC D []
noncomputable def matrix_Check_l0b (_k : Nat) (_D : CallF) (j13 : AHeap → Option ((Int) × AHeap)) (rec20 : Slc → Int → Int → AHeap → Option ((Int) × AHeap)) (y16 : Slc) (y17 : Int) (y18 : Int) (h19 : AHeap) : Option ((Int) × AHeap) :=
  (if (decide (y18 < y17)) = true then
  (Gx.idxL 1 y16 y18).bind fun q21 =>
  (ldI .i64 q21 h19).bind fun x22 =>
  joinK (fun (y23 : Slc) (y24 : Int) (y25 : Int) (y26 : Bool) (h27 : AHeap) =>
  (if y26 = true then
  some (1, h27)
  else
  rec20 y23 y24 (IntKind.wrap .i64 (y25 + 1)) h27)) fun j28 =>
  (if (decide (x22 < 0)) = true then
  j28 y16 y17 y18 true h19
  else
  j28 y16 y17 y18 (decide (x22 ≥ 256)) h19)
  else
  j13 h19)
noncomputable def matrix_Check_l0 (k : Nat) (D : CallF) (j13 : AHeap → Option ((Int) × AHeap)) : Slc → Int → Int → AHeap → Option ((Int) × AHeap) :=
  iterK (α := Slc → Int → Int → AHeap → Option ((Int) × AHeap)) (fun _ _ _ _ => none) k (matrix_Check_l0b k D j13)
noncomputable def matrix_Check (k : Nat) (D : CallF) (a_0 : Int × Int × Slc) (h : AHeap) : Option ((Int) × AHeap) :=
  let h1 := AHeap.new h (.cells [.int .i64 a_0.1, .int .i64 a_0.2.1, .slice a_0.2.2.a a_0.2.2.len a_0.2.2.cap] 51 true 0)
  joinK (fun (a2 : Option Addr) (y3 : Bool) (h4 : AHeap) =>
  (if y3 = true then
  some (1, h4)
  else
  (a2).bind fun p6 =>
  (ldL (⟨p6.block, p6.off + 2, none⟩ : Addr) h4).bind fun x7 =>
  (a2).bind fun p8 =>
  (ldI .i64 (⟨p8.block, p8.off + 0, none⟩ : Addr) h4).bind fun x9 =>
  (a2).bind fun p10 =>
  (ldI .i64 (⟨p10.block, p10.off + 1, none⟩ : Addr) h4).bind fun x11 =>
  (if ((x7.len : Int) != (IntKind.wrap .i64 (x9 * x11))) = true then
  some (4, h4)
  else
  joinK (fun (h12 : AHeap) =>
  some (0, h12)) fun j13 =>
  (a2).bind fun p14 =>
  (ldL (⟨p14.block, p14.off + 2, none⟩ : Addr) h4).bind fun x15 =>
  matrix_Check_l0 k D j13 x15 (x15.len : Int) 0 h4))) fun j5 =>
  (ldI .i64 (⟨h.next, 0, none⟩ : Addr) h1).bind fun x29 =>
  (ldI .i64 (⟨h.next, 1, none⟩ : Addr) h1).bind fun x30 =>
  (if (decide ((if x30 < x29 then x30 else x29) < 1)) = true then
  j5 (some (⟨h.next, 0, none⟩ : Addr)) true h1
  else
  (ldI .i64 (⟨h.next, 0, none⟩ : Addr) h1).bind fun x31 =>
  (ldI .i64 (⟨h.next, 1, none⟩ : Addr) h1).bind fun x32 =>
  j5 (some (⟨h.next, 0, none⟩ : Addr)) (decide ((if x32 > x31 then x32 else x31) > 255)) h1)
def r_matrix_Check : RCode := .seq (.region [⟨some 1, .a (.box 51 (.tmp 0)), none, none⟩,
  ⟨some 2, .p (.mv (.const (.int .i64 0))), none, none⟩])
  (.seq (.block 0 (.seq (.join [(1, .p), (5, .b)] (.region [⟨some 6, .p (.fieldAddr 0 (.tmp 1)), none, none⟩,
  ⟨some 7, .l (.load (.i .i64) (.tmp 6)), none, none⟩,
  ⟨some 8, .p (.fieldAddr 1 (.tmp 1)), none, none⟩,
  ⟨some 9, .l (.load (.i .i64) (.tmp 8)), none, none⟩,
  ⟨some 10, .p (.minI (.tmp 7) (.tmp 9)), none, none⟩,
  ⟨some 11, .p (.bin .lss (.tmp 10) (.const (.int .i64 1))), none, none⟩,
  ⟨some 12, .p (.mv (.tmp 11)), none, none⟩,
  ⟨some 13, .p (.fieldAddr 0 (.tmp 1)), (some (12, false)), none⟩,
  ⟨some 14, .l (.load (.i .i64) (.tmp 13)), (some (12, false)), none⟩,
  ⟨some 15, .p (.fieldAddr 1 (.tmp 1)), (some (12, false)), none⟩,
  ⟨some 16, .l (.load (.i .i64) (.tmp 15)), (some (12, false)), none⟩,
  ⟨some 17, .p (.maxI (.tmp 14) (.tmp 16)), (some (12, false)), none⟩,
  ⟨some 18, .p (.bin .gtr (.tmp 17) (.const (.int .i64 255))), (some (12, false)), none⟩,
  ⟨some 19, .p (.pick (.tmp 12) (.const (.bool true)) (.tmp 18)), none, none⟩,
  ⟨some 5, .p (.mv (.tmp 19)), none, none⟩]))
  (.cond (.tmp 5) (.seq (.region [⟨some 2, .p (.mv (.const (.int .i64 1))), none, none⟩])
  (.ret)) (.seq (.region [⟨some 21, .p (.fieldAddr 2 (.tmp 1)), none, none⟩,
  ⟨some 22, .l (.load (.l) (.tmp 21)), none, none⟩,
  ⟨some 23, .p (.lenL (.tmp 22)), none, none⟩,
  ⟨some 24, .p (.fieldAddr 0 (.tmp 1)), none, none⟩,
  ⟨some 25, .l (.load (.i .i64) (.tmp 24)), none, none⟩,
  ⟨some 26, .p (.fieldAddr 1 (.tmp 1)), none, none⟩,
  ⟨some 27, .l (.load (.i .i64) (.tmp 26)), none, none⟩,
  ⟨some 28, .p (.bin .mul (.tmp 25) (.tmp 27)), none, none⟩,
  ⟨some 29, .p (.bin .neq (.tmp 23) (.tmp 28)), none, none⟩,
  ⟨some 20, .p (.mv (.tmp 29)), none, none⟩])
  (.cond (.tmp 20) (.seq (.region [⟨some 2, .p (.mv (.const (.int .i64 4))), none, none⟩])
  (.ret)) (.skip))))))
  (.seq (.join [] (.seq (.region [⟨some 30, .p (.fieldAddr 2 (.tmp 1)), none, none⟩,
  ⟨some 31, .l (.load (.l) (.tmp 30)), none, none⟩,
  ⟨some 32, .p (.lenL (.tmp 31)), none, none⟩,
  ⟨some 33, .p (.mv (.const (.int .i64 0))), none, none⟩])
  (.block 1 (.loop [(31, .l), (32, .i .i64), (33, .i .i64)] (.seq (.region [⟨some 34, .p (.bin .lss (.tmp 33) (.tmp 32)), none, none⟩])
  (.seq (.cond (.tmp 34) (.skip) (.exit 1))
  (.seq (.block 2 (.seq (.region [⟨some 35, .p (.idxL 1 (.tmp 31) (.tmp 33)), none, none⟩,
  ⟨some 36, .l (.load (.i .i64) (.tmp 35)), none, none⟩,
  ⟨some 4, .p (.mv (.tmp 36)), none, none⟩])
  (.seq (.join [(31, .l), (32, .i .i64), (33, .i .i64), (42, .b)] (.region [⟨some 37, .p (.mv (.tmp 4)), none, none⟩,
  ⟨some 38, .p (.bin .lss (.tmp 37) (.const (.int .i64 0))), none, none⟩,
  ⟨some 39, .p (.mv (.tmp 38)), none, none⟩,
  ⟨some 40, .p (.mv (.tmp 4)), (some (39, false)), none⟩,
  ⟨some 41, .p (.bin .geq (.tmp 40) (.const (.int .i64 256))), (some (39, false)), none⟩,
  ⟨some 42, .p (.pick (.tmp 39) (.const (.bool true)) (.tmp 41)), none, none⟩]))
  (.cond (.tmp 42) (.seq (.region [⟨some 2, .p (.mv (.const (.int .i64 1))), none, none⟩])
  (.ret)) (.skip)))))
  (.region [⟨some 43, .p (.bin .add (.tmp 33) (.const (.int .i64 1))), none, none⟩,
  ⟨some 33, .p (.mv (.tmp 43)), none, none⟩]))))))))
  (.seq (.region [⟨some 2, .p (.mv (.const (.int .i64 0))), none, none⟩])
  (.ret))))
noncomputable def e_matrix_Check (k : Nat) (D : CallF) : Ent := entOf 53 [(0, .st [.i .i64, .i .i64, .l])] [(2, .i .i64)] (matrix_Check k D)
theorem q_matrix_Check : (Try.f53.body).bind (rcodeOf Try.prog 0 Try.f53.ntmps) = some (strip r_matrix_Check) := by kernel_rfl
theorem t_matrix_Check (k : Nat) (D : CallF) : curF [(0, .st [.i .i64, .i .i64, .l])] (fun args h => denF (C_matrix_Check k D) k r_matrix_Check [(2, .i .i64)] [none] args h) = matrix_Check k D := by kernel_rfl
theorem ok_matrix_Check {D : CallF} (hD : CSound Try.prog 0 D) (k : Nat) : EntOk Try.prog 0 (e_matrix_Check k D) :=
  entOf_ok2 (mkC_sound hD (EntsOk.none)) Try.func53 rfl q_matrix_Check rfl (t_matrix_Check k D)
end Gy

namespace Gy
open Go Gx Go.Proofs
set_option maxRecDepth 100000

noncomputable def C_matrix_Space_times (k : Nat) (D : CallF) : CallF := mkC D [e_field_Field_Mul k D]
noncomputable def matrix_Space_times (k : Nat) (D : CallF) (s_0 : Option Addr) (a_1 : Int) (b_2 : Int) (h : AHeap) : Option ((Int) × AHeap) :=
  (s_0).bind fun p1 =>
  (ldP (⟨p1.block, p1.off + 0, none⟩ : Addr) h).bind fun x2 =>
  (field_Field_Mul k D x2 a_1 b_2 h).bind fun r3 =>
  some (r3.1.1, r3.2)
def r_matrix_Space_times : RCode := .seq (.region [⟨some 6, .p (.mv (.const (.int .i64 0))), none, none⟩])
  (.seq (.region [⟨some 10, .p (.mv (.tmp 0)), none, none⟩,
  ⟨some 11, .p (.nilP (.tmp 10)), none, none⟩,
  ⟨some 12, .p (.fieldAddr 0 (.tmp 11)), none, none⟩,
  ⟨some 13, .l (.load (.p) (.tmp 12)), none, none⟩,
  ⟨some 14, .p (.mv (.tmp 1)), none, none⟩,
  ⟨some 15, .p (.mv (.tmp 2)), none, none⟩,
  ⟨some 16, .e (.call (.func 20) [.tmp 13, .tmp 14, .tmp 15]), none, none⟩,
  ⟨some 9, .p (.mv (.tmp 16)), none, none⟩,
  ⟨some 17, .p (.extract (.tmp 9) 0), none, none⟩,
  ⟨some 18, .p (.extract (.tmp 9) 1), none, none⟩,
  ⟨some 7, .p (.mv (.tmp 17)), none, none⟩,
  ⟨some 8, .p (.mv (.tmp 18)), none, none⟩])
  (.seq (.region [⟨some 19, .p (.mv (.tmp 7)), none, none⟩,
  ⟨some 6, .p (.mv (.tmp 19)), none, none⟩])
  (.ret)))
noncomputable def e_matrix_Space_times (k : Nat) (D : CallF) : Ent := entOf 79 [(0, .p), (1, .i .i64), (2, .i .i64)] [(6, .i .i64)] (matrix_Space_times k D)
theorem q_matrix_Space_times : (Try.f79.body).bind (rcodeOf Try.prog 0 Try.f79.ntmps) = some (strip r_matrix_Space_times) := by kernel_rfl
theorem t_matrix_Space_times (k : Nat) (D : CallF) : curF [(0, .p), (1, .i .i64), (2, .i .i64)] (fun args h => denF (C_matrix_Space_times k D) k r_matrix_Space_times [(6, .i .i64)] [none] args h) = matrix_Space_times k D := by kernel_rfl
theorem ok_matrix_Space_times {D : CallF} (hD : CSound Try.prog 0 D) (k : Nat) : EntOk Try.prog 0 (e_matrix_Space_times k D) :=
  entOf_ok2 (mkC_sound hD (EntsOk.more (ok_field_Field_Mul hD k) (EntsOk.none))) Try.func79 rfl q_matrix_Space_times rfl (t_matrix_Space_times k D)
end Gy

namespace Gy
open Go Gx Go.Proofs
set_option maxRecDepth 100000

noncomputable def C_matrix_Space_add (k : Nat) (D : CallF) : CallF := mkC D [e_matrix_Space_times k D]
noncomputable def matrix_Space_add_l0b (k : Nat) (D : CallF)  (rec8 : (Option Addr) → Slc → Int → Slc → Int → Int → AHeap → Option ((Unit) × AHeap)) (s1 : Option Addr) (to2 : Slc) (byv3 : Int) (y4 : Slc) (y5 : Int) (y6 : Int) (h7 : AHeap) : Option ((Unit) × AHeap) :=
  (if (decide (y6 < y5)) = true then
  (Gx.idxL 1 y4 y6).bind fun q9 =>
  (ldI .i64 q9 h7).bind fun x10 =>
  (matrix_Space_times k D s1 x10 byv3 h7).bind fun r11 =>
  (Gx.idxL 1 to2 y6).bind fun q12 =>
  (ldI .i64 q12 r11.2).bind fun x13 =>
  guardP (SameW [h7] (fun H15 => (ldI .i64 q12 H15).bind fun y14 => some (.int .i64 y14)) (.int .i64 x13)) (
  (Gx.idxL 1 to2 y6).bind fun q16 =>
  (st1 q16 (.int .i64 (Go.bits .xor .i64 x13 r11.1)) r11.2).bind fun h17 =>
  rec8 s1 to2 byv3 y4 y5 (IntKind.wrap .i64 (y6 + 1)) h17)
  else
  some ((), h7))
noncomputable def matrix_Space_add_l0 (k : Nat) (D : CallF)  : (Option Addr) → Slc → Int → Slc → Int → Int → AHeap → Option ((Unit) × AHeap) :=
  iterK (α := (Option Addr) → Slc → Int → Slc → Int → Int → AHeap → Option ((Unit) × AHeap)) (fun _ _ _ _ _ _ _ => none) k (matrix_Space_add_l0b k D )
noncomputable def matrix_Space_add (k : Nat) (D : CallF) (s_0 : Option Addr) (to_1 : Slc) (from_2 : Slc) (by_3 : Int) (h : AHeap) : Option ((Unit) × AHeap) :=
  matrix_Space_add_l0 k D s_0 to_1 by_3 from_2 (from_2.len : Int) 0 h
def r_matrix_Space_add : RCode := .seq (.region [⟨some 10, .p (.mv (.tmp 2)), none, none⟩,
  ⟨some 11, .p (.lenL (.tmp 10)), none, none⟩,
  ⟨some 12, .p (.mv (.const (.int .i64 0))), none, none⟩])
  (.block 0 (.loop [(0, .p), (1, .l), (3, .i .i64), (10, .l), (11, .i .i64), (12, .i .i64)] (.seq (.region [⟨some 13, .p (.bin .lss (.tmp 12) (.tmp 11)), none, none⟩])
  (.seq (.cond (.tmp 13) (.skip) (.exit 0))
  (.seq (.block 1 (.seq (.region [⟨some 14, .p (.mv (.tmp 12)), none, none⟩,
  ⟨some 15, .p (.idxL 1 (.tmp 10) (.tmp 12)), none, none⟩,
  ⟨some 16, .l (.load (.i .i64) (.tmp 15)), none, none⟩,
  ⟨some 8, .p (.mv (.tmp 14)), none, none⟩,
  ⟨some 9, .p (.mv (.tmp 16)), none, none⟩])
  (.draw [⟨4, ⟨some 21, .p (.mv (.tmp 0)), none, none⟩, [0], 0⟩,
  ⟨5, ⟨some 22, .p (.mv (.tmp 9)), none, none⟩, [9], 0⟩,
  ⟨6, ⟨some 23, .p (.mv (.tmp 3)), none, none⟩, [3], 0⟩,
  ⟨7, ⟨some 24, .e (.call (.func 79) [.tmp 21, .tmp 22, .tmp 23]), none, none⟩, [21, 22, 23], 0⟩,
  ⟨0, ⟨some 17, .p (.mv (.tmp 1)), none, none⟩, [1], 1⟩,
  ⟨1, ⟨some 18, .p (.mv (.tmp 8)), none, none⟩, [8], 1⟩,
  ⟨2, ⟨some 19, .p (.idxL 1 (.tmp 17) (.tmp 18)), none, none⟩, [17, 18], 1⟩,
  ⟨3, ⟨some 20, .l (.load (.i .i64) (.tmp 19)), none, none⟩, [19], 1⟩,
  ⟨8, ⟨some 25, .p (.bin .xor (.tmp 20) (.tmp 24)), none, none⟩, [20, 24], 0⟩,
  ⟨9, ⟨some 26, .p (.idxL 1 (.tmp 17) (.tmp 18)), none, none⟩, [17, 18], 0⟩,
  ⟨10, ⟨none, .e (.store none (.tmp 26) (.tmp 25)), none, none⟩, [26, 25], 0⟩])))
  (.region [⟨some 27, .p (.bin .add (.tmp 12) (.const (.int .i64 1))), none, none⟩,
  ⟨some 12, .p (.mv (.tmp 27)), none, none⟩]))))))
noncomputable def e_matrix_Space_add (k : Nat) (D : CallF) : Ent := entOf 68 [(0, .p), (1, .l), (2, .l), (3, .i .i64)] [] (matrix_Space_add k D)
theorem q_matrix_Space_add : (Try.f68.body).bind (rcodeOf Try.prog 0 Try.f68.ntmps) = some (strip r_matrix_Space_add) := by kernel_rfl
theorem t_matrix_Space_add (k : Nat) (D : CallF) : curF [(0, .p), (1, .l), (2, .l), (3, .i .i64)] (fun args h => denF (C_matrix_Space_add k D) k r_matrix_Space_add [] [] args h) = matrix_Space_add k D := by kernel_rfl
theorem ok_matrix_Space_add {D : CallF} (hD : CSound Try.prog 0 D) (k : Nat) : EntOk Try.prog 0 (e_matrix_Space_add k D) :=
  entOf_ok2 (mkC_sound hD (EntsOk.more (ok_matrix_Space_times hD k) (EntsOk.none))) Try.func68 rfl q_matrix_Space_add rfl (t_matrix_Space_add k D)
end Gy
