import Derived.Test.YtcacldakplomnaaProg
import Derived.Shelf.Strings.OnBuilder
import Derived.Shelf.Strings.Repeat
import Derived.KernelRfl
import Derived.Test.YtcacldakplomnaaGx3
namespace Gb
open Go Gx Go.Proofs
set_option maxRecDepth 100000
end Gb
namespace Gb
open Go Gx Go.Proofs
set_option maxRecDepth 100000
noncomputable def C_book_Among (_k : Nat) (D : CallF) : CallF := mkC D []
noncomputable def book_Among (_k : Nat) (_D : CallF) (x_0 : Int) (n_1 : Int) (h : AHeap) : Option ((Int) × AHeap) :=
  (if n_1 = 0 then none else
  (if n_1 = 0 then none else
  let t1 : Int := (Int.tmod (IntKind.wrap .i64 ((Int.tmod x_0 n_1) + n_1)) n_1)
  some (t1, h)))
def r_book_Among : RCode := .seq (.region [⟨some 4, .p (.mv (.const (.int .i64 0))), none, none⟩])
  (.seq (.region [⟨some 5, .p (.mv (.tmp 0)), none, none⟩,
  ⟨some 6, .p (.mv (.tmp 1)), none, none⟩,
  ⟨some 7, .p (.bin .rem (.tmp 5) (.tmp 6)), none, none⟩,
  ⟨some 8, .p (.mv (.tmp 1)), none, none⟩,
  ⟨some 9, .p (.bin .add (.tmp 7) (.tmp 8)), none, none⟩,
  ⟨some 10, .p (.mv (.tmp 1)), none, none⟩,
  ⟨some 11, .p (.bin .rem (.tmp 9) (.tmp 10)), none, none⟩,
  ⟨some 4, .p (.mv (.tmp 11)), none, none⟩])
  (.ret))
noncomputable def e_book_Among (k : Nat) (D : CallF) : Ent := entOf 34 [(0, .i .i64), (1, .i .i64)] [(4, .i .i64)] (book_Among k D)
theorem q_book_Among : (Try.f34.body).bind (rcodeOf Try.prog 0 Try.f34.ntmps) = some (strip r_book_Among) := by kernel_rfl
theorem t_book_Among (k : Nat) (D : CallF) : curF [(0, .i .i64), (1, .i .i64)] (fun args h => denF (C_book_Among k D) k r_book_Among [(4, .i .i64)] [none] args h) = book_Among k D := by kernel_rfl
theorem ok_book_Among {D : CallF} (hD : CSound Try.prog 0 D) (k : Nat) : EntOk Try.prog 0 (e_book_Among k D) :=
  entOf_ok2 (mkC_sound hD (EntsOk.none)) Try.func34 rfl q_book_Among rfl (t_book_Among k D)
end Gb
namespace Gb
open Go Gx Go.Proofs
set_option maxRecDepth 100000
noncomputable def C_field_New (_k : Nat) (D : CallF) : CallF := mkC D []
noncomputable def field_New (_k : Nat) (_D : CallF)  (h : AHeap) : Option (((Option Addr)) × AHeap) :=
  let h1 := AHeap.new h (.cells ([.int .u32 0] ++ [.int .i32 0] ++ [.int .u32 0] ++ List.replicate 510 (.int .u8 0) ++ List.replicate 256 (.int .i64 0)) 131 true 0)
  some ((some (⟨h.next, 0, none⟩ : Addr)), h1)
def r_field_New : RCode := .seq (.region [⟨some 0, .p (.mv (.const (.pointer none))), none, none⟩])
  (.seq (.region [⟨some 1, .p (.build ([.int .u32 0] ++ [.int .i32 0] ++ [.int .u32 0] ++ List.replicate 510 (.int .u8 0) ++ List.replicate 256 (.int .i64 0)) []), none, none⟩,
  ⟨some 2, .a (.box 131 (.tmp 1)), none, none⟩,
  ⟨some 0, .p (.mv (.tmp 2)), none, none⟩])
  (.ret))
noncomputable def e_field_New (k : Nat) (D : CallF) : Ent := entOf 47 [] [(0, .p)] (field_New k D)
theorem q_field_New : (Try.f47.body).bind (rcodeOf Try.prog 0 Try.f47.ntmps) = some (strip r_field_New) := by kernel_rfl
theorem t_field_New (k : Nat) (D : CallF) : curF [] (fun args h => denF (C_field_New k D) k r_field_New [(0, .p)] [none] args h) = field_New k D := by kernel_rfl
theorem ok_field_New {D : CallF} (hD : CSound Try.prog 0 D) (k : Nat) : EntOk Try.prog 0 (e_field_New k D) :=
  entOf_ok2 (mkC_sound hD (EntsOk.none)) Try.func47 rfl q_field_New rfl (t_field_New k D)
end Gb
namespace Gb
open Go Gx Go.Proofs
set_option maxRecDepth 100000
noncomputable def C_matrix_New (k : Nat) (D : CallF) : CallF := mkC D [e_field_New k D]
noncomputable def matrix_New (k : Nat) (D : CallF)  (h : AHeap) : Option (((Option Addr)) × AHeap) :=
  (field_New k D h).bind fun r1 =>
  let h2 := AHeap.new r1.2 (.cells [.pointer r1.1] 111 true 0)
  some ((some (⟨r1.2.next, 0, none⟩ : Addr)), h2)
def r_matrix_New : RCode := .seq (.region [⟨some 0, .p (.mv (.const (.pointer none))), none, none⟩])
  (.seq (.region [⟨some 1, .e (.call (.func 47) []), none, none⟩,
  ⟨some 2, .p (.build [.pointer none] [(0, 1, .tmp 1)]), none, none⟩,
  ⟨some 3, .a (.box 111 (.tmp 2)), none, none⟩,
  ⟨some 0, .p (.mv (.tmp 3)), none, none⟩])
  (.ret))
noncomputable def e_matrix_New (k : Nat) (D : CallF) : Ent := entOf 45 [] [(0, .p)] (matrix_New k D)
theorem q_matrix_New : (Try.f45.body).bind (rcodeOf Try.prog 0 Try.f45.ntmps) = some (strip r_matrix_New) := by kernel_rfl
theorem t_matrix_New (k : Nat) (D : CallF) : curF [] (fun args h => denF (C_matrix_New k D) k r_matrix_New [(0, .p)] [none] args h) = matrix_New k D := by kernel_rfl
theorem ok_matrix_New {D : CallF} (hD : CSound Try.prog 0 D) (k : Nat) : EntOk Try.prog 0 (e_matrix_New k D) :=
  entOf_ok2 (mkC_sound hD (EntsOk.more (ok_field_New hD k) (EntsOk.none))) Try.func45 rfl q_matrix_New rfl (t_matrix_New k D)
end Gb
namespace Gb
open Go Gx Go.Proofs
set_option maxRecDepth 100000
noncomputable def C_matrix_blank (_k : Nat) (D : CallF) : CallF := mkC D []
noncomputable def matrix_blank (_k : Nat) (_D : CallF) (rows_0 : Int) (cols_1 : Int) (h : AHeap) : Option (((Int × Int × Slc)) × AHeap) :=
  let h1 := AHeap.new h (.cells [.int .i64 0, .int .i64 0, .slice none 0 0] 84 true 0)
  (if 0 ≤ (IntKind.wrap .i64 (rows_0 * cols_1)) ∧ (IntKind.wrap .i64 (rows_0 * cols_1)) ≤ (IntKind.wrap .i64 (rows_0 * cols_1)) ∧ (IntKind.wrap .i64 (rows_0 * cols_1)) ≤ 281474976710656 ∧ 8 * (IntKind.wrap .i64 (rows_0 * cols_1)) ≤ 281474976710656 then
  let h2 := AHeap.new h1 (.cells (zerosL ((IntKind.wrap .i64 (rows_0 * cols_1))).toNat [.int .i64 0]) 3 true 0)
  (stL 3 (⟨h.next, 0, none⟩ : Addr) ([.int .i64 rows_0, .int .i64 cols_1, .slice (some ⟨h1.next, 0, some 0⟩) (((IntKind.wrap .i64 (rows_0 * cols_1))).toNat) (((IntKind.wrap .i64 (rows_0 * cols_1))).toNat)]) h2).bind fun h3 =>
  (ldA 3 (⟨h.next, 0, none⟩ : Addr) h3).bind fun l4 =>
  (decC [.i .i64, .i .i64, .l] l4).bind fun x5 =>
  some ((x5.1, x5.2.1, x5.2.2), h3)
  else none)
def r_matrix_blank : RCode := .seq (.region [⟨some 4, .a (.alloc 84 [.int .i64 0, .int .i64 0, .slice none 0 0]), none, none⟩])
  (.seq (.region [⟨some 5, .p (.mv (.tmp 0)), none, none⟩,
  ⟨some 6, .p (.mv (.tmp 1)), none, none⟩,
  ⟨some 7, .p (.mv (.tmp 0)), none, none⟩,
  ⟨some 8, .p (.mv (.tmp 1)), none, none⟩,
  ⟨some 9, .p (.bin .mul (.tmp 7) (.tmp 8)), none, none⟩,
  ⟨some 10, .a (.mkSlice 3 8 [.int .i64 0] (.tmp 9) (.tmp 9)), none, none⟩,
  ⟨some 11, .p (.build [.int .i64 0, .int .i64 0, .slice none 0 0] [(0, 1, .tmp 5), (1, 1, .tmp 6), (2, 1, .tmp 10)]), none, none⟩,
  ⟨none, .e (.store (some 3) (.tmp 4) (.tmp 11)), none, none⟩])
  (.ret))
noncomputable def e_matrix_blank (k : Nat) (D : CallF) : Ent := entOf 60 [(0, .i .i64), (1, .i .i64)] [(4, .st [.i .i64, .i .i64, .l])] (matrix_blank k D)
theorem q_matrix_blank : (Try.f60.body).bind (rcodeOf Try.prog 0 Try.f60.ntmps) = some (strip r_matrix_blank) := by kernel_rfl
theorem t_matrix_blank (k : Nat) (D : CallF) : curF [(0, .i .i64), (1, .i .i64)] (fun args h => denF (C_matrix_blank k D) k r_matrix_blank [(4, .st [.i .i64, .i .i64, .l])] [some (.agg 3)] args h) = matrix_blank k D := by kernel_rfl
theorem ok_matrix_blank {D : CallF} (hD : CSound Try.prog 0 D) (k : Nat) : EntOk Try.prog 0 (e_matrix_blank k D) :=
  entOf_ok2 (mkC_sound hD (EntsOk.none)) Try.func60 rfl q_matrix_blank rfl (t_matrix_blank k D)
end Gb
namespace Gb
open Go Gx Go.Proofs
set_option maxRecDepth 100000
noncomputable def C_matrix_M_row (_k : Nat) (D : CallF) : CallF := mkC D []
noncomputable def matrix_M_row (_k : Nat) (_D : CallF) (a_0 : Int × Int × Slc) (i_1 : Int) (h : AHeap) : Option ((Slc) × AHeap) :=
  let h1 := AHeap.new h (.cells [.int .i64 a_0.1, .int .i64 a_0.2.1, .slice a_0.2.2.a a_0.2.2.len a_0.2.2.cap] 84 true 0)
  (ldL (⟨h.next, 2, none⟩ : Addr) h1).bind fun x2 =>
  (ldI .i64 (⟨h.next, 1, none⟩ : Addr) h1).bind fun x3 =>
  (ldI .i64 (⟨h.next, 1, none⟩ : Addr) h1).bind fun x4 =>
  (ldI .i64 (⟨h.next, 1, none⟩ : Addr) h1).bind fun x5 =>
  (Gx.subL 1 x2 (some (IntKind.wrap .i64 (i_1 * x3))) (some (IntKind.wrap .i64 ((IntKind.wrap .i64 (i_1 + 1)) * x4))) (some (IntKind.wrap .i64 ((IntKind.wrap .i64 (i_1 + 1)) * x5)))).bind fun l6 =>
  some (l6, h1)
def r_matrix_M_row : RCode := .seq (.region [⟨some 2, .a (.box 84 (.tmp 0)), none, none⟩,
  ⟨some 4, .p (.mv (.const (.slice none 0 0))), none, none⟩])
  (.seq (.region [⟨some 5, .p (.fieldAddr 2 (.tmp 2)), none, none⟩,
  ⟨some 6, .l (.load (.l) (.tmp 5)), none, none⟩,
  ⟨some 7, .p (.mv (.tmp 1)), none, none⟩,
  ⟨some 8, .p (.fieldAddr 1 (.tmp 2)), none, none⟩,
  ⟨some 9, .l (.load (.i .i64) (.tmp 8)), none, none⟩,
  ⟨some 10, .p (.bin .mul (.tmp 7) (.tmp 9)), none, none⟩,
  ⟨some 11, .p (.mv (.tmp 1)), none, none⟩,
  ⟨some 12, .p (.bin .add (.tmp 11) (.const (.int .i64 1))), none, none⟩,
  ⟨some 13, .p (.fieldAddr 1 (.tmp 2)), none, none⟩,
  ⟨some 14, .l (.load (.i .i64) (.tmp 13)), none, none⟩,
  ⟨some 15, .p (.bin .mul (.tmp 12) (.tmp 14)), none, none⟩,
  ⟨some 16, .p (.mv (.tmp 1)), none, none⟩,
  ⟨some 17, .p (.bin .add (.tmp 16) (.const (.int .i64 1))), none, none⟩,
  ⟨some 18, .p (.fieldAddr 1 (.tmp 2)), none, none⟩,
  ⟨some 19, .l (.load (.i .i64) (.tmp 18)), none, none⟩,
  ⟨some 20, .p (.bin .mul (.tmp 17) (.tmp 19)), none, none⟩,
  ⟨some 21, .p (.subL 1 (.tmp 6) (some (.tmp 10)) (some (.tmp 15)) (some (.tmp 20))), none, none⟩,
  ⟨some 4, .p (.mv (.tmp 21)), none, none⟩])
  (.ret))
noncomputable def e_matrix_M_row (k : Nat) (D : CallF) : Ent := entOf 61 [(0, .st [.i .i64, .i .i64, .l]), (1, .i .i64)] [(4, .l)] (matrix_M_row k D)
theorem q_matrix_M_row : (Try.f61.body).bind (rcodeOf Try.prog 0 Try.f61.ntmps) = some (strip r_matrix_M_row) := by kernel_rfl
theorem t_matrix_M_row (k : Nat) (D : CallF) : curF [(0, .st [.i .i64, .i .i64, .l]), (1, .i .i64)] (fun args h => denF (C_matrix_M_row k D) k r_matrix_M_row [(4, .l)] [none] args h) = matrix_M_row k D := by kernel_rfl
theorem ok_matrix_M_row {D : CallF} (hD : CSound Try.prog 0 D) (k : Nat) : EntOk Try.prog 0 (e_matrix_M_row k D) :=
  entOf_ok2 (mkC_sound hD (EntsOk.none)) Try.func61 rfl q_matrix_M_row rfl (t_matrix_M_row k D)
end Gb
namespace Gb
open Go Gx Go.Proofs
set_option maxRecDepth 100000
noncomputable def C_field_is (_k : Nat) (D : CallF) : CallF := mkC D []
noncomputable def field_is_l0b (_k : Nat) (_D : CallF) (j2 : AHeap → Option ((Bool) × AHeap)) (rec7 : Slc → Int → Int → AHeap → Option ((Bool) × AHeap)) (y3 : Slc) (y4 : Int) (y5 : Int) (h6 : AHeap) : Option ((Bool) × AHeap) :=
  (if (decide (y5 < y4)) = true then
  (Gx.idxL 1 y3 y5).bind fun q8 =>
  (ldI .i64 q8 h6).bind fun x9 =>
  joinK (fun (y10 : Slc) (y11 : Int) (y12 : Int) (y13 : Bool) (h14 : AHeap) =>
  (if y13 = true then
  some (false, h14)
  else
  rec7 y10 y11 (IntKind.wrap .i64 (y12 + 1)) h14)) fun j15 =>
  (if (decide (x9 < 0)) = true then
  j15 y3 y4 y5 true h6
  else
  j15 y3 y4 y5 (decide (x9 ≥ 256)) h6)
  else
  j2 h6)
noncomputable def field_is_l0 (k : Nat) (D : CallF) (j2 : AHeap → Option ((Bool) × AHeap)) : Slc → Int → Int → AHeap → Option ((Bool) × AHeap) :=
  iterK (α := Slc → Int → Int → AHeap → Option ((Bool) × AHeap)) (fun _ _ _ _ => none) k (field_is_l0b k D j2)
noncomputable def field_is (k : Nat) (D : CallF) (l_0 : Slc) (h : AHeap) : Option ((Bool) × AHeap) :=
  joinK (fun (h1 : AHeap) =>
  some (true, h1)) fun j2 =>
  field_is_l0 k D j2 l_0 (l_0.len : Int) 0 h
def r_field_is : RCode := .seq (.region [⟨some 2, .p (.mv (.const (.bool false))), none, none⟩])
  (.seq (.join [] (.seq (.region [⟨some 5, .p (.mv (.tmp 0)), none, none⟩,
  ⟨some 6, .p (.lenL (.tmp 5)), none, none⟩,
  ⟨some 7, .p (.mv (.const (.int .i64 0))), none, none⟩])
  (.block 0 (.loop [(5, .l), (6, .i .i64), (7, .i .i64)] (.seq (.region [⟨some 8, .p (.bin .lss (.tmp 7) (.tmp 6)), none, none⟩])
  (.seq (.cond (.tmp 8) (.skip) (.exit 0))
  (.seq (.block 1 (.seq (.region [⟨some 9, .p (.idxL 1 (.tmp 5) (.tmp 7)), none, none⟩,
  ⟨some 10, .l (.load (.i .i64) (.tmp 9)), none, none⟩,
  ⟨some 4, .p (.mv (.tmp 10)), none, none⟩])
  (.seq (.join [(5, .l), (6, .i .i64), (7, .i .i64), (16, .b)] (.region [⟨some 11, .p (.mv (.tmp 4)), none, none⟩,
  ⟨some 12, .p (.bin .lss (.tmp 11) (.const (.int .i64 0))), none, none⟩,
  ⟨some 13, .p (.mv (.tmp 12)), none, none⟩,
  ⟨some 14, .p (.mv (.tmp 4)), (some (13, false)), none⟩,
  ⟨some 15, .p (.bin .geq (.tmp 14) (.const (.int .i64 256))), (some (13, false)), none⟩,
  ⟨some 16, .p (.pick (.tmp 13) (.const (.bool true)) (.tmp 15)), none, none⟩]))
  (.cond (.tmp 16) (.seq (.region [⟨some 2, .p (.mv (.const (.bool false))), none, none⟩])
  (.ret)) (.skip)))))
  (.region [⟨some 17, .p (.bin .add (.tmp 7) (.const (.int .i64 1))), none, none⟩,
  ⟨some 7, .p (.mv (.tmp 17)), none, none⟩]))))))))
  (.seq (.region [⟨some 2, .p (.mv (.const (.bool true))), none, none⟩])
  (.ret)))
noncomputable def e_field_is (k : Nat) (D : CallF) : Ent := entOf 69 [(0, .l)] [(2, .b)] (field_is k D)
theorem q_field_is : (Try.f69.body).bind (rcodeOf Try.prog 0 Try.f69.ntmps) = some (strip r_field_is) := by kernel_rfl
theorem t_field_is (k : Nat) (D : CallF) : curF [(0, .l)] (fun args h => denF (C_field_is k D) k r_field_is [(2, .b)] [none] args h) = field_is k D := by kernel_rfl
theorem ok_field_is {D : CallF} (hD : CSound Try.prog 0 D) (k : Nat) : EntOk Try.prog 0 (e_field_is k D) :=
  entOf_ok2 (mkC_sound hD (EntsOk.none)) Try.func69 rfl q_field_is rfl (t_field_is k D)
end Gb
namespace Gb
open Go Gx Go.Proofs
noncomputable def e_sync_atomic_LoadUint32 (_k : Nat) (_D : CallF) : Ent := eLoad 103 .u32
theorem ok_sync_atomic_LoadUint32 {D : CallF} (_hD : CSound Try.prog 0 D) (k : Nat) : EntOk Try.prog 0 (e_sync_atomic_LoadUint32 k D) :=
  load_ok Try.func103 rfl rfl rfl .u32 (by kernel_rfl)
end Gb
namespace Gb
open Go Gx Go.Proofs
set_option maxRecDepth 100000
noncomputable def C_sync_atomic_Bool_Load (k : Nat) (D : CallF) : CallF := mkC D [e_sync_atomic_LoadUint32 k D]
noncomputable def sync_atomic_Bool_Load (_k : Nat) (_D : CallF) (x_0 : Option Addr) (h : AHeap) : Option ((Bool) × AHeap) :=
  (x_0).bind fun p1 =>
  (ldI .u32 (⟨p1.block, p1.off + 0, none⟩ : Addr) h).bind fun x2 =>
  some ((x2 != 0), h)
def r_sync_atomic_Bool_Load : RCode := .seq (.region [⟨some 2, .p (.mv (.const (.bool false))), none, none⟩])
  (.seq (.region [⟨some 3, .p (.mv (.tmp 0)), none, none⟩,
  ⟨some 4, .p (.nilP (.tmp 3)), none, none⟩,
  ⟨some 5, .p (.fieldAddr 0 (.tmp 4)), none, none⟩,
  ⟨some 6, .e (.call (.func 103) [.tmp 5]), none, none⟩,
  ⟨some 7, .p (.bin .neq (.tmp 6) (.const (.int .u32 0))), none, none⟩,
  ⟨some 2, .p (.mv (.tmp 7)), none, none⟩])
  (.ret))
noncomputable def e_sync_atomic_Bool_Load (k : Nat) (D : CallF) : Ent := entOf 97 [(0, .p)] [(2, .b)] (sync_atomic_Bool_Load k D)
theorem q_sync_atomic_Bool_Load : (Try.f97.body).bind (rcodeOf Try.prog 0 Try.f97.ntmps) = some (strip r_sync_atomic_Bool_Load) := by kernel_rfl
theorem t_sync_atomic_Bool_Load (k : Nat) (D : CallF) : curF [(0, .p)] (fun args h => denF (C_sync_atomic_Bool_Load k D) k r_sync_atomic_Bool_Load [(2, .b)] [none] args h) = sync_atomic_Bool_Load k D := by kernel_rfl
theorem ok_sync_atomic_Bool_Load {D : CallF} (hD : CSound Try.prog 0 D) (k : Nat) : EntOk Try.prog 0 (e_sync_atomic_Bool_Load k D) :=
  entOf_ok2 (mkC_sound hD (EntsOk.more (ok_sync_atomic_LoadUint32 hD k) (EntsOk.none))) Try.func97 rfl q_sync_atomic_Bool_Load rfl (t_sync_atomic_Bool_Load k D)
end Gb
namespace Gb
open Go Gx Go.Proofs
noncomputable def e_internal_race_Disable (_k : Nat) (_D : CallF) : Ent := eMark0 113
theorem ok_internal_race_Disable {D : CallF} (_hD : CSound Try.prog 0 D) (k : Nat) : EntOk Try.prog 0 (e_internal_race_Disable k D) :=
  mark0_ok Try.func113 rfl rfl rfl .disable (by kernel_rfl)
end Gb
namespace Gb
open Go Gx Go.Proofs
noncomputable def e_sync_atomic_CompareAndSwapInt32 (_k : Nat) (_D : CallF) : Ent := eCas 114 .i32
theorem ok_sync_atomic_CompareAndSwapInt32 {D : CallF} (_hD : CSound Try.prog 0 D) (k : Nat) : EntOk Try.prog 0 (e_sync_atomic_CompareAndSwapInt32 k D) :=
  cas_ok Try.func114 rfl rfl rfl .i32 (by kernel_rfl)
end Gb
namespace Gb
open Go Gx Go.Proofs
noncomputable def e_internal_race_Enable (_k : Nat) (_D : CallF) : Ent := eMark0 115
theorem ok_internal_race_Enable {D : CallF} (_hD : CSound Try.prog 0 D) (k : Nat) : EntOk Try.prog 0 (e_internal_race_Enable k D) :=
  mark0_ok Try.func115 rfl rfl rfl .enable (by kernel_rfl)
end Gb
namespace Gb
open Go Gx Go.Proofs
noncomputable def e_internal_race_Acquire (_k : Nat) (_D : CallF) : Ent := eMark1 116
theorem ok_internal_race_Acquire {D : CallF} (_hD : CSound Try.prog 0 D) (k : Nat) : EntOk Try.prog 0 (e_internal_race_Acquire k D) :=
  mark1_ok Try.func116 rfl rfl rfl .acquire (by kernel_rfl)
end Gb
namespace Gb
open Go Gx Go.Proofs
set_option maxRecDepth 100000
noncomputable def C_internal_sync_Mutex_Lock (k : Nat) (D : CallF) : CallF := mkC D [e_internal_race_Disable k D, e_sync_atomic_CompareAndSwapInt32 k D, e_internal_race_Enable k D, e_internal_race_Acquire k D]
noncomputable def internal_sync_Mutex_Lock (_k : Nat) (_D : CallF) (m_0 : Option Addr) (h : AHeap) : Option ((Unit) × AHeap) :=
  (m_0).bind fun p1 =>
  (ldI .i32 (⟨p1.block, p1.off + 0, none⟩ : Addr) h).bind fun x2 =>
  (if x2 = 0 then
  (st1 (⟨p1.block, p1.off + 0, none⟩ : Addr) (.int .i32 1) h).bind fun h3 =>
  (m_0).bind fun p4 =>
  (AHeap.rd1 h3 p4.block p4.off).bind fun _ =>
  some ((), h3)
  else none)
def r_internal_sync_Mutex_Lock : RCode := .seq (.region [⟨some 2, .e (.call (.func 113) []), none, none⟩])
  (.seq (.seq (.region [⟨some 3, .p (.mv (.tmp 0)), none, none⟩,
  ⟨some 4, .p (.nilP (.tmp 3)), none, none⟩,
  ⟨some 5, .p (.fieldAddr 0 (.tmp 4)), none, none⟩,
  ⟨some 6, .e (.call (.func 114) [.tmp 5, .const (.int .i32 0), .const (.int .i32 1)]), none, none⟩])
  (.cond (.tmp 6) (.seq (.cond (.const (.bool true)) (.seq (.region [⟨some 7, .e (.call (.func 115) []), none, none⟩])
  (.region [⟨some 8, .p (.mv (.tmp 0)), none, none⟩,
  ⟨some 9, .l (.convUP (.tmp 8)), none, none⟩,
  ⟨some 10, .e (.call (.func 116) [.tmp 9]), none, none⟩])) (.skip))
  (.ret)) (.skip)))
  (.region [⟨some 11, .p (.mv (.tmp 0)), none, none⟩,
  ⟨some 12, .e (.call (.func 117) [.tmp 11]), none, none⟩]))
noncomputable def e_internal_sync_Mutex_Lock (k : Nat) (D : CallF) : Ent := entOf 108 [(0, .p)] [] (internal_sync_Mutex_Lock k D)
theorem q_internal_sync_Mutex_Lock : (Try.f108.body).bind (rcodeOf Try.prog 0 Try.f108.ntmps) = some (strip r_internal_sync_Mutex_Lock) := by kernel_rfl
theorem t_internal_sync_Mutex_Lock (k : Nat) (D : CallF) : curF [(0, .p)] (fun args h => denF (C_internal_sync_Mutex_Lock k D) k r_internal_sync_Mutex_Lock [] [] args h) = internal_sync_Mutex_Lock k D := by kernel_rfl
theorem ok_internal_sync_Mutex_Lock {D : CallF} (hD : CSound Try.prog 0 D) (k : Nat) : EntOk Try.prog 0 (e_internal_sync_Mutex_Lock k D) :=
  entOf_ok2 (mkC_sound hD (EntsOk.more (ok_internal_race_Disable hD k) (EntsOk.more (ok_sync_atomic_CompareAndSwapInt32 hD k) (EntsOk.more (ok_internal_race_Enable hD k) (EntsOk.more (ok_internal_race_Acquire hD k) (EntsOk.none)))))) Try.func108 rfl q_internal_sync_Mutex_Lock rfl (t_internal_sync_Mutex_Lock k D)
end Gb
namespace Gb
open Go Gx Go.Proofs
set_option maxRecDepth 100000
noncomputable def C_sync_Mutex_Lock (k : Nat) (D : CallF) : CallF := mkC D [e_internal_sync_Mutex_Lock k D]
noncomputable def sync_Mutex_Lock (k : Nat) (D : CallF) (m_0 : Option Addr) (h : AHeap) : Option ((Unit) × AHeap) :=
  (m_0).bind fun p1 =>
  (internal_sync_Mutex_Lock k D (some (⟨p1.block, p1.off + 0, none⟩ : Addr)) h).bind fun r2 =>
  some ((), r2.2)
def r_sync_Mutex_Lock : RCode := .region [⟨some 2, .p (.mv (.tmp 0)), none, none⟩,
  ⟨some 3, .p (.nilP (.tmp 2)), none, none⟩,
  ⟨some 4, .p (.fieldAddr 0 (.tmp 3)), none, none⟩,
  ⟨some 5, .e (.call (.func 108) [.tmp 4]), none, none⟩]
noncomputable def e_sync_Mutex_Lock (k : Nat) (D : CallF) : Ent := entOf 104 [(0, .p)] [] (sync_Mutex_Lock k D)
theorem q_sync_Mutex_Lock : (Try.f104.body).bind (rcodeOf Try.prog 0 Try.f104.ntmps) = some (strip r_sync_Mutex_Lock) := by kernel_rfl
theorem t_sync_Mutex_Lock (k : Nat) (D : CallF) : curF [(0, .p)] (fun args h => denF (C_sync_Mutex_Lock k D) k r_sync_Mutex_Lock [] [] args h) = sync_Mutex_Lock k D := by kernel_rfl
theorem ok_sync_Mutex_Lock {D : CallF} (hD : CSound Try.prog 0 D) (k : Nat) : EntOk Try.prog 0 (e_sync_Mutex_Lock k D) :=
  entOf_ok2 (mkC_sound hD (EntsOk.more (ok_internal_sync_Mutex_Lock hD k) (EntsOk.none))) Try.func104 rfl q_sync_Mutex_Lock rfl (t_sync_Mutex_Lock k D)
end Gb
namespace Gb
open Go Gx Go.Proofs
set_option maxRecDepth 100000
noncomputable def C_sync_atomic_b32 (_k : Nat) (D : CallF) : CallF := mkC D []
noncomputable def sync_atomic_b32 (_k : Nat) (_D : CallF) (b_0 : Bool) (h : AHeap) : Option ((Int) × AHeap) :=
  (if b_0 = true then
  some (1, h)
  else
  some (0, h))
def r_sync_atomic_b32 : RCode := .seq (.region [⟨some 2, .p (.mv (.const (.int .u32 0))), none, none⟩])
  (.seq (.seq (.region [⟨some 3, .p (.mv (.tmp 0)), none, none⟩])
  (.cond (.tmp 3) (.seq (.region [⟨some 2, .p (.mv (.const (.int .u32 1))), none, none⟩])
  (.ret)) (.skip)))
  (.seq (.region [⟨some 2, .p (.mv (.const (.int .u32 0))), none, none⟩])
  (.ret)))
noncomputable def e_sync_atomic_b32 (k : Nat) (D : CallF) : Ent := entOf 111 [(0, .b)] [(2, .i .u32)] (sync_atomic_b32 k D)
theorem q_sync_atomic_b32 : (Try.f111.body).bind (rcodeOf Try.prog 0 Try.f111.ntmps) = some (strip r_sync_atomic_b32) := by kernel_rfl
theorem t_sync_atomic_b32 (k : Nat) (D : CallF) : curF [(0, .b)] (fun args h => denF (C_sync_atomic_b32 k D) k r_sync_atomic_b32 [(2, .i .u32)] [none] args h) = sync_atomic_b32 k D := by kernel_rfl
theorem ok_sync_atomic_b32 {D : CallF} (hD : CSound Try.prog 0 D) (k : Nat) : EntOk Try.prog 0 (e_sync_atomic_b32 k D) :=
  entOf_ok2 (mkC_sound hD (EntsOk.none)) Try.func111 rfl q_sync_atomic_b32 rfl (t_sync_atomic_b32 k D)
end Gb
namespace Gb
open Go Gx Go.Proofs
noncomputable def e_sync_atomic_StoreUint32 (_k : Nat) (_D : CallF) : Ent := eStore 110 .u32
theorem ok_sync_atomic_StoreUint32 {D : CallF} (_hD : CSound Try.prog 0 D) (k : Nat) : EntOk Try.prog 0 (e_sync_atomic_StoreUint32 k D) :=
  store_ok Try.func110 rfl rfl rfl .u32 (by kernel_rfl)
end Gb
namespace Gb
open Go Gx Go.Proofs
set_option maxRecDepth 100000
noncomputable def C_sync_atomic_Bool_Store (k : Nat) (D : CallF) : CallF := mkC D [e_sync_atomic_b32 k D, e_sync_atomic_StoreUint32 k D]
noncomputable def sync_atomic_Bool_Store (k : Nat) (D : CallF) (x_0 : Option Addr) (val_1 : Bool) (h : AHeap) : Option ((Unit) × AHeap) :=
  (sync_atomic_b32 k D val_1 h).bind fun r1 =>
  (x_0).bind fun p2 =>
  (ldI .u32 (⟨p2.block, p2.off + 0, none⟩ : Addr) r1.2).bind fun _ =>
  (st1 (⟨p2.block, p2.off + 0, none⟩ : Addr) (.int .u32 r1.1) r1.2).bind fun h4 =>
  some ((), h4)
def r_sync_atomic_Bool_Store : RCode := .draw [⟨3, ⟨some 7, .p (.mv (.tmp 1)), none, none⟩, [1], 0⟩,
  ⟨4, ⟨some 8, .e (.call (.func 111) [.tmp 7]), none, none⟩, [7], 0⟩,
  ⟨0, ⟨some 4, .p (.mv (.tmp 0)), none, none⟩, [0], 1⟩,
  ⟨1, ⟨some 5, .p (.nilP (.tmp 4)), none, none⟩, [4], 1⟩,
  ⟨2, ⟨some 6, .p (.fieldAddr 0 (.tmp 5)), none, none⟩, [5], 1⟩,
  ⟨5, ⟨some 9, .e (.call (.func 110) [.tmp 6, .tmp 8]), none, none⟩, [6, 8], 0⟩]
noncomputable def e_sync_atomic_Bool_Store (k : Nat) (D : CallF) : Ent := entOf 106 [(0, .p), (1, .b)] [] (sync_atomic_Bool_Store k D)
theorem q_sync_atomic_Bool_Store : (Try.f106.body).bind (rcodeOf Try.prog 0 Try.f106.ntmps) = some (strip r_sync_atomic_Bool_Store) := by kernel_rfl
theorem t_sync_atomic_Bool_Store (k : Nat) (D : CallF) : curF [(0, .p), (1, .b)] (fun args h => denF (C_sync_atomic_Bool_Store k D) k r_sync_atomic_Bool_Store [] [] args h) = sync_atomic_Bool_Store k D := by kernel_rfl
theorem ok_sync_atomic_Bool_Store {D : CallF} (hD : CSound Try.prog 0 D) (k : Nat) : EntOk Try.prog 0 (e_sync_atomic_Bool_Store k D) :=
  entOf_ok2 (mkC_sound hD (EntsOk.more (ok_sync_atomic_b32 hD k) (EntsOk.more (ok_sync_atomic_StoreUint32 hD k) (EntsOk.none)))) Try.func106 rfl q_sync_atomic_Bool_Store rfl (t_sync_atomic_Bool_Store k D)
theorem d_sync_atomic_Bool_Store {D : CallF} (hD : CSound Try.prog 0 D) (k : Nat) : EntD Try.prog 0 (e_sync_atomic_Bool_Store k D) :=
  entOf_okD (mkC_sound hD (EntsOk.more (ok_sync_atomic_b32 hD k) (EntsOk.more (ok_sync_atomic_StoreUint32 hD k) (EntsOk.none)))) Try.func106 rfl q_sync_atomic_Bool_Store rfl (t_sync_atomic_Bool_Store k D)
end Gb
namespace Gb
open Go Gx Go.Proofs
noncomputable def e_sync_atomic_AddInt32 (_k : Nat) (_D : CallF) : Ent := eAdd 119 .i32
theorem ok_sync_atomic_AddInt32 {D : CallF} (_hD : CSound Try.prog 0 D) (k : Nat) : EntOk Try.prog 0 (e_sync_atomic_AddInt32 k D) :=
  add_ok Try.func119 rfl rfl rfl .i32 (by kernel_rfl)
end Gb
namespace Gb
open Go Gx Go.Proofs
noncomputable def e_internal_race_ReleaseMerge (_k : Nat) (_D : CallF) : Ent := eMark1 118
theorem ok_internal_race_ReleaseMerge {D : CallF} (_hD : CSound Try.prog 0 D) (k : Nat) : EntOk Try.prog 0 (e_internal_race_ReleaseMerge k D) :=
  mark1_ok Try.func118 rfl rfl rfl .releaseMerge (by kernel_rfl)
end Gb
namespace Gb
open Go Gx Go.Proofs
set_option maxRecDepth 100000
noncomputable def C_internal_sync_Mutex_Unlock (k : Nat) (D : CallF) : CallF := mkC D [e_sync_atomic_AddInt32 k D, e_internal_race_Enable k D, e_internal_race_ReleaseMerge k D, e_internal_race_Disable k D]
noncomputable def internal_sync_Mutex_Unlock (_k : Nat) (D : CallF) (m_0 : Option Addr) (h : AHeap) : Option ((Unit) × AHeap) :=
  joinK (fun (m1 : Option Addr) (h2 : AHeap) =>
  (m1).bind fun p4 =>
  (ldI .i32 (⟨p4.block, p4.off + 0, none⟩ : Addr) h2).bind fun x5 =>
  (st1 (⟨p4.block, p4.off + 0, none⟩ : Addr) (.int .i32 (IntKind.wrap .i32 (x5 + (-1)))) h2).bind fun h6 =>
  joinK (fun (h7 : AHeap) =>
  some ((), h7)) fun j8 =>
  (if ((IntKind.wrap .i32 (x5 + (-1))) != 0) = true then
  D ((Unit) × AHeap) 120 [.pointer m1, .int .i32 (IntKind.wrap .i32 (x5 + (-1)))] h6 fun _ h10 =>
  j8 h10
  else
  j8 h6)) fun j3 =>
  (m_0).bind fun p11 =>
  (ldI .i32 (⟨p11.block, p11.off + 0, none⟩ : Addr) h).bind fun _x12 =>
  (m_0).bind fun p13 =>
  (AHeap.rd1 h p13.block p13.off).bind fun _ =>
  j3 m_0 h
def r_internal_sync_Mutex_Unlock : RCode := .seq (.join [(0, .p)] (.cond (.const (.bool true)) (.seq (.region [⟨some 3, .p (.mv (.tmp 0)), none, none⟩,
  ⟨some 4, .p (.nilP (.tmp 3)), none, none⟩,
  ⟨some 5, .p (.fieldAddr 0 (.tmp 4)), none, none⟩,
  ⟨some 6, .l (.load (.i .i32) (.tmp 5)), none, none⟩])
  (.seq (.region [⟨some 7, .p (.mv (.tmp 0)), none, none⟩,
  ⟨some 8, .l (.convUP (.tmp 7)), none, none⟩,
  ⟨some 9, .e (.call (.func 118) [.tmp 8]), none, none⟩])
  (.region [⟨some 10, .e (.call (.func 113) []), none, none⟩]))) (.skip)))
  (.seq (.region [⟨some 11, .p (.mv (.tmp 0)), none, none⟩,
  ⟨some 12, .p (.nilP (.tmp 11)), none, none⟩,
  ⟨some 13, .p (.fieldAddr 0 (.tmp 12)), none, none⟩,
  ⟨some 14, .e (.call (.func 119) [.tmp 13, .const (.int .i32 (-1))]), none, none⟩,
  ⟨some 2, .p (.mv (.tmp 14)), none, none⟩])
  (.seq (.join [] (.seq (.region [⟨some 15, .p (.mv (.tmp 2)), none, none⟩,
  ⟨some 16, .p (.bin .neq (.tmp 15) (.const (.int .i32 0))), none, none⟩])
  (.cond (.tmp 16) (.region [⟨some 17, .p (.mv (.tmp 0)), none, none⟩,
  ⟨some 18, .p (.mv (.tmp 2)), none, none⟩,
  ⟨some 19, .e (.call (.func 120) [.tmp 17, .tmp 18]), none, none⟩]) (.skip))))
  (.region [⟨some 20, .e (.call (.func 115) []), none, none⟩])))
noncomputable def e_internal_sync_Mutex_Unlock (k : Nat) (D : CallF) : Ent := entOf 109 [(0, .p)] [] (internal_sync_Mutex_Unlock k D)
theorem q_internal_sync_Mutex_Unlock : (Try.f109.body).bind (rcodeOf Try.prog 0 Try.f109.ntmps) = some (strip r_internal_sync_Mutex_Unlock) := by kernel_rfl
theorem t_internal_sync_Mutex_Unlock (k : Nat) (D : CallF) : curF [(0, .p)] (fun args h => denF (C_internal_sync_Mutex_Unlock k D) k r_internal_sync_Mutex_Unlock [] [] args h) = internal_sync_Mutex_Unlock k D := by kernel_rfl
theorem ok_internal_sync_Mutex_Unlock {D : CallF} (hD : CSound Try.prog 0 D) (k : Nat) : EntOk Try.prog 0 (e_internal_sync_Mutex_Unlock k D) :=
  entOf_ok2 (mkC_sound hD (EntsOk.more (ok_sync_atomic_AddInt32 hD k) (EntsOk.more (ok_internal_race_Enable hD k) (EntsOk.more (ok_internal_race_ReleaseMerge hD k) (EntsOk.more (ok_internal_race_Disable hD k) (EntsOk.none)))))) Try.func109 rfl q_internal_sync_Mutex_Unlock rfl (t_internal_sync_Mutex_Unlock k D)
end Gb
namespace Gb
open Go Gx Go.Proofs
set_option maxRecDepth 100000
noncomputable def C_sync_Mutex_Unlock (k : Nat) (D : CallF) : CallF := mkC D [e_internal_sync_Mutex_Unlock k D]
noncomputable def sync_Mutex_Unlock (k : Nat) (D : CallF) (m_0 : Option Addr) (h : AHeap) : Option ((Unit) × AHeap) :=
  (m_0).bind fun p1 =>
  (internal_sync_Mutex_Unlock k D (some (⟨p1.block, p1.off + 0, none⟩ : Addr)) h).bind fun r2 =>
  some ((), r2.2)
def r_sync_Mutex_Unlock : RCode := .region [⟨some 2, .p (.mv (.tmp 0)), none, none⟩,
  ⟨some 3, .p (.nilP (.tmp 2)), none, none⟩,
  ⟨some 4, .p (.fieldAddr 0 (.tmp 3)), none, none⟩,
  ⟨some 5, .e (.call (.func 109) [.tmp 4]), none, none⟩]
noncomputable def e_sync_Mutex_Unlock (k : Nat) (D : CallF) : Ent := entOf 105 [(0, .p)] [] (sync_Mutex_Unlock k D)
theorem q_sync_Mutex_Unlock : (Try.f105.body).bind (rcodeOf Try.prog 0 Try.f105.ntmps) = some (strip r_sync_Mutex_Unlock) := by kernel_rfl
theorem t_sync_Mutex_Unlock (k : Nat) (D : CallF) : curF [(0, .p)] (fun args h => denF (C_sync_Mutex_Unlock k D) k r_sync_Mutex_Unlock [] [] args h) = sync_Mutex_Unlock k D := by kernel_rfl
theorem ok_sync_Mutex_Unlock {D : CallF} (hD : CSound Try.prog 0 D) (k : Nat) : EntOk Try.prog 0 (e_sync_Mutex_Unlock k D) :=
  entOf_ok2 (mkC_sound hD (EntsOk.more (ok_internal_sync_Mutex_Unlock hD k) (EntsOk.none))) Try.func105 rfl q_sync_Mutex_Unlock rfl (t_sync_Mutex_Unlock k D)
theorem d_sync_Mutex_Unlock {D : CallF} (hD : CSound Try.prog 0 D) (k : Nat) : EntD Try.prog 0 (e_sync_Mutex_Unlock k D) :=
  entOf_okD (mkC_sound hD (EntsOk.more (ok_internal_sync_Mutex_Unlock hD k) (EntsOk.none))) Try.func105 rfl q_sync_Mutex_Unlock rfl (t_sync_Mutex_Unlock k D)
end Gb
namespace Gb
open Go Gx Go.Proofs
set_option maxRecDepth 100000
noncomputable def C_sync_Once_doSlow (k : Nat) (D : CallF) : CallF := mkC D [e_sync_Mutex_Lock k D, e_sync_atomic_Bool_Load k D, e_sync_atomic_Bool_Store k D, e_sync_Mutex_Unlock k D]
noncomputable def sync_Once_doSlow (k : Nat) (D : CallF) (a_0 : Option Addr) (a_1 : Value) (h : AHeap) : Option (Unit × AHeap) :=
  (a_0).bind fun p1 =>
  (sync_Mutex_Lock k D (some (⟨p1.block, p1.off + 1, none⟩ : Addr)) h).bind fun r2 =>
  (a_0).bind fun p3 =>
  (a_0).bind fun p4 =>
  (sync_atomic_Bool_Load k D (some (⟨p4.block, p4.off + 0, none⟩ : Addr)) r2.2).bind fun r5 =>
  (if (!r5.1) = true then
  (a_0).bind fun p6 =>
  callD (C_sync_Once_doSlow k D) a_1 [] r5.2 fun _ h8 =>
  (sync_atomic_Bool_Store k D (some (⟨p6.block, p6.off + 0, none⟩ : Addr)) true h8).bind fun r9 =>
  (sync_Mutex_Unlock k D (some (⟨p3.block, p3.off + 1, none⟩ : Addr)) r9.2).bind fun r10 =>
  some ((), r10.2)
  else none)
def r_sync_Once_doSlow : OnceC := ⟨98, [⟨some 4, .p (.mv (.tmp 0)), none, none⟩, ⟨some 5, .p (.nilP (.tmp 4)), none, none⟩, ⟨some 6, .p (.fieldAddr 1 (.tmp 5)), none, none⟩, ⟨some 7, .e (.call (.func 104) [.tmp 6]), none, none⟩], [⟨some 8, .p (.mv (.tmp 0)), none, none⟩, ⟨some 9, .p (.nilP (.tmp 8)), none, none⟩, ⟨some 10, .p (.fieldAddr 1 (.tmp 9)), none, none⟩], 105, [.tmp 10], [⟨some 11, .p (.mv (.tmp 0)), none, none⟩, ⟨some 12, .p (.nilP (.tmp 11)), none, none⟩, ⟨some 13, .p (.fieldAddr 0 (.tmp 12)), none, none⟩, ⟨some 14, .e (.call (.func 97) [.tmp 13]), none, none⟩, ⟨some 15, .p (.un .not (.tmp 14)), none, none⟩], 15, [⟨some 16, .p (.mv (.tmp 0)), none, none⟩, ⟨some 17, .p (.nilP (.tmp 16)), none, none⟩, ⟨some 18, .p (.fieldAddr 0 (.tmp 17)), none, none⟩], 106, [.tmp 18, .const (.bool true)], [⟨some 19, .p (.mv (.tmp 1)), none, none⟩, ⟨some 20, .e (.call (.tmp 19) []), none, none⟩]⟩
noncomputable def e_sync_Once_doSlow (k : Nat) (D : CallF) : Ent := entOf 98 [(0, .p), (1, .v)] [] (sync_Once_doSlow k D)
theorem q_sync_Once_doSlow : (Try.f98.body).bind (onceOf Try.prog 0 Try.f98.ntmps r_sync_Once_doSlow.id) = some (stripOnce r_sync_Once_doSlow) := by kernel_rfl
theorem t_sync_Once_doSlow (k : Nat) (D : CallF) : curF [(0, .p), (1, .v)] (fun args h => (eOnce (C_sync_Once_doSlow k D) r_sync_Once_doSlow (e_sync_Mutex_Unlock k D) (e_sync_atomic_Bool_Store k D)).run (Unit × AHeap) args h fun v h => match v with | .tuple ⟨[]⟩ => some ((), h) | _ => none) = sync_Once_doSlow k D := by kernel_rfl
theorem ok_sync_Once_doSlow {D : CallF} (hD : CSound Try.prog 0 D) (k : Nat) : EntOk Try.prog 0 (e_sync_Once_doSlow k D) :=
  entOk_unit (once_ok (mkC_sound hD (EntsOk.more (ok_sync_Mutex_Lock hD k) (EntsOk.more (ok_sync_atomic_Bool_Load hD k) (EntsOk.more (ok_sync_atomic_Bool_Store hD k) (EntsOk.more (ok_sync_Mutex_Unlock hD k) (EntsOk.none)))))) Try.func98 rfl rfl (onceOf_some q_sync_Once_doSlow) (d_sync_Mutex_Unlock hD k) (d_sync_atomic_Bool_Store hD k) rfl rfl) (t_sync_Once_doSlow k D)
end Gb
namespace Gb
open Go Gx Go.Proofs
set_option maxRecDepth 100000
noncomputable def C_sync_Once_Do (k : Nat) (D : CallF) : CallF := mkC D [e_sync_atomic_Bool_Load k D, e_sync_Once_doSlow k D]
noncomputable def sync_Once_Do (k : Nat) (D : CallF) (o_0 : Option Addr) (f_1 : Value) (h : AHeap) : Option ((Unit) × AHeap) :=
  (o_0).bind fun p1 =>
  (sync_atomic_Bool_Load k D (some (⟨p1.block, p1.off + 0, none⟩ : Addr)) h).bind fun r2 =>
  (if (!r2.1) = true then
  (sync_Once_doSlow k D o_0 f_1 r2.2).bind fun r3 =>
  some ((), r3.2)
  else
  some ((), r2.2))
def r_sync_Once_Do : RCode := .seq (.region [⟨some 4, .p (.mv (.tmp 0)), none, none⟩,
  ⟨some 5, .p (.nilP (.tmp 4)), none, none⟩,
  ⟨some 6, .p (.fieldAddr 0 (.tmp 5)), none, none⟩,
  ⟨some 7, .e (.call (.func 97) [.tmp 6]), none, none⟩,
  ⟨some 8, .p (.un .not (.tmp 7)), none, none⟩])
  (.cond (.tmp 8) (.region [⟨some 9, .p (.mv (.tmp 0)), none, none⟩,
  ⟨some 10, .p (.mv (.tmp 1)), none, none⟩,
  ⟨some 11, .e (.call (.func 98) [.tmp 9, .tmp 10]), none, none⟩]) (.skip))
noncomputable def e_sync_Once_Do (k : Nat) (D : CallF) : Ent := entOf 85 [(0, .p), (1, .v)] [] (sync_Once_Do k D)
theorem q_sync_Once_Do : (Try.f85.body).bind (rcodeOf Try.prog 0 Try.f85.ntmps) = some (strip r_sync_Once_Do) := by kernel_rfl
theorem t_sync_Once_Do (k : Nat) (D : CallF) : curF [(0, .p), (1, .v)] (fun args h => denF (C_sync_Once_Do k D) k r_sync_Once_Do [] [] args h) = sync_Once_Do k D := by kernel_rfl
theorem ok_sync_Once_Do {D : CallF} (hD : CSound Try.prog 0 D) (k : Nat) : EntOk Try.prog 0 (e_sync_Once_Do k D) :=
  entOf_ok2 (mkC_sound hD (EntsOk.more (ok_sync_atomic_Bool_Load hD k) (EntsOk.more (ok_sync_Once_doSlow hD k) (EntsOk.none)))) Try.func85 rfl q_sync_Once_Do rfl (t_sync_Once_Do k D)
end Gb
namespace Gb
open Go Gx Go.Proofs
set_option maxRecDepth 100000
noncomputable def C_field_Field_tables (k : Nat) (D : CallF) : CallF := mkC D [e_sync_Once_Do k D]
noncomputable def field_Field_tables (k : Nat) (D : CallF) (f_0 : Option Addr) (h : AHeap) : Option (((Option Addr)) × AHeap) :=
  (f_0).bind fun p1 =>
  (sync_Once_Do k D (some (⟨p1.block, p1.off + 0, none⟩ : Addr)) (.func (.func 86) ⟨[.pointer f_0]⟩ ⟨[]⟩) h).bind fun r2 =>
  (f_0).bind fun p3 =>
  some ((some (⟨p3.block, p3.off + 3, none⟩ : Addr)), r2.2)
def r_field_Field_tables : RCode := .seq (.region [⟨some 2, .p (.mv (.const (.pointer none))), none, none⟩])
  (.seq (.region [⟨some 3, .p (.mv (.tmp 0)), none, none⟩,
  ⟨some 4, .p (.nilP (.tmp 3)), none, none⟩,
  ⟨some 5, .p (.fieldAddr 0 (.tmp 4)), none, none⟩,
  ⟨some 6, .p (.mv (.tmp 0)), none, none⟩,
  ⟨some 7, .p (.mkFunc 86 [.tmp 6] []), none, none⟩,
  ⟨some 8, .e (.call (.func 85) [.tmp 5, .tmp 7]), none, none⟩])
  (.seq (.region [⟨some 9, .p (.mv (.tmp 0)), none, none⟩,
  ⟨some 10, .p (.nilP (.tmp 9)), none, none⟩,
  ⟨some 11, .p (.fieldAddr 3 (.tmp 10)), none, none⟩,
  ⟨some 2, .p (.mv (.tmp 11)), none, none⟩])
  (.ret)))
noncomputable def e_field_Field_tables (k : Nat) (D : CallF) : Ent := entOf 70 [(0, .p)] [(2, .p)] (field_Field_tables k D)
theorem q_field_Field_tables : (Try.f70.body).bind (rcodeOf Try.prog 0 Try.f70.ntmps) = some (strip r_field_Field_tables) := by kernel_rfl
theorem t_field_Field_tables (k : Nat) (D : CallF) : curF [(0, .p)] (fun args h => denF (C_field_Field_tables k D) k r_field_Field_tables [(2, .p)] [none] args h) = field_Field_tables k D := by kernel_rfl
theorem ok_field_Field_tables {D : CallF} (hD : CSound Try.prog 0 D) (k : Nat) : EntOk Try.prog 0 (e_field_Field_tables k D) :=
  entOf_ok2 (mkC_sound hD (EntsOk.more (ok_sync_Once_Do hD k) (EntsOk.none))) Try.func70 rfl q_field_Field_tables rfl (t_field_Field_tables k D)
end Gb
namespace Gb
open Go Gx Go.Proofs
set_option maxRecDepth 100000
noncomputable def C_field_Field_Div (k : Nat) (D : CallF) : CallF := mkC D [e_field_is k D, e_field_Field_tables k D]
noncomputable def field_Field_Div (k : Nat) (D : CallF) (f_0 : Option Addr) (a_1 : Int) (b_2 : Int) (h : AHeap) : Option ((Int × Int) × AHeap) :=
  let h1 := AHeap.new h (.cells [.int .i64 a_1, .int .i64 b_2] 3 true 0)
  (field_is k D (⟨(some ⟨h.next, 0, some 0⟩), 2, 2⟩ : Slc) h1).bind fun r2 =>
  (if (!r2.1) = true then
  some ((0, 1), r2.2)
  else
  (if (b_2 == 0) = true then
  some ((0, 30), r2.2)
  else
  (if (a_1 == 0) = true then
  some ((0, 0), r2.2)
  else
  (field_Field_tables k D f_0 r2.2).bind fun r3 =>
  (r3.1).bind fun p4 =>
  (Gx.idxA 256 1 (⟨p4.block, p4.off + 510, none⟩ : Addr) a_1).bind fun q5 =>
  (ldI .i64 q5 r3.2).bind fun x6 =>
  (r3.1).bind fun p7 =>
  (Gx.idxA 256 1 (⟨p7.block, p7.off + 510, none⟩ : Addr) b_2).bind fun q8 =>
  (ldI .i64 q8 r3.2).bind fun x9 =>
  (r3.1).bind fun p10 =>
  (Gx.idxA 510 1 (⟨p10.block, p10.off + 0, none⟩ : Addr) (IntKind.wrap .i64 ((IntKind.wrap .i64 (x6 + 255)) - x9))).bind fun q11 =>
  (ldI .u8 q11 r3.2).bind fun x12 =>
  some (((IntKind.wrap .i64 x12), 0), r3.2))))
def r_field_Field_Div : RCode := .seq (.region [⟨some 6, .p (.mv (.const (.int .i64 0))), none, none⟩,
  ⟨some 7, .p (.mv (.const (.int .i64 0))), none, none⟩])
  (.seq (.block 0 (.seq (.region [⟨some 10, .p (.mv (.tmp 1)), none, none⟩,
  ⟨some 11, .p (.mv (.tmp 2)), none, none⟩,
  ⟨some 12, .a (.buildSlice 3 2 (zerosL 2 [.int .i64 0]) [(0, 1, .tmp 10), (1, 1, .tmp 11)]), none, none⟩,
  ⟨some 13, .e (.call (.func 69) [.tmp 12]), none, none⟩,
  ⟨some 14, .p (.un .not (.tmp 13)), none, none⟩,
  ⟨some 9, .p (.mv (.tmp 14)), none, none⟩])
  (.cond (.tmp 9) (.seq (.region [⟨some 6, .p (.mv (.const (.int .i64 0))), none, none⟩,
  ⟨some 7, .p (.mv (.const (.int .i64 1))), none, none⟩])
  (.ret)) (.seq (.region [⟨some 16, .p (.mv (.tmp 2)), none, none⟩,
  ⟨some 17, .p (.bin .eql (.tmp 16) (.const (.int .i64 0))), none, none⟩,
  ⟨some 15, .p (.mv (.tmp 17)), none, none⟩])
  (.cond (.tmp 15) (.seq (.region [⟨some 6, .p (.mv (.const (.int .i64 0))), none, none⟩,
  ⟨some 7, .p (.mv (.const (.int .i64 30))), none, none⟩])
  (.ret)) (.seq (.region [⟨some 19, .p (.mv (.tmp 1)), none, none⟩,
  ⟨some 20, .p (.bin .eql (.tmp 19) (.const (.int .i64 0))), none, none⟩,
  ⟨some 18, .p (.mv (.tmp 20)), none, none⟩])
  (.cond (.tmp 18) (.seq (.region [⟨some 6, .p (.mv (.const (.int .i64 0))), none, none⟩,
  ⟨some 7, .p (.mv (.const (.int .i64 0))), none, none⟩])
  (.ret)) (.skip))))))))
  (.seq (.region [⟨some 21, .p (.mv (.tmp 0)), none, none⟩,
  ⟨some 22, .e (.call (.func 70) [.tmp 21]), none, none⟩,
  ⟨some 8, .p (.mv (.tmp 22)), none, none⟩])
  (.seq (.draw [⟨0, ⟨some 23, .p (.mv (.tmp 8)), none, none⟩, [8], 0⟩,
  ⟨1, ⟨some 24, .p (.mv (.tmp 8)), none, none⟩, [8], 0⟩,
  ⟨2, ⟨some 25, .p (.mv (.tmp 1)), none, none⟩, [1], 0⟩,
  ⟨3, ⟨some 26, .p (.nilP (.tmp 24)), none, none⟩, [24], 0⟩,
  ⟨4, ⟨some 27, .p (.fieldAddr 510 (.tmp 26)), none, none⟩, [26], 0⟩,
  ⟨5, ⟨some 28, .p (.idxA 256 1 (.tmp 27) (.tmp 25)), none, none⟩, [27, 25], 0⟩,
  ⟨6, ⟨some 29, .l (.load (.i .i64) (.tmp 28)), none, none⟩, [28], 0⟩,
  ⟨7, ⟨some 30, .p (.bin .add (.tmp 29) (.const (.int .i64 255))), none, none⟩, [29], 0⟩,
  ⟨8, ⟨some 31, .p (.mv (.tmp 8)), none, none⟩, [8], 0⟩,
  ⟨9, ⟨some 32, .p (.mv (.tmp 2)), none, none⟩, [2], 0⟩,
  ⟨10, ⟨some 33, .p (.nilP (.tmp 31)), none, none⟩, [31], 0⟩,
  ⟨11, ⟨some 34, .p (.fieldAddr 510 (.tmp 33)), none, none⟩, [33], 0⟩,
  ⟨12, ⟨some 35, .p (.idxA 256 1 (.tmp 34) (.tmp 32)), none, none⟩, [34, 32], 0⟩,
  ⟨13, ⟨some 36, .l (.load (.i .i64) (.tmp 35)), none, none⟩, [35], 0⟩,
  ⟨14, ⟨some 37, .p (.bin .sub (.tmp 30) (.tmp 36)), none, none⟩, [30, 36], 0⟩,
  ⟨15, ⟨some 38, .p (.nilP (.tmp 23)), none, none⟩, [23], 0⟩,
  ⟨16, ⟨some 39, .p (.fieldAddr 0 (.tmp 38)), none, none⟩, [38], 0⟩,
  ⟨17, ⟨some 40, .p (.idxA 510 1 (.tmp 39) (.tmp 37)), none, none⟩, [39, 37], 0⟩,
  ⟨18, ⟨some 41, .l (.load (.i .u8) (.tmp 40)), none, none⟩, [40], 0⟩,
  ⟨19, ⟨some 42, .p (.convI .i64 (.tmp 41)), none, none⟩, [41], 0⟩,
  ⟨20, ⟨some 6, .p (.mv (.tmp 42)), none, none⟩, [42], 0⟩,
  ⟨21, ⟨some 7, .p (.mv (.const (.int .i64 0))), none, none⟩, [], 0⟩])
  (.ret))))
noncomputable def e_field_Field_Div (k : Nat) (D : CallF) : Ent := entOf 62 [(0, .p), (1, .i .i64), (2, .i .i64)] [(6, .i .i64), (7, .i .i64)] (field_Field_Div k D)
theorem q_field_Field_Div : (Try.f62.body).bind (rcodeOf Try.prog 0 Try.f62.ntmps) = some (strip r_field_Field_Div) := by kernel_rfl
theorem t_field_Field_Div (k : Nat) (D : CallF) : curF [(0, .p), (1, .i .i64), (2, .i .i64)] (fun args h => denF (C_field_Field_Div k D) k r_field_Field_Div [(6, .i .i64), (7, .i .i64)] [none, none] args h) = field_Field_Div k D := by kernel_rfl
theorem ok_field_Field_Div {D : CallF} (hD : CSound Try.prog 0 D) (k : Nat) : EntOk Try.prog 0 (e_field_Field_Div k D) :=
  entOf_ok2 (mkC_sound hD (EntsOk.more (ok_field_is hD k) (EntsOk.more (ok_field_Field_tables hD k) (EntsOk.none)))) Try.func62 rfl q_field_Field_Div rfl (t_field_Field_Div k D)
end Gb
namespace Gb
open Go Gx Go.Proofs
set_option maxRecDepth 100000
noncomputable def C_matrix_Space_Cauchy (k : Nat) (D : CallF) : CallF := mkC D [e_matrix_blank k D, e_matrix_M_row k D, e_field_Field_Div k D]
noncomputable def matrix_Space_Cauchy_l1b (k : Nat) (D : CallF) (j44 : (Option Addr) → Int → (Option Addr) → (Option Addr) → Int → Int → AHeap → Option (((Int × Int × Slc) × Int) × AHeap)) (rec55 : (Option Addr) → Int → (Option Addr) → (Option Addr) → Int → Int → Int → Int → Int → AHeap → Option (((Int × Int × Slc) × Int) × AHeap)) (s45 : Option Addr) (kv46 : Int) (y47 : Option Addr) (out48 : Option Addr) (i49 : Int) (y50 : Int) (y51 : Int) (y52 : Int) (y53 : Int) (h54 : AHeap) : Option (((Int × Int × Slc) × Int) × AHeap) :=
  (if (decide (y53 < y52)) = true then
  joinK (fun (s56 : Option Addr) (kv57 : Int) (y58 : Option Addr) (out59 : Option Addr) (i60 : Int) (y61 : Int) (y62 : Int) (y63 : Int) (y64 : Int) (h65 : AHeap) =>
  rec55 s56 kv57 y58 out59 i60 y61 y62 y63 (IntKind.wrap .i64 (y64 + 1)) h65) fun j66 =>
  joinK (fun (s67 : Option Addr) (kv68 : Int) (y69 : Option Addr) (out70 : Option Addr) (i71 : Int) (j72 : Int) (y73 : Int) (y74 : Int) (y75 : Int) (y76 : Int) (y77 : Bool) (h78 : AHeap) =>
  (if y77 = true then
  (out70).bind fun p80 =>
  (ldA 3 p80 h78).bind fun l81 =>
  (decC [.i .i64, .i .i64, .l] l81).bind fun x82 =>
  (matrix_M_row k D (x82.1, x82.2.1, x82.2.2) i71 h78).bind fun r83 =>
  (Gx.idxL 1 r83.1 j72).bind fun q84 =>
  (st1 q84 (.int .i64 1) r83.2).bind fun h85 =>
  j66 s67 kv68 y69 out70 i71 y73 y74 y75 y76 h85
  else
  (if (decide (i71 ≥ kv68)) = true then
  (out70).bind fun p86 =>
  (ldA 3 p86 h78).bind fun l87 =>
  (decC [.i .i64, .i .i64, .l] l87).bind fun x88 =>
  (matrix_M_row k D (x88.1, x88.2.1, x88.2.2) i71 h78).bind fun r89 =>
  (s67).bind fun p90 =>
  (ldP (⟨p90.block, p90.off + 0, none⟩ : Addr) r89.2).bind fun x91 =>
  guardP (SameW [h78] (fun H93 => (ldP (⟨p90.block, p90.off + 0, none⟩ : Addr) H93).bind fun y92 => some (.pointer y92)) (.pointer x91)) (
  (field_Field_Div k D x91 1 (Go.bits .xor .i64 i71 j72) r89.2).bind fun r94 =>
  (Gx.idxL 1 r89.1 j72).bind fun q95 =>
  (st1 q95 (.int .i64 r94.1.1) r94.2).bind fun h96 =>
  j66 s67 kv68 y69 out70 i71 y73 y74 y75 y76 h96)
  else
  j66 s67 kv68 y69 out70 i71 y73 y74 y75 y76 h78))) fun j79 =>
  (if (decide (i49 < kv46)) = true then
  j79 s45 kv46 y47 out48 i49 y53 y50 y51 y52 y53 (i49 == y53) h54
  else
  j79 s45 kv46 y47 out48 i49 y53 y50 y51 y52 y53 false h54)
  else
  j44 s45 kv46 y47 out48 y50 y51 h54)
noncomputable def matrix_Space_Cauchy_l1 (k : Nat) (D : CallF) (j44 : (Option Addr) → Int → (Option Addr) → (Option Addr) → Int → Int → AHeap → Option (((Int × Int × Slc) × Int) × AHeap)) : (Option Addr) → Int → (Option Addr) → (Option Addr) → Int → Int → Int → Int → Int → AHeap → Option (((Int × Int × Slc) × Int) × AHeap) :=
  iterK (α := (Option Addr) → Int → (Option Addr) → (Option Addr) → Int → Int → Int → Int → Int → AHeap → Option (((Int × Int × Slc) × Int) × AHeap)) (fun _ _ _ _ _ _ _ _ _ _ => none) k (matrix_Space_Cauchy_l1b k D j44)
noncomputable def matrix_Space_Cauchy_l0b (k : Nat) (D : CallF) (j20 : (Option Addr) → (Option Addr) → AHeap → Option (((Int × Int × Slc) × Int) × AHeap)) (rec36 : (Option Addr) → Int → (Option Addr) → (Option Addr) → Int → Int → AHeap → Option (((Int × Int × Slc) × Int) × AHeap)) (s29 : Option Addr) (kv30 : Int) (y31 : Option Addr) (out32 : Option Addr) (y33 : Int) (y34 : Int) (h35 : AHeap) : Option (((Int × Int × Slc) × Int) × AHeap) :=
  (if (decide (y34 < y33)) = true then
  joinK (fun (s37 : Option Addr) (kv38 : Int) (y39 : Option Addr) (out40 : Option Addr) (y41 : Int) (y42 : Int) (h43 : AHeap) =>
  rec36 s37 kv38 y39 out40 y41 (IntKind.wrap .i64 (y42 + 1)) h43) fun j44 =>
  matrix_Space_Cauchy_l1 k D j44 s29 kv30 y31 out32 y34 y33 y34 kv30 0 h35
  else
  j20 y31 out32 h35)
noncomputable def matrix_Space_Cauchy_l0 (k : Nat) (D : CallF) (j20 : (Option Addr) → (Option Addr) → AHeap → Option (((Int × Int × Slc) × Int) × AHeap)) : (Option Addr) → Int → (Option Addr) → (Option Addr) → Int → Int → AHeap → Option (((Int × Int × Slc) × Int) × AHeap) :=
  iterK (α := (Option Addr) → Int → (Option Addr) → (Option Addr) → Int → Int → AHeap → Option (((Int × Int × Slc) × Int) × AHeap)) (fun _ _ _ _ _ _ _ => none) k (matrix_Space_Cauchy_l0b k D j20)
noncomputable def matrix_Space_Cauchy (k : Nat) (D : CallF) (s_0 : Option Addr) (k_1 : Int) (m_2 : Int) (h : AHeap) : Option (((Int × Int × Slc) × Int) × AHeap) :=
  let h1 := AHeap.new h (.cells [.int .i64 0, .int .i64 0, .slice none 0 0] 84 true 0)
  joinK (fun (s2 : Option Addr) (kv3 : Int) (m4 : Int) (y5 : Option Addr) (y6 : Bool) (h7 : AHeap) =>
  (if y6 = true then
  (y5).bind fun p9 =>
  (stL 3 p9 ([.int .i64 0, .int .i64 0, .slice none 0 0]) h7).bind fun h10 =>
  (y5).bind fun p11 =>
  (ldA 3 p11 h10).bind fun l12 =>
  (decC [.i .i64, .i .i64, .l] l12).bind fun x13 =>
  some (((x13.1, x13.2.1, x13.2.2), 1), h10)
  else
  (matrix_blank k D (IntKind.wrap .i64 (kv3 + m4)) kv3 h7).bind fun r14 =>
  let h15 := AHeap.new r14.2 (.cells [.int .i64 0, .int .i64 0, .slice none 0 0] 84 true 0)
  (stL 3 (⟨r14.2.next, 0, none⟩ : Addr) ([.int .i64 r14.1.1, .int .i64 r14.1.2.1, .slice r14.1.2.2.a r14.1.2.2.len r14.1.2.2.cap]) h15).bind fun h16 =>
  joinK (fun (y17 : Option Addr) (out18 : Option Addr) (h19 : AHeap) =>
  (out18).bind fun p21 =>
  (ldA 3 p21 h19).bind fun l22 =>
  (decC [.i .i64, .i .i64, .l] l22).bind fun x23 =>
  (y17).bind fun p24 =>
  (stL 3 p24 ([.int .i64 x23.1, .int .i64 x23.2.1, .slice x23.2.2.a x23.2.2.len x23.2.2.cap]) h19).bind fun h25 =>
  (y17).bind fun p26 =>
  (ldA 3 p26 h25).bind fun l27 =>
  (decC [.i .i64, .i .i64, .l] l27).bind fun x28 =>
  some (((x28.1, x28.2.1, x28.2.2), 0), h25)) fun j20 =>
  matrix_Space_Cauchy_l0 k D j20 s2 kv3 y5 (some (⟨r14.2.next, 0, none⟩ : Addr)) (IntKind.wrap .i64 (kv3 + m4)) 0 h16)) fun j8 =>
  (if (decide (k_1 < 1)) = true then
  j8 s_0 k_1 m_2 (some (⟨h.next, 0, none⟩ : Addr)) true h1
  else
  (if (decide (m_2 < 0)) = true then
  j8 s_0 k_1 m_2 (some (⟨h.next, 0, none⟩ : Addr)) true h1
  else
  (if (decide (k_1 > 255)) = true then
  j8 s_0 k_1 m_2 (some (⟨h.next, 0, none⟩ : Addr)) true h1
  else
  j8 s_0 k_1 m_2 (some (⟨h.next, 0, none⟩ : Addr)) (decide (m_2 > (IntKind.wrap .i64 (255 - k_1)))) h1)))
def r_matrix_Space_Cauchy : RCode := .seq (.region [⟨some 6, .a (.alloc 84 [.int .i64 0, .int .i64 0, .slice none 0 0]), none, none⟩,
  ⟨some 7, .p (.mv (.const (.int .i64 0))), none, none⟩])
  (.seq (.seq (.join [(0, .p), (1, .i .i64), (2, .i .i64), (6, .p), (26, .b)] (.region [⟨some 11, .p (.mv (.tmp 1)), none, none⟩,
  ⟨some 12, .p (.bin .lss (.tmp 11) (.const (.int .i64 1))), none, none⟩,
  ⟨some 13, .p (.mv (.tmp 12)), none, none⟩,
  ⟨some 14, .p (.mv (.tmp 2)), (some (13, false)), none⟩,
  ⟨some 15, .p (.bin .lss (.tmp 14) (.const (.int .i64 0))), (some (13, false)), none⟩,
  ⟨some 16, .p (.pick (.tmp 13) (.const (.bool true)) (.tmp 15)), none, none⟩,
  ⟨some 17, .p (.mv (.tmp 16)), none, none⟩,
  ⟨some 18, .p (.mv (.tmp 1)), (some (17, false)), none⟩,
  ⟨some 19, .p (.bin .gtr (.tmp 18) (.const (.int .i64 255))), (some (17, false)), none⟩,
  ⟨some 20, .p (.pick (.tmp 17) (.const (.bool true)) (.tmp 19)), none, none⟩,
  ⟨some 21, .p (.mv (.tmp 20)), none, none⟩,
  ⟨some 22, .p (.mv (.tmp 2)), (some (21, false)), none⟩,
  ⟨some 23, .p (.mv (.tmp 1)), (some (21, false)), none⟩,
  ⟨some 24, .p (.bin .sub (.const (.int .i64 255)) (.tmp 23)), (some (21, false)), none⟩,
  ⟨some 25, .p (.bin .gtr (.tmp 22) (.tmp 24)), (some (21, false)), none⟩,
  ⟨some 26, .p (.pick (.tmp 21) (.const (.bool true)) (.tmp 25)), none, none⟩]))
  (.cond (.tmp 26) (.seq (.region [⟨some 27, .p (.build [.int .i64 0, .int .i64 0, .slice none 0 0] []), none, none⟩,
  ⟨none, .e (.store (some 3) (.tmp 6) (.tmp 27)), none, none⟩,
  ⟨some 7, .p (.mv (.const (.int .i64 1))), none, none⟩])
  (.ret)) (.skip)))
  (.seq (.region [⟨some 28, .p (.mv (.tmp 1)), none, none⟩,
  ⟨some 29, .p (.mv (.tmp 2)), none, none⟩,
  ⟨some 30, .p (.bin .add (.tmp 28) (.tmp 29)), none, none⟩,
  ⟨some 31, .p (.mv (.tmp 1)), none, none⟩,
  ⟨some 32, .e (.call (.func 60) [.tmp 30, .tmp 31]), none, none⟩,
  ⟨some 8, .a (.alloc 84 [.int .i64 0, .int .i64 0, .slice none 0 0]), none, none⟩,
  ⟨none, .e (.store (some 3) (.tmp 8) (.tmp 32)), none, none⟩])
  (.seq (.join [(6, .p), (8, .p)] (.seq (.region [⟨some 33, .p (.mv (.tmp 1)), none, none⟩,
  ⟨some 34, .p (.mv (.tmp 2)), none, none⟩,
  ⟨some 35, .p (.bin .add (.tmp 33) (.tmp 34)), none, none⟩,
  ⟨some 36, .p (.mv (.const (.int .i64 0))), none, none⟩])
  (.block 0 (.loop [(0, .p), (1, .i .i64), (6, .p), (8, .p), (35, .i .i64), (36, .i .i64)] (.seq (.region [⟨some 37, .p (.bin .lss (.tmp 36) (.tmp 35)), none, none⟩])
  (.seq (.cond (.tmp 37) (.skip) (.exit 0))
  (.seq (.join [(0, .p), (1, .i .i64), (6, .p), (8, .p), (35, .i .i64), (36, .i .i64)] (.block 1 (.seq (.region [⟨some 38, .p (.mv (.tmp 36)), none, none⟩,
  ⟨some 9, .p (.mv (.tmp 38)), none, none⟩])
  (.seq (.region [⟨some 39, .p (.mv (.tmp 1)), none, none⟩,
  ⟨some 40, .p (.mv (.const (.int .i64 0))), none, none⟩])
  (.block 2 (.loop [(0, .p), (1, .i .i64), (6, .p), (8, .p), (9, .i .i64), (35, .i .i64), (36, .i .i64), (39, .i .i64), (40, .i .i64)] (.seq (.region [⟨some 41, .p (.bin .lss (.tmp 40) (.tmp 39)), none, none⟩])
  (.seq (.cond (.tmp 41) (.skip) (.exit 2))
  (.seq (.join [(0, .p), (1, .i .i64), (6, .p), (8, .p), (9, .i .i64), (35, .i .i64), (36, .i .i64), (39, .i .i64), (40, .i .i64)] (.block 3 (.seq (.region [⟨some 42, .p (.mv (.tmp 40)), none, none⟩,
  ⟨some 10, .p (.mv (.tmp 42)), none, none⟩])
  (.block 4 (.seq (.join [(0, .p), (1, .i .i64), (6, .p), (8, .p), (9, .i .i64), (10, .i .i64), (35, .i .i64), (36, .i .i64), (39, .i .i64), (40, .i .i64), (43, .b)] (.region [⟨some 44, .p (.mv (.tmp 9)), none, none⟩,
  ⟨some 45, .p (.mv (.tmp 1)), none, none⟩,
  ⟨some 46, .p (.bin .lss (.tmp 44) (.tmp 45)), none, none⟩,
  ⟨some 47, .p (.mv (.tmp 46)), none, none⟩,
  ⟨some 48, .p (.mv (.tmp 9)), (some (47, true)), none⟩,
  ⟨some 49, .p (.mv (.tmp 10)), (some (47, true)), none⟩,
  ⟨some 50, .p (.bin .eql (.tmp 48) (.tmp 49)), (some (47, true)), none⟩,
  ⟨some 51, .p (.pick (.tmp 47) (.tmp 50) (.const (.bool false))), none, none⟩,
  ⟨some 43, .p (.mv (.tmp 51)), none, none⟩]))
  (.cond (.tmp 43) (.region [⟨some 52, .l (.load (.agg 3) (.tmp 8)), none, some (.st [.i .i64, .i .i64, .l])⟩,
  ⟨some 53, .p (.mv (.tmp 9)), none, none⟩,
  ⟨some 54, .e (.call (.func 61) [.tmp 52, .tmp 53]), none, none⟩,
  ⟨some 55, .p (.mv (.tmp 10)), none, none⟩,
  ⟨some 56, .p (.idxL 1 (.tmp 54) (.tmp 55)), none, none⟩,
  ⟨none, .e (.store none (.tmp 56) (.const (.int .i64 1))), none, none⟩]) (.seq (.region [⟨some 58, .p (.mv (.tmp 9)), none, none⟩,
  ⟨some 59, .p (.mv (.tmp 1)), none, none⟩,
  ⟨some 60, .p (.bin .geq (.tmp 58) (.tmp 59)), none, none⟩,
  ⟨some 57, .p (.mv (.tmp 60)), none, none⟩])
  (.cond (.tmp 57) (.draw [⟨0, ⟨some 62, .l (.load (.agg 3) (.tmp 8)), none, some (.st [.i .i64, .i .i64, .l])⟩, [8], 0⟩,
  ⟨1, ⟨some 63, .p (.mv (.tmp 9)), none, none⟩, [9], 0⟩,
  ⟨2, ⟨some 64, .e (.call (.func 61) [.tmp 62, .tmp 63]), none, none⟩, [62, 63], 0⟩,
  ⟨4, ⟨some 66, .p (.mv (.tmp 0)), none, none⟩, [0], 1⟩,
  ⟨5, ⟨some 67, .p (.nilP (.tmp 66)), none, none⟩, [66], 1⟩,
  ⟨6, ⟨some 68, .p (.fieldAddr 0 (.tmp 67)), none, none⟩, [67], 1⟩,
  ⟨7, ⟨some 69, .l (.load (.p) (.tmp 68)), none, none⟩, [68], 1⟩,
  ⟨8, ⟨some 70, .p (.mv (.tmp 9)), none, none⟩, [9], 1⟩,
  ⟨9, ⟨some 71, .p (.mv (.tmp 10)), none, none⟩, [10], 1⟩,
  ⟨10, ⟨some 72, .p (.bin .xor (.tmp 70) (.tmp 71)), none, none⟩, [70, 71], 1⟩,
  ⟨11, ⟨some 73, .e (.call (.func 62) [.tmp 69, .const (.int .i64 1), .tmp 72]), none, none⟩, [69, 72], 0⟩,
  ⟨3, ⟨some 65, .p (.mv (.tmp 10)), none, none⟩, [10], 2⟩,
  ⟨12, ⟨some 61, .p (.mv (.tmp 73)), none, none⟩, [73], 0⟩,
  ⟨13, ⟨some 74, .p (.extract (.tmp 61) 0), none, none⟩, [61], 0⟩,
  ⟨15, ⟨some 76, .p (.idxL 1 (.tmp 64) (.tmp 65)), none, none⟩, [64, 65], 0⟩,
  ⟨16, ⟨none, .e (.store none (.tmp 76) (.tmp 74)), none, none⟩, [76, 74], 0⟩,
  ⟨14, ⟨some 75, .p (.extract (.tmp 61) 1), none, none⟩, [61], 1⟩]) (.skip)))))))))
  (.region [⟨some 77, .p (.bin .add (.tmp 40) (.const (.int .i64 1))), none, none⟩,
  ⟨some 40, .p (.mv (.tmp 77)), none, none⟩]))))))))))
  (.region [⟨some 78, .p (.bin .add (.tmp 36) (.const (.int .i64 1))), none, none⟩,
  ⟨some 36, .p (.mv (.tmp 78)), none, none⟩]))))))))
  (.seq (.region [⟨some 79, .l (.load (.agg 3) (.tmp 8)), none, some (.st [.i .i64, .i .i64, .l])⟩,
  ⟨none, .e (.store (some 3) (.tmp 6) (.tmp 79)), none, none⟩,
  ⟨some 7, .p (.mv (.const (.int .i64 0))), none, none⟩])
  (.ret)))))
noncomputable def e_matrix_Space_Cauchy (k : Nat) (D : CallF) : Ent := entOf 46 [(0, .p), (1, .i .i64), (2, .i .i64)] [(6, .st [.i .i64, .i .i64, .l]), (7, .i .i64)] (matrix_Space_Cauchy k D)
theorem q_matrix_Space_Cauchy : (Try.f46.body).bind (rcodeOf Try.prog 0 Try.f46.ntmps) = some (strip r_matrix_Space_Cauchy) := by kernel_rfl
theorem t_matrix_Space_Cauchy (k : Nat) (D : CallF) : curF [(0, .p), (1, .i .i64), (2, .i .i64)] (fun args h => denF (C_matrix_Space_Cauchy k D) k r_matrix_Space_Cauchy [(6, .st [.i .i64, .i .i64, .l]), (7, .i .i64)] [some (.agg 3), none] args h) = matrix_Space_Cauchy k D := by kernel_rfl
theorem ok_matrix_Space_Cauchy {D : CallF} (hD : CSound Try.prog 0 D) (k : Nat) : EntOk Try.prog 0 (e_matrix_Space_Cauchy k D) :=
  entOf_ok2 (mkC_sound hD (EntsOk.more (ok_matrix_blank hD k) (EntsOk.more (ok_matrix_M_row hD k) (EntsOk.more (ok_field_Field_Div hD k) (EntsOk.none))))) Try.func46 rfl q_matrix_Space_Cauchy rfl (t_matrix_Space_Cauchy k D)
end Gb
namespace Gb
open Go Gx Go.Proofs
set_option maxRecDepth 100000
noncomputable def C_field_tables_times (_k : Nat) (D : CallF) : CallF := mkC D []
noncomputable def field_tables_times (_k : Nat) (_D : CallF) (t_0 : Option Addr) (a_1 : Int) (b_2 : Int) (h : AHeap) : Option ((Int) × AHeap) :=
  joinK (fun (t1 : Option Addr) (a2 : Int) (b3 : Int) (y4 : Bool) (h5 : AHeap) =>
  (if y4 = true then
  some (0, h5)
  else
  (t1).bind fun p7 =>
  (Gx.idxA 256 1 (⟨p7.block, p7.off + 510, none⟩ : Addr) a2).bind fun q8 =>
  (ldI .i64 q8 h5).bind fun x9 =>
  (t1).bind fun p10 =>
  (Gx.idxA 256 1 (⟨p10.block, p10.off + 510, none⟩ : Addr) b3).bind fun q11 =>
  (ldI .i64 q11 h5).bind fun x12 =>
  (t1).bind fun p13 =>
  (Gx.idxA 510 1 (⟨p13.block, p13.off + 0, none⟩ : Addr) (IntKind.wrap .i64 (x9 + x12))).bind fun q14 =>
  (ldI .u8 q14 h5).bind fun x15 =>
  some ((IntKind.wrap .i64 x15), h5))) fun j6 =>
  (if (a_1 == 0) = true then
  j6 t_0 a_1 b_2 true h
  else
  j6 t_0 a_1 b_2 (b_2 == 0) h)
def r_field_tables_times : RCode := .seq (.region [⟨some 6, .p (.mv (.const (.int .i64 0))), none, none⟩])
  (.seq (.seq (.join [(0, .p), (1, .i .i64), (2, .i .i64), (12, .b)] (.region [⟨some 7, .p (.mv (.tmp 1)), none, none⟩,
  ⟨some 8, .p (.bin .eql (.tmp 7) (.const (.int .i64 0))), none, none⟩,
  ⟨some 9, .p (.mv (.tmp 8)), none, none⟩,
  ⟨some 10, .p (.mv (.tmp 2)), (some (9, false)), none⟩,
  ⟨some 11, .p (.bin .eql (.tmp 10) (.const (.int .i64 0))), (some (9, false)), none⟩,
  ⟨some 12, .p (.pick (.tmp 9) (.const (.bool true)) (.tmp 11)), none, none⟩]))
  (.cond (.tmp 12) (.seq (.region [⟨some 6, .p (.mv (.const (.int .i64 0))), none, none⟩])
  (.ret)) (.skip)))
  (.seq (.draw [⟨0, ⟨some 13, .p (.mv (.tmp 0)), none, none⟩, [0], 0⟩,
  ⟨1, ⟨some 14, .p (.mv (.tmp 0)), none, none⟩, [0], 0⟩,
  ⟨2, ⟨some 15, .p (.mv (.tmp 1)), none, none⟩, [1], 0⟩,
  ⟨3, ⟨some 16, .p (.nilP (.tmp 14)), none, none⟩, [14], 0⟩,
  ⟨4, ⟨some 17, .p (.fieldAddr 510 (.tmp 16)), none, none⟩, [16], 0⟩,
  ⟨5, ⟨some 18, .p (.idxA 256 1 (.tmp 17) (.tmp 15)), none, none⟩, [17, 15], 0⟩,
  ⟨6, ⟨some 19, .l (.load (.i .i64) (.tmp 18)), none, none⟩, [18], 0⟩,
  ⟨7, ⟨some 20, .p (.mv (.tmp 0)), none, none⟩, [0], 0⟩,
  ⟨8, ⟨some 21, .p (.mv (.tmp 2)), none, none⟩, [2], 0⟩,
  ⟨9, ⟨some 22, .p (.nilP (.tmp 20)), none, none⟩, [20], 0⟩,
  ⟨10, ⟨some 23, .p (.fieldAddr 510 (.tmp 22)), none, none⟩, [22], 0⟩,
  ⟨11, ⟨some 24, .p (.idxA 256 1 (.tmp 23) (.tmp 21)), none, none⟩, [23, 21], 0⟩,
  ⟨12, ⟨some 25, .l (.load (.i .i64) (.tmp 24)), none, none⟩, [24], 0⟩,
  ⟨13, ⟨some 26, .p (.bin .add (.tmp 19) (.tmp 25)), none, none⟩, [19, 25], 0⟩,
  ⟨14, ⟨some 27, .p (.nilP (.tmp 13)), none, none⟩, [13], 0⟩,
  ⟨15, ⟨some 28, .p (.fieldAddr 0 (.tmp 27)), none, none⟩, [27], 0⟩,
  ⟨16, ⟨some 29, .p (.idxA 510 1 (.tmp 28) (.tmp 26)), none, none⟩, [28, 26], 0⟩,
  ⟨17, ⟨some 30, .l (.load (.i .u8) (.tmp 29)), none, none⟩, [29], 0⟩,
  ⟨18, ⟨some 31, .p (.convI .i64 (.tmp 30)), none, none⟩, [30], 0⟩,
  ⟨19, ⟨some 6, .p (.mv (.tmp 31)), none, none⟩, [31], 0⟩])
  (.ret)))
noncomputable def e_field_tables_times (k : Nat) (D : CallF) : Ent := entOf 71 [(0, .p), (1, .i .i64), (2, .i .i64)] [(6, .i .i64)] (field_tables_times k D)
theorem q_field_tables_times : (Try.f71.body).bind (rcodeOf Try.prog 0 Try.f71.ntmps) = some (strip r_field_tables_times) := by kernel_rfl
theorem t_field_tables_times (k : Nat) (D : CallF) : curF [(0, .p), (1, .i .i64), (2, .i .i64)] (fun args h => denF (C_field_tables_times k D) k r_field_tables_times [(6, .i .i64)] [none] args h) = field_tables_times k D := by kernel_rfl
theorem ok_field_tables_times {D : CallF} (hD : CSound Try.prog 0 D) (k : Nat) : EntOk Try.prog 0 (e_field_tables_times k D) :=
  entOf_ok2 (mkC_sound hD (EntsOk.none)) Try.func71 rfl q_field_tables_times rfl (t_field_tables_times k D)
end Gb
namespace Gb
open Go Gx Go.Proofs
set_option maxRecDepth 100000
noncomputable def C_field_Field_Mix (k : Nat) (D : CallF) : CallF := mkC D [e_field_is k D, e_field_Field_tables k D, e_field_tables_times k D]
noncomputable def field_Field_Mix_l2b (_k : Nat) (_D : CallF) (j6 : (Option Addr) → Slc → Slc → Int → AHeap → Option ((ByteArray × Int) × AHeap)) (rec69 : (Option Addr) → Slc → Slc → Int → Slc → Int → Int → AHeap → Option ((ByteArray × Int) × AHeap)) (f61 : Option Addr) (l62 : Slc) (c63 : Slc) (long64 : Int) (y65 : Slc) (y66 : Int) (y67 : Int) (h68 : AHeap) : Option ((ByteArray × Int) × AHeap) :=
  (if (decide (y67 < y66)) = true then
  joinK (fun (f70 : Option Addr) (l71 : Slc) (c72 : Slc) (long73 : Int) (y74 : Slc) (y75 : Int) (y76 : Int) (h77 : AHeap) =>
  rec69 f70 l71 c72 long73 y74 y75 (IntKind.wrap .i64 (y76 + 1)) h77) fun j78 =>
  (Gx.idxL 1 y65 y67).bind fun q79 =>
  (ldS q79 h68).bind fun x80 =>
  (if (y67 == 0) = true then
  j78 f61 l62 c63 (x80.size : Int) y65 y66 y67 h68
  else
  (if ((x80.size : Int) != long64) = true then
  j6 f61 l62 c63 (-1) h68
  else
  j78 f61 l62 c63 long64 y65 y66 y67 h68))
  else
  j6 f61 l62 c63 long64 h68)
noncomputable def field_Field_Mix_l2 (k : Nat) (D : CallF) (j6 : (Option Addr) → Slc → Slc → Int → AHeap → Option ((ByteArray × Int) × AHeap)) : (Option Addr) → Slc → Slc → Int → Slc → Int → Int → AHeap → Option ((ByteArray × Int) × AHeap) :=
  iterK (α := (Option Addr) → Slc → Slc → Int → Slc → Int → Int → AHeap → Option ((ByteArray × Int) × AHeap)) (fun _ _ _ _ _ _ _ _ => none) k (field_Field_Mix_l2b k D j6)
noncomputable def field_Field_Mix_l1b (k : Nat) (D : CallF) (j36 : Slc → Slc → (Option Addr) → Slc → Int → Int → AHeap → Option ((ByteArray × Int) × AHeap)) (rec50 : Slc → Slc → (Option Addr) → Int → ByteArray → Slc → Int → Int → Int → Int → AHeap → Option ((ByteArray × Int) × AHeap)) (c39 : Slc) (out40 : Slc) (t41 : Option Addr) (i42 : Int) (s43 : ByteArray) (y44 : Slc) (y45 : Int) (y46 : Int) (y47 : Int) (y48 : Int) (h49 : AHeap) : Option ((ByteArray × Int) × AHeap) :=
  (if (decide (y48 < y47)) = true then
  (Gx.idxS s43 y48).bind fun b51 =>
  (Gx.idxL 1 c39 i42).bind fun q52 =>
  (ldI .i64 q52 h49).bind fun x53 =>
  (field_tables_times k D t41 (IntKind.wrap .i64 b51) x53 h49).bind fun r54 =>
  (Gx.idxL 1 out40 y48).bind fun q55 =>
  (ldI .u8 q55 r54.2).bind fun x56 =>
  guardP (SameW [h49] (fun H58 => (ldI .u8 q55 H58).bind fun y57 => some (.int .u8 y57)) (.int .u8 x56)) (
  (Gx.idxL 1 out40 y48).bind fun q59 =>
  (st1 q59 (.int .u8 (Go.bits .xor .u8 x56 (IntKind.wrap .u8 r54.1))) r54.2).bind fun h60 =>
  rec50 c39 out40 t41 i42 s43 y44 y45 y46 y47 (IntKind.wrap .i64 (y48 + 1)) h60)
  else
  j36 c39 out40 t41 y44 y45 y46 h49)
noncomputable def field_Field_Mix_l1 (k : Nat) (D : CallF) (j36 : Slc → Slc → (Option Addr) → Slc → Int → Int → AHeap → Option ((ByteArray × Int) × AHeap)) : Slc → Slc → (Option Addr) → Int → ByteArray → Slc → Int → Int → Int → Int → AHeap → Option ((ByteArray × Int) × AHeap) :=
  iterK (α := Slc → Slc → (Option Addr) → Int → ByteArray → Slc → Int → Int → Int → Int → AHeap → Option ((ByteArray × Int) × AHeap)) (fun _ _ _ _ _ _ _ _ _ _ _ => none) k (field_Field_Mix_l1b k D j36)
noncomputable def field_Field_Mix_l0b (k : Nat) (D : CallF) (j19 : Slc → AHeap → Option ((ByteArray × Int) × AHeap)) (rec28 : Slc → Slc → (Option Addr) → Slc → Int → Int → AHeap → Option ((ByteArray × Int) × AHeap)) (c21 : Slc) (out22 : Slc) (t23 : Option Addr) (y24 : Slc) (y25 : Int) (y26 : Int) (h27 : AHeap) : Option ((ByteArray × Int) × AHeap) :=
  (if (decide (y26 < y25)) = true then
  joinK (fun (c29 : Slc) (out30 : Slc) (t31 : Option Addr) (y32 : Slc) (y33 : Int) (y34 : Int) (h35 : AHeap) =>
  rec28 c29 out30 t31 y32 y33 (IntKind.wrap .i64 (y34 + 1)) h35) fun j36 =>
  (Gx.idxL 1 y24 y26).bind fun q37 =>
  (ldS q37 h27).bind fun x38 =>
  field_Field_Mix_l1 k D j36 c21 out22 t23 y26 x38 y24 y25 y26 (out22.len : Int) 0 h27
  else
  j19 out22 h27)
noncomputable def field_Field_Mix_l0 (k : Nat) (D : CallF) (j19 : Slc → AHeap → Option ((ByteArray × Int) × AHeap)) : Slc → Slc → (Option Addr) → Slc → Int → Int → AHeap → Option ((ByteArray × Int) × AHeap) :=
  iterK (α := Slc → Slc → (Option Addr) → Slc → Int → Int → AHeap → Option ((ByteArray × Int) × AHeap)) (fun _ _ _ _ _ _ _ => none) k (field_Field_Mix_l0b k D j19)
noncomputable def field_Field_Mix (k : Nat) (D : CallF) (f_0 : Option Addr) (l_1 : Slc) (c_2 : Slc) (h : AHeap) : Option ((ByteArray × Int) × AHeap) :=
  (if ((l_1.len : Int) != (c_2.len : Int)) = true then
  some (((⟨#[]⟩ : ByteArray), 4), h)
  else
  joinK (fun (f1 : Option Addr) (l2 : Slc) (c3 : Slc) (long4 : Int) (h5 : AHeap) =>
  joinK (fun (f7 : Option Addr) (l8 : Slc) (c9 : Slc) (long10 : Int) (y11 : Bool) (h12 : AHeap) =>
  (if y11 = true then
  some (((⟨#[]⟩ : ByteArray), 4), h12)
  else
  (field_is k D c9 h12).bind fun r14 =>
  (if (!r14.1) = true then
  some (((⟨#[]⟩ : ByteArray), 1), r14.2)
  else
  (if 0 ≤ (if long10 > 0 then long10 else 0) ∧ (if long10 > 0 then long10 else 0) ≤ (if long10 > 0 then long10 else 0) ∧ (if long10 > 0 then long10 else 0) ≤ 281474976710656 ∧ 1 * (if long10 > 0 then long10 else 0) ≤ 281474976710656 then
  let h15 := AHeap.new r14.2 (.cells (zerosL ((if long10 > 0 then long10 else 0)).toNat [.int .u8 0]) 5 true 0)
  (field_Field_tables k D f7 h15).bind fun r16 =>
  joinK (fun (out17 : Slc) (h18 : AHeap) =>
  (bytesOf h18 out17).bind fun s20 =>
  some ((s20, 0), h18)) fun j19 =>
  field_Field_Mix_l0 k D j19 c9 (⟨(some ⟨r14.2.next, 0, some 0⟩), ((if long10 > 0 then long10 else 0)).toNat, ((if long10 > 0 then long10 else 0)).toNat⟩ : Slc) r16.1 l8 (l8.len : Int) 0 r16.2
  else none)))) fun j13 =>
  (if (decide ((l2.len : Int) > 0)) = true then
  j13 f1 l2 c3 long4 (decide (long4 < 0)) h5
  else
  j13 f1 l2 c3 long4 false h5)) fun j6 =>
  field_Field_Mix_l2 k D j6 f_0 l_1 c_2 (-1) l_1 (l_1.len : Int) 0 h)
def r_field_Field_Mix : RCode := .seq (.region [⟨some 6, .p (.mv (.const (.string ⟨#[]⟩))), none, none⟩,
  ⟨some 7, .p (.mv (.const (.int .i64 0))), none, none⟩])
  (.scope (.seq (.seq (.region [⟨some 16, .p (.mv (.tmp 1)), none, none⟩,
  ⟨some 17, .p (.lenL (.tmp 16)), none, none⟩,
  ⟨some 18, .p (.mv (.tmp 2)), none, none⟩,
  ⟨some 19, .p (.lenL (.tmp 18)), none, none⟩,
  ⟨some 20, .p (.bin .neq (.tmp 17) (.tmp 19)), none, none⟩])
  (.cond (.tmp 20) (.seq (.region [⟨some 6, .p (.mv (.const (.string ⟨#[]⟩))), none, none⟩,
  ⟨some 7, .p (.mv (.const (.int .i64 4))), none, none⟩])
  (.ret)) (.skip)))
  (.seq (.region [⟨some 8, .p (.mv (.const (.int .i64 (-1)))), none, none⟩])
  (.seq (.skip)
  (.seq (.join [(0, .p), (1, .l), (2, .l), (8, .i .i64)] (.seq (.region [⟨some 21, .p (.mv (.tmp 1)), none, none⟩,
  ⟨some 22, .p (.lenL (.tmp 21)), none, none⟩,
  ⟨some 23, .p (.mv (.const (.int .i64 0))), none, none⟩])
  (.block 0 (.loop [(0, .p), (1, .l), (2, .l), (8, .i .i64), (21, .l), (22, .i .i64), (23, .i .i64)] (.seq (.region [⟨some 24, .p (.bin .lss (.tmp 23) (.tmp 22)), none, none⟩])
  (.seq (.cond (.tmp 24) (.skip) (.exit 0))
  (.seq (.join [(0, .p), (1, .l), (2, .l), (8, .i .i64), (21, .l), (22, .i .i64), (23, .i .i64)] (.block 1 (.seq (.region [⟨some 25, .p (.mv (.tmp 23)), none, none⟩,
  ⟨some 26, .p (.idxL 1 (.tmp 21) (.tmp 23)), none, none⟩,
  ⟨some 27, .l (.load (.s) (.tmp 26)), none, none⟩,
  ⟨some 9, .p (.mv (.tmp 25)), none, none⟩,
  ⟨some 10, .p (.mv (.tmp 27)), none, none⟩])
  (.block 2 (.seq (.region [⟨some 29, .p (.mv (.tmp 9)), none, none⟩,
  ⟨some 30, .p (.bin .eql (.tmp 29) (.const (.int .i64 0))), none, none⟩,
  ⟨some 28, .p (.mv (.tmp 30)), none, none⟩])
  (.cond (.tmp 28) (.region [⟨some 31, .p (.mv (.tmp 10)), none, none⟩,
  ⟨some 32, .p (.lenS (.tmp 31)), none, none⟩,
  ⟨some 8, .p (.mv (.tmp 32)), none, none⟩]) (.seq (.region [⟨some 34, .p (.mv (.tmp 10)), none, none⟩,
  ⟨some 35, .p (.lenS (.tmp 34)), none, none⟩,
  ⟨some 36, .p (.mv (.tmp 8)), none, none⟩,
  ⟨some 37, .p (.bin .neq (.tmp 35) (.tmp 36)), none, none⟩,
  ⟨some 33, .p (.mv (.tmp 37)), none, none⟩])
  (.cond (.tmp 33) (.seq (.region [⟨some 8, .p (.mv (.const (.int .i64 (-1)))), none, none⟩])
  (.exit 0)) (.skip)))))))))
  (.region [⟨some 38, .p (.bin .add (.tmp 23) (.const (.int .i64 1))), none, none⟩,
  ⟨some 23, .p (.mv (.tmp 38)), none, none⟩]))))))))
  (.seq (.block 3 (.seq (.join [(0, .p), (1, .l), (2, .l), (8, .i .i64), (39, .b)] (.region [⟨some 40, .p (.mv (.tmp 1)), none, none⟩,
  ⟨some 41, .p (.lenL (.tmp 40)), none, none⟩,
  ⟨some 42, .p (.bin .gtr (.tmp 41) (.const (.int .i64 0))), none, none⟩,
  ⟨some 43, .p (.mv (.tmp 42)), none, none⟩,
  ⟨some 44, .p (.mv (.tmp 8)), (some (43, true)), none⟩,
  ⟨some 45, .p (.bin .lss (.tmp 44) (.const (.int .i64 0))), (some (43, true)), none⟩,
  ⟨some 46, .p (.pick (.tmp 43) (.tmp 45) (.const (.bool false))), none, none⟩,
  ⟨some 39, .p (.mv (.tmp 46)), none, none⟩]))
  (.cond (.tmp 39) (.seq (.region [⟨some 6, .p (.mv (.const (.string ⟨#[]⟩))), none, none⟩,
  ⟨some 7, .p (.mv (.const (.int .i64 4))), none, none⟩])
  (.ret)) (.seq (.region [⟨some 48, .p (.mv (.tmp 2)), none, none⟩,
  ⟨some 49, .e (.call (.func 69) [.tmp 48]), none, none⟩,
  ⟨some 50, .p (.un .not (.tmp 49)), none, none⟩,
  ⟨some 47, .p (.mv (.tmp 50)), none, none⟩])
  (.cond (.tmp 47) (.seq (.region [⟨some 6, .p (.mv (.const (.string ⟨#[]⟩))), none, none⟩,
  ⟨some 7, .p (.mv (.const (.int .i64 1))), none, none⟩])
  (.ret)) (.skip))))))
  (.seq (.region [⟨some 51, .p (.mv (.tmp 8)), none, none⟩,
  ⟨some 52, .p (.maxI (.const (.int .i64 0)) (.tmp 51)), none, none⟩,
  ⟨some 53, .a (.mkSlice 5 1 [.int .u8 0] (.tmp 52) (.tmp 52)), none, none⟩,
  ⟨some 11, .p (.mv (.tmp 53)), none, none⟩])
  (.seq (.region [⟨some 54, .p (.mv (.tmp 0)), none, none⟩,
  ⟨some 55, .e (.call (.func 70) [.tmp 54]), none, none⟩,
  ⟨some 12, .p (.mv (.tmp 55)), none, none⟩])
  (.seq (.join [(11, .l)] (.seq (.region [⟨some 56, .p (.mv (.tmp 1)), none, none⟩,
  ⟨some 57, .p (.lenL (.tmp 56)), none, none⟩,
  ⟨some 58, .p (.mv (.const (.int .i64 0))), none, none⟩])
  (.block 4 (.loop [(2, .l), (11, .l), (12, .p), (56, .l), (57, .i .i64), (58, .i .i64)] (.seq (.region [⟨some 59, .p (.bin .lss (.tmp 58) (.tmp 57)), none, none⟩])
  (.seq (.cond (.tmp 59) (.skip) (.exit 4))
  (.seq (.join [(2, .l), (11, .l), (12, .p), (56, .l), (57, .i .i64), (58, .i .i64)] (.block 5 (.seq (.region [⟨some 60, .p (.mv (.tmp 58)), none, none⟩,
  ⟨some 61, .p (.idxL 1 (.tmp 56) (.tmp 58)), none, none⟩,
  ⟨some 62, .l (.load (.s) (.tmp 61)), none, none⟩,
  ⟨some 13, .p (.mv (.tmp 60)), none, none⟩,
  ⟨some 14, .p (.mv (.tmp 62)), none, none⟩])
  (.seq (.region [⟨some 63, .p (.mv (.tmp 11)), none, none⟩,
  ⟨some 64, .p (.lenL (.tmp 63)), none, none⟩,
  ⟨some 65, .p (.mv (.const (.int .i64 0))), none, none⟩])
  (.block 6 (.loop [(2, .l), (11, .l), (12, .p), (13, .i .i64), (14, .s), (56, .l), (57, .i .i64), (58, .i .i64), (64, .i .i64), (65, .i .i64)] (.seq (.region [⟨some 66, .p (.bin .lss (.tmp 65) (.tmp 64)), none, none⟩])
  (.seq (.cond (.tmp 66) (.skip) (.exit 6))
  (.seq (.block 7 (.seq (.region [⟨some 67, .p (.mv (.tmp 65)), none, none⟩,
  ⟨some 15, .p (.mv (.tmp 67)), none, none⟩])
  (.draw [⟨4, ⟨some 72, .p (.mv (.tmp 12)), none, none⟩, [12], 0⟩,
  ⟨5, ⟨some 73, .p (.mv (.tmp 14)), none, none⟩, [14], 0⟩,
  ⟨6, ⟨some 74, .p (.mv (.tmp 15)), none, none⟩, [15], 0⟩,
  ⟨7, ⟨some 75, .p (.idxS (.tmp 73) (.tmp 74)), none, none⟩, [73, 74], 0⟩,
  ⟨8, ⟨some 76, .p (.convI .i64 (.tmp 75)), none, none⟩, [75], 0⟩,
  ⟨9, ⟨some 77, .p (.mv (.tmp 2)), none, none⟩, [2], 0⟩,
  ⟨10, ⟨some 78, .p (.mv (.tmp 13)), none, none⟩, [13], 0⟩,
  ⟨11, ⟨some 79, .p (.idxL 1 (.tmp 77) (.tmp 78)), none, none⟩, [77, 78], 0⟩,
  ⟨12, ⟨some 80, .l (.load (.i .i64) (.tmp 79)), none, none⟩, [79], 0⟩,
  ⟨13, ⟨some 81, .e (.call (.func 71) [.tmp 72, .tmp 76, .tmp 80]), none, none⟩, [72, 76, 80], 0⟩,
  ⟨0, ⟨some 68, .p (.mv (.tmp 11)), none, none⟩, [11], 1⟩,
  ⟨1, ⟨some 69, .p (.mv (.tmp 15)), none, none⟩, [15], 1⟩,
  ⟨2, ⟨some 70, .p (.idxL 1 (.tmp 68) (.tmp 69)), none, none⟩, [68, 69], 1⟩,
  ⟨3, ⟨some 71, .l (.load (.i .u8) (.tmp 70)), none, none⟩, [70], 1⟩,
  ⟨14, ⟨some 82, .p (.convI .u8 (.tmp 81)), none, none⟩, [81], 0⟩,
  ⟨15, ⟨some 83, .p (.bin .xor (.tmp 71) (.tmp 82)), none, none⟩, [71, 82], 0⟩,
  ⟨16, ⟨some 84, .p (.idxL 1 (.tmp 68) (.tmp 69)), none, none⟩, [68, 69], 0⟩,
  ⟨17, ⟨none, .e (.store none (.tmp 84) (.tmp 83)), none, none⟩, [84, 83], 0⟩])))
  (.region [⟨some 85, .p (.bin .add (.tmp 65) (.const (.int .i64 1))), none, none⟩,
  ⟨some 65, .p (.mv (.tmp 85)), none, none⟩]))))))))))
  (.region [⟨some 86, .p (.bin .add (.tmp 58) (.const (.int .i64 1))), none, none⟩,
  ⟨some 58, .p (.mv (.tmp 86)), none, none⟩]))))))))
  (.seq (.region [⟨some 87, .p (.mv (.tmp 11)), none, none⟩,
  ⟨some 88, .l (.convBS (.tmp 87)), none, none⟩,
  ⟨some 6, .p (.mv (.tmp 88)), none, none⟩,
  ⟨some 7, .p (.mv (.const (.int .i64 0))), none, none⟩])
  (.ret)))))))))))
noncomputable def e_field_Field_Mix (k : Nat) (D : CallF) : Ent := entOf 49 [(0, .p), (1, .l), (2, .l)] [(6, .s), (7, .i .i64)] (field_Field_Mix k D)
theorem q_field_Field_Mix : (Try.f49.body).bind (rcodeOf Try.prog 0 Try.f49.ntmps) = some (strip r_field_Field_Mix) := by kernel_rfl
theorem t_field_Field_Mix (k : Nat) (D : CallF) : curF [(0, .p), (1, .l), (2, .l)] (fun args h => denF (C_field_Field_Mix k D) k r_field_Field_Mix [(6, .s), (7, .i .i64)] [none, none] args h) = field_Field_Mix k D := by kernel_rfl
theorem ok_field_Field_Mix {D : CallF} (hD : CSound Try.prog 0 D) (k : Nat) : EntOk Try.prog 0 (e_field_Field_Mix k D) :=
  entOf_ok2 (mkC_sound hD (EntsOk.more (ok_field_is hD k) (EntsOk.more (ok_field_Field_tables hD k) (EntsOk.more (ok_field_tables_times hD k) (EntsOk.none))))) Try.func49 rfl q_field_Field_Mix rfl (t_field_Field_Mix k D)
end Gb
namespace Gb
open Go Gx Go.Proofs
set_option maxRecDepth 100000
end Gb
namespace Gb
open Go Gx Go.Proofs
set_option maxRecDepth 100000
end Gb
namespace Gb
open Go Gx Go.Proofs
set_option maxRecDepth 100000
end Gb
namespace Gb
open Go Gx Go.Proofs
set_option maxRecDepth 100000
end Gb
namespace Gb
open Go Gx Go.Proofs
set_option maxRecDepth 100000
end Gb
namespace Gb
open Go Gx Go.Proofs
set_option maxRecDepth 100000
end Gb
namespace Gb
open Go Gx Go.Proofs
set_option maxRecDepth 100000
end Gb
namespace Gb
open Go Gx Go.Proofs
set_option maxRecDepth 100000
end Gb
namespace Gb
open Go Gx Go.Proofs
set_option maxRecDepth 100000
end Gb
namespace Gb
open Go Gx Go.Proofs
set_option maxRecDepth 100000
end Gb
namespace Gb
open Go Gx Go.Proofs
set_option maxRecDepth 100000
end Gb
namespace Gb
open Go Gx Go.Proofs
set_option maxRecDepth 100000
end Gb
namespace Gb
open Go Gx Go.Proofs
set_option maxRecDepth 100000
end Gb
namespace Gb
open Go Gx Go.Proofs
set_option maxRecDepth 100000
end Gb
namespace Gb
open Go Gx Go.Proofs
set_option maxRecDepth 100000
end Gb
namespace Gb
open Go Gx Go.Proofs
set_option maxRecDepth 100000
end Gb
namespace Gb
open Go Gx Go.Proofs
set_option maxRecDepth 100000
end Gb
namespace Gb
open Go Gx Go.Proofs
set_option maxRecDepth 100000
end Gb
namespace Gb
open Go Gx Go.Proofs
set_option maxRecDepth 100000
end Gb
namespace Gb
open Go Gx Go.Proofs
set_option maxRecDepth 100000
noncomputable def C_field_double (_k : Nat) (D : CallF) : CallF := mkC D []
noncomputable def field_double (_k : Nat) (_D : CallF) (a_0 : Int) (h : AHeap) : Option ((Int) × AHeap) :=
  joinK (fun (a1 : Int) (h2 : AHeap) =>
  some (a1, h2)) fun j3 =>
  (if (decide ((IntKind.wrap .i64 (a_0 * 2)) ≥ 256)) = true then
  j3 (Go.bits .xor .i64 (IntKind.wrap .i64 (a_0 * 2)) 391) h
  else
  j3 (IntKind.wrap .i64 (a_0 * 2)) h)
def r_field_double : RCode := .seq (.region [⟨some 2, .p (.mv (.const (.int .i64 0))), none, none⟩])
  (.seq (.region [⟨some 3, .p (.mv (.tmp 0)), none, none⟩,
  ⟨some 4, .p (.bin .shl (.tmp 3) (.const (.int .u64 1))), none, none⟩,
  ⟨some 0, .p (.mv (.tmp 4)), none, none⟩])
  (.seq (.join [(0, .i .i64)] (.seq (.region [⟨some 5, .p (.mv (.tmp 0)), none, none⟩,
  ⟨some 6, .p (.bin .geq (.tmp 5) (.const (.int .i64 256))), none, none⟩])
  (.cond (.tmp 6) (.region [⟨some 7, .p (.mv (.tmp 0)), none, none⟩,
  ⟨some 8, .p (.bin .xor (.tmp 7) (.const (.int .i64 391))), none, none⟩,
  ⟨some 0, .p (.mv (.tmp 8)), none, none⟩]) (.skip))))
  (.seq (.region [⟨some 9, .p (.mv (.tmp 0)), none, none⟩,
  ⟨some 2, .p (.mv (.tmp 9)), none, none⟩])
  (.ret))))
noncomputable def e_field_double (k : Nat) (D : CallF) : Ent := entOf 99 [(0, .i .i64)] [(2, .i .i64)] (field_double k D)
theorem q_field_double : (Try.f99.body).bind (rcodeOf Try.prog 0 Try.f99.ntmps) = some (strip r_field_double) := by kernel_rfl
theorem t_field_double (k : Nat) (D : CallF) : curF [(0, .i .i64)] (fun args h => denF (C_field_double k D) k r_field_double [(2, .i .i64)] [none] args h) = field_double k D := by kernel_rfl
theorem ok_field_double {D : CallF} (hD : CSound Try.prog 0 D) (k : Nat) : EntOk Try.prog 0 (e_field_double k D) :=
  entOf_ok2 (mkC_sound hD (EntsOk.none)) Try.func99 rfl q_field_double rfl (t_field_double k D)
end Gb
namespace Gb
open Go Gx Go.Proofs
set_option maxRecDepth 100000
noncomputable def C_field_Field_make (k : Nat) (D : CallF) : CallF := mkC D [e_field_double k D]
noncomputable def field_Field_make_l0b (k : Nat) (D : CallF)  (rec5 : (Option Addr) → Int → Int → AHeap → Option ((Unit) × AHeap)) (f1 : Option Addr) (x2 : Int) (y3 : Int) (h4 : AHeap) : Option ((Unit) × AHeap) :=
  (if (decide (y3 < 255)) = true then
  (f1).bind fun p6 =>
  (Gx.idxA 510 1 (⟨p6.block, p6.off + 3 + 0, none⟩ : Addr) y3).bind fun q7 =>
  (st1 q7 (.int .u8 (IntKind.wrap .u8 x2)) h4).bind fun h8 =>
  (f1).bind fun p9 =>
  (Gx.idxA 510 1 (⟨p9.block, p9.off + 3 + 0, none⟩ : Addr) (IntKind.wrap .i64 (y3 + 255))).bind fun q10 =>
  (st1 q10 (.int .u8 (IntKind.wrap .u8 x2)) h8).bind fun h11 =>
  (f1).bind fun p12 =>
  (Gx.idxA 256 1 (⟨p12.block, p12.off + 3 + 510, none⟩ : Addr) x2).bind fun q13 =>
  (st1 q13 (.int .i64 y3) h11).bind fun h14 =>
  (field_double k D x2 h14).bind fun r15 =>
  rec5 f1 r15.1 (IntKind.wrap .i64 (y3 + 1)) r15.2
  else
  some ((), h4))
noncomputable def field_Field_make_l0 (k : Nat) (D : CallF)  : (Option Addr) → Int → Int → AHeap → Option ((Unit) × AHeap) :=
  iterK (α := (Option Addr) → Int → Int → AHeap → Option ((Unit) × AHeap)) (fun _ _ _ _ => none) k (field_Field_make_l0b k D )
noncomputable def field_Field_make (k : Nat) (D : CallF) (f_0 : Option Addr) (h : AHeap) : Option ((Unit) × AHeap) :=
  field_Field_make_l0 k D f_0 1 0 h
def r_field_Field_make : RCode := .seq (.region [⟨some 2, .p (.mv (.const (.int .i64 1))), none, none⟩])
  (.seq (.region [⟨some 4, .p (.mv (.const (.int .i64 0))), none, none⟩])
  (.block 0 (.loop [(0, .p), (2, .i .i64), (4, .i .i64)] (.seq (.region [⟨some 5, .p (.bin .lss (.tmp 4) (.const (.int .i64 255))), none, none⟩])
  (.seq (.cond (.tmp 5) (.skip) (.exit 0))
  (.seq (.block 1 (.seq (.region [⟨some 6, .p (.mv (.tmp 4)), none, none⟩,
  ⟨some 3, .p (.mv (.tmp 6)), none, none⟩])
  (.seq (.draw [⟨0, ⟨some 7, .p (.mv (.tmp 0)), none, none⟩, [0], 0⟩,
  ⟨1, ⟨some 8, .p (.mv (.tmp 3)), none, none⟩, [3], 0⟩,
  ⟨5, ⟨some 12, .p (.mv (.tmp 2)), none, none⟩, [2], 0⟩,
  ⟨6, ⟨some 13, .p (.convI .u8 (.tmp 12)), none, none⟩, [12], 0⟩,
  ⟨9, ⟨some 16, .p (.nilP (.tmp 7)), none, none⟩, [7], 0⟩,
  ⟨10, ⟨some 17, .p (.fieldAddr 3 (.tmp 16)), none, none⟩, [16], 0⟩,
  ⟨11, ⟨some 18, .p (.fieldAddr 0 (.tmp 17)), none, none⟩, [17], 0⟩,
  ⟨12, ⟨some 19, .p (.idxA 510 1 (.tmp 18) (.tmp 8)), none, none⟩, [18, 8], 0⟩,
  ⟨13, ⟨none, .e (.store none (.tmp 19) (.tmp 13)), none, none⟩, [19, 13], 0⟩,
  ⟨2, ⟨some 9, .p (.mv (.tmp 0)), none, none⟩, [0], 1⟩,
  ⟨3, ⟨some 10, .p (.mv (.tmp 3)), none, none⟩, [3], 1⟩,
  ⟨4, ⟨some 11, .p (.bin .add (.tmp 10) (.const (.int .i64 255))), none, none⟩, [10], 1⟩,
  ⟨7, ⟨some 14, .p (.mv (.tmp 2)), none, none⟩, [2], 1⟩,
  ⟨8, ⟨some 15, .p (.convI .u8 (.tmp 14)), none, none⟩, [14], 1⟩,
  ⟨14, ⟨some 20, .p (.nilP (.tmp 9)), none, none⟩, [9], 1⟩,
  ⟨15, ⟨some 21, .p (.fieldAddr 3 (.tmp 20)), none, none⟩, [20], 1⟩,
  ⟨16, ⟨some 22, .p (.fieldAddr 0 (.tmp 21)), none, none⟩, [21], 1⟩,
  ⟨17, ⟨some 23, .p (.idxA 510 1 (.tmp 22) (.tmp 11)), none, none⟩, [22, 11], 0⟩,
  ⟨18, ⟨none, .e (.store none (.tmp 23) (.tmp 15)), none, none⟩, [23, 15], 0⟩])
  (.seq (.region [⟨some 24, .p (.mv (.tmp 0)), none, none⟩,
  ⟨some 25, .p (.mv (.tmp 2)), none, none⟩,
  ⟨some 26, .p (.mv (.tmp 3)), none, none⟩,
  ⟨some 27, .p (.nilP (.tmp 24)), none, none⟩,
  ⟨some 28, .p (.fieldAddr 3 (.tmp 27)), none, none⟩,
  ⟨some 29, .p (.fieldAddr 510 (.tmp 28)), none, none⟩,
  ⟨some 30, .p (.idxA 256 1 (.tmp 29) (.tmp 25)), none, none⟩,
  ⟨none, .e (.store none (.tmp 30) (.tmp 26)), none, none⟩])
  (.region [⟨some 31, .p (.mv (.tmp 2)), none, none⟩,
  ⟨some 32, .e (.call (.func 99) [.tmp 31]), none, none⟩,
  ⟨some 2, .p (.mv (.tmp 32)), none, none⟩])))))
  (.region [⟨some 33, .p (.bin .add (.tmp 4) (.const (.int .i64 1))), none, none⟩,
  ⟨some 4, .p (.mv (.tmp 33)), none, none⟩])))))))
noncomputable def e_field_Field_make (k : Nat) (D : CallF) : Ent := entOf 86 [(0, .p)] [] (field_Field_make k D)
theorem q_field_Field_make : (Try.f86.body).bind (rcodeOf Try.prog 0 Try.f86.ntmps) = some (strip r_field_Field_make) := by kernel_rfl
theorem t_field_Field_make (k : Nat) (D : CallF) : curF [(0, .p)] (fun args h => denF (C_field_Field_make k D) k r_field_Field_make [] [] args h) = field_Field_make k D := by kernel_rfl
theorem ok_field_Field_make {D : CallF} (hD : CSound Try.prog 0 D) (k : Nat) : EntOk Try.prog 0 (e_field_Field_make k D) :=
  entOf_ok2 (mkC_sound hD (EntsOk.more (ok_field_double hD k) (EntsOk.none))) Try.func86 rfl q_field_Field_make rfl (t_field_Field_make k D)
end Gb
namespace Gb
open Go Gx Go.Proofs
set_option maxRecDepth 100000
end Gb
namespace Gb
open Go Gx Go.Proofs
set_option maxRecDepth 100000
end Gb
namespace Gb
open Go Gx Go.Proofs
set_option maxRecDepth 100000
end Gb
namespace Gb
open Go Gx Go.Proofs
set_option maxRecDepth 100000
end Gb
namespace Gb
open Go Gx Go.Proofs
set_option maxRecDepth 100000
end Gb
namespace Gb
open Go Gx Go.Proofs
set_option maxRecDepth 100000
end Gb
namespace Gb
open Go Gx Go.Proofs
set_option maxRecDepth 100000
end Gb
namespace Gb
open Go Gx Go.Proofs
set_option maxRecDepth 100000
end Gb
namespace Gb
open Go Gx Go.Proofs
set_option maxRecDepth 100000
end Gb
namespace Gb
open Go Gx Go.Proofs
set_option maxRecDepth 100000
end Gb
namespace Gb
open Go Gx Go.Proofs
set_option maxRecDepth 100000
end Gb
namespace Gb
open Go Gx Go.Proofs
set_option maxRecDepth 100000
end Gb
namespace Gb
open Go Gx Go.Proofs
set_option maxRecDepth 100000
end Gb
namespace Gb
open Go Gx Go.Proofs
set_option maxRecDepth 100000
end Gb
namespace Gb
open Go Gx Go.Proofs
set_option maxRecDepth 100000
end Gb
namespace Gb
open Go Gx Go.Proofs
set_option maxRecDepth 100000
end Gb
namespace Gb
open Go Gx Go.Proofs
set_option maxRecDepth 100000
end Gb
namespace Gb
open Go Gx Go.Proofs
set_option maxRecDepth 100000
end Gb
namespace Gb
open Go Gx Go.Proofs
set_option maxRecDepth 100000
end Gb
namespace Gb
open Go Gx Go.Proofs
set_option maxRecDepth 100000
end Gb
namespace Gb
open Go Gx Go.Proofs
set_option maxRecDepth 100000
end Gb
namespace Gb
open Go Gx Go.Proofs
set_option maxRecDepth 100000
end Gb
namespace Gb
open Go Gx Go.Proofs
set_option maxRecDepth 100000
end Gb
namespace Gb
open Go Gx Go.Proofs
set_option maxRecDepth 100000
noncomputable def C_stripe_New (k : Nat) (D : CallF) : CallF := mkC D [e_matrix_New k D, e_matrix_Space_Cauchy k D, e_field_New k D]
noncomputable def stripe_New (k : Nat) (D : CallF) (k_0 : Int) (m_1 : Int) (h : AHeap) : Option (((Option Addr) × Int) × AHeap) :=
  (matrix_New k D h).bind fun r1 =>
  (matrix_Space_Cauchy k D r1.1 k_0 m_1 r1.2).bind fun r2 =>
  let h3 := AHeap.new r2.2 (.cells [.int .i64 0, .int .i64 0, .slice none 0 0] 84 true 0)
  (stL 3 (⟨r2.2.next, 0, none⟩ : Addr) ([.int .i64 r2.1.1.1, .int .i64 r2.1.1.2.1, .slice r2.1.1.2.2.a r2.1.1.2.2.len r2.1.1.2.2.cap]) h3).bind fun h4 =>
  (if (r2.1.2 != 0) = true then
  some ((none, r2.1.2), h4)
  else
  (field_New k D h4).bind fun r5 =>
  (ldA 3 (⟨r2.2.next, 0, none⟩ : Addr) r5.2).bind fun l6 =>
  guardP (SameW [h4] (fun H8 => (ldA 3 (⟨r2.2.next, 0, none⟩ : Addr) H8).bind fun y7 => some (.agg ⟨y7⟩)) (.agg ⟨l6⟩)) (
  (decC [.i .i64, .i .i64, .l] l6).bind fun x9 =>
  let h10 := AHeap.new r5.2 (.cells [.int .i64 k_0, .int .i64 m_1, .pointer r5.1, .pointer r1.1, .int .i64 x9.1, .int .i64 x9.2.1, .slice x9.2.2.a x9.2.2.len x9.2.2.cap] 90 true 0)
  some (((some (⟨r5.2.next, 0, none⟩ : Addr)), 0), h10)))
def r_stripe_New : RCode := .seq (.region [⟨some 4, .p (.mv (.const (.pointer none))), none, none⟩,
  ⟨some 5, .p (.mv (.const (.int .i64 0))), none, none⟩])
  (.seq (.region [⟨some 9, .e (.call (.func 45) []), none, none⟩,
  ⟨some 6, .p (.mv (.tmp 9)), none, none⟩])
  (.seq (.region [⟨some 11, .p (.mv (.tmp 6)), none, none⟩,
  ⟨some 12, .p (.mv (.tmp 0)), none, none⟩,
  ⟨some 13, .p (.mv (.tmp 1)), none, none⟩,
  ⟨some 14, .e (.call (.func 46) [.tmp 11, .tmp 12, .tmp 13]), none, none⟩,
  ⟨some 10, .p (.mv (.tmp 14)), none, none⟩,
  ⟨some 15, .p (.extract (.tmp 10) 0), none, none⟩,
  ⟨some 16, .p (.extract (.tmp 10) 1), none, none⟩,
  ⟨some 7, .a (.alloc 84 [.int .i64 0, .int .i64 0, .slice none 0 0]), none, none⟩,
  ⟨none, .e (.store (some 3) (.tmp 7) (.tmp 15)), none, none⟩,
  ⟨some 8, .p (.mv (.tmp 16)), none, none⟩])
  (.seq (.seq (.region [⟨some 17, .p (.mv (.tmp 8)), none, none⟩,
  ⟨some 18, .p (.bin .neq (.tmp 17) (.const (.int .i64 0))), none, none⟩])
  (.cond (.tmp 18) (.seq (.region [⟨some 19, .p (.mv (.tmp 8)), none, none⟩,
  ⟨some 4, .p (.mv (.const (.pointer none))), none, none⟩,
  ⟨some 5, .p (.mv (.tmp 19)), none, none⟩])
  (.ret)) (.skip)))
  (.seq (.draw [⟨2, ⟨some 22, .e (.call (.func 47) []), none, none⟩, [], 0⟩,
  ⟨0, ⟨some 20, .p (.mv (.tmp 0)), none, none⟩, [0], 1⟩,
  ⟨1, ⟨some 21, .p (.mv (.tmp 1)), none, none⟩, [1], 1⟩,
  ⟨3, ⟨some 23, .p (.mv (.tmp 6)), none, none⟩, [6], 1⟩,
  ⟨4, ⟨some 24, .l (.load (.agg 3) (.tmp 7)), none, some (.st [.i .i64, .i .i64, .l])⟩, [7], 1⟩,
  ⟨5, ⟨some 25, .p (.build [.int .i64 0, .int .i64 0, .pointer none, .pointer none, .int .i64 0, .int .i64 0, .slice none 0 0] [(0, 1, .tmp 20), (1, 1, .tmp 21), (2, 1, .tmp 22), (3, 1, .tmp 23), (4, 3, .tmp 24)]), none, none⟩, [20, 21, 22, 23, 24], 0⟩,
  ⟨6, ⟨some 26, .a (.box 90 (.tmp 25)), none, none⟩, [25], 0⟩,
  ⟨7, ⟨some 4, .p (.mv (.tmp 26)), none, none⟩, [26], 0⟩,
  ⟨8, ⟨some 5, .p (.mv (.const (.int .i64 0))), none, none⟩, [], 0⟩])
  (.ret)))))
noncomputable def e_stripe_New (k : Nat) (D : CallF) : Ent := entOf 21 [(0, .i .i64), (1, .i .i64)] [(4, .p), (5, .i .i64)] (stripe_New k D)
theorem q_stripe_New : (Try.f21.body).bind (rcodeOf Try.prog 0 Try.f21.ntmps) = some (strip r_stripe_New) := by kernel_rfl
theorem t_stripe_New (k : Nat) (D : CallF) : curF [(0, .i .i64), (1, .i .i64)] (fun args h => denF (C_stripe_New k D) k r_stripe_New [(4, .p), (5, .i .i64)] [none, none] args h) = stripe_New k D := by kernel_rfl
theorem ok_stripe_New {D : CallF} (hD : CSound Try.prog 0 D) (k : Nat) : EntOk Try.prog 0 (e_stripe_New k D) :=
  entOf_ok2 (mkC_sound hD (EntsOk.more (ok_matrix_New hD k) (EntsOk.more (ok_matrix_Space_Cauchy hD k) (EntsOk.more (ok_field_New hD k) (EntsOk.none))))) Try.func21 rfl q_stripe_New rfl (t_stripe_New k D)
end Gb
namespace Gb
open Go Gx Go.Proofs
set_option maxRecDepth 100000
end Gb
namespace Gb
open Go Gx Go.Proofs
set_option maxRecDepth 100000
end Gb
namespace Gb
open Go Gx Go.Proofs
set_option maxRecDepth 100000
noncomputable def C_stripe_Plan_Each (_k : Nat) (D : CallF) : CallF := mkC D []
noncomputable def stripe_Plan_Each (_k : Nat) (_D : CallF) (p_0 : Option Addr) (long_1 : Int) (h : AHeap) : Option ((Int × Int) × AHeap) :=
  joinK (fun (p1 : Option Addr) (long2 : Int) (y3 : Bool) (h4 : AHeap) =>
  (if y3 = true then
  some ((0, 1), h4)
  else
  (p1).bind fun p6 =>
  (ldI .i64 (⟨p6.block, p6.off + 0, none⟩ : Addr) h4).bind fun x7 =>
  (p1).bind fun p8 =>
  (ldI .i64 (⟨p8.block, p8.off + 0, none⟩ : Addr) h4).bind fun x9 =>
  (if x9 = 0 then none else
  let t10 : Int := (IntKind.wrap .i64 (Int.tdiv (IntKind.wrap .i64 ((IntKind.wrap .i64 (long2 + x7)) - 1)) x9))
  some ((t10, 0), h4)))) fun j5 =>
  (if (decide (long_1 < 0)) = true then
  j5 p_0 long_1 true h
  else
  j5 p_0 long_1 (decide (long_1 > 65536)) h)
def r_stripe_Plan_Each : RCode := .seq (.region [⟨some 4, .p (.mv (.const (.int .i64 0))), none, none⟩,
  ⟨some 5, .p (.mv (.const (.int .i64 0))), none, none⟩])
  (.seq (.seq (.join [(0, .p), (1, .i .i64), (11, .b)] (.region [⟨some 6, .p (.mv (.tmp 1)), none, none⟩,
  ⟨some 7, .p (.bin .lss (.tmp 6) (.const (.int .i64 0))), none, none⟩,
  ⟨some 8, .p (.mv (.tmp 7)), none, none⟩,
  ⟨some 9, .p (.mv (.tmp 1)), (some (8, false)), none⟩,
  ⟨some 10, .p (.bin .gtr (.tmp 9) (.const (.int .i64 65536))), (some (8, false)), none⟩,
  ⟨some 11, .p (.pick (.tmp 8) (.const (.bool true)) (.tmp 10)), none, none⟩]))
  (.cond (.tmp 11) (.seq (.region [⟨some 4, .p (.mv (.const (.int .i64 0))), none, none⟩,
  ⟨some 5, .p (.mv (.const (.int .i64 1))), none, none⟩])
  (.ret)) (.skip)))
  (.seq (.draw [⟨0, ⟨some 12, .p (.mv (.tmp 1)), none, none⟩, [1], 0⟩,
  ⟨1, ⟨some 13, .p (.mv (.tmp 0)), none, none⟩, [0], 0⟩,
  ⟨2, ⟨some 14, .p (.nilP (.tmp 13)), none, none⟩, [13], 0⟩,
  ⟨3, ⟨some 15, .p (.fieldAddr 0 (.tmp 14)), none, none⟩, [14], 0⟩,
  ⟨4, ⟨some 16, .l (.load (.i .i64) (.tmp 15)), none, none⟩, [15], 0⟩,
  ⟨5, ⟨some 17, .p (.bin .add (.tmp 12) (.tmp 16)), none, none⟩, [12, 16], 0⟩,
  ⟨6, ⟨some 18, .p (.bin .sub (.tmp 17) (.const (.int .i64 1))), none, none⟩, [17], 0⟩,
  ⟨7, ⟨some 19, .p (.mv (.tmp 0)), none, none⟩, [0], 0⟩,
  ⟨8, ⟨some 20, .p (.nilP (.tmp 19)), none, none⟩, [19], 0⟩,
  ⟨9, ⟨some 21, .p (.fieldAddr 0 (.tmp 20)), none, none⟩, [20], 0⟩,
  ⟨10, ⟨some 22, .l (.load (.i .i64) (.tmp 21)), none, none⟩, [21], 0⟩,
  ⟨11, ⟨some 23, .p (.bin .quo (.tmp 18) (.tmp 22)), none, none⟩, [18, 22], 0⟩,
  ⟨12, ⟨some 4, .p (.mv (.tmp 23)), none, none⟩, [23], 0⟩,
  ⟨13, ⟨some 5, .p (.mv (.const (.int .i64 0))), none, none⟩, [], 0⟩])
  (.ret)))
noncomputable def e_stripe_Plan_Each (k : Nat) (D : CallF) : Ent := entOf 26 [(0, .p), (1, .i .i64)] [(4, .i .i64), (5, .i .i64)] (stripe_Plan_Each k D)
theorem q_stripe_Plan_Each : (Try.f26.body).bind (rcodeOf Try.prog 0 Try.f26.ntmps) = some (strip r_stripe_Plan_Each) := by kernel_rfl
theorem t_stripe_Plan_Each (k : Nat) (D : CallF) : curF [(0, .p), (1, .i .i64)] (fun args h => denF (C_stripe_Plan_Each k D) k r_stripe_Plan_Each [(4, .i .i64), (5, .i .i64)] [none, none] args h) = stripe_Plan_Each k D := by kernel_rfl
theorem ok_stripe_Plan_Each {D : CallF} (hD : CSound Try.prog 0 D) (k : Nat) : EntOk Try.prog 0 (e_stripe_Plan_Each k D) :=
  entOf_ok2 (mkC_sound hD (EntsOk.none)) Try.func26 rfl q_stripe_Plan_Each rfl (t_stripe_Plan_Each k D)
end Gb
namespace Gb
open Go Gx Go.Proofs
set_option maxRecDepth 100000
end Gb
namespace Gb
open Go Gx Go.Proofs
set_option maxRecDepth 100000
noncomputable def C_stripe_Plan_row (_k : Nat) (D : CallF) : CallF := mkC D []
noncomputable def stripe_Plan_row (_k : Nat) (_D : CallF) (p_0 : Option Addr) (a_1 : Int × Int × Slc) (i_2 : Int) (h : AHeap) : Option ((Slc) × AHeap) :=
  let h1 := AHeap.new h (.cells [.int .i64 a_1.1, .int .i64 a_1.2.1, .slice a_1.2.2.a a_1.2.2.len a_1.2.2.cap] 84 true 0)
  (ldL (⟨h.next, 2, none⟩ : Addr) h1).bind fun x2 =>
  (p_0).bind fun p3 =>
  (ldI .i64 (⟨p3.block, p3.off + 0, none⟩ : Addr) h1).bind fun x4 =>
  (p_0).bind fun p5 =>
  (ldI .i64 (⟨p5.block, p5.off + 0, none⟩ : Addr) h1).bind fun x6 =>
  (Gx.subL 1 x2 (some (IntKind.wrap .i64 (i_2 * x4))) (some (IntKind.wrap .i64 ((IntKind.wrap .i64 (i_2 + 1)) * x6))) none).bind fun l7 =>
  some (l7, h1)
def r_stripe_Plan_row : RCode := .seq (.region [⟨some 4, .a (.box 84 (.tmp 1)), none, none⟩,
  ⟨some 6, .p (.mv (.const (.slice none 0 0))), none, none⟩])
  (.seq (.draw [⟨0, ⟨some 7, .p (.fieldAddr 2 (.tmp 4)), none, none⟩, [4], 0⟩,
  ⟨1, ⟨some 8, .l (.load (.l) (.tmp 7)), none, none⟩, [7], 0⟩,
  ⟨2, ⟨some 9, .p (.mv (.tmp 2)), none, none⟩, [2], 0⟩,
  ⟨3, ⟨some 10, .p (.mv (.tmp 0)), none, none⟩, [0], 0⟩,
  ⟨4, ⟨some 11, .p (.nilP (.tmp 10)), none, none⟩, [10], 0⟩,
  ⟨5, ⟨some 12, .p (.fieldAddr 0 (.tmp 11)), none, none⟩, [11], 0⟩,
  ⟨6, ⟨some 13, .l (.load (.i .i64) (.tmp 12)), none, none⟩, [12], 0⟩,
  ⟨7, ⟨some 14, .p (.bin .mul (.tmp 9) (.tmp 13)), none, none⟩, [9, 13], 0⟩,
  ⟨8, ⟨some 15, .p (.mv (.tmp 2)), none, none⟩, [2], 0⟩,
  ⟨9, ⟨some 16, .p (.bin .add (.tmp 15) (.const (.int .i64 1))), none, none⟩, [15], 0⟩,
  ⟨10, ⟨some 17, .p (.mv (.tmp 0)), none, none⟩, [0], 0⟩,
  ⟨11, ⟨some 18, .p (.nilP (.tmp 17)), none, none⟩, [17], 0⟩,
  ⟨12, ⟨some 19, .p (.fieldAddr 0 (.tmp 18)), none, none⟩, [18], 0⟩,
  ⟨13, ⟨some 20, .l (.load (.i .i64) (.tmp 19)), none, none⟩, [19], 0⟩,
  ⟨14, ⟨some 21, .p (.bin .mul (.tmp 16) (.tmp 20)), none, none⟩, [16, 20], 0⟩,
  ⟨15, ⟨some 22, .p (.subL 1 (.tmp 8) (some (.tmp 14)) (some (.tmp 21)) none), none, none⟩, [8, 14, 21], 0⟩,
  ⟨16, ⟨some 6, .p (.mv (.tmp 22)), none, none⟩, [22], 0⟩])
  (.ret))
noncomputable def e_stripe_Plan_row (k : Nat) (D : CallF) : Ent := entOf 50 [(0, .p), (1, .st [.i .i64, .i .i64, .l]), (2, .i .i64)] [(6, .l)] (stripe_Plan_row k D)
theorem q_stripe_Plan_row : (Try.f50.body).bind (rcodeOf Try.prog 0 Try.f50.ntmps) = some (strip r_stripe_Plan_row) := by kernel_rfl
theorem t_stripe_Plan_row (k : Nat) (D : CallF) : curF [(0, .p), (1, .st [.i .i64, .i .i64, .l]), (2, .i .i64)] (fun args h => denF (C_stripe_Plan_row k D) k r_stripe_Plan_row [(6, .l)] [none] args h) = stripe_Plan_row k D := by kernel_rfl
theorem ok_stripe_Plan_row {D : CallF} (hD : CSound Try.prog 0 D) (k : Nat) : EntOk Try.prog 0 (e_stripe_Plan_row k D) :=
  entOf_ok2 (mkC_sound hD (EntsOk.none)) Try.func50 rfl q_stripe_Plan_row rfl (t_stripe_Plan_row k D)
end Gb
namespace Gb
open Go Gx Go.Proofs
set_option maxRecDepth 100000
end Gb
namespace Go.Proofs
open Go.Shelf
def Try.lays105_ren : Go.Shelf.Ren := ⟨fun | 105 => 48 | 212 => 63 | 99 => 64 | 165 => 65 | 166 => 66 | 170 => 67 | 169 => 68 | 263 => 80 | 264 => 81 | 206 => 82 | 240 => 83 | 241 => 84 | 276 => 95 | 277 => 96 | n => n, fun | 9 => 9 | 3 => 3 | 4 => 4 | 20 => 20 | 0 => 0 | 46 => 80 | 109 => 132 | 5 => 5 | 72 => 137 | 76 => 141 | 51 => 79 | 146 => 151 | 53 => 153 | 148 => 154 | 70 => 135 | 37 => 46 | 75 => 140 | 127 => 156 | 164 => 163 | 80 => 143 | n => n, fun | n => n⟩
theorem Try.lays105 : Go.Proofs.Lays.n105 Try.prog Try.lays105_ren := {
  mixed := by kernel_rfl
  f99 := Try.func64.trans (congrArg some (by kernel_rfl))
  f105 := Try.func48.trans (congrArg some (by kernel_rfl))
  f165 := Try.func65.trans (congrArg some (by kernel_rfl))
  f166 := Try.func66.trans (congrArg some (by kernel_rfl))
  f169 := Try.func68.trans (congrArg some (by kernel_rfl))
  f170 := Try.func67.trans (congrArg some (by kernel_rfl))
  f206 := Try.func82.trans (congrArg some (by kernel_rfl))
  f212 := Try.func63.trans (congrArg some (by kernel_rfl))
  f240 := Try.func83.trans (congrArg some (by kernel_rfl))
  f241 := Try.func84.trans (congrArg some (by kernel_rfl))
  f263 := Try.func80.trans (congrArg some (by kernel_rfl))
  f264 := Try.func81.trans (congrArg some (by kernel_rfl))
  f276 := Try.func95.trans (congrArg some (by kernel_rfl))
  f277 := Try.func96.trans (congrArg some (by kernel_rfl))
  t0 := Try.underlying0
  a0 := Try.isAgg0
  z0 := Try.sizeOf0
  v0 := Try.zeroValue0
  t3 := Try.underlying3
  a3 := Try.isAgg3
  z3 := Try.sizeOf3
  v3 := Try.zeroValue3
  t4 := Try.underlying4
  a4 := Try.isAgg4
  z4 := Try.sizeOf4
  v4 := Try.zeroValue4
  t5 := Try.underlying5
  a5 := Try.isAgg5
  z5 := Try.sizeOf5
  v5 := Try.zeroValue5
  t9 := Try.underlying9
  a9 := Try.isAgg9
  z9 := Try.sizeOf9
  v9 := Try.zeroValue9
  t20 := Try.underlying20
  a20 := Try.isAgg20
  z20 := Try.sizeOf20
  v20 := Try.zeroValue20
  t37 := Try.underlying46
  a37 := Try.isAgg46
  z37 := Try.sizeOf46
  v37 := Try.zeroValue46
  t46 := Try.underlying80
  a46 := Try.isAgg80
  z46 := Try.sizeOf80
  v46 := Try.zeroValue80
  t51 := Try.underlying79
  a51 := Try.isAgg79
  z51 := Try.sizeOf79
  v51 := Try.zeroValue79
  t53 := Try.underlying153
  a53 := Try.isAgg153
  z53 := Try.sizeOf153
  v53 := Try.zeroValue153
  t70 := Try.underlying135
  a70 := Try.isAgg135
  z70 := Try.sizeOf135
  v70 := Try.zeroValue135
  t72 := Try.underlying137
  a72 := Try.isAgg137
  z72 := Try.sizeOf137
  v72 := Try.zeroValue137
  t75 := Try.underlying140
  a75 := Try.isAgg140
  z75 := Try.sizeOf140
  v75 := Try.zeroValue140
  t76 := Try.underlying141
  a76 := Try.isAgg141
  z76 := Try.sizeOf141
  v76 := Try.zeroValue141
  t109 := Try.underlying132
  a109 := Try.isAgg132
  z109 := Try.sizeOf132
  v109 := Try.zeroValue132
  t127 := Try.underlying156
  a127 := Try.isAgg156
  z127 := Try.sizeOf156
  v127 := Try.zeroValue156
  t146 := Try.underlying151
  a146 := Try.isAgg151
  z146 := Try.sizeOf151
  v146 := Try.zeroValue151
  t148 := Try.underlying154
  a148 := Try.isAgg154
  z148 := Try.sizeOf154
  v148 := Try.zeroValue154
  t164 := Try.underlying163
  a164 := Try.isAgg163
  z164 := Try.sizeOf163
  v164 := Try.zeroValue163 }
theorem Try.Builder_Extra_105 : Builder.Extra Try.prog Try.lays105_ren := {
  sizeBuilder := by kernel_rfl
  liesBuilder := by kernel_rfl
  t5 := Try.underlying5
  a5 := Try.isAgg5
  z5 := Try.sizeOf5
  v5 := Try.zeroValue5
  infoByte := by kernel_rfl
  cellsByte := by kernel_rfl
  sizeByte := by kernel_rfl
  neB5 := by decide }
end Go.Proofs
namespace Gb
open Go Gx Go.Proofs Go.Shelf
noncomputable def e_strings_Repeat (_k : Nat) (_D : CallF) : Ent := eRepeat 48
theorem ok_strings_Repeat {D : CallF} (_hD : CSound Try.prog 0 D) (k : Nat) : EntOk Try.prog 0 (e_strings_Repeat k D) :=
  repeat_ok (c := _) Try.func48 rfl rfl (fun s n w h1 h2 => Any.strings_Repeat Try.lays105 Try.Builder_Extra_105 s n w h1 h2)
end Gb
namespace Gb
open Go Gx Go.Proofs
set_option maxRecDepth 100000
noncomputable def C_stripe_Plan_Split (k : Nat) (D : CallF) : CallF := mkC D [e_stripe_Plan_Each k D, e_strings_Repeat k D, e_stripe_Plan_row k D, e_field_Field_Mix k D]
noncomputable def stripe_Plan_Split_l1b (_k : Nat) (_D : CallF) (j14 : (Option Addr) → Slc → AHeap → Option ((Slc × Int) × AHeap)) (rec55 : (Option Addr) → ByteArray → Int → Slc → Int → Int → AHeap → Option ((Slc × Int) × AHeap)) (p48 : Option Addr) (s49 : ByteArray) (n50 : Int) (out51 : Slc) (y52 : Int) (y53 : Int) (h54 : AHeap) : Option ((Slc × Int) × AHeap) :=
  (if (decide (y53 < y52)) = true then
  (Gx.subS s49 (some (IntKind.wrap .i64 (y53 * n50))) (some (IntKind.wrap .i64 ((IntKind.wrap .i64 (y53 + 1)) * n50)))).bind fun s56 =>
  let h57 := AHeap.new h54 (.cells [.string s56] 9 true 0)
  (rdS 1 (⟨(some ⟨h54.next, 0, some 0⟩), 1, 1⟩ : Slc) h57).bind fun n59 =>
  (appendA 1 16 9 h57 out51 n59 1).bind fun r58 =>
  rec55 p48 s49 n50 r58.1 y52 (IntKind.wrap .i64 (y53 + 1)) r58.2
  else
  j14 p48 out51 h54)
noncomputable def stripe_Plan_Split_l1 (k : Nat) (D : CallF) (j14 : (Option Addr) → Slc → AHeap → Option ((Slc × Int) × AHeap)) : (Option Addr) → ByteArray → Int → Slc → Int → Int → AHeap → Option ((Slc × Int) × AHeap) :=
  iterK (α := (Option Addr) → ByteArray → Int → Slc → Int → Int → AHeap → Option ((Slc × Int) × AHeap)) (fun _ _ _ _ _ _ _ => none) k (stripe_Plan_Split_l1b k D j14)
noncomputable def stripe_Plan_Split_l0b (k : Nat) (D : CallF) (j22 : Slc → AHeap → Option ((Slc × Int) × AHeap)) (rec31 : (Option Addr) → Slc → Slc → Int → Int → AHeap → Option ((Slc × Int) × AHeap)) (p25 : Option Addr) (out26 : Slc) (pieces27 : Slc) (y28 : Int) (y29 : Int) (h30 : AHeap) : Option ((Slc × Int) × AHeap) :=
  (if (decide (y29 < y28)) = true then
  (p25).bind fun p32 =>
  (ldA 3 (⟨p32.block, p32.off + 4, none⟩ : Addr) h30).bind fun l33 =>
  (decC [.i .i64, .i .i64, .l] l33).bind fun x34 =>
  (p25).bind fun p35 =>
  (ldI .i64 (⟨p35.block, p35.off + 0, none⟩ : Addr) h30).bind fun x36 =>
  (stripe_Plan_row k D p25 (x34.1, x34.2.1, x34.2.2) (IntKind.wrap .i64 (x36 + y29)) h30).bind fun r37 =>
  (p25).bind fun p38 =>
  (ldP (⟨p38.block, p38.off + 2, none⟩ : Addr) r37.2).bind fun x39 =>
  guardP (SameW [h30] (fun H41 => (ldP (⟨p38.block, p38.off + 2, none⟩ : Addr) H41).bind fun y40 => some (.pointer y40)) (.pointer x39)) (
  (field_Field_Mix k D x39 pieces27 r37.1 r37.2).bind fun r42 =>
  let h43 := AHeap.new r42.2 (.cells [.string r42.1.1] 9 true 0)
  (rdS 1 (⟨(some ⟨r42.2.next, 0, some 0⟩), 1, 1⟩ : Slc) h43).bind fun n45 =>
  (appendA 1 16 9 h43 out26 n45 1).bind fun r44 =>
  rec31 p25 r44.1 pieces27 y28 (IntKind.wrap .i64 (y29 + 1)) r44.2)
  else
  j22 out26 h30)
noncomputable def stripe_Plan_Split_l0 (k : Nat) (D : CallF) (j22 : Slc → AHeap → Option ((Slc × Int) × AHeap)) : (Option Addr) → Slc → Slc → Int → Int → AHeap → Option ((Slc × Int) × AHeap) :=
  iterK (α := (Option Addr) → Slc → Slc → Int → Int → AHeap → Option ((Slc × Int) × AHeap)) (fun _ _ _ _ _ _ => none) k (stripe_Plan_Split_l0b k D j22)
noncomputable def stripe_Plan_Split (k : Nat) (D : CallF) (p_0 : Option Addr) (s_1 : ByteArray) (h : AHeap) : Option ((Slc × Int) × AHeap) :=
  (stripe_Plan_Each k D p_0 (s_1.size : Int) h).bind fun r1 =>
  (if (r1.1.2 != 0) = true then
  some (((⟨none, 0, 0⟩ : Slc), 2), r1.2)
  else
  (p_0).bind fun p2 =>
  (ldI .i64 (⟨p2.block, p2.off + 0, none⟩ : Addr) r1.2).bind fun x3 =>
  let t4 : Int := (IntKind.wrap .i64 ((IntKind.wrap .i64 (x3 * r1.1.1)) - (s_1.size : Int)))
  (repeatA (⟨#[0]⟩ : ByteArray) t4).bind fun s5 =>
  (if s_1.size + s5.size ≤ 9223372036854775807 then
  (p_0).bind fun p6 =>
  (ldI .i64 (⟨p6.block, p6.off + 0, none⟩ : Addr) r1.2).bind fun x7 =>
  (p_0).bind fun p8 =>
  (ldI .i64 (⟨p8.block, p8.off + 1, none⟩ : Addr) r1.2).bind fun x9 =>
  (if 0 ≤ (0 : Int) ∧ 0 ≤ (IntKind.wrap .i64 (x7 + x9)) ∧ (IntKind.wrap .i64 (x7 + x9)) ≤ 281474976710656 ∧ 16 * (IntKind.wrap .i64 (x7 + x9)) ≤ 281474976710656 then
  let h10 := AHeap.new r1.2 (.cells (zerosL ((IntKind.wrap .i64 (x7 + x9))).toNat [.string ⟨#[]⟩]) 9 true 0)
  joinK (fun (p11 : Option Addr) (out12 : Slc) (h13 : AHeap) =>
  (p11).bind fun p15 =>
  (ldI .i64 (⟨p15.block, p15.off + 0, none⟩ : Addr) h13).bind fun x16 =>
  (p11).bind fun p17 =>
  (ldI .i64 (⟨p17.block, p17.off + 0, none⟩ : Addr) h13).bind fun x18 =>
  (Gx.subL 1 out12 none (some x16) (some x18)).bind fun l19 =>
  joinK (fun (out20 : Slc) (h21 : AHeap) =>
  some ((out20, 0), h21)) fun j22 =>
  (p11).bind fun p23 =>
  (ldI .i64 (⟨p23.block, p23.off + 1, none⟩ : Addr) h13).bind fun x24 =>
  stripe_Plan_Split_l0 k D j22 p11 out12 l19 x24 0 h13) fun j14 =>
  (p_0).bind fun p46 =>
  (ldI .i64 (⟨p46.block, p46.off + 0, none⟩ : Addr) h10).bind fun x47 =>
  stripe_Plan_Split_l1 k D j14 p_0 (s_1 ++ s5) r1.1.1 (⟨(some ⟨r1.2.next, 0, some 0⟩), (0 : Int).toNat, ((IntKind.wrap .i64 (x7 + x9))).toNat⟩ : Slc) x47 0 h10
  else none)
  else none))
def r_stripe_Plan_Split : RCode := .seq (.region [⟨some 4, .p (.mv (.const (.slice none 0 0))), none, none⟩,
  ⟨some 5, .p (.mv (.const (.int .i64 0))), none, none⟩])
  (.seq (.region [⟨some 15, .p (.mv (.tmp 0)), none, none⟩,
  ⟨some 16, .p (.mv (.tmp 1)), none, none⟩,
  ⟨some 17, .p (.lenS (.tmp 16)), none, none⟩,
  ⟨some 18, .e (.call (.func 26) [.tmp 15, .tmp 17]), none, none⟩,
  ⟨some 14, .p (.mv (.tmp 18)), none, none⟩,
  ⟨some 19, .p (.extract (.tmp 14) 0), none, none⟩,
  ⟨some 20, .p (.extract (.tmp 14) 1), none, none⟩,
  ⟨some 6, .p (.mv (.tmp 19)), none, none⟩,
  ⟨some 7, .p (.mv (.tmp 20)), none, none⟩])
  (.seq (.seq (.region [⟨some 21, .p (.mv (.tmp 7)), none, none⟩,
  ⟨some 22, .p (.bin .neq (.tmp 21) (.const (.int .i64 0))), none, none⟩])
  (.cond (.tmp 22) (.seq (.region [⟨some 4, .p (.mv (.const (.slice none 0 0))), none, none⟩,
  ⟨some 5, .p (.mv (.const (.int .i64 2))), none, none⟩])
  (.ret)) (.skip)))
  (.seq (.region [⟨some 23, .p (.mv (.tmp 1)), none, none⟩,
  ⟨some 24, .p (.mv (.tmp 0)), none, none⟩,
  ⟨some 25, .p (.nilP (.tmp 24)), none, none⟩,
  ⟨some 26, .p (.fieldAddr 0 (.tmp 25)), none, none⟩,
  ⟨some 27, .l (.load (.i .i64) (.tmp 26)), none, none⟩,
  ⟨some 28, .p (.mv (.tmp 6)), none, none⟩,
  ⟨some 29, .p (.bin .mul (.tmp 27) (.tmp 28)), none, none⟩,
  ⟨some 30, .p (.mv (.tmp 1)), none, none⟩,
  ⟨some 31, .p (.lenS (.tmp 30)), none, none⟩,
  ⟨some 32, .p (.bin .sub (.tmp 29) (.tmp 31)), none, none⟩,
  ⟨some 33, .e (.call (.func 48) [.const (.string ⟨#[0]⟩), .tmp 32]), none, none⟩,
  ⟨some 34, .p (.bin .add (.tmp 23) (.tmp 33)), none, none⟩,
  ⟨some 1, .p (.mv (.tmp 34)), none, none⟩])
  (.seq (.draw [⟨0, ⟨some 35, .p (.mv (.tmp 0)), none, none⟩, [0], 0⟩,
  ⟨1, ⟨some 36, .p (.nilP (.tmp 35)), none, none⟩, [35], 0⟩,
  ⟨2, ⟨some 37, .p (.fieldAddr 0 (.tmp 36)), none, none⟩, [36], 0⟩,
  ⟨3, ⟨some 38, .l (.load (.i .i64) (.tmp 37)), none, none⟩, [37], 0⟩,
  ⟨4, ⟨some 39, .p (.mv (.tmp 0)), none, none⟩, [0], 0⟩,
  ⟨5, ⟨some 40, .p (.nilP (.tmp 39)), none, none⟩, [39], 0⟩,
  ⟨6, ⟨some 41, .p (.fieldAddr 1 (.tmp 40)), none, none⟩, [40], 0⟩,
  ⟨7, ⟨some 42, .l (.load (.i .i64) (.tmp 41)), none, none⟩, [41], 0⟩,
  ⟨8, ⟨some 43, .p (.bin .add (.tmp 38) (.tmp 42)), none, none⟩, [38, 42], 0⟩,
  ⟨9, ⟨some 44, .a (.mkSlice 9 16 [.string ⟨#[]⟩] (.const (.int .i64 0)) (.tmp 43)), none, none⟩, [43], 0⟩,
  ⟨10, ⟨some 8, .p (.mv (.tmp 44)), none, none⟩, [44], 0⟩])
  (.seq (.join [(0, .p), (8, .l)] (.seq (.region [⟨some 45, .p (.mv (.tmp 0)), none, none⟩,
  ⟨some 46, .p (.nilP (.tmp 45)), none, none⟩,
  ⟨some 47, .p (.fieldAddr 0 (.tmp 46)), none, none⟩,
  ⟨some 48, .l (.load (.i .i64) (.tmp 47)), none, none⟩,
  ⟨some 49, .p (.mv (.const (.int .i64 0))), none, none⟩])
  (.block 0 (.loop [(0, .p), (1, .s), (6, .i .i64), (8, .l), (48, .i .i64), (49, .i .i64)] (.seq (.region [⟨some 50, .p (.bin .lss (.tmp 49) (.tmp 48)), none, none⟩])
  (.seq (.cond (.tmp 50) (.skip) (.exit 0))
  (.seq (.block 1 (.seq (.region [⟨some 51, .p (.mv (.tmp 49)), none, none⟩,
  ⟨some 9, .p (.mv (.tmp 51)), none, none⟩])
  (.region [⟨some 52, .p (.mv (.tmp 8)), none, none⟩,
  ⟨some 53, .p (.mv (.tmp 1)), none, none⟩,
  ⟨some 54, .p (.mv (.tmp 9)), none, none⟩,
  ⟨some 55, .p (.mv (.tmp 6)), none, none⟩,
  ⟨some 56, .p (.bin .mul (.tmp 54) (.tmp 55)), none, none⟩,
  ⟨some 57, .p (.mv (.tmp 9)), none, none⟩,
  ⟨some 58, .p (.bin .add (.tmp 57) (.const (.int .i64 1))), none, none⟩,
  ⟨some 59, .p (.mv (.tmp 6)), none, none⟩,
  ⟨some 60, .p (.bin .mul (.tmp 58) (.tmp 59)), none, none⟩,
  ⟨some 61, .p (.subS (.tmp 53) (some (.tmp 56)) (some (.tmp 60))), none, none⟩,
  ⟨some 62, .a (.buildSlice 9 1 (zerosL 1 [.string ⟨#[]⟩]) [(0, 1, .tmp 61)]), none, none⟩,
  ⟨some 63, .e (.append 1 16 9 [.string ⟨#[]⟩] .slice (.tmp 52) (.tmp 62)), none, none⟩,
  ⟨some 8, .p (.mv (.tmp 63)), none, none⟩])))
  (.region [⟨some 64, .p (.bin .add (.tmp 49) (.const (.int .i64 1))), none, none⟩,
  ⟨some 49, .p (.mv (.tmp 64)), none, none⟩]))))))))
  (.seq (.draw [⟨0, ⟨some 65, .p (.mv (.tmp 8)), none, none⟩, [8], 0⟩,
  ⟨1, ⟨some 66, .p (.mv (.tmp 0)), none, none⟩, [0], 0⟩,
  ⟨2, ⟨some 67, .p (.nilP (.tmp 66)), none, none⟩, [66], 0⟩,
  ⟨3, ⟨some 68, .p (.fieldAddr 0 (.tmp 67)), none, none⟩, [67], 0⟩,
  ⟨4, ⟨some 69, .l (.load (.i .i64) (.tmp 68)), none, none⟩, [68], 0⟩,
  ⟨5, ⟨some 70, .p (.mv (.tmp 0)), none, none⟩, [0], 0⟩,
  ⟨6, ⟨some 71, .p (.nilP (.tmp 70)), none, none⟩, [70], 0⟩,
  ⟨7, ⟨some 72, .p (.fieldAddr 0 (.tmp 71)), none, none⟩, [71], 0⟩,
  ⟨8, ⟨some 73, .l (.load (.i .i64) (.tmp 72)), none, none⟩, [72], 0⟩,
  ⟨9, ⟨some 74, .p (.subL 1 (.tmp 65) none (some (.tmp 69)) (some (.tmp 73))), none, none⟩, [65, 69, 73], 0⟩,
  ⟨10, ⟨some 10, .p (.mv (.tmp 74)), none, none⟩, [74], 0⟩])
  (.seq (.join [(8, .l)] (.seq (.region [⟨some 75, .p (.mv (.tmp 0)), none, none⟩,
  ⟨some 76, .p (.nilP (.tmp 75)), none, none⟩,
  ⟨some 77, .p (.fieldAddr 1 (.tmp 76)), none, none⟩,
  ⟨some 78, .l (.load (.i .i64) (.tmp 77)), none, none⟩,
  ⟨some 79, .p (.mv (.const (.int .i64 0))), none, none⟩])
  (.block 2 (.loop [(0, .p), (8, .l), (10, .l), (78, .i .i64), (79, .i .i64)] (.seq (.region [⟨some 80, .p (.bin .lss (.tmp 79) (.tmp 78)), none, none⟩])
  (.seq (.cond (.tmp 80) (.skip) (.exit 2))
  (.seq (.block 3 (.seq (.region [⟨some 81, .p (.mv (.tmp 79)), none, none⟩,
  ⟨some 11, .p (.mv (.tmp 81)), none, none⟩])
  (.seq (.draw [⟨5, ⟨some 88, .p (.mv (.tmp 0)), none, none⟩, [0], 0⟩,
  ⟨6, ⟨some 89, .p (.mv (.tmp 0)), none, none⟩, [0], 0⟩,
  ⟨7, ⟨some 90, .p (.nilP (.tmp 89)), none, none⟩, [89], 0⟩,
  ⟨8, ⟨some 91, .p (.fieldAddr 4 (.tmp 90)), none, none⟩, [90], 0⟩,
  ⟨9, ⟨some 92, .l (.load (.agg 3) (.tmp 91)), none, some (.st [.i .i64, .i .i64, .l])⟩, [91], 0⟩,
  ⟨10, ⟨some 93, .p (.mv (.tmp 0)), none, none⟩, [0], 0⟩,
  ⟨11, ⟨some 94, .p (.nilP (.tmp 93)), none, none⟩, [93], 0⟩,
  ⟨12, ⟨some 95, .p (.fieldAddr 0 (.tmp 94)), none, none⟩, [94], 0⟩,
  ⟨13, ⟨some 96, .l (.load (.i .i64) (.tmp 95)), none, none⟩, [95], 0⟩,
  ⟨14, ⟨some 97, .p (.mv (.tmp 11)), none, none⟩, [11], 0⟩,
  ⟨15, ⟨some 98, .p (.bin .add (.tmp 96) (.tmp 97)), none, none⟩, [96, 97], 0⟩,
  ⟨16, ⟨some 99, .e (.call (.func 50) [.tmp 88, .tmp 92, .tmp 98]), none, none⟩, [88, 92, 98], 0⟩,
  ⟨0, ⟨some 83, .p (.mv (.tmp 0)), none, none⟩, [0], 1⟩,
  ⟨1, ⟨some 84, .p (.nilP (.tmp 83)), none, none⟩, [83], 1⟩,
  ⟨2, ⟨some 85, .p (.fieldAddr 2 (.tmp 84)), none, none⟩, [84], 1⟩,
  ⟨3, ⟨some 86, .l (.load (.p) (.tmp 85)), none, none⟩, [85], 1⟩,
  ⟨4, ⟨some 87, .p (.mv (.tmp 10)), none, none⟩, [10], 1⟩,
  ⟨17, ⟨some 100, .e (.call (.func 49) [.tmp 86, .tmp 87, .tmp 99]), none, none⟩, [86, 87, 99], 0⟩,
  ⟨18, ⟨some 82, .p (.mv (.tmp 100)), none, none⟩, [100], 0⟩,
  ⟨19, ⟨some 101, .p (.extract (.tmp 82) 0), none, none⟩, [82], 0⟩,
  ⟨20, ⟨some 102, .p (.extract (.tmp 82) 1), none, none⟩, [82], 0⟩,
  ⟨21, ⟨some 12, .p (.mv (.tmp 101)), none, none⟩, [101], 0⟩,
  ⟨22, ⟨some 13, .p (.mv (.tmp 102)), none, none⟩, [102], 0⟩])
  (.region [⟨some 103, .p (.mv (.tmp 8)), none, none⟩,
  ⟨some 104, .p (.mv (.tmp 12)), none, none⟩,
  ⟨some 105, .a (.buildSlice 9 1 (zerosL 1 [.string ⟨#[]⟩]) [(0, 1, .tmp 104)]), none, none⟩,
  ⟨some 106, .e (.append 1 16 9 [.string ⟨#[]⟩] .slice (.tmp 103) (.tmp 105)), none, none⟩,
  ⟨some 8, .p (.mv (.tmp 106)), none, none⟩]))))
  (.region [⟨some 107, .p (.bin .add (.tmp 79) (.const (.int .i64 1))), none, none⟩,
  ⟨some 79, .p (.mv (.tmp 107)), none, none⟩]))))))))
  (.seq (.region [⟨some 108, .p (.mv (.tmp 8)), none, none⟩,
  ⟨some 4, .p (.mv (.tmp 108)), none, none⟩,
  ⟨some 5, .p (.mv (.const (.int .i64 0))), none, none⟩])
  (.ret)))))))))
noncomputable def e_stripe_Plan_Split (k : Nat) (D : CallF) : Ent := entOf 23 [(0, .p), (1, .s)] [(4, .l), (5, .i .i64)] (stripe_Plan_Split k D)
theorem q_stripe_Plan_Split : (Try.f23.body).bind (rcodeOf Try.prog 0 Try.f23.ntmps) = some (strip r_stripe_Plan_Split) := by kernel_rfl
theorem t_stripe_Plan_Split (k : Nat) (D : CallF) : curF [(0, .p), (1, .s)] (fun args h => denF (C_stripe_Plan_Split k D) k r_stripe_Plan_Split [(4, .l), (5, .i .i64)] [none, none] args h) = stripe_Plan_Split k D := by kernel_rfl
theorem ok_stripe_Plan_Split {D : CallF} (hD : CSound Try.prog 0 D) (k : Nat) : EntOk Try.prog 0 (e_stripe_Plan_Split k D) :=
  entOf_ok2 (mkC_sound hD (EntsOk.more (ok_stripe_Plan_Each hD k) (EntsOk.more (ok_strings_Repeat hD k) (EntsOk.more (ok_stripe_Plan_row hD k) (EntsOk.more (ok_field_Field_Mix hD k) (EntsOk.none)))))) Try.func23 rfl q_stripe_Plan_Split rfl (t_stripe_Plan_Split k D)
end Gb
namespace Gb
open Go Gx Go.Proofs
set_option maxRecDepth 100000
end Gb
namespace Gb
open Go Gx Go.Proofs
set_option maxRecDepth 100000
end Gb
namespace Gb
open Go Gx Go.Proofs
set_option maxRecDepth 100000
end Gb
namespace Gb
open Go Gx Go.Proofs
set_option maxRecDepth 100000
noncomputable def C_law05_works (k : Nat) (D : CallF) : CallF := mkC D [e_stripe_New k D, e_stripe_Plan_Split k D]
noncomputable def law05_works (k : Nat) (D : CallF)  (h : AHeap) : Option ((Bool) × AHeap) :=
  (stripe_New k D 2 1 h).bind fun r1 =>
  joinK (fun (p2 : Option Addr) (y3 : Bool) (h4 : AHeap) =>
  (if y3 = true then
  some (false, h4)
  else
  (stripe_Plan_Split k D p2 (⟨#[97, 98, 99]⟩ : ByteArray) h4).bind fun r6 =>
  (if (r6.1.2 == 0) = true then
  (if ((r6.1.1.len : Int) == 3) = true then
  (Gx.idxL 1 r6.1.1 0).bind fun q7 =>
  (ldS q7 r6.2).bind fun x8 =>
  (if (x8 == (⟨#[97, 98]⟩ : ByteArray)) = true then
  (Gx.idxL 1 r6.1.1 1).bind fun q9 =>
  (ldS q9 r6.2).bind fun x10 =>
  (if (x10 == (⟨#[99, 0]⟩ : ByteArray)) = true then
  (Gx.idxL 1 r6.1.1 2).bind fun q11 =>
  (ldS q11 r6.2).bind fun x12 =>
  some (((x12.size : Int) == 2), r6.2)
  else
  some (false, r6.2))
  else
  some (false, r6.2))
  else
  some (false, r6.2))
  else
  some (false, r6.2)))) fun j5 =>
  (if r1.1.1.isNone = true then
  j5 r1.1.1 true r1.2
  else
  j5 r1.1.1 (r1.1.2 != 0) r1.2)
def r_law05_works : RCode := .seq (.region [⟨some 0, .p (.mv (.const (.bool false))), none, none⟩])
  (.seq (.region [⟨some 5, .e (.call (.func 21) [.const (.int .i64 2), .const (.int .i64 1)]), none, none⟩,
  ⟨some 4, .p (.mv (.tmp 5)), none, none⟩,
  ⟨some 6, .p (.extract (.tmp 4) 0), none, none⟩,
  ⟨some 7, .p (.extract (.tmp 4) 1), none, none⟩,
  ⟨some 1, .p (.mv (.tmp 6)), none, none⟩,
  ⟨some 2, .p (.mv (.tmp 7)), none, none⟩])
  (.seq (.seq (.join [(1, .p), (13, .b)] (.region [⟨some 8, .p (.mv (.tmp 1)), none, none⟩,
  ⟨some 9, .p (.isNil .p false (.tmp 8)), none, none⟩,
  ⟨some 10, .p (.mv (.tmp 9)), none, none⟩,
  ⟨some 11, .p (.mv (.tmp 2)), (some (10, false)), none⟩,
  ⟨some 12, .p (.bin .neq (.tmp 11) (.const (.int .i64 0))), (some (10, false)), none⟩,
  ⟨some 13, .p (.pick (.tmp 10) (.const (.bool true)) (.tmp 12)), none, none⟩]))
  (.cond (.tmp 13) (.seq (.region [⟨some 0, .p (.mv (.const (.bool false))), none, none⟩])
  (.ret)) (.skip)))
  (.seq (.region [⟨some 15, .p (.mv (.tmp 1)), none, none⟩,
  ⟨some 16, .e (.call (.func 23) [.tmp 15, .const (.string ⟨#[97, 98, 99]⟩)]), none, none⟩,
  ⟨some 14, .p (.mv (.tmp 16)), none, none⟩,
  ⟨some 17, .p (.extract (.tmp 14) 0), none, none⟩,
  ⟨some 18, .p (.extract (.tmp 14) 1), none, none⟩,
  ⟨some 3, .p (.mv (.tmp 17)), none, none⟩,
  ⟨some 2, .p (.mv (.tmp 18)), none, none⟩])
  (.seq (.region [⟨some 19, .p (.mv (.tmp 2)), none, none⟩,
  ⟨some 20, .p (.bin .eql (.tmp 19) (.const (.int .i64 0))), none, none⟩,
  ⟨some 21, .p (.mv (.tmp 20)), none, none⟩,
  ⟨some 22, .p (.mv (.tmp 3)), (some (21, true)), none⟩,
  ⟨some 23, .p (.lenL (.tmp 22)), (some (21, true)), none⟩,
  ⟨some 24, .p (.bin .eql (.tmp 23) (.const (.int .i64 3))), (some (21, true)), none⟩,
  ⟨some 25, .p (.pick (.tmp 21) (.tmp 24) (.const (.bool false))), none, none⟩,
  ⟨some 26, .p (.mv (.tmp 25)), none, none⟩,
  ⟨some 27, .p (.mv (.tmp 3)), (some (26, true)), none⟩,
  ⟨some 28, .p (.idxL 1 (.tmp 27) (.const (.int .i64 0))), (some (26, true)), none⟩,
  ⟨some 29, .l (.load (.s) (.tmp 28)), (some (26, true)), none⟩,
  ⟨some 30, .p (.bin .eql (.tmp 29) (.const (.string ⟨#[97, 98]⟩))), (some (26, true)), none⟩,
  ⟨some 31, .p (.pick (.tmp 26) (.tmp 30) (.const (.bool false))), none, none⟩,
  ⟨some 32, .p (.mv (.tmp 31)), none, none⟩,
  ⟨some 33, .p (.mv (.tmp 3)), (some (32, true)), none⟩,
  ⟨some 34, .p (.idxL 1 (.tmp 33) (.const (.int .i64 1))), (some (32, true)), none⟩,
  ⟨some 35, .l (.load (.s) (.tmp 34)), (some (32, true)), none⟩,
  ⟨some 36, .p (.bin .eql (.tmp 35) (.const (.string ⟨#[99, 0]⟩))), (some (32, true)), none⟩,
  ⟨some 37, .p (.pick (.tmp 32) (.tmp 36) (.const (.bool false))), none, none⟩,
  ⟨some 38, .p (.mv (.tmp 37)), none, none⟩,
  ⟨some 39, .p (.mv (.tmp 3)), (some (38, true)), none⟩,
  ⟨some 40, .p (.idxL 1 (.tmp 39) (.const (.int .i64 2))), (some (38, true)), none⟩,
  ⟨some 41, .l (.load (.s) (.tmp 40)), (some (38, true)), none⟩,
  ⟨some 42, .p (.lenS (.tmp 41)), (some (38, true)), none⟩,
  ⟨some 43, .p (.bin .eql (.tmp 42) (.const (.int .i64 2))), (some (38, true)), none⟩,
  ⟨some 44, .p (.pick (.tmp 38) (.tmp 43) (.const (.bool false))), none, none⟩,
  ⟨some 0, .p (.mv (.tmp 44)), none, none⟩])
  (.ret)))))
noncomputable def e_law05_works (k : Nat) (D : CallF) : Ent := entOf 22 [] [(0, .b)] (law05_works k D)
theorem q_law05_works : (Try.f22.body).bind (rcodeOf Try.prog 0 Try.f22.ntmps) = some (strip r_law05_works) := by kernel_rfl
theorem t_law05_works (k : Nat) (D : CallF) : curF [] (fun args h => denF (C_law05_works k D) k r_law05_works [(0, .b)] [none] args h) = law05_works k D := by kernel_rfl
theorem ok_law05_works {D : CallF} (hD : CSound Try.prog 0 D) (k : Nat) : EntOk Try.prog 0 (e_law05_works k D) :=
  entOf_ok2 (mkC_sound hD (EntsOk.more (ok_stripe_New hD k) (EntsOk.more (ok_stripe_Plan_Split hD k) (EntsOk.none)))) Try.func22 rfl q_law05_works rfl (t_law05_works k D)
end Gb
namespace Gb
open Go Gx Go.Proofs
set_option maxRecDepth 100000
end Gb
namespace Gb
open Go Gx Go.Proofs
set_option maxRecDepth 100000
end Gb
namespace Gb
open Go Gx Go.Proofs
set_option maxRecDepth 100000
end Gb
namespace Gb
open Go Gx Go.Proofs
set_option maxRecDepth 100000
end Gb
namespace Gb
open Go Gx Go.Proofs
set_option maxRecDepth 100000
end Gb
namespace Gb
open Go Gx Go.Proofs Go.Shelf
end Gb
namespace Gb
open Go Gx Go.Proofs
set_option maxRecDepth 100000
end Gb
namespace Gb
open Go Gx Go.Proofs
set_option maxRecDepth 100000
end Gb
namespace Gb
open Go Gx Go.Proofs
set_option maxRecDepth 100000
end Gb
namespace Gb
open Go Gx Go.Proofs
set_option maxRecDepth 100000
noncomputable def C_law05_shape (k : Nat) (D : CallF) : CallF := mkC D [e_book_Among k D]
noncomputable def law05_shape (k : Nat) (D : CallF) (n_0 : Int × Int) (h : AHeap) : Option ((Int × Int) × AHeap) :=
  let h1 := AHeap.new h (.cells [.int .i64 n_0.1, .int .i64 n_0.2] 40 true 0)
  (ldI .i64 (⟨h.next, 0, none⟩ : Addr) h1).bind fun x3 =>
  (book_Among k D x3 8 h1).bind fun r4 =>
  (ldI .i64 (⟨h.next, 1, none⟩ : Addr) r4.2).bind fun x6 =>
  guardP (SameW [h1] (fun H8 => (ldI .i64 (⟨h.next, 1, none⟩ : Addr) H8).bind fun y7 => some (.int .i64 y7)) (.int .i64 x6)) (
  (book_Among k D x6 7 r4.2).bind fun r9 =>
  some (((IntKind.wrap .i64 (1 + r4.1)), r9.1), r9.2))
def r_law05_shape : RCode := .seq (.region [⟨some 1, .a (.box 40 (.tmp 0)), none, none⟩,
  ⟨some 2, .p (.mv (.const (.int .i64 0))), none, none⟩,
  ⟨some 3, .p (.mv (.const (.int .i64 0))), none, none⟩])
  (.seq (.draw [⟨0, ⟨some 4, .p (.idxA 2 1 (.tmp 1) (.const (.int .i64 0))), none, none⟩, [1], 0⟩,
  ⟨1, ⟨some 5, .l (.load (.i .i64) (.tmp 4)), none, none⟩, [4], 0⟩,
  ⟨2, ⟨some 6, .e (.call (.func 34) [.tmp 5, .const (.int .i64 8)]), none, none⟩, [5], 0⟩,
  ⟨4, ⟨some 8, .p (.idxA 2 1 (.tmp 1) (.const (.int .i64 1))), none, none⟩, [1], 1⟩,
  ⟨5, ⟨some 9, .l (.load (.i .i64) (.tmp 8)), none, none⟩, [8], 1⟩,
  ⟨6, ⟨some 10, .e (.call (.func 34) [.tmp 9, .const (.int .i64 7)]), none, none⟩, [9], 0⟩,
  ⟨3, ⟨some 7, .p (.bin .add (.const (.int .i64 1)) (.tmp 6)), none, none⟩, [6], 1⟩,
  ⟨7, ⟨some 2, .p (.mv (.tmp 7)), none, none⟩, [7], 0⟩,
  ⟨8, ⟨some 3, .p (.mv (.tmp 10)), none, none⟩, [10], 0⟩])
  (.ret))
noncomputable def e_law05_shape (k : Nat) (D : CallF) : Ent := entOf 20 [(0, .st [.i .i64, .i .i64])] [(2, .i .i64), (3, .i .i64)] (law05_shape k D)
theorem q_law05_shape : (Try.f20.body).bind (rcodeOf Try.prog 0 Try.f20.ntmps) = some (strip r_law05_shape) := by kernel_rfl
theorem t_law05_shape (k : Nat) (D : CallF) : curF [(0, .st [.i .i64, .i .i64])] (fun args h => denF (C_law05_shape k D) k r_law05_shape [(2, .i .i64), (3, .i .i64)] [none, none] args h) = law05_shape k D := by kernel_rfl
theorem ok_law05_shape {D : CallF} (hD : CSound Try.prog 0 D) (k : Nat) : EntOk Try.prog 0 (e_law05_shape k D) :=
  entOf_ok2 (mkC_sound hD (EntsOk.more (ok_book_Among hD k) (EntsOk.none))) Try.func20 rfl q_law05_shape rfl (t_law05_shape k D)
end Gb
namespace Gb
open Go Gx Go.Proofs
set_option maxRecDepth 100000
end Gb
namespace Gb
open Go Gx Go.Proofs
set_option maxRecDepth 100000
noncomputable def C_law05_StripeSums (k : Nat) (D : CallF) : CallF := mkC D [e_law05_shape k D, e_stripe_New k D, e_stripe_Plan_Split k D, e_law05_works k D]
noncomputable def law05_StripeSums_l2b (_k : Nat) (_D : CallF) (j21 : ByteArray → ByteArray → (Option Addr) → Int → Slc → AHeap → Option ((Bool) × AHeap)) (rec99 : ByteArray → ByteArray → (Option Addr) → Int → Slc → Int → Int → AHeap → Option ((Bool) × AHeap)) (a91 : ByteArray) (b92 : ByteArray) (p93 : Option Addr) (long94 : Int) (c95 : Slc) (y96 : Int) (y97 : Int) (h98 : AHeap) : Option ((Bool) × AHeap) :=
  (if (decide (y97 < y96)) = true then
  (Gx.idxS a91 y97).bind fun b100 =>
  (Gx.idxS b92 y97).bind fun b101 =>
  (Gx.idxL 1 c95 y97).bind fun q102 =>
  (st1 q102 (.int .u8 (Go.bits .xor .u8 b100 b101)) h98).bind fun h103 =>
  rec99 a91 b92 p93 long94 c95 y96 (IntKind.wrap .i64 (y97 + 1)) h103
  else
  j21 a91 b92 p93 long94 c95 h98)
noncomputable def law05_StripeSums_l2 (k : Nat) (D : CallF) (j21 : ByteArray → ByteArray → (Option Addr) → Int → Slc → AHeap → Option ((Bool) × AHeap)) : ByteArray → ByteArray → (Option Addr) → Int → Slc → Int → Int → AHeap → Option ((Bool) × AHeap) :=
  iterK (α := ByteArray → ByteArray → (Option Addr) → Int → Slc → Int → Int → AHeap → Option ((Bool) × AHeap)) (fun _ _ _ _ _ _ _ _ => none) k (law05_StripeSums_l2b k D j21)
noncomputable def law05_StripeSums_l1b (_k : Nat) (_D : CallF) (j49 : Slc → Slc → Slc → Int → Int → AHeap → Option ((Bool) × AHeap)) (rec70 : Slc → Slc → Slc → Int → Int → Int → (Option Addr) → AHeap → Option ((Bool) × AHeap)) (x62 : Slc) (y63 : Slc) (z64 : Slc) (i65 : Int) (y66 : Int) (y67 : Int) (y68 : Option Addr) (h69 : AHeap) : Option ((Bool) × AHeap) :=
  (y68).bind fun p71 =>
  (iterA p71 h69).bind fun i72 =>
  (if i72.2 < i72.1.size then
  let h73 := AHeap.set h69 (p71).block (.iter i72.1 (i72.2 + (Utf8.decode i72.1 i72.2).2))
  (Gx.idxL 1 x62 i65).bind fun q74 =>
  (ldS q74 h73).bind fun x75 =>
  (Gx.idxS x75 (i72.2 : Int)).bind fun b76 =>
  (Gx.idxL 1 y63 i65).bind fun q77 =>
  (ldS q77 h73).bind fun x78 =>
  (Gx.idxS x78 (i72.2 : Int)).bind fun b79 =>
  (Gx.idxL 1 z64 i65).bind fun q80 =>
  (ldS q80 h73).bind fun x81 =>
  (Gx.idxS x81 (i72.2 : Int)).bind fun b82 =>
  (if ((Go.bits .xor .u8 b76 b79) != b82) = true then
  some (false, h73)
  else
  rec70 x62 y63 z64 i65 y66 y67 y68 h73)
  else
  j49 x62 y63 z64 y66 y67 h69)
noncomputable def law05_StripeSums_l1 (k : Nat) (D : CallF) (j49 : Slc → Slc → Slc → Int → Int → AHeap → Option ((Bool) × AHeap)) : Slc → Slc → Slc → Int → Int → Int → (Option Addr) → AHeap → Option ((Bool) × AHeap) :=
  iterK (α := Slc → Slc → Slc → Int → Int → Int → (Option Addr) → AHeap → Option ((Bool) × AHeap)) (fun _ _ _ _ _ _ _ _ => none) k (law05_StripeSums_l1b k D j49)
noncomputable def law05_StripeSums_l0b (k : Nat) (D : CallF) (j35 : AHeap → Option ((Bool) × AHeap)) (rec42 : Slc → Slc → Slc → Int → Int → AHeap → Option ((Bool) × AHeap)) (x36 : Slc) (y37 : Slc) (z38 : Slc) (y39 : Int) (y40 : Int) (h41 : AHeap) : Option ((Bool) × AHeap) :=
  (if (decide (y40 < y39)) = true then
  joinK (fun (x43 : Slc) (y44 : Slc) (z45 : Slc) (y46 : Int) (y47 : Int) (h48 : AHeap) =>
  rec42 x43 y44 z45 y46 (IntKind.wrap .i64 (y47 + 1)) h48) fun j49 =>
  joinK (fun (x50 : Slc) (y51 : Slc) (z52 : Slc) (i53 : Int) (y54 : Int) (y55 : Int) (y56 : Bool) (h57 : AHeap) =>
  (if y56 = true then
  some (false, h57)
  else
  (Gx.idxL 1 z52 i53).bind fun q59 =>
  (ldS q59 h57).bind fun x60 =>
  let h61 := AHeap.new h57 (.iter x60 0)
  law05_StripeSums_l1 k D j49 x50 y51 z52 i53 y54 y55 (some (⟨h57.next, 0, none⟩ : Addr)) h61)) fun j58 =>
  (Gx.idxL 1 x36 y40).bind fun q83 =>
  (ldS q83 h41).bind fun x84 =>
  (Gx.idxL 1 z38 y40).bind fun q85 =>
  (ldS q85 h41).bind fun x86 =>
  (if ((x84.size : Int) != (x86.size : Int)) = true then
  j58 x36 y37 z38 y40 y39 y40 true h41
  else
  (Gx.idxL 1 y37 y40).bind fun q87 =>
  (ldS q87 h41).bind fun x88 =>
  (Gx.idxL 1 z38 y40).bind fun q89 =>
  (ldS q89 h41).bind fun x90 =>
  j58 x36 y37 z38 y40 y39 y40 ((x88.size : Int) != (x90.size : Int)) h41)
  else
  j35 h41)
noncomputable def law05_StripeSums_l0 (k : Nat) (D : CallF) (j35 : AHeap → Option ((Bool) × AHeap)) : Slc → Slc → Slc → Int → Int → AHeap → Option ((Bool) × AHeap) :=
  iterK (α := Slc → Slc → Slc → Int → Int → AHeap → Option ((Bool) × AHeap)) (fun _ _ _ _ _ _ => none) k (law05_StripeSums_l0b k D j35)
noncomputable def law05_StripeSums (k : Nat) (D : CallF) (n_0 : Int × Int) (a_1 : ByteArray) (b_2 : ByteArray) (h : AHeap) : Option ((Bool) × AHeap) :=
  let h1 := AHeap.new h (.cells [.int .i64 n_0.1, .int .i64 n_0.2] 40 true 0)
  (ldA 2 (⟨h.next, 0, none⟩ : Addr) h1).bind fun l2 =>
  (decC [.i .i64, .i .i64] l2).bind fun x3 =>
  (law05_shape k D (x3.1, x3.2) h1).bind fun r4 =>
  (stripe_New k D r4.1.1 r4.1.2 r4.2).bind fun r5 =>
  joinK (fun (a6 : ByteArray) (b7 : ByteArray) (p8 : Option Addr) (y9 : Bool) (h10 : AHeap) =>
  (if y9 = true then
  some (false, h10)
  else
  let m12 : Int := if (b7.size : Int) < (a6.size : Int) then (b7.size : Int) else (a6.size : Int)
  let m13 : Int := if 300 < m12 then 300 else m12
  (if 0 ≤ m13 ∧ m13 ≤ m13 ∧ m13 ≤ 281474976710656 ∧ 1 * m13 ≤ 281474976710656 then
  let h14 := AHeap.new h10 (.cells (zerosL (m13).toNat [.int .u8 0]) 5 true 0)
  joinK (fun (a15 : ByteArray) (b16 : ByteArray) (p17 : Option Addr) (long18 : Int) (c19 : Slc) (h20 : AHeap) =>
  (Gx.subS a15 none (some long18)).bind fun s22 =>
  (stripe_Plan_Split k D p17 s22 h20).bind fun r23 =>
  (Gx.subS b16 none (some long18)).bind fun s24 =>
  (stripe_Plan_Split k D p17 s24 r23.2).bind fun r25 =>
  (bytesOf r25.2 c19).bind fun s26 =>
  (stripe_Plan_Split k D p17 s26 r25.2).bind fun r27 =>
  joinK (fun (x28 : Slc) (y29 : Slc) (z30 : Slc) (y31 : Bool) (h32 : AHeap) =>
  (if y31 = true then
  some (false, h32)
  else
  joinK (fun (h34 : AHeap) =>
  some (true, h34)) fun j35 =>
  law05_StripeSums_l0 k D j35 x28 y29 z30 (z30.len : Int) 0 h32)) fun j33 =>
  (if (r23.1.2 != 0) = true then
  j33 r23.1.1 r25.1.1 r27.1.1 true r27.2
  else
  (if (r25.1.2 != 0) = true then
  j33 r23.1.1 r25.1.1 r27.1.1 true r27.2
  else
  (if (r27.1.2 != 0) = true then
  j33 r23.1.1 r25.1.1 r27.1.1 true r27.2
  else
  (if ((r23.1.1.len : Int) != (r27.1.1.len : Int)) = true then
  j33 r23.1.1 r25.1.1 r27.1.1 true r27.2
  else
  j33 r23.1.1 r25.1.1 r27.1.1 ((r25.1.1.len : Int) != (r27.1.1.len : Int)) r27.2))))) fun j21 =>
  law05_StripeSums_l2 k D j21 a6 b7 p8 m13 (⟨(some ⟨h10.next, 0, some 0⟩), (m13).toNat, (m13).toNat⟩ : Slc) m13 0 h14
  else none))) fun j11 =>
  (if r5.1.1.isNone = true then
  j11 a_1 b_2 r5.1.1 true r5.2
  else
  (if (r5.1.2 != 0) = true then
  j11 a_1 b_2 r5.1.1 true r5.2
  else
  (law05_works k D r5.2).bind fun r104 =>
  j11 a_1 b_2 r5.1.1 (!r104.1) r104.2))
def r_law05_StripeSums : RCode := .seq (.region [⟨some 3, .a (.box 40 (.tmp 0)), none, none⟩,
  ⟨some 6, .p (.mv (.const (.bool false))), none, none⟩])
  (.seq (.region [⟨some 22, .l (.load (.agg 2) (.tmp 3)), none, some (.st [.i .i64, .i .i64])⟩,
  ⟨some 23, .e (.call (.func 20) [.tmp 22]), none, none⟩,
  ⟨some 21, .p (.mv (.tmp 23)), none, none⟩,
  ⟨some 24, .p (.extract (.tmp 21) 0), none, none⟩,
  ⟨some 25, .p (.extract (.tmp 21) 1), none, none⟩,
  ⟨some 7, .p (.mv (.tmp 24)), none, none⟩,
  ⟨some 8, .p (.mv (.tmp 25)), none, none⟩])
  (.seq (.region [⟨some 27, .p (.mv (.tmp 7)), none, none⟩,
  ⟨some 28, .p (.mv (.tmp 8)), none, none⟩,
  ⟨some 29, .e (.call (.func 21) [.tmp 27, .tmp 28]), none, none⟩,
  ⟨some 26, .p (.mv (.tmp 29)), none, none⟩,
  ⟨some 30, .p (.extract (.tmp 26) 0), none, none⟩,
  ⟨some 31, .p (.extract (.tmp 26) 1), none, none⟩,
  ⟨some 9, .p (.mv (.tmp 30)), none, none⟩,
  ⟨some 10, .p (.mv (.tmp 31)), none, none⟩])
  (.seq (.seq (.join [(1, .s), (2, .s), (9, .p), (41, .b)] (.region [⟨some 32, .p (.mv (.tmp 9)), none, none⟩,
  ⟨some 33, .p (.isNil .p false (.tmp 32)), none, none⟩,
  ⟨some 34, .p (.mv (.tmp 33)), none, none⟩,
  ⟨some 35, .p (.mv (.tmp 10)), (some (34, false)), none⟩,
  ⟨some 36, .p (.bin .neq (.tmp 35) (.const (.int .i64 0))), (some (34, false)), none⟩,
  ⟨some 37, .p (.pick (.tmp 34) (.const (.bool true)) (.tmp 36)), none, none⟩,
  ⟨some 38, .p (.mv (.tmp 37)), none, none⟩,
  ⟨some 39, .e (.call (.func 22) []), (some (38, false)), none⟩,
  ⟨some 40, .p (.un .not (.tmp 39)), (some (38, false)), none⟩,
  ⟨some 41, .p (.pick (.tmp 38) (.const (.bool true)) (.tmp 40)), none, none⟩]))
  (.cond (.tmp 41) (.seq (.region [⟨some 6, .p (.mv (.const (.bool false))), none, none⟩])
  (.ret)) (.skip)))
  (.seq (.region [⟨some 42, .p (.mv (.tmp 1)), none, none⟩,
  ⟨some 43, .p (.lenS (.tmp 42)), none, none⟩,
  ⟨some 44, .p (.mv (.tmp 2)), none, none⟩,
  ⟨some 45, .p (.lenS (.tmp 44)), none, none⟩,
  ⟨some 46, .p (.minM (.tmp 43) [.tmp 45, .const (.int .i64 300)]), none, none⟩,
  ⟨some 11, .p (.mv (.tmp 46)), none, none⟩])
  (.seq (.region [⟨some 47, .p (.mv (.tmp 11)), none, none⟩,
  ⟨some 48, .a (.mkSlice 5 1 [.int .u8 0] (.tmp 47) (.tmp 47)), none, none⟩,
  ⟨some 12, .p (.mv (.tmp 48)), none, none⟩])
  (.seq (.join [(1, .s), (2, .s), (9, .p), (11, .i .i64), (12, .l)] (.seq (.region [⟨some 49, .p (.mv (.tmp 11)), none, none⟩,
  ⟨some 50, .p (.mv (.const (.int .i64 0))), none, none⟩])
  (.block 0 (.loop [(1, .s), (2, .s), (9, .p), (11, .i .i64), (12, .l), (49, .i .i64), (50, .i .i64)] (.seq (.region [⟨some 51, .p (.bin .lss (.tmp 50) (.tmp 49)), none, none⟩])
  (.seq (.cond (.tmp 51) (.skip) (.exit 0))
  (.seq (.block 1 (.seq (.region [⟨some 52, .p (.mv (.tmp 50)), none, none⟩,
  ⟨some 13, .p (.mv (.tmp 52)), none, none⟩])
  (.draw [⟨0, ⟨some 53, .p (.mv (.tmp 12)), none, none⟩, [12], 0⟩,
  ⟨1, ⟨some 54, .p (.mv (.tmp 13)), none, none⟩, [13], 0⟩,
  ⟨2, ⟨some 55, .p (.mv (.tmp 1)), none, none⟩, [1], 0⟩,
  ⟨3, ⟨some 56, .p (.mv (.tmp 13)), none, none⟩, [13], 0⟩,
  ⟨4, ⟨some 57, .p (.idxS (.tmp 55) (.tmp 56)), none, none⟩, [55, 56], 0⟩,
  ⟨5, ⟨some 58, .p (.mv (.tmp 2)), none, none⟩, [2], 0⟩,
  ⟨6, ⟨some 59, .p (.mv (.tmp 13)), none, none⟩, [13], 0⟩,
  ⟨7, ⟨some 60, .p (.idxS (.tmp 58) (.tmp 59)), none, none⟩, [58, 59], 0⟩,
  ⟨8, ⟨some 61, .p (.bin .xor (.tmp 57) (.tmp 60)), none, none⟩, [57, 60], 0⟩,
  ⟨9, ⟨some 62, .p (.idxL 1 (.tmp 53) (.tmp 54)), none, none⟩, [53, 54], 0⟩,
  ⟨10, ⟨none, .e (.store none (.tmp 62) (.tmp 61)), none, none⟩, [62, 61], 0⟩])))
  (.region [⟨some 63, .p (.bin .add (.tmp 50) (.const (.int .i64 1))), none, none⟩,
  ⟨some 50, .p (.mv (.tmp 63)), none, none⟩]))))))))
  (.seq (.region [⟨some 65, .p (.mv (.tmp 9)), none, none⟩,
  ⟨some 66, .p (.mv (.tmp 1)), none, none⟩,
  ⟨some 67, .p (.mv (.tmp 11)), none, none⟩,
  ⟨some 68, .p (.subS (.tmp 66) none (some (.tmp 67))), none, none⟩,
  ⟨some 69, .e (.call (.func 23) [.tmp 65, .tmp 68]), none, none⟩,
  ⟨some 64, .p (.mv (.tmp 69)), none, none⟩,
  ⟨some 70, .p (.extract (.tmp 64) 0), none, none⟩,
  ⟨some 71, .p (.extract (.tmp 64) 1), none, none⟩,
  ⟨some 14, .p (.mv (.tmp 70)), none, none⟩,
  ⟨some 10, .p (.mv (.tmp 71)), none, none⟩])
  (.seq (.region [⟨some 73, .p (.mv (.tmp 9)), none, none⟩,
  ⟨some 74, .p (.mv (.tmp 2)), none, none⟩,
  ⟨some 75, .p (.mv (.tmp 11)), none, none⟩,
  ⟨some 76, .p (.subS (.tmp 74) none (some (.tmp 75))), none, none⟩,
  ⟨some 77, .e (.call (.func 23) [.tmp 73, .tmp 76]), none, none⟩,
  ⟨some 72, .p (.mv (.tmp 77)), none, none⟩,
  ⟨some 78, .p (.extract (.tmp 72) 0), none, none⟩,
  ⟨some 79, .p (.extract (.tmp 72) 1), none, none⟩,
  ⟨some 15, .p (.mv (.tmp 78)), none, none⟩,
  ⟨some 16, .p (.mv (.tmp 79)), none, none⟩])
  (.seq (.region [⟨some 81, .p (.mv (.tmp 9)), none, none⟩,
  ⟨some 82, .p (.mv (.tmp 12)), none, none⟩,
  ⟨some 83, .l (.convBS (.tmp 82)), none, none⟩,
  ⟨some 84, .e (.call (.func 23) [.tmp 81, .tmp 83]), none, none⟩,
  ⟨some 80, .p (.mv (.tmp 84)), none, none⟩,
  ⟨some 85, .p (.extract (.tmp 80) 0), none, none⟩,
  ⟨some 86, .p (.extract (.tmp 80) 1), none, none⟩,
  ⟨some 17, .p (.mv (.tmp 85)), none, none⟩,
  ⟨some 18, .p (.mv (.tmp 86)), none, none⟩])
  (.seq (.seq (.join [(14, .l), (15, .l), (17, .l), (110, .b)] (.region [⟨some 87, .p (.mv (.tmp 10)), none, none⟩,
  ⟨some 88, .p (.bin .neq (.tmp 87) (.const (.int .i64 0))), none, none⟩,
  ⟨some 89, .p (.mv (.tmp 88)), none, none⟩,
  ⟨some 90, .p (.mv (.tmp 16)), (some (89, false)), none⟩,
  ⟨some 91, .p (.bin .neq (.tmp 90) (.const (.int .i64 0))), (some (89, false)), none⟩,
  ⟨some 92, .p (.pick (.tmp 89) (.const (.bool true)) (.tmp 91)), none, none⟩,
  ⟨some 93, .p (.mv (.tmp 92)), none, none⟩,
  ⟨some 94, .p (.mv (.tmp 18)), (some (93, false)), none⟩,
  ⟨some 95, .p (.bin .neq (.tmp 94) (.const (.int .i64 0))), (some (93, false)), none⟩,
  ⟨some 96, .p (.pick (.tmp 93) (.const (.bool true)) (.tmp 95)), none, none⟩,
  ⟨some 97, .p (.mv (.tmp 96)), none, none⟩,
  ⟨some 98, .p (.mv (.tmp 14)), (some (97, false)), none⟩,
  ⟨some 99, .p (.lenL (.tmp 98)), (some (97, false)), none⟩,
  ⟨some 100, .p (.mv (.tmp 17)), (some (97, false)), none⟩,
  ⟨some 101, .p (.lenL (.tmp 100)), (some (97, false)), none⟩,
  ⟨some 102, .p (.bin .neq (.tmp 99) (.tmp 101)), (some (97, false)), none⟩,
  ⟨some 103, .p (.pick (.tmp 97) (.const (.bool true)) (.tmp 102)), none, none⟩,
  ⟨some 104, .p (.mv (.tmp 103)), none, none⟩,
  ⟨some 105, .p (.mv (.tmp 15)), (some (104, false)), none⟩,
  ⟨some 106, .p (.lenL (.tmp 105)), (some (104, false)), none⟩,
  ⟨some 107, .p (.mv (.tmp 17)), (some (104, false)), none⟩,
  ⟨some 108, .p (.lenL (.tmp 107)), (some (104, false)), none⟩,
  ⟨some 109, .p (.bin .neq (.tmp 106) (.tmp 108)), (some (104, false)), none⟩,
  ⟨some 110, .p (.pick (.tmp 104) (.const (.bool true)) (.tmp 109)), none, none⟩]))
  (.cond (.tmp 110) (.seq (.region [⟨some 6, .p (.mv (.const (.bool false))), none, none⟩])
  (.ret)) (.skip)))
  (.seq (.join [] (.seq (.region [⟨some 111, .p (.mv (.tmp 17)), none, none⟩,
  ⟨some 112, .p (.lenL (.tmp 111)), none, none⟩,
  ⟨some 113, .p (.mv (.const (.int .i64 0))), none, none⟩])
  (.block 2 (.loop [(14, .l), (15, .l), (17, .l), (112, .i .i64), (113, .i .i64)] (.seq (.region [⟨some 114, .p (.bin .lss (.tmp 113) (.tmp 112)), none, none⟩])
  (.seq (.cond (.tmp 114) (.skip) (.exit 2))
  (.seq (.join [(14, .l), (15, .l), (17, .l), (112, .i .i64), (113, .i .i64)] (.block 3 (.seq (.region [⟨some 115, .p (.mv (.tmp 113)), none, none⟩,
  ⟨some 19, .p (.mv (.tmp 115)), none, none⟩])
  (.seq (.seq (.join [(14, .l), (15, .l), (17, .l), (19, .i .i64), (112, .i .i64), (113, .i .i64), (139, .b)] (.draw [⟨0, ⟨some 116, .p (.mv (.tmp 14)), none, none⟩, [14], 0⟩,
  ⟨1, ⟨some 117, .p (.mv (.tmp 19)), none, none⟩, [19], 0⟩,
  ⟨2, ⟨some 118, .p (.idxL 1 (.tmp 116) (.tmp 117)), none, none⟩, [116, 117], 0⟩,
  ⟨3, ⟨some 119, .l (.load (.s) (.tmp 118)), none, none⟩, [118], 0⟩,
  ⟨4, ⟨some 120, .p (.lenS (.tmp 119)), none, none⟩, [119], 0⟩,
  ⟨5, ⟨some 121, .p (.mv (.tmp 17)), none, none⟩, [17], 0⟩,
  ⟨6, ⟨some 122, .p (.mv (.tmp 19)), none, none⟩, [19], 0⟩,
  ⟨7, ⟨some 123, .p (.idxL 1 (.tmp 121) (.tmp 122)), none, none⟩, [121, 122], 0⟩,
  ⟨8, ⟨some 124, .l (.load (.s) (.tmp 123)), none, none⟩, [123], 0⟩,
  ⟨9, ⟨some 125, .p (.lenS (.tmp 124)), none, none⟩, [124], 0⟩,
  ⟨10, ⟨some 126, .p (.bin .neq (.tmp 120) (.tmp 125)), none, none⟩, [120, 125], 0⟩,
  ⟨11, ⟨some 127, .p (.mv (.tmp 126)), none, none⟩, [126], 0⟩,
  ⟨12, ⟨some 128, .p (.mv (.tmp 15)), (some (127, false)), none⟩, [15, 127], 0⟩,
  ⟨13, ⟨some 129, .p (.mv (.tmp 19)), (some (127, false)), none⟩, [19, 127], 0⟩,
  ⟨14, ⟨some 130, .p (.idxL 1 (.tmp 128) (.tmp 129)), (some (127, false)), none⟩, [128, 129, 127], 0⟩,
  ⟨15, ⟨some 131, .l (.load (.s) (.tmp 130)), (some (127, false)), none⟩, [130, 127], 0⟩,
  ⟨16, ⟨some 132, .p (.lenS (.tmp 131)), (some (127, false)), none⟩, [131, 127], 0⟩,
  ⟨17, ⟨some 133, .p (.mv (.tmp 17)), (some (127, false)), none⟩, [17, 127], 0⟩,
  ⟨18, ⟨some 134, .p (.mv (.tmp 19)), (some (127, false)), none⟩, [19, 127], 0⟩,
  ⟨19, ⟨some 135, .p (.idxL 1 (.tmp 133) (.tmp 134)), (some (127, false)), none⟩, [133, 134, 127], 0⟩,
  ⟨20, ⟨some 136, .l (.load (.s) (.tmp 135)), (some (127, false)), none⟩, [135, 127], 0⟩,
  ⟨21, ⟨some 137, .p (.lenS (.tmp 136)), (some (127, false)), none⟩, [136, 127], 0⟩,
  ⟨22, ⟨some 138, .p (.bin .neq (.tmp 132) (.tmp 137)), (some (127, false)), none⟩, [132, 137, 127], 0⟩,
  ⟨23, ⟨some 139, .p (.pick (.tmp 127) (.const (.bool true)) (.tmp 138)), none, none⟩, [127, 138], 0⟩]))
  (.cond (.tmp 139) (.seq (.region [⟨some 6, .p (.mv (.const (.bool false))), none, none⟩])
  (.ret)) (.skip)))
  (.seq (.region [⟨some 140, .p (.mv (.tmp 17)), none, none⟩,
  ⟨some 141, .p (.mv (.tmp 19)), none, none⟩,
  ⟨some 142, .p (.idxL 1 (.tmp 140) (.tmp 141)), none, none⟩,
  ⟨some 143, .l (.load (.s) (.tmp 142)), none, none⟩,
  ⟨some 144, .a (.rangeS (.tmp 143)), none, none⟩])
  (.block 4 (.loop [(14, .l), (15, .l), (17, .l), (19, .i .i64), (112, .i .i64), (113, .i .i64), (144, .p)] (.seq (.region [⟨some 145, .e (.nextS (.tmp 144)), none, none⟩,
  ⟨some 146, .p (.extract (.tmp 145) 0), none, none⟩])
  (.seq (.cond (.tmp 146) (.skip) (.exit 4))
  (.block 5 (.seq (.region [⟨some 147, .p (.extract (.tmp 145) 1), none, none⟩,
  ⟨some 20, .p (.mv (.tmp 147)), none, none⟩])
  (.seq (.draw [⟨0, ⟨some 148, .p (.mv (.tmp 14)), none, none⟩, [14], 0⟩,
  ⟨1, ⟨some 149, .p (.mv (.tmp 19)), none, none⟩, [19], 0⟩,
  ⟨2, ⟨some 150, .p (.idxL 1 (.tmp 148) (.tmp 149)), none, none⟩, [148, 149], 0⟩,
  ⟨3, ⟨some 151, .l (.load (.s) (.tmp 150)), none, none⟩, [150], 0⟩,
  ⟨4, ⟨some 152, .p (.mv (.tmp 20)), none, none⟩, [20], 0⟩,
  ⟨5, ⟨some 153, .p (.idxS (.tmp 151) (.tmp 152)), none, none⟩, [151, 152], 0⟩,
  ⟨6, ⟨some 154, .p (.mv (.tmp 15)), none, none⟩, [15], 0⟩,
  ⟨7, ⟨some 155, .p (.mv (.tmp 19)), none, none⟩, [19], 0⟩,
  ⟨8, ⟨some 156, .p (.idxL 1 (.tmp 154) (.tmp 155)), none, none⟩, [154, 155], 0⟩,
  ⟨9, ⟨some 157, .l (.load (.s) (.tmp 156)), none, none⟩, [156], 0⟩,
  ⟨10, ⟨some 158, .p (.mv (.tmp 20)), none, none⟩, [20], 0⟩,
  ⟨11, ⟨some 159, .p (.idxS (.tmp 157) (.tmp 158)), none, none⟩, [157, 158], 0⟩,
  ⟨12, ⟨some 160, .p (.bin .xor (.tmp 153) (.tmp 159)), none, none⟩, [153, 159], 0⟩,
  ⟨13, ⟨some 161, .p (.mv (.tmp 17)), none, none⟩, [17], 0⟩,
  ⟨14, ⟨some 162, .p (.mv (.tmp 19)), none, none⟩, [19], 0⟩,
  ⟨15, ⟨some 163, .p (.idxL 1 (.tmp 161) (.tmp 162)), none, none⟩, [161, 162], 0⟩,
  ⟨16, ⟨some 164, .l (.load (.s) (.tmp 163)), none, none⟩, [163], 0⟩,
  ⟨17, ⟨some 165, .p (.mv (.tmp 20)), none, none⟩, [20], 0⟩,
  ⟨18, ⟨some 166, .p (.idxS (.tmp 164) (.tmp 165)), none, none⟩, [164, 165], 0⟩,
  ⟨19, ⟨some 167, .p (.bin .neq (.tmp 160) (.tmp 166)), none, none⟩, [160, 166], 0⟩])
  (.cond (.tmp 167) (.seq (.region [⟨some 6, .p (.mv (.const (.bool false))), none, none⟩])
  (.ret)) (.skip))))))))))))))
  (.region [⟨some 168, .p (.bin .add (.tmp 113) (.const (.int .i64 1))), none, none⟩,
  ⟨some 113, .p (.mv (.tmp 168)), none, none⟩]))))))))
  (.seq (.region [⟨some 6, .p (.mv (.const (.bool true))), none, none⟩])
  (.ret)))))))))))))
noncomputable def e_law05_StripeSums (k : Nat) (D : CallF) : Ent := entOf 5 [(0, .st [.i .i64, .i .i64]), (1, .s), (2, .s)] [(6, .b)] (law05_StripeSums k D)
theorem q_law05_StripeSums : (Try.f5.body).bind (rcodeOf Try.prog 0 Try.f5.ntmps) = some (strip r_law05_StripeSums) := by kernel_rfl
theorem t_law05_StripeSums (k : Nat) (D : CallF) : curF [(0, .st [.i .i64, .i .i64]), (1, .s), (2, .s)] (fun args h => denF (C_law05_StripeSums k D) k r_law05_StripeSums [(6, .b)] [none] args h) = law05_StripeSums k D := by kernel_rfl
theorem ok_law05_StripeSums {D : CallF} (hD : CSound Try.prog 0 D) (k : Nat) : EntOk Try.prog 0 (e_law05_StripeSums k D) :=
  entOf_ok2 (mkC_sound hD (EntsOk.more (ok_law05_shape hD k) (EntsOk.more (ok_stripe_New hD k) (EntsOk.more (ok_stripe_Plan_Split hD k) (EntsOk.more (ok_law05_works hD k) (EntsOk.none)))))) Try.func5 rfl q_law05_StripeSums rfl (t_law05_StripeSums k D)
end Gb
