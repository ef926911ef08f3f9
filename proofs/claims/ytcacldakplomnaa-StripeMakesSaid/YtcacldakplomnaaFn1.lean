import Derived.Test.YtcacldakplomnaaProg
import Derived.Shelf.Strings.OnBuilder
import Derived.Shelf.Strings.Repeat
import Derived.KernelRfl
import Derived.Test.YtcacldakplomnaaGx3
namespace Gb
open Go Gx Go.Proofs
set_option maxRecDepth 100000
noncomputable def C_book_SameTexts (_k : Nat) (D : CallF) : CallF := mkC D []
noncomputable def book_SameTexts_l0b (_k : Nat) (_D : CallF) (j2 : AHeap → Option ((Bool) × AHeap)) (rec7 : Slc → Slc → Int → AHeap → Option ((Bool) × AHeap)) (a3 : Slc) (b4 : Slc) (i5 : Int) (h6 : AHeap) : Option ((Bool) × AHeap) :=
  (if (decide (i5 < (a3.len : Int))) = true then
  (Gx.idxL 1 a3 i5).bind fun q8 =>
  (ldS q8 h6).bind fun x9 =>
  (Gx.idxL 1 b4 i5).bind fun q10 =>
  (ldS q10 h6).bind fun x11 =>
  (if (!(x9 == x11)) = true then
  some (false, h6)
  else
  rec7 a3 b4 (IntKind.wrap .i64 (i5 + 1)) h6)
  else
  j2 h6)
noncomputable def book_SameTexts_l0 (k : Nat) (D : CallF) (j2 : AHeap → Option ((Bool) × AHeap)) : Slc → Slc → Int → AHeap → Option ((Bool) × AHeap) :=
  iterK (α := Slc → Slc → Int → AHeap → Option ((Bool) × AHeap)) (fun _ _ _ _ => none) k (book_SameTexts_l0b k D j2)
noncomputable def book_SameTexts (k : Nat) (D : CallF) (a_0 : Slc) (b_1 : Slc) (h : AHeap) : Option ((Bool) × AHeap) :=
  (if ((a_0.len : Int) != (b_1.len : Int)) = true then
  some (false, h)
  else
  joinK (fun (h1 : AHeap) =>
  some (true, h1)) fun j2 =>
  book_SameTexts_l0 k D j2 a_0 b_1 0 h)
def r_book_SameTexts : RCode := .seq (.region [⟨some 4, .p (.mv (.const (.bool false))), none, none⟩])
  (.seq (.seq (.region [⟨some 6, .p (.mv (.tmp 0)), none, none⟩,
  ⟨some 7, .p (.lenL (.tmp 6)), none, none⟩,
  ⟨some 8, .p (.mv (.tmp 1)), none, none⟩,
  ⟨some 9, .p (.lenL (.tmp 8)), none, none⟩,
  ⟨some 10, .p (.bin .neq (.tmp 7) (.tmp 9)), none, none⟩])
  (.cond (.tmp 10) (.seq (.region [⟨some 4, .p (.mv (.const (.bool false))), none, none⟩])
  (.ret)) (.skip)))
  (.seq (.join [] (.seq (.region [⟨some 5, .p (.mv (.const (.int .i64 0))), none, none⟩])
  (.block 0 (.loop [(0, .l), (1, .l), (5, .i .i64)] (.seq (.seq (.region [⟨some 11, .p (.mv (.tmp 5)), none, none⟩,
  ⟨some 12, .p (.mv (.tmp 0)), none, none⟩,
  ⟨some 13, .p (.lenL (.tmp 12)), none, none⟩,
  ⟨some 14, .p (.bin .lss (.tmp 11) (.tmp 13)), none, none⟩])
  (.cond (.tmp 14) (.skip) (.exit 0)))
  (.seq (.block 1 (.seq (.draw [⟨0, ⟨some 17, .p (.mv (.tmp 0)), none, none⟩, [0], 0⟩,
  ⟨1, ⟨some 18, .p (.mv (.tmp 5)), none, none⟩, [5], 0⟩,
  ⟨2, ⟨some 19, .p (.idxL 1 (.tmp 17) (.tmp 18)), none, none⟩, [17, 18], 0⟩,
  ⟨3, ⟨some 20, .l (.load (.s) (.tmp 19)), none, none⟩, [19], 0⟩,
  ⟨4, ⟨some 21, .p (.mv (.tmp 1)), none, none⟩, [1], 0⟩,
  ⟨5, ⟨some 22, .p (.mv (.tmp 5)), none, none⟩, [5], 0⟩,
  ⟨6, ⟨some 23, .p (.idxL 1 (.tmp 21) (.tmp 22)), none, none⟩, [21, 22], 0⟩,
  ⟨7, ⟨some 24, .l (.load (.s) (.tmp 23)), none, none⟩, [23], 0⟩,
  ⟨8, ⟨some 25, .p (.bin .neq (.tmp 20) (.tmp 24)), none, none⟩, [20, 24], 0⟩])
  (.cond (.tmp 25) (.seq (.region [⟨some 4, .p (.mv (.const (.bool false))), none, none⟩])
  (.ret)) (.skip))))
  (.region [⟨some 15, .p (.mv (.tmp 5)), none, none⟩,
  ⟨some 16, .p (.bin .add (.tmp 15) (.const (.int .i64 1))), none, none⟩,
  ⟨some 5, .p (.mv (.tmp 16)), none, none⟩])))))))
  (.seq (.region [⟨some 4, .p (.mv (.const (.bool true))), none, none⟩])
  (.ret))))
noncomputable def e_book_SameTexts (k : Nat) (D : CallF) : Ent := entOf 29 [(0, .l), (1, .l)] [(4, .b)] (book_SameTexts k D)
theorem q_book_SameTexts : (Try.f29.body).bind (rcodeOf Try.prog 0 Try.f29.ntmps) = some (strip r_book_SameTexts) := by kernel_rfl
theorem t_book_SameTexts (k : Nat) (D : CallF) : curF [(0, .l), (1, .l)] (fun args h => denF (C_book_SameTexts k D) k r_book_SameTexts [(4, .b)] [none] args h) = book_SameTexts k D := by kernel_rfl
theorem ok_book_SameTexts {D : CallF} (hD : CSound Try.prog 0 D) (k : Nat) : EntOk Try.prog 0 (e_book_SameTexts k D) :=
  entOf_ok2 (mkC_sound hD (EntsOk.none)) Try.func29 rfl q_book_SameTexts rfl (t_book_SameTexts k D)
end Gb
namespace Gb
open Go Gx Go.Proofs
set_option maxRecDepth 100000
end Gb
namespace Gb
open Go Gx Go.Proofs
set_option maxRecDepth 100000
noncomputable def C_field_New (_k : Nat) (D : CallF) : CallF := mkC D []
noncomputable def field_New (_k : Nat) (_D : CallF)  (h : AHeap) : Option (((Option Addr)) × AHeap) :=
  let h1 := AHeap.new h (.cells ([.int .u32 0] ++ [.int .i32 0] ++ [.int .u32 0] ++ List.replicate 510 (.int .u8 0) ++ List.replicate 256 (.int .i64 0)) 131 true 0)
  some ((some (⟨h.next, 0, none⟩ : Addr)), h1)
def r_field_New : RCode := .seq (.region [⟨some 0, .p (.mv (.const (.pointer none))), none, none⟩])
  (.seq (.region [⟨some 1, .p (.build ([.int .u32 0] ++ [.int .i32 0] ++ [.int .u32 0] ++ List.replicate 510 (.int .u8 0) ++ List.replicate 256 (.int .i64 0)) []), none, none⟩,
  ⟨some 2, .a (.box 131 (.tmp 1)), none, none⟩,
  ⟨some 0, .p (.mv (.tmp 2)), none, none⟩])
  (.ret))
noncomputable def e_field_New (k : Nat) (D : CallF) : Ent := entOf 47 [] [(0, .p)] (field_New k D)
theorem q_field_New : (Try.f47.body).bind (rcodeOf Try.prog 0 Try.f47.ntmps) = some (strip r_field_New) := by kernel_rfl
theorem t_field_New (k : Nat) (D : CallF) : curF [] (fun args h => denF (C_field_New k D) k r_field_New [(0, .p)] [none] args h) = field_New k D := by kernel_rfl
theorem ok_field_New {D : CallF} (hD : CSound Try.prog 0 D) (k : Nat) : EntOk Try.prog 0 (e_field_New k D) :=
  entOf_ok2 (mkC_sound hD (EntsOk.none)) Try.func47 rfl q_field_New rfl (t_field_New k D)
end Gb
namespace Gb
open Go Gx Go.Proofs
set_option maxRecDepth 100000
noncomputable def C_matrix_New (k : Nat) (D : CallF) : CallF := mkC D [e_field_New k D]
noncomputable def matrix_New (k : Nat) (D : CallF)  (h : AHeap) : Option (((Option Addr)) × AHeap) :=
  (field_New k D h).bind fun r1 =>
  let h2 := AHeap.new r1.2 (.cells [.pointer r1.1] 111 true 0)
  some ((some (⟨r1.2.next, 0, none⟩ : Addr)), h2)
def r_matrix_New : RCode := .seq (.region [⟨some 0, .p (.mv (.const (.pointer none))), none, none⟩])
  (.seq (.region [⟨some 1, .e (.call (.func 47) []), none, none⟩,
  ⟨some 2, .p (.build [.pointer none] [(0, 1, .tmp 1)]), none, none⟩,
  ⟨some 3, .a (.box 111 (.tmp 2)), none, none⟩,
  ⟨some 0, .p (.mv (.tmp 3)), none, none⟩])
  (.ret))
noncomputable def e_matrix_New (k : Nat) (D : CallF) : Ent := entOf 45 [] [(0, .p)] (matrix_New k D)
theorem q_matrix_New : (Try.f45.body).bind (rcodeOf Try.prog 0 Try.f45.ntmps) = some (strip r_matrix_New) := by kernel_rfl
theorem t_matrix_New (k : Nat) (D : CallF) : curF [] (fun args h => denF (C_matrix_New k D) k r_matrix_New [(0, .p)] [none] args h) = matrix_New k D := by kernel_rfl
theorem ok_matrix_New {D : CallF} (hD : CSound Try.prog 0 D) (k : Nat) : EntOk Try.prog 0 (e_matrix_New k D) :=
  entOf_ok2 (mkC_sound hD (EntsOk.more (ok_field_New hD k) (EntsOk.none))) Try.func45 rfl q_matrix_New rfl (t_matrix_New k D)
end Gb
namespace Gb
open Go Gx Go.Proofs
set_option maxRecDepth 100000
noncomputable def C_matrix_blank (_k : Nat) (D : CallF) : CallF := mkC D []
noncomputable def matrix_blank (_k : Nat) (_D : CallF) (rows_0 : Int) (cols_1 : Int) (h : AHeap) : Option (((Int × Int × Slc)) × AHeap) :=
  let h1 := AHeap.new h (.cells [.int .i64 0, .int .i64 0, .slice none 0 0] 84 true 0)
  (if 0 ≤ (IntKind.wrap .i64 (rows_0 * cols_1)) ∧ (IntKind.wrap .i64 (rows_0 * cols_1)) ≤ (IntKind.wrap .i64 (rows_0 * cols_1)) ∧ (IntKind.wrap .i64 (rows_0 * cols_1)) ≤ 281474976710656 ∧ 8 * (IntKind.wrap .i64 (rows_0 * cols_1)) ≤ 281474976710656 then
  let h2 := AHeap.new h1 (.cells (zerosL ((IntKind.wrap .i64 (rows_0 * cols_1))).toNat [.int .i64 0]) 3 true 0)
  (stL 3 (⟨h.next, 0, none⟩ : Addr) ([.int .i64 rows_0, .int .i64 cols_1, .slice (some ⟨h1.next, 0, some 0⟩) (((IntKind.wrap .i64 (rows_0 * cols_1))).toNat) (((IntKind.wrap .i64 (rows_0 * cols_1))).toNat)]) h2).bind fun h3 =>
  (ldA 3 (⟨h.next, 0, none⟩ : Addr) h3).bind fun l4 =>
  (decC [.i .i64, .i .i64, .l] l4).bind fun x5 =>
  some ((x5.1, x5.2.1, x5.2.2), h3)
  else none)
def r_matrix_blank : RCode := .seq (.region [⟨some 4, .a (.alloc 84 [.int .i64 0, .int .i64 0, .slice none 0 0]), none, none⟩])
  (.seq (.region [⟨some 5, .p (.mv (.tmp 0)), none, none⟩,
  ⟨some 6, .p (.mv (.tmp 1)), none, none⟩,
  ⟨some 7, .p (.mv (.tmp 0)), none, none⟩,
  ⟨some 8, .p (.mv (.tmp 1)), none, none⟩,
  ⟨some 9, .p (.bin .mul (.tmp 7) (.tmp 8)), none, none⟩,
  ⟨some 10, .a (.mkSlice 3 8 [.int .i64 0] (.tmp 9) (.tmp 9)), none, none⟩,
  ⟨some 11, .p (.build [.int .i64 0, .int .i64 0, .slice none 0 0] [(0, 1, .tmp 5), (1, 1, .tmp 6), (2, 1, .tmp 10)]), none, none⟩,
  ⟨none, .e (.store (some 3) (.tmp 4) (.tmp 11)), none, none⟩])
  (.ret))
noncomputable def e_matrix_blank (k : Nat) (D : CallF) : Ent := entOf 60 [(0, .i .i64), (1, .i .i64)] [(4, .st [.i .i64, .i .i64, .l])] (matrix_blank k D)
theorem q_matrix_blank : (Try.f60.body).bind (rcodeOf Try.prog 0 Try.f60.ntmps) = some (strip r_matrix_blank) := by kernel_rfl
theorem t_matrix_blank (k : Nat) (D : CallF) : curF [(0, .i .i64), (1, .i .i64)] (fun args h => denF (C_matrix_blank k D) k r_matrix_blank [(4, .st [.i .i64, .i .i64, .l])] [some (.agg 3)] args h) = matrix_blank k D := by kernel_rfl
theorem ok_matrix_blank {D : CallF} (hD : CSound Try.prog 0 D) (k : Nat) : EntOk Try.prog 0 (e_matrix_blank k D) :=
  entOf_ok2 (mkC_sound hD (EntsOk.none)) Try.func60 rfl q_matrix_blank rfl (t_matrix_blank k D)
end Gb
namespace Gb
open Go Gx Go.Proofs
set_option maxRecDepth 100000
noncomputable def C_matrix_M_row (_k : Nat) (D : CallF) : CallF := mkC D []
noncomputable def matrix_M_row (_k : Nat) (_D : CallF) (a_0 : Int × Int × Slc) (i_1 : Int) (h : AHeap) : Option ((Slc) × AHeap) :=
  let h1 := AHeap.new h (.cells [.int .i64 a_0.1, .int .i64 a_0.2.1, .slice a_0.2.2.a a_0.2.2.len a_0.2.2.cap] 84 true 0)
  (ldL (⟨h.next, 2, none⟩ : Addr) h1).bind fun x2 =>
  (ldI .i64 (⟨h.next, 1, none⟩ : Addr) h1).bind fun x3 =>
  (ldI .i64 (⟨h.next, 1, none⟩ : Addr) h1).bind fun x4 =>
  (ldI .i64 (⟨h.next, 1, none⟩ : Addr) h1).bind fun x5 =>
  (Gx.subL 1 x2 (some (IntKind.wrap .i64 (i_1 * x3))) (some (IntKind.wrap .i64 ((IntKind.wrap .i64 (i_1 + 1)) * x4))) (some (IntKind.wrap .i64 ((IntKind.wrap .i64 (i_1 + 1)) * x5)))).bind fun l6 =>
  some (l6, h1)
def r_matrix_M_row : RCode := .seq (.region [⟨some 2, .a (.box 84 (.tmp 0)), none, none⟩,
  ⟨some 4, .p (.mv (.const (.slice none 0 0))), none, none⟩])
  (.seq (.region [⟨some 5, .p (.fieldAddr 2 (.tmp 2)), none, none⟩,
  ⟨some 6, .l (.load (.l) (.tmp 5)), none, none⟩,
  ⟨some 7, .p (.mv (.tmp 1)), none, none⟩,
  ⟨some 8, .p (.fieldAddr 1 (.tmp 2)), none, none⟩,
  ⟨some 9, .l (.load (.i .i64) (.tmp 8)), none, none⟩,
  ⟨some 10, .p (.bin .mul (.tmp 7) (.tmp 9)), none, none⟩,
  ⟨some 11, .p (.mv (.tmp 1)), none, none⟩,
  ⟨some 12, .p (.bin .add (.tmp 11) (.const (.int .i64 1))), none, none⟩,
  ⟨some 13, .p (.fieldAddr 1 (.tmp 2)), none, none⟩,
  ⟨some 14, .l (.load (.i .i64) (.tmp 13)), none, none⟩,
  ⟨some 15, .p (.bin .mul (.tmp 12) (.tmp 14)), none, none⟩,
  ⟨some 16, .p (.mv (.tmp 1)), none, none⟩,
  ⟨some 17, .p (.bin .add (.tmp 16) (.const (.int .i64 1))), none, none⟩,
  ⟨some 18, .p (.fieldAddr 1 (.tmp 2)), none, none⟩,
  ⟨some 19, .l (.load (.i .i64) (.tmp 18)), none, none⟩,
  ⟨some 20, .p (.bin .mul (.tmp 17) (.tmp 19)), none, none⟩,
  ⟨some 21, .p (.subL 1 (.tmp 6) (some (.tmp 10)) (some (.tmp 15)) (some (.tmp 20))), none, none⟩,
  ⟨some 4, .p (.mv (.tmp 21)), none, none⟩])
  (.ret))
noncomputable def e_matrix_M_row (k : Nat) (D : CallF) : Ent := entOf 61 [(0, .st [.i .i64, .i .i64, .l]), (1, .i .i64)] [(4, .l)] (matrix_M_row k D)
theorem q_matrix_M_row : (Try.f61.body).bind (rcodeOf Try.prog 0 Try.f61.ntmps) = some (strip r_matrix_M_row) := by kernel_rfl
theorem t_matrix_M_row (k : Nat) (D : CallF) : curF [(0, .st [.i .i64, .i .i64, .l]), (1, .i .i64)] (fun args h => denF (C_matrix_M_row k D) k r_matrix_M_row [(4, .l)] [none] args h) = matrix_M_row k D := by kernel_rfl
theorem ok_matrix_M_row {D : CallF} (hD : CSound Try.prog 0 D) (k : Nat) : EntOk Try.prog 0 (e_matrix_M_row k D) :=
  entOf_ok2 (mkC_sound hD (EntsOk.none)) Try.func61 rfl q_matrix_M_row rfl (t_matrix_M_row k D)
end Gb
namespace Gb
open Go Gx Go.Proofs
set_option maxRecDepth 100000
noncomputable def C_field_is (_k : Nat) (D : CallF) : CallF := mkC D []
noncomputable def field_is_l0b (_k : Nat) (_D : CallF) (j2 : AHeap → Option ((Bool) × AHeap)) (rec7 : Slc → Int → Int → AHeap → Option ((Bool) × AHeap)) (y3 : Slc) (y4 : Int) (y5 : Int) (h6 : AHeap) : Option ((Bool) × AHeap) :=
  (if (decide (y5 < y4)) = true then
  (Gx.idxL 1 y3 y5).bind fun q8 =>
  (ldI .i64 q8 h6).bind fun x9 =>
  joinK (fun (y10 : Slc) (y11 : Int) (y12 : Int) (y13 : Bool) (h14 : AHeap) =>
  (if y13 = true then
  some (false, h14)
  else
  rec7 y10 y11 (IntKind.wrap .i64 (y12 + 1)) h14)) fun j15 =>
  (if (decide (x9 < 0)) = true then
  j15 y3 y4 y5 true h6
  else
  j15 y3 y4 y5 (decide (x9 ≥ 256)) h6)
  else
  j2 h6)
noncomputable def field_is_l0 (k : Nat) (D : CallF) (j2 : AHeap → Option ((Bool) × AHeap)) : Slc → Int → Int → AHeap → Option ((Bool) × AHeap) :=
  iterK (α := Slc → Int → Int → AHeap → Option ((Bool) × AHeap)) (fun _ _ _ _ => none) k (field_is_l0b k D j2)
noncomputable def field_is (k : Nat) (D : CallF) (l_0 : Slc) (h : AHeap) : Option ((Bool) × AHeap) :=
  joinK (fun (h1 : AHeap) =>
  some (true, h1)) fun j2 =>
  field_is_l0 k D j2 l_0 (l_0.len : Int) 0 h
def r_field_is : RCode := .seq (.region [⟨some 2, .p (.mv (.const (.bool false))), none, none⟩])
  (.seq (.join [] (.seq (.region [⟨some 5, .p (.mv (.tmp 0)), none, none⟩,
  ⟨some 6, .p (.lenL (.tmp 5)), none, none⟩,
  ⟨some 7, .p (.mv (.const (.int .i64 0))), none, none⟩])
  (.block 0 (.loop [(5, .l), (6, .i .i64), (7, .i .i64)] (.seq (.region [⟨some 8, .p (.bin .lss (.tmp 7) (.tmp 6)), none, none⟩])
  (.seq (.cond (.tmp 8) (.skip) (.exit 0))
  (.seq (.block 1 (.seq (.region [⟨some 9, .p (.idxL 1 (.tmp 5) (.tmp 7)), none, none⟩,
  ⟨some 10, .l (.load (.i .i64) (.tmp 9)), none, none⟩,
  ⟨some 4, .p (.mv (.tmp 10)), none, none⟩])
  (.seq (.join [(5, .l), (6, .i .i64), (7, .i .i64), (16, .b)] (.region [⟨some 11, .p (.mv (.tmp 4)), none, none⟩,
  ⟨some 12, .p (.bin .lss (.tmp 11) (.const (.int .i64 0))), none, none⟩,
  ⟨some 13, .p (.mv (.tmp 12)), none, none⟩,
  ⟨some 14, .p (.mv (.tmp 4)), (some (13, false)), none⟩,
  ⟨some 15, .p (.bin .geq (.tmp 14) (.const (.int .i64 256))), (some (13, false)), none⟩,
  ⟨some 16, .p (.pick (.tmp 13) (.const (.bool true)) (.tmp 15)), none, none⟩]))
  (.cond (.tmp 16) (.seq (.region [⟨some 2, .p (.mv (.const (.bool false))), none, none⟩])
  (.ret)) (.skip)))))
  (.region [⟨some 17, .p (.bin .add (.tmp 7) (.const (.int .i64 1))), none, none⟩,
  ⟨some 7, .p (.mv (.tmp 17)), none, none⟩]))))))))
  (.seq (.region [⟨some 2, .p (.mv (.const (.bool true))), none, none⟩])
  (.ret)))
noncomputable def e_field_is (k : Nat) (D : CallF) : Ent := entOf 69 [(0, .l)] [(2, .b)] (field_is k D)
theorem q_field_is : (Try.f69.body).bind (rcodeOf Try.prog 0 Try.f69.ntmps) = some (strip r_field_is) := by kernel_rfl
theorem t_field_is (k : Nat) (D : CallF) : curF [(0, .l)] (fun args h => denF (C_field_is k D) k r_field_is [(2, .b)] [none] args h) = field_is k D := by kernel_rfl
theorem ok_field_is {D : CallF} (hD : CSound Try.prog 0 D) (k : Nat) : EntOk Try.prog 0 (e_field_is k D) :=
  entOf_ok2 (mkC_sound hD (EntsOk.none)) Try.func69 rfl q_field_is rfl (t_field_is k D)
end Gb
namespace Gb
open Go Gx Go.Proofs
noncomputable def e_sync_atomic_LoadUint32 (_k : Nat) (_D : CallF) : Ent := eLoad 103 .u32
theorem ok_sync_atomic_LoadUint32 {D : CallF} (_hD : CSound Try.prog 0 D) (k : Nat) : EntOk Try.prog 0 (e_sync_atomic_LoadUint32 k D) :=
  load_ok Try.func103 rfl rfl rfl .u32 (by kernel_rfl)
end Gb
namespace Gb
open Go Gx Go.Proofs
set_option maxRecDepth 100000
noncomputable def C_sync_atomic_Bool_Load (k : Nat) (D : CallF) : CallF := mkC D [e_sync_atomic_LoadUint32 k D]
noncomputable def sync_atomic_Bool_Load (_k : Nat) (_D : CallF) (x_0 : Option Addr) (h : AHeap) : Option ((Bool) × AHeap) :=
  (x_0).bind fun p1 =>
  (ldI .u32 (⟨p1.block, p1.off + 0, none⟩ : Addr) h).bind fun x2 =>
  some ((x2 != 0), h)
def r_sync_atomic_Bool_Load : RCode := .seq (.region [⟨some 2, .p (.mv (.const (.bool false))), none, none⟩])
  (.seq (.region [⟨some 3, .p (.mv (.tmp 0)), none, none⟩,
  ⟨some 4, .p (.nilP (.tmp 3)), none, none⟩,
  ⟨some 5, .p (.fieldAddr 0 (.tmp 4)), none, none⟩,
  ⟨some 6, .e (.call (.func 103) [.tmp 5]), none, none⟩,
  ⟨some 7, .p (.bin .neq (.tmp 6) (.const (.int .u32 0))), none, none⟩,
  ⟨some 2, .p (.mv (.tmp 7)), none, none⟩])
  (.ret))
noncomputable def e_sync_atomic_Bool_Load (k : Nat) (D : CallF) : Ent := entOf 97 [(0, .p)] [(2, .b)] (sync_atomic_Bool_Load k D)
theorem q_sync_atomic_Bool_Load : (Try.f97.body).bind (rcodeOf Try.prog 0 Try.f97.ntmps) = some (strip r_sync_atomic_Bool_Load) := by kernel_rfl
theorem t_sync_atomic_Bool_Load (k : Nat) (D : CallF) : curF [(0, .p)] (fun args h => denF (C_sync_atomic_Bool_Load k D) k r_sync_atomic_Bool_Load [(2, .b)] [none] args h) = sync_atomic_Bool_Load k D := by kernel_rfl
theorem ok_sync_atomic_Bool_Load {D : CallF} (hD : CSound Try.prog 0 D) (k : Nat) : EntOk Try.prog 0 (e_sync_atomic_Bool_Load k D) :=
  entOf_ok2 (mkC_sound hD (EntsOk.more (ok_sync_atomic_LoadUint32 hD k) (EntsOk.none))) Try.func97 rfl q_sync_atomic_Bool_Load rfl (t_sync_atomic_Bool_Load k D)
end Gb
namespace Gb
open Go Gx Go.Proofs
noncomputable def e_internal_race_Disable (_k : Nat) (_D : CallF) : Ent := eMark0 113
theorem ok_internal_race_Disable {D : CallF} (_hD : CSound Try.prog 0 D) (k : Nat) : EntOk Try.prog 0 (e_internal_race_Disable k D) :=
  mark0_ok Try.func113 rfl rfl rfl .disable (by kernel_rfl)
end Gb
namespace Gb
open Go Gx Go.Proofs
noncomputable def e_sync_atomic_CompareAndSwapInt32 (_k : Nat) (_D : CallF) : Ent := eCas 114 .i32
theorem ok_sync_atomic_CompareAndSwapInt32 {D : CallF} (_hD : CSound Try.prog 0 D) (k : Nat) : EntOk Try.prog 0 (e_sync_atomic_CompareAndSwapInt32 k D) :=
  cas_ok Try.func114 rfl rfl rfl .i32 (by kernel_rfl)
end Gb
namespace Gb
open Go Gx Go.Proofs
noncomputable def e_internal_race_Enable (_k : Nat) (_D : CallF) : Ent := eMark0 115
theorem ok_internal_race_Enable {D : CallF} (_hD : CSound Try.prog 0 D) (k : Nat) : EntOk Try.prog 0 (e_internal_race_Enable k D) :=
  mark0_ok Try.func115 rfl rfl rfl .enable (by kernel_rfl)
end Gb
namespace Gb
open Go Gx Go.Proofs
noncomputable def e_internal_race_Acquire (_k : Nat) (_D : CallF) : Ent := eMark1 116
theorem ok_internal_race_Acquire {D : CallF} (_hD : CSound Try.prog 0 D) (k : Nat) : EntOk Try.prog 0 (e_internal_race_Acquire k D) :=
  mark1_ok Try.func116 rfl rfl rfl .acquire (by kernel_rfl)
end Gb
namespace Gb
open Go Gx Go.Proofs
set_option maxRecDepth 100000
noncomputable def C_internal_sync_Mutex_Lock (k : Nat) (D : CallF) : CallF := mkC D [e_internal_race_Disable k D, e_sync_atomic_CompareAndSwapInt32 k D, e_internal_race_Enable k D, e_internal_race_Acquire k D]
noncomputable def internal_sync_Mutex_Lock (_k : Nat) (_D : CallF) (m_0 : Option Addr) (h : AHeap) : Option ((Unit) × AHeap) :=
  (m_0).bind fun p1 =>
  (ldI .i32 (⟨p1.block, p1.off + 0, none⟩ : Addr) h).bind fun x2 =>
  (if x2 = 0 then
  (st1 (⟨p1.block, p1.off + 0, none⟩ : Addr) (.int .i32 1) h).bind fun h3 =>
  (m_0).bind fun p4 =>
  (AHeap.rd1 h3 p4.block p4.off).bind fun _ =>
  some ((), h3)
  else none)
def r_internal_sync_Mutex_Lock : RCode := .seq (.region [⟨some 2, .e (.call (.func 113) []), none, none⟩])
  (.seq (.seq (.region [⟨some 3, .p (.mv (.tmp 0)), none, none⟩,
  ⟨some 4, .p (.nilP (.tmp 3)), none, none⟩,
  ⟨some 5, .p (.fieldAddr 0 (.tmp 4)), none, none⟩,
  ⟨some 6, .e (.call (.func 114) [.tmp 5, .const (.int .i32 0), .const (.int .i32 1)]), none, none⟩])
  (.cond (.tmp 6) (.seq (.cond (.const (.bool true)) (.seq (.region [⟨some 7, .e (.call (.func 115) []), none, none⟩])
  (.region [⟨some 8, .p (.mv (.tmp 0)), none, none⟩,
  ⟨some 9, .l (.convUP (.tmp 8)), none, none⟩,
  ⟨some 10, .e (.call (.func 116) [.tmp 9]), none, none⟩])) (.skip))
  (.ret)) (.skip)))
  (.region [⟨some 11, .p (.mv (.tmp 0)), none, none⟩,
  ⟨some 12, .e (.call (.func 117) [.tmp 11]), none, none⟩]))
noncomputable def e_internal_sync_Mutex_Lock (k : Nat) (D : CallF) : Ent := entOf 108 [(0, .p)] [] (internal_sync_Mutex_Lock k D)
theorem q_internal_sync_Mutex_Lock : (Try.f108.body).bind (rcodeOf Try.prog 0 Try.f108.ntmps) = some (strip r_internal_sync_Mutex_Lock) := by kernel_rfl
theorem t_internal_sync_Mutex_Lock (k : Nat) (D : CallF) : curF [(0, .p)] (fun args h => denF (C_internal_sync_Mutex_Lock k D) k r_internal_sync_Mutex_Lock [] [] args h) = internal_sync_Mutex_Lock k D := by kernel_rfl
theorem ok_internal_sync_Mutex_Lock {D : CallF} (hD : CSound Try.prog 0 D) (k : Nat) : EntOk Try.prog 0 (e_internal_sync_Mutex_Lock k D) :=
  entOf_ok2 (mkC_sound hD (EntsOk.more (ok_internal_race_Disable hD k) (EntsOk.more (ok_sync_atomic_CompareAndSwapInt32 hD k) (EntsOk.more (ok_internal_race_Enable hD k) (EntsOk.more (ok_internal_race_Acquire hD k) (EntsOk.none)))))) Try.func108 rfl q_internal_sync_Mutex_Lock rfl (t_internal_sync_Mutex_Lock k D)
end Gb
namespace Gb
open Go Gx Go.Proofs
set_option maxRecDepth 100000
noncomputable def C_sync_Mutex_Lock (k : Nat) (D : CallF) : CallF := mkC D [e_internal_sync_Mutex_Lock k D]
noncomputable def sync_Mutex_Lock (k : Nat) (D : CallF) (m_0 : Option Addr) (h : AHeap) : Option ((Unit) × AHeap) :=
  (m_0).bind fun p1 =>
  (internal_sync_Mutex_Lock k D (some (⟨p1.block, p1.off + 0, none⟩ : Addr)) h).bind fun r2 =>
  some ((), r2.2)
def r_sync_Mutex_Lock : RCode := .region [⟨some 2, .p (.mv (.tmp 0)), none, none⟩,
  ⟨some 3, .p (.nilP (.tmp 2)), none, none⟩,
  ⟨some 4, .p (.fieldAddr 0 (.tmp 3)), none, none⟩,
  ⟨some 5, .e (.call (.func 108) [.tmp 4]), none, none⟩]
noncomputable def e_sync_Mutex_Lock (k : Nat) (D : CallF) : Ent := entOf 104 [(0, .p)] [] (sync_Mutex_Lock k D)
theorem q_sync_Mutex_Lock : (Try.f104.body).bind (rcodeOf Try.prog 0 Try.f104.ntmps) = some (strip r_sync_Mutex_Lock) := by kernel_rfl
theorem t_sync_Mutex_Lock (k : Nat) (D : CallF) : curF [(0, .p)] (fun args h => denF (C_sync_Mutex_Lock k D) k r_sync_Mutex_Lock [] [] args h) = sync_Mutex_Lock k D := by kernel_rfl
theorem ok_sync_Mutex_Lock {D : CallF} (hD : CSound Try.prog 0 D) (k : Nat) : EntOk Try.prog 0 (e_sync_Mutex_Lock k D) :=
  entOf_ok2 (mkC_sound hD (EntsOk.more (ok_internal_sync_Mutex_Lock hD k) (EntsOk.none))) Try.func104 rfl q_sync_Mutex_Lock rfl (t_sync_Mutex_Lock k D)
end Gb
namespace Gb
open Go Gx Go.Proofs
set_option maxRecDepth 100000
noncomputable def C_sync_atomic_b32 (_k : Nat) (D : CallF) : CallF := mkC D []
noncomputable def sync_atomic_b32 (_k : Nat) (_D : CallF) (b_0 : Bool) (h : AHeap) : Option ((Int) × AHeap) :=
  (if b_0 = true then
  some (1, h)
  else
  some (0, h))
def r_sync_atomic_b32 : RCode := .seq (.region [⟨some 2, .p (.mv (.const (.int .u32 0))), none, none⟩])
  (.seq (.seq (.region [⟨some 3, .p (.mv (.tmp 0)), none, none⟩])
  (.cond (.tmp 3) (.seq (.region [⟨some 2, .p (.mv (.const (.int .u32 1))), none, none⟩])
  (.ret)) (.skip)))
  (.seq (.region [⟨some 2, .p (.mv (.const (.int .u32 0))), none, none⟩])
  (.ret)))
noncomputable def e_sync_atomic_b32 (k : Nat) (D : CallF) : Ent := entOf 111 [(0, .b)] [(2, .i .u32)] (sync_atomic_b32 k D)
theorem q_sync_atomic_b32 : (Try.f111.body).bind (rcodeOf Try.prog 0 Try.f111.ntmps) = some (strip r_sync_atomic_b32) := by kernel_rfl
theorem t_sync_atomic_b32 (k : Nat) (D : CallF) : curF [(0, .b)] (fun args h => denF (C_sync_atomic_b32 k D) k r_sync_atomic_b32 [(2, .i .u32)] [none] args h) = sync_atomic_b32 k D := by kernel_rfl
theorem ok_sync_atomic_b32 {D : CallF} (hD : CSound Try.prog 0 D) (k : Nat) : EntOk Try.prog 0 (e_sync_atomic_b32 k D) :=
  entOf_ok2 (mkC_sound hD (EntsOk.none)) Try.func111 rfl q_sync_atomic_b32 rfl (t_sync_atomic_b32 k D)
end Gb
namespace Gb
open Go Gx Go.Proofs
noncomputable def e_sync_atomic_StoreUint32 (_k : Nat) (_D : CallF) : Ent := eStore 110 .u32
theorem ok_sync_atomic_StoreUint32 {D : CallF} (_hD : CSound Try.prog 0 D) (k : Nat) : EntOk Try.prog 0 (e_sync_atomic_StoreUint32 k D) :=
  store_ok Try.func110 rfl rfl rfl .u32 (by kernel_rfl)
end Gb
namespace Gb
open Go Gx Go.Proofs
set_option maxRecDepth 100000
noncomputable def C_sync_atomic_Bool_Store (k : Nat) (D : CallF) : CallF := mkC D [e_sync_atomic_b32 k D, e_sync_atomic_StoreUint32 k D]
noncomputable def sync_atomic_Bool_Store (k : Nat) (D : CallF) (x_0 : Option Addr) (val_1 : Bool) (h : AHeap) : Option ((Unit) × AHeap) :=
  (sync_atomic_b32 k D val_1 h).bind fun r1 =>
  (x_0).bind fun p2 =>
  (ldI .u32 (⟨p2.block, p2.off + 0, none⟩ : Addr) r1.2).bind fun _ =>
  (st1 (⟨p2.block, p2.off + 0, none⟩ : Addr) (.int .u32 r1.1) r1.2).bind fun h4 =>
  some ((), h4)
def r_sync_atomic_Bool_Store : RCode := .draw [⟨3, ⟨some 7, .p (.mv (.tmp 1)), none, none⟩, [1], 0⟩,
  ⟨4, ⟨some 8, .e (.call (.func 111) [.tmp 7]), none, none⟩, [7], 0⟩,
  ⟨0, ⟨some 4, .p (.mv (.tmp 0)), none, none⟩, [0], 1⟩,
  ⟨1, ⟨some 5, .p (.nilP (.tmp 4)), none, none⟩, [4], 1⟩,
  ⟨2, ⟨some 6, .p (.fieldAddr 0 (.tmp 5)), none, none⟩, [5], 1⟩,
  ⟨5, ⟨some 9, .e (.call (.func 110) [.tmp 6, .tmp 8]), none, none⟩, [6, 8], 0⟩]
noncomputable def e_sync_atomic_Bool_Store (k : Nat) (D : CallF) : Ent := entOf 106 [(0, .p), (1, .b)] [] (sync_atomic_Bool_Store k D)
theorem q_sync_atomic_Bool_Store : (Try.f106.body).bind (rcodeOf Try.prog 0 Try.f106.ntmps) = some (strip r_sync_atomic_Bool_Store) := by kernel_rfl
theorem t_sync_atomic_Bool_Store (k : Nat) (D : CallF) : curF [(0, .p), (1, .b)] (fun args h => denF (C_sync_atomic_Bool_Store k D) k r_sync_atomic_Bool_Store [] [] args h) = sync_atomic_Bool_Store k D := by kernel_rfl
theorem ok_sync_atomic_Bool_Store {D : CallF} (hD : CSound Try.prog 0 D) (k : Nat) : EntOk Try.prog 0 (e_sync_atomic_Bool_Store k D) :=
  entOf_ok2 (mkC_sound hD (EntsOk.more (ok_sync_atomic_b32 hD k) (EntsOk.more (ok_sync_atomic_StoreUint32 hD k) (EntsOk.none)))) Try.func106 rfl q_sync_atomic_Bool_Store rfl (t_sync_atomic_Bool_Store k D)
theorem d_sync_atomic_Bool_Store {D : CallF} (hD : CSound Try.prog 0 D) (k : Nat) : EntD Try.prog 0 (e_sync_atomic_Bool_Store k D) :=
  entOf_okD (mkC_sound hD (EntsOk.more (ok_sync_atomic_b32 hD k) (EntsOk.more (ok_sync_atomic_StoreUint32 hD k) (EntsOk.none)))) Try.func106 rfl q_sync_atomic_Bool_Store rfl (t_sync_atomic_Bool_Store k D)
end Gb
namespace Gb
open Go Gx Go.Proofs
noncomputable def e_sync_atomic_AddInt32 (_k : Nat) (_D : CallF) : Ent := eAdd 119 .i32
theorem ok_sync_atomic_AddInt32 {D : CallF} (_hD : CSound Try.prog 0 D) (k : Nat) : EntOk Try.prog 0 (e_sync_atomic_AddInt32 k D) :=
  add_ok Try.func119 rfl rfl rfl .i32 (by kernel_rfl)
end Gb
namespace Gb
open Go Gx Go.Proofs
noncomputable def e_internal_race_ReleaseMerge (_k : Nat) (_D : CallF) : Ent := eMark1 118
theorem ok_internal_race_ReleaseMerge {D : CallF} (_hD : CSound Try.prog 0 D) (k : Nat) : EntOk Try.prog 0 (e_internal_race_ReleaseMerge k D) :=
  mark1_ok Try.func118 rfl rfl rfl .releaseMerge (by kernel_rfl)
end Gb
namespace Gb
open Go Gx Go.Proofs
set_option maxRecDepth 100000
noncomputable def C_internal_sync_Mutex_Unlock (k : Nat) (D : CallF) : CallF := mkC D [e_sync_atomic_AddInt32 k D, e_internal_race_Enable k D, e_internal_race_ReleaseMerge k D, e_internal_race_Disable k D]
noncomputable def internal_sync_Mutex_Unlock (_k : Nat) (D : CallF) (m_0 : Option Addr) (h : AHeap) : Option ((Unit) × AHeap) :=
  joinK (fun (m1 : Option Addr) (h2 : AHeap) =>
  (m1).bind fun p4 =>
  (ldI .i32 (⟨p4.block, p4.off + 0, none⟩ : Addr) h2).bind fun x5 =>
  (st1 (⟨p4.block, p4.off + 0, none⟩ : Addr) (.int .i32 (IntKind.wrap .i32 (x5 + (-1)))) h2).bind fun h6 =>
  joinK (fun (h7 : AHeap) =>
  some ((), h7)) fun j8 =>
  (if ((IntKind.wrap .i32 (x5 + (-1))) != 0) = true then
  D ((Unit) × AHeap) 120 [.pointer m1, .int .i32 (IntKind.wrap .i32 (x5 + (-1)))] h6 fun _ h10 =>
  j8 h10
  else
  j8 h6)) fun j3 =>
  (m_0).bind fun p11 =>
  (ldI .i32 (⟨p11.block, p11.off + 0, none⟩ : Addr) h).bind fun _x12 =>
  (m_0).bind fun p13 =>
  (AHeap.rd1 h p13.block p13.off).bind fun _ =>
  j3 m_0 h
def r_internal_sync_Mutex_Unlock : RCode := .seq (.join [(0, .p)] (.cond (.const (.bool true)) (.seq (.region [⟨some 3, .p (.mv (.tmp 0)), none, none⟩,
  ⟨some 4, .p (.nilP (.tmp 3)), none, none⟩,
  ⟨some 5, .p (.fieldAddr 0 (.tmp 4)), none, none⟩,
  ⟨some 6, .l (.load (.i .i32) (.tmp 5)), none, none⟩])
  (.seq (.region [⟨some 7, .p (.mv (.tmp 0)), none, none⟩,
  ⟨some 8, .l (.convUP (.tmp 7)), none, none⟩,
  ⟨some 9, .e (.call (.func 118) [.tmp 8]), none, none⟩])
  (.region [⟨some 10, .e (.call (.func 113) []), none, none⟩]))) (.skip)))
  (.seq (.region [⟨some 11, .p (.mv (.tmp 0)), none, none⟩,
  ⟨some 12, .p (.nilP (.tmp 11)), none, none⟩,
  ⟨some 13, .p (.fieldAddr 0 (.tmp 12)), none, none⟩,
  ⟨some 14, .e (.call (.func 119) [.tmp 13, .const (.int .i32 (-1))]), none, none⟩,
  ⟨some 2, .p (.mv (.tmp 14)), none, none⟩])
  (.seq (.join [] (.seq (.region [⟨some 15, .p (.mv (.tmp 2)), none, none⟩,
  ⟨some 16, .p (.bin .neq (.tmp 15) (.const (.int .i32 0))), none, none⟩])
  (.cond (.tmp 16) (.region [⟨some 17, .p (.mv (.tmp 0)), none, none⟩,
  ⟨some 18, .p (.mv (.tmp 2)), none, none⟩,
  ⟨some 19, .e (.call (.func 120) [.tmp 17, .tmp 18]), none, none⟩]) (.skip))))
  (.region [⟨some 20, .e (.call (.func 115) []), none, none⟩])))
noncomputable def e_internal_sync_Mutex_Unlock (k : Nat) (D : CallF) : Ent := entOf 109 [(0, .p)] [] (internal_sync_Mutex_Unlock k D)
theorem q_internal_sync_Mutex_Unlock : (Try.f109.body).bind (rcodeOf Try.prog 0 Try.f109.ntmps) = some (strip r_internal_sync_Mutex_Unlock) := by kernel_rfl
theorem t_internal_sync_Mutex_Unlock (k : Nat) (D : CallF) : curF [(0, .p)] (fun args h => denF (C_internal_sync_Mutex_Unlock k D) k r_internal_sync_Mutex_Unlock [] [] args h) = internal_sync_Mutex_Unlock k D := by kernel_rfl
theorem ok_internal_sync_Mutex_Unlock {D : CallF} (hD : CSound Try.prog 0 D) (k : Nat) : EntOk Try.prog 0 (e_internal_sync_Mutex_Unlock k D) :=
  entOf_ok2 (mkC_sound hD (EntsOk.more (ok_sync_atomic_AddInt32 hD k) (EntsOk.more (ok_internal_race_Enable hD k) (EntsOk.more (ok_internal_race_ReleaseMerge hD k) (EntsOk.more (ok_internal_race_Disable hD k) (EntsOk.none)))))) Try.func109 rfl q_internal_sync_Mutex_Unlock rfl (t_internal_sync_Mutex_Unlock k D)
end Gb
namespace Gb
open Go Gx Go.Proofs
set_option maxRecDepth 100000
noncomputable def C_sync_Mutex_Unlock (k : Nat) (D : CallF) : CallF := mkC D [e_internal_sync_Mutex_Unlock k D]
noncomputable def sync_Mutex_Unlock (k : Nat) (D : CallF) (m_0 : Option Addr) (h : AHeap) : Option ((Unit) × AHeap) :=
  (m_0).bind fun p1 =>
  (internal_sync_Mutex_Unlock k D (some (⟨p1.block, p1.off + 0, none⟩ : Addr)) h).bind fun r2 =>
  some ((), r2.2)
def r_sync_Mutex_Unlock : RCode := .region [⟨some 2, .p (.mv (.tmp 0)), none, none⟩,
  ⟨some 3, .p (.nilP (.tmp 2)), none, none⟩,
  ⟨some 4, .p (.fieldAddr 0 (.tmp 3)), none, none⟩,
  ⟨some 5, .e (.call (.func 109) [.tmp 4]), none, none⟩]
noncomputable def e_sync_Mutex_Unlock (k : Nat) (D : CallF) : Ent := entOf 105 [(0, .p)] [] (sync_Mutex_Unlock k D)
theorem q_sync_Mutex_Unlock : (Try.f105.body).bind (rcodeOf Try.prog 0 Try.f105.ntmps) = some (strip r_sync_Mutex_Unlock) := by kernel_rfl
theorem t_sync_Mutex_Unlock (k : Nat) (D : CallF) : curF [(0, .p)] (fun args h => denF (C_sync_Mutex_Unlock k D) k r_sync_Mutex_Unlock [] [] args h) = sync_Mutex_Unlock k D := by kernel_rfl
theorem ok_sync_Mutex_Unlock {D : CallF} (hD : CSound Try.prog 0 D) (k : Nat) : EntOk Try.prog 0 (e_sync_Mutex_Unlock k D) :=
  entOf_ok2 (mkC_sound hD (EntsOk.more (ok_internal_sync_Mutex_Unlock hD k) (EntsOk.none))) Try.func105 rfl q_sync_Mutex_Unlock rfl (t_sync_Mutex_Unlock k D)
theorem d_sync_Mutex_Unlock {D : CallF} (hD : CSound Try.prog 0 D) (k : Nat) : EntD Try.prog 0 (e_sync_Mutex_Unlock k D) :=
  entOf_okD (mkC_sound hD (EntsOk.more (ok_internal_sync_Mutex_Unlock hD k) (EntsOk.none))) Try.func105 rfl q_sync_Mutex_Unlock rfl (t_sync_Mutex_Unlock k D)
end Gb
namespace Gb
open Go Gx Go.Proofs
set_option maxRecDepth 100000
noncomputable def C_sync_Once_doSlow (k : Nat) (D : CallF) : CallF := mkC D [e_sync_Mutex_Lock k D, e_sync_atomic_Bool_Load k D, e_sync_atomic_Bool_Store k D, e_sync_Mutex_Unlock k D]
noncomputable def sync_Once_doSlow (k : Nat) (D : CallF) (a_0 : Option Addr) (a_1 : Value) (h : AHeap) : Option (Unit × AHeap) :=
  (a_0).bind fun p1 =>
  (sync_Mutex_Lock k D (some (⟨p1.block, p1.off + 1, none⟩ : Addr)) h).bind fun r2 =>
  (a_0).bind fun p3 =>
  (a_0).bind fun p4 =>
  (sync_atomic_Bool_Load k D (some (⟨p4.block, p4.off + 0, none⟩ : Addr)) r2.2).bind fun r5 =>
  (if (!r5.1) = true then
  (a_0).bind fun p6 =>
  callD (C_sync_Once_doSlow k D) a_1 [] r5.2 fun _ h8 =>
  (sync_atomic_Bool_Store k D (some (⟨p6.block, p6.off + 0, none⟩ : Addr)) true h8).bind fun r9 =>
  (sync_Mutex_Unlock k D (some (⟨p3.block, p3.off + 1, none⟩ : Addr)) r9.2).bind fun r10 =>
  some ((), r10.2)
  else none)
def r_sync_Once_doSlow : OnceC := ⟨98, [⟨some 4, .p (.mv (.tmp 0)), none, none⟩, ⟨some 5, .p (.nilP (.tmp 4)), none, none⟩, ⟨some 6, .p (.fieldAddr 1 (.tmp 5)), none, none⟩, ⟨some 7, .e (.call (.func 104) [.tmp 6]), none, none⟩], [⟨some 8, .p (.mv (.tmp 0)), none, none⟩, ⟨some 9, .p (.nilP (.tmp 8)), none, none⟩, ⟨some 10, .p (.fieldAddr 1 (.tmp 9)), none, none⟩], 105, [.tmp 10], [⟨some 11, .p (.mv (.tmp 0)), none, none⟩, ⟨some 12, .p (.nilP (.tmp 11)), none, none⟩, ⟨some 13, .p (.fieldAddr 0 (.tmp 12)), none, none⟩, ⟨some 14, .e (.call (.func 97) [.tmp 13]), none, none⟩, ⟨some 15, .p (.un .not (.tmp 14)), none, none⟩], 15, [⟨some 16, .p (.mv (.tmp 0)), none, none⟩, ⟨some 17, .p (.nilP (.tmp 16)), none, none⟩, ⟨some 18, .p (.fieldAddr 0 (.tmp 17)), none, none⟩], 106, [.tmp 18, .const (.bool true)], [⟨some 19, .p (.mv (.tmp 1)), none, none⟩, ⟨some 20, .e (.call (.tmp 19) []), none, none⟩]⟩
noncomputable def e_sync_Once_doSlow (k : Nat) (D : CallF) : Ent := entOf 98 [(0, .p), (1, .v)] [] (sync_Once_doSlow k D)
theorem q_sync_Once_doSlow : (Try.f98.body).bind (onceOf Try.prog 0 Try.f98.ntmps r_sync_Once_doSlow.id) = some (stripOnce r_sync_Once_doSlow) := by kernel_rfl
theorem t_sync_Once_doSlow (k : Nat) (D : CallF) : curF [(0, .p), (1, .v)] (fun args h => (eOnce (C_sync_Once_doSlow k D) r_sync_Once_doSlow (e_sync_Mutex_Unlock k D) (e_sync_atomic_Bool_Store k D)).run (Unit × AHeap) args h fun v h => match v with | .tuple ⟨[]⟩ => some ((), h) | _ => none) = sync_Once_doSlow k D := by kernel_rfl
theorem ok_sync_Once_doSlow {D : CallF} (hD : CSound Try.prog 0 D) (k : Nat) : EntOk Try.prog 0 (e_sync_Once_doSlow k D) :=
  entOk_unit (once_ok (mkC_sound hD (EntsOk.more (ok_sync_Mutex_Lock hD k) (EntsOk.more (ok_sync_atomic_Bool_Load hD k) (EntsOk.more (ok_sync_atomic_Bool_Store hD k) (EntsOk.more (ok_sync_Mutex_Unlock hD k) (EntsOk.none)))))) Try.func98 rfl rfl (onceOf_some q_sync_Once_doSlow) (d_sync_Mutex_Unlock hD k) (d_sync_atomic_Bool_Store hD k) rfl rfl) (t_sync_Once_doSlow k D)
end Gb
namespace Gb
open Go Gx Go.Proofs
set_option maxRecDepth 100000
noncomputable def C_sync_Once_Do (k : Nat) (D : CallF) : CallF := mkC D [e_sync_atomic_Bool_Load k D, e_sync_Once_doSlow k D]
noncomputable def sync_Once_Do (k : Nat) (D : CallF) (o_0 : Option Addr) (f_1 : Value) (h : AHeap) : Option ((Unit) × AHeap) :=
  (o_0).bind fun p1 =>
  (sync_atomic_Bool_Load k D (some (⟨p1.block, p1.off + 0, none⟩ : Addr)) h).bind fun r2 =>
  (if (!r2.1) = true then
  (sync_Once_doSlow k D o_0 f_1 r2.2).bind fun r3 =>
  some ((), r3.2)
  else
  some ((), r2.2))
def r_sync_Once_Do : RCode := .seq (.region [⟨some 4, .p (.mv (.tmp 0)), none, none⟩,
  ⟨some 5, .p (.nilP (.tmp 4)), none, none⟩,
  ⟨some 6, .p (.fieldAddr 0 (.tmp 5)), none, none⟩,
  ⟨some 7, .e (.call (.func 97) [.tmp 6]), none, none⟩,
  ⟨some 8, .p (.un .not (.tmp 7)), none, none⟩])
  (.cond (.tmp 8) (.region [⟨some 9, .p (.mv (.tmp 0)), none, none⟩,
  ⟨some 10, .p (.mv (.tmp 1)), none, none⟩,
  ⟨some 11, .e (.call (.func 98) [.tmp 9, .tmp 10]), none, none⟩]) (.skip))
noncomputable def e_sync_Once_Do (k : Nat) (D : CallF) : Ent := entOf 85 [(0, .p), (1, .v)] [] (sync_Once_Do k D)
theorem q_sync_Once_Do : (Try.f85.body).bind (rcodeOf Try.prog 0 Try.f85.ntmps) = some (strip r_sync_Once_Do) := by kernel_rfl
theorem t_sync_Once_Do (k : Nat) (D : CallF) : curF [(0, .p), (1, .v)] (fun args h => denF (C_sync_Once_Do k D) k r_sync_Once_Do [] [] args h) = sync_Once_Do k D := by kernel_rfl
theorem ok_sync_Once_Do {D : CallF} (hD : CSound Try.prog 0 D) (k : Nat) : EntOk Try.prog 0 (e_sync_Once_Do k D) :=
  entOf_ok2 (mkC_sound hD (EntsOk.more (ok_sync_atomic_Bool_Load hD k) (EntsOk.more (ok_sync_Once_doSlow hD k) (EntsOk.none)))) Try.func85 rfl q_sync_Once_Do rfl (t_sync_Once_Do k D)
end Gb
namespace Gb
open Go Gx Go.Proofs
set_option maxRecDepth 100000
noncomputable def C_field_Field_tables (k : Nat) (D : CallF) : CallF := mkC D [e_sync_Once_Do k D]
noncomputable def field_Field_tables (k : Nat) (D : CallF) (f_0 : Option Addr) (h : AHeap) : Option (((Option Addr)) × AHeap) :=
  (f_0).bind fun p1 =>
  (sync_Once_Do k D (some (⟨p1.block, p1.off + 0, none⟩ : Addr)) (.func (.func 86) ⟨[.pointer f_0]⟩ ⟨[]⟩) h).bind fun r2 =>
  (f_0).bind fun p3 =>
  some ((some (⟨p3.block, p3.off + 3, none⟩ : Addr)), r2.2)
def r_field_Field_tables : RCode := .seq (.region [⟨some 2, .p (.mv (.const (.pointer none))), none, none⟩])
  (.seq (.region [⟨some 3, .p (.mv (.tmp 0)), none, none⟩,
  ⟨some 4, .p (.nilP (.tmp 3)), none, none⟩,
  ⟨some 5, .p (.fieldAddr 0 (.tmp 4)), none, none⟩,
  ⟨some 6, .p (.mv (.tmp 0)), none, none⟩,
  ⟨some 7, .p (.mkFunc 86 [.tmp 6] []), none, none⟩,
  ⟨some 8, .e (.call (.func 85) [.tmp 5, .tmp 7]), none, none⟩])
  (.seq (.region [⟨some 9, .p (.mv (.tmp 0)), none, none⟩,
  ⟨some 10, .p (.nilP (.tmp 9)), none, none⟩,
  ⟨some 11, .p (.fieldAddr 3 (.tmp 10)), none, none⟩,
  ⟨some 2, .p (.mv (.tmp 11)), none, none⟩])
  (.ret)))
noncomputable def e_field_Field_tables (k : Nat) (D : CallF) : Ent := entOf 70 [(0, .p)] [(2, .p)] (field_Field_tables k D)
theorem q_field_Field_tables : (Try.f70.body).bind (rcodeOf Try.prog 0 Try.f70.ntmps) = some (strip r_field_Field_tables) := by kernel_rfl
theorem t_field_Field_tables (k : Nat) (D : CallF) : curF [(0, .p)] (fun args h => denF (C_field_Field_tables k D) k r_field_Field_tables [(2, .p)] [none] args h) = field_Field_tables k D := by kernel_rfl
theorem ok_field_Field_tables {D : CallF} (hD : CSound Try.prog 0 D) (k : Nat) : EntOk Try.prog 0 (e_field_Field_tables k D) :=
  entOf_ok2 (mkC_sound hD (EntsOk.more (ok_sync_Once_Do hD k) (EntsOk.none))) Try.func70 rfl q_field_Field_tables rfl (t_field_Field_tables k D)
end Gb
namespace Gb
open Go Gx Go.Proofs
set_option maxRecDepth 100000
noncomputable def C_field_Field_Div (k : Nat) (D : CallF) : CallF := mkC D [e_field_is k D, e_field_Field_tables k D]
noncomputable def field_Field_Div (k : Nat) (D : CallF) (f_0 : Option Addr) (a_1 : Int) (b_2 : Int) (h : AHeap) : Option ((Int × Int) × AHeap) :=
  let h1 := AHeap.new h (.cells [.int .i64 a_1, .int .i64 b_2] 3 true 0)
  (field_is k D (⟨(some ⟨h.next, 0, some 0⟩), 2, 2⟩ : Slc) h1).bind fun r2 =>
  (if (!r2.1) = true then
  some ((0, 1), r2.2)
  else
  (if (b_2 == 0) = true then
  some ((0, 30), r2.2)
  else
  (if (a_1 == 0) = true then
  some ((0, 0), r2.2)
  else
  (field_Field_tables k D f_0 r2.2).bind fun r3 =>
  (r3.1).bind fun p4 =>
  (Gx.idxA 256 1 (⟨p4.block, p4.off + 510, none⟩ : Addr) a_1).bind fun q5 =>
  (ldI .i64 q5 r3.2).bind fun x6 =>
  (r3.1).bind fun p7 =>
  (Gx.idxA 256 1 (⟨p7.block, p7.off + 510, none⟩ : Addr) b_2).bind fun q8 =>
  (ldI .i64 q8 r3.2).bind fun x9 =>
  (r3.1).bind fun p10 =>
  (Gx.idxA 510 1 (⟨p10.block, p10.off + 0, none⟩ : Addr) (IntKind.wrap .i64 ((IntKind.wrap .i64 (x6 + 255)) - x9))).bind fun q11 =>
  (ldI .u8 q11 r3.2).bind fun x12 =>
  some (((IntKind.wrap .i64 x12), 0), r3.2))))
def r_field_Field_Div : RCode := .seq (.region [⟨some 6, .p (.mv (.const (.int .i64 0))), none, none⟩,
  ⟨some 7, .p (.mv (.const (.int .i64 0))), none, none⟩])
  (.seq (.block 0 (.seq (.region [⟨some 10, .p (.mv (.tmp 1)), none, none⟩,
  ⟨some 11, .p (.mv (.tmp 2)), none, none⟩,
  ⟨some 12, .a (.buildSlice 3 2 (zerosL 2 [.int .i64 0]) [(0, 1, .tmp 10), (1, 1, .tmp 11)]), none, none⟩,
  ⟨some 13, .e (.call (.func 69) [.tmp 12]), none, none⟩,
  ⟨some 14, .p (.un .not (.tmp 13)), none, none⟩,
  ⟨some 9, .p (.mv (.tmp 14)), none, none⟩])
  (.cond (.tmp 9) (.seq (.region [⟨some 6, .p (.mv (.const (.int .i64 0))), none, none⟩,
  ⟨some 7, .p (.mv (.const (.int .i64 1))), none, none⟩])
  (.ret)) (.seq (.region [⟨some 16, .p (.mv (.tmp 2)), none, none⟩,
  ⟨some 17, .p (.bin .eql (.tmp 16) (.const (.int .i64 0))), none, none⟩,
  ⟨some 15, .p (.mv (.tmp 17)), none, none⟩])
  (.cond (.tmp 15) (.seq (.region [⟨some 6, .p (.mv (.const (.int .i64 0))), none, none⟩,
  ⟨some 7, .p (.mv (.const (.int .i64 30))), none, none⟩])
  (.ret)) (.seq (.region [⟨some 19, .p (.mv (.tmp 1)), none, none⟩,
  ⟨some 20, .p (.bin .eql (.tmp 19) (.const (.int .i64 0))), none, none⟩,
  ⟨some 18, .p (.mv (.tmp 20)), none, none⟩])
  (.cond (.tmp 18) (.seq (.region [⟨some 6, .p (.mv (.const (.int .i64 0))), none, none⟩,
  ⟨some 7, .p (.mv (.const (.int .i64 0))), none, none⟩])
  (.ret)) (.skip))))))))
  (.seq (.region [⟨some 21, .p (.mv (.tmp 0)), none, none⟩,
  ⟨some 22, .e (.call (.func 70) [.tmp 21]), none, none⟩,
  ⟨some 8, .p (.mv (.tmp 22)), none, none⟩])
  (.seq (.draw [⟨0, ⟨some 23, .p (.mv (.tmp 8)), none, none⟩, [8], 0⟩,
  ⟨1, ⟨some 24, .p (.mv (.tmp 8)), none, none⟩, [8], 0⟩,
  ⟨2, ⟨some 25, .p (.mv (.tmp 1)), none, none⟩, [1], 0⟩,
  ⟨3, ⟨some 26, .p (.nilP (.tmp 24)), none, none⟩, [24], 0⟩,
  ⟨4, ⟨some 27, .p (.fieldAddr 510 (.tmp 26)), none, none⟩, [26], 0⟩,
  ⟨5, ⟨some 28, .p (.idxA 256 1 (.tmp 27) (.tmp 25)), none, none⟩, [27, 25], 0⟩,
  ⟨6, ⟨some 29, .l (.load (.i .i64) (.tmp 28)), none, none⟩, [28], 0⟩,
  ⟨7, ⟨some 30, .p (.bin .add (.tmp 29) (.const (.int .i64 255))), none, none⟩, [29], 0⟩,
  ⟨8, ⟨some 31, .p (.mv (.tmp 8)), none, none⟩, [8], 0⟩,
  ⟨9, ⟨some 32, .p (.mv (.tmp 2)), none, none⟩, [2], 0⟩,
  ⟨10, ⟨some 33, .p (.nilP (.tmp 31)), none, none⟩, [31], 0⟩,
  ⟨11, ⟨some 34, .p (.fieldAddr 510 (.tmp 33)), none, none⟩, [33], 0⟩,
  ⟨12, ⟨some 35, .p (.idxA 256 1 (.tmp 34) (.tmp 32)), none, none⟩, [34, 32], 0⟩,
  ⟨13, ⟨some 36, .l (.load (.i .i64) (.tmp 35)), none, none⟩, [35], 0⟩,
  ⟨14, ⟨some 37, .p (.bin .sub (.tmp 30) (.tmp 36)), none, none⟩, [30, 36], 0⟩,
  ⟨15, ⟨some 38, .p (.nilP (.tmp 23)), none, none⟩, [23], 0⟩,
  ⟨16, ⟨some 39, .p (.fieldAddr 0 (.tmp 38)), none, none⟩, [38], 0⟩,
  ⟨17, ⟨some 40, .p (.idxA 510 1 (.tmp 39) (.tmp 37)), none, none⟩, [39, 37], 0⟩,
  ⟨18, ⟨some 41, .l (.load (.i .u8) (.tmp 40)), none, none⟩, [40], 0⟩,
  ⟨19, ⟨some 42, .p (.convI .i64 (.tmp 41)), none, none⟩, [41], 0⟩,
  ⟨20, ⟨some 6, .p (.mv (.tmp 42)), none, none⟩, [42], 0⟩,
  ⟨21, ⟨some 7, .p (.mv (.const (.int .i64 0))), none, none⟩, [], 0⟩])
  (.ret))))
noncomputable def e_field_Field_Div (k : Nat) (D : CallF) : Ent := entOf 62 [(0, .p), (1, .i .i64), (2, .i .i64)] [(6, .i .i64), (7, .i .i64)] (field_Field_Div k D)
theorem q_field_Field_Div : (Try.f62.body).bind (rcodeOf Try.prog 0 Try.f62.ntmps) = some (strip r_field_Field_Div) := by kernel_rfl
theorem t_field_Field_Div (k : Nat) (D : CallF) : curF [(0, .p), (1, .i .i64), (2, .i .i64)] (fun args h => denF (C_field_Field_Div k D) k r_field_Field_Div [(6, .i .i64), (7, .i .i64)] [none, none] args h) = field_Field_Div k D := by kernel_rfl
theorem ok_field_Field_Div {D : CallF} (hD : CSound Try.prog 0 D) (k : Nat) : EntOk Try.prog 0 (e_field_Field_Div k D) :=
  entOf_ok2 (mkC_sound hD (EntsOk.more (ok_field_is hD k) (EntsOk.more (ok_field_Field_tables hD k) (EntsOk.none)))) Try.func62 rfl q_field_Field_Div rfl (t_field_Field_Div k D)
end Gb
namespace Gb
open Go Gx Go.Proofs
set_option maxRecDepth 100000
noncomputable def C_matrix_Space_Cauchy (k : Nat) (D : CallF) : CallF := mkC D [e_matrix_blank k D, e_matrix_M_row k D, e_field_Field_Div k D]
noncomputable def matrix_Space_Cauchy_l1b (k : Nat) (D : CallF) (j44 : (Option Addr) → Int → (Option Addr) → (Option Addr) → Int → Int → AHeap → Option (((Int × Int × Slc) × Int) × AHeap)) (rec55 : (Option Addr) → Int → (Option Addr) → (Option Addr) → Int → Int → Int → Int → Int → AHeap → Option (((Int × Int × Slc) × Int) × AHeap)) (s45 : Option Addr) (kv46 : Int) (y47 : Option Addr) (out48 : Option Addr) (i49 : Int) (y50 : Int) (y51 : Int) (y52 : Int) (y53 : Int) (h54 : AHeap) : Option (((Int × Int × Slc) × Int) × AHeap) :=
  (if (decide (y53 < y52)) = true then
  joinK (fun (s56 : Option Addr) (kv57 : Int) (y58 : Option Addr) (out59 : Option Addr) (i60 : Int) (y61 : Int) (y62 : Int) (y63 : Int) (y64 : Int) (h65 : AHeap) =>
  rec55 s56 kv57 y58 out59 i60 y61 y62 y63 (IntKind.wrap .i64 (y64 + 1)) h65) fun j66 =>
  joinK (fun (s67 : Option Addr) (kv68 : Int) (y69 : Option Addr) (out70 : Option Addr) (i71 : Int) (j72 : Int) (y73 : Int) (y74 : Int) (y75 : Int) (y76 : Int) (y77 : Bool) (h78 : AHeap) =>
  (if y77 = true then
  (out70).bind fun p80 =>
  (ldA 3 p80 h78).bind fun l81 =>
  (decC [.i .i64, .i .i64, .l] l81).bind fun x82 =>
  (matrix_M_row k D (x82.1, x82.2.1, x82.2.2) i71 h78).bind fun r83 =>
  (Gx.idxL 1 r83.1 j72).bind fun q84 =>
  (st1 q84 (.int .i64 1) r83.2).bind fun h85 =>
  j66 s67 kv68 y69 out70 i71 y73 y74 y75 y76 h85
  else
  (if (decide (i71 ≥ kv68)) = true then
  (out70).bind fun p86 =>
  (ldA 3 p86 h78).bind fun l87 =>
  (decC [.i .i64, .i .i64, .l] l87).bind fun x88 =>
  (matrix_M_row k D (x88.1, x88.2.1, x88.2.2) i71 h78).bind fun r89 =>
  (s67).bind fun p90 =>
  (ldP (⟨p90.block, p90.off + 0, none⟩ : Addr) r89.2).bind fun x91 =>
  guardP (SameW [h78] (fun H93 => (ldP (⟨p90.block, p90.off + 0, none⟩ : Addr) H93).bind fun y92 => some (.pointer y92)) (.pointer x91)) (
  (field_Field_Div k D x91 1 (Go.bits .xor .i64 i71 j72) r89.2).bind fun r94 =>
  (Gx.idxL 1 r89.1 j72).bind fun q95 =>
  (st1 q95 (.int .i64 r94.1.1) r94.2).bind fun h96 =>
  j66 s67 kv68 y69 out70 i71 y73 y74 y75 y76 h96)
  else
  j66 s67 kv68 y69 out70 i71 y73 y74 y75 y76 h78))) fun j79 =>
  (if (decide (i49 < kv46)) = true then
  j79 s45 kv46 y47 out48 i49 y53 y50 y51 y52 y53 (i49 == y53) h54
  else
  j79 s45 kv46 y47 out48 i49 y53 y50 y51 y52 y53 false h54)
  else
  j44 s45 kv46 y47 out48 y50 y51 h54)
noncomputable def matrix_Space_Cauchy_l1 (k : Nat) (D : CallF) (j44 : (Option Addr) → Int → (Option Addr) → (Option Addr) → Int → Int → AHeap → Option (((Int × Int × Slc) × Int) × AHeap)) : (Option Addr) → Int → (Option Addr) → (Option Addr) → Int → Int → Int → Int → Int → AHeap → Option (((Int × Int × Slc) × Int) × AHeap) :=
  iterK (α := (Option Addr) → Int → (Option Addr) → (Option Addr) → Int → Int → Int → Int → Int → AHeap → Option (((Int × Int × Slc) × Int) × AHeap)) (fun _ _ _ _ _ _ _ _ _ _ => none) k (matrix_Space_Cauchy_l1b k D j44)
noncomputable def matrix_Space_Cauchy_l0b (k : Nat) (D : CallF) (j20 : (Option Addr) → (Option Addr) → AHeap → Option (((Int × Int × Slc) × Int) × AHeap)) (rec36 : (Option Addr) → Int → (Option Addr) → (Option Addr) → Int → Int → AHeap → Option (((Int × Int × Slc) × Int) × AHeap)) (s29 : Option Addr) (kv30 : Int) (y31 : Option Addr) (out32 : Option Addr) (y33 : Int) (y34 : Int) (h35 : AHeap) : Option (((Int × Int × Slc) × Int) × AHeap) :=
  (if (decide (y34 < y33)) = true then
  joinK (fun (s37 : Option Addr) (kv38 : Int) (y39 : Option Addr) (out40 : Option Addr) (y41 : Int) (y42 : Int) (h43 : AHeap) =>
  rec36 s37 kv38 y39 out40 y41 (IntKind.wrap .i64 (y42 + 1)) h43) fun j44 =>
  matrix_Space_Cauchy_l1 k D j44 s29 kv30 y31 out32 y34 y33 y34 kv30 0 h35
  else
  j20 y31 out32 h35)
noncomputable def matrix_Space_Cauchy_l0 (k : Nat) (D : CallF) (j20 : (Option Addr) → (Option Addr) → AHeap → Option (((Int × Int × Slc) × Int) × AHeap)) : (Option Addr) → Int → (Option Addr) → (Option Addr) → Int → Int → AHeap → Option (((Int × Int × Slc) × Int) × AHeap) :=
  iterK (α := (Option Addr) → Int → (Option Addr) → (Option Addr) → Int → Int → AHeap → Option (((Int × Int × Slc) × Int) × AHeap)) (fun _ _ _ _ _ _ _ => none) k (matrix_Space_Cauchy_l0b k D j20)
noncomputable def matrix_Space_Cauchy (k : Nat) (D : CallF) (s_0 : Option Addr) (k_1 : Int) (m_2 : Int) (h : AHeap) : Option (((Int × Int × Slc) × Int) × AHeap) :=
  let h1 := AHeap.new h (.cells [.int .i64 0, .int .i64 0, .slice none 0 0] 84 true 0)
  joinK (fun (s2 : Option Addr) (kv3 : Int) (m4 : Int) (y5 : Option Addr) (y6 : Bool) (h7 : AHeap) =>
  (if y6 = true then
  (y5).bind fun p9 =>
  (stL 3 p9 ([.int .i64 0, .int .i64 0, .slice none 0 0]) h7).bind fun h10 =>
  (y5).bind fun p11 =>
  (ldA 3 p11 h10).bind fun l12 =>
  (decC [.i .i64, .i .i64, .l] l12).bind fun x13 =>
  some (((x13.1, x13.2.1, x13.2.2), 1), h10)
  else
  (matrix_blank k D (IntKind.wrap .i64 (kv3 + m4)) kv3 h7).bind fun r14 =>
  let h15 := AHeap.new r14.2 (.cells [.int .i64 0, .int .i64 0, .slice none 0 0] 84 true 0)
  (stL 3 (⟨r14.2.next, 0, none⟩ : Addr) ([.int .i64 r14.1.1, .int .i64 r14.1.2.1, .slice r14.1.2.2.a r14.1.2.2.len r14.1.2.2.cap]) h15).bind fun h16 =>
  joinK (fun (y17 : Option Addr) (out18 : Option Addr) (h19 : AHeap) =>
  (out18).bind fun p21 =>
  (ldA 3 p21 h19).bind fun l22 =>
  (decC [.i .i64, .i .i64, .l] l22).bind fun x23 =>
  (y17).bind fun p24 =>
  (stL 3 p24 ([.int .i64 x23.1, .int .i64 x23.2.1, .slice x23.2.2.a x23.2.2.len x23.2.2.cap]) h19).bind fun h25 =>
  (y17).bind fun p26 =>
  (ldA 3 p26 h25).bind fun l27 =>
  (decC [.i .i64, .i .i64, .l] l27).bind fun x28 =>
  some (((x28.1, x28.2.1, x28.2.2), 0), h25)) fun j20 =>
  matrix_Space_Cauchy_l0 k D j20 s2 kv3 y5 (some (⟨r14.2.next, 0, none⟩ : Addr)) (IntKind.wrap .i64 (kv3 + m4)) 0 h16)) fun j8 =>
  (if (decide (k_1 < 1)) = true then
  j8 s_0 k_1 m_2 (some (⟨h.next, 0, none⟩ : Addr)) true h1
  else
  (if (decide (m_2 < 0)) = true then
  j8 s_0 k_1 m_2 (some (⟨h.next, 0, none⟩ : Addr)) true h1
  else
  (if (decide (k_1 > 255)) = true then
  j8 s_0 k_1 m_2 (some (⟨h.next, 0, none⟩ : Addr)) true h1
  else
  j8 s_0 k_1 m_2 (some (⟨h.next, 0, none⟩ : Addr)) (decide (m_2 > (IntKind.wrap .i64 (255 - k_1)))) h1)))
def r_matrix_Space_Cauchy : RCode := .seq (.region [⟨some 6, .a (.alloc 84 [.int .i64 0, .int .i64 0, .slice none 0 0]), none, none⟩,
  ⟨some 7, .p (.mv (.const (.int .i64 0))), none, none⟩])
  (.seq (.seq (.join [(0, .p), (1, .i .i64), (2, .i .i64), (6, .p), (26, .b)] (.region [⟨some 11, .p (.mv (.tmp 1)), none, none⟩,
  ⟨some 12, .p (.bin .lss (.tmp 11) (.const (.int .i64 1))), none, none⟩,
  ⟨some 13, .p (.mv (.tmp 12)), none, none⟩,
  ⟨some 14, .p (.mv (.tmp 2)), (some (13, false)), none⟩,
  ⟨some 15, .p (.bin .lss (.tmp 14) (.const (.int .i64 0))), (some (13, false)), none⟩,
  ⟨some 16, .p (.pick (.tmp 13) (.const (.bool true)) (.tmp 15)), none, none⟩,
  ⟨some 17, .p (.mv (.tmp 16)), none, none⟩,
  ⟨some 18, .p (.mv (.tmp 1)), (some (17, false)), none⟩,
  ⟨some 19, .p (.bin .gtr (.tmp 18) (.const (.int .i64 255))), (some (17, false)), none⟩,
  ⟨some 20, .p (.pick (.tmp 17) (.const (.bool true)) (.tmp 19)), none, none⟩,
  ⟨some 21, .p (.mv (.tmp 20)), none, none⟩,
  ⟨some 22, .p (.mv (.tmp 2)), (some (21, false)), none⟩,
  ⟨some 23, .p (.mv (.tmp 1)), (some (21, false)), none⟩,
  ⟨some 24, .p (.bin .sub (.const (.int .i64 255)) (.tmp 23)), (some (21, false)), none⟩,
  ⟨some 25, .p (.bin .gtr (.tmp 22) (.tmp 24)), (some (21, false)), none⟩,
  ⟨some 26, .p (.pick (.tmp 21) (.const (.bool true)) (.tmp 25)), none, none⟩]))
  (.cond (.tmp 26) (.seq (.region [⟨some 27, .p (.build [.int .i64 0, .int .i64 0, .slice none 0 0] []), none, none⟩,
  ⟨none, .e (.store (some 3) (.tmp 6) (.tmp 27)), none, none⟩,
  ⟨some 7, .p (.mv (.const (.int .i64 1))), none, none⟩])
  (.ret)) (.skip)))
  (.seq (.region [⟨some 28, .p (.mv (.tmp 1)), none, none⟩,
  ⟨some 29, .p (.mv (.tmp 2)), none, none⟩,
  ⟨some 30, .p (.bin .add (.tmp 28) (.tmp 29)), none, none⟩,
  ⟨some 31, .p (.mv (.tmp 1)), none, none⟩,
  ⟨some 32, .e (.call (.func 60) [.tmp 30, .tmp 31]), none, none⟩,
  ⟨some 8, .a (.alloc 84 [.int .i64 0, .int .i64 0, .slice none 0 0]), none, none⟩,
  ⟨none, .e (.store (some 3) (.tmp 8) (.tmp 32)), none, none⟩])
  (.seq (.join [(6, .p), (8, .p)] (.seq (.region [⟨some 33, .p (.mv (.tmp 1)), none, none⟩,
  ⟨some 34, .p (.mv (.tmp 2)), none, none⟩,
  ⟨some 35, .p (.bin .add (.tmp 33) (.tmp 34)), none, none⟩,
  ⟨some 36, .p (.mv (.const (.int .i64 0))), none, none⟩])
  (.block 0 (.loop [(0, .p), (1, .i .i64), (6, .p), (8, .p), (35, .i .i64), (36, .i .i64)] (.seq (.region [⟨some 37, .p (.bin .lss (.tmp 36) (.tmp 35)), none, none⟩])
  (.seq (.cond (.tmp 37) (.skip) (.exit 0))
  (.seq (.join [(0, .p), (1, .i .i64), (6, .p), (8, .p), (35, .i .i64), (36, .i .i64)] (.block 1 (.seq (.region [⟨some 38, .p (.mv (.tmp 36)), none, none⟩,
  ⟨some 9, .p (.mv (.tmp 38)), none, none⟩])
  (.seq (.region [⟨some 39, .p (.mv (.tmp 1)), none, none⟩,
  ⟨some 40, .p (.mv (.const (.int .i64 0))), none, none⟩])
  (.block 2 (.loop [(0, .p), (1, .i .i64), (6, .p), (8, .p), (9, .i .i64), (35, .i .i64), (36, .i .i64), (39, .i .i64), (40, .i .i64)] (.seq (.region [⟨some 41, .p (.bin .lss (.tmp 40) (.tmp 39)), none, none⟩])
  (.seq (.cond (.tmp 41) (.skip) (.exit 2))
  (.seq (.join [(0, .p), (1, .i .i64), (6, .p), (8, .p), (9, .i .i64), (35, .i .i64), (36, .i .i64), (39, .i .i64), (40, .i .i64)] (.block 3 (.seq (.region [⟨some 42, .p (.mv (.tmp 40)), none, none⟩,
  ⟨some 10, .p (.mv (.tmp 42)), none, none⟩])
  (.block 4 (.seq (.join [(0, .p), (1, .i .i64), (6, .p), (8, .p), (9, .i .i64), (10, .i .i64), (35, .i .i64), (36, .i .i64), (39, .i .i64), (40, .i .i64), (43, .b)] (.region [⟨some 44, .p (.mv (.tmp 9)), none, none⟩,
  ⟨some 45, .p (.mv (.tmp 1)), none, none⟩,
  ⟨some 46, .p (.bin .lss (.tmp 44) (.tmp 45)), none, none⟩,
  ⟨some 47, .p (.mv (.tmp 46)), none, none⟩,
  ⟨some 48, .p (.mv (.tmp 9)), (some (47, true)), none⟩,
  ⟨some 49, .p (.mv (.tmp 10)), (some (47, true)), none⟩,
  ⟨some 50, .p (.bin .eql (.tmp 48) (.tmp 49)), (some (47, true)), none⟩,
  ⟨some 51, .p (.pick (.tmp 47) (.tmp 50) (.const (.bool false))), none, none⟩,
  ⟨some 43, .p (.mv (.tmp 51)), none, none⟩]))
  (.cond (.tmp 43) (.region [⟨some 52, .l (.load (.agg 3) (.tmp 8)), none, some (.st [.i .i64, .i .i64, .l])⟩,
  ⟨some 53, .p (.mv (.tmp 9)), none, none⟩,
  ⟨some 54, .e (.call (.func 61) [.tmp 52, .tmp 53]), none, none⟩,
  ⟨some 55, .p (.mv (.tmp 10)), none, none⟩,
  ⟨some 56, .p (.idxL 1 (.tmp 54) (.tmp 55)), none, none⟩,
  ⟨none, .e (.store none (.tmp 56) (.const (.int .i64 1))), none, none⟩]) (.seq (.region [⟨some 58, .p (.mv (.tmp 9)), none, none⟩,
  ⟨some 59, .p (.mv (.tmp 1)), none, none⟩,
  ⟨some 60, .p (.bin .geq (.tmp 58) (.tmp 59)), none, none⟩,
  ⟨some 57, .p (.mv (.tmp 60)), none, none⟩])
  (.cond (.tmp 57) (.draw [⟨0, ⟨some 62, .l (.load (.agg 3) (.tmp 8)), none, some (.st [.i .i64, .i .i64, .l])⟩, [8], 0⟩,
  ⟨1, ⟨some 63, .p (.mv (.tmp 9)), none, none⟩, [9], 0⟩,
  ⟨2, ⟨some 64, .e (.call (.func 61) [.tmp 62, .tmp 63]), none, none⟩, [62, 63], 0⟩,
  ⟨4, ⟨some 66, .p (.mv (.tmp 0)), none, none⟩, [0], 1⟩,
  ⟨5, ⟨some 67, .p (.nilP (.tmp 66)), none, none⟩, [66], 1⟩,
  ⟨6, ⟨some 68, .p (.fieldAddr 0 (.tmp 67)), none, none⟩, [67], 1⟩,
  ⟨7, ⟨some 69, .l (.load (.p) (.tmp 68)), none, none⟩, [68], 1⟩,
  ⟨8, ⟨some 70, .p (.mv (.tmp 9)), none, none⟩, [9], 1⟩,
  ⟨9, ⟨some 71, .p (.mv (.tmp 10)), none, none⟩, [10], 1⟩,
  ⟨10, ⟨some 72, .p (.bin .xor (.tmp 70) (.tmp 71)), none, none⟩, [70, 71], 1⟩,
  ⟨11, ⟨some 73, .e (.call (.func 62) [.tmp 69, .const (.int .i64 1), .tmp 72]), none, none⟩, [69, 72], 0⟩,
  ⟨3, ⟨some 65, .p (.mv (.tmp 10)), none, none⟩, [10], 2⟩,
  ⟨12, ⟨some 61, .p (.mv (.tmp 73)), none, none⟩, [73], 0⟩,
  ⟨13, ⟨some 74, .p (.extract (.tmp 61) 0), none, none⟩, [61], 0⟩,
  ⟨15, ⟨some 76, .p (.idxL 1 (.tmp 64) (.tmp 65)), none, none⟩, [64, 65], 0⟩,
  ⟨16, ⟨none, .e (.store none (.tmp 76) (.tmp 74)), none, none⟩, [76, 74], 0⟩,
  ⟨14, ⟨some 75, .p (.extract (.tmp 61) 1), none, none⟩, [61], 1⟩]) (.skip)))))))))
  (.region [⟨some 77, .p (.bin .add (.tmp 40) (.const (.int .i64 1))), none, none⟩,
  ⟨some 40, .p (.mv (.tmp 77)), none, none⟩]))))))))))
  (.region [⟨some 78, .p (.bin .add (.tmp 36) (.const (.int .i64 1))), none, none⟩,
  ⟨some 36, .p (.mv (.tmp 78)), none, none⟩]))))))))
  (.seq (.region [⟨some 79, .l (.load (.agg 3) (.tmp 8)), none, some (.st [.i .i64, .i .i64, .l])⟩,
  ⟨none, .e (.store (some 3) (.tmp 6) (.tmp 79)), none, none⟩,
  ⟨some 7, .p (.mv (.const (.int .i64 0))), none, none⟩])
  (.ret)))))
noncomputable def e_matrix_Space_Cauchy (k : Nat) (D : CallF) : Ent := entOf 46 [(0, .p), (1, .i .i64), (2, .i .i64)] [(6, .st [.i .i64, .i .i64, .l]), (7, .i .i64)] (matrix_Space_Cauchy k D)
theorem q_matrix_Space_Cauchy : (Try.f46.body).bind (rcodeOf Try.prog 0 Try.f46.ntmps) = some (strip r_matrix_Space_Cauchy) := by kernel_rfl
theorem t_matrix_Space_Cauchy (k : Nat) (D : CallF) : curF [(0, .p), (1, .i .i64), (2, .i .i64)] (fun args h => denF (C_matrix_Space_Cauchy k D) k r_matrix_Space_Cauchy [(6, .st [.i .i64, .i .i64, .l]), (7, .i .i64)] [some (.agg 3), none] args h) = matrix_Space_Cauchy k D := by kernel_rfl
theorem ok_matrix_Space_Cauchy {D : CallF} (hD : CSound Try.prog 0 D) (k : Nat) : EntOk Try.prog 0 (e_matrix_Space_Cauchy k D) :=
  entOf_ok2 (mkC_sound hD (EntsOk.more (ok_matrix_blank hD k) (EntsOk.more (ok_matrix_M_row hD k) (EntsOk.more (ok_field_Field_Div hD k) (EntsOk.none))))) Try.func46 rfl q_matrix_Space_Cauchy rfl (t_matrix_Space_Cauchy k D)
end Gb
namespace Gb
open Go Gx Go.Proofs
set_option maxRecDepth 100000
noncomputable def C_field_tables_times (_k : Nat) (D : CallF) : CallF := mkC D []
noncomputable def field_tables_times (_k : Nat) (_D : CallF) (t_0 : Option Addr) (a_1 : Int) (b_2 : Int) (h : AHeap) : Option ((Int) × AHeap) :=
  joinK (fun (t1 : Option Addr) (a2 : Int) (b3 : Int) (y4 : Bool) (h5 : AHeap) =>
  (if y4 = true then
  some (0, h5)
  else
  (t1).bind fun p7 =>
  (Gx.idxA 256 1 (⟨p7.block, p7.off + 510, none⟩ : Addr) a2).bind fun q8 =>
  (ldI .i64 q8 h5).bind fun x9 =>
  (t1).bind fun p10 =>
  (Gx.idxA 256 1 (⟨p10.block, p10.off + 510, none⟩ : Addr) b3).bind fun q11 =>
  (ldI .i64 q11 h5).bind fun x12 =>
  (t1).bind fun p13 =>
  (Gx.idxA 510 1 (⟨p13.block, p13.off + 0, none⟩ : Addr) (IntKind.wrap .i64 (x9 + x12))).bind fun q14 =>
  (ldI .u8 q14 h5).bind fun x15 =>
  some ((IntKind.wrap .i64 x15), h5))) fun j6 =>
  (if (a_1 == 0) = true then
  j6 t_0 a_1 b_2 true h
  else
  j6 t_0 a_1 b_2 (b_2 == 0) h)
def r_field_tables_times : RCode := .seq (.region [⟨some 6, .p (.mv (.const (.int .i64 0))), none, none⟩])
  (.seq (.seq (.join [(0, .p), (1, .i .i64), (2, .i .i64), (12, .b)] (.region [⟨some 7, .p (.mv (.tmp 1)), none, none⟩,
  ⟨some 8, .p (.bin .eql (.tmp 7) (.const (.int .i64 0))), none, none⟩,
  ⟨some 9, .p (.mv (.tmp 8)), none, none⟩,
  ⟨some 10, .p (.mv (.tmp 2)), (some (9, false)), none⟩,
  ⟨some 11, .p (.bin .eql (.tmp 10) (.const (.int .i64 0))), (some (9, false)), none⟩,
  ⟨some 12, .p (.pick (.tmp 9) (.const (.bool true)) (.tmp 11)), none, none⟩]))
  (.cond (.tmp 12) (.seq (.region [⟨some 6, .p (.mv (.const (.int .i64 0))), none, none⟩])
  (.ret)) (.skip)))
  (.seq (.draw [⟨0, ⟨some 13, .p (.mv (.tmp 0)), none, none⟩, [0], 0⟩,
  ⟨1, ⟨some 14, .p (.mv (.tmp 0)), none, none⟩, [0], 0⟩,
  ⟨2, ⟨some 15, .p (.mv (.tmp 1)), none, none⟩, [1], 0⟩,
  ⟨3, ⟨some 16, .p (.nilP (.tmp 14)), none, none⟩, [14], 0⟩,
  ⟨4, ⟨some 17, .p (.fieldAddr 510 (.tmp 16)), none, none⟩, [16], 0⟩,
  ⟨5, ⟨some 18, .p (.idxA 256 1 (.tmp 17) (.tmp 15)), none, none⟩, [17, 15], 0⟩,
  ⟨6, ⟨some 19, .l (.load (.i .i64) (.tmp 18)), none, none⟩, [18], 0⟩,
  ⟨7, ⟨some 20, .p (.mv (.tmp 0)), none, none⟩, [0], 0⟩,
  ⟨8, ⟨some 21, .p (.mv (.tmp 2)), none, none⟩, [2], 0⟩,
  ⟨9, ⟨some 22, .p (.nilP (.tmp 20)), none, none⟩, [20], 0⟩,
  ⟨10, ⟨some 23, .p (.fieldAddr 510 (.tmp 22)), none, none⟩, [22], 0⟩,
  ⟨11, ⟨some 24, .p (.idxA 256 1 (.tmp 23) (.tmp 21)), none, none⟩, [23, 21], 0⟩,
  ⟨12, ⟨some 25, .l (.load (.i .i64) (.tmp 24)), none, none⟩, [24], 0⟩,
  ⟨13, ⟨some 26, .p (.bin .add (.tmp 19) (.tmp 25)), none, none⟩, [19, 25], 0⟩,
  ⟨14, ⟨some 27, .p (.nilP (.tmp 13)), none, none⟩, [13], 0⟩,
  ⟨15, ⟨some 28, .p (.fieldAddr 0 (.tmp 27)), none, none⟩, [27], 0⟩,
  ⟨16, ⟨some 29, .p (.idxA 510 1 (.tmp 28) (.tmp 26)), none, none⟩, [28, 26], 0⟩,
  ⟨17, ⟨some 30, .l (.load (.i .u8) (.tmp 29)), none, none⟩, [29], 0⟩,
  ⟨18, ⟨some 31, .p (.convI .i64 (.tmp 30)), none, none⟩, [30], 0⟩,
  ⟨19, ⟨some 6, .p (.mv (.tmp 31)), none, none⟩, [31], 0⟩])
  (.ret)))
noncomputable def e_field_tables_times (k : Nat) (D : CallF) : Ent := entOf 71 [(0, .p), (1, .i .i64), (2, .i .i64)] [(6, .i .i64)] (field_tables_times k D)
theorem q_field_tables_times : (Try.f71.body).bind (rcodeOf Try.prog 0 Try.f71.ntmps) = some (strip r_field_tables_times) := by kernel_rfl
theorem t_field_tables_times (k : Nat) (D : CallF) : curF [(0, .p), (1, .i .i64), (2, .i .i64)] (fun args h => denF (C_field_tables_times k D) k r_field_tables_times [(6, .i .i64)] [none] args h) = field_tables_times k D := by kernel_rfl
theorem ok_field_tables_times {D : CallF} (hD : CSound Try.prog 0 D) (k : Nat) : EntOk Try.prog 0 (e_field_tables_times k D) :=
  entOf_ok2 (mkC_sound hD (EntsOk.none)) Try.func71 rfl q_field_tables_times rfl (t_field_tables_times k D)
end Gb
namespace Gb
open Go Gx Go.Proofs
set_option maxRecDepth 100000
noncomputable def C_field_Field_Mix (k : Nat) (D : CallF) : CallF := mkC D [e_field_is k D, e_field_Field_tables k D, e_field_tables_times k D]
noncomputable def field_Field_Mix_l2b (_k : Nat) (_D : CallF) (j6 : (Option Addr) → Slc → Slc → Int → AHeap → Option ((ByteArray × Int) × AHeap)) (rec69 : (Option Addr) → Slc → Slc → Int → Slc → Int → Int → AHeap → Option ((ByteArray × Int) × AHeap)) (f61 : Option Addr) (l62 : Slc) (c63 : Slc) (long64 : Int) (y65 : Slc) (y66 : Int) (y67 : Int) (h68 : AHeap) : Option ((ByteArray × Int) × AHeap) :=
  (if (decide (y67 < y66)) = true then
  joinK (fun (f70 : Option Addr) (l71 : Slc) (c72 : Slc) (long73 : Int) (y74 : Slc) (y75 : Int) (y76 : Int) (h77 : AHeap) =>
  rec69 f70 l71 c72 long73 y74 y75 (IntKind.wrap .i64 (y76 + 1)) h77) fun j78 =>
  (Gx.idxL 1 y65 y67).bind fun q79 =>
  (ldS q79 h68).bind fun x80 =>
  (if (y67 == 0) = true then
  j78 f61 l62 c63 (x80.size : Int) y65 y66 y67 h68
  else
  (if ((x80.size : Int) != long64) = true then
  j6 f61 l62 c63 (-1) h68
  else
  j78 f61 l62 c63 long64 y65 y66 y67 h68))
  else
  j6 f61 l62 c63 long64 h68)
noncomputable def field_Field_Mix_l2 (k : Nat) (D : CallF) (j6 : (Option Addr) → Slc → Slc → Int → AHeap → Option ((ByteArray × Int) × AHeap)) : (Option Addr) → Slc → Slc → Int → Slc → Int → Int → AHeap → Option ((ByteArray × Int) × AHeap) :=
  iterK (α := (Option Addr) → Slc → Slc → Int → Slc → Int → Int → AHeap → Option ((ByteArray × Int) × AHeap)) (fun _ _ _ _ _ _ _ _ => none) k (field_Field_Mix_l2b k D j6)
noncomputable def field_Field_Mix_l1b (k : Nat) (D : CallF) (j36 : Slc → Slc → (Option Addr) → Slc → Int → Int → AHeap → Option ((ByteArray × Int) × AHeap)) (rec50 : Slc → Slc → (Option Addr) → Int → ByteArray → Slc → Int → Int → Int → Int → AHeap → Option ((ByteArray × Int) × AHeap)) (c39 : Slc) (out40 : Slc) (t41 : Option Addr) (i42 : Int) (s43 : ByteArray) (y44 : Slc) (y45 : Int) (y46 : Int) (y47 : Int) (y48 : Int) (h49 : AHeap) : Option ((ByteArray × Int) × AHeap) :=
  (if (decide (y48 < y47)) = true then
  (Gx.idxS s43 y48).bind fun b51 =>
  (Gx.idxL 1 c39 i42).bind fun q52 =>
  (ldI .i64 q52 h49).bind fun x53 =>
  (field_tables_times k D t41 (IntKind.wrap .i64 b51) x53 h49).bind fun r54 =>
  (Gx.idxL 1 out40 y48).bind fun q55 =>
  (ldI .u8 q55 r54.2).bind fun x56 =>
  guardP (SameW [h49] (fun H58 => (ldI .u8 q55 H58).bind fun y57 => some (.int .u8 y57)) (.int .u8 x56)) (
  (Gx.idxL 1 out40 y48).bind fun q59 =>
  (st1 q59 (.int .u8 (Go.bits .xor .u8 x56 (IntKind.wrap .u8 r54.1))) r54.2).bind fun h60 =>
  rec50 c39 out40 t41 i42 s43 y44 y45 y46 y47 (IntKind.wrap .i64 (y48 + 1)) h60)
  else
  j36 c39 out40 t41 y44 y45 y46 h49)
noncomputable def field_Field_Mix_l1 (k : Nat) (D : CallF) (j36 : Slc → Slc → (Option Addr) → Slc → Int → Int → AHeap → Option ((ByteArray × Int) × AHeap)) : Slc → Slc → (Option Addr) → Int → ByteArray → Slc → Int → Int → Int → Int → AHeap → Option ((ByteArray × Int) × AHeap) :=
  iterK (α := Slc → Slc → (Option Addr) → Int → ByteArray → Slc → Int → Int → Int → Int → AHeap → Option ((ByteArray × Int) × AHeap)) (fun _ _ _ _ _ _ _ _ _ _ _ => none) k (field_Field_Mix_l1b k D j36)
noncomputable def field_Field_Mix_l0b (k : Nat) (D : CallF) (j19 : Slc → AHeap → Option ((ByteArray × Int) × AHeap)) (rec28 : Slc → Slc → (Option Addr) → Slc → Int → Int → AHeap → Option ((ByteArray × Int) × AHeap)) (c21 : Slc) (out22 : Slc) (t23 : Option Addr) (y24 : Slc) (y25 : Int) (y26 : Int) (h27 : AHeap) : Option ((ByteArray × Int) × AHeap) :=
  (if (decide (y26 < y25)) = true then
  joinK (fun (c29 : Slc) (out30 : Slc) (t31 : Option Addr) (y32 : Slc) (y33 : Int) (y34 : Int) (h35 : AHeap) =>
  rec28 c29 out30 t31 y32 y33 (IntKind.wrap .i64 (y34 + 1)) h35) fun j36 =>
  (Gx.idxL 1 y24 y26).bind fun q37 =>
  (ldS q37 h27).bind fun x38 =>
  field_Field_Mix_l1 k D j36 c21 out22 t23 y26 x38 y24 y25 y26 (out22.len : Int) 0 h27
  else
  j19 out22 h27)
noncomputable def field_Field_Mix_l0 (k : Nat) (D : CallF) (j19 : Slc → AHeap → Option ((ByteArray × Int) × AHeap)) : Slc → Slc → (Option Addr) → Slc → Int → Int → AHeap → Option ((ByteArray × Int) × AHeap) :=
  iterK (α := Slc → Slc → (Option Addr) → Slc → Int → Int → AHeap → Option ((ByteArray × Int) × AHeap)) (fun _ _ _ _ _ _ _ => none) k (field_Field_Mix_l0b k D j19)
noncomputable def field_Field_Mix (k : Nat) (D : CallF) (f_0 : Option Addr) (l_1 : Slc) (c_2 : Slc) (h : AHeap) : Option ((ByteArray × Int) × AHeap) :=
  (if ((l_1.len : Int) != (c_2.len : Int)) = true then
  some (((⟨#[]⟩ : ByteArray), 4), h)
  else
  joinK (fun (f1 : Option Addr) (l2 : Slc) (c3 : Slc) (long4 : Int) (h5 : AHeap) =>
  joinK (fun (f7 : Option Addr) (l8 : Slc) (c9 : Slc) (long10 : Int) (y11 : Bool) (h12 : AHeap) =>
  (if y11 = true then
  some (((⟨#[]⟩ : ByteArray), 4), h12)
  else
  (field_is k D c9 h12).bind fun r14 =>
  (if (!r14.1) = true then
  some (((⟨#[]⟩ : ByteArray), 1), r14.2)
  else
  (if 0 ≤ (if long10 > 0 then long10 else 0) ∧ (if long10 > 0 then long10 else 0) ≤ (if long10 > 0 then long10 else 0) ∧ (if long10 > 0 then long10 else 0) ≤ 281474976710656 ∧ 1 * (if long10 > 0 then long10 else 0) ≤ 281474976710656 then
  let h15 := AHeap.new r14.2 (.cells (zerosL ((if long10 > 0 then long10 else 0)).toNat [.int .u8 0]) 5 true 0)
  (field_Field_tables k D f7 h15).bind fun r16 =>
  joinK (fun (out17 : Slc) (h18 : AHeap) =>
  (bytesOf h18 out17).bind fun s20 =>
  some ((s20, 0), h18)) fun j19 =>
  field_Field_Mix_l0 k D j19 c9 (⟨(some ⟨r14.2.next, 0, some 0⟩), ((if long10 > 0 then long10 else 0)).toNat, ((if long10 > 0 then long10 else 0)).toNat⟩ : Slc) r16.1 l8 (l8.len : Int) 0 r16.2
  else none)))) fun j13 =>
  (if (decide ((l2.len : Int) > 0)) = true then
  j13 f1 l2 c3 long4 (decide (long4 < 0)) h5
  else
  j13 f1 l2 c3 long4 false h5)) fun j6 =>
  field_Field_Mix_l2 k D j6 f_0 l_1 c_2 (-1) l_1 (l_1.len : Int) 0 h)
def r_field_Field_Mix : RCode := .seq (.region [⟨some 6, .p (.mv (.const (.string ⟨#[]⟩))), none, none⟩,
  ⟨some 7, .p (.mv (.const (.int .i64 0))), none, none⟩])
  (.scope (.seq (.seq (.region [⟨some 16, .p (.mv (.tmp 1)), none, none⟩,
  ⟨some 17, .p (.lenL (.tmp 16)), none, none⟩,
  ⟨some 18, .p (.mv (.tmp 2)), none, none⟩,
  ⟨some 19, .p (.lenL (.tmp 18)), none, none⟩,
  ⟨some 20, .p (.bin .neq (.tmp 17) (.tmp 19)), none, none⟩])
  (.cond (.tmp 20) (.seq (.region [⟨some 6, .p (.mv (.const (.string ⟨#[]⟩))), none, none⟩,
  ⟨some 7, .p (.mv (.const (.int .i64 4))), none, none⟩])
  (.ret)) (.skip)))
  (.seq (.region [⟨some 8, .p (.mv (.const (.int .i64 (-1)))), none, none⟩])
  (.seq (.skip)
  (.seq (.join [(0, .p), (1, .l), (2, .l), (8, .i .i64)] (.seq (.region [⟨some 21, .p (.mv (.tmp 1)), none, none⟩,
  ⟨some 22, .p (.lenL (.tmp 21)), none, none⟩,
  ⟨some 23, .p (.mv (.const (.int .i64 0))), none, none⟩])
  (.block 0 (.loop [(0, .p), (1, .l), (2, .l), (8, .i .i64), (21, .l), (22, .i .i64), (23, .i .i64)] (.seq (.region [⟨some 24, .p (.bin .lss (.tmp 23) (.tmp 22)), none, none⟩])
  (.seq (.cond (.tmp 24) (.skip) (.exit 0))
  (.seq (.join [(0, .p), (1, .l), (2, .l), (8, .i .i64), (21, .l), (22, .i .i64), (23, .i .i64)] (.block 1 (.seq (.region [⟨some 25, .p (.mv (.tmp 23)), none, none⟩,
  ⟨some 26, .p (.idxL 1 (.tmp 21) (.tmp 23)), none, none⟩,
  ⟨some 27, .l (.load (.s) (.tmp 26)), none, none⟩,
  ⟨some 9, .p (.mv (.tmp 25)), none, none⟩,
  ⟨some 10, .p (.mv (.tmp 27)), none, none⟩])
  (.block 2 (.seq (.region [⟨some 29, .p (.mv (.tmp 9)), none, none⟩,
  ⟨some 30, .p (.bin .eql (.tmp 29) (.const (.int .i64 0))), none, none⟩,
  ⟨some 28, .p (.mv (.tmp 30)), none, none⟩])
  (.cond (.tmp 28) (.region [⟨some 31, .p (.mv (.tmp 10)), none, none⟩,
  ⟨some 32, .p (.lenS (.tmp 31)), none, none⟩,
  ⟨some 8, .p (.mv (.tmp 32)), none, none⟩]) (.seq (.region [⟨some 34, .p (.mv (.tmp 10)), none, none⟩,
  ⟨some 35, .p (.lenS (.tmp 34)), none, none⟩,
  ⟨some 36, .p (.mv (.tmp 8)), none, none⟩,
  ⟨some 37, .p (.bin .neq (.tmp 35) (.tmp 36)), none, none⟩,
  ⟨some 33, .p (.mv (.tmp 37)), none, none⟩])
  (.cond (.tmp 33) (.seq (.region [⟨some 8, .p (.mv (.const (.int .i64 (-1)))), none, none⟩])
  (.exit 0)) (.skip)))))))))
  (.region [⟨some 38, .p (.bin .add (.tmp 23) (.const (.int .i64 1))), none, none⟩,
  ⟨some 23, .p (.mv (.tmp 38)), none, none⟩]))))))))
  (.seq (.block 3 (.seq (.join [(0, .p), (1, .l), (2, .l), (8, .i .i64), (39, .b)] (.region [⟨some 40, .p (.mv (.tmp 1)), none, none⟩,
  ⟨some 41, .p (.lenL (.tmp 40)), none, none⟩,
  ⟨some 42, .p (.bin .gtr (.tmp 41) (.const (.int .i64 0))), none, none⟩,
  ⟨some 43, .p (.mv (.tmp 42)), none, none⟩,
  ⟨some 44, .p (.mv (.tmp 8)), (some (43, true)), none⟩,
  ⟨some 45, .p (.bin .lss (.tmp 44) (.const (.int .i64 0))), (some (43, true)), none⟩,
  ⟨some 46, .p (.pick (.tmp 43) (.tmp 45) (.const (.bool false))), none, none⟩,
  ⟨some 39, .p (.mv (.tmp 46)), none, none⟩]))
  (.cond (.tmp 39) (.seq (.region [⟨some 6, .p (.mv (.const (.string ⟨#[]⟩))), none, none⟩,
  ⟨some 7, .p (.mv (.const (.int .i64 4))), none, none⟩])
  (.ret)) (.seq (.region [⟨some 48, .p (.mv (.tmp 2)), none, none⟩,
  ⟨some 49, .e (.call (.func 69) [.tmp 48]), none, none⟩,
  ⟨some 50, .p (.un .not (.tmp 49)), none, none⟩,
  ⟨some 47, .p (.mv (.tmp 50)), none, none⟩])
  (.cond (.tmp 47) (.seq (.region [⟨some 6, .p (.mv (.const (.string ⟨#[]⟩))), none, none⟩,
  ⟨some 7, .p (.mv (.const (.int .i64 1))), none, none⟩])
  (.ret)) (.skip))))))
  (.seq (.region [⟨some 51, .p (.mv (.tmp 8)), none, none⟩,
  ⟨some 52, .p (.maxI (.const (.int .i64 0)) (.tmp 51)), none, none⟩,
  ⟨some 53, .a (.mkSlice 5 1 [.int .u8 0] (.tmp 52) (.tmp 52)), none, none⟩,
  ⟨some 11, .p (.mv (.tmp 53)), none, none⟩])
  (.seq (.region [⟨some 54, .p (.mv (.tmp 0)), none, none⟩,
  ⟨some 55, .e (.call (.func 70) [.tmp 54]), none, none⟩,
  ⟨some 12, .p (.mv (.tmp 55)), none, none⟩])
  (.seq (.join [(11, .l)] (.seq (.region [⟨some 56, .p (.mv (.tmp 1)), none, none⟩,
  ⟨some 57, .p (.lenL (.tmp 56)), none, none⟩,
  ⟨some 58, .p (.mv (.const (.int .i64 0))), none, none⟩])
  (.block 4 (.loop [(2, .l), (11, .l), (12, .p), (56, .l), (57, .i .i64), (58, .i .i64)] (.seq (.region [⟨some 59, .p (.bin .lss (.tmp 58) (.tmp 57)), none, none⟩])
  (.seq (.cond (.tmp 59) (.skip) (.exit 4))
  (.seq (.join [(2, .l), (11, .l), (12, .p), (56, .l), (57, .i .i64), (58, .i .i64)] (.block 5 (.seq (.region [⟨some 60, .p (.mv (.tmp 58)), none, none⟩,
  ⟨some 61, .p (.idxL 1 (.tmp 56) (.tmp 58)), none, none⟩,
  ⟨some 62, .l (.load (.s) (.tmp 61)), none, none⟩,
  ⟨some 13, .p (.mv (.tmp 60)), none, none⟩,
  ⟨some 14, .p (.mv (.tmp 62)), none, none⟩])
  (.seq (.region [⟨some 63, .p (.mv (.tmp 11)), none, none⟩,
  ⟨some 64, .p (.lenL (.tmp 63)), none, none⟩,
  ⟨some 65, .p (.mv (.const (.int .i64 0))), none, none⟩])
  (.block 6 (.loop [(2, .l), (11, .l), (12, .p), (13, .i .i64), (14, .s), (56, .l), (57, .i .i64), (58, .i .i64), (64, .i .i64), (65, .i .i64)] (.seq (.region [⟨some 66, .p (.bin .lss (.tmp 65) (.tmp 64)), none, none⟩])
  (.seq (.cond (.tmp 66) (.skip) (.exit 6))
  (.seq (.block 7 (.seq (.region [⟨some 67, .p (.mv (.tmp 65)), none, none⟩,
  ⟨some 15, .p (.mv (.tmp 67)), none, none⟩])
  (.draw [⟨4, ⟨some 72, .p (.mv (.tmp 12)), none, none⟩, [12], 0⟩,
  ⟨5, ⟨some 73, .p (.mv (.tmp 14)), none, none⟩, [14], 0⟩,
  ⟨6, ⟨some 74, .p (.mv (.tmp 15)), none, none⟩, [15], 0⟩,
  ⟨7, ⟨some 75, .p (.idxS (.tmp 73) (.tmp 74)), none, none⟩, [73, 74], 0⟩,
  ⟨8, ⟨some 76, .p (.convI .i64 (.tmp 75)), none, none⟩, [75], 0⟩,
  ⟨9, ⟨some 77, .p (.mv (.tmp 2)), none, none⟩, [2], 0⟩,
  ⟨10, ⟨some 78, .p (.mv (.tmp 13)), none, none⟩, [13], 0⟩,
  ⟨11, ⟨some 79, .p (.idxL 1 (.tmp 77) (.tmp 78)), none, none⟩, [77, 78], 0⟩,
  ⟨12, ⟨some 80, .l (.load (.i .i64) (.tmp 79)), none, none⟩, [79], 0⟩,
  ⟨13, ⟨some 81, .e (.call (.func 71) [.tmp 72, .tmp 76, .tmp 80]), none, none⟩, [72, 76, 80], 0⟩,
  ⟨0, ⟨some 68, .p (.mv (.tmp 11)), none, none⟩, [11], 1⟩,
  ⟨1, ⟨some 69, .p (.mv (.tmp 15)), none, none⟩, [15], 1⟩,
  ⟨2, ⟨some 70, .p (.idxL 1 (.tmp 68) (.tmp 69)), none, none⟩, [68, 69], 1⟩,
  ⟨3, ⟨some 71, .l (.load (.i .u8) (.tmp 70)), none, none⟩, [70], 1⟩,
  ⟨14, ⟨some 82, .p (.convI .u8 (.tmp 81)), none, none⟩, [81], 0⟩,
  ⟨15, ⟨some 83, .p (.bin .xor (.tmp 71) (.tmp 82)), none, none⟩, [71, 82], 0⟩,
  ⟨16, ⟨some 84, .p (.idxL 1 (.tmp 68) (.tmp 69)), none, none⟩, [68, 69], 0⟩,
  ⟨17, ⟨none, .e (.store none (.tmp 84) (.tmp 83)), none, none⟩, [84, 83], 0⟩])))
  (.region [⟨some 85, .p (.bin .add (.tmp 65) (.const (.int .i64 1))), none, none⟩,
  ⟨some 65, .p (.mv (.tmp 85)), none, none⟩]))))))))))
  (.region [⟨some 86, .p (.bin .add (.tmp 58) (.const (.int .i64 1))), none, none⟩,
  ⟨some 58, .p (.mv (.tmp 86)), none, none⟩]))))))))
  (.seq (.region [⟨some 87, .p (.mv (.tmp 11)), none, none⟩,
  ⟨some 88, .l (.convBS (.tmp 87)), none, none⟩,
  ⟨some 6, .p (.mv (.tmp 88)), none, none⟩,
  ⟨some 7, .p (.mv (.const (.int .i64 0))), none, none⟩])
  (.ret)))))))))))
noncomputable def e_field_Field_Mix (k : Nat) (D : CallF) : Ent := entOf 49 [(0, .p), (1, .l), (2, .l)] [(6, .s), (7, .i .i64)] (field_Field_Mix k D)
theorem q_field_Field_Mix : (Try.f49.body).bind (rcodeOf Try.prog 0 Try.f49.ntmps) = some (strip r_field_Field_Mix) := by kernel_rfl
theorem t_field_Field_Mix (k : Nat) (D : CallF) : curF [(0, .p), (1, .l), (2, .l)] (fun args h => denF (C_field_Field_Mix k D) k r_field_Field_Mix [(6, .s), (7, .i .i64)] [none, none] args h) = field_Field_Mix k D := by kernel_rfl
theorem ok_field_Field_Mix {D : CallF} (hD : CSound Try.prog 0 D) (k : Nat) : EntOk Try.prog 0 (e_field_Field_Mix k D) :=
  entOf_ok2 (mkC_sound hD (EntsOk.more (ok_field_is hD k) (EntsOk.more (ok_field_Field_tables hD k) (EntsOk.more (ok_field_tables_times hD k) (EntsOk.none))))) Try.func49 rfl q_field_Field_Mix rfl (t_field_Field_Mix k D)
end Gb
namespace Gb
open Go Gx Go.Proofs
set_option maxRecDepth 100000
noncomputable def C_ref04_zero (_k : Nat) (D : CallF) : CallF := mkC D []
noncomputable def ref04_zero (_k : Nat) (_D : CallF) (rows_0 : Int) (cols_1 : Int) (h : AHeap) : Option (((Int × Int × Slc)) × AHeap) :=
  let h1 := AHeap.new h (.cells [.int .i64 0, .int .i64 0, .slice none 0 0] 94 true 0)
  (if 0 ≤ (IntKind.wrap .i64 (rows_0 * cols_1)) ∧ (IntKind.wrap .i64 (rows_0 * cols_1)) ≤ (IntKind.wrap .i64 (rows_0 * cols_1)) ∧ (IntKind.wrap .i64 (rows_0 * cols_1)) ≤ 281474976710656 ∧ 8 * (IntKind.wrap .i64 (rows_0 * cols_1)) ≤ 281474976710656 then
  let h2 := AHeap.new h1 (.cells (zerosL ((IntKind.wrap .i64 (rows_0 * cols_1))).toNat [.int .i64 0]) 3 true 0)
  (stL 3 (⟨h.next, 0, none⟩ : Addr) ([.int .i64 rows_0, .int .i64 cols_1, .slice (some ⟨h1.next, 0, some 0⟩) (((IntKind.wrap .i64 (rows_0 * cols_1))).toNat) (((IntKind.wrap .i64 (rows_0 * cols_1))).toNat)]) h2).bind fun h3 =>
  (ldA 3 (⟨h.next, 0, none⟩ : Addr) h3).bind fun l4 =>
  (decC [.i .i64, .i .i64, .l] l4).bind fun x5 =>
  some ((x5.1, x5.2.1, x5.2.2), h3)
  else none)
def r_ref04_zero : RCode := .seq (.region [⟨some 4, .a (.alloc 94 [.int .i64 0, .int .i64 0, .slice none 0 0]), none, none⟩])
  (.seq (.region [⟨some 5, .p (.mv (.tmp 0)), none, none⟩,
  ⟨some 6, .p (.mv (.tmp 1)), none, none⟩,
  ⟨some 7, .p (.mv (.tmp 0)), none, none⟩,
  ⟨some 8, .p (.mv (.tmp 1)), none, none⟩,
  ⟨some 9, .p (.bin .mul (.tmp 7) (.tmp 8)), none, none⟩,
  ⟨some 10, .a (.mkSlice 3 8 [.int .i64 0] (.tmp 9) (.tmp 9)), none, none⟩,
  ⟨some 11, .p (.build [.int .i64 0, .int .i64 0, .slice none 0 0] [(0, 1, .tmp 5), (1, 1, .tmp 6), (2, 1, .tmp 10)]), none, none⟩,
  ⟨none, .e (.store (some 3) (.tmp 4) (.tmp 11)), none, none⟩])
  (.ret))
noncomputable def e_ref04_zero (k : Nat) (D : CallF) : Ent := entOf 72 [(0, .i .i64), (1, .i .i64)] [(4, .st [.i .i64, .i .i64, .l])] (ref04_zero k D)
theorem q_ref04_zero : (Try.f72.body).bind (rcodeOf Try.prog 0 Try.f72.ntmps) = some (strip r_ref04_zero) := by kernel_rfl
theorem t_ref04_zero (k : Nat) (D : CallF) : curF [(0, .i .i64), (1, .i .i64)] (fun args h => denF (C_ref04_zero k D) k r_ref04_zero [(4, .st [.i .i64, .i .i64, .l])] [some (.agg 3)] args h) = ref04_zero k D := by kernel_rfl
theorem ok_ref04_zero {D : CallF} (hD : CSound Try.prog 0 D) (k : Nat) : EntOk Try.prog 0 (e_ref04_zero k D) :=
  entOf_ok2 (mkC_sound hD (EntsOk.none)) Try.func72 rfl q_ref04_zero rfl (t_ref04_zero k D)
end Gb
namespace Gb
open Go Gx Go.Proofs
set_option maxRecDepth 100000
noncomputable def C_ref03_Times (_k : Nat) (D : CallF) : CallF := mkC D []
noncomputable def ref03_Times_l1b (_k : Nat) (_D : CallF) (j3 : Int → AHeap → Option ((Int) × AHeap)) (rec22 : Int → Int → Int → Int → AHeap → Option ((Int) × AHeap)) (a17 : Int) (b18 : Int) (n19 : Int) (i20 : Int) (h21 : AHeap) : Option ((Int) × AHeap) :=
  (if (decide (i20 < 8)) = true then
  joinK (fun (a23 : Int) (b24 : Int) (n25 : Int) (i26 : Int) (h27 : AHeap) =>
  rec22 a23 b24 n25 (IntKind.wrap .i64 (i26 + 1)) h27) fun j28 =>
  (if 0 ≤ i20 then
  let t29 : Int := (Go.bits .and .i64 (Int.fdiv b18 (2 ^ (min (i20).toNat (IntKind.bits .i64)))) 1)
  (if (t29 == 1) = true then
  (if 0 ≤ i20 then
  let t30 : Int := (IntKind.wrap .i64 (a17 * 2 ^ (min (i20).toNat (IntKind.bits .i64))))
  j28 a17 b18 (Go.bits .xor .i64 n19 t30) i20 h21
  else none)
  else
  j28 a17 b18 n19 i20 h21)
  else none)
  else
  j3 n19 h21)
noncomputable def ref03_Times_l1 (k : Nat) (D : CallF) (j3 : Int → AHeap → Option ((Int) × AHeap)) : Int → Int → Int → Int → AHeap → Option ((Int) × AHeap) :=
  iterK (α := Int → Int → Int → Int → AHeap → Option ((Int) × AHeap)) (fun _ _ _ _ _ => none) k (ref03_Times_l1b k D j3)
noncomputable def ref03_Times_l0b (_k : Nat) (_D : CallF) (j6 : Int → AHeap → Option ((Int) × AHeap)) (rec10 : Int → Int → AHeap → Option ((Int) × AHeap)) (n7 : Int) (i8 : Int) (h9 : AHeap) : Option ((Int) × AHeap) :=
  (if (decide (i8 ≥ 8)) = true then
  joinK (fun (n11 : Int) (i12 : Int) (h13 : AHeap) =>
  rec10 n11 (IntKind.wrap .i64 (i12 - 1)) h13) fun j14 =>
  (if 0 ≤ i8 then
  let t15 : Int := (Go.bits .and .i64 (Int.fdiv n7 (2 ^ (min (i8).toNat (IntKind.bits .i64)))) 1)
  (if (t15 == 1) = true then
  (if 0 ≤ (IntKind.wrap .i64 (i8 - 8)) then
  let t16 : Int := (IntKind.wrap .i64 (391 * 2 ^ (min ((IntKind.wrap .i64 (i8 - 8))).toNat (IntKind.bits .i64))))
  j14 (Go.bits .xor .i64 n7 t16) i8 h9
  else none)
  else
  j14 n7 i8 h9)
  else none)
  else
  j6 n7 h9)
noncomputable def ref03_Times_l0 (k : Nat) (D : CallF) (j6 : Int → AHeap → Option ((Int) × AHeap)) : Int → Int → AHeap → Option ((Int) × AHeap) :=
  iterK (α := Int → Int → AHeap → Option ((Int) × AHeap)) (fun _ _ _ => none) k (ref03_Times_l0b k D j6)
noncomputable def ref03_Times (k : Nat) (D : CallF) (a_0 : Int) (b_1 : Int) (h : AHeap) : Option ((Int) × AHeap) :=
  joinK (fun (n1 : Int) (h2 : AHeap) =>
  joinK (fun (n4 : Int) (h5 : AHeap) =>
  some (n4, h5)) fun j6 =>
  ref03_Times_l0 k D j6 n1 15 h2) fun j3 =>
  ref03_Times_l1 k D j3 a_0 b_1 0 0 h
def r_ref03_Times : RCode := .seq (.region [⟨some 4, .p (.mv (.const (.int .i64 0))), none, none⟩])
  (.seq (.region [⟨some 5, .p (.mv (.const (.int .i64 0))), none, none⟩])
  (.seq (.join [(5, .i .i64)] (.seq (.region [⟨some 6, .p (.mv (.const (.int .i64 0))), none, none⟩])
  (.block 0 (.loop [(0, .i .i64), (1, .i .i64), (5, .i .i64), (6, .i .i64)] (.seq (.seq (.region [⟨some 8, .p (.mv (.tmp 6)), none, none⟩,
  ⟨some 9, .p (.bin .lss (.tmp 8) (.const (.int .i64 8))), none, none⟩])
  (.cond (.tmp 9) (.skip) (.exit 0)))
  (.seq (.join [(0, .i .i64), (1, .i .i64), (5, .i .i64), (6, .i .i64)] (.block 1 (.seq (.region [⟨some 12, .p (.mv (.tmp 1)), none, none⟩,
  ⟨some 13, .p (.mv (.tmp 6)), none, none⟩,
  ⟨some 14, .p (.bin .shr (.tmp 12) (.tmp 13)), none, none⟩,
  ⟨some 15, .p (.bin .and (.tmp 14) (.const (.int .i64 1))), none, none⟩,
  ⟨some 16, .p (.bin .eql (.tmp 15) (.const (.int .i64 1))), none, none⟩])
  (.cond (.tmp 16) (.region [⟨some 17, .p (.mv (.tmp 5)), none, none⟩,
  ⟨some 18, .p (.mv (.tmp 0)), none, none⟩,
  ⟨some 19, .p (.mv (.tmp 6)), none, none⟩,
  ⟨some 20, .p (.bin .shl (.tmp 18) (.tmp 19)), none, none⟩,
  ⟨some 21, .p (.bin .xor (.tmp 17) (.tmp 20)), none, none⟩,
  ⟨some 5, .p (.mv (.tmp 21)), none, none⟩]) (.skip)))))
  (.region [⟨some 10, .p (.mv (.tmp 6)), none, none⟩,
  ⟨some 11, .p (.bin .add (.tmp 10) (.const (.int .i64 1))), none, none⟩,
  ⟨some 6, .p (.mv (.tmp 11)), none, none⟩])))))))
  (.seq (.join [(5, .i .i64)] (.seq (.region [⟨some 7, .p (.mv (.const (.int .i64 15))), none, none⟩])
  (.block 2 (.loop [(5, .i .i64), (7, .i .i64)] (.seq (.seq (.region [⟨some 22, .p (.mv (.tmp 7)), none, none⟩,
  ⟨some 23, .p (.bin .geq (.tmp 22) (.const (.int .i64 8))), none, none⟩])
  (.cond (.tmp 23) (.skip) (.exit 2)))
  (.seq (.join [(5, .i .i64), (7, .i .i64)] (.block 3 (.seq (.region [⟨some 26, .p (.mv (.tmp 5)), none, none⟩,
  ⟨some 27, .p (.mv (.tmp 7)), none, none⟩,
  ⟨some 28, .p (.bin .shr (.tmp 26) (.tmp 27)), none, none⟩,
  ⟨some 29, .p (.bin .and (.tmp 28) (.const (.int .i64 1))), none, none⟩,
  ⟨some 30, .p (.bin .eql (.tmp 29) (.const (.int .i64 1))), none, none⟩])
  (.cond (.tmp 30) (.region [⟨some 31, .p (.mv (.tmp 5)), none, none⟩,
  ⟨some 32, .p (.mv (.tmp 7)), none, none⟩,
  ⟨some 33, .p (.bin .sub (.tmp 32) (.const (.int .i64 8))), none, none⟩,
  ⟨some 34, .p (.bin .shl (.const (.int .i64 391)) (.tmp 33)), none, none⟩,
  ⟨some 35, .p (.bin .xor (.tmp 31) (.tmp 34)), none, none⟩,
  ⟨some 5, .p (.mv (.tmp 35)), none, none⟩]) (.skip)))))
  (.region [⟨some 24, .p (.mv (.tmp 7)), none, none⟩,
  ⟨some 25, .p (.bin .sub (.tmp 24) (.const (.int .i64 1))), none, none⟩,
  ⟨some 7, .p (.mv (.tmp 25)), none, none⟩])))))))
  (.seq (.region [⟨some 36, .p (.mv (.tmp 5)), none, none⟩,
  ⟨some 4, .p (.mv (.tmp 36)), none, none⟩])
  (.ret)))))
noncomputable def e_ref03_Times (k : Nat) (D : CallF) : Ent := entOf 87 [(0, .i .i64), (1, .i .i64)] [(4, .i .i64)] (ref03_Times k D)
theorem q_ref03_Times : (Try.f87.body).bind (rcodeOf Try.prog 0 Try.f87.ntmps) = some (strip r_ref03_Times) := by kernel_rfl
theorem t_ref03_Times (k : Nat) (D : CallF) : curF [(0, .i .i64), (1, .i .i64)] (fun args h => denF (C_ref03_Times k D) k r_ref03_Times [(4, .i .i64)] [none] args h) = ref03_Times k D := by kernel_rfl
theorem ok_ref03_Times {D : CallF} (hD : CSound Try.prog 0 D) (k : Nat) : EntOk Try.prog 0 (e_ref03_Times k D) :=
  entOf_ok2 (mkC_sound hD (EntsOk.none)) Try.func87 rfl q_ref03_Times rfl (t_ref03_Times k D)
end Gb
namespace Gb
open Go Gx Go.Proofs
set_option maxRecDepth 100000
noncomputable def C_ref03_Over (k : Nat) (D : CallF) : CallF := mkC D [e_ref03_Times k D]
noncomputable def ref03_Over_l0b (k : Nat) (D : CallF) (j2 : AHeap → Option ((Int) × AHeap)) (rec7 : Int → Int → Int → AHeap → Option ((Int) × AHeap)) (a3 : Int) (b4 : Int) (q5 : Int) (h6 : AHeap) : Option ((Int) × AHeap) :=
  (if (decide (q5 < 256)) = true then
  (ref03_Times k D q5 b4 h6).bind fun r8 =>
  (if (r8.1 == a3) = true then
  some (q5, r8.2)
  else
  rec7 a3 b4 (IntKind.wrap .i64 (q5 + 1)) r8.2)
  else
  j2 h6)
noncomputable def ref03_Over_l0 (k : Nat) (D : CallF) (j2 : AHeap → Option ((Int) × AHeap)) : Int → Int → Int → AHeap → Option ((Int) × AHeap) :=
  iterK (α := Int → Int → Int → AHeap → Option ((Int) × AHeap)) (fun _ _ _ _ => none) k (ref03_Over_l0b k D j2)
noncomputable def ref03_Over (k : Nat) (D : CallF) (a_0 : Int) (b_1 : Int) (h : AHeap) : Option ((Int) × AHeap) :=
  joinK (fun (h1 : AHeap) =>
  some (0, h1)) fun j2 =>
  ref03_Over_l0 k D j2 a_0 b_1 0 h
def r_ref03_Over : RCode := .seq (.region [⟨some 4, .p (.mv (.const (.int .i64 0))), none, none⟩])
  (.seq (.join [] (.seq (.region [⟨some 5, .p (.mv (.const (.int .i64 0))), none, none⟩])
  (.block 0 (.loop [(0, .i .i64), (1, .i .i64), (5, .i .i64)] (.seq (.seq (.region [⟨some 6, .p (.mv (.tmp 5)), none, none⟩,
  ⟨some 7, .p (.bin .lss (.tmp 6) (.const (.int .i64 256))), none, none⟩])
  (.cond (.tmp 7) (.skip) (.exit 0)))
  (.seq (.block 1 (.seq (.region [⟨some 10, .p (.mv (.tmp 5)), none, none⟩,
  ⟨some 11, .p (.mv (.tmp 1)), none, none⟩,
  ⟨some 12, .e (.call (.func 87) [.tmp 10, .tmp 11]), none, none⟩,
  ⟨some 13, .p (.mv (.tmp 0)), none, none⟩,
  ⟨some 14, .p (.bin .eql (.tmp 12) (.tmp 13)), none, none⟩])
  (.cond (.tmp 14) (.seq (.region [⟨some 15, .p (.mv (.tmp 5)), none, none⟩,
  ⟨some 4, .p (.mv (.tmp 15)), none, none⟩])
  (.ret)) (.skip))))
  (.region [⟨some 8, .p (.mv (.tmp 5)), none, none⟩,
  ⟨some 9, .p (.bin .add (.tmp 8) (.const (.int .i64 1))), none, none⟩,
  ⟨some 5, .p (.mv (.tmp 9)), none, none⟩])))))))
  (.seq (.region [⟨some 4, .p (.mv (.const (.int .i64 0))), none, none⟩])
  (.ret)))
noncomputable def e_ref03_Over (k : Nat) (D : CallF) : Ent := entOf 73 [(0, .i .i64), (1, .i .i64)] [(4, .i .i64)] (ref03_Over k D)
theorem q_ref03_Over : (Try.f73.body).bind (rcodeOf Try.prog 0 Try.f73.ntmps) = some (strip r_ref03_Over) := by kernel_rfl
theorem t_ref03_Over (k : Nat) (D : CallF) : curF [(0, .i .i64), (1, .i .i64)] (fun args h => denF (C_ref03_Over k D) k r_ref03_Over [(4, .i .i64)] [none] args h) = ref03_Over k D := by kernel_rfl
theorem ok_ref03_Over {D : CallF} (hD : CSound Try.prog 0 D) (k : Nat) : EntOk Try.prog 0 (e_ref03_Over k D) :=
  entOf_ok2 (mkC_sound hD (EntsOk.more (ok_ref03_Times hD k) (EntsOk.none))) Try.func73 rfl q_ref03_Over rfl (t_ref03_Over k D)
end Gb
namespace Gb
open Go Gx Go.Proofs
set_option maxRecDepth 100000
noncomputable def C_ref04_Cauchy (k : Nat) (D : CallF) : CallF := mkC D [e_ref04_zero k D, e_ref03_Over k D]
noncomputable def ref04_Cauchy_l1b (k : Nat) (D : CallF) (j41 : Int → Int → (Option Addr) → (Option Addr) → Int → AHeap → Option (((Int × Int × Slc) × Int) × AHeap)) (rec53 : Int → Int → (Option Addr) → (Option Addr) → Int → Int → AHeap → Option (((Int × Int × Slc) × Int) × AHeap)) (kv46 : Int) (m47 : Int) (y48 : Option Addr) (out49 : Option Addr) (j50 : Int) (i51 : Int) (h52 : AHeap) : Option (((Int × Int × Slc) × Int) × AHeap) :=
  (if (decide (i51 < m47)) = true then
  (ref03_Over k D 1 (Go.bits .xor .i64 (IntKind.wrap .i64 (kv46 + i51)) j50) h52).bind fun r54 =>
  (out49).bind fun p55 =>
  (ldL (⟨p55.block, p55.off + 2, none⟩ : Addr) r54.2).bind fun x56 =>
  guardP (SameW [h52] (fun H58 => (ldL (⟨p55.block, p55.off + 2, none⟩ : Addr) H58).bind fun y57 => some (.slice y57.a y57.len y57.cap)) (.slice x56.a x56.len x56.cap)) (
  let t59 : Int := (IntKind.wrap .i64 ((IntKind.wrap .i64 (kv46 + i51)) * kv46))
  (Gx.idxL 1 x56 (IntKind.wrap .i64 (t59 + j50))).bind fun q60 =>
  (st1 q60 (.int .i64 r54.1) r54.2).bind fun h61 =>
  rec53 kv46 m47 y48 out49 j50 (IntKind.wrap .i64 (i51 + 1)) h61)
  else
  j41 kv46 m47 y48 out49 j50 h52)
noncomputable def ref04_Cauchy_l1 (k : Nat) (D : CallF) (j41 : Int → Int → (Option Addr) → (Option Addr) → Int → AHeap → Option (((Int × Int × Slc) × Int) × AHeap)) : Int → Int → (Option Addr) → (Option Addr) → Int → Int → AHeap → Option (((Int × Int × Slc) × Int) × AHeap) :=
  iterK (α := Int → Int → (Option Addr) → (Option Addr) → Int → Int → AHeap → Option (((Int × Int × Slc) × Int) × AHeap)) (fun _ _ _ _ _ _ _ => none) k (ref04_Cauchy_l1b k D j41)
noncomputable def ref04_Cauchy_l0b (k : Nat) (D : CallF) (j19 : (Option Addr) → (Option Addr) → AHeap → Option (((Int × Int × Slc) × Int) × AHeap)) (rec34 : Int → Int → (Option Addr) → (Option Addr) → Int → AHeap → Option (((Int × Int × Slc) × Int) × AHeap)) (kv28 : Int) (m29 : Int) (y30 : Option Addr) (out31 : Option Addr) (j32 : Int) (h33 : AHeap) : Option (((Int × Int × Slc) × Int) × AHeap) :=
  (if (decide (j32 < kv28)) = true then
  joinK (fun (kv35 : Int) (m36 : Int) (y37 : Option Addr) (out38 : Option Addr) (j39 : Int) (h40 : AHeap) =>
  rec34 kv35 m36 y37 out38 (IntKind.wrap .i64 (j39 + 1)) h40) fun j41 =>
  (out31).bind fun p42 =>
  (ldL (⟨p42.block, p42.off + 2, none⟩ : Addr) h33).bind fun x43 =>
  (Gx.idxL 1 x43 (IntKind.wrap .i64 ((IntKind.wrap .i64 (j32 * kv28)) + j32))).bind fun q44 =>
  (st1 q44 (.int .i64 1) h33).bind fun h45 =>
  ref04_Cauchy_l1 k D j41 kv28 m29 y30 out31 j32 0 h45
  else
  j19 y30 out31 h33)
noncomputable def ref04_Cauchy_l0 (k : Nat) (D : CallF) (j19 : (Option Addr) → (Option Addr) → AHeap → Option (((Int × Int × Slc) × Int) × AHeap)) : Int → Int → (Option Addr) → (Option Addr) → Int → AHeap → Option (((Int × Int × Slc) × Int) × AHeap) :=
  iterK (α := Int → Int → (Option Addr) → (Option Addr) → Int → AHeap → Option (((Int × Int × Slc) × Int) × AHeap)) (fun _ _ _ _ _ _ => none) k (ref04_Cauchy_l0b k D j19)
noncomputable def ref04_Cauchy (k : Nat) (D : CallF) (k_0 : Int) (m_1 : Int) (h : AHeap) : Option (((Int × Int × Slc) × Int) × AHeap) :=
  let h1 := AHeap.new h (.cells [.int .i64 0, .int .i64 0, .slice none 0 0] 94 true 0)
  joinK (fun (kv2 : Int) (m3 : Int) (y4 : Option Addr) (y5 : Bool) (h6 : AHeap) =>
  (if y5 = true then
  (y4).bind fun p8 =>
  (stL 3 p8 ([.int .i64 0, .int .i64 0, .slice none 0 0]) h6).bind fun h9 =>
  (y4).bind fun p10 =>
  (ldA 3 p10 h9).bind fun l11 =>
  (decC [.i .i64, .i .i64, .l] l11).bind fun x12 =>
  some (((x12.1, x12.2.1, x12.2.2), 1), h9)
  else
  (ref04_zero k D (IntKind.wrap .i64 (kv2 + m3)) kv2 h6).bind fun r13 =>
  let h14 := AHeap.new r13.2 (.cells [.int .i64 0, .int .i64 0, .slice none 0 0] 94 true 0)
  (stL 3 (⟨r13.2.next, 0, none⟩ : Addr) ([.int .i64 r13.1.1, .int .i64 r13.1.2.1, .slice r13.1.2.2.a r13.1.2.2.len r13.1.2.2.cap]) h14).bind fun h15 =>
  joinK (fun (y16 : Option Addr) (out17 : Option Addr) (h18 : AHeap) =>
  (out17).bind fun p20 =>
  (ldA 3 p20 h18).bind fun l21 =>
  (decC [.i .i64, .i .i64, .l] l21).bind fun x22 =>
  (y16).bind fun p23 =>
  (stL 3 p23 ([.int .i64 x22.1, .int .i64 x22.2.1, .slice x22.2.2.a x22.2.2.len x22.2.2.cap]) h18).bind fun h24 =>
  (y16).bind fun p25 =>
  (ldA 3 p25 h24).bind fun l26 =>
  (decC [.i .i64, .i .i64, .l] l26).bind fun x27 =>
  some (((x27.1, x27.2.1, x27.2.2), 0), h24)) fun j19 =>
  ref04_Cauchy_l0 k D j19 kv2 m3 y4 (some (⟨r13.2.next, 0, none⟩ : Addr)) 0 h15)) fun j7 =>
  (if (decide (k_0 < 1)) = true then
  j7 k_0 m_1 (some (⟨h.next, 0, none⟩ : Addr)) true h1
  else
  (if (decide (m_1 < 0)) = true then
  j7 k_0 m_1 (some (⟨h.next, 0, none⟩ : Addr)) true h1
  else
  (if (decide (k_0 > 255)) = true then
  j7 k_0 m_1 (some (⟨h.next, 0, none⟩ : Addr)) true h1
  else
  j7 k_0 m_1 (some (⟨h.next, 0, none⟩ : Addr)) (decide (m_1 > (IntKind.wrap .i64 (255 - k_0)))) h1)))
def r_ref04_Cauchy : RCode := .seq (.region [⟨some 4, .a (.alloc 94 [.int .i64 0, .int .i64 0, .slice none 0 0]), none, none⟩,
  ⟨some 5, .p (.mv (.const (.int .i64 0))), none, none⟩])
  (.seq (.seq (.join [(0, .i .i64), (1, .i .i64), (4, .p), (24, .b)] (.region [⟨some 9, .p (.mv (.tmp 0)), none, none⟩,
  ⟨some 10, .p (.bin .lss (.tmp 9) (.const (.int .i64 1))), none, none⟩,
  ⟨some 11, .p (.mv (.tmp 10)), none, none⟩,
  ⟨some 12, .p (.mv (.tmp 1)), (some (11, false)), none⟩,
  ⟨some 13, .p (.bin .lss (.tmp 12) (.const (.int .i64 0))), (some (11, false)), none⟩,
  ⟨some 14, .p (.pick (.tmp 11) (.const (.bool true)) (.tmp 13)), none, none⟩,
  ⟨some 15, .p (.mv (.tmp 14)), none, none⟩,
  ⟨some 16, .p (.mv (.tmp 0)), (some (15, false)), none⟩,
  ⟨some 17, .p (.bin .gtr (.tmp 16) (.const (.int .i64 255))), (some (15, false)), none⟩,
  ⟨some 18, .p (.pick (.tmp 15) (.const (.bool true)) (.tmp 17)), none, none⟩,
  ⟨some 19, .p (.mv (.tmp 18)), none, none⟩,
  ⟨some 20, .p (.mv (.tmp 1)), (some (19, false)), none⟩,
  ⟨some 21, .p (.mv (.tmp 0)), (some (19, false)), none⟩,
  ⟨some 22, .p (.bin .sub (.const (.int .i64 255)) (.tmp 21)), (some (19, false)), none⟩,
  ⟨some 23, .p (.bin .gtr (.tmp 20) (.tmp 22)), (some (19, false)), none⟩,
  ⟨some 24, .p (.pick (.tmp 19) (.const (.bool true)) (.tmp 23)), none, none⟩]))
  (.cond (.tmp 24) (.seq (.region [⟨some 25, .p (.build [.int .i64 0, .int .i64 0, .slice none 0 0] []), none, none⟩,
  ⟨none, .e (.store (some 3) (.tmp 4) (.tmp 25)), none, none⟩,
  ⟨some 5, .p (.mv (.const (.int .i64 1))), none, none⟩])
  (.ret)) (.skip)))
  (.seq (.region [⟨some 26, .p (.mv (.tmp 0)), none, none⟩,
  ⟨some 27, .p (.mv (.tmp 1)), none, none⟩,
  ⟨some 28, .p (.bin .add (.tmp 26) (.tmp 27)), none, none⟩,
  ⟨some 29, .p (.mv (.tmp 0)), none, none⟩,
  ⟨some 30, .e (.call (.func 72) [.tmp 28, .tmp 29]), none, none⟩,
  ⟨some 6, .a (.alloc 94 [.int .i64 0, .int .i64 0, .slice none 0 0]), none, none⟩,
  ⟨none, .e (.store (some 3) (.tmp 6) (.tmp 30)), none, none⟩])
  (.seq (.join [(4, .p), (6, .p)] (.seq (.region [⟨some 7, .p (.mv (.const (.int .i64 0))), none, none⟩])
  (.block 0 (.loop [(0, .i .i64), (1, .i .i64), (4, .p), (6, .p), (7, .i .i64)] (.seq (.seq (.region [⟨some 31, .p (.mv (.tmp 7)), none, none⟩,
  ⟨some 32, .p (.mv (.tmp 0)), none, none⟩,
  ⟨some 33, .p (.bin .lss (.tmp 31) (.tmp 32)), none, none⟩])
  (.cond (.tmp 33) (.skip) (.exit 0)))
  (.seq (.join [(0, .i .i64), (1, .i .i64), (4, .p), (6, .p), (7, .i .i64)] (.block 1 (.seq (.region [⟨some 36, .p (.fieldAddr 2 (.tmp 6)), none, none⟩,
  ⟨some 37, .l (.load (.l) (.tmp 36)), none, none⟩,
  ⟨some 38, .p (.mv (.tmp 7)), none, none⟩,
  ⟨some 39, .p (.mv (.tmp 0)), none, none⟩,
  ⟨some 40, .p (.bin .mul (.tmp 38) (.tmp 39)), none, none⟩,
  ⟨some 41, .p (.mv (.tmp 7)), none, none⟩,
  ⟨some 42, .p (.bin .add (.tmp 40) (.tmp 41)), none, none⟩,
  ⟨some 43, .p (.idxL 1 (.tmp 37) (.tmp 42)), none, none⟩,
  ⟨none, .e (.store none (.tmp 43) (.const (.int .i64 1))), none, none⟩])
  (.seq (.region [⟨some 8, .p (.mv (.const (.int .i64 0))), none, none⟩])
  (.block 2 (.loop [(0, .i .i64), (1, .i .i64), (4, .p), (6, .p), (7, .i .i64), (8, .i .i64)] (.seq (.seq (.region [⟨some 44, .p (.mv (.tmp 8)), none, none⟩,
  ⟨some 45, .p (.mv (.tmp 1)), none, none⟩,
  ⟨some 46, .p (.bin .lss (.tmp 44) (.tmp 45)), none, none⟩])
  (.cond (.tmp 46) (.skip) (.exit 2)))
  (.seq (.block 3 (.draw [⟨9, ⟨some 58, .p (.mv (.tmp 0)), none, none⟩, [0], 0⟩,
  ⟨10, ⟨some 59, .p (.mv (.tmp 8)), none, none⟩, [8], 0⟩,
  ⟨11, ⟨some 60, .p (.bin .add (.tmp 58) (.tmp 59)), none, none⟩, [58, 59], 0⟩,
  ⟨12, ⟨some 61, .p (.mv (.tmp 7)), none, none⟩, [7], 0⟩,
  ⟨13, ⟨some 62, .p (.bin .xor (.tmp 60) (.tmp 61)), none, none⟩, [60, 61], 0⟩,
  ⟨14, ⟨some 63, .e (.call (.func 73) [.const (.int .i64 1), .tmp 62]), none, none⟩, [62], 0⟩,
  ⟨0, ⟨some 49, .p (.fieldAddr 2 (.tmp 6)), none, none⟩, [6], 1⟩,
  ⟨1, ⟨some 50, .l (.load (.l) (.tmp 49)), none, none⟩, [49], 1⟩,
  ⟨2, ⟨some 51, .p (.mv (.tmp 0)), none, none⟩, [0], 1⟩,
  ⟨3, ⟨some 52, .p (.mv (.tmp 8)), none, none⟩, [8], 1⟩,
  ⟨4, ⟨some 53, .p (.bin .add (.tmp 51) (.tmp 52)), none, none⟩, [51, 52], 1⟩,
  ⟨5, ⟨some 54, .p (.mv (.tmp 0)), none, none⟩, [0], 1⟩,
  ⟨6, ⟨some 55, .p (.bin .mul (.tmp 53) (.tmp 54)), none, none⟩, [53, 54], 1⟩,
  ⟨7, ⟨some 56, .p (.mv (.tmp 7)), none, none⟩, [7], 1⟩,
  ⟨8, ⟨some 57, .p (.bin .add (.tmp 55) (.tmp 56)), none, none⟩, [55, 56], 1⟩,
  ⟨15, ⟨some 64, .p (.idxL 1 (.tmp 50) (.tmp 57)), none, none⟩, [50, 57], 0⟩,
  ⟨16, ⟨none, .e (.store none (.tmp 64) (.tmp 63)), none, none⟩, [64, 63], 0⟩]))
  (.region [⟨some 47, .p (.mv (.tmp 8)), none, none⟩,
  ⟨some 48, .p (.bin .add (.tmp 47) (.const (.int .i64 1))), none, none⟩,
  ⟨some 8, .p (.mv (.tmp 48)), none, none⟩])))))))))
  (.region [⟨some 34, .p (.mv (.tmp 7)), none, none⟩,
  ⟨some 35, .p (.bin .add (.tmp 34) (.const (.int .i64 1))), none, none⟩,
  ⟨some 7, .p (.mv (.tmp 35)), none, none⟩])))))))
  (.seq (.region [⟨some 65, .l (.load (.agg 3) (.tmp 6)), none, some (.st [.i .i64, .i .i64, .l])⟩,
  ⟨none, .e (.store (some 3) (.tmp 4) (.tmp 65)), none, none⟩,
  ⟨some 5, .p (.mv (.const (.int .i64 0))), none, none⟩])
  (.ret)))))
noncomputable def e_ref04_Cauchy (k : Nat) (D : CallF) : Ent := entOf 51 [(0, .i .i64), (1, .i .i64)] [(4, .st [.i .i64, .i .i64, .l]), (5, .i .i64)] (ref04_Cauchy k D)
theorem q_ref04_Cauchy : (Try.f51.body).bind (rcodeOf Try.prog 0 Try.f51.ntmps) = some (strip r_ref04_Cauchy) := by kernel_rfl
theorem t_ref04_Cauchy (k : Nat) (D : CallF) : curF [(0, .i .i64), (1, .i .i64)] (fun args h => denF (C_ref04_Cauchy k D) k r_ref04_Cauchy [(4, .st [.i .i64, .i .i64, .l]), (5, .i .i64)] [some (.agg 3), none] args h) = ref04_Cauchy k D := by kernel_rfl
theorem ok_ref04_Cauchy {D : CallF} (hD : CSound Try.prog 0 D) (k : Nat) : EntOk Try.prog 0 (e_ref04_Cauchy k D) :=
  entOf_ok2 (mkC_sound hD (EntsOk.more (ok_ref04_zero hD k) (EntsOk.more (ok_ref03_Over hD k) (EntsOk.none)))) Try.func51 rfl q_ref04_Cauchy rfl (t_ref04_Cauchy k D)
end Gb
namespace Gb
open Go Gx Go.Proofs
set_option maxRecDepth 100000
noncomputable def C_ref03_By (k : Nat) (D : CallF) : CallF := mkC D [e_ref03_Times k D]
noncomputable def ref03_By_l0b (k : Nat) (D : CallF) (j4 : Slc → AHeap → Option ((ByteArray) × AHeap)) (rec11 : ByteArray → Int → Slc → Int → AHeap → Option ((ByteArray) × AHeap)) (s6 : ByteArray) (c7 : Int) (out8 : Slc) (i9 : Int) (h10 : AHeap) : Option ((ByteArray) × AHeap) :=
  (if (decide (i9 < (s6.size : Int))) = true then
  (Gx.idxS s6 i9).bind fun b12 =>
  (ref03_Times k D (IntKind.wrap .i64 b12) c7 h10).bind fun r13 =>
  (Gx.idxL 1 out8 i9).bind fun q14 =>
  (st1 q14 (.int .u8 (IntKind.wrap .u8 r13.1)) r13.2).bind fun h15 =>
  rec11 s6 c7 out8 (IntKind.wrap .i64 (i9 + 1)) h15
  else
  j4 out8 h10)
noncomputable def ref03_By_l0 (k : Nat) (D : CallF) (j4 : Slc → AHeap → Option ((ByteArray) × AHeap)) : ByteArray → Int → Slc → Int → AHeap → Option ((ByteArray) × AHeap) :=
  iterK (α := ByteArray → Int → Slc → Int → AHeap → Option ((ByteArray) × AHeap)) (fun _ _ _ _ _ => none) k (ref03_By_l0b k D j4)
noncomputable def ref03_By (k : Nat) (D : CallF) (s_0 : ByteArray) (c_1 : Int) (h : AHeap) : Option ((ByteArray) × AHeap) :=
  (if 0 ≤ (s_0.size : Int) ∧ (s_0.size : Int) ≤ (s_0.size : Int) ∧ (s_0.size : Int) ≤ 281474976710656 ∧ 1 * (s_0.size : Int) ≤ 281474976710656 then
  let h1 := AHeap.new h (.cells (zerosL ((s_0.size : Int)).toNat [.int .u8 0]) 5 true 0)
  joinK (fun (out2 : Slc) (h3 : AHeap) =>
  (bytesOf h3 out2).bind fun s5 =>
  some (s5, h3)) fun j4 =>
  ref03_By_l0 k D j4 s_0 c_1 (⟨(some ⟨h.next, 0, some 0⟩), ((s_0.size : Int)).toNat, ((s_0.size : Int)).toNat⟩ : Slc) 0 h1
  else none)
def r_ref03_By : RCode := .seq (.region [⟨some 4, .p (.mv (.const (.string ⟨#[]⟩))), none, none⟩])
  (.seq (.region [⟨some 7, .p (.mv (.tmp 0)), none, none⟩,
  ⟨some 8, .p (.lenS (.tmp 7)), none, none⟩,
  ⟨some 9, .a (.mkSlice 5 1 [.int .u8 0] (.tmp 8) (.tmp 8)), none, none⟩,
  ⟨some 5, .p (.mv (.tmp 9)), none, none⟩])
  (.seq (.join [(5, .l)] (.seq (.region [⟨some 6, .p (.mv (.const (.int .i64 0))), none, none⟩])
  (.block 0 (.loop [(0, .s), (1, .i .i64), (5, .l), (6, .i .i64)] (.seq (.seq (.region [⟨some 10, .p (.mv (.tmp 6)), none, none⟩,
  ⟨some 11, .p (.mv (.tmp 0)), none, none⟩,
  ⟨some 12, .p (.lenS (.tmp 11)), none, none⟩,
  ⟨some 13, .p (.bin .lss (.tmp 10) (.tmp 12)), none, none⟩])
  (.cond (.tmp 13) (.skip) (.exit 0)))
  (.seq (.block 1 (.region [⟨some 16, .p (.mv (.tmp 5)), none, none⟩,
  ⟨some 17, .p (.mv (.tmp 6)), none, none⟩,
  ⟨some 18, .p (.mv (.tmp 0)), none, none⟩,
  ⟨some 19, .p (.mv (.tmp 6)), none, none⟩,
  ⟨some 20, .p (.idxS (.tmp 18) (.tmp 19)), none, none⟩,
  ⟨some 21, .p (.convI .i64 (.tmp 20)), none, none⟩,
  ⟨some 22, .p (.mv (.tmp 1)), none, none⟩,
  ⟨some 23, .e (.call (.func 87) [.tmp 21, .tmp 22]), none, none⟩,
  ⟨some 24, .p (.convI .u8 (.tmp 23)), none, none⟩,
  ⟨some 25, .p (.idxL 1 (.tmp 16) (.tmp 17)), none, none⟩,
  ⟨none, .e (.store none (.tmp 25) (.tmp 24)), none, none⟩]))
  (.region [⟨some 14, .p (.mv (.tmp 6)), none, none⟩,
  ⟨some 15, .p (.bin .add (.tmp 14) (.const (.int .i64 1))), none, none⟩,
  ⟨some 6, .p (.mv (.tmp 15)), none, none⟩])))))))
  (.seq (.region [⟨some 26, .p (.mv (.tmp 5)), none, none⟩,
  ⟨some 27, .l (.convBS (.tmp 26)), none, none⟩,
  ⟨some 4, .p (.mv (.tmp 27)), none, none⟩])
  (.ret))))
noncomputable def e_ref03_By (k : Nat) (D : CallF) : Ent := entOf 90 [(0, .s), (1, .i .i64)] [(4, .s)] (ref03_By k D)
theorem q_ref03_By : (Try.f90.body).bind (rcodeOf Try.prog 0 Try.f90.ntmps) = some (strip r_ref03_By) := by kernel_rfl
theorem t_ref03_By (k : Nat) (D : CallF) : curF [(0, .s), (1, .i .i64)] (fun args h => denF (C_ref03_By k D) k r_ref03_By [(4, .s)] [none] args h) = ref03_By k D := by kernel_rfl
theorem ok_ref03_By {D : CallF} (hD : CSound Try.prog 0 D) (k : Nat) : EntOk Try.prog 0 (e_ref03_By k D) :=
  entOf_ok2 (mkC_sound hD (EntsOk.more (ok_ref03_Times hD k) (EntsOk.none))) Try.func90 rfl q_ref03_By rfl (t_ref03_By k D)
end Gb
namespace Gb
open Go Gx Go.Proofs
set_option maxRecDepth 100000
noncomputable def C_ref03_Add (_k : Nat) (D : CallF) : CallF := mkC D []
noncomputable def ref03_Add_l0b (_k : Nat) (_D : CallF) (j4 : Slc → AHeap → Option ((ByteArray × Int) × AHeap)) (rec11 : ByteArray → ByteArray → Slc → Int → AHeap → Option ((ByteArray × Int) × AHeap)) (a6 : ByteArray) (b7 : ByteArray) (out8 : Slc) (i9 : Int) (h10 : AHeap) : Option ((ByteArray × Int) × AHeap) :=
  (if (decide (i9 < (a6.size : Int))) = true then
  (Gx.idxS a6 i9).bind fun b12 =>
  (Gx.idxS b7 i9).bind fun b13 =>
  (Gx.idxL 1 out8 i9).bind fun q14 =>
  (st1 q14 (.int .u8 (Go.bits .xor .u8 b12 b13)) h10).bind fun h15 =>
  rec11 a6 b7 out8 (IntKind.wrap .i64 (i9 + 1)) h15
  else
  j4 out8 h10)
noncomputable def ref03_Add_l0 (k : Nat) (D : CallF) (j4 : Slc → AHeap → Option ((ByteArray × Int) × AHeap)) : ByteArray → ByteArray → Slc → Int → AHeap → Option ((ByteArray × Int) × AHeap) :=
  iterK (α := ByteArray → ByteArray → Slc → Int → AHeap → Option ((ByteArray × Int) × AHeap)) (fun _ _ _ _ _ => none) k (ref03_Add_l0b k D j4)
noncomputable def ref03_Add (k : Nat) (D : CallF) (a_0 : ByteArray) (b_1 : ByteArray) (h : AHeap) : Option ((ByteArray × Int) × AHeap) :=
  (if ((a_0.size : Int) != (b_1.size : Int)) = true then
  some (((⟨#[]⟩ : ByteArray), 4), h)
  else
  (if 0 ≤ (a_0.size : Int) ∧ (a_0.size : Int) ≤ (a_0.size : Int) ∧ (a_0.size : Int) ≤ 281474976710656 ∧ 1 * (a_0.size : Int) ≤ 281474976710656 then
  let h1 := AHeap.new h (.cells (zerosL ((a_0.size : Int)).toNat [.int .u8 0]) 5 true 0)
  joinK (fun (out2 : Slc) (h3 : AHeap) =>
  (bytesOf h3 out2).bind fun s5 =>
  some ((s5, 0), h3)) fun j4 =>
  ref03_Add_l0 k D j4 a_0 b_1 (⟨(some ⟨h.next, 0, some 0⟩), ((a_0.size : Int)).toNat, ((a_0.size : Int)).toNat⟩ : Slc) 0 h1
  else none))
def r_ref03_Add : RCode := .seq (.region [⟨some 4, .p (.mv (.const (.string ⟨#[]⟩))), none, none⟩,
  ⟨some 5, .p (.mv (.const (.int .i64 0))), none, none⟩])
  (.seq (.seq (.region [⟨some 8, .p (.mv (.tmp 0)), none, none⟩,
  ⟨some 9, .p (.lenS (.tmp 8)), none, none⟩,
  ⟨some 10, .p (.mv (.tmp 1)), none, none⟩,
  ⟨some 11, .p (.lenS (.tmp 10)), none, none⟩,
  ⟨some 12, .p (.bin .neq (.tmp 9) (.tmp 11)), none, none⟩])
  (.cond (.tmp 12) (.seq (.region [⟨some 4, .p (.mv (.const (.string ⟨#[]⟩))), none, none⟩,
  ⟨some 5, .p (.mv (.const (.int .i64 4))), none, none⟩])
  (.ret)) (.skip)))
  (.seq (.region [⟨some 13, .p (.mv (.tmp 0)), none, none⟩,
  ⟨some 14, .p (.lenS (.tmp 13)), none, none⟩,
  ⟨some 15, .a (.mkSlice 5 1 [.int .u8 0] (.tmp 14) (.tmp 14)), none, none⟩,
  ⟨some 6, .p (.mv (.tmp 15)), none, none⟩])
  (.seq (.join [(6, .l)] (.seq (.region [⟨some 7, .p (.mv (.const (.int .i64 0))), none, none⟩])
  (.block 0 (.loop [(0, .s), (1, .s), (6, .l), (7, .i .i64)] (.seq (.seq (.region [⟨some 16, .p (.mv (.tmp 7)), none, none⟩,
  ⟨some 17, .p (.mv (.tmp 0)), none, none⟩,
  ⟨some 18, .p (.lenS (.tmp 17)), none, none⟩,
  ⟨some 19, .p (.bin .lss (.tmp 16) (.tmp 18)), none, none⟩])
  (.cond (.tmp 19) (.skip) (.exit 0)))
  (.seq (.block 1 (.draw [⟨0, ⟨some 22, .p (.mv (.tmp 6)), none, none⟩, [6], 0⟩,
  ⟨1, ⟨some 23, .p (.mv (.tmp 7)), none, none⟩, [7], 0⟩,
  ⟨2, ⟨some 24, .p (.mv (.tmp 0)), none, none⟩, [0], 0⟩,
  ⟨3, ⟨some 25, .p (.mv (.tmp 7)), none, none⟩, [7], 0⟩,
  ⟨4, ⟨some 26, .p (.idxS (.tmp 24) (.tmp 25)), none, none⟩, [24, 25], 0⟩,
  ⟨5, ⟨some 27, .p (.mv (.tmp 1)), none, none⟩, [1], 0⟩,
  ⟨6, ⟨some 28, .p (.mv (.tmp 7)), none, none⟩, [7], 0⟩,
  ⟨7, ⟨some 29, .p (.idxS (.tmp 27) (.tmp 28)), none, none⟩, [27, 28], 0⟩,
  ⟨8, ⟨some 30, .p (.bin .xor (.tmp 26) (.tmp 29)), none, none⟩, [26, 29], 0⟩,
  ⟨9, ⟨some 31, .p (.idxL 1 (.tmp 22) (.tmp 23)), none, none⟩, [22, 23], 0⟩,
  ⟨10, ⟨none, .e (.store none (.tmp 31) (.tmp 30)), none, none⟩, [31, 30], 0⟩]))
  (.region [⟨some 20, .p (.mv (.tmp 7)), none, none⟩,
  ⟨some 21, .p (.bin .add (.tmp 20) (.const (.int .i64 1))), none, none⟩,
  ⟨some 7, .p (.mv (.tmp 21)), none, none⟩])))))))
  (.seq (.region [⟨some 32, .p (.mv (.tmp 6)), none, none⟩,
  ⟨some 33, .l (.convBS (.tmp 32)), none, none⟩,
  ⟨some 4, .p (.mv (.tmp 33)), none, none⟩,
  ⟨some 5, .p (.mv (.const (.int .i64 0))), none, none⟩])
  (.ret)))))
noncomputable def e_ref03_Add (k : Nat) (D : CallF) : Ent := entOf 89 [(0, .s), (1, .s)] [(4, .s), (5, .i .i64)] (ref03_Add k D)
theorem q_ref03_Add : (Try.f89.body).bind (rcodeOf Try.prog 0 Try.f89.ntmps) = some (strip r_ref03_Add) := by kernel_rfl
theorem t_ref03_Add (k : Nat) (D : CallF) : curF [(0, .s), (1, .s)] (fun args h => denF (C_ref03_Add k D) k r_ref03_Add [(4, .s), (5, .i .i64)] [none, none] args h) = ref03_Add k D := by kernel_rfl
theorem ok_ref03_Add {D : CallF} (hD : CSound Try.prog 0 D) (k : Nat) : EntOk Try.prog 0 (e_ref03_Add k D) :=
  entOf_ok2 (mkC_sound hD (EntsOk.none)) Try.func89 rfl q_ref03_Add rfl (t_ref03_Add k D)
end Gb
namespace Gb
open Go Gx Go.Proofs
set_option maxRecDepth 100000
noncomputable def C_ref03_is (_k : Nat) (D : CallF) : CallF := mkC D []
noncomputable def ref03_is (_k : Nat) (_D : CallF) (a_0 : Int) (h : AHeap) : Option ((Bool) × AHeap) :=
  (if (decide (a_0 ≥ 0)) = true then
  some ((decide (a_0 < 256)), h)
  else
  some (false, h))
def r_ref03_is : RCode := .seq (.region [⟨some 2, .p (.mv (.const (.bool false))), none, none⟩])
  (.seq (.region [⟨some 3, .p (.mv (.tmp 0)), none, none⟩,
  ⟨some 4, .p (.bin .geq (.tmp 3) (.const (.int .i64 0))), none, none⟩,
  ⟨some 5, .p (.mv (.tmp 4)), none, none⟩,
  ⟨some 6, .p (.mv (.tmp 0)), (some (5, true)), none⟩,
  ⟨some 7, .p (.bin .lss (.tmp 6) (.const (.int .i64 256))), (some (5, true)), none⟩,
  ⟨some 8, .p (.pick (.tmp 5) (.tmp 7) (.const (.bool false))), none, none⟩,
  ⟨some 2, .p (.mv (.tmp 8)), none, none⟩])
  (.ret))
noncomputable def e_ref03_is (k : Nat) (D : CallF) : Ent := entOf 88 [(0, .i .i64)] [(2, .b)] (ref03_is k D)
theorem q_ref03_is : (Try.f88.body).bind (rcodeOf Try.prog 0 Try.f88.ntmps) = some (strip r_ref03_is) := by kernel_rfl
theorem t_ref03_is (k : Nat) (D : CallF) : curF [(0, .i .i64)] (fun args h => denF (C_ref03_is k D) k r_ref03_is [(2, .b)] [none] args h) = ref03_is k D := by kernel_rfl
theorem ok_ref03_is {D : CallF} (hD : CSound Try.prog 0 D) (k : Nat) : EntOk Try.prog 0 (e_ref03_is k D) :=
  entOf_ok2 (mkC_sound hD (EntsOk.none)) Try.func88 rfl q_ref03_is rfl (t_ref03_is k D)
end Gb
namespace Gb
open Go Gx Go.Proofs
set_option maxRecDepth 100000
noncomputable def C_ref03_Mix (k : Nat) (D : CallF) : CallF := mkC D [e_ref03_By k D, e_ref03_Add k D, e_ref03_is k D]
noncomputable def ref03_Mix_l2b (_k : Nat) (_D : CallF) (j4 : Slc → Slc → AHeap → Option ((ByteArray × Int) × AHeap)) (rec40 : Slc → Slc → Int → AHeap → Option ((ByteArray × Int) × AHeap)) (l36 : Slc) (c37 : Slc) (i38 : Int) (h39 : AHeap) : Option ((ByteArray × Int) × AHeap) :=
  (if (decide (i38 < (l36.len : Int))) = true then
  (Gx.idxL 1 l36 i38).bind fun q41 =>
  (ldS q41 h39).bind fun x42 =>
  (Gx.idxL 1 l36 0).bind fun q43 =>
  (ldS q43 h39).bind fun x44 =>
  (if ((x42.size : Int) != (x44.size : Int)) = true then
  some (((⟨#[]⟩ : ByteArray), 4), h39)
  else
  rec40 l36 c37 (IntKind.wrap .i64 (i38 + 1)) h39)
  else
  j4 l36 c37 h39)
noncomputable def ref03_Mix_l2 (k : Nat) (D : CallF) (j4 : Slc → Slc → AHeap → Option ((ByteArray × Int) × AHeap)) : Slc → Slc → Int → AHeap → Option ((ByteArray × Int) × AHeap) :=
  iterK (α := Slc → Slc → Int → AHeap → Option ((ByteArray × Int) × AHeap)) (fun _ _ _ _ => none) k (ref03_Mix_l2b k D j4)
noncomputable def ref03_Mix_l1b (k : Nat) (D : CallF) (j8 : Slc → Slc → AHeap → Option ((ByteArray × Int) × AHeap)) (rec32 : Slc → Slc → Int → AHeap → Option ((ByteArray × Int) × AHeap)) (l28 : Slc) (c29 : Slc) (i30 : Int) (h31 : AHeap) : Option ((ByteArray × Int) × AHeap) :=
  (if (decide (i30 < (c29.len : Int))) = true then
  (Gx.idxL 1 c29 i30).bind fun q33 =>
  (ldI .i64 q33 h31).bind fun x34 =>
  (ref03_is k D x34 h31).bind fun r35 =>
  (if (!r35.1) = true then
  some (((⟨#[]⟩ : ByteArray), 1), r35.2)
  else
  rec32 l28 c29 (IntKind.wrap .i64 (i30 + 1)) r35.2)
  else
  j8 l28 c29 h31)
noncomputable def ref03_Mix_l1 (k : Nat) (D : CallF) (j8 : Slc → Slc → AHeap → Option ((ByteArray × Int) × AHeap)) : Slc → Slc → Int → AHeap → Option ((ByteArray × Int) × AHeap) :=
  iterK (α := Slc → Slc → Int → AHeap → Option ((ByteArray × Int) × AHeap)) (fun _ _ _ _ => none) k (ref03_Mix_l1b k D j8)
noncomputable def ref03_Mix_l0b (k : Nat) (D : CallF) (j15 : ByteArray → AHeap → Option ((ByteArray × Int) × AHeap)) (rec21 : Slc → Slc → ByteArray → Int → AHeap → Option ((ByteArray × Int) × AHeap)) (l16 : Slc) (c17 : Slc) (out18 : ByteArray) (i19 : Int) (h20 : AHeap) : Option ((ByteArray × Int) × AHeap) :=
  (if (decide (i19 < (l16.len : Int))) = true then
  (Gx.idxL 1 l16 i19).bind fun q22 =>
  (ldS q22 h20).bind fun x23 =>
  (Gx.idxL 1 c17 i19).bind fun q24 =>
  (ldI .i64 q24 h20).bind fun x25 =>
  (ref03_By k D x23 x25 h20).bind fun r26 =>
  (ref03_Add k D out18 r26.1 r26.2).bind fun r27 =>
  rec21 l16 c17 r27.1.1 (IntKind.wrap .i64 (i19 + 1)) r27.2
  else
  j15 out18 h20)
noncomputable def ref03_Mix_l0 (k : Nat) (D : CallF) (j15 : ByteArray → AHeap → Option ((ByteArray × Int) × AHeap)) : Slc → Slc → ByteArray → Int → AHeap → Option ((ByteArray × Int) × AHeap) :=
  iterK (α := Slc → Slc → ByteArray → Int → AHeap → Option ((ByteArray × Int) × AHeap)) (fun _ _ _ _ _ => none) k (ref03_Mix_l0b k D j15)
noncomputable def ref03_Mix (k : Nat) (D : CallF) (l_0 : Slc) (c_1 : Slc) (h : AHeap) : Option ((ByteArray × Int) × AHeap) :=
  (if ((l_0.len : Int) != (c_1.len : Int)) = true then
  some (((⟨#[]⟩ : ByteArray), 4), h)
  else
  joinK (fun (l1 : Slc) (c2 : Slc) (h3 : AHeap) =>
  joinK (fun (l5 : Slc) (c6 : Slc) (h7 : AHeap) =>
  (if ((l5.len : Int) == 0) = true then
  some (((⟨#[]⟩ : ByteArray), 0), h7)
  else
  (Gx.idxL 1 l5 0).bind fun q9 =>
  (ldS q9 h7).bind fun x10 =>
  (if 0 ≤ (x10.size : Int) ∧ (x10.size : Int) ≤ (x10.size : Int) ∧ (x10.size : Int) ≤ 281474976710656 ∧ 1 * (x10.size : Int) ≤ 281474976710656 then
  let h11 := AHeap.new h7 (.cells (zerosL ((x10.size : Int)).toNat [.int .u8 0]) 5 true 0)
  (bytesOf h11 (⟨(some ⟨h7.next, 0, some 0⟩), ((x10.size : Int)).toNat, ((x10.size : Int)).toNat⟩ : Slc)).bind fun s12 =>
  joinK (fun (out13 : ByteArray) (h14 : AHeap) =>
  some ((out13, 0), h14)) fun j15 =>
  ref03_Mix_l0 k D j15 l5 c6 s12 0 h11
  else none))) fun j8 =>
  ref03_Mix_l1 k D j8 l1 c2 0 h3) fun j4 =>
  ref03_Mix_l2 k D j4 l_0 c_1 0 h)
def r_ref03_Mix : RCode := .seq (.region [⟨some 4, .p (.mv (.const (.string ⟨#[]⟩))), none, none⟩,
  ⟨some 5, .p (.mv (.const (.int .i64 0))), none, none⟩])
  (.seq (.seq (.region [⟨some 10, .p (.mv (.tmp 0)), none, none⟩,
  ⟨some 11, .p (.lenL (.tmp 10)), none, none⟩,
  ⟨some 12, .p (.mv (.tmp 1)), none, none⟩,
  ⟨some 13, .p (.lenL (.tmp 12)), none, none⟩,
  ⟨some 14, .p (.bin .neq (.tmp 11) (.tmp 13)), none, none⟩])
  (.cond (.tmp 14) (.seq (.region [⟨some 4, .p (.mv (.const (.string ⟨#[]⟩))), none, none⟩,
  ⟨some 5, .p (.mv (.const (.int .i64 4))), none, none⟩])
  (.ret)) (.skip)))
  (.seq (.join [(0, .l), (1, .l)] (.seq (.region [⟨some 6, .p (.mv (.const (.int .i64 0))), none, none⟩])
  (.block 0 (.loop [(0, .l), (1, .l), (6, .i .i64)] (.seq (.seq (.region [⟨some 15, .p (.mv (.tmp 6)), none, none⟩,
  ⟨some 16, .p (.mv (.tmp 0)), none, none⟩,
  ⟨some 17, .p (.lenL (.tmp 16)), none, none⟩,
  ⟨some 18, .p (.bin .lss (.tmp 15) (.tmp 17)), none, none⟩])
  (.cond (.tmp 18) (.skip) (.exit 0)))
  (.seq (.block 1 (.seq (.draw [⟨0, ⟨some 21, .p (.mv (.tmp 0)), none, none⟩, [0], 0⟩,
  ⟨1, ⟨some 22, .p (.mv (.tmp 6)), none, none⟩, [6], 0⟩,
  ⟨2, ⟨some 23, .p (.idxL 1 (.tmp 21) (.tmp 22)), none, none⟩, [21, 22], 0⟩,
  ⟨3, ⟨some 24, .l (.load (.s) (.tmp 23)), none, none⟩, [23], 0⟩,
  ⟨4, ⟨some 25, .p (.lenS (.tmp 24)), none, none⟩, [24], 0⟩,
  ⟨5, ⟨some 26, .p (.mv (.tmp 0)), none, none⟩, [0], 0⟩,
  ⟨6, ⟨some 27, .p (.idxL 1 (.tmp 26) (.const (.int .i64 0))), none, none⟩, [26], 0⟩,
  ⟨7, ⟨some 28, .l (.load (.s) (.tmp 27)), none, none⟩, [27], 0⟩,
  ⟨8, ⟨some 29, .p (.lenS (.tmp 28)), none, none⟩, [28], 0⟩,
  ⟨9, ⟨some 30, .p (.bin .neq (.tmp 25) (.tmp 29)), none, none⟩, [25, 29], 0⟩])
  (.cond (.tmp 30) (.seq (.region [⟨some 4, .p (.mv (.const (.string ⟨#[]⟩))), none, none⟩,
  ⟨some 5, .p (.mv (.const (.int .i64 4))), none, none⟩])
  (.ret)) (.skip))))
  (.region [⟨some 19, .p (.mv (.tmp 6)), none, none⟩,
  ⟨some 20, .p (.bin .add (.tmp 19) (.const (.int .i64 1))), none, none⟩,
  ⟨some 6, .p (.mv (.tmp 20)), none, none⟩])))))))
  (.seq (.join [(0, .l), (1, .l)] (.seq (.region [⟨some 7, .p (.mv (.const (.int .i64 0))), none, none⟩])
  (.block 2 (.loop [(0, .l), (1, .l), (7, .i .i64)] (.seq (.seq (.region [⟨some 31, .p (.mv (.tmp 7)), none, none⟩,
  ⟨some 32, .p (.mv (.tmp 1)), none, none⟩,
  ⟨some 33, .p (.lenL (.tmp 32)), none, none⟩,
  ⟨some 34, .p (.bin .lss (.tmp 31) (.tmp 33)), none, none⟩])
  (.cond (.tmp 34) (.skip) (.exit 2)))
  (.seq (.block 3 (.seq (.region [⟨some 37, .p (.mv (.tmp 1)), none, none⟩,
  ⟨some 38, .p (.mv (.tmp 7)), none, none⟩,
  ⟨some 39, .p (.idxL 1 (.tmp 37) (.tmp 38)), none, none⟩,
  ⟨some 40, .l (.load (.i .i64) (.tmp 39)), none, none⟩,
  ⟨some 41, .e (.call (.func 88) [.tmp 40]), none, none⟩,
  ⟨some 42, .p (.un .not (.tmp 41)), none, none⟩])
  (.cond (.tmp 42) (.seq (.region [⟨some 4, .p (.mv (.const (.string ⟨#[]⟩))), none, none⟩,
  ⟨some 5, .p (.mv (.const (.int .i64 1))), none, none⟩])
  (.ret)) (.skip))))
  (.region [⟨some 35, .p (.mv (.tmp 7)), none, none⟩,
  ⟨some 36, .p (.bin .add (.tmp 35) (.const (.int .i64 1))), none, none⟩,
  ⟨some 7, .p (.mv (.tmp 36)), none, none⟩])))))))
  (.seq (.seq (.region [⟨some 43, .p (.mv (.tmp 0)), none, none⟩,
  ⟨some 44, .p (.lenL (.tmp 43)), none, none⟩,
  ⟨some 45, .p (.bin .eql (.tmp 44) (.const (.int .i64 0))), none, none⟩])
  (.cond (.tmp 45) (.seq (.region [⟨some 4, .p (.mv (.const (.string ⟨#[]⟩))), none, none⟩,
  ⟨some 5, .p (.mv (.const (.int .i64 0))), none, none⟩])
  (.ret)) (.skip)))
  (.seq (.region [⟨some 46, .p (.mv (.tmp 0)), none, none⟩,
  ⟨some 47, .p (.idxL 1 (.tmp 46) (.const (.int .i64 0))), none, none⟩,
  ⟨some 48, .l (.load (.s) (.tmp 47)), none, none⟩,
  ⟨some 49, .p (.lenS (.tmp 48)), none, none⟩,
  ⟨some 50, .a (.mkSlice 5 1 [.int .u8 0] (.tmp 49) (.tmp 49)), none, none⟩,
  ⟨some 51, .l (.convBS (.tmp 50)), none, none⟩,
  ⟨some 8, .p (.mv (.tmp 51)), none, none⟩])
  (.seq (.join [(8, .s)] (.seq (.region [⟨some 9, .p (.mv (.const (.int .i64 0))), none, none⟩])
  (.block 4 (.loop [(0, .l), (1, .l), (8, .s), (9, .i .i64)] (.seq (.seq (.region [⟨some 52, .p (.mv (.tmp 9)), none, none⟩,
  ⟨some 53, .p (.mv (.tmp 0)), none, none⟩,
  ⟨some 54, .p (.lenL (.tmp 53)), none, none⟩,
  ⟨some 55, .p (.bin .lss (.tmp 52) (.tmp 54)), none, none⟩])
  (.cond (.tmp 55) (.skip) (.exit 4)))
  (.seq (.block 5 (.draw [⟨1, ⟨some 60, .p (.mv (.tmp 0)), none, none⟩, [0], 0⟩,
  ⟨2, ⟨some 61, .p (.mv (.tmp 9)), none, none⟩, [9], 0⟩,
  ⟨3, ⟨some 62, .p (.idxL 1 (.tmp 60) (.tmp 61)), none, none⟩, [60, 61], 0⟩,
  ⟨4, ⟨some 63, .l (.load (.s) (.tmp 62)), none, none⟩, [62], 0⟩,
  ⟨5, ⟨some 64, .p (.mv (.tmp 1)), none, none⟩, [1], 0⟩,
  ⟨6, ⟨some 65, .p (.mv (.tmp 9)), none, none⟩, [9], 0⟩,
  ⟨7, ⟨some 66, .p (.idxL 1 (.tmp 64) (.tmp 65)), none, none⟩, [64, 65], 0⟩,
  ⟨8, ⟨some 67, .l (.load (.i .i64) (.tmp 66)), none, none⟩, [66], 0⟩,
  ⟨9, ⟨some 68, .e (.call (.func 90) [.tmp 63, .tmp 67]), none, none⟩, [63, 67], 0⟩,
  ⟨0, ⟨some 59, .p (.mv (.tmp 8)), none, none⟩, [8], 1⟩,
  ⟨10, ⟨some 69, .e (.call (.func 89) [.tmp 59, .tmp 68]), none, none⟩, [59, 68], 0⟩,
  ⟨11, ⟨some 58, .p (.mv (.tmp 69)), none, none⟩, [69], 0⟩,
  ⟨12, ⟨some 70, .p (.extract (.tmp 58) 0), none, none⟩, [58], 0⟩,
  ⟨13, ⟨some 71, .p (.extract (.tmp 58) 1), none, none⟩, [58], 0⟩,
  ⟨14, ⟨some 8, .p (.mv (.tmp 70)), none, none⟩, [70], 0⟩]))
  (.region [⟨some 56, .p (.mv (.tmp 9)), none, none⟩,
  ⟨some 57, .p (.bin .add (.tmp 56) (.const (.int .i64 1))), none, none⟩,
  ⟨some 9, .p (.mv (.tmp 57)), none, none⟩])))))))
  (.seq (.region [⟨some 72, .p (.mv (.tmp 8)), none, none⟩,
  ⟨some 4, .p (.mv (.tmp 72)), none, none⟩,
  ⟨some 5, .p (.mv (.const (.int .i64 0))), none, none⟩])
  (.ret))))))))
noncomputable def e_ref03_Mix (k : Nat) (D : CallF) : Ent := entOf 75 [(0, .l), (1, .l)] [(4, .s), (5, .i .i64)] (ref03_Mix k D)
theorem q_ref03_Mix : (Try.f75.body).bind (rcodeOf Try.prog 0 Try.f75.ntmps) = some (strip r_ref03_Mix) := by kernel_rfl
theorem t_ref03_Mix (k : Nat) (D : CallF) : curF [(0, .l), (1, .l)] (fun args h => denF (C_ref03_Mix k D) k r_ref03_Mix [(4, .s), (5, .i .i64)] [none, none] args h) = ref03_Mix k D := by kernel_rfl
theorem ok_ref03_Mix {D : CallF} (hD : CSound Try.prog 0 D) (k : Nat) : EntOk Try.prog 0 (e_ref03_Mix k D) :=
  entOf_ok2 (mkC_sound hD (EntsOk.more (ok_ref03_By hD k) (EntsOk.more (ok_ref03_Add hD k) (EntsOk.more (ok_ref03_is hD k) (EntsOk.none))))) Try.func75 rfl q_ref03_Mix rfl (t_ref03_Mix k D)
end Gb
namespace Gb
open Go Gx Go.Proofs
set_option maxRecDepth 100000
end Gb
namespace Gb
open Go Gx Go.Proofs
set_option maxRecDepth 100000
end Gb
namespace Gb
open Go Gx Go.Proofs
set_option maxRecDepth 100000
end Gb
namespace Gb
open Go Gx Go.Proofs
set_option maxRecDepth 100000
end Gb
namespace Gb
open Go Gx Go.Proofs
set_option maxRecDepth 100000
end Gb
namespace Gb
open Go Gx Go.Proofs
set_option maxRecDepth 100000
end Gb
namespace Gb
open Go Gx Go.Proofs
set_option maxRecDepth 100000
end Gb
namespace Gb
open Go Gx Go.Proofs
set_option maxRecDepth 100000
end Gb
namespace Gb
open Go Gx Go.Proofs
set_option maxRecDepth 100000
end Gb
namespace Gb
open Go Gx Go.Proofs
set_option maxRecDepth 100000
end Gb
namespace Gb
open Go Gx Go.Proofs
set_option maxRecDepth 100000
end Gb
namespace Gb
open Go Gx Go.Proofs
set_option maxRecDepth 100000
noncomputable def C_field_double (_k : Nat) (D : CallF) : CallF := mkC D []
noncomputable def field_double (_k : Nat) (_D : CallF) (a_0 : Int) (h : AHeap) : Option ((Int) × AHeap) :=
  joinK (fun (a1 : Int) (h2 : AHeap) =>
  some (a1, h2)) fun j3 =>
  (if (decide ((IntKind.wrap .i64 (a_0 * 2)) ≥ 256)) = true then
  j3 (Go.bits .xor .i64 (IntKind.wrap .i64 (a_0 * 2)) 391) h
  else
  j3 (IntKind.wrap .i64 (a_0 * 2)) h)
def r_field_double : RCode := .seq (.region [⟨some 2, .p (.mv (.const (.int .i64 0))), none, none⟩])
  (.seq (.region [⟨some 3, .p (.mv (.tmp 0)), none, none⟩,
  ⟨some 4, .p (.bin .shl (.tmp 3) (.const (.int .u64 1))), none, none⟩,
  ⟨some 0, .p (.mv (.tmp 4)), none, none⟩])
  (.seq (.join [(0, .i .i64)] (.seq (.region [⟨some 5, .p (.mv (.tmp 0)), none, none⟩,
  ⟨some 6, .p (.bin .geq (.tmp 5) (.const (.int .i64 256))), none, none⟩])
  (.cond (.tmp 6) (.region [⟨some 7, .p (.mv (.tmp 0)), none, none⟩,
  ⟨some 8, .p (.bin .xor (.tmp 7) (.const (.int .i64 391))), none, none⟩,
  ⟨some 0, .p (.mv (.tmp 8)), none, none⟩]) (.skip))))
  (.seq (.region [⟨some 9, .p (.mv (.tmp 0)), none, none⟩,
  ⟨some 2, .p (.mv (.tmp 9)), none, none⟩])
  (.ret))))
noncomputable def e_field_double (k : Nat) (D : CallF) : Ent := entOf 99 [(0, .i .i64)] [(2, .i .i64)] (field_double k D)
theorem q_field_double : (Try.f99.body).bind (rcodeOf Try.prog 0 Try.f99.ntmps) = some (strip r_field_double) := by kernel_rfl
theorem t_field_double (k : Nat) (D : CallF) : curF [(0, .i .i64)] (fun args h => denF (C_field_double k D) k r_field_double [(2, .i .i64)] [none] args h) = field_double k D := by kernel_rfl
theorem ok_field_double {D : CallF} (hD : CSound Try.prog 0 D) (k : Nat) : EntOk Try.prog 0 (e_field_double k D) :=
  entOf_ok2 (mkC_sound hD (EntsOk.none)) Try.func99 rfl q_field_double rfl (t_field_double k D)
end Gb
namespace Gb
open Go Gx Go.Proofs
set_option maxRecDepth 100000
noncomputable def C_field_Field_make (k : Nat) (D : CallF) : CallF := mkC D [e_field_double k D]
noncomputable def field_Field_make_l0b (k : Nat) (D : CallF)  (rec5 : (Option Addr) → Int → Int → AHeap → Option ((Unit) × AHeap)) (f1 : Option Addr) (x2 : Int) (y3 : Int) (h4 : AHeap) : Option ((Unit) × AHeap) :=
  (if (decide (y3 < 255)) = true then
  (f1).bind fun p6 =>
  (Gx.idxA 510 1 (⟨p6.block, p6.off + 3 + 0, none⟩ : Addr) y3).bind fun q7 =>
  (st1 q7 (.int .u8 (IntKind.wrap .u8 x2)) h4).bind fun h8 =>
  (f1).bind fun p9 =>
  (Gx.idxA 510 1 (⟨p9.block, p9.off + 3 + 0, none⟩ : Addr) (IntKind.wrap .i64 (y3 + 255))).bind fun q10 =>
  (st1 q10 (.int .u8 (IntKind.wrap .u8 x2)) h8).bind fun h11 =>
  (f1).bind fun p12 =>
  (Gx.idxA 256 1 (⟨p12.block, p12.off + 3 + 510, none⟩ : Addr) x2).bind fun q13 =>
  (st1 q13 (.int .i64 y3) h11).bind fun h14 =>
  (field_double k D x2 h14).bind fun r15 =>
  rec5 f1 r15.1 (IntKind.wrap .i64 (y3 + 1)) r15.2
  else
  some ((), h4))
noncomputable def field_Field_make_l0 (k : Nat) (D : CallF)  : (Option Addr) → Int → Int → AHeap → Option ((Unit) × AHeap) :=
  iterK (α := (Option Addr) → Int → Int → AHeap → Option ((Unit) × AHeap)) (fun _ _ _ _ => none) k (field_Field_make_l0b k D )
noncomputable def field_Field_make (k : Nat) (D : CallF) (f_0 : Option Addr) (h : AHeap) : Option ((Unit) × AHeap) :=
  field_Field_make_l0 k D f_0 1 0 h
def r_field_Field_make : RCode := .seq (.region [⟨some 2, .p (.mv (.const (.int .i64 1))), none, none⟩])
  (.seq (.region [⟨some 4, .p (.mv (.const (.int .i64 0))), none, none⟩])
  (.block 0 (.loop [(0, .p), (2, .i .i64), (4, .i .i64)] (.seq (.region [⟨some 5, .p (.bin .lss (.tmp 4) (.const (.int .i64 255))), none, none⟩])
  (.seq (.cond (.tmp 5) (.skip) (.exit 0))
  (.seq (.block 1 (.seq (.region [⟨some 6, .p (.mv (.tmp 4)), none, none⟩,
  ⟨some 3, .p (.mv (.tmp 6)), none, none⟩])
  (.seq (.draw [⟨0, ⟨some 7, .p (.mv (.tmp 0)), none, none⟩, [0], 0⟩,
  ⟨1, ⟨some 8, .p (.mv (.tmp 3)), none, none⟩, [3], 0⟩,
  ⟨5, ⟨some 12, .p (.mv (.tmp 2)), none, none⟩, [2], 0⟩,
  ⟨6, ⟨some 13, .p (.convI .u8 (.tmp 12)), none, none⟩, [12], 0⟩,
  ⟨9, ⟨some 16, .p (.nilP (.tmp 7)), none, none⟩, [7], 0⟩,
  ⟨10, ⟨some 17, .p (.fieldAddr 3 (.tmp 16)), none, none⟩, [16], 0⟩,
  ⟨11, ⟨some 18, .p (.fieldAddr 0 (.tmp 17)), none, none⟩, [17], 0⟩,
  ⟨12, ⟨some 19, .p (.idxA 510 1 (.tmp 18) (.tmp 8)), none, none⟩, [18, 8], 0⟩,
  ⟨13, ⟨none, .e (.store none (.tmp 19) (.tmp 13)), none, none⟩, [19, 13], 0⟩,
  ⟨2, ⟨some 9, .p (.mv (.tmp 0)), none, none⟩, [0], 1⟩,
  ⟨3, ⟨some 10, .p (.mv (.tmp 3)), none, none⟩, [3], 1⟩,
  ⟨4, ⟨some 11, .p (.bin .add (.tmp 10) (.const (.int .i64 255))), none, none⟩, [10], 1⟩,
  ⟨7, ⟨some 14, .p (.mv (.tmp 2)), none, none⟩, [2], 1⟩,
  ⟨8, ⟨some 15, .p (.convI .u8 (.tmp 14)), none, none⟩, [14], 1⟩,
  ⟨14, ⟨some 20, .p (.nilP (.tmp 9)), none, none⟩, [9], 1⟩,
  ⟨15, ⟨some 21, .p (.fieldAddr 3 (.tmp 20)), none, none⟩, [20], 1⟩,
  ⟨16, ⟨some 22, .p (.fieldAddr 0 (.tmp 21)), none, none⟩, [21], 1⟩,
  ⟨17, ⟨some 23, .p (.idxA 510 1 (.tmp 22) (.tmp 11)), none, none⟩, [22, 11], 0⟩,
  ⟨18, ⟨none, .e (.store none (.tmp 23) (.tmp 15)), none, none⟩, [23, 15], 0⟩])
  (.seq (.region [⟨some 24, .p (.mv (.tmp 0)), none, none⟩,
  ⟨some 25, .p (.mv (.tmp 2)), none, none⟩,
  ⟨some 26, .p (.mv (.tmp 3)), none, none⟩,
  ⟨some 27, .p (.nilP (.tmp 24)), none, none⟩,
  ⟨some 28, .p (.fieldAddr 3 (.tmp 27)), none, none⟩,
  ⟨some 29, .p (.fieldAddr 510 (.tmp 28)), none, none⟩,
  ⟨some 30, .p (.idxA 256 1 (.tmp 29) (.tmp 25)), none, none⟩,
  ⟨none, .e (.store none (.tmp 30) (.tmp 26)), none, none⟩])
  (.region [⟨some 31, .p (.mv (.tmp 2)), none, none⟩,
  ⟨some 32, .e (.call (.func 99) [.tmp 31]), none, none⟩,
  ⟨some 2, .p (.mv (.tmp 32)), none, none⟩])))))
  (.region [⟨some 33, .p (.bin .add (.tmp 4) (.const (.int .i64 1))), none, none⟩,
  ⟨some 4, .p (.mv (.tmp 33)), none, none⟩])))))))
noncomputable def e_field_Field_make (k : Nat) (D : CallF) : Ent := entOf 86 [(0, .p)] [] (field_Field_make k D)
theorem q_field_Field_make : (Try.f86.body).bind (rcodeOf Try.prog 0 Try.f86.ntmps) = some (strip r_field_Field_make) := by kernel_rfl
theorem t_field_Field_make (k : Nat) (D : CallF) : curF [(0, .p)] (fun args h => denF (C_field_Field_make k D) k r_field_Field_make [] [] args h) = field_Field_make k D := by kernel_rfl
theorem ok_field_Field_make {D : CallF} (hD : CSound Try.prog 0 D) (k : Nat) : EntOk Try.prog 0 (e_field_Field_make k D) :=
  entOf_ok2 (mkC_sound hD (EntsOk.more (ok_field_double hD k) (EntsOk.none))) Try.func86 rfl q_field_Field_make rfl (t_field_Field_make k D)
end Gb
namespace Gb
open Go Gx Go.Proofs
set_option maxRecDepth 100000
end Gb
namespace Gb
open Go Gx Go.Proofs
set_option maxRecDepth 100000
end Gb
namespace Gb
open Go Gx Go.Proofs
set_option maxRecDepth 100000
end Gb
namespace Gb
open Go Gx Go.Proofs
set_option maxRecDepth 100000
end Gb
namespace Gb
open Go Gx Go.Proofs
set_option maxRecDepth 100000
end Gb
namespace Gb
open Go Gx Go.Proofs
set_option maxRecDepth 100000
end Gb
namespace Gb
open Go Gx Go.Proofs
set_option maxRecDepth 100000
noncomputable def C_ref05_Size (_k : Nat) (D : CallF) : CallF := mkC D []
noncomputable def ref05_Size (_k : Nat) (_D : CallF) (k_0 : Int) (long_1 : Int) (h : AHeap) : Option ((Int) × AHeap) :=
  (if k_0 = 0 then none else
  let t1 : Int := (IntKind.wrap .i64 (Int.tdiv (IntKind.wrap .i64 ((IntKind.wrap .i64 (long_1 + k_0)) - 1)) k_0))
  some (t1, h))
def r_ref05_Size : RCode := .seq (.region [⟨some 4, .p (.mv (.const (.int .i64 0))), none, none⟩])
  (.seq (.region [⟨some 5, .p (.mv (.tmp 1)), none, none⟩,
  ⟨some 6, .p (.mv (.tmp 0)), none, none⟩,
  ⟨some 7, .p (.bin .add (.tmp 5) (.tmp 6)), none, none⟩,
  ⟨some 8, .p (.bin .sub (.tmp 7) (.const (.int .i64 1))), none, none⟩,
  ⟨some 9, .p (.mv (.tmp 0)), none, none⟩,
  ⟨some 10, .p (.bin .quo (.tmp 8) (.tmp 9)), none, none⟩,
  ⟨some 4, .p (.mv (.tmp 10)), none, none⟩])
  (.ret))
noncomputable def e_ref05_Size (k : Nat) (D : CallF) : Ent := entOf 44 [(0, .i .i64), (1, .i .i64)] [(4, .i .i64)] (ref05_Size k D)
theorem q_ref05_Size : (Try.f44.body).bind (rcodeOf Try.prog 0 Try.f44.ntmps) = some (strip r_ref05_Size) := by kernel_rfl
theorem t_ref05_Size (k : Nat) (D : CallF) : curF [(0, .i .i64), (1, .i .i64)] (fun args h => denF (C_ref05_Size k D) k r_ref05_Size [(4, .i .i64)] [none] args h) = ref05_Size k D := by kernel_rfl
theorem ok_ref05_Size {D : CallF} (hD : CSound Try.prog 0 D) (k : Nat) : EntOk Try.prog 0 (e_ref05_Size k D) :=
  entOf_ok2 (mkC_sound hD (EntsOk.none)) Try.func44 rfl q_ref05_Size rfl (t_ref05_Size k D)
end Gb
namespace Gb
open Go Gx Go.Proofs
set_option maxRecDepth 100000
end Gb
namespace Gb
open Go Gx Go.Proofs
set_option maxRecDepth 100000
end Gb
namespace Gb
open Go Gx Go.Proofs
set_option maxRecDepth 100000
end Gb
namespace Gb
open Go Gx Go.Proofs
set_option maxRecDepth 100000
end Gb
namespace Gb
open Go Gx Go.Proofs
set_option maxRecDepth 100000
end Gb
namespace Gb
open Go Gx Go.Proofs
set_option maxRecDepth 100000
end Gb
namespace Gb
open Go Gx Go.Proofs
set_option maxRecDepth 100000
end Gb
namespace Gb
open Go Gx Go.Proofs
set_option maxRecDepth 100000
end Gb
namespace Gb
open Go Gx Go.Proofs
set_option maxRecDepth 100000
end Gb
namespace Gb
open Go Gx Go.Proofs
set_option maxRecDepth 100000
end Gb
namespace Gb
open Go Gx Go.Proofs
set_option maxRecDepth 100000
end Gb
namespace Gb
open Go Gx Go.Proofs
set_option maxRecDepth 100000
end Gb
namespace Gb
open Go Gx Go.Proofs
set_option maxRecDepth 100000
end Gb
namespace Gb
open Go Gx Go.Proofs
set_option maxRecDepth 100000
end Gb
namespace Gb
open Go Gx Go.Proofs
set_option maxRecDepth 100000
end Gb
namespace Gb
open Go Gx Go.Proofs
set_option maxRecDepth 100000
end Gb
namespace Gb
open Go Gx Go.Proofs
set_option maxRecDepth 100000
noncomputable def C_stripe_New (k : Nat) (D : CallF) : CallF := mkC D [e_matrix_New k D, e_matrix_Space_Cauchy k D, e_field_New k D]
noncomputable def stripe_New (k : Nat) (D : CallF) (k_0 : Int) (m_1 : Int) (h : AHeap) : Option (((Option Addr) × Int) × AHeap) :=
  (matrix_New k D h).bind fun r1 =>
  (matrix_Space_Cauchy k D r1.1 k_0 m_1 r1.2).bind fun r2 =>
  let h3 := AHeap.new r2.2 (.cells [.int .i64 0, .int .i64 0, .slice none 0 0] 84 true 0)
  (stL 3 (⟨r2.2.next, 0, none⟩ : Addr) ([.int .i64 r2.1.1.1, .int .i64 r2.1.1.2.1, .slice r2.1.1.2.2.a r2.1.1.2.2.len r2.1.1.2.2.cap]) h3).bind fun h4 =>
  (if (r2.1.2 != 0) = true then
  some ((none, r2.1.2), h4)
  else
  (field_New k D h4).bind fun r5 =>
  (ldA 3 (⟨r2.2.next, 0, none⟩ : Addr) r5.2).bind fun l6 =>
  guardP (SameW [h4] (fun H8 => (ldA 3 (⟨r2.2.next, 0, none⟩ : Addr) H8).bind fun y7 => some (.agg ⟨y7⟩)) (.agg ⟨l6⟩)) (
  (decC [.i .i64, .i .i64, .l] l6).bind fun x9 =>
  let h10 := AHeap.new r5.2 (.cells [.int .i64 k_0, .int .i64 m_1, .pointer r5.1, .pointer r1.1, .int .i64 x9.1, .int .i64 x9.2.1, .slice x9.2.2.a x9.2.2.len x9.2.2.cap] 90 true 0)
  some (((some (⟨r5.2.next, 0, none⟩ : Addr)), 0), h10)))
def r_stripe_New : RCode := .seq (.region [⟨some 4, .p (.mv (.const (.pointer none))), none, none⟩,
  ⟨some 5, .p (.mv (.const (.int .i64 0))), none, none⟩])
  (.seq (.region [⟨some 9, .e (.call (.func 45) []), none, none⟩,
  ⟨some 6, .p (.mv (.tmp 9)), none, none⟩])
  (.seq (.region [⟨some 11, .p (.mv (.tmp 6)), none, none⟩,
  ⟨some 12, .p (.mv (.tmp 0)), none, none⟩,
  ⟨some 13, .p (.mv (.tmp 1)), none, none⟩,
  ⟨some 14, .e (.call (.func 46) [.tmp 11, .tmp 12, .tmp 13]), none, none⟩,
  ⟨some 10, .p (.mv (.tmp 14)), none, none⟩,
  ⟨some 15, .p (.extract (.tmp 10) 0), none, none⟩,
  ⟨some 16, .p (.extract (.tmp 10) 1), none, none⟩,
  ⟨some 7, .a (.alloc 84 [.int .i64 0, .int .i64 0, .slice none 0 0]), none, none⟩,
  ⟨none, .e (.store (some 3) (.tmp 7) (.tmp 15)), none, none⟩,
  ⟨some 8, .p (.mv (.tmp 16)), none, none⟩])
  (.seq (.seq (.region [⟨some 17, .p (.mv (.tmp 8)), none, none⟩,
  ⟨some 18, .p (.bin .neq (.tmp 17) (.const (.int .i64 0))), none, none⟩])
  (.cond (.tmp 18) (.seq (.region [⟨some 19, .p (.mv (.tmp 8)), none, none⟩,
  ⟨some 4, .p (.mv (.const (.pointer none))), none, none⟩,
  ⟨some 5, .p (.mv (.tmp 19)), none, none⟩])
  (.ret)) (.skip)))
  (.seq (.draw [⟨2, ⟨some 22, .e (.call (.func 47) []), none, none⟩, [], 0⟩,
  ⟨0, ⟨some 20, .p (.mv (.tmp 0)), none, none⟩, [0], 1⟩,
  ⟨1, ⟨some 21, .p (.mv (.tmp 1)), none, none⟩, [1], 1⟩,
  ⟨3, ⟨some 23, .p (.mv (.tmp 6)), none, none⟩, [6], 1⟩,
  ⟨4, ⟨some 24, .l (.load (.agg 3) (.tmp 7)), none, some (.st [.i .i64, .i .i64, .l])⟩, [7], 1⟩,
  ⟨5, ⟨some 25, .p (.build [.int .i64 0, .int .i64 0, .pointer none, .pointer none, .int .i64 0, .int .i64 0, .slice none 0 0] [(0, 1, .tmp 20), (1, 1, .tmp 21), (2, 1, .tmp 22), (3, 1, .tmp 23), (4, 3, .tmp 24)]), none, none⟩, [20, 21, 22, 23, 24], 0⟩,
  ⟨6, ⟨some 26, .a (.box 90 (.tmp 25)), none, none⟩, [25], 0⟩,
  ⟨7, ⟨some 4, .p (.mv (.tmp 26)), none, none⟩, [26], 0⟩,
  ⟨8, ⟨some 5, .p (.mv (.const (.int .i64 0))), none, none⟩, [], 0⟩])
  (.ret)))))
noncomputable def e_stripe_New (k : Nat) (D : CallF) : Ent := entOf 21 [(0, .i .i64), (1, .i .i64)] [(4, .p), (5, .i .i64)] (stripe_New k D)
theorem q_stripe_New : (Try.f21.body).bind (rcodeOf Try.prog 0 Try.f21.ntmps) = some (strip r_stripe_New) := by kernel_rfl
theorem t_stripe_New (k : Nat) (D : CallF) : curF [(0, .i .i64), (1, .i .i64)] (fun args h => denF (C_stripe_New k D) k r_stripe_New [(4, .p), (5, .i .i64)] [none, none] args h) = stripe_New k D := by kernel_rfl
theorem ok_stripe_New {D : CallF} (hD : CSound Try.prog 0 D) (k : Nat) : EntOk Try.prog 0 (e_stripe_New k D) :=
  entOf_ok2 (mkC_sound hD (EntsOk.more (ok_matrix_New hD k) (EntsOk.more (ok_matrix_Space_Cauchy hD k) (EntsOk.more (ok_field_New hD k) (EntsOk.none))))) Try.func21 rfl q_stripe_New rfl (t_stripe_New k D)
end Gb
namespace Gb
open Go Gx Go.Proofs
set_option maxRecDepth 100000
noncomputable def C_ref05_New (k : Nat) (D : CallF) : CallF := mkC D [e_ref04_Cauchy k D]
noncomputable def ref05_New (k : Nat) (D : CallF) (k_0 : Int) (m_1 : Int) (h : AHeap) : Option (((Option Addr) × Int) × AHeap) :=
  (ref04_Cauchy k D k_0 m_1 h).bind fun r1 =>
  let h2 := AHeap.new r1.2 (.cells [.int .i64 0, .int .i64 0, .slice none 0 0] 94 true 0)
  (stL 3 (⟨r1.2.next, 0, none⟩ : Addr) ([.int .i64 r1.1.1.1, .int .i64 r1.1.1.2.1, .slice r1.1.1.2.2.a r1.1.1.2.2.len r1.1.1.2.2.cap]) h2).bind fun h3 =>
  (if (r1.1.2 != 0) = true then
  some ((none, r1.1.2), h3)
  else
  (ldA 3 (⟨r1.2.next, 0, none⟩ : Addr) h3).bind fun l4 =>
  (decC [.i .i64, .i .i64, .l] l4).bind fun x5 =>
  let h6 := AHeap.new h3 (.cells [.int .i64 k_0, .int .i64 m_1, .int .i64 x5.1, .int .i64 x5.2.1, .slice x5.2.2.a x5.2.2.len x5.2.2.cap] 98 true 0)
  some (((some (⟨h3.next, 0, none⟩ : Addr)), 0), h6))
def r_ref05_New : RCode := .seq (.region [⟨some 4, .p (.mv (.const (.pointer none))), none, none⟩,
  ⟨some 5, .p (.mv (.const (.int .i64 0))), none, none⟩])
  (.seq (.region [⟨some 9, .p (.mv (.tmp 0)), none, none⟩,
  ⟨some 10, .p (.mv (.tmp 1)), none, none⟩,
  ⟨some 11, .e (.call (.func 51) [.tmp 9, .tmp 10]), none, none⟩,
  ⟨some 8, .p (.mv (.tmp 11)), none, none⟩,
  ⟨some 12, .p (.extract (.tmp 8) 0), none, none⟩,
  ⟨some 13, .p (.extract (.tmp 8) 1), none, none⟩,
  ⟨some 6, .a (.alloc 94 [.int .i64 0, .int .i64 0, .slice none 0 0]), none, none⟩,
  ⟨none, .e (.store (some 3) (.tmp 6) (.tmp 12)), none, none⟩,
  ⟨some 7, .p (.mv (.tmp 13)), none, none⟩])
  (.seq (.seq (.region [⟨some 14, .p (.mv (.tmp 7)), none, none⟩,
  ⟨some 15, .p (.bin .neq (.tmp 14) (.const (.int .i64 0))), none, none⟩])
  (.cond (.tmp 15) (.seq (.region [⟨some 16, .p (.mv (.tmp 7)), none, none⟩,
  ⟨some 4, .p (.mv (.const (.pointer none))), none, none⟩,
  ⟨some 5, .p (.mv (.tmp 16)), none, none⟩])
  (.ret)) (.skip)))
  (.seq (.region [⟨some 17, .p (.mv (.tmp 0)), none, none⟩,
  ⟨some 18, .p (.mv (.tmp 1)), none, none⟩,
  ⟨some 19, .l (.load (.agg 3) (.tmp 6)), none, some (.st [.i .i64, .i .i64, .l])⟩,
  ⟨some 20, .p (.build [.int .i64 0, .int .i64 0, .int .i64 0, .int .i64 0, .slice none 0 0] [(0, 1, .tmp 17), (1, 1, .tmp 18), (2, 3, .tmp 19)]), none, none⟩,
  ⟨some 21, .a (.box 98 (.tmp 20)), none, none⟩,
  ⟨some 4, .p (.mv (.tmp 21)), none, none⟩,
  ⟨some 5, .p (.mv (.const (.int .i64 0))), none, none⟩])
  (.ret))))
noncomputable def e_ref05_New (k : Nat) (D : CallF) : Ent := entOf 24 [(0, .i .i64), (1, .i .i64)] [(4, .p), (5, .i .i64)] (ref05_New k D)
theorem q_ref05_New : (Try.f24.body).bind (rcodeOf Try.prog 0 Try.f24.ntmps) = some (strip r_ref05_New) := by kernel_rfl
theorem t_ref05_New (k : Nat) (D : CallF) : curF [(0, .i .i64), (1, .i .i64)] (fun args h => denF (C_ref05_New k D) k r_ref05_New [(4, .p), (5, .i .i64)] [none, none] args h) = ref05_New k D := by kernel_rfl
theorem ok_ref05_New {D : CallF} (hD : CSound Try.prog 0 D) (k : Nat) : EntOk Try.prog 0 (e_ref05_New k D) :=
  entOf_ok2 (mkC_sound hD (EntsOk.more (ok_ref04_Cauchy hD k) (EntsOk.none))) Try.func24 rfl q_ref05_New rfl (t_ref05_New k D)
end Gb
namespace Gb
open Go Gx Go.Proofs
set_option maxRecDepth 100000
noncomputable def C_stripe_Plan_Shape (_k : Nat) (D : CallF) : CallF := mkC D []
noncomputable def stripe_Plan_Shape (_k : Nat) (_D : CallF) (p_0 : Option Addr) (h : AHeap) : Option ((Int × Int) × AHeap) :=
  (p_0).bind fun p1 =>
  (ldI .i64 (⟨p1.block, p1.off + 0, none⟩ : Addr) h).bind fun x2 =>
  (p_0).bind fun p3 =>
  (ldI .i64 (⟨p3.block, p3.off + 1, none⟩ : Addr) h).bind fun x4 =>
  some ((x2, x4), h)
def r_stripe_Plan_Shape : RCode := .seq (.region [⟨some 2, .p (.mv (.const (.int .i64 0))), none, none⟩,
  ⟨some 3, .p (.mv (.const (.int .i64 0))), none, none⟩])
  (.seq (.draw [⟨0, ⟨some 4, .p (.mv (.tmp 0)), none, none⟩, [0], 0⟩,
  ⟨1, ⟨some 5, .p (.nilP (.tmp 4)), none, none⟩, [4], 0⟩,
  ⟨2, ⟨some 6, .p (.fieldAddr 0 (.tmp 5)), none, none⟩, [5], 0⟩,
  ⟨3, ⟨some 7, .l (.load (.i .i64) (.tmp 6)), none, none⟩, [6], 0⟩,
  ⟨4, ⟨some 8, .p (.mv (.tmp 0)), none, none⟩, [0], 0⟩,
  ⟨5, ⟨some 9, .p (.nilP (.tmp 8)), none, none⟩, [8], 0⟩,
  ⟨6, ⟨some 10, .p (.fieldAddr 1 (.tmp 9)), none, none⟩, [9], 0⟩,
  ⟨7, ⟨some 11, .l (.load (.i .i64) (.tmp 10)), none, none⟩, [10], 0⟩,
  ⟨8, ⟨some 2, .p (.mv (.tmp 7)), none, none⟩, [7], 0⟩,
  ⟨9, ⟨some 3, .p (.mv (.tmp 11)), none, none⟩, [11], 0⟩])
  (.ret))
noncomputable def e_stripe_Plan_Shape (k : Nat) (D : CallF) : Ent := entOf 25 [(0, .p)] [(2, .i .i64), (3, .i .i64)] (stripe_Plan_Shape k D)
theorem q_stripe_Plan_Shape : (Try.f25.body).bind (rcodeOf Try.prog 0 Try.f25.ntmps) = some (strip r_stripe_Plan_Shape) := by kernel_rfl
theorem t_stripe_Plan_Shape (k : Nat) (D : CallF) : curF [(0, .p)] (fun args h => denF (C_stripe_Plan_Shape k D) k r_stripe_Plan_Shape [(2, .i .i64), (3, .i .i64)] [none, none] args h) = stripe_Plan_Shape k D := by kernel_rfl
theorem ok_stripe_Plan_Shape {D : CallF} (hD : CSound Try.prog 0 D) (k : Nat) : EntOk Try.prog 0 (e_stripe_Plan_Shape k D) :=
  entOf_ok2 (mkC_sound hD (EntsOk.none)) Try.func25 rfl q_stripe_Plan_Shape rfl (t_stripe_Plan_Shape k D)
end Gb
namespace Gb
open Go Gx Go.Proofs
set_option maxRecDepth 100000
noncomputable def C_stripe_Plan_Each (_k : Nat) (D : CallF) : CallF := mkC D []
noncomputable def stripe_Plan_Each (_k : Nat) (_D : CallF) (p_0 : Option Addr) (long_1 : Int) (h : AHeap) : Option ((Int × Int) × AHeap) :=
  joinK (fun (p1 : Option Addr) (long2 : Int) (y3 : Bool) (h4 : AHeap) =>
  (if y3 = true then
  some ((0, 1), h4)
  else
  (p1).bind fun p6 =>
  (ldI .i64 (⟨p6.block, p6.off + 0, none⟩ : Addr) h4).bind fun x7 =>
  (p1).bind fun p8 =>
  (ldI .i64 (⟨p8.block, p8.off + 0, none⟩ : Addr) h4).bind fun x9 =>
  (if x9 = 0 then none else
  let t10 : Int := (IntKind.wrap .i64 (Int.tdiv (IntKind.wrap .i64 ((IntKind.wrap .i64 (long2 + x7)) - 1)) x9))
  some ((t10, 0), h4)))) fun j5 =>
  (if (decide (long_1 < 0)) = true then
  j5 p_0 long_1 true h
  else
  j5 p_0 long_1 (decide (long_1 > 65536)) h)
def r_stripe_Plan_Each : RCode := .seq (.region [⟨some 4, .p (.mv (.const (.int .i64 0))), none, none⟩,
  ⟨some 5, .p (.mv (.const (.int .i64 0))), none, none⟩])
  (.seq (.seq (.join [(0, .p), (1, .i .i64), (11, .b)] (.region [⟨some 6, .p (.mv (.tmp 1)), none, none⟩,
  ⟨some 7, .p (.bin .lss (.tmp 6) (.const (.int .i64 0))), none, none⟩,
  ⟨some 8, .p (.mv (.tmp 7)), none, none⟩,
  ⟨some 9, .p (.mv (.tmp 1)), (some (8, false)), none⟩,
  ⟨some 10, .p (.bin .gtr (.tmp 9) (.const (.int .i64 65536))), (some (8, false)), none⟩,
  ⟨some 11, .p (.pick (.tmp 8) (.const (.bool true)) (.tmp 10)), none, none⟩]))
  (.cond (.tmp 11) (.seq (.region [⟨some 4, .p (.mv (.const (.int .i64 0))), none, none⟩,
  ⟨some 5, .p (.mv (.const (.int .i64 1))), none, none⟩])
  (.ret)) (.skip)))
  (.seq (.draw [⟨0, ⟨some 12, .p (.mv (.tmp 1)), none, none⟩, [1], 0⟩,
  ⟨1, ⟨some 13, .p (.mv (.tmp 0)), none, none⟩, [0], 0⟩,
  ⟨2, ⟨some 14, .p (.nilP (.tmp 13)), none, none⟩, [13], 0⟩,
  ⟨3, ⟨some 15, .p (.fieldAddr 0 (.tmp 14)), none, none⟩, [14], 0⟩,
  ⟨4, ⟨some 16, .l (.load (.i .i64) (.tmp 15)), none, none⟩, [15], 0⟩,
  ⟨5, ⟨some 17, .p (.bin .add (.tmp 12) (.tmp 16)), none, none⟩, [12, 16], 0⟩,
  ⟨6, ⟨some 18, .p (.bin .sub (.tmp 17) (.const (.int .i64 1))), none, none⟩, [17], 0⟩,
  ⟨7, ⟨some 19, .p (.mv (.tmp 0)), none, none⟩, [0], 0⟩,
  ⟨8, ⟨some 20, .p (.nilP (.tmp 19)), none, none⟩, [19], 0⟩,
  ⟨9, ⟨some 21, .p (.fieldAddr 0 (.tmp 20)), none, none⟩, [20], 0⟩,
  ⟨10, ⟨some 22, .l (.load (.i .i64) (.tmp 21)), none, none⟩, [21], 0⟩,
  ⟨11, ⟨some 23, .p (.bin .quo (.tmp 18) (.tmp 22)), none, none⟩, [18, 22], 0⟩,
  ⟨12, ⟨some 4, .p (.mv (.tmp 23)), none, none⟩, [23], 0⟩,
  ⟨13, ⟨some 5, .p (.mv (.const (.int .i64 0))), none, none⟩, [], 0⟩])
  (.ret)))
noncomputable def e_stripe_Plan_Each (k : Nat) (D : CallF) : Ent := entOf 26 [(0, .p), (1, .i .i64)] [(4, .i .i64), (5, .i .i64)] (stripe_Plan_Each k D)
theorem q_stripe_Plan_Each : (Try.f26.body).bind (rcodeOf Try.prog 0 Try.f26.ntmps) = some (strip r_stripe_Plan_Each) := by kernel_rfl
theorem t_stripe_Plan_Each (k : Nat) (D : CallF) : curF [(0, .p), (1, .i .i64)] (fun args h => denF (C_stripe_Plan_Each k D) k r_stripe_Plan_Each [(4, .i .i64), (5, .i .i64)] [none, none] args h) = stripe_Plan_Each k D := by kernel_rfl
theorem ok_stripe_Plan_Each {D : CallF} (hD : CSound Try.prog 0 D) (k : Nat) : EntOk Try.prog 0 (e_stripe_Plan_Each k D) :=
  entOf_ok2 (mkC_sound hD (EntsOk.none)) Try.func26 rfl q_stripe_Plan_Each rfl (t_stripe_Plan_Each k D)
end Gb
namespace Gb
open Go Gx Go.Proofs
set_option maxRecDepth 100000
noncomputable def C_ref05_Plan_Each (k : Nat) (D : CallF) : CallF := mkC D [e_ref05_Size k D]
noncomputable def ref05_Plan_Each (k : Nat) (D : CallF) (p_0 : Option Addr) (long_1 : Int) (h : AHeap) : Option ((Int × Int) × AHeap) :=
  joinK (fun (p1 : Option Addr) (long2 : Int) (y3 : Bool) (h4 : AHeap) =>
  (if y3 = true then
  some ((0, 1), h4)
  else
  (p1).bind fun p6 =>
  (ldI .i64 (⟨p6.block, p6.off + 0, none⟩ : Addr) h4).bind fun x7 =>
  (ref05_Size k D x7 long2 h4).bind fun r8 =>
  some ((r8.1, 0), r8.2))) fun j5 =>
  (if (decide (long_1 < 0)) = true then
  j5 p_0 long_1 true h
  else
  j5 p_0 long_1 (decide (long_1 > 65536)) h)
def r_ref05_Plan_Each : RCode := .seq (.region [⟨some 4, .p (.mv (.const (.int .i64 0))), none, none⟩,
  ⟨some 5, .p (.mv (.const (.int .i64 0))), none, none⟩])
  (.seq (.seq (.join [(0, .p), (1, .i .i64), (11, .b)] (.region [⟨some 6, .p (.mv (.tmp 1)), none, none⟩,
  ⟨some 7, .p (.bin .lss (.tmp 6) (.const (.int .i64 0))), none, none⟩,
  ⟨some 8, .p (.mv (.tmp 7)), none, none⟩,
  ⟨some 9, .p (.mv (.tmp 1)), (some (8, false)), none⟩,
  ⟨some 10, .p (.bin .gtr (.tmp 9) (.const (.int .i64 65536))), (some (8, false)), none⟩,
  ⟨some 11, .p (.pick (.tmp 8) (.const (.bool true)) (.tmp 10)), none, none⟩]))
  (.cond (.tmp 11) (.seq (.region [⟨some 4, .p (.mv (.const (.int .i64 0))), none, none⟩,
  ⟨some 5, .p (.mv (.const (.int .i64 1))), none, none⟩])
  (.ret)) (.skip)))
  (.seq (.region [⟨some 12, .p (.mv (.tmp 0)), none, none⟩,
  ⟨some 13, .p (.nilP (.tmp 12)), none, none⟩,
  ⟨some 14, .p (.fieldAddr 0 (.tmp 13)), none, none⟩,
  ⟨some 15, .l (.load (.i .i64) (.tmp 14)), none, none⟩,
  ⟨some 16, .p (.mv (.tmp 1)), none, none⟩,
  ⟨some 17, .e (.call (.func 44) [.tmp 15, .tmp 16]), none, none⟩,
  ⟨some 4, .p (.mv (.tmp 17)), none, none⟩,
  ⟨some 5, .p (.mv (.const (.int .i64 0))), none, none⟩])
  (.ret)))
noncomputable def e_ref05_Plan_Each (k : Nat) (D : CallF) : Ent := entOf 27 [(0, .p), (1, .i .i64)] [(4, .i .i64), (5, .i .i64)] (ref05_Plan_Each k D)
theorem q_ref05_Plan_Each : (Try.f27.body).bind (rcodeOf Try.prog 0 Try.f27.ntmps) = some (strip r_ref05_Plan_Each) := by kernel_rfl
theorem t_ref05_Plan_Each (k : Nat) (D : CallF) : curF [(0, .p), (1, .i .i64)] (fun args h => denF (C_ref05_Plan_Each k D) k r_ref05_Plan_Each [(4, .i .i64), (5, .i .i64)] [none, none] args h) = ref05_Plan_Each k D := by kernel_rfl
theorem ok_ref05_Plan_Each {D : CallF} (hD : CSound Try.prog 0 D) (k : Nat) : EntOk Try.prog 0 (e_ref05_Plan_Each k D) :=
  entOf_ok2 (mkC_sound hD (EntsOk.more (ok_ref05_Size hD k) (EntsOk.none))) Try.func27 rfl q_ref05_Plan_Each rfl (t_ref05_Plan_Each k D)
end Gb
namespace Gb
open Go Gx Go.Proofs
set_option maxRecDepth 100000
noncomputable def C_stripe_Plan_row (_k : Nat) (D : CallF) : CallF := mkC D []
noncomputable def stripe_Plan_row (_k : Nat) (_D : CallF) (p_0 : Option Addr) (a_1 : Int × Int × Slc) (i_2 : Int) (h : AHeap) : Option ((Slc) × AHeap) :=
  let h1 := AHeap.new h (.cells [.int .i64 a_1.1, .int .i64 a_1.2.1, .slice a_1.2.2.a a_1.2.2.len a_1.2.2.cap] 84 true 0)
  (ldL (⟨h.next, 2, none⟩ : Addr) h1).bind fun x2 =>
  (p_0).bind fun p3 =>
  (ldI .i64 (⟨p3.block, p3.off + 0, none⟩ : Addr) h1).bind fun x4 =>
  (p_0).bind fun p5 =>
  (ldI .i64 (⟨p5.block, p5.off + 0, none⟩ : Addr) h1).bind fun x6 =>
  (Gx.subL 1 x2 (some (IntKind.wrap .i64 (i_2 * x4))) (some (IntKind.wrap .i64 ((IntKind.wrap .i64 (i_2 + 1)) * x6))) none).bind fun l7 =>
  some (l7, h1)
def r_stripe_Plan_row : RCode := .seq (.region [⟨some 4, .a (.box 84 (.tmp 1)), none, none⟩,
  ⟨some 6, .p (.mv (.const (.slice none 0 0))), none, none⟩])
  (.seq (.draw [⟨0, ⟨some 7, .p (.fieldAddr 2 (.tmp 4)), none, none⟩, [4], 0⟩,
  ⟨1, ⟨some 8, .l (.load (.l) (.tmp 7)), none, none⟩, [7], 0⟩,
  ⟨2, ⟨some 9, .p (.mv (.tmp 2)), none, none⟩, [2], 0⟩,
  ⟨3, ⟨some 10, .p (.mv (.tmp 0)), none, none⟩, [0], 0⟩,
  ⟨4, ⟨some 11, .p (.nilP (.tmp 10)), none, none⟩, [10], 0⟩,
  ⟨5, ⟨some 12, .p (.fieldAddr 0 (.tmp 11)), none, none⟩, [11], 0⟩,
  ⟨6, ⟨some 13, .l (.load (.i .i64) (.tmp 12)), none, none⟩, [12], 0⟩,
  ⟨7, ⟨some 14, .p (.bin .mul (.tmp 9) (.tmp 13)), none, none⟩, [9, 13], 0⟩,
  ⟨8, ⟨some 15, .p (.mv (.tmp 2)), none, none⟩, [2], 0⟩,
  ⟨9, ⟨some 16, .p (.bin .add (.tmp 15) (.const (.int .i64 1))), none, none⟩, [15], 0⟩,
  ⟨10, ⟨some 17, .p (.mv (.tmp 0)), none, none⟩, [0], 0⟩,
  ⟨11, ⟨some 18, .p (.nilP (.tmp 17)), none, none⟩, [17], 0⟩,
  ⟨12, ⟨some 19, .p (.fieldAddr 0 (.tmp 18)), none, none⟩, [18], 0⟩,
  ⟨13, ⟨some 20, .l (.load (.i .i64) (.tmp 19)), none, none⟩, [19], 0⟩,
  ⟨14, ⟨some 21, .p (.bin .mul (.tmp 16) (.tmp 20)), none, none⟩, [16, 20], 0⟩,
  ⟨15, ⟨some 22, .p (.subL 1 (.tmp 8) (some (.tmp 14)) (some (.tmp 21)) none), none, none⟩, [8, 14, 21], 0⟩,
  ⟨16, ⟨some 6, .p (.mv (.tmp 22)), none, none⟩, [22], 0⟩])
  (.ret))
noncomputable def e_stripe_Plan_row (k : Nat) (D : CallF) : Ent := entOf 50 [(0, .p), (1, .st [.i .i64, .i .i64, .l]), (2, .i .i64)] [(6, .l)] (stripe_Plan_row k D)
theorem q_stripe_Plan_row : (Try.f50.body).bind (rcodeOf Try.prog 0 Try.f50.ntmps) = some (strip r_stripe_Plan_row) := by kernel_rfl
theorem t_stripe_Plan_row (k : Nat) (D : CallF) : curF [(0, .p), (1, .st [.i .i64, .i .i64, .l]), (2, .i .i64)] (fun args h => denF (C_stripe_Plan_row k D) k r_stripe_Plan_row [(6, .l)] [none] args h) = stripe_Plan_row k D := by kernel_rfl
theorem ok_stripe_Plan_row {D : CallF} (hD : CSound Try.prog 0 D) (k : Nat) : EntOk Try.prog 0 (e_stripe_Plan_row k D) :=
  entOf_ok2 (mkC_sound hD (EntsOk.none)) Try.func50 rfl q_stripe_Plan_row rfl (t_stripe_Plan_row k D)
end Gb
namespace Gb
open Go Gx Go.Proofs
set_option maxRecDepth 100000
noncomputable def C_ref05_Plan_row (_k : Nat) (D : CallF) : CallF := mkC D []
noncomputable def ref05_Plan_row (_k : Nat) (_D : CallF) (p_0 : Option Addr) (i_1 : Int) (h : AHeap) : Option ((Slc) × AHeap) :=
  (p_0).bind fun p1 =>
  (ldL (⟨p1.block, p1.off + 2 + 2, none⟩ : Addr) h).bind fun x2 =>
  (p_0).bind fun p3 =>
  (ldI .i64 (⟨p3.block, p3.off + 0, none⟩ : Addr) h).bind fun x4 =>
  (p_0).bind fun p5 =>
  (ldI .i64 (⟨p5.block, p5.off + 0, none⟩ : Addr) h).bind fun x6 =>
  (Gx.subL 1 x2 (some (IntKind.wrap .i64 (i_1 * x4))) (some (IntKind.wrap .i64 ((IntKind.wrap .i64 (i_1 + 1)) * x6))) none).bind fun l7 =>
  some (l7, h)
def r_ref05_Plan_row : RCode := .seq (.region [⟨some 4, .p (.mv (.const (.slice none 0 0))), none, none⟩])
  (.seq (.draw [⟨0, ⟨some 5, .p (.mv (.tmp 0)), none, none⟩, [0], 0⟩,
  ⟨1, ⟨some 6, .p (.nilP (.tmp 5)), none, none⟩, [5], 0⟩,
  ⟨2, ⟨some 7, .p (.fieldAddr 2 (.tmp 6)), none, none⟩, [6], 0⟩,
  ⟨3, ⟨some 8, .p (.fieldAddr 2 (.tmp 7)), none, none⟩, [7], 0⟩,
  ⟨4, ⟨some 9, .l (.load (.l) (.tmp 8)), none, none⟩, [8], 0⟩,
  ⟨5, ⟨some 10, .p (.mv (.tmp 1)), none, none⟩, [1], 0⟩,
  ⟨6, ⟨some 11, .p (.mv (.tmp 0)), none, none⟩, [0], 0⟩,
  ⟨7, ⟨some 12, .p (.nilP (.tmp 11)), none, none⟩, [11], 0⟩,
  ⟨8, ⟨some 13, .p (.fieldAddr 0 (.tmp 12)), none, none⟩, [12], 0⟩,
  ⟨9, ⟨some 14, .l (.load (.i .i64) (.tmp 13)), none, none⟩, [13], 0⟩,
  ⟨10, ⟨some 15, .p (.bin .mul (.tmp 10) (.tmp 14)), none, none⟩, [10, 14], 0⟩,
  ⟨11, ⟨some 16, .p (.mv (.tmp 1)), none, none⟩, [1], 0⟩,
  ⟨12, ⟨some 17, .p (.bin .add (.tmp 16) (.const (.int .i64 1))), none, none⟩, [16], 0⟩,
  ⟨13, ⟨some 18, .p (.mv (.tmp 0)), none, none⟩, [0], 0⟩,
  ⟨14, ⟨some 19, .p (.nilP (.tmp 18)), none, none⟩, [18], 0⟩,
  ⟨15, ⟨some 20, .p (.fieldAddr 0 (.tmp 19)), none, none⟩, [19], 0⟩,
  ⟨16, ⟨some 21, .l (.load (.i .i64) (.tmp 20)), none, none⟩, [20], 0⟩,
  ⟨17, ⟨some 22, .p (.bin .mul (.tmp 17) (.tmp 21)), none, none⟩, [17, 21], 0⟩,
  ⟨18, ⟨some 23, .p (.subL 1 (.tmp 9) (some (.tmp 15)) (some (.tmp 22)) none), none, none⟩, [9, 15, 22], 0⟩,
  ⟨19, ⟨some 4, .p (.mv (.tmp 23)), none, none⟩, [23], 0⟩])
  (.ret))
noncomputable def e_ref05_Plan_row (k : Nat) (D : CallF) : Ent := entOf 76 [(0, .p), (1, .i .i64)] [(4, .l)] (ref05_Plan_row k D)
theorem q_ref05_Plan_row : (Try.f76.body).bind (rcodeOf Try.prog 0 Try.f76.ntmps) = some (strip r_ref05_Plan_row) := by kernel_rfl
theorem t_ref05_Plan_row (k : Nat) (D : CallF) : curF [(0, .p), (1, .i .i64)] (fun args h => denF (C_ref05_Plan_row k D) k r_ref05_Plan_row [(4, .l)] [none] args h) = ref05_Plan_row k D := by kernel_rfl
theorem ok_ref05_Plan_row {D : CallF} (hD : CSound Try.prog 0 D) (k : Nat) : EntOk Try.prog 0 (e_ref05_Plan_row k D) :=
  entOf_ok2 (mkC_sound hD (EntsOk.none)) Try.func76 rfl q_ref05_Plan_row rfl (t_ref05_Plan_row k D)
end Gb
namespace Go.Proofs
open Go.Shelf
def Try.lays105_ren : Go.Shelf.Ren := ⟨fun | 105 => 48 | 212 => 63 | 99 => 64 | 165 => 65 | 166 => 66 | 170 => 67 | 169 => 68 | 263 => 80 | 264 => 81 | 206 => 82 | 240 => 83 | 241 => 84 | 276 => 95 | 277 => 96 | n => n, fun | 9 => 9 | 3 => 3 | 4 => 4 | 20 => 20 | 0 => 0 | 46 => 80 | 109 => 132 | 5 => 5 | 72 => 137 | 76 => 141 | 51 => 79 | 146 => 151 | 53 => 153 | 148 => 154 | 70 => 135 | 37 => 46 | 75 => 140 | 127 => 156 | 164 => 163 | 80 => 143 | n => n, fun | n => n⟩
theorem Try.lays105 : Go.Proofs.Lays.n105 Try.prog Try.lays105_ren := {
  mixed := by kernel_rfl
  f99 := Try.func64.trans (congrArg some (by kernel_rfl))
  f105 := Try.func48.trans (congrArg some (by kernel_rfl))
  f165 := Try.func65.trans (congrArg some (by kernel_rfl))
  f166 := Try.func66.trans (congrArg some (by kernel_rfl))
  f169 := Try.func68.trans (congrArg some (by kernel_rfl))
  f170 := Try.func67.trans (congrArg some (by kernel_rfl))
  f206 := Try.func82.trans (congrArg some (by kernel_rfl))
  f212 := Try.func63.trans (congrArg some (by kernel_rfl))
  f240 := Try.func83.trans (congrArg some (by kernel_rfl))
  f241 := Try.func84.trans (congrArg some (by kernel_rfl))
  f263 := Try.func80.trans (congrArg some (by kernel_rfl))
  f264 := Try.func81.trans (congrArg some (by kernel_rfl))
  f276 := Try.func95.trans (congrArg some (by kernel_rfl))
  f277 := Try.func96.trans (congrArg some (by kernel_rfl))
  t0 := Try.underlying0
  a0 := Try.isAgg0
  z0 := Try.sizeOf0
  v0 := Try.zeroValue0
  t3 := Try.underlying3
  a3 := Try.isAgg3
  z3 := Try.sizeOf3
  v3 := Try.zeroValue3
  t4 := Try.underlying4
  a4 := Try.isAgg4
  z4 := Try.sizeOf4
  v4 := Try.zeroValue4
  t5 := Try.underlying5
  a5 := Try.isAgg5
  z5 := Try.sizeOf5
  v5 := Try.zeroValue5
  t9 := Try.underlying9
  a9 := Try.isAgg9
  z9 := Try.sizeOf9
  v9 := Try.zeroValue9
  t20 := Try.underlying20
  a20 := Try.isAgg20
  z20 := Try.sizeOf20
  v20 := Try.zeroValue20
  t37 := Try.underlying46
  a37 := Try.isAgg46
  z37 := Try.sizeOf46
  v37 := Try.zeroValue46
  t46 := Try.underlying80
  a46 := Try.isAgg80
  z46 := Try.sizeOf80
  v46 := Try.zeroValue80
  t51 := Try.underlying79
  a51 := Try.isAgg79
  z51 := Try.sizeOf79
  v51 := Try.zeroValue79
  t53 := Try.underlying153
  a53 := Try.isAgg153
  z53 := Try.sizeOf153
  v53 := Try.zeroValue153
  t70 := Try.underlying135
  a70 := Try.isAgg135
  z70 := Try.sizeOf135
  v70 := Try.zeroValue135
  t72 := Try.underlying137
  a72 := Try.isAgg137
  z72 := Try.sizeOf137
  v72 := Try.zeroValue137
  t75 := Try.underlying140
  a75 := Try.isAgg140
  z75 := Try.sizeOf140
  v75 := Try.zeroValue140
  t76 := Try.underlying141
  a76 := Try.isAgg141
  z76 := Try.sizeOf141
  v76 := Try.zeroValue141
  t109 := Try.underlying132
  a109 := Try.isAgg132
  z109 := Try.sizeOf132
  v109 := Try.zeroValue132
  t127 := Try.underlying156
  a127 := Try.isAgg156
  z127 := Try.sizeOf156
  v127 := Try.zeroValue156
  t146 := Try.underlying151
  a146 := Try.isAgg151
  z146 := Try.sizeOf151
  v146 := Try.zeroValue151
  t148 := Try.underlying154
  a148 := Try.isAgg154
  z148 := Try.sizeOf154
  v148 := Try.zeroValue154
  t164 := Try.underlying163
  a164 := Try.isAgg163
  z164 := Try.sizeOf163
  v164 := Try.zeroValue163 }
theorem Try.Builder_Extra_105 : Builder.Extra Try.prog Try.lays105_ren := {
  sizeBuilder := by kernel_rfl
  liesBuilder := by kernel_rfl
  t5 := Try.underlying5
  a5 := Try.isAgg5
  z5 := Try.sizeOf5
  v5 := Try.zeroValue5
  infoByte := by kernel_rfl
  cellsByte := by kernel_rfl
  sizeByte := by kernel_rfl
  neB5 := by decide }
end Go.Proofs
namespace Gb
open Go Gx Go.Proofs Go.Shelf
noncomputable def e_strings_Repeat (_k : Nat) (_D : CallF) : Ent := eRepeat 48
theorem ok_strings_Repeat {D : CallF} (_hD : CSound Try.prog 0 D) (k : Nat) : EntOk Try.prog 0 (e_strings_Repeat k D) :=
  repeat_ok (c := _) Try.func48 rfl rfl (fun s n w h1 h2 => Any.strings_Repeat Try.lays105 Try.Builder_Extra_105 s n w h1 h2)
end Gb
namespace Gb
open Go Gx Go.Proofs
set_option maxRecDepth 100000
noncomputable def C_stripe_Plan_Split (k : Nat) (D : CallF) : CallF := mkC D [e_stripe_Plan_Each k D, e_strings_Repeat k D, e_stripe_Plan_row k D, e_field_Field_Mix k D]
noncomputable def stripe_Plan_Split_l1b (_k : Nat) (_D : CallF) (j14 : (Option Addr) → Slc → AHeap → Option ((Slc × Int) × AHeap)) (rec55 : (Option Addr) → ByteArray → Int → Slc → Int → Int → AHeap → Option ((Slc × Int) × AHeap)) (p48 : Option Addr) (s49 : ByteArray) (n50 : Int) (out51 : Slc) (y52 : Int) (y53 : Int) (h54 : AHeap) : Option ((Slc × Int) × AHeap) :=
  (if (decide (y53 < y52)) = true then
  (Gx.subS s49 (some (IntKind.wrap .i64 (y53 * n50))) (some (IntKind.wrap .i64 ((IntKind.wrap .i64 (y53 + 1)) * n50)))).bind fun s56 =>
  let h57 := AHeap.new h54 (.cells [.string s56] 9 true 0)
  (rdS 1 (⟨(some ⟨h54.next, 0, some 0⟩), 1, 1⟩ : Slc) h57).bind fun n59 =>
  (appendA 1 16 9 h57 out51 n59 1).bind fun r58 =>
  rec55 p48 s49 n50 r58.1 y52 (IntKind.wrap .i64 (y53 + 1)) r58.2
  else
  j14 p48 out51 h54)
noncomputable def stripe_Plan_Split_l1 (k : Nat) (D : CallF) (j14 : (Option Addr) → Slc → AHeap → Option ((Slc × Int) × AHeap)) : (Option Addr) → ByteArray → Int → Slc → Int → Int → AHeap → Option ((Slc × Int) × AHeap) :=
  iterK (α := (Option Addr) → ByteArray → Int → Slc → Int → Int → AHeap → Option ((Slc × Int) × AHeap)) (fun _ _ _ _ _ _ _ => none) k (stripe_Plan_Split_l1b k D j14)
noncomputable def stripe_Plan_Split_l0b (k : Nat) (D : CallF) (j22 : Slc → AHeap → Option ((Slc × Int) × AHeap)) (rec31 : (Option Addr) → Slc → Slc → Int → Int → AHeap → Option ((Slc × Int) × AHeap)) (p25 : Option Addr) (out26 : Slc) (pieces27 : Slc) (y28 : Int) (y29 : Int) (h30 : AHeap) : Option ((Slc × Int) × AHeap) :=
  (if (decide (y29 < y28)) = true then
  (p25).bind fun p32 =>
  (ldA 3 (⟨p32.block, p32.off + 4, none⟩ : Addr) h30).bind fun l33 =>
  (decC [.i .i64, .i .i64, .l] l33).bind fun x34 =>
  (p25).bind fun p35 =>
  (ldI .i64 (⟨p35.block, p35.off + 0, none⟩ : Addr) h30).bind fun x36 =>
  (stripe_Plan_row k D p25 (x34.1, x34.2.1, x34.2.2) (IntKind.wrap .i64 (x36 + y29)) h30).bind fun r37 =>
  (p25).bind fun p38 =>
  (ldP (⟨p38.block, p38.off + 2, none⟩ : Addr) r37.2).bind fun x39 =>
  guardP (SameW [h30] (fun H41 => (ldP (⟨p38.block, p38.off + 2, none⟩ : Addr) H41).bind fun y40 => some (.pointer y40)) (.pointer x39)) (
  (field_Field_Mix k D x39 pieces27 r37.1 r37.2).bind fun r42 =>
  let h43 := AHeap.new r42.2 (.cells [.string r42.1.1] 9 true 0)
  (rdS 1 (⟨(some ⟨r42.2.next, 0, some 0⟩), 1, 1⟩ : Slc) h43).bind fun n45 =>
  (appendA 1 16 9 h43 out26 n45 1).bind fun r44 =>
  rec31 p25 r44.1 pieces27 y28 (IntKind.wrap .i64 (y29 + 1)) r44.2)
  else
  j22 out26 h30)
noncomputable def stripe_Plan_Split_l0 (k : Nat) (D : CallF) (j22 : Slc → AHeap → Option ((Slc × Int) × AHeap)) : (Option Addr) → Slc → Slc → Int → Int → AHeap → Option ((Slc × Int) × AHeap) :=
  iterK (α := (Option Addr) → Slc → Slc → Int → Int → AHeap → Option ((Slc × Int) × AHeap)) (fun _ _ _ _ _ _ => none) k (stripe_Plan_Split_l0b k D j22)
noncomputable def stripe_Plan_Split (k : Nat) (D : CallF) (p_0 : Option Addr) (s_1 : ByteArray) (h : AHeap) : Option ((Slc × Int) × AHeap) :=
  (stripe_Plan_Each k D p_0 (s_1.size : Int) h).bind fun r1 =>
  (if (r1.1.2 != 0) = true then
  some (((⟨none, 0, 0⟩ : Slc), 2), r1.2)
  else
  (p_0).bind fun p2 =>
  (ldI .i64 (⟨p2.block, p2.off + 0, none⟩ : Addr) r1.2).bind fun x3 =>
  let t4 : Int := (IntKind.wrap .i64 ((IntKind.wrap .i64 (x3 * r1.1.1)) - (s_1.size : Int)))
  (repeatA (⟨#[0]⟩ : ByteArray) t4).bind fun s5 =>
  (if s_1.size + s5.size ≤ 9223372036854775807 then
  (p_0).bind fun p6 =>
  (ldI .i64 (⟨p6.block, p6.off + 0, none⟩ : Addr) r1.2).bind fun x7 =>
  (p_0).bind fun p8 =>
  (ldI .i64 (⟨p8.block, p8.off + 1, none⟩ : Addr) r1.2).bind fun x9 =>
  (if 0 ≤ (0 : Int) ∧ 0 ≤ (IntKind.wrap .i64 (x7 + x9)) ∧ (IntKind.wrap .i64 (x7 + x9)) ≤ 281474976710656 ∧ 16 * (IntKind.wrap .i64 (x7 + x9)) ≤ 281474976710656 then
  let h10 := AHeap.new r1.2 (.cells (zerosL ((IntKind.wrap .i64 (x7 + x9))).toNat [.string ⟨#[]⟩]) 9 true 0)
  joinK (fun (p11 : Option Addr) (out12 : Slc) (h13 : AHeap) =>
  (p11).bind fun p15 =>
  (ldI .i64 (⟨p15.block, p15.off + 0, none⟩ : Addr) h13).bind fun x16 =>
  (p11).bind fun p17 =>
  (ldI .i64 (⟨p17.block, p17.off + 0, none⟩ : Addr) h13).bind fun x18 =>
  (Gx.subL 1 out12 none (some x16) (some x18)).bind fun l19 =>
  joinK (fun (out20 : Slc) (h21 : AHeap) =>
  some ((out20, 0), h21)) fun j22 =>
  (p11).bind fun p23 =>
  (ldI .i64 (⟨p23.block, p23.off + 1, none⟩ : Addr) h13).bind fun x24 =>
  stripe_Plan_Split_l0 k D j22 p11 out12 l19 x24 0 h13) fun j14 =>
  (p_0).bind fun p46 =>
  (ldI .i64 (⟨p46.block, p46.off + 0, none⟩ : Addr) h10).bind fun x47 =>
  stripe_Plan_Split_l1 k D j14 p_0 (s_1 ++ s5) r1.1.1 (⟨(some ⟨r1.2.next, 0, some 0⟩), (0 : Int).toNat, ((IntKind.wrap .i64 (x7 + x9))).toNat⟩ : Slc) x47 0 h10
  else none)
  else none))
def r_stripe_Plan_Split : RCode := .seq (.region [⟨some 4, .p (.mv (.const (.slice none 0 0))), none, none⟩,
  ⟨some 5, .p (.mv (.const (.int .i64 0))), none, none⟩])
  (.seq (.region [⟨some 15, .p (.mv (.tmp 0)), none, none⟩,
  ⟨some 16, .p (.mv (.tmp 1)), none, none⟩,
  ⟨some 17, .p (.lenS (.tmp 16)), none, none⟩,
  ⟨some 18, .e (.call (.func 26) [.tmp 15, .tmp 17]), none, none⟩,
  ⟨some 14, .p (.mv (.tmp 18)), none, none⟩,
  ⟨some 19, .p (.extract (.tmp 14) 0), none, none⟩,
  ⟨some 20, .p (.extract (.tmp 14) 1), none, none⟩,
  ⟨some 6, .p (.mv (.tmp 19)), none, none⟩,
  ⟨some 7, .p (.mv (.tmp 20)), none, none⟩])
  (.seq (.seq (.region [⟨some 21, .p (.mv (.tmp 7)), none, none⟩,
  ⟨some 22, .p (.bin .neq (.tmp 21) (.const (.int .i64 0))), none, none⟩])
  (.cond (.tmp 22) (.seq (.region [⟨some 4, .p (.mv (.const (.slice none 0 0))), none, none⟩,
  ⟨some 5, .p (.mv (.const (.int .i64 2))), none, none⟩])
  (.ret)) (.skip)))
  (.seq (.region [⟨some 23, .p (.mv (.tmp 1)), none, none⟩,
  ⟨some 24, .p (.mv (.tmp 0)), none, none⟩,
  ⟨some 25, .p (.nilP (.tmp 24)), none, none⟩,
  ⟨some 26, .p (.fieldAddr 0 (.tmp 25)), none, none⟩,
  ⟨some 27, .l (.load (.i .i64) (.tmp 26)), none, none⟩,
  ⟨some 28, .p (.mv (.tmp 6)), none, none⟩,
  ⟨some 29, .p (.bin .mul (.tmp 27) (.tmp 28)), none, none⟩,
  ⟨some 30, .p (.mv (.tmp 1)), none, none⟩,
  ⟨some 31, .p (.lenS (.tmp 30)), none, none⟩,
  ⟨some 32, .p (.bin .sub (.tmp 29) (.tmp 31)), none, none⟩,
  ⟨some 33, .e (.call (.func 48) [.const (.string ⟨#[0]⟩), .tmp 32]), none, none⟩,
  ⟨some 34, .p (.bin .add (.tmp 23) (.tmp 33)), none, none⟩,
  ⟨some 1, .p (.mv (.tmp 34)), none, none⟩])
  (.seq (.draw [⟨0, ⟨some 35, .p (.mv (.tmp 0)), none, none⟩, [0], 0⟩,
  ⟨1, ⟨some 36, .p (.nilP (.tmp 35)), none, none⟩, [35], 0⟩,
  ⟨2, ⟨some 37, .p (.fieldAddr 0 (.tmp 36)), none, none⟩, [36], 0⟩,
  ⟨3, ⟨some 38, .l (.load (.i .i64) (.tmp 37)), none, none⟩, [37], 0⟩,
  ⟨4, ⟨some 39, .p (.mv (.tmp 0)), none, none⟩, [0], 0⟩,
  ⟨5, ⟨some 40, .p (.nilP (.tmp 39)), none, none⟩, [39], 0⟩,
  ⟨6, ⟨some 41, .p (.fieldAddr 1 (.tmp 40)), none, none⟩, [40], 0⟩,
  ⟨7, ⟨some 42, .l (.load (.i .i64) (.tmp 41)), none, none⟩, [41], 0⟩,
  ⟨8, ⟨some 43, .p (.bin .add (.tmp 38) (.tmp 42)), none, none⟩, [38, 42], 0⟩,
  ⟨9, ⟨some 44, .a (.mkSlice 9 16 [.string ⟨#[]⟩] (.const (.int .i64 0)) (.tmp 43)), none, none⟩, [43], 0⟩,
  ⟨10, ⟨some 8, .p (.mv (.tmp 44)), none, none⟩, [44], 0⟩])
  (.seq (.join [(0, .p), (8, .l)] (.seq (.region [⟨some 45, .p (.mv (.tmp 0)), none, none⟩,
  ⟨some 46, .p (.nilP (.tmp 45)), none, none⟩,
  ⟨some 47, .p (.fieldAddr 0 (.tmp 46)), none, none⟩,
  ⟨some 48, .l (.load (.i .i64) (.tmp 47)), none, none⟩,
  ⟨some 49, .p (.mv (.const (.int .i64 0))), none, none⟩])
  (.block 0 (.loop [(0, .p), (1, .s), (6, .i .i64), (8, .l), (48, .i .i64), (49, .i .i64)] (.seq (.region [⟨some 50, .p (.bin .lss (.tmp 49) (.tmp 48)), none, none⟩])
  (.seq (.cond (.tmp 50) (.skip) (.exit 0))
  (.seq (.block 1 (.seq (.region [⟨some 51, .p (.mv (.tmp 49)), none, none⟩,
  ⟨some 9, .p (.mv (.tmp 51)), none, none⟩])
  (.region [⟨some 52, .p (.mv (.tmp 8)), none, none⟩,
  ⟨some 53, .p (.mv (.tmp 1)), none, none⟩,
  ⟨some 54, .p (.mv (.tmp 9)), none, none⟩,
  ⟨some 55, .p (.mv (.tmp 6)), none, none⟩,
  ⟨some 56, .p (.bin .mul (.tmp 54) (.tmp 55)), none, none⟩,
  ⟨some 57, .p (.mv (.tmp 9)), none, none⟩,
  ⟨some 58, .p (.bin .add (.tmp 57) (.const (.int .i64 1))), none, none⟩,
  ⟨some 59, .p (.mv (.tmp 6)), none, none⟩,
  ⟨some 60, .p (.bin .mul (.tmp 58) (.tmp 59)), none, none⟩,
  ⟨some 61, .p (.subS (.tmp 53) (some (.tmp 56)) (some (.tmp 60))), none, none⟩,
  ⟨some 62, .a (.buildSlice 9 1 (zerosL 1 [.string ⟨#[]⟩]) [(0, 1, .tmp 61)]), none, none⟩,
  ⟨some 63, .e (.append 1 16 9 [.string ⟨#[]⟩] .slice (.tmp 52) (.tmp 62)), none, none⟩,
  ⟨some 8, .p (.mv (.tmp 63)), none, none⟩])))
  (.region [⟨some 64, .p (.bin .add (.tmp 49) (.const (.int .i64 1))), none, none⟩,
  ⟨some 49, .p (.mv (.tmp 64)), none, none⟩]))))))))
  (.seq (.draw [⟨0, ⟨some 65, .p (.mv (.tmp 8)), none, none⟩, [8], 0⟩,
  ⟨1, ⟨some 66, .p (.mv (.tmp 0)), none, none⟩, [0], 0⟩,
  ⟨2, ⟨some 67, .p (.nilP (.tmp 66)), none, none⟩, [66], 0⟩,
  ⟨3, ⟨some 68, .p (.fieldAddr 0 (.tmp 67)), none, none⟩, [67], 0⟩,
  ⟨4, ⟨some 69, .l (.load (.i .i64) (.tmp 68)), none, none⟩, [68], 0⟩,
  ⟨5, ⟨some 70, .p (.mv (.tmp 0)), none, none⟩, [0], 0⟩,
  ⟨6, ⟨some 71, .p (.nilP (.tmp 70)), none, none⟩, [70], 0⟩,
  ⟨7, ⟨some 72, .p (.fieldAddr 0 (.tmp 71)), none, none⟩, [71], 0⟩,
  ⟨8, ⟨some 73, .l (.load (.i .i64) (.tmp 72)), none, none⟩, [72], 0⟩,
  ⟨9, ⟨some 74, .p (.subL 1 (.tmp 65) none (some (.tmp 69)) (some (.tmp 73))), none, none⟩, [65, 69, 73], 0⟩,
  ⟨10, ⟨some 10, .p (.mv (.tmp 74)), none, none⟩, [74], 0⟩])
  (.seq (.join [(8, .l)] (.seq (.region [⟨some 75, .p (.mv (.tmp 0)), none, none⟩,
  ⟨some 76, .p (.nilP (.tmp 75)), none, none⟩,
  ⟨some 77, .p (.fieldAddr 1 (.tmp 76)), none, none⟩,
  ⟨some 78, .l (.load (.i .i64) (.tmp 77)), none, none⟩,
  ⟨some 79, .p (.mv (.const (.int .i64 0))), none, none⟩])
  (.block 2 (.loop [(0, .p), (8, .l), (10, .l), (78, .i .i64), (79, .i .i64)] (.seq (.region [⟨some 80, .p (.bin .lss (.tmp 79) (.tmp 78)), none, none⟩])
  (.seq (.cond (.tmp 80) (.skip) (.exit 2))
  (.seq (.block 3 (.seq (.region [⟨some 81, .p (.mv (.tmp 79)), none, none⟩,
  ⟨some 11, .p (.mv (.tmp 81)), none, none⟩])
  (.seq (.draw [⟨5, ⟨some 88, .p (.mv (.tmp 0)), none, none⟩, [0], 0⟩,
  ⟨6, ⟨some 89, .p (.mv (.tmp 0)), none, none⟩, [0], 0⟩,
  ⟨7, ⟨some 90, .p (.nilP (.tmp 89)), none, none⟩, [89], 0⟩,
  ⟨8, ⟨some 91, .p (.fieldAddr 4 (.tmp 90)), none, none⟩, [90], 0⟩,
  ⟨9, ⟨some 92, .l (.load (.agg 3) (.tmp 91)), none, some (.st [.i .i64, .i .i64, .l])⟩, [91], 0⟩,
  ⟨10, ⟨some 93, .p (.mv (.tmp 0)), none, none⟩, [0], 0⟩,
  ⟨11, ⟨some 94, .p (.nilP (.tmp 93)), none, none⟩, [93], 0⟩,
  ⟨12, ⟨some 95, .p (.fieldAddr 0 (.tmp 94)), none, none⟩, [94], 0⟩,
  ⟨13, ⟨some 96, .l (.load (.i .i64) (.tmp 95)), none, none⟩, [95], 0⟩,
  ⟨14, ⟨some 97, .p (.mv (.tmp 11)), none, none⟩, [11], 0⟩,
  ⟨15, ⟨some 98, .p (.bin .add (.tmp 96) (.tmp 97)), none, none⟩, [96, 97], 0⟩,
  ⟨16, ⟨some 99, .e (.call (.func 50) [.tmp 88, .tmp 92, .tmp 98]), none, none⟩, [88, 92, 98], 0⟩,
  ⟨0, ⟨some 83, .p (.mv (.tmp 0)), none, none⟩, [0], 1⟩,
  ⟨1, ⟨some 84, .p (.nilP (.tmp 83)), none, none⟩, [83], 1⟩,
  ⟨2, ⟨some 85, .p (.fieldAddr 2 (.tmp 84)), none, none⟩, [84], 1⟩,
  ⟨3, ⟨some 86, .l (.load (.p) (.tmp 85)), none, none⟩, [85], 1⟩,
  ⟨4, ⟨some 87, .p (.mv (.tmp 10)), none, none⟩, [10], 1⟩,
  ⟨17, ⟨some 100, .e (.call (.func 49) [.tmp 86, .tmp 87, .tmp 99]), none, none⟩, [86, 87, 99], 0⟩,
  ⟨18, ⟨some 82, .p (.mv (.tmp 100)), none, none⟩, [100], 0⟩,
  ⟨19, ⟨some 101, .p (.extract (.tmp 82) 0), none, none⟩, [82], 0⟩,
  ⟨20, ⟨some 102, .p (.extract (.tmp 82) 1), none, none⟩, [82], 0⟩,
  ⟨21, ⟨some 12, .p (.mv (.tmp 101)), none, none⟩, [101], 0⟩,
  ⟨22, ⟨some 13, .p (.mv (.tmp 102)), none, none⟩, [102], 0⟩])
  (.region [⟨some 103, .p (.mv (.tmp 8)), none, none⟩,
  ⟨some 104, .p (.mv (.tmp 12)), none, none⟩,
  ⟨some 105, .a (.buildSlice 9 1 (zerosL 1 [.string ⟨#[]⟩]) [(0, 1, .tmp 104)]), none, none⟩,
  ⟨some 106, .e (.append 1 16 9 [.string ⟨#[]⟩] .slice (.tmp 103) (.tmp 105)), none, none⟩,
  ⟨some 8, .p (.mv (.tmp 106)), none, none⟩]))))
  (.region [⟨some 107, .p (.bin .add (.tmp 79) (.const (.int .i64 1))), none, none⟩,
  ⟨some 79, .p (.mv (.tmp 107)), none, none⟩]))))))))
  (.seq (.region [⟨some 108, .p (.mv (.tmp 8)), none, none⟩,
  ⟨some 4, .p (.mv (.tmp 108)), none, none⟩,
  ⟨some 5, .p (.mv (.const (.int .i64 0))), none, none⟩])
  (.ret)))))))))
noncomputable def e_stripe_Plan_Split (k : Nat) (D : CallF) : Ent := entOf 23 [(0, .p), (1, .s)] [(4, .l), (5, .i .i64)] (stripe_Plan_Split k D)
theorem q_stripe_Plan_Split : (Try.f23.body).bind (rcodeOf Try.prog 0 Try.f23.ntmps) = some (strip r_stripe_Plan_Split) := by kernel_rfl
theorem t_stripe_Plan_Split (k : Nat) (D : CallF) : curF [(0, .p), (1, .s)] (fun args h => denF (C_stripe_Plan_Split k D) k r_stripe_Plan_Split [(4, .l), (5, .i .i64)] [none, none] args h) = stripe_Plan_Split k D := by kernel_rfl
theorem ok_stripe_Plan_Split {D : CallF} (hD : CSound Try.prog 0 D) (k : Nat) : EntOk Try.prog 0 (e_stripe_Plan_Split k D) :=
  entOf_ok2 (mkC_sound hD (EntsOk.more (ok_stripe_Plan_Each hD k) (EntsOk.more (ok_strings_Repeat hD k) (EntsOk.more (ok_stripe_Plan_row hD k) (EntsOk.more (ok_field_Field_Mix hD k) (EntsOk.none)))))) Try.func23 rfl q_stripe_Plan_Split rfl (t_stripe_Plan_Split k D)
end Gb
namespace Gb
open Go Gx Go.Proofs
set_option maxRecDepth 100000
noncomputable def C_ref05_Plan_pieces (k : Nat) (D : CallF) : CallF := mkC D [e_ref05_Size k D]
noncomputable def ref05_Plan_pieces_l0b (_k : Nat) (_D : CallF) (j11 : Slc → AHeap → Option ((Slc) × AHeap)) (rec18 : (Option Addr) → ByteArray → Int → Slc → Int → AHeap → Option ((Slc) × AHeap)) (p12 : Option Addr) (s13 : ByteArray) (n14 : Int) (out15 : Slc) (i16 : Int) (h17 : AHeap) : Option ((Slc) × AHeap) :=
  (p12).bind fun p19 =>
  (ldI .i64 (⟨p19.block, p19.off + 0, none⟩ : Addr) h17).bind fun x20 =>
  (if (decide (i16 < x20)) = true then
  (Gx.subS s13 (some (IntKind.wrap .i64 (i16 * n14))) (some (IntKind.wrap .i64 ((IntKind.wrap .i64 (i16 + 1)) * n14)))).bind fun s21 =>
  let h22 := AHeap.new h17 (.cells [.string s21] 9 true 0)
  (rdS 1 (⟨(some ⟨h17.next, 0, some 0⟩), 1, 1⟩ : Slc) h22).bind fun n24 =>
  (appendA 1 16 9 h22 out15 n24 1).bind fun r23 =>
  rec18 p12 s13 n14 r23.1 (IntKind.wrap .i64 (i16 + 1)) r23.2
  else
  j11 out15 h17)
noncomputable def ref05_Plan_pieces_l0 (k : Nat) (D : CallF) (j11 : Slc → AHeap → Option ((Slc) × AHeap)) : (Option Addr) → ByteArray → Int → Slc → Int → AHeap → Option ((Slc) × AHeap) :=
  iterK (α := (Option Addr) → ByteArray → Int → Slc → Int → AHeap → Option ((Slc) × AHeap)) (fun _ _ _ _ _ _ => none) k (ref05_Plan_pieces_l0b k D j11)
noncomputable def ref05_Plan_pieces (k : Nat) (D : CallF) (p_0 : Option Addr) (s_1 : ByteArray) (h : AHeap) : Option ((Slc) × AHeap) :=
  (p_0).bind fun p1 =>
  (ldI .i64 (⟨p1.block, p1.off + 0, none⟩ : Addr) h).bind fun x2 =>
  (ref05_Size k D x2 (s_1.size : Int) h).bind fun r3 =>
  (p_0).bind fun p4 =>
  (ldI .i64 (⟨p4.block, p4.off + 0, none⟩ : Addr) r3.2).bind fun x5 =>
  let t6 : Int := (IntKind.wrap .i64 ((IntKind.wrap .i64 (x5 * r3.1)) - (s_1.size : Int)))
  (if 0 ≤ t6 ∧ t6 ≤ t6 ∧ t6 ≤ 281474976710656 ∧ 1 * t6 ≤ 281474976710656 then
  let h7 := AHeap.new r3.2 (.cells (zerosL (t6).toNat [.int .u8 0]) 5 true 0)
  (bytesOf h7 (⟨(some ⟨r3.2.next, 0, some 0⟩), (t6).toNat, (t6).toNat⟩ : Slc)).bind fun s8 =>
  (if s_1.size + s8.size ≤ 9223372036854775807 then
  joinK (fun (out9 : Slc) (h10 : AHeap) =>
  some (out9, h10)) fun j11 =>
  ref05_Plan_pieces_l0 k D j11 p_0 (s_1 ++ s8) r3.1 (⟨none, 0, 0⟩ : Slc) 0 h7
  else none)
  else none)
def r_ref05_Plan_pieces : RCode := .seq (.region [⟨some 4, .p (.mv (.const (.slice none 0 0))), none, none⟩])
  (.seq (.region [⟨some 8, .p (.mv (.tmp 0)), none, none⟩,
  ⟨some 9, .p (.nilP (.tmp 8)), none, none⟩,
  ⟨some 10, .p (.fieldAddr 0 (.tmp 9)), none, none⟩,
  ⟨some 11, .l (.load (.i .i64) (.tmp 10)), none, none⟩,
  ⟨some 12, .p (.mv (.tmp 1)), none, none⟩,
  ⟨some 13, .p (.lenS (.tmp 12)), none, none⟩,
  ⟨some 14, .e (.call (.func 44) [.tmp 11, .tmp 13]), none, none⟩,
  ⟨some 5, .p (.mv (.tmp 14)), none, none⟩])
  (.seq (.region [⟨some 15, .p (.mv (.tmp 1)), none, none⟩,
  ⟨some 16, .p (.mv (.tmp 0)), none, none⟩,
  ⟨some 17, .p (.nilP (.tmp 16)), none, none⟩,
  ⟨some 18, .p (.fieldAddr 0 (.tmp 17)), none, none⟩,
  ⟨some 19, .l (.load (.i .i64) (.tmp 18)), none, none⟩,
  ⟨some 20, .p (.mv (.tmp 5)), none, none⟩,
  ⟨some 21, .p (.bin .mul (.tmp 19) (.tmp 20)), none, none⟩,
  ⟨some 22, .p (.mv (.tmp 1)), none, none⟩,
  ⟨some 23, .p (.lenS (.tmp 22)), none, none⟩,
  ⟨some 24, .p (.bin .sub (.tmp 21) (.tmp 23)), none, none⟩,
  ⟨some 25, .a (.mkSlice 5 1 [.int .u8 0] (.tmp 24) (.tmp 24)), none, none⟩,
  ⟨some 26, .l (.convBS (.tmp 25)), none, none⟩,
  ⟨some 27, .p (.bin .add (.tmp 15) (.tmp 26)), none, none⟩,
  ⟨some 1, .p (.mv (.tmp 27)), none, none⟩])
  (.seq (.region [⟨some 6, .p (.mv (.const (.slice none 0 0))), none, none⟩])
  (.seq (.join [(6, .l)] (.seq (.region [⟨some 7, .p (.mv (.const (.int .i64 0))), none, none⟩])
  (.block 0 (.loop [(0, .p), (1, .s), (5, .i .i64), (6, .l), (7, .i .i64)] (.seq (.seq (.region [⟨some 28, .p (.mv (.tmp 7)), none, none⟩,
  ⟨some 29, .p (.mv (.tmp 0)), none, none⟩,
  ⟨some 30, .p (.nilP (.tmp 29)), none, none⟩,
  ⟨some 31, .p (.fieldAddr 0 (.tmp 30)), none, none⟩,
  ⟨some 32, .l (.load (.i .i64) (.tmp 31)), none, none⟩,
  ⟨some 33, .p (.bin .lss (.tmp 28) (.tmp 32)), none, none⟩])
  (.cond (.tmp 33) (.skip) (.exit 0)))
  (.seq (.block 1 (.region [⟨some 36, .p (.mv (.tmp 6)), none, none⟩,
  ⟨some 37, .p (.mv (.tmp 1)), none, none⟩,
  ⟨some 38, .p (.mv (.tmp 7)), none, none⟩,
  ⟨some 39, .p (.mv (.tmp 5)), none, none⟩,
  ⟨some 40, .p (.bin .mul (.tmp 38) (.tmp 39)), none, none⟩,
  ⟨some 41, .p (.mv (.tmp 7)), none, none⟩,
  ⟨some 42, .p (.bin .add (.tmp 41) (.const (.int .i64 1))), none, none⟩,
  ⟨some 43, .p (.mv (.tmp 5)), none, none⟩,
  ⟨some 44, .p (.bin .mul (.tmp 42) (.tmp 43)), none, none⟩,
  ⟨some 45, .p (.subS (.tmp 37) (some (.tmp 40)) (some (.tmp 44))), none, none⟩,
  ⟨some 46, .a (.buildSlice 9 1 (zerosL 1 [.string ⟨#[]⟩]) [(0, 1, .tmp 45)]), none, none⟩,
  ⟨some 47, .e (.append 1 16 9 [.string ⟨#[]⟩] .slice (.tmp 36) (.tmp 46)), none, none⟩,
  ⟨some 6, .p (.mv (.tmp 47)), none, none⟩]))
  (.region [⟨some 34, .p (.mv (.tmp 7)), none, none⟩,
  ⟨some 35, .p (.bin .add (.tmp 34) (.const (.int .i64 1))), none, none⟩,
  ⟨some 7, .p (.mv (.tmp 35)), none, none⟩])))))))
  (.seq (.region [⟨some 48, .p (.mv (.tmp 6)), none, none⟩,
  ⟨some 4, .p (.mv (.tmp 48)), none, none⟩])
  (.ret))))))
noncomputable def e_ref05_Plan_pieces (k : Nat) (D : CallF) : Ent := entOf 74 [(0, .p), (1, .s)] [(4, .l)] (ref05_Plan_pieces k D)
theorem q_ref05_Plan_pieces : (Try.f74.body).bind (rcodeOf Try.prog 0 Try.f74.ntmps) = some (strip r_ref05_Plan_pieces) := by kernel_rfl
theorem t_ref05_Plan_pieces (k : Nat) (D : CallF) : curF [(0, .p), (1, .s)] (fun args h => denF (C_ref05_Plan_pieces k D) k r_ref05_Plan_pieces [(4, .l)] [none] args h) = ref05_Plan_pieces k D := by kernel_rfl
theorem ok_ref05_Plan_pieces {D : CallF} (hD : CSound Try.prog 0 D) (k : Nat) : EntOk Try.prog 0 (e_ref05_Plan_pieces k D) :=
  entOf_ok2 (mkC_sound hD (EntsOk.more (ok_ref05_Size hD k) (EntsOk.none))) Try.func74 rfl q_ref05_Plan_pieces rfl (t_ref05_Plan_pieces k D)
end Gb
namespace Gb
open Go Gx Go.Proofs
set_option maxRecDepth 100000
noncomputable def C_ref05_Plan_Shards (k : Nat) (D : CallF) : CallF := mkC D [e_ref05_Plan_pieces k D, e_ref05_Plan_row k D, e_ref03_Mix k D]
noncomputable def ref05_Plan_Shards_l0b (k : Nat) (D : CallF) (j7 : Slc → AHeap → Option ((Slc) × AHeap)) (rec15 : (Option Addr) → Slc → Slc → Int → AHeap → Option ((Slc) × AHeap)) (p10 : Option Addr) (l11 : Slc) (out12 : Slc) (i13 : Int) (h14 : AHeap) : Option ((Slc) × AHeap) :=
  (p10).bind fun p16 =>
  (ldI .i64 (⟨p16.block, p16.off + 0, none⟩ : Addr) h14).bind fun x17 =>
  (p10).bind fun p18 =>
  (ldI .i64 (⟨p18.block, p18.off + 1, none⟩ : Addr) h14).bind fun x19 =>
  (if (decide (i13 < (IntKind.wrap .i64 (x17 + x19)))) = true then
  (ref05_Plan_row k D p10 i13 h14).bind fun r20 =>
  (ref03_Mix k D l11 r20.1 r20.2).bind fun r21 =>
  let h22 := AHeap.new r21.2 (.cells [.string r21.1.1] 9 true 0)
  (rdS 1 (⟨(some ⟨r21.2.next, 0, some 0⟩), 1, 1⟩ : Slc) h22).bind fun n24 =>
  (appendA 1 16 9 h22 out12 n24 1).bind fun r23 =>
  rec15 p10 l11 r23.1 (IntKind.wrap .i64 (i13 + 1)) r23.2
  else
  j7 out12 h14)
noncomputable def ref05_Plan_Shards_l0 (k : Nat) (D : CallF) (j7 : Slc → AHeap → Option ((Slc) × AHeap)) : (Option Addr) → Slc → Slc → Int → AHeap → Option ((Slc) × AHeap) :=
  iterK (α := (Option Addr) → Slc → Slc → Int → AHeap → Option ((Slc) × AHeap)) (fun _ _ _ _ _ => none) k (ref05_Plan_Shards_l0b k D j7)
noncomputable def ref05_Plan_Shards (k : Nat) (D : CallF) (p_0 : Option Addr) (s_1 : ByteArray) (h : AHeap) : Option ((Slc) × AHeap) :=
  (ref05_Plan_pieces k D p_0 s_1 h).bind fun r1 =>
  let h2 := AHeap.new r1.2 (.cells [] 9 true 0)
  (rdS 1 r1.1 h2).bind fun n4 =>
  (appendA 1 16 9 h2 (⟨(some ⟨r1.2.next, 0, some 0⟩), 0, 0⟩ : Slc) n4 r1.1.len).bind fun r3 =>
  joinK (fun (out5 : Slc) (h6 : AHeap) =>
  some (out5, h6)) fun j7 =>
  (p_0).bind fun p8 =>
  (ldI .i64 (⟨p8.block, p8.off + 0, none⟩ : Addr) r3.2).bind fun x9 =>
  ref05_Plan_Shards_l0 k D j7 p_0 r1.1 r3.1 x9 r3.2
def r_ref05_Plan_Shards : RCode := .seq (.region [⟨some 4, .p (.mv (.const (.slice none 0 0))), none, none⟩])
  (.seq (.region [⟨some 10, .p (.mv (.tmp 0)), none, none⟩,
  ⟨some 11, .p (.mv (.tmp 1)), none, none⟩,
  ⟨some 12, .e (.call (.func 74) [.tmp 10, .tmp 11]), none, none⟩,
  ⟨some 5, .p (.mv (.tmp 12)), none, none⟩])
  (.seq (.region [⟨some 13, .a (.buildSlice 9 0 (zerosL 0 [.string ⟨#[]⟩]) []), none, none⟩,
  ⟨some 14, .p (.mv (.tmp 5)), none, none⟩,
  ⟨some 15, .e (.append 1 16 9 [.string ⟨#[]⟩] .slice (.tmp 13) (.tmp 14)), none, none⟩,
  ⟨some 6, .p (.mv (.tmp 15)), none, none⟩])
  (.seq (.join [(6, .l)] (.seq (.region [⟨some 16, .p (.mv (.tmp 0)), none, none⟩,
  ⟨some 17, .p (.nilP (.tmp 16)), none, none⟩,
  ⟨some 18, .p (.fieldAddr 0 (.tmp 17)), none, none⟩,
  ⟨some 19, .l (.load (.i .i64) (.tmp 18)), none, none⟩,
  ⟨some 7, .p (.mv (.tmp 19)), none, none⟩])
  (.block 0 (.loop [(0, .p), (5, .l), (6, .l), (7, .i .i64)] (.seq (.seq (.draw [⟨0, ⟨some 20, .p (.mv (.tmp 7)), none, none⟩, [7], 0⟩,
  ⟨1, ⟨some 21, .p (.mv (.tmp 0)), none, none⟩, [0], 0⟩,
  ⟨2, ⟨some 22, .p (.nilP (.tmp 21)), none, none⟩, [21], 0⟩,
  ⟨3, ⟨some 23, .p (.fieldAddr 0 (.tmp 22)), none, none⟩, [22], 0⟩,
  ⟨4, ⟨some 24, .l (.load (.i .i64) (.tmp 23)), none, none⟩, [23], 0⟩,
  ⟨5, ⟨some 25, .p (.mv (.tmp 0)), none, none⟩, [0], 0⟩,
  ⟨6, ⟨some 26, .p (.nilP (.tmp 25)), none, none⟩, [25], 0⟩,
  ⟨7, ⟨some 27, .p (.fieldAddr 1 (.tmp 26)), none, none⟩, [26], 0⟩,
  ⟨8, ⟨some 28, .l (.load (.i .i64) (.tmp 27)), none, none⟩, [27], 0⟩,
  ⟨9, ⟨some 29, .p (.bin .add (.tmp 24) (.tmp 28)), none, none⟩, [24, 28], 0⟩,
  ⟨10, ⟨some 30, .p (.bin .lss (.tmp 20) (.tmp 29)), none, none⟩, [20, 29], 0⟩])
  (.cond (.tmp 30) (.skip) (.exit 0)))
  (.seq (.block 1 (.seq (.region [⟨some 34, .p (.mv (.tmp 5)), none, none⟩,
  ⟨some 35, .p (.mv (.tmp 0)), none, none⟩,
  ⟨some 36, .p (.mv (.tmp 7)), none, none⟩,
  ⟨some 37, .e (.call (.func 76) [.tmp 35, .tmp 36]), none, none⟩,
  ⟨some 38, .e (.call (.func 75) [.tmp 34, .tmp 37]), none, none⟩,
  ⟨some 33, .p (.mv (.tmp 38)), none, none⟩,
  ⟨some 39, .p (.extract (.tmp 33) 0), none, none⟩,
  ⟨some 40, .p (.extract (.tmp 33) 1), none, none⟩,
  ⟨some 8, .p (.mv (.tmp 39)), none, none⟩,
  ⟨some 9, .p (.mv (.tmp 40)), none, none⟩])
  (.region [⟨some 41, .p (.mv (.tmp 6)), none, none⟩,
  ⟨some 42, .p (.mv (.tmp 8)), none, none⟩,
  ⟨some 43, .a (.buildSlice 9 1 (zerosL 1 [.string ⟨#[]⟩]) [(0, 1, .tmp 42)]), none, none⟩,
  ⟨some 44, .e (.append 1 16 9 [.string ⟨#[]⟩] .slice (.tmp 41) (.tmp 43)), none, none⟩,
  ⟨some 6, .p (.mv (.tmp 44)), none, none⟩])))
  (.region [⟨some 31, .p (.mv (.tmp 7)), none, none⟩,
  ⟨some 32, .p (.bin .add (.tmp 31) (.const (.int .i64 1))), none, none⟩,
  ⟨some 7, .p (.mv (.tmp 32)), none, none⟩])))))))
  (.seq (.region [⟨some 45, .p (.mv (.tmp 6)), none, none⟩,
  ⟨some 4, .p (.mv (.tmp 45)), none, none⟩])
  (.ret)))))
noncomputable def e_ref05_Plan_Shards (k : Nat) (D : CallF) : Ent := entOf 52 [(0, .p), (1, .s)] [(4, .l)] (ref05_Plan_Shards k D)
theorem q_ref05_Plan_Shards : (Try.f52.body).bind (rcodeOf Try.prog 0 Try.f52.ntmps) = some (strip r_ref05_Plan_Shards) := by kernel_rfl
theorem t_ref05_Plan_Shards (k : Nat) (D : CallF) : curF [(0, .p), (1, .s)] (fun args h => denF (C_ref05_Plan_Shards k D) k r_ref05_Plan_Shards [(4, .l)] [none] args h) = ref05_Plan_Shards k D := by kernel_rfl
theorem ok_ref05_Plan_Shards {D : CallF} (hD : CSound Try.prog 0 D) (k : Nat) : EntOk Try.prog 0 (e_ref05_Plan_Shards k D) :=
  entOf_ok2 (mkC_sound hD (EntsOk.more (ok_ref05_Plan_pieces hD k) (EntsOk.more (ok_ref05_Plan_row hD k) (EntsOk.more (ok_ref03_Mix hD k) (EntsOk.none))))) Try.func52 rfl q_ref05_Plan_Shards rfl (t_ref05_Plan_Shards k D)
end Gb
namespace Gb
open Go Gx Go.Proofs
set_option maxRecDepth 100000
noncomputable def C_ref05_Plan_Split (k : Nat) (D : CallF) : CallF := mkC D [e_ref05_Plan_Shards k D]
noncomputable def ref05_Plan_Split (k : Nat) (D : CallF) (p_0 : Option Addr) (s_1 : ByteArray) (h : AHeap) : Option ((Slc × Int) × AHeap) :=
  (if (decide ((s_1.size : Int) > 65536)) = true then
  some (((⟨none, 0, 0⟩ : Slc), 2), h)
  else
  (ref05_Plan_Shards k D p_0 s_1 h).bind fun r1 =>
  some ((r1.1, 0), r1.2))
def r_ref05_Plan_Split : RCode := .seq (.region [⟨some 4, .p (.mv (.const (.slice none 0 0))), none, none⟩,
  ⟨some 5, .p (.mv (.const (.int .i64 0))), none, none⟩])
  (.seq (.seq (.region [⟨some 6, .p (.mv (.tmp 1)), none, none⟩,
  ⟨some 7, .p (.lenS (.tmp 6)), none, none⟩,
  ⟨some 8, .p (.bin .gtr (.tmp 7) (.const (.int .i64 65536))), none, none⟩])
  (.cond (.tmp 8) (.seq (.region [⟨some 4, .p (.mv (.const (.slice none 0 0))), none, none⟩,
  ⟨some 5, .p (.mv (.const (.int .i64 2))), none, none⟩])
  (.ret)) (.skip)))
  (.seq (.region [⟨some 9, .p (.mv (.tmp 0)), none, none⟩,
  ⟨some 10, .p (.mv (.tmp 1)), none, none⟩,
  ⟨some 11, .e (.call (.func 52) [.tmp 9, .tmp 10]), none, none⟩,
  ⟨some 4, .p (.mv (.tmp 11)), none, none⟩,
  ⟨some 5, .p (.mv (.const (.int .i64 0))), none, none⟩])
  (.ret)))
noncomputable def e_ref05_Plan_Split (k : Nat) (D : CallF) : Ent := entOf 28 [(0, .p), (1, .s)] [(4, .l), (5, .i .i64)] (ref05_Plan_Split k D)
theorem q_ref05_Plan_Split : (Try.f28.body).bind (rcodeOf Try.prog 0 Try.f28.ntmps) = some (strip r_ref05_Plan_Split) := by kernel_rfl
theorem t_ref05_Plan_Split (k : Nat) (D : CallF) : curF [(0, .p), (1, .s)] (fun args h => denF (C_ref05_Plan_Split k D) k r_ref05_Plan_Split [(4, .l), (5, .i .i64)] [none, none] args h) = ref05_Plan_Split k D := by kernel_rfl
theorem ok_ref05_Plan_Split {D : CallF} (hD : CSound Try.prog 0 D) (k : Nat) : EntOk Try.prog 0 (e_ref05_Plan_Split k D) :=
  entOf_ok2 (mkC_sound hD (EntsOk.more (ok_ref05_Plan_Shards hD k) (EntsOk.none))) Try.func28 rfl q_ref05_Plan_Split rfl (t_ref05_Plan_Split k D)
end Gb
namespace Gb
open Go Gx Go.Proofs
set_option maxRecDepth 100000
noncomputable def C_law05_works (k : Nat) (D : CallF) : CallF := mkC D [e_stripe_New k D, e_stripe_Plan_Split k D]
noncomputable def law05_works (k : Nat) (D : CallF)  (h : AHeap) : Option ((Bool) × AHeap) :=
  (stripe_New k D 2 1 h).bind fun r1 =>
  joinK (fun (p2 : Option Addr) (y3 : Bool) (h4 : AHeap) =>
  (if y3 = true then
  some (false, h4)
  else
  (stripe_Plan_Split k D p2 (⟨#[97, 98, 99]⟩ : ByteArray) h4).bind fun r6 =>
  (if (r6.1.2 == 0) = true then
  (if ((r6.1.1.len : Int) == 3) = true then
  (Gx.idxL 1 r6.1.1 0).bind fun q7 =>
  (ldS q7 r6.2).bind fun x8 =>
  (if (x8 == (⟨#[97, 98]⟩ : ByteArray)) = true then
  (Gx.idxL 1 r6.1.1 1).bind fun q9 =>
  (ldS q9 r6.2).bind fun x10 =>
  (if (x10 == (⟨#[99, 0]⟩ : ByteArray)) = true then
  (Gx.idxL 1 r6.1.1 2).bind fun q11 =>
  (ldS q11 r6.2).bind fun x12 =>
  some (((x12.size : Int) == 2), r6.2)
  else
  some (false, r6.2))
  else
  some (false, r6.2))
  else
  some (false, r6.2))
  else
  some (false, r6.2)))) fun j5 =>
  (if r1.1.1.isNone = true then
  j5 r1.1.1 true r1.2
  else
  j5 r1.1.1 (r1.1.2 != 0) r1.2)
def r_law05_works : RCode := .seq (.region [⟨some 0, .p (.mv (.const (.bool false))), none, none⟩])
  (.seq (.region [⟨some 5, .e (.call (.func 21) [.const (.int .i64 2), .const (.int .i64 1)]), none, none⟩,
  ⟨some 4, .p (.mv (.tmp 5)), none, none⟩,
  ⟨some 6, .p (.extract (.tmp 4) 0), none, none⟩,
  ⟨some 7, .p (.extract (.tmp 4) 1), none, none⟩,
  ⟨some 1, .p (.mv (.tmp 6)), none, none⟩,
  ⟨some 2, .p (.mv (.tmp 7)), none, none⟩])
  (.seq (.seq (.join [(1, .p), (13, .b)] (.region [⟨some 8, .p (.mv (.tmp 1)), none, none⟩,
  ⟨some 9, .p (.isNil .p false (.tmp 8)), none, none⟩,
  ⟨some 10, .p (.mv (.tmp 9)), none, none⟩,
  ⟨some 11, .p (.mv (.tmp 2)), (some (10, false)), none⟩,
  ⟨some 12, .p (.bin .neq (.tmp 11) (.const (.int .i64 0))), (some (10, false)), none⟩,
  ⟨some 13, .p (.pick (.tmp 10) (.const (.bool true)) (.tmp 12)), none, none⟩]))
  (.cond (.tmp 13) (.seq (.region [⟨some 0, .p (.mv (.const (.bool false))), none, none⟩])
  (.ret)) (.skip)))
  (.seq (.region [⟨some 15, .p (.mv (.tmp 1)), none, none⟩,
  ⟨some 16, .e (.call (.func 23) [.tmp 15, .const (.string ⟨#[97, 98, 99]⟩)]), none, none⟩,
  ⟨some 14, .p (.mv (.tmp 16)), none, none⟩,
  ⟨some 17, .p (.extract (.tmp 14) 0), none, none⟩,
  ⟨some 18, .p (.extract (.tmp 14) 1), none, none⟩,
  ⟨some 3, .p (.mv (.tmp 17)), none, none⟩,
  ⟨some 2, .p (.mv (.tmp 18)), none, none⟩])
  (.seq (.region [⟨some 19, .p (.mv (.tmp 2)), none, none⟩,
  ⟨some 20, .p (.bin .eql (.tmp 19) (.const (.int .i64 0))), none, none⟩,
  ⟨some 21, .p (.mv (.tmp 20)), none, none⟩,
  ⟨some 22, .p (.mv (.tmp 3)), (some (21, true)), none⟩,
  ⟨some 23, .p (.lenL (.tmp 22)), (some (21, true)), none⟩,
  ⟨some 24, .p (.bin .eql (.tmp 23) (.const (.int .i64 3))), (some (21, true)), none⟩,
  ⟨some 25, .p (.pick (.tmp 21) (.tmp 24) (.const (.bool false))), none, none⟩,
  ⟨some 26, .p (.mv (.tmp 25)), none, none⟩,
  ⟨some 27, .p (.mv (.tmp 3)), (some (26, true)), none⟩,
  ⟨some 28, .p (.idxL 1 (.tmp 27) (.const (.int .i64 0))), (some (26, true)), none⟩,
  ⟨some 29, .l (.load (.s) (.tmp 28)), (some (26, true)), none⟩,
  ⟨some 30, .p (.bin .eql (.tmp 29) (.const (.string ⟨#[97, 98]⟩))), (some (26, true)), none⟩,
  ⟨some 31, .p (.pick (.tmp 26) (.tmp 30) (.const (.bool false))), none, none⟩,
  ⟨some 32, .p (.mv (.tmp 31)), none, none⟩,
  ⟨some 33, .p (.mv (.tmp 3)), (some (32, true)), none⟩,
  ⟨some 34, .p (.idxL 1 (.tmp 33) (.const (.int .i64 1))), (some (32, true)), none⟩,
  ⟨some 35, .l (.load (.s) (.tmp 34)), (some (32, true)), none⟩,
  ⟨some 36, .p (.bin .eql (.tmp 35) (.const (.string ⟨#[99, 0]⟩))), (some (32, true)), none⟩,
  ⟨some 37, .p (.pick (.tmp 32) (.tmp 36) (.const (.bool false))), none, none⟩,
  ⟨some 38, .p (.mv (.tmp 37)), none, none⟩,
  ⟨some 39, .p (.mv (.tmp 3)), (some (38, true)), none⟩,
  ⟨some 40, .p (.idxL 1 (.tmp 39) (.const (.int .i64 2))), (some (38, true)), none⟩,
  ⟨some 41, .l (.load (.s) (.tmp 40)), (some (38, true)), none⟩,
  ⟨some 42, .p (.lenS (.tmp 41)), (some (38, true)), none⟩,
  ⟨some 43, .p (.bin .eql (.tmp 42) (.const (.int .i64 2))), (some (38, true)), none⟩,
  ⟨some 44, .p (.pick (.tmp 38) (.tmp 43) (.const (.bool false))), none, none⟩,
  ⟨some 0, .p (.mv (.tmp 44)), none, none⟩])
  (.ret)))))
noncomputable def e_law05_works (k : Nat) (D : CallF) : Ent := entOf 22 [] [(0, .b)] (law05_works k D)
theorem q_law05_works : (Try.f22.body).bind (rcodeOf Try.prog 0 Try.f22.ntmps) = some (strip r_law05_works) := by kernel_rfl
theorem t_law05_works (k : Nat) (D : CallF) : curF [] (fun args h => denF (C_law05_works k D) k r_law05_works [(0, .b)] [none] args h) = law05_works k D := by kernel_rfl
theorem ok_law05_works {D : CallF} (hD : CSound Try.prog 0 D) (k : Nat) : EntOk Try.prog 0 (e_law05_works k D) :=
  entOf_ok2 (mkC_sound hD (EntsOk.more (ok_stripe_New hD k) (EntsOk.more (ok_stripe_Plan_Split hD k) (EntsOk.none)))) Try.func22 rfl q_law05_works rfl (t_law05_works k D)
end Gb
namespace Gb
open Go Gx Go.Proofs
set_option maxRecDepth 100000
noncomputable def C_book_SpoilTexts (_k : Nat) (D : CallF) : CallF := mkC D []
noncomputable def book_SpoilTexts_l0b (_k : Nat) (_D : CallF)  (rec4 : Slc → Int → AHeap → Option ((Unit) × AHeap)) (l1 : Slc) (i2 : Int) (h3 : AHeap) : Option ((Unit) × AHeap) :=
  (if (decide (i2 < (l1.len : Int))) = true then
  (Gx.idxL 1 l1 i2).bind fun q5 =>
  (st1 q5 (.string (⟨#[115, 112, 111, 105, 108, 116]⟩ : ByteArray)) h3).bind fun h6 =>
  rec4 l1 (IntKind.wrap .i64 (i2 + 1)) h6
  else
  some ((), h3))
noncomputable def book_SpoilTexts_l0 (k : Nat) (D : CallF)  : Slc → Int → AHeap → Option ((Unit) × AHeap) :=
  iterK (α := Slc → Int → AHeap → Option ((Unit) × AHeap)) (fun _ _ _ => none) k (book_SpoilTexts_l0b k D )
noncomputable def book_SpoilTexts (k : Nat) (D : CallF) (l_0 : Slc) (h : AHeap) : Option ((Unit) × AHeap) :=
  book_SpoilTexts_l0 k D l_0 0 h
def r_book_SpoilTexts : RCode := .seq (.region [⟨some 2, .p (.mv (.const (.int .i64 0))), none, none⟩])
  (.block 0 (.loop [(0, .l), (2, .i .i64)] (.seq (.seq (.region [⟨some 3, .p (.mv (.tmp 2)), none, none⟩,
  ⟨some 4, .p (.mv (.tmp 0)), none, none⟩,
  ⟨some 5, .p (.lenL (.tmp 4)), none, none⟩,
  ⟨some 6, .p (.bin .lss (.tmp 3) (.tmp 5)), none, none⟩])
  (.cond (.tmp 6) (.skip) (.exit 0)))
  (.seq (.block 1 (.region [⟨some 9, .p (.mv (.tmp 0)), none, none⟩,
  ⟨some 10, .p (.mv (.tmp 2)), none, none⟩,
  ⟨some 11, .p (.idxL 1 (.tmp 9) (.tmp 10)), none, none⟩,
  ⟨none, .e (.store none (.tmp 11) (.const (.string ⟨#[115, 112, 111, 105, 108, 116]⟩))), none, none⟩]))
  (.region [⟨some 7, .p (.mv (.tmp 2)), none, none⟩,
  ⟨some 8, .p (.bin .add (.tmp 7) (.const (.int .i64 1))), none, none⟩,
  ⟨some 2, .p (.mv (.tmp 8)), none, none⟩])))))
noncomputable def e_book_SpoilTexts (k : Nat) (D : CallF) : Ent := entOf 30 [(0, .l)] [] (book_SpoilTexts k D)
theorem q_book_SpoilTexts : (Try.f30.body).bind (rcodeOf Try.prog 0 Try.f30.ntmps) = some (strip r_book_SpoilTexts) := by kernel_rfl
theorem t_book_SpoilTexts (k : Nat) (D : CallF) : curF [(0, .l)] (fun args h => denF (C_book_SpoilTexts k D) k r_book_SpoilTexts [] [] args h) = book_SpoilTexts k D := by kernel_rfl
theorem ok_book_SpoilTexts {D : CallF} (hD : CSound Try.prog 0 D) (k : Nat) : EntOk Try.prog 0 (e_book_SpoilTexts k D) :=
  entOf_ok2 (mkC_sound hD (EntsOk.none)) Try.func30 rfl q_book_SpoilTexts rfl (t_book_SpoilTexts k D)
end Gb
namespace Gb
open Go Gx Go.Proofs
set_option maxRecDepth 100000
noncomputable def C_law05_StripeMakes (k : Nat) (D : CallF) : CallF := mkC D [e_law05_works k D, e_stripe_New k D, e_ref05_New k D, e_stripe_Plan_Shape k D, e_stripe_Plan_Each k D, e_ref05_Plan_Each k D, e_stripe_Plan_Split k D, e_ref05_Plan_Split k D, e_book_SpoilTexts k D, e_book_SameTexts k D]
noncomputable def law05_StripeMakes (k : Nat) (D : CallF) (shape_0 : Int × Int) (s_1 : ByteArray) (long_2 : Int) (h : AHeap) : Option ((Bool) × AHeap) :=
  let h1 := AHeap.new h (.cells [.int .i64 shape_0.1, .int .i64 shape_0.2] 40 true 0)
  joinK (fun (s2 : ByteArray) (long3 : Int) (shape4 : Option Addr) (y5 : Bool) (h6 : AHeap) =>
  (if y5 = true then
  (law05_works k D h6).bind fun r8 =>
  some (r8.1, r8.2)
  else
  (shape4).bind fun p10 =>
  (ldI .i64 (⟨p10.block, p10.off + 0, none⟩ : Addr) h6).bind fun x11 =>
  (shape4).bind fun p13 =>
  (ldI .i64 (⟨p13.block, p13.off + 1, none⟩ : Addr) h6).bind fun x14 =>
  (stripe_New k D x11 x14 h6).bind fun r15 =>
  (shape4).bind fun p17 =>
  (ldI .i64 (⟨p17.block, p17.off + 0, none⟩ : Addr) r15.2).bind fun x18 =>
  (shape4).bind fun p20 =>
  (ldI .i64 (⟨p20.block, p20.off + 1, none⟩ : Addr) r15.2).bind fun x21 =>
  (ref05_New k D x18 x21 r15.2).bind fun r22 =>
  joinK (fun (s23 : ByteArray) (long24 : Int) (shape25 : Option Addr) (p26 : Option Addr) (r27 : Option Addr) (y28 : Bool) (h29 : AHeap) =>
  (if y28 = true then
  some (false, h29)
  else
  (if r27.isNone = true then
  some (true, h29)
  else
  (stripe_Plan_Shape k D p26 h29).bind fun r31 =>
  (stripe_Plan_Each k D p26 long24 r31.2).bind fun r32 =>
  (ref05_Plan_Each k D r27 long24 r32.2).bind fun r33 =>
  (stripe_Plan_Split k D p26 s23 r33.2).bind fun r34 =>
  (ref05_Plan_Split k D r27 s23 r34.2).bind fun r35 =>
  joinK (fun (l36 : Slc) (ok37 : Bool) (h38 : AHeap) =>
  (book_SpoilTexts k D l36 h38).bind fun r40 =>
  some (ok37, r40.2)) fun j39 =>
  (shape25).bind fun p42 =>
  (ldI .i64 (⟨p42.block, p42.off + 0, none⟩ : Addr) r35.2).bind fun x43 =>
  (if (r31.1.1 == x43) = true then
  (shape25).bind fun p45 =>
  (ldI .i64 (⟨p45.block, p45.off + 1, none⟩ : Addr) r35.2).bind fun x46 =>
  (if (r31.1.2 == x46) = true then
  (if (r32.1.1 == r33.1.1) = true then
  (if (r32.1.2 == r33.1.2) = true then
  (book_SameTexts k D r34.1.1 r35.1.1 r35.2).bind fun r47 =>
  (if r47.1 = true then
  j39 r34.1.1 (r34.1.2 == r35.1.2) r47.2
  else
  j39 r34.1.1 false r47.2)
  else
  j39 r34.1.1 false r35.2)
  else
  j39 r34.1.1 false r35.2)
  else
  j39 r34.1.1 false r35.2)
  else
  j39 r34.1.1 false r35.2)))) fun j30 =>
  (if (r15.1.2 != r22.1.2) = true then
  j30 s2 long3 shape4 r15.1.1 r22.1.1 true r22.2
  else
  (if (!(r15.1.1.isNone == r22.1.1.isNone)) = true then
  j30 s2 long3 shape4 r15.1.1 r22.1.1 true r22.2
  else
  (law05_works k D r22.2).bind fun r48 =>
  j30 s2 long3 shape4 r15.1.1 r22.1.1 (!r48.1) r48.2)))) fun j7 =>
  (ldI .i64 (⟨h.next, 0, none⟩ : Addr) h1).bind fun x50 =>
  (if (decide (x50 > 12)) = true then
  (ldI .i64 (⟨h.next, 0, none⟩ : Addr) h1).bind fun x52 =>
  (if (decide (x52 ≤ 255)) = true then
  j7 s_1 long_2 (some (⟨h.next, 0, none⟩ : Addr)) true h1
  else
  (ldI .i64 (⟨h.next, 1, none⟩ : Addr) h1).bind fun x54 =>
  (if (decide (x54 > 8)) = true then
  (ldI .i64 (⟨h.next, 1, none⟩ : Addr) h1).bind fun x56 =>
  (if (decide (x56 ≤ 255)) = true then
  j7 s_1 long_2 (some (⟨h.next, 0, none⟩ : Addr)) true h1
  else
  (if (decide ((s_1.size : Int) > 500)) = true then
  j7 s_1 long_2 (some (⟨h.next, 0, none⟩ : Addr)) (decide ((s_1.size : Int) ≤ 65536)) h1
  else
  j7 s_1 long_2 (some (⟨h.next, 0, none⟩ : Addr)) false h1))
  else
  (if (decide ((s_1.size : Int) > 500)) = true then
  j7 s_1 long_2 (some (⟨h.next, 0, none⟩ : Addr)) (decide ((s_1.size : Int) ≤ 65536)) h1
  else
  j7 s_1 long_2 (some (⟨h.next, 0, none⟩ : Addr)) false h1)))
  else
  (ldI .i64 (⟨h.next, 1, none⟩ : Addr) h1).bind fun x58 =>
  (if (decide (x58 > 8)) = true then
  (ldI .i64 (⟨h.next, 1, none⟩ : Addr) h1).bind fun x60 =>
  (if (decide (x60 ≤ 255)) = true then
  j7 s_1 long_2 (some (⟨h.next, 0, none⟩ : Addr)) true h1
  else
  (if (decide ((s_1.size : Int) > 500)) = true then
  j7 s_1 long_2 (some (⟨h.next, 0, none⟩ : Addr)) (decide ((s_1.size : Int) ≤ 65536)) h1
  else
  j7 s_1 long_2 (some (⟨h.next, 0, none⟩ : Addr)) false h1))
  else
  (if (decide ((s_1.size : Int) > 500)) = true then
  j7 s_1 long_2 (some (⟨h.next, 0, none⟩ : Addr)) (decide ((s_1.size : Int) ≤ 65536)) h1
  else
  j7 s_1 long_2 (some (⟨h.next, 0, none⟩ : Addr)) false h1)))
def r_law05_StripeMakes : RCode := .seq (.region [⟨some 3, .a (.box 40 (.tmp 0)), none, none⟩,
  ⟨some 6, .p (.mv (.const (.bool false))), none, none⟩])
  (.seq (.seq (.join [(1, .s), (2, .i .i64), (3, .p), (47, .b)] (.region [⟨some 20, .p (.idxA 2 1 (.tmp 3) (.const (.int .i64 0))), none, none⟩,
  ⟨some 21, .l (.load (.i .i64) (.tmp 20)), none, none⟩,
  ⟨some 22, .p (.bin .gtr (.tmp 21) (.const (.int .i64 12))), none, none⟩,
  ⟨some 23, .p (.mv (.tmp 22)), none, none⟩,
  ⟨some 24, .p (.idxA 2 1 (.tmp 3) (.const (.int .i64 0))), (some (23, true)), none⟩,
  ⟨some 25, .l (.load (.i .i64) (.tmp 24)), (some (23, true)), none⟩,
  ⟨some 26, .p (.bin .leq (.tmp 25) (.const (.int .i64 255))), (some (23, true)), none⟩,
  ⟨some 27, .p (.pick (.tmp 23) (.tmp 26) (.const (.bool false))), none, none⟩,
  ⟨some 28, .p (.mv (.tmp 27)), none, none⟩,
  ⟨some 29, .p (.idxA 2 1 (.tmp 3) (.const (.int .i64 1))), (some (28, false)), none⟩,
  ⟨some 30, .l (.load (.i .i64) (.tmp 29)), (some (28, false)), none⟩,
  ⟨some 31, .p (.bin .gtr (.tmp 30) (.const (.int .i64 8))), (some (28, false)), none⟩,
  ⟨some 32, .p (.mv (.tmp 31)), (some (28, false)), none⟩,
  ⟨some 33, .p (.idxA 2 1 (.tmp 3) (.const (.int .i64 1))), (some (32, true)), none⟩,
  ⟨some 34, .l (.load (.i .i64) (.tmp 33)), (some (32, true)), none⟩,
  ⟨some 35, .p (.bin .leq (.tmp 34) (.const (.int .i64 255))), (some (32, true)), none⟩,
  ⟨some 36, .p (.pick (.tmp 32) (.tmp 35) (.const (.bool false))), (some (28, false)), none⟩,
  ⟨some 37, .p (.pick (.tmp 28) (.const (.bool true)) (.tmp 36)), none, none⟩,
  ⟨some 38, .p (.mv (.tmp 37)), none, none⟩,
  ⟨some 39, .p (.mv (.tmp 1)), (some (38, false)), none⟩,
  ⟨some 40, .p (.lenS (.tmp 39)), (some (38, false)), none⟩,
  ⟨some 41, .p (.bin .gtr (.tmp 40) (.const (.int .i64 500))), (some (38, false)), none⟩,
  ⟨some 42, .p (.mv (.tmp 41)), (some (38, false)), none⟩,
  ⟨some 43, .p (.mv (.tmp 1)), (some (42, true)), none⟩,
  ⟨some 44, .p (.lenS (.tmp 43)), (some (42, true)), none⟩,
  ⟨some 45, .p (.bin .leq (.tmp 44) (.const (.int .i64 65536))), (some (42, true)), none⟩,
  ⟨some 46, .p (.pick (.tmp 42) (.tmp 45) (.const (.bool false))), (some (38, false)), none⟩,
  ⟨some 47, .p (.pick (.tmp 38) (.const (.bool true)) (.tmp 46)), none, none⟩]))
  (.cond (.tmp 47) (.seq (.region [⟨some 48, .e (.call (.func 22) []), none, none⟩,
  ⟨some 6, .p (.mv (.tmp 48)), none, none⟩])
  (.ret)) (.skip)))
  (.seq (.region [⟨some 50, .p (.idxA 2 1 (.tmp 3) (.const (.int .i64 0))), none, none⟩,
  ⟨some 51, .l (.load (.i .i64) (.tmp 50)), none, none⟩,
  ⟨some 52, .p (.idxA 2 1 (.tmp 3) (.const (.int .i64 1))), none, none⟩,
  ⟨some 53, .l (.load (.i .i64) (.tmp 52)), none, none⟩,
  ⟨some 54, .e (.call (.func 21) [.tmp 51, .tmp 53]), none, none⟩,
  ⟨some 49, .p (.mv (.tmp 54)), none, none⟩,
  ⟨some 55, .p (.extract (.tmp 49) 0), none, none⟩,
  ⟨some 56, .p (.extract (.tmp 49) 1), none, none⟩,
  ⟨some 7, .p (.mv (.tmp 55)), none, none⟩,
  ⟨some 8, .p (.mv (.tmp 56)), none, none⟩])
  (.seq (.region [⟨some 58, .p (.idxA 2 1 (.tmp 3) (.const (.int .i64 0))), none, none⟩,
  ⟨some 59, .l (.load (.i .i64) (.tmp 58)), none, none⟩,
  ⟨some 60, .p (.idxA 2 1 (.tmp 3) (.const (.int .i64 1))), none, none⟩,
  ⟨some 61, .l (.load (.i .i64) (.tmp 60)), none, none⟩,
  ⟨some 62, .e (.call (.func 24) [.tmp 59, .tmp 61]), none, none⟩,
  ⟨some 57, .p (.mv (.tmp 62)), none, none⟩,
  ⟨some 63, .p (.extract (.tmp 57) 0), none, none⟩,
  ⟨some 64, .p (.extract (.tmp 57) 1), none, none⟩,
  ⟨some 9, .p (.mv (.tmp 63)), none, none⟩,
  ⟨some 10, .p (.mv (.tmp 64)), none, none⟩])
  (.seq (.seq (.join [(1, .s), (2, .i .i64), (3, .p), (7, .p), (9, .p), (80, .b)] (.region [⟨some 65, .p (.mv (.tmp 8)), none, none⟩,
  ⟨some 66, .p (.mv (.tmp 10)), none, none⟩,
  ⟨some 67, .p (.bin .neq (.tmp 65) (.tmp 66)), none, none⟩,
  ⟨some 68, .p (.mv (.tmp 67)), none, none⟩,
  ⟨some 69, .p (.mv (.tmp 7)), (some (68, false)), none⟩,
  ⟨some 70, .p (.isNil .p false (.tmp 69)), (some (68, false)), none⟩,
  ⟨some 71, .p (.mv (.tmp 9)), (some (68, false)), none⟩,
  ⟨some 72, .p (.isNil .p false (.tmp 71)), (some (68, false)), none⟩,
  ⟨some 73, .p (.eqB true (.tmp 70) (.tmp 72)), (some (68, false)), none⟩,
  ⟨some 74, .p (.pick (.tmp 68) (.const (.bool true)) (.tmp 73)), none, none⟩,
  ⟨some 75, .p (.mv (.tmp 74)), none, none⟩,
  ⟨some 76, .p (.pick (.tmp 75) (.const (.bool true)) (.const (.bool false))), none, none⟩,
  ⟨some 77, .p (.mv (.tmp 76)), none, none⟩,
  ⟨some 78, .e (.call (.func 22) []), (some (77, false)), none⟩,
  ⟨some 79, .p (.un .not (.tmp 78)), (some (77, false)), none⟩,
  ⟨some 80, .p (.pick (.tmp 77) (.const (.bool true)) (.tmp 79)), none, none⟩]))
  (.cond (.tmp 80) (.seq (.region [⟨some 6, .p (.mv (.const (.bool false))), none, none⟩])
  (.ret)) (.skip)))
  (.seq (.seq (.region [⟨some 81, .p (.mv (.tmp 9)), none, none⟩,
  ⟨some 82, .p (.isNil .p false (.tmp 81)), none, none⟩])
  (.cond (.tmp 82) (.seq (.region [⟨some 6, .p (.mv (.const (.bool true))), none, none⟩])
  (.ret)) (.skip)))
  (.seq (.region [⟨some 84, .p (.mv (.tmp 7)), none, none⟩,
  ⟨some 85, .e (.call (.func 25) [.tmp 84]), none, none⟩,
  ⟨some 83, .p (.mv (.tmp 85)), none, none⟩,
  ⟨some 86, .p (.extract (.tmp 83) 0), none, none⟩,
  ⟨some 87, .p (.extract (.tmp 83) 1), none, none⟩,
  ⟨some 11, .p (.mv (.tmp 86)), none, none⟩,
  ⟨some 12, .p (.mv (.tmp 87)), none, none⟩])
  (.seq (.region [⟨some 89, .p (.mv (.tmp 7)), none, none⟩,
  ⟨some 90, .p (.mv (.tmp 2)), none, none⟩,
  ⟨some 91, .e (.call (.func 26) [.tmp 89, .tmp 90]), none, none⟩,
  ⟨some 88, .p (.mv (.tmp 91)), none, none⟩,
  ⟨some 92, .p (.extract (.tmp 88) 0), none, none⟩,
  ⟨some 93, .p (.extract (.tmp 88) 1), none, none⟩,
  ⟨some 13, .p (.mv (.tmp 92)), none, none⟩,
  ⟨some 8, .p (.mv (.tmp 93)), none, none⟩])
  (.seq (.region [⟨some 95, .p (.mv (.tmp 9)), none, none⟩,
  ⟨some 96, .p (.mv (.tmp 2)), none, none⟩,
  ⟨some 97, .e (.call (.func 27) [.tmp 95, .tmp 96]), none, none⟩,
  ⟨some 94, .p (.mv (.tmp 97)), none, none⟩,
  ⟨some 98, .p (.extract (.tmp 94) 0), none, none⟩,
  ⟨some 99, .p (.extract (.tmp 94) 1), none, none⟩,
  ⟨some 14, .p (.mv (.tmp 98)), none, none⟩,
  ⟨some 10, .p (.mv (.tmp 99)), none, none⟩])
  (.seq (.region [⟨some 101, .p (.mv (.tmp 7)), none, none⟩,
  ⟨some 102, .p (.mv (.tmp 1)), none, none⟩,
  ⟨some 103, .e (.call (.func 23) [.tmp 101, .tmp 102]), none, none⟩,
  ⟨some 100, .p (.mv (.tmp 103)), none, none⟩,
  ⟨some 104, .p (.extract (.tmp 100) 0), none, none⟩,
  ⟨some 105, .p (.extract (.tmp 100) 1), none, none⟩,
  ⟨some 15, .p (.mv (.tmp 104)), none, none⟩,
  ⟨some 16, .p (.mv (.tmp 105)), none, none⟩])
  (.seq (.region [⟨some 107, .p (.mv (.tmp 9)), none, none⟩,
  ⟨some 108, .p (.mv (.tmp 1)), none, none⟩,
  ⟨some 109, .e (.call (.func 28) [.tmp 107, .tmp 108]), none, none⟩,
  ⟨some 106, .p (.mv (.tmp 109)), none, none⟩,
  ⟨some 110, .p (.extract (.tmp 106) 0), none, none⟩,
  ⟨some 111, .p (.extract (.tmp 106) 1), none, none⟩,
  ⟨some 17, .p (.mv (.tmp 110)), none, none⟩,
  ⟨some 18, .p (.mv (.tmp 111)), none, none⟩])
  (.seq (.join [(15, .l), (19, .b)] (.region [⟨some 112, .p (.mv (.tmp 11)), none, none⟩,
  ⟨some 113, .p (.idxA 2 1 (.tmp 3) (.const (.int .i64 0))), none, none⟩,
  ⟨some 114, .l (.load (.i .i64) (.tmp 113)), none, none⟩,
  ⟨some 115, .p (.bin .eql (.tmp 112) (.tmp 114)), none, none⟩,
  ⟨some 116, .p (.mv (.tmp 115)), none, none⟩,
  ⟨some 117, .p (.mv (.tmp 12)), (some (116, true)), none⟩,
  ⟨some 118, .p (.idxA 2 1 (.tmp 3) (.const (.int .i64 1))), (some (116, true)), none⟩,
  ⟨some 119, .l (.load (.i .i64) (.tmp 118)), (some (116, true)), none⟩,
  ⟨some 120, .p (.bin .eql (.tmp 117) (.tmp 119)), (some (116, true)), none⟩,
  ⟨some 121, .p (.pick (.tmp 116) (.tmp 120) (.const (.bool false))), none, none⟩,
  ⟨some 122, .p (.mv (.tmp 121)), none, none⟩,
  ⟨some 123, .p (.mv (.tmp 13)), (some (122, true)), none⟩,
  ⟨some 124, .p (.mv (.tmp 14)), (some (122, true)), none⟩,
  ⟨some 125, .p (.bin .eql (.tmp 123) (.tmp 124)), (some (122, true)), none⟩,
  ⟨some 126, .p (.pick (.tmp 122) (.tmp 125) (.const (.bool false))), none, none⟩,
  ⟨some 127, .p (.mv (.tmp 126)), none, none⟩,
  ⟨some 128, .p (.mv (.tmp 8)), (some (127, true)), none⟩,
  ⟨some 129, .p (.mv (.tmp 10)), (some (127, true)), none⟩,
  ⟨some 130, .p (.bin .eql (.tmp 128) (.tmp 129)), (some (127, true)), none⟩,
  ⟨some 131, .p (.pick (.tmp 127) (.tmp 130) (.const (.bool false))), none, none⟩,
  ⟨some 132, .p (.mv (.tmp 131)), none, none⟩,
  ⟨some 133, .p (.mv (.tmp 15)), (some (132, true)), none⟩,
  ⟨some 134, .p (.mv (.tmp 17)), (some (132, true)), none⟩,
  ⟨some 135, .e (.call (.func 29) [.tmp 133, .tmp 134]), (some (132, true)), none⟩,
  ⟨some 136, .p (.pick (.tmp 132) (.tmp 135) (.const (.bool false))), none, none⟩,
  ⟨some 137, .p (.mv (.tmp 136)), none, none⟩,
  ⟨some 138, .p (.mv (.tmp 16)), (some (137, true)), none⟩,
  ⟨some 139, .p (.mv (.tmp 18)), (some (137, true)), none⟩,
  ⟨some 140, .p (.bin .eql (.tmp 138) (.tmp 139)), (some (137, true)), none⟩,
  ⟨some 141, .p (.pick (.tmp 137) (.tmp 140) (.const (.bool false))), none, none⟩,
  ⟨some 19, .p (.mv (.tmp 141)), none, none⟩]))
  (.seq (.region [⟨some 142, .p (.mv (.tmp 15)), none, none⟩,
  ⟨some 143, .e (.call (.func 30) [.tmp 142]), none, none⟩])
  (.seq (.region [⟨some 144, .p (.mv (.tmp 19)), none, none⟩,
  ⟨some 6, .p (.mv (.tmp 144)), none, none⟩])
  (.ret))))))))))))))
noncomputable def e_law05_StripeMakes (k : Nat) (D : CallF) : Ent := entOf 6 [(0, .st [.i .i64, .i .i64]), (1, .s), (2, .i .i64)] [(6, .b)] (law05_StripeMakes k D)
theorem q_law05_StripeMakes : (Try.f6.body).bind (rcodeOf Try.prog 0 Try.f6.ntmps) = some (strip r_law05_StripeMakes) := by kernel_rfl
theorem t_law05_StripeMakes (k : Nat) (D : CallF) : curF [(0, .st [.i .i64, .i .i64]), (1, .s), (2, .i .i64)] (fun args h => denF (C_law05_StripeMakes k D) k r_law05_StripeMakes [(6, .b)] [none] args h) = law05_StripeMakes k D := by kernel_rfl
theorem ok_law05_StripeMakes {D : CallF} (hD : CSound Try.prog 0 D) (k : Nat) : EntOk Try.prog 0 (e_law05_StripeMakes k D) :=
  entOf_ok2 (mkC_sound hD (EntsOk.more (ok_law05_works hD k) (EntsOk.more (ok_stripe_New hD k) (EntsOk.more (ok_ref05_New hD k) (EntsOk.more (ok_stripe_Plan_Shape hD k) (EntsOk.more (ok_stripe_Plan_Each hD k) (EntsOk.more (ok_ref05_Plan_Each hD k) (EntsOk.more (ok_stripe_Plan_Split hD k) (EntsOk.more (ok_ref05_Plan_Split hD k) (EntsOk.more (ok_book_SpoilTexts hD k) (EntsOk.more (ok_book_SameTexts hD k) (EntsOk.none)))))))))))) Try.func6 rfl q_law05_StripeMakes rfl (t_law05_StripeMakes k D)
end Gb
