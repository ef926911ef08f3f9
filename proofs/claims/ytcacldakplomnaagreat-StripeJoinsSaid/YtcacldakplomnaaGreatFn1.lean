import Derived.Test.YtcacldakplomnaaGreatProg
import Derived.Shelf.Strings.OnBuilder
import Derived.Shelf.Strings.Repeat
import Derived.KernelRfl
import Derived.Test.YtcacldakplomnaaGreatGx3
namespace Gq
open Go Gx Go.Proofs
set_option maxRecDepth 100000
noncomputable def C_law05_few (_k : Nat) (D : CallF) : CallF := mkC D []
noncomputable def law05_few_l0b (_k : Nat) (_D : CallF) (j2 : AHeap → Option ((Bool) × AHeap)) (rec6 : Slc → Int → AHeap → Option ((Bool) × AHeap)) (l3 : Slc) (i4 : Int) (h5 : AHeap) : Option ((Bool) × AHeap) :=
 (if (decide (i4 < (l3.len : Int))) = true then
 (Gx.idxL 2 l3 i4).bind fun q7 =>
 (ldS (⟨q7.block, q7.off + 1, none⟩ : Addr) h5).bind fun x8 =>
 (if (decide ((x8.size : Int) > 300)) = true then
 some (false, h5)
 else
 rec6 l3 (IntKind.wrap .i64 (i4 + 1)) h5)
 else
 j2 h5)
noncomputable def law05_few_l0 (k : Nat) (D : CallF) (j2 : AHeap → Option ((Bool) × AHeap)) : Slc → Int → AHeap → Option ((Bool) × AHeap) :=
 iterK (α := Slc → Int → AHeap → Option ((Bool) × AHeap)) (fun _ _ _ => none) k (law05_few_l0b k D j2)
noncomputable def law05_few (k : Nat) (D : CallF) (l_0 : Slc) (h : AHeap) : Option ((Bool) × AHeap) :=
 (if (decide ((l_0.len : Int) > 20)) = true then
 some (false, h)
 else
 joinK (fun (h1 : AHeap) =>
 some (true, h1)) fun j2 =>
 law05_few_l0 k D j2 l_0 0 h)
noncomputable def r_law05_few : RCode := an (.s .n (.s .n (.s (.j [] (.s .n (.b (.l [(0, .l), (3, .i .i64)] .n)))) .n))) (rOf Tryz.prog 0 Tryz.f4)
noncomputable def e_law05_few (k : Nat) (D : CallF) : Ent := entOf 4 [(0, .l)] [(2, .b)] (law05_few k D)
theorem q_law05_few : (Tryz.f4.body).bind (rcodeOf Tryz.prog 0 Tryz.f4.ntmps) = some (strip r_law05_few) := by kernel_rfl
theorem t_law05_few (k : Nat) (D : CallF) : curF [(0, .l)] (fun args h => denF (C_law05_few k D) k r_law05_few [(2, .b)] [none] args h) = law05_few k D := by kernel_rfl
theorem ok_law05_few {D : CallF} (hD : CSound Tryz.prog 0 D) (k : Nat) : EntOk Tryz.prog 0 (e_law05_few k D) :=
 entOf_ok2 (mkC_sound hD (EntsOk.none)) Tryz.func4 rfl q_law05_few rfl (t_law05_few k D)
end Gq
namespace Gq
open Go Gx Go.Proofs
set_option maxRecDepth 100000
noncomputable def C_field_New (_k : Nat) (D : CallF) : CallF := mkC D []
noncomputable def field_New (_k : Nat) (_D : CallF)  (h : AHeap) : Option (((Option Addr)) × AHeap) :=
 let h1 := AHeap.new h (.cells ([.int .u32 0] ++ [.int .i32 0] ++ [.int .u32 0] ++ List.replicate 510 (.int .u8 0) ++ List.replicate 256 (.int .i64 0)) 98 true 0)
 some ((some (⟨h.next, 0, none⟩ : Addr)), h1)
noncomputable def r_field_New : RCode := an (.n) (rOf Tryz.prog 0 Tryz.f15)
noncomputable def e_field_New (k : Nat) (D : CallF) : Ent := entOf 15 [] [(0, .p)] (field_New k D)
theorem q_field_New : (Tryz.f15.body).bind (rcodeOf Tryz.prog 0 Tryz.f15.ntmps) = some (strip r_field_New) := by kernel_rfl
theorem t_field_New (k : Nat) (D : CallF) : curF [] (fun args h => denF (C_field_New k D) k r_field_New [(0, .p)] [none] args h) = field_New k D := by kernel_rfl
theorem ok_field_New {D : CallF} (hD : CSound Tryz.prog 0 D) (k : Nat) : EntOk Tryz.prog 0 (e_field_New k D) :=
 entOf_ok2 (mkC_sound hD (EntsOk.none)) Tryz.func15 rfl q_field_New rfl (t_field_New k D)
end Gq
namespace Gq
open Go Gx Go.Proofs
set_option maxRecDepth 100000
noncomputable def C_matrix_New (k : Nat) (D : CallF) : CallF := mkC D [e_field_New k D]
noncomputable def matrix_New (k : Nat) (D : CallF)  (h : AHeap) : Option (((Option Addr)) × AHeap) :=
 (field_New k D h).bind fun r1 =>
 let h2 := AHeap.new r1.2 (.cells [.pointer r1.1] 77 true 0)
 some ((some (⟨r1.2.next, 0, none⟩ : Addr)), h2)
noncomputable def r_matrix_New : RCode := an (.n) (rOf Tryz.prog 0 Tryz.f13)
noncomputable def e_matrix_New (k : Nat) (D : CallF) : Ent := entOf 13 [] [(0, .p)] (matrix_New k D)
theorem q_matrix_New : (Tryz.f13.body).bind (rcodeOf Tryz.prog 0 Tryz.f13.ntmps) = some (strip r_matrix_New) := by kernel_rfl
theorem t_matrix_New (k : Nat) (D : CallF) : curF [] (fun args h => denF (C_matrix_New k D) k r_matrix_New [(0, .p)] [none] args h) = matrix_New k D := by kernel_rfl
theorem ok_matrix_New {D : CallF} (hD : CSound Tryz.prog 0 D) (k : Nat) : EntOk Tryz.prog 0 (e_matrix_New k D) :=
 entOf_ok2 (mkC_sound hD (EntsOk.more (ok_field_New hD k) (EntsOk.none))) Tryz.func13 rfl q_matrix_New rfl (t_matrix_New k D)
end Gq
namespace Gq
open Go Gx Go.Proofs
set_option maxRecDepth 100000
noncomputable def C_matrix_blank (_k : Nat) (D : CallF) : CallF := mkC D []
noncomputable def matrix_blank (_k : Nat) (_D : CallF) (rows_0 : Int) (cols_1 : Int) (h : AHeap) : Option (((Int × Int × Slc)) × AHeap) :=
 let h1 := AHeap.new h (.cells [.int .i64 0, .int .i64 0, .slice none 0 0] 50 true 0)
 (if 0 ≤ (IntKind.wrap .i64 (rows_0 * cols_1)) ∧ (IntKind.wrap .i64 (rows_0 * cols_1)) ≤ (IntKind.wrap .i64 (rows_0 * cols_1)) ∧ (IntKind.wrap .i64 (rows_0 * cols_1)) ≤ 281474976710656 ∧ 8 * (IntKind.wrap .i64 (rows_0 * cols_1)) ≤ 281474976710656 then
 let h2 := AHeap.new h1 (.cells (zerosL ((IntKind.wrap .i64 (rows_0 * cols_1))).toNat [.int .i64 0]) 3 true 0)
 (stL 3 (⟨h.next, 0, none⟩ : Addr) ([.int .i64 rows_0, .int .i64 cols_1, .slice (some ⟨h1.next, 0, some 0⟩) (((IntKind.wrap .i64 (rows_0 * cols_1))).toNat) (((IntKind.wrap .i64 (rows_0 * cols_1))).toNat)]) h2).bind fun h3 =>
 (ldA 3 (⟨h.next, 0, none⟩ : Addr) h3).bind fun l4 =>
 (decC [.i .i64, .i .i64, .l] l4).bind fun x5 =>
 some ((x5.1, x5.2.1, x5.2.2), h3)
 else none)
noncomputable def r_matrix_blank : RCode := an (.n) (rOf Tryz.prog 0 Tryz.f31)
noncomputable def e_matrix_blank (k : Nat) (D : CallF) : Ent := entOf 31 [(0, .i .i64), (1, .i .i64)] [(4, .st [.i .i64, .i .i64, .l])] (matrix_blank k D)
theorem q_matrix_blank : (Tryz.f31.body).bind (rcodeOf Tryz.prog 0 Tryz.f31.ntmps) = some (strip r_matrix_blank) := by kernel_rfl
theorem t_matrix_blank (k : Nat) (D : CallF) : curF [(0, .i .i64), (1, .i .i64)] (fun args h => denF (C_matrix_blank k D) k r_matrix_blank [(4, .st [.i .i64, .i .i64, .l])] [some (.agg 3)] args h) = matrix_blank k D := by kernel_rfl
theorem ok_matrix_blank {D : CallF} (hD : CSound Tryz.prog 0 D) (k : Nat) : EntOk Tryz.prog 0 (e_matrix_blank k D) :=
 entOf_ok2 (mkC_sound hD (EntsOk.none)) Tryz.func31 rfl q_matrix_blank rfl (t_matrix_blank k D)
end Gq
namespace Gq
open Go Gx Go.Proofs
set_option maxRecDepth 100000
noncomputable def C_matrix_M_row (_k : Nat) (D : CallF) : CallF := mkC D []
noncomputable def matrix_M_row (_k : Nat) (_D : CallF) (a_0 : Int × Int × Slc) (i_1 : Int) (h : AHeap) : Option ((Slc) × AHeap) :=
 let h1 := AHeap.new h (.cells [.int .i64 a_0.1, .int .i64 a_0.2.1, .slice a_0.2.2.a a_0.2.2.len a_0.2.2.cap] 50 true 0)
 (ldL (⟨h.next, 2, none⟩ : Addr) h1).bind fun x2 =>
 (ldI .i64 (⟨h.next, 1, none⟩ : Addr) h1).bind fun x3 =>
 (ldI .i64 (⟨h.next, 1, none⟩ : Addr) h1).bind fun x4 =>
 (ldI .i64 (⟨h.next, 1, none⟩ : Addr) h1).bind fun x5 =>
 (Gx.subL 1 x2 (some (IntKind.wrap .i64 (i_1 * x3))) (some (IntKind.wrap .i64 ((IntKind.wrap .i64 (i_1 + 1)) * x4))) (some (IntKind.wrap .i64 ((IntKind.wrap .i64 (i_1 + 1)) * x5)))).bind fun l6 =>
 some (l6, h1)
noncomputable def r_matrix_M_row : RCode := an (.n) (rOf Tryz.prog 0 Tryz.f32)
noncomputable def e_matrix_M_row (k : Nat) (D : CallF) : Ent := entOf 32 [(0, .st [.i .i64, .i .i64, .l]), (1, .i .i64)] [(4, .l)] (matrix_M_row k D)
theorem q_matrix_M_row : (Tryz.f32.body).bind (rcodeOf Tryz.prog 0 Tryz.f32.ntmps) = some (strip r_matrix_M_row) := by kernel_rfl
theorem t_matrix_M_row (k : Nat) (D : CallF) : curF [(0, .st [.i .i64, .i .i64, .l]), (1, .i .i64)] (fun args h => denF (C_matrix_M_row k D) k r_matrix_M_row [(4, .l)] [none] args h) = matrix_M_row k D := by kernel_rfl
theorem ok_matrix_M_row {D : CallF} (hD : CSound Tryz.prog 0 D) (k : Nat) : EntOk Tryz.prog 0 (e_matrix_M_row k D) :=
 entOf_ok2 (mkC_sound hD (EntsOk.none)) Tryz.func32 rfl q_matrix_M_row rfl (t_matrix_M_row k D)
end Gq
namespace Gq
open Go Gx Go.Proofs
set_option maxRecDepth 100000
noncomputable def C_field_is (_k : Nat) (D : CallF) : CallF := mkC D []
noncomputable def field_is_l0b (_k : Nat) (_D : CallF) (j2 : AHeap → Option ((Bool) × AHeap)) (rec7 : Slc → Int → Int → AHeap → Option ((Bool) × AHeap)) (y3 : Slc) (y4 : Int) (y5 : Int) (h6 : AHeap) : Option ((Bool) × AHeap) :=
 (if (decide (y5 < y4)) = true then
 (Gx.idxL 1 y3 y5).bind fun q8 =>
 (ldI .i64 q8 h6).bind fun x9 =>
 joinK (fun (y10 : Slc) (y11 : Int) (y12 : Int) (y13 : Bool) (h14 : AHeap) =>
 (if y13 = true then
 some (false, h14)
 else
 rec7 y10 y11 (IntKind.wrap .i64 (y12 + 1)) h14)) fun j15 =>
 (if (decide (x9 < 0)) = true then
 j15 y3 y4 y5 true h6
 else
 j15 y3 y4 y5 (decide (x9 ≥ 256)) h6)
 else
 j2 h6)
noncomputable def field_is_l0 (k : Nat) (D : CallF) (j2 : AHeap → Option ((Bool) × AHeap)) : Slc → Int → Int → AHeap → Option ((Bool) × AHeap) :=
 iterK (α := Slc → Int → Int → AHeap → Option ((Bool) × AHeap)) (fun _ _ _ _ => none) k (field_is_l0b k D j2)
noncomputable def field_is (k : Nat) (D : CallF) (l_0 : Slc) (h : AHeap) : Option ((Bool) × AHeap) :=
 joinK (fun (h1 : AHeap) =>
 some (true, h1)) fun j2 =>
 field_is_l0 k D j2 l_0 (l_0.len : Int) 0 h
noncomputable def r_field_is : RCode := an (.s .n (.s (.j [] (.s .n (.b (.l [(5, .l), (6, .i .i64), (7, .i .i64)] (.s .n (.s .n (.s (.b (.s .n (.s (.j [(5, .l), (6, .i .i64), (7, .i .i64), (16, .b)] .n) .n))) .n))))))) .n)) (rOf Tryz.prog 0 Tryz.f58)
noncomputable def e_field_is (k : Nat) (D : CallF) : Ent := entOf 58 [(0, .l)] [(2, .b)] (field_is k D)
theorem q_field_is : (Tryz.f58.body).bind (rcodeOf Tryz.prog 0 Tryz.f58.ntmps) = some (strip r_field_is) := by kernel_rfl
theorem t_field_is (k : Nat) (D : CallF) : curF [(0, .l)] (fun args h => denF (C_field_is k D) k r_field_is [(2, .b)] [none] args h) = field_is k D := by kernel_rfl
theorem ok_field_is {D : CallF} (hD : CSound Tryz.prog 0 D) (k : Nat) : EntOk Tryz.prog 0 (e_field_is k D) :=
 entOf_ok2 (mkC_sound hD (EntsOk.none)) Tryz.func58 rfl q_field_is rfl (t_field_is k D)
end Gq
namespace Gq
open Go Gx Go.Proofs
set_option maxRecDepth 100000
noncomputable def C_field_double (_k : Nat) (D : CallF) : CallF := mkC D []
noncomputable def field_double (_k : Nat) (_D : CallF) (a_0 : Int) (h : AHeap) : Option ((Int) × AHeap) :=
 joinK (fun (a1 : Int) (h2 : AHeap) =>
 some (a1, h2)) fun j3 =>
 (if (decide ((IntKind.wrap .i64 (a_0 * 2)) ≥ 256)) = true then
 j3 (Go.bits .xor .i64 (IntKind.wrap .i64 (a_0 * 2)) 391) h
 else
 j3 (IntKind.wrap .i64 (a_0 * 2)) h)
noncomputable def r_field_double : RCode := an (.s .n (.s .n (.s (.j [(0, .i .i64)] .n) .n))) (rOf Tryz.prog 0 Tryz.f80)
noncomputable def e_field_double (k : Nat) (D : CallF) : Ent := entOf 80 [(0, .i .i64)] [(2, .i .i64)] (field_double k D)
theorem q_field_double : (Tryz.f80.body).bind (rcodeOf Tryz.prog 0 Tryz.f80.ntmps) = some (strip r_field_double) := by kernel_rfl
theorem t_field_double (k : Nat) (D : CallF) : curF [(0, .i .i64)] (fun args h => denF (C_field_double k D) k r_field_double [(2, .i .i64)] [none] args h) = field_double k D := by kernel_rfl
theorem ok_field_double {D : CallF} (hD : CSound Tryz.prog 0 D) (k : Nat) : EntOk Tryz.prog 0 (e_field_double k D) :=
 entOf_ok2 (mkC_sound hD (EntsOk.none)) Tryz.func80 rfl q_field_double rfl (t_field_double k D)
end Gq
namespace Gq
open Go Gx Go.Proofs
set_option maxRecDepth 100000
noncomputable def C_field_Field_make (k : Nat) (D : CallF) : CallF := mkC D [e_field_double k D]
noncomputable def field_Field_make_l0b (k : Nat) (D : CallF)  (rec5 : (Option Addr) → Int → Int → AHeap → Option ((Unit) × AHeap)) (f1 : Option Addr) (x2 : Int) (y3 : Int) (h4 : AHeap) : Option ((Unit) × AHeap) :=
 (if (decide (y3 < 255)) = true then
 (f1).bind fun p6 =>
 (Gx.idxA 510 1 (⟨p6.block, p6.off + 3 + 0, none⟩ : Addr) y3).bind fun q7 =>
 (st1 q7 (.int .u8 (IntKind.wrap .u8 x2)) h4).bind fun h8 =>
 (f1).bind fun p9 =>
 (Gx.idxA 510 1 (⟨p9.block, p9.off + 3 + 0, none⟩ : Addr) (IntKind.wrap .i64 (y3 + 255))).bind fun q10 =>
 (st1 q10 (.int .u8 (IntKind.wrap .u8 x2)) h8).bind fun h11 =>
 (f1).bind fun p12 =>
 (Gx.idxA 256 1 (⟨p12.block, p12.off + 3 + 510, none⟩ : Addr) x2).bind fun q13 =>
 (st1 q13 (.int .i64 y3) h11).bind fun h14 =>
 (field_double k D x2 h14).bind fun r15 =>
 rec5 f1 r15.1 (IntKind.wrap .i64 (y3 + 1)) r15.2
 else
 some ((), h4))
noncomputable def field_Field_make_l0 (k : Nat) (D : CallF)  : (Option Addr) → Int → Int → AHeap → Option ((Unit) × AHeap) :=
 iterK (α := (Option Addr) → Int → Int → AHeap → Option ((Unit) × AHeap)) (fun _ _ _ _ => none) k (field_Field_make_l0b k D )
noncomputable def field_Field_make (k : Nat) (D : CallF) (f_0 : Option Addr) (h : AHeap) : Option ((Unit) × AHeap) :=
 field_Field_make_l0 k D f_0 1 0 h
noncomputable def r_field_Field_make : RCode := an (.s .n (.s .n (.b (.l [(0, .p), (2, .i .i64), (4, .i .i64)] .n)))) (rOf Tryz.prog 0 Tryz.f72)
noncomputable def e_field_Field_make (k : Nat) (D : CallF) : Ent := entOf 72 [(0, .p)] [] (field_Field_make k D)
theorem q_field_Field_make : (Tryz.f72.body).bind (rcodeOf Tryz.prog 0 Tryz.f72.ntmps) = some (strip r_field_Field_make) := by kernel_rfl
theorem t_field_Field_make (k : Nat) (D : CallF) : curF [(0, .p)] (fun args h => denF (C_field_Field_make k D) k r_field_Field_make [] [] args h) = field_Field_make k D := by kernel_rfl
theorem ok_field_Field_make {D : CallF} (hD : CSound Tryz.prog 0 D) (k : Nat) : EntOk Tryz.prog 0 (e_field_Field_make k D) :=
 entOf_ok2 (mkC_sound hD (EntsOk.more (ok_field_double hD k) (EntsOk.none))) Tryz.func72 rfl q_field_Field_make rfl (t_field_Field_make k D)
end Gq
namespace Gq
open Go Gx Go.Proofs
noncomputable def e_sync_atomic_LoadUint32 (_k : Nat) (_D : CallF) : Ent := eLoad 82 .u32
theorem ok_sync_atomic_LoadUint32 {D : CallF} (_hD : CSound Tryz.prog 0 D) (k : Nat) : EntOk Tryz.prog 0 (e_sync_atomic_LoadUint32 k D) :=
 load_ok Tryz.func82 rfl rfl rfl .u32 (by kernel_rfl)
end Gq
namespace Gq
open Go Gx Go.Proofs
set_option maxRecDepth 100000
noncomputable def C_sync_atomic_Bool_Load (k : Nat) (D : CallF) : CallF := mkC D [e_sync_atomic_LoadUint32 k D]
noncomputable def sync_atomic_Bool_Load (_k : Nat) (_D : CallF) (x_0 : Option Addr) (h : AHeap) : Option ((Bool) × AHeap) :=
 (x_0).bind fun p1 =>
 (ldI .u32 (⟨p1.block, p1.off + 0, none⟩ : Addr) h).bind fun x2 =>
 some ((x2 != 0), h)
noncomputable def r_sync_atomic_Bool_Load : RCode := an (.n) (rOf Tryz.prog 0 Tryz.f78)
noncomputable def e_sync_atomic_Bool_Load (k : Nat) (D : CallF) : Ent := entOf 78 [(0, .p)] [(2, .b)] (sync_atomic_Bool_Load k D)
theorem q_sync_atomic_Bool_Load : (Tryz.f78.body).bind (rcodeOf Tryz.prog 0 Tryz.f78.ntmps) = some (strip r_sync_atomic_Bool_Load) := by kernel_rfl
theorem t_sync_atomic_Bool_Load (k : Nat) (D : CallF) : curF [(0, .p)] (fun args h => denF (C_sync_atomic_Bool_Load k D) k r_sync_atomic_Bool_Load [(2, .b)] [none] args h) = sync_atomic_Bool_Load k D := by kernel_rfl
theorem ok_sync_atomic_Bool_Load {D : CallF} (hD : CSound Tryz.prog 0 D) (k : Nat) : EntOk Tryz.prog 0 (e_sync_atomic_Bool_Load k D) :=
 entOf_ok2 (mkC_sound hD (EntsOk.more (ok_sync_atomic_LoadUint32 hD k) (EntsOk.none))) Tryz.func78 rfl q_sync_atomic_Bool_Load rfl (t_sync_atomic_Bool_Load k D)
end Gq
namespace Gq
open Go Gx Go.Proofs
noncomputable def e_internal_race_Disable (_k : Nat) (_D : CallF) : Ent := eMark0 91
theorem ok_internal_race_Disable {D : CallF} (_hD : CSound Tryz.prog 0 D) (k : Nat) : EntOk Tryz.prog 0 (e_internal_race_Disable k D) :=
 mark0_ok Tryz.func91 rfl rfl rfl .disable (by kernel_rfl)
end Gq
namespace Gq
open Go Gx Go.Proofs
noncomputable def e_sync_atomic_CompareAndSwapInt32 (_k : Nat) (_D : CallF) : Ent := eCas 92 .i32
theorem ok_sync_atomic_CompareAndSwapInt32 {D : CallF} (_hD : CSound Tryz.prog 0 D) (k : Nat) : EntOk Tryz.prog 0 (e_sync_atomic_CompareAndSwapInt32 k D) :=
 cas_ok Tryz.func92 rfl rfl rfl .i32 (by kernel_rfl)
end Gq
namespace Gq
open Go Gx Go.Proofs
noncomputable def e_internal_race_Enable (_k : Nat) (_D : CallF) : Ent := eMark0 93
theorem ok_internal_race_Enable {D : CallF} (_hD : CSound Tryz.prog 0 D) (k : Nat) : EntOk Tryz.prog 0 (e_internal_race_Enable k D) :=
 mark0_ok Tryz.func93 rfl rfl rfl .enable (by kernel_rfl)
end Gq
namespace Gq
open Go Gx Go.Proofs
noncomputable def e_internal_race_Acquire (_k : Nat) (_D : CallF) : Ent := eMark1 94
theorem ok_internal_race_Acquire {D : CallF} (_hD : CSound Tryz.prog 0 D) (k : Nat) : EntOk Tryz.prog 0 (e_internal_race_Acquire k D) :=
 mark1_ok Tryz.func94 rfl rfl rfl .acquire (by kernel_rfl)
end Gq
namespace Gq
open Go Gx Go.Proofs
noncomputable def e_sync_atomic_AddInt32 (_k : Nat) (_D : CallF) : Ent := eAdd 97 .i32
theorem ok_sync_atomic_AddInt32 {D : CallF} (_hD : CSound Tryz.prog 0 D) (k : Nat) : EntOk Tryz.prog 0 (e_sync_atomic_AddInt32 k D) :=
 add_ok Tryz.func97 rfl rfl rfl .i32 (by kernel_rfl)
end Gq
namespace Gq
open Go Gx Go.Proofs
set_option maxRecDepth 100000
noncomputable def C_internal_sync_Mutex_Lock (k : Nat) (D : CallF) : CallF := mkC D [e_internal_race_Disable k D, e_sync_atomic_CompareAndSwapInt32 k D, e_internal_race_Enable k D, e_internal_race_Acquire k D]
noncomputable def internal_sync_Mutex_Lock (_k : Nat) (_D : CallF) (m_0 : Option Addr) (h : AHeap) : Option ((Unit) × AHeap) :=
 (m_0).bind fun p1 =>
 (ldI .i32 (⟨p1.block, p1.off + 0, none⟩ : Addr) h).bind fun x2 =>
 (if x2 = 0 then
 (st1 (⟨p1.block, p1.off + 0, none⟩ : Addr) (.int .i32 1) h).bind fun h3 =>
 (m_0).bind fun p4 =>
 (AHeap.rd1 h3 p4.block p4.off).bind fun _ =>
 some ((), h3)
 else none)
noncomputable def r_internal_sync_Mutex_Lock : RCode := an (.n) (rOf Tryz.prog 0 Tryz.f87)
noncomputable def e_internal_sync_Mutex_Lock (k : Nat) (D : CallF) : Ent := entOf 87 [(0, .p)] [] (internal_sync_Mutex_Lock k D)
theorem q_internal_sync_Mutex_Lock : (Tryz.f87.body).bind (rcodeOf Tryz.prog 0 Tryz.f87.ntmps) = some (strip r_internal_sync_Mutex_Lock) := by kernel_rfl
theorem t_internal_sync_Mutex_Lock (k : Nat) (D : CallF) : curF [(0, .p)] (fun args h => denF (C_internal_sync_Mutex_Lock k D) k r_internal_sync_Mutex_Lock [] [] args h) = internal_sync_Mutex_Lock k D := by kernel_rfl
theorem ok_internal_sync_Mutex_Lock {D : CallF} (hD : CSound Tryz.prog 0 D) (k : Nat) : EntOk Tryz.prog 0 (e_internal_sync_Mutex_Lock k D) :=
 entOf_ok2 (mkC_sound hD (EntsOk.more (ok_internal_race_Disable hD k) (EntsOk.more (ok_sync_atomic_CompareAndSwapInt32 hD k) (EntsOk.more (ok_internal_race_Enable hD k) (EntsOk.more (ok_internal_race_Acquire hD k) (EntsOk.none)))))) Tryz.func87 rfl q_internal_sync_Mutex_Lock rfl (t_internal_sync_Mutex_Lock k D)
end Gq
namespace Gq
open Go Gx Go.Proofs
set_option maxRecDepth 100000
noncomputable def C_sync_Mutex_Lock (k : Nat) (D : CallF) : CallF := mkC D [e_internal_sync_Mutex_Lock k D]
noncomputable def sync_Mutex_Lock (k : Nat) (D : CallF) (m_0 : Option Addr) (h : AHeap) : Option ((Unit) × AHeap) :=
 (m_0).bind fun p1 =>
 (internal_sync_Mutex_Lock k D (some (⟨p1.block, p1.off + 0, none⟩ : Addr)) h).bind fun r2 =>
 some ((), r2.2)
noncomputable def r_sync_Mutex_Lock : RCode := an (.n) (rOf Tryz.prog 0 Tryz.f83)
noncomputable def e_sync_Mutex_Lock (k : Nat) (D : CallF) : Ent := entOf 83 [(0, .p)] [] (sync_Mutex_Lock k D)
theorem q_sync_Mutex_Lock : (Tryz.f83.body).bind (rcodeOf Tryz.prog 0 Tryz.f83.ntmps) = some (strip r_sync_Mutex_Lock) := by kernel_rfl
theorem t_sync_Mutex_Lock (k : Nat) (D : CallF) : curF [(0, .p)] (fun args h => denF (C_sync_Mutex_Lock k D) k r_sync_Mutex_Lock [] [] args h) = sync_Mutex_Lock k D := by kernel_rfl
theorem ok_sync_Mutex_Lock {D : CallF} (hD : CSound Tryz.prog 0 D) (k : Nat) : EntOk Tryz.prog 0 (e_sync_Mutex_Lock k D) :=
 entOf_ok2 (mkC_sound hD (EntsOk.more (ok_internal_sync_Mutex_Lock hD k) (EntsOk.none))) Tryz.func83 rfl q_sync_Mutex_Lock rfl (t_sync_Mutex_Lock k D)
end Gq
namespace Gq
open Go Gx Go.Proofs
noncomputable def e_internal_race_ReleaseMerge (_k : Nat) (_D : CallF) : Ent := eMark1 96
theorem ok_internal_race_ReleaseMerge {D : CallF} (_hD : CSound Tryz.prog 0 D) (k : Nat) : EntOk Tryz.prog 0 (e_internal_race_ReleaseMerge k D) :=
 mark1_ok Tryz.func96 rfl rfl rfl .releaseMerge (by kernel_rfl)
end Gq
namespace Gq
open Go Gx Go.Proofs
set_option maxRecDepth 100000
noncomputable def C_internal_sync_Mutex_Unlock (k : Nat) (D : CallF) : CallF := mkC D [e_sync_atomic_AddInt32 k D, e_internal_race_Enable k D, e_internal_race_ReleaseMerge k D, e_internal_race_Disable k D]
noncomputable def internal_sync_Mutex_Unlock (_k : Nat) (D : CallF) (m_0 : Option Addr) (h : AHeap) : Option ((Unit) × AHeap) :=
 joinK (fun (m1 : Option Addr) (h2 : AHeap) =>
 (m1).bind fun p4 =>
 (ldI .i32 (⟨p4.block, p4.off + 0, none⟩ : Addr) h2).bind fun x5 =>
 (st1 (⟨p4.block, p4.off + 0, none⟩ : Addr) (.int .i32 (IntKind.wrap .i32 (x5 + (-1)))) h2).bind fun h6 =>
 joinK (fun (h7 : AHeap) =>
 some ((), h7)) fun j8 =>
 (if ((IntKind.wrap .i32 (x5 + (-1))) != 0) = true then
 D ((Unit) × AHeap) 98 [.pointer m1, .int .i32 (IntKind.wrap .i32 (x5 + (-1)))] h6 fun _ h10 =>
 j8 h10
 else
 j8 h6)) fun j3 =>
 (m_0).bind fun p11 =>
 (ldI .i32 (⟨p11.block, p11.off + 0, none⟩ : Addr) h).bind fun _x12 =>
 (m_0).bind fun p13 =>
 (AHeap.rd1 h p13.block p13.off).bind fun _ =>
 j3 m_0 h
noncomputable def r_internal_sync_Mutex_Unlock : RCode := an (.s (.j [(0, .p)] .n) (.s .n (.s (.j [] .n) .n))) (rOf Tryz.prog 0 Tryz.f88)
noncomputable def e_internal_sync_Mutex_Unlock (k : Nat) (D : CallF) : Ent := entOf 88 [(0, .p)] [] (internal_sync_Mutex_Unlock k D)
theorem q_internal_sync_Mutex_Unlock : (Tryz.f88.body).bind (rcodeOf Tryz.prog 0 Tryz.f88.ntmps) = some (strip r_internal_sync_Mutex_Unlock) := by kernel_rfl
theorem t_internal_sync_Mutex_Unlock (k : Nat) (D : CallF) : curF [(0, .p)] (fun args h => denF (C_internal_sync_Mutex_Unlock k D) k r_internal_sync_Mutex_Unlock [] [] args h) = internal_sync_Mutex_Unlock k D := by kernel_rfl
theorem ok_internal_sync_Mutex_Unlock {D : CallF} (hD : CSound Tryz.prog 0 D) (k : Nat) : EntOk Tryz.prog 0 (e_internal_sync_Mutex_Unlock k D) :=
 entOf_ok2 (mkC_sound hD (EntsOk.more (ok_sync_atomic_AddInt32 hD k) (EntsOk.more (ok_internal_race_Enable hD k) (EntsOk.more (ok_internal_race_ReleaseMerge hD k) (EntsOk.more (ok_internal_race_Disable hD k) (EntsOk.none)))))) Tryz.func88 rfl q_internal_sync_Mutex_Unlock rfl (t_internal_sync_Mutex_Unlock k D)
end Gq
namespace Gq
open Go Gx Go.Proofs
set_option maxRecDepth 100000
noncomputable def C_sync_Mutex_Unlock (k : Nat) (D : CallF) : CallF := mkC D [e_internal_sync_Mutex_Unlock k D]
noncomputable def sync_Mutex_Unlock (k : Nat) (D : CallF) (m_0 : Option Addr) (h : AHeap) : Option ((Unit) × AHeap) :=
 (m_0).bind fun p1 =>
 (internal_sync_Mutex_Unlock k D (some (⟨p1.block, p1.off + 0, none⟩ : Addr)) h).bind fun r2 =>
 some ((), r2.2)
noncomputable def r_sync_Mutex_Unlock : RCode := an (.n) (rOf Tryz.prog 0 Tryz.f84)
noncomputable def e_sync_Mutex_Unlock (k : Nat) (D : CallF) : Ent := entOf 84 [(0, .p)] [] (sync_Mutex_Unlock k D)
theorem q_sync_Mutex_Unlock : (Tryz.f84.body).bind (rcodeOf Tryz.prog 0 Tryz.f84.ntmps) = some (strip r_sync_Mutex_Unlock) := by kernel_rfl
theorem t_sync_Mutex_Unlock (k : Nat) (D : CallF) : curF [(0, .p)] (fun args h => denF (C_sync_Mutex_Unlock k D) k r_sync_Mutex_Unlock [] [] args h) = sync_Mutex_Unlock k D := by kernel_rfl
theorem ok_sync_Mutex_Unlock {D : CallF} (hD : CSound Tryz.prog 0 D) (k : Nat) : EntOk Tryz.prog 0 (e_sync_Mutex_Unlock k D) :=
 entOf_ok2 (mkC_sound hD (EntsOk.more (ok_internal_sync_Mutex_Unlock hD k) (EntsOk.none))) Tryz.func84 rfl q_sync_Mutex_Unlock rfl (t_sync_Mutex_Unlock k D)
theorem d_sync_Mutex_Unlock {D : CallF} (hD : CSound Tryz.prog 0 D) (k : Nat) : EntD Tryz.prog 0 (e_sync_Mutex_Unlock k D) :=
 entOf_okD (mkC_sound hD (EntsOk.more (ok_internal_sync_Mutex_Unlock hD k) (EntsOk.none))) Tryz.func84 rfl q_sync_Mutex_Unlock rfl (t_sync_Mutex_Unlock k D)
end Gq
namespace Gq
open Go Gx Go.Proofs
set_option maxRecDepth 100000
noncomputable def C_sync_atomic_b32 (_k : Nat) (D : CallF) : CallF := mkC D []
noncomputable def sync_atomic_b32 (_k : Nat) (_D : CallF) (b_0 : Bool) (h : AHeap) : Option ((Int) × AHeap) :=
 (if b_0 = true then
 some (1, h)
 else
 some (0, h))
noncomputable def r_sync_atomic_b32 : RCode := an (.n) (rOf Tryz.prog 0 Tryz.f90)
noncomputable def e_sync_atomic_b32 (k : Nat) (D : CallF) : Ent := entOf 90 [(0, .b)] [(2, .i .u32)] (sync_atomic_b32 k D)
theorem q_sync_atomic_b32 : (Tryz.f90.body).bind (rcodeOf Tryz.prog 0 Tryz.f90.ntmps) = some (strip r_sync_atomic_b32) := by kernel_rfl
theorem t_sync_atomic_b32 (k : Nat) (D : CallF) : curF [(0, .b)] (fun args h => denF (C_sync_atomic_b32 k D) k r_sync_atomic_b32 [(2, .i .u32)] [none] args h) = sync_atomic_b32 k D := by kernel_rfl
theorem ok_sync_atomic_b32 {D : CallF} (hD : CSound Tryz.prog 0 D) (k : Nat) : EntOk Tryz.prog 0 (e_sync_atomic_b32 k D) :=
 entOf_ok2 (mkC_sound hD (EntsOk.none)) Tryz.func90 rfl q_sync_atomic_b32 rfl (t_sync_atomic_b32 k D)
end Gq
namespace Gq
open Go Gx Go.Proofs
noncomputable def e_sync_atomic_StoreUint32 (_k : Nat) (_D : CallF) : Ent := eStore 89 .u32
theorem ok_sync_atomic_StoreUint32 {D : CallF} (_hD : CSound Tryz.prog 0 D) (k : Nat) : EntOk Tryz.prog 0 (e_sync_atomic_StoreUint32 k D) :=
 store_ok Tryz.func89 rfl rfl rfl .u32 (by kernel_rfl)
end Gq
namespace Gq
open Go Gx Go.Proofs
set_option maxRecDepth 100000
noncomputable def C_sync_atomic_Bool_Store (k : Nat) (D : CallF) : CallF := mkC D [e_sync_atomic_b32 k D, e_sync_atomic_StoreUint32 k D]
noncomputable def sync_atomic_Bool_Store (k : Nat) (D : CallF) (x_0 : Option Addr) (val_1 : Bool) (h : AHeap) : Option ((Unit) × AHeap) :=
 (sync_atomic_b32 k D val_1 h).bind fun r1 =>
 (x_0).bind fun p2 =>
 (ldI .u32 (⟨p2.block, p2.off + 0, none⟩ : Addr) r1.2).bind fun _ =>
 (st1 (⟨p2.block, p2.off + 0, none⟩ : Addr) (.int .u32 r1.1) r1.2).bind fun h4 =>
 some ((), h4)
noncomputable def r_sync_atomic_Bool_Store : RCode := an (.n) (rOf Tryz.prog 0 Tryz.f85)
noncomputable def e_sync_atomic_Bool_Store (k : Nat) (D : CallF) : Ent := entOf 85 [(0, .p), (1, .b)] [] (sync_atomic_Bool_Store k D)
theorem q_sync_atomic_Bool_Store : (Tryz.f85.body).bind (rcodeOf Tryz.prog 0 Tryz.f85.ntmps) = some (strip r_sync_atomic_Bool_Store) := by kernel_rfl
theorem t_sync_atomic_Bool_Store (k : Nat) (D : CallF) : curF [(0, .p), (1, .b)] (fun args h => denF (C_sync_atomic_Bool_Store k D) k r_sync_atomic_Bool_Store [] [] args h) = sync_atomic_Bool_Store k D := by kernel_rfl
theorem ok_sync_atomic_Bool_Store {D : CallF} (hD : CSound Tryz.prog 0 D) (k : Nat) : EntOk Tryz.prog 0 (e_sync_atomic_Bool_Store k D) :=
 entOf_ok2 (mkC_sound hD (EntsOk.more (ok_sync_atomic_b32 hD k) (EntsOk.more (ok_sync_atomic_StoreUint32 hD k) (EntsOk.none)))) Tryz.func85 rfl q_sync_atomic_Bool_Store rfl (t_sync_atomic_Bool_Store k D)
theorem d_sync_atomic_Bool_Store {D : CallF} (hD : CSound Tryz.prog 0 D) (k : Nat) : EntD Tryz.prog 0 (e_sync_atomic_Bool_Store k D) :=
 entOf_okD (mkC_sound hD (EntsOk.more (ok_sync_atomic_b32 hD k) (EntsOk.more (ok_sync_atomic_StoreUint32 hD k) (EntsOk.none)))) Tryz.func85 rfl q_sync_atomic_Bool_Store rfl (t_sync_atomic_Bool_Store k D)
end Gq
namespace Gq
open Go Gx Go.Proofs
set_option maxRecDepth 100000
noncomputable def C_sync_Once_doSlow (k : Nat) (D : CallF) : CallF := mkC D [e_sync_Mutex_Lock k D, e_sync_atomic_Bool_Load k D, e_sync_atomic_Bool_Store k D, e_sync_Mutex_Unlock k D]
noncomputable def sync_Once_doSlow (k : Nat) (D : CallF) (a_0 : Option Addr) (a_1 : Value) (h : AHeap) : Option (Unit × AHeap) :=
 (a_0).bind fun p1 =>
 (sync_Mutex_Lock k D (some (⟨p1.block, p1.off + 1, none⟩ : Addr)) h).bind fun r2 =>
 (a_0).bind fun p3 =>
 (a_0).bind fun p4 =>
 (sync_atomic_Bool_Load k D (some (⟨p4.block, p4.off + 0, none⟩ : Addr)) r2.2).bind fun r5 =>
 (if (!r5.1) = true then
 (a_0).bind fun p6 =>
 callD (C_sync_Once_doSlow k D) a_1 [] r5.2 fun _ h8 =>
 (sync_atomic_Bool_Store k D (some (⟨p6.block, p6.off + 0, none⟩ : Addr)) true h8).bind fun r9 =>
 (sync_Mutex_Unlock k D (some (⟨p3.block, p3.off + 1, none⟩ : Addr)) r9.2).bind fun r10 =>
 some ((), r10.2)
 else none)
def r_sync_Once_doSlow : OnceC := ⟨79, [⟨some 4, .p (.mv (.tmp 0)), none, none⟩, ⟨some 5, .p (.nilP (.tmp 4)), none, none⟩, ⟨some 6, .p (.fieldAddr 1 (.tmp 5)), none, none⟩, ⟨some 7, .e (.call (.func 83) [.tmp 6]), none, none⟩], [⟨some 8, .p (.mv (.tmp 0)), none, none⟩, ⟨some 9, .p (.nilP (.tmp 8)), none, none⟩, ⟨some 10, .p (.fieldAddr 1 (.tmp 9)), none, none⟩], 84, [.tmp 10], [⟨some 11, .p (.mv (.tmp 0)), none, none⟩, ⟨some 12, .p (.nilP (.tmp 11)), none, none⟩, ⟨some 13, .p (.fieldAddr 0 (.tmp 12)), none, none⟩, ⟨some 14, .e (.call (.func 78) [.tmp 13]), none, none⟩, ⟨some 15, .p (.un .not (.tmp 14)), none, none⟩], 15, [⟨some 16, .p (.mv (.tmp 0)), none, none⟩, ⟨some 17, .p (.nilP (.tmp 16)), none, none⟩, ⟨some 18, .p (.fieldAddr 0 (.tmp 17)), none, none⟩], 85, [.tmp 18, .const (.bool true)], [⟨some 19, .p (.mv (.tmp 1)), none, none⟩, ⟨some 20, .e (.call (.tmp 19) []), none, none⟩]⟩
noncomputable def e_sync_Once_doSlow (k : Nat) (D : CallF) : Ent := entOf 79 [(0, .p), (1, .v)] [] (sync_Once_doSlow k D)
theorem q_sync_Once_doSlow : (Tryz.f79.body).bind (onceOf Tryz.prog 0 Tryz.f79.ntmps r_sync_Once_doSlow.id) = some (stripOnce r_sync_Once_doSlow) := by kernel_rfl
theorem t_sync_Once_doSlow (k : Nat) (D : CallF) : curF [(0, .p), (1, .v)] (fun args h => (eOnce (C_sync_Once_doSlow k D) r_sync_Once_doSlow (e_sync_Mutex_Unlock k D) (e_sync_atomic_Bool_Store k D)).run (Unit × AHeap) args h fun v h => match v with | .tuple ⟨[]⟩ => some ((), h) | _ => none) = sync_Once_doSlow k D := by kernel_rfl
theorem ok_sync_Once_doSlow {D : CallF} (hD : CSound Tryz.prog 0 D) (k : Nat) : EntOk Tryz.prog 0 (e_sync_Once_doSlow k D) :=
 entOk_unit (once_ok (mkC_sound hD (EntsOk.more (ok_sync_Mutex_Lock hD k) (EntsOk.more (ok_sync_atomic_Bool_Load hD k) (EntsOk.more (ok_sync_atomic_Bool_Store hD k) (EntsOk.more (ok_sync_Mutex_Unlock hD k) (EntsOk.none)))))) Tryz.func79 rfl rfl (onceOf_some q_sync_Once_doSlow) (d_sync_Mutex_Unlock hD k) (d_sync_atomic_Bool_Store hD k) rfl rfl) (t_sync_Once_doSlow k D)
end Gq
namespace Gq
open Go Gx Go.Proofs
set_option maxRecDepth 100000
noncomputable def C_sync_Once_Do (k : Nat) (D : CallF) : CallF := mkC D [e_sync_atomic_Bool_Load k D, e_sync_Once_doSlow k D]
noncomputable def sync_Once_Do (k : Nat) (D : CallF) (o_0 : Option Addr) (f_1 : Value) (h : AHeap) : Option ((Unit) × AHeap) :=
 (o_0).bind fun p1 =>
 (sync_atomic_Bool_Load k D (some (⟨p1.block, p1.off + 0, none⟩ : Addr)) h).bind fun r2 =>
 (if (!r2.1) = true then
 (sync_Once_doSlow k D o_0 f_1 r2.2).bind fun r3 =>
 some ((), r3.2)
 else
 some ((), r2.2))
noncomputable def r_sync_Once_Do : RCode := an (.n) (rOf Tryz.prog 0 Tryz.f71)
noncomputable def e_sync_Once_Do (k : Nat) (D : CallF) : Ent := entOf 71 [(0, .p), (1, .v)] [] (sync_Once_Do k D)
theorem q_sync_Once_Do : (Tryz.f71.body).bind (rcodeOf Tryz.prog 0 Tryz.f71.ntmps) = some (strip r_sync_Once_Do) := by kernel_rfl
theorem t_sync_Once_Do (k : Nat) (D : CallF) : curF [(0, .p), (1, .v)] (fun args h => denF (C_sync_Once_Do k D) k r_sync_Once_Do [] [] args h) = sync_Once_Do k D := by kernel_rfl
theorem ok_sync_Once_Do {D : CallF} (hD : CSound Tryz.prog 0 D) (k : Nat) : EntOk Tryz.prog 0 (e_sync_Once_Do k D) :=
 entOf_ok2 (mkC_sound hD (EntsOk.more (ok_sync_atomic_Bool_Load hD k) (EntsOk.more (ok_sync_Once_doSlow hD k) (EntsOk.none)))) Tryz.func71 rfl q_sync_Once_Do rfl (t_sync_Once_Do k D)
end Gq
namespace Gq
open Go Gx Go.Proofs
set_option maxRecDepth 100000
noncomputable def C_field_Field_tables (k : Nat) (D : CallF) : CallF := mkC D [e_sync_Once_Do k D]
noncomputable def field_Field_tables (k : Nat) (D : CallF) (f_0 : Option Addr) (h : AHeap) : Option (((Option Addr)) × AHeap) :=
 (f_0).bind fun p1 =>
 (sync_Once_Do k D (some (⟨p1.block, p1.off + 0, none⟩ : Addr)) (.func (.func 72) ⟨[.pointer f_0]⟩ ⟨[]⟩) h).bind fun r2 =>
 (f_0).bind fun p3 =>
 some ((some (⟨p3.block, p3.off + 3, none⟩ : Addr)), r2.2)
noncomputable def r_field_Field_tables : RCode := an (.n) (rOf Tryz.prog 0 Tryz.f59)
noncomputable def e_field_Field_tables (k : Nat) (D : CallF) : Ent := entOf 59 [(0, .p)] [(2, .p)] (field_Field_tables k D)
theorem q_field_Field_tables : (Tryz.f59.body).bind (rcodeOf Tryz.prog 0 Tryz.f59.ntmps) = some (strip r_field_Field_tables) := by kernel_rfl
theorem t_field_Field_tables (k : Nat) (D : CallF) : curF [(0, .p)] (fun args h => denF (C_field_Field_tables k D) k r_field_Field_tables [(2, .p)] [none] args h) = field_Field_tables k D := by kernel_rfl
theorem ok_field_Field_tables {D : CallF} (hD : CSound Tryz.prog 0 D) (k : Nat) : EntOk Tryz.prog 0 (e_field_Field_tables k D) :=
 entOf_ok2 (mkC_sound hD (EntsOk.more (ok_sync_Once_Do hD k) (EntsOk.none))) Tryz.func59 rfl q_field_Field_tables rfl (t_field_Field_tables k D)
end Gq
namespace Gq
open Go Gx Go.Proofs
set_option maxRecDepth 100000
noncomputable def C_field_Field_Div (k : Nat) (D : CallF) : CallF := mkC D [e_field_is k D, e_field_Field_tables k D]
noncomputable def field_Field_Div (k : Nat) (D : CallF) (f_0 : Option Addr) (a_1 : Int) (b_2 : Int) (h : AHeap) : Option ((Int × Int) × AHeap) :=
 let h1 := AHeap.new h (.cells [.int .i64 a_1, .int .i64 b_2] 3 true 0)
 (field_is k D (⟨(some ⟨h.next, 0, some 0⟩), 2, 2⟩ : Slc) h1).bind fun r2 =>
 (if (!r2.1) = true then
 some ((0, 1), r2.2)
 else
 (if (b_2 == 0) = true then
 some ((0, 30), r2.2)
 else
 (if (a_1 == 0) = true then
 some ((0, 0), r2.2)
 else
 (field_Field_tables k D f_0 r2.2).bind fun r3 =>
 (r3.1).bind fun p4 =>
 (Gx.idxA 256 1 (⟨p4.block, p4.off + 510, none⟩ : Addr) a_1).bind fun q5 =>
 (ldI .i64 q5 r3.2).bind fun x6 =>
 (r3.1).bind fun p7 =>
 (Gx.idxA 256 1 (⟨p7.block, p7.off + 510, none⟩ : Addr) b_2).bind fun q8 =>
 (ldI .i64 q8 r3.2).bind fun x9 =>
 (r3.1).bind fun p10 =>
 (Gx.idxA 510 1 (⟨p10.block, p10.off + 0, none⟩ : Addr) (IntKind.wrap .i64 ((IntKind.wrap .i64 (x6 + 255)) - x9))).bind fun q11 =>
 (ldI .u8 q11 r3.2).bind fun x12 =>
 some (((IntKind.wrap .i64 x12), 0), r3.2))))
noncomputable def r_field_Field_Div : RCode := an (.n) (rOf Tryz.prog 0 Tryz.f33)
noncomputable def e_field_Field_Div (k : Nat) (D : CallF) : Ent := entOf 33 [(0, .p), (1, .i .i64), (2, .i .i64)] [(6, .i .i64), (7, .i .i64)] (field_Field_Div k D)
theorem q_field_Field_Div : (Tryz.f33.body).bind (rcodeOf Tryz.prog 0 Tryz.f33.ntmps) = some (strip r_field_Field_Div) := by kernel_rfl
theorem t_field_Field_Div (k : Nat) (D : CallF) : curF [(0, .p), (1, .i .i64), (2, .i .i64)] (fun args h => denF (C_field_Field_Div k D) k r_field_Field_Div [(6, .i .i64), (7, .i .i64)] [none, none] args h) = field_Field_Div k D := by kernel_rfl
theorem ok_field_Field_Div {D : CallF} (hD : CSound Tryz.prog 0 D) (k : Nat) : EntOk Tryz.prog 0 (e_field_Field_Div k D) :=
 entOf_ok2 (mkC_sound hD (EntsOk.more (ok_field_is hD k) (EntsOk.more (ok_field_Field_tables hD k) (EntsOk.none)))) Tryz.func33 rfl q_field_Field_Div rfl (t_field_Field_Div k D)
end Gq
namespace Gq
open Go Gx Go.Proofs
set_option maxRecDepth 100000
noncomputable def C_matrix_Space_Cauchy (k : Nat) (D : CallF) : CallF := mkC D [e_matrix_blank k D, e_matrix_M_row k D, e_field_Field_Div k D]
noncomputable def matrix_Space_Cauchy_l1b (k : Nat) (D : CallF) (j44 : (Option Addr) → Int → (Option Addr) → (Option Addr) → Int → Int → AHeap → Option (((Int × Int × Slc) × Int) × AHeap)) (rec55 : (Option Addr) → Int → (Option Addr) → (Option Addr) → Int → Int → Int → Int → Int → AHeap → Option (((Int × Int × Slc) × Int) × AHeap)) (s45 : Option Addr) (kv46 : Int) (y47 : Option Addr) (out48 : Option Addr) (i49 : Int) (y50 : Int) (y51 : Int) (y52 : Int) (y53 : Int) (h54 : AHeap) : Option (((Int × Int × Slc) × Int) × AHeap) :=
 (if (decide (y53 < y52)) = true then
 joinK (fun (s56 : Option Addr) (kv57 : Int) (y58 : Option Addr) (out59 : Option Addr) (i60 : Int) (y61 : Int) (y62 : Int) (y63 : Int) (y64 : Int) (h65 : AHeap) =>
 rec55 s56 kv57 y58 out59 i60 y61 y62 y63 (IntKind.wrap .i64 (y64 + 1)) h65) fun j66 =>
 joinK (fun (s67 : Option Addr) (kv68 : Int) (y69 : Option Addr) (out70 : Option Addr) (i71 : Int) (j72 : Int) (y73 : Int) (y74 : Int) (y75 : Int) (y76 : Int) (y77 : Bool) (h78 : AHeap) =>
 (if y77 = true then
 (out70).bind fun p80 =>
 (ldA 3 p80 h78).bind fun l81 =>
 (decC [.i .i64, .i .i64, .l] l81).bind fun x82 =>
 (matrix_M_row k D (x82.1, x82.2.1, x82.2.2) i71 h78).bind fun r83 =>
 (Gx.idxL 1 r83.1 j72).bind fun q84 =>
 (st1 q84 (.int .i64 1) r83.2).bind fun h85 =>
 j66 s67 kv68 y69 out70 i71 y73 y74 y75 y76 h85
 else
 (if (decide (i71 ≥ kv68)) = true then
 (out70).bind fun p86 =>
 (ldA 3 p86 h78).bind fun l87 =>
 (decC [.i .i64, .i .i64, .l] l87).bind fun x88 =>
 (matrix_M_row k D (x88.1, x88.2.1, x88.2.2) i71 h78).bind fun r89 =>
 (s67).bind fun p90 =>
 (ldP (⟨p90.block, p90.off + 0, none⟩ : Addr) r89.2).bind fun x91 =>
 guardP (SameW [h78] (fun H93 => (ldP (⟨p90.block, p90.off + 0, none⟩ : Addr) H93).bind fun y92 => some (.pointer y92)) (.pointer x91)) (
 (field_Field_Div k D x91 1 (Go.bits .xor .i64 i71 j72) r89.2).bind fun r94 =>
 (Gx.idxL 1 r89.1 j72).bind fun q95 =>
 (st1 q95 (.int .i64 r94.1.1) r94.2).bind fun h96 =>
 j66 s67 kv68 y69 out70 i71 y73 y74 y75 y76 h96)
 else
 j66 s67 kv68 y69 out70 i71 y73 y74 y75 y76 h78))) fun j79 =>
 (if (decide (i49 < kv46)) = true then
 j79 s45 kv46 y47 out48 i49 y53 y50 y51 y52 y53 (i49 == y53) h54
 else
 j79 s45 kv46 y47 out48 i49 y53 y50 y51 y52 y53 false h54)
 else
 j44 s45 kv46 y47 out48 y50 y51 h54)
noncomputable def matrix_Space_Cauchy_l1 (k : Nat) (D : CallF) (j44 : (Option Addr) → Int → (Option Addr) → (Option Addr) → Int → Int → AHeap → Option (((Int × Int × Slc) × Int) × AHeap)) : (Option Addr) → Int → (Option Addr) → (Option Addr) → Int → Int → Int → Int → Int → AHeap → Option (((Int × Int × Slc) × Int) × AHeap) :=
 iterK (α := (Option Addr) → Int → (Option Addr) → (Option Addr) → Int → Int → Int → Int → Int → AHeap → Option (((Int × Int × Slc) × Int) × AHeap)) (fun _ _ _ _ _ _ _ _ _ _ => none) k (matrix_Space_Cauchy_l1b k D j44)
noncomputable def matrix_Space_Cauchy_l0b (k : Nat) (D : CallF) (j20 : (Option Addr) → (Option Addr) → AHeap → Option (((Int × Int × Slc) × Int) × AHeap)) (rec36 : (Option Addr) → Int → (Option Addr) → (Option Addr) → Int → Int → AHeap → Option (((Int × Int × Slc) × Int) × AHeap)) (s29 : Option Addr) (kv30 : Int) (y31 : Option Addr) (out32 : Option Addr) (y33 : Int) (y34 : Int) (h35 : AHeap) : Option (((Int × Int × Slc) × Int) × AHeap) :=
 (if (decide (y34 < y33)) = true then
 joinK (fun (s37 : Option Addr) (kv38 : Int) (y39 : Option Addr) (out40 : Option Addr) (y41 : Int) (y42 : Int) (h43 : AHeap) =>
 rec36 s37 kv38 y39 out40 y41 (IntKind.wrap .i64 (y42 + 1)) h43) fun j44 =>
 matrix_Space_Cauchy_l1 k D j44 s29 kv30 y31 out32 y34 y33 y34 kv30 0 h35
 else
 j20 y31 out32 h35)
noncomputable def matrix_Space_Cauchy_l0 (k : Nat) (D : CallF) (j20 : (Option Addr) → (Option Addr) → AHeap → Option (((Int × Int × Slc) × Int) × AHeap)) : (Option Addr) → Int → (Option Addr) → (Option Addr) → Int → Int → AHeap → Option (((Int × Int × Slc) × Int) × AHeap) :=
 iterK (α := (Option Addr) → Int → (Option Addr) → (Option Addr) → Int → Int → AHeap → Option (((Int × Int × Slc) × Int) × AHeap)) (fun _ _ _ _ _ _ _ => none) k (matrix_Space_Cauchy_l0b k D j20)
noncomputable def matrix_Space_Cauchy (k : Nat) (D : CallF) (s_0 : Option Addr) (k_1 : Int) (m_2 : Int) (h : AHeap) : Option (((Int × Int × Slc) × Int) × AHeap) :=
 let h1 := AHeap.new h (.cells [.int .i64 0, .int .i64 0, .slice none 0 0] 50 true 0)
 joinK (fun (s2 : Option Addr) (kv3 : Int) (m4 : Int) (y5 : Option Addr) (y6 : Bool) (h7 : AHeap) =>
 (if y6 = true then
 (y5).bind fun p9 =>
 (stL 3 p9 ([.int .i64 0, .int .i64 0, .slice none 0 0]) h7).bind fun h10 =>
 (y5).bind fun p11 =>
 (ldA 3 p11 h10).bind fun l12 =>
 (decC [.i .i64, .i .i64, .l] l12).bind fun x13 =>
 some (((x13.1, x13.2.1, x13.2.2), 1), h10)
 else
 (matrix_blank k D (IntKind.wrap .i64 (kv3 + m4)) kv3 h7).bind fun r14 =>
 let h15 := AHeap.new r14.2 (.cells [.int .i64 0, .int .i64 0, .slice none 0 0] 50 true 0)
 (stL 3 (⟨r14.2.next, 0, none⟩ : Addr) ([.int .i64 r14.1.1, .int .i64 r14.1.2.1, .slice r14.1.2.2.a r14.1.2.2.len r14.1.2.2.cap]) h15).bind fun h16 =>
 joinK (fun (y17 : Option Addr) (out18 : Option Addr) (h19 : AHeap) =>
 (out18).bind fun p21 =>
 (ldA 3 p21 h19).bind fun l22 =>
 (decC [.i .i64, .i .i64, .l] l22).bind fun x23 =>
 (y17).bind fun p24 =>
 (stL 3 p24 ([.int .i64 x23.1, .int .i64 x23.2.1, .slice x23.2.2.a x23.2.2.len x23.2.2.cap]) h19).bind fun h25 =>
 (y17).bind fun p26 =>
 (ldA 3 p26 h25).bind fun l27 =>
 (decC [.i .i64, .i .i64, .l] l27).bind fun x28 =>
 some (((x28.1, x28.2.1, x28.2.2), 0), h25)) fun j20 =>
 matrix_Space_Cauchy_l0 k D j20 s2 kv3 y5 (some (⟨r14.2.next, 0, none⟩ : Addr)) (IntKind.wrap .i64 (kv3 + m4)) 0 h16)) fun j8 =>
 (if (decide (k_1 < 1)) = true then
 j8 s_0 k_1 m_2 (some (⟨h.next, 0, none⟩ : Addr)) true h1
 else
 (if (decide (m_2 < 0)) = true then
 j8 s_0 k_1 m_2 (some (⟨h.next, 0, none⟩ : Addr)) true h1
 else
 (if (decide (k_1 > 255)) = true then
 j8 s_0 k_1 m_2 (some (⟨h.next, 0, none⟩ : Addr)) true h1
 else
 j8 s_0 k_1 m_2 (some (⟨h.next, 0, none⟩ : Addr)) (decide (m_2 > (IntKind.wrap .i64 (255 - k_1)))) h1)))
noncomputable def r_matrix_Space_Cauchy : RCode := an (.s .n (.s (.s (.j [(0, .p), (1, .i .i64), (2, .i .i64), (6, .p), (26, .b)] .n) .n) (.s .n (.s (.j [(6, .p), (8, .p)] (.s .n (.b (.l [(0, .p), (1, .i .i64), (6, .p), (8, .p), (35, .i .i64), (36, .i .i64)] (.s .n (.s .n (.s (.j [(0, .p), (1, .i .i64), (6, .p), (8, .p), (35, .i .i64), (36, .i .i64)] (.b (.s .n (.s .n (.b (.l [(0, .p), (1, .i .i64), (6, .p), (8, .p), (9, .i .i64), (35, .i .i64), (36, .i .i64), (39, .i .i64), (40, .i .i64)] (.s .n (.s .n (.s (.j [(0, .p), (1, .i .i64), (6, .p), (8, .p), (9, .i .i64), (35, .i .i64), (36, .i .i64), (39, .i .i64), (40, .i .i64)] (.b (.s .n (.b (.s (.j [(0, .p), (1, .i .i64), (6, .p), (8, .p), (9, .i .i64), (10, .i .i64), (35, .i .i64), (36, .i .i64), (39, .i .i64), (40, .i .i64), (43, .b)] .n) (.s (.r [(0, .st [.i .i64, .i .i64, .l])]) (.s .n (.s (.r [(0, .st [.i .i64, .i .i64, .l])]) .n)))))))) .n))))))))) .n))))))) (.s (.r [(0, .st [.i .i64, .i .i64, .l])]) .n))))) (rOf Tryz.prog 0 Tryz.f14)
noncomputable def e_matrix_Space_Cauchy (k : Nat) (D : CallF) : Ent := entOf 14 [(0, .p), (1, .i .i64), (2, .i .i64)] [(6, .st [.i .i64, .i .i64, .l]), (7, .i .i64)] (matrix_Space_Cauchy k D)
theorem q_matrix_Space_Cauchy : (Tryz.f14.body).bind (rcodeOf Tryz.prog 0 Tryz.f14.ntmps) = some (strip r_matrix_Space_Cauchy) := by kernel_rfl
theorem t_matrix_Space_Cauchy (k : Nat) (D : CallF) : curF [(0, .p), (1, .i .i64), (2, .i .i64)] (fun args h => denF (C_matrix_Space_Cauchy k D) k r_matrix_Space_Cauchy [(6, .st [.i .i64, .i .i64, .l]), (7, .i .i64)] [some (.agg 3), none] args h) = matrix_Space_Cauchy k D := by kernel_rfl
theorem ok_matrix_Space_Cauchy {D : CallF} (hD : CSound Tryz.prog 0 D) (k : Nat) : EntOk Tryz.prog 0 (e_matrix_Space_Cauchy k D) :=
 entOf_ok2 (mkC_sound hD (EntsOk.more (ok_matrix_blank hD k) (EntsOk.more (ok_matrix_M_row hD k) (EntsOk.more (ok_field_Field_Div hD k) (EntsOk.none))))) Tryz.func14 rfl q_matrix_Space_Cauchy rfl (t_matrix_Space_Cauchy k D)
end Gq
namespace Gq
open Go Gx Go.Proofs
set_option maxRecDepth 100000
noncomputable def C_stripe_New (k : Nat) (D : CallF) : CallF := mkC D [e_matrix_New k D, e_matrix_Space_Cauchy k D, e_field_New k D]
noncomputable def stripe_New (k : Nat) (D : CallF) (k_0 : Int) (m_1 : Int) (h : AHeap) : Option (((Option Addr) × Int) × AHeap) :=
 (matrix_New k D h).bind fun r1 =>
 (matrix_Space_Cauchy k D r1.1 k_0 m_1 r1.2).bind fun r2 =>
 let h3 := AHeap.new r2.2 (.cells [.int .i64 0, .int .i64 0, .slice none 0 0] 50 true 0)
 (stL 3 (⟨r2.2.next, 0, none⟩ : Addr) ([.int .i64 r2.1.1.1, .int .i64 r2.1.1.2.1, .slice r2.1.1.2.2.a r2.1.1.2.2.len r2.1.1.2.2.cap]) h3).bind fun h4 =>
 (if (r2.1.2 != 0) = true then
 some ((none, r2.1.2), h4)
 else
 (field_New k D h4).bind fun r5 =>
 (ldA 3 (⟨r2.2.next, 0, none⟩ : Addr) r5.2).bind fun l6 =>
 guardP (SameW [h4] (fun H8 => (ldA 3 (⟨r2.2.next, 0, none⟩ : Addr) H8).bind fun y7 => some (.agg ⟨y7⟩)) (.agg ⟨l6⟩)) (
 (decC [.i .i64, .i .i64, .l] l6).bind fun x9 =>
 let h10 := AHeap.new r5.2 (.cells [.int .i64 k_0, .int .i64 m_1, .pointer r5.1, .pointer r1.1, .int .i64 x9.1, .int .i64 x9.2.1, .slice x9.2.2.a x9.2.2.len x9.2.2.cap] 56 true 0)
 some (((some (⟨r5.2.next, 0, none⟩ : Addr)), 0), h10)))
noncomputable def r_stripe_New : RCode := an (.s .n (.s .n (.s .n (.s .n (.s (.r [(4, .st [.i .i64, .i .i64, .l])]) .n))))) (rOf Tryz.prog 0 Tryz.f6)
noncomputable def e_stripe_New (k : Nat) (D : CallF) : Ent := entOf 6 [(0, .i .i64), (1, .i .i64)] [(4, .p), (5, .i .i64)] (stripe_New k D)
theorem q_stripe_New : (Tryz.f6.body).bind (rcodeOf Tryz.prog 0 Tryz.f6.ntmps) = some (strip r_stripe_New) := by kernel_rfl
theorem t_stripe_New (k : Nat) (D : CallF) : curF [(0, .i .i64), (1, .i .i64)] (fun args h => denF (C_stripe_New k D) k r_stripe_New [(4, .p), (5, .i .i64)] [none, none] args h) = stripe_New k D := by kernel_rfl
theorem ok_stripe_New {D : CallF} (hD : CSound Tryz.prog 0 D) (k : Nat) : EntOk Tryz.prog 0 (e_stripe_New k D) :=
 entOf_ok2 (mkC_sound hD (EntsOk.more (ok_matrix_New hD k) (EntsOk.more (ok_matrix_Space_Cauchy hD k) (EntsOk.more (ok_field_New hD k) (EntsOk.none))))) Tryz.func6 rfl q_stripe_New rfl (t_stripe_New k D)
end Gq
namespace Gq
open Go Gx Go.Proofs
set_option maxRecDepth 100000
noncomputable def C_stripe_Plan_Each (_k : Nat) (D : CallF) : CallF := mkC D []
noncomputable def stripe_Plan_Each (_k : Nat) (_D : CallF) (p_0 : Option Addr) (long_1 : Int) (h : AHeap) : Option ((Int × Int) × AHeap) :=
 joinK (fun (p1 : Option Addr) (long2 : Int) (y3 : Bool) (h4 : AHeap) =>
 (if y3 = true then
 some ((0, 1), h4)
 else
 (p1).bind fun p6 =>
 (ldI .i64 (⟨p6.block, p6.off + 0, none⟩ : Addr) h4).bind fun x7 =>
 (p1).bind fun p8 =>
 (ldI .i64 (⟨p8.block, p8.off + 0, none⟩ : Addr) h4).bind fun x9 =>
 (if x9 = 0 then none else
 let t10 : Int := (IntKind.wrap .i64 (Int.tdiv (IntKind.wrap .i64 ((IntKind.wrap .i64 (long2 + x7)) - 1)) x9))
 some ((t10, 0), h4)))) fun j5 =>
 (if (decide (long_1 < 0)) = true then
 j5 p_0 long_1 true h
 else
 j5 p_0 long_1 (decide (long_1 > 65536)) h)
noncomputable def r_stripe_Plan_Each : RCode := an (.s .n (.s (.s (.j [(0, .p), (1, .i .i64), (11, .b)] .n) .n) .n)) (rOf Tryz.prog 0 Tryz.f27)
noncomputable def e_stripe_Plan_Each (k : Nat) (D : CallF) : Ent := entOf 27 [(0, .p), (1, .i .i64)] [(4, .i .i64), (5, .i .i64)] (stripe_Plan_Each k D)
theorem q_stripe_Plan_Each : (Tryz.f27.body).bind (rcodeOf Tryz.prog 0 Tryz.f27.ntmps) = some (strip r_stripe_Plan_Each) := by kernel_rfl
theorem t_stripe_Plan_Each (k : Nat) (D : CallF) : curF [(0, .p), (1, .i .i64)] (fun args h => denF (C_stripe_Plan_Each k D) k r_stripe_Plan_Each [(4, .i .i64), (5, .i .i64)] [none, none] args h) = stripe_Plan_Each k D := by kernel_rfl
theorem ok_stripe_Plan_Each {D : CallF} (hD : CSound Tryz.prog 0 D) (k : Nat) : EntOk Tryz.prog 0 (e_stripe_Plan_Each k D) :=
 entOf_ok2 (mkC_sound hD (EntsOk.none)) Tryz.func27 rfl q_stripe_Plan_Each rfl (t_stripe_Plan_Each k D)
end Gq
namespace Gq
open Go Gx Go.Proofs
set_option maxRecDepth 100000
end Gq
namespace Gq
open Go Gx Go.Proofs
set_option maxRecDepth 100000
end Gq
namespace Gq
open Go Gx Go.Proofs
set_option maxRecDepth 100000
end Gq
namespace Gq
open Go Gx Go.Proofs
set_option maxRecDepth 100000
end Gq
namespace Gq
open Go Gx Go.Proofs
set_option maxRecDepth 100000
end Gq
namespace Gq
open Go Gx Go.Proofs
set_option maxRecDepth 100000
end Gq
namespace Gq
open Go Gx Go.Proofs
set_option maxRecDepth 100000
end Gq
namespace Gq
open Go Gx Go.Proofs
set_option maxRecDepth 100000
end Gq
namespace Gq
open Go Gx Go.Proofs
set_option maxRecDepth 100000
end Gq
namespace Gq
open Go Gx Go.Proofs
set_option maxRecDepth 100000
end Gq
namespace Go.Proofs
open Go.Shelf
def Tryz.lays156_ren : Go.Shelf.Ren := ⟨fun | 156 => 18 | 165 => 36 | 166 => 37 | 169 => 38 | 240 => 62 | 241 => 63 | 276 => 73 | 277 => 74 | n => n, fun | 31 => 43 | 9 => 9 | 3 => 3 | 4 => 4 | 0 => 0 | 20 => 20 | 72 => 105 | 76 => 109 | 70 => 102 | 37 => 103 | 75 => 108 | 127 => 128 | 164 => 139 | 5 => 5 | 80 => 111 | n => n, fun | n => n⟩
theorem Tryz.lays156 : Go.Proofs.Lays.n156 Tryz.prog Tryz.lays156_ren := {
 mixed := by kernel_rfl
 f156 := Tryz.func18.trans (congrArg some (by kernel_rfl))
 f165 := Tryz.func36.trans (congrArg some (by kernel_rfl))
 f166 := Tryz.func37.trans (congrArg some (by kernel_rfl))
 f169 := Tryz.func38.trans (congrArg some (by kernel_rfl))
 f240 := Tryz.func62.trans (congrArg some (by kernel_rfl))
 f241 := Tryz.func63.trans (congrArg some (by kernel_rfl))
 f276 := Tryz.func73.trans (congrArg some (by kernel_rfl))
 f277 := Tryz.func74.trans (congrArg some (by kernel_rfl))
 t0 := Tryz.underlying0
 a0 := Tryz.isAgg0
 z0 := Tryz.sizeOf0
 v0 := Tryz.zeroValue0
 t3 := Tryz.underlying3
 a3 := Tryz.isAgg3
 z3 := Tryz.sizeOf3
 v3 := Tryz.zeroValue3
 t4 := Tryz.underlying4
 a4 := Tryz.isAgg4
 z4 := Tryz.sizeOf4
 v4 := Tryz.zeroValue4
 t9 := Tryz.underlying9
 a9 := Tryz.isAgg9
 z9 := Tryz.sizeOf9
 v9 := Tryz.zeroValue9
 t20 := Tryz.underlying20
 a20 := Tryz.isAgg20
 z20 := Tryz.sizeOf20
 v20 := Tryz.zeroValue20
 t31 := Tryz.underlying43
 a31 := Tryz.isAgg43
 z31 := Tryz.sizeOf43
 v31 := Tryz.zeroValue43
 t37 := Tryz.underlying103
 a37 := Tryz.isAgg103
 z37 := Tryz.sizeOf103
 v37 := Tryz.zeroValue103
 t70 := Tryz.underlying102
 a70 := Tryz.isAgg102
 z70 := Tryz.sizeOf102
 v70 := Tryz.zeroValue102
 t72 := Tryz.underlying105
 a72 := Tryz.isAgg105
 z72 := Tryz.sizeOf105
 v72 := Tryz.zeroValue105
 t75 := Tryz.underlying108
 a75 := Tryz.isAgg108
 z75 := Tryz.sizeOf108
 v75 := Tryz.zeroValue108
 t76 := Tryz.underlying109
 a76 := Tryz.isAgg109
 z76 := Tryz.sizeOf109
 v76 := Tryz.zeroValue109
 t127 := Tryz.underlying128
 a127 := Tryz.isAgg128
 z127 := Tryz.sizeOf128
 v127 := Tryz.zeroValue128
 t164 := Tryz.underlying139
 a164 := Tryz.isAgg139
 z164 := Tryz.sizeOf139
 v164 := Tryz.zeroValue139 }
theorem Tryz.Builder_Extra_156 : Builder.Extra Tryz.prog Tryz.lays156_ren := {
 sizeBuilder := by kernel_rfl
 liesBuilder := by kernel_rfl
 t5 := Tryz.underlying5
 a5 := Tryz.isAgg5
 z5 := Tryz.sizeOf5
 v5 := Tryz.zeroValue5
 infoByte := by kernel_rfl
 cellsByte := by kernel_rfl
 sizeByte := by kernel_rfl
 neB5 := by decide }
def Tryz.lays105_ren : Go.Shelf.Ren := ⟨fun | 105 => 28 | 212 => 55 | 99 => 56 | 165 => 36 | 166 => 37 | 170 => 57 | 169 => 38 | 263 => 68 | 264 => 69 | 206 => 70 | 240 => 62 | 241 => 63 | 276 => 73 | 277 => 74 | n => n, fun | 9 => 9 | 3 => 3 | 4 => 4 | 20 => 20 | 0 => 0 | 46 => 120 | 109 => 121 | 5 => 5 | 72 => 105 | 76 => 109 | 51 => 84 | 146 => 133 | 53 => 135 | 148 => 136 | 70 => 102 | 37 => 103 | 75 => 108 | 127 => 128 | 164 => 139 | 80 => 111 | n => n, fun | n => n⟩
theorem Tryz.lays105 : Go.Proofs.Lays.n105 Tryz.prog Tryz.lays105_ren := {
 mixed := by kernel_rfl
 f99 := Tryz.func56.trans (congrArg some (by kernel_rfl))
 f105 := Tryz.func28.trans (congrArg some (by kernel_rfl))
 f165 := Tryz.func36.trans (congrArg some (by kernel_rfl))
 f166 := Tryz.func37.trans (congrArg some (by kernel_rfl))
 f169 := Tryz.func38.trans (congrArg some (by kernel_rfl))
 f170 := Tryz.func57.trans (congrArg some (by kernel_rfl))
 f206 := Tryz.func70.trans (congrArg some (by kernel_rfl))
 f212 := Tryz.func55.trans (congrArg some (by kernel_rfl))
 f240 := Tryz.func62.trans (congrArg some (by kernel_rfl))
 f241 := Tryz.func63.trans (congrArg some (by kernel_rfl))
 f263 := Tryz.func68.trans (congrArg some (by kernel_rfl))
 f264 := Tryz.func69.trans (congrArg some (by kernel_rfl))
 f276 := Tryz.func73.trans (congrArg some (by kernel_rfl))
 f277 := Tryz.func74.trans (congrArg some (by kernel_rfl))
 t0 := Tryz.underlying0
 a0 := Tryz.isAgg0
 z0 := Tryz.sizeOf0
 v0 := Tryz.zeroValue0
 t3 := Tryz.underlying3
 a3 := Tryz.isAgg3
 z3 := Tryz.sizeOf3
 v3 := Tryz.zeroValue3
 t4 := Tryz.underlying4
 a4 := Tryz.isAgg4
 z4 := Tryz.sizeOf4
 v4 := Tryz.zeroValue4
 t5 := Tryz.underlying5
 a5 := Tryz.isAgg5
 z5 := Tryz.sizeOf5
 v5 := Tryz.zeroValue5
 t9 := Tryz.underlying9
 a9 := Tryz.isAgg9
 z9 := Tryz.sizeOf9
 v9 := Tryz.zeroValue9
 t20 := Tryz.underlying20
 a20 := Tryz.isAgg20
 z20 := Tryz.sizeOf20
 v20 := Tryz.zeroValue20
 t37 := Tryz.underlying103
 a37 := Tryz.isAgg103
 z37 := Tryz.sizeOf103
 v37 := Tryz.zeroValue103
 t46 := Tryz.underlying120
 a46 := Tryz.isAgg120
 z46 := Tryz.sizeOf120
 v46 := Tryz.zeroValue120
 t51 := Tryz.underlying84
 a51 := Tryz.isAgg84
 z51 := Tryz.sizeOf84
 v51 := Tryz.zeroValue84
 t53 := Tryz.underlying135
 a53 := Tryz.isAgg135
 z53 := Tryz.sizeOf135
 v53 := Tryz.zeroValue135
 t70 := Tryz.underlying102
 a70 := Tryz.isAgg102
 z70 := Tryz.sizeOf102
 v70 := Tryz.zeroValue102
 t72 := Tryz.underlying105
 a72 := Tryz.isAgg105
 z72 := Tryz.sizeOf105
 v72 := Tryz.zeroValue105
 t75 := Tryz.underlying108
 a75 := Tryz.isAgg108
 z75 := Tryz.sizeOf108
 v75 := Tryz.zeroValue108
 t76 := Tryz.underlying109
 a76 := Tryz.isAgg109
 z76 := Tryz.sizeOf109
 v76 := Tryz.zeroValue109
 t109 := Tryz.underlying121
 a109 := Tryz.isAgg121
 z109 := Tryz.sizeOf121
 v109 := Tryz.zeroValue121
 t127 := Tryz.underlying128
 a127 := Tryz.isAgg128
 z127 := Tryz.sizeOf128
 v127 := Tryz.zeroValue128
 t146 := Tryz.underlying133
 a146 := Tryz.isAgg133
 z146 := Tryz.sizeOf133
 v146 := Tryz.zeroValue133
 t148 := Tryz.underlying136
 a148 := Tryz.isAgg136
 z148 := Tryz.sizeOf136
 v148 := Tryz.zeroValue136
 t164 := Tryz.underlying139
 a164 := Tryz.isAgg139
 z164 := Tryz.sizeOf139
 v164 := Tryz.zeroValue139 }
theorem Tryz.Builder_Extra_105 : Builder.Extra Tryz.prog Tryz.lays105_ren := {
 sizeBuilder := by kernel_rfl
 liesBuilder := by kernel_rfl
 t5 := Tryz.underlying5
 a5 := Tryz.isAgg5
 z5 := Tryz.sizeOf5
 v5 := Tryz.zeroValue5
 infoByte := by kernel_rfl
 cellsByte := by kernel_rfl
 sizeByte := by kernel_rfl
 neB5 := by decide }
end Go.Proofs
namespace Gq
open Go Gx Go.Proofs Go.Shelf
noncomputable def e_strings_Repeat (_k : Nat) (_D : CallF) : Ent := eRepeat 28
theorem ok_strings_Repeat {D : CallF} (_hD : CSound Tryz.prog 0 D) (k : Nat) : EntOk Tryz.prog 0 (e_strings_Repeat k D) :=
 repeat_ok (c := _) Tryz.func28 rfl rfl (fun s n w h1 h2 => Any.strings_Repeat Tryz.lays105 Tryz.Builder_Extra_105 s n w h1 h2)
end Gq
namespace Gq
open Go Gx Go.Proofs
set_option maxRecDepth 100000
noncomputable def C_stripe_Plan_row (_k : Nat) (D : CallF) : CallF := mkC D []
noncomputable def stripe_Plan_row (_k : Nat) (_D : CallF) (p_0 : Option Addr) (a_1 : Int × Int × Slc) (i_2 : Int) (h : AHeap) : Option ((Slc) × AHeap) :=
 let h1 := AHeap.new h (.cells [.int .i64 a_1.1, .int .i64 a_1.2.1, .slice a_1.2.2.a a_1.2.2.len a_1.2.2.cap] 50 true 0)
 (ldL (⟨h.next, 2, none⟩ : Addr) h1).bind fun x2 =>
 (p_0).bind fun p3 =>
 (ldI .i64 (⟨p3.block, p3.off + 0, none⟩ : Addr) h1).bind fun x4 =>
 (p_0).bind fun p5 =>
 (ldI .i64 (⟨p5.block, p5.off + 0, none⟩ : Addr) h1).bind fun x6 =>
 (Gx.subL 1 x2 (some (IntKind.wrap .i64 (i_2 * x4))) (some (IntKind.wrap .i64 ((IntKind.wrap .i64 (i_2 + 1)) * x6))) none).bind fun l7 =>
 some (l7, h1)
noncomputable def r_stripe_Plan_row : RCode := an (.n) (rOf Tryz.prog 0 Tryz.f30)
noncomputable def e_stripe_Plan_row (k : Nat) (D : CallF) : Ent := entOf 30 [(0, .p), (1, .st [.i .i64, .i .i64, .l]), (2, .i .i64)] [(6, .l)] (stripe_Plan_row k D)
theorem q_stripe_Plan_row : (Tryz.f30.body).bind (rcodeOf Tryz.prog 0 Tryz.f30.ntmps) = some (strip r_stripe_Plan_row) := by kernel_rfl
theorem t_stripe_Plan_row (k : Nat) (D : CallF) : curF [(0, .p), (1, .st [.i .i64, .i .i64, .l]), (2, .i .i64)] (fun args h => denF (C_stripe_Plan_row k D) k r_stripe_Plan_row [(6, .l)] [none] args h) = stripe_Plan_row k D := by kernel_rfl
theorem ok_stripe_Plan_row {D : CallF} (hD : CSound Tryz.prog 0 D) (k : Nat) : EntOk Tryz.prog 0 (e_stripe_Plan_row k D) :=
 entOf_ok2 (mkC_sound hD (EntsOk.none)) Tryz.func30 rfl q_stripe_Plan_row rfl (t_stripe_Plan_row k D)
end Gq
namespace Gq
open Go Gx Go.Proofs
set_option maxRecDepth 100000
noncomputable def C_field_tables_times (_k : Nat) (D : CallF) : CallF := mkC D []
noncomputable def field_tables_times (_k : Nat) (_D : CallF) (t_0 : Option Addr) (a_1 : Int) (b_2 : Int) (h : AHeap) : Option ((Int) × AHeap) :=
 joinK (fun (t1 : Option Addr) (a2 : Int) (b3 : Int) (y4 : Bool) (h5 : AHeap) =>
 (if y4 = true then
 some (0, h5)
 else
 (t1).bind fun p7 =>
 (Gx.idxA 256 1 (⟨p7.block, p7.off + 510, none⟩ : Addr) a2).bind fun q8 =>
 (ldI .i64 q8 h5).bind fun x9 =>
 (t1).bind fun p10 =>
 (Gx.idxA 256 1 (⟨p10.block, p10.off + 510, none⟩ : Addr) b3).bind fun q11 =>
 (ldI .i64 q11 h5).bind fun x12 =>
 (t1).bind fun p13 =>
 (Gx.idxA 510 1 (⟨p13.block, p13.off + 0, none⟩ : Addr) (IntKind.wrap .i64 (x9 + x12))).bind fun q14 =>
 (ldI .u8 q14 h5).bind fun x15 =>
 some ((IntKind.wrap .i64 x15), h5))) fun j6 =>
 (if (a_1 == 0) = true then
 j6 t_0 a_1 b_2 true h
 else
 j6 t_0 a_1 b_2 (b_2 == 0) h)
noncomputable def r_field_tables_times : RCode := an (.s .n (.s (.s (.j [(0, .p), (1, .i .i64), (2, .i .i64), (12, .b)] .n) .n) .n)) (rOf Tryz.prog 0 Tryz.f60)
noncomputable def e_field_tables_times (k : Nat) (D : CallF) : Ent := entOf 60 [(0, .p), (1, .i .i64), (2, .i .i64)] [(6, .i .i64)] (field_tables_times k D)
theorem q_field_tables_times : (Tryz.f60.body).bind (rcodeOf Tryz.prog 0 Tryz.f60.ntmps) = some (strip r_field_tables_times) := by kernel_rfl
theorem t_field_tables_times (k : Nat) (D : CallF) : curF [(0, .p), (1, .i .i64), (2, .i .i64)] (fun args h => denF (C_field_tables_times k D) k r_field_tables_times [(6, .i .i64)] [none] args h) = field_tables_times k D := by kernel_rfl
theorem ok_field_tables_times {D : CallF} (hD : CSound Tryz.prog 0 D) (k : Nat) : EntOk Tryz.prog 0 (e_field_tables_times k D) :=
 entOf_ok2 (mkC_sound hD (EntsOk.none)) Tryz.func60 rfl q_field_tables_times rfl (t_field_tables_times k D)
end Gq
namespace Gq
open Go Gx Go.Proofs
set_option maxRecDepth 100000
noncomputable def C_field_Field_Mix (k : Nat) (D : CallF) : CallF := mkC D [e_field_is k D, e_field_Field_tables k D, e_field_tables_times k D]
noncomputable def field_Field_Mix_l2b (_k : Nat) (_D : CallF) (j6 : (Option Addr) → Slc → Slc → Int → AHeap → Option ((ByteArray × Int) × AHeap)) (rec69 : (Option Addr) → Slc → Slc → Int → Slc → Int → Int → AHeap → Option ((ByteArray × Int) × AHeap)) (f61 : Option Addr) (l62 : Slc) (c63 : Slc) (long64 : Int) (y65 : Slc) (y66 : Int) (y67 : Int) (h68 : AHeap) : Option ((ByteArray × Int) × AHeap) :=
 (if (decide (y67 < y66)) = true then
 joinK (fun (f70 : Option Addr) (l71 : Slc) (c72 : Slc) (long73 : Int) (y74 : Slc) (y75 : Int) (y76 : Int) (h77 : AHeap) =>
 rec69 f70 l71 c72 long73 y74 y75 (IntKind.wrap .i64 (y76 + 1)) h77) fun j78 =>
 (Gx.idxL 1 y65 y67).bind fun q79 =>
 (ldS q79 h68).bind fun x80 =>
 (if (y67 == 0) = true then
 j78 f61 l62 c63 (x80.size : Int) y65 y66 y67 h68
 else
 (if ((x80.size : Int) != long64) = true then
 j6 f61 l62 c63 (-1) h68
 else
 j78 f61 l62 c63 long64 y65 y66 y67 h68))
 else
 j6 f61 l62 c63 long64 h68)
noncomputable def field_Field_Mix_l2 (k : Nat) (D : CallF) (j6 : (Option Addr) → Slc → Slc → Int → AHeap → Option ((ByteArray × Int) × AHeap)) : (Option Addr) → Slc → Slc → Int → Slc → Int → Int → AHeap → Option ((ByteArray × Int) × AHeap) :=
 iterK (α := (Option Addr) → Slc → Slc → Int → Slc → Int → Int → AHeap → Option ((ByteArray × Int) × AHeap)) (fun _ _ _ _ _ _ _ _ => none) k (field_Field_Mix_l2b k D j6)
noncomputable def field_Field_Mix_l1b (k : Nat) (D : CallF) (j36 : Slc → Slc → (Option Addr) → Slc → Int → Int → AHeap → Option ((ByteArray × Int) × AHeap)) (rec50 : Slc → Slc → (Option Addr) → Int → ByteArray → Slc → Int → Int → Int → Int → AHeap → Option ((ByteArray × Int) × AHeap)) (c39 : Slc) (out40 : Slc) (t41 : Option Addr) (i42 : Int) (s43 : ByteArray) (y44 : Slc) (y45 : Int) (y46 : Int) (y47 : Int) (y48 : Int) (h49 : AHeap) : Option ((ByteArray × Int) × AHeap) :=
 (if (decide (y48 < y47)) = true then
 (Gx.idxS s43 y48).bind fun b51 =>
 (Gx.idxL 1 c39 i42).bind fun q52 =>
 (ldI .i64 q52 h49).bind fun x53 =>
 (field_tables_times k D t41 (IntKind.wrap .i64 b51) x53 h49).bind fun r54 =>
 (Gx.idxL 1 out40 y48).bind fun q55 =>
 (ldI .u8 q55 r54.2).bind fun x56 =>
 guardP (SameW [h49] (fun H58 => (ldI .u8 q55 H58).bind fun y57 => some (.int .u8 y57)) (.int .u8 x56)) (
 (Gx.idxL 1 out40 y48).bind fun q59 =>
 (st1 q59 (.int .u8 (Go.bits .xor .u8 x56 (IntKind.wrap .u8 r54.1))) r54.2).bind fun h60 =>
 rec50 c39 out40 t41 i42 s43 y44 y45 y46 y47 (IntKind.wrap .i64 (y48 + 1)) h60)
 else
 j36 c39 out40 t41 y44 y45 y46 h49)
noncomputable def field_Field_Mix_l1 (k : Nat) (D : CallF) (j36 : Slc → Slc → (Option Addr) → Slc → Int → Int → AHeap → Option ((ByteArray × Int) × AHeap)) : Slc → Slc → (Option Addr) → Int → ByteArray → Slc → Int → Int → Int → Int → AHeap → Option ((ByteArray × Int) × AHeap) :=
 iterK (α := Slc → Slc → (Option Addr) → Int → ByteArray → Slc → Int → Int → Int → Int → AHeap → Option ((ByteArray × Int) × AHeap)) (fun _ _ _ _ _ _ _ _ _ _ _ => none) k (field_Field_Mix_l1b k D j36)
noncomputable def field_Field_Mix_l0b (k : Nat) (D : CallF) (j19 : Slc → AHeap → Option ((ByteArray × Int) × AHeap)) (rec28 : Slc → Slc → (Option Addr) → Slc → Int → Int → AHeap → Option ((ByteArray × Int) × AHeap)) (c21 : Slc) (out22 : Slc) (t23 : Option Addr) (y24 : Slc) (y25 : Int) (y26 : Int) (h27 : AHeap) : Option ((ByteArray × Int) × AHeap) :=
 (if (decide (y26 < y25)) = true then
 joinK (fun (c29 : Slc) (out30 : Slc) (t31 : Option Addr) (y32 : Slc) (y33 : Int) (y34 : Int) (h35 : AHeap) =>
 rec28 c29 out30 t31 y32 y33 (IntKind.wrap .i64 (y34 + 1)) h35) fun j36 =>
 (Gx.idxL 1 y24 y26).bind fun q37 =>
 (ldS q37 h27).bind fun x38 =>
 field_Field_Mix_l1 k D j36 c21 out22 t23 y26 x38 y24 y25 y26 (out22.len : Int) 0 h27
 else
 j19 out22 h27)
noncomputable def field_Field_Mix_l0 (k : Nat) (D : CallF) (j19 : Slc → AHeap → Option ((ByteArray × Int) × AHeap)) : Slc → Slc → (Option Addr) → Slc → Int → Int → AHeap → Option ((ByteArray × Int) × AHeap) :=
 iterK (α := Slc → Slc → (Option Addr) → Slc → Int → Int → AHeap → Option ((ByteArray × Int) × AHeap)) (fun _ _ _ _ _ _ _ => none) k (field_Field_Mix_l0b k D j19)
noncomputable def field_Field_Mix (k : Nat) (D : CallF) (f_0 : Option Addr) (l_1 : Slc) (c_2 : Slc) (h : AHeap) : Option ((ByteArray × Int) × AHeap) :=
 (if ((l_1.len : Int) != (c_2.len : Int)) = true then
 some (((⟨#[]⟩ : ByteArray), 4), h)
 else
 joinK (fun (f1 : Option Addr) (l2 : Slc) (c3 : Slc) (long4 : Int) (h5 : AHeap) =>
 joinK (fun (f7 : Option Addr) (l8 : Slc) (c9 : Slc) (long10 : Int) (y11 : Bool) (h12 : AHeap) =>
 (if y11 = true then
 some (((⟨#[]⟩ : ByteArray), 4), h12)
 else
 (field_is k D c9 h12).bind fun r14 =>
 (if (!r14.1) = true then
 some (((⟨#[]⟩ : ByteArray), 1), r14.2)
 else
 (if 0 ≤ (if long10 > 0 then long10 else 0) ∧ (if long10 > 0 then long10 else 0) ≤ (if long10 > 0 then long10 else 0) ∧ (if long10 > 0 then long10 else 0) ≤ 281474976710656 ∧ 1 * (if long10 > 0 then long10 else 0) ≤ 281474976710656 then
 let h15 := AHeap.new r14.2 (.cells (zerosL ((if long10 > 0 then long10 else 0)).toNat [.int .u8 0]) 5 true 0)
 (field_Field_tables k D f7 h15).bind fun r16 =>
 joinK (fun (out17 : Slc) (h18 : AHeap) =>
 (bytesOf h18 out17).bind fun s20 =>
 some ((s20, 0), h18)) fun j19 =>
 field_Field_Mix_l0 k D j19 c9 (⟨(some ⟨r14.2.next, 0, some 0⟩), ((if long10 > 0 then long10 else 0)).toNat, ((if long10 > 0 then long10 else 0)).toNat⟩ : Slc) r16.1 l8 (l8.len : Int) 0 r16.2
 else none)))) fun j13 =>
 (if (decide ((l2.len : Int) > 0)) = true then
 j13 f1 l2 c3 long4 (decide (long4 < 0)) h5
 else
 j13 f1 l2 c3 long4 false h5)) fun j6 =>
 field_Field_Mix_l2 k D j6 f_0 l_1 c_2 (-1) l_1 (l_1.len : Int) 0 h)
noncomputable def r_field_Field_Mix : RCode := an (.s .n (.b (.s .n (.s .n (.s .n (.s (.j [(0, .p), (1, .l), (2, .l), (8, .i .i64)] (.s .n (.b (.l [(0, .p), (1, .l), (2, .l), (8, .i .i64), (21, .l), (22, .i .i64), (23, .i .i64)] (.s .n (.s .n (.s (.j [(0, .p), (1, .l), (2, .l), (8, .i .i64), (21, .l), (22, .i .i64), (23, .i .i64)] .n) .n))))))) (.s (.b (.s (.j [(0, .p), (1, .l), (2, .l), (8, .i .i64), (39, .b)] .n) .n)) (.s .n (.s .n (.s (.j [(11, .l)] (.s .n (.b (.l [(2, .l), (11, .l), (12, .p), (56, .l), (57, .i .i64), (58, .i .i64)] (.s .n (.s .n (.s (.j [(2, .l), (11, .l), (12, .p), (56, .l), (57, .i .i64), (58, .i .i64)] (.b (.s .n (.s .n (.b (.l [(2, .l), (11, .l), (12, .p), (13, .i .i64), (14, .s), (56, .l), (57, .i .i64), (58, .i .i64), (64, .i .i64), (65, .i .i64)] .n)))))) .n))))))) .n)))))))))) (rOf Tryz.prog 0 Tryz.f29)
noncomputable def e_field_Field_Mix (k : Nat) (D : CallF) : Ent := entOf 29 [(0, .p), (1, .l), (2, .l)] [(6, .s), (7, .i .i64)] (field_Field_Mix k D)
theorem q_field_Field_Mix : (Tryz.f29.body).bind (rcodeOf Tryz.prog 0 Tryz.f29.ntmps) = some (strip r_field_Field_Mix) := by kernel_rfl
theorem t_field_Field_Mix (k : Nat) (D : CallF) : curF [(0, .p), (1, .l), (2, .l)] (fun args h => denF (C_field_Field_Mix k D) k r_field_Field_Mix [(6, .s), (7, .i .i64)] [none, none] args h) = field_Field_Mix k D := by kernel_rfl
theorem ok_field_Field_Mix {D : CallF} (hD : CSound Tryz.prog 0 D) (k : Nat) : EntOk Tryz.prog 0 (e_field_Field_Mix k D) :=
 entOf_ok2 (mkC_sound hD (EntsOk.more (ok_field_is hD k) (EntsOk.more (ok_field_Field_tables hD k) (EntsOk.more (ok_field_tables_times hD k) (EntsOk.none))))) Tryz.func29 rfl q_field_Field_Mix rfl (t_field_Field_Mix k D)
end Gq
namespace Gq
open Go Gx Go.Proofs
set_option maxRecDepth 100000
noncomputable def C_stripe_Plan_Split (k : Nat) (D : CallF) : CallF := mkC D [e_stripe_Plan_Each k D, e_strings_Repeat k D, e_stripe_Plan_row k D, e_field_Field_Mix k D]
noncomputable def stripe_Plan_Split_l1b (_k : Nat) (_D : CallF) (j14 : (Option Addr) → Slc → AHeap → Option ((Slc × Int) × AHeap)) (rec55 : (Option Addr) → ByteArray → Int → Slc → Int → Int → AHeap → Option ((Slc × Int) × AHeap)) (p48 : Option Addr) (s49 : ByteArray) (n50 : Int) (out51 : Slc) (y52 : Int) (y53 : Int) (h54 : AHeap) : Option ((Slc × Int) × AHeap) :=
 (if (decide (y53 < y52)) = true then
 (Gx.subS s49 (some (IntKind.wrap .i64 (y53 * n50))) (some (IntKind.wrap .i64 ((IntKind.wrap .i64 (y53 + 1)) * n50)))).bind fun s56 =>
 let h57 := AHeap.new h54 (.cells [.string s56] 9 true 0)
 (rdS 1 (⟨(some ⟨h54.next, 0, some 0⟩), 1, 1⟩ : Slc) h57).bind fun n59 =>
 (appendA 1 16 9 h57 out51 n59 1).bind fun r58 =>
 rec55 p48 s49 n50 r58.1 y52 (IntKind.wrap .i64 (y53 + 1)) r58.2
 else
 j14 p48 out51 h54)
noncomputable def stripe_Plan_Split_l1 (k : Nat) (D : CallF) (j14 : (Option Addr) → Slc → AHeap → Option ((Slc × Int) × AHeap)) : (Option Addr) → ByteArray → Int → Slc → Int → Int → AHeap → Option ((Slc × Int) × AHeap) :=
 iterK (α := (Option Addr) → ByteArray → Int → Slc → Int → Int → AHeap → Option ((Slc × Int) × AHeap)) (fun _ _ _ _ _ _ _ => none) k (stripe_Plan_Split_l1b k D j14)
noncomputable def stripe_Plan_Split_l0b (k : Nat) (D : CallF) (j22 : Slc → AHeap → Option ((Slc × Int) × AHeap)) (rec31 : (Option Addr) → Slc → Slc → Int → Int → AHeap → Option ((Slc × Int) × AHeap)) (p25 : Option Addr) (out26 : Slc) (pieces27 : Slc) (y28 : Int) (y29 : Int) (h30 : AHeap) : Option ((Slc × Int) × AHeap) :=
 (if (decide (y29 < y28)) = true then
 (p25).bind fun p32 =>
 (ldA 3 (⟨p32.block, p32.off + 4, none⟩ : Addr) h30).bind fun l33 =>
 (decC [.i .i64, .i .i64, .l] l33).bind fun x34 =>
 (p25).bind fun p35 =>
 (ldI .i64 (⟨p35.block, p35.off + 0, none⟩ : Addr) h30).bind fun x36 =>
 (stripe_Plan_row k D p25 (x34.1, x34.2.1, x34.2.2) (IntKind.wrap .i64 (x36 + y29)) h30).bind fun r37 =>
 (p25).bind fun p38 =>
 (ldP (⟨p38.block, p38.off + 2, none⟩ : Addr) r37.2).bind fun x39 =>
 guardP (SameW [h30] (fun H41 => (ldP (⟨p38.block, p38.off + 2, none⟩ : Addr) H41).bind fun y40 => some (.pointer y40)) (.pointer x39)) (
 (field_Field_Mix k D x39 pieces27 r37.1 r37.2).bind fun r42 =>
 let h43 := AHeap.new r42.2 (.cells [.string r42.1.1] 9 true 0)
 (rdS 1 (⟨(some ⟨r42.2.next, 0, some 0⟩), 1, 1⟩ : Slc) h43).bind fun n45 =>
 (appendA 1 16 9 h43 out26 n45 1).bind fun r44 =>
 rec31 p25 r44.1 pieces27 y28 (IntKind.wrap .i64 (y29 + 1)) r44.2)
 else
 j22 out26 h30)
noncomputable def stripe_Plan_Split_l0 (k : Nat) (D : CallF) (j22 : Slc → AHeap → Option ((Slc × Int) × AHeap)) : (Option Addr) → Slc → Slc → Int → Int → AHeap → Option ((Slc × Int) × AHeap) :=
 iterK (α := (Option Addr) → Slc → Slc → Int → Int → AHeap → Option ((Slc × Int) × AHeap)) (fun _ _ _ _ _ _ => none) k (stripe_Plan_Split_l0b k D j22)
noncomputable def stripe_Plan_Split (k : Nat) (D : CallF) (p_0 : Option Addr) (s_1 : ByteArray) (h : AHeap) : Option ((Slc × Int) × AHeap) :=
 (stripe_Plan_Each k D p_0 (s_1.size : Int) h).bind fun r1 =>
 (if (r1.1.2 != 0) = true then
 some (((⟨none, 0, 0⟩ : Slc), 2), r1.2)
 else
 (p_0).bind fun p2 =>
 (ldI .i64 (⟨p2.block, p2.off + 0, none⟩ : Addr) r1.2).bind fun x3 =>
 let t4 : Int := (IntKind.wrap .i64 ((IntKind.wrap .i64 (x3 * r1.1.1)) - (s_1.size : Int)))
 (repeatA (⟨#[0]⟩ : ByteArray) t4).bind fun s5 =>
 (if s_1.size + s5.size ≤ 9223372036854775807 then
 (p_0).bind fun p6 =>
 (ldI .i64 (⟨p6.block, p6.off + 0, none⟩ : Addr) r1.2).bind fun x7 =>
 (p_0).bind fun p8 =>
 (ldI .i64 (⟨p8.block, p8.off + 1, none⟩ : Addr) r1.2).bind fun x9 =>
 (if 0 ≤ (0 : Int) ∧ 0 ≤ (IntKind.wrap .i64 (x7 + x9)) ∧ (IntKind.wrap .i64 (x7 + x9)) ≤ 281474976710656 ∧ 16 * (IntKind.wrap .i64 (x7 + x9)) ≤ 281474976710656 then
 let h10 := AHeap.new r1.2 (.cells (zerosL ((IntKind.wrap .i64 (x7 + x9))).toNat [.string ⟨#[]⟩]) 9 true 0)
 joinK (fun (p11 : Option Addr) (out12 : Slc) (h13 : AHeap) =>
 (p11).bind fun p15 =>
 (ldI .i64 (⟨p15.block, p15.off + 0, none⟩ : Addr) h13).bind fun x16 =>
 (p11).bind fun p17 =>
 (ldI .i64 (⟨p17.block, p17.off + 0, none⟩ : Addr) h13).bind fun x18 =>
 (Gx.subL 1 out12 none (some x16) (some x18)).bind fun l19 =>
 joinK (fun (out20 : Slc) (h21 : AHeap) =>
 some ((out20, 0), h21)) fun j22 =>
 (p11).bind fun p23 =>
 (ldI .i64 (⟨p23.block, p23.off + 1, none⟩ : Addr) h13).bind fun x24 =>
 stripe_Plan_Split_l0 k D j22 p11 out12 l19 x24 0 h13) fun j14 =>
 (p_0).bind fun p46 =>
 (ldI .i64 (⟨p46.block, p46.off + 0, none⟩ : Addr) h10).bind fun x47 =>
 stripe_Plan_Split_l1 k D j14 p_0 (s_1 ++ s5) r1.1.1 (⟨(some ⟨r1.2.next, 0, some 0⟩), (0 : Int).toNat, ((IntKind.wrap .i64 (x7 + x9))).toNat⟩ : Slc) x47 0 h10
 else none)
 else none))
noncomputable def r_stripe_Plan_Split : RCode := an (.s .n (.s .n (.s .n (.s .n (.s .n (.s (.j [(0, .p), (8, .l)] (.s .n (.b (.l [(0, .p), (1, .s), (6, .i .i64), (8, .l), (48, .i .i64), (49, .i .i64)] .n)))) (.s .n (.s (.j [(8, .l)] (.s .n (.b (.l [(0, .p), (8, .l), (10, .l), (78, .i .i64), (79, .i .i64)] (.s .n (.s .n (.s (.b (.s .n (.s (.r [(4, .st [.i .i64, .i .i64, .l])]) .n))) .n))))))) .n)))))))) (rOf Tryz.prog 0 Tryz.f12)
noncomputable def e_stripe_Plan_Split (k : Nat) (D : CallF) : Ent := entOf 12 [(0, .p), (1, .s)] [(4, .l), (5, .i .i64)] (stripe_Plan_Split k D)
theorem q_stripe_Plan_Split : (Tryz.f12.body).bind (rcodeOf Tryz.prog 0 Tryz.f12.ntmps) = some (strip r_stripe_Plan_Split) := by kernel_rfl
theorem t_stripe_Plan_Split (k : Nat) (D : CallF) : curF [(0, .p), (1, .s)] (fun args h => denF (C_stripe_Plan_Split k D) k r_stripe_Plan_Split [(4, .l), (5, .i .i64)] [none, none] args h) = stripe_Plan_Split k D := by kernel_rfl
theorem ok_stripe_Plan_Split {D : CallF} (hD : CSound Tryz.prog 0 D) (k : Nat) : EntOk Tryz.prog 0 (e_stripe_Plan_Split k D) :=
 entOf_ok2 (mkC_sound hD (EntsOk.more (ok_stripe_Plan_Each hD k) (EntsOk.more (ok_strings_Repeat hD k) (EntsOk.more (ok_stripe_Plan_row hD k) (EntsOk.more (ok_field_Field_Mix hD k) (EntsOk.none)))))) Tryz.func12 rfl q_stripe_Plan_Split rfl (t_stripe_Plan_Split k D)
end Gq
namespace Gq
open Go Gx Go.Proofs
set_option maxRecDepth 100000
noncomputable def C_law05_works (k : Nat) (D : CallF) : CallF := mkC D [e_stripe_New k D, e_stripe_Plan_Split k D]
noncomputable def law05_works (k : Nat) (D : CallF)  (h : AHeap) : Option ((Bool) × AHeap) :=
 (stripe_New k D 2 1 h).bind fun r1 =>
 joinK (fun (p2 : Option Addr) (y3 : Bool) (h4 : AHeap) =>
 (if y3 = true then
 some (false, h4)
 else
 (stripe_Plan_Split k D p2 (⟨#[97, 98, 99]⟩ : ByteArray) h4).bind fun r6 =>
 (if (r6.1.2 == 0) = true then
 (if ((r6.1.1.len : Int) == 3) = true then
 (Gx.idxL 1 r6.1.1 0).bind fun q7 =>
 (ldS q7 r6.2).bind fun x8 =>
 (if (x8 == (⟨#[97, 98]⟩ : ByteArray)) = true then
 (Gx.idxL 1 r6.1.1 1).bind fun q9 =>
 (ldS q9 r6.2).bind fun x10 =>
 (if (x10 == (⟨#[99, 0]⟩ : ByteArray)) = true then
 (Gx.idxL 1 r6.1.1 2).bind fun q11 =>
 (ldS q11 r6.2).bind fun x12 =>
 some (((x12.size : Int) == 2), r6.2)
 else
 some (false, r6.2))
 else
 some (false, r6.2))
 else
 some (false, r6.2))
 else
 some (false, r6.2)))) fun j5 =>
 (if r1.1.1.isNone = true then
 j5 r1.1.1 true r1.2
 else
 j5 r1.1.1 (r1.1.2 != 0) r1.2)
noncomputable def r_law05_works : RCode := an (.s .n (.s .n (.s (.s (.j [(1, .p), (13, .b)] .n) .n) .n))) (rOf Tryz.prog 0 Tryz.f5)
noncomputable def e_law05_works (k : Nat) (D : CallF) : Ent := entOf 5 [] [(0, .b)] (law05_works k D)
theorem q_law05_works : (Tryz.f5.body).bind (rcodeOf Tryz.prog 0 Tryz.f5.ntmps) = some (strip r_law05_works) := by kernel_rfl
theorem t_law05_works (k : Nat) (D : CallF) : curF [] (fun args h => denF (C_law05_works k D) k r_law05_works [(0, .b)] [none] args h) = law05_works k D := by kernel_rfl
theorem ok_law05_works {D : CallF} (hD : CSound Tryz.prog 0 D) (k : Nat) : EntOk Tryz.prog 0 (e_law05_works k D) :=
 entOf_ok2 (mkC_sound hD (EntsOk.more (ok_stripe_New hD k) (EntsOk.more (ok_stripe_Plan_Split hD k) (EntsOk.none)))) Tryz.func5 rfl q_law05_works rfl (t_law05_works k D)
end Gq
namespace Gq
open Go Gx Go.Proofs
set_option maxRecDepth 100000
noncomputable def C_ref04_zero (_k : Nat) (D : CallF) : CallF := mkC D []
noncomputable def ref04_zero (_k : Nat) (_D : CallF) (rows_0 : Int) (cols_1 : Int) (h : AHeap) : Option (((Int × Int × Slc)) × AHeap) :=
 let h1 := AHeap.new h (.cells [.int .i64 0, .int .i64 0, .slice none 0 0] 57 true 0)
 (if 0 ≤ (IntKind.wrap .i64 (rows_0 * cols_1)) ∧ (IntKind.wrap .i64 (rows_0 * cols_1)) ≤ (IntKind.wrap .i64 (rows_0 * cols_1)) ∧ (IntKind.wrap .i64 (rows_0 * cols_1)) ≤ 281474976710656 ∧ 8 * (IntKind.wrap .i64 (rows_0 * cols_1)) ≤ 281474976710656 then
 let h2 := AHeap.new h1 (.cells (zerosL ((IntKind.wrap .i64 (rows_0 * cols_1))).toNat [.int .i64 0]) 3 true 0)
 (stL 3 (⟨h.next, 0, none⟩ : Addr) ([.int .i64 rows_0, .int .i64 cols_1, .slice (some ⟨h1.next, 0, some 0⟩) (((IntKind.wrap .i64 (rows_0 * cols_1))).toNat) (((IntKind.wrap .i64 (rows_0 * cols_1))).toNat)]) h2).bind fun h3 =>
 (ldA 3 (⟨h.next, 0, none⟩ : Addr) h3).bind fun l4 =>
 (decC [.i .i64, .i .i64, .l] l4).bind fun x5 =>
 some ((x5.1, x5.2.1, x5.2.2), h3)
 else none)
noncomputable def r_ref04_zero : RCode := an (.n) (rOf Tryz.prog 0 Tryz.f34)
noncomputable def e_ref04_zero (k : Nat) (D : CallF) : Ent := entOf 34 [(0, .i .i64), (1, .i .i64)] [(4, .st [.i .i64, .i .i64, .l])] (ref04_zero k D)
theorem q_ref04_zero : (Tryz.f34.body).bind (rcodeOf Tryz.prog 0 Tryz.f34.ntmps) = some (strip r_ref04_zero) := by kernel_rfl
theorem t_ref04_zero (k : Nat) (D : CallF) : curF [(0, .i .i64), (1, .i .i64)] (fun args h => denF (C_ref04_zero k D) k r_ref04_zero [(4, .st [.i .i64, .i .i64, .l])] [some (.agg 3)] args h) = ref04_zero k D := by kernel_rfl
theorem ok_ref04_zero {D : CallF} (hD : CSound Tryz.prog 0 D) (k : Nat) : EntOk Tryz.prog 0 (e_ref04_zero k D) :=
 entOf_ok2 (mkC_sound hD (EntsOk.none)) Tryz.func34 rfl q_ref04_zero rfl (t_ref04_zero k D)
end Gq
namespace Gq
open Go Gx Go.Proofs
set_option maxRecDepth 100000
noncomputable def C_ref03_Times (_k : Nat) (D : CallF) : CallF := mkC D []
noncomputable def ref03_Times_l1b (_k : Nat) (_D : CallF) (j3 : Int → AHeap → Option ((Int) × AHeap)) (rec22 : Int → Int → Int → Int → AHeap → Option ((Int) × AHeap)) (a17 : Int) (b18 : Int) (n19 : Int) (i20 : Int) (h21 : AHeap) : Option ((Int) × AHeap) :=
 (if (decide (i20 < 8)) = true then
 joinK (fun (a23 : Int) (b24 : Int) (n25 : Int) (i26 : Int) (h27 : AHeap) =>
 rec22 a23 b24 n25 (IntKind.wrap .i64 (i26 + 1)) h27) fun j28 =>
 (if 0 ≤ i20 then
 let t29 : Int := (Go.bits .and .i64 (Int.fdiv b18 (2 ^ (min (i20).toNat (IntKind.bits .i64)))) 1)
 (if (t29 == 1) = true then
 (if 0 ≤ i20 then
 let t30 : Int := (IntKind.wrap .i64 (a17 * 2 ^ (min (i20).toNat (IntKind.bits .i64))))
 j28 a17 b18 (Go.bits .xor .i64 n19 t30) i20 h21
 else none)
 else
 j28 a17 b18 n19 i20 h21)
 else none)
 else
 j3 n19 h21)
noncomputable def ref03_Times_l1 (k : Nat) (D : CallF) (j3 : Int → AHeap → Option ((Int) × AHeap)) : Int → Int → Int → Int → AHeap → Option ((Int) × AHeap) :=
 iterK (α := Int → Int → Int → Int → AHeap → Option ((Int) × AHeap)) (fun _ _ _ _ _ => none) k (ref03_Times_l1b k D j3)
noncomputable def ref03_Times_l0b (_k : Nat) (_D : CallF) (j6 : Int → AHeap → Option ((Int) × AHeap)) (rec10 : Int → Int → AHeap → Option ((Int) × AHeap)) (n7 : Int) (i8 : Int) (h9 : AHeap) : Option ((Int) × AHeap) :=
 (if (decide (i8 ≥ 8)) = true then
 joinK (fun (n11 : Int) (i12 : Int) (h13 : AHeap) =>
 rec10 n11 (IntKind.wrap .i64 (i12 - 1)) h13) fun j14 =>
 (if 0 ≤ i8 then
 let t15 : Int := (Go.bits .and .i64 (Int.fdiv n7 (2 ^ (min (i8).toNat (IntKind.bits .i64)))) 1)
 (if (t15 == 1) = true then
 (if 0 ≤ (IntKind.wrap .i64 (i8 - 8)) then
 let t16 : Int := (IntKind.wrap .i64 (391 * 2 ^ (min ((IntKind.wrap .i64 (i8 - 8))).toNat (IntKind.bits .i64))))
 j14 (Go.bits .xor .i64 n7 t16) i8 h9
 else none)
 else
 j14 n7 i8 h9)
 else none)
 else
 j6 n7 h9)
noncomputable def ref03_Times_l0 (k : Nat) (D : CallF) (j6 : Int → AHeap → Option ((Int) × AHeap)) : Int → Int → AHeap → Option ((Int) × AHeap) :=
 iterK (α := Int → Int → AHeap → Option ((Int) × AHeap)) (fun _ _ _ => none) k (ref03_Times_l0b k D j6)
noncomputable def ref03_Times (k : Nat) (D : CallF) (a_0 : Int) (b_1 : Int) (h : AHeap) : Option ((Int) × AHeap) :=
 joinK (fun (n1 : Int) (h2 : AHeap) =>
 joinK (fun (n4 : Int) (h5 : AHeap) =>
 some (n4, h5)) fun j6 =>
 ref03_Times_l0 k D j6 n1 15 h2) fun j3 =>
 ref03_Times_l1 k D j3 a_0 b_1 0 0 h
noncomputable def r_ref03_Times : RCode := an (.s .n (.s .n (.s (.j [(5, .i .i64)] (.s .n (.b (.l [(0, .i .i64), (1, .i .i64), (5, .i .i64), (6, .i .i64)] (.s .n (.s (.j [(0, .i .i64), (1, .i .i64), (5, .i .i64), (6, .i .i64)] .n) .n)))))) (.s (.j [(5, .i .i64)] (.s .n (.b (.l [(5, .i .i64), (7, .i .i64)] (.s .n (.s (.j [(5, .i .i64), (7, .i .i64)] .n) .n)))))) .n)))) (rOf Tryz.prog 0 Tryz.f61)
noncomputable def e_ref03_Times (k : Nat) (D : CallF) : Ent := entOf 61 [(0, .i .i64), (1, .i .i64)] [(4, .i .i64)] (ref03_Times k D)
theorem q_ref03_Times : (Tryz.f61.body).bind (rcodeOf Tryz.prog 0 Tryz.f61.ntmps) = some (strip r_ref03_Times) := by kernel_rfl
theorem t_ref03_Times (k : Nat) (D : CallF) : curF [(0, .i .i64), (1, .i .i64)] (fun args h => denF (C_ref03_Times k D) k r_ref03_Times [(4, .i .i64)] [none] args h) = ref03_Times k D := by kernel_rfl
theorem ok_ref03_Times {D : CallF} (hD : CSound Tryz.prog 0 D) (k : Nat) : EntOk Tryz.prog 0 (e_ref03_Times k D) :=
 entOf_ok2 (mkC_sound hD (EntsOk.none)) Tryz.func61 rfl q_ref03_Times rfl (t_ref03_Times k D)
end Gq
namespace Gq
open Go Gx Go.Proofs
set_option maxRecDepth 100000
noncomputable def C_ref03_Over (k : Nat) (D : CallF) : CallF := mkC D [e_ref03_Times k D]
noncomputable def ref03_Over_l0b (k : Nat) (D : CallF) (j2 : AHeap → Option ((Int) × AHeap)) (rec7 : Int → Int → Int → AHeap → Option ((Int) × AHeap)) (a3 : Int) (b4 : Int) (q5 : Int) (h6 : AHeap) : Option ((Int) × AHeap) :=
 (if (decide (q5 < 256)) = true then
 (ref03_Times k D q5 b4 h6).bind fun r8 =>
 (if (r8.1 == a3) = true then
 some (q5, r8.2)
 else
 rec7 a3 b4 (IntKind.wrap .i64 (q5 + 1)) r8.2)
 else
 j2 h6)
noncomputable def ref03_Over_l0 (k : Nat) (D : CallF) (j2 : AHeap → Option ((Int) × AHeap)) : Int → Int → Int → AHeap → Option ((Int) × AHeap) :=
 iterK (α := Int → Int → Int → AHeap → Option ((Int) × AHeap)) (fun _ _ _ _ => none) k (ref03_Over_l0b k D j2)
noncomputable def ref03_Over (k : Nat) (D : CallF) (a_0 : Int) (b_1 : Int) (h : AHeap) : Option ((Int) × AHeap) :=
 joinK (fun (h1 : AHeap) =>
 some (0, h1)) fun j2 =>
 ref03_Over_l0 k D j2 a_0 b_1 0 h
noncomputable def r_ref03_Over : RCode := an (.s .n (.s (.j [] (.s .n (.b (.l [(0, .i .i64), (1, .i .i64), (5, .i .i64)] .n)))) .n)) (rOf Tryz.prog 0 Tryz.f35)
noncomputable def e_ref03_Over (k : Nat) (D : CallF) : Ent := entOf 35 [(0, .i .i64), (1, .i .i64)] [(4, .i .i64)] (ref03_Over k D)
theorem q_ref03_Over : (Tryz.f35.body).bind (rcodeOf Tryz.prog 0 Tryz.f35.ntmps) = some (strip r_ref03_Over) := by kernel_rfl
theorem t_ref03_Over (k : Nat) (D : CallF) : curF [(0, .i .i64), (1, .i .i64)] (fun args h => denF (C_ref03_Over k D) k r_ref03_Over [(4, .i .i64)] [none] args h) = ref03_Over k D := by kernel_rfl
theorem ok_ref03_Over {D : CallF} (hD : CSound Tryz.prog 0 D) (k : Nat) : EntOk Tryz.prog 0 (e_ref03_Over k D) :=
 entOf_ok2 (mkC_sound hD (EntsOk.more (ok_ref03_Times hD k) (EntsOk.none))) Tryz.func35 rfl q_ref03_Over rfl (t_ref03_Over k D)
end Gq
namespace Gq
open Go Gx Go.Proofs
set_option maxRecDepth 100000
noncomputable def C_ref04_Cauchy (k : Nat) (D : CallF) : CallF := mkC D [e_ref04_zero k D, e_ref03_Over k D]
noncomputable def ref04_Cauchy_l1b (k : Nat) (D : CallF) (j41 : Int → Int → (Option Addr) → (Option Addr) → Int → AHeap → Option (((Int × Int × Slc) × Int) × AHeap)) (rec53 : Int → Int → (Option Addr) → (Option Addr) → Int → Int → AHeap → Option (((Int × Int × Slc) × Int) × AHeap)) (kv46 : Int) (m47 : Int) (y48 : Option Addr) (out49 : Option Addr) (j50 : Int) (i51 : Int) (h52 : AHeap) : Option (((Int × Int × Slc) × Int) × AHeap) :=
 (if (decide (i51 < m47)) = true then
 (ref03_Over k D 1 (Go.bits .xor .i64 (IntKind.wrap .i64 (kv46 + i51)) j50) h52).bind fun r54 =>
 (out49).bind fun p55 =>
 (ldL (⟨p55.block, p55.off + 2, none⟩ : Addr) r54.2).bind fun x56 =>
 guardP (SameW [h52] (fun H58 => (ldL (⟨p55.block, p55.off + 2, none⟩ : Addr) H58).bind fun y57 => some (.slice y57.a y57.len y57.cap)) (.slice x56.a x56.len x56.cap)) (
 let t59 : Int := (IntKind.wrap .i64 ((IntKind.wrap .i64 (kv46 + i51)) * kv46))
 (Gx.idxL 1 x56 (IntKind.wrap .i64 (t59 + j50))).bind fun q60 =>
 (st1 q60 (.int .i64 r54.1) r54.2).bind fun h61 =>
 rec53 kv46 m47 y48 out49 j50 (IntKind.wrap .i64 (i51 + 1)) h61)
 else
 j41 kv46 m47 y48 out49 j50 h52)
noncomputable def ref04_Cauchy_l1 (k : Nat) (D : CallF) (j41 : Int → Int → (Option Addr) → (Option Addr) → Int → AHeap → Option (((Int × Int × Slc) × Int) × AHeap)) : Int → Int → (Option Addr) → (Option Addr) → Int → Int → AHeap → Option (((Int × Int × Slc) × Int) × AHeap) :=
 iterK (α := Int → Int → (Option Addr) → (Option Addr) → Int → Int → AHeap → Option (((Int × Int × Slc) × Int) × AHeap)) (fun _ _ _ _ _ _ _ => none) k (ref04_Cauchy_l1b k D j41)
noncomputable def ref04_Cauchy_l0b (k : Nat) (D : CallF) (j19 : (Option Addr) → (Option Addr) → AHeap → Option (((Int × Int × Slc) × Int) × AHeap)) (rec34 : Int → Int → (Option Addr) → (Option Addr) → Int → AHeap → Option (((Int × Int × Slc) × Int) × AHeap)) (kv28 : Int) (m29 : Int) (y30 : Option Addr) (out31 : Option Addr) (j32 : Int) (h33 : AHeap) : Option (((Int × Int × Slc) × Int) × AHeap) :=
 (if (decide (j32 < kv28)) = true then
 joinK (fun (kv35 : Int) (m36 : Int) (y37 : Option Addr) (out38 : Option Addr) (j39 : Int) (h40 : AHeap) =>
 rec34 kv35 m36 y37 out38 (IntKind.wrap .i64 (j39 + 1)) h40) fun j41 =>
 (out31).bind fun p42 =>
 (ldL (⟨p42.block, p42.off + 2, none⟩ : Addr) h33).bind fun x43 =>
 (Gx.idxL 1 x43 (IntKind.wrap .i64 ((IntKind.wrap .i64 (j32 * kv28)) + j32))).bind fun q44 =>
 (st1 q44 (.int .i64 1) h33).bind fun h45 =>
 ref04_Cauchy_l1 k D j41 kv28 m29 y30 out31 j32 0 h45
 else
 j19 y30 out31 h33)
noncomputable def ref04_Cauchy_l0 (k : Nat) (D : CallF) (j19 : (Option Addr) → (Option Addr) → AHeap → Option (((Int × Int × Slc) × Int) × AHeap)) : Int → Int → (Option Addr) → (Option Addr) → Int → AHeap → Option (((Int × Int × Slc) × Int) × AHeap) :=
 iterK (α := Int → Int → (Option Addr) → (Option Addr) → Int → AHeap → Option (((Int × Int × Slc) × Int) × AHeap)) (fun _ _ _ _ _ _ => none) k (ref04_Cauchy_l0b k D j19)
noncomputable def ref04_Cauchy (k : Nat) (D : CallF) (k_0 : Int) (m_1 : Int) (h : AHeap) : Option (((Int × Int × Slc) × Int) × AHeap) :=
 let h1 := AHeap.new h (.cells [.int .i64 0, .int .i64 0, .slice none 0 0] 57 true 0)
 joinK (fun (kv2 : Int) (m3 : Int) (y4 : Option Addr) (y5 : Bool) (h6 : AHeap) =>
 (if y5 = true then
 (y4).bind fun p8 =>
 (stL 3 p8 ([.int .i64 0, .int .i64 0, .slice none 0 0]) h6).bind fun h9 =>
 (y4).bind fun p10 =>
 (ldA 3 p10 h9).bind fun l11 =>
 (decC [.i .i64, .i .i64, .l] l11).bind fun x12 =>
 some (((x12.1, x12.2.1, x12.2.2), 1), h9)
 else
 (ref04_zero k D (IntKind.wrap .i64 (kv2 + m3)) kv2 h6).bind fun r13 =>
 let h14 := AHeap.new r13.2 (.cells [.int .i64 0, .int .i64 0, .slice none 0 0] 57 true 0)
 (stL 3 (⟨r13.2.next, 0, none⟩ : Addr) ([.int .i64 r13.1.1, .int .i64 r13.1.2.1, .slice r13.1.2.2.a r13.1.2.2.len r13.1.2.2.cap]) h14).bind fun h15 =>
 joinK (fun (y16 : Option Addr) (out17 : Option Addr) (h18 : AHeap) =>
 (out17).bind fun p20 =>
 (ldA 3 p20 h18).bind fun l21 =>
 (decC [.i .i64, .i .i64, .l] l21).bind fun x22 =>
 (y16).bind fun p23 =>
 (stL 3 p23 ([.int .i64 x22.1, .int .i64 x22.2.1, .slice x22.2.2.a x22.2.2.len x22.2.2.cap]) h18).bind fun h24 =>
 (y16).bind fun p25 =>
 (ldA 3 p25 h24).bind fun l26 =>
 (decC [.i .i64, .i .i64, .l] l26).bind fun x27 =>
 some (((x27.1, x27.2.1, x27.2.2), 0), h24)) fun j19 =>
 ref04_Cauchy_l0 k D j19 kv2 m3 y4 (some (⟨r13.2.next, 0, none⟩ : Addr)) 0 h15)) fun j7 =>
 (if (decide (k_0 < 1)) = true then
 j7 k_0 m_1 (some (⟨h.next, 0, none⟩ : Addr)) true h1
 else
 (if (decide (m_1 < 0)) = true then
 j7 k_0 m_1 (some (⟨h.next, 0, none⟩ : Addr)) true h1
 else
 (if (decide (k_0 > 255)) = true then
 j7 k_0 m_1 (some (⟨h.next, 0, none⟩ : Addr)) true h1
 else
 j7 k_0 m_1 (some (⟨h.next, 0, none⟩ : Addr)) (decide (m_1 > (IntKind.wrap .i64 (255 - k_0)))) h1)))
noncomputable def r_ref04_Cauchy : RCode := an (.s .n (.s (.s (.j [(0, .i .i64), (1, .i .i64), (4, .p), (24, .b)] .n) .n) (.s .n (.s (.j [(4, .p), (6, .p)] (.s .n (.b (.l [(0, .i .i64), (1, .i .i64), (4, .p), (6, .p), (7, .i .i64)] (.s .n (.s (.j [(0, .i .i64), (1, .i .i64), (4, .p), (6, .p), (7, .i .i64)] (.b (.s .n (.s .n (.b (.l [(0, .i .i64), (1, .i .i64), (4, .p), (6, .p), (7, .i .i64), (8, .i .i64)] .n)))))) .n)))))) (.s (.r [(0, .st [.i .i64, .i .i64, .l])]) .n))))) (rOf Tryz.prog 0 Tryz.f16)
noncomputable def e_ref04_Cauchy (k : Nat) (D : CallF) : Ent := entOf 16 [(0, .i .i64), (1, .i .i64)] [(4, .st [.i .i64, .i .i64, .l]), (5, .i .i64)] (ref04_Cauchy k D)
theorem q_ref04_Cauchy : (Tryz.f16.body).bind (rcodeOf Tryz.prog 0 Tryz.f16.ntmps) = some (strip r_ref04_Cauchy) := by kernel_rfl
theorem t_ref04_Cauchy (k : Nat) (D : CallF) : curF [(0, .i .i64), (1, .i .i64)] (fun args h => denF (C_ref04_Cauchy k D) k r_ref04_Cauchy [(4, .st [.i .i64, .i .i64, .l]), (5, .i .i64)] [some (.agg 3), none] args h) = ref04_Cauchy k D := by kernel_rfl
theorem ok_ref04_Cauchy {D : CallF} (hD : CSound Tryz.prog 0 D) (k : Nat) : EntOk Tryz.prog 0 (e_ref04_Cauchy k D) :=
 entOf_ok2 (mkC_sound hD (EntsOk.more (ok_ref04_zero hD k) (EntsOk.more (ok_ref03_Over hD k) (EntsOk.none)))) Tryz.func16 rfl q_ref04_Cauchy rfl (t_ref04_Cauchy k D)
end Gq
namespace Gq
open Go Gx Go.Proofs
set_option maxRecDepth 100000
noncomputable def C_ref05_New (k : Nat) (D : CallF) : CallF := mkC D [e_ref04_Cauchy k D]
noncomputable def ref05_New (k : Nat) (D : CallF) (k_0 : Int) (m_1 : Int) (h : AHeap) : Option (((Option Addr) × Int) × AHeap) :=
 (ref04_Cauchy k D k_0 m_1 h).bind fun r1 =>
 let h2 := AHeap.new r1.2 (.cells [.int .i64 0, .int .i64 0, .slice none 0 0] 57 true 0)
 (stL 3 (⟨r1.2.next, 0, none⟩ : Addr) ([.int .i64 r1.1.1.1, .int .i64 r1.1.1.2.1, .slice r1.1.1.2.2.a r1.1.1.2.2.len r1.1.1.2.2.cap]) h2).bind fun h3 =>
 (if (r1.1.2 != 0) = true then
 some ((none, r1.1.2), h3)
 else
 (ldA 3 (⟨r1.2.next, 0, none⟩ : Addr) h3).bind fun l4 =>
 (decC [.i .i64, .i .i64, .l] l4).bind fun x5 =>
 let h6 := AHeap.new h3 (.cells [.int .i64 k_0, .int .i64 m_1, .int .i64 x5.1, .int .i64 x5.2.1, .slice x5.2.2.a x5.2.2.len x5.2.2.cap] 61 true 0)
 some (((some (⟨h3.next, 0, none⟩ : Addr)), 0), h6))
noncomputable def r_ref05_New : RCode := an (.s .n (.s .n (.s .n (.s (.r [(2, .st [.i .i64, .i .i64, .l])]) .n)))) (rOf Tryz.prog 0 Tryz.f7)
noncomputable def e_ref05_New (k : Nat) (D : CallF) : Ent := entOf 7 [(0, .i .i64), (1, .i .i64)] [(4, .p), (5, .i .i64)] (ref05_New k D)
theorem q_ref05_New : (Tryz.f7.body).bind (rcodeOf Tryz.prog 0 Tryz.f7.ntmps) = some (strip r_ref05_New) := by kernel_rfl
theorem t_ref05_New (k : Nat) (D : CallF) : curF [(0, .i .i64), (1, .i .i64)] (fun args h => denF (C_ref05_New k D) k r_ref05_New [(4, .p), (5, .i .i64)] [none, none] args h) = ref05_New k D := by kernel_rfl
theorem ok_ref05_New {D : CallF} (hD : CSound Tryz.prog 0 D) (k : Nat) : EntOk Tryz.prog 0 (e_ref05_New k D) :=
 entOf_ok2 (mkC_sound hD (EntsOk.more (ok_ref04_Cauchy hD k) (EntsOk.none))) Tryz.func7 rfl q_ref05_New rfl (t_ref05_New k D)
end Gq
namespace Gq
open Go Gx Go.Proofs
set_option maxRecDepth 100000
noncomputable def C_stripe_Plan_known (_k : Nat) (D : CallF) : CallF := mkC D []
noncomputable def stripe_Plan_known (_k : Nat) (_D : CallF) (p_0 : Option Addr) (index_1 : Int) (h : AHeap) : Option ((Bool) × AHeap) :=
 (if (decide (index_1 ≥ 0)) = true then
 (p_0).bind fun p1 =>
 (ldI .i64 (⟨p1.block, p1.off + 0, none⟩ : Addr) h).bind fun x2 =>
 (p_0).bind fun p3 =>
 (ldI .i64 (⟨p3.block, p3.off + 1, none⟩ : Addr) h).bind fun x4 =>
 some ((decide (index_1 < (IntKind.wrap .i64 (x2 + x4)))), h)
 else
 some (false, h))
noncomputable def r_stripe_Plan_known : RCode := an (.n) (rOf Tryz.prog 0 Tryz.f25)
noncomputable def e_stripe_Plan_known (k : Nat) (D : CallF) : Ent := entOf 25 [(0, .p), (1, .i .i64)] [(4, .b)] (stripe_Plan_known k D)
theorem q_stripe_Plan_known : (Tryz.f25.body).bind (rcodeOf Tryz.prog 0 Tryz.f25.ntmps) = some (strip r_stripe_Plan_known) := by kernel_rfl
theorem t_stripe_Plan_known (k : Nat) (D : CallF) : curF [(0, .p), (1, .i .i64)] (fun args h => denF (C_stripe_Plan_known k D) k r_stripe_Plan_known [(4, .b)] [none] args h) = stripe_Plan_known k D := by kernel_rfl
theorem ok_stripe_Plan_known {D : CallF} (hD : CSound Tryz.prog 0 D) (k : Nat) : EntOk Tryz.prog 0 (e_stripe_Plan_known k D) :=
 entOf_ok2 (mkC_sound hD (EntsOk.none)) Tryz.func25 rfl q_stripe_Plan_known rfl (t_stripe_Plan_known k D)
end Gq
namespace Gq
open Go Gx Go.Proofs
set_option maxRecDepth 100000
noncomputable def C_stripe_Plan_unlike (k : Nat) (D : CallF) : CallF := mkC D [e_stripe_Plan_Each k D, e_stripe_Plan_known k D]
noncomputable def stripe_Plan_unlike_l0b (k : Nat) (D : CallF) (j5 : Slc → AHeap → Option ((Slc × Int) × AHeap)) (rec14 : (Option Addr) → Int → (Option Nat) → Slc → Slc → Int → Int → AHeap → Option ((Slc × Int) × AHeap)) (p6 : Option Addr) (n7 : Int) (seen8 : Option Nat) (out9 : Slc) (y10 : Slc) (y11 : Int) (y12 : Int) (h13 : AHeap) : Option ((Slc × Int) × AHeap) :=
 (if (decide (y12 < y11)) = true then
 joinK (fun (p15 : Option Addr) (n16 : Int) (seen17 : Option Nat) (out18 : Slc) (y19 : Slc) (y20 : Int) (y21 : Int) (h22 : AHeap) =>
 rec14 p15 n16 seen17 out18 y19 y20 (IntKind.wrap .i64 (y21 + 1)) h22) fun j23 =>
 (Gx.idxL 2 y10 y12).bind fun q24 =>
 (ldA 2 q24 h13).bind fun l25 =>
 (decC [.i .i64, .s] l25).bind fun x26 =>
 let h27 := AHeap.new h13 (.cells [.int .i64 0, .string ⟨#[]⟩] 35 true 0)
 (stL 2 (⟨h13.next, 0, none⟩ : Addr) ([.int .i64 x26.1, .string x26.2]) h27).bind fun h28 =>
 (ldI .i64 (⟨h13.next, 0, none⟩ : Addr) h28).bind fun x29 =>
 (stripe_Plan_known k D p6 x29 h28).bind fun r30 =>
 (if (!r30.1) = true then
 some (((⟨none, 0, 0⟩ : Slc), 1), r30.2)
 else
 (ldS (⟨h13.next, 1, none⟩ : Addr) r30.2).bind fun x31 =>
 (if ((x31.size : Int) != n7) = true then
 some (((⟨none, 0, 0⟩ : Slc), 4), r30.2)
 else
 joinK (fun (p32 : Option Addr) (n33 : Int) (seen34 : Option Nat) (out35 : Slc) (x36 : Option Addr) (y37 : Slc) (y38 : Int) (y39 : Int) (y40 : Bool) (h41 : AHeap) =>
 (if y40 = true then
 (x36).bind fun p43 =>
 (ldI .i64 (⟨p43.block, p43.off + 0, none⟩ : Addr) h41).bind fun x44 =>
 (seen34).bind fun r46 =>
 (updE h41 r46 (.int .i64 x44) (.bool true)).bind fun h45 =>
 (x36).bind fun p47 =>
 (ldA 2 p47 h45).bind fun l48 =>
 (decC [.i .i64, .s] l48).bind fun x49 =>
 let h50 := AHeap.new h45 (.cells [.int .i64 x49.1, .string x49.2] 35 true 0)
 (rdS 2 (⟨(some ⟨h45.next, 0, some 0⟩), 1, 1⟩ : Slc) h50).bind fun n52 =>
 (appendA 2 24 35 h50 out35 n52 1).bind fun r51 =>
 j23 p32 n33 seen34 r51.1 y37 y38 y39 r51.2
 else
 j23 p32 n33 seen34 out35 y37 y38 y39 h41)) fun j42 =>
 (ldI .i64 (⟨h13.next, 0, none⟩ : Addr) r30.2).bind fun x53 =>
 (lookE decB (.bool false) r30.2 seen8 (.int .i64 x53)).bind fun p54 =>
 (if (!p54.1) = true then
 (p6).bind fun p55 =>
 (ldI .i64 (⟨p55.block, p55.off + 0, none⟩ : Addr) r30.2).bind fun x56 =>
 j42 p6 n7 seen8 out9 (some (⟨h13.next, 0, none⟩ : Addr)) y10 y11 y12 (decide ((out9.len : Int) < x56)) r30.2
 else
 j42 p6 n7 seen8 out9 (some (⟨h13.next, 0, none⟩ : Addr)) y10 y11 y12 false r30.2)))
 else
 j5 out9 h13)
noncomputable def stripe_Plan_unlike_l0 (k : Nat) (D : CallF) (j5 : Slc → AHeap → Option ((Slc × Int) × AHeap)) : (Option Addr) → Int → (Option Nat) → Slc → Slc → Int → Int → AHeap → Option ((Slc × Int) × AHeap) :=
 iterK (α := (Option Addr) → Int → (Option Nat) → Slc → Slc → Int → Int → AHeap → Option ((Slc × Int) × AHeap)) (fun _ _ _ _ _ _ _ _ => none) k (stripe_Plan_unlike_l0b k D j5)
noncomputable def stripe_Plan_unlike (k : Nat) (D : CallF) (p_0 : Option Addr) (parts_1 : Slc) (long_2 : Int) (h : AHeap) : Option ((Slc × Int) × AHeap) :=
 (stripe_Plan_Each k D p_0 long_2 h).bind fun r1 =>
 (if (r1.1.2 != 0) = true then
 some (((⟨none, 0, 0⟩ : Slc), r1.1.2), r1.2)
 else
 let h2 := AHeap.new r1.2 (.map [] 0)
 joinK (fun (out3 : Slc) (h4 : AHeap) =>
 some ((out3, 0), h4)) fun j5 =>
 stripe_Plan_unlike_l0 k D j5 p_0 r1.1.1 (some r1.2.next) (⟨none, 0, 0⟩ : Slc) parts_1 (parts_1.len : Int) 0 h2)
noncomputable def r_stripe_Plan_unlike : RCode := an (.s .n (.s .n (.s .n (.s .n (.s .n (.s (.j [(11, .l)] (.s .n (.b (.l [(0, .p), (8, .i .i64), (10, .m), (11, .l), (24, .l), (25, .i .i64), (26, .i .i64)] (.s .n (.s .n (.s (.j [(0, .p), (8, .i .i64), (10, .m), (11, .l), (24, .l), (25, .i .i64), (26, .i .i64)] (.b (.s (.r [(1, .st [.i .i64, .s])]) (.b (.s .n (.s .n (.s .n (.s .n (.s (.j [(0, .p), (8, .i .i64), (10, .m), (11, .l), (13, .p), (24, .l), (25, .i .i64), (26, .i .i64), (42, .b)] .n) (.s (.s .n (.r [(1, .st [.i .i64, .s])])) .n)))))))))) .n))))))) .n)))))) (rOf Tryz.prog 0 Tryz.f17)
noncomputable def e_stripe_Plan_unlike (k : Nat) (D : CallF) : Ent := entOf 17 [(0, .p), (1, .l), (2, .i .i64)] [(6, .l), (7, .i .i64)] (stripe_Plan_unlike k D)
theorem q_stripe_Plan_unlike : (Tryz.f17.body).bind (rcodeOf Tryz.prog 0 Tryz.f17.ntmps) = some (strip r_stripe_Plan_unlike) := by kernel_rfl
theorem t_stripe_Plan_unlike (k : Nat) (D : CallF) : curF [(0, .p), (1, .l), (2, .i .i64)] (fun args h => denF (C_stripe_Plan_unlike k D) k r_stripe_Plan_unlike [(6, .l), (7, .i .i64)] [none, none] args h) = stripe_Plan_unlike k D := by kernel_rfl
theorem ok_stripe_Plan_unlike {D : CallF} (hD : CSound Tryz.prog 0 D) (k : Nat) : EntOk Tryz.prog 0 (e_stripe_Plan_unlike k D) :=
 entOf_ok2 (mkC_sound hD (EntsOk.more (ok_stripe_Plan_Each hD k) (EntsOk.more (ok_stripe_Plan_known hD k) (EntsOk.none)))) Tryz.func17 rfl q_stripe_Plan_unlike rfl (t_stripe_Plan_unlike k D)
end Gq
namespace Gq
open Go Gx Go.Proofs
set_option maxRecDepth 100000
noncomputable def C_matrix_Check (_k : Nat) (D : CallF) : CallF := mkC D []
noncomputable def matrix_Check_l0b (_k : Nat) (_D : CallF) (j13 : AHeap → Option ((Int) × AHeap)) (rec20 : Slc → Int → Int → AHeap → Option ((Int) × AHeap)) (y16 : Slc) (y17 : Int) (y18 : Int) (h19 : AHeap) : Option ((Int) × AHeap) :=
 (if (decide (y18 < y17)) = true then
 (Gx.idxL 1 y16 y18).bind fun q21 =>
 (ldI .i64 q21 h19).bind fun x22 =>
 joinK (fun (y23 : Slc) (y24 : Int) (y25 : Int) (y26 : Bool) (h27 : AHeap) =>
 (if y26 = true then
 some (1, h27)
 else
 rec20 y23 y24 (IntKind.wrap .i64 (y25 + 1)) h27)) fun j28 =>
 (if (decide (x22 < 0)) = true then
 j28 y16 y17 y18 true h19
 else
 j28 y16 y17 y18 (decide (x22 ≥ 256)) h19)
 else
 j13 h19)
noncomputable def matrix_Check_l0 (k : Nat) (D : CallF) (j13 : AHeap → Option ((Int) × AHeap)) : Slc → Int → Int → AHeap → Option ((Int) × AHeap) :=
 iterK (α := Slc → Int → Int → AHeap → Option ((Int) × AHeap)) (fun _ _ _ _ => none) k (matrix_Check_l0b k D j13)
noncomputable def matrix_Check (k : Nat) (D : CallF) (a_0 : Int × Int × Slc) (h : AHeap) : Option ((Int) × AHeap) :=
 let h1 := AHeap.new h (.cells [.int .i64 a_0.1, .int .i64 a_0.2.1, .slice a_0.2.2.a a_0.2.2.len a_0.2.2.cap] 50 true 0)
 joinK (fun (a2 : Option Addr) (y3 : Bool) (h4 : AHeap) =>
 (if y3 = true then
 some (1, h4)
 else
 (a2).bind fun p6 =>
 (ldL (⟨p6.block, p6.off + 2, none⟩ : Addr) h4).bind fun x7 =>
 (a2).bind fun p8 =>
 (ldI .i64 (⟨p8.block, p8.off + 0, none⟩ : Addr) h4).bind fun x9 =>
 (a2).bind fun p10 =>
 (ldI .i64 (⟨p10.block, p10.off + 1, none⟩ : Addr) h4).bind fun x11 =>
 (if ((x7.len : Int) != (IntKind.wrap .i64 (x9 * x11))) = true then
 some (4, h4)
 else
 joinK (fun (h12 : AHeap) =>
 some (0, h12)) fun j13 =>
 (a2).bind fun p14 =>
 (ldL (⟨p14.block, p14.off + 2, none⟩ : Addr) h4).bind fun x15 =>
 matrix_Check_l0 k D j13 x15 (x15.len : Int) 0 h4))) fun j5 =>
 (ldI .i64 (⟨h.next, 0, none⟩ : Addr) h1).bind fun x29 =>
 (ldI .i64 (⟨h.next, 1, none⟩ : Addr) h1).bind fun x30 =>
 (if (decide ((if x30 < x29 then x30 else x29) < 1)) = true then
 j5 (some (⟨h.next, 0, none⟩ : Addr)) true h1
 else
 (ldI .i64 (⟨h.next, 0, none⟩ : Addr) h1).bind fun x31 =>
 (ldI .i64 (⟨h.next, 1, none⟩ : Addr) h1).bind fun x32 =>
 j5 (some (⟨h.next, 0, none⟩ : Addr)) (decide ((if x32 > x31 then x32 else x31) > 255)) h1)
noncomputable def r_matrix_Check : RCode := an (.s .n (.s (.b (.s (.j [(1, .p), (5, .b)] .n) .n)) (.s (.j [] (.s .n (.b (.l [(31, .l), (32, .i .i64), (33, .i .i64)] (.s .n (.s .n (.s (.b (.s .n (.s (.j [(31, .l), (32, .i .i64), (33, .i .i64), (42, .b)] .n) .n))) .n))))))) .n))) (rOf Tryz.prog 0 Tryz.f64)
noncomputable def e_matrix_Check (k : Nat) (D : CallF) : Ent := entOf 64 [(0, .st [.i .i64, .i .i64, .l])] [(2, .i .i64)] (matrix_Check k D)
theorem q_matrix_Check : (Tryz.f64.body).bind (rcodeOf Tryz.prog 0 Tryz.f64.ntmps) = some (strip r_matrix_Check) := by kernel_rfl
theorem t_matrix_Check (k : Nat) (D : CallF) : curF [(0, .st [.i .i64, .i .i64, .l])] (fun args h => denF (C_matrix_Check k D) k r_matrix_Check [(2, .i .i64)] [none] args h) = matrix_Check k D := by kernel_rfl
theorem ok_matrix_Check {D : CallF} (hD : CSound Tryz.prog 0 D) (k : Nat) : EntOk Tryz.prog 0 (e_matrix_Check k D) :=
 entOf_ok2 (mkC_sound hD (EntsOk.none)) Tryz.func64 rfl q_matrix_Check rfl (t_matrix_Check k D)
end Gq
namespace Gq
open Go Gx Go.Proofs
set_option maxRecDepth 100000
noncomputable def C_matrix_Pick (k : Nat) (D : CallF) : CallF := mkC D [e_matrix_Check k D, e_matrix_M_row k D]
noncomputable def matrix_Pick_l0b (k : Nat) (D : CallF) (j27 : (Option Addr) → (Option Addr) → AHeap → Option (((Int × Int × Slc) × Int) × AHeap)) (rec43 : (Option Addr) → (Option Addr) → (Option Addr) → Slc → Int → Int → AHeap → Option (((Int × Int × Slc) × Int) × AHeap)) (a36 : Option Addr) (y37 : Option Addr) (out38 : Option Addr) (y39 : Slc) (y40 : Int) (y41 : Int) (h42 : AHeap) : Option (((Int × Int × Slc) × Int) × AHeap) :=
 (if (decide (y41 < y40)) = true then
 (Gx.idxL 1 y39 y41).bind fun q44 =>
 (ldI .i64 q44 h42).bind fun x45 =>
 joinK (fun (a46 : Option Addr) (y47 : Option Addr) (out48 : Option Addr) (i49 : Int) (y50 : Slc) (y51 : Int) (y52 : Int) (y53 : Bool) (h54 : AHeap) =>
 (if y53 = true then
 (y47).bind fun p56 =>
 (stL 3 p56 ([.int .i64 0, .int .i64 0, .slice none 0 0]) h54).bind fun h57 =>
 (y47).bind fun p58 =>
 (ldA 3 p58 h57).bind fun l59 =>
 (decC [.i .i64, .i .i64, .l] l59).bind fun x60 =>
 some (((x60.1, x60.2.1, x60.2.2), 1), h57)
 else
 (a46).bind fun p61 =>
 (ldA 3 p61 h54).bind fun l62 =>
 (decC [.i .i64, .i .i64, .l] l62).bind fun x63 =>
 (matrix_M_row k D (x63.1, x63.2.1, x63.2.2) i49 h54).bind fun r64 =>
 (out48).bind fun p65 =>
 (ldL (⟨p65.block, p65.off + 2, none⟩ : Addr) r64.2).bind fun x66 =>
 guardP (SameW [h54] (fun H68 => (ldL (⟨p65.block, p65.off + 2, none⟩ : Addr) H68).bind fun y67 => some (.slice y67.a y67.len y67.cap)) (.slice x66.a x66.len x66.cap)) (
 (rdS 1 r64.1 r64.2).bind fun n70 =>
 (appendA 1 8 3 r64.2 x66 n70 r64.1.len).bind fun r69 =>
 (out48).bind fun p71 =>
 (st1 (⟨p71.block, p71.off + 2, none⟩ : Addr) (.slice r69.1.a r69.1.len r69.1.cap) r69.2).bind fun h72 =>
 rec43 a46 y47 out48 y50 y51 (IntKind.wrap .i64 (y52 + 1)) h72))) fun j55 =>
 (if (decide (x45 < 0)) = true then
 j55 a36 y37 out38 x45 y39 y40 y41 true h42
 else
 (a36).bind fun p73 =>
 (ldI .i64 (⟨p73.block, p73.off + 0, none⟩ : Addr) h42).bind fun x74 =>
 j55 a36 y37 out38 x45 y39 y40 y41 (decide (x45 ≥ x74)) h42)
 else
 j27 y37 out38 h42)
noncomputable def matrix_Pick_l0 (k : Nat) (D : CallF) (j27 : (Option Addr) → (Option Addr) → AHeap → Option (((Int × Int × Slc) × Int) × AHeap)) : (Option Addr) → (Option Addr) → (Option Addr) → Slc → Int → Int → AHeap → Option (((Int × Int × Slc) × Int) × AHeap) :=
 iterK (α := (Option Addr) → (Option Addr) → (Option Addr) → Slc → Int → Int → AHeap → Option (((Int × Int × Slc) × Int) × AHeap)) (fun _ _ _ _ _ _ _ => none) k (matrix_Pick_l0b k D j27)
noncomputable def matrix_Pick (k : Nat) (D : CallF) (a_0 : Int × Int × Slc) (rows_1 : Slc) (h : AHeap) : Option (((Int × Int × Slc) × Int) × AHeap) :=
 let h1 := AHeap.new h (.cells [.int .i64 a_0.1, .int .i64 a_0.2.1, .slice a_0.2.2.a a_0.2.2.len a_0.2.2.cap] 50 true 0)
 let h2 := AHeap.new h1 (.cells [.int .i64 0, .int .i64 0, .slice none 0 0] 50 true 0)
 (ldA 3 (⟨h.next, 0, none⟩ : Addr) h2).bind fun l3 =>
 (decC [.i .i64, .i .i64, .l] l3).bind fun x4 =>
 (matrix_Check k D (x4.1, x4.2.1, x4.2.2) h2).bind fun r5 =>
 (if (r5.1 != 0) = true then
 (stL 3 (⟨h1.next, 0, none⟩ : Addr) ([.int .i64 0, .int .i64 0, .slice none 0 0]) r5.2).bind fun h6 =>
 (ldA 3 (⟨h1.next, 0, none⟩ : Addr) h6).bind fun l7 =>
 (decC [.i .i64, .i .i64, .l] l7).bind fun x8 =>
 some (((x8.1, x8.2.1, x8.2.2), r5.1), h6)
 else
 joinK (fun (rows9 : Slc) (a10 : Option Addr) (y11 : Option Addr) (y12 : Bool) (h13 : AHeap) =>
 (if y12 = true then
 (y11).bind fun p15 =>
 (stL 3 p15 ([.int .i64 0, .int .i64 0, .slice none 0 0]) h13).bind fun h16 =>
 (y11).bind fun p17 =>
 (ldA 3 p17 h16).bind fun l18 =>
 (decC [.i .i64, .i .i64, .l] l18).bind fun x19 =>
 some (((x19.1, x19.2.1, x19.2.2), 1), h16)
 else
 (a10).bind fun p20 =>
 (ldI .i64 (⟨p20.block, p20.off + 1, none⟩ : Addr) h13).bind fun x21 =>
 let h22 := AHeap.new h13 (.cells [.int .i64 0, .int .i64 0, .slice none 0 0] 50 true 0)
 (stL 3 (⟨h13.next, 0, none⟩ : Addr) ([.int .i64 (rows9.len : Int), .int .i64 x21, .slice none 0 0]) h22).bind fun h23 =>
 joinK (fun (y24 : Option Addr) (out25 : Option Addr) (h26 : AHeap) =>
 (out25).bind fun p28 =>
 (ldA 3 p28 h26).bind fun l29 =>
 (decC [.i .i64, .i .i64, .l] l29).bind fun x30 =>
 (y24).bind fun p31 =>
 (stL 3 p31 ([.int .i64 x30.1, .int .i64 x30.2.1, .slice x30.2.2.a x30.2.2.len x30.2.2.cap]) h26).bind fun h32 =>
 (y24).bind fun p33 =>
 (ldA 3 p33 h32).bind fun l34 =>
 (decC [.i .i64, .i .i64, .l] l34).bind fun x35 =>
 some (((x35.1, x35.2.1, x35.2.2), 0), h32)) fun j27 =>
 matrix_Pick_l0 k D j27 a10 y11 (some (⟨h13.next, 0, none⟩ : Addr)) rows9 (rows9.len : Int) 0 h23)) fun j14 =>
 (if ((rows_1.len : Int) == 0) = true then
 j14 rows_1 (some (⟨h.next, 0, none⟩ : Addr)) (some (⟨h1.next, 0, none⟩ : Addr)) true r5.2
 else
 j14 rows_1 (some (⟨h.next, 0, none⟩ : Addr)) (some (⟨h1.next, 0, none⟩ : Addr)) (decide ((rows_1.len : Int) > 255)) r5.2))
noncomputable def r_matrix_Pick : RCode := an (.s .n (.s (.s (.r [(0, .st [.i .i64, .i .i64, .l])]) .n) (.s (.s (.j [(1, .l), (2, .p), (4, .p), (23, .b)] .n) .n) (.s .n (.s (.j [(4, .p), (7, .p)] (.s .n (.b (.l [(2, .p), (4, .p), (7, .p), (30, .l), (31, .i .i64), (32, .i .i64)] (.s .n (.s .n (.s (.b (.s .n (.s (.s (.j [(2, .p), (4, .p), (7, .p), (9, .i .i64), (30, .l), (31, .i .i64), (32, .i .i64), (43, .b)] .n) .n) (.r [(0, .st [.i .i64, .i .i64, .l])])))) .n))))))) (.s (.r [(0, .st [.i .i64, .i .i64, .l])]) .n)))))) (rOf Tryz.prog 0 Tryz.f39)
noncomputable def e_matrix_Pick (k : Nat) (D : CallF) : Ent := entOf 39 [(0, .st [.i .i64, .i .i64, .l]), (1, .l)] [(4, .st [.i .i64, .i .i64, .l]), (5, .i .i64)] (matrix_Pick k D)
theorem q_matrix_Pick : (Tryz.f39.body).bind (rcodeOf Tryz.prog 0 Tryz.f39.ntmps) = some (strip r_matrix_Pick) := by kernel_rfl
theorem t_matrix_Pick (k : Nat) (D : CallF) : curF [(0, .st [.i .i64, .i .i64, .l]), (1, .l)] (fun args h => denF (C_matrix_Pick k D) k r_matrix_Pick [(4, .st [.i .i64, .i .i64, .l]), (5, .i .i64)] [some (.agg 3), none] args h) = matrix_Pick k D := by kernel_rfl
theorem ok_matrix_Pick {D : CallF} (hD : CSound Tryz.prog 0 D) (k : Nat) : EntOk Tryz.prog 0 (e_matrix_Pick k D) :=
 entOf_ok2 (mkC_sound hD (EntsOk.more (ok_matrix_Check hD k) (EntsOk.more (ok_matrix_M_row hD k) (EntsOk.none)))) Tryz.func39 rfl q_matrix_Pick rfl (t_matrix_Pick k D)
end Gq
namespace Gq
open Go Gx Go.Proofs
set_option maxRecDepth 100000
noncomputable def C_matrix_One (k : Nat) (D : CallF) : CallF := mkC D [e_matrix_blank k D, e_matrix_M_row k D]
noncomputable def matrix_One_l0b (k : Nat) (D : CallF) (j18 : (Option Addr) → (Option Addr) → AHeap → Option (((Int × Int × Slc) × Int) × AHeap)) (rec32 : (Option Addr) → (Option Addr) → Int → Int → AHeap → Option (((Int × Int × Slc) × Int) × AHeap)) (y27 : Option Addr) (out28 : Option Addr) (y29 : Int) (y30 : Int) (h31 : AHeap) : Option (((Int × Int × Slc) × Int) × AHeap) :=
 (if (decide (y30 < y29)) = true then
 (out28).bind fun p33 =>
 (ldA 3 p33 h31).bind fun l34 =>
 (decC [.i .i64, .i .i64, .l] l34).bind fun x35 =>
 (matrix_M_row k D (x35.1, x35.2.1, x35.2.2) y30 h31).bind fun r36 =>
 (Gx.idxL 1 r36.1 y30).bind fun q37 =>
 (st1 q37 (.int .i64 1) r36.2).bind fun h38 =>
 rec32 y27 out28 y29 (IntKind.wrap .i64 (y30 + 1)) h38
 else
 j18 y27 out28 h31)
noncomputable def matrix_One_l0 (k : Nat) (D : CallF) (j18 : (Option Addr) → (Option Addr) → AHeap → Option (((Int × Int × Slc) × Int) × AHeap)) : (Option Addr) → (Option Addr) → Int → Int → AHeap → Option (((Int × Int × Slc) × Int) × AHeap) :=
 iterK (α := (Option Addr) → (Option Addr) → Int → Int → AHeap → Option (((Int × Int × Slc) × Int) × AHeap)) (fun _ _ _ _ _ => none) k (matrix_One_l0b k D j18)
noncomputable def matrix_One (k : Nat) (D : CallF) (n_0 : Int) (h : AHeap) : Option (((Int × Int × Slc) × Int) × AHeap) :=
 let h1 := AHeap.new h (.cells [.int .i64 0, .int .i64 0, .slice none 0 0] 50 true 0)
 joinK (fun (n2 : Int) (y3 : Option Addr) (y4 : Bool) (h5 : AHeap) =>
 (if y4 = true then
 (y3).bind fun p7 =>
 (stL 3 p7 ([.int .i64 0, .int .i64 0, .slice none 0 0]) h5).bind fun h8 =>
 (y3).bind fun p9 =>
 (ldA 3 p9 h8).bind fun l10 =>
 (decC [.i .i64, .i .i64, .l] l10).bind fun x11 =>
 some (((x11.1, x11.2.1, x11.2.2), 1), h8)
 else
 (matrix_blank k D n2 n2 h5).bind fun r12 =>
 let h13 := AHeap.new r12.2 (.cells [.int .i64 0, .int .i64 0, .slice none 0 0] 50 true 0)
 (stL 3 (⟨r12.2.next, 0, none⟩ : Addr) ([.int .i64 r12.1.1, .int .i64 r12.1.2.1, .slice r12.1.2.2.a r12.1.2.2.len r12.1.2.2.cap]) h13).bind fun h14 =>
 joinK (fun (y15 : Option Addr) (out16 : Option Addr) (h17 : AHeap) =>
 (out16).bind fun p19 =>
 (ldA 3 p19 h17).bind fun l20 =>
 (decC [.i .i64, .i .i64, .l] l20).bind fun x21 =>
 (y15).bind fun p22 =>
 (stL 3 p22 ([.int .i64 x21.1, .int .i64 x21.2.1, .slice x21.2.2.a x21.2.2.len x21.2.2.cap]) h17).bind fun h23 =>
 (y15).bind fun p24 =>
 (ldA 3 p24 h23).bind fun l25 =>
 (decC [.i .i64, .i .i64, .l] l25).bind fun x26 =>
 some (((x26.1, x26.2.1, x26.2.2), 0), h23)) fun j18 =>
 matrix_One_l0 k D j18 y3 (some (⟨r12.2.next, 0, none⟩ : Addr)) n2 0 h14)) fun j6 =>
 (if (decide (n_0 < 1)) = true then
 j6 n_0 (some (⟨h.next, 0, none⟩ : Addr)) true h1
 else
 j6 n_0 (some (⟨h.next, 0, none⟩ : Addr)) (decide (n_0 > 255)) h1)
noncomputable def r_matrix_One : RCode := an (.s .n (.s (.s (.j [(0, .i .i64), (2, .p), (11, .b)] .n) .n) (.s .n (.s (.j [(2, .p), (4, .p)] (.s .n (.b (.l [(2, .p), (4, .p), (16, .i .i64), (17, .i .i64)] (.s .n (.s .n (.s (.b (.s .n (.r [(0, .st [.i .i64, .i .i64, .l])]))) .n))))))) (.s (.r [(0, .st [.i .i64, .i .i64, .l])]) .n))))) (rOf Tryz.prog 0 Tryz.f65)
noncomputable def e_matrix_One (k : Nat) (D : CallF) : Ent := entOf 65 [(0, .i .i64)] [(2, .st [.i .i64, .i .i64, .l]), (3, .i .i64)] (matrix_One k D)
theorem q_matrix_One : (Tryz.f65.body).bind (rcodeOf Tryz.prog 0 Tryz.f65.ntmps) = some (strip r_matrix_One) := by kernel_rfl
theorem t_matrix_One (k : Nat) (D : CallF) : curF [(0, .i .i64)] (fun args h => denF (C_matrix_One k D) k r_matrix_One [(2, .st [.i .i64, .i .i64, .l]), (3, .i .i64)] [some (.agg 3), none] args h) = matrix_One k D := by kernel_rfl
theorem ok_matrix_One {D : CallF} (hD : CSound Tryz.prog 0 D) (k : Nat) : EntOk Tryz.prog 0 (e_matrix_One k D) :=
 entOf_ok2 (mkC_sound hD (EntsOk.more (ok_matrix_blank hD k) (EntsOk.more (ok_matrix_M_row hD k) (EntsOk.none)))) Tryz.func65 rfl q_matrix_One rfl (t_matrix_One k D)
end Gq
namespace Gq
open Go Gx Go.Proofs
set_option maxRecDepth 100000
noncomputable def C_matrix_clone (_k : Nat) (D : CallF) : CallF := mkC D []
noncomputable def matrix_clone (_k : Nat) (_D : CallF) (a_0 : Int × Int × Slc) (h : AHeap) : Option (((Int × Int × Slc)) × AHeap) :=
 let h1 := AHeap.new h (.cells [.int .i64 a_0.1, .int .i64 a_0.2.1, .slice a_0.2.2.a a_0.2.2.len a_0.2.2.cap] 50 true 0)
 let h2 := AHeap.new h1 (.cells [.int .i64 0, .int .i64 0, .slice none 0 0] 50 true 0)
 (ldL (⟨h.next, 2, none⟩ : Addr) h2).bind fun x3 =>
 (rdS 1 x3 h2).bind fun n5 =>
 (appendA 1 8 3 h2 (⟨none, 0, 0⟩ : Slc) n5 x3.len).bind fun r4 =>
 (ldI .i64 (⟨h.next, 0, none⟩ : Addr) r4.2).bind fun x6 =>
 guardP (SameW [h2] (fun H8 => (ldI .i64 (⟨h.next, 0, none⟩ : Addr) H8).bind fun y7 => some (.int .i64 y7)) (.int .i64 x6)) (
 (ldI .i64 (⟨h.next, 1, none⟩ : Addr) r4.2).bind fun x9 =>
 guardP (SameW [h2] (fun H11 => (ldI .i64 (⟨h.next, 1, none⟩ : Addr) H11).bind fun y10 => some (.int .i64 y10)) (.int .i64 x9)) (
 (stL 3 (⟨h1.next, 0, none⟩ : Addr) ([.int .i64 x6, .int .i64 x9, .slice r4.1.a r4.1.len r4.1.cap]) r4.2).bind fun h12 =>
 (ldA 3 (⟨h1.next, 0, none⟩ : Addr) h12).bind fun l13 =>
 (decC [.i .i64, .i .i64, .l] l13).bind fun x14 =>
 some ((x14.1, x14.2.1, x14.2.2), h12)))
noncomputable def r_matrix_clone : RCode := an (.n) (rOf Tryz.prog 0 Tryz.f67)
noncomputable def e_matrix_clone (k : Nat) (D : CallF) : Ent := entOf 67 [(0, .st [.i .i64, .i .i64, .l])] [(2, .st [.i .i64, .i .i64, .l])] (matrix_clone k D)
theorem q_matrix_clone : (Tryz.f67.body).bind (rcodeOf Tryz.prog 0 Tryz.f67.ntmps) = some (strip r_matrix_clone) := by kernel_rfl
theorem t_matrix_clone (k : Nat) (D : CallF) : curF [(0, .st [.i .i64, .i .i64, .l])] (fun args h => denF (C_matrix_clone k D) k r_matrix_clone [(2, .st [.i .i64, .i .i64, .l])] [some (.agg 3)] args h) = matrix_clone k D := by kernel_rfl
theorem ok_matrix_clone {D : CallF} (hD : CSound Tryz.prog 0 D) (k : Nat) : EntOk Tryz.prog 0 (e_matrix_clone k D) :=
 entOf_ok2 (mkC_sound hD (EntsOk.none)) Tryz.func67 rfl q_matrix_clone rfl (t_matrix_clone k D)
end Gq
namespace Gq
open Go Gx Go.Proofs
set_option maxRecDepth 100000
noncomputable def C_matrix_M_swap (k : Nat) (D : CallF) : CallF := mkC D [e_matrix_M_row k D]
noncomputable def matrix_M_swap_l0b (_k : Nat) (_D : CallF)  (rec15 : Slc → Slc → Int → Int → AHeap → Option ((Unit) × AHeap)) (x10 : Slc) (y11 : Slc) (y12 : Int) (y13 : Int) (h14 : AHeap) : Option ((Unit) × AHeap) :=
 (if (decide (y13 < y12)) = true then
 (Gx.idxL 1 y11 y13).bind fun q16 =>
 (ldI .i64 q16 h14).bind fun x17 =>
 (Gx.idxL 1 x10 y13).bind fun q18 =>
 (ldI .i64 q18 h14).bind fun x19 =>
 (Gx.idxL 1 x10 y13).bind fun q20 =>
 (st1 q20 (.int .i64 x17) h14).bind fun h21 =>
 (Gx.idxL 1 y11 y13).bind fun q22 =>
 (st1 q22 (.int .i64 x19) h21).bind fun h23 =>
 rec15 x10 y11 y12 (IntKind.wrap .i64 (y13 + 1)) h23
 else
 some ((), h14))
noncomputable def matrix_M_swap_l0 (k : Nat) (D : CallF)  : Slc → Slc → Int → Int → AHeap → Option ((Unit) × AHeap) :=
 iterK (α := Slc → Slc → Int → Int → AHeap → Option ((Unit) × AHeap)) (fun _ _ _ _ _ => none) k (matrix_M_swap_l0b k D )
noncomputable def matrix_M_swap (k : Nat) (D : CallF) (a_0 : Int × Int × Slc) (i_1 : Int) (k_2 : Int) (h : AHeap) : Option ((Unit) × AHeap) :=
 let h1 := AHeap.new h (.cells [.int .i64 a_0.1, .int .i64 a_0.2.1, .slice a_0.2.2.a a_0.2.2.len a_0.2.2.cap] 50 true 0)
 (ldA 3 (⟨h.next, 0, none⟩ : Addr) h1).bind fun l2 =>
 (decC [.i .i64, .i .i64, .l] l2).bind fun x3 =>
 (matrix_M_row k D (x3.1, x3.2.1, x3.2.2) i_1 h1).bind fun r4 =>
 (ldA 3 (⟨h.next, 0, none⟩ : Addr) r4.2).bind fun l5 =>
 guardP (SameW [h1] (fun H7 => (ldA 3 (⟨h.next, 0, none⟩ : Addr) H7).bind fun y6 => some (.agg ⟨y6⟩)) (.agg ⟨l5⟩)) (
 (decC [.i .i64, .i .i64, .l] l5).bind fun x8 =>
 (matrix_M_row k D (x8.1, x8.2.1, x8.2.2) k_2 r4.2).bind fun r9 =>
 matrix_M_swap_l0 k D r4.1 r9.1 (r4.1.len : Int) 0 r9.2)
noncomputable def r_matrix_M_swap : RCode := an (.s .n (.s (.r [(0, .st [.i .i64, .i .i64, .l]), (3, .st [.i .i64, .i .i64, .l])]) (.s .n (.b (.l [(6, .l), (7, .l), (16, .i .i64), (17, .i .i64)] .n))))) (rOf Tryz.prog 0 Tryz.f75)
noncomputable def e_matrix_M_swap (k : Nat) (D : CallF) : Ent := entOf 75 [(0, .st [.i .i64, .i .i64, .l]), (1, .i .i64), (2, .i .i64)] [] (matrix_M_swap k D)
theorem q_matrix_M_swap : (Tryz.f75.body).bind (rcodeOf Tryz.prog 0 Tryz.f75.ntmps) = some (strip r_matrix_M_swap) := by kernel_rfl
theorem t_matrix_M_swap (k : Nat) (D : CallF) : curF [(0, .st [.i .i64, .i .i64, .l]), (1, .i .i64), (2, .i .i64)] (fun args h => denF (C_matrix_M_swap k D) k r_matrix_M_swap [] [] args h) = matrix_M_swap k D := by kernel_rfl
theorem ok_matrix_M_swap {D : CallF} (hD : CSound Tryz.prog 0 D) (k : Nat) : EntOk Tryz.prog 0 (e_matrix_M_swap k D) :=
 entOf_ok2 (mkC_sound hD (EntsOk.more (ok_matrix_M_row hD k) (EntsOk.none))) Tryz.func75 rfl q_matrix_M_swap rfl (t_matrix_M_swap k D)
end Gq
namespace Gq
open Go Gx Go.Proofs
set_option maxRecDepth 100000
noncomputable def C_matrix_Space_divide (k : Nat) (D : CallF) : CallF := mkC D [e_field_Field_Div k D]
noncomputable def matrix_Space_divide_l0b (k : Nat) (D : CallF)  (rec8 : (Option Addr) → Slc → Int → Slc → Int → Int → AHeap → Option ((Unit) × AHeap)) (s1 : Option Addr) (row2 : Slc) (byv3 : Int) (y4 : Slc) (y5 : Int) (y6 : Int) (h7 : AHeap) : Option ((Unit) × AHeap) :=
 (if (decide (y6 < y5)) = true then
 (Gx.idxL 1 y4 y6).bind fun q9 =>
 (ldI .i64 q9 h7).bind fun x10 =>
 (s1).bind fun p11 =>
 (ldP (⟨p11.block, p11.off + 0, none⟩ : Addr) h7).bind fun x12 =>
 (field_Field_Div k D x12 x10 byv3 h7).bind fun r13 =>
 (Gx.idxL 1 row2 y6).bind fun q14 =>
 (st1 q14 (.int .i64 r13.1.1) r13.2).bind fun h15 =>
 rec8 s1 row2 byv3 y4 y5 (IntKind.wrap .i64 (y6 + 1)) h15
 else
 some ((), h7))
noncomputable def matrix_Space_divide_l0 (k : Nat) (D : CallF)  : (Option Addr) → Slc → Int → Slc → Int → Int → AHeap → Option ((Unit) × AHeap) :=
 iterK (α := (Option Addr) → Slc → Int → Slc → Int → Int → AHeap → Option ((Unit) × AHeap)) (fun _ _ _ _ _ _ _ => none) k (matrix_Space_divide_l0b k D )
noncomputable def matrix_Space_divide (k : Nat) (D : CallF) (s_0 : Option Addr) (row_1 : Slc) (by_2 : Int) (h : AHeap) : Option ((Unit) × AHeap) :=
 matrix_Space_divide_l0 k D s_0 row_1 by_2 row_1 (row_1.len : Int) 0 h
noncomputable def r_matrix_Space_divide : RCode := an (.s .n (.b (.l [(0, .p), (1, .l), (2, .i .i64), (8, .l), (9, .i .i64), (10, .i .i64)] .n))) (rOf Tryz.prog 0 Tryz.f76)
noncomputable def e_matrix_Space_divide (k : Nat) (D : CallF) : Ent := entOf 76 [(0, .p), (1, .l), (2, .i .i64)] [] (matrix_Space_divide k D)
theorem q_matrix_Space_divide : (Tryz.f76.body).bind (rcodeOf Tryz.prog 0 Tryz.f76.ntmps) = some (strip r_matrix_Space_divide) := by kernel_rfl
theorem t_matrix_Space_divide (k : Nat) (D : CallF) : curF [(0, .p), (1, .l), (2, .i .i64)] (fun args h => denF (C_matrix_Space_divide k D) k r_matrix_Space_divide [] [] args h) = matrix_Space_divide k D := by kernel_rfl
theorem ok_matrix_Space_divide {D : CallF} (hD : CSound Tryz.prog 0 D) (k : Nat) : EntOk Tryz.prog 0 (e_matrix_Space_divide k D) :=
 entOf_ok2 (mkC_sound hD (EntsOk.more (ok_field_Field_Div hD k) (EntsOk.none))) Tryz.func76 rfl q_matrix_Space_divide rfl (t_matrix_Space_divide k D)
end Gq
namespace Gq
open Go Gx Go.Proofs
set_option maxRecDepth 100000
noncomputable def C_field_Field_Mul (k : Nat) (D : CallF) : CallF := mkC D [e_field_is k D, e_field_Field_tables k D, e_field_tables_times k D]
noncomputable def field_Field_Mul (k : Nat) (D : CallF) (f_0 : Option Addr) (a_1 : Int) (b_2 : Int) (h : AHeap) : Option ((Int × Int) × AHeap) :=
 let h1 := AHeap.new h (.cells [.int .i64 a_1, .int .i64 b_2] 3 true 0)
 (field_is k D (⟨(some ⟨h.next, 0, some 0⟩), 2, 2⟩ : Slc) h1).bind fun r2 =>
 (if (!r2.1) = true then
 some ((0, 1), r2.2)
 else
 (field_Field_tables k D f_0 r2.2).bind fun r3 =>
 (field_tables_times k D r3.1 a_1 b_2 r3.2).bind fun r4 =>
 some ((r4.1, 0), r4.2))
noncomputable def r_field_Field_Mul : RCode := an (.n) (rOf Tryz.prog 0 Tryz.f86)
noncomputable def e_field_Field_Mul (k : Nat) (D : CallF) : Ent := entOf 86 [(0, .p), (1, .i .i64), (2, .i .i64)] [(6, .i .i64), (7, .i .i64)] (field_Field_Mul k D)
theorem q_field_Field_Mul : (Tryz.f86.body).bind (rcodeOf Tryz.prog 0 Tryz.f86.ntmps) = some (strip r_field_Field_Mul) := by kernel_rfl
theorem t_field_Field_Mul (k : Nat) (D : CallF) : curF [(0, .p), (1, .i .i64), (2, .i .i64)] (fun args h => denF (C_field_Field_Mul k D) k r_field_Field_Mul [(6, .i .i64), (7, .i .i64)] [none, none] args h) = field_Field_Mul k D := by kernel_rfl
theorem ok_field_Field_Mul {D : CallF} (hD : CSound Tryz.prog 0 D) (k : Nat) : EntOk Tryz.prog 0 (e_field_Field_Mul k D) :=
 entOf_ok2 (mkC_sound hD (EntsOk.more (ok_field_is hD k) (EntsOk.more (ok_field_Field_tables hD k) (EntsOk.more (ok_field_tables_times hD k) (EntsOk.none))))) Tryz.func86 rfl q_field_Field_Mul rfl (t_field_Field_Mul k D)
end Gq
namespace Gq
open Go Gx Go.Proofs
set_option maxRecDepth 100000
noncomputable def C_matrix_Space_times (k : Nat) (D : CallF) : CallF := mkC D [e_field_Field_Mul k D]
noncomputable def matrix_Space_times (k : Nat) (D : CallF) (s_0 : Option Addr) (a_1 : Int) (b_2 : Int) (h : AHeap) : Option ((Int) × AHeap) :=
 (s_0).bind fun p1 =>
 (ldP (⟨p1.block, p1.off + 0, none⟩ : Addr) h).bind fun x2 =>
 (field_Field_Mul k D x2 a_1 b_2 h).bind fun r3 =>
 some (r3.1.1, r3.2)
noncomputable def r_matrix_Space_times : RCode := an (.n) (rOf Tryz.prog 0 Tryz.f81)
noncomputable def e_matrix_Space_times (k : Nat) (D : CallF) : Ent := entOf 81 [(0, .p), (1, .i .i64), (2, .i .i64)] [(6, .i .i64)] (matrix_Space_times k D)
theorem q_matrix_Space_times : (Tryz.f81.body).bind (rcodeOf Tryz.prog 0 Tryz.f81.ntmps) = some (strip r_matrix_Space_times) := by kernel_rfl
theorem t_matrix_Space_times (k : Nat) (D : CallF) : curF [(0, .p), (1, .i .i64), (2, .i .i64)] (fun args h => denF (C_matrix_Space_times k D) k r_matrix_Space_times [(6, .i .i64)] [none] args h) = matrix_Space_times k D := by kernel_rfl
theorem ok_matrix_Space_times {D : CallF} (hD : CSound Tryz.prog 0 D) (k : Nat) : EntOk Tryz.prog 0 (e_matrix_Space_times k D) :=
 entOf_ok2 (mkC_sound hD (EntsOk.more (ok_field_Field_Mul hD k) (EntsOk.none))) Tryz.func81 rfl q_matrix_Space_times rfl (t_matrix_Space_times k D)
end Gq
namespace Gq
open Go Gx Go.Proofs
set_option maxRecDepth 100000
noncomputable def C_matrix_Space_add (k : Nat) (D : CallF) : CallF := mkC D [e_matrix_Space_times k D]
noncomputable def matrix_Space_add_l0b (k : Nat) (D : CallF)  (rec8 : (Option Addr) → Slc → Int → Slc → Int → Int → AHeap → Option ((Unit) × AHeap)) (s1 : Option Addr) (to2 : Slc) (byv3 : Int) (y4 : Slc) (y5 : Int) (y6 : Int) (h7 : AHeap) : Option ((Unit) × AHeap) :=
 (if (decide (y6 < y5)) = true then
 (Gx.idxL 1 y4 y6).bind fun q9 =>
 (ldI .i64 q9 h7).bind fun x10 =>
 (matrix_Space_times k D s1 x10 byv3 h7).bind fun r11 =>
 (Gx.idxL 1 to2 y6).bind fun q12 =>
 (ldI .i64 q12 r11.2).bind fun x13 =>
 guardP (SameW [h7] (fun H15 => (ldI .i64 q12 H15).bind fun y14 => some (.int .i64 y14)) (.int .i64 x13)) (
 (Gx.idxL 1 to2 y6).bind fun q16 =>
 (st1 q16 (.int .i64 (Go.bits .xor .i64 x13 r11.1)) r11.2).bind fun h17 =>
 rec8 s1 to2 byv3 y4 y5 (IntKind.wrap .i64 (y6 + 1)) h17)
 else
 some ((), h7))
noncomputable def matrix_Space_add_l0 (k : Nat) (D : CallF)  : (Option Addr) → Slc → Int → Slc → Int → Int → AHeap → Option ((Unit) × AHeap) :=
 iterK (α := (Option Addr) → Slc → Int → Slc → Int → Int → AHeap → Option ((Unit) × AHeap)) (fun _ _ _ _ _ _ _ => none) k (matrix_Space_add_l0b k D )
noncomputable def matrix_Space_add (k : Nat) (D : CallF) (s_0 : Option Addr) (to_1 : Slc) (from_2 : Slc) (by_3 : Int) (h : AHeap) : Option ((Unit) × AHeap) :=
 matrix_Space_add_l0 k D s_0 to_1 by_3 from_2 (from_2.len : Int) 0 h
noncomputable def r_matrix_Space_add : RCode := an (.s .n (.b (.l [(0, .p), (1, .l), (3, .i .i64), (10, .l), (11, .i .i64), (12, .i .i64)] .n))) (rOf Tryz.prog 0 Tryz.f77)
noncomputable def e_matrix_Space_add (k : Nat) (D : CallF) : Ent := entOf 77 [(0, .p), (1, .l), (2, .l), (3, .i .i64)] [] (matrix_Space_add k D)
theorem q_matrix_Space_add : (Tryz.f77.body).bind (rcodeOf Tryz.prog 0 Tryz.f77.ntmps) = some (strip r_matrix_Space_add) := by kernel_rfl
theorem t_matrix_Space_add (k : Nat) (D : CallF) : curF [(0, .p), (1, .l), (2, .l), (3, .i .i64)] (fun args h => denF (C_matrix_Space_add k D) k r_matrix_Space_add [] [] args h) = matrix_Space_add k D := by kernel_rfl
theorem ok_matrix_Space_add {D : CallF} (hD : CSound Tryz.prog 0 D) (k : Nat) : EntOk Tryz.prog 0 (e_matrix_Space_add k D) :=
 entOf_ok2 (mkC_sound hD (EntsOk.more (ok_matrix_Space_times hD k) (EntsOk.none))) Tryz.func77 rfl q_matrix_Space_add rfl (t_matrix_Space_add k D)
end Gq
namespace Gq
open Go Gx Go.Proofs
set_option maxRecDepth 100000
noncomputable def C_matrix_Space_steps (k : Nat) (D : CallF) : CallF := mkC D [e_matrix_M_swap k D, e_matrix_M_row k D, e_matrix_Space_divide k D, e_matrix_Space_add k D]
noncomputable def matrix_Space_steps_l2b (k : Nat) (D : CallF) (j35 : (Option Addr) → (Option Addr) → (Option Addr) → Int → Int → Int → AHeap → Option ((Int) × AHeap)) (rec138 : (Option Addr) → (Option Addr) → (Option Addr) → Int → Int → Int → AHeap → Option ((Int) × AHeap)) (s131 : Option Addr) (a132 : Option Addr) (beside133 : Option Addr) (rank134 : Int) (j135 : Int) (lead136 : Int) (h137 : AHeap) : Option ((Int) × AHeap) :=
 joinK (fun (s139 : Option Addr) (a140 : Option Addr) (beside141 : Option Addr) (rank142 : Int) (j143 : Int) (lead144 : Int) (y145 : Bool) (h146 : AHeap) =>
 (if y145 = true then
 rec138 s139 a140 beside141 rank142 j143 (IntKind.wrap .i64 (lead144 + 1)) h146
 else
 j35 s139 a140 beside141 rank142 j143 lead144 h146)) fun j147 =>
 (a132).bind fun p148 =>
 (ldI .i64 (⟨p148.block, p148.off + 0, none⟩ : Addr) h137).bind fun x149 =>
 (if (decide (lead136 < x149)) = true then
 (a132).bind fun p150 =>
 (ldA 3 p150 h137).bind fun l151 =>
 (decC [.i .i64, .i .i64, .l] l151).bind fun x152 =>
 (matrix_M_row k D (x152.1, x152.2.1, x152.2.2) lead136 h137).bind fun r153 =>
 (Gx.idxL 1 r153.1 j135).bind fun q154 =>
 (ldI .i64 q154 r153.2).bind fun x155 =>
 j147 s131 a132 beside133 rank134 j135 lead136 (x155 == 0) r153.2
 else
 j147 s131 a132 beside133 rank134 j135 lead136 false h137)
noncomputable def matrix_Space_steps_l2 (k : Nat) (D : CallF) (j35 : (Option Addr) → (Option Addr) → (Option Addr) → Int → Int → Int → AHeap → Option ((Int) × AHeap)) : (Option Addr) → (Option Addr) → (Option Addr) → Int → Int → Int → AHeap → Option ((Int) × AHeap) :=
 iterK (α := (Option Addr) → (Option Addr) → (Option Addr) → Int → Int → Int → AHeap → Option ((Int) × AHeap)) (fun _ _ _ _ _ _ _ => none) k (matrix_Space_steps_l2b k D j35)
noncomputable def matrix_Space_steps_l1b (k : Nat) (D : CallF) (j68 : (Option Addr) → (Option Addr) → (Option Addr) → Int → Int → AHeap → Option ((Int) × AHeap)) (rec79 : (Option Addr) → (Option Addr) → (Option Addr) → Int → Int → Int → Int → AHeap → Option ((Int) × AHeap)) (s71 : Option Addr) (a72 : Option Addr) (beside73 : Option Addr) (rank74 : Int) (j75 : Int) (y76 : Int) (y77 : Int) (h78 : AHeap) : Option ((Int) × AHeap) :=
 (if (decide (y77 < y76)) = true then
 joinK (fun (s80 : Option Addr) (a81 : Option Addr) (beside82 : Option Addr) (rank83 : Int) (j84 : Int) (y85 : Int) (y86 : Int) (h87 : AHeap) =>
 rec79 s80 a81 beside82 rank83 j84 y85 (IntKind.wrap .i64 (y86 + 1)) h87) fun j88 =>
 (a72).bind fun p89 =>
 (ldA 3 p89 h78).bind fun l90 =>
 (decC [.i .i64, .i .i64, .l] l90).bind fun x91 =>
 (matrix_M_row k D (x91.1, x91.2.1, x91.2.2) y77 h78).bind fun r92 =>
 (Gx.idxL 1 r92.1 j75).bind fun q93 =>
 (ldI .i64 q93 r92.2).bind fun x94 =>
 joinK (fun (s95 : Option Addr) (a96 : Option Addr) (beside97 : Option Addr) (rank98 : Int) (j99 : Int) (i100 : Int) (byv101 : Int) (y102 : Int) (y103 : Int) (y104 : Bool) (h105 : AHeap) =>
 (if y104 = true then
 (a96).bind fun p107 =>
 (ldA 3 p107 h105).bind fun l108 =>
 (decC [.i .i64, .i .i64, .l] l108).bind fun x109 =>
 (matrix_M_row k D (x109.1, x109.2.1, x109.2.2) i100 h105).bind fun r110 =>
 (a96).bind fun p111 =>
 (ldA 3 p111 r110.2).bind fun l112 =>
 guardP (SameW [h105] (fun H114 => (a96).bind fun p115 => (ldA 3 p115 H114).bind fun y113 => some (.agg ⟨y113⟩)) (.agg ⟨l112⟩)) (
 (decC [.i .i64, .i .i64, .l] l112).bind fun x116 =>
 (matrix_M_row k D (x116.1, x116.2.1, x116.2.2) rank98 r110.2).bind fun r117 =>
 (matrix_Space_add k D s95 r110.1 r117.1 byv101 r117.2).bind fun r118 =>
 (beside97).bind fun p119 =>
 (ldA 3 p119 r118.2).bind fun l120 =>
 (decC [.i .i64, .i .i64, .l] l120).bind fun x121 =>
 (matrix_M_row k D (x121.1, x121.2.1, x121.2.2) i100 r118.2).bind fun r122 =>
 (beside97).bind fun p123 =>
 (ldA 3 p123 r122.2).bind fun l124 =>
 guardP (SameW [r118.2] (fun H126 => (beside97).bind fun p127 => (ldA 3 p127 H126).bind fun y125 => some (.agg ⟨y125⟩)) (.agg ⟨l124⟩)) (
 (decC [.i .i64, .i .i64, .l] l124).bind fun x128 =>
 (matrix_M_row k D (x128.1, x128.2.1, x128.2.2) rank98 r122.2).bind fun r129 =>
 (matrix_Space_add k D s95 r122.1 r129.1 byv101 r129.2).bind fun r130 =>
 j88 s95 a96 beside97 rank98 j99 y102 y103 r130.2))
 else
 j88 s95 a96 beside97 rank98 j99 y102 y103 h105)) fun j106 =>
 (if (y77 != rank74) = true then
 j106 s71 a72 beside73 rank74 j75 y77 x94 y76 y77 (x94 != 0) r92.2
 else
 j106 s71 a72 beside73 rank74 j75 y77 x94 y76 y77 false r92.2)
 else
 j68 s71 a72 beside73 rank74 j75 h78)
noncomputable def matrix_Space_steps_l1 (k : Nat) (D : CallF) (j68 : (Option Addr) → (Option Addr) → (Option Addr) → Int → Int → AHeap → Option ((Int) × AHeap)) : (Option Addr) → (Option Addr) → (Option Addr) → Int → Int → Int → Int → AHeap → Option ((Int) × AHeap) :=
 iterK (α := (Option Addr) → (Option Addr) → (Option Addr) → Int → Int → Int → Int → AHeap → Option ((Int) × AHeap)) (fun _ _ _ _ _ _ _ _ => none) k (matrix_Space_steps_l1b k D j68)
noncomputable def matrix_Space_steps_l0b (k : Nat) (D : CallF) (j5 : Int → AHeap → Option ((Int) × AHeap)) (rec12 : (Option Addr) → (Option Addr) → (Option Addr) → Int → Int → AHeap → Option ((Int) × AHeap)) (s6 : Option Addr) (a7 : Option Addr) (beside8 : Option Addr) (rank9 : Int) (j10 : Int) (h11 : AHeap) : Option ((Int) × AHeap) :=
 joinK (fun (s13 : Option Addr) (a14 : Option Addr) (beside15 : Option Addr) (rank16 : Int) (j17 : Int) (y18 : Bool) (h19 : AHeap) =>
 (if y18 = true then
 joinK (fun (s21 : Option Addr) (a22 : Option Addr) (beside23 : Option Addr) (rank24 : Int) (j25 : Int) (h26 : AHeap) =>
 rec12 s21 a22 beside23 rank24 (IntKind.wrap .i64 (j25 + 1)) h26) fun j27 =>
 joinK (fun (s28 : Option Addr) (a29 : Option Addr) (beside30 : Option Addr) (rank31 : Int) (j32 : Int) (lead33 : Int) (h34 : AHeap) =>
 (a29).bind fun p36 =>
 (ldI .i64 (⟨p36.block, p36.off + 0, none⟩ : Addr) h34).bind fun x37 =>
 (if (lead33 == x37) = true then
 j27 s28 a29 beside30 rank31 j32 h34
 else
 (a29).bind fun p38 =>
 (ldA 3 p38 h34).bind fun l39 =>
 (decC [.i .i64, .i .i64, .l] l39).bind fun x40 =>
 (matrix_M_swap k D (x40.1, x40.2.1, x40.2.2) lead33 rank31 h34).bind fun r41 =>
 (beside30).bind fun p42 =>
 (ldA 3 p42 r41.2).bind fun l43 =>
 (decC [.i .i64, .i .i64, .l] l43).bind fun x44 =>
 (matrix_M_swap k D (x44.1, x44.2.1, x44.2.2) lead33 rank31 r41.2).bind fun r45 =>
 (a29).bind fun p46 =>
 (ldA 3 p46 r45.2).bind fun l47 =>
 (decC [.i .i64, .i .i64, .l] l47).bind fun x48 =>
 (matrix_M_row k D (x48.1, x48.2.1, x48.2.2) rank31 r45.2).bind fun r49 =>
 (Gx.idxL 1 r49.1 j32).bind fun q50 =>
 (ldI .i64 q50 r49.2).bind fun x51 =>
 (a29).bind fun p52 =>
 (ldA 3 p52 r49.2).bind fun l53 =>
 (decC [.i .i64, .i .i64, .l] l53).bind fun x54 =>
 (matrix_M_row k D (x54.1, x54.2.1, x54.2.2) rank31 r49.2).bind fun r55 =>
 (matrix_Space_divide k D s28 r55.1 x51 r55.2).bind fun r56 =>
 (beside30).bind fun p57 =>
 (ldA 3 p57 r56.2).bind fun l58 =>
 (decC [.i .i64, .i .i64, .l] l58).bind fun x59 =>
 (matrix_M_row k D (x59.1, x59.2.1, x59.2.2) rank31 r56.2).bind fun r60 =>
 (matrix_Space_divide k D s28 r60.1 x51 r60.2).bind fun r61 =>
 joinK (fun (s62 : Option Addr) (a63 : Option Addr) (beside64 : Option Addr) (rank65 : Int) (j66 : Int) (h67 : AHeap) =>
 j27 s62 a63 beside64 (IntKind.wrap .i64 (rank65 + 1)) j66 h67) fun j68 =>
 (a29).bind fun p69 =>
 (ldI .i64 (⟨p69.block, p69.off + 0, none⟩ : Addr) r61.2).bind fun x70 =>
 matrix_Space_steps_l1 k D j68 s28 a29 beside30 rank31 j32 x70 0 r61.2)) fun j35 =>
 matrix_Space_steps_l2 k D j35 s13 a14 beside15 rank16 j17 rank16 h19
 else
 j5 rank16 h19)) fun j20 =>
 (a7).bind fun p156 =>
 (ldI .i64 (⟨p156.block, p156.off + 1, none⟩ : Addr) h11).bind fun x157 =>
 (if (decide (j10 < x157)) = true then
 (a7).bind fun p158 =>
 (ldI .i64 (⟨p158.block, p158.off + 0, none⟩ : Addr) h11).bind fun x159 =>
 j20 s6 a7 beside8 rank9 j10 (decide (rank9 < x159)) h11
 else
 j20 s6 a7 beside8 rank9 j10 false h11)
noncomputable def matrix_Space_steps_l0 (k : Nat) (D : CallF) (j5 : Int → AHeap → Option ((Int) × AHeap)) : (Option Addr) → (Option Addr) → (Option Addr) → Int → Int → AHeap → Option ((Int) × AHeap) :=
 iterK (α := (Option Addr) → (Option Addr) → (Option Addr) → Int → Int → AHeap → Option ((Int) × AHeap)) (fun _ _ _ _ _ _ => none) k (matrix_Space_steps_l0b k D j5)
noncomputable def matrix_Space_steps (k : Nat) (D : CallF) (s_0 : Option Addr) (a_1 : Int × Int × Slc) (beside_2 : Int × Int × Slc) (h : AHeap) : Option ((Int) × AHeap) :=
 let h1 := AHeap.new h (.cells [.int .i64 a_1.1, .int .i64 a_1.2.1, .slice a_1.2.2.a a_1.2.2.len a_1.2.2.cap] 50 true 0)
 let h2 := AHeap.new h1 (.cells [.int .i64 beside_2.1, .int .i64 beside_2.2.1, .slice beside_2.2.2.a beside_2.2.2.len beside_2.2.2.cap] 50 true 0)
 joinK (fun (rank3 : Int) (h4 : AHeap) =>
 some (rank3, h4)) fun j5 =>
 matrix_Space_steps_l0 k D j5 s_0 (some (⟨h.next, 0, none⟩ : Addr)) (some (⟨h1.next, 0, none⟩ : Addr)) 0 0 h2
noncomputable def r_matrix_Space_steps : RCode := an (.s .n (.s .n (.s (.j [(7, .i .i64)] (.s .n (.b (.l [(0, .p), (4, .p), (5, .p), (7, .i .i64), (8, .i .i64)] (.s (.s (.j [(0, .p), (4, .p), (5, .p), (7, .i .i64), (8, .i .i64), (22, .b)] .n) .n) (.s (.j [(0, .p), (4, .p), (5, .p), (7, .i .i64), (8, .i .i64)] (.b (.s .n (.s (.j [(0, .p), (4, .p), (5, .p), (7, .i .i64), (8, .i .i64), (9, .i .i64)] (.b (.l [(0, .p), (4, .p), (5, .p), (7, .i .i64), (8, .i .i64), (9, .i .i64)] (.s (.s (.j [(0, .p), (4, .p), (5, .p), (7, .i .i64), (8, .i .i64), (9, .i .i64), (38, .b)] (.r [(5, .st [.i .i64, .i .i64, .l])])) .n) .n)))) (.s .n (.s (.r [(0, .st [.i .i64, .i .i64, .l])]) (.s (.r [(0, .st [.i .i64, .i .i64, .l])]) (.s (.r [(0, .st [.i .i64, .i .i64, .l])]) (.s (.r [(1, .st [.i .i64, .i .i64, .l])]) (.s (.r [(1, .st [.i .i64, .i .i64, .l])]) (.s (.j [(0, .p), (4, .p), (5, .p), (7, .i .i64), (8, .i .i64)] (.s .n (.b (.l [(0, .p), (4, .p), (5, .p), (7, .i .i64), (8, .i .i64), (72, .i .i64), (73, .i .i64)] (.s .n (.s .n (.s (.j [(0, .p), (4, .p), (5, .p), (7, .i .i64), (8, .i .i64), (72, .i .i64), (73, .i .i64)] (.b (.s .n (.s (.r [(0, .st [.i .i64, .i .i64, .l])]) (.s (.j [(0, .p), (4, .p), (5, .p), (7, .i .i64), (8, .i .i64), (11, .i .i64), (12, .i .i64), (72, .i .i64), (73, .i .i64), (88, .b)] .n) (.s (.s (.r [(0, .st [.i .i64, .i .i64, .l]), (3, .st [.i .i64, .i .i64, .l])]) (.r [(0, .st [.i .i64, .i .i64, .l]), (3, .st [.i .i64, .i .i64, .l])])) .n)))))) .n))))))) .n))))))))))) .n)))))) .n))) (rOf Tryz.prog 0 Tryz.f66)
noncomputable def e_matrix_Space_steps (k : Nat) (D : CallF) : Ent := entOf 66 [(0, .p), (1, .st [.i .i64, .i .i64, .l]), (2, .st [.i .i64, .i .i64, .l])] [(6, .i .i64)] (matrix_Space_steps k D)
theorem q_matrix_Space_steps : (Tryz.f66.body).bind (rcodeOf Tryz.prog 0 Tryz.f66.ntmps) = some (strip r_matrix_Space_steps) := by kernel_rfl
theorem t_matrix_Space_steps (k : Nat) (D : CallF) : curF [(0, .p), (1, .st [.i .i64, .i .i64, .l]), (2, .st [.i .i64, .i .i64, .l])] (fun args h => denF (C_matrix_Space_steps k D) k r_matrix_Space_steps [(6, .i .i64)] [none] args h) = matrix_Space_steps k D := by kernel_rfl
theorem ok_matrix_Space_steps {D : CallF} (hD : CSound Tryz.prog 0 D) (k : Nat) : EntOk Tryz.prog 0 (e_matrix_Space_steps k D) :=
 entOf_ok2 (mkC_sound hD (EntsOk.more (ok_matrix_M_swap hD k) (EntsOk.more (ok_matrix_M_row hD k) (EntsOk.more (ok_matrix_Space_divide hD k) (EntsOk.more (ok_matrix_Space_add hD k) (EntsOk.none)))))) Tryz.func66 rfl q_matrix_Space_steps rfl (t_matrix_Space_steps k D)
end Gq
namespace Gq
open Go Gx Go.Proofs
set_option maxRecDepth 100000
noncomputable def C_matrix_Space_Inverse (k : Nat) (D : CallF) : CallF := mkC D [e_matrix_Check k D, e_matrix_One k D, e_matrix_clone k D, e_matrix_Space_steps k D]
noncomputable def matrix_Space_Inverse (k : Nat) (D : CallF) (s_0 : Option Addr) (a_1 : Int × Int × Slc) (h : AHeap) : Option (((Int × Int × Slc) × Int) × AHeap) :=
 let h1 := AHeap.new h (.cells [.int .i64 a_1.1, .int .i64 a_1.2.1, .slice a_1.2.2.a a_1.2.2.len a_1.2.2.cap] 50 true 0)
 let h2 := AHeap.new h1 (.cells [.int .i64 0, .int .i64 0, .slice none 0 0] 50 true 0)
 (ldA 3 (⟨h.next, 0, none⟩ : Addr) h2).bind fun l3 =>
 (decC [.i .i64, .i .i64, .l] l3).bind fun x4 =>
 (matrix_Check k D (x4.1, x4.2.1, x4.2.2) h2).bind fun r5 =>
 (if (r5.1 != 0) = true then
 (stL 3 (⟨h1.next, 0, none⟩ : Addr) ([.int .i64 0, .int .i64 0, .slice none 0 0]) r5.2).bind fun h6 =>
 (ldA 3 (⟨h1.next, 0, none⟩ : Addr) h6).bind fun l7 =>
 (decC [.i .i64, .i .i64, .l] l7).bind fun x8 =>
 some (((x8.1, x8.2.1, x8.2.2), r5.1), h6)
 else
 (ldI .i64 (⟨h.next, 0, none⟩ : Addr) r5.2).bind fun x9 =>
 (ldI .i64 (⟨h.next, 1, none⟩ : Addr) r5.2).bind fun x10 =>
 (if (x9 != x10) = true then
 (stL 3 (⟨h1.next, 0, none⟩ : Addr) ([.int .i64 0, .int .i64 0, .slice none 0 0]) r5.2).bind fun h11 =>
 (ldA 3 (⟨h1.next, 0, none⟩ : Addr) h11).bind fun l12 =>
 (decC [.i .i64, .i .i64, .l] l12).bind fun x13 =>
 some (((x13.1, x13.2.1, x13.2.2), 4), h11)
 else
 (ldI .i64 (⟨h.next, 0, none⟩ : Addr) r5.2).bind fun x14 =>
 (matrix_One k D x14 r5.2).bind fun r15 =>
 let h16 := AHeap.new r15.2 (.cells [.int .i64 0, .int .i64 0, .slice none 0 0] 50 true 0)
 (stL 3 (⟨r15.2.next, 0, none⟩ : Addr) ([.int .i64 r15.1.1.1, .int .i64 r15.1.1.2.1, .slice r15.1.1.2.2.a r15.1.1.2.2.len r15.1.1.2.2.cap]) h16).bind fun h17 =>
 (ldA 3 (⟨h.next, 0, none⟩ : Addr) h17).bind fun l18 =>
 (decC [.i .i64, .i .i64, .l] l18).bind fun x19 =>
 (matrix_clone k D (x19.1, x19.2.1, x19.2.2) h17).bind fun r20 =>
 (ldA 3 (⟨r15.2.next, 0, none⟩ : Addr) r20.2).bind fun l21 =>
 guardP (SameW [h17] (fun H23 => (ldA 3 (⟨r15.2.next, 0, none⟩ : Addr) H23).bind fun y22 => some (.agg ⟨y22⟩)) (.agg ⟨l21⟩)) (
 (decC [.i .i64, .i .i64, .l] l21).bind fun x24 =>
 (matrix_Space_steps k D s_0 (r20.1.1, r20.1.2.1, r20.1.2.2) (x24.1, x24.2.1, x24.2.2) r20.2).bind fun r25 =>
 (ldI .i64 (⟨h.next, 0, none⟩ : Addr) r25.2).bind fun x26 =>
 guardP (SameW [r20.2, h17] (fun H28 => (ldI .i64 (⟨h.next, 0, none⟩ : Addr) H28).bind fun y27 => some (.int .i64 y27)) (.int .i64 x26)) (
 (if (decide (r25.1 < x26)) = true then
 (stL 3 (⟨h1.next, 0, none⟩ : Addr) ([.int .i64 0, .int .i64 0, .slice none 0 0]) r25.2).bind fun h29 =>
 (ldA 3 (⟨h1.next, 0, none⟩ : Addr) h29).bind fun l30 =>
 (decC [.i .i64, .i .i64, .l] l30).bind fun x31 =>
 some (((x31.1, x31.2.1, x31.2.2), 40), h29)
 else
 (ldA 3 (⟨r15.2.next, 0, none⟩ : Addr) r25.2).bind fun l32 =>
 (decC [.i .i64, .i .i64, .l] l32).bind fun x33 =>
 (stL 3 (⟨h1.next, 0, none⟩ : Addr) ([.int .i64 x33.1, .int .i64 x33.2.1, .slice x33.2.2.a x33.2.2.len x33.2.2.cap]) r25.2).bind fun h34 =>
 (ldA 3 (⟨h1.next, 0, none⟩ : Addr) h34).bind fun l35 =>
 (decC [.i .i64, .i .i64, .l] l35).bind fun x36 =>
 some (((x36.1, x36.2.1, x36.2.2), 0), h34))))))
noncomputable def r_matrix_Space_Inverse : RCode := an (.s .n (.s (.s (.r [(0, .st [.i .i64, .i .i64, .l])]) .n) (.s .n (.s .n (.s (.s (.r [(0, .st [.i .i64, .i .i64, .l]), (3, .st [.i .i64, .i .i64, .l])]) .n) (.s (.r [(0, .st [.i .i64, .i .i64, .l])]) .n)))))) (rOf Tryz.prog 0 Tryz.f40)
noncomputable def e_matrix_Space_Inverse (k : Nat) (D : CallF) : Ent := entOf 40 [(0, .p), (1, .st [.i .i64, .i .i64, .l])] [(4, .st [.i .i64, .i .i64, .l]), (5, .i .i64)] (matrix_Space_Inverse k D)
theorem q_matrix_Space_Inverse : (Tryz.f40.body).bind (rcodeOf Tryz.prog 0 Tryz.f40.ntmps) = some (strip r_matrix_Space_Inverse) := by kernel_rfl
theorem t_matrix_Space_Inverse (k : Nat) (D : CallF) : curF [(0, .p), (1, .st [.i .i64, .i .i64, .l])] (fun args h => denF (C_matrix_Space_Inverse k D) k r_matrix_Space_Inverse [(4, .st [.i .i64, .i .i64, .l]), (5, .i .i64)] [some (.agg 3), none] args h) = matrix_Space_Inverse k D := by kernel_rfl
theorem ok_matrix_Space_Inverse {D : CallF} (hD : CSound Tryz.prog 0 D) (k : Nat) : EntOk Tryz.prog 0 (e_matrix_Space_Inverse k D) :=
 entOf_ok2 (mkC_sound hD (EntsOk.more (ok_matrix_Check hD k) (EntsOk.more (ok_matrix_One hD k) (EntsOk.more (ok_matrix_clone hD k) (EntsOk.more (ok_matrix_Space_steps hD k) (EntsOk.none)))))) Tryz.func40 rfl q_matrix_Space_Inverse rfl (t_matrix_Space_Inverse k D)
end Gq
namespace Gq
open Go Gx Go.Proofs
set_option maxRecDepth 100000
noncomputable def C_stripe_Plan_pieces (k : Nat) (D : CallF) : CallF := mkC D [e_matrix_Pick k D, e_matrix_Space_Inverse k D, e_stripe_Plan_row k D, e_field_Field_Mix k D]
noncomputable def stripe_Plan_pieces_l1b (_k : Nat) (_D : CallF) (j5 : (Option Addr) → Slc → Slc → AHeap → Option ((Slc) × AHeap)) (rec52 : (Option Addr) → Slc → Slc → Slc → Int → Int → AHeap → Option ((Slc) × AHeap)) (p45 : Option Addr) (rows46 : Slc) (data47 : Slc) (y48 : Slc) (y49 : Int) (y50 : Int) (h51 : AHeap) : Option ((Slc) × AHeap) :=
 (if (decide (y50 < y49)) = true then
 (Gx.idxL 2 y48 y50).bind fun q53 =>
 (ldA 2 q53 h51).bind fun l54 =>
 (decC [.i .i64, .s] l54).bind fun x55 =>
 let h56 := AHeap.new h51 (.cells [.int .i64 0, .string ⟨#[]⟩] 35 true 0)
 (stL 2 (⟨h51.next, 0, none⟩ : Addr) ([.int .i64 x55.1, .string x55.2]) h56).bind fun h57 =>
 let h58 := AHeap.resv h57 2
 (ldI .i64 (⟨h51.next, 0, none⟩ : Addr) h58).bind fun x59 =>
 let h60 := AHeap.set h58 (h57.next + 0) (.cells [.int .i64 x59] 3 true 0)
 (rdS 1 (⟨(some ⟨(h57.next + 0), 0, some 0⟩), 1, 1⟩ : Slc) h60).bind fun n62 =>
 (appendA 1 8 3 h60 rows46 n62 1).bind fun r61 =>
 (ldS (⟨h51.next, 1, none⟩ : Addr) r61.2).bind fun x63 =>
 guardP (SameW [h60, h58] (fun H65 => (ldS (⟨h51.next, 1, none⟩ : Addr) H65).bind fun y64 => some (.string y64)) (.string x63)) (
 let h66 := AHeap.set r61.2 (h57.next + 1) (.cells [.string x63] 9 true 0)
 (rdS 1 (⟨(some ⟨(h57.next + 1), 0, some 0⟩), 1, 1⟩ : Slc) h66).bind fun n68 =>
 (appendA 1 16 9 h66 data47 n68 1).bind fun r67 =>
 rec52 p45 r61.1 r67.1 y48 y49 (IntKind.wrap .i64 (y50 + 1)) r67.2)
 else
 j5 p45 rows46 data47 h51)
noncomputable def stripe_Plan_pieces_l1 (k : Nat) (D : CallF) (j5 : (Option Addr) → Slc → Slc → AHeap → Option ((Slc) × AHeap)) : (Option Addr) → Slc → Slc → Slc → Int → Int → AHeap → Option ((Slc) × AHeap) :=
 iterK (α := (Option Addr) → Slc → Slc → Slc → Int → Int → AHeap → Option ((Slc) × AHeap)) (fun _ _ _ _ _ _ _ => none) k (stripe_Plan_pieces_l1b k D j5)
noncomputable def stripe_Plan_pieces_l0b (k : Nat) (D : CallF) (j22 : Slc → AHeap → Option ((Slc) × AHeap)) (rec32 : (Option Addr) → Slc → (Option Addr) → Slc → Int → Int → AHeap → Option ((Slc) × AHeap)) (p25 : Option Addr) (data26 : Slc) (back27 : Option Addr) (out28 : Slc) (y29 : Int) (y30 : Int) (h31 : AHeap) : Option ((Slc) × AHeap) :=
 (if (decide (y30 < y29)) = true then
 (back27).bind fun p33 =>
 (ldA 3 p33 h31).bind fun l34 =>
 (decC [.i .i64, .i .i64, .l] l34).bind fun x35 =>
 (stripe_Plan_row k D p25 (x35.1, x35.2.1, x35.2.2) y30 h31).bind fun r36 =>
 (p25).bind fun p37 =>
 (ldP (⟨p37.block, p37.off + 2, none⟩ : Addr) r36.2).bind fun x38 =>
 guardP (SameW [h31] (fun H40 => (ldP (⟨p37.block, p37.off + 2, none⟩ : Addr) H40).bind fun y39 => some (.pointer y39)) (.pointer x38)) (
 (field_Field_Mix k D x38 data26 r36.1 r36.2).bind fun r41 =>
 let h42 := AHeap.new r41.2 (.cells [.string r41.1.1] 9 true 0)
 (rdS 1 (⟨(some ⟨r41.2.next, 0, some 0⟩), 1, 1⟩ : Slc) h42).bind fun n44 =>
 (appendA 1 16 9 h42 out28 n44 1).bind fun r43 =>
 rec32 p25 data26 back27 r43.1 y29 (IntKind.wrap .i64 (y30 + 1)) r43.2)
 else
 j22 out28 h31)
noncomputable def stripe_Plan_pieces_l0 (k : Nat) (D : CallF) (j22 : Slc → AHeap → Option ((Slc) × AHeap)) : (Option Addr) → Slc → (Option Addr) → Slc → Int → Int → AHeap → Option ((Slc) × AHeap) :=
 iterK (α := (Option Addr) → Slc → (Option Addr) → Slc → Int → Int → AHeap → Option ((Slc) × AHeap)) (fun _ _ _ _ _ _ _ => none) k (stripe_Plan_pieces_l0b k D j22)
noncomputable def stripe_Plan_pieces (k : Nat) (D : CallF) (p_0 : Option Addr) (parts_1 : Slc) (h : AHeap) : Option ((Slc) × AHeap) :=
 joinK (fun (p1 : Option Addr) (rows2 : Slc) (data3 : Slc) (h4 : AHeap) =>
 (p1).bind fun p6 =>
 (ldA 3 (⟨p6.block, p6.off + 4, none⟩ : Addr) h4).bind fun l7 =>
 (decC [.i .i64, .i .i64, .l] l7).bind fun x8 =>
 (matrix_Pick k D (x8.1, x8.2.1, x8.2.2) rows2 h4).bind fun r9 =>
 let h10 := AHeap.new r9.2 (.cells [.int .i64 0, .int .i64 0, .slice none 0 0] 50 true 0)
 (stL 3 (⟨r9.2.next, 0, none⟩ : Addr) ([.int .i64 r9.1.1.1, .int .i64 r9.1.1.2.1, .slice r9.1.1.2.2.a r9.1.1.2.2.len r9.1.1.2.2.cap]) h10).bind fun h11 =>
 let h12 := AHeap.resv h11 1
 (p1).bind fun p13 =>
 (ldP (⟨p13.block, p13.off + 3, none⟩ : Addr) h12).bind fun x14 =>
 (ldA 3 (⟨r9.2.next, 0, none⟩ : Addr) h12).bind fun l15 =>
 (decC [.i .i64, .i .i64, .l] l15).bind fun x16 =>
 (matrix_Space_Inverse k D x14 (x16.1, x16.2.1, x16.2.2) h12).bind fun r17 =>
 let h18 := AHeap.set r17.2 (h11.next + 0) (.cells [.int .i64 0, .int .i64 0, .slice none 0 0] 50 true 0)
 (stL 3 (⟨(h11.next + 0), 0, none⟩ : Addr) ([.int .i64 r17.1.1.1, .int .i64 r17.1.1.2.1, .slice r17.1.1.2.2.a r17.1.1.2.2.len r17.1.1.2.2.cap]) h18).bind fun h19 =>
 joinK (fun (out20 : Slc) (h21 : AHeap) =>
 some (out20, h21)) fun j22 =>
 (p1).bind fun p23 =>
 (ldI .i64 (⟨p23.block, p23.off + 0, none⟩ : Addr) h19).bind fun x24 =>
 stripe_Plan_pieces_l0 k D j22 p1 data3 (some (⟨(h11.next + 0), 0, none⟩ : Addr)) (⟨none, 0, 0⟩ : Slc) x24 0 h19) fun j5 =>
 stripe_Plan_pieces_l1 k D j5 p_0 (⟨none, 0, 0⟩ : Slc) (⟨none, 0, 0⟩ : Slc) parts_1 (parts_1.len : Int) 0 h
noncomputable def r_stripe_Plan_pieces : RCode := an (.s .n (.s .n (.s .n (.s (.j [(0, .p), (5, .l), (6, .l)] (.s .n (.b (.l [(0, .p), (5, .l), (6, .l), (17, .l), (18, .i .i64), (19, .i .i64)] (.s .n (.s .n (.s (.b (.s (.r [(1, .st [.i .i64, .s])]) .n)) .n))))))) (.s (.r [(3, .st [.i .i64, .i .i64, .l])]) (.s (.r [(4, .st [.i .i64, .i .i64, .l])]) (.s .n (.s (.j [(13, .l)] (.s .n (.b (.l [(0, .p), (6, .l), (11, .p), (13, .l), (55, .i .i64), (56, .i .i64)] (.s .n (.s .n (.s (.b (.s .n (.s (.r [(1, .st [.i .i64, .i .i64, .l])]) .n))) .n))))))) .n)))))))) (rOf Tryz.prog 0 Tryz.f19)
noncomputable def e_stripe_Plan_pieces (k : Nat) (D : CallF) : Ent := entOf 19 [(0, .p), (1, .l)] [(4, .l)] (stripe_Plan_pieces k D)
theorem q_stripe_Plan_pieces : (Tryz.f19.body).bind (rcodeOf Tryz.prog 0 Tryz.f19.ntmps) = some (strip r_stripe_Plan_pieces) := by kernel_rfl
theorem t_stripe_Plan_pieces (k : Nat) (D : CallF) : curF [(0, .p), (1, .l)] (fun args h => denF (C_stripe_Plan_pieces k D) k r_stripe_Plan_pieces [(4, .l)] [none] args h) = stripe_Plan_pieces k D := by kernel_rfl
theorem ok_stripe_Plan_pieces {D : CallF} (hD : CSound Tryz.prog 0 D) (k : Nat) : EntOk Tryz.prog 0 (e_stripe_Plan_pieces k D) :=
 entOf_ok2 (mkC_sound hD (EntsOk.more (ok_matrix_Pick hD k) (EntsOk.more (ok_matrix_Space_Inverse hD k) (EntsOk.more (ok_stripe_Plan_row hD k) (EntsOk.more (ok_field_Field_Mix hD k) (EntsOk.none)))))) Tryz.func19 rfl q_stripe_Plan_pieces rfl (t_stripe_Plan_pieces k D)
end Gq
namespace Gq
open Go Gx Go.Proofs Go.Shelf
noncomputable def e_strings_Join (_k : Nat) (_D : CallF) : Ent := eJoin 18
theorem ok_strings_Join {D : CallF} (_hD : CSound Tryz.prog 0 D) (k : Nat) : EntOk Tryz.prog 0 (e_strings_Join k D) :=
 join_ok (c := _) Tryz.func18 rfl rfl (fun bk o c xs sep w h1 h2 h3 h4 h5 => Any.strings_Join Tryz.lays156 Tryz.Builder_Extra_156 bk o c xs sep w h1 h2 h3 h4 h5)
end Gq
namespace Gq
open Go Gx Go.Proofs
set_option maxRecDepth 100000
noncomputable def C_stripe_Plan_Join (k : Nat) (D : CallF) : CallF := mkC D [e_stripe_Plan_unlike k D, e_stripe_Plan_pieces k D, e_strings_Join k D]
noncomputable def stripe_Plan_Join (k : Nat) (D : CallF) (p_0 : Option Addr) (parts_1 : Slc) (long_2 : Int) (h : AHeap) : Option ((ByteArray × Int) × AHeap) :=
 (stripe_Plan_unlike k D p_0 parts_1 long_2 h).bind fun r1 =>
 (if (r1.1.2 != 0) = true then
 some (((⟨#[]⟩ : ByteArray), r1.1.2), r1.2)
 else
 (p_0).bind fun p2 =>
 (ldI .i64 (⟨p2.block, p2.off + 0, none⟩ : Addr) r1.2).bind fun x3 =>
 (if (decide ((r1.1.1.len : Int) < x3)) = true then
 some (((⟨#[]⟩ : ByteArray), 50), r1.2)
 else
 (stripe_Plan_pieces k D p_0 r1.1.1 r1.2).bind fun r4 =>
 (joinA r4.1 (⟨#[]⟩ : ByteArray) r4.2).bind fun s5 =>
 (Gx.subS s5 none (some long_2)).bind fun s6 =>
 some ((s6, 0), r4.2)))
noncomputable def r_stripe_Plan_Join : RCode := an (.n) (rOf Tryz.prog 0 Tryz.f8)
noncomputable def e_stripe_Plan_Join (k : Nat) (D : CallF) : Ent := entOf 8 [(0, .p), (1, .l), (2, .i .i64)] [(6, .s), (7, .i .i64)] (stripe_Plan_Join k D)
theorem q_stripe_Plan_Join : (Tryz.f8.body).bind (rcodeOf Tryz.prog 0 Tryz.f8.ntmps) = some (strip r_stripe_Plan_Join) := by kernel_rfl
theorem t_stripe_Plan_Join (k : Nat) (D : CallF) : curF [(0, .p), (1, .l), (2, .i .i64)] (fun args h => denF (C_stripe_Plan_Join k D) k r_stripe_Plan_Join [(6, .s), (7, .i .i64)] [none, none] args h) = stripe_Plan_Join k D := by kernel_rfl
theorem ok_stripe_Plan_Join {D : CallF} (hD : CSound Tryz.prog 0 D) (k : Nat) : EntOk Tryz.prog 0 (e_stripe_Plan_Join k D) :=
 entOf_ok2 (mkC_sound hD (EntsOk.more (ok_stripe_Plan_unlike hD k) (EntsOk.more (ok_stripe_Plan_pieces hD k) (EntsOk.more (ok_strings_Join hD k) (EntsOk.none))))) Tryz.func8 rfl q_stripe_Plan_Join rfl (t_stripe_Plan_Join k D)
end Gq
namespace Gq
open Go Gx Go.Proofs
set_option maxRecDepth 100000
noncomputable def C_ref05_Size (_k : Nat) (D : CallF) : CallF := mkC D []
noncomputable def ref05_Size (_k : Nat) (_D : CallF) (k_0 : Int) (long_1 : Int) (h : AHeap) : Option ((Int) × AHeap) :=
 (if k_0 = 0 then none else
 let t1 : Int := (IntKind.wrap .i64 (Int.tdiv (IntKind.wrap .i64 ((IntKind.wrap .i64 (long_1 + k_0)) - 1)) k_0))
 some (t1, h))
noncomputable def r_ref05_Size : RCode := an (.n) (rOf Tryz.prog 0 Tryz.f41)
noncomputable def e_ref05_Size (k : Nat) (D : CallF) : Ent := entOf 41 [(0, .i .i64), (1, .i .i64)] [(4, .i .i64)] (ref05_Size k D)
theorem q_ref05_Size : (Tryz.f41.body).bind (rcodeOf Tryz.prog 0 Tryz.f41.ntmps) = some (strip r_ref05_Size) := by kernel_rfl
theorem t_ref05_Size (k : Nat) (D : CallF) : curF [(0, .i .i64), (1, .i .i64)] (fun args h => denF (C_ref05_Size k D) k r_ref05_Size [(4, .i .i64)] [none] args h) = ref05_Size k D := by kernel_rfl
theorem ok_ref05_Size {D : CallF} (hD : CSound Tryz.prog 0 D) (k : Nat) : EntOk Tryz.prog 0 (e_ref05_Size k D) :=
 entOf_ok2 (mkC_sound hD (EntsOk.none)) Tryz.func41 rfl q_ref05_Size rfl (t_ref05_Size k D)
end Gq
namespace Gq
open Go Gx Go.Proofs
set_option maxRecDepth 100000
noncomputable def C_ref05_Plan_Each (k : Nat) (D : CallF) : CallF := mkC D [e_ref05_Size k D]
noncomputable def ref05_Plan_Each (k : Nat) (D : CallF) (p_0 : Option Addr) (long_1 : Int) (h : AHeap) : Option ((Int × Int) × AHeap) :=
 joinK (fun (p1 : Option Addr) (long2 : Int) (y3 : Bool) (h4 : AHeap) =>
 (if y3 = true then
 some ((0, 1), h4)
 else
 (p1).bind fun p6 =>
 (ldI .i64 (⟨p6.block, p6.off + 0, none⟩ : Addr) h4).bind fun x7 =>
 (ref05_Size k D x7 long2 h4).bind fun r8 =>
 some ((r8.1, 0), r8.2))) fun j5 =>
 (if (decide (long_1 < 0)) = true then
 j5 p_0 long_1 true h
 else
 j5 p_0 long_1 (decide (long_1 > 65536)) h)
noncomputable def r_ref05_Plan_Each : RCode := an (.s .n (.s (.s (.j [(0, .p), (1, .i .i64), (11, .b)] .n) .n) .n)) (rOf Tryz.prog 0 Tryz.f20)
noncomputable def e_ref05_Plan_Each (k : Nat) (D : CallF) : Ent := entOf 20 [(0, .p), (1, .i .i64)] [(4, .i .i64), (5, .i .i64)] (ref05_Plan_Each k D)
theorem q_ref05_Plan_Each : (Tryz.f20.body).bind (rcodeOf Tryz.prog 0 Tryz.f20.ntmps) = some (strip r_ref05_Plan_Each) := by kernel_rfl
theorem t_ref05_Plan_Each (k : Nat) (D : CallF) : curF [(0, .p), (1, .i .i64)] (fun args h => denF (C_ref05_Plan_Each k D) k r_ref05_Plan_Each [(4, .i .i64), (5, .i .i64)] [none, none] args h) = ref05_Plan_Each k D := by kernel_rfl
theorem ok_ref05_Plan_Each {D : CallF} (hD : CSound Tryz.prog 0 D) (k : Nat) : EntOk Tryz.prog 0 (e_ref05_Plan_Each k D) :=
 entOf_ok2 (mkC_sound hD (EntsOk.more (ok_ref05_Size hD k) (EntsOk.none))) Tryz.func20 rfl q_ref05_Plan_Each rfl (t_ref05_Plan_Each k D)
end Gq
namespace Gq
open Go Gx Go.Proofs
set_option maxRecDepth 100000
noncomputable def C_ref05_Plan_unlike (_k : Nat) (D : CallF) : CallF := mkC D []
noncomputable def ref05_Plan_unlike_l1b (_k : Nat) (_D : CallF) (j29 : (Option Addr) → Slc → Slc → Int → Bool → AHeap → Option ((Slc) × AHeap)) (rec43 : (Option Addr) → Slc → Slc → Int → Bool → Int → AHeap → Option ((Slc) × AHeap)) (p36 : Option Addr) (l37 : Slc) (out38 : Slc) (i39 : Int) (there40 : Bool) (j41 : Int) (h42 : AHeap) : Option ((Slc) × AHeap) :=
 (if (decide (j41 < (out38.len : Int))) = true then
 joinK (fun (p44 : Option Addr) (l45 : Slc) (out46 : Slc) (i47 : Int) (there48 : Bool) (j49 : Int) (h50 : AHeap) =>
 rec43 p44 l45 out46 i47 there48 (IntKind.wrap .i64 (j49 + 1)) h50) fun j51 =>
 (if there40 = true then
 j51 p36 l37 out38 i39 true j41 h42
 else
 (Gx.idxL 2 out38 j41).bind fun q52 =>
 (ldI .i64 (⟨q52.block, q52.off + 0, none⟩ : Addr) h42).bind fun x53 =>
 (Gx.idxL 2 l37 i39).bind fun q54 =>
 (ldI .i64 (⟨q54.block, q54.off + 0, none⟩ : Addr) h42).bind fun x55 =>
 j51 p36 l37 out38 i39 (x53 == x55) j41 h42)
 else
 j29 p36 l37 out38 i39 there40 h42)
noncomputable def ref05_Plan_unlike_l1 (k : Nat) (D : CallF) (j29 : (Option Addr) → Slc → Slc → Int → Bool → AHeap → Option ((Slc) × AHeap)) : (Option Addr) → Slc → Slc → Int → Bool → Int → AHeap → Option ((Slc) × AHeap) :=
 iterK (α := (Option Addr) → Slc → Slc → Int → Bool → Int → AHeap → Option ((Slc) × AHeap)) (fun _ _ _ _ _ _ _ => none) k (ref05_Plan_unlike_l1b k D j29)
noncomputable def ref05_Plan_unlike_l0b (k : Nat) (D : CallF) (j3 : Slc → AHeap → Option ((Slc) × AHeap)) (rec9 : (Option Addr) → Slc → Slc → Int → AHeap → Option ((Slc) × AHeap)) (p4 : Option Addr) (l5 : Slc) (out6 : Slc) (i7 : Int) (h8 : AHeap) : Option ((Slc) × AHeap) :=
 joinK (fun (p10 : Option Addr) (l11 : Slc) (out12 : Slc) (i13 : Int) (y14 : Bool) (h15 : AHeap) =>
 (if y14 = true then
 joinK (fun (p17 : Option Addr) (l18 : Slc) (out19 : Slc) (i20 : Int) (h21 : AHeap) =>
 rec9 p17 l18 out19 (IntKind.wrap .i64 (i20 + 1)) h21) fun j22 =>
 joinK (fun (p23 : Option Addr) (l24 : Slc) (out25 : Slc) (i26 : Int) (there27 : Bool) (h28 : AHeap) =>
 (if (!there27) = true then
 (Gx.idxL 2 l24 i26).bind fun q30 =>
 (ldA 2 q30 h28).bind fun l31 =>
 (decC [.i .i64, .s] l31).bind fun x32 =>
 let h33 := AHeap.new h28 (.cells [.int .i64 x32.1, .string x32.2] 36 true 0)
 (rdS 2 (⟨(some ⟨h28.next, 0, some 0⟩), 1, 1⟩ : Slc) h33).bind fun n35 =>
 (appendA 2 24 36 h33 out25 n35 1).bind fun r34 =>
 j22 p23 l24 r34.1 i26 r34.2
 else
 j22 p23 l24 out25 i26 h28)) fun j29 =>
 ref05_Plan_unlike_l1 k D j29 p10 l11 out12 i13 false 0 h15
 else
 j3 out12 h15)) fun j16 =>
 (if (decide (i7 < (l5.len : Int))) = true then
 (p4).bind fun p56 =>
 (ldI .i64 (⟨p56.block, p56.off + 0, none⟩ : Addr) h8).bind fun x57 =>
 j16 p4 l5 out6 i7 (decide ((out6.len : Int) < x57)) h8
 else
 j16 p4 l5 out6 i7 false h8)
noncomputable def ref05_Plan_unlike_l0 (k : Nat) (D : CallF) (j3 : Slc → AHeap → Option ((Slc) × AHeap)) : (Option Addr) → Slc → Slc → Int → AHeap → Option ((Slc) × AHeap) :=
 iterK (α := (Option Addr) → Slc → Slc → Int → AHeap → Option ((Slc) × AHeap)) (fun _ _ _ _ _ => none) k (ref05_Plan_unlike_l0b k D j3)
noncomputable def ref05_Plan_unlike (k : Nat) (D : CallF) (p_0 : Option Addr) (l_1 : Slc) (h : AHeap) : Option ((Slc) × AHeap) :=
 joinK (fun (out1 : Slc) (h2 : AHeap) =>
 some (out1, h2)) fun j3 =>
 ref05_Plan_unlike_l0 k D j3 p_0 l_1 (⟨none, 0, 0⟩ : Slc) 0 h
noncomputable def r_ref05_Plan_unlike : RCode := an (.s .n (.s .n (.s (.j [(5, .l)] (.s .n (.b (.l [(0, .p), (1, .l), (5, .l), (6, .i .i64)] (.s (.s (.j [(0, .p), (1, .l), (5, .l), (6, .i .i64), (21, .b)] .n) .n) (.s (.j [(0, .p), (1, .l), (5, .l), (6, .i .i64)] (.b (.s .n (.s (.j [(0, .p), (1, .l), (5, .l), (6, .i .i64), (7, .b)] (.s .n (.b (.l [(0, .p), (1, .l), (5, .l), (6, .i .i64), (7, .b), (8, .i .i64)] (.s .n (.s (.j [(0, .p), (1, .l), (5, .l), (6, .i .i64), (7, .b), (8, .i .i64)] .n) .n)))))) (.s .n (.s (.r [(4, .st [.i .i64, .s])]) .n)))))) .n)))))) .n))) (rOf Tryz.prog 0 Tryz.f21)
noncomputable def e_ref05_Plan_unlike (k : Nat) (D : CallF) : Ent := entOf 21 [(0, .p), (1, .l)] [(4, .l)] (ref05_Plan_unlike k D)
theorem q_ref05_Plan_unlike : (Tryz.f21.body).bind (rcodeOf Tryz.prog 0 Tryz.f21.ntmps) = some (strip r_ref05_Plan_unlike) := by kernel_rfl
theorem t_ref05_Plan_unlike (k : Nat) (D : CallF) : curF [(0, .p), (1, .l)] (fun args h => denF (C_ref05_Plan_unlike k D) k r_ref05_Plan_unlike [(4, .l)] [none] args h) = ref05_Plan_unlike k D := by kernel_rfl
theorem ok_ref05_Plan_unlike {D : CallF} (hD : CSound Tryz.prog 0 D) (k : Nat) : EntOk Tryz.prog 0 (e_ref05_Plan_unlike k D) :=
 entOf_ok2 (mkC_sound hD (EntsOk.none)) Tryz.func21 rfl q_ref05_Plan_unlike rfl (t_ref05_Plan_unlike k D)
end Gq
namespace Gq
open Go Gx Go.Proofs
set_option maxRecDepth 100000
noncomputable def C_ref04_Check (_k : Nat) (D : CallF) : CallF := mkC D []
noncomputable def ref04_Check_l0b (_k : Nat) (_D : CallF) (j13 : AHeap → Option ((Int) × AHeap)) (rec17 : (Option Addr) → Int → AHeap → Option ((Int) × AHeap)) (a14 : Option Addr) (i15 : Int) (h16 : AHeap) : Option ((Int) × AHeap) :=
 (a14).bind fun p18 =>
 (ldL (⟨p18.block, p18.off + 2, none⟩ : Addr) h16).bind fun x19 =>
 (if (decide (i15 < (x19.len : Int))) = true then
 joinK (fun (a20 : Option Addr) (i21 : Int) (y22 : Bool) (h23 : AHeap) =>
 (if y22 = true then
 some (1, h23)
 else
 rec17 a20 (IntKind.wrap .i64 (i21 + 1)) h23)) fun j24 =>
 (a14).bind fun p25 =>
 (ldL (⟨p25.block, p25.off + 2, none⟩ : Addr) h16).bind fun x26 =>
 (Gx.idxL 1 x26 i15).bind fun q27 =>
 (ldI .i64 q27 h16).bind fun x28 =>
 (if (decide (x28 < 0)) = true then
 j24 a14 i15 true h16
 else
 (a14).bind fun p29 =>
 (ldL (⟨p29.block, p29.off + 2, none⟩ : Addr) h16).bind fun x30 =>
 (Gx.idxL 1 x30 i15).bind fun q31 =>
 (ldI .i64 q31 h16).bind fun x32 =>
 j24 a14 i15 (decide (x32 > 255)) h16)
 else
 j13 h16)
noncomputable def ref04_Check_l0 (k : Nat) (D : CallF) (j13 : AHeap → Option ((Int) × AHeap)) : (Option Addr) → Int → AHeap → Option ((Int) × AHeap) :=
 iterK (α := (Option Addr) → Int → AHeap → Option ((Int) × AHeap)) (fun _ _ _ => none) k (ref04_Check_l0b k D j13)
noncomputable def ref04_Check (k : Nat) (D : CallF) (a_0 : Int × Int × Slc) (h : AHeap) : Option ((Int) × AHeap) :=
 let h1 := AHeap.new h (.cells [.int .i64 a_0.1, .int .i64 a_0.2.1, .slice a_0.2.2.a a_0.2.2.len a_0.2.2.cap] 57 true 0)
 joinK (fun (a2 : Option Addr) (y3 : Bool) (h4 : AHeap) =>
 (if y3 = true then
 some (1, h4)
 else
 (a2).bind fun p6 =>
 (ldL (⟨p6.block, p6.off + 2, none⟩ : Addr) h4).bind fun x7 =>
 (a2).bind fun p8 =>
 (ldI .i64 (⟨p8.block, p8.off + 0, none⟩ : Addr) h4).bind fun x9 =>
 (a2).bind fun p10 =>
 (ldI .i64 (⟨p10.block, p10.off + 1, none⟩ : Addr) h4).bind fun x11 =>
 (if ((x7.len : Int) != (IntKind.wrap .i64 (x9 * x11))) = true then
 some (4, h4)
 else
 joinK (fun (h12 : AHeap) =>
 some (0, h12)) fun j13 =>
 ref04_Check_l0 k D j13 a2 0 h4))) fun j5 =>
 (ldI .i64 (⟨h.next, 0, none⟩ : Addr) h1).bind fun x33 =>
 (if (decide (x33 < 1)) = true then
 j5 (some (⟨h.next, 0, none⟩ : Addr)) true h1
 else
 (ldI .i64 (⟨h.next, 0, none⟩ : Addr) h1).bind fun x34 =>
 (if (decide (x34 > 255)) = true then
 j5 (some (⟨h.next, 0, none⟩ : Addr)) true h1
 else
 (ldI .i64 (⟨h.next, 1, none⟩ : Addr) h1).bind fun x35 =>
 (if (decide (x35 < 1)) = true then
 j5 (some (⟨h.next, 0, none⟩ : Addr)) true h1
 else
 (ldI .i64 (⟨h.next, 1, none⟩ : Addr) h1).bind fun x36 =>
 j5 (some (⟨h.next, 0, none⟩ : Addr)) (decide (x36 > 255)) h1)))
noncomputable def r_ref04_Check : RCode := an (.s .n (.s (.s (.j [(1, .p), (21, .b)] .n) .n) (.s .n (.s (.j [] (.s .n (.b (.l [(1, .p), (3, .i .i64)] (.s .n (.s (.b (.s (.j [(1, .p), (3, .i .i64), (51, .b)] .n) .n)) .n)))))) .n)))) (rOf Tryz.prog 0 Tryz.f42)
noncomputable def e_ref04_Check (k : Nat) (D : CallF) : Ent := entOf 42 [(0, .st [.i .i64, .i .i64, .l])] [(2, .i .i64)] (ref04_Check k D)
theorem q_ref04_Check : (Tryz.f42.body).bind (rcodeOf Tryz.prog 0 Tryz.f42.ntmps) = some (strip r_ref04_Check) := by kernel_rfl
theorem t_ref04_Check (k : Nat) (D : CallF) : curF [(0, .st [.i .i64, .i .i64, .l])] (fun args h => denF (C_ref04_Check k D) k r_ref04_Check [(2, .i .i64)] [none] args h) = ref04_Check k D := by kernel_rfl
theorem ok_ref04_Check {D : CallF} (hD : CSound Tryz.prog 0 D) (k : Nat) : EntOk Tryz.prog 0 (e_ref04_Check k D) :=
 entOf_ok2 (mkC_sound hD (EntsOk.none)) Tryz.func42 rfl q_ref04_Check rfl (t_ref04_Check k D)
end Gq
namespace Gq
open Go Gx Go.Proofs
set_option maxRecDepth 100000
noncomputable def C_ref04_M_At (_k : Nat) (D : CallF) : CallF := mkC D []
noncomputable def ref04_M_At (_k : Nat) (_D : CallF) (a_0 : Int × Int × Slc) (i_1 : Int) (j_2 : Int) (h : AHeap) : Option ((Int) × AHeap) :=
 let h1 := AHeap.new h (.cells [.int .i64 a_0.1, .int .i64 a_0.2.1, .slice a_0.2.2.a a_0.2.2.len a_0.2.2.cap] 57 true 0)
 (ldL (⟨h.next, 2, none⟩ : Addr) h1).bind fun x2 =>
 (ldI .i64 (⟨h.next, 1, none⟩ : Addr) h1).bind fun x3 =>
 (Gx.idxL 1 x2 (IntKind.wrap .i64 ((IntKind.wrap .i64 (i_1 * x3)) + j_2))).bind fun q4 =>
 (ldI .i64 q4 h1).bind fun x5 =>
 some (x5, h1)
noncomputable def r_ref04_M_At : RCode := an (.n) (rOf Tryz.prog 0 Tryz.f43)
noncomputable def e_ref04_M_At (k : Nat) (D : CallF) : Ent := entOf 43 [(0, .st [.i .i64, .i .i64, .l]), (1, .i .i64), (2, .i .i64)] [(6, .i .i64)] (ref04_M_At k D)
theorem q_ref04_M_At : (Tryz.f43.body).bind (rcodeOf Tryz.prog 0 Tryz.f43.ntmps) = some (strip r_ref04_M_At) := by kernel_rfl
theorem t_ref04_M_At (k : Nat) (D : CallF) : curF [(0, .st [.i .i64, .i .i64, .l]), (1, .i .i64), (2, .i .i64)] (fun args h => denF (C_ref04_M_At k D) k r_ref04_M_At [(6, .i .i64)] [none] args h) = ref04_M_At k D := by kernel_rfl
theorem ok_ref04_M_At {D : CallF} (hD : CSound Tryz.prog 0 D) (k : Nat) : EntOk Tryz.prog 0 (e_ref04_M_At k D) :=
 entOf_ok2 (mkC_sound hD (EntsOk.none)) Tryz.func43 rfl q_ref04_M_At rfl (t_ref04_M_At k D)
end Gq
namespace Gq
open Go Gx Go.Proofs
set_option maxRecDepth 100000
noncomputable def C_ref04_Pick (k : Nat) (D : CallF) : CallF := mkC D [e_ref04_Check k D, e_ref04_zero k D, e_ref04_M_At k D]
noncomputable def ref04_Pick_l2b (_k : Nat) (_D : CallF) (j24 : Slc → (Option Addr) → (Option Addr) → AHeap → Option (((Int × Int × Slc) × Int) × AHeap)) (rec87 : Slc → (Option Addr) → (Option Addr) → Int → AHeap → Option (((Int × Int × Slc) × Int) × AHeap)) (rows82 : Slc) (a83 : Option Addr) (y84 : Option Addr) (i85 : Int) (h86 : AHeap) : Option (((Int × Int × Slc) × Int) × AHeap) :=
 (if (decide (i85 < (rows82.len : Int))) = true then
 joinK (fun (rows88 : Slc) (a89 : Option Addr) (y90 : Option Addr) (i91 : Int) (y92 : Bool) (h93 : AHeap) =>
 (if y92 = true then
 (y90).bind fun p95 =>
 (stL 3 p95 ([.int .i64 0, .int .i64 0, .slice none 0 0]) h93).bind fun h96 =>
 (y90).bind fun p97 =>
 (ldA 3 p97 h96).bind fun l98 =>
 (decC [.i .i64, .i .i64, .l] l98).bind fun x99 =>
 some (((x99.1, x99.2.1, x99.2.2), 1), h96)
 else
 rec87 rows88 a89 y90 (IntKind.wrap .i64 (i91 + 1)) h93)) fun j94 =>
 (Gx.idxL 1 rows82 i85).bind fun q100 =>
 (ldI .i64 q100 h86).bind fun x101 =>
 (if (decide (x101 < 0)) = true then
 j94 rows82 a83 y84 i85 true h86
 else
 (Gx.idxL 1 rows82 i85).bind fun q102 =>
 (ldI .i64 q102 h86).bind fun x103 =>
 (a83).bind fun p104 =>
 (ldI .i64 (⟨p104.block, p104.off + 0, none⟩ : Addr) h86).bind fun x105 =>
 j94 rows82 a83 y84 i85 (decide (x103 ≥ x105)) h86)
 else
 j24 rows82 a83 y84 h86)
noncomputable def ref04_Pick_l2 (k : Nat) (D : CallF) (j24 : Slc → (Option Addr) → (Option Addr) → AHeap → Option (((Int × Int × Slc) × Int) × AHeap)) : Slc → (Option Addr) → (Option Addr) → Int → AHeap → Option (((Int × Int × Slc) × Int) × AHeap) :=
 iterK (α := Slc → (Option Addr) → (Option Addr) → Int → AHeap → Option (((Int × Int × Slc) × Int) × AHeap)) (fun _ _ _ _ _ => none) k (ref04_Pick_l2b k D j24)
noncomputable def ref04_Pick_l1b (k : Nat) (D : CallF) (j55 : Slc → (Option Addr) → (Option Addr) → (Option Addr) → Int → AHeap → Option (((Int × Int × Slc) × Int) × AHeap)) (rec63 : Slc → (Option Addr) → (Option Addr) → (Option Addr) → Int → Int → AHeap → Option (((Int × Int × Slc) × Int) × AHeap)) (rows56 : Slc) (a57 : Option Addr) (y58 : Option Addr) (out59 : Option Addr) (i60 : Int) (j61 : Int) (h62 : AHeap) : Option (((Int × Int × Slc) × Int) × AHeap) :=
 (a57).bind fun p64 =>
 (ldI .i64 (⟨p64.block, p64.off + 1, none⟩ : Addr) h62).bind fun x65 =>
 (if (decide (j61 < x65)) = true then
 (a57).bind fun p66 =>
 (ldA 3 p66 h62).bind fun l67 =>
 (decC [.i .i64, .i .i64, .l] l67).bind fun x68 =>
 (Gx.idxL 1 rows56 i60).bind fun q69 =>
 (ldI .i64 q69 h62).bind fun x70 =>
 (ref04_M_At k D (x68.1, x68.2.1, x68.2.2) x70 j61 h62).bind fun r71 =>
 (out59).bind fun p72 =>
 (ldL (⟨p72.block, p72.off + 2, none⟩ : Addr) r71.2).bind fun x73 =>
 guardP (SameW [h62] (fun H75 => (ldL (⟨p72.block, p72.off + 2, none⟩ : Addr) H75).bind fun y74 => some (.slice y74.a y74.len y74.cap)) (.slice x73.a x73.len x73.cap)) (
 (a57).bind fun p76 =>
 (ldI .i64 (⟨p76.block, p76.off + 1, none⟩ : Addr) r71.2).bind fun x77 =>
 guardP (SameW [h62] (fun H79 => (ldI .i64 (⟨p76.block, p76.off + 1, none⟩ : Addr) H79).bind fun y78 => some (.int .i64 y78)) (.int .i64 x77)) (
 (Gx.idxL 1 x73 (IntKind.wrap .i64 ((IntKind.wrap .i64 (i60 * x77)) + j61))).bind fun q80 =>
 (st1 q80 (.int .i64 r71.1) r71.2).bind fun h81 =>
 rec63 rows56 a57 y58 out59 i60 (IntKind.wrap .i64 (j61 + 1)) h81))
 else
 j55 rows56 a57 y58 out59 i60 h62)
noncomputable def ref04_Pick_l1 (k : Nat) (D : CallF) (j55 : Slc → (Option Addr) → (Option Addr) → (Option Addr) → Int → AHeap → Option (((Int × Int × Slc) × Int) × AHeap)) : Slc → (Option Addr) → (Option Addr) → (Option Addr) → Int → Int → AHeap → Option (((Int × Int × Slc) × Int) × AHeap) :=
 iterK (α := Slc → (Option Addr) → (Option Addr) → (Option Addr) → Int → Int → AHeap → Option (((Int × Int × Slc) × Int) × AHeap)) (fun _ _ _ _ _ _ _ => none) k (ref04_Pick_l1b k D j55)
noncomputable def ref04_Pick_l0b (k : Nat) (D : CallF) (j33 : (Option Addr) → (Option Addr) → AHeap → Option (((Int × Int × Slc) × Int) × AHeap)) (rec48 : Slc → (Option Addr) → (Option Addr) → (Option Addr) → Int → AHeap → Option (((Int × Int × Slc) × Int) × AHeap)) (rows42 : Slc) (a43 : Option Addr) (y44 : Option Addr) (out45 : Option Addr) (i46 : Int) (h47 : AHeap) : Option (((Int × Int × Slc) × Int) × AHeap) :=
 (if (decide (i46 < (rows42.len : Int))) = true then
 joinK (fun (rows49 : Slc) (a50 : Option Addr) (y51 : Option Addr) (out52 : Option Addr) (i53 : Int) (h54 : AHeap) =>
 rec48 rows49 a50 y51 out52 (IntKind.wrap .i64 (i53 + 1)) h54) fun j55 =>
 ref04_Pick_l1 k D j55 rows42 a43 y44 out45 i46 0 h47
 else
 j33 y44 out45 h47)
noncomputable def ref04_Pick_l0 (k : Nat) (D : CallF) (j33 : (Option Addr) → (Option Addr) → AHeap → Option (((Int × Int × Slc) × Int) × AHeap)) : Slc → (Option Addr) → (Option Addr) → (Option Addr) → Int → AHeap → Option (((Int × Int × Slc) × Int) × AHeap) :=
 iterK (α := Slc → (Option Addr) → (Option Addr) → (Option Addr) → Int → AHeap → Option (((Int × Int × Slc) × Int) × AHeap)) (fun _ _ _ _ _ _ => none) k (ref04_Pick_l0b k D j33)
noncomputable def ref04_Pick (k : Nat) (D : CallF) (a_0 : Int × Int × Slc) (rows_1 : Slc) (h : AHeap) : Option (((Int × Int × Slc) × Int) × AHeap) :=
 let h1 := AHeap.new h (.cells [.int .i64 a_0.1, .int .i64 a_0.2.1, .slice a_0.2.2.a a_0.2.2.len a_0.2.2.cap] 57 true 0)
 let h2 := AHeap.new h1 (.cells [.int .i64 0, .int .i64 0, .slice none 0 0] 57 true 0)
 (ldA 3 (⟨h.next, 0, none⟩ : Addr) h2).bind fun l3 =>
 (decC [.i .i64, .i .i64, .l] l3).bind fun x4 =>
 (ref04_Check k D (x4.1, x4.2.1, x4.2.2) h2).bind fun r5 =>
 (if (r5.1 != 0) = true then
 (stL 3 (⟨h1.next, 0, none⟩ : Addr) ([.int .i64 0, .int .i64 0, .slice none 0 0]) r5.2).bind fun h6 =>
 (ldA 3 (⟨h1.next, 0, none⟩ : Addr) h6).bind fun l7 =>
 (decC [.i .i64, .i .i64, .l] l7).bind fun x8 =>
 some (((x8.1, x8.2.1, x8.2.2), r5.1), h6)
 else
 joinK (fun (rows9 : Slc) (a10 : Option Addr) (y11 : Option Addr) (y12 : Bool) (h13 : AHeap) =>
 (if y12 = true then
 (y11).bind fun p15 =>
 (stL 3 p15 ([.int .i64 0, .int .i64 0, .slice none 0 0]) h13).bind fun h16 =>
 (y11).bind fun p17 =>
 (ldA 3 p17 h16).bind fun l18 =>
 (decC [.i .i64, .i .i64, .l] l18).bind fun x19 =>
 some (((x19.1, x19.2.1, x19.2.2), 1), h16)
 else
 joinK (fun (rows20 : Slc) (a21 : Option Addr) (y22 : Option Addr) (h23 : AHeap) =>
 (a21).bind fun p25 =>
 (ldI .i64 (⟨p25.block, p25.off + 1, none⟩ : Addr) h23).bind fun x26 =>
 (ref04_zero k D (rows20.len : Int) x26 h23).bind fun r27 =>
 let h28 := AHeap.new r27.2 (.cells [.int .i64 0, .int .i64 0, .slice none 0 0] 57 true 0)
 (stL 3 (⟨r27.2.next, 0, none⟩ : Addr) ([.int .i64 r27.1.1, .int .i64 r27.1.2.1, .slice r27.1.2.2.a r27.1.2.2.len r27.1.2.2.cap]) h28).bind fun h29 =>
 joinK (fun (y30 : Option Addr) (out31 : Option Addr) (h32 : AHeap) =>
 (out31).bind fun p34 =>
 (ldA 3 p34 h32).bind fun l35 =>
 (decC [.i .i64, .i .i64, .l] l35).bind fun x36 =>
 (y30).bind fun p37 =>
 (stL 3 p37 ([.int .i64 x36.1, .int .i64 x36.2.1, .slice x36.2.2.a x36.2.2.len x36.2.2.cap]) h32).bind fun h38 =>
 (y30).bind fun p39 =>
 (ldA 3 p39 h38).bind fun l40 =>
 (decC [.i .i64, .i .i64, .l] l40).bind fun x41 =>
 some (((x41.1, x41.2.1, x41.2.2), 0), h38)) fun j33 =>
 ref04_Pick_l0 k D j33 rows20 a21 y22 (some (⟨r27.2.next, 0, none⟩ : Addr)) 0 h29) fun j24 =>
 ref04_Pick_l2 k D j24 rows9 a10 y11 0 h13)) fun j14 =>
 (if (decide ((rows_1.len : Int) < 1)) = true then
 j14 rows_1 (some (⟨h.next, 0, none⟩ : Addr)) (some (⟨h1.next, 0, none⟩ : Addr)) true r5.2
 else
 j14 rows_1 (some (⟨h.next, 0, none⟩ : Addr)) (some (⟨h1.next, 0, none⟩ : Addr)) (decide ((rows_1.len : Int) > 255)) r5.2))
noncomputable def r_ref04_Pick : RCode := an (.s .n (.s (.s (.r [(0, .st [.i .i64, .i .i64, .l])]) .n) (.s (.s (.j [(1, .l), (2, .p), (4, .p), (24, .b)] .n) .n) (.s (.j [(1, .l), (2, .p), (4, .p)] (.s .n (.b (.l [(1, .l), (2, .p), (4, .p), (7, .i .i64)] (.s .n (.s (.b (.s (.j [(1, .l), (2, .p), (4, .p), (7, .i .i64), (45, .b)] .n) .n)) .n)))))) (.s .n (.s (.j [(4, .p), (8, .p)] (.s .n (.b (.l [(1, .l), (2, .p), (4, .p), (8, .p), (9, .i .i64)] (.s .n (.s (.j [(1, .l), (2, .p), (4, .p), (8, .p), (9, .i .i64)] (.b (.s .n (.b (.l [(1, .l), (2, .p), (4, .p), (8, .p), (9, .i .i64), (10, .i .i64)] (.s .n (.s (.b (.r [(0, .st [.i .i64, .i .i64, .l])])) .n))))))) .n)))))) (.s (.r [(0, .st [.i .i64, .i .i64, .l])]) .n))))))) (rOf Tryz.prog 0 Tryz.f22)
noncomputable def e_ref04_Pick (k : Nat) (D : CallF) : Ent := entOf 22 [(0, .st [.i .i64, .i .i64, .l]), (1, .l)] [(4, .st [.i .i64, .i .i64, .l]), (5, .i .i64)] (ref04_Pick k D)
theorem q_ref04_Pick : (Tryz.f22.body).bind (rcodeOf Tryz.prog 0 Tryz.f22.ntmps) = some (strip r_ref04_Pick) := by kernel_rfl
theorem t_ref04_Pick (k : Nat) (D : CallF) : curF [(0, .st [.i .i64, .i .i64, .l]), (1, .l)] (fun args h => denF (C_ref04_Pick k D) k r_ref04_Pick [(4, .st [.i .i64, .i .i64, .l]), (5, .i .i64)] [some (.agg 3), none] args h) = ref04_Pick k D := by kernel_rfl
theorem ok_ref04_Pick {D : CallF} (hD : CSound Tryz.prog 0 D) (k : Nat) : EntOk Tryz.prog 0 (e_ref04_Pick k D) :=
 entOf_ok2 (mkC_sound hD (EntsOk.more (ok_ref04_Check hD k) (EntsOk.more (ok_ref04_zero hD k) (EntsOk.more (ok_ref04_M_At hD k) (EntsOk.none))))) Tryz.func22 rfl q_ref04_Pick rfl (t_ref04_Pick k D)
end Gq
namespace Gq
open Go Gx Go.Proofs
set_option maxRecDepth 100000
noncomputable def C_ref04_copied (_k : Nat) (D : CallF) : CallF := mkC D []
noncomputable def ref04_copied (_k : Nat) (_D : CallF) (a_0 : Int × Int × Slc) (h : AHeap) : Option (((Int × Int × Slc)) × AHeap) :=
 let h1 := AHeap.new h (.cells [.int .i64 a_0.1, .int .i64 a_0.2.1, .slice a_0.2.2.a a_0.2.2.len a_0.2.2.cap] 57 true 0)
 let h2 := AHeap.new h1 (.cells [.int .i64 0, .int .i64 0, .slice none 0 0] 57 true 0)
 let h3 := AHeap.new h2 (.cells [] 3 true 0)
 (ldL (⟨h.next, 2, none⟩ : Addr) h3).bind fun x4 =>
 guardP (SameW [h2] (fun H6 => (ldL (⟨h.next, 2, none⟩ : Addr) H6).bind fun y5 => some (.slice y5.a y5.len y5.cap)) (.slice x4.a x4.len x4.cap)) (
 (rdS 1 x4 h3).bind fun n8 =>
 (appendA 1 8 3 h3 (⟨(some ⟨h2.next, 0, some 0⟩), 0, 0⟩ : Slc) n8 x4.len).bind fun r7 =>
 (ldI .i64 (⟨h.next, 0, none⟩ : Addr) r7.2).bind fun x9 =>
 guardP (SameW [h3, h2] (fun H11 => (ldI .i64 (⟨h.next, 0, none⟩ : Addr) H11).bind fun y10 => some (.int .i64 y10)) (.int .i64 x9)) (
 (ldI .i64 (⟨h.next, 1, none⟩ : Addr) r7.2).bind fun x12 =>
 guardP (SameW [h3, h2] (fun H14 => (ldI .i64 (⟨h.next, 1, none⟩ : Addr) H14).bind fun y13 => some (.int .i64 y13)) (.int .i64 x12)) (
 (stL 3 (⟨h1.next, 0, none⟩ : Addr) ([.int .i64 x9, .int .i64 x12, .slice r7.1.a r7.1.len r7.1.cap]) r7.2).bind fun h15 =>
 (ldA 3 (⟨h1.next, 0, none⟩ : Addr) h15).bind fun l16 =>
 (decC [.i .i64, .i .i64, .l] l16).bind fun x17 =>
 some ((x17.1, x17.2.1, x17.2.2), h15))))
noncomputable def r_ref04_copied : RCode := an (.n) (rOf Tryz.prog 0 Tryz.f44)
noncomputable def e_ref04_copied (k : Nat) (D : CallF) : Ent := entOf 44 [(0, .st [.i .i64, .i .i64, .l])] [(2, .st [.i .i64, .i .i64, .l])] (ref04_copied k D)
theorem q_ref04_copied : (Tryz.f44.body).bind (rcodeOf Tryz.prog 0 Tryz.f44.ntmps) = some (strip r_ref04_copied) := by kernel_rfl
theorem t_ref04_copied (k : Nat) (D : CallF) : curF [(0, .st [.i .i64, .i .i64, .l])] (fun args h => denF (C_ref04_copied k D) k r_ref04_copied [(2, .st [.i .i64, .i .i64, .l])] [some (.agg 3)] args h) = ref04_copied k D := by kernel_rfl
theorem ok_ref04_copied {D : CallF} (hD : CSound Tryz.prog 0 D) (k : Nat) : EntOk Tryz.prog 0 (e_ref04_copied k D) :=
 entOf_ok2 (mkC_sound hD (EntsOk.none)) Tryz.func44 rfl q_ref04_copied rfl (t_ref04_copied k D)
end Gq
namespace Gq
open Go Gx Go.Proofs
set_option maxRecDepth 100000
noncomputable def C_ref04_One (k : Nat) (D : CallF) : CallF := mkC D [e_ref04_zero k D]
noncomputable def ref04_One_l0b (_k : Nat) (_D : CallF) (j18 : (Option Addr) → (Option Addr) → AHeap → Option (((Int × Int × Slc) × Int) × AHeap)) (rec32 : Int → (Option Addr) → (Option Addr) → Int → AHeap → Option (((Int × Int × Slc) × Int) × AHeap)) (n27 : Int) (y28 : Option Addr) (a29 : Option Addr) (i30 : Int) (h31 : AHeap) : Option (((Int × Int × Slc) × Int) × AHeap) :=
 (if (decide (i30 < n27)) = true then
 (a29).bind fun p33 =>
 (ldL (⟨p33.block, p33.off + 2, none⟩ : Addr) h31).bind fun x34 =>
 (Gx.idxL 1 x34 (IntKind.wrap .i64 ((IntKind.wrap .i64 (i30 * n27)) + i30))).bind fun q35 =>
 (st1 q35 (.int .i64 1) h31).bind fun h36 =>
 rec32 n27 y28 a29 (IntKind.wrap .i64 (i30 + 1)) h36
 else
 j18 y28 a29 h31)
noncomputable def ref04_One_l0 (k : Nat) (D : CallF) (j18 : (Option Addr) → (Option Addr) → AHeap → Option (((Int × Int × Slc) × Int) × AHeap)) : Int → (Option Addr) → (Option Addr) → Int → AHeap → Option (((Int × Int × Slc) × Int) × AHeap) :=
 iterK (α := Int → (Option Addr) → (Option Addr) → Int → AHeap → Option (((Int × Int × Slc) × Int) × AHeap)) (fun _ _ _ _ _ => none) k (ref04_One_l0b k D j18)
noncomputable def ref04_One (k : Nat) (D : CallF) (n_0 : Int) (h : AHeap) : Option (((Int × Int × Slc) × Int) × AHeap) :=
 let h1 := AHeap.new h (.cells [.int .i64 0, .int .i64 0, .slice none 0 0] 57 true 0)
 joinK (fun (n2 : Int) (y3 : Option Addr) (y4 : Bool) (h5 : AHeap) =>
 (if y4 = true then
 (y3).bind fun p7 =>
 (stL 3 p7 ([.int .i64 0, .int .i64 0, .slice none 0 0]) h5).bind fun h8 =>
 (y3).bind fun p9 =>
 (ldA 3 p9 h8).bind fun l10 =>
 (decC [.i .i64, .i .i64, .l] l10).bind fun x11 =>
 some (((x11.1, x11.2.1, x11.2.2), 1), h8)
 else
 (ref04_zero k D n2 n2 h5).bind fun r12 =>
 let h13 := AHeap.new r12.2 (.cells [.int .i64 0, .int .i64 0, .slice none 0 0] 57 true 0)
 (stL 3 (⟨r12.2.next, 0, none⟩ : Addr) ([.int .i64 r12.1.1, .int .i64 r12.1.2.1, .slice r12.1.2.2.a r12.1.2.2.len r12.1.2.2.cap]) h13).bind fun h14 =>
 joinK (fun (y15 : Option Addr) (a16 : Option Addr) (h17 : AHeap) =>
 (a16).bind fun p19 =>
 (ldA 3 p19 h17).bind fun l20 =>
 (decC [.i .i64, .i .i64, .l] l20).bind fun x21 =>
 (y15).bind fun p22 =>
 (stL 3 p22 ([.int .i64 x21.1, .int .i64 x21.2.1, .slice x21.2.2.a x21.2.2.len x21.2.2.cap]) h17).bind fun h23 =>
 (y15).bind fun p24 =>
 (ldA 3 p24 h23).bind fun l25 =>
 (decC [.i .i64, .i .i64, .l] l25).bind fun x26 =>
 some (((x26.1, x26.2.1, x26.2.2), 0), h23)) fun j18 =>
 ref04_One_l0 k D j18 n2 y3 (some (⟨r12.2.next, 0, none⟩ : Addr)) 0 h14)) fun j6 =>
 (if (decide (n_0 < 1)) = true then
 j6 n_0 (some (⟨h.next, 0, none⟩ : Addr)) true h1
 else
 j6 n_0 (some (⟨h.next, 0, none⟩ : Addr)) (decide (n_0 > 255)) h1)
noncomputable def r_ref04_One : RCode := an (.s .n (.s (.s (.j [(0, .i .i64), (2, .p), (11, .b)] .n) .n) (.s .n (.s (.j [(2, .p), (4, .p)] (.s .n (.b (.l [(0, .i .i64), (2, .p), (4, .p), (5, .i .i64)] .n)))) (.s (.r [(0, .st [.i .i64, .i .i64, .l])]) .n))))) (rOf Tryz.prog 0 Tryz.f45)
noncomputable def e_ref04_One (k : Nat) (D : CallF) : Ent := entOf 45 [(0, .i .i64)] [(2, .st [.i .i64, .i .i64, .l]), (3, .i .i64)] (ref04_One k D)
theorem q_ref04_One : (Tryz.f45.body).bind (rcodeOf Tryz.prog 0 Tryz.f45.ntmps) = some (strip r_ref04_One) := by kernel_rfl
theorem t_ref04_One (k : Nat) (D : CallF) : curF [(0, .i .i64)] (fun args h => denF (C_ref04_One k D) k r_ref04_One [(2, .st [.i .i64, .i .i64, .l]), (3, .i .i64)] [some (.agg 3), none] args h) = ref04_One k D := by kernel_rfl
theorem ok_ref04_One {D : CallF} (hD : CSound Tryz.prog 0 D) (k : Nat) : EntOk Tryz.prog 0 (e_ref04_One k D) :=
 entOf_ok2 (mkC_sound hD (EntsOk.more (ok_ref04_zero hD k) (EntsOk.none))) Tryz.func45 rfl q_ref04_One rfl (t_ref04_One k D)
end Gq
namespace Gq
open Go Gx Go.Proofs
set_option maxRecDepth 100000
noncomputable def C_ref04_M_lead (k : Nat) (D : CallF) : CallF := mkC D [e_ref04_M_At k D]
noncomputable def ref04_M_lead_l0b (k : Nat) (D : CallF) (j3 : AHeap → Option ((Int) × AHeap)) (rec8 : Int → (Option Addr) → Int → AHeap → Option ((Int) × AHeap)) (j4 : Int) (a5 : Option Addr) (i6 : Int) (h7 : AHeap) : Option ((Int) × AHeap) :=
 (a5).bind fun p9 =>
 (ldI .i64 (⟨p9.block, p9.off + 0, none⟩ : Addr) h7).bind fun x10 =>
 (if (decide (i6 < x10)) = true then
 (a5).bind fun p11 =>
 (ldA 3 p11 h7).bind fun l12 =>
 (decC [.i .i64, .i .i64, .l] l12).bind fun x13 =>
 (ref04_M_At k D (x13.1, x13.2.1, x13.2.2) i6 j4 h7).bind fun r14 =>
 (if (r14.1 != 0) = true then
 some (i6, r14.2)
 else
 rec8 j4 a5 (IntKind.wrap .i64 (i6 + 1)) r14.2)
 else
 j3 h7)
noncomputable def ref04_M_lead_l0 (k : Nat) (D : CallF) (j3 : AHeap → Option ((Int) × AHeap)) : Int → (Option Addr) → Int → AHeap → Option ((Int) × AHeap) :=
 iterK (α := Int → (Option Addr) → Int → AHeap → Option ((Int) × AHeap)) (fun _ _ _ _ => none) k (ref04_M_lead_l0b k D j3)
noncomputable def ref04_M_lead (k : Nat) (D : CallF) (a_0 : Int × Int × Slc) (from_1 : Int) (j_2 : Int) (h : AHeap) : Option ((Int) × AHeap) :=
 let h1 := AHeap.new h (.cells [.int .i64 a_0.1, .int .i64 a_0.2.1, .slice a_0.2.2.a a_0.2.2.len a_0.2.2.cap] 57 true 0)
 joinK (fun (h2 : AHeap) =>
 some ((-1), h2)) fun j3 =>
 ref04_M_lead_l0 k D j3 j_2 (some (⟨h.next, 0, none⟩ : Addr)) from_1 h1
noncomputable def r_ref04_M_lead : RCode := an (.s .n (.s (.j [] (.s .n (.b (.l [(2, .i .i64), (3, .p), (7, .i .i64)] (.s .n (.s (.b (.s (.r [(0, .st [.i .i64, .i .i64, .l])]) .n)) .n)))))) .n)) (rOf Tryz.prog 0 Tryz.f46)
noncomputable def e_ref04_M_lead (k : Nat) (D : CallF) : Ent := entOf 46 [(0, .st [.i .i64, .i .i64, .l]), (1, .i .i64), (2, .i .i64)] [(6, .i .i64)] (ref04_M_lead k D)
theorem q_ref04_M_lead : (Tryz.f46.body).bind (rcodeOf Tryz.prog 0 Tryz.f46.ntmps) = some (strip r_ref04_M_lead) := by kernel_rfl
theorem t_ref04_M_lead (k : Nat) (D : CallF) : curF [(0, .st [.i .i64, .i .i64, .l]), (1, .i .i64), (2, .i .i64)] (fun args h => denF (C_ref04_M_lead k D) k r_ref04_M_lead [(6, .i .i64)] [none] args h) = ref04_M_lead k D := by kernel_rfl
theorem ok_ref04_M_lead {D : CallF} (hD : CSound Tryz.prog 0 D) (k : Nat) : EntOk Tryz.prog 0 (e_ref04_M_lead k D) :=
 entOf_ok2 (mkC_sound hD (EntsOk.more (ok_ref04_M_At hD k) (EntsOk.none))) Tryz.func46 rfl q_ref04_M_lead rfl (t_ref04_M_lead k D)
end Gq
namespace Gq
open Go Gx Go.Proofs
set_option maxRecDepth 100000
noncomputable def C_ref04_M_swap (k : Nat) (D : CallF) : CallF := mkC D [e_ref04_M_At k D]
noncomputable def ref04_M_swap_l0b (k : Nat) (D : CallF)  (rec7 : Int → Int → (Option Addr) → Int → AHeap → Option ((Unit) × AHeap)) (i2 : Int) (kv3 : Int) (a4 : Option Addr) (j5 : Int) (h6 : AHeap) : Option ((Unit) × AHeap) :=
 (a4).bind fun p8 =>
 (ldI .i64 (⟨p8.block, p8.off + 1, none⟩ : Addr) h6).bind fun x9 =>
 (if (decide (j5 < x9)) = true then
 (a4).bind fun p10 =>
 (ldA 3 p10 h6).bind fun l11 =>
 (decC [.i .i64, .i .i64, .l] l11).bind fun x12 =>
 (ref04_M_At k D (x12.1, x12.2.1, x12.2.2) i2 j5 h6).bind fun r13 =>
 (a4).bind fun p14 =>
 (ldA 3 p14 r13.2).bind fun l15 =>
 (decC [.i .i64, .i .i64, .l] l15).bind fun x16 =>
 (ref04_M_At k D (x16.1, x16.2.1, x16.2.2) kv3 j5 r13.2).bind fun r17 =>
 (a4).bind fun p18 =>
 (ldL (⟨p18.block, p18.off + 2, none⟩ : Addr) r17.2).bind fun x19 =>
 guardP (SameW [r13.2] (fun H21 => (ldL (⟨p18.block, p18.off + 2, none⟩ : Addr) H21).bind fun y20 => some (.slice y20.a y20.len y20.cap)) (.slice x19.a x19.len x19.cap)) (
 (a4).bind fun p22 =>
 (ldI .i64 (⟨p22.block, p22.off + 1, none⟩ : Addr) r17.2).bind fun x23 =>
 guardP (SameW [r13.2] (fun H25 => (ldI .i64 (⟨p22.block, p22.off + 1, none⟩ : Addr) H25).bind fun y24 => some (.int .i64 y24)) (.int .i64 x23)) (
 (Gx.idxL 1 x19 (IntKind.wrap .i64 ((IntKind.wrap .i64 (i2 * x23)) + j5))).bind fun q26 =>
 (st1 q26 (.int .i64 r17.1) r17.2).bind fun h27 =>
 (a4).bind fun p28 =>
 (ldL (⟨p28.block, p28.off + 2, none⟩ : Addr) h27).bind fun x29 =>
 (a4).bind fun p30 =>
 (ldI .i64 (⟨p30.block, p30.off + 1, none⟩ : Addr) h27).bind fun x31 =>
 (Gx.idxL 1 x29 (IntKind.wrap .i64 ((IntKind.wrap .i64 (kv3 * x31)) + j5))).bind fun q32 =>
 (st1 q32 (.int .i64 r13.1) h27).bind fun h33 =>
 rec7 i2 kv3 a4 (IntKind.wrap .i64 (j5 + 1)) h33))
 else
 some ((), h6))
noncomputable def ref04_M_swap_l0 (k : Nat) (D : CallF)  : Int → Int → (Option Addr) → Int → AHeap → Option ((Unit) × AHeap) :=
 iterK (α := Int → Int → (Option Addr) → Int → AHeap → Option ((Unit) × AHeap)) (fun _ _ _ _ _ => none) k (ref04_M_swap_l0b k D )
noncomputable def ref04_M_swap (k : Nat) (D : CallF) (a_0 : Int × Int × Slc) (i_1 : Int) (k_2 : Int) (h : AHeap) : Option ((Unit) × AHeap) :=
 let h1 := AHeap.new h (.cells [.int .i64 a_0.1, .int .i64 a_0.2.1, .slice a_0.2.2.a a_0.2.2.len a_0.2.2.cap] 57 true 0)
 ref04_M_swap_l0 k D i_1 k_2 (some (⟨h.next, 0, none⟩ : Addr)) 0 h1
noncomputable def r_ref04_M_swap : RCode := an (.s .n (.s .n (.b (.l [(1, .i .i64), (2, .i .i64), (3, .p), (6, .i .i64)] (.s .n (.s (.b (.s (.r [(0, .st [.i .i64, .i .i64, .l])]) (.s (.r [(0, .st [.i .i64, .i .i64, .l])]) .n))) .n)))))) (rOf Tryz.prog 0 Tryz.f47)
noncomputable def e_ref04_M_swap (k : Nat) (D : CallF) : Ent := entOf 47 [(0, .st [.i .i64, .i .i64, .l]), (1, .i .i64), (2, .i .i64)] [] (ref04_M_swap k D)
theorem q_ref04_M_swap : (Tryz.f47.body).bind (rcodeOf Tryz.prog 0 Tryz.f47.ntmps) = some (strip r_ref04_M_swap) := by kernel_rfl
theorem t_ref04_M_swap (k : Nat) (D : CallF) : curF [(0, .st [.i .i64, .i .i64, .l]), (1, .i .i64), (2, .i .i64)] (fun args h => denF (C_ref04_M_swap k D) k r_ref04_M_swap [] [] args h) = ref04_M_swap k D := by kernel_rfl
theorem ok_ref04_M_swap {D : CallF} (hD : CSound Tryz.prog 0 D) (k : Nat) : EntOk Tryz.prog 0 (e_ref04_M_swap k D) :=
 entOf_ok2 (mkC_sound hD (EntsOk.more (ok_ref04_M_At hD k) (EntsOk.none))) Tryz.func47 rfl q_ref04_M_swap rfl (t_ref04_M_swap k D)
end Gq
namespace Gq
open Go Gx Go.Proofs
set_option maxRecDepth 100000
noncomputable def C_ref04_M_scale (k : Nat) (D : CallF) : CallF := mkC D [e_ref04_M_At k D, e_ref03_Times k D]
noncomputable def ref04_M_scale_l0b (k : Nat) (D : CallF)  (rec7 : Int → Int → (Option Addr) → Int → AHeap → Option ((Unit) × AHeap)) (i2 : Int) (c3 : Int) (a4 : Option Addr) (j5 : Int) (h6 : AHeap) : Option ((Unit) × AHeap) :=
 (a4).bind fun p8 =>
 (ldI .i64 (⟨p8.block, p8.off + 1, none⟩ : Addr) h6).bind fun x9 =>
 (if (decide (j5 < x9)) = true then
 (a4).bind fun p10 =>
 (ldA 3 p10 h6).bind fun l11 =>
 (decC [.i .i64, .i .i64, .l] l11).bind fun x12 =>
 (ref04_M_At k D (x12.1, x12.2.1, x12.2.2) i2 j5 h6).bind fun r13 =>
 (ref03_Times k D r13.1 c3 r13.2).bind fun r14 =>
 (a4).bind fun p15 =>
 (ldL (⟨p15.block, p15.off + 2, none⟩ : Addr) r14.2).bind fun x16 =>
 guardP (SameW [r13.2, h6] (fun H18 => (ldL (⟨p15.block, p15.off + 2, none⟩ : Addr) H18).bind fun y17 => some (.slice y17.a y17.len y17.cap)) (.slice x16.a x16.len x16.cap)) (
 (a4).bind fun p19 =>
 (ldI .i64 (⟨p19.block, p19.off + 1, none⟩ : Addr) r14.2).bind fun x20 =>
 guardP (SameW [r13.2, h6] (fun H22 => (ldI .i64 (⟨p19.block, p19.off + 1, none⟩ : Addr) H22).bind fun y21 => some (.int .i64 y21)) (.int .i64 x20)) (
 (Gx.idxL 1 x16 (IntKind.wrap .i64 ((IntKind.wrap .i64 (i2 * x20)) + j5))).bind fun q23 =>
 (st1 q23 (.int .i64 r14.1) r14.2).bind fun h24 =>
 rec7 i2 c3 a4 (IntKind.wrap .i64 (j5 + 1)) h24))
 else
 some ((), h6))
noncomputable def ref04_M_scale_l0 (k : Nat) (D : CallF)  : Int → Int → (Option Addr) → Int → AHeap → Option ((Unit) × AHeap) :=
 iterK (α := Int → Int → (Option Addr) → Int → AHeap → Option ((Unit) × AHeap)) (fun _ _ _ _ _ => none) k (ref04_M_scale_l0b k D )
noncomputable def ref04_M_scale (k : Nat) (D : CallF) (a_0 : Int × Int × Slc) (i_1 : Int) (c_2 : Int) (h : AHeap) : Option ((Unit) × AHeap) :=
 let h1 := AHeap.new h (.cells [.int .i64 a_0.1, .int .i64 a_0.2.1, .slice a_0.2.2.a a_0.2.2.len a_0.2.2.cap] 57 true 0)
 ref04_M_scale_l0 k D i_1 c_2 (some (⟨h.next, 0, none⟩ : Addr)) 0 h1
noncomputable def r_ref04_M_scale : RCode := an (.s .n (.s .n (.b (.l [(1, .i .i64), (2, .i .i64), (3, .p), (6, .i .i64)] (.s .n (.s (.b (.r [(0, .st [.i .i64, .i .i64, .l])])) .n)))))) (rOf Tryz.prog 0 Tryz.f48)
noncomputable def e_ref04_M_scale (k : Nat) (D : CallF) : Ent := entOf 48 [(0, .st [.i .i64, .i .i64, .l]), (1, .i .i64), (2, .i .i64)] [] (ref04_M_scale k D)
theorem q_ref04_M_scale : (Tryz.f48.body).bind (rcodeOf Tryz.prog 0 Tryz.f48.ntmps) = some (strip r_ref04_M_scale) := by kernel_rfl
theorem t_ref04_M_scale (k : Nat) (D : CallF) : curF [(0, .st [.i .i64, .i .i64, .l]), (1, .i .i64), (2, .i .i64)] (fun args h => denF (C_ref04_M_scale k D) k r_ref04_M_scale [] [] args h) = ref04_M_scale k D := by kernel_rfl
theorem ok_ref04_M_scale {D : CallF} (hD : CSound Tryz.prog 0 D) (k : Nat) : EntOk Tryz.prog 0 (e_ref04_M_scale k D) :=
 entOf_ok2 (mkC_sound hD (EntsOk.more (ok_ref04_M_At hD k) (EntsOk.more (ok_ref03_Times hD k) (EntsOk.none)))) Tryz.func48 rfl q_ref04_M_scale rfl (t_ref04_M_scale k D)
end Gq
namespace Gq
open Go Gx Go.Proofs
set_option maxRecDepth 100000
noncomputable def C_ref04_M_add (k : Nat) (D : CallF) : CallF := mkC D [e_ref04_M_At k D, e_ref03_Times k D]
noncomputable def ref04_M_add_l0b (k : Nat) (D : CallF)  (rec8 : Int → Int → Int → (Option Addr) → Int → AHeap → Option ((Unit) × AHeap)) (i2 : Int) (kv3 : Int) (c4 : Int) (a5 : Option Addr) (j6 : Int) (h7 : AHeap) : Option ((Unit) × AHeap) :=
 (a5).bind fun p9 =>
 (ldI .i64 (⟨p9.block, p9.off + 1, none⟩ : Addr) h7).bind fun x10 =>
 (if (decide (j6 < x10)) = true then
 (a5).bind fun p11 =>
 (ldA 3 p11 h7).bind fun l12 =>
 (decC [.i .i64, .i .i64, .l] l12).bind fun x13 =>
 (ref04_M_At k D (x13.1, x13.2.1, x13.2.2) i2 j6 h7).bind fun r14 =>
 (a5).bind fun p15 =>
 (ldA 3 p15 r14.2).bind fun l16 =>
 guardP (SameW [h7] (fun H18 => (a5).bind fun p19 => (ldA 3 p19 H18).bind fun y17 => some (.agg ⟨y17⟩)) (.agg ⟨l16⟩)) (
 (decC [.i .i64, .i .i64, .l] l16).bind fun x20 =>
 (ref04_M_At k D (x20.1, x20.2.1, x20.2.2) kv3 j6 r14.2).bind fun r21 =>
 (ref03_Times k D r21.1 c4 r21.2).bind fun r22 =>
 (a5).bind fun p23 =>
 (ldL (⟨p23.block, p23.off + 2, none⟩ : Addr) r22.2).bind fun x24 =>
 guardP (SameW [r21.2, r14.2, h7] (fun H26 => (ldL (⟨p23.block, p23.off + 2, none⟩ : Addr) H26).bind fun y25 => some (.slice y25.a y25.len y25.cap)) (.slice x24.a x24.len x24.cap)) (
 (a5).bind fun p27 =>
 (ldI .i64 (⟨p27.block, p27.off + 1, none⟩ : Addr) r22.2).bind fun x28 =>
 guardP (SameW [r21.2, r14.2, h7] (fun H30 => (ldI .i64 (⟨p27.block, p27.off + 1, none⟩ : Addr) H30).bind fun y29 => some (.int .i64 y29)) (.int .i64 x28)) (
 (Gx.idxL 1 x24 (IntKind.wrap .i64 ((IntKind.wrap .i64 (i2 * x28)) + j6))).bind fun q31 =>
 (st1 q31 (.int .i64 (Go.bits .xor .i64 r14.1 r22.1)) r22.2).bind fun h32 =>
 rec8 i2 kv3 c4 a5 (IntKind.wrap .i64 (j6 + 1)) h32)))
 else
 some ((), h7))
noncomputable def ref04_M_add_l0 (k : Nat) (D : CallF)  : Int → Int → Int → (Option Addr) → Int → AHeap → Option ((Unit) × AHeap) :=
 iterK (α := Int → Int → Int → (Option Addr) → Int → AHeap → Option ((Unit) × AHeap)) (fun _ _ _ _ _ _ => none) k (ref04_M_add_l0b k D )
noncomputable def ref04_M_add (k : Nat) (D : CallF) (a_0 : Int × Int × Slc) (i_1 : Int) (k_2 : Int) (c_3 : Int) (h : AHeap) : Option ((Unit) × AHeap) :=
 let h1 := AHeap.new h (.cells [.int .i64 a_0.1, .int .i64 a_0.2.1, .slice a_0.2.2.a a_0.2.2.len a_0.2.2.cap] 57 true 0)
 ref04_M_add_l0 k D i_1 k_2 c_3 (some (⟨h.next, 0, none⟩ : Addr)) 0 h1
noncomputable def r_ref04_M_add : RCode := an (.s .n (.s .n (.b (.l [(1, .i .i64), (2, .i .i64), (3, .i .i64), (4, .p), (8, .i .i64)] (.s .n (.s (.b (.r [(0, .st [.i .i64, .i .i64, .l]), (4, .st [.i .i64, .i .i64, .l])])) .n)))))) (rOf Tryz.prog 0 Tryz.f49)
noncomputable def e_ref04_M_add (k : Nat) (D : CallF) : Ent := entOf 49 [(0, .st [.i .i64, .i .i64, .l]), (1, .i .i64), (2, .i .i64), (3, .i .i64)] [] (ref04_M_add k D)
theorem q_ref04_M_add : (Tryz.f49.body).bind (rcodeOf Tryz.prog 0 Tryz.f49.ntmps) = some (strip r_ref04_M_add) := by kernel_rfl
theorem t_ref04_M_add (k : Nat) (D : CallF) : curF [(0, .st [.i .i64, .i .i64, .l]), (1, .i .i64), (2, .i .i64), (3, .i .i64)] (fun args h => denF (C_ref04_M_add k D) k r_ref04_M_add [] [] args h) = ref04_M_add k D := by kernel_rfl
theorem ok_ref04_M_add {D : CallF} (hD : CSound Tryz.prog 0 D) (k : Nat) : EntOk Tryz.prog 0 (e_ref04_M_add k D) :=
 entOf_ok2 (mkC_sound hD (EntsOk.more (ok_ref04_M_At hD k) (EntsOk.more (ok_ref03_Times hD k) (EntsOk.none)))) Tryz.func49 rfl q_ref04_M_add rfl (t_ref04_M_add k D)
end Gq
namespace Gq
open Go Gx Go.Proofs
set_option maxRecDepth 100000
noncomputable def C_ref04_Inverse (k : Nat) (D : CallF) : CallF := mkC D [e_ref04_Check k D, e_ref04_copied k D, e_ref04_One k D, e_ref04_M_lead k D, e_ref04_M_swap k D, e_ref04_M_At k D, e_ref03_Over k D, e_ref04_M_scale k D, e_ref04_M_add k D]
noncomputable def ref04_Inverse_l1b (k : Nat) (D : CallF) (j50 : (Option Addr) → (Option Addr) → (Option Addr) → (Option Addr) → Int → AHeap → Option (((Int × Int × Slc) × Int) × AHeap)) (rec88 : (Option Addr) → (Option Addr) → (Option Addr) → (Option Addr) → Int → Int → AHeap → Option (((Int × Int × Slc) × Int) × AHeap)) (a81 : Option Addr) (y82 : Option Addr) (l83 : Option Addr) (out84 : Option Addr) (j85 : Int) (kv86 : Int) (h87 : AHeap) : Option (((Int × Int × Slc) × Int) × AHeap) :=
 (a81).bind fun p89 =>
 (ldI .i64 (⟨p89.block, p89.off + 0, none⟩ : Addr) h87).bind fun x90 =>
 (if (decide (kv86 < x90)) = true then
 joinK (fun (a91 : Option Addr) (y92 : Option Addr) (l93 : Option Addr) (out94 : Option Addr) (j95 : Int) (kv96 : Int) (h97 : AHeap) =>
 rec88 a91 y92 l93 out94 j95 (IntKind.wrap .i64 (kv96 + 1)) h97) fun j98 =>
 joinK (fun (a99 : Option Addr) (y100 : Option Addr) (l101 : Option Addr) (out102 : Option Addr) (j103 : Int) (kv104 : Int) (y105 : Bool) (h106 : AHeap) =>
 (if y105 = true then
 (l101).bind fun p108 =>
 (ldA 3 p108 h106).bind fun l109 =>
 (decC [.i .i64, .i .i64, .l] l109).bind fun x110 =>
 (ref04_M_At k D (x110.1, x110.2.1, x110.2.2) kv104 j103 h106).bind fun r111 =>
 (l101).bind fun p112 =>
 (ldA 3 p112 r111.2).bind fun l113 =>
 (decC [.i .i64, .i .i64, .l] l113).bind fun x114 =>
 (ref04_M_add k D (x114.1, x114.2.1, x114.2.2) kv104 j103 r111.1 r111.2).bind fun r115 =>
 (out102).bind fun p116 =>
 (ldA 3 p116 r115.2).bind fun l117 =>
 (decC [.i .i64, .i .i64, .l] l117).bind fun x118 =>
 (ref04_M_add k D (x118.1, x118.2.1, x118.2.2) kv104 j103 r111.1 r115.2).bind fun r119 =>
 j98 a99 y100 l101 out102 j103 kv104 r119.2
 else
 j98 a99 y100 l101 out102 j103 kv104 h106)) fun j107 =>
 (if (kv86 != j85) = true then
 (l83).bind fun p120 =>
 (ldA 3 p120 h87).bind fun l121 =>
 (decC [.i .i64, .i .i64, .l] l121).bind fun x122 =>
 (ref04_M_At k D (x122.1, x122.2.1, x122.2.2) kv86 j85 h87).bind fun r123 =>
 j107 a81 y82 l83 out84 j85 kv86 (r123.1 != 0) r123.2
 else
 j107 a81 y82 l83 out84 j85 kv86 false h87)
 else
 j50 a81 y82 l83 out84 j85 h87)
noncomputable def ref04_Inverse_l1 (k : Nat) (D : CallF) (j50 : (Option Addr) → (Option Addr) → (Option Addr) → (Option Addr) → Int → AHeap → Option (((Int × Int × Slc) × Int) × AHeap)) : (Option Addr) → (Option Addr) → (Option Addr) → (Option Addr) → Int → Int → AHeap → Option (((Int × Int × Slc) × Int) × AHeap) :=
 iterK (α := (Option Addr) → (Option Addr) → (Option Addr) → (Option Addr) → Int → Int → AHeap → Option (((Int × Int × Slc) × Int) × AHeap)) (fun _ _ _ _ _ _ _ => none) k (ref04_Inverse_l1b k D j50)
noncomputable def ref04_Inverse_l0b (k : Nat) (D : CallF) (j26 : (Option Addr) → (Option Addr) → AHeap → Option (((Int × Int × Slc) × Int) × AHeap)) (rec41 : (Option Addr) → (Option Addr) → (Option Addr) → (Option Addr) → Int → AHeap → Option (((Int × Int × Slc) × Int) × AHeap)) (a35 : Option Addr) (y36 : Option Addr) (l37 : Option Addr) (out38 : Option Addr) (j39 : Int) (h40 : AHeap) : Option (((Int × Int × Slc) × Int) × AHeap) :=
 (a35).bind fun p42 =>
 (ldI .i64 (⟨p42.block, p42.off + 1, none⟩ : Addr) h40).bind fun x43 =>
 (if (decide (j39 < x43)) = true then
 joinK (fun (a44 : Option Addr) (y45 : Option Addr) (l46 : Option Addr) (out47 : Option Addr) (j48 : Int) (h49 : AHeap) =>
 rec41 a44 y45 l46 out47 (IntKind.wrap .i64 (j48 + 1)) h49) fun j50 =>
 (l37).bind fun p51 =>
 (ldA 3 p51 h40).bind fun l52 =>
 (decC [.i .i64, .i .i64, .l] l52).bind fun x53 =>
 (ref04_M_lead k D (x53.1, x53.2.1, x53.2.2) j39 j39 h40).bind fun r54 =>
 (if (decide (r54.1 < 0)) = true then
 (y36).bind fun p55 =>
 (stL 3 p55 ([.int .i64 0, .int .i64 0, .slice none 0 0]) r54.2).bind fun h56 =>
 (y36).bind fun p57 =>
 (ldA 3 p57 h56).bind fun l58 =>
 (decC [.i .i64, .i .i64, .l] l58).bind fun x59 =>
 some (((x59.1, x59.2.1, x59.2.2), 40), h56)
 else
 (l37).bind fun p60 =>
 (ldA 3 p60 r54.2).bind fun l61 =>
 (decC [.i .i64, .i .i64, .l] l61).bind fun x62 =>
 (ref04_M_swap k D (x62.1, x62.2.1, x62.2.2) r54.1 j39 r54.2).bind fun r63 =>
 (out38).bind fun p64 =>
 (ldA 3 p64 r63.2).bind fun l65 =>
 (decC [.i .i64, .i .i64, .l] l65).bind fun x66 =>
 (ref04_M_swap k D (x66.1, x66.2.1, x66.2.2) r54.1 j39 r63.2).bind fun r67 =>
 (l37).bind fun p68 =>
 (ldA 3 p68 r67.2).bind fun l69 =>
 (decC [.i .i64, .i .i64, .l] l69).bind fun x70 =>
 (ref04_M_At k D (x70.1, x70.2.1, x70.2.2) j39 j39 r67.2).bind fun r71 =>
 (ref03_Over k D 1 r71.1 r71.2).bind fun r72 =>
 (l37).bind fun p73 =>
 (ldA 3 p73 r72.2).bind fun l74 =>
 (decC [.i .i64, .i .i64, .l] l74).bind fun x75 =>
 (ref04_M_scale k D (x75.1, x75.2.1, x75.2.2) j39 r72.1 r72.2).bind fun r76 =>
 (out38).bind fun p77 =>
 (ldA 3 p77 r76.2).bind fun l78 =>
 (decC [.i .i64, .i .i64, .l] l78).bind fun x79 =>
 (ref04_M_scale k D (x79.1, x79.2.1, x79.2.2) j39 r72.1 r76.2).bind fun r80 =>
 ref04_Inverse_l1 k D j50 a35 y36 l37 out38 j39 0 r80.2)
 else
 j26 y36 out38 h40)
noncomputable def ref04_Inverse_l0 (k : Nat) (D : CallF) (j26 : (Option Addr) → (Option Addr) → AHeap → Option (((Int × Int × Slc) × Int) × AHeap)) : (Option Addr) → (Option Addr) → (Option Addr) → (Option Addr) → Int → AHeap → Option (((Int × Int × Slc) × Int) × AHeap) :=
 iterK (α := (Option Addr) → (Option Addr) → (Option Addr) → (Option Addr) → Int → AHeap → Option (((Int × Int × Slc) × Int) × AHeap)) (fun _ _ _ _ _ _ => none) k (ref04_Inverse_l0b k D j26)
noncomputable def ref04_Inverse (k : Nat) (D : CallF) (a_0 : Int × Int × Slc) (h : AHeap) : Option (((Int × Int × Slc) × Int) × AHeap) :=
 let h1 := AHeap.new h (.cells [.int .i64 a_0.1, .int .i64 a_0.2.1, .slice a_0.2.2.a a_0.2.2.len a_0.2.2.cap] 57 true 0)
 let h2 := AHeap.new h1 (.cells [.int .i64 0, .int .i64 0, .slice none 0 0] 57 true 0)
 (ldA 3 (⟨h.next, 0, none⟩ : Addr) h2).bind fun l3 =>
 (decC [.i .i64, .i .i64, .l] l3).bind fun x4 =>
 (ref04_Check k D (x4.1, x4.2.1, x4.2.2) h2).bind fun r5 =>
 (if (r5.1 != 0) = true then
 (stL 3 (⟨h1.next, 0, none⟩ : Addr) ([.int .i64 0, .int .i64 0, .slice none 0 0]) r5.2).bind fun h6 =>
 (ldA 3 (⟨h1.next, 0, none⟩ : Addr) h6).bind fun l7 =>
 (decC [.i .i64, .i .i64, .l] l7).bind fun x8 =>
 some (((x8.1, x8.2.1, x8.2.2), r5.1), h6)
 else
 (ldI .i64 (⟨h.next, 0, none⟩ : Addr) r5.2).bind fun x9 =>
 (ldI .i64 (⟨h.next, 1, none⟩ : Addr) r5.2).bind fun x10 =>
 (if (x9 != x10) = true then
 (stL 3 (⟨h1.next, 0, none⟩ : Addr) ([.int .i64 0, .int .i64 0, .slice none 0 0]) r5.2).bind fun h11 =>
 (ldA 3 (⟨h1.next, 0, none⟩ : Addr) h11).bind fun l12 =>
 (decC [.i .i64, .i .i64, .l] l12).bind fun x13 =>
 some (((x13.1, x13.2.1, x13.2.2), 4), h11)
 else
 (ldA 3 (⟨h.next, 0, none⟩ : Addr) r5.2).bind fun l14 =>
 (decC [.i .i64, .i .i64, .l] l14).bind fun x15 =>
 (ref04_copied k D (x15.1, x15.2.1, x15.2.2) r5.2).bind fun r16 =>
 let h17 := AHeap.new r16.2 (.cells [.int .i64 0, .int .i64 0, .slice none 0 0] 57 true 0)
 (stL 3 (⟨r16.2.next, 0, none⟩ : Addr) ([.int .i64 r16.1.1, .int .i64 r16.1.2.1, .slice r16.1.2.2.a r16.1.2.2.len r16.1.2.2.cap]) h17).bind fun h18 =>
 (ldI .i64 (⟨h.next, 0, none⟩ : Addr) h18).bind fun x19 =>
 (ref04_One k D x19 h18).bind fun r20 =>
 let h21 := AHeap.new r20.2 (.cells [.int .i64 0, .int .i64 0, .slice none 0 0] 57 true 0)
 (stL 3 (⟨r20.2.next, 0, none⟩ : Addr) ([.int .i64 r20.1.1.1, .int .i64 r20.1.1.2.1, .slice r20.1.1.2.2.a r20.1.1.2.2.len r20.1.1.2.2.cap]) h21).bind fun h22 =>
 joinK (fun (y23 : Option Addr) (out24 : Option Addr) (h25 : AHeap) =>
 (out24).bind fun p27 =>
 (ldA 3 p27 h25).bind fun l28 =>
 (decC [.i .i64, .i .i64, .l] l28).bind fun x29 =>
 (y23).bind fun p30 =>
 (stL 3 p30 ([.int .i64 x29.1, .int .i64 x29.2.1, .slice x29.2.2.a x29.2.2.len x29.2.2.cap]) h25).bind fun h31 =>
 (y23).bind fun p32 =>
 (ldA 3 p32 h31).bind fun l33 =>
 (decC [.i .i64, .i .i64, .l] l33).bind fun x34 =>
 some (((x34.1, x34.2.1, x34.2.2), 0), h31)) fun j26 =>
 ref04_Inverse_l0 k D j26 (some (⟨h.next, 0, none⟩ : Addr)) (some (⟨h1.next, 0, none⟩ : Addr)) (some (⟨r16.2.next, 0, none⟩ : Addr)) (some (⟨r20.2.next, 0, none⟩ : Addr)) 0 h22))
noncomputable def r_ref04_Inverse : RCode := an (.s .n (.s (.s (.r [(0, .st [.i .i64, .i .i64, .l])]) .n) (.s .n (.s (.r [(0, .st [.i .i64, .i .i64, .l])]) (.s .n (.s (.j [(2, .p), (6, .p)] (.s .n (.b (.l [(1, .p), (2, .p), (5, .p), (6, .p), (8, .i .i64)] (.s .n (.s (.j [(1, .p), (2, .p), (5, .p), (6, .p), (8, .i .i64)] (.b (.s (.r [(0, .st [.i .i64, .i .i64, .l])]) (.s .n (.s (.r [(0, .st [.i .i64, .i .i64, .l])]) (.s (.r [(0, .st [.i .i64, .i .i64, .l])]) (.s (.r [(0, .st [.i .i64, .i .i64, .l])]) (.s (.r [(0, .st [.i .i64, .i .i64, .l])]) (.s (.r [(0, .st [.i .i64, .i .i64, .l])]) (.s .n (.b (.l [(1, .p), (2, .p), (5, .p), (6, .p), (8, .i .i64), (11, .i .i64)] (.s .n (.s (.j [(1, .p), (2, .p), (5, .p), (6, .p), (8, .i .i64), (11, .i .i64)] (.b (.s (.j [(1, .p), (2, .p), (5, .p), (6, .p), (8, .i .i64), (11, .i .i64), (82, .b)] (.r [(4, .st [.i .i64, .i .i64, .l])])) (.s (.s (.r [(0, .st [.i .i64, .i .i64, .l])]) (.s (.r [(0, .st [.i .i64, .i .i64, .l])]) (.r [(0, .st [.i .i64, .i .i64, .l])]))) .n)))) .n)))))))))))))) .n)))))) (.s (.r [(0, .st [.i .i64, .i .i64, .l])]) .n))))))) (rOf Tryz.prog 0 Tryz.f23)
noncomputable def e_ref04_Inverse (k : Nat) (D : CallF) : Ent := entOf 23 [(0, .st [.i .i64, .i .i64, .l])] [(2, .st [.i .i64, .i .i64, .l]), (3, .i .i64)] (ref04_Inverse k D)
theorem q_ref04_Inverse : (Tryz.f23.body).bind (rcodeOf Tryz.prog 0 Tryz.f23.ntmps) = some (strip r_ref04_Inverse) := by kernel_rfl
theorem t_ref04_Inverse (k : Nat) (D : CallF) : curF [(0, .st [.i .i64, .i .i64, .l])] (fun args h => denF (C_ref04_Inverse k D) k r_ref04_Inverse [(2, .st [.i .i64, .i .i64, .l]), (3, .i .i64)] [some (.agg 3), none] args h) = ref04_Inverse k D := by kernel_rfl
theorem ok_ref04_Inverse {D : CallF} (hD : CSound Tryz.prog 0 D) (k : Nat) : EntOk Tryz.prog 0 (e_ref04_Inverse k D) :=
 entOf_ok2 (mkC_sound hD (EntsOk.more (ok_ref04_Check hD k) (EntsOk.more (ok_ref04_copied hD k) (EntsOk.more (ok_ref04_One hD k) (EntsOk.more (ok_ref04_M_lead hD k) (EntsOk.more (ok_ref04_M_swap hD k) (EntsOk.more (ok_ref04_M_At hD k) (EntsOk.more (ok_ref03_Over hD k) (EntsOk.more (ok_ref04_M_scale hD k) (EntsOk.more (ok_ref04_M_add hD k) (EntsOk.none))))))))))) Tryz.func23 rfl q_ref04_Inverse rfl (t_ref04_Inverse k D)
end Gq
namespace Gq
open Go Gx Go.Proofs
set_option maxRecDepth 100000
noncomputable def C_ref03_is (_k : Nat) (D : CallF) : CallF := mkC D []
noncomputable def ref03_is (_k : Nat) (_D : CallF) (a_0 : Int) (h : AHeap) : Option ((Bool) × AHeap) :=
 (if (decide (a_0 ≥ 0)) = true then
 some ((decide (a_0 < 256)), h)
 else
 some (false, h))
noncomputable def r_ref03_is : RCode := an (.n) (rOf Tryz.prog 0 Tryz.f50)
noncomputable def e_ref03_is (k : Nat) (D : CallF) : Ent := entOf 50 [(0, .i .i64)] [(2, .b)] (ref03_is k D)
theorem q_ref03_is : (Tryz.f50.body).bind (rcodeOf Tryz.prog 0 Tryz.f50.ntmps) = some (strip r_ref03_is) := by kernel_rfl
theorem t_ref03_is (k : Nat) (D : CallF) : curF [(0, .i .i64)] (fun args h => denF (C_ref03_is k D) k r_ref03_is [(2, .b)] [none] args h) = ref03_is k D := by kernel_rfl
theorem ok_ref03_is {D : CallF} (hD : CSound Tryz.prog 0 D) (k : Nat) : EntOk Tryz.prog 0 (e_ref03_is k D) :=
 entOf_ok2 (mkC_sound hD (EntsOk.none)) Tryz.func50 rfl q_ref03_is rfl (t_ref03_is k D)
end Gq
namespace Gq
open Go Gx Go.Proofs
set_option maxRecDepth 100000
noncomputable def C_ref03_By (k : Nat) (D : CallF) : CallF := mkC D [e_ref03_Times k D]
noncomputable def ref03_By_l0b (k : Nat) (D : CallF) (j4 : Slc → AHeap → Option ((ByteArray) × AHeap)) (rec11 : ByteArray → Int → Slc → Int → AHeap → Option ((ByteArray) × AHeap)) (s6 : ByteArray) (c7 : Int) (out8 : Slc) (i9 : Int) (h10 : AHeap) : Option ((ByteArray) × AHeap) :=
 (if (decide (i9 < (s6.size : Int))) = true then
 (Gx.idxS s6 i9).bind fun b12 =>
 (ref03_Times k D (IntKind.wrap .i64 b12) c7 h10).bind fun r13 =>
 (Gx.idxL 1 out8 i9).bind fun q14 =>
 (st1 q14 (.int .u8 (IntKind.wrap .u8 r13.1)) r13.2).bind fun h15 =>
 rec11 s6 c7 out8 (IntKind.wrap .i64 (i9 + 1)) h15
 else
 j4 out8 h10)
noncomputable def ref03_By_l0 (k : Nat) (D : CallF) (j4 : Slc → AHeap → Option ((ByteArray) × AHeap)) : ByteArray → Int → Slc → Int → AHeap → Option ((ByteArray) × AHeap) :=
 iterK (α := ByteArray → Int → Slc → Int → AHeap → Option ((ByteArray) × AHeap)) (fun _ _ _ _ _ => none) k (ref03_By_l0b k D j4)
noncomputable def ref03_By (k : Nat) (D : CallF) (s_0 : ByteArray) (c_1 : Int) (h : AHeap) : Option ((ByteArray) × AHeap) :=
 (if 0 ≤ (s_0.size : Int) ∧ (s_0.size : Int) ≤ (s_0.size : Int) ∧ (s_0.size : Int) ≤ 281474976710656 ∧ 1 * (s_0.size : Int) ≤ 281474976710656 then
 let h1 := AHeap.new h (.cells (zerosL ((s_0.size : Int)).toNat [.int .u8 0]) 5 true 0)
 joinK (fun (out2 : Slc) (h3 : AHeap) =>
 (bytesOf h3 out2).bind fun s5 =>
 some (s5, h3)) fun j4 =>
 ref03_By_l0 k D j4 s_0 c_1 (⟨(some ⟨h.next, 0, some 0⟩), ((s_0.size : Int)).toNat, ((s_0.size : Int)).toNat⟩ : Slc) 0 h1
 else none)
noncomputable def r_ref03_By : RCode := an (.s .n (.s .n (.s (.j [(5, .l)] (.s .n (.b (.l [(0, .s), (1, .i .i64), (5, .l), (6, .i .i64)] .n)))) .n))) (rOf Tryz.prog 0 Tryz.f52)
noncomputable def e_ref03_By (k : Nat) (D : CallF) : Ent := entOf 52 [(0, .s), (1, .i .i64)] [(4, .s)] (ref03_By k D)
theorem q_ref03_By : (Tryz.f52.body).bind (rcodeOf Tryz.prog 0 Tryz.f52.ntmps) = some (strip r_ref03_By) := by kernel_rfl
theorem t_ref03_By (k : Nat) (D : CallF) : curF [(0, .s), (1, .i .i64)] (fun args h => denF (C_ref03_By k D) k r_ref03_By [(4, .s)] [none] args h) = ref03_By k D := by kernel_rfl
theorem ok_ref03_By {D : CallF} (hD : CSound Tryz.prog 0 D) (k : Nat) : EntOk Tryz.prog 0 (e_ref03_By k D) :=
 entOf_ok2 (mkC_sound hD (EntsOk.more (ok_ref03_Times hD k) (EntsOk.none))) Tryz.func52 rfl q_ref03_By rfl (t_ref03_By k D)
end Gq
namespace Gq
open Go Gx Go.Proofs
set_option maxRecDepth 100000
noncomputable def C_ref03_Add (_k : Nat) (D : CallF) : CallF := mkC D []
noncomputable def ref03_Add_l0b (_k : Nat) (_D : CallF) (j4 : Slc → AHeap → Option ((ByteArray × Int) × AHeap)) (rec11 : ByteArray → ByteArray → Slc → Int → AHeap → Option ((ByteArray × Int) × AHeap)) (a6 : ByteArray) (b7 : ByteArray) (out8 : Slc) (i9 : Int) (h10 : AHeap) : Option ((ByteArray × Int) × AHeap) :=
 (if (decide (i9 < (a6.size : Int))) = true then
 (Gx.idxS a6 i9).bind fun b12 =>
 (Gx.idxS b7 i9).bind fun b13 =>
 (Gx.idxL 1 out8 i9).bind fun q14 =>
 (st1 q14 (.int .u8 (Go.bits .xor .u8 b12 b13)) h10).bind fun h15 =>
 rec11 a6 b7 out8 (IntKind.wrap .i64 (i9 + 1)) h15
 else
 j4 out8 h10)
noncomputable def ref03_Add_l0 (k : Nat) (D : CallF) (j4 : Slc → AHeap → Option ((ByteArray × Int) × AHeap)) : ByteArray → ByteArray → Slc → Int → AHeap → Option ((ByteArray × Int) × AHeap) :=
 iterK (α := ByteArray → ByteArray → Slc → Int → AHeap → Option ((ByteArray × Int) × AHeap)) (fun _ _ _ _ _ => none) k (ref03_Add_l0b k D j4)
noncomputable def ref03_Add (k : Nat) (D : CallF) (a_0 : ByteArray) (b_1 : ByteArray) (h : AHeap) : Option ((ByteArray × Int) × AHeap) :=
 (if ((a_0.size : Int) != (b_1.size : Int)) = true then
 some (((⟨#[]⟩ : ByteArray), 4), h)
 else
 (if 0 ≤ (a_0.size : Int) ∧ (a_0.size : Int) ≤ (a_0.size : Int) ∧ (a_0.size : Int) ≤ 281474976710656 ∧ 1 * (a_0.size : Int) ≤ 281474976710656 then
 let h1 := AHeap.new h (.cells (zerosL ((a_0.size : Int)).toNat [.int .u8 0]) 5 true 0)
 joinK (fun (out2 : Slc) (h3 : AHeap) =>
 (bytesOf h3 out2).bind fun s5 =>
 some ((s5, 0), h3)) fun j4 =>
 ref03_Add_l0 k D j4 a_0 b_1 (⟨(some ⟨h.next, 0, some 0⟩), ((a_0.size : Int)).toNat, ((a_0.size : Int)).toNat⟩ : Slc) 0 h1
 else none))
noncomputable def r_ref03_Add : RCode := an (.s .n (.s .n (.s .n (.s (.j [(6, .l)] (.s .n (.b (.l [(0, .s), (1, .s), (6, .l), (7, .i .i64)] .n)))) .n)))) (rOf Tryz.prog 0 Tryz.f51)
noncomputable def e_ref03_Add (k : Nat) (D : CallF) : Ent := entOf 51 [(0, .s), (1, .s)] [(4, .s), (5, .i .i64)] (ref03_Add k D)
theorem q_ref03_Add : (Tryz.f51.body).bind (rcodeOf Tryz.prog 0 Tryz.f51.ntmps) = some (strip r_ref03_Add) := by kernel_rfl
theorem t_ref03_Add (k : Nat) (D : CallF) : curF [(0, .s), (1, .s)] (fun args h => denF (C_ref03_Add k D) k r_ref03_Add [(4, .s), (5, .i .i64)] [none, none] args h) = ref03_Add k D := by kernel_rfl
theorem ok_ref03_Add {D : CallF} (hD : CSound Tryz.prog 0 D) (k : Nat) : EntOk Tryz.prog 0 (e_ref03_Add k D) :=
 entOf_ok2 (mkC_sound hD (EntsOk.none)) Tryz.func51 rfl q_ref03_Add rfl (t_ref03_Add k D)
end Gq
namespace Gq
open Go Gx Go.Proofs
set_option maxRecDepth 100000
noncomputable def C_ref03_Mix (k : Nat) (D : CallF) : CallF := mkC D [e_ref03_By k D, e_ref03_Add k D, e_ref03_is k D]
noncomputable def ref03_Mix_l2b (_k : Nat) (_D : CallF) (j4 : Slc → Slc → AHeap → Option ((ByteArray × Int) × AHeap)) (rec40 : Slc → Slc → Int → AHeap → Option ((ByteArray × Int) × AHeap)) (l36 : Slc) (c37 : Slc) (i38 : Int) (h39 : AHeap) : Option ((ByteArray × Int) × AHeap) :=
 (if (decide (i38 < (l36.len : Int))) = true then
 (Gx.idxL 1 l36 i38).bind fun q41 =>
 (ldS q41 h39).bind fun x42 =>
 (Gx.idxL 1 l36 0).bind fun q43 =>
 (ldS q43 h39).bind fun x44 =>
 (if ((x42.size : Int) != (x44.size : Int)) = true then
 some (((⟨#[]⟩ : ByteArray), 4), h39)
 else
 rec40 l36 c37 (IntKind.wrap .i64 (i38 + 1)) h39)
 else
 j4 l36 c37 h39)
noncomputable def ref03_Mix_l2 (k : Nat) (D : CallF) (j4 : Slc → Slc → AHeap → Option ((ByteArray × Int) × AHeap)) : Slc → Slc → Int → AHeap → Option ((ByteArray × Int) × AHeap) :=
 iterK (α := Slc → Slc → Int → AHeap → Option ((ByteArray × Int) × AHeap)) (fun _ _ _ _ => none) k (ref03_Mix_l2b k D j4)
noncomputable def ref03_Mix_l1b (k : Nat) (D : CallF) (j8 : Slc → Slc → AHeap → Option ((ByteArray × Int) × AHeap)) (rec32 : Slc → Slc → Int → AHeap → Option ((ByteArray × Int) × AHeap)) (l28 : Slc) (c29 : Slc) (i30 : Int) (h31 : AHeap) : Option ((ByteArray × Int) × AHeap) :=
 (if (decide (i30 < (c29.len : Int))) = true then
 (Gx.idxL 1 c29 i30).bind fun q33 =>
 (ldI .i64 q33 h31).bind fun x34 =>
 (ref03_is k D x34 h31).bind fun r35 =>
 (if (!r35.1) = true then
 some (((⟨#[]⟩ : ByteArray), 1), r35.2)
 else
 rec32 l28 c29 (IntKind.wrap .i64 (i30 + 1)) r35.2)
 else
 j8 l28 c29 h31)
noncomputable def ref03_Mix_l1 (k : Nat) (D : CallF) (j8 : Slc → Slc → AHeap → Option ((ByteArray × Int) × AHeap)) : Slc → Slc → Int → AHeap → Option ((ByteArray × Int) × AHeap) :=
 iterK (α := Slc → Slc → Int → AHeap → Option ((ByteArray × Int) × AHeap)) (fun _ _ _ _ => none) k (ref03_Mix_l1b k D j8)
noncomputable def ref03_Mix_l0b (k : Nat) (D : CallF) (j15 : ByteArray → AHeap → Option ((ByteArray × Int) × AHeap)) (rec21 : Slc → Slc → ByteArray → Int → AHeap → Option ((ByteArray × Int) × AHeap)) (l16 : Slc) (c17 : Slc) (out18 : ByteArray) (i19 : Int) (h20 : AHeap) : Option ((ByteArray × Int) × AHeap) :=
 (if (decide (i19 < (l16.len : Int))) = true then
 (Gx.idxL 1 l16 i19).bind fun q22 =>
 (ldS q22 h20).bind fun x23 =>
 (Gx.idxL 1 c17 i19).bind fun q24 =>
 (ldI .i64 q24 h20).bind fun x25 =>
 (ref03_By k D x23 x25 h20).bind fun r26 =>
 (ref03_Add k D out18 r26.1 r26.2).bind fun r27 =>
 rec21 l16 c17 r27.1.1 (IntKind.wrap .i64 (i19 + 1)) r27.2
 else
 j15 out18 h20)
noncomputable def ref03_Mix_l0 (k : Nat) (D : CallF) (j15 : ByteArray → AHeap → Option ((ByteArray × Int) × AHeap)) : Slc → Slc → ByteArray → Int → AHeap → Option ((ByteArray × Int) × AHeap) :=
 iterK (α := Slc → Slc → ByteArray → Int → AHeap → Option ((ByteArray × Int) × AHeap)) (fun _ _ _ _ _ => none) k (ref03_Mix_l0b k D j15)
noncomputable def ref03_Mix (k : Nat) (D : CallF) (l_0 : Slc) (c_1 : Slc) (h : AHeap) : Option ((ByteArray × Int) × AHeap) :=
 (if ((l_0.len : Int) != (c_1.len : Int)) = true then
 some (((⟨#[]⟩ : ByteArray), 4), h)
 else
 joinK (fun (l1 : Slc) (c2 : Slc) (h3 : AHeap) =>
 joinK (fun (l5 : Slc) (c6 : Slc) (h7 : AHeap) =>
 (if ((l5.len : Int) == 0) = true then
 some (((⟨#[]⟩ : ByteArray), 0), h7)
 else
 (Gx.idxL 1 l5 0).bind fun q9 =>
 (ldS q9 h7).bind fun x10 =>
 (if 0 ≤ (x10.size : Int) ∧ (x10.size : Int) ≤ (x10.size : Int) ∧ (x10.size : Int) ≤ 281474976710656 ∧ 1 * (x10.size : Int) ≤ 281474976710656 then
 let h11 := AHeap.new h7 (.cells (zerosL ((x10.size : Int)).toNat [.int .u8 0]) 5 true 0)
 (bytesOf h11 (⟨(some ⟨h7.next, 0, some 0⟩), ((x10.size : Int)).toNat, ((x10.size : Int)).toNat⟩ : Slc)).bind fun s12 =>
 joinK (fun (out13 : ByteArray) (h14 : AHeap) =>
 some ((out13, 0), h14)) fun j15 =>
 ref03_Mix_l0 k D j15 l5 c6 s12 0 h11
 else none))) fun j8 =>
 ref03_Mix_l1 k D j8 l1 c2 0 h3) fun j4 =>
 ref03_Mix_l2 k D j4 l_0 c_1 0 h)
noncomputable def r_ref03_Mix : RCode := an (.s .n (.s .n (.s (.j [(0, .l), (1, .l)] (.s .n (.b (.l [(0, .l), (1, .l), (6, .i .i64)] .n)))) (.s (.j [(0, .l), (1, .l)] (.s .n (.b (.l [(0, .l), (1, .l), (7, .i .i64)] .n)))) (.s .n (.s .n (.s (.j [(8, .s)] (.s .n (.b (.l [(0, .l), (1, .l), (8, .s), (9, .i .i64)] .n)))) .n))))))) (rOf Tryz.prog 0 Tryz.f24)
noncomputable def e_ref03_Mix (k : Nat) (D : CallF) : Ent := entOf 24 [(0, .l), (1, .l)] [(4, .s), (5, .i .i64)] (ref03_Mix k D)
theorem q_ref03_Mix : (Tryz.f24.body).bind (rcodeOf Tryz.prog 0 Tryz.f24.ntmps) = some (strip r_ref03_Mix) := by kernel_rfl
theorem t_ref03_Mix (k : Nat) (D : CallF) : curF [(0, .l), (1, .l)] (fun args h => denF (C_ref03_Mix k D) k r_ref03_Mix [(4, .s), (5, .i .i64)] [none, none] args h) = ref03_Mix k D := by kernel_rfl
theorem ok_ref03_Mix {D : CallF} (hD : CSound Tryz.prog 0 D) (k : Nat) : EntOk Tryz.prog 0 (e_ref03_Mix k D) :=
 entOf_ok2 (mkC_sound hD (EntsOk.more (ok_ref03_By hD k) (EntsOk.more (ok_ref03_Add hD k) (EntsOk.more (ok_ref03_is hD k) (EntsOk.none))))) Tryz.func24 rfl q_ref03_Mix rfl (t_ref03_Mix k D)
end Gq
namespace Gq
open Go Gx Go.Proofs
set_option maxRecDepth 100000
noncomputable def C_ref05_Plan_Join (k : Nat) (D : CallF) : CallF := mkC D [e_ref05_Plan_Each k D, e_ref05_Plan_unlike k D, e_ref04_Pick k D, e_ref04_Inverse k D, e_ref03_Mix k D]
noncomputable def ref05_Plan_Join_l2b (_k : Nat) (_D : CallF) (j6 : (Option Addr) → Slc → Int → AHeap → Option ((ByteArray × Int) × AHeap)) (rec73 : (Option Addr) → Slc → Int → Int → Int → AHeap → Option ((ByteArray × Int) × AHeap)) (p67 : Option Addr) (l68 : Slc) (long69 : Int) (n70 : Int) (i71 : Int) (h72 : AHeap) : Option ((ByteArray × Int) × AHeap) :=
 (if (decide (i71 < (l68.len : Int))) = true then
 joinK (fun (p74 : Option Addr) (l75 : Slc) (long76 : Int) (n77 : Int) (i78 : Int) (y79 : Bool) (h80 : AHeap) =>
 (if y79 = true then
 some (((⟨#[]⟩ : ByteArray), 1), h80)
 else
 (Gx.idxL 2 l75 i78).bind fun q82 =>
 (ldS (⟨q82.block, q82.off + 1, none⟩ : Addr) h80).bind fun x83 =>
 (if ((x83.size : Int) != n77) = true then
 some (((⟨#[]⟩ : ByteArray), 4), h80)
 else
 rec73 p74 l75 long76 n77 (IntKind.wrap .i64 (i78 + 1)) h80))) fun j81 =>
 (Gx.idxL 2 l68 i71).bind fun q84 =>
 (ldI .i64 (⟨q84.block, q84.off + 0, none⟩ : Addr) h72).bind fun x85 =>
 (if (decide (x85 < 0)) = true then
 j81 p67 l68 long69 n70 i71 true h72
 else
 (Gx.idxL 2 l68 i71).bind fun q86 =>
 (ldI .i64 (⟨q86.block, q86.off + 0, none⟩ : Addr) h72).bind fun x87 =>
 (p67).bind fun p88 =>
 (ldI .i64 (⟨p88.block, p88.off + 0, none⟩ : Addr) h72).bind fun x89 =>
 (p67).bind fun p90 =>
 (ldI .i64 (⟨p90.block, p90.off + 1, none⟩ : Addr) h72).bind fun x91 =>
 j81 p67 l68 long69 n70 i71 (decide (x87 ≥ (IntKind.wrap .i64 (x89 + x91)))) h72)
 else
 j6 p67 l68 long69 h72)
noncomputable def ref05_Plan_Join_l2 (k : Nat) (D : CallF) (j6 : (Option Addr) → Slc → Int → AHeap → Option ((ByteArray × Int) × AHeap)) : (Option Addr) → Slc → Int → Int → Int → AHeap → Option ((ByteArray × Int) × AHeap) :=
 iterK (α := (Option Addr) → Slc → Int → Int → Int → AHeap → Option ((ByteArray × Int) × AHeap)) (fun _ _ _ _ _ _ => none) k (ref05_Plan_Join_l2b k D j6)
noncomputable def ref05_Plan_Join_l1b (_k : Nat) (_D : CallF) (j15 : (Option Addr) → Int → Slc → Slc → AHeap → Option ((ByteArray × Int) × AHeap)) (rec56 : (Option Addr) → Slc → Int → Slc → Slc → Int → AHeap → Option ((ByteArray × Int) × AHeap)) (p49 : Option Addr) (l50 : Slc) (long51 : Int) (rows52 : Slc) (data53 : Slc) (i54 : Int) (h55 : AHeap) : Option ((ByteArray × Int) × AHeap) :=
 (if (decide (i54 < (l50.len : Int))) = true then
 (Gx.idxL 2 l50 i54).bind fun q57 =>
 (ldI .i64 (⟨q57.block, q57.off + 0, none⟩ : Addr) h55).bind fun x58 =>
 let h59 := AHeap.new h55 (.cells [.int .i64 x58] 3 true 0)
 (rdS 1 (⟨(some ⟨h55.next, 0, some 0⟩), 1, 1⟩ : Slc) h59).bind fun n61 =>
 (appendA 1 8 3 h59 rows52 n61 1).bind fun r60 =>
 (Gx.idxL 2 l50 i54).bind fun q62 =>
 (ldS (⟨q62.block, q62.off + 1, none⟩ : Addr) r60.2).bind fun x63 =>
 let h64 := AHeap.new r60.2 (.cells [.string x63] 9 true 0)
 (rdS 1 (⟨(some ⟨r60.2.next, 0, some 0⟩), 1, 1⟩ : Slc) h64).bind fun n66 =>
 (appendA 1 16 9 h64 data53 n66 1).bind fun r65 =>
 rec56 p49 l50 long51 r60.1 r65.1 (IntKind.wrap .i64 (i54 + 1)) r65.2
 else
 j15 p49 long51 rows52 data53 h55)
noncomputable def ref05_Plan_Join_l1 (k : Nat) (D : CallF) (j15 : (Option Addr) → Int → Slc → Slc → AHeap → Option ((ByteArray × Int) × AHeap)) : (Option Addr) → Slc → Int → Slc → Slc → Int → AHeap → Option ((ByteArray × Int) × AHeap) :=
 iterK (α := (Option Addr) → Slc → Int → Slc → Slc → Int → AHeap → Option ((ByteArray × Int) × AHeap)) (fun _ _ _ _ _ _ _ => none) k (ref05_Plan_Join_l1b k D j15)
noncomputable def ref05_Plan_Join_l0b (k : Nat) (D : CallF) (j29 : Int → ByteArray → AHeap → Option ((ByteArray × Int) × AHeap)) (rec38 : (Option Addr) → Int → Slc → (Option Addr) → ByteArray → Int → AHeap → Option ((ByteArray × Int) × AHeap)) (p31 : Option Addr) (long32 : Int) (data33 : Slc) (a34 : Option Addr) (s35 : ByteArray) (i36 : Int) (h37 : AHeap) : Option ((ByteArray × Int) × AHeap) :=
 (p31).bind fun p39 =>
 (ldI .i64 (⟨p39.block, p39.off + 0, none⟩ : Addr) h37).bind fun x40 =>
 (if (decide (i36 < x40)) = true then
 (a34).bind fun p41 =>
 (ldL (⟨p41.block, p41.off + 2, none⟩ : Addr) h37).bind fun x42 =>
 (p31).bind fun p43 =>
 (ldI .i64 (⟨p43.block, p43.off + 0, none⟩ : Addr) h37).bind fun x44 =>
 (p31).bind fun p45 =>
 (ldI .i64 (⟨p45.block, p45.off + 0, none⟩ : Addr) h37).bind fun x46 =>
 (Gx.subL 1 x42 (some (IntKind.wrap .i64 (i36 * x44))) (some (IntKind.wrap .i64 ((IntKind.wrap .i64 (i36 + 1)) * x46))) none).bind fun l47 =>
 (ref03_Mix k D data33 l47 h37).bind fun r48 =>
 (if s35.size + r48.1.1.size ≤ 9223372036854775807 then
 rec38 p31 long32 data33 a34 (s35 ++ r48.1.1) (IntKind.wrap .i64 (i36 + 1)) r48.2
 else none)
 else
 j29 long32 s35 h37)
noncomputable def ref05_Plan_Join_l0 (k : Nat) (D : CallF) (j29 : Int → ByteArray → AHeap → Option ((ByteArray × Int) × AHeap)) : (Option Addr) → Int → Slc → (Option Addr) → ByteArray → Int → AHeap → Option ((ByteArray × Int) × AHeap) :=
 iterK (α := (Option Addr) → Int → Slc → (Option Addr) → ByteArray → Int → AHeap → Option ((ByteArray × Int) × AHeap)) (fun _ _ _ _ _ _ _ => none) k (ref05_Plan_Join_l0b k D j29)
noncomputable def ref05_Plan_Join (k : Nat) (D : CallF) (p_0 : Option Addr) (l_1 : Slc) (long_2 : Int) (h : AHeap) : Option ((ByteArray × Int) × AHeap) :=
 (ref05_Plan_Each k D p_0 long_2 h).bind fun r1 =>
 (if (r1.1.2 != 0) = true then
 some (((⟨#[]⟩ : ByteArray), r1.1.2), r1.2)
 else
 joinK (fun (p2 : Option Addr) (l3 : Slc) (long4 : Int) (h5 : AHeap) =>
 (ref05_Plan_unlike k D p2 l3 h5).bind fun r7 =>
 (p2).bind fun p8 =>
 (ldI .i64 (⟨p8.block, p8.off + 0, none⟩ : Addr) r7.2).bind fun x9 =>
 (if (decide ((r7.1.len : Int) < x9)) = true then
 some (((⟨#[]⟩ : ByteArray), 50), r7.2)
 else
 joinK (fun (p10 : Option Addr) (long11 : Int) (rows12 : Slc) (data13 : Slc) (h14 : AHeap) =>
 (p10).bind fun p16 =>
 (ldA 3 (⟨p16.block, p16.off + 2, none⟩ : Addr) h14).bind fun l17 =>
 (decC [.i .i64, .i .i64, .l] l17).bind fun x18 =>
 (ref04_Pick k D (x18.1, x18.2.1, x18.2.2) rows12 h14).bind fun r19 =>
 let h20 := AHeap.new r19.2 (.cells [.int .i64 0, .int .i64 0, .slice none 0 0] 57 true 0)
 (stL 3 (⟨r19.2.next, 0, none⟩ : Addr) ([.int .i64 r19.1.1.1, .int .i64 r19.1.1.2.1, .slice r19.1.1.2.2.a r19.1.1.2.2.len r19.1.1.2.2.cap]) h20).bind fun h21 =>
 (ldA 3 (⟨r19.2.next, 0, none⟩ : Addr) h21).bind fun l22 =>
 (decC [.i .i64, .i .i64, .l] l22).bind fun x23 =>
 (ref04_Inverse k D (x23.1, x23.2.1, x23.2.2) h21).bind fun r24 =>
 (stL 3 (⟨r19.2.next, 0, none⟩ : Addr) ([.int .i64 r24.1.1.1, .int .i64 r24.1.1.2.1, .slice r24.1.1.2.2.a r24.1.1.2.2.len r24.1.1.2.2.cap]) r24.2).bind fun h25 =>
 joinK (fun (long26 : Int) (s27 : ByteArray) (h28 : AHeap) =>
 (Gx.subS s27 none (some long26)).bind fun s30 =>
 some ((s30, 0), h28)) fun j29 =>
 ref05_Plan_Join_l0 k D j29 p10 long11 data13 (some (⟨r19.2.next, 0, none⟩ : Addr)) (⟨#[]⟩ : ByteArray) 0 h25) fun j15 =>
 ref05_Plan_Join_l1 k D j15 p2 r7.1 long4 (⟨none, 0, 0⟩ : Slc) (⟨none, 0, 0⟩ : Slc) 0 r7.2)) fun j6 =>
 ref05_Plan_Join_l2 k D j6 p_0 l_1 long_2 r1.1.1 0 r1.2)
noncomputable def r_ref05_Plan_Join : RCode := an (.s .n (.s .n (.s .n (.s (.j [(0, .p), (1, .l), (2, .i .i64)] (.s .n (.b (.l [(0, .p), (1, .l), (2, .i .i64), (8, .i .i64), (10, .i .i64)] (.s .n (.s (.b (.s (.s (.j [(0, .p), (1, .l), (2, .i .i64), (8, .i .i64), (10, .i .i64), (57, .b)] .n) .n) .n)) .n)))))) (.s .n (.s .n (.s .n (.s .n (.s (.j [(0, .p), (2, .i .i64), (11, .l), (12, .l)] (.s .n (.b (.l [(0, .p), (1, .l), (2, .i .i64), (11, .l), (12, .l), (13, .i .i64)] .n)))) (.s (.r [(3, .st [.i .i64, .i .i64, .l])]) (.s (.r [(0, .st [.i .i64, .i .i64, .l])]) (.s .n (.s (.j [(2, .i .i64), (16, .s)] (.s .n (.b (.l [(0, .p), (2, .i .i64), (12, .l), (14, .p), (16, .s), (17, .i .i64)] .n)))) .n))))))))))))) (rOf Tryz.prog 0 Tryz.f9)
noncomputable def e_ref05_Plan_Join (k : Nat) (D : CallF) : Ent := entOf 9 [(0, .p), (1, .l), (2, .i .i64)] [(6, .s), (7, .i .i64)] (ref05_Plan_Join k D)
theorem q_ref05_Plan_Join : (Tryz.f9.body).bind (rcodeOf Tryz.prog 0 Tryz.f9.ntmps) = some (strip r_ref05_Plan_Join) := by kernel_rfl
theorem t_ref05_Plan_Join (k : Nat) (D : CallF) : curF [(0, .p), (1, .l), (2, .i .i64)] (fun args h => denF (C_ref05_Plan_Join k D) k r_ref05_Plan_Join [(6, .s), (7, .i .i64)] [none, none] args h) = ref05_Plan_Join k D := by kernel_rfl
theorem ok_ref05_Plan_Join {D : CallF} (hD : CSound Tryz.prog 0 D) (k : Nat) : EntOk Tryz.prog 0 (e_ref05_Plan_Join k D) :=
 entOf_ok2 (mkC_sound hD (EntsOk.more (ok_ref05_Plan_Each hD k) (EntsOk.more (ok_ref05_Plan_unlike hD k) (EntsOk.more (ok_ref04_Pick hD k) (EntsOk.more (ok_ref04_Inverse hD k) (EntsOk.more (ok_ref03_Mix hD k) (EntsOk.none))))))) Tryz.func9 rfl q_ref05_Plan_Join rfl (t_ref05_Plan_Join k D)
end Gq
namespace Gq
open Go Gx Go.Proofs
set_option maxRecDepth 100000
noncomputable def C_stripe_Plan_Shard (k : Nat) (D : CallF) : CallF := mkC D [e_stripe_Plan_unlike k D, e_stripe_Plan_known k D, e_stripe_Plan_pieces k D, e_strings_Join k D, e_stripe_Plan_Split k D]
noncomputable def stripe_Plan_Shard (k : Nat) (D : CallF) (p_0 : Option Addr) (parts_1 : Slc) (long_2 : Int) (index_3 : Int) (h : AHeap) : Option ((ByteArray × Int) × AHeap) :=
 (stripe_Plan_unlike k D p_0 parts_1 long_2 h).bind fun r1 =>
 (if (r1.1.2 != 0) = true then
 some (((⟨#[]⟩ : ByteArray), r1.1.2), r1.2)
 else
 (stripe_Plan_known k D p_0 index_3 r1.2).bind fun r2 =>
 (if (!r2.1) = true then
 some (((⟨#[]⟩ : ByteArray), 1), r2.2)
 else
 (p_0).bind fun p3 =>
 (ldI .i64 (⟨p3.block, p3.off + 0, none⟩ : Addr) r2.2).bind fun x4 =>
 (if (decide ((r1.1.1.len : Int) < x4)) = true then
 some (((⟨#[]⟩ : ByteArray), 50), r2.2)
 else
 (stripe_Plan_pieces k D p_0 r1.1.1 r2.2).bind fun r5 =>
 (joinA r5.1 (⟨#[]⟩ : ByteArray) r5.2).bind fun s6 =>
 (Gx.subS s6 none (some long_2)).bind fun s7 =>
 (stripe_Plan_Split k D p_0 s7 r5.2).bind fun r8 =>
 (if (r8.1.2 != 0) = true then
 some (((⟨#[]⟩ : ByteArray), r8.1.2), r8.2)
 else
 (Gx.idxL 1 r8.1.1 index_3).bind fun q9 =>
 (ldS q9 r8.2).bind fun x10 =>
 some ((x10, 0), r8.2)))))
noncomputable def r_stripe_Plan_Shard : RCode := an (.n) (rOf Tryz.prog 0 Tryz.f10)
noncomputable def e_stripe_Plan_Shard (k : Nat) (D : CallF) : Ent := entOf 10 [(0, .p), (1, .l), (2, .i .i64), (3, .i .i64)] [(8, .s), (9, .i .i64)] (stripe_Plan_Shard k D)
theorem q_stripe_Plan_Shard : (Tryz.f10.body).bind (rcodeOf Tryz.prog 0 Tryz.f10.ntmps) = some (strip r_stripe_Plan_Shard) := by kernel_rfl
theorem t_stripe_Plan_Shard (k : Nat) (D : CallF) : curF [(0, .p), (1, .l), (2, .i .i64), (3, .i .i64)] (fun args h => denF (C_stripe_Plan_Shard k D) k r_stripe_Plan_Shard [(8, .s), (9, .i .i64)] [none, none] args h) = stripe_Plan_Shard k D := by kernel_rfl
theorem ok_stripe_Plan_Shard {D : CallF} (hD : CSound Tryz.prog 0 D) (k : Nat) : EntOk Tryz.prog 0 (e_stripe_Plan_Shard k D) :=
 entOf_ok2 (mkC_sound hD (EntsOk.more (ok_stripe_Plan_unlike hD k) (EntsOk.more (ok_stripe_Plan_known hD k) (EntsOk.more (ok_stripe_Plan_pieces hD k) (EntsOk.more (ok_strings_Join hD k) (EntsOk.more (ok_stripe_Plan_Split hD k) (EntsOk.none))))))) Tryz.func10 rfl q_stripe_Plan_Shard rfl (t_stripe_Plan_Shard k D)
end Gq
namespace Gq
open Go Gx Go.Proofs
set_option maxRecDepth 100000
noncomputable def C_ref05_Plan_pieces (k : Nat) (D : CallF) : CallF := mkC D [e_ref05_Size k D]
noncomputable def ref05_Plan_pieces_l0b (_k : Nat) (_D : CallF) (j11 : Slc → AHeap → Option ((Slc) × AHeap)) (rec18 : (Option Addr) → ByteArray → Int → Slc → Int → AHeap → Option ((Slc) × AHeap)) (p12 : Option Addr) (s13 : ByteArray) (n14 : Int) (out15 : Slc) (i16 : Int) (h17 : AHeap) : Option ((Slc) × AHeap) :=
 (p12).bind fun p19 =>
 (ldI .i64 (⟨p19.block, p19.off + 0, none⟩ : Addr) h17).bind fun x20 =>
 (if (decide (i16 < x20)) = true then
 (Gx.subS s13 (some (IntKind.wrap .i64 (i16 * n14))) (some (IntKind.wrap .i64 ((IntKind.wrap .i64 (i16 + 1)) * n14)))).bind fun s21 =>
 let h22 := AHeap.new h17 (.cells [.string s21] 9 true 0)
 (rdS 1 (⟨(some ⟨h17.next, 0, some 0⟩), 1, 1⟩ : Slc) h22).bind fun n24 =>
 (appendA 1 16 9 h22 out15 n24 1).bind fun r23 =>
 rec18 p12 s13 n14 r23.1 (IntKind.wrap .i64 (i16 + 1)) r23.2
 else
 j11 out15 h17)
noncomputable def ref05_Plan_pieces_l0 (k : Nat) (D : CallF) (j11 : Slc → AHeap → Option ((Slc) × AHeap)) : (Option Addr) → ByteArray → Int → Slc → Int → AHeap → Option ((Slc) × AHeap) :=
 iterK (α := (Option Addr) → ByteArray → Int → Slc → Int → AHeap → Option ((Slc) × AHeap)) (fun _ _ _ _ _ _ => none) k (ref05_Plan_pieces_l0b k D j11)
noncomputable def ref05_Plan_pieces (k : Nat) (D : CallF) (p_0 : Option Addr) (s_1 : ByteArray) (h : AHeap) : Option ((Slc) × AHeap) :=
 (p_0).bind fun p1 =>
 (ldI .i64 (⟨p1.block, p1.off + 0, none⟩ : Addr) h).bind fun x2 =>
 (ref05_Size k D x2 (s_1.size : Int) h).bind fun r3 =>
 (p_0).bind fun p4 =>
 (ldI .i64 (⟨p4.block, p4.off + 0, none⟩ : Addr) r3.2).bind fun x5 =>
 let t6 : Int := (IntKind.wrap .i64 ((IntKind.wrap .i64 (x5 * r3.1)) - (s_1.size : Int)))
 (if 0 ≤ t6 ∧ t6 ≤ t6 ∧ t6 ≤ 281474976710656 ∧ 1 * t6 ≤ 281474976710656 then
 let h7 := AHeap.new r3.2 (.cells (zerosL (t6).toNat [.int .u8 0]) 5 true 0)
 (bytesOf h7 (⟨(some ⟨r3.2.next, 0, some 0⟩), (t6).toNat, (t6).toNat⟩ : Slc)).bind fun s8 =>
 (if s_1.size + s8.size ≤ 9223372036854775807 then
 joinK (fun (out9 : Slc) (h10 : AHeap) =>
 some (out9, h10)) fun j11 =>
 ref05_Plan_pieces_l0 k D j11 p_0 (s_1 ++ s8) r3.1 (⟨none, 0, 0⟩ : Slc) 0 h7
 else none)
 else none)
noncomputable def r_ref05_Plan_pieces : RCode := an (.s .n (.s .n (.s .n (.s .n (.s (.j [(6, .l)] (.s .n (.b (.l [(0, .p), (1, .s), (5, .i .i64), (6, .l), (7, .i .i64)] .n)))) .n))))) (rOf Tryz.prog 0 Tryz.f53)
noncomputable def e_ref05_Plan_pieces (k : Nat) (D : CallF) : Ent := entOf 53 [(0, .p), (1, .s)] [(4, .l)] (ref05_Plan_pieces k D)
theorem q_ref05_Plan_pieces : (Tryz.f53.body).bind (rcodeOf Tryz.prog 0 Tryz.f53.ntmps) = some (strip r_ref05_Plan_pieces) := by kernel_rfl
theorem t_ref05_Plan_pieces (k : Nat) (D : CallF) : curF [(0, .p), (1, .s)] (fun args h => denF (C_ref05_Plan_pieces k D) k r_ref05_Plan_pieces [(4, .l)] [none] args h) = ref05_Plan_pieces k D := by kernel_rfl
theorem ok_ref05_Plan_pieces {D : CallF} (hD : CSound Tryz.prog 0 D) (k : Nat) : EntOk Tryz.prog 0 (e_ref05_Plan_pieces k D) :=
 entOf_ok2 (mkC_sound hD (EntsOk.more (ok_ref05_Size hD k) (EntsOk.none))) Tryz.func53 rfl q_ref05_Plan_pieces rfl (t_ref05_Plan_pieces k D)
end Gq
namespace Gq
open Go Gx Go.Proofs
set_option maxRecDepth 100000
noncomputable def C_ref05_Plan_row (_k : Nat) (D : CallF) : CallF := mkC D []
noncomputable def ref05_Plan_row (_k : Nat) (_D : CallF) (p_0 : Option Addr) (i_1 : Int) (h : AHeap) : Option ((Slc) × AHeap) :=
 (p_0).bind fun p1 =>
 (ldL (⟨p1.block, p1.off + 2 + 2, none⟩ : Addr) h).bind fun x2 =>
 (p_0).bind fun p3 =>
 (ldI .i64 (⟨p3.block, p3.off + 0, none⟩ : Addr) h).bind fun x4 =>
 (p_0).bind fun p5 =>
 (ldI .i64 (⟨p5.block, p5.off + 0, none⟩ : Addr) h).bind fun x6 =>
 (Gx.subL 1 x2 (some (IntKind.wrap .i64 (i_1 * x4))) (some (IntKind.wrap .i64 ((IntKind.wrap .i64 (i_1 + 1)) * x6))) none).bind fun l7 =>
 some (l7, h)
noncomputable def r_ref05_Plan_row : RCode := an (.n) (rOf Tryz.prog 0 Tryz.f54)
noncomputable def e_ref05_Plan_row (k : Nat) (D : CallF) : Ent := entOf 54 [(0, .p), (1, .i .i64)] [(4, .l)] (ref05_Plan_row k D)
theorem q_ref05_Plan_row : (Tryz.f54.body).bind (rcodeOf Tryz.prog 0 Tryz.f54.ntmps) = some (strip r_ref05_Plan_row) := by kernel_rfl
theorem t_ref05_Plan_row (k : Nat) (D : CallF) : curF [(0, .p), (1, .i .i64)] (fun args h => denF (C_ref05_Plan_row k D) k r_ref05_Plan_row [(4, .l)] [none] args h) = ref05_Plan_row k D := by kernel_rfl
theorem ok_ref05_Plan_row {D : CallF} (hD : CSound Tryz.prog 0 D) (k : Nat) : EntOk Tryz.prog 0 (e_ref05_Plan_row k D) :=
 entOf_ok2 (mkC_sound hD (EntsOk.none)) Tryz.func54 rfl q_ref05_Plan_row rfl (t_ref05_Plan_row k D)
end Gq
namespace Gq
open Go Gx Go.Proofs
set_option maxRecDepth 100000
noncomputable def C_ref05_Plan_Shards (k : Nat) (D : CallF) : CallF := mkC D [e_ref05_Plan_pieces k D, e_ref05_Plan_row k D, e_ref03_Mix k D]
noncomputable def ref05_Plan_Shards_l0b (k : Nat) (D : CallF) (j7 : Slc → AHeap → Option ((Slc) × AHeap)) (rec15 : (Option Addr) → Slc → Slc → Int → AHeap → Option ((Slc) × AHeap)) (p10 : Option Addr) (l11 : Slc) (out12 : Slc) (i13 : Int) (h14 : AHeap) : Option ((Slc) × AHeap) :=
 (p10).bind fun p16 =>
 (ldI .i64 (⟨p16.block, p16.off + 0, none⟩ : Addr) h14).bind fun x17 =>
 (p10).bind fun p18 =>
 (ldI .i64 (⟨p18.block, p18.off + 1, none⟩ : Addr) h14).bind fun x19 =>
 (if (decide (i13 < (IntKind.wrap .i64 (x17 + x19)))) = true then
 (ref05_Plan_row k D p10 i13 h14).bind fun r20 =>
 (ref03_Mix k D l11 r20.1 r20.2).bind fun r21 =>
 let h22 := AHeap.new r21.2 (.cells [.string r21.1.1] 9 true 0)
 (rdS 1 (⟨(some ⟨r21.2.next, 0, some 0⟩), 1, 1⟩ : Slc) h22).bind fun n24 =>
 (appendA 1 16 9 h22 out12 n24 1).bind fun r23 =>
 rec15 p10 l11 r23.1 (IntKind.wrap .i64 (i13 + 1)) r23.2
 else
 j7 out12 h14)
noncomputable def ref05_Plan_Shards_l0 (k : Nat) (D : CallF) (j7 : Slc → AHeap → Option ((Slc) × AHeap)) : (Option Addr) → Slc → Slc → Int → AHeap → Option ((Slc) × AHeap) :=
 iterK (α := (Option Addr) → Slc → Slc → Int → AHeap → Option ((Slc) × AHeap)) (fun _ _ _ _ _ => none) k (ref05_Plan_Shards_l0b k D j7)
noncomputable def ref05_Plan_Shards (k : Nat) (D : CallF) (p_0 : Option Addr) (s_1 : ByteArray) (h : AHeap) : Option ((Slc) × AHeap) :=
 (ref05_Plan_pieces k D p_0 s_1 h).bind fun r1 =>
 let h2 := AHeap.new r1.2 (.cells [] 9 true 0)
 (rdS 1 r1.1 h2).bind fun n4 =>
 (appendA 1 16 9 h2 (⟨(some ⟨r1.2.next, 0, some 0⟩), 0, 0⟩ : Slc) n4 r1.1.len).bind fun r3 =>
 joinK (fun (out5 : Slc) (h6 : AHeap) =>
 some (out5, h6)) fun j7 =>
 (p_0).bind fun p8 =>
 (ldI .i64 (⟨p8.block, p8.off + 0, none⟩ : Addr) r3.2).bind fun x9 =>
 ref05_Plan_Shards_l0 k D j7 p_0 r1.1 r3.1 x9 r3.2
noncomputable def r_ref05_Plan_Shards : RCode := an (.s .n (.s .n (.s .n (.s (.j [(6, .l)] (.s .n (.b (.l [(0, .p), (5, .l), (6, .l), (7, .i .i64)] .n)))) .n)))) (rOf Tryz.prog 0 Tryz.f26)
noncomputable def e_ref05_Plan_Shards (k : Nat) (D : CallF) : Ent := entOf 26 [(0, .p), (1, .s)] [(4, .l)] (ref05_Plan_Shards k D)
theorem q_ref05_Plan_Shards : (Tryz.f26.body).bind (rcodeOf Tryz.prog 0 Tryz.f26.ntmps) = some (strip r_ref05_Plan_Shards) := by kernel_rfl
theorem t_ref05_Plan_Shards (k : Nat) (D : CallF) : curF [(0, .p), (1, .s)] (fun args h => denF (C_ref05_Plan_Shards k D) k r_ref05_Plan_Shards [(4, .l)] [none] args h) = ref05_Plan_Shards k D := by kernel_rfl
theorem ok_ref05_Plan_Shards {D : CallF} (hD : CSound Tryz.prog 0 D) (k : Nat) : EntOk Tryz.prog 0 (e_ref05_Plan_Shards k D) :=
 entOf_ok2 (mkC_sound hD (EntsOk.more (ok_ref05_Plan_pieces hD k) (EntsOk.more (ok_ref05_Plan_row hD k) (EntsOk.more (ok_ref03_Mix hD k) (EntsOk.none))))) Tryz.func26 rfl q_ref05_Plan_Shards rfl (t_ref05_Plan_Shards k D)
end Gq
namespace Gq
open Go Gx Go.Proofs
set_option maxRecDepth 100000
noncomputable def C_ref05_Plan_Shard (k : Nat) (D : CallF) : CallF := mkC D [e_ref05_Plan_Join k D, e_ref05_Plan_Shards k D]
noncomputable def ref05_Plan_Shard (k : Nat) (D : CallF) (p_0 : Option Addr) (l_1 : Slc) (long_2 : Int) (index_3 : Int) (h : AHeap) : Option ((ByteArray × Int) × AHeap) :=
 (ref05_Plan_Join k D p_0 l_1 long_2 h).bind fun r1 =>
 joinK (fun (p2 : Option Addr) (index3 : Int) (s4 : ByteArray) (e5 : Int) (y6 : Bool) (h7 : AHeap) =>
 (if y6 = true then
 some (((⟨#[]⟩ : ByteArray), e5), h7)
 else
 joinK (fun (p9 : Option Addr) (index10 : Int) (s11 : ByteArray) (e12 : Int) (y13 : Bool) (h14 : AHeap) =>
 (if y13 = true then
 some (((⟨#[]⟩ : ByteArray), 1), h14)
 else
 (if (e12 != 0) = true then
 some (((⟨#[]⟩ : ByteArray), e12), h14)
 else
 (ref05_Plan_Shards k D p9 s11 h14).bind fun r16 =>
 (Gx.idxL 1 r16.1 index10).bind fun q17 =>
 (ldS q17 r16.2).bind fun x18 =>
 some ((x18, 0), r16.2)))) fun j15 =>
 (if (decide (index3 < 0)) = true then
 j15 p2 index3 s4 e5 true h7
 else
 (p2).bind fun p19 =>
 (ldI .i64 (⟨p19.block, p19.off + 0, none⟩ : Addr) h7).bind fun x20 =>
 (p2).bind fun p21 =>
 (ldI .i64 (⟨p21.block, p21.off + 1, none⟩ : Addr) h7).bind fun x22 =>
 j15 p2 index3 s4 e5 (decide (index3 ≥ (IntKind.wrap .i64 (x20 + x22)))) h7))) fun j8 =>
 (if (r1.1.2 != 0) = true then
 j8 p_0 index_3 r1.1.1 r1.1.2 (r1.1.2 != 50) r1.2
 else
 j8 p_0 index_3 r1.1.1 r1.1.2 false r1.2)
noncomputable def r_ref05_Plan_Shard : RCode := an (.s .n (.s .n (.s (.s (.j [(0, .p), (3, .i .i64), (10, .s), (11, .i .i64), (24, .b)] .n) .n) (.s (.s (.j [(0, .p), (3, .i .i64), (10, .s), (11, .i .i64), (40, .b)] .n) .n) .n)))) (rOf Tryz.prog 0 Tryz.f11)
noncomputable def e_ref05_Plan_Shard (k : Nat) (D : CallF) : Ent := entOf 11 [(0, .p), (1, .l), (2, .i .i64), (3, .i .i64)] [(8, .s), (9, .i .i64)] (ref05_Plan_Shard k D)
theorem q_ref05_Plan_Shard : (Tryz.f11.body).bind (rcodeOf Tryz.prog 0 Tryz.f11.ntmps) = some (strip r_ref05_Plan_Shard) := by kernel_rfl
theorem t_ref05_Plan_Shard (k : Nat) (D : CallF) : curF [(0, .p), (1, .l), (2, .i .i64), (3, .i .i64)] (fun args h => denF (C_ref05_Plan_Shard k D) k r_ref05_Plan_Shard [(8, .s), (9, .i .i64)] [none, none] args h) = ref05_Plan_Shard k D := by kernel_rfl
theorem ok_ref05_Plan_Shard {D : CallF} (hD : CSound Tryz.prog 0 D) (k : Nat) : EntOk Tryz.prog 0 (e_ref05_Plan_Shard k D) :=
 entOf_ok2 (mkC_sound hD (EntsOk.more (ok_ref05_Plan_Join hD k) (EntsOk.more (ok_ref05_Plan_Shards hD k) (EntsOk.none)))) Tryz.func11 rfl q_ref05_Plan_Shard rfl (t_ref05_Plan_Shard k D)
end Gq
namespace Gq
open Go Gx Go.Proofs
set_option maxRecDepth 100000
noncomputable def C_law05_StripeJoins (k : Nat) (D : CallF) : CallF := mkC D [e_law05_works k D, e_stripe_New k D, e_ref05_New k D, e_stripe_Plan_Join k D, e_ref05_Plan_Join k D, e_stripe_Plan_Shard k D, e_ref05_Plan_Shard k D, e_law05_few k D]
noncomputable def law05_StripeJoins_l1b (_k : Nat) (_D : CallF) (j38 : Slc → (Option Addr) → (Option Addr) → (Option Addr) → Slc → Slc → AHeap → Option ((Bool) × AHeap)) (rec87 : Slc → (Option Addr) → (Option Addr) → (Option Addr) → Slc → Slc → Int → AHeap → Option ((Bool) × AHeap)) (l79 : Slc) (atv80 : Option Addr) (p81 : Option Addr) (r82 : Option Addr) (own83 : Slc) (kv84 : Slc) (i85 : Int) (h86 : AHeap) : Option ((Bool) × AHeap) :=
 (if (decide (i85 < (l79.len : Int))) = true then
 (Gx.idxL 2 l79 i85).bind fun q88 =>
 (ldA 2 q88 h86).bind fun l89 =>
 (decC [.i .i64, .s] l89).bind fun x90 =>
 let h91 := AHeap.new h86 (.cells [.int .i64 x90.1, .string x90.2] 35 true 0)
 (rdS 2 (⟨(some ⟨h86.next, 0, some 0⟩), 1, 1⟩ : Slc) h91).bind fun n93 =>
 (appendA 2 24 35 h91 own83 n93 1).bind fun r92 =>
 (Gx.idxL 2 l79 i85).bind fun q94 =>
 (ldI .i64 (⟨q94.block, q94.off + 0, none⟩ : Addr) r92.2).bind fun x95 =>
 (Gx.idxL 2 l79 i85).bind fun q96 =>
 (ldS (⟨q96.block, q96.off + 1, none⟩ : Addr) r92.2).bind fun x97 =>
 let h98 := AHeap.new r92.2 (.cells [.int .i64 x95, .string x97] 36 true 0)
 (rdS 2 (⟨(some ⟨r92.2.next, 0, some 0⟩), 1, 1⟩ : Slc) h98).bind fun n100 =>
 (appendA 2 24 36 h98 kv84 n100 1).bind fun r99 =>
 rec87 l79 atv80 p81 r82 r92.1 r99.1 (IntKind.wrap .i64 (i85 + 1)) r99.2
 else
 j38 l79 atv80 p81 r82 own83 kv84 h86)
noncomputable def law05_StripeJoins_l1 (k : Nat) (D : CallF) (j38 : Slc → (Option Addr) → (Option Addr) → (Option Addr) → Slc → Slc → AHeap → Option ((Bool) × AHeap)) : Slc → (Option Addr) → (Option Addr) → (Option Addr) → Slc → Slc → Int → AHeap → Option ((Bool) × AHeap) :=
 iterK (α := Slc → (Option Addr) → (Option Addr) → (Option Addr) → Slc → Slc → Int → AHeap → Option ((Bool) × AHeap)) (fun _ _ _ _ _ _ _ _ => none) k (law05_StripeJoins_l1b k D j38)
noncomputable def law05_StripeJoins_l0b (_k : Nat) (_D : CallF) (j67 : AHeap → Option ((Bool) × AHeap)) (rec72 : Slc → Slc → Int → AHeap → Option ((Bool) × AHeap)) (l68 : Slc) (own69 : Slc) (i70 : Int) (h71 : AHeap) : Option ((Bool) × AHeap) :=
 (if (decide (i70 < (l68.len : Int))) = true then
 (Gx.idxL 2 own69 i70).bind fun q73 =>
 (ldA 2 q73 h71).bind fun l74 =>
 (decC [.i .i64, .s] l74).bind fun x75 =>
 (Gx.idxL 2 l68 i70).bind fun q76 =>
 (ldA 2 q76 h71).bind fun l77 =>
 (decC [.i .i64, .s] l77).bind fun x78 =>
 (if (!((x75.1 == x78.1) && (x75.2 == x78.2))) = true then
 some (false, h71)
 else
 rec72 l68 own69 (IntKind.wrap .i64 (i70 + 1)) h71)
 else
 j67 h71)
noncomputable def law05_StripeJoins_l0 (k : Nat) (D : CallF) (j67 : AHeap → Option ((Bool) × AHeap)) : Slc → Slc → Int → AHeap → Option ((Bool) × AHeap) :=
 iterK (α := Slc → Slc → Int → AHeap → Option ((Bool) × AHeap)) (fun _ _ _ _ => none) k (law05_StripeJoins_l0b k D j67)
noncomputable def law05_StripeJoins (k : Nat) (D : CallF) (shape_0 : Int × Int) (l_1 : Slc) (at_2 : Int × Int) (h : AHeap) : Option ((Bool) × AHeap) :=
 let h1 := AHeap.new h (.cells [.int .i64 shape_0.1, .int .i64 shape_0.2] 22 true 0)
 let h2 := AHeap.new h1 (.cells [.int .i64 at_2.1, .int .i64 at_2.2] 22 true 0)
 joinK (fun (l3 : Slc) (shape4 : Option Addr) (atv5 : Option Addr) (y6 : Bool) (h7 : AHeap) =>
 (if y6 = true then
 (law05_works k D h7).bind fun r9 =>
 some (r9.1, r9.2)
 else
 (shape4).bind fun p11 =>
 (ldI .i64 (⟨p11.block, p11.off + 0, none⟩ : Addr) h7).bind fun x12 =>
 (shape4).bind fun p14 =>
 (ldI .i64 (⟨p14.block, p14.off + 1, none⟩ : Addr) h7).bind fun x15 =>
 (stripe_New k D x12 x15 h7).bind fun r16 =>
 (shape4).bind fun p18 =>
 (ldI .i64 (⟨p18.block, p18.off + 0, none⟩ : Addr) r16.2).bind fun x19 =>
 (shape4).bind fun p21 =>
 (ldI .i64 (⟨p21.block, p21.off + 1, none⟩ : Addr) r16.2).bind fun x22 =>
 (ref05_New k D x19 x22 r16.2).bind fun r23 =>
 joinK (fun (l24 : Slc) (atv25 : Option Addr) (p26 : Option Addr) (r27 : Option Addr) (y28 : Bool) (h29 : AHeap) =>
 (if y28 = true then
 some (false, h29)
 else
 (if r27.isNone = true then
 some (true, h29)
 else
 joinK (fun (l31 : Slc) (atv32 : Option Addr) (p33 : Option Addr) (r34 : Option Addr) (own35 : Slc) (kv36 : Slc) (h37 : AHeap) =>
 (atv32).bind fun p40 =>
 (ldI .i64 (⟨p40.block, p40.off + 0, none⟩ : Addr) h37).bind fun x41 =>
 (stripe_Plan_Join k D p33 own35 x41 h37).bind fun r42 =>
 (atv32).bind fun p44 =>
 (ldI .i64 (⟨p44.block, p44.off + 0, none⟩ : Addr) r42.2).bind fun x45 =>
 (ref05_Plan_Join k D r34 kv36 x45 r42.2).bind fun r46 =>
 (atv32).bind fun p48 =>
 (ldI .i64 (⟨p48.block, p48.off + 0, none⟩ : Addr) r46.2).bind fun x49 =>
 (atv32).bind fun p51 =>
 (ldI .i64 (⟨p51.block, p51.off + 1, none⟩ : Addr) r46.2).bind fun x52 =>
 (stripe_Plan_Shard k D p33 own35 x49 x52 r46.2).bind fun r53 =>
 (atv32).bind fun p55 =>
 (ldI .i64 (⟨p55.block, p55.off + 0, none⟩ : Addr) r53.2).bind fun x56 =>
 (atv32).bind fun p58 =>
 (ldI .i64 (⟨p58.block, p58.off + 1, none⟩ : Addr) r53.2).bind fun x59 =>
 (ref05_Plan_Shard k D r34 kv36 x56 x59 r53.2).bind fun r60 =>
 joinK (fun (l61 : Slc) (own62 : Slc) (y63 : Bool) (h64 : AHeap) =>
 (if y63 = true then
 some (false, h64)
 else
 joinK (fun (h66 : AHeap) =>
 some (true, h66)) fun j67 =>
 law05_StripeJoins_l0 k D j67 l61 own62 0 h64)) fun j65 =>
 (if (!(r42.1.1 == r46.1.1)) = true then
 j65 l31 own35 true r60.2
 else
 (if (r42.1.2 != r46.1.2) = true then
 j65 l31 own35 true r60.2
 else
 (if (!(r53.1.1 == r60.1.1)) = true then
 j65 l31 own35 true r60.2
 else
 j65 l31 own35 (r53.1.2 != r60.1.2) r60.2)))) fun j38 =>
 law05_StripeJoins_l1 k D j38 l24 atv25 p26 r27 (⟨none, 0, 0⟩ : Slc) (⟨none, 0, 0⟩ : Slc) 0 h29))) fun j30 =>
 (if (!(r16.1.1.isNone == r23.1.1.isNone)) = true then
 j30 l3 atv5 r16.1.1 r23.1.1 true r23.2
 else
 (law05_works k D r23.2).bind fun r101 =>
 j30 l3 atv5 r16.1.1 r23.1.1 (!r101.1) r101.2))) fun j8 =>
 (ldI .i64 (⟨h.next, 0, none⟩ : Addr) h2).bind fun x103 =>
 (if (decide (x103 > 12)) = true then
 (ldI .i64 (⟨h.next, 0, none⟩ : Addr) h2).bind fun x105 =>
 (if (decide (x105 ≤ 255)) = true then
 j8 l_1 (some (⟨h.next, 0, none⟩ : Addr)) (some (⟨h1.next, 0, none⟩ : Addr)) true h2
 else
 (ldI .i64 (⟨h.next, 1, none⟩ : Addr) h2).bind fun x107 =>
 (if (decide (x107 > 8)) = true then
 (ldI .i64 (⟨h.next, 1, none⟩ : Addr) h2).bind fun x109 =>
 (if (decide (x109 ≤ 255)) = true then
 j8 l_1 (some (⟨h.next, 0, none⟩ : Addr)) (some (⟨h1.next, 0, none⟩ : Addr)) true h2
 else
 (law05_few k D l_1 h2).bind fun r110 =>
 j8 l_1 (some (⟨h.next, 0, none⟩ : Addr)) (some (⟨h1.next, 0, none⟩ : Addr)) (!r110.1) r110.2)
 else
 (law05_few k D l_1 h2).bind fun r111 =>
 j8 l_1 (some (⟨h.next, 0, none⟩ : Addr)) (some (⟨h1.next, 0, none⟩ : Addr)) (!r111.1) r111.2))
 else
 (ldI .i64 (⟨h.next, 1, none⟩ : Addr) h2).bind fun x113 =>
 (if (decide (x113 > 8)) = true then
 (ldI .i64 (⟨h.next, 1, none⟩ : Addr) h2).bind fun x115 =>
 (if (decide (x115 ≤ 255)) = true then
 j8 l_1 (some (⟨h.next, 0, none⟩ : Addr)) (some (⟨h1.next, 0, none⟩ : Addr)) true h2
 else
 (law05_few k D l_1 h2).bind fun r116 =>
 j8 l_1 (some (⟨h.next, 0, none⟩ : Addr)) (some (⟨h1.next, 0, none⟩ : Addr)) (!r116.1) r116.2)
 else
 (law05_few k D l_1 h2).bind fun r117 =>
 j8 l_1 (some (⟨h.next, 0, none⟩ : Addr)) (some (⟨h1.next, 0, none⟩ : Addr)) (!r117.1) r117.2))
noncomputable def r_law05_StripeJoins : RCode := an (.s .n (.s (.s (.j [(1, .l), (3, .p), (5, .p), (45, .b)] .n) .n) (.s .n (.s .n (.s (.s (.j [(1, .l), (5, .p), (7, .p), (9, .p), (71, .b)] .n) .n) (.s .n (.s .n (.s .n (.s (.j [(1, .l), (5, .p), (7, .p), (9, .p), (11, .l), (12, .l)] (.s .n (.b (.l [(1, .l), (5, .p), (7, .p), (9, .p), (11, .l), (12, .l), (13, .i .i64)] (.s .n (.s (.b (.s (.r [(4, .st [.i .i64, .s])]) .n)) .n)))))) (.s .n (.s .n (.s .n (.s .n (.s (.s (.j [(1, .l), (11, .l), (154, .b)] .n) .n) (.s (.j [] (.s .n (.b (.l [(1, .l), (11, .l), (22, .i .i64)] (.s .n (.s (.b (.s (.r [(3, .st [.i .i64, .s]), (7, .st [.i .i64, .s])]) .n)) .n)))))) .n))))))))))))))) (rOf Tryz.prog 0 Tryz.f3)
noncomputable def e_law05_StripeJoins (k : Nat) (D : CallF) : Ent := entOf 3 [(0, .st [.i .i64, .i .i64]), (1, .l), (2, .st [.i .i64, .i .i64])] [(6, .b)] (law05_StripeJoins k D)
theorem q_law05_StripeJoins : (Tryz.f3.body).bind (rcodeOf Tryz.prog 0 Tryz.f3.ntmps) = some (strip r_law05_StripeJoins) := by kernel_rfl
theorem t_law05_StripeJoins (k : Nat) (D : CallF) : curF [(0, .st [.i .i64, .i .i64]), (1, .l), (2, .st [.i .i64, .i .i64])] (fun args h => denF (C_law05_StripeJoins k D) k r_law05_StripeJoins [(6, .b)] [none] args h) = law05_StripeJoins k D := by kernel_rfl
theorem ok_law05_StripeJoins {D : CallF} (hD : CSound Tryz.prog 0 D) (k : Nat) : EntOk Tryz.prog 0 (e_law05_StripeJoins k D) :=
 entOf_ok2 (mkC_sound hD (EntsOk.more (ok_law05_works hD k) (EntsOk.more (ok_stripe_New hD k) (EntsOk.more (ok_ref05_New hD k) (EntsOk.more (ok_stripe_Plan_Join hD k) (EntsOk.more (ok_ref05_Plan_Join hD k) (EntsOk.more (ok_stripe_Plan_Shard hD k) (EntsOk.more (ok_ref05_Plan_Shard hD k) (EntsOk.more (ok_law05_few hD k) (EntsOk.none)))))))))) Tryz.func3 rfl q_law05_StripeJoins rfl (t_law05_StripeJoins k D)
end Gq
