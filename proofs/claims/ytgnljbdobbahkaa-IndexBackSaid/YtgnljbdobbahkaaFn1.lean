import Derived.Test.YtgnljbdobbahkaaProg
import Derived.Shelf.Strings.OnBuilder
import Derived.Shelf.Strings.Repeat
import Derived.KernelRfl
import Derived.WalkKit
import Derived.Laws.Externs
import Derived.Shelf.SortM.Plain
import Derived.Shelf.SortM.SortNone
import Derived.Test.YtgnljbdobbahkaaGx3
namespace Gc
open Go Gx Go.Proofs
set_option maxRecDepth 100000
noncomputable def C_cmp_isNaN_string (_k : Nat) (D : CallF) : CallF := mkC D []
noncomputable def cmp_isNaN_string (_k : Nat) (_D : CallF) (x_0 : ByteArray) (h : AHeap) : Option ((Bool) × AHeap) :=
 some ((!(x_0 == x_0)), h)
noncomputable def r_cmp_isNaN_string : RCode := an (.n) (rOf Try.prog 0 Try.f131)
noncomputable def e_cmp_isNaN_string (k : Nat) (D : CallF) : Ent := entOf 131 [(0, .s)] [(2, .b)] (cmp_isNaN_string k D)
theorem q_cmp_isNaN_string : (Try.f131.body).bind (rcodeOf Try.prog 0 Try.f131.ntmps) = some (strip r_cmp_isNaN_string) := by kernel_rfl
theorem t_cmp_isNaN_string (k : Nat) (D : CallF) : curF [(0, .s)] (fun args h => denF (C_cmp_isNaN_string k D) k r_cmp_isNaN_string [(2, .b)] [none] args h) = cmp_isNaN_string k D := by kernel_rfl
theorem ok_cmp_isNaN_string {D : CallF} (hD : CSound Try.prog 0 D) (k : Nat) : EntOk Try.prog 0 (e_cmp_isNaN_string k D) :=
 entOf_ok2 (mkC_sound hD (EntsOk.none)) Try.func131 rfl q_cmp_isNaN_string rfl (t_cmp_isNaN_string k D)
end Gc
namespace Gc
open Go Gx Go.Proofs
set_option maxRecDepth 100000
noncomputable def C_cmp_Compare_string (k : Nat) (D : CallF) : CallF := mkC D [e_cmp_isNaN_string k D]
noncomputable def cmp_Compare_string (k : Nat) (D : CallF) (x_0 : ByteArray) (y_1 : ByteArray) (h : AHeap) : Option ((Int) × AHeap) :=
 (cmp_isNaN_string k D x_0 h).bind fun r1 =>
 (cmp_isNaN_string k D y_1 r1.2).bind fun r2 =>
 (if r1.1 = true then
 (if r2.1 = true then
 some (0, r2.2)
 else
 some ((-1), r2.2))
 else
 (if r2.1 = true then
 some (1, r2.2)
 else
 (if (Op.bytesLess x_0.toList y_1.toList) = true then
 some ((-1), r2.2)
 else
 (if (!(Op.bytesLess x_0.toList y_1.toList || (x_0 == y_1))) = true then
 some (1, r2.2)
 else
 some (0, r2.2)))))
noncomputable def r_cmp_Compare_string : RCode := an (.n) (rOf Try.prog 0 Try.f121)
noncomputable def e_cmp_Compare_string (k : Nat) (D : CallF) : Ent := entOf 121 [(0, .s), (1, .s)] [(4, .i .i64)] (cmp_Compare_string k D)
theorem q_cmp_Compare_string : (Try.f121.body).bind (rcodeOf Try.prog 0 Try.f121.ntmps) = some (strip r_cmp_Compare_string) := by kernel_rfl
theorem t_cmp_Compare_string (k : Nat) (D : CallF) : curF [(0, .s), (1, .s)] (fun args h => denF (C_cmp_Compare_string k D) k r_cmp_Compare_string [(4, .i .i64)] [none] args h) = cmp_Compare_string k D := by kernel_rfl
theorem ok_cmp_Compare_string {D : CallF} (hD : CSound Try.prog 0 D) (k : Nat) : EntOk Try.prog 0 (e_cmp_Compare_string k D) :=
 entOf_ok2 (mkC_sound hD (EntsOk.more (ok_cmp_isNaN_string hD k) (EntsOk.none))) Try.func121 rfl q_cmp_Compare_string rfl (t_cmp_Compare_string k D)
end Gc
namespace Gc
open Go Gx Go.Proofs
set_option maxRecDepth 100000
noncomputable def C_cmp_isNaN_int (_k : Nat) (D : CallF) : CallF := mkC D []
noncomputable def cmp_isNaN_int (_k : Nat) (_D : CallF) (x_0 : Int) (h : AHeap) : Option ((Bool) × AHeap) :=
 some ((x_0 != x_0), h)
noncomputable def r_cmp_isNaN_int : RCode := an (.n) (rOf Try.prog 0 Try.f137)
noncomputable def e_cmp_isNaN_int (k : Nat) (D : CallF) : Ent := entOf 137 [(0, .i .i64)] [(2, .b)] (cmp_isNaN_int k D)
theorem q_cmp_isNaN_int : (Try.f137.body).bind (rcodeOf Try.prog 0 Try.f137.ntmps) = some (strip r_cmp_isNaN_int) := by kernel_rfl
theorem t_cmp_isNaN_int (k : Nat) (D : CallF) : curF [(0, .i .i64)] (fun args h => denF (C_cmp_isNaN_int k D) k r_cmp_isNaN_int [(2, .b)] [none] args h) = cmp_isNaN_int k D := by kernel_rfl
theorem ok_cmp_isNaN_int {D : CallF} (hD : CSound Try.prog 0 D) (k : Nat) : EntOk Try.prog 0 (e_cmp_isNaN_int k D) :=
 entOf_ok2 (mkC_sound hD (EntsOk.none)) Try.func137 rfl q_cmp_isNaN_int rfl (t_cmp_isNaN_int k D)
end Gc
namespace Gc
open Go Gx Go.Proofs
set_option maxRecDepth 100000
noncomputable def C_cmp_Compare_int (k : Nat) (D : CallF) : CallF := mkC D [e_cmp_isNaN_int k D]
noncomputable def cmp_Compare_int (k : Nat) (D : CallF) (x_0 : Int) (y_1 : Int) (h : AHeap) : Option ((Int) × AHeap) :=
 (cmp_isNaN_int k D x_0 h).bind fun r1 =>
 (cmp_isNaN_int k D y_1 r1.2).bind fun r2 =>
 (if r1.1 = true then
 (if r2.1 = true then
 some (0, r2.2)
 else
 some ((-1), r2.2))
 else
 (if r2.1 = true then
 some (1, r2.2)
 else
 (if (decide (x_0 < y_1)) = true then
 some ((-1), r2.2)
 else
 (if (decide (x_0 > y_1)) = true then
 some (1, r2.2)
 else
 some (0, r2.2)))))
noncomputable def r_cmp_Compare_int : RCode := an (.n) (rOf Try.prog 0 Try.f122)
noncomputable def e_cmp_Compare_int (k : Nat) (D : CallF) : Ent := entOf 122 [(0, .i .i64), (1, .i .i64)] [(4, .i .i64)] (cmp_Compare_int k D)
theorem q_cmp_Compare_int : (Try.f122.body).bind (rcodeOf Try.prog 0 Try.f122.ntmps) = some (strip r_cmp_Compare_int) := by kernel_rfl
theorem t_cmp_Compare_int (k : Nat) (D : CallF) : curF [(0, .i .i64), (1, .i .i64)] (fun args h => denF (C_cmp_Compare_int k D) k r_cmp_Compare_int [(4, .i .i64)] [none] args h) = cmp_Compare_int k D := by kernel_rfl
theorem ok_cmp_Compare_int {D : CallF} (hD : CSound Try.prog 0 D) (k : Nat) : EntOk Try.prog 0 (e_cmp_Compare_int k D) :=
 entOf_ok2 (mkC_sound hD (EntsOk.more (ok_cmp_isNaN_int hD k) (EntsOk.none))) Try.func122 rfl q_cmp_Compare_int rfl (t_cmp_Compare_int k D)
end Gc
namespace Gc
open Go Gx Go.Proofs
set_option maxRecDepth 100000
noncomputable def C_cmp_Or_int (_k : Nat) (D : CallF) : CallF := mkC D []
noncomputable def cmp_Or_int_l0b (_k : Nat) (_D : CallF) (j3 : Int → AHeap → Option ((Int) × AHeap)) (rec9 : Int → Slc → Int → Int → AHeap → Option ((Int) × AHeap)) (zero4 : Int) (y5 : Slc) (y6 : Int) (y7 : Int) (h8 : AHeap) : Option ((Int) × AHeap) :=
 (if (decide (y7 < y6)) = true then
 (Gx.idxL 1 y5 y7).bind fun q10 =>
 (ldI .i64 q10 h8).bind fun x11 =>
 (if (x11 != zero4) = true then
 some (x11, h8)
 else
 rec9 zero4 y5 y6 (IntKind.wrap .i64 (y7 + 1)) h8)
 else
 j3 zero4 h8)
noncomputable def cmp_Or_int_l0 (k : Nat) (D : CallF) (j3 : Int → AHeap → Option ((Int) × AHeap)) : Int → Slc → Int → Int → AHeap → Option ((Int) × AHeap) :=
 iterK (α := Int → Slc → Int → Int → AHeap → Option ((Int) × AHeap)) (fun _ _ _ _ _ => none) k (cmp_Or_int_l0b k D j3)
noncomputable def cmp_Or_int (k : Nat) (D : CallF) (vals_0 : Slc) (h : AHeap) : Option ((Int) × AHeap) :=
 joinK (fun (zero1 : Int) (h2 : AHeap) =>
 some (zero1, h2)) fun j3 =>
 cmp_Or_int_l0 k D j3 0 vals_0 (vals_0.len : Int) 0 h
noncomputable def r_cmp_Or_int : RCode := an (.s .n (.s .n (.s (.j [(3, .i .i64)] (.s .n (.b (.l [(3, .i .i64), (6, .l), (7, .i .i64), (8, .i .i64)] .n)))) .n))) (rOf Try.prog 0 Try.f120)
noncomputable def e_cmp_Or_int (k : Nat) (D : CallF) : Ent := entOf 120 [(0, .l)] [(2, .i .i64)] (cmp_Or_int k D)
theorem q_cmp_Or_int : (Try.f120.body).bind (rcodeOf Try.prog 0 Try.f120.ntmps) = some (strip r_cmp_Or_int) := by kernel_rfl
theorem t_cmp_Or_int (k : Nat) (D : CallF) : curF [(0, .l)] (fun args h => denF (C_cmp_Or_int k D) k r_cmp_Or_int [(2, .i .i64)] [none] args h) = cmp_Or_int k D := by kernel_rfl
theorem ok_cmp_Or_int {D : CallF} (hD : CSound Try.prog 0 D) (k : Nat) : EntOk Try.prog 0 (e_cmp_Or_int k D) :=
 entOf_ok2 (mkC_sound hD (EntsOk.none)) Try.func120 rfl q_cmp_Or_int rfl (t_cmp_Or_int k D)
end Gc
namespace Gc
open Go Gx Go.Proofs
set_option maxRecDepth 100000
noncomputable def C_lookup_order (k : Nat) (D : CallF) : CallF := mkC D [e_cmp_Compare_string k D, e_cmp_Compare_int k D, e_cmp_Or_int k D]
noncomputable def lookup_order (k : Nat) (D : CallF) (x_0 : ByteArray × ByteArray × Int × Int × Int × Int) (y_1 : ByteArray × ByteArray × Int × Int × Int × Int) (h : AHeap) : Option ((Int) × AHeap) :=
 newK h ((.cells [.string x_0.1, .string x_0.2.1, .int .i64 x_0.2.2.1, .int .i64 x_0.2.2.2.1, .int .i64 x_0.2.2.2.2.1, .int .i64 x_0.2.2.2.2.2] 57 true 0)) fun h1 =>
 newK h1 ((.cells [.string y_1.1, .string y_1.2.1, .int .i64 y_1.2.2.1, .int .i64 y_1.2.2.2.1, .int .i64 y_1.2.2.2.2.1, .int .i64 y_1.2.2.2.2.2] 57 true 0)) fun h2 =>
 (ldS (⟨h.next, 0, none⟩ : Addr) h2).bind fun x3 =>
 (ldS (⟨h1.next, 0, none⟩ : Addr) h2).bind fun x4 =>
 (cmp_Compare_string k D x3 x4 h2).bind fun r5 =>
 (ldS (⟨h.next, 1, none⟩ : Addr) r5.2).bind fun x6 =>
 guardP (SameW [h2] (fun H8 => (ldS (⟨h.next, 1, none⟩ : Addr) H8).bind fun y7 => some (.string y7)) (.string x6)) (
 (ldS (⟨h1.next, 1, none⟩ : Addr) r5.2).bind fun x9 =>
 guardP (SameW [h2] (fun H11 => (ldS (⟨h1.next, 1, none⟩ : Addr) H11).bind fun y10 => some (.string y10)) (.string x9)) (
 (cmp_Compare_string k D x6 x9 r5.2).bind fun r12 =>
 (ldI .i64 (⟨h.next, 3, none⟩ : Addr) r12.2).bind fun x13 =>
 guardP (SameW [r5.2, h2] (fun H15 => (ldI .i64 (⟨h.next, 3, none⟩ : Addr) H15).bind fun y14 => some (.int .i64 y14)) (.int .i64 x13)) (
 (ldI .i64 (⟨h1.next, 3, none⟩ : Addr) r12.2).bind fun x16 =>
 guardP (SameW [r5.2, h2] (fun H18 => (ldI .i64 (⟨h1.next, 3, none⟩ : Addr) H18).bind fun y17 => some (.int .i64 y17)) (.int .i64 x16)) (
 (cmp_Compare_int k D x13 x16 r12.2).bind fun r19 =>
 (ldI .i64 (⟨h.next, 4, none⟩ : Addr) r19.2).bind fun x20 =>
 guardP (SameW [r12.2, r5.2, h2] (fun H22 => (ldI .i64 (⟨h.next, 4, none⟩ : Addr) H22).bind fun y21 => some (.int .i64 y21)) (.int .i64 x20)) (
 (ldI .i64 (⟨h1.next, 4, none⟩ : Addr) r19.2).bind fun x23 =>
 guardP (SameW [r12.2, r5.2, h2] (fun H25 => (ldI .i64 (⟨h1.next, 4, none⟩ : Addr) H25).bind fun y24 => some (.int .i64 y24)) (.int .i64 x23)) (
 (cmp_Compare_int k D x20 x23 r19.2).bind fun r26 =>
 (ldI .i64 (⟨h.next, 5, none⟩ : Addr) r26.2).bind fun x27 =>
 guardP (SameW [r19.2, r12.2, r5.2, h2] (fun H29 => (ldI .i64 (⟨h.next, 5, none⟩ : Addr) H29).bind fun y28 => some (.int .i64 y28)) (.int .i64 x27)) (
 (ldI .i64 (⟨h1.next, 5, none⟩ : Addr) r26.2).bind fun x30 =>
 guardP (SameW [r19.2, r12.2, r5.2, h2] (fun H32 => (ldI .i64 (⟨h1.next, 5, none⟩ : Addr) H32).bind fun y31 => some (.int .i64 y31)) (.int .i64 x30)) (
 (cmp_Compare_int k D x27 x30 r26.2).bind fun r33 =>
 (ldI .i64 (⟨h.next, 2, none⟩ : Addr) r33.2).bind fun x34 =>
 guardP (SameW [r26.2, r19.2, r12.2, r5.2, h2] (fun H36 => (ldI .i64 (⟨h.next, 2, none⟩ : Addr) H36).bind fun y35 => some (.int .i64 y35)) (.int .i64 x34)) (
 (ldI .i64 (⟨h1.next, 2, none⟩ : Addr) r33.2).bind fun x37 =>
 guardP (SameW [r26.2, r19.2, r12.2, r5.2, h2] (fun H39 => (ldI .i64 (⟨h1.next, 2, none⟩ : Addr) H39).bind fun y38 => some (.int .i64 y38)) (.int .i64 x37)) (
 (cmp_Compare_int k D x34 x37 r33.2).bind fun r40 =>
 newK r40.2 ((.cells [.int .i64 r5.1, .int .i64 r12.1, .int .i64 r19.1, .int .i64 r26.1, .int .i64 r33.1, .int .i64 r40.1] 3 true 0)) fun h41 =>
 (cmp_Or_int k D (⟨(some ⟨r40.2.next, 0, some 0⟩), 6, 6⟩ : Slc) h41).bind fun r42 =>
 some (r42.1, r42.2)))))))))))
noncomputable def r_lookup_order : RCode := an (.n) (rOf Try.prog 0 Try.f78)
noncomputable def e_lookup_order (k : Nat) (D : CallF) : Ent := entOf 78 [(0, .st [.s, .s, .i .i64, .i .i64, .i .i64, .i .i64]), (1, .st [.s, .s, .i .i64, .i .i64, .i .i64, .i .i64])] [(4, .i .i64)] (lookup_order k D)
theorem q_lookup_order : (Try.f78.body).bind (rcodeOf Try.prog 0 Try.f78.ntmps) = some (strip r_lookup_order) := by kernel_rfl
theorem t_lookup_order (k : Nat) (D : CallF) : curF [(0, .st [.s, .s, .i .i64, .i .i64, .i .i64, .i .i64]), (1, .st [.s, .s, .i .i64, .i .i64, .i .i64, .i .i64])] (fun args h => denF (C_lookup_order k D) k r_lookup_order [(4, .i .i64)] [none] args h) = lookup_order k D := by kernel_rfl
theorem ok_lookup_order {D : CallF} (hD : CSound Try.prog 0 D) (k : Nat) : EntOk Try.prog 0 (e_lookup_order k D) :=
 entOf_ok2 (mkC_sound hD (EntsOk.more (ok_cmp_Compare_string hD k) (EntsOk.more (ok_cmp_Compare_int hD k) (EntsOk.more (ok_cmp_Or_int hD k) (EntsOk.none))))) Try.func78 rfl q_lookup_order rfl (t_lookup_order k D)
end Gc
namespace Gc
open Go Gx Go.Proofs
set_option maxRecDepth 100000
noncomputable def C_lookup_Less (k : Nat) (D : CallF) : CallF := mkC D [e_lookup_order k D]
noncomputable def lookup_Less (k : Nat) (D : CallF) (x_0 : ByteArray × ByteArray × Int × Int × Int × Int) (y_1 : ByteArray × ByteArray × Int × Int × Int × Int) (h : AHeap) : Option ((Bool) × AHeap) :=
 newK h ((.cells [.string x_0.1, .string x_0.2.1, .int .i64 x_0.2.2.1, .int .i64 x_0.2.2.2.1, .int .i64 x_0.2.2.2.2.1, .int .i64 x_0.2.2.2.2.2] 57 true 0)) fun h1 =>
 newK h1 ((.cells [.string y_1.1, .string y_1.2.1, .int .i64 y_1.2.2.1, .int .i64 y_1.2.2.2.1, .int .i64 y_1.2.2.2.2.1, .int .i64 y_1.2.2.2.2.2] 57 true 0)) fun h2 =>
 (ldA 6 (⟨h.next, 0, none⟩ : Addr) h2).bind fun l3 =>
 (decC [.s, .s, .i .i64, .i .i64, .i .i64, .i .i64] l3).bind fun x4 =>
 (ldA 6 (⟨h1.next, 0, none⟩ : Addr) h2).bind fun l5 =>
 (decC [.s, .s, .i .i64, .i .i64, .i .i64, .i .i64] l5).bind fun x6 =>
 (lookup_order k D (x4.1, x4.2.1, x4.2.2.1, x4.2.2.2.1, x4.2.2.2.2.1, x4.2.2.2.2.2) (x6.1, x6.2.1, x6.2.2.1, x6.2.2.2.1, x6.2.2.2.2.1, x6.2.2.2.2.2) h2).bind fun r7 =>
 some ((decide (r7.1 < 0)), r7.2)
noncomputable def r_lookup_Less : RCode := an (.s .n (.s (.r [(0, .st [.s, .s, .i .i64, .i .i64, .i .i64, .i .i64]), (1, .st [.s, .s, .i .i64, .i .i64, .i .i64, .i .i64])]) .n)) (rOf Try.prog 0 Try.f30)
noncomputable def e_lookup_Less (k : Nat) (D : CallF) : Ent := entOf 30 [(0, .st [.s, .s, .i .i64, .i .i64, .i .i64, .i .i64]), (1, .st [.s, .s, .i .i64, .i .i64, .i .i64, .i .i64])] [(4, .b)] (lookup_Less k D)
theorem q_lookup_Less : (Try.f30.body).bind (rcodeOf Try.prog 0 Try.f30.ntmps) = some (strip r_lookup_Less) := by kernel_rfl
theorem t_lookup_Less (k : Nat) (D : CallF) : curF [(0, .st [.s, .s, .i .i64, .i .i64, .i .i64, .i .i64]), (1, .st [.s, .s, .i .i64, .i .i64, .i .i64, .i .i64])] (fun args h => denF (C_lookup_Less k D) k r_lookup_Less [(4, .b)] [none] args h) = lookup_Less k D := by kernel_rfl
theorem ok_lookup_Less {D : CallF} (hD : CSound Try.prog 0 D) (k : Nat) : EntOk Try.prog 0 (e_lookup_Less k D) :=
 entOf_ok2 (mkC_sound hD (EntsOk.more (ok_lookup_order hD k) (EntsOk.none))) Try.func30 rfl q_lookup_Less rfl (t_lookup_Less k D)
end Gc
namespace Gc
open Go Gx Go.Proofs
set_option maxRecDepth 100000
noncomputable def C_sha_IsId (_k : Nat) (D : CallF) : CallF := mkC D []
noncomputable def sha_IsId (_k : Nat) (_D : CallF) (s_0 : ByteArray) (h : AHeap) : Option ((Bool) × AHeap) :=
 some (((s_0.size : Int) == 32), h)
noncomputable def r_sha_IsId : RCode := an (.n) (rOf Try.prog 0 Try.f66)
noncomputable def e_sha_IsId (k : Nat) (D : CallF) : Ent := entOf 66 [(0, .s)] [(2, .b)] (sha_IsId k D)
theorem q_sha_IsId : (Try.f66.body).bind (rcodeOf Try.prog 0 Try.f66.ntmps) = some (strip r_sha_IsId) := by kernel_rfl
theorem t_sha_IsId (k : Nat) (D : CallF) : curF [(0, .s)] (fun args h => denF (C_sha_IsId k D) k r_sha_IsId [(2, .b)] [none] args h) = sha_IsId k D := by kernel_rfl
theorem ok_sha_IsId {D : CallF} (hD : CSound Try.prog 0 D) (k : Nat) : EntOk Try.prog 0 (e_sha_IsId k D) :=
 entOf_ok2 (mkC_sound hD (EntsOk.none)) Try.func66 rfl q_sha_IsId rfl (t_sha_IsId k D)
end Gc
namespace Gc
open Go Gx Go.Proofs
set_option maxRecDepth 100000
noncomputable def C_lookup_within (_k : Nat) (D : CallF) : CallF := mkC D []
noncomputable def lookup_within (_k : Nat) (_D : CallF) (n_0 : Int) (least_1 : Int) (h : AHeap) : Option ((Bool) × AHeap) :=
 (if (decide (n_0 ≥ least_1)) = true then
 some ((decide (n_0 ≤ 65536)), h)
 else
 some (false, h))
noncomputable def r_lookup_within : RCode := an (.n) (rOf Try.prog 0 Try.f76)
noncomputable def e_lookup_within (k : Nat) (D : CallF) : Ent := entOf 76 [(0, .i .i64), (1, .i .i64)] [(4, .b)] (lookup_within k D)
theorem q_lookup_within : (Try.f76.body).bind (rcodeOf Try.prog 0 Try.f76.ntmps) = some (strip r_lookup_within) := by kernel_rfl
theorem t_lookup_within (k : Nat) (D : CallF) : curF [(0, .i .i64), (1, .i .i64)] (fun args h => denF (C_lookup_within k D) k r_lookup_within [(4, .b)] [none] args h) = lookup_within k D := by kernel_rfl
theorem ok_lookup_within {D : CallF} (hD : CSound Try.prog 0 D) (k : Nat) : EntOk Try.prog 0 (e_lookup_within k D) :=
 entOf_ok2 (mkC_sound hD (EntsOk.none)) Try.func76 rfl q_lookup_within rfl (t_lookup_within k D)
end Gc
namespace Gc
open Go Gx Go.Proofs
set_option maxRecDepth 100000
noncomputable def C_lookup_Check (k : Nat) (D : CallF) : CallF := mkC D [e_sha_IsId k D, e_lookup_within k D]
noncomputable def lookup_Check (k : Nat) (D : CallF) (x_0 : ByteArray × ByteArray × Int × Int × Int × Int) (h : AHeap) : Option ((Int) × AHeap) :=
 newK h ((.cells [.string x_0.1, .string x_0.2.1, .int .i64 x_0.2.2.1, .int .i64 x_0.2.2.2.1, .int .i64 x_0.2.2.2.2.1, .int .i64 x_0.2.2.2.2.2] 57 true 0)) fun h1 =>
 joinK (fun (x2 : Option Addr) (kind3 : Bool) (h4 : AHeap) =>
 joinK (fun (y6 : Bool) (h7 : AHeap) =>
 (if y6 = true then
 some (1, h7)
 else
 some (0, h7))) fun j8 =>
 (x2).bind fun p9 =>
 (ldS (⟨p9.block, p9.off + 0, none⟩ : Addr) h4).bind fun x10 =>
 (sha_IsId k D x10 h4).bind fun r11 =>
 (if (!r11.1) = true then
 j8 true r11.2
 else
 (x2).bind fun p12 =>
 (ldS (⟨p12.block, p12.off + 1 + 0, none⟩ : Addr) r11.2).bind fun x13 =>
 (sha_IsId k D x13 r11.2).bind fun r14 =>
 (if (!r14.1) = true then
 j8 true r14.2
 else
 (if (!kind3) = true then
 j8 true r14.2
 else
 (x2).bind fun p15 =>
 (ldI .i64 (⟨p15.block, p15.off + 1 + 2, none⟩ : Addr) r14.2).bind fun x16 =>
 (lookup_within k D x16 0 r14.2).bind fun r17 =>
 (if (!r17.1) = true then
 j8 true r17.2
 else
 (x2).bind fun p18 =>
 (ldI .i64 (⟨p18.block, p18.off + 1 + 3, none⟩ : Addr) r17.2).bind fun x19 =>
 (lookup_within k D x19 1 r17.2).bind fun r20 =>
 (if (!r20.1) = true then
 j8 true r20.2
 else
 (x2).bind fun p21 =>
 (ldI .i64 (⟨p21.block, p21.off + 1 + 4, none⟩ : Addr) r20.2).bind fun x22 =>
 (lookup_within k D x22 0 r20.2).bind fun r23 =>
 j8 (!r23.1) r23.2)))))) fun j5 =>
 (ldI .i64 (⟨h.next, 2, none⟩ : Addr) h1).bind fun x24 =>
 (if (x24 == 1) = true then
 j5 (some (⟨h.next, 0, none⟩ : Addr)) true h1
 else
 (ldI .i64 (⟨h.next, 2, none⟩ : Addr) h1).bind fun x25 =>
 j5 (some (⟨h.next, 0, none⟩ : Addr)) (x25 == 2) h1)
noncomputable def r_lookup_Check : RCode := an (.s .n (.s (.j [(1, .p), (3, .b)] .n) (.s (.s (.j [(49, .b)] .n) .n) .n))) (rOf Try.prog 0 Try.f28)
noncomputable def e_lookup_Check (k : Nat) (D : CallF) : Ent := entOf 28 [(0, .st [.s, .s, .i .i64, .i .i64, .i .i64, .i .i64])] [(2, .i .i64)] (lookup_Check k D)
theorem q_lookup_Check : (Try.f28.body).bind (rcodeOf Try.prog 0 Try.f28.ntmps) = some (strip r_lookup_Check) := by kernel_rfl
theorem t_lookup_Check (k : Nat) (D : CallF) : curF [(0, .st [.s, .s, .i .i64, .i .i64, .i .i64, .i .i64])] (fun args h => denF (C_lookup_Check k D) k r_lookup_Check [(2, .i .i64)] [none] args h) = lookup_Check k D := by kernel_rfl
theorem ok_lookup_Check {D : CallF} (hD : CSound Try.prog 0 D) (k : Nat) : EntOk Try.prog 0 (e_lookup_Check k D) :=
 entOf_ok2 (mkC_sound hD (EntsOk.more (ok_sha_IsId hD k) (EntsOk.more (ok_lookup_within hD k) (EntsOk.none)))) Try.func28 rfl q_lookup_Check rfl (t_lookup_Check k D)
end Gc
namespace Gc
open Go Gx Go.Proofs
set_option maxRecDepth 100000
end Gc
namespace Gc
open Go Gx Go.Proofs
set_option maxRecDepth 100000
end Gc
namespace Gc
open Go Gx Go.Proofs
set_option maxRecDepth 100000
end Gc
namespace Gc
open Go Gx Go.Proofs
set_option maxRecDepth 100000
noncomputable def C_slices_BinarySearchFunc_api_Item_api_Item_api_Item (_k : Nat) (D : CallF) : CallF := mkC D []
noncomputable def slices_BinarySearchFunc_api_Item_api_Item_api_Item_l0b (k : Nat) (D : CallF) (j8 : Slc → Value → (Option Addr) → Int → Int → AHeap → Option ((Int × Bool) × AHeap)) (rec25 : Slc → Value → (Option Addr) → Int → Int → Int → AHeap → Option ((Int × Bool) × AHeap)) (x18 : Slc) (cmp19 : Value) (target20 : Option Addr) (n21 : Int) (i22 : Int) (j23 : Int) (h24 : AHeap) : Option ((Int × Bool) × AHeap) :=
 (if (decide (i22 < j23)) = true then
 let t26 : Int := (Int.fdiv (IntKind.wrap .u64 (IntKind.wrap .i64 (i22 + j23))) 2)
 (Gx.idxL 6 x18 (IntKind.wrap .i64 t26)).bind fun q27 =>
 (ldA 6 q27 h24).bind fun l28 =>
 (decC [.s, .s, .i .i64, .i .i64, .i .i64, .i .i64] l28).bind fun x29 =>
 (target20).bind fun p30 =>
 (ldA 6 p30 h24).bind fun l31 =>
 (decC [.s, .s, .i .i64, .i .i64, .i .i64, .i .i64] l31).bind fun x32 =>
 callD (C_slices_BinarySearchFunc_api_Item_api_Item_api_Item k D) cmp19 [.agg ⟨[.string x29.1, .string x29.2.1, .int .i64 x29.2.2.1, .int .i64 x29.2.2.2.1, .int .i64 x29.2.2.2.2.1, .int .i64 x29.2.2.2.2.2]⟩, .agg ⟨[.string x32.1, .string x32.2.1, .int .i64 x32.2.2.1, .int .i64 x32.2.2.2.1, .int .i64 x32.2.2.2.2.1, .int .i64 x32.2.2.2.2.2]⟩] h24 fun v33 h34 =>
 (decI .i64 v33).bind fun x35 =>
 (if (decide (x35 < 0)) = true then
 rec25 x18 cmp19 target20 n21 (IntKind.wrap .i64 ((IntKind.wrap .i64 t26) + 1)) j23 h34
 else
 rec25 x18 cmp19 target20 n21 i22 (IntKind.wrap .i64 t26) h34)
 else
 j8 x18 cmp19 target20 n21 i22 h24)
noncomputable def slices_BinarySearchFunc_api_Item_api_Item_api_Item_l0 (k : Nat) (D : CallF) (j8 : Slc → Value → (Option Addr) → Int → Int → AHeap → Option ((Int × Bool) × AHeap)) : Slc → Value → (Option Addr) → Int → Int → Int → AHeap → Option ((Int × Bool) × AHeap) :=
 iterK (α := Slc → Value → (Option Addr) → Int → Int → Int → AHeap → Option ((Int × Bool) × AHeap)) (fun _ _ _ _ _ _ _ => none) k (slices_BinarySearchFunc_api_Item_api_Item_api_Item_l0b k D j8)
noncomputable def slices_BinarySearchFunc_api_Item_api_Item_api_Item (k : Nat) (D : CallF) (x_0 : Slc) (target_1 : ByteArray × ByteArray × Int × Int × Int × Int) (cmp_2 : Value) (h : AHeap) : Option ((Int × Bool) × AHeap) :=
 newK h ((.cells [.string target_1.1, .string target_1.2.1, .int .i64 target_1.2.2.1, .int .i64 target_1.2.2.2.1, .int .i64 target_1.2.2.2.2.1, .int .i64 target_1.2.2.2.2.2] 57 true 0)) fun h1 =>
 joinK (fun (x2 : Slc) (cmp3 : Value) (target4 : Option Addr) (n5 : Int) (i6 : Int) (h7 : AHeap) =>
 (if (decide (i6 < n5)) = true then
 (Gx.idxL 6 x2 i6).bind fun q9 =>
 (ldA 6 q9 h7).bind fun l10 =>
 (decC [.s, .s, .i .i64, .i .i64, .i .i64, .i .i64] l10).bind fun x11 =>
 (target4).bind fun p12 =>
 (ldA 6 p12 h7).bind fun l13 =>
 (decC [.s, .s, .i .i64, .i .i64, .i .i64, .i .i64] l13).bind fun x14 =>
 callD (C_slices_BinarySearchFunc_api_Item_api_Item_api_Item k D) cmp3 [.agg ⟨[.string x11.1, .string x11.2.1, .int .i64 x11.2.2.1, .int .i64 x11.2.2.2.1, .int .i64 x11.2.2.2.2.1, .int .i64 x11.2.2.2.2.2]⟩, .agg ⟨[.string x14.1, .string x14.2.1, .int .i64 x14.2.2.1, .int .i64 x14.2.2.2.1, .int .i64 x14.2.2.2.2.1, .int .i64 x14.2.2.2.2.2]⟩] h7 fun v15 h16 =>
 (decI .i64 v15).bind fun x17 =>
 some ((i6, (x17 == 0)), h16)
 else
 some ((i6, false), h7))) fun j8 =>
 slices_BinarySearchFunc_api_Item_api_Item_api_Item_l0 k D j8 x_0 cmp_2 (some (⟨h.next, 0, none⟩ : Addr)) (x_0.len : Int) 0 (x_0.len : Int) h1
noncomputable def r_slices_BinarySearchFunc_api_Item_api_Item_api_Item : RCode := an (.s .n (.s .n (.s .n (.s (.j [(0, .l), (2, .v), (4, .p), (8, .i .i64), (9, .i .i64)] (.b (.l [(0, .l), (2, .v), (4, .p), (8, .i .i64), (9, .i .i64), (10, .i .i64)] (.s .n (.b (.s .n (.s (.r [(4, .st [.s, .s, .i .i64, .i .i64, .i .i64, .i .i64]), (5, .st [.s, .s, .i .i64, .i .i64, .i .i64, .i .i64]), (6, .i .i64)]) .n))))))) (.s (.r [(8, .st [.s, .s, .i .i64, .i .i64, .i .i64, .i .i64]), (9, .st [.s, .s, .i .i64, .i .i64, .i .i64, .i .i64]), (10, .i .i64)]) .n))))) (rOf Try.prog 0 Try.f80)
noncomputable def e_slices_BinarySearchFunc_api_Item_api_Item_api_Item (k : Nat) (D : CallF) : Ent := entOf 80 [(0, .l), (1, .st [.s, .s, .i .i64, .i .i64, .i .i64, .i .i64]), (2, .v)] [(6, .i .i64), (7, .b)] (slices_BinarySearchFunc_api_Item_api_Item_api_Item k D)
theorem q_slices_BinarySearchFunc_api_Item_api_Item_api_Item : (Try.f80.body).bind (rcodeOf Try.prog 0 Try.f80.ntmps) = some (strip r_slices_BinarySearchFunc_api_Item_api_Item_api_Item) := by kernel_rfl
theorem t_slices_BinarySearchFunc_api_Item_api_Item_api_Item (k : Nat) (D : CallF) : curF [(0, .l), (1, .st [.s, .s, .i .i64, .i .i64, .i .i64, .i .i64]), (2, .v)] (fun args h => denF (C_slices_BinarySearchFunc_api_Item_api_Item_api_Item k D) k r_slices_BinarySearchFunc_api_Item_api_Item_api_Item [(6, .i .i64), (7, .b)] [none, none] args h) = slices_BinarySearchFunc_api_Item_api_Item_api_Item k D := by kernel_rfl
theorem ok_slices_BinarySearchFunc_api_Item_api_Item_api_Item {D : CallF} (hD : CSound Try.prog 0 D) (k : Nat) : EntOk Try.prog 0 (e_slices_BinarySearchFunc_api_Item_api_Item_api_Item k D) :=
 entOf_ok2 (mkC_sound hD (EntsOk.none)) Try.func80 rfl q_slices_BinarySearchFunc_api_Item_api_Item_api_Item rfl (t_slices_BinarySearchFunc_api_Item_api_Item_api_Item k D)
end Gc
namespace Gc
open Go Gx Go.Proofs
set_option maxRecDepth 100000
end Gc
namespace Gc
open Go Gx Go.Proofs
set_option maxRecDepth 100000
noncomputable def C_lookup_Table_Places_1 (k : Nat) (D : CallF) : CallF := mkC D [e_cmp_Compare_string k D]
noncomputable def lookup_Table_Places_1 (k : Nat) (D : CallF) (x_0 : ByteArray × ByteArray × Int × Int × Int × Int) (id_1 : ByteArray) (h : AHeap) : Option ((Int) × AHeap) :=
 newK h ((.cells [.string x_0.1, .string x_0.2.1, .int .i64 x_0.2.2.1, .int .i64 x_0.2.2.2.1, .int .i64 x_0.2.2.2.2.1, .int .i64 x_0.2.2.2.2.2] 57 true 0)) fun h1 =>
 (ldS (⟨h.next, 0, none⟩ : Addr) h1).bind fun x2 =>
 (cmp_Compare_string k D x2 id_1 h1).bind fun r3 =>
 some (r3.1, r3.2)
noncomputable def r_lookup_Table_Places_1 : RCode := an (.n) (rOf Try.prog 0 Try.f127)
noncomputable def e_lookup_Table_Places_1 (k : Nat) (D : CallF) : Ent := entOf 127 [(0, .st [.s, .s, .i .i64, .i .i64, .i .i64, .i .i64]), (1, .s)] [(4, .i .i64)] (lookup_Table_Places_1 k D)
theorem q_lookup_Table_Places_1 : (Try.f127.body).bind (rcodeOf Try.prog 0 Try.f127.ntmps) = some (strip r_lookup_Table_Places_1) := by kernel_rfl
theorem t_lookup_Table_Places_1 (k : Nat) (D : CallF) : curF [(0, .st [.s, .s, .i .i64, .i .i64, .i .i64, .i .i64]), (1, .s)] (fun args h => denF (C_lookup_Table_Places_1 k D) k r_lookup_Table_Places_1 [(4, .i .i64)] [none] args h) = lookup_Table_Places_1 k D := by kernel_rfl
theorem ok_lookup_Table_Places_1 {D : CallF} (hD : CSound Try.prog 0 D) (k : Nat) : EntOk Try.prog 0 (e_lookup_Table_Places_1 k D) :=
 entOf_ok2 (mkC_sound hD (EntsOk.more (ok_cmp_Compare_string hD k) (EntsOk.none))) Try.func127 rfl q_lookup_Table_Places_1 rfl (t_lookup_Table_Places_1 k D)
end Gc
namespace Gc
open Go Gx Go.Proofs
set_option maxRecDepth 100000
noncomputable def C_lookup_Table_Drop_1 (_k : Nat) (D : CallF) : CallF := mkC D []
noncomputable def lookup_Table_Drop_1 (_k : Nat) (_D : CallF) (x_0 : ByteArray × ByteArray × Int × Int × Int × Int) (a_1 : Option Addr) (h : AHeap) : Option ((Bool) × AHeap) :=
 newK h ((.cells [.string x_0.1, .string x_0.2.1, .int .i64 x_0.2.2.1, .int .i64 x_0.2.2.2.1, .int .i64 x_0.2.2.2.2.1, .int .i64 x_0.2.2.2.2.2] 57 true 0)) fun h1 =>
 (ldS (⟨h.next, 1, none⟩ : Addr) h1).bind fun x2 =>
 (a_1).bind fun p3 =>
 (ldS p3 h1).bind fun x4 =>
 some ((x2 == x4), h1)
noncomputable def r_lookup_Table_Drop_1 : RCode := an (.n) (rOf Try.prog 0 Try.f87)
noncomputable def e_lookup_Table_Drop_1 (k : Nat) (D : CallF) : Ent := entOf 87 [(0, .st [.s, .s, .i .i64, .i .i64, .i .i64, .i .i64]), (1, .p)] [(3, .b)] (lookup_Table_Drop_1 k D)
theorem q_lookup_Table_Drop_1 : (Try.f87.body).bind (rcodeOf Try.prog 0 Try.f87.ntmps) = some (strip r_lookup_Table_Drop_1) := by kernel_rfl
theorem t_lookup_Table_Drop_1 (k : Nat) (D : CallF) : curF [(0, .st [.s, .s, .i .i64, .i .i64, .i .i64, .i .i64]), (1, .p)] (fun args h => denF (C_lookup_Table_Drop_1 k D) k r_lookup_Table_Drop_1 [(3, .b)] [none] args h) = lookup_Table_Drop_1 k D := by kernel_rfl
theorem ok_lookup_Table_Drop_1 {D : CallF} (hD : CSound Try.prog 0 D) (k : Nat) : EntOk Try.prog 0 (e_lookup_Table_Drop_1 k D) :=
 entOf_ok2 (mkC_sound hD (EntsOk.none)) Try.func87 rfl q_lookup_Table_Drop_1 rfl (t_lookup_Table_Drop_1 k D)
end Gc
namespace Gc
open Go Gx Go.Proofs
set_option maxRecDepth 100000
noncomputable def C_cmp_Less_string (k : Nat) (D : CallF) : CallF := mkC D [e_cmp_isNaN_string k D]
noncomputable def cmp_Less_string (k : Nat) (D : CallF) (x_0 : ByteArray) (y_1 : ByteArray) (h : AHeap) : Option ((Bool) × AHeap) :=
 (cmp_isNaN_string k D x_0 h).bind fun r1 =>
 (if r1.1 = true then
 (cmp_isNaN_string k D y_1 r1.2).bind fun r2 =>
 (if (!r2.1) = true then
 some (true, r2.2)
 else
 some ((Op.bytesLess x_0.toList y_1.toList), r2.2))
 else
 some ((Op.bytesLess x_0.toList y_1.toList), r1.2))
noncomputable def r_cmp_Less_string : RCode := an (.n) (rOf Try.prog 0 Try.f97)
noncomputable def e_cmp_Less_string (k : Nat) (D : CallF) : Ent := entOf 97 [(0, .s), (1, .s)] [(4, .b)] (cmp_Less_string k D)
theorem q_cmp_Less_string : (Try.f97.body).bind (rcodeOf Try.prog 0 Try.f97.ntmps) = some (strip r_cmp_Less_string) := by kernel_rfl
theorem t_cmp_Less_string (k : Nat) (D : CallF) : curF [(0, .s), (1, .s)] (fun args h => denF (C_cmp_Less_string k D) k r_cmp_Less_string [(4, .b)] [none] args h) = cmp_Less_string k D := by kernel_rfl
theorem ok_cmp_Less_string {D : CallF} (hD : CSound Try.prog 0 D) (k : Nat) : EntOk Try.prog 0 (e_cmp_Less_string k D) :=
 entOf_ok2 (mkC_sound hD (EntsOk.more (ok_cmp_isNaN_string hD k) (EntsOk.none))) Try.func97 rfl q_cmp_Less_string rfl (t_cmp_Less_string k D)
end Gc
namespace Gc
open Go Gx Go.Proofs
set_option maxRecDepth 100000
noncomputable def C_num_Reader_Fail (_k : Nat) (D : CallF) : CallF := mkC D []
noncomputable def num_Reader_Fail (_k : Nat) (_D : CallF) (r_0 : Option Addr) (e_1 : Int) (h : AHeap) : Option ((Unit) × AHeap) :=
 (r_0).bind fun p1 =>
 (ldI .i64 (⟨p1.block, p1.off + 1, none⟩ : Addr) h).bind fun x2 =>
 (if (x2 == 0) = true then
 (r_0).bind fun p3 =>
 (st1 (⟨p3.block, p3.off + 1, none⟩ : Addr) (.int .i64 e_1) h).bind fun h4 =>
 some ((), h4)
 else
 some ((), h))
noncomputable def r_num_Reader_Fail : RCode := an (.n) (rOf Try.prog 0 Try.f106)
noncomputable def e_num_Reader_Fail (k : Nat) (D : CallF) : Ent := entOf 106 [(0, .p), (1, .i .i64)] [] (num_Reader_Fail k D)
theorem q_num_Reader_Fail : (Try.f106.body).bind (rcodeOf Try.prog 0 Try.f106.ntmps) = some (strip r_num_Reader_Fail) := by kernel_rfl
theorem t_num_Reader_Fail (k : Nat) (D : CallF) : curF [(0, .p), (1, .i .i64)] (fun args h => denF (C_num_Reader_Fail k D) k r_num_Reader_Fail [] [] args h) = num_Reader_Fail k D := by kernel_rfl
theorem ok_num_Reader_Fail {D : CallF} (hD : CSound Try.prog 0 D) (k : Nat) : EntOk Try.prog 0 (e_num_Reader_Fail k D) :=
 entOf_ok2 (mkC_sound hD (EntsOk.none)) Try.func106 rfl q_num_Reader_Fail rfl (t_num_Reader_Fail k D)
end Gc
namespace Gc
open Go Gx Go.Proofs
set_option maxRecDepth 100000
noncomputable def C_num_Reader_Left (_k : Nat) (D : CallF) : CallF := mkC D []
noncomputable def num_Reader_Left (_k : Nat) (_D : CallF) (r_0 : Option Addr) (h : AHeap) : Option ((Int) × AHeap) :=
 (r_0).bind fun p1 =>
 (ldS (⟨p1.block, p1.off + 0, none⟩ : Addr) h).bind fun x2 =>
 some ((x2.size : Int), h)
noncomputable def r_num_Reader_Left : RCode := an (.n) (rOf Try.prog 0 Try.f107)
noncomputable def e_num_Reader_Left (k : Nat) (D : CallF) : Ent := entOf 107 [(0, .p)] [(2, .i .i64)] (num_Reader_Left k D)
theorem q_num_Reader_Left : (Try.f107.body).bind (rcodeOf Try.prog 0 Try.f107.ntmps) = some (strip r_num_Reader_Left) := by kernel_rfl
theorem t_num_Reader_Left (k : Nat) (D : CallF) : curF [(0, .p)] (fun args h => denF (C_num_Reader_Left k D) k r_num_Reader_Left [(2, .i .i64)] [none] args h) = num_Reader_Left k D := by kernel_rfl
theorem ok_num_Reader_Left {D : CallF} (hD : CSound Try.prog 0 D) (k : Nat) : EntOk Try.prog 0 (e_num_Reader_Left k D) :=
 entOf_ok2 (mkC_sound hD (EntsOk.none)) Try.func107 rfl q_num_Reader_Left rfl (t_num_Reader_Left k D)
end Gc
namespace Gc
open Go Gx Go.Proofs
set_option maxRecDepth 100000
noncomputable def C_num_Reader_Bytes (k : Nat) (D : CallF) : CallF := mkC D [e_num_Reader_Fail k D, e_num_Reader_Left k D]
noncomputable def num_Reader_Bytes (k : Nat) (D : CallF) (r_0 : Option Addr) (n_1 : Int) (h : AHeap) : Option ((ByteArray) × AHeap) :=
 joinK (fun (r1 : Option Addr) (n2 : Int) (h3 : AHeap) =>
 (r1).bind fun p5 =>
 (ldI .i64 (⟨p5.block, p5.off + 1, none⟩ : Addr) h3).bind fun x6 =>
 (if (x6 != 0) = true then
 some ((⟨#[]⟩ : ByteArray), h3)
 else
 (r1).bind fun p7 =>
 (ldS (⟨p7.block, p7.off + 0, none⟩ : Addr) h3).bind fun x8 =>
 (Gx.subS x8 none (some n2)).bind fun s9 =>
 (r1).bind fun p10 =>
 (ldS (⟨p10.block, p10.off + 0, none⟩ : Addr) h3).bind fun x11 =>
 (Gx.subS x11 (some n2) none).bind fun s12 =>
 (r1).bind fun p13 =>
 (st1 (⟨p13.block, p13.off + 0, none⟩ : Addr) (.string s12) h3).bind fun h14 =>
 some (s9, h14))) fun j4 =>
 (if (decide (n_1 < 0)) = true then
 (num_Reader_Fail k D r_0 1 h).bind fun r15 =>
 j4 r_0 n_1 r15.2
 else
 (num_Reader_Left k D r_0 h).bind fun r16 =>
 (if (decide (n_1 > r16.1)) = true then
 (num_Reader_Fail k D r_0 10 r16.2).bind fun r17 =>
 j4 r_0 n_1 r17.2
 else
 j4 r_0 n_1 r16.2))
noncomputable def r_num_Reader_Bytes : RCode := an (.s .n (.s (.j [(0, .p), (1, .i .i64)] .n) .n)) (rOf Try.prog 0 Try.f57)
noncomputable def e_num_Reader_Bytes (k : Nat) (D : CallF) : Ent := entOf 57 [(0, .p), (1, .i .i64)] [(4, .s)] (num_Reader_Bytes k D)
theorem q_num_Reader_Bytes : (Try.f57.body).bind (rcodeOf Try.prog 0 Try.f57.ntmps) = some (strip r_num_Reader_Bytes) := by kernel_rfl
theorem t_num_Reader_Bytes (k : Nat) (D : CallF) : curF [(0, .p), (1, .i .i64)] (fun args h => denF (C_num_Reader_Bytes k D) k r_num_Reader_Bytes [(4, .s)] [none] args h) = num_Reader_Bytes k D := by kernel_rfl
theorem ok_num_Reader_Bytes {D : CallF} (hD : CSound Try.prog 0 D) (k : Nat) : EntOk Try.prog 0 (e_num_Reader_Bytes k D) :=
 entOf_ok2 (mkC_sound hD (EntsOk.more (ok_num_Reader_Fail hD k) (EntsOk.more (ok_num_Reader_Left hD k) (EntsOk.none)))) Try.func57 rfl q_num_Reader_Bytes rfl (t_num_Reader_Bytes k D)
end Gc
namespace Gc
open Go Gx Go.Proofs
set_option maxRecDepth 100000
noncomputable def C_index_Decode_1 (k : Nat) (D : CallF) : CallF := mkC D [e_num_Reader_Bytes k D]
noncomputable def index_Decode_1 (k : Nat) (D : CallF) (r_0 : Option Addr) (h : AHeap) : Option ((ByteArray) × AHeap) :=
 (num_Reader_Bytes k D r_0 32 h).bind fun r1 =>
 some (r1.1, r1.2)
noncomputable def r_index_Decode_1 : RCode := an (.n) (rOf Try.prog 0 Try.f56)
noncomputable def e_index_Decode_1 (k : Nat) (D : CallF) : Ent := entOf 56 [(0, .p)] [(2, .s)] (index_Decode_1 k D)
theorem q_index_Decode_1 : (Try.f56.body).bind (rcodeOf Try.prog 0 Try.f56.ntmps) = some (strip r_index_Decode_1) := by kernel_rfl
theorem t_index_Decode_1 (k : Nat) (D : CallF) : curF [(0, .p)] (fun args h => denF (C_index_Decode_1 k D) k r_index_Decode_1 [(2, .s)] [none] args h) = index_Decode_1 k D := by kernel_rfl
theorem ok_index_Decode_1 {D : CallF} (hD : CSound Try.prog 0 D) (k : Nat) : EntOk Try.prog 0 (e_index_Decode_1 k D) :=
 entOf_ok2 (mkC_sound hD (EntsOk.more (ok_num_Reader_Bytes hD k) (EntsOk.none))) Try.func56 rfl q_index_Decode_1 rfl (t_index_Decode_1 k D)
end Gc
namespace Gc
open Go Gx Go.Proofs
set_option maxRecDepth 100000
noncomputable def C_num_Reader_Fixed (k : Nat) (D : CallF) : CallF := mkC D [e_num_Reader_Bytes k D, e_num_Reader_Fail k D]
noncomputable def num_Reader_Fixed_l0b (_k : Nat) (_D : CallF) (j7 : Int → AHeap → Option ((Int) × AHeap)) (rec15 : Int → Slc → Int → Int → AHeap → Option ((Int) × AHeap)) (n10 : Int) (y11 : Slc) (y12 : Int) (y13 : Int) (h14 : AHeap) : Option ((Int) × AHeap) :=
 (if (decide (y13 < y12)) = true then
 (Gx.idxL 1 y11 y13).bind fun q16 =>
 (ldI .u8 q16 h14).bind fun x17 =>
 let t18 : Int := (Go.bits .or .i64 (IntKind.wrap .i64 (n10 * 256)) (IntKind.wrap .i64 x17))
 rec15 t18 y11 y12 (IntKind.wrap .i64 (y13 + 1)) h14
 else
 j7 n10 h14)
noncomputable def num_Reader_Fixed_l0 (k : Nat) (D : CallF) (j7 : Int → AHeap → Option ((Int) × AHeap)) : Int → Slc → Int → Int → AHeap → Option ((Int) × AHeap) :=
 iterK (α := Int → Slc → Int → Int → AHeap → Option ((Int) × AHeap)) (fun _ _ _ _ _ => none) k (num_Reader_Fixed_l0b k D j7)
noncomputable def num_Reader_Fixed (k : Nat) (D : CallF) (r_0 : Option Addr) (bytes_1 : Int) (h : AHeap) : Option ((Int) × AHeap) :=
 joinK (fun (r1 : Option Addr) (bytes2 : Int) (h3 : AHeap) =>
 joinK (fun (n5 : Int) (h6 : AHeap) =>
 some (n5, h6)) fun j7 =>
 (num_Reader_Bytes k D r1 bytes2 h3).bind fun r8 =>
 let h9 := AHeap.new r8.2 (.cells (bytesL r8.1) 5 true 18446744073709551616)
 num_Reader_Fixed_l0 k D j7 0 (⟨(some ⟨r8.2.next, 0, some 2⟩), r8.1.size, r8.1.size⟩ : Slc) (r8.1.size : Int) 0 h9) fun j4 =>
 joinK (fun (r19 : Option Addr) (bytes20 : Int) (y21 : Bool) (h22 : AHeap) =>
 (if y21 = true then
 (num_Reader_Fail k D r19 1 h22).bind fun r24 =>
 j4 r19 bytes20 r24.2
 else
 j4 r19 bytes20 h22)) fun j23 =>
 (if (decide (bytes_1 < 1)) = true then
 j23 r_0 bytes_1 true h
 else
 j23 r_0 bytes_1 (decide (bytes_1 > 7)) h)
noncomputable def r_num_Reader_Fixed : RCode := an (.s .n (.s (.j [(0, .p), (1, .i .i64)] (.s (.j [(0, .p), (1, .i .i64), (14, .b)] .n) .n)) (.s .n (.s .n (.s (.j [(6, .i .i64)] (.s (.r [(2, .s)]) (.b (.l [(6, .i .i64), (22, .l), (23, .i .i64), (24, .i .i64)] .n)))) .n))))) (rOf Try.prog 0 Try.f108)
noncomputable def e_num_Reader_Fixed (k : Nat) (D : CallF) : Ent := entOf 108 [(0, .p), (1, .i .i64)] [(4, .i .i64)] (num_Reader_Fixed k D)
theorem q_num_Reader_Fixed : (Try.f108.body).bind (rcodeOf Try.prog 0 Try.f108.ntmps) = some (strip r_num_Reader_Fixed) := by kernel_rfl
theorem t_num_Reader_Fixed (k : Nat) (D : CallF) : curF [(0, .p), (1, .i .i64)] (fun args h => denF (C_num_Reader_Fixed k D) k r_num_Reader_Fixed [(4, .i .i64)] [none] args h) = num_Reader_Fixed k D := by kernel_rfl
theorem ok_num_Reader_Fixed {D : CallF} (hD : CSound Try.prog 0 D) (k : Nat) : EntOk Try.prog 0 (e_num_Reader_Fixed k D) :=
 entOf_ok2 (mkC_sound hD (EntsOk.more (ok_num_Reader_Bytes hD k) (EntsOk.more (ok_num_Reader_Fail hD k) (EntsOk.none)))) Try.func108 rfl q_num_Reader_Fixed rfl (t_num_Reader_Fixed k D)
end Gc
namespace Gc
open Go Gx Go.Proofs
set_option maxRecDepth 100000
noncomputable def C_num_short (_k : Nat) (D : CallF) : CallF := mkC D []
noncomputable def num_short_l0b (_k : Nat) (_D : CallF) (j3 : ByteArray → AHeap → Option ((Int × Int × Int) × AHeap)) (rec9 : ByteArray → Int → Int → Int → AHeap → Option ((Int × Int × Int) × AHeap)) (s4 : ByteArray) (n5 : Int) (y6 : Int) (y7 : Int) (h8 : AHeap) : Option ((Int × Int × Int) × AHeap) :=
 (if (decide (y7 < y6)) = true then
 (Gx.idxS s4 y7).bind fun b10 =>
 (if 0 ≤ (IntKind.wrap .i64 (7 * y7)) then
 let t11 : Int := (IntKind.wrap .i64 ((Go.bits .andNot .i64 (IntKind.wrap .i64 b10) 128) * 2 ^ (min ((IntKind.wrap .i64 (7 * y7))).toNat (IntKind.bits .i64))))
 (if (decide ((IntKind.wrap .i64 b10) ≥ 128)) = true then
 rec9 s4 (Go.bits .or .i64 n5 t11) y6 (IntKind.wrap .i64 (y7 + 1)) h8
 else
 joinK (fun (n12 : Int) (i13 : Int) (y14 : Bool) (h15 : AHeap) =>
 (if y14 = true then
 some ((0, 0, 3), h15)
 else
 some ((n12, (IntKind.wrap .i64 (i13 + 1)), 0), h15))) fun j16 =>
 (if ((IntKind.wrap .i64 b10) == 0) = true then
 j16 (Go.bits .or .i64 n5 t11) y7 (decide (y7 > 0)) h8
 else
 j16 (Go.bits .or .i64 n5 t11) y7 false h8))
 else none)
 else
 j3 s4 h8)
noncomputable def num_short_l0 (k : Nat) (D : CallF) (j3 : ByteArray → AHeap → Option ((Int × Int × Int) × AHeap)) : ByteArray → Int → Int → Int → AHeap → Option ((Int × Int × Int) × AHeap) :=
 iterK (α := ByteArray → Int → Int → Int → AHeap → Option ((Int × Int × Int) × AHeap)) (fun _ _ _ _ _ => none) k (num_short_l0b k D j3)
noncomputable def num_short (k : Nat) (D : CallF) (s_0 : ByteArray) (h : AHeap) : Option ((Int × Int × Int) × AHeap) :=
 joinK (fun (s1 : ByteArray) (h2 : AHeap) =>
 (if (decide ((s1.size : Int) < 9)) = true then
 some ((0, 0, 10), h2)
 else
 some ((0, 0, 3), h2))) fun j3 =>
 num_short_l0 k D j3 s_0 0 (if 9 < (s_0.size : Int) then 9 else (s_0.size : Int)) 0 h
noncomputable def r_num_short : RCode := an (.s .n (.s (.j [(0, .s)] (.s .n (.b (.l [(0, .s), (2, .i .i64), (9, .i .i64), (10, .i .i64)] (.s .n (.s .n (.s (.b (.s .n (.s .n (.s .n (.b (.s .n (.s .n (.s (.j [(2, .i .i64), (5, .i .i64), (30, .b)] .n) .n)))))))) .n))))))) .n)) (rOf Try.prog 0 Try.f133)
noncomputable def e_num_short (k : Nat) (D : CallF) : Ent := entOf 133 [(0, .s)] [(2, .i .i64), (3, .i .i64), (4, .i .i64)] (num_short k D)
theorem q_num_short : (Try.f133.body).bind (rcodeOf Try.prog 0 Try.f133.ntmps) = some (strip r_num_short) := by kernel_rfl
theorem t_num_short (k : Nat) (D : CallF) : curF [(0, .s)] (fun args h => denF (C_num_short k D) k r_num_short [(2, .i .i64), (3, .i .i64), (4, .i .i64)] [none, none, none] args h) = num_short k D := by kernel_rfl
theorem ok_num_short {D : CallF} (hD : CSound Try.prog 0 D) (k : Nat) : EntOk Try.prog 0 (e_num_short k D) :=
 entOf_ok2 (mkC_sound hD (EntsOk.none)) Try.func133 rfl q_num_short rfl (t_num_short k D)
end Gc
namespace Gc
open Go Gx Go.Proofs
set_option maxRecDepth 100000
noncomputable def C_num_Reader_Short (k : Nat) (D : CallF) : CallF := mkC D [e_num_short k D, e_num_Reader_Fail k D]
noncomputable def num_Reader_Short (k : Nat) (D : CallF) (r_0 : Option Addr) (most_1 : Int) (h : AHeap) : Option ((Int) × AHeap) :=
 (r_0).bind fun p1 =>
 (ldS (⟨p1.block, p1.off + 0, none⟩ : Addr) h).bind fun x2 =>
 (num_short k D x2 h).bind fun r3 =>
 joinK (fun (r4 : Option Addr) (n5 : Int) (long6 : Int) (e7 : Int) (h8 : AHeap) =>
 (num_Reader_Fail k D r4 e7 h8).bind fun r10 =>
 (r4).bind fun p11 =>
 (ldI .i64 (⟨p11.block, p11.off + 1, none⟩ : Addr) r10.2).bind fun x12 =>
 (if (x12 != 0) = true then
 some (0, r10.2)
 else
 (r4).bind fun p13 =>
 (ldS (⟨p13.block, p13.off + 0, none⟩ : Addr) r10.2).bind fun x14 =>
 (Gx.subS x14 (some long6) none).bind fun s15 =>
 (r4).bind fun p16 =>
 (st1 (⟨p16.block, p16.off + 0, none⟩ : Addr) (.string s15) r10.2).bind fun h17 =>
 some (n5, h17))) fun j9 =>
 joinK (fun (r18 : Option Addr) (n19 : Int) (long20 : Int) (e21 : Int) (y22 : Bool) (h23 : AHeap) =>
 (if y22 = true then
 j9 r18 n19 long20 2 h23
 else
 j9 r18 n19 long20 e21 h23)) fun j24 =>
 (if (r3.1.2.2 == 0) = true then
 j24 r_0 r3.1.1 r3.1.2.1 r3.1.2.2 (decide (r3.1.1 > most_1)) r3.2
 else
 j24 r_0 r3.1.1 r3.1.2.1 r3.1.2.2 false r3.2)
noncomputable def r_num_Reader_Short : RCode := an (.s .n (.s .n (.s (.j [(0, .p), (5, .i .i64), (6, .i .i64), (7, .i .i64)] (.s (.j [(0, .p), (5, .i .i64), (6, .i .i64), (7, .i .i64), (23, .b)] .n) .n)) .n))) (rOf Try.prog 0 Try.f104)
noncomputable def e_num_Reader_Short (k : Nat) (D : CallF) : Ent := entOf 104 [(0, .p), (1, .i .i64)] [(4, .i .i64)] (num_Reader_Short k D)
theorem q_num_Reader_Short : (Try.f104.body).bind (rcodeOf Try.prog 0 Try.f104.ntmps) = some (strip r_num_Reader_Short) := by kernel_rfl
theorem t_num_Reader_Short (k : Nat) (D : CallF) : curF [(0, .p), (1, .i .i64)] (fun args h => denF (C_num_Reader_Short k D) k r_num_Reader_Short [(4, .i .i64)] [none] args h) = num_Reader_Short k D := by kernel_rfl
theorem ok_num_Reader_Short {D : CallF} (hD : CSound Try.prog 0 D) (k : Nat) : EntOk Try.prog 0 (e_num_Reader_Short k D) :=
 entOf_ok2 (mkC_sound hD (EntsOk.more (ok_num_short hD k) (EntsOk.more (ok_num_Reader_Fail hD k) (EntsOk.none)))) Try.func104 rfl q_num_Reader_Short rfl (t_num_Reader_Short k D)
end Gc
namespace Gc
open Go Gx Go.Proofs
set_option maxRecDepth 100000
noncomputable def C_index_item (k : Nat) (D : CallF) : CallF := mkC D [e_num_Reader_Bytes k D, e_num_Reader_Fixed k D, e_num_Reader_Short k D]
noncomputable def index_item (k : Nat) (D : CallF) (r_0 : Option Addr) (h : AHeap) : Option (((ByteArray × ByteArray × Int × Int × Int × Int)) × AHeap) :=
 newK h ((.cells [.string ⟨#[]⟩, .string ⟨#[]⟩, .int .i64 0, .int .i64 0, .int .i64 0, .int .i64 0] 57 true 0)) fun h1 =>
 (num_Reader_Bytes k D r_0 32 h1).bind fun r2 =>
 newK r2.2 ((.cells [.string ⟨#[]⟩, .string ⟨#[]⟩, .int .i64 0, .int .i64 0, .int .i64 0, .int .i64 0] 57 true 0)) fun h3 =>
 (stL 6 (⟨r2.2.next, 0, none⟩ : Addr) ([.string r2.1, .string (⟨#[]⟩ : ByteArray), .int .i64 0, .int .i64 0, .int .i64 0, .int .i64 0]) h3).bind fun h4 =>
 (num_Reader_Bytes k D r_0 32 h4).bind fun r5 =>
 (st1 (⟨r2.2.next, 1, none⟩ : Addr) (.string r5.1) r5.2).bind fun h6 =>
 (num_Reader_Fixed k D r_0 1 h6).bind fun r7 =>
 (st1 (⟨r2.2.next, 2, none⟩ : Addr) (.int .i64 r7.1) r7.2).bind fun h8 =>
 (num_Reader_Short k D r_0 65536 h8).bind fun r9 =>
 (st1 (⟨r2.2.next, 3, none⟩ : Addr) (.int .i64 r9.1) r9.2).bind fun h10 =>
 (num_Reader_Short k D r_0 65536 h10).bind fun r11 =>
 (st1 (⟨r2.2.next, 4, none⟩ : Addr) (.int .i64 r11.1) r11.2).bind fun h12 =>
 (num_Reader_Short k D r_0 65536 h12).bind fun r13 =>
 (st1 (⟨r2.2.next, 5, none⟩ : Addr) (.int .i64 r13.1) r13.2).bind fun h14 =>
 (ldA 6 (⟨r2.2.next, 0, none⟩ : Addr) h14).bind fun l15 =>
 (decC [.s, .s, .i .i64, .i .i64, .i .i64, .i .i64] l15).bind fun x16 =>
 (stL 6 (⟨h.next, 0, none⟩ : Addr) ([.string x16.1, .string x16.2.1, .int .i64 x16.2.2.1, .int .i64 x16.2.2.2.1, .int .i64 x16.2.2.2.2.1, .int .i64 x16.2.2.2.2.2]) h14).bind fun h17 =>
 (ldA 6 (⟨h.next, 0, none⟩ : Addr) h17).bind fun l18 =>
 (decC [.s, .s, .i .i64, .i .i64, .i .i64, .i .i64] l18).bind fun x19 =>
 some ((x19.1, x19.2.1, x19.2.2.1, x19.2.2.2.1, x19.2.2.2.2.1, x19.2.2.2.2.2), h17)
noncomputable def r_index_item : RCode := an (.s .n (.s .n (.s .n (.s .n (.s .n (.s .n (.s .n (.s (.r [(0, .st [.s, .s, .i .i64, .i .i64, .i .i64, .i .i64])]) .n)))))))) (rOf Try.prog 0 Try.f59)
noncomputable def e_index_item (k : Nat) (D : CallF) : Ent := entOf 59 [(0, .p)] [(2, .st [.s, .s, .i .i64, .i .i64, .i .i64, .i .i64])] (index_item k D)
theorem q_index_item : (Try.f59.body).bind (rcodeOf Try.prog 0 Try.f59.ntmps) = some (strip r_index_item) := by kernel_rfl
theorem t_index_item (k : Nat) (D : CallF) : curF [(0, .p)] (fun args h => denF (C_index_item k D) k r_index_item [(2, .st [.s, .s, .i .i64, .i .i64, .i .i64, .i .i64])] [some (.agg 6)] args h) = index_item k D := by kernel_rfl
theorem ok_index_item {D : CallF} (hD : CSound Try.prog 0 D) (k : Nat) : EntOk Try.prog 0 (e_index_item k D) :=
 entOf_ok2 (mkC_sound hD (EntsOk.more (ok_num_Reader_Bytes hD k) (EntsOk.more (ok_num_Reader_Fixed hD k) (EntsOk.more (ok_num_Reader_Short hD k) (EntsOk.none))))) Try.func59 rfl q_index_item rfl (t_index_item k D)
end Gc
namespace Gc
open Go Gx Go.Proofs
noncomputable def e_slices_overlaps_api_Item (_k : Nat) (_D : CallF) : Ent := eOvl 123
theorem ok_slices_overlaps_api_Item {D : CallF} (_hD : CSound Try.prog 0 D) (k : Nat) : EntOk Try.prog 0 (e_slices_overlaps_api_Item k D) :=
 ovl_ok (tS := 23) (tR := 4) (e := 57) (size := 6) Try.func123 rfl rfl rfl (by kernel_rfl) (by kernel_rfl) (fun w => run_sizeOf' (by kernel_rfl) w)
end Gc
namespace Gc
open Go Gx Go.Proofs
set_option maxRecDepth 100000
noncomputable def C_slices_Insert_api_Item_api_Item0 (k : Nat) (D : CallF) : CallF := mkC D [e_slices_overlaps_api_Item k D]
noncomputable def slices_Insert_api_Item_api_Item0 (_k : Nat) (_D : CallF) (s_0 : Slc) (i_1 : Int) (v_2 : Slc) (h : AHeap) : Option ((Slc) × AHeap) :=
 (Gx.subL 6 s_0 (some i_1) none none).bind fun _l1 =>
 (if ((v_2.len : Int) == 0) = true then
 some (s_0, h)
 else
 (if (i_1 == (s_0.len : Int)) = true then
 (rdS 6 v_2 h).bind fun n3 =>
 (appendA 6 64 57 h s_0 n3 v_2.len).bind fun r2 =>
 some (r2.1, r2.2)
 else
 (capOf s_0).bind fun c4 =>
 (if (decide ((IntKind.wrap .i64 ((s_0.len : Int) + (v_2.len : Int))) > c4)) = true then
 (Gx.subL 6 s_0 none (some i_1) none).bind fun l5 =>
 let t6 : Int := (IntKind.wrap .i64 ((IntKind.wrap .i64 ((s_0.len : Int) + (v_2.len : Int))) - i_1))
 (if 0 ≤ t6 ∧ t6 ≤ 281474976710656 ∧ t6 * 64 ≤ 281474976710656 then
 (appendA 6 64 57 h l5 (zerosL (t6).toNat [.string ⟨#[]⟩, .string ⟨#[]⟩, .int .i64 0, .int .i64 0, .int .i64 0, .int .i64 0]) (t6).toNat).bind fun r7 =>
 (Gx.subL 6 r7.1 (some i_1) none none).bind fun l8 =>
 (rdS 6 v_2 r7.2).bind fun n10 =>
 (copyA 6 r7.2 l8 (min v_2.len l8.len) n10).bind fun h9 =>
 (Gx.subL 6 r7.1 (some (IntKind.wrap .i64 (i_1 + (v_2.len : Int)))) none none).bind fun l11 =>
 (Gx.subL 6 s_0 (some i_1) none none).bind fun l12 =>
 (rdS 6 l12 h9).bind fun n14 =>
 (copyA 6 h9 l11 (min l12.len l11.len) n14).bind fun h13 =>
 some (r7.1, h13)
 else none)
 else
 (Gx.subL 6 s_0 none (some (IntKind.wrap .i64 ((s_0.len : Int) + (v_2.len : Int)))) none).bind fun l15 =>
 (Gx.subL 6 l15 (some (IntKind.wrap .i64 (i_1 + (v_2.len : Int)))) none none).bind fun l16 =>
 (ovA v_2 l16 h).bind fun _ =>
 (Gx.subL 6 l15 (some (IntKind.wrap .i64 (i_1 + (v_2.len : Int)))) none none).bind fun l17 =>
 (Gx.subL 6 l15 (some i_1) none none).bind fun l18 =>
 (rdS 6 l18 h).bind fun n20 =>
 (copyA 6 h l17 (min l18.len l17.len) n20).bind fun h19 =>
 (Gx.subL 6 l15 (some i_1) none none).bind fun l21 =>
 (rdS 6 v_2 h19).bind fun n23 =>
 (copyA 6 h19 l21 (min v_2.len l21.len) n23).bind fun h22 =>
 some (l15, h22))))
noncomputable def r_slices_Insert_api_Item_api_Item0 : RCode := an (.n) (rOf Try.prog 0 Try.f81)
noncomputable def e_slices_Insert_api_Item_api_Item0 (k : Nat) (D : CallF) : Ent := entOf 81 [(0, .l), (1, .i .i64), (2, .l)] [(6, .l)] (slices_Insert_api_Item_api_Item0 k D)
theorem q_slices_Insert_api_Item_api_Item0 : (Try.f81.body).bind (rcodeOf Try.prog 0 Try.f81.ntmps) = some (strip r_slices_Insert_api_Item_api_Item0) := by kernel_rfl
theorem t_slices_Insert_api_Item_api_Item0 (k : Nat) (D : CallF) : curF [(0, .l), (1, .i .i64), (2, .l)] (fun args h => denF (C_slices_Insert_api_Item_api_Item0 k D) k r_slices_Insert_api_Item_api_Item0 [(6, .l)] [none] args h) = slices_Insert_api_Item_api_Item0 k D := by kernel_rfl
theorem ok_slices_Insert_api_Item_api_Item0 {D : CallF} (hD : CSound Try.prog 0 D) (k : Nat) : EntOk Try.prog 0 (e_slices_Insert_api_Item_api_Item0 k D) :=
 entOf_ok2 (mkC_sound hD (EntsOk.more (ok_slices_overlaps_api_Item hD k) (EntsOk.none))) Try.func81 rfl q_slices_Insert_api_Item_api_Item0 rfl (t_slices_Insert_api_Item_api_Item0 k D)
noncomputable def slices_Insert_api_Item_api_Item (k : Nat) (D : CallF) (s : Slc) (i : Int) (v : Slc) (h : AHeap) : Option (Slc × AHeap) := insA 6 64 57 (slices_Insert_api_Item_api_Item0 k D) s i v h
noncomputable def e_slices_Insert_api_Item_api_Item (k : Nat) (D : CallF) : Ent := entOf 81 [(0, .l), (1, .i .i64), (2, .l)] [(6, .l)] (slices_Insert_api_Item_api_Item k D)
theorem f_slices_Insert_api_Item_api_Item0 (k : Nat) (D : CallF) : slices_Insert_api_Item_api_Item0 k D = insF 6 64 57 [.string ⟨#[]⟩, .string ⟨#[]⟩, .int .i64 0, .int .i64 0, .int .i64 0, .int .i64 0] := rfl
theorem ok_slices_Insert_api_Item_api_Item {D : CallF} (hD : CSound Try.prog 0 D) (k : Nat) : EntOk Try.prog 0 (e_slices_Insert_api_Item_api_Item k D) :=
 ins_ok (ok_slices_Insert_api_Item_api_Item0 hD k) (f_slices_Insert_api_Item_api_Item0 k D) rfl rfl
end Gc
namespace Gc
open Go Gx Go.Proofs
set_option maxRecDepth 100000
noncomputable def C_lookup_New (_k : Nat) (D : CallF) : CallF := mkC D []
noncomputable def lookup_New (_k : Nat) (_D : CallF)  (h : AHeap) : Option (((Option Addr)) × AHeap) :=
 newK h ((.cells (List.replicate 256 (.slice none 0 0)) 123 true 0)) fun h1 =>
 some ((some (⟨h.next, 0, none⟩ : Addr)), h1)
noncomputable def r_lookup_New : RCode := an (.n) (rOf Try.prog 0 Try.f33)
noncomputable def e_lookup_New (k : Nat) (D : CallF) : Ent := entOf 33 [] [(0, .p)] (lookup_New k D)
theorem q_lookup_New : (Try.f33.body).bind (rcodeOf Try.prog 0 Try.f33.ntmps) = some (strip r_lookup_New) := by kernel_rfl
theorem t_lookup_New (k : Nat) (D : CallF) : curF [] (fun args h => denF (C_lookup_New k D) k r_lookup_New [(0, .p)] [none] args h) = lookup_New k D := by kernel_rfl
theorem ok_lookup_New {D : CallF} (hD : CSound Try.prog 0 D) (k : Nat) : EntOk Try.prog 0 (e_lookup_New k D) :=
 entOf_ok2 (mkC_sound hD (EntsOk.none)) Try.func33 rfl q_lookup_New rfl (t_lookup_New k D)
end Gc
namespace Gc
open Go Gx Go.Proofs
set_option maxRecDepth 100000
noncomputable def C_lookup_Table_list (_k : Nat) (D : CallF) : CallF := mkC D []
noncomputable def lookup_Table_list (_k : Nat) (_D : CallF) (t_0 : Option Addr) (id_1 : ByteArray) (h : AHeap) : Option (((Option Addr)) × AHeap) :=
 (if (id_1 == (⟨#[]⟩ : ByteArray)) = true then
 (t_0).bind fun p1 =>
 some ((some (⟨p1.block, p1.off + 0 + 0, none⟩ : Addr)), h)
 else
 (Gx.idxS id_1 0).bind fun b3 =>
 (t_0).bind fun p4 =>
 (Gx.idxA 256 1 (⟨p4.block, p4.off + 0, none⟩ : Addr) b3).bind fun q5 =>
 some ((some q5), h))
noncomputable def r_lookup_Table_list : RCode := an (.n) (rOf Try.prog 0 Try.f79)
noncomputable def e_lookup_Table_list (k : Nat) (D : CallF) : Ent := entOf 79 [(0, .p), (1, .s)] [(4, .p)] (lookup_Table_list k D)
theorem q_lookup_Table_list : (Try.f79.body).bind (rcodeOf Try.prog 0 Try.f79.ntmps) = some (strip r_lookup_Table_list) := by kernel_rfl
theorem t_lookup_Table_list (k : Nat) (D : CallF) : curF [(0, .p), (1, .s)] (fun args h => denF (C_lookup_Table_list k D) k r_lookup_Table_list [(4, .p)] [none] args h) = lookup_Table_list k D := by kernel_rfl
theorem ok_lookup_Table_list {D : CallF} (hD : CSound Try.prog 0 D) (k : Nat) : EntOk Try.prog 0 (e_lookup_Table_list k D) :=
 entOf_ok2 (mkC_sound hD (EntsOk.none)) Try.func79 rfl q_lookup_Table_list rfl (t_lookup_Table_list k D)
end Gc
namespace Gc
open Go Gx Go.Proofs
set_option maxRecDepth 100000
noncomputable def C_lookup_Table_Add (k : Nat) (D : CallF) : CallF := mkC D [e_lookup_Table_list k D, e_slices_BinarySearchFunc_api_Item_api_Item_api_Item k D, e_slices_Insert_api_Item_api_Item k D, e_lookup_Check k D]
noncomputable def lookup_Table_Add_l1b (k : Nat) (D : CallF) (j4 : (Option Addr) → Slc → AHeap → Option ((Int) × AHeap)) (rec47 : (Option Addr) → Slc → Slc → Int → Int → AHeap → Option ((Int) × AHeap)) (t41 : Option Addr) (items42 : Slc) (y43 : Slc) (y44 : Int) (y45 : Int) (h46 : AHeap) : Option ((Int) × AHeap) :=
 (if (decide (y45 < y44)) = true then
 (Gx.idxL 6 y43 y45).bind fun q48 =>
 (ldA 6 q48 h46).bind fun l49 =>
 (decC [.s, .s, .i .i64, .i .i64, .i .i64, .i .i64] l49).bind fun x50 =>
 newK h46 ((.cells [.string ⟨#[]⟩, .string ⟨#[]⟩, .int .i64 0, .int .i64 0, .int .i64 0, .int .i64 0] 57 true 0)) fun h51 =>
 (stL 6 (⟨h46.next, 0, none⟩ : Addr) ([.string x50.1, .string x50.2.1, .int .i64 x50.2.2.1, .int .i64 x50.2.2.2.1, .int .i64 x50.2.2.2.2.1, .int .i64 x50.2.2.2.2.2]) h51).bind fun h52 =>
 (ldA 6 (⟨h46.next, 0, none⟩ : Addr) h52).bind fun l53 =>
 (decC [.s, .s, .i .i64, .i .i64, .i .i64, .i .i64] l53).bind fun x54 =>
 (lookup_Check k D (x54.1, x54.2.1, x54.2.2.1, x54.2.2.2.1, x54.2.2.2.2.1, x54.2.2.2.2.2) h52).bind fun r55 =>
 (if (r55.1 != 0) = true then
 some (r55.1, r55.2)
 else
 rec47 t41 items42 y43 y44 (IntKind.wrap .i64 (y45 + 1)) r55.2)
 else
 j4 t41 items42 h46)
noncomputable def lookup_Table_Add_l1 (k : Nat) (D : CallF) (j4 : (Option Addr) → Slc → AHeap → Option ((Int) × AHeap)) : (Option Addr) → Slc → Slc → Int → Int → AHeap → Option ((Int) × AHeap) :=
 iterK (α := (Option Addr) → Slc → Slc → Int → Int → AHeap → Option ((Int) × AHeap)) (fun _ _ _ _ _ _ => none) k (lookup_Table_Add_l1b k D j4)
noncomputable def lookup_Table_Add_l0b (k : Nat) (D : CallF) (j6 : AHeap → Option ((Int) × AHeap)) (rec12 : (Option Addr) → Slc → Int → Int → AHeap → Option ((Int) × AHeap)) (t7 : Option Addr) (y8 : Slc) (y9 : Int) (y10 : Int) (h11 : AHeap) : Option ((Int) × AHeap) :=
 (if (decide (y10 < y9)) = true then
 joinK (fun (t13 : Option Addr) (y14 : Slc) (y15 : Int) (y16 : Int) (h17 : AHeap) =>
 rec12 t13 y14 y15 (IntKind.wrap .i64 (y16 + 1)) h17) fun j18 =>
 (Gx.idxL 6 y8 y10).bind fun q19 =>
 (ldA 6 q19 h11).bind fun l20 =>
 (decC [.s, .s, .i .i64, .i .i64, .i .i64, .i .i64] l20).bind fun x21 =>
 newK h11 ((.cells [.string ⟨#[]⟩, .string ⟨#[]⟩, .int .i64 0, .int .i64 0, .int .i64 0, .int .i64 0] 57 true 0)) fun h22 =>
 (stL 6 (⟨h11.next, 0, none⟩ : Addr) ([.string x21.1, .string x21.2.1, .int .i64 x21.2.2.1, .int .i64 x21.2.2.2.1, .int .i64 x21.2.2.2.2.1, .int .i64 x21.2.2.2.2.2]) h22).bind fun h23 =>
 (ldS (⟨h11.next, 0, none⟩ : Addr) h23).bind fun x24 =>
 (lookup_Table_list k D t7 x24 h23).bind fun r25 =>
 (r25.1).bind fun p26 =>
 (ldL p26 r25.2).bind fun x27 =>
 (ldA 6 (⟨h11.next, 0, none⟩ : Addr) r25.2).bind fun l28 =>
 (decC [.s, .s, .i .i64, .i .i64, .i .i64, .i .i64] l28).bind fun x29 =>
 (slices_BinarySearchFunc_api_Item_api_Item_api_Item k D x27 (x29.1, x29.2.1, x29.2.2.1, x29.2.2.2.1, x29.2.2.2.2.1, x29.2.2.2.2.2) (.func (.func 78) ⟨[]⟩ ⟨[]⟩) r25.2).bind fun r30 =>
 (if (!r30.1.2) = true then
 (ldA 6 (⟨h11.next, 0, none⟩ : Addr) r30.2).bind fun l31 =>
 (decC [.s, .s, .i .i64, .i .i64, .i .i64, .i .i64] l31).bind fun x32 =>
 newK r30.2 ((.cells [.string x32.1, .string x32.2.1, .int .i64 x32.2.2.1, .int .i64 x32.2.2.2.1, .int .i64 x32.2.2.2.2.1, .int .i64 x32.2.2.2.2.2] 57 true 0)) fun h33 =>
 (r25.1).bind fun p34 =>
 (ldL p34 h33).bind fun x35 =>
 guardP (SameW [r30.2] (fun H37 => (ldL p34 H37).bind fun y36 => some (.slice y36.a y36.len y36.cap)) (.slice x35.a x35.len x35.cap)) (
 (slices_Insert_api_Item_api_Item k D x35 r30.1.1 (⟨(some ⟨r30.2.next, 0, some 0⟩), 1, 1⟩ : Slc) h33).bind fun r38 =>
 (r25.1).bind fun p39 =>
 (st1 p39 (.slice r38.1.a r38.1.len r38.1.cap) r38.2).bind fun h40 =>
 j18 t7 y8 y9 y10 h40)
 else
 j18 t7 y8 y9 y10 r30.2)
 else
 j6 h11)
noncomputable def lookup_Table_Add_l0 (k : Nat) (D : CallF) (j6 : AHeap → Option ((Int) × AHeap)) : (Option Addr) → Slc → Int → Int → AHeap → Option ((Int) × AHeap) :=
 iterK (α := (Option Addr) → Slc → Int → Int → AHeap → Option ((Int) × AHeap)) (fun _ _ _ _ _ => none) k (lookup_Table_Add_l0b k D j6)
noncomputable def lookup_Table_Add (k : Nat) (D : CallF) (t_0 : Option Addr) (items_1 : Slc) (h : AHeap) : Option ((Int) × AHeap) :=
 joinK (fun (t1 : Option Addr) (items2 : Slc) (h3 : AHeap) =>
 joinK (fun (h5 : AHeap) =>
 some (0, h5)) fun j6 =>
 lookup_Table_Add_l0 k D j6 t1 items2 (items2.len : Int) 0 h3) fun j4 =>
 lookup_Table_Add_l1 k D j4 t_0 items_1 items_1 (items_1.len : Int) 0 h
noncomputable def r_lookup_Table_Add : RCode := an (.s .n (.s (.j [(0, .p), (1, .l)] (.s .n (.b (.l [(0, .p), (1, .l), (13, .l), (14, .i .i64), (15, .i .i64)] (.s .n (.s .n (.s (.b (.s (.r [(1, .st [.s, .s, .i .i64, .i .i64, .i .i64, .i .i64])]) (.s (.r [(0, .st [.s, .s, .i .i64, .i .i64, .i .i64, .i .i64])]) .n))) .n))))))) (.s (.j [] (.s .n (.b (.l [(0, .p), (25, .l), (26, .i .i64), (27, .i .i64)] (.s .n (.s .n (.s (.j [(0, .p), (25, .l), (26, .i .i64), (27, .i .i64)] (.b (.s (.r [(1, .st [.s, .s, .i .i64, .i .i64, .i .i64, .i .i64])]) (.s .n (.s (.r [(3, .st [.s, .s, .i .i64, .i .i64, .i .i64, .i .i64])]) (.s .n (.s (.r [(0, .st [.s, .s, .i .i64, .i .i64, .i .i64, .i .i64])]) .n))))))) .n))))))) .n))) (rOf Try.prog 0 Try.f34)
noncomputable def e_lookup_Table_Add (k : Nat) (D : CallF) : Ent := entOf 34 [(0, .p), (1, .l)] [(4, .i .i64)] (lookup_Table_Add k D)
theorem q_lookup_Table_Add : (Try.f34.body).bind (rcodeOf Try.prog 0 Try.f34.ntmps) = some (strip r_lookup_Table_Add) := by kernel_rfl
theorem t_lookup_Table_Add (k : Nat) (D : CallF) : curF [(0, .p), (1, .l)] (fun args h => denF (C_lookup_Table_Add k D) k r_lookup_Table_Add [(4, .i .i64)] [none] args h) = lookup_Table_Add k D := by kernel_rfl
theorem ok_lookup_Table_Add {D : CallF} (hD : CSound Try.prog 0 D) (k : Nat) : EntOk Try.prog 0 (e_lookup_Table_Add k D) :=
 entOf_ok2 (mkC_sound hD (EntsOk.more (ok_lookup_Table_list hD k) (EntsOk.more (ok_slices_BinarySearchFunc_api_Item_api_Item_api_Item hD k) (EntsOk.more (ok_slices_Insert_api_Item_api_Item hD k) (EntsOk.more (ok_lookup_Check hD k) (EntsOk.none)))))) Try.func34 rfl q_lookup_Table_Add rfl (t_lookup_Table_Add k D)
end Gc
namespace Gc
open Go Gx Go.Proofs
set_option maxRecDepth 100000
end Gc
namespace Gc
open Go Gx Go.Proofs
set_option maxRecDepth 100000
end Gc
namespace Gc
open Go Gx Go.Proofs
set_option maxRecDepth 100000
end Gc
namespace Gc
open Go Gx Go.Proofs
set_option maxRecDepth 100000
end Gc
namespace Gc
open Go Gx Go.Proofs
set_option maxRecDepth 100000
end Gc
namespace Gc
open Go Gx Go.Proofs
set_option maxRecDepth 100000
noncomputable def C_book_Among (_k : Nat) (D : CallF) : CallF := mkC D []
noncomputable def book_Among (_k : Nat) (_D : CallF) (x_0 : Int) (n_1 : Int) (h : AHeap) : Option ((Int) × AHeap) :=
 (if n_1 = 0 then none else
 (if n_1 = 0 then none else
 let t1 : Int := (Int.tmod (IntKind.wrap .i64 ((Int.tmod x_0 n_1) + n_1)) n_1)
 some (t1, h)))
noncomputable def r_book_Among : RCode := an (.n) (rOf Try.prog 0 Try.f26)
noncomputable def e_book_Among (k : Nat) (D : CallF) : Ent := entOf 26 [(0, .i .i64), (1, .i .i64)] [(4, .i .i64)] (book_Among k D)
theorem q_book_Among : (Try.f26.body).bind (rcodeOf Try.prog 0 Try.f26.ntmps) = some (strip r_book_Among) := by kernel_rfl
theorem t_book_Among (k : Nat) (D : CallF) : curF [(0, .i .i64), (1, .i .i64)] (fun args h => denF (C_book_Among k D) k r_book_Among [(4, .i .i64)] [none] args h) = book_Among k D := by kernel_rfl
theorem ok_book_Among {D : CallF} (hD : CSound Try.prog 0 D) (k : Nat) : EntOk Try.prog 0 (e_book_Among k D) :=
 entOf_ok2 (mkC_sound hD (EntsOk.none)) Try.func26 rfl q_book_Among rfl (t_book_Among k D)
end Gc
namespace Go.Proofs
open Go.Shelf
def Try.lays105_ren : Go.Shelf.Ren := ⟨fun | 105 => 27 | 212 => 70 | 99 => 71 | 165 => 72 | 166 => 73 | 170 => 74 | 169 => 75 | 263 => 115 | 264 => 116 | 206 => 117 | 240 => 118 | 241 => 119 | 276 => 135 | 277 => 136 | n => n, fun | 9 => 9 | 3 => 3 | 4 => 4 | 20 => 20 | 0 => 0 | 46 => 105 | 109 => 106 | 5 => 5 | 72 => 111 | 76 => 115 | 51 => 147 | 146 => 148 | 53 => 150 | 148 => 151 | 70 => 109 | 37 => 52 | 75 => 114 | 127 => 153 | 164 => 166 | 80 => 117 | n => n, fun | n => n⟩
theorem Try.lays105 : Go.Proofs.Lays.n105 Try.prog Try.lays105_ren := {
 mixed := by kernel_rfl
 f99 := Try.func71.trans (congrArg some (by kernel_rfl))
 f105 := Try.func27.trans (congrArg some (by kernel_rfl))
 f165 := Try.func72.trans (congrArg some (by kernel_rfl))
 f166 := Try.func73.trans (congrArg some (by kernel_rfl))
 f169 := Try.func75.trans (congrArg some (by kernel_rfl))
 f170 := Try.func74.trans (congrArg some (by kernel_rfl))
 f206 := Try.func117.trans (congrArg some (by kernel_rfl))
 f212 := Try.func70.trans (congrArg some (by kernel_rfl))
 f240 := Try.func118.trans (congrArg some (by kernel_rfl))
 f241 := Try.func119.trans (congrArg some (by kernel_rfl))
 f263 := Try.func115.trans (congrArg some (by kernel_rfl))
 f264 := Try.func116.trans (congrArg some (by kernel_rfl))
 f276 := Try.func135.trans (congrArg some (by kernel_rfl))
 f277 := Try.func136.trans (congrArg some (by kernel_rfl))
 t0 := Try.underlying0
 a0 := Try.isAgg0
 z0 := Try.sizeOf0
 v0 := Try.zeroValue0
 t3 := Try.underlying3
 a3 := Try.isAgg3
 z3 := Try.sizeOf3
 v3 := Try.zeroValue3
 t4 := Try.underlying4
 a4 := Try.isAgg4
 z4 := Try.sizeOf4
 v4 := Try.zeroValue4
 t5 := Try.underlying5
 a5 := Try.isAgg5
 z5 := Try.sizeOf5
 v5 := Try.zeroValue5
 t9 := Try.underlying9
 a9 := Try.isAgg9
 z9 := Try.sizeOf9
 v9 := Try.zeroValue9
 t20 := Try.underlying20
 a20 := Try.isAgg20
 z20 := Try.sizeOf20
 v20 := Try.zeroValue20
 t37 := Try.underlying52
 a37 := Try.isAgg52
 z37 := Try.sizeOf52
 v37 := Try.zeroValue52
 t46 := Try.underlying105
 a46 := Try.isAgg105
 z46 := Try.sizeOf105
 v46 := Try.zeroValue105
 t51 := Try.underlying147
 a51 := Try.isAgg147
 z51 := Try.sizeOf147
 v51 := Try.zeroValue147
 t53 := Try.underlying150
 a53 := Try.isAgg150
 z53 := Try.sizeOf150
 v53 := Try.zeroValue150
 t70 := Try.underlying109
 a70 := Try.isAgg109
 z70 := Try.sizeOf109
 v70 := Try.zeroValue109
 t72 := Try.underlying111
 a72 := Try.isAgg111
 z72 := Try.sizeOf111
 v72 := Try.zeroValue111
 t75 := Try.underlying114
 a75 := Try.isAgg114
 z75 := Try.sizeOf114
 v75 := Try.zeroValue114
 t76 := Try.underlying115
 a76 := Try.isAgg115
 z76 := Try.sizeOf115
 v76 := Try.zeroValue115
 t109 := Try.underlying106
 a109 := Try.isAgg106
 z109 := Try.sizeOf106
 v109 := Try.zeroValue106
 t127 := Try.underlying153
 a127 := Try.isAgg153
 z127 := Try.sizeOf153
 v127 := Try.zeroValue153
 t146 := Try.underlying148
 a146 := Try.isAgg148
 z146 := Try.sizeOf148
 v146 := Try.zeroValue148
 t148 := Try.underlying151
 a148 := Try.isAgg151
 z148 := Try.sizeOf151
 v148 := Try.zeroValue151
 t164 := Try.underlying166
 a164 := Try.isAgg166
 z164 := Try.sizeOf166
 v164 := Try.zeroValue166 }
theorem Try.Builder_Extra_105 : Builder.Extra Try.prog Try.lays105_ren := {
 sizeBuilder := by kernel_rfl
 liesBuilder := by kernel_rfl
 t5 := Try.underlying5
 a5 := Try.isAgg5
 z5 := Try.sizeOf5
 v5 := Try.zeroValue5
 infoByte := by kernel_rfl
 cellsByte := by kernel_rfl
 sizeByte := by kernel_rfl
 neB5 := by decide }
end Go.Proofs
namespace Gc
open Go Gx Go.Proofs Go.Shelf
noncomputable def e_strings_Repeat (_k : Nat) (_D : CallF) : Ent := eRepeat 27
theorem ok_strings_Repeat {D : CallF} (_hD : CSound Try.prog 0 D) (k : Nat) : EntOk Try.prog 0 (e_strings_Repeat k D) :=
 repeat_ok (c := _) Try.func27 rfl rfl (fun s n w h1 h2 => Any.strings_Repeat Try.lays105 Try.Builder_Extra_105 s n w h1 h2)
end Gc
namespace Gc
open Go Gx Go.Proofs
set_option maxRecDepth 100000
end Gc
namespace Gc
open Go Gx Go.Proofs
set_option maxRecDepth 100000
end Gc
namespace Gc
open Go Gx Go.Proofs
set_option maxRecDepth 100000
end Gc
namespace Gc
open Go Gx Go.Proofs
set_option maxRecDepth 100000
end Gc
namespace Gc
open Go Gx Go.Proofs
set_option maxRecDepth 100000
noncomputable def C_num_Short (_k : Nat) (D : CallF) : CallF := mkC D []
noncomputable def num_Short_l0b (_k : Nat) (_D : CallF) (j4 : Int → Slc → AHeap → Option ((ByteArray × Int) × AHeap)) (rec12 : Int → Slc → AHeap → Option ((ByteArray × Int) × AHeap)) (n9 : Int) (b10 : Slc) (h11 : AHeap) : Option ((ByteArray × Int) × AHeap) :=
 (if (decide (n9 ≥ 128)) = true then
 newK h11 ((.cells [.int .u8 (Go.bits .or .u8 (IntKind.wrap .u8 n9) 128)] 5 true 0)) fun h13 =>
 (rdS 1 (⟨(some ⟨h11.next, 0, some 0⟩), 1, 1⟩ : Slc) h13).bind fun n15 =>
 (appendA 1 1 5 h13 b10 n15 1).bind fun r14 =>
 rec12 (Int.fdiv n9 128) r14.1 r14.2
 else
 j4 n9 b10 h11)
noncomputable def num_Short_l0 (k : Nat) (D : CallF) (j4 : Int → Slc → AHeap → Option ((ByteArray × Int) × AHeap)) : Int → Slc → AHeap → Option ((ByteArray × Int) × AHeap) :=
 iterK (α := Int → Slc → AHeap → Option ((ByteArray × Int) × AHeap)) (fun _ _ _ => none) k (num_Short_l0b k D j4)
noncomputable def num_Short (k : Nat) (D : CallF) (n_0 : Int) (h : AHeap) : Option ((ByteArray × Int) × AHeap) :=
 (if (decide (n_0 < 0)) = true then
 some (((⟨#[]⟩ : ByteArray), 1), h)
 else
 joinK (fun (n1 : Int) (b2 : Slc) (h3 : AHeap) =>
 newK h3 ((.cells [.int .u8 (IntKind.wrap .u8 n1)] 5 true 0)) fun h5 =>
 (rdS 1 (⟨(some ⟨h3.next, 0, some 0⟩), 1, 1⟩ : Slc) h5).bind fun n7 =>
 (appendA 1 1 5 h5 b2 n7 1).bind fun r6 =>
 (bytesOf r6.2 r6.1).bind fun s8 =>
 some ((s8, 0), r6.2)) fun j4 =>
 num_Short_l0 k D j4 n_0 (⟨none, 0, 0⟩ : Slc) h)
noncomputable def r_num_Short : RCode := an (.s .n (.s .n (.s .n (.s (.j [(0, .i .i64), (4, .l)] (.b (.l [(0, .i .i64), (4, .l)] .n))) .n)))) (rOf Try.prog 0 Try.f132)
noncomputable def e_num_Short (k : Nat) (D : CallF) : Ent := entOf 132 [(0, .i .i64)] [(2, .s), (3, .i .i64)] (num_Short k D)
theorem q_num_Short : (Try.f132.body).bind (rcodeOf Try.prog 0 Try.f132.ntmps) = some (strip r_num_Short) := by kernel_rfl
theorem t_num_Short (k : Nat) (D : CallF) : curF [(0, .i .i64)] (fun args h => denF (C_num_Short k D) k r_num_Short [(2, .s), (3, .i .i64)] [none, none] args h) = num_Short k D := by kernel_rfl
theorem ok_num_Short {D : CallF} (hD : CSound Try.prog 0 D) (k : Nat) : EntOk Try.prog 0 (e_num_Short k D) :=
 entOf_ok2 (mkC_sound hD (EntsOk.none)) Try.func132 rfl q_num_Short rfl (t_num_Short k D)
end Gc
namespace Gc
open Go Gx Go.Proofs
set_option maxRecDepth 100000
noncomputable def C_index_short (k : Nat) (D : CallF) : CallF := mkC D [e_num_Short k D]
noncomputable def index_short (k : Nat) (D : CallF) (n_0 : Int) (h : AHeap) : Option ((ByteArray) × AHeap) :=
 (num_Short k D n_0 h).bind fun r1 =>
 some (r1.1.1, r1.2)
noncomputable def r_index_short : RCode := an (.n) (rOf Try.prog 0 Try.f99)
noncomputable def e_index_short (k : Nat) (D : CallF) : Ent := entOf 99 [(0, .i .i64)] [(2, .s)] (index_short k D)
theorem q_index_short : (Try.f99.body).bind (rcodeOf Try.prog 0 Try.f99.ntmps) = some (strip r_index_short) := by kernel_rfl
theorem t_index_short (k : Nat) (D : CallF) : curF [(0, .i .i64)] (fun args h => denF (C_index_short k D) k r_index_short [(2, .s)] [none] args h) = index_short k D := by kernel_rfl
theorem ok_index_short {D : CallF} (hD : CSound Try.prog 0 D) (k : Nat) : EntOk Try.prog 0 (e_index_short k D) :=
 entOf_ok2 (mkC_sound hD (EntsOk.more (ok_num_Short hD k) (EntsOk.none))) Try.func99 rfl q_index_short rfl (t_index_short k D)
end Gc
namespace Gc
open Go Gx Go.Proofs
set_option maxRecDepth 100000
end Gc
namespace Gc
open Go Gx Go.Proofs Go.RowKit
set_option maxHeartbeats 1000000 in
set_option maxRecDepth 100000 in
theorem cc_used (b o : Nat) (w : World) (h0 : w.cell? ⟨b, o, none⟩ = some (.pointer (some ⟨b, o, none⟩))) :
  Calls Try.prog 118 #[.pointer (some ⟨b, o, none⟩)] w fun e w' => e = .returned (.tuple #[]) ∧ w' = w := by
 obtain ⟨j, hj⟩ : ∃ j, Try.prog.info? 111 = some j := ⟨_, rfl⟩
 go_enter Try.func118, Try.ntmps118
 go_wp2
 rw [Lib.run_neq_ptr_same w _ Try.underlying109 hj]
 go_wp2
 go_end0
 exact ⟨rfl, rfl⟩
set_option maxHeartbeats 1000000 in
set_option maxRecDepth 100000 in
theorem cc_fresh (b o : Nat) (w : World) (T : TypeId) (z : Nat) (h0 : w.cell? ⟨b, o, none⟩ = some (.pointer none)) (hsh : w.shape? b = some (T, z)) (ho : o < z)
  (hl : liesAt Try.prog Try.prog.depth T (z / Try.prog.cellsOf T) o 111 1 = true) (hfz : w.frozen? ⟨b, o, none⟩ = false) :
  Calls Try.prog 118 #[.pointer (some ⟨b, o, none⟩)] w fun e w' => e = .returned (.tuple #[]) ∧ w' = w.setCell ⟨b, o, none⟩ (.pointer (some ⟨b, o, none⟩)) := by
 obtain ⟨j, hj, hjs⟩ : ∃ j, Try.prog.info? 111 = some j ∧ j.size ≠ 0 := ⟨_, rfl, by decide⟩
 go_enter Try.func118, Try.ntmps118
 go_wp2
 rw [Lib.run_to_unsafe w ⟨b, o, none⟩ Try.underlying109 Try.underlying166 hj hjs hsh ho]
 simp only [Result.andThen]
 rw [Oper.upon_value]
 go_wp2
 rw [run_callFunc_extern Try.func135 (by kernel_rfl) (by kernel_rfl) (by kernel_rfl) (e := Extern.AbiNoEscape.same) (by kernel_rfl)]
 rw [Lib.run_noEscape]
 simp only [Result.andThen]
 rw [Oper.upon_value]
 go_wp2
 rw [Lib.run_from_unsafe w ⟨b, o, none⟩ Try.underlying166 Try.underlying109 hj hsh hl]
 simp only [Result.andThen]
 rw [Oper.upon_value]
 go_wp2
 go_end0
 exact ⟨rfl, rfl⟩
def ccTab : List (Nat × Nat × Nat) := [(111, 0, 2)]
theorem ccTab0 : Try.prog.cellsOf 111 = 2 ∧ 0 < 2 ∧ ∀ N, liesAt Try.prog Try.prog.depth 111 (N + 1) 0 111 1 = true := ⟨by kernel_rfl, by decide, fun N => by kernel_rfl⟩
theorem ccTab_ok : ∀ x ∈ ccTab, Try.prog.cellsOf x.1 = x.2.2 ∧ 0 < x.2.2 ∧ ∀ N, liesAt Try.prog Try.prog.depth x.1 (N + 1) x.2.1 111 1 = true := (List.forall_mem_cons.2 ⟨ccTab0, (fun x h => by cases h)⟩)
end Gc
namespace Gc
open Go Gx Go.Proofs
noncomputable def e_strings_Builder_copyCheck (_k : Nat) (_D : CallF) : Ent := eCC 118 ccTab
theorem ok_strings_Builder_copyCheck {D : CallF} (_hD : CSound Try.prog 0 D) (k : Nat) : EntOk Try.prog 0 (e_strings_Builder_copyCheck k D) :=
 cc_ok (c0 := _) Try.func118 rfl rfl cc_used cc_fresh ccTab_ok
end Gc
namespace Gc
open Go Gx Go.Proofs
set_option maxRecDepth 100000
noncomputable def C_strings_Builder_WriteString (k : Nat) (D : CallF) : CallF := mkC D [e_strings_Builder_copyCheck k D]
noncomputable def strings_Builder_WriteString (_k : Nat) (_D : CallF) (b_0 : Option Addr) (s_1 : ByteArray) (h : AHeap) : Option ((Int × Value) × AHeap) :=
 (b_0).bind fun p2 =>
 (ccA ccTab p2 h).bind fun h1 =>
 (b_0).bind fun p3 =>
 (ldL (⟨p3.block, p3.off + 1, none⟩ : Addr) h1).bind fun x4 =>
 (appendA 1 1 5 h1 x4 (bytesL s_1) s_1.size).bind fun r5 =>
 (b_0).bind fun p6 =>
 (st1 (⟨p6.block, p6.off + 1, none⟩ : Addr) (.slice r5.1.a r5.1.len r5.1.cap) r5.2).bind fun h7 =>
 some (((s_1.size : Int), (.nilIface)), h7)
noncomputable def r_strings_Builder_WriteString : RCode := an (.n) (rOf Try.prog 0 Try.f73)
noncomputable def e_strings_Builder_WriteString (k : Nat) (D : CallF) : Ent := entOf 73 [(0, .p), (1, .s)] [(4, .i .i64), (5, .v)] (strings_Builder_WriteString k D)
theorem q_strings_Builder_WriteString : (Try.f73.body).bind (rcodeOf Try.prog 0 Try.f73.ntmps) = some (strip r_strings_Builder_WriteString) := by kernel_rfl
theorem t_strings_Builder_WriteString (k : Nat) (D : CallF) : curF [(0, .p), (1, .s)] (fun args h => denF (C_strings_Builder_WriteString k D) k r_strings_Builder_WriteString [(4, .i .i64), (5, .v)] [none, none] args h) = strings_Builder_WriteString k D := by kernel_rfl
theorem ok_strings_Builder_WriteString {D : CallF} (hD : CSound Try.prog 0 D) (k : Nat) : EntOk Try.prog 0 (e_strings_Builder_WriteString k D) :=
 entOf_ok2 (mkC_sound hD (EntsOk.more (ok_strings_Builder_copyCheck hD k) (EntsOk.none))) Try.func73 rfl q_strings_Builder_WriteString rfl (t_strings_Builder_WriteString k D)
end Gc
namespace Gc
open Go Gx Go.Proofs
set_option maxRecDepth 100000
noncomputable def C_strings_Builder_Len (_k : Nat) (D : CallF) : CallF := mkC D []
noncomputable def strings_Builder_Len (_k : Nat) (_D : CallF) (b_0 : Option Addr) (h : AHeap) : Option ((Int) × AHeap) :=
 (b_0).bind fun p1 =>
 (ldL (⟨p1.block, p1.off + 1, none⟩ : Addr) h).bind fun x2 =>
 some ((x2.len : Int), h)
noncomputable def r_strings_Builder_Len : RCode := an (.n) (rOf Try.prog 0 Try.f74)
noncomputable def e_strings_Builder_Len (k : Nat) (D : CallF) : Ent := entOf 74 [(0, .p)] [(2, .i .i64)] (strings_Builder_Len k D)
theorem q_strings_Builder_Len : (Try.f74.body).bind (rcodeOf Try.prog 0 Try.f74.ntmps) = some (strip r_strings_Builder_Len) := by kernel_rfl
theorem t_strings_Builder_Len (k : Nat) (D : CallF) : curF [(0, .p)] (fun args h => denF (C_strings_Builder_Len k D) k r_strings_Builder_Len [(2, .i .i64)] [none] args h) = strings_Builder_Len k D := by kernel_rfl
theorem ok_strings_Builder_Len {D : CallF} (hD : CSound Try.prog 0 D) (k : Nat) : EntOk Try.prog 0 (e_strings_Builder_Len k D) :=
 entOf_ok2 (mkC_sound hD (EntsOk.none)) Try.func74 rfl q_strings_Builder_Len rfl (t_strings_Builder_Len k D)
end Gc
namespace Gc
open Go Gx Go.Proofs
set_option maxRecDepth 100000
noncomputable def C_strings_Builder_String (_k : Nat) (D : CallF) : CallF := mkC D []
noncomputable def strings_Builder_String (_k : Nat) (_D : CallF) (b_0 : Option Addr) (h : AHeap) : Option ((ByteArray) × AHeap) :=
 (b_0).bind fun p1 =>
 (ldL (⟨p1.block, p1.off + 1, none⟩ : Addr) h).bind fun x2 =>
 (sliceP x2).bind fun p3 =>
 (b_0).bind fun p4 =>
 (ldL (⟨p4.block, p4.off + 1, none⟩ : Addr) h).bind fun x5 =>
 (unsA 5 p3 (x5.len : Int) h).bind fun r6 =>
 some (r6.1, r6.2)
noncomputable def r_strings_Builder_String : RCode := an (.n) (rOf Try.prog 0 Try.f75)
noncomputable def e_strings_Builder_String (k : Nat) (D : CallF) : Ent := entOf 75 [(0, .p)] [(2, .s)] (strings_Builder_String k D)
theorem q_strings_Builder_String : (Try.f75.body).bind (rcodeOf Try.prog 0 Try.f75.ntmps) = some (strip r_strings_Builder_String) := by kernel_rfl
theorem t_strings_Builder_String (k : Nat) (D : CallF) : curF [(0, .p)] (fun args h => denF (C_strings_Builder_String k D) k r_strings_Builder_String [(2, .s)] [none] args h) = strings_Builder_String k D := by kernel_rfl
theorem ok_strings_Builder_String {D : CallF} (hD : CSound Try.prog 0 D) (k : Nat) : EntOk Try.prog 0 (e_strings_Builder_String k D) :=
 entOf_ok2 (mkC_sound hD (EntsOk.none)) Try.func75 rfl q_strings_Builder_String rfl (t_strings_Builder_String k D)
end Gc
namespace Gc
open Go Gx Go.Proofs
set_option maxRecDepth 100000
noncomputable def C_index_rises_string (_k : Nat) (D : CallF) : CallF := mkC D []
noncomputable def index_rises_string_l0b (k : Nat) (D : CallF) (j2 : AHeap → Option ((Bool) × AHeap)) (rec7 : Slc → Value → Int → AHeap → Option ((Bool) × AHeap)) (l3 : Slc) (less4 : Value) (i5 : Int) (h6 : AHeap) : Option ((Bool) × AHeap) :=
 (if (decide (i5 < (l3.len : Int))) = true then
 (Gx.idxL 1 l3 (IntKind.wrap .i64 (i5 - 1))).bind fun q8 =>
 (ldS q8 h6).bind fun x9 =>
 (Gx.idxL 1 l3 i5).bind fun q10 =>
 (ldS q10 h6).bind fun x11 =>
 callD (C_index_rises_string k D) less4 [.string x9, .string x11] h6 fun v12 h13 =>
 (decB v12).bind fun x14 =>
 (if (!x14) = true then
 some (false, h13)
 else
 rec7 l3 less4 (IntKind.wrap .i64 (i5 + 1)) h13)
 else
 j2 h6)
noncomputable def index_rises_string_l0 (k : Nat) (D : CallF) (j2 : AHeap → Option ((Bool) × AHeap)) : Slc → Value → Int → AHeap → Option ((Bool) × AHeap) :=
 iterK (α := Slc → Value → Int → AHeap → Option ((Bool) × AHeap)) (fun _ _ _ _ => none) k (index_rises_string_l0b k D j2)
noncomputable def index_rises_string (k : Nat) (D : CallF) (l_0 : Slc) (less_1 : Value) (h : AHeap) : Option ((Bool) × AHeap) :=
 joinK (fun (h1 : AHeap) =>
 some (true, h1)) fun j2 =>
 index_rises_string_l0 k D j2 l_0 less_1 1 h
noncomputable def r_index_rises_string : RCode := an (.s .n (.s (.j [] (.s .n (.b (.l [(0, .l), (1, .v), (5, .i .i64)] (.s .n (.s (.b (.s (.r [(10, .b)]) .n)) .n)))))) .n)) (rOf Try.prog 0 Try.f96)
noncomputable def e_index_rises_string (k : Nat) (D : CallF) : Ent := entOf 96 [(0, .l), (1, .v)] [(4, .b)] (index_rises_string k D)
theorem q_index_rises_string : (Try.f96.body).bind (rcodeOf Try.prog 0 Try.f96.ntmps) = some (strip r_index_rises_string) := by kernel_rfl
theorem t_index_rises_string (k : Nat) (D : CallF) : curF [(0, .l), (1, .v)] (fun args h => denF (C_index_rises_string k D) k r_index_rises_string [(4, .b)] [none] args h) = index_rises_string k D := by kernel_rfl
theorem ok_index_rises_string {D : CallF} (hD : CSound Try.prog 0 D) (k : Nat) : EntOk Try.prog 0 (e_index_rises_string k D) :=
 entOf_ok2 (mkC_sound hD (EntsOk.none)) Try.func96 rfl q_index_rises_string rfl (t_index_rises_string k D)
end Gc
namespace Gc
open Go Gx Go.Proofs
set_option maxRecDepth 100000
noncomputable def C_index_rises_api_Item (_k : Nat) (D : CallF) : CallF := mkC D []
noncomputable def index_rises_api_Item_l0b (k : Nat) (D : CallF) (j2 : AHeap → Option ((Bool) × AHeap)) (rec7 : Slc → Value → Int → AHeap → Option ((Bool) × AHeap)) (l3 : Slc) (less4 : Value) (i5 : Int) (h6 : AHeap) : Option ((Bool) × AHeap) :=
 (if (decide (i5 < (l3.len : Int))) = true then
 (Gx.idxL 6 l3 (IntKind.wrap .i64 (i5 - 1))).bind fun q8 =>
 (ldA 6 q8 h6).bind fun l9 =>
 (decC [.s, .s, .i .i64, .i .i64, .i .i64, .i .i64] l9).bind fun x10 =>
 (Gx.idxL 6 l3 i5).bind fun q11 =>
 (ldA 6 q11 h6).bind fun l12 =>
 (decC [.s, .s, .i .i64, .i .i64, .i .i64, .i .i64] l12).bind fun x13 =>
 callD (C_index_rises_api_Item k D) less4 [.agg ⟨[.string x10.1, .string x10.2.1, .int .i64 x10.2.2.1, .int .i64 x10.2.2.2.1, .int .i64 x10.2.2.2.2.1, .int .i64 x10.2.2.2.2.2]⟩, .agg ⟨[.string x13.1, .string x13.2.1, .int .i64 x13.2.2.1, .int .i64 x13.2.2.2.1, .int .i64 x13.2.2.2.2.1, .int .i64 x13.2.2.2.2.2]⟩] h6 fun v14 h15 =>
 (decB v14).bind fun x16 =>
 (if (!x16) = true then
 some (false, h15)
 else
 rec7 l3 less4 (IntKind.wrap .i64 (i5 + 1)) h15)
 else
 j2 h6)
noncomputable def index_rises_api_Item_l0 (k : Nat) (D : CallF) (j2 : AHeap → Option ((Bool) × AHeap)) : Slc → Value → Int → AHeap → Option ((Bool) × AHeap) :=
 iterK (α := Slc → Value → Int → AHeap → Option ((Bool) × AHeap)) (fun _ _ _ _ => none) k (index_rises_api_Item_l0b k D j2)
noncomputable def index_rises_api_Item (k : Nat) (D : CallF) (l_0 : Slc) (less_1 : Value) (h : AHeap) : Option ((Bool) × AHeap) :=
 joinK (fun (h1 : AHeap) =>
 some (true, h1)) fun j2 =>
 index_rises_api_Item_l0 k D j2 l_0 less_1 1 h
noncomputable def r_index_rises_api_Item : RCode := an (.s .n (.s (.j [] (.s .n (.b (.l [(0, .l), (1, .v), (5, .i .i64)] (.s .n (.s (.b (.s (.r [(5, .st [.s, .s, .i .i64, .i .i64, .i .i64, .i .i64]), (9, .st [.s, .s, .i .i64, .i .i64, .i .i64, .i .i64]), (10, .b)]) .n)) .n)))))) .n)) (rOf Try.prog 0 Try.f98)
noncomputable def e_index_rises_api_Item (k : Nat) (D : CallF) : Ent := entOf 98 [(0, .l), (1, .v)] [(4, .b)] (index_rises_api_Item k D)
theorem q_index_rises_api_Item : (Try.f98.body).bind (rcodeOf Try.prog 0 Try.f98.ntmps) = some (strip r_index_rises_api_Item) := by kernel_rfl
theorem t_index_rises_api_Item (k : Nat) (D : CallF) : curF [(0, .l), (1, .v)] (fun args h => denF (C_index_rises_api_Item k D) k r_index_rises_api_Item [(4, .b)] [none] args h) = index_rises_api_Item k D := by kernel_rfl
theorem ok_index_rises_api_Item {D : CallF} (hD : CSound Try.prog 0 D) (k : Nat) : EntOk Try.prog 0 (e_index_rises_api_Item k D) :=
 entOf_ok2 (mkC_sound hD (EntsOk.none)) Try.func98 rfl q_index_rises_api_Item rfl (t_index_rises_api_Item k D)
end Gc
namespace Gc
open Go Gx Go.Proofs
set_option maxRecDepth 100000
noncomputable def C_index_check (k : Nat) (D : CallF) : CallF := mkC D [e_index_rises_string k D, e_index_rises_api_Item k D, e_lookup_Check k D, e_sha_IsId k D]
noncomputable def index_check_l1b (k : Nat) (D : CallF) (j4 : (Option Addr) → AHeap → Option ((Int) × AHeap)) (rec39 : (Option Addr) → Slc → Int → Int → AHeap → Option ((Int) × AHeap)) (f34 : Option Addr) (y35 : Slc) (y36 : Int) (y37 : Int) (h38 : AHeap) : Option ((Int) × AHeap) :=
 (if (decide (y37 < y36)) = true then
 (Gx.idxL 1 y35 y37).bind fun q40 =>
 (ldS q40 h38).bind fun x41 =>
 (sha_IsId k D x41 h38).bind fun r42 =>
 (if (!r42.1) = true then
 some (1, r42.2)
 else
 rec39 f34 y35 y36 (IntKind.wrap .i64 (y37 + 1)) r42.2)
 else
 j4 f34 h38)
noncomputable def index_check_l1 (k : Nat) (D : CallF) (j4 : (Option Addr) → AHeap → Option ((Int) × AHeap)) : (Option Addr) → Slc → Int → Int → AHeap → Option ((Int) × AHeap) :=
 iterK (α := (Option Addr) → Slc → Int → Int → AHeap → Option ((Int) × AHeap)) (fun _ _ _ _ _ => none) k (index_check_l1b k D j4)
noncomputable def index_check_l0b (k : Nat) (D : CallF) (j7 : (Option Addr) → AHeap → Option ((Int) × AHeap)) (rec24 : (Option Addr) → Slc → Int → Int → AHeap → Option ((Int) × AHeap)) (f19 : Option Addr) (y20 : Slc) (y21 : Int) (y22 : Int) (h23 : AHeap) : Option ((Int) × AHeap) :=
 (if (decide (y22 < y21)) = true then
 (Gx.idxL 6 y20 y22).bind fun q25 =>
 (ldA 6 q25 h23).bind fun l26 =>
 (decC [.s, .s, .i .i64, .i .i64, .i .i64, .i .i64] l26).bind fun x27 =>
 newK h23 ((.cells [.string ⟨#[]⟩, .string ⟨#[]⟩, .int .i64 0, .int .i64 0, .int .i64 0, .int .i64 0] 57 true 0)) fun h28 =>
 (stL 6 (⟨h23.next, 0, none⟩ : Addr) ([.string x27.1, .string x27.2.1, .int .i64 x27.2.2.1, .int .i64 x27.2.2.2.1, .int .i64 x27.2.2.2.2.1, .int .i64 x27.2.2.2.2.2]) h28).bind fun h29 =>
 (ldA 6 (⟨h23.next, 0, none⟩ : Addr) h29).bind fun l30 =>
 (decC [.s, .s, .i .i64, .i .i64, .i .i64, .i .i64] l30).bind fun x31 =>
 (lookup_Check k D (x31.1, x31.2.1, x31.2.2.1, x31.2.2.2.1, x31.2.2.2.2.1, x31.2.2.2.2.2) h29).bind fun r32 =>
 (if (r32.1 != 0) = true then
 some (r32.1, r32.2)
 else
 rec24 f19 y20 y21 (IntKind.wrap .i64 (y22 + 1)) r32.2)
 else
 j7 f19 h23)
noncomputable def index_check_l0 (k : Nat) (D : CallF) (j7 : (Option Addr) → AHeap → Option ((Int) × AHeap)) : (Option Addr) → Slc → Int → Int → AHeap → Option ((Int) × AHeap) :=
 iterK (α := (Option Addr) → Slc → Int → Int → AHeap → Option ((Int) × AHeap)) (fun _ _ _ _ _ => none) k (index_check_l0b k D j7)
noncomputable def index_check (k : Nat) (D : CallF) (f_0 : Slc × Slc) (h : AHeap) : Option ((Int) × AHeap) :=
 newK h ((.cells [.slice f_0.1.a f_0.1.len f_0.1.cap, .slice f_0.2.a f_0.2.len f_0.2.cap] 25 true 0)) fun h1 =>
 joinK (fun (f2 : Option Addr) (h3 : AHeap) =>
 joinK (fun (f5 : Option Addr) (h6 : AHeap) =>
 joinK (fun (y8 : Bool) (h9 : AHeap) =>
 (if y8 = true then
 some (4, h9)
 else
 some (0, h9))) fun j10 =>
 (f5).bind fun p11 =>
 (ldL (⟨p11.block, p11.off + 0, none⟩ : Addr) h6).bind fun x12 =>
 (index_rises_string k D x12 (.func (.func 97) ⟨[]⟩ ⟨[]⟩) h6).bind fun r13 =>
 (if (!r13.1) = true then
 j10 true r13.2
 else
 (f5).bind fun p14 =>
 (ldL (⟨p14.block, p14.off + 1, none⟩ : Addr) r13.2).bind fun x15 =>
 (index_rises_api_Item k D x15 (.func (.func 30) ⟨[]⟩ ⟨[]⟩) r13.2).bind fun r16 =>
 j10 (!r16.1) r16.2)) fun j7 =>
 (f2).bind fun p17 =>
 (ldL (⟨p17.block, p17.off + 1, none⟩ : Addr) h3).bind fun x18 =>
 index_check_l0 k D j7 f2 x18 (x18.len : Int) 0 h3) fun j4 =>
 (ldL (⟨h.next, 0, none⟩ : Addr) h1).bind fun x33 =>
 index_check_l1 k D j4 (some (⟨h.next, 0, none⟩ : Addr)) x33 (x33.len : Int) 0 h1
noncomputable def r_index_check : RCode := an (.s .n (.s (.j [(1, .p)] (.s .n (.b (.l [(1, .p), (9, .l), (10, .i .i64), (11, .i .i64)] .n)))) (.s (.j [(1, .p)] (.s .n (.b (.l [(1, .p), (20, .l), (21, .i .i64), (22, .i .i64)] (.s .n (.s .n (.s (.b (.s (.r [(1, .st [.s, .s, .i .i64, .i .i64, .i .i64, .i .i64])]) (.s (.r [(0, .st [.s, .s, .i .i64, .i .i64, .i .i64, .i .i64])]) .n))) .n))))))) (.s (.s (.j [(41, .b)] .n) .n) .n)))) (rOf Try.prog 0 Try.f47)
noncomputable def e_index_check (k : Nat) (D : CallF) : Ent := entOf 47 [(0, .st [.l, .l])] [(2, .i .i64)] (index_check k D)
theorem q_index_check : (Try.f47.body).bind (rcodeOf Try.prog 0 Try.f47.ntmps) = some (strip r_index_check) := by kernel_rfl
theorem t_index_check (k : Nat) (D : CallF) : curF [(0, .st [.l, .l])] (fun args h => denF (C_index_check k D) k r_index_check [(2, .i .i64)] [none] args h) = index_check k D := by kernel_rfl
theorem ok_index_check {D : CallF} (hD : CSound Try.prog 0 D) (k : Nat) : EntOk Try.prog 0 (e_index_check k D) :=
 entOf_ok2 (mkC_sound hD (EntsOk.more (ok_index_rises_string hD k) (EntsOk.more (ok_index_rises_api_Item hD k) (EntsOk.more (ok_lookup_Check hD k) (EntsOk.more (ok_sha_IsId hD k) (EntsOk.none)))))) Try.func47 rfl q_index_check rfl (t_index_check k D)
end Gc
namespace Gc
open Go Gx Go.Proofs
set_option maxRecDepth 100000
end Gc
namespace Gc
open Go Gx Go.Proofs
set_option maxRecDepth 100000
noncomputable def C_index_line (k : Nat) (D : CallF) : CallF := mkC D [e_index_short k D]
noncomputable def index_line (k : Nat) (D : CallF) (x_0 : ByteArray × ByteArray × Int × Int × Int × Int) (h : AHeap) : Option ((ByteArray) × AHeap) :=
 newK h ((.cells [.string x_0.1, .string x_0.2.1, .int .i64 x_0.2.2.1, .int .i64 x_0.2.2.2.1, .int .i64 x_0.2.2.2.2.1, .int .i64 x_0.2.2.2.2.2] 57 true 0)) fun h1 =>
 let h2 := AHeap.resv h1 1
 (ldI .i64 (⟨h.next, 3, none⟩ : Addr) h2).bind fun x3 =>
 (index_short k D x3 h2).bind fun r4 =>
 (ldI .i64 (⟨h.next, 4, none⟩ : Addr) r4.2).bind fun x5 =>
 guardP (SameW [h2] (fun H7 => (ldI .i64 (⟨h.next, 4, none⟩ : Addr) H7).bind fun y6 => some (.int .i64 y6)) (.int .i64 x5)) (
 (index_short k D x5 r4.2).bind fun r8 =>
 (ldI .i64 (⟨h.next, 5, none⟩ : Addr) r8.2).bind fun x9 =>
 guardP (SameW [r4.2, h2] (fun H11 => (ldI .i64 (⟨h.next, 5, none⟩ : Addr) H11).bind fun y10 => some (.int .i64 y10)) (.int .i64 x9)) (
 (index_short k D x9 r8.2).bind fun r12 =>
 (ldS (⟨h.next, 0, none⟩ : Addr) r12.2).bind fun x13 =>
 guardP (SameW [r8.2, r4.2, h2] (fun H15 => (ldS (⟨h.next, 0, none⟩ : Addr) H15).bind fun y14 => some (.string y14)) (.string x13)) (
 (ldS (⟨h.next, 1, none⟩ : Addr) r12.2).bind fun x16 =>
 guardP (SameW [r8.2, r4.2, h2] (fun H18 => (ldS (⟨h.next, 1, none⟩ : Addr) H18).bind fun y17 => some (.string y17)) (.string x16)) (
 (if x13.size + x16.size ≤ 9223372036854775807 then
 (ldI .i64 (⟨h.next, 2, none⟩ : Addr) r12.2).bind fun x19 =>
 guardP (SameW [r8.2, r4.2, h2] (fun H21 => (ldI .i64 (⟨h.next, 2, none⟩ : Addr) H21).bind fun y20 => some (.int .i64 y20)) (.int .i64 x19)) (
 let h22 := AHeap.set r12.2 (h1.next + 0) (.cells [.int .u8 (IntKind.wrap .u8 x19)] 5 true 0)
 (bytesOf h22 (⟨(some ⟨(h1.next + 0), 0, some 0⟩), 1, 1⟩ : Slc)).bind fun s23 =>
 guardP (OwnW (h1.next + 0) h22 (fun H25 => (bytesOf H25 (⟨(some ⟨(h1.next + 0), 0, some 0⟩), 1, 1⟩ : Slc)).bind fun y24 => some (.string y24)) (.string s23)) (
 (if (x13 ++ x16).size + s23.size ≤ 9223372036854775807 then
 (if ((x13 ++ x16) ++ s23).size + r4.1.size ≤ 9223372036854775807 then
 (if (((x13 ++ x16) ++ s23) ++ r4.1).size + r8.1.size ≤ 9223372036854775807 then
 (if ((((x13 ++ x16) ++ s23) ++ r4.1) ++ r8.1).size + r12.1.size ≤ 9223372036854775807 then
 some ((((((x13 ++ x16) ++ s23) ++ r4.1) ++ r8.1) ++ r12.1), h22)
 else none)
 else none)
 else none)
 else none)))
 else none)))))
noncomputable def r_index_line : RCode := an (.n) (rOf Try.prog 0 Try.f100)
noncomputable def e_index_line (k : Nat) (D : CallF) : Ent := entOf 100 [(0, .st [.s, .s, .i .i64, .i .i64, .i .i64, .i .i64])] [(2, .s)] (index_line k D)
theorem q_index_line : (Try.f100.body).bind (rcodeOf Try.prog 0 Try.f100.ntmps) = some (strip r_index_line) := by kernel_rfl
theorem t_index_line (k : Nat) (D : CallF) : curF [(0, .st [.s, .s, .i .i64, .i .i64, .i .i64, .i .i64])] (fun args h => denF (C_index_line k D) k r_index_line [(2, .s)] [none] args h) = index_line k D := by kernel_rfl
theorem ok_index_line {D : CallF} (hD : CSound Try.prog 0 D) (k : Nat) : EntOk Try.prog 0 (e_index_line k D) :=
 entOf_ok2 (mkC_sound hD (EntsOk.more (ok_index_short hD k) (EntsOk.none))) Try.func100 rfl q_index_line rfl (t_index_line k D)
end Gc
namespace Gc
open Go Gx Go.Proofs
set_option maxRecDepth 100000
end Gc
namespace Gc
open Go Gx Go.Proofs
set_option maxRecDepth 100000
noncomputable def C_index_text (k : Nat) (D : CallF) : CallF := mkC D [e_index_short k D, e_strings_Builder_WriteString k D, e_strings_Builder_String k D, e_strings_Builder_Len k D, e_index_line k D]
noncomputable def index_text_l1b (k : Nat) (D : CallF) (j12 : (Option Addr) → (Option Addr) → AHeap → Option ((ByteArray × Bool) × AHeap)) (rec46 : (Option Addr) → (Option Addr) → Slc → Int → Int → AHeap → Option ((ByteArray × Bool) × AHeap)) (f40 : Option Addr) (b41 : Option Addr) (y42 : Slc) (y43 : Int) (y44 : Int) (h45 : AHeap) : Option ((ByteArray × Bool) × AHeap) :=
 (if (decide (y44 < y43)) = true then
 (Gx.idxL 1 y42 y44).bind fun q47 =>
 (ldS q47 h45).bind fun x48 =>
 (strings_Builder_WriteString k D b41 x48 h45).bind fun r49 =>
 rec46 f40 b41 y42 y43 (IntKind.wrap .i64 (y44 + 1)) r49.2
 else
 j12 f40 b41 h45)
noncomputable def index_text_l1 (k : Nat) (D : CallF) (j12 : (Option Addr) → (Option Addr) → AHeap → Option ((ByteArray × Bool) × AHeap)) : (Option Addr) → (Option Addr) → Slc → Int → Int → AHeap → Option ((ByteArray × Bool) × AHeap) :=
 iterK (α := (Option Addr) → (Option Addr) → Slc → Int → Int → AHeap → Option ((ByteArray × Bool) × AHeap)) (fun _ _ _ _ _ _ => none) k (index_text_l1b k D j12)
noncomputable def index_text_l0b (k : Nat) (D : CallF) (j19 : (Option Addr) → AHeap → Option ((ByteArray × Bool) × AHeap)) (rec29 : (Option Addr) → Slc → Int → Int → AHeap → Option ((ByteArray × Bool) × AHeap)) (b24 : Option Addr) (y25 : Slc) (y26 : Int) (y27 : Int) (h28 : AHeap) : Option ((ByteArray × Bool) × AHeap) :=
 (if (decide (y27 < y26)) = true then
 (Gx.idxL 6 y25 y27).bind fun q30 =>
 (ldA 6 q30 h28).bind fun l31 =>
 (decC [.s, .s, .i .i64, .i .i64, .i .i64, .i .i64] l31).bind fun x32 =>
 newK h28 ((.cells [.string ⟨#[]⟩, .string ⟨#[]⟩, .int .i64 0, .int .i64 0, .int .i64 0, .int .i64 0] 57 true 0)) fun h33 =>
 (stL 6 (⟨h28.next, 0, none⟩ : Addr) ([.string x32.1, .string x32.2.1, .int .i64 x32.2.2.1, .int .i64 x32.2.2.2.1, .int .i64 x32.2.2.2.2.1, .int .i64 x32.2.2.2.2.2]) h33).bind fun h34 =>
 (ldA 6 (⟨h28.next, 0, none⟩ : Addr) h34).bind fun l35 =>
 (decC [.s, .s, .i .i64, .i .i64, .i .i64, .i .i64] l35).bind fun x36 =>
 (index_line k D (x36.1, x36.2.1, x36.2.2.1, x36.2.2.2.1, x36.2.2.2.2.1, x36.2.2.2.2.2) h34).bind fun r37 =>
 (strings_Builder_WriteString k D b24 r37.1 r37.2).bind fun r38 =>
 rec29 b24 y25 y26 (IntKind.wrap .i64 (y27 + 1)) r38.2
 else
 j19 b24 h28)
noncomputable def index_text_l0 (k : Nat) (D : CallF) (j19 : (Option Addr) → AHeap → Option ((ByteArray × Bool) × AHeap)) : (Option Addr) → Slc → Int → Int → AHeap → Option ((ByteArray × Bool) × AHeap) :=
 iterK (α := (Option Addr) → Slc → Int → Int → AHeap → Option ((ByteArray × Bool) × AHeap)) (fun _ _ _ _ _ => none) k (index_text_l0b k D j19)
noncomputable def index_text (k : Nat) (D : CallF) (f_0 : Slc × Slc) (h : AHeap) : Option ((ByteArray × Bool) × AHeap) :=
 newK h ((.cells [.slice f_0.1.a f_0.1.len f_0.1.cap, .slice f_0.2.a f_0.2.len f_0.2.cap] 25 true 0)) fun h1 =>
 (ldL (⟨h.next, 0, none⟩ : Addr) h1).bind fun x2 =>
 (ldL (⟨h.next, 1, none⟩ : Addr) h1).bind fun x3 =>
 let t4 : Int := (if (x3.len : Int) > (x2.len : Int) then (x3.len : Int) else (x2.len : Int))
 (if (decide (t4 > 4096)) = true then
 some (((⟨#[]⟩ : ByteArray), false), h1)
 else
 newK h1 ((.cells [.pointer none, .slice none 0 0] 111 true 0)) fun h5 =>
 (ldL (⟨h.next, 0, none⟩ : Addr) h5).bind fun x6 =>
 (index_short k D (x6.len : Int) h5).bind fun r7 =>
 (if (⟨#[71, 82, 84, 73, 1]⟩ : ByteArray).size + r7.1.size ≤ 9223372036854775807 then
 (strings_Builder_WriteString k D (some (⟨h1.next, 0, none⟩ : Addr)) ((⟨#[71, 82, 84, 73, 1]⟩ : ByteArray) ++ r7.1) r7.2).bind fun r8 =>
 joinK (fun (f9 : Option Addr) (b10 : Option Addr) (h11 : AHeap) =>
 (f9).bind fun p13 =>
 (ldL (⟨p13.block, p13.off + 1, none⟩ : Addr) h11).bind fun x14 =>
 (index_short k D (x14.len : Int) h11).bind fun r15 =>
 (strings_Builder_WriteString k D b10 r15.1 r15.2).bind fun r16 =>
 joinK (fun (b17 : Option Addr) (h18 : AHeap) =>
 (strings_Builder_String k D b17 h18).bind fun r20 =>
 (strings_Builder_Len k D b17 r20.2).bind fun r21 =>
 some ((r20.1, (decide (r21.1 ≤ 65536))), r21.2)) fun j19 =>
 (f9).bind fun p22 =>
 (ldL (⟨p22.block, p22.off + 1, none⟩ : Addr) r16.2).bind fun x23 =>
 index_text_l0 k D j19 b10 x23 (x23.len : Int) 0 r16.2) fun j12 =>
 (ldL (⟨h.next, 0, none⟩ : Addr) r8.2).bind fun x39 =>
 index_text_l1 k D j12 (some (⟨h.next, 0, none⟩ : Addr)) (some (⟨h1.next, 0, none⟩ : Addr)) x39 (x39.len : Int) 0 r8.2
 else none))
noncomputable def r_index_text : RCode := an (.s .n (.s .n (.s .n (.s .n (.s (.j [(1, .p), (4, .p)] (.s .n (.b (.l [(1, .p), (4, .p), (24, .l), (25, .i .i64), (26, .i .i64)] .n)))) (.s .n (.s (.j [(4, .p)] (.s .n (.b (.l [(4, .p), (39, .l), (40, .i .i64), (41, .i .i64)] (.s .n (.s .n (.s (.b (.s (.r [(1, .st [.s, .s, .i .i64, .i .i64, .i .i64, .i .i64])]) (.r [(0, .st [.s, .s, .i .i64, .i .i64, .i .i64, .i .i64])]))) .n))))))) .n))))))) (rOf Try.prog 0 Try.f48)
noncomputable def e_index_text (k : Nat) (D : CallF) : Ent := entOf 48 [(0, .st [.l, .l])] [(2, .s), (3, .b)] (index_text k D)
theorem q_index_text : (Try.f48.body).bind (rcodeOf Try.prog 0 Try.f48.ntmps) = some (strip r_index_text) := by kernel_rfl
theorem t_index_text (k : Nat) (D : CallF) : curF [(0, .st [.l, .l])] (fun args h => denF (C_index_text k D) k r_index_text [(2, .s), (3, .b)] [none, none] args h) = index_text k D := by kernel_rfl
theorem ok_index_text {D : CallF} (hD : CSound Try.prog 0 D) (k : Nat) : EntOk Try.prog 0 (e_index_text k D) :=
 entOf_ok2 (mkC_sound hD (EntsOk.more (ok_index_short hD k) (EntsOk.more (ok_strings_Builder_WriteString hD k) (EntsOk.more (ok_strings_Builder_String hD k) (EntsOk.more (ok_strings_Builder_Len hD k) (EntsOk.more (ok_index_line hD k) (EntsOk.none))))))) Try.func48 rfl q_index_text rfl (t_index_text k D)
end Gc
namespace Gc
open Go Gx Go.Proofs
set_option maxRecDepth 100000
noncomputable def C_index_Encode (k : Nat) (D : CallF) : CallF := mkC D [e_index_check k D, e_index_text k D]
noncomputable def index_Encode (k : Nat) (D : CallF) (f_0 : Slc × Slc) (h : AHeap) : Option ((ByteArray × Int) × AHeap) :=
 newK h ((.cells [.slice f_0.1.a f_0.1.len f_0.1.cap, .slice f_0.2.a f_0.2.len f_0.2.cap] 25 true 0)) fun h1 =>
 (ldA 2 (⟨h.next, 0, none⟩ : Addr) h1).bind fun l2 =>
 (decC [.l, .l] l2).bind fun x3 =>
 (index_check k D (x3.1, x3.2) h1).bind fun r4 =>
 (if (r4.1 != 0) = true then
 some (((⟨#[]⟩ : ByteArray), r4.1), r4.2)
 else
 (ldA 2 (⟨h.next, 0, none⟩ : Addr) r4.2).bind fun l5 =>
 (decC [.l, .l] l5).bind fun x6 =>
 (index_text k D (x6.1, x6.2) r4.2).bind fun r7 =>
 (if (!r7.1.2) = true then
 some (((⟨#[]⟩ : ByteArray), 2), r7.2)
 else
 some ((r7.1.1, 0), r7.2)))
noncomputable def r_index_Encode : RCode := an (.s .n (.s (.s (.r [(0, .st [.l, .l])]) .n) (.s (.r [(0, .st [.l, .l])]) .n))) (rOf Try.prog 0 Try.f12)
noncomputable def e_index_Encode (k : Nat) (D : CallF) : Ent := entOf 12 [(0, .st [.l, .l])] [(2, .s), (3, .i .i64)] (index_Encode k D)
theorem q_index_Encode : (Try.f12.body).bind (rcodeOf Try.prog 0 Try.f12.ntmps) = some (strip r_index_Encode) := by kernel_rfl
theorem t_index_Encode (k : Nat) (D : CallF) : curF [(0, .st [.l, .l])] (fun args h => denF (C_index_Encode k D) k r_index_Encode [(2, .s), (3, .i .i64)] [none, none] args h) = index_Encode k D := by kernel_rfl
theorem ok_index_Encode {D : CallF} (hD : CSound Try.prog 0 D) (k : Nat) : EntOk Try.prog 0 (e_index_Encode k D) :=
 entOf_ok2 (mkC_sound hD (EntsOk.more (ok_index_check hD k) (EntsOk.more (ok_index_text hD k) (EntsOk.none)))) Try.func12 rfl q_index_Encode rfl (t_index_Encode k D)
end Gc
namespace Gc
open Go Gx Go.Proofs
set_option maxRecDepth 100000
end Gc
namespace Gc
open Go Gx Go.Proofs
set_option maxRecDepth 100000
end Gc
namespace Gc
open Go Gx Go.Proofs
set_option maxRecDepth 100000
end Gc
namespace Gc
open Go Gx Go.Proofs
set_option maxRecDepth 100000
noncomputable def C_law16_works (k : Nat) (D : CallF) : CallF := mkC D [e_index_Encode k D]
noncomputable def law16_works (k : Nat) (D : CallF)  (h : AHeap) : Option ((Bool) × AHeap) :=
 (index_Encode k D ((⟨none, 0, 0⟩ : Slc), (⟨none, 0, 0⟩ : Slc)) h).bind fun r1 =>
 (if (r1.1.2 == 0) = true then
 some (((r1.1.1.size : Int) == 7), r1.2)
 else
 some (false, r1.2))
noncomputable def r_law16_works : RCode := an (.n) (rOf Try.prog 0 Try.f10)
noncomputable def e_law16_works (k : Nat) (D : CallF) : Ent := entOf 10 [] [(0, .b)] (law16_works k D)
theorem q_law16_works : (Try.f10.body).bind (rcodeOf Try.prog 0 Try.f10.ntmps) = some (strip r_law16_works) := by kernel_rfl
theorem t_law16_works (k : Nat) (D : CallF) : curF [] (fun args h => denF (C_law16_works k D) k r_law16_works [(0, .b)] [none] args h) = law16_works k D := by kernel_rfl
theorem ok_law16_works {D : CallF} (hD : CSound Try.prog 0 D) (k : Nat) : EntOk Try.prog 0 (e_law16_works k D) :=
 entOf_ok2 (mkC_sound hD (EntsOk.more (ok_index_Encode hD k) (EntsOk.none))) Try.func10 rfl q_law16_works rfl (t_law16_works k D)
end Gc
namespace Gc
open Go Gx Go.Proofs
set_option maxRecDepth 100000
noncomputable def C_num_Reader_Err (_k : Nat) (D : CallF) : CallF := mkC D []
noncomputable def num_Reader_Err (_k : Nat) (_D : CallF) (r_0 : Option Addr) (h : AHeap) : Option ((Int) × AHeap) :=
 (r_0).bind fun p1 =>
 (ldI .i64 (⟨p1.block, p1.off + 1, none⟩ : Addr) h).bind fun x2 =>
 some (x2, h)
noncomputable def r_num_Reader_Err : RCode := an (.n) (rOf Try.prog 0 Try.f105)
noncomputable def e_num_Reader_Err (k : Nat) (D : CallF) : Ent := entOf 105 [(0, .p)] [(2, .i .i64)] (num_Reader_Err k D)
theorem q_num_Reader_Err : (Try.f105.body).bind (rcodeOf Try.prog 0 Try.f105.ntmps) = some (strip r_num_Reader_Err) := by kernel_rfl
theorem t_num_Reader_Err (k : Nat) (D : CallF) : curF [(0, .p)] (fun args h => denF (C_num_Reader_Err k D) k r_num_Reader_Err [(2, .i .i64)] [none] args h) = num_Reader_Err k D := by kernel_rfl
theorem ok_num_Reader_Err {D : CallF} (hD : CSound Try.prog 0 D) (k : Nat) : EntOk Try.prog 0 (e_num_Reader_Err k D) :=
 entOf_ok2 (mkC_sound hD (EntsOk.none)) Try.func105 rfl q_num_Reader_Err rfl (t_num_Reader_Err k D)
end Gc
namespace Gc
open Go Gx Go.Proofs
set_option maxRecDepth 100000
noncomputable def C_num_Reader_End (k : Nat) (D : CallF) : CallF := mkC D [e_num_Reader_Left k D, e_num_Reader_Fail k D]
noncomputable def num_Reader_End (k : Nat) (D : CallF) (r_0 : Option Addr) (h : AHeap) : Option ((Int) × AHeap) :=
 joinK (fun (r1 : Option Addr) (h2 : AHeap) =>
 (r1).bind fun p4 =>
 (ldI .i64 (⟨p4.block, p4.off + 1, none⟩ : Addr) h2).bind fun x5 =>
 some (x5, h2)) fun j3 =>
 (num_Reader_Left k D r_0 h).bind fun r6 =>
 (if (decide (r6.1 > 0)) = true then
 (num_Reader_Fail k D r_0 3 r6.2).bind fun r7 =>
 j3 r_0 r7.2
 else
 j3 r_0 r6.2)
noncomputable def r_num_Reader_End : RCode := an (.s .n (.s (.j [(0, .p)] .n) .n)) (rOf Try.prog 0 Try.f60)
noncomputable def e_num_Reader_End (k : Nat) (D : CallF) : Ent := entOf 60 [(0, .p)] [(2, .i .i64)] (num_Reader_End k D)
theorem q_num_Reader_End : (Try.f60.body).bind (rcodeOf Try.prog 0 Try.f60.ntmps) = some (strip r_num_Reader_End) := by kernel_rfl
theorem t_num_Reader_End (k : Nat) (D : CallF) : curF [(0, .p)] (fun args h => denF (C_num_Reader_End k D) k r_num_Reader_End [(2, .i .i64)] [none] args h) = num_Reader_End k D := by kernel_rfl
theorem ok_num_Reader_End {D : CallF} (hD : CSound Try.prog 0 D) (k : Nat) : EntOk Try.prog 0 (e_num_Reader_End k D) :=
 entOf_ok2 (mkC_sound hD (EntsOk.more (ok_num_Reader_Left hD k) (EntsOk.more (ok_num_Reader_Fail hD k) (EntsOk.none)))) Try.func60 rfl q_num_Reader_End rfl (t_num_Reader_End k D)
end Gc
namespace Gc
open Go Gx Go.Proofs
set_option maxRecDepth 100000
noncomputable def C_internal_stringslite_HasPrefix (_k : Nat) (D : CallF) : CallF := mkC D []
noncomputable def internal_stringslite_HasPrefix (_k : Nat) (_D : CallF) (s_0 : ByteArray) (prefix_1 : ByteArray) (h : AHeap) : Option ((Bool) × AHeap) :=
 (if (decide ((s_0.size : Int) ≥ (prefix_1.size : Int))) = true then
 (Gx.subS s_0 none (some (prefix_1.size : Int))).bind fun s1 =>
 some ((s1 == prefix_1), h)
 else
 some (false, h))
noncomputable def r_internal_stringslite_HasPrefix : RCode := an (.n) (rOf Try.prog 0 Try.f117)
noncomputable def e_internal_stringslite_HasPrefix (k : Nat) (D : CallF) : Ent := entOf 117 [(0, .s), (1, .s)] [(4, .b)] (internal_stringslite_HasPrefix k D)
theorem q_internal_stringslite_HasPrefix : (Try.f117.body).bind (rcodeOf Try.prog 0 Try.f117.ntmps) = some (strip r_internal_stringslite_HasPrefix) := by kernel_rfl
theorem t_internal_stringslite_HasPrefix (k : Nat) (D : CallF) : curF [(0, .s), (1, .s)] (fun args h => denF (C_internal_stringslite_HasPrefix k D) k r_internal_stringslite_HasPrefix [(4, .b)] [none] args h) = internal_stringslite_HasPrefix k D := by kernel_rfl
theorem ok_internal_stringslite_HasPrefix {D : CallF} (hD : CSound Try.prog 0 D) (k : Nat) : EntOk Try.prog 0 (e_internal_stringslite_HasPrefix k D) :=
 entOf_ok2 (mkC_sound hD (EntsOk.none)) Try.func117 rfl q_internal_stringslite_HasPrefix rfl (t_internal_stringslite_HasPrefix k D)
end Gc
namespace Gc
open Go Gx Go.Proofs
set_option maxRecDepth 100000
noncomputable def C_internal_stringslite_CutPrefix (k : Nat) (D : CallF) : CallF := mkC D [e_internal_stringslite_HasPrefix k D]
noncomputable def internal_stringslite_CutPrefix (k : Nat) (D : CallF) (s_0 : ByteArray) (prefix_1 : ByteArray) (h : AHeap) : Option ((ByteArray × Bool) × AHeap) :=
 (internal_stringslite_HasPrefix k D s_0 prefix_1 h).bind fun r1 =>
 (if (!r1.1) = true then
 some ((s_0, false), r1.2)
 else
 (Gx.subS s_0 (some (prefix_1.size : Int)) none).bind fun s2 =>
 some ((s2, true), r1.2))
noncomputable def r_internal_stringslite_CutPrefix : RCode := an (.n) (rOf Try.prog 0 Try.f103)
noncomputable def e_internal_stringslite_CutPrefix (k : Nat) (D : CallF) : Ent := entOf 103 [(0, .s), (1, .s)] [(4, .s), (5, .b)] (internal_stringslite_CutPrefix k D)
theorem q_internal_stringslite_CutPrefix : (Try.f103.body).bind (rcodeOf Try.prog 0 Try.f103.ntmps) = some (strip r_internal_stringslite_CutPrefix) := by kernel_rfl
theorem t_internal_stringslite_CutPrefix (k : Nat) (D : CallF) : curF [(0, .s), (1, .s)] (fun args h => denF (C_internal_stringslite_CutPrefix k D) k r_internal_stringslite_CutPrefix [(4, .s), (5, .b)] [none, none] args h) = internal_stringslite_CutPrefix k D := by kernel_rfl
theorem ok_internal_stringslite_CutPrefix {D : CallF} (hD : CSound Try.prog 0 D) (k : Nat) : EntOk Try.prog 0 (e_internal_stringslite_CutPrefix k D) :=
 entOf_ok2 (mkC_sound hD (EntsOk.more (ok_internal_stringslite_HasPrefix hD k) (EntsOk.none))) Try.func103 rfl q_internal_stringslite_CutPrefix rfl (t_internal_stringslite_CutPrefix k D)
end Gc
namespace Gc
open Go Gx Go.Proofs
set_option maxRecDepth 100000
noncomputable def C_strings_CutPrefix (k : Nat) (D : CallF) : CallF := mkC D [e_internal_stringslite_CutPrefix k D]
noncomputable def strings_CutPrefix (k : Nat) (D : CallF) (s_0 : ByteArray) (prefix_1 : ByteArray) (h : AHeap) : Option ((ByteArray × Bool) × AHeap) :=
 (internal_stringslite_CutPrefix k D s_0 prefix_1 h).bind fun r1 =>
 some ((r1.1.1, r1.1.2), r1.2)
noncomputable def r_strings_CutPrefix : RCode := an (.n) (rOf Try.prog 0 Try.f53)
noncomputable def e_strings_CutPrefix (k : Nat) (D : CallF) : Ent := entOf 53 [(0, .s), (1, .s)] [(4, .s), (5, .b)] (strings_CutPrefix k D)
theorem q_strings_CutPrefix : (Try.f53.body).bind (rcodeOf Try.prog 0 Try.f53.ntmps) = some (strip r_strings_CutPrefix) := by kernel_rfl
theorem t_strings_CutPrefix (k : Nat) (D : CallF) : curF [(0, .s), (1, .s)] (fun args h => denF (C_strings_CutPrefix k D) k r_strings_CutPrefix [(4, .s), (5, .b)] [none, none] args h) = strings_CutPrefix k D := by kernel_rfl
theorem ok_strings_CutPrefix {D : CallF} (hD : CSound Try.prog 0 D) (k : Nat) : EntOk Try.prog 0 (e_strings_CutPrefix k D) :=
 entOf_ok2 (mkC_sound hD (EntsOk.more (ok_internal_stringslite_CutPrefix hD k) (EntsOk.none))) Try.func53 rfl q_strings_CutPrefix rfl (t_strings_CutPrefix k D)
end Gc
namespace Gc
open Go Gx Go.Proofs
set_option maxRecDepth 100000
noncomputable def C_num_Read (_k : Nat) (D : CallF) : CallF := mkC D []
noncomputable def num_Read (_k : Nat) (_D : CallF) (s_0 : ByteArray) (h : AHeap) : Option (((Option Addr)) × AHeap) :=
 let h1 := AHeap.new h (.cells [.string s_0, .int .i64 0] 142 true 0)
 some ((some (⟨h.next, 0, none⟩ : Addr)), h1)
noncomputable def r_num_Read : RCode := an (.n) (rOf Try.prog 0 Try.f54)
noncomputable def e_num_Read (k : Nat) (D : CallF) : Ent := entOf 54 [(0, .s)] [(2, .p)] (num_Read k D)
theorem q_num_Read : (Try.f54.body).bind (rcodeOf Try.prog 0 Try.f54.ntmps) = some (strip r_num_Read) := by kernel_rfl
theorem t_num_Read (k : Nat) (D : CallF) : curF [(0, .s)] (fun args h => denF (C_num_Read k D) k r_num_Read [(2, .p)] [none] args h) = num_Read k D := by kernel_rfl
theorem ok_num_Read {D : CallF} (hD : CSound Try.prog 0 D) (k : Nat) : EntOk Try.prog 0 (e_num_Read k D) :=
 entOf_ok2 (mkC_sound hD (EntsOk.none)) Try.func54 rfl q_num_Read rfl (t_num_Read k D)
end Gc
namespace Gc
open Go Gx Go.Proofs
set_option maxRecDepth 100000
noncomputable def C_index_list_string (k : Nat) (D : CallF) : CallF := mkC D [e_num_Reader_Short k D, e_num_Reader_Err k D]
noncomputable def index_list_string_l0b (k : Nat) (D : CallF) (j3 : Slc → AHeap → Option ((Slc) × AHeap)) (rec11 : (Option Addr) → Value → Slc → Int → Int → AHeap → Option ((Slc) × AHeap)) (r5 : Option Addr) (one6 : Value) (out7 : Slc) (y8 : Int) (y9 : Int) (h10 : AHeap) : Option ((Slc) × AHeap) :=
 (if (decide (y9 < y8)) = true then
 callD (C_index_list_string k D) one6 [.pointer r5] h10 fun v12 h13 =>
 (decS v12).bind fun x14 =>
 (num_Reader_Err k D r5 h13).bind fun r15 =>
 (if (r15.1 != 0) = true then
 some ((⟨none, 0, 0⟩ : Slc), r15.2)
 else
 newK r15.2 ((.cells [.string x14] 9 true 0)) fun h16 =>
 (rdS 1 (⟨(some ⟨r15.2.next, 0, some 0⟩), 1, 1⟩ : Slc) h16).bind fun n18 =>
 (appendA 1 16 9 h16 out7 n18 1).bind fun r17 =>
 rec11 r5 one6 r17.1 y8 (IntKind.wrap .i64 (y9 + 1)) r17.2)
 else
 j3 out7 h10)
noncomputable def index_list_string_l0 (k : Nat) (D : CallF) (j3 : Slc → AHeap → Option ((Slc) × AHeap)) : (Option Addr) → Value → Slc → Int → Int → AHeap → Option ((Slc) × AHeap) :=
 iterK (α := (Option Addr) → Value → Slc → Int → Int → AHeap → Option ((Slc) × AHeap)) (fun _ _ _ _ _ _ => none) k (index_list_string_l0b k D j3)
noncomputable def index_list_string (k : Nat) (D : CallF) (r_0 : Option Addr) (one_1 : Value) (h : AHeap) : Option ((Slc) × AHeap) :=
 joinK (fun (out1 : Slc) (h2 : AHeap) =>
 some (out1, h2)) fun j3 =>
 (num_Reader_Short k D r_0 4096 h).bind fun r4 =>
 index_list_string_l0 k D j3 r_0 one_1 (⟨none, 0, 0⟩ : Slc) r4.1 0 r4.2
noncomputable def r_index_list_string : RCode := an (.s .n (.s .n (.s (.j [(5, .l)] (.s .n (.b (.l [(0, .p), (1, .v), (5, .l), (8, .i .i64), (9, .i .i64)] (.s .n (.s .n (.s (.b (.s (.r [(2, .s)]) .n)) .n))))))) .n))) (rOf Try.prog 0 Try.f55)
noncomputable def e_index_list_string (k : Nat) (D : CallF) : Ent := entOf 55 [(0, .p), (1, .v)] [(4, .l)] (index_list_string k D)
theorem q_index_list_string : (Try.f55.body).bind (rcodeOf Try.prog 0 Try.f55.ntmps) = some (strip r_index_list_string) := by kernel_rfl
theorem t_index_list_string (k : Nat) (D : CallF) : curF [(0, .p), (1, .v)] (fun args h => denF (C_index_list_string k D) k r_index_list_string [(4, .l)] [none] args h) = index_list_string k D := by kernel_rfl
theorem ok_index_list_string {D : CallF} (hD : CSound Try.prog 0 D) (k : Nat) : EntOk Try.prog 0 (e_index_list_string k D) :=
 entOf_ok2 (mkC_sound hD (EntsOk.more (ok_num_Reader_Short hD k) (EntsOk.more (ok_num_Reader_Err hD k) (EntsOk.none)))) Try.func55 rfl q_index_list_string rfl (t_index_list_string k D)
end Gc
namespace Gc
open Go Gx Go.Proofs
set_option maxRecDepth 100000
noncomputable def C_index_list_api_Item (k : Nat) (D : CallF) : CallF := mkC D [e_num_Reader_Short k D, e_num_Reader_Err k D]
noncomputable def index_list_api_Item_l0b (k : Nat) (D : CallF) (j3 : Slc → AHeap → Option ((Slc) × AHeap)) (rec11 : (Option Addr) → Value → Slc → Int → Int → AHeap → Option ((Slc) × AHeap)) (r5 : Option Addr) (one6 : Value) (out7 : Slc) (y8 : Int) (y9 : Int) (h10 : AHeap) : Option ((Slc) × AHeap) :=
 (if (decide (y9 < y8)) = true then
 callD (C_index_list_api_Item k D) one6 [.pointer r5] h10 fun v12 h13 =>
 (match v12 with
 | .agg c14 => (decC [.s, .s, .i .i64, .i .i64, .i .i64, .i .i64] c14.toList).bind fun x15 =>
 newK h13 ((.cells [.string ⟨#[]⟩, .string ⟨#[]⟩, .int .i64 0, .int .i64 0, .int .i64 0, .int .i64 0] 57 true 0)) fun h16 =>
 (stL 6 (⟨h13.next, 0, none⟩ : Addr) ([.string x15.1, .string x15.2.1, .int .i64 x15.2.2.1, .int .i64 x15.2.2.2.1, .int .i64 x15.2.2.2.2.1, .int .i64 x15.2.2.2.2.2]) h16).bind fun h17 =>
 (num_Reader_Err k D r5 h17).bind fun r18 =>
 (if (r18.1 != 0) = true then
 some ((⟨none, 0, 0⟩ : Slc), r18.2)
 else
 (ldA 6 (⟨h13.next, 0, none⟩ : Addr) r18.2).bind fun l19 =>
 (decC [.s, .s, .i .i64, .i .i64, .i .i64, .i .i64] l19).bind fun x20 =>
 newK r18.2 ((.cells [.string x20.1, .string x20.2.1, .int .i64 x20.2.2.1, .int .i64 x20.2.2.2.1, .int .i64 x20.2.2.2.2.1, .int .i64 x20.2.2.2.2.2] 57 true 0)) fun h21 =>
 (rdS 6 (⟨(some ⟨r18.2.next, 0, some 0⟩), 1, 1⟩ : Slc) h21).bind fun n23 =>
 (appendA 6 64 57 h21 out7 n23 1).bind fun r22 =>
 rec11 r5 one6 r22.1 y8 (IntKind.wrap .i64 (y9 + 1)) r22.2)
 | _ => none)
 else
 j3 out7 h10)
noncomputable def index_list_api_Item_l0 (k : Nat) (D : CallF) (j3 : Slc → AHeap → Option ((Slc) × AHeap)) : (Option Addr) → Value → Slc → Int → Int → AHeap → Option ((Slc) × AHeap) :=
 iterK (α := (Option Addr) → Value → Slc → Int → Int → AHeap → Option ((Slc) × AHeap)) (fun _ _ _ _ _ _ => none) k (index_list_api_Item_l0b k D j3)
noncomputable def index_list_api_Item (k : Nat) (D : CallF) (r_0 : Option Addr) (one_1 : Value) (h : AHeap) : Option ((Slc) × AHeap) :=
 joinK (fun (out1 : Slc) (h2 : AHeap) =>
 some (out1, h2)) fun j3 =>
 (num_Reader_Short k D r_0 4096 h).bind fun r4 =>
 index_list_api_Item_l0 k D j3 r_0 one_1 (⟨none, 0, 0⟩ : Slc) r4.1 0 r4.2
noncomputable def r_index_list_api_Item : RCode := an (.s .n (.s .n (.s (.j [(5, .l)] (.s .n (.b (.l [(0, .p), (1, .v), (5, .l), (8, .i .i64), (9, .i .i64)] (.s .n (.s .n (.s (.b (.s (.r [(2, .st [.s, .s, .i .i64, .i .i64, .i .i64, .i .i64])]) (.s .n (.r [(1, .st [.s, .s, .i .i64, .i .i64, .i .i64, .i .i64])])))) .n))))))) .n))) (rOf Try.prog 0 Try.f58)
noncomputable def e_index_list_api_Item (k : Nat) (D : CallF) : Ent := entOf 58 [(0, .p), (1, .v)] [(4, .l)] (index_list_api_Item k D)
theorem q_index_list_api_Item : (Try.f58.body).bind (rcodeOf Try.prog 0 Try.f58.ntmps) = some (strip r_index_list_api_Item) := by kernel_rfl
theorem t_index_list_api_Item (k : Nat) (D : CallF) : curF [(0, .p), (1, .v)] (fun args h => denF (C_index_list_api_Item k D) k r_index_list_api_Item [(4, .l)] [none] args h) = index_list_api_Item k D := by kernel_rfl
theorem ok_index_list_api_Item {D : CallF} (hD : CSound Try.prog 0 D) (k : Nat) : EntOk Try.prog 0 (e_index_list_api_Item k D) :=
 entOf_ok2 (mkC_sound hD (EntsOk.more (ok_num_Reader_Short hD k) (EntsOk.more (ok_num_Reader_Err hD k) (EntsOk.none)))) Try.func58 rfl q_index_list_api_Item rfl (t_index_list_api_Item k D)
end Gc
namespace Gc
open Go Gx Go.Proofs
set_option maxRecDepth 100000
noncomputable def C_index_Decode (k : Nat) (D : CallF) : CallF := mkC D [e_strings_CutPrefix k D, e_num_Read k D, e_index_list_string k D, e_index_list_api_Item k D, e_num_Reader_End k D, e_index_check k D]
noncomputable def index_Decode (k : Nat) (D : CallF) (s_0 : ByteArray) (h : AHeap) : Option (((Slc × Slc) × Int) × AHeap) :=
 newK h ((.cells [.slice none 0 0, .slice none 0 0] 25 true 0)) fun h1 =>
 (strings_CutPrefix k D s_0 (⟨#[71, 82, 84, 73, 1]⟩ : ByteArray) h1).bind fun r2 =>
 joinK (fun (y3 : Option Addr) (rest4 : ByteArray) (y5 : Bool) (h6 : AHeap) =>
 (if y5 = true then
 (y3).bind fun p8 =>
 (stL 2 p8 ([.slice none 0 0, .slice none 0 0]) h6).bind fun h9 =>
 (y3).bind fun p10 =>
 (ldA 2 p10 h9).bind fun l11 =>
 (decC [.l, .l] l11).bind fun x12 =>
 some (((x12.1, x12.2), 160), h9)
 else
 (num_Read k D rest4 h6).bind fun r13 =>
 newK r13.2 ((.cells [.slice none 0 0, .slice none 0 0] 25 true 0)) fun h14 =>
 (index_list_string k D r13.1 (.func (.func 56) ⟨[]⟩ ⟨[]⟩) h14).bind fun r15 =>
 (st1 (⟨r13.2.next, 0, none⟩ : Addr) (.slice r15.1.a r15.1.len r15.1.cap) r15.2).bind fun h16 =>
 (index_list_api_Item k D r13.1 (.func (.func 59) ⟨[]⟩ ⟨[]⟩) h16).bind fun r17 =>
 (st1 (⟨r13.2.next, 1, none⟩ : Addr) (.slice r17.1.a r17.1.len r17.1.cap) r17.2).bind fun h18 =>
 joinK (fun (y19 : Option Addr) (f20 : Option Addr) (y21 : Bool) (h22 : AHeap) =>
 (if y21 = true then
 (y19).bind fun p24 =>
 (stL 2 p24 ([.slice none 0 0, .slice none 0 0]) h22).bind fun h25 =>
 (y19).bind fun p26 =>
 (ldA 2 p26 h25).bind fun l27 =>
 (decC [.l, .l] l27).bind fun x28 =>
 some (((x28.1, x28.2), 160), h25)
 else
 (f20).bind fun p29 =>
 (ldA 2 p29 h22).bind fun l30 =>
 (decC [.l, .l] l30).bind fun x31 =>
 (y19).bind fun p32 =>
 (stL 2 p32 ([.slice x31.1.a x31.1.len x31.1.cap, .slice x31.2.a x31.2.len x31.2.cap]) h22).bind fun h33 =>
 (y19).bind fun p34 =>
 (ldA 2 p34 h33).bind fun l35 =>
 (decC [.l, .l] l35).bind fun x36 =>
 some (((x36.1, x36.2), 0), h33))) fun j23 =>
 (num_Reader_End k D r13.1 h18).bind fun r37 =>
 (if (r37.1 != 0) = true then
 j23 y3 (some (⟨r13.2.next, 0, none⟩ : Addr)) true r37.2
 else
 (ldA 2 (⟨r13.2.next, 0, none⟩ : Addr) r37.2).bind fun l38 =>
 (decC [.l, .l] l38).bind fun x39 =>
 (index_check k D (x39.1, x39.2) r37.2).bind fun r40 =>
 j23 y3 (some (⟨r13.2.next, 0, none⟩ : Addr)) (r40.1 != 0) r40.2))) fun j7 =>
 (if (!r2.1.2) = true then
 j7 (some (⟨h.next, 0, none⟩ : Addr)) r2.1.1 true r2.2
 else
 j7 (some (⟨h.next, 0, none⟩ : Addr)) r2.1.1 (decide ((s_0.size : Int) > 65536)) r2.2)
noncomputable def r_index_Decode : RCode := an (.s .n (.s .n (.s (.s (.j [(2, .p), (4, .s), (19, .b)] .n) .n) (.s .n (.s .n (.s .n (.s .n (.s (.s (.j [(2, .p), (7, .p), (36, .b)] (.r [(4, .st [.l, .l])])) .n) (.s (.r [(0, .st [.l, .l])]) .n))))))))) (rOf Try.prog 0 Try.f19)
noncomputable def e_index_Decode (k : Nat) (D : CallF) : Ent := entOf 19 [(0, .s)] [(2, .st [.l, .l]), (3, .i .i64)] (index_Decode k D)
theorem q_index_Decode : (Try.f19.body).bind (rcodeOf Try.prog 0 Try.f19.ntmps) = some (strip r_index_Decode) := by kernel_rfl
theorem t_index_Decode (k : Nat) (D : CallF) : curF [(0, .s)] (fun args h => denF (C_index_Decode k D) k r_index_Decode [(2, .st [.l, .l]), (3, .i .i64)] [some (.agg 2), none] args h) = index_Decode k D := by kernel_rfl
theorem ok_index_Decode {D : CallF} (hD : CSound Try.prog 0 D) (k : Nat) : EntOk Try.prog 0 (e_index_Decode k D) :=
 entOf_ok2 (mkC_sound hD (EntsOk.more (ok_strings_CutPrefix hD k) (EntsOk.more (ok_num_Read hD k) (EntsOk.more (ok_index_list_string hD k) (EntsOk.more (ok_index_list_api_Item hD k) (EntsOk.more (ok_num_Reader_End hD k) (EntsOk.more (ok_index_check hD k) (EntsOk.none)))))))) Try.func19 rfl q_index_Decode rfl (t_index_Decode k D)
end Gc
namespace Gc
open Go Gx Go.Proofs
set_option maxRecDepth 100000
noncomputable def C_slices_Grow_api_Item_api_Item (_k : Nat) (D : CallF) : CallF := mkC D []
noncomputable def slices_Grow_api_Item_api_Item (_k : Nat) (_D : CallF) (s_0 : Slc) (n_1 : Int) (h : AHeap) : Option ((Slc) × AHeap) :=
 joinK (fun (s1 : Slc) (n2 : Int) (h3 : AHeap) =>
 joinK (fun (s5 : Slc) (h6 : AHeap) =>
 some (s5, h6)) fun j7 =>
 (capOf s1).bind fun c8 =>
 let t9 : Int := (IntKind.wrap .i64 (n2 - (IntKind.wrap .i64 (c8 - (s1.len : Int)))))
 (if (decide (t9 > 0)) = true then
 (capOf s1).bind fun c10 =>
 (Gx.subL 6 s1 none (some c10) none).bind fun l11 =>
 (if 0 ≤ t9 ∧ t9 ≤ 281474976710656 ∧ t9 * 64 ≤ 281474976710656 then
 (appendA 6 64 57 h3 l11 (zerosL (t9).toNat [.string ⟨#[]⟩, .string ⟨#[]⟩, .int .i64 0, .int .i64 0, .int .i64 0, .int .i64 0]) (t9).toNat).bind fun r12 =>
 (Gx.subL 6 r12.1 none (some (s1.len : Int)) none).bind fun l13 =>
 j7 l13 r12.2
 else none)
 else
 j7 s1 h3)) fun j4 =>
 (if (decide (n_1 < 0)) = true then
 none
 else
 j4 s_0 n_1 h)
noncomputable def r_slices_Grow_api_Item_api_Item : RCode := an (.s .n (.s (.j [(0, .l), (1, .i .i64)] .n) (.s (.j [(0, .l)] .n) .n))) (rOf Try.prog 0 Try.f125)
noncomputable def e_slices_Grow_api_Item_api_Item (k : Nat) (D : CallF) : Ent := entOf 125 [(0, .l), (1, .i .i64)] [(4, .l)] (slices_Grow_api_Item_api_Item k D)
theorem q_slices_Grow_api_Item_api_Item : (Try.f125.body).bind (rcodeOf Try.prog 0 Try.f125.ntmps) = some (strip r_slices_Grow_api_Item_api_Item) := by kernel_rfl
theorem t_slices_Grow_api_Item_api_Item (k : Nat) (D : CallF) : curF [(0, .l), (1, .i .i64)] (fun args h => denF (C_slices_Grow_api_Item_api_Item k D) k r_slices_Grow_api_Item_api_Item [(4, .l)] [none] args h) = slices_Grow_api_Item_api_Item k D := by kernel_rfl
theorem ok_slices_Grow_api_Item_api_Item {D : CallF} (hD : CSound Try.prog 0 D) (k : Nat) : EntOk Try.prog 0 (e_slices_Grow_api_Item_api_Item k D) :=
 entOf_ok2 (mkC_sound hD (EntsOk.none)) Try.func125 rfl q_slices_Grow_api_Item_api_Item rfl (t_slices_Grow_api_Item_api_Item k D)
end Gc
namespace Gc
open Go Gx Go.Proofs
set_option maxRecDepth 100000
noncomputable def C_slices_Concat_api_Item_api_Item (k : Nat) (D : CallF) : CallF := mkC D [e_slices_Grow_api_Item_api_Item k D]
noncomputable def slices_Concat_api_Item_api_Item_l1b (_k : Nat) (_D : CallF) (j4 : Slc → Int → AHeap → Option ((Slc) × AHeap)) (rec25 : Slc → Int → Slc → Int → Int → AHeap → Option ((Slc) × AHeap)) (slices19 : Slc) (size20 : Int) (y21 : Slc) (y22 : Int) (y23 : Int) (h24 : AHeap) : Option ((Slc) × AHeap) :=
 (if (decide (y23 < y22)) = true then
 joinK (fun (slices26 : Slc) (size27 : Int) (y28 : Slc) (y29 : Int) (y30 : Int) (h31 : AHeap) =>
 rec25 slices26 size27 y28 y29 (IntKind.wrap .i64 (y30 + 1)) h31) fun j32 =>
 (Gx.idxL 1 y21 y23).bind fun q33 =>
 (ldL q33 h24).bind fun x34 =>
 (if (decide ((IntKind.wrap .i64 (size20 + (x34.len : Int))) < 0)) = true then
 none
 else
 j32 slices19 (IntKind.wrap .i64 (size20 + (x34.len : Int))) y21 y22 y23 h24)
 else
 j4 slices19 size20 h24)
noncomputable def slices_Concat_api_Item_api_Item_l1 (k : Nat) (D : CallF) (j4 : Slc → Int → AHeap → Option ((Slc) × AHeap)) : Slc → Int → Slc → Int → Int → AHeap → Option ((Slc) × AHeap) :=
 iterK (α := Slc → Int → Slc → Int → Int → AHeap → Option ((Slc) × AHeap)) (fun _ _ _ _ _ _ => none) k (slices_Concat_api_Item_api_Item_l1b k D j4)
noncomputable def slices_Concat_api_Item_api_Item_l0b (_k : Nat) (_D : CallF) (j8 : Slc → AHeap → Option ((Slc) × AHeap)) (rec14 : Slc → Slc → Int → Int → AHeap → Option ((Slc) × AHeap)) (newslice9 : Slc) (y10 : Slc) (y11 : Int) (y12 : Int) (h13 : AHeap) : Option ((Slc) × AHeap) :=
 (if (decide (y12 < y11)) = true then
 (Gx.idxL 1 y10 y12).bind fun q15 =>
 (ldL q15 h13).bind fun x16 =>
 (rdS 6 x16 h13).bind fun n18 =>
 (appendA 6 64 57 h13 newslice9 n18 x16.len).bind fun r17 =>
 rec14 r17.1 y10 y11 (IntKind.wrap .i64 (y12 + 1)) r17.2
 else
 j8 newslice9 h13)
noncomputable def slices_Concat_api_Item_api_Item_l0 (k : Nat) (D : CallF) (j8 : Slc → AHeap → Option ((Slc) × AHeap)) : Slc → Slc → Int → Int → AHeap → Option ((Slc) × AHeap) :=
 iterK (α := Slc → Slc → Int → Int → AHeap → Option ((Slc) × AHeap)) (fun _ _ _ _ _ => none) k (slices_Concat_api_Item_api_Item_l0b k D j8)
noncomputable def slices_Concat_api_Item_api_Item (k : Nat) (D : CallF) (slices_0 : Slc) (h : AHeap) : Option ((Slc) × AHeap) :=
 joinK (fun (slices1 : Slc) (size2 : Int) (h3 : AHeap) =>
 (slices_Grow_api_Item_api_Item k D (⟨none, 0, 0⟩ : Slc) size2 h3).bind fun r5 =>
 joinK (fun (newslice6 : Slc) (h7 : AHeap) =>
 some (newslice6, h7)) fun j8 =>
 slices_Concat_api_Item_api_Item_l0 k D j8 r5.1 slices1 (slices1.len : Int) 0 r5.2) fun j4 =>
 slices_Concat_api_Item_api_Item_l1 k D j4 slices_0 0 slices_0 (slices_0.len : Int) 0 h
noncomputable def r_slices_Concat_api_Item_api_Item : RCode := an (.s .n (.s .n (.s (.j [(0, .l), (3, .i .i64)] (.s .n (.b (.l [(0, .l), (3, .i .i64), (9, .l), (10, .i .i64), (11, .i .i64)] (.s .n (.s .n (.s (.j [(0, .l), (3, .i .i64), (9, .l), (10, .i .i64), (11, .i .i64)] .n) .n))))))) (.s .n (.s (.j [(6, .l)] (.s .n (.b (.l [(6, .l), (25, .l), (26, .i .i64), (27, .i .i64)] .n)))) .n))))) (rOf Try.prog 0 Try.f82)
noncomputable def e_slices_Concat_api_Item_api_Item (k : Nat) (D : CallF) : Ent := entOf 82 [(0, .l)] [(2, .l)] (slices_Concat_api_Item_api_Item k D)
theorem q_slices_Concat_api_Item_api_Item : (Try.f82.body).bind (rcodeOf Try.prog 0 Try.f82.ntmps) = some (strip r_slices_Concat_api_Item_api_Item) := by kernel_rfl
theorem t_slices_Concat_api_Item_api_Item (k : Nat) (D : CallF) : curF [(0, .l)] (fun args h => denF (C_slices_Concat_api_Item_api_Item k D) k r_slices_Concat_api_Item_api_Item [(2, .l)] [none] args h) = slices_Concat_api_Item_api_Item k D := by kernel_rfl
theorem ok_slices_Concat_api_Item_api_Item {D : CallF} (hD : CSound Try.prog 0 D) (k : Nat) : EntOk Try.prog 0 (e_slices_Concat_api_Item_api_Item k D) :=
 entOf_ok2 (mkC_sound hD (EntsOk.more (ok_slices_Grow_api_Item_api_Item hD k) (EntsOk.none))) Try.func82 rfl q_slices_Concat_api_Item_api_Item rfl (t_slices_Concat_api_Item_api_Item k D)
end Gc
namespace Gc
open Go Gx Go.Proofs
set_option maxRecDepth 100000
noncomputable def C_lookup_Table_All (k : Nat) (D : CallF) : CallF := mkC D [e_slices_Concat_api_Item_api_Item k D]
noncomputable def lookup_Table_All (k : Nat) (D : CallF) (t_0 : Option Addr) (h : AHeap) : Option ((Slc) × AHeap) :=
 (t_0).bind fun p1 =>
 (Gx.subA 256 1 (⟨p1.block, p1.off + 0, none⟩ : Addr) none none none).bind fun l2 =>
 (slices_Concat_api_Item_api_Item k D l2 h).bind fun r3 =>
 some (r3.1, r3.2)
noncomputable def r_lookup_Table_All : RCode := an (.n) (rOf Try.prog 0 Try.f37)
noncomputable def e_lookup_Table_All (k : Nat) (D : CallF) : Ent := entOf 37 [(0, .p)] [(2, .l)] (lookup_Table_All k D)
theorem q_lookup_Table_All : (Try.f37.body).bind (rcodeOf Try.prog 0 Try.f37.ntmps) = some (strip r_lookup_Table_All) := by kernel_rfl
theorem t_lookup_Table_All (k : Nat) (D : CallF) : curF [(0, .p)] (fun args h => denF (C_lookup_Table_All k D) k r_lookup_Table_All [(2, .l)] [none] args h) = lookup_Table_All k D := by kernel_rfl
theorem ok_lookup_Table_All {D : CallF} (hD : CSound Try.prog 0 D) (k : Nat) : EntOk Try.prog 0 (e_lookup_Table_All k D) :=
 entOf_ok2 (mkC_sound hD (EntsOk.more (ok_slices_Concat_api_Item_api_Item hD k) (EntsOk.none))) Try.func37 rfl q_lookup_Table_All rfl (t_lookup_Table_All k D)
end Gc
namespace Gc
open Go Gx Go.Proofs
set_option maxRecDepth 100000
noncomputable def law15_sameItems_l0b (_k : Nat) (_D : CallF) (j2 : AHeap → Option ((Bool) × AHeap)) (rec7 : Slc → Slc → Int → AHeap → Option ((Bool) × AHeap)) (a3 : Slc) (b4 : Slc) (i5 : Int) (h6 : AHeap) : Option ((Bool) × AHeap) :=
 (if (decide (i5 < (a3.len : Int))) = true then
 (Gx.idxL 6 a3 i5).bind fun q8 =>
 (ldA 6 q8 h6).bind fun l9 =>
 (decC [.s, .s, .i .i64, .i .i64, .i .i64, .i .i64] l9).bind fun x10 =>
 (Gx.idxL 6 b4 i5).bind fun q11 =>
 (ldA 6 q11 h6).bind fun l12 =>
 (decC [.s, .s, .i .i64, .i .i64, .i .i64, .i .i64] l12).bind fun x13 =>
 let c14 : Bool := (!((x10.1 == x13.1) && ((x10.2.1 == x13.2.1) && ((x10.2.2.1 == x13.2.2.1) && ((x10.2.2.2.1 == x13.2.2.2.1) && ((x10.2.2.2.2.1 == x13.2.2.2.2.1) && (x10.2.2.2.2.2 == x13.2.2.2.2.2)))))))
 (if c14 = true then
 some (false, h6)
 else
 rec7 a3 b4 (IntKind.wrap .i64 (i5 + 1)) h6)
 else
 j2 h6)
noncomputable def law15_sameItems_l0 (k : Nat) (D : CallF) (j2 : AHeap → Option ((Bool) × AHeap)) : Slc → Slc → Int → AHeap → Option ((Bool) × AHeap) :=
 iterK (α := Slc → Slc → Int → AHeap → Option ((Bool) × AHeap)) (fun _ _ _ _ => none) k (law15_sameItems_l0b k D j2)
noncomputable def law15_sameItems (k : Nat) (D : CallF) (a_0 : Slc) (b_1 : Slc) (h : AHeap) : Option ((Bool) × AHeap) :=
 (if ((a_0.len : Int) != (b_1.len : Int)) = true then
 some (false, h)
 else
 joinK (fun (h1 : AHeap) =>
 some (true, h1)) fun j2 =>
 law15_sameItems_l0 k D j2 a_0 b_1 0 h)
end Gc
namespace Gc
open Go Gx Go.Proofs
set_option maxRecDepth 100000
end Gc
namespace Gc
open Go Gx Go.Proofs
set_option maxRecDepth 100000
end Gc
namespace Go.Proofs
open Go.Shelf Go.RowKit Go.Sort
end Go.Proofs
namespace Gc
open Go Gx Go.Proofs
end Gc
namespace Gc
open Go Gx Go.Proofs
set_option maxRecDepth 100000
end Gc
namespace Gc
open Go Gx Go.Proofs
set_option maxRecDepth 100000
end Gc
namespace Gc
open Go Gx Go.Proofs
set_option maxRecDepth 100000
end Gc
namespace Gc
open Go Gx Go.Proofs
set_option maxRecDepth 100000
noncomputable def C_law16_items (k : Nat) (D : CallF) : CallF := mkC D [e_lookup_New k D, e_lookup_Table_All k D, e_strings_Repeat k D, e_lookup_Table_Add k D]
noncomputable def law16_items_l0b (k : Nat) (D : CallF) (j4 : (Option Addr) → AHeap → Option ((Slc) × AHeap)) (rec10 : Slc → (Option Addr) → Int → AHeap → Option ((Slc) × AHeap)) (l6 : Slc) (t7 : Option Addr) (i8 : Int) (h9 : AHeap) : Option ((Slc) × AHeap) :=
 joinK (fun (l11 : Slc) (t12 : Option Addr) (i13 : Int) (y14 : Bool) (h15 : AHeap) =>
 (if y14 = true then
 let h17 := AHeap.resv h15 2
 (Gx.idxL 2 l11 i13).bind fun q18 =>
 (ldI .i64 (⟨q18.block, q18.off + 0, none⟩ : Addr) h17).bind fun x20 =>
 let h21 := AHeap.set h17 (h15.next + 0) (.cells [.int .u8 (IntKind.wrap .u8 x20)] 5 true 0)
 (bytesOf h21 (⟨(some ⟨(h15.next + 0), 0, some 0⟩), 1, 1⟩ : Slc)).bind fun s22 =>
 guardP (OwnW (h15.next + 0) h21 (fun H24 => (bytesOf H24 (⟨(some ⟨(h15.next + 0), 0, some 0⟩), 1, 1⟩ : Slc)).bind fun y23 => some (.string y23)) (.string s22)) (
 (Gx.idxL 2 l11 i13).bind fun q25 =>
 (ldI .i64 (⟨q25.block, q25.off + 1, none⟩ : Addr) h21).bind fun x27 =>
 guardP (SameW [h17] (fun H29 => (ldI .i64 (⟨q25.block, q25.off + 1, none⟩ : Addr) H29).bind fun y28 => some (.int .i64 y28)) (.int .i64 x27)) (
 let h30 := AHeap.set h21 (h15.next + 1) (.cells [.int .u8 (IntKind.wrap .u8 x27)] 5 true 0)
 (bytesOf h30 (⟨(some ⟨(h15.next + 1), 0, some 0⟩), 1, 1⟩ : Slc)).bind fun s31 =>
 guardP (OwnW (h15.next + 1) h30 (fun H33 => (bytesOf H33 (⟨(some ⟨(h15.next + 1), 0, some 0⟩), 1, 1⟩ : Slc)).bind fun y32 => some (.string y32)) (.string s31)) (
 (repeatA s22 32).bind fun s34 =>
 (repeatA s31 32).bind fun s35 =>
 newK h30 ((.cells [.string s34, .string s35, .int .i64 2, .int .i64 (Int.tmod i13 3), .int .i64 (IntKind.wrap .i64 (1 + (Int.tmod i13 5))), .int .i64 (Int.tmod i13 7)] 57 true 0)) fun h36 =>
 (lookup_Table_Add k D t12 (⟨(some ⟨h30.next, 0, some 0⟩), 1, 1⟩ : Slc) h36).bind fun r37 =>
 (if (r37.1 != 0) = true then
 some ((⟨none, 0, 0⟩ : Slc), r37.2)
 else
 rec10 l11 t12 (IntKind.wrap .i64 (i13 + 1)) r37.2))))
 else
 j4 t12 h15)) fun j16 =>
 (if (decide (i8 < (l6.len : Int))) = true then
 j16 l6 t7 i8 (decide (i8 < 100)) h9
 else
 j16 l6 t7 i8 false h9)
noncomputable def law16_items_l0 (k : Nat) (D : CallF) (j4 : (Option Addr) → AHeap → Option ((Slc) × AHeap)) : Slc → (Option Addr) → Int → AHeap → Option ((Slc) × AHeap) :=
 iterK (α := Slc → (Option Addr) → Int → AHeap → Option ((Slc) × AHeap)) (fun _ _ _ _ => none) k (law16_items_l0b k D j4)
noncomputable def law16_items (k : Nat) (D : CallF) (l_0 : Slc) (h : AHeap) : Option ((Slc) × AHeap) :=
 (lookup_New k D h).bind fun r1 =>
 (if r1.1.isNone = true then
 some ((⟨none, 0, 0⟩ : Slc), r1.2)
 else
 joinK (fun (t2 : Option Addr) (h3 : AHeap) =>
 (lookup_Table_All k D t2 h3).bind fun r5 =>
 some (r5.1, r5.2)) fun j4 =>
 law16_items_l0 k D j4 l_0 r1.1 0 r1.2)
noncomputable def r_law16_items : RCode := an (.s .n (.s .n (.s .n (.s (.j [(3, .p)] (.s .n (.b (.l [(0, .l), (3, .p), (4, .i .i64)] (.s (.s (.j [(0, .l), (3, .p), (4, .i .i64), (17, .b)] .n) .n) .n))))) .n)))) (rOf Try.prog 0 Try.f25)
noncomputable def e_law16_items (k : Nat) (D : CallF) : Ent := entOf 25 [(0, .l)] [(2, .l)] (law16_items k D)
theorem q_law16_items : (Try.f25.body).bind (rcodeOf Try.prog 0 Try.f25.ntmps) = some (strip r_law16_items) := by kernel_rfl
theorem t_law16_items (k : Nat) (D : CallF) : curF [(0, .l)] (fun args h => denF (C_law16_items k D) k r_law16_items [(2, .l)] [none] args h) = law16_items k D := by kernel_rfl
theorem ok_law16_items {D : CallF} (hD : CSound Try.prog 0 D) (k : Nat) : EntOk Try.prog 0 (e_law16_items k D) :=
 entOf_ok2 (mkC_sound hD (EntsOk.more (ok_lookup_New hD k) (EntsOk.more (ok_lookup_Table_All hD k) (EntsOk.more (ok_strings_Repeat hD k) (EntsOk.more (ok_lookup_Table_Add hD k) (EntsOk.none)))))) Try.func25 rfl q_law16_items rfl (t_law16_items k D)
end Gc
namespace Gc
open Go Gx Go.Proofs
set_option maxRecDepth 100000
end Gc
namespace Gc
open Go Gx Go.Proofs
set_option maxRecDepth 100000
end Gc
namespace Gc
open Go Gx Go.Proofs
set_option maxRecDepth 100000
end Gc
namespace Gc
open Go Gx Go.Proofs
set_option maxRecDepth 100000
end Gc
namespace Gc
open Go Gx Go.Proofs
set_option maxRecDepth 100000
end Gc
namespace Gc
open Go Gx Go.Proofs
set_option maxRecDepth 100000
end Gc
namespace Gc
open Go Gx Go.Proofs
set_option maxRecDepth 100000
end Gc
namespace Gc
open Go Gx Go.Proofs
set_option maxRecDepth 100000
end Gc
namespace Gc
open Go Gx Go.Proofs
set_option maxRecDepth 100000
end Gc
namespace Gc
open Go Gx Go.Proofs
set_option maxRecDepth 100000
end Gc
namespace Gc
open Go Gx Go.Proofs
set_option maxRecDepth 100000
end Gc
namespace Gc
open Go Gx Go.Proofs
set_option maxRecDepth 100000
noncomputable def C_book_SameTexts (_k : Nat) (D : CallF) : CallF := mkC D []
noncomputable def book_SameTexts_l0b (_k : Nat) (_D : CallF) (j2 : AHeap → Option ((Bool) × AHeap)) (rec7 : Slc → Slc → Int → AHeap → Option ((Bool) × AHeap)) (a3 : Slc) (b4 : Slc) (i5 : Int) (h6 : AHeap) : Option ((Bool) × AHeap) :=
 (if (decide (i5 < (a3.len : Int))) = true then
 (Gx.idxL 1 a3 i5).bind fun q8 =>
 (ldS q8 h6).bind fun x9 =>
 (Gx.idxL 1 b4 i5).bind fun q10 =>
 (ldS q10 h6).bind fun x11 =>
 (if (!(x9 == x11)) = true then
 some (false, h6)
 else
 rec7 a3 b4 (IntKind.wrap .i64 (i5 + 1)) h6)
 else
 j2 h6)
noncomputable def book_SameTexts_l0 (k : Nat) (D : CallF) (j2 : AHeap → Option ((Bool) × AHeap)) : Slc → Slc → Int → AHeap → Option ((Bool) × AHeap) :=
 iterK (α := Slc → Slc → Int → AHeap → Option ((Bool) × AHeap)) (fun _ _ _ _ => none) k (book_SameTexts_l0b k D j2)
noncomputable def book_SameTexts (k : Nat) (D : CallF) (a_0 : Slc) (b_1 : Slc) (h : AHeap) : Option ((Bool) × AHeap) :=
 (if ((a_0.len : Int) != (b_1.len : Int)) = true then
 some (false, h)
 else
 joinK (fun (h1 : AHeap) =>
 some (true, h1)) fun j2 =>
 book_SameTexts_l0 k D j2 a_0 b_1 0 h)
noncomputable def r_book_SameTexts : RCode := an (.s .n (.s .n (.s (.j [] (.s .n (.b (.l [(0, .l), (1, .l), (5, .i .i64)] .n)))) .n))) (rOf Try.prog 0 Try.f18)
noncomputable def e_book_SameTexts (k : Nat) (D : CallF) : Ent := entOf 18 [(0, .l), (1, .l)] [(4, .b)] (book_SameTexts k D)
theorem q_book_SameTexts : (Try.f18.body).bind (rcodeOf Try.prog 0 Try.f18.ntmps) = some (strip r_book_SameTexts) := by kernel_rfl
theorem t_book_SameTexts (k : Nat) (D : CallF) : curF [(0, .l), (1, .l)] (fun args h => denF (C_book_SameTexts k D) k r_book_SameTexts [(4, .b)] [none] args h) = book_SameTexts k D := by kernel_rfl
theorem ok_book_SameTexts {D : CallF} (hD : CSound Try.prog 0 D) (k : Nat) : EntOk Try.prog 0 (e_book_SameTexts k D) :=
 entOf_ok2 (mkC_sound hD (EntsOk.none)) Try.func18 rfl q_book_SameTexts rfl (t_book_SameTexts k D)
end Gc
namespace Gc
open Go Gx Go.Proofs
set_option maxRecDepth 100000
end Gc
namespace Gc
open Go Gx Go.Proofs
set_option maxRecDepth 100000
noncomputable def C_law16_sameItems (_k : Nat) (D : CallF) : CallF := mkC D []
noncomputable def law16_sameItems_l0b (_k : Nat) (_D : CallF) (j2 : AHeap → Option ((Bool) × AHeap)) (rec7 : Slc → Slc → Int → AHeap → Option ((Bool) × AHeap)) (a3 : Slc) (b4 : Slc) (i5 : Int) (h6 : AHeap) : Option ((Bool) × AHeap) :=
 (if (decide (i5 < (a3.len : Int))) = true then
 (Gx.idxL 6 a3 i5).bind fun q8 =>
 (ldA 6 q8 h6).bind fun l9 =>
 (decC [.s, .s, .i .i64, .i .i64, .i .i64, .i .i64] l9).bind fun x10 =>
 (Gx.idxL 6 b4 i5).bind fun q11 =>
 (ldA 6 q11 h6).bind fun l12 =>
 (decC [.s, .s, .i .i64, .i .i64, .i .i64, .i .i64] l12).bind fun x13 =>
 let c14 : Bool := (!((x10.1 == x13.1) && ((x10.2.1 == x13.2.1) && ((x10.2.2.1 == x13.2.2.1) && ((x10.2.2.2.1 == x13.2.2.2.1) && ((x10.2.2.2.2.1 == x13.2.2.2.2.1) && (x10.2.2.2.2.2 == x13.2.2.2.2.2)))))))
 (if c14 = true then
 some (false, h6)
 else
 rec7 a3 b4 (IntKind.wrap .i64 (i5 + 1)) h6)
 else
 j2 h6)
noncomputable def law16_sameItems_l0 (k : Nat) (D : CallF) (j2 : AHeap → Option ((Bool) × AHeap)) : Slc → Slc → Int → AHeap → Option ((Bool) × AHeap) :=
 iterK (α := Slc → Slc → Int → AHeap → Option ((Bool) × AHeap)) (fun _ _ _ _ => none) k (law16_sameItems_l0b k D j2)
noncomputable def law16_sameItems (k : Nat) (D : CallF) (a_0 : Slc) (b_1 : Slc) (h : AHeap) : Option ((Bool) × AHeap) :=
 (if ((a_0.len : Int) != (b_1.len : Int)) = true then
 some (false, h)
 else
 joinK (fun (h1 : AHeap) =>
 some (true, h1)) fun j2 =>
 law16_sameItems_l0 k D j2 a_0 b_1 0 h)
noncomputable def r_law16_sameItems : RCode := an (.s .n (.s .n (.s (.j [] (.s .n (.b (.l [(0, .l), (1, .l), (5, .i .i64)] (.s .n (.s (.b (.s (.r [(3, .st [.s, .s, .i .i64, .i .i64, .i .i64, .i .i64]), (7, .st [.s, .s, .i .i64, .i .i64, .i .i64, .i .i64])]) .n)) .n)))))) .n))) (rOf Try.prog 0 Try.f15)
noncomputable def e_law16_sameItems (k : Nat) (D : CallF) : Ent := entOf 15 [(0, .l), (1, .l)] [(4, .b)] (law16_sameItems k D)
theorem q_law16_sameItems : (Try.f15.body).bind (rcodeOf Try.prog 0 Try.f15.ntmps) = some (strip r_law16_sameItems) := by kernel_rfl
theorem t_law16_sameItems (k : Nat) (D : CallF) : curF [(0, .l), (1, .l)] (fun args h => denF (C_law16_sameItems k D) k r_law16_sameItems [(4, .b)] [none] args h) = law16_sameItems k D := by kernel_rfl
theorem ok_law16_sameItems {D : CallF} (hD : CSound Try.prog 0 D) (k : Nat) : EntOk Try.prog 0 (e_law16_sameItems k D) :=
 entOf_ok2 (mkC_sound hD (EntsOk.none)) Try.func15 rfl q_law16_sameItems rfl (t_law16_sameItems k D)
end Gc
namespace Gc
open Go Gx Go.Proofs
set_option maxRecDepth 100000
noncomputable def C_law16_IndexBack (k : Nat) (D : CallF) : CallF := mkC D [e_law16_works k D, e_law16_items k D, e_index_Encode k D, e_index_Decode k D, e_law16_sameItems k D, e_book_SameTexts k D, e_strings_Repeat k D, e_book_Among k D]
noncomputable def law16_IndexBack_l1b (k : Nat) (D : CallF) (j16 : ByteArray → (Option Addr) → (Option Nat) → AHeap → Option ((Bool) × AHeap)) (rec77 : Slc → ByteArray → (Option Addr) → (Option Nat) → Int → AHeap → Option ((Bool) × AHeap)) (over71 : Slc) (s72 : ByteArray) (f73 : Option Addr) (seen74 : Option Nat) (i75 : Int) (h76 : AHeap) : Option ((Bool) × AHeap) :=
 joinK (fun (over78 : Slc) (s79 : ByteArray) (f80 : Option Addr) (seen81 : Option Nat) (i82 : Int) (y83 : Bool) (h84 : AHeap) =>
 (if y83 = true then
 (Gx.idxL 1 over78 i82).bind fun q86 =>
 (ldI .i64 q86 h84).bind fun x87 =>
 (book_Among k D x87 256 h84).bind fun r88 =>
 (seen81).bind fun r90 =>
 (updE r88.2 r90 (.int .i64 r88.1) (.bool true)).bind fun h89 =>
 rec77 over78 s79 f80 seen81 (IntKind.wrap .i64 (i82 + 1)) h89
 else
 j16 s79 f80 seen81 h84)) fun j85 =>
 (if (decide (i75 < (over71.len : Int))) = true then
 j85 over71 s72 f73 seen74 i75 (decide (i75 < 30)) h76
 else
 j85 over71 s72 f73 seen74 i75 false h76)
noncomputable def law16_IndexBack_l1 (k : Nat) (D : CallF) (j16 : ByteArray → (Option Addr) → (Option Nat) → AHeap → Option ((Bool) × AHeap)) : Slc → ByteArray → (Option Addr) → (Option Nat) → Int → AHeap → Option ((Bool) × AHeap) :=
 iterK (α := Slc → ByteArray → (Option Addr) → (Option Nat) → Int → AHeap → Option ((Bool) × AHeap)) (fun _ _ _ _ _ _ => none) k (law16_IndexBack_l1b k D j16)
noncomputable def law16_IndexBack_l0b (_k : Nat) (_D : CallF) (j20 : ByteArray → (Option Addr) → AHeap → Option ((Bool) × AHeap)) (rec51 : ByteArray → (Option Addr) → (Option Nat) → Int → AHeap → Option ((Bool) × AHeap)) (s46 : ByteArray) (f47 : Option Addr) (seen48 : Option Nat) (y49 : Int) (h50 : AHeap) : Option ((Bool) × AHeap) :=
 (if (decide (y49 < 256)) = true then
 joinK (fun (s52 : ByteArray) (f53 : Option Addr) (seen54 : Option Nat) (y55 : Int) (h56 : AHeap) =>
 rec51 s52 f53 seen54 (IntKind.wrap .i64 (y55 + 1)) h56) fun j57 =>
 (lookE decB (.bool false) h50 seen48 (.int .i64 y49)).bind fun p58 =>
 (if p58.1 = true then
 newK h50 ((.cells [.int .u8 (IntKind.wrap .u8 y49)] 5 true 0)) fun h59 =>
 (bytesOf h59 (⟨(some ⟨h50.next, 0, some 0⟩), 1, 1⟩ : Slc)).bind fun s60 =>
 (repeatA s60 32).bind fun s61 =>
 newK h59 ((.cells [.string s61] 9 true 0)) fun h62 =>
 (f47).bind fun p63 =>
 (ldL (⟨p63.block, p63.off + 0, none⟩ : Addr) h62).bind fun x64 =>
 guardP (SameW [h59, h59, h50] (fun H66 => (ldL (⟨p63.block, p63.off + 0, none⟩ : Addr) H66).bind fun y65 => some (.slice y65.a y65.len y65.cap)) (.slice x64.a x64.len x64.cap)) (
 (rdS 1 (⟨(some ⟨h59.next, 0, some 0⟩), 1, 1⟩ : Slc) h62).bind fun n68 =>
 (appendA 1 16 9 h62 x64 n68 1).bind fun r67 =>
 (f47).bind fun p69 =>
 (st1 (⟨p69.block, p69.off + 0, none⟩ : Addr) (.slice r67.1.a r67.1.len r67.1.cap) r67.2).bind fun h70 =>
 j57 s46 f47 seen48 y49 h70)
 else
 j57 s46 f47 seen48 y49 h50)
 else
 j20 s46 f47 h50)
noncomputable def law16_IndexBack_l0 (k : Nat) (D : CallF) (j20 : ByteArray → (Option Addr) → AHeap → Option ((Bool) × AHeap)) : ByteArray → (Option Addr) → (Option Nat) → Int → AHeap → Option ((Bool) × AHeap) :=
 iterK (α := ByteArray → (Option Addr) → (Option Nat) → Int → AHeap → Option ((Bool) × AHeap)) (fun _ _ _ _ _ => none) k (law16_IndexBack_l0b k D j20)
noncomputable def law16_IndexBack (k : Nat) (D : CallF) (l_0 : Slc) (over_1 : Slc) (s_2 : ByteArray) (h : AHeap) : Option ((Bool) × AHeap) :=
 joinK (fun (l1 : Slc) (over2 : Slc) (s3 : ByteArray) (y4 : Bool) (h5 : AHeap) =>
 (if y4 = true then
 (law16_works k D h5).bind fun r7 =>
 some (r7.1, r7.2)
 else
 newK h5 ((.cells [.slice none 0 0, .slice none 0 0] 25 true 0)) fun h8 =>
 (law16_items k D l1 h8).bind fun r9 =>
 (st1 (⟨h5.next, 1, none⟩ : Addr) (.slice r9.1.a r9.1.len r9.1.cap) r9.2).bind fun h10 =>
 newK h10 ((.map [] 0)) fun h11 =>
 joinK (fun (s12 : ByteArray) (f13 : Option Addr) (seen14 : Option Nat) (h15 : AHeap) =>
 joinK (fun (s17 : ByteArray) (f18 : Option Addr) (h19 : AHeap) =>
 (f18).bind fun p21 =>
 (ldA 2 p21 h19).bind fun l22 =>
 (decC [.l, .l] l22).bind fun x23 =>
 (index_Encode k D (x23.1, x23.2) h19).bind fun r24 =>
 (index_Decode k D r24.1.1 r24.2).bind fun r25 =>
 newK r25.2 ((.cells [.slice none 0 0, .slice none 0 0] 25 true 0)) fun h26 =>
 (stL 2 (⟨r25.2.next, 0, none⟩ : Addr) ([.slice r25.1.1.1.a r25.1.1.1.len r25.1.1.1.cap, .slice r25.1.1.2.a r25.1.1.2.len r25.1.1.2.cap]) h26).bind fun h27 =>
 joinK (fun (s28 : ByteArray) (y29 : Bool) (h30 : AHeap) =>
 (if y29 = true then
 some (false, h30)
 else
 (index_Decode k D s28 h30).bind fun r32 =>
 newK r32.2 ((.cells [.slice none 0 0, .slice none 0 0] 25 true 0)) fun h33 =>
 (stL 2 (⟨r32.2.next, 0, none⟩ : Addr) ([.slice r32.1.1.1.a r32.1.1.1.len r32.1.1.1.cap, .slice r32.1.1.2.a r32.1.1.2.len r32.1.1.2.cap]) h33).bind fun h34 =>
 (if (r32.1.2 == 0) = true then
 (ldA 2 (⟨r32.2.next, 0, none⟩ : Addr) h34).bind fun l35 =>
 (decC [.l, .l] l35).bind fun x36 =>
 (index_Encode k D (x36.1, x36.2) h34).bind fun r37 =>
 (if (r37.1.2 == 0) = true then
 some ((r37.1.1 == s28), r37.2)
 else
 some (false, r37.2))
 else
 some (true, h34)))) fun j31 =>
 (if (r24.1.2 != 0) = true then
 j31 s17 true h27
 else
 (if (r25.1.2 != 0) = true then
 j31 s17 true h27
 else
 (f18).bind fun p38 =>
 (ldL (⟨p38.block, p38.off + 1, none⟩ : Addr) h27).bind fun x39 =>
 (ldL (⟨r25.2.next, 1, none⟩ : Addr) h27).bind fun x40 =>
 (law16_sameItems k D x39 x40 h27).bind fun r41 =>
 (if (!r41.1) = true then
 j31 s17 true r41.2
 else
 (f18).bind fun p42 =>
 (ldL (⟨p42.block, p42.off + 0, none⟩ : Addr) r41.2).bind fun x43 =>
 (ldL (⟨r25.2.next, 0, none⟩ : Addr) r41.2).bind fun x44 =>
 (book_SameTexts k D x43 x44 r41.2).bind fun r45 =>
 j31 s17 (!r45.1) r45.2)))) fun j20 =>
 law16_IndexBack_l0 k D j20 s12 f13 seen14 0 h15) fun j16 =>
 law16_IndexBack_l1 k D j16 over2 s3 (some (⟨h5.next, 0, none⟩ : Addr)) (some h10.next) 0 h11)) fun j6 =>
 (law16_works k D h).bind fun r91 =>
 (if (!r91.1) = true then
 j6 l_0 over_1 s_2 true r91.2
 else
 j6 l_0 over_1 s_2 (decide ((s_2.size : Int) > 10000)) r91.2)
noncomputable def r_law16_IndexBack : RCode := an (.s .n (.s (.s (.j [(0, .l), (1, .l), (2, .s), (25, .b)] .n) .n) (.s .n (.s .n (.s .n (.s (.j [(2, .s), (7, .p), (8, .m)] (.s .n (.b (.l [(1, .l), (2, .s), (7, .p), (8, .m), (9, .i .i64)] (.s (.s (.j [(1, .l), (2, .s), (7, .p), (8, .m), (9, .i .i64), (38, .b)] .n) .n) .n))))) (.s (.j [(2, .s), (7, .p)] (.s .n (.b (.l [(2, .s), (7, .p), (8, .m), (47, .i .i64)] (.s .n (.s .n (.s (.j [(2, .s), (7, .p), (8, .m), (47, .i .i64)] .n) .n))))))) (.s (.r [(0, .st [.l, .l])]) (.s .n (.s (.s (.j [(2, .s), (95, .b)] .n) .n) (.s (.s .n (.s .n (.s (.s (.r [(0, .st [.l, .l])]) .n) .n))) .n))))))))))) (rOf Try.prog 0 Try.f4)
noncomputable def e_law16_IndexBack (k : Nat) (D : CallF) : Ent := entOf 4 [(0, .l), (1, .l), (2, .s)] [(6, .b)] (law16_IndexBack k D)
theorem q_law16_IndexBack : (Try.f4.body).bind (rcodeOf Try.prog 0 Try.f4.ntmps) = some (strip r_law16_IndexBack) := by kernel_rfl
theorem t_law16_IndexBack (k : Nat) (D : CallF) : curF [(0, .l), (1, .l), (2, .s)] (fun args h => denF (C_law16_IndexBack k D) k r_law16_IndexBack [(6, .b)] [none] args h) = law16_IndexBack k D := by kernel_rfl
theorem ok_law16_IndexBack {D : CallF} (hD : CSound Try.prog 0 D) (k : Nat) : EntOk Try.prog 0 (e_law16_IndexBack k D) :=
 entOf_ok2 (mkC_sound hD (EntsOk.more (ok_law16_works hD k) (EntsOk.more (ok_law16_items hD k) (EntsOk.more (ok_index_Encode hD k) (EntsOk.more (ok_index_Decode hD k) (EntsOk.more (ok_law16_sameItems hD k) (EntsOk.more (ok_book_SameTexts hD k) (EntsOk.more (ok_strings_Repeat hD k) (EntsOk.more (ok_book_Among hD k) (EntsOk.none)))))))))) Try.func4 rfl q_law16_IndexBack rfl (t_law16_IndexBack k D)
end Gc
