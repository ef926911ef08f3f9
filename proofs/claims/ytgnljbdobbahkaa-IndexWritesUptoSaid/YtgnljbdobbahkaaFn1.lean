import Derived.Test.YtgnljbdobbahkaaProg
import Derived.Shelf.Strings.OnBuilder
import Derived.Shelf.Strings.Repeat
import Derived.KernelRfl
import Derived.WalkKit
import Derived.Laws.Externs
import Derived.Shelf.SortM.Plain
import Derived.Shelf.SortM.SortNone
import Derived.Test.YtgnljbdobbahkaaGx3
namespace Gc
open Go Gx Go.Proofs
set_option maxRecDepth 100000
noncomputable def C_cmp_isNaN_string (_k : Nat) (D : CallF) : CallF := mkC D []
noncomputable def cmp_isNaN_string (_k : Nat) (_D : CallF) (x_0 : ByteArray) (h : AHeap) : Option ((Bool) × AHeap) :=
 some ((!(x_0 == x_0)), h)
noncomputable def r_cmp_isNaN_string : RCode := an (.n) (rOf Try.prog 0 Try.f131)
noncomputable def e_cmp_isNaN_string (k : Nat) (D : CallF) : Ent := entOf 131 [(0, .s)] [(2, .b)] (cmp_isNaN_string k D)
theorem q_cmp_isNaN_string : (Try.f131.body).bind (rcodeOf Try.prog 0 Try.f131.ntmps) = some (strip r_cmp_isNaN_string) := by kernel_rfl
theorem t_cmp_isNaN_string (k : Nat) (D : CallF) : curF [(0, .s)] (fun args h => denF (C_cmp_isNaN_string k D) k r_cmp_isNaN_string [(2, .b)] [none] args h) = cmp_isNaN_string k D := by kernel_rfl
theorem ok_cmp_isNaN_string {D : CallF} (hD : CSound Try.prog 0 D) (k : Nat) : EntOk Try.prog 0 (e_cmp_isNaN_string k D) :=
 entOf_ok2 (mkC_sound hD (EntsOk.none)) Try.func131 rfl q_cmp_isNaN_string rfl (t_cmp_isNaN_string k D)
end Gc
namespace Gc
open Go Gx Go.Proofs
set_option maxRecDepth 100000
noncomputable def C_cmp_Compare_string (k : Nat) (D : CallF) : CallF := mkC D [e_cmp_isNaN_string k D]
noncomputable def cmp_Compare_string (k : Nat) (D : CallF) (x_0 : ByteArray) (y_1 : ByteArray) (h : AHeap) : Option ((Int) × AHeap) :=
 (cmp_isNaN_string k D x_0 h).bind fun r1 =>
 (cmp_isNaN_string k D y_1 r1.2).bind fun r2 =>
 (if r1.1 = true then
 (if r2.1 = true then
 some (0, r2.2)
 else
 some ((-1), r2.2))
 else
 (if r2.1 = true then
 some (1, r2.2)
 else
 (if (Op.bytesLess x_0.toList y_1.toList) = true then
 some ((-1), r2.2)
 else
 (if (!(Op.bytesLess x_0.toList y_1.toList || (x_0 == y_1))) = true then
 some (1, r2.2)
 else
 some (0, r2.2)))))
noncomputable def r_cmp_Compare_string : RCode := an (.n) (rOf Try.prog 0 Try.f121)
noncomputable def e_cmp_Compare_string (k : Nat) (D : CallF) : Ent := entOf 121 [(0, .s), (1, .s)] [(4, .i .i64)] (cmp_Compare_string k D)
theorem q_cmp_Compare_string : (Try.f121.body).bind (rcodeOf Try.prog 0 Try.f121.ntmps) = some (strip r_cmp_Compare_string) := by kernel_rfl
theorem t_cmp_Compare_string (k : Nat) (D : CallF) : curF [(0, .s), (1, .s)] (fun args h => denF (C_cmp_Compare_string k D) k r_cmp_Compare_string [(4, .i .i64)] [none] args h) = cmp_Compare_string k D := by kernel_rfl
theorem ok_cmp_Compare_string {D : CallF} (hD : CSound Try.prog 0 D) (k : Nat) : EntOk Try.prog 0 (e_cmp_Compare_string k D) :=
 entOf_ok2 (mkC_sound hD (EntsOk.more (ok_cmp_isNaN_string hD k) (EntsOk.none))) Try.func121 rfl q_cmp_Compare_string rfl (t_cmp_Compare_string k D)
end Gc
namespace Gc
open Go Gx Go.Proofs
set_option maxRecDepth 100000
noncomputable def C_cmp_isNaN_int (_k : Nat) (D : CallF) : CallF := mkC D []
noncomputable def cmp_isNaN_int (_k : Nat) (_D : CallF) (x_0 : Int) (h : AHeap) : Option ((Bool) × AHeap) :=
 some ((x_0 != x_0), h)
noncomputable def r_cmp_isNaN_int : RCode := an (.n) (rOf Try.prog 0 Try.f137)
noncomputable def e_cmp_isNaN_int (k : Nat) (D : CallF) : Ent := entOf 137 [(0, .i .i64)] [(2, .b)] (cmp_isNaN_int k D)
theorem q_cmp_isNaN_int : (Try.f137.body).bind (rcodeOf Try.prog 0 Try.f137.ntmps) = some (strip r_cmp_isNaN_int) := by kernel_rfl
theorem t_cmp_isNaN_int (k : Nat) (D : CallF) : curF [(0, .i .i64)] (fun args h => denF (C_cmp_isNaN_int k D) k r_cmp_isNaN_int [(2, .b)] [none] args h) = cmp_isNaN_int k D := by kernel_rfl
theorem ok_cmp_isNaN_int {D : CallF} (hD : CSound Try.prog 0 D) (k : Nat) : EntOk Try.prog 0 (e_cmp_isNaN_int k D) :=
 entOf_ok2 (mkC_sound hD (EntsOk.none)) Try.func137 rfl q_cmp_isNaN_int rfl (t_cmp_isNaN_int k D)
end Gc
namespace Gc
open Go Gx Go.Proofs
set_option maxRecDepth 100000
noncomputable def C_cmp_Compare_int (k : Nat) (D : CallF) : CallF := mkC D [e_cmp_isNaN_int k D]
noncomputable def cmp_Compare_int (k : Nat) (D : CallF) (x_0 : Int) (y_1 : Int) (h : AHeap) : Option ((Int) × AHeap) :=
 (cmp_isNaN_int k D x_0 h).bind fun r1 =>
 (cmp_isNaN_int k D y_1 r1.2).bind fun r2 =>
 (if r1.1 = true then
 (if r2.1 = true then
 some (0, r2.2)
 else
 some ((-1), r2.2))
 else
 (if r2.1 = true then
 some (1, r2.2)
 else
 (if (decide (x_0 < y_1)) = true then
 some ((-1), r2.2)
 else
 (if (decide (x_0 > y_1)) = true then
 some (1, r2.2)
 else
 some (0, r2.2)))))
noncomputable def r_cmp_Compare_int : RCode := an (.n) (rOf Try.prog 0 Try.f122)
noncomputable def e_cmp_Compare_int (k : Nat) (D : CallF) : Ent := entOf 122 [(0, .i .i64), (1, .i .i64)] [(4, .i .i64)] (cmp_Compare_int k D)
theorem q_cmp_Compare_int : (Try.f122.body).bind (rcodeOf Try.prog 0 Try.f122.ntmps) = some (strip r_cmp_Compare_int) := by kernel_rfl
theorem t_cmp_Compare_int (k : Nat) (D : CallF) : curF [(0, .i .i64), (1, .i .i64)] (fun args h => denF (C_cmp_Compare_int k D) k r_cmp_Compare_int [(4, .i .i64)] [none] args h) = cmp_Compare_int k D := by kernel_rfl
theorem ok_cmp_Compare_int {D : CallF} (hD : CSound Try.prog 0 D) (k : Nat) : EntOk Try.prog 0 (e_cmp_Compare_int k D) :=
 entOf_ok2 (mkC_sound hD (EntsOk.more (ok_cmp_isNaN_int hD k) (EntsOk.none))) Try.func122 rfl q_cmp_Compare_int rfl (t_cmp_Compare_int k D)
end Gc
namespace Gc
open Go Gx Go.Proofs
set_option maxRecDepth 100000
noncomputable def C_cmp_Or_int (_k : Nat) (D : CallF) : CallF := mkC D []
noncomputable def cmp_Or_int_l0b (_k : Nat) (_D : CallF) (j3 : Int → AHeap → Option ((Int) × AHeap)) (rec9 : Int → Slc → Int → Int → AHeap → Option ((Int) × AHeap)) (zero4 : Int) (y5 : Slc) (y6 : Int) (y7 : Int) (h8 : AHeap) : Option ((Int) × AHeap) :=
 (if (decide (y7 < y6)) = true then
 (Gx.idxL 1 y5 y7).bind fun q10 =>
 (ldI .i64 q10 h8).bind fun x11 =>
 (if (x11 != zero4) = true then
 some (x11, h8)
 else
 rec9 zero4 y5 y6 (IntKind.wrap .i64 (y7 + 1)) h8)
 else
 j3 zero4 h8)
noncomputable def cmp_Or_int_l0 (k : Nat) (D : CallF) (j3 : Int → AHeap → Option ((Int) × AHeap)) : Int → Slc → Int → Int → AHeap → Option ((Int) × AHeap) :=
 iterK (α := Int → Slc → Int → Int → AHeap → Option ((Int) × AHeap)) (fun _ _ _ _ _ => none) k (cmp_Or_int_l0b k D j3)
noncomputable def cmp_Or_int (k : Nat) (D : CallF) (vals_0 : Slc) (h : AHeap) : Option ((Int) × AHeap) :=
 joinK (fun (zero1 : Int) (h2 : AHeap) =>
 some (zero1, h2)) fun j3 =>
 cmp_Or_int_l0 k D j3 0 vals_0 (vals_0.len : Int) 0 h
noncomputable def r_cmp_Or_int : RCode := an (.s .n (.s .n (.s (.j [(3, .i .i64)] (.s .n (.b (.l [(3, .i .i64), (6, .l), (7, .i .i64), (8, .i .i64)] .n)))) .n))) (rOf Try.prog 0 Try.f120)
noncomputable def e_cmp_Or_int (k : Nat) (D : CallF) : Ent := entOf 120 [(0, .l)] [(2, .i .i64)] (cmp_Or_int k D)
theorem q_cmp_Or_int : (Try.f120.body).bind (rcodeOf Try.prog 0 Try.f120.ntmps) = some (strip r_cmp_Or_int) := by kernel_rfl
theorem t_cmp_Or_int (k : Nat) (D : CallF) : curF [(0, .l)] (fun args h => denF (C_cmp_Or_int k D) k r_cmp_Or_int [(2, .i .i64)] [none] args h) = cmp_Or_int k D := by kernel_rfl
theorem ok_cmp_Or_int {D : CallF} (hD : CSound Try.prog 0 D) (k : Nat) : EntOk Try.prog 0 (e_cmp_Or_int k D) :=
 entOf_ok2 (mkC_sound hD (EntsOk.none)) Try.func120 rfl q_cmp_Or_int rfl (t_cmp_Or_int k D)
end Gc
namespace Gc
open Go Gx Go.Proofs
set_option maxRecDepth 100000
noncomputable def C_lookup_order (k : Nat) (D : CallF) : CallF := mkC D [e_cmp_Compare_string k D, e_cmp_Compare_int k D, e_cmp_Or_int k D]
noncomputable def lookup_order (k : Nat) (D : CallF) (x_0 : ByteArray × ByteArray × Int × Int × Int × Int) (y_1 : ByteArray × ByteArray × Int × Int × Int × Int) (h : AHeap) : Option ((Int) × AHeap) :=
 newK h ((.cells [.string x_0.1, .string x_0.2.1, .int .i64 x_0.2.2.1, .int .i64 x_0.2.2.2.1, .int .i64 x_0.2.2.2.2.1, .int .i64 x_0.2.2.2.2.2] 57 true 0)) fun h1 =>
 newK h1 ((.cells [.string y_1.1, .string y_1.2.1, .int .i64 y_1.2.2.1, .int .i64 y_1.2.2.2.1, .int .i64 y_1.2.2.2.2.1, .int .i64 y_1.2.2.2.2.2] 57 true 0)) fun h2 =>
 (ldS (⟨h.next, 0, none⟩ : Addr) h2).bind fun x3 =>
 (ldS (⟨h1.next, 0, none⟩ : Addr) h2).bind fun x4 =>
 (cmp_Compare_string k D x3 x4 h2).bind fun r5 =>
 (ldS (⟨h.next, 1, none⟩ : Addr) r5.2).bind fun x6 =>
 guardP (SameW [h2] (fun H8 => (ldS (⟨h.next, 1, none⟩ : Addr) H8).bind fun y7 => some (.string y7)) (.string x6)) (
 (ldS (⟨h1.next, 1, none⟩ : Addr) r5.2).bind fun x9 =>
 guardP (SameW [h2] (fun H11 => (ldS (⟨h1.next, 1, none⟩ : Addr) H11).bind fun y10 => some (.string y10)) (.string x9)) (
 (cmp_Compare_string k D x6 x9 r5.2).bind fun r12 =>
 (ldI .i64 (⟨h.next, 3, none⟩ : Addr) r12.2).bind fun x13 =>
 guardP (SameW [r5.2, h2] (fun H15 => (ldI .i64 (⟨h.next, 3, none⟩ : Addr) H15).bind fun y14 => some (.int .i64 y14)) (.int .i64 x13)) (
 (ldI .i64 (⟨h1.next, 3, none⟩ : Addr) r12.2).bind fun x16 =>
 guardP (SameW [r5.2, h2] (fun H18 => (ldI .i64 (⟨h1.next, 3, none⟩ : Addr) H18).bind fun y17 => some (.int .i64 y17)) (.int .i64 x16)) (
 (cmp_Compare_int k D x13 x16 r12.2).bind fun r19 =>
 (ldI .i64 (⟨h.next, 4, none⟩ : Addr) r19.2).bind fun x20 =>
 guardP (SameW [r12.2, r5.2, h2] (fun H22 => (ldI .i64 (⟨h.next, 4, none⟩ : Addr) H22).bind fun y21 => some (.int .i64 y21)) (.int .i64 x20)) (
 (ldI .i64 (⟨h1.next, 4, none⟩ : Addr) r19.2).bind fun x23 =>
 guardP (SameW [r12.2, r5.2, h2] (fun H25 => (ldI .i64 (⟨h1.next, 4, none⟩ : Addr) H25).bind fun y24 => some (.int .i64 y24)) (.int .i64 x23)) (
 (cmp_Compare_int k D x20 x23 r19.2).bind fun r26 =>
 (ldI .i64 (⟨h.next, 5, none⟩ : Addr) r26.2).bind fun x27 =>
 guardP (SameW [r19.2, r12.2, r5.2, h2] (fun H29 => (ldI .i64 (⟨h.next, 5, none⟩ : Addr) H29).bind fun y28 => some (.int .i64 y28)) (.int .i64 x27)) (
 (ldI .i64 (⟨h1.next, 5, none⟩ : Addr) r26.2).bind fun x30 =>
 guardP (SameW [r19.2, r12.2, r5.2, h2] (fun H32 => (ldI .i64 (⟨h1.next, 5, none⟩ : Addr) H32).bind fun y31 => some (.int .i64 y31)) (.int .i64 x30)) (
 (cmp_Compare_int k D x27 x30 r26.2).bind fun r33 =>
 (ldI .i64 (⟨h.next, 2, none⟩ : Addr) r33.2).bind fun x34 =>
 guardP (SameW [r26.2, r19.2, r12.2, r5.2, h2] (fun H36 => (ldI .i64 (⟨h.next, 2, none⟩ : Addr) H36).bind fun y35 => some (.int .i64 y35)) (.int .i64 x34)) (
 (ldI .i64 (⟨h1.next, 2, none⟩ : Addr) r33.2).bind fun x37 =>
 guardP (SameW [r26.2, r19.2, r12.2, r5.2, h2] (fun H39 => (ldI .i64 (⟨h1.next, 2, none⟩ : Addr) H39).bind fun y38 => some (.int .i64 y38)) (.int .i64 x37)) (
 (cmp_Compare_int k D x34 x37 r33.2).bind fun r40 =>
 newK r40.2 ((.cells [.int .i64 r5.1, .int .i64 r12.1, .int .i64 r19.1, .int .i64 r26.1, .int .i64 r33.1, .int .i64 r40.1] 3 true 0)) fun h41 =>
 (cmp_Or_int k D (⟨(some ⟨r40.2.next, 0, some 0⟩), 6, 6⟩ : Slc) h41).bind fun r42 =>
 some (r42.1, r42.2)))))))))))
noncomputable def r_lookup_order : RCode := an (.n) (rOf Try.prog 0 Try.f78)
noncomputable def e_lookup_order (k : Nat) (D : CallF) : Ent := entOf 78 [(0, .st [.s, .s, .i .i64, .i .i64, .i .i64, .i .i64]), (1, .st [.s, .s, .i .i64, .i .i64, .i .i64, .i .i64])] [(4, .i .i64)] (lookup_order k D)
theorem q_lookup_order : (Try.f78.body).bind (rcodeOf Try.prog 0 Try.f78.ntmps) = some (strip r_lookup_order) := by kernel_rfl
theorem t_lookup_order (k : Nat) (D : CallF) : curF [(0, .st [.s, .s, .i .i64, .i .i64, .i .i64, .i .i64]), (1, .st [.s, .s, .i .i64, .i .i64, .i .i64, .i .i64])] (fun args h => denF (C_lookup_order k D) k r_lookup_order [(4, .i .i64)] [none] args h) = lookup_order k D := by kernel_rfl
theorem ok_lookup_order {D : CallF} (hD : CSound Try.prog 0 D) (k : Nat) : EntOk Try.prog 0 (e_lookup_order k D) :=
 entOf_ok2 (mkC_sound hD (EntsOk.more (ok_cmp_Compare_string hD k) (EntsOk.more (ok_cmp_Compare_int hD k) (EntsOk.more (ok_cmp_Or_int hD k) (EntsOk.none))))) Try.func78 rfl q_lookup_order rfl (t_lookup_order k D)
end Gc
namespace Gc
open Go Gx Go.Proofs
set_option maxRecDepth 100000
noncomputable def C_lookup_Less (k : Nat) (D : CallF) : CallF := mkC D [e_lookup_order k D]
noncomputable def lookup_Less (k : Nat) (D : CallF) (x_0 : ByteArray × ByteArray × Int × Int × Int × Int) (y_1 : ByteArray × ByteArray × Int × Int × Int × Int) (h : AHeap) : Option ((Bool) × AHeap) :=
 newK h ((.cells [.string x_0.1, .string x_0.2.1, .int .i64 x_0.2.2.1, .int .i64 x_0.2.2.2.1, .int .i64 x_0.2.2.2.2.1, .int .i64 x_0.2.2.2.2.2] 57 true 0)) fun h1 =>
 newK h1 ((.cells [.string y_1.1, .string y_1.2.1, .int .i64 y_1.2.2.1, .int .i64 y_1.2.2.2.1, .int .i64 y_1.2.2.2.2.1, .int .i64 y_1.2.2.2.2.2] 57 true 0)) fun h2 =>
 (ldA 6 (⟨h.next, 0, none⟩ : Addr) h2).bind fun l3 =>
 (decC [.s, .s, .i .i64, .i .i64, .i .i64, .i .i64] l3).bind fun x4 =>
 (ldA 6 (⟨h1.next, 0, none⟩ : Addr) h2).bind fun l5 =>
 (decC [.s, .s, .i .i64, .i .i64, .i .i64, .i .i64] l5).bind fun x6 =>
 (lookup_order k D (x4.1, x4.2.1, x4.2.2.1, x4.2.2.2.1, x4.2.2.2.2.1, x4.2.2.2.2.2) (x6.1, x6.2.1, x6.2.2.1, x6.2.2.2.1, x6.2.2.2.2.1, x6.2.2.2.2.2) h2).bind fun r7 =>
 some ((decide (r7.1 < 0)), r7.2)
noncomputable def r_lookup_Less : RCode := an (.s .n (.s (.r [(0, .st [.s, .s, .i .i64, .i .i64, .i .i64, .i .i64]), (1, .st [.s, .s, .i .i64, .i .i64, .i .i64, .i .i64])]) .n)) (rOf Try.prog 0 Try.f30)
noncomputable def e_lookup_Less (k : Nat) (D : CallF) : Ent := entOf 30 [(0, .st [.s, .s, .i .i64, .i .i64, .i .i64, .i .i64]), (1, .st [.s, .s, .i .i64, .i .i64, .i .i64, .i .i64])] [(4, .b)] (lookup_Less k D)
theorem q_lookup_Less : (Try.f30.body).bind (rcodeOf Try.prog 0 Try.f30.ntmps) = some (strip r_lookup_Less) := by kernel_rfl
theorem t_lookup_Less (k : Nat) (D : CallF) : curF [(0, .st [.s, .s, .i .i64, .i .i64, .i .i64, .i .i64]), (1, .st [.s, .s, .i .i64, .i .i64, .i .i64, .i .i64])] (fun args h => denF (C_lookup_Less k D) k r_lookup_Less [(4, .b)] [none] args h) = lookup_Less k D := by kernel_rfl
theorem ok_lookup_Less {D : CallF} (hD : CSound Try.prog 0 D) (k : Nat) : EntOk Try.prog 0 (e_lookup_Less k D) :=
 entOf_ok2 (mkC_sound hD (EntsOk.more (ok_lookup_order hD k) (EntsOk.none))) Try.func30 rfl q_lookup_Less rfl (t_lookup_Less k D)
end Gc
namespace Gc
open Go Gx Go.Proofs
set_option maxRecDepth 100000
noncomputable def C_sha_IsId (_k : Nat) (D : CallF) : CallF := mkC D []
noncomputable def sha_IsId (_k : Nat) (_D : CallF) (s_0 : ByteArray) (h : AHeap) : Option ((Bool) × AHeap) :=
 some (((s_0.size : Int) == 32), h)
noncomputable def r_sha_IsId : RCode := an (.n) (rOf Try.prog 0 Try.f66)
noncomputable def e_sha_IsId (k : Nat) (D : CallF) : Ent := entOf 66 [(0, .s)] [(2, .b)] (sha_IsId k D)
theorem q_sha_IsId : (Try.f66.body).bind (rcodeOf Try.prog 0 Try.f66.ntmps) = some (strip r_sha_IsId) := by kernel_rfl
theorem t_sha_IsId (k : Nat) (D : CallF) : curF [(0, .s)] (fun args h => denF (C_sha_IsId k D) k r_sha_IsId [(2, .b)] [none] args h) = sha_IsId k D := by kernel_rfl
theorem ok_sha_IsId {D : CallF} (hD : CSound Try.prog 0 D) (k : Nat) : EntOk Try.prog 0 (e_sha_IsId k D) :=
 entOf_ok2 (mkC_sound hD (EntsOk.none)) Try.func66 rfl q_sha_IsId rfl (t_sha_IsId k D)
end Gc
namespace Gc
open Go Gx Go.Proofs
set_option maxRecDepth 100000
noncomputable def C_lookup_within (_k : Nat) (D : CallF) : CallF := mkC D []
noncomputable def lookup_within (_k : Nat) (_D : CallF) (n_0 : Int) (least_1 : Int) (h : AHeap) : Option ((Bool) × AHeap) :=
 (if (decide (n_0 ≥ least_1)) = true then
 some ((decide (n_0 ≤ 65536)), h)
 else
 some (false, h))
noncomputable def r_lookup_within : RCode := an (.n) (rOf Try.prog 0 Try.f76)
noncomputable def e_lookup_within (k : Nat) (D : CallF) : Ent := entOf 76 [(0, .i .i64), (1, .i .i64)] [(4, .b)] (lookup_within k D)
theorem q_lookup_within : (Try.f76.body).bind (rcodeOf Try.prog 0 Try.f76.ntmps) = some (strip r_lookup_within) := by kernel_rfl
theorem t_lookup_within (k : Nat) (D : CallF) : curF [(0, .i .i64), (1, .i .i64)] (fun args h => denF (C_lookup_within k D) k r_lookup_within [(4, .b)] [none] args h) = lookup_within k D := by kernel_rfl
theorem ok_lookup_within {D : CallF} (hD : CSound Try.prog 0 D) (k : Nat) : EntOk Try.prog 0 (e_lookup_within k D) :=
 entOf_ok2 (mkC_sound hD (EntsOk.none)) Try.func76 rfl q_lookup_within rfl (t_lookup_within k D)
end Gc
namespace Gc
open Go Gx Go.Proofs
set_option maxRecDepth 100000
noncomputable def C_lookup_Check (k : Nat) (D : CallF) : CallF := mkC D [e_sha_IsId k D, e_lookup_within k D]
noncomputable def lookup_Check (k : Nat) (D : CallF) (x_0 : ByteArray × ByteArray × Int × Int × Int × Int) (h : AHeap) : Option ((Int) × AHeap) :=
 newK h ((.cells [.string x_0.1, .string x_0.2.1, .int .i64 x_0.2.2.1, .int .i64 x_0.2.2.2.1, .int .i64 x_0.2.2.2.2.1, .int .i64 x_0.2.2.2.2.2] 57 true 0)) fun h1 =>
 joinK (fun (x2 : Option Addr) (kind3 : Bool) (h4 : AHeap) =>
 joinK (fun (y6 : Bool) (h7 : AHeap) =>
 (if y6 = true then
 some (1, h7)
 else
 some (0, h7))) fun j8 =>
 (x2).bind fun p9 =>
 (ldS (⟨p9.block, p9.off + 0, none⟩ : Addr) h4).bind fun x10 =>
 (sha_IsId k D x10 h4).bind fun r11 =>
 (if (!r11.1) = true then
 j8 true r11.2
 else
 (x2).bind fun p12 =>
 (ldS (⟨p12.block, p12.off + 1 + 0, none⟩ : Addr) r11.2).bind fun x13 =>
 (sha_IsId k D x13 r11.2).bind fun r14 =>
 (if (!r14.1) = true then
 j8 true r14.2
 else
 (if (!kind3) = true then
 j8 true r14.2
 else
 (x2).bind fun p15 =>
 (ldI .i64 (⟨p15.block, p15.off + 1 + 2, none⟩ : Addr) r14.2).bind fun x16 =>
 (lookup_within k D x16 0 r14.2).bind fun r17 =>
 (if (!r17.1) = true then
 j8 true r17.2
 else
 (x2).bind fun p18 =>
 (ldI .i64 (⟨p18.block, p18.off + 1 + 3, none⟩ : Addr) r17.2).bind fun x19 =>
 (lookup_within k D x19 1 r17.2).bind fun r20 =>
 (if (!r20.1) = true then
 j8 true r20.2
 else
 (x2).bind fun p21 =>
 (ldI .i64 (⟨p21.block, p21.off + 1 + 4, none⟩ : Addr) r20.2).bind fun x22 =>
 (lookup_within k D x22 0 r20.2).bind fun r23 =>
 j8 (!r23.1) r23.2)))))) fun j5 =>
 (ldI .i64 (⟨h.next, 2, none⟩ : Addr) h1).bind fun x24 =>
 (if (x24 == 1) = true then
 j5 (some (⟨h.next, 0, none⟩ : Addr)) true h1
 else
 (ldI .i64 (⟨h.next, 2, none⟩ : Addr) h1).bind fun x25 =>
 j5 (some (⟨h.next, 0, none⟩ : Addr)) (x25 == 2) h1)
noncomputable def r_lookup_Check : RCode := an (.s .n (.s (.j [(1, .p), (3, .b)] .n) (.s (.s (.j [(49, .b)] .n) .n) .n))) (rOf Try.prog 0 Try.f28)
noncomputable def e_lookup_Check (k : Nat) (D : CallF) : Ent := entOf 28 [(0, .st [.s, .s, .i .i64, .i .i64, .i .i64, .i .i64])] [(2, .i .i64)] (lookup_Check k D)
theorem q_lookup_Check : (Try.f28.body).bind (rcodeOf Try.prog 0 Try.f28.ntmps) = some (strip r_lookup_Check) := by kernel_rfl
theorem t_lookup_Check (k : Nat) (D : CallF) : curF [(0, .st [.s, .s, .i .i64, .i .i64, .i .i64, .i .i64])] (fun args h => denF (C_lookup_Check k D) k r_lookup_Check [(2, .i .i64)] [none] args h) = lookup_Check k D := by kernel_rfl
theorem ok_lookup_Check {D : CallF} (hD : CSound Try.prog 0 D) (k : Nat) : EntOk Try.prog 0 (e_lookup_Check k D) :=
 entOf_ok2 (mkC_sound hD (EntsOk.more (ok_sha_IsId hD k) (EntsOk.more (ok_lookup_within hD k) (EntsOk.none)))) Try.func28 rfl q_lookup_Check rfl (t_lookup_Check k D)
end Gc
namespace Gc
open Go Gx Go.Proofs
set_option maxRecDepth 100000
noncomputable def C_ref13_Known (_k : Nat) (D : CallF) : CallF := mkC D []
noncomputable def ref13_Known (_k : Nat) (_D : CallF) (kind_0 : Int) (h : AHeap) : Option ((Bool) × AHeap) :=
 (if (kind_0 == 1) = true then
 some (true, h)
 else
 some ((kind_0 == 2), h))
noncomputable def r_ref13_Known : RCode := an (.n) (rOf Try.prog 0 Try.f77)
noncomputable def e_ref13_Known (k : Nat) (D : CallF) : Ent := entOf 77 [(0, .i .i64)] [(2, .b)] (ref13_Known k D)
theorem q_ref13_Known : (Try.f77.body).bind (rcodeOf Try.prog 0 Try.f77.ntmps) = some (strip r_ref13_Known) := by kernel_rfl
theorem t_ref13_Known (k : Nat) (D : CallF) : curF [(0, .i .i64)] (fun args h => denF (C_ref13_Known k D) k r_ref13_Known [(2, .b)] [none] args h) = ref13_Known k D := by kernel_rfl
theorem ok_ref13_Known {D : CallF} (hD : CSound Try.prog 0 D) (k : Nat) : EntOk Try.prog 0 (e_ref13_Known k D) :=
 entOf_ok2 (mkC_sound hD (EntsOk.none)) Try.func77 rfl q_ref13_Known rfl (t_ref13_Known k D)
end Gc
namespace Gc
open Go Gx Go.Proofs
set_option maxRecDepth 100000
noncomputable def C_ref15_Check (k : Nat) (D : CallF) : CallF := mkC D [e_ref13_Known k D]
noncomputable def ref15_Check (k : Nat) (D : CallF) (x_0 : ByteArray × ByteArray × Int × Int × Int × Int) (h : AHeap) : Option ((Int) × AHeap) :=
 newK h ((.cells [.string x_0.1, .string x_0.2.1, .int .i64 x_0.2.2.1, .int .i64 x_0.2.2.2.1, .int .i64 x_0.2.2.2.2.1, .int .i64 x_0.2.2.2.2.2] 57 true 0)) fun h1 =>
 (ldA 5 (⟨h.next, 1, none⟩ : Addr) h1).bind fun l2 =>
 (decC [.s, .i .i64, .i .i64, .i .i64, .i .i64] l2).bind fun x3 =>
 newK h1 ((.cells [.string ⟨#[]⟩, .int .i64 0, .int .i64 0, .int .i64 0, .int .i64 0] 55 true 0)) fun h4 =>
 (stL 5 (⟨h1.next, 0, none⟩ : Addr) ([.string x3.1, .int .i64 x3.2.1, .int .i64 x3.2.2.1, .int .i64 x3.2.2.2.1, .int .i64 x3.2.2.2.2]) h4).bind fun h5 =>
 joinK (fun (a6 : Option Addr) (y7 : Bool) (h8 : AHeap) =>
 (if y7 = true then
 some (1, h8)
 else
 joinK (fun (y10 : Bool) (h11 : AHeap) =>
 (if y10 = true then
 some (1, h11)
 else
 some (0, h11))) fun j12 =>
 (a6).bind fun p13 =>
 (ldI .i64 (⟨p13.block, p13.off + 2, none⟩ : Addr) h8).bind fun x14 =>
 (if (decide (x14 < 0)) = true then
 j12 true h8
 else
 (a6).bind fun p15 =>
 (ldI .i64 (⟨p15.block, p15.off + 2, none⟩ : Addr) h8).bind fun x16 =>
 (if (decide (x16 > 65536)) = true then
 j12 true h8
 else
 (a6).bind fun p17 =>
 (ldI .i64 (⟨p17.block, p17.off + 3, none⟩ : Addr) h8).bind fun x18 =>
 (if (decide (x18 < 1)) = true then
 j12 true h8
 else
 (a6).bind fun p19 =>
 (ldI .i64 (⟨p19.block, p19.off + 3, none⟩ : Addr) h8).bind fun x20 =>
 (if (decide (x20 > 65536)) = true then
 j12 true h8
 else
 (a6).bind fun p21 =>
 (ldI .i64 (⟨p21.block, p21.off + 4, none⟩ : Addr) h8).bind fun x22 =>
 (if (decide (x22 < 0)) = true then
 j12 true h8
 else
 (a6).bind fun p23 =>
 (ldI .i64 (⟨p23.block, p23.off + 4, none⟩ : Addr) h8).bind fun x24 =>
 j12 (decide (x24 > 65536)) h8))))))) fun j9 =>
 (ldS (⟨h.next, 0, none⟩ : Addr) h5).bind fun x25 =>
 (if ((x25.size : Int) != 32) = true then
 j9 (some (⟨h1.next, 0, none⟩ : Addr)) true h5
 else
 (ldS (⟨h1.next, 0, none⟩ : Addr) h5).bind fun x26 =>
 (if ((x26.size : Int) != 32) = true then
 j9 (some (⟨h1.next, 0, none⟩ : Addr)) true h5
 else
 (ldI .i64 (⟨h1.next, 1, none⟩ : Addr) h5).bind fun x27 =>
 (ref13_Known k D x27 h5).bind fun r28 =>
 j9 (some (⟨h1.next, 0, none⟩ : Addr)) (!r28.1) r28.2))
noncomputable def r_ref15_Check : RCode := an (.s .n (.s (.r [(1, .st [.s, .i .i64, .i .i64, .i .i64, .i .i64])]) (.s (.s (.j [(3, .p), (21, .b)] .n) .n) (.s (.s (.j [(49, .b)] .n) .n) .n)))) (rOf Try.prog 0 Try.f29)
noncomputable def e_ref15_Check (k : Nat) (D : CallF) : Ent := entOf 29 [(0, .st [.s, .s, .i .i64, .i .i64, .i .i64, .i .i64])] [(2, .i .i64)] (ref15_Check k D)
theorem q_ref15_Check : (Try.f29.body).bind (rcodeOf Try.prog 0 Try.f29.ntmps) = some (strip r_ref15_Check) := by kernel_rfl
theorem t_ref15_Check (k : Nat) (D : CallF) : curF [(0, .st [.s, .s, .i .i64, .i .i64, .i .i64, .i .i64])] (fun args h => denF (C_ref15_Check k D) k r_ref15_Check [(2, .i .i64)] [none] args h) = ref15_Check k D := by kernel_rfl
theorem ok_ref15_Check {D : CallF} (hD : CSound Try.prog 0 D) (k : Nat) : EntOk Try.prog 0 (e_ref15_Check k D) :=
 entOf_ok2 (mkC_sound hD (EntsOk.more (ok_ref13_Known hD k) (EntsOk.none))) Try.func29 rfl q_ref15_Check rfl (t_ref15_Check k D)
end Gc
namespace Gc
open Go Gx Go.Proofs
set_option maxRecDepth 100000
noncomputable def C_ref15_Less (_k : Nat) (D : CallF) : CallF := mkC D []
noncomputable def ref15_Less (_k : Nat) (_D : CallF) (x_0 : ByteArray × ByteArray × Int × Int × Int × Int) (y_1 : ByteArray × ByteArray × Int × Int × Int × Int) (h : AHeap) : Option ((Bool) × AHeap) :=
 newK h ((.cells [.string x_0.1, .string x_0.2.1, .int .i64 x_0.2.2.1, .int .i64 x_0.2.2.2.1, .int .i64 x_0.2.2.2.2.1, .int .i64 x_0.2.2.2.2.2] 57 true 0)) fun h1 =>
 newK h1 ((.cells [.string y_1.1, .string y_1.2.1, .int .i64 y_1.2.2.1, .int .i64 y_1.2.2.2.1, .int .i64 y_1.2.2.2.2.1, .int .i64 y_1.2.2.2.2.2] 57 true 0)) fun h2 =>
 (ldS (⟨h.next, 0, none⟩ : Addr) h2).bind fun x3 =>
 (ldS (⟨h1.next, 0, none⟩ : Addr) h2).bind fun x4 =>
 (if (!(x3 == x4)) = true then
 (ldS (⟨h.next, 0, none⟩ : Addr) h2).bind fun x5 =>
 (ldS (⟨h1.next, 0, none⟩ : Addr) h2).bind fun x6 =>
 some ((Op.bytesLess x5.toList x6.toList), h2)
 else
 let h7 := AHeap.resv h2 2
 (ldA 5 (⟨h.next, 1, none⟩ : Addr) h7).bind fun l8 =>
 (decC [.s, .i .i64, .i .i64, .i .i64, .i .i64] l8).bind fun x9 =>
 let h10 := AHeap.set h7 (h2.next + 0) (.cells [.string ⟨#[]⟩, .int .i64 0, .int .i64 0, .int .i64 0, .int .i64 0] 55 true 0)
 let h11 := AHeap.set h10 (h2.next + 1) (.cells [.string ⟨#[]⟩, .int .i64 0, .int .i64 0, .int .i64 0, .int .i64 0] 55 true 0)
 (stL 5 (⟨(h2.next + 0), 0, none⟩ : Addr) ([.string x9.1, .int .i64 x9.2.1, .int .i64 x9.2.2.1, .int .i64 x9.2.2.2.1, .int .i64 x9.2.2.2.2]) h11).bind fun h12 =>
 (ldA 5 (⟨h1.next, 1, none⟩ : Addr) h12).bind fun l13 =>
 guardP (SameW [h11, h10, h7] (fun H15 => (ldA 5 (⟨h1.next, 1, none⟩ : Addr) H15).bind fun y14 => some (.agg ⟨y14⟩)) (.agg ⟨l13⟩)) (
 (decC [.s, .i .i64, .i .i64, .i .i64, .i .i64] l13).bind fun x16 =>
 (stL 5 (⟨(h2.next + 1), 0, none⟩ : Addr) ([.string x16.1, .int .i64 x16.2.1, .int .i64 x16.2.2.1, .int .i64 x16.2.2.2.1, .int .i64 x16.2.2.2.2]) h12).bind fun h17 =>
 (ldS (⟨(h2.next + 0), 0, none⟩ : Addr) h17).bind fun x18 =>
 (ldS (⟨(h2.next + 1), 0, none⟩ : Addr) h17).bind fun x19 =>
 (if (!(x18 == x19)) = true then
 (ldS (⟨(h2.next + 0), 0, none⟩ : Addr) h17).bind fun x20 =>
 (ldS (⟨(h2.next + 1), 0, none⟩ : Addr) h17).bind fun x21 =>
 some ((Op.bytesLess x20.toList x21.toList), h17)
 else
 (ldI .i64 (⟨(h2.next + 0), 2, none⟩ : Addr) h17).bind fun x22 =>
 (ldI .i64 (⟨(h2.next + 1), 2, none⟩ : Addr) h17).bind fun x23 =>
 (if (x22 != x23) = true then
 (ldI .i64 (⟨(h2.next + 0), 2, none⟩ : Addr) h17).bind fun x24 =>
 (ldI .i64 (⟨(h2.next + 1), 2, none⟩ : Addr) h17).bind fun x25 =>
 some ((decide (x24 < x25)), h17)
 else
 (ldI .i64 (⟨(h2.next + 0), 3, none⟩ : Addr) h17).bind fun x26 =>
 (ldI .i64 (⟨(h2.next + 1), 3, none⟩ : Addr) h17).bind fun x27 =>
 (if (x26 != x27) = true then
 (ldI .i64 (⟨(h2.next + 0), 3, none⟩ : Addr) h17).bind fun x28 =>
 (ldI .i64 (⟨(h2.next + 1), 3, none⟩ : Addr) h17).bind fun x29 =>
 some ((decide (x28 < x29)), h17)
 else
 (ldI .i64 (⟨(h2.next + 0), 4, none⟩ : Addr) h17).bind fun x30 =>
 (ldI .i64 (⟨(h2.next + 1), 4, none⟩ : Addr) h17).bind fun x31 =>
 (if (x30 != x31) = true then
 (ldI .i64 (⟨(h2.next + 0), 4, none⟩ : Addr) h17).bind fun x32 =>
 (ldI .i64 (⟨(h2.next + 1), 4, none⟩ : Addr) h17).bind fun x33 =>
 some ((decide (x32 < x33)), h17)
 else
 (ldI .i64 (⟨(h2.next + 0), 1, none⟩ : Addr) h17).bind fun x34 =>
 (ldI .i64 (⟨(h2.next + 1), 1, none⟩ : Addr) h17).bind fun x35 =>
 some ((decide (x34 < x35)), h17)))))))
noncomputable def r_ref15_Less : RCode := an (.s .n (.s .n (.s (.r [(1, .st [.s, .i .i64, .i .i64, .i .i64, .i .i64]), (6, .st [.s, .i .i64, .i .i64, .i .i64, .i .i64])]) .n))) (rOf Try.prog 0 Try.f31)
noncomputable def e_ref15_Less (k : Nat) (D : CallF) : Ent := entOf 31 [(0, .st [.s, .s, .i .i64, .i .i64, .i .i64, .i .i64]), (1, .st [.s, .s, .i .i64, .i .i64, .i .i64, .i .i64])] [(4, .b)] (ref15_Less k D)
theorem q_ref15_Less : (Try.f31.body).bind (rcodeOf Try.prog 0 Try.f31.ntmps) = some (strip r_ref15_Less) := by kernel_rfl
theorem t_ref15_Less (k : Nat) (D : CallF) : curF [(0, .st [.s, .s, .i .i64, .i .i64, .i .i64, .i .i64]), (1, .st [.s, .s, .i .i64, .i .i64, .i .i64, .i .i64])] (fun args h => denF (C_ref15_Less k D) k r_ref15_Less [(4, .b)] [none] args h) = ref15_Less k D := by kernel_rfl
theorem ok_ref15_Less {D : CallF} (hD : CSound Try.prog 0 D) (k : Nat) : EntOk Try.prog 0 (e_ref15_Less k D) :=
 entOf_ok2 (mkC_sound hD (EntsOk.none)) Try.func31 rfl q_ref15_Less rfl (t_ref15_Less k D)
end Gc
namespace Gc
open Go Gx Go.Proofs
set_option maxRecDepth 100000
end Gc
namespace Gc
open Go Gx Go.Proofs
set_option maxRecDepth 100000
end Gc
namespace Gc
open Go Gx Go.Proofs
set_option maxRecDepth 100000
noncomputable def C_lookup_Table_Places_1 (k : Nat) (D : CallF) : CallF := mkC D [e_cmp_Compare_string k D]
noncomputable def lookup_Table_Places_1 (k : Nat) (D : CallF) (x_0 : ByteArray × ByteArray × Int × Int × Int × Int) (id_1 : ByteArray) (h : AHeap) : Option ((Int) × AHeap) :=
 newK h ((.cells [.string x_0.1, .string x_0.2.1, .int .i64 x_0.2.2.1, .int .i64 x_0.2.2.2.1, .int .i64 x_0.2.2.2.2.1, .int .i64 x_0.2.2.2.2.2] 57 true 0)) fun h1 =>
 (ldS (⟨h.next, 0, none⟩ : Addr) h1).bind fun x2 =>
 (cmp_Compare_string k D x2 id_1 h1).bind fun r3 =>
 some (r3.1, r3.2)
noncomputable def r_lookup_Table_Places_1 : RCode := an (.n) (rOf Try.prog 0 Try.f127)
noncomputable def e_lookup_Table_Places_1 (k : Nat) (D : CallF) : Ent := entOf 127 [(0, .st [.s, .s, .i .i64, .i .i64, .i .i64, .i .i64]), (1, .s)] [(4, .i .i64)] (lookup_Table_Places_1 k D)
theorem q_lookup_Table_Places_1 : (Try.f127.body).bind (rcodeOf Try.prog 0 Try.f127.ntmps) = some (strip r_lookup_Table_Places_1) := by kernel_rfl
theorem t_lookup_Table_Places_1 (k : Nat) (D : CallF) : curF [(0, .st [.s, .s, .i .i64, .i .i64, .i .i64, .i .i64]), (1, .s)] (fun args h => denF (C_lookup_Table_Places_1 k D) k r_lookup_Table_Places_1 [(4, .i .i64)] [none] args h) = lookup_Table_Places_1 k D := by kernel_rfl
theorem ok_lookup_Table_Places_1 {D : CallF} (hD : CSound Try.prog 0 D) (k : Nat) : EntOk Try.prog 0 (e_lookup_Table_Places_1 k D) :=
 entOf_ok2 (mkC_sound hD (EntsOk.more (ok_cmp_Compare_string hD k) (EntsOk.none))) Try.func127 rfl q_lookup_Table_Places_1 rfl (t_lookup_Table_Places_1 k D)
end Gc
namespace Gc
open Go Gx Go.Proofs
set_option maxRecDepth 100000
noncomputable def C_lookup_Table_Drop_1 (_k : Nat) (D : CallF) : CallF := mkC D []
noncomputable def lookup_Table_Drop_1 (_k : Nat) (_D : CallF) (x_0 : ByteArray × ByteArray × Int × Int × Int × Int) (a_1 : Option Addr) (h : AHeap) : Option ((Bool) × AHeap) :=
 newK h ((.cells [.string x_0.1, .string x_0.2.1, .int .i64 x_0.2.2.1, .int .i64 x_0.2.2.2.1, .int .i64 x_0.2.2.2.2.1, .int .i64 x_0.2.2.2.2.2] 57 true 0)) fun h1 =>
 (ldS (⟨h.next, 1, none⟩ : Addr) h1).bind fun x2 =>
 (a_1).bind fun p3 =>
 (ldS p3 h1).bind fun x4 =>
 some ((x2 == x4), h1)
noncomputable def r_lookup_Table_Drop_1 : RCode := an (.n) (rOf Try.prog 0 Try.f87)
noncomputable def e_lookup_Table_Drop_1 (k : Nat) (D : CallF) : Ent := entOf 87 [(0, .st [.s, .s, .i .i64, .i .i64, .i .i64, .i .i64]), (1, .p)] [(3, .b)] (lookup_Table_Drop_1 k D)
theorem q_lookup_Table_Drop_1 : (Try.f87.body).bind (rcodeOf Try.prog 0 Try.f87.ntmps) = some (strip r_lookup_Table_Drop_1) := by kernel_rfl
theorem t_lookup_Table_Drop_1 (k : Nat) (D : CallF) : curF [(0, .st [.s, .s, .i .i64, .i .i64, .i .i64, .i .i64]), (1, .p)] (fun args h => denF (C_lookup_Table_Drop_1 k D) k r_lookup_Table_Drop_1 [(3, .b)] [none] args h) = lookup_Table_Drop_1 k D := by kernel_rfl
theorem ok_lookup_Table_Drop_1 {D : CallF} (hD : CSound Try.prog 0 D) (k : Nat) : EntOk Try.prog 0 (e_lookup_Table_Drop_1 k D) :=
 entOf_ok2 (mkC_sound hD (EntsOk.none)) Try.func87 rfl q_lookup_Table_Drop_1 rfl (t_lookup_Table_Drop_1 k D)
end Gc
namespace Gc
open Go Gx Go.Proofs
set_option maxRecDepth 100000
noncomputable def C_cmp_Less_string (k : Nat) (D : CallF) : CallF := mkC D [e_cmp_isNaN_string k D]
noncomputable def cmp_Less_string (k : Nat) (D : CallF) (x_0 : ByteArray) (y_1 : ByteArray) (h : AHeap) : Option ((Bool) × AHeap) :=
 (cmp_isNaN_string k D x_0 h).bind fun r1 =>
 (if r1.1 = true then
 (cmp_isNaN_string k D y_1 r1.2).bind fun r2 =>
 (if (!r2.1) = true then
 some (true, r2.2)
 else
 some ((Op.bytesLess x_0.toList y_1.toList), r2.2))
 else
 some ((Op.bytesLess x_0.toList y_1.toList), r1.2))
noncomputable def r_cmp_Less_string : RCode := an (.n) (rOf Try.prog 0 Try.f97)
noncomputable def e_cmp_Less_string (k : Nat) (D : CallF) : Ent := entOf 97 [(0, .s), (1, .s)] [(4, .b)] (cmp_Less_string k D)
theorem q_cmp_Less_string : (Try.f97.body).bind (rcodeOf Try.prog 0 Try.f97.ntmps) = some (strip r_cmp_Less_string) := by kernel_rfl
theorem t_cmp_Less_string (k : Nat) (D : CallF) : curF [(0, .s), (1, .s)] (fun args h => denF (C_cmp_Less_string k D) k r_cmp_Less_string [(4, .b)] [none] args h) = cmp_Less_string k D := by kernel_rfl
theorem ok_cmp_Less_string {D : CallF} (hD : CSound Try.prog 0 D) (k : Nat) : EntOk Try.prog 0 (e_cmp_Less_string k D) :=
 entOf_ok2 (mkC_sound hD (EntsOk.more (ok_cmp_isNaN_string hD k) (EntsOk.none))) Try.func97 rfl q_cmp_Less_string rfl (t_cmp_Less_string k D)
end Gc
namespace Gc
open Go Gx Go.Proofs
set_option maxRecDepth 100000
noncomputable def C_num_Reader_Fail (_k : Nat) (D : CallF) : CallF := mkC D []
noncomputable def num_Reader_Fail (_k : Nat) (_D : CallF) (r_0 : Option Addr) (e_1 : Int) (h : AHeap) : Option ((Unit) × AHeap) :=
 (r_0).bind fun p1 =>
 (ldI .i64 (⟨p1.block, p1.off + 1, none⟩ : Addr) h).bind fun x2 =>
 (if (x2 == 0) = true then
 (r_0).bind fun p3 =>
 (st1 (⟨p3.block, p3.off + 1, none⟩ : Addr) (.int .i64 e_1) h).bind fun h4 =>
 some ((), h4)
 else
 some ((), h))
noncomputable def r_num_Reader_Fail : RCode := an (.n) (rOf Try.prog 0 Try.f106)
noncomputable def e_num_Reader_Fail (k : Nat) (D : CallF) : Ent := entOf 106 [(0, .p), (1, .i .i64)] [] (num_Reader_Fail k D)
theorem q_num_Reader_Fail : (Try.f106.body).bind (rcodeOf Try.prog 0 Try.f106.ntmps) = some (strip r_num_Reader_Fail) := by kernel_rfl
theorem t_num_Reader_Fail (k : Nat) (D : CallF) : curF [(0, .p), (1, .i .i64)] (fun args h => denF (C_num_Reader_Fail k D) k r_num_Reader_Fail [] [] args h) = num_Reader_Fail k D := by kernel_rfl
theorem ok_num_Reader_Fail {D : CallF} (hD : CSound Try.prog 0 D) (k : Nat) : EntOk Try.prog 0 (e_num_Reader_Fail k D) :=
 entOf_ok2 (mkC_sound hD (EntsOk.none)) Try.func106 rfl q_num_Reader_Fail rfl (t_num_Reader_Fail k D)
end Gc
namespace Gc
open Go Gx Go.Proofs
set_option maxRecDepth 100000
noncomputable def C_num_Reader_Left (_k : Nat) (D : CallF) : CallF := mkC D []
noncomputable def num_Reader_Left (_k : Nat) (_D : CallF) (r_0 : Option Addr) (h : AHeap) : Option ((Int) × AHeap) :=
 (r_0).bind fun p1 =>
 (ldS (⟨p1.block, p1.off + 0, none⟩ : Addr) h).bind fun x2 =>
 some ((x2.size : Int), h)
noncomputable def r_num_Reader_Left : RCode := an (.n) (rOf Try.prog 0 Try.f107)
noncomputable def e_num_Reader_Left (k : Nat) (D : CallF) : Ent := entOf 107 [(0, .p)] [(2, .i .i64)] (num_Reader_Left k D)
theorem q_num_Reader_Left : (Try.f107.body).bind (rcodeOf Try.prog 0 Try.f107.ntmps) = some (strip r_num_Reader_Left) := by kernel_rfl
theorem t_num_Reader_Left (k : Nat) (D : CallF) : curF [(0, .p)] (fun args h => denF (C_num_Reader_Left k D) k r_num_Reader_Left [(2, .i .i64)] [none] args h) = num_Reader_Left k D := by kernel_rfl
theorem ok_num_Reader_Left {D : CallF} (hD : CSound Try.prog 0 D) (k : Nat) : EntOk Try.prog 0 (e_num_Reader_Left k D) :=
 entOf_ok2 (mkC_sound hD (EntsOk.none)) Try.func107 rfl q_num_Reader_Left rfl (t_num_Reader_Left k D)
end Gc
namespace Gc
open Go Gx Go.Proofs
set_option maxRecDepth 100000
noncomputable def C_num_Reader_Bytes (k : Nat) (D : CallF) : CallF := mkC D [e_num_Reader_Fail k D, e_num_Reader_Left k D]
noncomputable def num_Reader_Bytes (k : Nat) (D : CallF) (r_0 : Option Addr) (n_1 : Int) (h : AHeap) : Option ((ByteArray) × AHeap) :=
 joinK (fun (r1 : Option Addr) (n2 : Int) (h3 : AHeap) =>
 (r1).bind fun p5 =>
 (ldI .i64 (⟨p5.block, p5.off + 1, none⟩ : Addr) h3).bind fun x6 =>
 (if (x6 != 0) = true then
 some ((⟨#[]⟩ : ByteArray), h3)
 else
 (r1).bind fun p7 =>
 (ldS (⟨p7.block, p7.off + 0, none⟩ : Addr) h3).bind fun x8 =>
 (Gx.subS x8 none (some n2)).bind fun s9 =>
 (r1).bind fun p10 =>
 (ldS (⟨p10.block, p10.off + 0, none⟩ : Addr) h3).bind fun x11 =>
 (Gx.subS x11 (some n2) none).bind fun s12 =>
 (r1).bind fun p13 =>
 (st1 (⟨p13.block, p13.off + 0, none⟩ : Addr) (.string s12) h3).bind fun h14 =>
 some (s9, h14))) fun j4 =>
 (if (decide (n_1 < 0)) = true then
 (num_Reader_Fail k D r_0 1 h).bind fun r15 =>
 j4 r_0 n_1 r15.2
 else
 (num_Reader_Left k D r_0 h).bind fun r16 =>
 (if (decide (n_1 > r16.1)) = true then
 (num_Reader_Fail k D r_0 10 r16.2).bind fun r17 =>
 j4 r_0 n_1 r17.2
 else
 j4 r_0 n_1 r16.2))
noncomputable def r_num_Reader_Bytes : RCode := an (.s .n (.s (.j [(0, .p), (1, .i .i64)] .n) .n)) (rOf Try.prog 0 Try.f57)
noncomputable def e_num_Reader_Bytes (k : Nat) (D : CallF) : Ent := entOf 57 [(0, .p), (1, .i .i64)] [(4, .s)] (num_Reader_Bytes k D)
theorem q_num_Reader_Bytes : (Try.f57.body).bind (rcodeOf Try.prog 0 Try.f57.ntmps) = some (strip r_num_Reader_Bytes) := by kernel_rfl
theorem t_num_Reader_Bytes (k : Nat) (D : CallF) : curF [(0, .p), (1, .i .i64)] (fun args h => denF (C_num_Reader_Bytes k D) k r_num_Reader_Bytes [(4, .s)] [none] args h) = num_Reader_Bytes k D := by kernel_rfl
theorem ok_num_Reader_Bytes {D : CallF} (hD : CSound Try.prog 0 D) (k : Nat) : EntOk Try.prog 0 (e_num_Reader_Bytes k D) :=
 entOf_ok2 (mkC_sound hD (EntsOk.more (ok_num_Reader_Fail hD k) (EntsOk.more (ok_num_Reader_Left hD k) (EntsOk.none)))) Try.func57 rfl q_num_Reader_Bytes rfl (t_num_Reader_Bytes k D)
end Gc
namespace Gc
open Go Gx Go.Proofs
set_option maxRecDepth 100000
noncomputable def C_index_Decode_1 (k : Nat) (D : CallF) : CallF := mkC D [e_num_Reader_Bytes k D]
noncomputable def index_Decode_1 (k : Nat) (D : CallF) (r_0 : Option Addr) (h : AHeap) : Option ((ByteArray) × AHeap) :=
 (num_Reader_Bytes k D r_0 32 h).bind fun r1 =>
 some (r1.1, r1.2)
noncomputable def r_index_Decode_1 : RCode := an (.n) (rOf Try.prog 0 Try.f56)
noncomputable def e_index_Decode_1 (k : Nat) (D : CallF) : Ent := entOf 56 [(0, .p)] [(2, .s)] (index_Decode_1 k D)
theorem q_index_Decode_1 : (Try.f56.body).bind (rcodeOf Try.prog 0 Try.f56.ntmps) = some (strip r_index_Decode_1) := by kernel_rfl
theorem t_index_Decode_1 (k : Nat) (D : CallF) : curF [(0, .p)] (fun args h => denF (C_index_Decode_1 k D) k r_index_Decode_1 [(2, .s)] [none] args h) = index_Decode_1 k D := by kernel_rfl
theorem ok_index_Decode_1 {D : CallF} (hD : CSound Try.prog 0 D) (k : Nat) : EntOk Try.prog 0 (e_index_Decode_1 k D) :=
 entOf_ok2 (mkC_sound hD (EntsOk.more (ok_num_Reader_Bytes hD k) (EntsOk.none))) Try.func56 rfl q_index_Decode_1 rfl (t_index_Decode_1 k D)
end Gc
namespace Gc
open Go Gx Go.Proofs
set_option maxRecDepth 100000
noncomputable def C_num_Reader_Fixed (k : Nat) (D : CallF) : CallF := mkC D [e_num_Reader_Bytes k D, e_num_Reader_Fail k D]
noncomputable def num_Reader_Fixed_l0b (_k : Nat) (_D : CallF) (j7 : Int → AHeap → Option ((Int) × AHeap)) (rec15 : Int → Slc → Int → Int → AHeap → Option ((Int) × AHeap)) (n10 : Int) (y11 : Slc) (y12 : Int) (y13 : Int) (h14 : AHeap) : Option ((Int) × AHeap) :=
 (if (decide (y13 < y12)) = true then
 (Gx.idxL 1 y11 y13).bind fun q16 =>
 (ldI .u8 q16 h14).bind fun x17 =>
 let t18 : Int := (Go.bits .or .i64 (IntKind.wrap .i64 (n10 * 256)) (IntKind.wrap .i64 x17))
 rec15 t18 y11 y12 (IntKind.wrap .i64 (y13 + 1)) h14
 else
 j7 n10 h14)
noncomputable def num_Reader_Fixed_l0 (k : Nat) (D : CallF) (j7 : Int → AHeap → Option ((Int) × AHeap)) : Int → Slc → Int → Int → AHeap → Option ((Int) × AHeap) :=
 iterK (α := Int → Slc → Int → Int → AHeap → Option ((Int) × AHeap)) (fun _ _ _ _ _ => none) k (num_Reader_Fixed_l0b k D j7)
noncomputable def num_Reader_Fixed (k : Nat) (D : CallF) (r_0 : Option Addr) (bytes_1 : Int) (h : AHeap) : Option ((Int) × AHeap) :=
 joinK (fun (r1 : Option Addr) (bytes2 : Int) (h3 : AHeap) =>
 joinK (fun (n5 : Int) (h6 : AHeap) =>
 some (n5, h6)) fun j7 =>
 (num_Reader_Bytes k D r1 bytes2 h3).bind fun r8 =>
 let h9 := AHeap.new r8.2 (.cells (bytesL r8.1) 5 true 18446744073709551616)
 num_Reader_Fixed_l0 k D j7 0 (⟨(some ⟨r8.2.next, 0, some 2⟩), r8.1.size, r8.1.size⟩ : Slc) (r8.1.size : Int) 0 h9) fun j4 =>
 joinK (fun (r19 : Option Addr) (bytes20 : Int) (y21 : Bool) (h22 : AHeap) =>
 (if y21 = true then
 (num_Reader_Fail k D r19 1 h22).bind fun r24 =>
 j4 r19 bytes20 r24.2
 else
 j4 r19 bytes20 h22)) fun j23 =>
 (if (decide (bytes_1 < 1)) = true then
 j23 r_0 bytes_1 true h
 else
 j23 r_0 bytes_1 (decide (bytes_1 > 7)) h)
noncomputable def r_num_Reader_Fixed : RCode := an (.s .n (.s (.j [(0, .p), (1, .i .i64)] (.s (.j [(0, .p), (1, .i .i64), (14, .b)] .n) .n)) (.s .n (.s .n (.s (.j [(6, .i .i64)] (.s (.r [(2, .s)]) (.b (.l [(6, .i .i64), (22, .l), (23, .i .i64), (24, .i .i64)] .n)))) .n))))) (rOf Try.prog 0 Try.f108)
noncomputable def e_num_Reader_Fixed (k : Nat) (D : CallF) : Ent := entOf 108 [(0, .p), (1, .i .i64)] [(4, .i .i64)] (num_Reader_Fixed k D)
theorem q_num_Reader_Fixed : (Try.f108.body).bind (rcodeOf Try.prog 0 Try.f108.ntmps) = some (strip r_num_Reader_Fixed) := by kernel_rfl
theorem t_num_Reader_Fixed (k : Nat) (D : CallF) : curF [(0, .p), (1, .i .i64)] (fun args h => denF (C_num_Reader_Fixed k D) k r_num_Reader_Fixed [(4, .i .i64)] [none] args h) = num_Reader_Fixed k D := by kernel_rfl
theorem ok_num_Reader_Fixed {D : CallF} (hD : CSound Try.prog 0 D) (k : Nat) : EntOk Try.prog 0 (e_num_Reader_Fixed k D) :=
 entOf_ok2 (mkC_sound hD (EntsOk.more (ok_num_Reader_Bytes hD k) (EntsOk.more (ok_num_Reader_Fail hD k) (EntsOk.none)))) Try.func108 rfl q_num_Reader_Fixed rfl (t_num_Reader_Fixed k D)
end Gc
namespace Gc
open Go Gx Go.Proofs
set_option maxRecDepth 100000
noncomputable def C_num_short (_k : Nat) (D : CallF) : CallF := mkC D []
noncomputable def num_short_l0b (_k : Nat) (_D : CallF) (j3 : ByteArray → AHeap → Option ((Int × Int × Int) × AHeap)) (rec9 : ByteArray → Int → Int → Int → AHeap → Option ((Int × Int × Int) × AHeap)) (s4 : ByteArray) (n5 : Int) (y6 : Int) (y7 : Int) (h8 : AHeap) : Option ((Int × Int × Int) × AHeap) :=
 (if (decide (y7 < y6)) = true then
 (Gx.idxS s4 y7).bind fun b10 =>
 (if 0 ≤ (IntKind.wrap .i64 (7 * y7)) then
 let t11 : Int := (IntKind.wrap .i64 ((Go.bits .andNot .i64 (IntKind.wrap .i64 b10) 128) * 2 ^ (min ((IntKind.wrap .i64 (7 * y7))).toNat (IntKind.bits .i64))))
 (if (decide ((IntKind.wrap .i64 b10) ≥ 128)) = true then
 rec9 s4 (Go.bits .or .i64 n5 t11) y6 (IntKind.wrap .i64 (y7 + 1)) h8
 else
 joinK (fun (n12 : Int) (i13 : Int) (y14 : Bool) (h15 : AHeap) =>
 (if y14 = true then
 some ((0, 0, 3), h15)
 else
 some ((n12, (IntKind.wrap .i64 (i13 + 1)), 0), h15))) fun j16 =>
 (if ((IntKind.wrap .i64 b10) == 0) = true then
 j16 (Go.bits .or .i64 n5 t11) y7 (decide (y7 > 0)) h8
 else
 j16 (Go.bits .or .i64 n5 t11) y7 false h8))
 else none)
 else
 j3 s4 h8)
noncomputable def num_short_l0 (k : Nat) (D : CallF) (j3 : ByteArray → AHeap → Option ((Int × Int × Int) × AHeap)) : ByteArray → Int → Int → Int → AHeap → Option ((Int × Int × Int) × AHeap) :=
 iterK (α := ByteArray → Int → Int → Int → AHeap → Option ((Int × Int × Int) × AHeap)) (fun _ _ _ _ _ => none) k (num_short_l0b k D j3)
noncomputable def num_short (k : Nat) (D : CallF) (s_0 : ByteArray) (h : AHeap) : Option ((Int × Int × Int) × AHeap) :=
 joinK (fun (s1 : ByteArray) (h2 : AHeap) =>
 (if (decide ((s1.size : Int) < 9)) = true then
 some ((0, 0, 10), h2)
 else
 some ((0, 0, 3), h2))) fun j3 =>
 num_short_l0 k D j3 s_0 0 (if 9 < (s_0.size : Int) then 9 else (s_0.size : Int)) 0 h
noncomputable def r_num_short : RCode := an (.s .n (.s (.j [(0, .s)] (.s .n (.b (.l [(0, .s), (2, .i .i64), (9, .i .i64), (10, .i .i64)] (.s .n (.s .n (.s (.b (.s .n (.s .n (.s .n (.b (.s .n (.s .n (.s (.j [(2, .i .i64), (5, .i .i64), (30, .b)] .n) .n)))))))) .n))))))) .n)) (rOf Try.prog 0 Try.f133)
noncomputable def e_num_short (k : Nat) (D : CallF) : Ent := entOf 133 [(0, .s)] [(2, .i .i64), (3, .i .i64), (4, .i .i64)] (num_short k D)
theorem q_num_short : (Try.f133.body).bind (rcodeOf Try.prog 0 Try.f133.ntmps) = some (strip r_num_short) := by kernel_rfl
theorem t_num_short (k : Nat) (D : CallF) : curF [(0, .s)] (fun args h => denF (C_num_short k D) k r_num_short [(2, .i .i64), (3, .i .i64), (4, .i .i64)] [none, none, none] args h) = num_short k D := by kernel_rfl
theorem ok_num_short {D : CallF} (hD : CSound Try.prog 0 D) (k : Nat) : EntOk Try.prog 0 (e_num_short k D) :=
 entOf_ok2 (mkC_sound hD (EntsOk.none)) Try.func133 rfl q_num_short rfl (t_num_short k D)
end Gc
namespace Gc
open Go Gx Go.Proofs
set_option maxRecDepth 100000
noncomputable def C_num_Reader_Short (k : Nat) (D : CallF) : CallF := mkC D [e_num_short k D, e_num_Reader_Fail k D]
noncomputable def num_Reader_Short (k : Nat) (D : CallF) (r_0 : Option Addr) (most_1 : Int) (h : AHeap) : Option ((Int) × AHeap) :=
 (r_0).bind fun p1 =>
 (ldS (⟨p1.block, p1.off + 0, none⟩ : Addr) h).bind fun x2 =>
 (num_short k D x2 h).bind fun r3 =>
 joinK (fun (r4 : Option Addr) (n5 : Int) (long6 : Int) (e7 : Int) (h8 : AHeap) =>
 (num_Reader_Fail k D r4 e7 h8).bind fun r10 =>
 (r4).bind fun p11 =>
 (ldI .i64 (⟨p11.block, p11.off + 1, none⟩ : Addr) r10.2).bind fun x12 =>
 (if (x12 != 0) = true then
 some (0, r10.2)
 else
 (r4).bind fun p13 =>
 (ldS (⟨p13.block, p13.off + 0, none⟩ : Addr) r10.2).bind fun x14 =>
 (Gx.subS x14 (some long6) none).bind fun s15 =>
 (r4).bind fun p16 =>
 (st1 (⟨p16.block, p16.off + 0, none⟩ : Addr) (.string s15) r10.2).bind fun h17 =>
 some (n5, h17))) fun j9 =>
 joinK (fun (r18 : Option Addr) (n19 : Int) (long20 : Int) (e21 : Int) (y22 : Bool) (h23 : AHeap) =>
 (if y22 = true then
 j9 r18 n19 long20 2 h23
 else
 j9 r18 n19 long20 e21 h23)) fun j24 =>
 (if (r3.1.2.2 == 0) = true then
 j24 r_0 r3.1.1 r3.1.2.1 r3.1.2.2 (decide (r3.1.1 > most_1)) r3.2
 else
 j24 r_0 r3.1.1 r3.1.2.1 r3.1.2.2 false r3.2)
noncomputable def r_num_Reader_Short : RCode := an (.s .n (.s .n (.s (.j [(0, .p), (5, .i .i64), (6, .i .i64), (7, .i .i64)] (.s (.j [(0, .p), (5, .i .i64), (6, .i .i64), (7, .i .i64), (23, .b)] .n) .n)) .n))) (rOf Try.prog 0 Try.f104)
noncomputable def e_num_Reader_Short (k : Nat) (D : CallF) : Ent := entOf 104 [(0, .p), (1, .i .i64)] [(4, .i .i64)] (num_Reader_Short k D)
theorem q_num_Reader_Short : (Try.f104.body).bind (rcodeOf Try.prog 0 Try.f104.ntmps) = some (strip r_num_Reader_Short) := by kernel_rfl
theorem t_num_Reader_Short (k : Nat) (D : CallF) : curF [(0, .p), (1, .i .i64)] (fun args h => denF (C_num_Reader_Short k D) k r_num_Reader_Short [(4, .i .i64)] [none] args h) = num_Reader_Short k D := by kernel_rfl
theorem ok_num_Reader_Short {D : CallF} (hD : CSound Try.prog 0 D) (k : Nat) : EntOk Try.prog 0 (e_num_Reader_Short k D) :=
 entOf_ok2 (mkC_sound hD (EntsOk.more (ok_num_short hD k) (EntsOk.more (ok_num_Reader_Fail hD k) (EntsOk.none)))) Try.func104 rfl q_num_Reader_Short rfl (t_num_Reader_Short k D)
end Gc
namespace Gc
open Go Gx Go.Proofs
set_option maxRecDepth 100000
noncomputable def C_index_item (k : Nat) (D : CallF) : CallF := mkC D [e_num_Reader_Bytes k D, e_num_Reader_Fixed k D, e_num_Reader_Short k D]
noncomputable def index_item (k : Nat) (D : CallF) (r_0 : Option Addr) (h : AHeap) : Option (((ByteArray × ByteArray × Int × Int × Int × Int)) × AHeap) :=
 newK h ((.cells [.string ⟨#[]⟩, .string ⟨#[]⟩, .int .i64 0, .int .i64 0, .int .i64 0, .int .i64 0] 57 true 0)) fun h1 =>
 (num_Reader_Bytes k D r_0 32 h1).bind fun r2 =>
 newK r2.2 ((.cells [.string ⟨#[]⟩, .string ⟨#[]⟩, .int .i64 0, .int .i64 0, .int .i64 0, .int .i64 0] 57 true 0)) fun h3 =>
 (stL 6 (⟨r2.2.next, 0, none⟩ : Addr) ([.string r2.1, .string (⟨#[]⟩ : ByteArray), .int .i64 0, .int .i64 0, .int .i64 0, .int .i64 0]) h3).bind fun h4 =>
 (num_Reader_Bytes k D r_0 32 h4).bind fun r5 =>
 (st1 (⟨r2.2.next, 1, none⟩ : Addr) (.string r5.1) r5.2).bind fun h6 =>
 (num_Reader_Fixed k D r_0 1 h6).bind fun r7 =>
 (st1 (⟨r2.2.next, 2, none⟩ : Addr) (.int .i64 r7.1) r7.2).bind fun h8 =>
 (num_Reader_Short k D r_0 65536 h8).bind fun r9 =>
 (st1 (⟨r2.2.next, 3, none⟩ : Addr) (.int .i64 r9.1) r9.2).bind fun h10 =>
 (num_Reader_Short k D r_0 65536 h10).bind fun r11 =>
 (st1 (⟨r2.2.next, 4, none⟩ : Addr) (.int .i64 r11.1) r11.2).bind fun h12 =>
 (num_Reader_Short k D r_0 65536 h12).bind fun r13 =>
 (st1 (⟨r2.2.next, 5, none⟩ : Addr) (.int .i64 r13.1) r13.2).bind fun h14 =>
 (ldA 6 (⟨r2.2.next, 0, none⟩ : Addr) h14).bind fun l15 =>
 (decC [.s, .s, .i .i64, .i .i64, .i .i64, .i .i64] l15).bind fun x16 =>
 (stL 6 (⟨h.next, 0, none⟩ : Addr) ([.string x16.1, .string x16.2.1, .int .i64 x16.2.2.1, .int .i64 x16.2.2.2.1, .int .i64 x16.2.2.2.2.1, .int .i64 x16.2.2.2.2.2]) h14).bind fun h17 =>
 (ldA 6 (⟨h.next, 0, none⟩ : Addr) h17).bind fun l18 =>
 (decC [.s, .s, .i .i64, .i .i64, .i .i64, .i .i64] l18).bind fun x19 =>
 some ((x19.1, x19.2.1, x19.2.2.1, x19.2.2.2.1, x19.2.2.2.2.1, x19.2.2.2.2.2), h17)
noncomputable def r_index_item : RCode := an (.s .n (.s .n (.s .n (.s .n (.s .n (.s .n (.s .n (.s (.r [(0, .st [.s, .s, .i .i64, .i .i64, .i .i64, .i .i64])]) .n)))))))) (rOf Try.prog 0 Try.f59)
noncomputable def e_index_item (k : Nat) (D : CallF) : Ent := entOf 59 [(0, .p)] [(2, .st [.s, .s, .i .i64, .i .i64, .i .i64, .i .i64])] (index_item k D)
theorem q_index_item : (Try.f59.body).bind (rcodeOf Try.prog 0 Try.f59.ntmps) = some (strip r_index_item) := by kernel_rfl
theorem t_index_item (k : Nat) (D : CallF) : curF [(0, .p)] (fun args h => denF (C_index_item k D) k r_index_item [(2, .st [.s, .s, .i .i64, .i .i64, .i .i64, .i .i64])] [some (.agg 6)] args h) = index_item k D := by kernel_rfl
theorem ok_index_item {D : CallF} (hD : CSound Try.prog 0 D) (k : Nat) : EntOk Try.prog 0 (e_index_item k D) :=
 entOf_ok2 (mkC_sound hD (EntsOk.more (ok_num_Reader_Bytes hD k) (EntsOk.more (ok_num_Reader_Fixed hD k) (EntsOk.more (ok_num_Reader_Short hD k) (EntsOk.none))))) Try.func59 rfl q_index_item rfl (t_index_item k D)
end Gc
namespace Gc
open Go Gx Go.Proofs
end Gc
namespace Gc
open Go Gx Go.Proofs
set_option maxRecDepth 100000
end Gc
namespace Gc
open Go Gx Go.Proofs
set_option maxRecDepth 100000
end Gc
namespace Gc
open Go Gx Go.Proofs
set_option maxRecDepth 100000
end Gc
namespace Gc
open Go Gx Go.Proofs
set_option maxRecDepth 100000
end Gc
namespace Gc
open Go Gx Go.Proofs
set_option maxRecDepth 100000
end Gc
namespace Gc
open Go Gx Go.Proofs
set_option maxRecDepth 100000
end Gc
namespace Gc
open Go Gx Go.Proofs
set_option maxRecDepth 100000
end Gc
namespace Gc
open Go Gx Go.Proofs
set_option maxRecDepth 100000
end Gc
namespace Gc
open Go Gx Go.Proofs
set_option maxRecDepth 100000
end Gc
namespace Gc
open Go Gx Go.Proofs
set_option maxRecDepth 100000
end Gc
namespace Go.Proofs
open Go.Shelf
end Go.Proofs
namespace Gc
open Go Gx Go.Proofs Go.Shelf
end Gc
namespace Gc
open Go Gx Go.Proofs
set_option maxRecDepth 100000
end Gc
namespace Gc
open Go Gx Go.Proofs
set_option maxRecDepth 100000
end Gc
namespace Gc
open Go Gx Go.Proofs
set_option maxRecDepth 100000
end Gc
namespace Gc
open Go Gx Go.Proofs
set_option maxRecDepth 100000
end Gc
namespace Gc
open Go Gx Go.Proofs
set_option maxRecDepth 100000
noncomputable def C_num_Short (_k : Nat) (D : CallF) : CallF := mkC D []
noncomputable def num_Short_l0b (_k : Nat) (_D : CallF) (j4 : Int → Slc → AHeap → Option ((ByteArray × Int) × AHeap)) (rec12 : Int → Slc → AHeap → Option ((ByteArray × Int) × AHeap)) (n9 : Int) (b10 : Slc) (h11 : AHeap) : Option ((ByteArray × Int) × AHeap) :=
 (if (decide (n9 ≥ 128)) = true then
 newK h11 ((.cells [.int .u8 (Go.bits .or .u8 (IntKind.wrap .u8 n9) 128)] 5 true 0)) fun h13 =>
 (rdS 1 (⟨(some ⟨h11.next, 0, some 0⟩), 1, 1⟩ : Slc) h13).bind fun n15 =>
 (appendA 1 1 5 h13 b10 n15 1).bind fun r14 =>
 rec12 (Int.fdiv n9 128) r14.1 r14.2
 else
 j4 n9 b10 h11)
noncomputable def num_Short_l0 (k : Nat) (D : CallF) (j4 : Int → Slc → AHeap → Option ((ByteArray × Int) × AHeap)) : Int → Slc → AHeap → Option ((ByteArray × Int) × AHeap) :=
 iterK (α := Int → Slc → AHeap → Option ((ByteArray × Int) × AHeap)) (fun _ _ _ => none) k (num_Short_l0b k D j4)
noncomputable def num_Short (k : Nat) (D : CallF) (n_0 : Int) (h : AHeap) : Option ((ByteArray × Int) × AHeap) :=
 (if (decide (n_0 < 0)) = true then
 some (((⟨#[]⟩ : ByteArray), 1), h)
 else
 joinK (fun (n1 : Int) (b2 : Slc) (h3 : AHeap) =>
 newK h3 ((.cells [.int .u8 (IntKind.wrap .u8 n1)] 5 true 0)) fun h5 =>
 (rdS 1 (⟨(some ⟨h3.next, 0, some 0⟩), 1, 1⟩ : Slc) h5).bind fun n7 =>
 (appendA 1 1 5 h5 b2 n7 1).bind fun r6 =>
 (bytesOf r6.2 r6.1).bind fun s8 =>
 some ((s8, 0), r6.2)) fun j4 =>
 num_Short_l0 k D j4 n_0 (⟨none, 0, 0⟩ : Slc) h)
noncomputable def r_num_Short : RCode := an (.s .n (.s .n (.s .n (.s (.j [(0, .i .i64), (4, .l)] (.b (.l [(0, .i .i64), (4, .l)] .n))) .n)))) (rOf Try.prog 0 Try.f132)
noncomputable def e_num_Short (k : Nat) (D : CallF) : Ent := entOf 132 [(0, .i .i64)] [(2, .s), (3, .i .i64)] (num_Short k D)
theorem q_num_Short : (Try.f132.body).bind (rcodeOf Try.prog 0 Try.f132.ntmps) = some (strip r_num_Short) := by kernel_rfl
theorem t_num_Short (k : Nat) (D : CallF) : curF [(0, .i .i64)] (fun args h => denF (C_num_Short k D) k r_num_Short [(2, .s), (3, .i .i64)] [none, none] args h) = num_Short k D := by kernel_rfl
theorem ok_num_Short {D : CallF} (hD : CSound Try.prog 0 D) (k : Nat) : EntOk Try.prog 0 (e_num_Short k D) :=
 entOf_ok2 (mkC_sound hD (EntsOk.none)) Try.func132 rfl q_num_Short rfl (t_num_Short k D)
end Gc
namespace Gc
open Go Gx Go.Proofs
set_option maxRecDepth 100000
noncomputable def C_index_short (k : Nat) (D : CallF) : CallF := mkC D [e_num_Short k D]
noncomputable def index_short (k : Nat) (D : CallF) (n_0 : Int) (h : AHeap) : Option ((ByteArray) × AHeap) :=
 (num_Short k D n_0 h).bind fun r1 =>
 some (r1.1.1, r1.2)
noncomputable def r_index_short : RCode := an (.n) (rOf Try.prog 0 Try.f99)
noncomputable def e_index_short (k : Nat) (D : CallF) : Ent := entOf 99 [(0, .i .i64)] [(2, .s)] (index_short k D)
theorem q_index_short : (Try.f99.body).bind (rcodeOf Try.prog 0 Try.f99.ntmps) = some (strip r_index_short) := by kernel_rfl
theorem t_index_short (k : Nat) (D : CallF) : curF [(0, .i .i64)] (fun args h => denF (C_index_short k D) k r_index_short [(2, .s)] [none] args h) = index_short k D := by kernel_rfl
theorem ok_index_short {D : CallF} (hD : CSound Try.prog 0 D) (k : Nat) : EntOk Try.prog 0 (e_index_short k D) :=
 entOf_ok2 (mkC_sound hD (EntsOk.more (ok_num_Short hD k) (EntsOk.none))) Try.func99 rfl q_index_short rfl (t_index_short k D)
end Gc
namespace Gc
open Go Gx Go.Proofs
set_option maxRecDepth 100000
noncomputable def C_ref01_Small (_k : Nat) (D : CallF) : CallF := mkC D []
noncomputable def ref01_Small_l0b (_k : Nat) (_D : CallF) (j4 : Int → Slc → AHeap → Option ((ByteArray) × AHeap)) (rec12 : Int → Slc → AHeap → Option ((ByteArray) × AHeap)) (n9 : Int) (b10 : Slc) (h11 : AHeap) : Option ((ByteArray) × AHeap) :=
 (if (decide (n9 ≥ 128)) = true then
 let t13 : Int := (IntKind.wrap .u8 (IntKind.wrap .i64 (128 + (Int.tmod n9 128))))
 newK h11 ((.cells [.int .u8 t13] 5 true 0)) fun h14 =>
 (rdS 1 (⟨(some ⟨h11.next, 0, some 0⟩), 1, 1⟩ : Slc) h14).bind fun n16 =>
 (appendA 1 1 5 h14 b10 n16 1).bind fun r15 =>
 rec12 (IntKind.wrap .i64 (Int.tdiv n9 128)) r15.1 r15.2
 else
 j4 n9 b10 h11)
noncomputable def ref01_Small_l0 (k : Nat) (D : CallF) (j4 : Int → Slc → AHeap → Option ((ByteArray) × AHeap)) : Int → Slc → AHeap → Option ((ByteArray) × AHeap) :=
 iterK (α := Int → Slc → AHeap → Option ((ByteArray) × AHeap)) (fun _ _ _ => none) k (ref01_Small_l0b k D j4)
noncomputable def ref01_Small (k : Nat) (D : CallF) (n_0 : Int) (h : AHeap) : Option ((ByteArray) × AHeap) :=
 joinK (fun (n1 : Int) (b2 : Slc) (h3 : AHeap) =>
 newK h3 ((.cells [.int .u8 (IntKind.wrap .u8 n1)] 5 true 0)) fun h5 =>
 (rdS 1 (⟨(some ⟨h3.next, 0, some 0⟩), 1, 1⟩ : Slc) h5).bind fun n7 =>
 (appendA 1 1 5 h5 b2 n7 1).bind fun r6 =>
 (bytesOf r6.2 r6.1).bind fun s8 =>
 some (s8, r6.2)) fun j4 =>
 ref01_Small_l0 k D j4 n_0 (⟨none, 0, 0⟩ : Slc) h
noncomputable def r_ref01_Small : RCode := an (.s .n (.s .n (.s (.j [(0, .i .i64), (3, .l)] (.b (.l [(0, .i .i64), (3, .l)] .n))) .n))) (rOf Try.prog 0 Try.f101)
noncomputable def e_ref01_Small (k : Nat) (D : CallF) : Ent := entOf 101 [(0, .i .i64)] [(2, .s)] (ref01_Small k D)
theorem q_ref01_Small : (Try.f101.body).bind (rcodeOf Try.prog 0 Try.f101.ntmps) = some (strip r_ref01_Small) := by kernel_rfl
theorem t_ref01_Small (k : Nat) (D : CallF) : curF [(0, .i .i64)] (fun args h => denF (C_ref01_Small k D) k r_ref01_Small [(2, .s)] [none] args h) = ref01_Small k D := by kernel_rfl
theorem ok_ref01_Small {D : CallF} (hD : CSound Try.prog 0 D) (k : Nat) : EntOk Try.prog 0 (e_ref01_Small k D) :=
 entOf_ok2 (mkC_sound hD (EntsOk.none)) Try.func101 rfl q_ref01_Small rfl (t_ref01_Small k D)
end Gc
namespace Gc
open Go Gx Go.Proofs Go.RowKit
set_option maxHeartbeats 1000000 in
set_option maxRecDepth 100000 in
theorem cc_used (b o : Nat) (w : World) (h0 : w.cell? ⟨b, o, none⟩ = some (.pointer (some ⟨b, o, none⟩))) :
  Calls Try.prog 118 #[.pointer (some ⟨b, o, none⟩)] w fun e w' => e = .returned (.tuple #[]) ∧ w' = w := by
 obtain ⟨j, hj⟩ : ∃ j, Try.prog.info? 111 = some j := ⟨_, rfl⟩
 go_enter Try.func118, Try.ntmps118
 go_wp2
 rw [Lib.run_neq_ptr_same w _ Try.underlying109 hj]
 go_wp2
 go_end0
 exact ⟨rfl, rfl⟩
set_option maxHeartbeats 1000000 in
set_option maxRecDepth 100000 in
theorem cc_fresh (b o : Nat) (w : World) (T : TypeId) (z : Nat) (h0 : w.cell? ⟨b, o, none⟩ = some (.pointer none)) (hsh : w.shape? b = some (T, z)) (ho : o < z)
  (hl : liesAt Try.prog Try.prog.depth T (z / Try.prog.cellsOf T) o 111 1 = true) (hfz : w.frozen? ⟨b, o, none⟩ = false) :
  Calls Try.prog 118 #[.pointer (some ⟨b, o, none⟩)] w fun e w' => e = .returned (.tuple #[]) ∧ w' = w.setCell ⟨b, o, none⟩ (.pointer (some ⟨b, o, none⟩)) := by
 obtain ⟨j, hj, hjs⟩ : ∃ j, Try.prog.info? 111 = some j ∧ j.size ≠ 0 := ⟨_, rfl, by decide⟩
 go_enter Try.func118, Try.ntmps118
 go_wp2
 rw [Lib.run_to_unsafe w ⟨b, o, none⟩ Try.underlying109 Try.underlying166 hj hjs hsh ho]
 simp only [Result.andThen]
 rw [Oper.upon_value]
 go_wp2
 rw [run_callFunc_extern Try.func135 (by kernel_rfl) (by kernel_rfl) (by kernel_rfl) (e := Extern.AbiNoEscape.same) (by kernel_rfl)]
 rw [Lib.run_noEscape]
 simp only [Result.andThen]
 rw [Oper.upon_value]
 go_wp2
 rw [Lib.run_from_unsafe w ⟨b, o, none⟩ Try.underlying166 Try.underlying109 hj hsh hl]
 simp only [Result.andThen]
 rw [Oper.upon_value]
 go_wp2
 go_end0
 exact ⟨rfl, rfl⟩
def ccTab : List (Nat × Nat × Nat) := [(111, 0, 2)]
theorem ccTab0 : Try.prog.cellsOf 111 = 2 ∧ 0 < 2 ∧ ∀ N, liesAt Try.prog Try.prog.depth 111 (N + 1) 0 111 1 = true := ⟨by kernel_rfl, by decide, fun N => by kernel_rfl⟩
theorem ccTab_ok : ∀ x ∈ ccTab, Try.prog.cellsOf x.1 = x.2.2 ∧ 0 < x.2.2 ∧ ∀ N, liesAt Try.prog Try.prog.depth x.1 (N + 1) x.2.1 111 1 = true := (List.forall_mem_cons.2 ⟨ccTab0, (fun x h => by cases h)⟩)
end Gc
namespace Gc
open Go Gx Go.Proofs
noncomputable def e_strings_Builder_copyCheck (_k : Nat) (_D : CallF) : Ent := eCC 118 ccTab
theorem ok_strings_Builder_copyCheck {D : CallF} (_hD : CSound Try.prog 0 D) (k : Nat) : EntOk Try.prog 0 (e_strings_Builder_copyCheck k D) :=
 cc_ok (c0 := _) Try.func118 rfl rfl cc_used cc_fresh ccTab_ok
end Gc
namespace Gc
open Go Gx Go.Proofs
set_option maxRecDepth 100000
noncomputable def C_strings_Builder_WriteString (k : Nat) (D : CallF) : CallF := mkC D [e_strings_Builder_copyCheck k D]
noncomputable def strings_Builder_WriteString (_k : Nat) (_D : CallF) (b_0 : Option Addr) (s_1 : ByteArray) (h : AHeap) : Option ((Int × Value) × AHeap) :=
 (b_0).bind fun p2 =>
 (ccA ccTab p2 h).bind fun h1 =>
 (b_0).bind fun p3 =>
 (ldL (⟨p3.block, p3.off + 1, none⟩ : Addr) h1).bind fun x4 =>
 (appendA 1 1 5 h1 x4 (bytesL s_1) s_1.size).bind fun r5 =>
 (b_0).bind fun p6 =>
 (st1 (⟨p6.block, p6.off + 1, none⟩ : Addr) (.slice r5.1.a r5.1.len r5.1.cap) r5.2).bind fun h7 =>
 some (((s_1.size : Int), (.nilIface)), h7)
noncomputable def r_strings_Builder_WriteString : RCode := an (.n) (rOf Try.prog 0 Try.f73)
noncomputable def e_strings_Builder_WriteString (k : Nat) (D : CallF) : Ent := entOf 73 [(0, .p), (1, .s)] [(4, .i .i64), (5, .v)] (strings_Builder_WriteString k D)
theorem q_strings_Builder_WriteString : (Try.f73.body).bind (rcodeOf Try.prog 0 Try.f73.ntmps) = some (strip r_strings_Builder_WriteString) := by kernel_rfl
theorem t_strings_Builder_WriteString (k : Nat) (D : CallF) : curF [(0, .p), (1, .s)] (fun args h => denF (C_strings_Builder_WriteString k D) k r_strings_Builder_WriteString [(4, .i .i64), (5, .v)] [none, none] args h) = strings_Builder_WriteString k D := by kernel_rfl
theorem ok_strings_Builder_WriteString {D : CallF} (hD : CSound Try.prog 0 D) (k : Nat) : EntOk Try.prog 0 (e_strings_Builder_WriteString k D) :=
 entOf_ok2 (mkC_sound hD (EntsOk.more (ok_strings_Builder_copyCheck hD k) (EntsOk.none))) Try.func73 rfl q_strings_Builder_WriteString rfl (t_strings_Builder_WriteString k D)
end Gc
namespace Gc
open Go Gx Go.Proofs
set_option maxRecDepth 100000
noncomputable def C_strings_Builder_Len (_k : Nat) (D : CallF) : CallF := mkC D []
noncomputable def strings_Builder_Len (_k : Nat) (_D : CallF) (b_0 : Option Addr) (h : AHeap) : Option ((Int) × AHeap) :=
 (b_0).bind fun p1 =>
 (ldL (⟨p1.block, p1.off + 1, none⟩ : Addr) h).bind fun x2 =>
 some ((x2.len : Int), h)
noncomputable def r_strings_Builder_Len : RCode := an (.n) (rOf Try.prog 0 Try.f74)
noncomputable def e_strings_Builder_Len (k : Nat) (D : CallF) : Ent := entOf 74 [(0, .p)] [(2, .i .i64)] (strings_Builder_Len k D)
theorem q_strings_Builder_Len : (Try.f74.body).bind (rcodeOf Try.prog 0 Try.f74.ntmps) = some (strip r_strings_Builder_Len) := by kernel_rfl
theorem t_strings_Builder_Len (k : Nat) (D : CallF) : curF [(0, .p)] (fun args h => denF (C_strings_Builder_Len k D) k r_strings_Builder_Len [(2, .i .i64)] [none] args h) = strings_Builder_Len k D := by kernel_rfl
theorem ok_strings_Builder_Len {D : CallF} (hD : CSound Try.prog 0 D) (k : Nat) : EntOk Try.prog 0 (e_strings_Builder_Len k D) :=
 entOf_ok2 (mkC_sound hD (EntsOk.none)) Try.func74 rfl q_strings_Builder_Len rfl (t_strings_Builder_Len k D)
end Gc
namespace Gc
open Go Gx Go.Proofs
set_option maxRecDepth 100000
noncomputable def C_strings_Builder_String (_k : Nat) (D : CallF) : CallF := mkC D []
noncomputable def strings_Builder_String (_k : Nat) (_D : CallF) (b_0 : Option Addr) (h : AHeap) : Option ((ByteArray) × AHeap) :=
 (b_0).bind fun p1 =>
 (ldL (⟨p1.block, p1.off + 1, none⟩ : Addr) h).bind fun x2 =>
 (sliceP x2).bind fun p3 =>
 (b_0).bind fun p4 =>
 (ldL (⟨p4.block, p4.off + 1, none⟩ : Addr) h).bind fun x5 =>
 (unsA 5 p3 (x5.len : Int) h).bind fun r6 =>
 some (r6.1, r6.2)
noncomputable def r_strings_Builder_String : RCode := an (.n) (rOf Try.prog 0 Try.f75)
noncomputable def e_strings_Builder_String (k : Nat) (D : CallF) : Ent := entOf 75 [(0, .p)] [(2, .s)] (strings_Builder_String k D)
theorem q_strings_Builder_String : (Try.f75.body).bind (rcodeOf Try.prog 0 Try.f75.ntmps) = some (strip r_strings_Builder_String) := by kernel_rfl
theorem t_strings_Builder_String (k : Nat) (D : CallF) : curF [(0, .p)] (fun args h => denF (C_strings_Builder_String k D) k r_strings_Builder_String [(2, .s)] [none] args h) = strings_Builder_String k D := by kernel_rfl
theorem ok_strings_Builder_String {D : CallF} (hD : CSound Try.prog 0 D) (k : Nat) : EntOk Try.prog 0 (e_strings_Builder_String k D) :=
 entOf_ok2 (mkC_sound hD (EntsOk.none)) Try.func75 rfl q_strings_Builder_String rfl (t_strings_Builder_String k D)
end Gc
namespace Gc
open Go Gx Go.Proofs
set_option maxRecDepth 100000
noncomputable def C_index_rises_string (_k : Nat) (D : CallF) : CallF := mkC D []
noncomputable def index_rises_string_l0b (k : Nat) (D : CallF) (j2 : AHeap → Option ((Bool) × AHeap)) (rec7 : Slc → Value → Int → AHeap → Option ((Bool) × AHeap)) (l3 : Slc) (less4 : Value) (i5 : Int) (h6 : AHeap) : Option ((Bool) × AHeap) :=
 (if (decide (i5 < (l3.len : Int))) = true then
 (Gx.idxL 1 l3 (IntKind.wrap .i64 (i5 - 1))).bind fun q8 =>
 (ldS q8 h6).bind fun x9 =>
 (Gx.idxL 1 l3 i5).bind fun q10 =>
 (ldS q10 h6).bind fun x11 =>
 callD (C_index_rises_string k D) less4 [.string x9, .string x11] h6 fun v12 h13 =>
 (decB v12).bind fun x14 =>
 (if (!x14) = true then
 some (false, h13)
 else
 rec7 l3 less4 (IntKind.wrap .i64 (i5 + 1)) h13)
 else
 j2 h6)
noncomputable def index_rises_string_l0 (k : Nat) (D : CallF) (j2 : AHeap → Option ((Bool) × AHeap)) : Slc → Value → Int → AHeap → Option ((Bool) × AHeap) :=
 iterK (α := Slc → Value → Int → AHeap → Option ((Bool) × AHeap)) (fun _ _ _ _ => none) k (index_rises_string_l0b k D j2)
noncomputable def index_rises_string (k : Nat) (D : CallF) (l_0 : Slc) (less_1 : Value) (h : AHeap) : Option ((Bool) × AHeap) :=
 joinK (fun (h1 : AHeap) =>
 some (true, h1)) fun j2 =>
 index_rises_string_l0 k D j2 l_0 less_1 1 h
noncomputable def r_index_rises_string : RCode := an (.s .n (.s (.j [] (.s .n (.b (.l [(0, .l), (1, .v), (5, .i .i64)] (.s .n (.s (.b (.s (.r [(10, .b)]) .n)) .n)))))) .n)) (rOf Try.prog 0 Try.f96)
noncomputable def e_index_rises_string (k : Nat) (D : CallF) : Ent := entOf 96 [(0, .l), (1, .v)] [(4, .b)] (index_rises_string k D)
theorem q_index_rises_string : (Try.f96.body).bind (rcodeOf Try.prog 0 Try.f96.ntmps) = some (strip r_index_rises_string) := by kernel_rfl
theorem t_index_rises_string (k : Nat) (D : CallF) : curF [(0, .l), (1, .v)] (fun args h => denF (C_index_rises_string k D) k r_index_rises_string [(4, .b)] [none] args h) = index_rises_string k D := by kernel_rfl
theorem ok_index_rises_string {D : CallF} (hD : CSound Try.prog 0 D) (k : Nat) : EntOk Try.prog 0 (e_index_rises_string k D) :=
 entOf_ok2 (mkC_sound hD (EntsOk.none)) Try.func96 rfl q_index_rises_string rfl (t_index_rises_string k D)
end Gc
namespace Gc
open Go Gx Go.Proofs
set_option maxRecDepth 100000
noncomputable def C_index_rises_api_Item (_k : Nat) (D : CallF) : CallF := mkC D []
noncomputable def index_rises_api_Item_l0b (k : Nat) (D : CallF) (j2 : AHeap → Option ((Bool) × AHeap)) (rec7 : Slc → Value → Int → AHeap → Option ((Bool) × AHeap)) (l3 : Slc) (less4 : Value) (i5 : Int) (h6 : AHeap) : Option ((Bool) × AHeap) :=
 (if (decide (i5 < (l3.len : Int))) = true then
 (Gx.idxL 6 l3 (IntKind.wrap .i64 (i5 - 1))).bind fun q8 =>
 (ldA 6 q8 h6).bind fun l9 =>
 (decC [.s, .s, .i .i64, .i .i64, .i .i64, .i .i64] l9).bind fun x10 =>
 (Gx.idxL 6 l3 i5).bind fun q11 =>
 (ldA 6 q11 h6).bind fun l12 =>
 (decC [.s, .s, .i .i64, .i .i64, .i .i64, .i .i64] l12).bind fun x13 =>
 callD (C_index_rises_api_Item k D) less4 [.agg ⟨[.string x10.1, .string x10.2.1, .int .i64 x10.2.2.1, .int .i64 x10.2.2.2.1, .int .i64 x10.2.2.2.2.1, .int .i64 x10.2.2.2.2.2]⟩, .agg ⟨[.string x13.1, .string x13.2.1, .int .i64 x13.2.2.1, .int .i64 x13.2.2.2.1, .int .i64 x13.2.2.2.2.1, .int .i64 x13.2.2.2.2.2]⟩] h6 fun v14 h15 =>
 (decB v14).bind fun x16 =>
 (if (!x16) = true then
 some (false, h15)
 else
 rec7 l3 less4 (IntKind.wrap .i64 (i5 + 1)) h15)
 else
 j2 h6)
noncomputable def index_rises_api_Item_l0 (k : Nat) (D : CallF) (j2 : AHeap → Option ((Bool) × AHeap)) : Slc → Value → Int → AHeap → Option ((Bool) × AHeap) :=
 iterK (α := Slc → Value → Int → AHeap → Option ((Bool) × AHeap)) (fun _ _ _ _ => none) k (index_rises_api_Item_l0b k D j2)
noncomputable def index_rises_api_Item (k : Nat) (D : CallF) (l_0 : Slc) (less_1 : Value) (h : AHeap) : Option ((Bool) × AHeap) :=
 joinK (fun (h1 : AHeap) =>
 some (true, h1)) fun j2 =>
 index_rises_api_Item_l0 k D j2 l_0 less_1 1 h
noncomputable def r_index_rises_api_Item : RCode := an (.s .n (.s (.j [] (.s .n (.b (.l [(0, .l), (1, .v), (5, .i .i64)] (.s .n (.s (.b (.s (.r [(5, .st [.s, .s, .i .i64, .i .i64, .i .i64, .i .i64]), (9, .st [.s, .s, .i .i64, .i .i64, .i .i64, .i .i64]), (10, .b)]) .n)) .n)))))) .n)) (rOf Try.prog 0 Try.f98)
noncomputable def e_index_rises_api_Item (k : Nat) (D : CallF) : Ent := entOf 98 [(0, .l), (1, .v)] [(4, .b)] (index_rises_api_Item k D)
theorem q_index_rises_api_Item : (Try.f98.body).bind (rcodeOf Try.prog 0 Try.f98.ntmps) = some (strip r_index_rises_api_Item) := by kernel_rfl
theorem t_index_rises_api_Item (k : Nat) (D : CallF) : curF [(0, .l), (1, .v)] (fun args h => denF (C_index_rises_api_Item k D) k r_index_rises_api_Item [(4, .b)] [none] args h) = index_rises_api_Item k D := by kernel_rfl
theorem ok_index_rises_api_Item {D : CallF} (hD : CSound Try.prog 0 D) (k : Nat) : EntOk Try.prog 0 (e_index_rises_api_Item k D) :=
 entOf_ok2 (mkC_sound hD (EntsOk.none)) Try.func98 rfl q_index_rises_api_Item rfl (t_index_rises_api_Item k D)
end Gc
namespace Gc
open Go Gx Go.Proofs
set_option maxRecDepth 100000
noncomputable def C_index_check (k : Nat) (D : CallF) : CallF := mkC D [e_index_rises_string k D, e_index_rises_api_Item k D, e_lookup_Check k D, e_sha_IsId k D]
noncomputable def index_check_l1b (k : Nat) (D : CallF) (j4 : (Option Addr) → AHeap → Option ((Int) × AHeap)) (rec39 : (Option Addr) → Slc → Int → Int → AHeap → Option ((Int) × AHeap)) (f34 : Option Addr) (y35 : Slc) (y36 : Int) (y37 : Int) (h38 : AHeap) : Option ((Int) × AHeap) :=
 (if (decide (y37 < y36)) = true then
 (Gx.idxL 1 y35 y37).bind fun q40 =>
 (ldS q40 h38).bind fun x41 =>
 (sha_IsId k D x41 h38).bind fun r42 =>
 (if (!r42.1) = true then
 some (1, r42.2)
 else
 rec39 f34 y35 y36 (IntKind.wrap .i64 (y37 + 1)) r42.2)
 else
 j4 f34 h38)
noncomputable def index_check_l1 (k : Nat) (D : CallF) (j4 : (Option Addr) → AHeap → Option ((Int) × AHeap)) : (Option Addr) → Slc → Int → Int → AHeap → Option ((Int) × AHeap) :=
 iterK (α := (Option Addr) → Slc → Int → Int → AHeap → Option ((Int) × AHeap)) (fun _ _ _ _ _ => none) k (index_check_l1b k D j4)
noncomputable def index_check_l0b (k : Nat) (D : CallF) (j7 : (Option Addr) → AHeap → Option ((Int) × AHeap)) (rec24 : (Option Addr) → Slc → Int → Int → AHeap → Option ((Int) × AHeap)) (f19 : Option Addr) (y20 : Slc) (y21 : Int) (y22 : Int) (h23 : AHeap) : Option ((Int) × AHeap) :=
 (if (decide (y22 < y21)) = true then
 (Gx.idxL 6 y20 y22).bind fun q25 =>
 (ldA 6 q25 h23).bind fun l26 =>
 (decC [.s, .s, .i .i64, .i .i64, .i .i64, .i .i64] l26).bind fun x27 =>
 newK h23 ((.cells [.string ⟨#[]⟩, .string ⟨#[]⟩, .int .i64 0, .int .i64 0, .int .i64 0, .int .i64 0] 57 true 0)) fun h28 =>
 (stL 6 (⟨h23.next, 0, none⟩ : Addr) ([.string x27.1, .string x27.2.1, .int .i64 x27.2.2.1, .int .i64 x27.2.2.2.1, .int .i64 x27.2.2.2.2.1, .int .i64 x27.2.2.2.2.2]) h28).bind fun h29 =>
 (ldA 6 (⟨h23.next, 0, none⟩ : Addr) h29).bind fun l30 =>
 (decC [.s, .s, .i .i64, .i .i64, .i .i64, .i .i64] l30).bind fun x31 =>
 (lookup_Check k D (x31.1, x31.2.1, x31.2.2.1, x31.2.2.2.1, x31.2.2.2.2.1, x31.2.2.2.2.2) h29).bind fun r32 =>
 (if (r32.1 != 0) = true then
 some (r32.1, r32.2)
 else
 rec24 f19 y20 y21 (IntKind.wrap .i64 (y22 + 1)) r32.2)
 else
 j7 f19 h23)
noncomputable def index_check_l0 (k : Nat) (D : CallF) (j7 : (Option Addr) → AHeap → Option ((Int) × AHeap)) : (Option Addr) → Slc → Int → Int → AHeap → Option ((Int) × AHeap) :=
 iterK (α := (Option Addr) → Slc → Int → Int → AHeap → Option ((Int) × AHeap)) (fun _ _ _ _ _ => none) k (index_check_l0b k D j7)
noncomputable def index_check (k : Nat) (D : CallF) (f_0 : Slc × Slc) (h : AHeap) : Option ((Int) × AHeap) :=
 newK h ((.cells [.slice f_0.1.a f_0.1.len f_0.1.cap, .slice f_0.2.a f_0.2.len f_0.2.cap] 25 true 0)) fun h1 =>
 joinK (fun (f2 : Option Addr) (h3 : AHeap) =>
 joinK (fun (f5 : Option Addr) (h6 : AHeap) =>
 joinK (fun (y8 : Bool) (h9 : AHeap) =>
 (if y8 = true then
 some (4, h9)
 else
 some (0, h9))) fun j10 =>
 (f5).bind fun p11 =>
 (ldL (⟨p11.block, p11.off + 0, none⟩ : Addr) h6).bind fun x12 =>
 (index_rises_string k D x12 (.func (.func 97) ⟨[]⟩ ⟨[]⟩) h6).bind fun r13 =>
 (if (!r13.1) = true then
 j10 true r13.2
 else
 (f5).bind fun p14 =>
 (ldL (⟨p14.block, p14.off + 1, none⟩ : Addr) r13.2).bind fun x15 =>
 (index_rises_api_Item k D x15 (.func (.func 30) ⟨[]⟩ ⟨[]⟩) r13.2).bind fun r16 =>
 j10 (!r16.1) r16.2)) fun j7 =>
 (f2).bind fun p17 =>
 (ldL (⟨p17.block, p17.off + 1, none⟩ : Addr) h3).bind fun x18 =>
 index_check_l0 k D j7 f2 x18 (x18.len : Int) 0 h3) fun j4 =>
 (ldL (⟨h.next, 0, none⟩ : Addr) h1).bind fun x33 =>
 index_check_l1 k D j4 (some (⟨h.next, 0, none⟩ : Addr)) x33 (x33.len : Int) 0 h1
noncomputable def r_index_check : RCode := an (.s .n (.s (.j [(1, .p)] (.s .n (.b (.l [(1, .p), (9, .l), (10, .i .i64), (11, .i .i64)] .n)))) (.s (.j [(1, .p)] (.s .n (.b (.l [(1, .p), (20, .l), (21, .i .i64), (22, .i .i64)] (.s .n (.s .n (.s (.b (.s (.r [(1, .st [.s, .s, .i .i64, .i .i64, .i .i64, .i .i64])]) (.s (.r [(0, .st [.s, .s, .i .i64, .i .i64, .i .i64, .i .i64])]) .n))) .n))))))) (.s (.s (.j [(41, .b)] .n) .n) .n)))) (rOf Try.prog 0 Try.f47)
noncomputable def e_index_check (k : Nat) (D : CallF) : Ent := entOf 47 [(0, .st [.l, .l])] [(2, .i .i64)] (index_check k D)
theorem q_index_check : (Try.f47.body).bind (rcodeOf Try.prog 0 Try.f47.ntmps) = some (strip r_index_check) := by kernel_rfl
theorem t_index_check (k : Nat) (D : CallF) : curF [(0, .st [.l, .l])] (fun args h => denF (C_index_check k D) k r_index_check [(2, .i .i64)] [none] args h) = index_check k D := by kernel_rfl
theorem ok_index_check {D : CallF} (hD : CSound Try.prog 0 D) (k : Nat) : EntOk Try.prog 0 (e_index_check k D) :=
 entOf_ok2 (mkC_sound hD (EntsOk.more (ok_index_rises_string hD k) (EntsOk.more (ok_index_rises_api_Item hD k) (EntsOk.more (ok_lookup_Check hD k) (EntsOk.more (ok_sha_IsId hD k) (EntsOk.none)))))) Try.func47 rfl q_index_check rfl (t_index_check k D)
end Gc
namespace Gc
open Go Gx Go.Proofs
set_option maxRecDepth 100000
noncomputable def C_ref16_refused (k : Nat) (D : CallF) : CallF := mkC D [e_ref15_Less k D, e_ref15_Check k D]
noncomputable def ref16_refused_l3b (_k : Nat) (_D : CallF) (j4 : (Option Addr) → AHeap → Option ((Int) × AHeap)) (rec59 : (Option Addr) → Int → AHeap → Option ((Int) × AHeap)) (f56 : Option Addr) (i57 : Int) (h58 : AHeap) : Option ((Int) × AHeap) :=
 (f56).bind fun p60 =>
 (ldL (⟨p60.block, p60.off + 0, none⟩ : Addr) h58).bind fun x61 =>
 (if (decide (i57 < (x61.len : Int))) = true then
 (f56).bind fun p62 =>
 (ldL (⟨p62.block, p62.off + 0, none⟩ : Addr) h58).bind fun x63 =>
 (Gx.idxL 1 x63 i57).bind fun q64 =>
 (ldS q64 h58).bind fun x65 =>
 (if ((x65.size : Int) != 32) = true then
 some (1, h58)
 else
 rec59 f56 (IntKind.wrap .i64 (i57 + 1)) h58)
 else
 j4 f56 h58)
noncomputable def ref16_refused_l3 (k : Nat) (D : CallF) (j4 : (Option Addr) → AHeap → Option ((Int) × AHeap)) : (Option Addr) → Int → AHeap → Option ((Int) × AHeap) :=
 iterK (α := (Option Addr) → Int → AHeap → Option ((Int) × AHeap)) (fun _ _ _ => none) k (ref16_refused_l3b k D j4)
noncomputable def ref16_refused_l2b (k : Nat) (D : CallF) (j7 : (Option Addr) → AHeap → Option ((Int) × AHeap)) (rec47 : (Option Addr) → Int → AHeap → Option ((Int) × AHeap)) (f44 : Option Addr) (i45 : Int) (h46 : AHeap) : Option ((Int) × AHeap) :=
 (f44).bind fun p48 =>
 (ldL (⟨p48.block, p48.off + 1, none⟩ : Addr) h46).bind fun x49 =>
 (if (decide (i45 < (x49.len : Int))) = true then
 (f44).bind fun p50 =>
 (ldL (⟨p50.block, p50.off + 1, none⟩ : Addr) h46).bind fun x51 =>
 (Gx.idxL 6 x51 i45).bind fun q52 =>
 (ldA 6 q52 h46).bind fun l53 =>
 (decC [.s, .s, .i .i64, .i .i64, .i .i64, .i .i64] l53).bind fun x54 =>
 (ref15_Check k D (x54.1, x54.2.1, x54.2.2.1, x54.2.2.2.1, x54.2.2.2.2.1, x54.2.2.2.2.2) h46).bind fun r55 =>
 (if (r55.1 != 0) = true then
 some (1, r55.2)
 else
 rec47 f44 (IntKind.wrap .i64 (i45 + 1)) r55.2)
 else
 j7 f44 h46)
noncomputable def ref16_refused_l2 (k : Nat) (D : CallF) (j7 : (Option Addr) → AHeap → Option ((Int) × AHeap)) : (Option Addr) → Int → AHeap → Option ((Int) × AHeap) :=
 iterK (α := (Option Addr) → Int → AHeap → Option ((Int) × AHeap)) (fun _ _ _ => none) k (ref16_refused_l2b k D j7)
noncomputable def ref16_refused_l1b (_k : Nat) (_D : CallF) (j10 : (Option Addr) → AHeap → Option ((Int) × AHeap)) (rec33 : (Option Addr) → Int → AHeap → Option ((Int) × AHeap)) (f30 : Option Addr) (i31 : Int) (h32 : AHeap) : Option ((Int) × AHeap) :=
 (f30).bind fun p34 =>
 (ldL (⟨p34.block, p34.off + 0, none⟩ : Addr) h32).bind fun x35 =>
 (if (decide (i31 < (x35.len : Int))) = true then
 (f30).bind fun p36 =>
 (ldL (⟨p36.block, p36.off + 0, none⟩ : Addr) h32).bind fun x37 =>
 (Gx.idxL 1 x37 (IntKind.wrap .i64 (i31 - 1))).bind fun q38 =>
 (ldS q38 h32).bind fun x39 =>
 (f30).bind fun p40 =>
 (ldL (⟨p40.block, p40.off + 0, none⟩ : Addr) h32).bind fun x41 =>
 (Gx.idxL 1 x41 i31).bind fun q42 =>
 (ldS q42 h32).bind fun x43 =>
 (if (!(Op.bytesLess x39.toList x43.toList)) = true then
 some (4, h32)
 else
 rec33 f30 (IntKind.wrap .i64 (i31 + 1)) h32)
 else
 j10 f30 h32)
noncomputable def ref16_refused_l1 (k : Nat) (D : CallF) (j10 : (Option Addr) → AHeap → Option ((Int) × AHeap)) : (Option Addr) → Int → AHeap → Option ((Int) × AHeap) :=
 iterK (α := (Option Addr) → Int → AHeap → Option ((Int) × AHeap)) (fun _ _ _ => none) k (ref16_refused_l1b k D j10)
noncomputable def ref16_refused_l0b (k : Nat) (D : CallF) (j12 : AHeap → Option ((Int) × AHeap)) (rec16 : (Option Addr) → Int → AHeap → Option ((Int) × AHeap)) (f13 : Option Addr) (i14 : Int) (h15 : AHeap) : Option ((Int) × AHeap) :=
 (f13).bind fun p17 =>
 (ldL (⟨p17.block, p17.off + 1, none⟩ : Addr) h15).bind fun x18 =>
 (if (decide (i14 < (x18.len : Int))) = true then
 (f13).bind fun p19 =>
 (ldL (⟨p19.block, p19.off + 1, none⟩ : Addr) h15).bind fun x20 =>
 (Gx.idxL 6 x20 (IntKind.wrap .i64 (i14 - 1))).bind fun q21 =>
 (ldA 6 q21 h15).bind fun l22 =>
 (decC [.s, .s, .i .i64, .i .i64, .i .i64, .i .i64] l22).bind fun x23 =>
 (f13).bind fun p24 =>
 (ldL (⟨p24.block, p24.off + 1, none⟩ : Addr) h15).bind fun x25 =>
 (Gx.idxL 6 x25 i14).bind fun q26 =>
 (ldA 6 q26 h15).bind fun l27 =>
 (decC [.s, .s, .i .i64, .i .i64, .i .i64, .i .i64] l27).bind fun x28 =>
 (ref15_Less k D (x23.1, x23.2.1, x23.2.2.1, x23.2.2.2.1, x23.2.2.2.2.1, x23.2.2.2.2.2) (x28.1, x28.2.1, x28.2.2.1, x28.2.2.2.1, x28.2.2.2.2.1, x28.2.2.2.2.2) h15).bind fun r29 =>
 (if (!r29.1) = true then
 some (4, r29.2)
 else
 rec16 f13 (IntKind.wrap .i64 (i14 + 1)) r29.2)
 else
 j12 h15)
noncomputable def ref16_refused_l0 (k : Nat) (D : CallF) (j12 : AHeap → Option ((Int) × AHeap)) : (Option Addr) → Int → AHeap → Option ((Int) × AHeap) :=
 iterK (α := (Option Addr) → Int → AHeap → Option ((Int) × AHeap)) (fun _ _ _ => none) k (ref16_refused_l0b k D j12)
noncomputable def ref16_refused (k : Nat) (D : CallF) (f_0 : Slc × Slc) (h : AHeap) : Option ((Int) × AHeap) :=
 newK h ((.cells [.slice f_0.1.a f_0.1.len f_0.1.cap, .slice f_0.2.a f_0.2.len f_0.2.cap] 28 true 0)) fun h1 =>
 joinK (fun (f2 : Option Addr) (h3 : AHeap) =>
 joinK (fun (f5 : Option Addr) (h6 : AHeap) =>
 joinK (fun (f8 : Option Addr) (h9 : AHeap) =>
 joinK (fun (h11 : AHeap) =>
 some (0, h11)) fun j12 =>
 ref16_refused_l0 k D j12 f8 1 h9) fun j10 =>
 ref16_refused_l1 k D j10 f5 1 h6) fun j7 =>
 ref16_refused_l2 k D j7 f2 0 h3) fun j4 =>
 ref16_refused_l3 k D j4 (some (⟨h.next, 0, none⟩ : Addr)) 0 h1
noncomputable def r_ref16_refused : RCode := an (.s .n (.s (.j [(1, .p)] (.s .n (.b (.l [(1, .p), (3, .i .i64)] .n)))) (.s (.j [(1, .p)] (.s .n (.b (.l [(1, .p), (4, .i .i64)] (.s .n (.s (.b (.s (.r [(4, .st [.s, .s, .i .i64, .i .i64, .i .i64, .i .i64])]) .n)) .n)))))) (.s (.j [(1, .p)] (.s .n (.b (.l [(1, .p), (5, .i .i64)] .n)))) (.s (.j [] (.s .n (.b (.l [(1, .p), (6, .i .i64)] (.s .n (.s (.b (.s (.r [(5, .st [.s, .s, .i .i64, .i .i64, .i .i64, .i .i64]), (10, .st [.s, .s, .i .i64, .i .i64, .i .i64, .i .i64])]) .n)) .n)))))) .n))))) (rOf Try.prog 0 Try.f49)
noncomputable def e_ref16_refused (k : Nat) (D : CallF) : Ent := entOf 49 [(0, .st [.l, .l])] [(2, .i .i64)] (ref16_refused k D)
theorem q_ref16_refused : (Try.f49.body).bind (rcodeOf Try.prog 0 Try.f49.ntmps) = some (strip r_ref16_refused) := by kernel_rfl
theorem t_ref16_refused (k : Nat) (D : CallF) : curF [(0, .st [.l, .l])] (fun args h => denF (C_ref16_refused k D) k r_ref16_refused [(2, .i .i64)] [none] args h) = ref16_refused k D := by kernel_rfl
theorem ok_ref16_refused {D : CallF} (hD : CSound Try.prog 0 D) (k : Nat) : EntOk Try.prog 0 (e_ref16_refused k D) :=
 entOf_ok2 (mkC_sound hD (EntsOk.more (ok_ref15_Less hD k) (EntsOk.more (ok_ref15_Check hD k) (EntsOk.none)))) Try.func49 rfl q_ref16_refused rfl (t_ref16_refused k D)
end Gc
namespace Gc
open Go Gx Go.Proofs
set_option maxRecDepth 100000
noncomputable def C_index_line (k : Nat) (D : CallF) : CallF := mkC D [e_index_short k D]
noncomputable def index_line (k : Nat) (D : CallF) (x_0 : ByteArray × ByteArray × Int × Int × Int × Int) (h : AHeap) : Option ((ByteArray) × AHeap) :=
 newK h ((.cells [.string x_0.1, .string x_0.2.1, .int .i64 x_0.2.2.1, .int .i64 x_0.2.2.2.1, .int .i64 x_0.2.2.2.2.1, .int .i64 x_0.2.2.2.2.2] 57 true 0)) fun h1 =>
 let h2 := AHeap.resv h1 1
 (ldI .i64 (⟨h.next, 3, none⟩ : Addr) h2).bind fun x3 =>
 (index_short k D x3 h2).bind fun r4 =>
 (ldI .i64 (⟨h.next, 4, none⟩ : Addr) r4.2).bind fun x5 =>
 guardP (SameW [h2] (fun H7 => (ldI .i64 (⟨h.next, 4, none⟩ : Addr) H7).bind fun y6 => some (.int .i64 y6)) (.int .i64 x5)) (
 (index_short k D x5 r4.2).bind fun r8 =>
 (ldI .i64 (⟨h.next, 5, none⟩ : Addr) r8.2).bind fun x9 =>
 guardP (SameW [r4.2, h2] (fun H11 => (ldI .i64 (⟨h.next, 5, none⟩ : Addr) H11).bind fun y10 => some (.int .i64 y10)) (.int .i64 x9)) (
 (index_short k D x9 r8.2).bind fun r12 =>
 (ldS (⟨h.next, 0, none⟩ : Addr) r12.2).bind fun x13 =>
 guardP (SameW [r8.2, r4.2, h2] (fun H15 => (ldS (⟨h.next, 0, none⟩ : Addr) H15).bind fun y14 => some (.string y14)) (.string x13)) (
 (ldS (⟨h.next, 1, none⟩ : Addr) r12.2).bind fun x16 =>
 guardP (SameW [r8.2, r4.2, h2] (fun H18 => (ldS (⟨h.next, 1, none⟩ : Addr) H18).bind fun y17 => some (.string y17)) (.string x16)) (
 (if x13.size + x16.size ≤ 9223372036854775807 then
 (ldI .i64 (⟨h.next, 2, none⟩ : Addr) r12.2).bind fun x19 =>
 guardP (SameW [r8.2, r4.2, h2] (fun H21 => (ldI .i64 (⟨h.next, 2, none⟩ : Addr) H21).bind fun y20 => some (.int .i64 y20)) (.int .i64 x19)) (
 let h22 := AHeap.set r12.2 (h1.next + 0) (.cells [.int .u8 (IntKind.wrap .u8 x19)] 5 true 0)
 (bytesOf h22 (⟨(some ⟨(h1.next + 0), 0, some 0⟩), 1, 1⟩ : Slc)).bind fun s23 =>
 guardP (OwnW (h1.next + 0) h22 (fun H25 => (bytesOf H25 (⟨(some ⟨(h1.next + 0), 0, some 0⟩), 1, 1⟩ : Slc)).bind fun y24 => some (.string y24)) (.string s23)) (
 (if (x13 ++ x16).size + s23.size ≤ 9223372036854775807 then
 (if ((x13 ++ x16) ++ s23).size + r4.1.size ≤ 9223372036854775807 then
 (if (((x13 ++ x16) ++ s23) ++ r4.1).size + r8.1.size ≤ 9223372036854775807 then
 (if ((((x13 ++ x16) ++ s23) ++ r4.1) ++ r8.1).size + r12.1.size ≤ 9223372036854775807 then
 some ((((((x13 ++ x16) ++ s23) ++ r4.1) ++ r8.1) ++ r12.1), h22)
 else none)
 else none)
 else none)
 else none)))
 else none)))))
noncomputable def r_index_line : RCode := an (.n) (rOf Try.prog 0 Try.f100)
noncomputable def e_index_line (k : Nat) (D : CallF) : Ent := entOf 100 [(0, .st [.s, .s, .i .i64, .i .i64, .i .i64, .i .i64])] [(2, .s)] (index_line k D)
theorem q_index_line : (Try.f100.body).bind (rcodeOf Try.prog 0 Try.f100.ntmps) = some (strip r_index_line) := by kernel_rfl
theorem t_index_line (k : Nat) (D : CallF) : curF [(0, .st [.s, .s, .i .i64, .i .i64, .i .i64, .i .i64])] (fun args h => denF (C_index_line k D) k r_index_line [(2, .s)] [none] args h) = index_line k D := by kernel_rfl
theorem ok_index_line {D : CallF} (hD : CSound Try.prog 0 D) (k : Nat) : EntOk Try.prog 0 (e_index_line k D) :=
 entOf_ok2 (mkC_sound hD (EntsOk.more (ok_index_short hD k) (EntsOk.none))) Try.func100 rfl q_index_line rfl (t_index_line k D)
end Gc
namespace Gc
open Go Gx Go.Proofs
set_option maxRecDepth 100000
noncomputable def C_ref16_line (k : Nat) (D : CallF) : CallF := mkC D [e_ref01_Small k D]
noncomputable def ref16_line (k : Nat) (D : CallF) (x_0 : ByteArray × ByteArray × Int × Int × Int × Int) (h : AHeap) : Option ((ByteArray) × AHeap) :=
 newK h ((.cells [.string x_0.1, .string x_0.2.1, .int .i64 x_0.2.2.1, .int .i64 x_0.2.2.2.1, .int .i64 x_0.2.2.2.2.1, .int .i64 x_0.2.2.2.2.2] 57 true 0)) fun h1 =>
 (ldA 5 (⟨h.next, 1, none⟩ : Addr) h1).bind fun l2 =>
 (decC [.s, .i .i64, .i .i64, .i .i64, .i .i64] l2).bind fun x3 =>
 newK h1 ((.cells [.string ⟨#[]⟩, .int .i64 0, .int .i64 0, .int .i64 0, .int .i64 0] 55 true 0)) fun h4 =>
 (stL 5 (⟨h1.next, 0, none⟩ : Addr) ([.string x3.1, .int .i64 x3.2.1, .int .i64 x3.2.2.1, .int .i64 x3.2.2.2.1, .int .i64 x3.2.2.2.2]) h4).bind fun h5 =>
 let h6 := AHeap.resv h5 1
 (ldI .i64 (⟨h1.next, 2, none⟩ : Addr) h6).bind fun x7 =>
 (ref01_Small k D x7 h6).bind fun r8 =>
 (ldI .i64 (⟨h1.next, 3, none⟩ : Addr) r8.2).bind fun x9 =>
 guardP (SameW [h6] (fun H11 => (ldI .i64 (⟨h1.next, 3, none⟩ : Addr) H11).bind fun y10 => some (.int .i64 y10)) (.int .i64 x9)) (
 (ref01_Small k D x9 r8.2).bind fun r12 =>
 (ldI .i64 (⟨h1.next, 4, none⟩ : Addr) r12.2).bind fun x13 =>
 guardP (SameW [r8.2, h6] (fun H15 => (ldI .i64 (⟨h1.next, 4, none⟩ : Addr) H15).bind fun y14 => some (.int .i64 y14)) (.int .i64 x13)) (
 (ref01_Small k D x13 r12.2).bind fun r16 =>
 (ldS (⟨h.next, 0, none⟩ : Addr) r16.2).bind fun x17 =>
 guardP (SameW [r12.2, r8.2, h6] (fun H19 => (ldS (⟨h.next, 0, none⟩ : Addr) H19).bind fun y18 => some (.string y18)) (.string x17)) (
 (ldS (⟨h1.next, 0, none⟩ : Addr) r16.2).bind fun x20 =>
 guardP (SameW [r12.2, r8.2, h6] (fun H22 => (ldS (⟨h1.next, 0, none⟩ : Addr) H22).bind fun y21 => some (.string y21)) (.string x20)) (
 (if x17.size + x20.size ≤ 9223372036854775807 then
 (ldI .i64 (⟨h1.next, 1, none⟩ : Addr) r16.2).bind fun x23 =>
 guardP (SameW [r12.2, r8.2, h6] (fun H25 => (ldI .i64 (⟨h1.next, 1, none⟩ : Addr) H25).bind fun y24 => some (.int .i64 y24)) (.int .i64 x23)) (
 let h26 := AHeap.set r16.2 (h5.next + 0) (.cells [.int .u8 (IntKind.wrap .u8 x23)] 5 true 0)
 (bytesOf h26 (⟨(some ⟨(h5.next + 0), 0, some 0⟩), 1, 1⟩ : Slc)).bind fun s27 =>
 guardP (OwnW (h5.next + 0) h26 (fun H29 => (bytesOf H29 (⟨(some ⟨(h5.next + 0), 0, some 0⟩), 1, 1⟩ : Slc)).bind fun y28 => some (.string y28)) (.string s27)) (
 (if (x17 ++ x20).size + s27.size ≤ 9223372036854775807 then
 (if ((x17 ++ x20) ++ s27).size + r8.1.size ≤ 9223372036854775807 then
 (if (((x17 ++ x20) ++ s27) ++ r8.1).size + r12.1.size ≤ 9223372036854775807 then
 (if ((((x17 ++ x20) ++ s27) ++ r8.1) ++ r12.1).size + r16.1.size ≤ 9223372036854775807 then
 some ((((((x17 ++ x20) ++ s27) ++ r8.1) ++ r12.1) ++ r16.1), h26)
 else none)
 else none)
 else none)
 else none)))
 else none)))))
noncomputable def r_ref16_line : RCode := an (.s .n (.s (.r [(1, .st [.s, .i .i64, .i .i64, .i .i64, .i .i64])]) .n)) (rOf Try.prog 0 Try.f102)
noncomputable def e_ref16_line (k : Nat) (D : CallF) : Ent := entOf 102 [(0, .st [.s, .s, .i .i64, .i .i64, .i .i64, .i .i64])] [(2, .s)] (ref16_line k D)
theorem q_ref16_line : (Try.f102.body).bind (rcodeOf Try.prog 0 Try.f102.ntmps) = some (strip r_ref16_line) := by kernel_rfl
theorem t_ref16_line (k : Nat) (D : CallF) : curF [(0, .st [.s, .s, .i .i64, .i .i64, .i .i64, .i .i64])] (fun args h => denF (C_ref16_line k D) k r_ref16_line [(2, .s)] [none] args h) = ref16_line k D := by kernel_rfl
theorem ok_ref16_line {D : CallF} (hD : CSound Try.prog 0 D) (k : Nat) : EntOk Try.prog 0 (e_ref16_line k D) :=
 entOf_ok2 (mkC_sound hD (EntsOk.more (ok_ref01_Small hD k) (EntsOk.none))) Try.func102 rfl q_ref16_line rfl (t_ref16_line k D)
end Gc
namespace Gc
open Go Gx Go.Proofs
set_option maxRecDepth 100000
noncomputable def C_index_text (k : Nat) (D : CallF) : CallF := mkC D [e_index_short k D, e_strings_Builder_WriteString k D, e_strings_Builder_String k D, e_strings_Builder_Len k D, e_index_line k D]
noncomputable def index_text_l1b (k : Nat) (D : CallF) (j12 : (Option Addr) → (Option Addr) → AHeap → Option ((ByteArray × Bool) × AHeap)) (rec46 : (Option Addr) → (Option Addr) → Slc → Int → Int → AHeap → Option ((ByteArray × Bool) × AHeap)) (f40 : Option Addr) (b41 : Option Addr) (y42 : Slc) (y43 : Int) (y44 : Int) (h45 : AHeap) : Option ((ByteArray × Bool) × AHeap) :=
 (if (decide (y44 < y43)) = true then
 (Gx.idxL 1 y42 y44).bind fun q47 =>
 (ldS q47 h45).bind fun x48 =>
 (strings_Builder_WriteString k D b41 x48 h45).bind fun r49 =>
 rec46 f40 b41 y42 y43 (IntKind.wrap .i64 (y44 + 1)) r49.2
 else
 j12 f40 b41 h45)
noncomputable def index_text_l1 (k : Nat) (D : CallF) (j12 : (Option Addr) → (Option Addr) → AHeap → Option ((ByteArray × Bool) × AHeap)) : (Option Addr) → (Option Addr) → Slc → Int → Int → AHeap → Option ((ByteArray × Bool) × AHeap) :=
 iterK (α := (Option Addr) → (Option Addr) → Slc → Int → Int → AHeap → Option ((ByteArray × Bool) × AHeap)) (fun _ _ _ _ _ _ => none) k (index_text_l1b k D j12)
noncomputable def index_text_l0b (k : Nat) (D : CallF) (j19 : (Option Addr) → AHeap → Option ((ByteArray × Bool) × AHeap)) (rec29 : (Option Addr) → Slc → Int → Int → AHeap → Option ((ByteArray × Bool) × AHeap)) (b24 : Option Addr) (y25 : Slc) (y26 : Int) (y27 : Int) (h28 : AHeap) : Option ((ByteArray × Bool) × AHeap) :=
 (if (decide (y27 < y26)) = true then
 (Gx.idxL 6 y25 y27).bind fun q30 =>
 (ldA 6 q30 h28).bind fun l31 =>
 (decC [.s, .s, .i .i64, .i .i64, .i .i64, .i .i64] l31).bind fun x32 =>
 newK h28 ((.cells [.string ⟨#[]⟩, .string ⟨#[]⟩, .int .i64 0, .int .i64 0, .int .i64 0, .int .i64 0] 57 true 0)) fun h33 =>
 (stL 6 (⟨h28.next, 0, none⟩ : Addr) ([.string x32.1, .string x32.2.1, .int .i64 x32.2.2.1, .int .i64 x32.2.2.2.1, .int .i64 x32.2.2.2.2.1, .int .i64 x32.2.2.2.2.2]) h33).bind fun h34 =>
 (ldA 6 (⟨h28.next, 0, none⟩ : Addr) h34).bind fun l35 =>
 (decC [.s, .s, .i .i64, .i .i64, .i .i64, .i .i64] l35).bind fun x36 =>
 (index_line k D (x36.1, x36.2.1, x36.2.2.1, x36.2.2.2.1, x36.2.2.2.2.1, x36.2.2.2.2.2) h34).bind fun r37 =>
 (strings_Builder_WriteString k D b24 r37.1 r37.2).bind fun r38 =>
 rec29 b24 y25 y26 (IntKind.wrap .i64 (y27 + 1)) r38.2
 else
 j19 b24 h28)
noncomputable def index_text_l0 (k : Nat) (D : CallF) (j19 : (Option Addr) → AHeap → Option ((ByteArray × Bool) × AHeap)) : (Option Addr) → Slc → Int → Int → AHeap → Option ((ByteArray × Bool) × AHeap) :=
 iterK (α := (Option Addr) → Slc → Int → Int → AHeap → Option ((ByteArray × Bool) × AHeap)) (fun _ _ _ _ _ => none) k (index_text_l0b k D j19)
noncomputable def index_text (k : Nat) (D : CallF) (f_0 : Slc × Slc) (h : AHeap) : Option ((ByteArray × Bool) × AHeap) :=
 newK h ((.cells [.slice f_0.1.a f_0.1.len f_0.1.cap, .slice f_0.2.a f_0.2.len f_0.2.cap] 25 true 0)) fun h1 =>
 (ldL (⟨h.next, 0, none⟩ : Addr) h1).bind fun x2 =>
 (ldL (⟨h.next, 1, none⟩ : Addr) h1).bind fun x3 =>
 let t4 : Int := (if (x3.len : Int) > (x2.len : Int) then (x3.len : Int) else (x2.len : Int))
 (if (decide (t4 > 4096)) = true then
 some (((⟨#[]⟩ : ByteArray), false), h1)
 else
 newK h1 ((.cells [.pointer none, .slice none 0 0] 111 true 0)) fun h5 =>
 (ldL (⟨h.next, 0, none⟩ : Addr) h5).bind fun x6 =>
 (index_short k D (x6.len : Int) h5).bind fun r7 =>
 (if (⟨#[71, 82, 84, 73, 1]⟩ : ByteArray).size + r7.1.size ≤ 9223372036854775807 then
 (strings_Builder_WriteString k D (some (⟨h1.next, 0, none⟩ : Addr)) ((⟨#[71, 82, 84, 73, 1]⟩ : ByteArray) ++ r7.1) r7.2).bind fun r8 =>
 joinK (fun (f9 : Option Addr) (b10 : Option Addr) (h11 : AHeap) =>
 (f9).bind fun p13 =>
 (ldL (⟨p13.block, p13.off + 1, none⟩ : Addr) h11).bind fun x14 =>
 (index_short k D (x14.len : Int) h11).bind fun r15 =>
 (strings_Builder_WriteString k D b10 r15.1 r15.2).bind fun r16 =>
 joinK (fun (b17 : Option Addr) (h18 : AHeap) =>
 (strings_Builder_String k D b17 h18).bind fun r20 =>
 (strings_Builder_Len k D b17 r20.2).bind fun r21 =>
 some ((r20.1, (decide (r21.1 ≤ 65536))), r21.2)) fun j19 =>
 (f9).bind fun p22 =>
 (ldL (⟨p22.block, p22.off + 1, none⟩ : Addr) r16.2).bind fun x23 =>
 index_text_l0 k D j19 b10 x23 (x23.len : Int) 0 r16.2) fun j12 =>
 (ldL (⟨h.next, 0, none⟩ : Addr) r8.2).bind fun x39 =>
 index_text_l1 k D j12 (some (⟨h.next, 0, none⟩ : Addr)) (some (⟨h1.next, 0, none⟩ : Addr)) x39 (x39.len : Int) 0 r8.2
 else none))
noncomputable def r_index_text : RCode := an (.s .n (.s .n (.s .n (.s .n (.s (.j [(1, .p), (4, .p)] (.s .n (.b (.l [(1, .p), (4, .p), (24, .l), (25, .i .i64), (26, .i .i64)] .n)))) (.s .n (.s (.j [(4, .p)] (.s .n (.b (.l [(4, .p), (39, .l), (40, .i .i64), (41, .i .i64)] (.s .n (.s .n (.s (.b (.s (.r [(1, .st [.s, .s, .i .i64, .i .i64, .i .i64, .i .i64])]) (.r [(0, .st [.s, .s, .i .i64, .i .i64, .i .i64, .i .i64])]))) .n))))))) .n))))))) (rOf Try.prog 0 Try.f48)
noncomputable def e_index_text (k : Nat) (D : CallF) : Ent := entOf 48 [(0, .st [.l, .l])] [(2, .s), (3, .b)] (index_text k D)
theorem q_index_text : (Try.f48.body).bind (rcodeOf Try.prog 0 Try.f48.ntmps) = some (strip r_index_text) := by kernel_rfl
theorem t_index_text (k : Nat) (D : CallF) : curF [(0, .st [.l, .l])] (fun args h => denF (C_index_text k D) k r_index_text [(2, .s), (3, .b)] [none, none] args h) = index_text k D := by kernel_rfl
theorem ok_index_text {D : CallF} (hD : CSound Try.prog 0 D) (k : Nat) : EntOk Try.prog 0 (e_index_text k D) :=
 entOf_ok2 (mkC_sound hD (EntsOk.more (ok_index_short hD k) (EntsOk.more (ok_strings_Builder_WriteString hD k) (EntsOk.more (ok_strings_Builder_String hD k) (EntsOk.more (ok_strings_Builder_Len hD k) (EntsOk.more (ok_index_line hD k) (EntsOk.none))))))) Try.func48 rfl q_index_text rfl (t_index_text k D)
end Gc
namespace Gc
open Go Gx Go.Proofs
set_option maxRecDepth 100000
noncomputable def C_index_Encode (k : Nat) (D : CallF) : CallF := mkC D [e_index_check k D, e_index_text k D]
noncomputable def index_Encode (k : Nat) (D : CallF) (f_0 : Slc × Slc) (h : AHeap) : Option ((ByteArray × Int) × AHeap) :=
 newK h ((.cells [.slice f_0.1.a f_0.1.len f_0.1.cap, .slice f_0.2.a f_0.2.len f_0.2.cap] 25 true 0)) fun h1 =>
 (ldA 2 (⟨h.next, 0, none⟩ : Addr) h1).bind fun l2 =>
 (decC [.l, .l] l2).bind fun x3 =>
 (index_check k D (x3.1, x3.2) h1).bind fun r4 =>
 (if (r4.1 != 0) = true then
 some (((⟨#[]⟩ : ByteArray), r4.1), r4.2)
 else
 (ldA 2 (⟨h.next, 0, none⟩ : Addr) r4.2).bind fun l5 =>
 (decC [.l, .l] l5).bind fun x6 =>
 (index_text k D (x6.1, x6.2) r4.2).bind fun r7 =>
 (if (!r7.1.2) = true then
 some (((⟨#[]⟩ : ByteArray), 2), r7.2)
 else
 some ((r7.1.1, 0), r7.2)))
noncomputable def r_index_Encode : RCode := an (.s .n (.s (.s (.r [(0, .st [.l, .l])]) .n) (.s (.r [(0, .st [.l, .l])]) .n))) (rOf Try.prog 0 Try.f12)
noncomputable def e_index_Encode (k : Nat) (D : CallF) : Ent := entOf 12 [(0, .st [.l, .l])] [(2, .s), (3, .i .i64)] (index_Encode k D)
theorem q_index_Encode : (Try.f12.body).bind (rcodeOf Try.prog 0 Try.f12.ntmps) = some (strip r_index_Encode) := by kernel_rfl
theorem t_index_Encode (k : Nat) (D : CallF) : curF [(0, .st [.l, .l])] (fun args h => denF (C_index_Encode k D) k r_index_Encode [(2, .s), (3, .i .i64)] [none, none] args h) = index_Encode k D := by kernel_rfl
theorem ok_index_Encode {D : CallF} (hD : CSound Try.prog 0 D) (k : Nat) : EntOk Try.prog 0 (e_index_Encode k D) :=
 entOf_ok2 (mkC_sound hD (EntsOk.more (ok_index_check hD k) (EntsOk.more (ok_index_text hD k) (EntsOk.none)))) Try.func12 rfl q_index_Encode rfl (t_index_Encode k D)
end Gc
namespace Gc
open Go Gx Go.Proofs
set_option maxRecDepth 100000
noncomputable def C_ref16_Text (k : Nat) (D : CallF) : CallF := mkC D [e_ref01_Small k D, e_ref16_line k D]
noncomputable def ref16_Text_l1b (_k : Nat) (_D : CallF) (j7 : (Option Addr) → ByteArray → AHeap → Option ((ByteArray) × AHeap)) (rec32 : (Option Addr) → ByteArray → Int → AHeap → Option ((ByteArray) × AHeap)) (f28 : Option Addr) (s29 : ByteArray) (i30 : Int) (h31 : AHeap) : Option ((ByteArray) × AHeap) :=
 (f28).bind fun p33 =>
 (ldL (⟨p33.block, p33.off + 0, none⟩ : Addr) h31).bind fun x34 =>
 (if (decide (i30 < (x34.len : Int))) = true then
 (f28).bind fun p35 =>
 (ldL (⟨p35.block, p35.off + 0, none⟩ : Addr) h31).bind fun x36 =>
 (Gx.idxL 1 x36 i30).bind fun q37 =>
 (ldS q37 h31).bind fun x38 =>
 (if s29.size + x38.size ≤ 9223372036854775807 then
 rec32 f28 (s29 ++ x38) (IntKind.wrap .i64 (i30 + 1)) h31
 else none)
 else
 j7 f28 s29 h31)
noncomputable def ref16_Text_l1 (k : Nat) (D : CallF) (j7 : (Option Addr) → ByteArray → AHeap → Option ((ByteArray) × AHeap)) : (Option Addr) → ByteArray → Int → AHeap → Option ((ByteArray) × AHeap) :=
 iterK (α := (Option Addr) → ByteArray → Int → AHeap → Option ((ByteArray) × AHeap)) (fun _ _ _ _ => none) k (ref16_Text_l1b k D j7)
noncomputable def ref16_Text_l0b (k : Nat) (D : CallF) (j13 : ByteArray → AHeap → Option ((ByteArray) × AHeap)) (rec19 : (Option Addr) → ByteArray → Int → AHeap → Option ((ByteArray) × AHeap)) (f14 : Option Addr) (s15 : ByteArray) (i17 : Int) (h18 : AHeap) : Option ((ByteArray) × AHeap) :=
 (f14).bind fun p20 =>
 (ldL (⟨p20.block, p20.off + 1, none⟩ : Addr) h18).bind fun x21 =>
 (if (decide (i17 < (x21.len : Int))) = true then
 (f14).bind fun p22 =>
 (ldL (⟨p22.block, p22.off + 1, none⟩ : Addr) h18).bind fun x23 =>
 (Gx.idxL 6 x23 i17).bind fun q24 =>
 (ldA 6 q24 h18).bind fun l25 =>
 (decC [.s, .s, .i .i64, .i .i64, .i .i64, .i .i64] l25).bind fun x26 =>
 (ref16_line k D (x26.1, x26.2.1, x26.2.2.1, x26.2.2.2.1, x26.2.2.2.2.1, x26.2.2.2.2.2) h18).bind fun r27 =>
 (if s15.size + r27.1.size ≤ 9223372036854775807 then
 rec19 f14 (s15 ++ r27.1) (IntKind.wrap .i64 (i17 + 1)) r27.2
 else none)
 else
 j13 s15 h18)
noncomputable def ref16_Text_l0 (k : Nat) (D : CallF) (j13 : ByteArray → AHeap → Option ((ByteArray) × AHeap)) : (Option Addr) → ByteArray → Int → AHeap → Option ((ByteArray) × AHeap) :=
 iterK (α := (Option Addr) → ByteArray → Int → AHeap → Option ((ByteArray) × AHeap)) (fun _ _ _ _ => none) k (ref16_Text_l0b k D j13)
noncomputable def ref16_Text (k : Nat) (D : CallF) (f_0 : Slc × Slc) (h : AHeap) : Option ((ByteArray) × AHeap) :=
 newK h ((.cells [.slice f_0.1.a f_0.1.len f_0.1.cap, .slice f_0.2.a f_0.2.len f_0.2.cap] 28 true 0)) fun h1 =>
 (ldL (⟨h.next, 0, none⟩ : Addr) h1).bind fun x2 =>
 (ref01_Small k D (x2.len : Int) h1).bind fun r3 =>
 (if (⟨#[71, 82, 84, 73, 1]⟩ : ByteArray).size + r3.1.size ≤ 9223372036854775807 then
 joinK (fun (f4 : Option Addr) (s5 : ByteArray) (h6 : AHeap) =>
 (f4).bind fun p8 =>
 (ldL (⟨p8.block, p8.off + 1, none⟩ : Addr) h6).bind fun x9 =>
 (ref01_Small k D (x9.len : Int) h6).bind fun r10 =>
 (if s5.size + r10.1.size ≤ 9223372036854775807 then
 joinK (fun (s11 : ByteArray) (h12 : AHeap) =>
 some (s11, h12)) fun j13 =>
 ref16_Text_l0 k D j13 f4 (s5 ++ r10.1) 0 r10.2
 else none)) fun j7 =>
 ref16_Text_l1 k D j7 (some (⟨h.next, 0, none⟩ : Addr)) ((⟨#[71, 82, 84, 73, 1]⟩ : ByteArray) ++ r3.1) 0 r3.2
 else none)
noncomputable def r_ref16_Text : RCode := an (.s .n (.s .n (.s (.j [(1, .p), (3, .s)] (.s .n (.b (.l [(1, .p), (3, .s), (4, .i .i64)] .n)))) (.s .n (.s (.j [(3, .s)] (.s .n (.b (.l [(1, .p), (3, .s), (5, .i .i64)] (.s .n (.s (.b (.r [(5, .st [.s, .s, .i .i64, .i .i64, .i .i64, .i .i64])])) .n)))))) .n))))) (rOf Try.prog 0 Try.f51)
noncomputable def e_ref16_Text (k : Nat) (D : CallF) : Ent := entOf 51 [(0, .st [.l, .l])] [(2, .s)] (ref16_Text k D)
theorem q_ref16_Text : (Try.f51.body).bind (rcodeOf Try.prog 0 Try.f51.ntmps) = some (strip r_ref16_Text) := by kernel_rfl
theorem t_ref16_Text (k : Nat) (D : CallF) : curF [(0, .st [.l, .l])] (fun args h => denF (C_ref16_Text k D) k r_ref16_Text [(2, .s)] [none] args h) = ref16_Text k D := by kernel_rfl
theorem ok_ref16_Text {D : CallF} (hD : CSound Try.prog 0 D) (k : Nat) : EntOk Try.prog 0 (e_ref16_Text k D) :=
 entOf_ok2 (mkC_sound hD (EntsOk.more (ok_ref01_Small hD k) (EntsOk.more (ok_ref16_line hD k) (EntsOk.none)))) Try.func51 rfl q_ref16_Text rfl (t_ref16_Text k D)
end Gc
namespace Gc
open Go Gx Go.Proofs
set_option maxRecDepth 100000
noncomputable def C_ref16_long (k : Nat) (D : CallF) : CallF := mkC D [e_ref16_Text k D]
noncomputable def ref16_long (k : Nat) (D : CallF) (f_0 : Slc × Slc) (h : AHeap) : Option ((Bool) × AHeap) :=
 newK h ((.cells [.slice f_0.1.a f_0.1.len f_0.1.cap, .slice f_0.2.a f_0.2.len f_0.2.cap] 28 true 0)) fun h1 =>
 (ldL (⟨h.next, 0, none⟩ : Addr) h1).bind fun x2 =>
 (if (decide ((x2.len : Int) > 4096)) = true then
 some (true, h1)
 else
 (ldL (⟨h.next, 1, none⟩ : Addr) h1).bind fun x3 =>
 (if (decide ((x3.len : Int) > 4096)) = true then
 some (true, h1)
 else
 (ldA 2 (⟨h.next, 0, none⟩ : Addr) h1).bind fun l4 =>
 (decC [.l, .l] l4).bind fun x5 =>
 (ref16_Text k D (x5.1, x5.2) h1).bind fun r6 =>
 some ((decide ((r6.1.size : Int) > 65536)), r6.2)))
noncomputable def r_ref16_long : RCode := an (.s .n (.s (.r [(11, .st [.l, .l])]) .n)) (rOf Try.prog 0 Try.f50)
noncomputable def e_ref16_long (k : Nat) (D : CallF) : Ent := entOf 50 [(0, .st [.l, .l])] [(2, .b)] (ref16_long k D)
theorem q_ref16_long : (Try.f50.body).bind (rcodeOf Try.prog 0 Try.f50.ntmps) = some (strip r_ref16_long) := by kernel_rfl
theorem t_ref16_long (k : Nat) (D : CallF) : curF [(0, .st [.l, .l])] (fun args h => denF (C_ref16_long k D) k r_ref16_long [(2, .b)] [none] args h) = ref16_long k D := by kernel_rfl
theorem ok_ref16_long {D : CallF} (hD : CSound Try.prog 0 D) (k : Nat) : EntOk Try.prog 0 (e_ref16_long k D) :=
 entOf_ok2 (mkC_sound hD (EntsOk.more (ok_ref16_Text hD k) (EntsOk.none))) Try.func50 rfl q_ref16_long rfl (t_ref16_long k D)
end Gc
namespace Gc
open Go Gx Go.Proofs
set_option maxRecDepth 100000
noncomputable def C_ref16_Encode (k : Nat) (D : CallF) : CallF := mkC D [e_ref16_refused k D, e_ref16_long k D, e_ref16_Text k D]
noncomputable def ref16_Encode (k : Nat) (D : CallF) (f_0 : Slc × Slc) (h : AHeap) : Option ((ByteArray × Int) × AHeap) :=
 newK h ((.cells [.slice f_0.1.a f_0.1.len f_0.1.cap, .slice f_0.2.a f_0.2.len f_0.2.cap] 28 true 0)) fun h1 =>
 (ldA 2 (⟨h.next, 0, none⟩ : Addr) h1).bind fun l2 =>
 (decC [.l, .l] l2).bind fun x3 =>
 (ref16_refused k D (x3.1, x3.2) h1).bind fun r4 =>
 (if (r4.1 != 0) = true then
 some (((⟨#[]⟩ : ByteArray), r4.1), r4.2)
 else
 (ldA 2 (⟨h.next, 0, none⟩ : Addr) r4.2).bind fun l5 =>
 (decC [.l, .l] l5).bind fun x6 =>
 (ref16_long k D (x6.1, x6.2) r4.2).bind fun r7 =>
 (if r7.1 = true then
 some (((⟨#[]⟩ : ByteArray), 2), r7.2)
 else
 (ldA 2 (⟨h.next, 0, none⟩ : Addr) r7.2).bind fun l8 =>
 (decC [.l, .l] l8).bind fun x9 =>
 (ref16_Text k D (x9.1, x9.2) r7.2).bind fun r10 =>
 some ((r10.1, 0), r10.2)))
noncomputable def r_ref16_Encode : RCode := an (.s .n (.s (.s (.r [(0, .st [.l, .l])]) .n) (.s (.s (.r [(0, .st [.l, .l])]) .n) (.s (.r [(0, .st [.l, .l])]) .n)))) (rOf Try.prog 0 Try.f13)
noncomputable def e_ref16_Encode (k : Nat) (D : CallF) : Ent := entOf 13 [(0, .st [.l, .l])] [(2, .s), (3, .i .i64)] (ref16_Encode k D)
theorem q_ref16_Encode : (Try.f13.body).bind (rcodeOf Try.prog 0 Try.f13.ntmps) = some (strip r_ref16_Encode) := by kernel_rfl
theorem t_ref16_Encode (k : Nat) (D : CallF) : curF [(0, .st [.l, .l])] (fun args h => denF (C_ref16_Encode k D) k r_ref16_Encode [(2, .s), (3, .i .i64)] [none, none] args h) = ref16_Encode k D := by kernel_rfl
theorem ok_ref16_Encode {D : CallF} (hD : CSound Try.prog 0 D) (k : Nat) : EntOk Try.prog 0 (e_ref16_Encode k D) :=
 entOf_ok2 (mkC_sound hD (EntsOk.more (ok_ref16_refused hD k) (EntsOk.more (ok_ref16_long hD k) (EntsOk.more (ok_ref16_Text hD k) (EntsOk.none))))) Try.func13 rfl q_ref16_Encode rfl (t_ref16_Encode k D)
end Gc
namespace Gc
open Go Gx Go.Proofs
set_option maxRecDepth 100000
noncomputable def C_law16_works (k : Nat) (D : CallF) : CallF := mkC D [e_index_Encode k D]
noncomputable def law16_works (k : Nat) (D : CallF)  (h : AHeap) : Option ((Bool) × AHeap) :=
 (index_Encode k D ((⟨none, 0, 0⟩ : Slc), (⟨none, 0, 0⟩ : Slc)) h).bind fun r1 =>
 (if (r1.1.2 == 0) = true then
 some (((r1.1.1.size : Int) == 7), r1.2)
 else
 some (false, r1.2))
noncomputable def r_law16_works : RCode := an (.n) (rOf Try.prog 0 Try.f10)
noncomputable def e_law16_works (k : Nat) (D : CallF) : Ent := entOf 10 [] [(0, .b)] (law16_works k D)
theorem q_law16_works : (Try.f10.body).bind (rcodeOf Try.prog 0 Try.f10.ntmps) = some (strip r_law16_works) := by kernel_rfl
theorem t_law16_works (k : Nat) (D : CallF) : curF [] (fun args h => denF (C_law16_works k D) k r_law16_works [(0, .b)] [none] args h) = law16_works k D := by kernel_rfl
theorem ok_law16_works {D : CallF} (hD : CSound Try.prog 0 D) (k : Nat) : EntOk Try.prog 0 (e_law16_works k D) :=
 entOf_ok2 (mkC_sound hD (EntsOk.more (ok_index_Encode hD k) (EntsOk.none))) Try.func10 rfl q_law16_works rfl (t_law16_works k D)
end Gc
namespace Gc
open Go Gx Go.Proofs
set_option maxRecDepth 100000
noncomputable def C_num_Reader_Err (_k : Nat) (D : CallF) : CallF := mkC D []
noncomputable def num_Reader_Err (_k : Nat) (_D : CallF) (r_0 : Option Addr) (h : AHeap) : Option ((Int) × AHeap) :=
 (r_0).bind fun p1 =>
 (ldI .i64 (⟨p1.block, p1.off + 1, none⟩ : Addr) h).bind fun x2 =>
 some (x2, h)
noncomputable def r_num_Reader_Err : RCode := an (.n) (rOf Try.prog 0 Try.f105)
noncomputable def e_num_Reader_Err (k : Nat) (D : CallF) : Ent := entOf 105 [(0, .p)] [(2, .i .i64)] (num_Reader_Err k D)
theorem q_num_Reader_Err : (Try.f105.body).bind (rcodeOf Try.prog 0 Try.f105.ntmps) = some (strip r_num_Reader_Err) := by kernel_rfl
theorem t_num_Reader_Err (k : Nat) (D : CallF) : curF [(0, .p)] (fun args h => denF (C_num_Reader_Err k D) k r_num_Reader_Err [(2, .i .i64)] [none] args h) = num_Reader_Err k D := by kernel_rfl
theorem ok_num_Reader_Err {D : CallF} (hD : CSound Try.prog 0 D) (k : Nat) : EntOk Try.prog 0 (e_num_Reader_Err k D) :=
 entOf_ok2 (mkC_sound hD (EntsOk.none)) Try.func105 rfl q_num_Reader_Err rfl (t_num_Reader_Err k D)
end Gc
namespace Gc
open Go Gx Go.Proofs
set_option maxRecDepth 100000
noncomputable def C_num_Reader_End (k : Nat) (D : CallF) : CallF := mkC D [e_num_Reader_Left k D, e_num_Reader_Fail k D]
noncomputable def num_Reader_End (k : Nat) (D : CallF) (r_0 : Option Addr) (h : AHeap) : Option ((Int) × AHeap) :=
 joinK (fun (r1 : Option Addr) (h2 : AHeap) =>
 (r1).bind fun p4 =>
 (ldI .i64 (⟨p4.block, p4.off + 1, none⟩ : Addr) h2).bind fun x5 =>
 some (x5, h2)) fun j3 =>
 (num_Reader_Left k D r_0 h).bind fun r6 =>
 (if (decide (r6.1 > 0)) = true then
 (num_Reader_Fail k D r_0 3 r6.2).bind fun r7 =>
 j3 r_0 r7.2
 else
 j3 r_0 r6.2)
noncomputable def r_num_Reader_End : RCode := an (.s .n (.s (.j [(0, .p)] .n) .n)) (rOf Try.prog 0 Try.f60)
noncomputable def e_num_Reader_End (k : Nat) (D : CallF) : Ent := entOf 60 [(0, .p)] [(2, .i .i64)] (num_Reader_End k D)
theorem q_num_Reader_End : (Try.f60.body).bind (rcodeOf Try.prog 0 Try.f60.ntmps) = some (strip r_num_Reader_End) := by kernel_rfl
theorem t_num_Reader_End (k : Nat) (D : CallF) : curF [(0, .p)] (fun args h => denF (C_num_Reader_End k D) k r_num_Reader_End [(2, .i .i64)] [none] args h) = num_Reader_End k D := by kernel_rfl
theorem ok_num_Reader_End {D : CallF} (hD : CSound Try.prog 0 D) (k : Nat) : EntOk Try.prog 0 (e_num_Reader_End k D) :=
 entOf_ok2 (mkC_sound hD (EntsOk.more (ok_num_Reader_Left hD k) (EntsOk.more (ok_num_Reader_Fail hD k) (EntsOk.none)))) Try.func60 rfl q_num_Reader_End rfl (t_num_Reader_End k D)
end Gc
namespace Gc
open Go Gx Go.Proofs
set_option maxRecDepth 100000
noncomputable def C_internal_stringslite_HasPrefix (_k : Nat) (D : CallF) : CallF := mkC D []
noncomputable def internal_stringslite_HasPrefix (_k : Nat) (_D : CallF) (s_0 : ByteArray) (prefix_1 : ByteArray) (h : AHeap) : Option ((Bool) × AHeap) :=
 (if (decide ((s_0.size : Int) ≥ (prefix_1.size : Int))) = true then
 (Gx.subS s_0 none (some (prefix_1.size : Int))).bind fun s1 =>
 some ((s1 == prefix_1), h)
 else
 some (false, h))
noncomputable def r_internal_stringslite_HasPrefix : RCode := an (.n) (rOf Try.prog 0 Try.f117)
noncomputable def e_internal_stringslite_HasPrefix (k : Nat) (D : CallF) : Ent := entOf 117 [(0, .s), (1, .s)] [(4, .b)] (internal_stringslite_HasPrefix k D)
theorem q_internal_stringslite_HasPrefix : (Try.f117.body).bind (rcodeOf Try.prog 0 Try.f117.ntmps) = some (strip r_internal_stringslite_HasPrefix) := by kernel_rfl
theorem t_internal_stringslite_HasPrefix (k : Nat) (D : CallF) : curF [(0, .s), (1, .s)] (fun args h => denF (C_internal_stringslite_HasPrefix k D) k r_internal_stringslite_HasPrefix [(4, .b)] [none] args h) = internal_stringslite_HasPrefix k D := by kernel_rfl
theorem ok_internal_stringslite_HasPrefix {D : CallF} (hD : CSound Try.prog 0 D) (k : Nat) : EntOk Try.prog 0 (e_internal_stringslite_HasPrefix k D) :=
 entOf_ok2 (mkC_sound hD (EntsOk.none)) Try.func117 rfl q_internal_stringslite_HasPrefix rfl (t_internal_stringslite_HasPrefix k D)
end Gc
namespace Gc
open Go Gx Go.Proofs
set_option maxRecDepth 100000
noncomputable def C_internal_stringslite_CutPrefix (k : Nat) (D : CallF) : CallF := mkC D [e_internal_stringslite_HasPrefix k D]
noncomputable def internal_stringslite_CutPrefix (k : Nat) (D : CallF) (s_0 : ByteArray) (prefix_1 : ByteArray) (h : AHeap) : Option ((ByteArray × Bool) × AHeap) :=
 (internal_stringslite_HasPrefix k D s_0 prefix_1 h).bind fun r1 =>
 (if (!r1.1) = true then
 some ((s_0, false), r1.2)
 else
 (Gx.subS s_0 (some (prefix_1.size : Int)) none).bind fun s2 =>
 some ((s2, true), r1.2))
noncomputable def r_internal_stringslite_CutPrefix : RCode := an (.n) (rOf Try.prog 0 Try.f103)
noncomputable def e_internal_stringslite_CutPrefix (k : Nat) (D : CallF) : Ent := entOf 103 [(0, .s), (1, .s)] [(4, .s), (5, .b)] (internal_stringslite_CutPrefix k D)
theorem q_internal_stringslite_CutPrefix : (Try.f103.body).bind (rcodeOf Try.prog 0 Try.f103.ntmps) = some (strip r_internal_stringslite_CutPrefix) := by kernel_rfl
theorem t_internal_stringslite_CutPrefix (k : Nat) (D : CallF) : curF [(0, .s), (1, .s)] (fun args h => denF (C_internal_stringslite_CutPrefix k D) k r_internal_stringslite_CutPrefix [(4, .s), (5, .b)] [none, none] args h) = internal_stringslite_CutPrefix k D := by kernel_rfl
theorem ok_internal_stringslite_CutPrefix {D : CallF} (hD : CSound Try.prog 0 D) (k : Nat) : EntOk Try.prog 0 (e_internal_stringslite_CutPrefix k D) :=
 entOf_ok2 (mkC_sound hD (EntsOk.more (ok_internal_stringslite_HasPrefix hD k) (EntsOk.none))) Try.func103 rfl q_internal_stringslite_CutPrefix rfl (t_internal_stringslite_CutPrefix k D)
end Gc
namespace Gc
open Go Gx Go.Proofs
set_option maxRecDepth 100000
noncomputable def C_strings_CutPrefix (k : Nat) (D : CallF) : CallF := mkC D [e_internal_stringslite_CutPrefix k D]
noncomputable def strings_CutPrefix (k : Nat) (D : CallF) (s_0 : ByteArray) (prefix_1 : ByteArray) (h : AHeap) : Option ((ByteArray × Bool) × AHeap) :=
 (internal_stringslite_CutPrefix k D s_0 prefix_1 h).bind fun r1 =>
 some ((r1.1.1, r1.1.2), r1.2)
noncomputable def r_strings_CutPrefix : RCode := an (.n) (rOf Try.prog 0 Try.f53)
noncomputable def e_strings_CutPrefix (k : Nat) (D : CallF) : Ent := entOf 53 [(0, .s), (1, .s)] [(4, .s), (5, .b)] (strings_CutPrefix k D)
theorem q_strings_CutPrefix : (Try.f53.body).bind (rcodeOf Try.prog 0 Try.f53.ntmps) = some (strip r_strings_CutPrefix) := by kernel_rfl
theorem t_strings_CutPrefix (k : Nat) (D : CallF) : curF [(0, .s), (1, .s)] (fun args h => denF (C_strings_CutPrefix k D) k r_strings_CutPrefix [(4, .s), (5, .b)] [none, none] args h) = strings_CutPrefix k D := by kernel_rfl
theorem ok_strings_CutPrefix {D : CallF} (hD : CSound Try.prog 0 D) (k : Nat) : EntOk Try.prog 0 (e_strings_CutPrefix k D) :=
 entOf_ok2 (mkC_sound hD (EntsOk.more (ok_internal_stringslite_CutPrefix hD k) (EntsOk.none))) Try.func53 rfl q_strings_CutPrefix rfl (t_strings_CutPrefix k D)
end Gc
namespace Gc
open Go Gx Go.Proofs
set_option maxRecDepth 100000
noncomputable def C_num_Read (_k : Nat) (D : CallF) : CallF := mkC D []
noncomputable def num_Read (_k : Nat) (_D : CallF) (s_0 : ByteArray) (h : AHeap) : Option (((Option Addr)) × AHeap) :=
 let h1 := AHeap.new h (.cells [.string s_0, .int .i64 0] 142 true 0)
 some ((some (⟨h.next, 0, none⟩ : Addr)), h1)
noncomputable def r_num_Read : RCode := an (.n) (rOf Try.prog 0 Try.f54)
noncomputable def e_num_Read (k : Nat) (D : CallF) : Ent := entOf 54 [(0, .s)] [(2, .p)] (num_Read k D)
theorem q_num_Read : (Try.f54.body).bind (rcodeOf Try.prog 0 Try.f54.ntmps) = some (strip r_num_Read) := by kernel_rfl
theorem t_num_Read (k : Nat) (D : CallF) : curF [(0, .s)] (fun args h => denF (C_num_Read k D) k r_num_Read [(2, .p)] [none] args h) = num_Read k D := by kernel_rfl
theorem ok_num_Read {D : CallF} (hD : CSound Try.prog 0 D) (k : Nat) : EntOk Try.prog 0 (e_num_Read k D) :=
 entOf_ok2 (mkC_sound hD (EntsOk.none)) Try.func54 rfl q_num_Read rfl (t_num_Read k D)
end Gc
namespace Gc
open Go Gx Go.Proofs
set_option maxRecDepth 100000
noncomputable def C_index_list_string (k : Nat) (D : CallF) : CallF := mkC D [e_num_Reader_Short k D, e_num_Reader_Err k D]
noncomputable def index_list_string_l0b (k : Nat) (D : CallF) (j3 : Slc → AHeap → Option ((Slc) × AHeap)) (rec11 : (Option Addr) → Value → Slc → Int → Int → AHeap → Option ((Slc) × AHeap)) (r5 : Option Addr) (one6 : Value) (out7 : Slc) (y8 : Int) (y9 : Int) (h10 : AHeap) : Option ((Slc) × AHeap) :=
 (if (decide (y9 < y8)) = true then
 callD (C_index_list_string k D) one6 [.pointer r5] h10 fun v12 h13 =>
 (decS v12).bind fun x14 =>
 (num_Reader_Err k D r5 h13).bind fun r15 =>
 (if (r15.1 != 0) = true then
 some ((⟨none, 0, 0⟩ : Slc), r15.2)
 else
 newK r15.2 ((.cells [.string x14] 9 true 0)) fun h16 =>
 (rdS 1 (⟨(some ⟨r15.2.next, 0, some 0⟩), 1, 1⟩ : Slc) h16).bind fun n18 =>
 (appendA 1 16 9 h16 out7 n18 1).bind fun r17 =>
 rec11 r5 one6 r17.1 y8 (IntKind.wrap .i64 (y9 + 1)) r17.2)
 else
 j3 out7 h10)
noncomputable def index_list_string_l0 (k : Nat) (D : CallF) (j3 : Slc → AHeap → Option ((Slc) × AHeap)) : (Option Addr) → Value → Slc → Int → Int → AHeap → Option ((Slc) × AHeap) :=
 iterK (α := (Option Addr) → Value → Slc → Int → Int → AHeap → Option ((Slc) × AHeap)) (fun _ _ _ _ _ _ => none) k (index_list_string_l0b k D j3)
noncomputable def index_list_string (k : Nat) (D : CallF) (r_0 : Option Addr) (one_1 : Value) (h : AHeap) : Option ((Slc) × AHeap) :=
 joinK (fun (out1 : Slc) (h2 : AHeap) =>
 some (out1, h2)) fun j3 =>
 (num_Reader_Short k D r_0 4096 h).bind fun r4 =>
 index_list_string_l0 k D j3 r_0 one_1 (⟨none, 0, 0⟩ : Slc) r4.1 0 r4.2
noncomputable def r_index_list_string : RCode := an (.s .n (.s .n (.s (.j [(5, .l)] (.s .n (.b (.l [(0, .p), (1, .v), (5, .l), (8, .i .i64), (9, .i .i64)] (.s .n (.s .n (.s (.b (.s (.r [(2, .s)]) .n)) .n))))))) .n))) (rOf Try.prog 0 Try.f55)
noncomputable def e_index_list_string (k : Nat) (D : CallF) : Ent := entOf 55 [(0, .p), (1, .v)] [(4, .l)] (index_list_string k D)
theorem q_index_list_string : (Try.f55.body).bind (rcodeOf Try.prog 0 Try.f55.ntmps) = some (strip r_index_list_string) := by kernel_rfl
theorem t_index_list_string (k : Nat) (D : CallF) : curF [(0, .p), (1, .v)] (fun args h => denF (C_index_list_string k D) k r_index_list_string [(4, .l)] [none] args h) = index_list_string k D := by kernel_rfl
theorem ok_index_list_string {D : CallF} (hD : CSound Try.prog 0 D) (k : Nat) : EntOk Try.prog 0 (e_index_list_string k D) :=
 entOf_ok2 (mkC_sound hD (EntsOk.more (ok_num_Reader_Short hD k) (EntsOk.more (ok_num_Reader_Err hD k) (EntsOk.none)))) Try.func55 rfl q_index_list_string rfl (t_index_list_string k D)
end Gc
namespace Gc
open Go Gx Go.Proofs
set_option maxRecDepth 100000
noncomputable def C_index_list_api_Item (k : Nat) (D : CallF) : CallF := mkC D [e_num_Reader_Short k D, e_num_Reader_Err k D]
noncomputable def index_list_api_Item_l0b (k : Nat) (D : CallF) (j3 : Slc → AHeap → Option ((Slc) × AHeap)) (rec11 : (Option Addr) → Value → Slc → Int → Int → AHeap → Option ((Slc) × AHeap)) (r5 : Option Addr) (one6 : Value) (out7 : Slc) (y8 : Int) (y9 : Int) (h10 : AHeap) : Option ((Slc) × AHeap) :=
 (if (decide (y9 < y8)) = true then
 callD (C_index_list_api_Item k D) one6 [.pointer r5] h10 fun v12 h13 =>
 (match v12 with
 | .agg c14 => (decC [.s, .s, .i .i64, .i .i64, .i .i64, .i .i64] c14.toList).bind fun x15 =>
 newK h13 ((.cells [.string ⟨#[]⟩, .string ⟨#[]⟩, .int .i64 0, .int .i64 0, .int .i64 0, .int .i64 0] 57 true 0)) fun h16 =>
 (stL 6 (⟨h13.next, 0, none⟩ : Addr) ([.string x15.1, .string x15.2.1, .int .i64 x15.2.2.1, .int .i64 x15.2.2.2.1, .int .i64 x15.2.2.2.2.1, .int .i64 x15.2.2.2.2.2]) h16).bind fun h17 =>
 (num_Reader_Err k D r5 h17).bind fun r18 =>
 (if (r18.1 != 0) = true then
 some ((⟨none, 0, 0⟩ : Slc), r18.2)
 else
 (ldA 6 (⟨h13.next, 0, none⟩ : Addr) r18.2).bind fun l19 =>
 (decC [.s, .s, .i .i64, .i .i64, .i .i64, .i .i64] l19).bind fun x20 =>
 newK r18.2 ((.cells [.string x20.1, .string x20.2.1, .int .i64 x20.2.2.1, .int .i64 x20.2.2.2.1, .int .i64 x20.2.2.2.2.1, .int .i64 x20.2.2.2.2.2] 57 true 0)) fun h21 =>
 (rdS 6 (⟨(some ⟨r18.2.next, 0, some 0⟩), 1, 1⟩ : Slc) h21).bind fun n23 =>
 (appendA 6 64 57 h21 out7 n23 1).bind fun r22 =>
 rec11 r5 one6 r22.1 y8 (IntKind.wrap .i64 (y9 + 1)) r22.2)
 | _ => none)
 else
 j3 out7 h10)
noncomputable def index_list_api_Item_l0 (k : Nat) (D : CallF) (j3 : Slc → AHeap → Option ((Slc) × AHeap)) : (Option Addr) → Value → Slc → Int → Int → AHeap → Option ((Slc) × AHeap) :=
 iterK (α := (Option Addr) → Value → Slc → Int → Int → AHeap → Option ((Slc) × AHeap)) (fun _ _ _ _ _ _ => none) k (index_list_api_Item_l0b k D j3)
noncomputable def index_list_api_Item (k : Nat) (D : CallF) (r_0 : Option Addr) (one_1 : Value) (h : AHeap) : Option ((Slc) × AHeap) :=
 joinK (fun (out1 : Slc) (h2 : AHeap) =>
 some (out1, h2)) fun j3 =>
 (num_Reader_Short k D r_0 4096 h).bind fun r4 =>
 index_list_api_Item_l0 k D j3 r_0 one_1 (⟨none, 0, 0⟩ : Slc) r4.1 0 r4.2
noncomputable def r_index_list_api_Item : RCode := an (.s .n (.s .n (.s (.j [(5, .l)] (.s .n (.b (.l [(0, .p), (1, .v), (5, .l), (8, .i .i64), (9, .i .i64)] (.s .n (.s .n (.s (.b (.s (.r [(2, .st [.s, .s, .i .i64, .i .i64, .i .i64, .i .i64])]) (.s .n (.r [(1, .st [.s, .s, .i .i64, .i .i64, .i .i64, .i .i64])])))) .n))))))) .n))) (rOf Try.prog 0 Try.f58)
noncomputable def e_index_list_api_Item (k : Nat) (D : CallF) : Ent := entOf 58 [(0, .p), (1, .v)] [(4, .l)] (index_list_api_Item k D)
theorem q_index_list_api_Item : (Try.f58.body).bind (rcodeOf Try.prog 0 Try.f58.ntmps) = some (strip r_index_list_api_Item) := by kernel_rfl
theorem t_index_list_api_Item (k : Nat) (D : CallF) : curF [(0, .p), (1, .v)] (fun args h => denF (C_index_list_api_Item k D) k r_index_list_api_Item [(4, .l)] [none] args h) = index_list_api_Item k D := by kernel_rfl
theorem ok_index_list_api_Item {D : CallF} (hD : CSound Try.prog 0 D) (k : Nat) : EntOk Try.prog 0 (e_index_list_api_Item k D) :=
 entOf_ok2 (mkC_sound hD (EntsOk.more (ok_num_Reader_Short hD k) (EntsOk.more (ok_num_Reader_Err hD k) (EntsOk.none)))) Try.func58 rfl q_index_list_api_Item rfl (t_index_list_api_Item k D)
end Gc
namespace Gc
open Go Gx Go.Proofs
set_option maxRecDepth 100000
noncomputable def C_index_Decode (k : Nat) (D : CallF) : CallF := mkC D [e_strings_CutPrefix k D, e_num_Read k D, e_index_list_string k D, e_index_list_api_Item k D, e_num_Reader_End k D, e_index_check k D]
noncomputable def index_Decode (k : Nat) (D : CallF) (s_0 : ByteArray) (h : AHeap) : Option (((Slc × Slc) × Int) × AHeap) :=
 newK h ((.cells [.slice none 0 0, .slice none 0 0] 25 true 0)) fun h1 =>
 (strings_CutPrefix k D s_0 (⟨#[71, 82, 84, 73, 1]⟩ : ByteArray) h1).bind fun r2 =>
 joinK (fun (y3 : Option Addr) (rest4 : ByteArray) (y5 : Bool) (h6 : AHeap) =>
 (if y5 = true then
 (y3).bind fun p8 =>
 (stL 2 p8 ([.slice none 0 0, .slice none 0 0]) h6).bind fun h9 =>
 (y3).bind fun p10 =>
 (ldA 2 p10 h9).bind fun l11 =>
 (decC [.l, .l] l11).bind fun x12 =>
 some (((x12.1, x12.2), 160), h9)
 else
 (num_Read k D rest4 h6).bind fun r13 =>
 newK r13.2 ((.cells [.slice none 0 0, .slice none 0 0] 25 true 0)) fun h14 =>
 (index_list_string k D r13.1 (.func (.func 56) ⟨[]⟩ ⟨[]⟩) h14).bind fun r15 =>
 (st1 (⟨r13.2.next, 0, none⟩ : Addr) (.slice r15.1.a r15.1.len r15.1.cap) r15.2).bind fun h16 =>
 (index_list_api_Item k D r13.1 (.func (.func 59) ⟨[]⟩ ⟨[]⟩) h16).bind fun r17 =>
 (st1 (⟨r13.2.next, 1, none⟩ : Addr) (.slice r17.1.a r17.1.len r17.1.cap) r17.2).bind fun h18 =>
 joinK (fun (y19 : Option Addr) (f20 : Option Addr) (y21 : Bool) (h22 : AHeap) =>
 (if y21 = true then
 (y19).bind fun p24 =>
 (stL 2 p24 ([.slice none 0 0, .slice none 0 0]) h22).bind fun h25 =>
 (y19).bind fun p26 =>
 (ldA 2 p26 h25).bind fun l27 =>
 (decC [.l, .l] l27).bind fun x28 =>
 some (((x28.1, x28.2), 160), h25)
 else
 (f20).bind fun p29 =>
 (ldA 2 p29 h22).bind fun l30 =>
 (decC [.l, .l] l30).bind fun x31 =>
 (y19).bind fun p32 =>
 (stL 2 p32 ([.slice x31.1.a x31.1.len x31.1.cap, .slice x31.2.a x31.2.len x31.2.cap]) h22).bind fun h33 =>
 (y19).bind fun p34 =>
 (ldA 2 p34 h33).bind fun l35 =>
 (decC [.l, .l] l35).bind fun x36 =>
 some (((x36.1, x36.2), 0), h33))) fun j23 =>
 (num_Reader_End k D r13.1 h18).bind fun r37 =>
 (if (r37.1 != 0) = true then
 j23 y3 (some (⟨r13.2.next, 0, none⟩ : Addr)) true r37.2
 else
 (ldA 2 (⟨r13.2.next, 0, none⟩ : Addr) r37.2).bind fun l38 =>
 (decC [.l, .l] l38).bind fun x39 =>
 (index_check k D (x39.1, x39.2) r37.2).bind fun r40 =>
 j23 y3 (some (⟨r13.2.next, 0, none⟩ : Addr)) (r40.1 != 0) r40.2))) fun j7 =>
 (if (!r2.1.2) = true then
 j7 (some (⟨h.next, 0, none⟩ : Addr)) r2.1.1 true r2.2
 else
 j7 (some (⟨h.next, 0, none⟩ : Addr)) r2.1.1 (decide ((s_0.size : Int) > 65536)) r2.2)
noncomputable def r_index_Decode : RCode := an (.s .n (.s .n (.s (.s (.j [(2, .p), (4, .s), (19, .b)] .n) .n) (.s .n (.s .n (.s .n (.s .n (.s (.s (.j [(2, .p), (7, .p), (36, .b)] (.r [(4, .st [.l, .l])])) .n) (.s (.r [(0, .st [.l, .l])]) .n))))))))) (rOf Try.prog 0 Try.f19)
noncomputable def e_index_Decode (k : Nat) (D : CallF) : Ent := entOf 19 [(0, .s)] [(2, .st [.l, .l]), (3, .i .i64)] (index_Decode k D)
theorem q_index_Decode : (Try.f19.body).bind (rcodeOf Try.prog 0 Try.f19.ntmps) = some (strip r_index_Decode) := by kernel_rfl
theorem t_index_Decode (k : Nat) (D : CallF) : curF [(0, .s)] (fun args h => denF (C_index_Decode k D) k r_index_Decode [(2, .st [.l, .l]), (3, .i .i64)] [some (.agg 2), none] args h) = index_Decode k D := by kernel_rfl
theorem ok_index_Decode {D : CallF} (hD : CSound Try.prog 0 D) (k : Nat) : EntOk Try.prog 0 (e_index_Decode k D) :=
 entOf_ok2 (mkC_sound hD (EntsOk.more (ok_strings_CutPrefix hD k) (EntsOk.more (ok_num_Read hD k) (EntsOk.more (ok_index_list_string hD k) (EntsOk.more (ok_index_list_api_Item hD k) (EntsOk.more (ok_num_Reader_End hD k) (EntsOk.more (ok_index_check hD k) (EntsOk.none)))))))) Try.func19 rfl q_index_Decode rfl (t_index_Decode k D)
end Gc
namespace Gc
open Go Gx Go.Proofs
noncomputable def e_internal_bytealg_IndexByteString (_k : Nat) (_D : CallF) : Ent := eIdxB 149
theorem ok_internal_bytealg_IndexByteString {D : CallF} (_hD : CSound Try.prog 0 D) (k : Nat) : EntOk Try.prog 0 (e_internal_bytealg_IndexByteString k D) :=
 idxB_ok Try.func149 rfl rfl rfl (by kernel_rfl)
end Gc
namespace Gc
open Go Gx Go.Proofs
set_option maxRecDepth 100000
noncomputable def C_internal_stringslite_IndexByte (k : Nat) (D : CallF) : CallF := mkC D [e_internal_bytealg_IndexByteString k D]
noncomputable def internal_stringslite_IndexByte (_k : Nat) (_D : CallF) (s_0 : ByteArray) (c_1 : Int) (h : AHeap) : Option ((Int) × AHeap) :=
 some ((idxB s_0 c_1), h)
noncomputable def r_internal_stringslite_IndexByte : RCode := an (.n) (rOf Try.prog 0 Try.f134)
noncomputable def e_internal_stringslite_IndexByte (k : Nat) (D : CallF) : Ent := entOf 134 [(0, .s), (1, .i .u8)] [(4, .i .i64)] (internal_stringslite_IndexByte k D)
theorem q_internal_stringslite_IndexByte : (Try.f134.body).bind (rcodeOf Try.prog 0 Try.f134.ntmps) = some (strip r_internal_stringslite_IndexByte) := by kernel_rfl
theorem t_internal_stringslite_IndexByte (k : Nat) (D : CallF) : curF [(0, .s), (1, .i .u8)] (fun args h => denF (C_internal_stringslite_IndexByte k D) k r_internal_stringslite_IndexByte [(4, .i .i64)] [none] args h) = internal_stringslite_IndexByte k D := by kernel_rfl
theorem ok_internal_stringslite_IndexByte {D : CallF} (hD : CSound Try.prog 0 D) (k : Nat) : EntOk Try.prog 0 (e_internal_stringslite_IndexByte k D) :=
 entOf_ok2 (mkC_sound hD (EntsOk.more (ok_internal_bytealg_IndexByteString hD k) (EntsOk.none))) Try.func134 rfl q_internal_stringslite_IndexByte rfl (t_internal_stringslite_IndexByte k D)
end Gc
namespace Gc
open Go Gx Go.Proofs
set_option maxRecDepth 100000
noncomputable def C_strings_IndexByte (k : Nat) (D : CallF) : CallF := mkC D [e_internal_stringslite_IndexByte k D]
noncomputable def strings_IndexByte (k : Nat) (D : CallF) (s_0 : ByteArray) (c_1 : Int) (h : AHeap) : Option ((Int) × AHeap) :=
 (internal_stringslite_IndexByte k D s_0 c_1 h).bind fun r1 =>
 some (r1.1, r1.2)
noncomputable def r_strings_IndexByte : RCode := an (.n) (rOf Try.prog 0 Try.f112)
noncomputable def e_strings_IndexByte (k : Nat) (D : CallF) : Ent := entOf 112 [(0, .s), (1, .i .u8)] [(4, .i .i64)] (strings_IndexByte k D)
theorem q_strings_IndexByte : (Try.f112.body).bind (rcodeOf Try.prog 0 Try.f112.ntmps) = some (strip r_strings_IndexByte) := by kernel_rfl
theorem t_strings_IndexByte (k : Nat) (D : CallF) : curF [(0, .s), (1, .i .u8)] (fun args h => denF (C_strings_IndexByte k D) k r_strings_IndexByte [(4, .i .i64)] [none] args h) = strings_IndexByte k D := by kernel_rfl
theorem ok_strings_IndexByte {D : CallF} (hD : CSound Try.prog 0 D) (k : Nat) : EntOk Try.prog 0 (e_strings_IndexByte k D) :=
 entOf_ok2 (mkC_sound hD (EntsOk.more (ok_internal_stringslite_IndexByte hD k) (EntsOk.none))) Try.func112 rfl q_strings_IndexByte rfl (t_strings_IndexByte k D)
end Gc
namespace Gc
open Go Gx Go.Proofs
set_option maxRecDepth 100000
noncomputable def C_strings_Builder_WriteByte (k : Nat) (D : CallF) : CallF := mkC D [e_strings_Builder_copyCheck k D]
noncomputable def strings_Builder_WriteByte (_k : Nat) (_D : CallF) (b_0 : Option Addr) (c_1 : Int) (h : AHeap) : Option ((Value) × AHeap) :=
 (b_0).bind fun p2 =>
 (ccA ccTab p2 h).bind fun h1 =>
 (b_0).bind fun p3 =>
 (ldL (⟨p3.block, p3.off + 1, none⟩ : Addr) h1).bind fun x4 =>
 newK h1 ((.cells [.int .u8 c_1] 5 true 0)) fun h5 =>
 (rdS 1 (⟨(some ⟨h1.next, 0, some 0⟩), 1, 1⟩ : Slc) h5).bind fun n7 =>
 (appendA 1 1 5 h5 x4 n7 1).bind fun r6 =>
 (b_0).bind fun p8 =>
 (st1 (⟨p8.block, p8.off + 1, none⟩ : Addr) (.slice r6.1.a r6.1.len r6.1.cap) r6.2).bind fun h9 =>
 some ((.nilIface), h9)
noncomputable def r_strings_Builder_WriteByte : RCode := an (.n) (rOf Try.prog 0 Try.f113)
noncomputable def e_strings_Builder_WriteByte (k : Nat) (D : CallF) : Ent := entOf 113 [(0, .p), (1, .i .u8)] [(4, .v)] (strings_Builder_WriteByte k D)
theorem q_strings_Builder_WriteByte : (Try.f113.body).bind (rcodeOf Try.prog 0 Try.f113.ntmps) = some (strip r_strings_Builder_WriteByte) := by kernel_rfl
theorem t_strings_Builder_WriteByte (k : Nat) (D : CallF) : curF [(0, .p), (1, .i .u8)] (fun args h => denF (C_strings_Builder_WriteByte k D) k r_strings_Builder_WriteByte [(4, .v)] [none] args h) = strings_Builder_WriteByte k D := by kernel_rfl
theorem ok_strings_Builder_WriteByte {D : CallF} (hD : CSound Try.prog 0 D) (k : Nat) : EntOk Try.prog 0 (e_strings_Builder_WriteByte k D) :=
 entOf_ok2 (mkC_sound hD (EntsOk.more (ok_strings_Builder_copyCheck hD k) (EntsOk.none))) Try.func113 rfl q_strings_Builder_WriteByte rfl (t_strings_Builder_WriteByte k D)
end Gc
namespace Gc
open Go Gx Go.Proofs
set_option maxRecDepth 100000
noncomputable def C_sha_Unhex (k : Nat) (D : CallF) : CallF := mkC D [e_strings_Builder_String k D, e_strings_IndexByte k D, e_strings_Builder_WriteByte k D]
noncomputable def sha_Unhex_l0b (k : Nat) (D : CallF) (j4 : (Option Addr) → AHeap → Option ((ByteArray × Int) × AHeap)) (rec11 : ByteArray → (Option Addr) → Int → AHeap → Option ((ByteArray × Int) × AHeap)) (s6 : ByteArray) (b7 : Option Addr) (i9 : Int) (h10 : AHeap) : Option ((ByteArray × Int) × AHeap) :=
 (if (decide (i9 < (s6.size : Int))) = true then
 (if ((IntKind.wrap .i64 (i9 + 1)) == (s6.size : Int)) = true then
 some (((⟨#[]⟩ : ByteArray), 3), h10)
 else
 (Gx.idxS s6 i9).bind fun b12 =>
 (strings_IndexByte k D (⟨#[48, 49, 50, 51, 52, 53, 54, 55, 56, 57, 97, 98, 99, 100, 101, 102]⟩ : ByteArray) b12 h10).bind fun r13 =>
 (Gx.idxS s6 (IntKind.wrap .i64 (i9 + 1))).bind fun b14 =>
 (strings_IndexByte k D (⟨#[48, 49, 50, 51, 52, 53, 54, 55, 56, 57, 97, 98, 99, 100, 101, 102]⟩ : ByteArray) b14 r13.2).bind fun r15 =>
 (if (decide ((if r15.1 < r13.1 then r15.1 else r13.1) < 0)) = true then
 some (((⟨#[]⟩ : ByteArray), 3), r15.2)
 else
 let t16 : Int := (IntKind.wrap .u8 (Go.bits .or .i64 (IntKind.wrap .i64 (r13.1 * 16)) r15.1))
 (strings_Builder_WriteByte k D b7 t16 r15.2).bind fun r17 =>
 rec11 s6 b7 (IntKind.wrap .i64 (i9 + 2)) r17.2))
 else
 j4 b7 h10)
noncomputable def sha_Unhex_l0 (k : Nat) (D : CallF) (j4 : (Option Addr) → AHeap → Option ((ByteArray × Int) × AHeap)) : ByteArray → (Option Addr) → Int → AHeap → Option ((ByteArray × Int) × AHeap) :=
 iterK (α := ByteArray → (Option Addr) → Int → AHeap → Option ((ByteArray × Int) × AHeap)) (fun _ _ _ _ => none) k (sha_Unhex_l0b k D j4)
noncomputable def sha_Unhex (k : Nat) (D : CallF) (s_0 : ByteArray) (h : AHeap) : Option ((ByteArray × Int) × AHeap) :=
 newK h ((.cells [.pointer none, .slice none 0 0] 111 true 0)) fun h1 =>
 joinK (fun (b2 : Option Addr) (h3 : AHeap) =>
 (strings_Builder_String k D b2 h3).bind fun r5 =>
 some ((r5.1, 0), r5.2)) fun j4 =>
 sha_Unhex_l0 k D j4 s_0 (some (⟨h.next, 0, none⟩ : Addr)) 0 h1
noncomputable def r_sha_Unhex : RCode := an (.s .n (.s .n (.s (.j [(4, .p)] (.s .n (.b (.l [(0, .s), (4, .p), (5, .i .i64)] .n)))) .n))) (rOf Try.prog 0 Try.f65)
noncomputable def e_sha_Unhex (k : Nat) (D : CallF) : Ent := entOf 65 [(0, .s)] [(2, .s), (3, .i .i64)] (sha_Unhex k D)
theorem q_sha_Unhex : (Try.f65.body).bind (rcodeOf Try.prog 0 Try.f65.ntmps) = some (strip r_sha_Unhex) := by kernel_rfl
theorem t_sha_Unhex (k : Nat) (D : CallF) : curF [(0, .s)] (fun args h => denF (C_sha_Unhex k D) k r_sha_Unhex [(2, .s), (3, .i .i64)] [none, none] args h) = sha_Unhex k D := by kernel_rfl
theorem ok_sha_Unhex {D : CallF} (hD : CSound Try.prog 0 D) (k : Nat) : EntOk Try.prog 0 (e_sha_Unhex k D) :=
 entOf_ok2 (mkC_sound hD (EntsOk.more (ok_strings_Builder_String hD k) (EntsOk.more (ok_strings_IndexByte hD k) (EntsOk.more (ok_strings_Builder_WriteByte hD k) (EntsOk.none))))) Try.func65 rfl q_sha_Unhex rfl (t_sha_Unhex k D)
end Gc
namespace Gc
open Go Gx Go.Proofs
set_option maxRecDepth 100000
noncomputable def C_ref02_digit (_k : Nat) (D : CallF) : CallF := mkC D []
noncomputable def ref02_digit (_k : Nat) (_D : CallF) (c_0 : Int) (h : AHeap) : Option ((Int) × AHeap) :=
 joinK (fun (c1 : Int) (y2 : Bool) (h3 : AHeap) =>
 (if y2 = true then
 some ((IntKind.wrap .i64 (IntKind.wrap .u8 (c1 - 48))), h3)
 else
 joinK (fun (c5 : Int) (y6 : Bool) (h7 : AHeap) =>
 (if y6 = true then
 let t9 : Int := (IntKind.wrap .i64 ((IntKind.wrap .i64 (IntKind.wrap .u8 (c5 - 97))) + 10))
 some (t9, h7)
 else
 some ((-1), h7))) fun j8 =>
 (if (decide (c1 ≥ 97)) = true then
 j8 c1 (decide (c1 ≤ 102)) h3
 else
 j8 c1 false h3))) fun j4 =>
 (if (decide (c_0 ≥ 48)) = true then
 j4 c_0 (decide (c_0 ≤ 57)) h
 else
 j4 c_0 false h)
noncomputable def r_ref02_digit : RCode := an (.s .n (.s (.b (.s (.j [(0, .i .u8), (3, .b)] .n) (.s .n (.s (.j [(0, .i .u8), (13, .b)] .n) .n)))) .n)) (rOf Try.prog 0 Try.f114)
noncomputable def e_ref02_digit (k : Nat) (D : CallF) : Ent := entOf 114 [(0, .i .u8)] [(2, .i .i64)] (ref02_digit k D)
theorem q_ref02_digit : (Try.f114.body).bind (rcodeOf Try.prog 0 Try.f114.ntmps) = some (strip r_ref02_digit) := by kernel_rfl
theorem t_ref02_digit (k : Nat) (D : CallF) : curF [(0, .i .u8)] (fun args h => denF (C_ref02_digit k D) k r_ref02_digit [(2, .i .i64)] [none] args h) = ref02_digit k D := by kernel_rfl
theorem ok_ref02_digit {D : CallF} (hD : CSound Try.prog 0 D) (k : Nat) : EntOk Try.prog 0 (e_ref02_digit k D) :=
 entOf_ok2 (mkC_sound hD (EntsOk.none)) Try.func114 rfl q_ref02_digit rfl (t_ref02_digit k D)
end Gc
namespace Gc
open Go Gx Go.Proofs
set_option maxRecDepth 100000
noncomputable def C_ref02_Unhex (k : Nat) (D : CallF) : CallF := mkC D [e_ref02_digit k D]
noncomputable def ref02_Unhex_l0b (k : Nat) (D : CallF) (j3 : Slc → AHeap → Option ((ByteArray × Int) × AHeap)) (rec9 : ByteArray → Slc → Int → AHeap → Option ((ByteArray × Int) × AHeap)) (s5 : ByteArray) (b6 : Slc) (i7 : Int) (h8 : AHeap) : Option ((ByteArray × Int) × AHeap) :=
 (if (decide (i7 < (s5.size : Int))) = true then
 (Gx.idxS s5 i7).bind fun b10 =>
 (ref02_digit k D b10 h8).bind fun r11 =>
 (Gx.idxS s5 (IntKind.wrap .i64 (i7 + 1))).bind fun b12 =>
 (ref02_digit k D b12 r11.2).bind fun r13 =>
 joinK (fun (s14 : ByteArray) (b15 : Slc) (i17 : Int) (x18 : Int) (y19 : Int) (y20 : Bool) (h21 : AHeap) =>
 (if y20 = true then
 some (((⟨#[]⟩ : ByteArray), 3), h21)
 else
 let t23 : Int := (IntKind.wrap .u8 (IntKind.wrap .i64 ((IntKind.wrap .i64 (16 * x18)) + y19)))
 newK h21 ((.cells [.int .u8 t23] 5 true 0)) fun h24 =>
 (rdS 1 (⟨(some ⟨h21.next, 0, some 0⟩), 1, 1⟩ : Slc) h24).bind fun n26 =>
 (appendA 1 1 5 h24 b15 n26 1).bind fun r25 =>
 rec9 s14 r25.1 (IntKind.wrap .i64 (i17 + 2)) r25.2)) fun j22 =>
 (if (decide (r11.1 < 0)) = true then
 j22 s5 b6 i7 r11.1 r13.1 true r13.2
 else
 j22 s5 b6 i7 r11.1 r13.1 (decide (r13.1 < 0)) r13.2)
 else
 j3 b6 h8)
noncomputable def ref02_Unhex_l0 (k : Nat) (D : CallF) (j3 : Slc → AHeap → Option ((ByteArray × Int) × AHeap)) : ByteArray → Slc → Int → AHeap → Option ((ByteArray × Int) × AHeap) :=
 iterK (α := ByteArray → Slc → Int → AHeap → Option ((ByteArray × Int) × AHeap)) (fun _ _ _ _ => none) k (ref02_Unhex_l0b k D j3)
noncomputable def ref02_Unhex (k : Nat) (D : CallF) (s_0 : ByteArray) (h : AHeap) : Option ((ByteArray × Int) × AHeap) :=
 (if ((Int.tmod (s_0.size : Int) 2) != 0) = true then
 some (((⟨#[]⟩ : ByteArray), 3), h)
 else
 joinK (fun (b1 : Slc) (h2 : AHeap) =>
 (bytesOf h2 b1).bind fun s4 =>
 some ((s4, 0), h2)) fun j3 =>
 ref02_Unhex_l0 k D j3 s_0 (⟨none, 0, 0⟩ : Slc) 0 h)
noncomputable def r_ref02_Unhex : RCode := an (.s .n (.s .n (.s .n (.s (.j [(4, .l)] (.s .n (.b (.l [(0, .s), (4, .l), (5, .i .i64)] (.s .n (.s (.b (.s .n (.s (.s (.j [(0, .s), (4, .l), (5, .i .i64), (6, .i .i64), (7, .i .i64), (32, .b)] .n) .n) .n))) .n)))))) .n)))) (rOf Try.prog 0 Try.f67)
noncomputable def e_ref02_Unhex (k : Nat) (D : CallF) : Ent := entOf 67 [(0, .s)] [(2, .s), (3, .i .i64)] (ref02_Unhex k D)
theorem q_ref02_Unhex : (Try.f67.body).bind (rcodeOf Try.prog 0 Try.f67.ntmps) = some (strip r_ref02_Unhex) := by kernel_rfl
theorem t_ref02_Unhex (k : Nat) (D : CallF) : curF [(0, .s)] (fun args h => denF (C_ref02_Unhex k D) k r_ref02_Unhex [(2, .s), (3, .i .i64)] [none, none] args h) = ref02_Unhex k D := by kernel_rfl
theorem ok_ref02_Unhex {D : CallF} (hD : CSound Try.prog 0 D) (k : Nat) : EntOk Try.prog 0 (e_ref02_Unhex k D) :=
 entOf_ok2 (mkC_sound hD (EntsOk.more (ok_ref02_digit hD k) (EntsOk.none))) Try.func67 rfl q_ref02_Unhex rfl (t_ref02_Unhex k D)
end Gc
namespace Gc
open Go Gx Go.Proofs
set_option maxRecDepth 100000
noncomputable def C_sha_Hex (k : Nat) (D : CallF) : CallF := mkC D [e_strings_Builder_String k D, e_strings_Builder_WriteByte k D]
noncomputable def sha_Hex_l0b (k : Nat) (D : CallF) (j4 : (Option Addr) → AHeap → Option ((ByteArray) × AHeap)) (rec12 : (Option Addr) → Slc → Int → Int → AHeap → Option ((ByteArray) × AHeap)) (b7 : Option Addr) (y8 : Slc) (y9 : Int) (y10 : Int) (h11 : AHeap) : Option ((ByteArray) × AHeap) :=
 (if (decide (y10 < y9)) = true then
 (Gx.idxL 1 y8 y10).bind fun q13 =>
 (ldI .u8 q13 h11).bind fun x14 =>
 (Gx.idxS (⟨#[48, 49, 50, 51, 52, 53, 54, 55, 56, 57, 97, 98, 99, 100, 101, 102]⟩ : ByteArray) (Int.fdiv x14 16)).bind fun b15 =>
 (strings_Builder_WriteByte k D b7 b15 h11).bind fun r16 =>
 (Gx.idxS (⟨#[48, 49, 50, 51, 52, 53, 54, 55, 56, 57, 97, 98, 99, 100, 101, 102]⟩ : ByteArray) (Go.bits .and .u8 x14 15)).bind fun b17 =>
 (strings_Builder_WriteByte k D b7 b17 r16.2).bind fun r18 =>
 rec12 b7 y8 y9 (IntKind.wrap .i64 (y10 + 1)) r18.2
 else
 j4 b7 h11)
noncomputable def sha_Hex_l0 (k : Nat) (D : CallF) (j4 : (Option Addr) → AHeap → Option ((ByteArray) × AHeap)) : (Option Addr) → Slc → Int → Int → AHeap → Option ((ByteArray) × AHeap) :=
 iterK (α := (Option Addr) → Slc → Int → Int → AHeap → Option ((ByteArray) × AHeap)) (fun _ _ _ _ _ => none) k (sha_Hex_l0b k D j4)
noncomputable def sha_Hex (k : Nat) (D : CallF) (s_0 : ByteArray) (h : AHeap) : Option ((ByteArray) × AHeap) :=
 newK h ((.cells [.pointer none, .slice none 0 0] 111 true 0)) fun h1 =>
 joinK (fun (b2 : Option Addr) (h3 : AHeap) =>
 (strings_Builder_String k D b2 h3).bind fun r5 =>
 some (r5.1, r5.2)) fun j4 =>
 newK h1 ((.cells (bytesL s_0) 5 true 18446744073709551616)) fun h6 =>
 sha_Hex_l0 k D j4 (some (⟨h.next, 0, none⟩ : Addr)) (⟨(some ⟨h1.next, 0, some 2⟩), s_0.size, s_0.size⟩ : Slc) (s_0.size : Int) 0 h6
noncomputable def r_sha_Hex : RCode := an (.s .n (.s .n (.s (.j [(3, .p)] (.s .n (.b (.l [(3, .p), (7, .l), (8, .i .i64), (9, .i .i64)] .n)))) .n))) (rOf Try.prog 0 Try.f68)
noncomputable def e_sha_Hex (k : Nat) (D : CallF) : Ent := entOf 68 [(0, .s)] [(2, .s)] (sha_Hex k D)
theorem q_sha_Hex : (Try.f68.body).bind (rcodeOf Try.prog 0 Try.f68.ntmps) = some (strip r_sha_Hex) := by kernel_rfl
theorem t_sha_Hex (k : Nat) (D : CallF) : curF [(0, .s)] (fun args h => denF (C_sha_Hex k D) k r_sha_Hex [(2, .s)] [none] args h) = sha_Hex k D := by kernel_rfl
theorem ok_sha_Hex {D : CallF} (hD : CSound Try.prog 0 D) (k : Nat) : EntOk Try.prog 0 (e_sha_Hex k D) :=
 entOf_ok2 (mkC_sound hD (EntsOk.more (ok_strings_Builder_String hD k) (EntsOk.more (ok_strings_Builder_WriteByte hD k) (EntsOk.none)))) Try.func68 rfl q_sha_Hex rfl (t_sha_Hex k D)
end Gc
namespace Gc
open Go Gx Go.Proofs
set_option maxRecDepth 100000
noncomputable def C_ref02_Hex (_k : Nat) (D : CallF) : CallF := mkC D []
noncomputable def ref02_Hex_l0b (_k : Nat) (_D : CallF) (j4 : Slc → AHeap → Option ((ByteArray) × AHeap)) (rec11 : ByteArray → ByteArray → Slc → Int → AHeap → Option ((ByteArray) × AHeap)) (s6 : ByteArray) (t7 : ByteArray) (b8 : Slc) (i9 : Int) (h10 : AHeap) : Option ((ByteArray) × AHeap) :=
 (if (decide (i9 < (s6.size : Int))) = true then
 (Gx.idxS s6 i9).bind fun b12 =>
 (Gx.idxS t7 (IntKind.wrap .u8 (Int.tdiv b12 16))).bind fun b13 =>
 (Gx.idxS s6 i9).bind fun b14 =>
 (Gx.idxS t7 (Int.tmod b14 16)).bind fun b15 =>
 newK h10 ((.cells [.int .u8 b13, .int .u8 b15] 5 true 0)) fun h16 =>
 (rdS 1 (⟨(some ⟨h10.next, 0, some 0⟩), 2, 2⟩ : Slc) h16).bind fun n18 =>
 (appendA 1 1 5 h16 b8 n18 2).bind fun r17 =>
 rec11 s6 t7 r17.1 (IntKind.wrap .i64 (i9 + 1)) r17.2
 else
 j4 b8 h10)
noncomputable def ref02_Hex_l0 (k : Nat) (D : CallF) (j4 : Slc → AHeap → Option ((ByteArray) × AHeap)) : ByteArray → ByteArray → Slc → Int → AHeap → Option ((ByteArray) × AHeap) :=
 iterK (α := ByteArray → ByteArray → Slc → Int → AHeap → Option ((ByteArray) × AHeap)) (fun _ _ _ _ _ => none) k (ref02_Hex_l0b k D j4)
noncomputable def ref02_Hex (k : Nat) (D : CallF) (s_0 : ByteArray) (h : AHeap) : Option ((ByteArray) × AHeap) :=
 let s1 : ByteArray := (⟨#[48, 49, 50, 51, 52, 53, 54, 55, 56, 57, 97, 98, 99, 100, 101, 102]⟩ : ByteArray)
 joinK (fun (b2 : Slc) (h3 : AHeap) =>
 (bytesOf h3 b2).bind fun s5 =>
 some (s5, h3)) fun j4 =>
 ref02_Hex_l0 k D j4 s_0 s1 (⟨none, 0, 0⟩ : Slc) 0 h
noncomputable def r_ref02_Hex : RCode := an (.s .n (.s .n (.s .n (.s (.j [(4, .l)] (.s .n (.b (.l [(0, .s), (3, .s), (4, .l), (5, .i .i64)] .n)))) .n)))) (rOf Try.prog 0 Try.f69)
noncomputable def e_ref02_Hex (k : Nat) (D : CallF) : Ent := entOf 69 [(0, .s)] [(2, .s)] (ref02_Hex k D)
theorem q_ref02_Hex : (Try.f69.body).bind (rcodeOf Try.prog 0 Try.f69.ntmps) = some (strip r_ref02_Hex) := by kernel_rfl
theorem t_ref02_Hex (k : Nat) (D : CallF) : curF [(0, .s)] (fun args h => denF (C_ref02_Hex k D) k r_ref02_Hex [(2, .s)] [none] args h) = ref02_Hex k D := by kernel_rfl
theorem ok_ref02_Hex {D : CallF} (hD : CSound Try.prog 0 D) (k : Nat) : EntOk Try.prog 0 (e_ref02_Hex k D) :=
 entOf_ok2 (mkC_sound hD (EntsOk.none)) Try.func69 rfl q_ref02_Hex rfl (t_ref02_Hex k D)
end Gc
namespace Gc
open Go Gx Go.Proofs
set_option maxRecDepth 100000
noncomputable def C_index_IdOf (k : Nat) (D : CallF) : CallF := mkC D [e_strings_CutPrefix k D, e_sha_Unhex k D, e_sha_IsId k D]
noncomputable def index_IdOf (k : Nat) (D : CallF) (name_0 : ByteArray) (h : AHeap) : Option ((ByteArray × Int) × AHeap) :=
 (strings_CutPrefix k D name_0 (⟨#[105, 110, 100, 101, 120, 47]⟩ : ByteArray) h).bind fun r1 =>
 (sha_Unhex k D r1.1.1 r1.2).bind fun r2 =>
 joinK (fun (id3 : ByteArray) (y4 : Bool) (h5 : AHeap) =>
 (if y4 = true then
 some (((⟨#[]⟩ : ByteArray), 5), h5)
 else
 some ((id3, 0), h5))) fun j6 =>
 (if (!r1.1.2) = true then
 j6 r2.1.1 true r2.2
 else
 (if (r2.1.2 != 0) = true then
 j6 r2.1.1 true r2.2
 else
 (sha_IsId k D r2.1.1 r2.2).bind fun r7 =>
 j6 r2.1.1 (!r7.1) r7.2))
noncomputable def r_index_IdOf : RCode := an (.s .n (.s .n (.s .n (.s (.s (.j [(6, .s), (28, .b)] .n) .n) .n)))) (rOf Try.prog 0 Try.f21)
noncomputable def e_index_IdOf (k : Nat) (D : CallF) : Ent := entOf 21 [(0, .s)] [(2, .s), (3, .i .i64)] (index_IdOf k D)
theorem q_index_IdOf : (Try.f21.body).bind (rcodeOf Try.prog 0 Try.f21.ntmps) = some (strip r_index_IdOf) := by kernel_rfl
theorem t_index_IdOf (k : Nat) (D : CallF) : curF [(0, .s)] (fun args h => denF (C_index_IdOf k D) k r_index_IdOf [(2, .s), (3, .i .i64)] [none, none] args h) = index_IdOf k D := by kernel_rfl
theorem ok_index_IdOf {D : CallF} (hD : CSound Try.prog 0 D) (k : Nat) : EntOk Try.prog 0 (e_index_IdOf k D) :=
 entOf_ok2 (mkC_sound hD (EntsOk.more (ok_strings_CutPrefix hD k) (EntsOk.more (ok_sha_Unhex hD k) (EntsOk.more (ok_sha_IsId hD k) (EntsOk.none))))) Try.func21 rfl q_index_IdOf rfl (t_index_IdOf k D)
end Gc
namespace Gc
open Go Gx Go.Proofs
set_option maxRecDepth 100000
noncomputable def C_ref16_IdOf (k : Nat) (D : CallF) : CallF := mkC D [e_ref02_Unhex k D]
noncomputable def ref16_IdOf (k : Nat) (D : CallF) (name_0 : ByteArray) (h : AHeap) : Option ((ByteArray × Int) × AHeap) :=
 joinK (fun (name1 : ByteArray) (y2 : Bool) (h3 : AHeap) =>
 (if y2 = true then
 some (((⟨#[]⟩ : ByteArray), 5), h3)
 else
 (Gx.subS name1 (some 6) none).bind fun s5 =>
 (ref02_Unhex k D s5 h3).bind fun r6 =>
 (if (r6.1.2 != 0) = true then
 some (((⟨#[]⟩ : ByteArray), 5), r6.2)
 else
 some ((r6.1.1, 0), r6.2)))) fun j4 =>
 (if ((name_0.size : Int) != 70) = true then
 j4 name_0 true h
 else
 (Gx.subS name_0 none (some 6)).bind fun s7 =>
 j4 name_0 (!(s7 == (⟨#[105, 110, 100, 101, 120, 47]⟩ : ByteArray))) h)
noncomputable def r_ref16_IdOf : RCode := an (.s .n (.s (.s (.j [(0, .s), (13, .b)] .n) .n) .n)) (rOf Try.prog 0 Try.f22)
noncomputable def e_ref16_IdOf (k : Nat) (D : CallF) : Ent := entOf 22 [(0, .s)] [(2, .s), (3, .i .i64)] (ref16_IdOf k D)
theorem q_ref16_IdOf : (Try.f22.body).bind (rcodeOf Try.prog 0 Try.f22.ntmps) = some (strip r_ref16_IdOf) := by kernel_rfl
theorem t_ref16_IdOf (k : Nat) (D : CallF) : curF [(0, .s)] (fun args h => denF (C_ref16_IdOf k D) k r_ref16_IdOf [(2, .s), (3, .i .i64)] [none, none] args h) = ref16_IdOf k D := by kernel_rfl
theorem ok_ref16_IdOf {D : CallF} (hD : CSound Try.prog 0 D) (k : Nat) : EntOk Try.prog 0 (e_ref16_IdOf k D) :=
 entOf_ok2 (mkC_sound hD (EntsOk.more (ok_ref02_Unhex hD k) (EntsOk.none))) Try.func22 rfl q_ref16_IdOf rfl (t_ref16_IdOf k D)
end Gc
namespace Gc
open Go Gx Go.Proofs
set_option maxRecDepth 100000
noncomputable def C_index_Name (k : Nat) (D : CallF) : CallF := mkC D [e_sha_Hex k D]
noncomputable def index_Name (k : Nat) (D : CallF) (id_0 : ByteArray) (h : AHeap) : Option ((ByteArray) × AHeap) :=
 (sha_Hex k D id_0 h).bind fun r1 =>
 (if (⟨#[105, 110, 100, 101, 120, 47]⟩ : ByteArray).size + r1.1.size ≤ 9223372036854775807 then
 some (((⟨#[105, 110, 100, 101, 120, 47]⟩ : ByteArray) ++ r1.1), r1.2)
 else none)
noncomputable def r_index_Name : RCode := an (.n) (rOf Try.prog 0 Try.f23)
noncomputable def e_index_Name (k : Nat) (D : CallF) : Ent := entOf 23 [(0, .s)] [(2, .s)] (index_Name k D)
theorem q_index_Name : (Try.f23.body).bind (rcodeOf Try.prog 0 Try.f23.ntmps) = some (strip r_index_Name) := by kernel_rfl
theorem t_index_Name (k : Nat) (D : CallF) : curF [(0, .s)] (fun args h => denF (C_index_Name k D) k r_index_Name [(2, .s)] [none] args h) = index_Name k D := by kernel_rfl
theorem ok_index_Name {D : CallF} (hD : CSound Try.prog 0 D) (k : Nat) : EntOk Try.prog 0 (e_index_Name k D) :=
 entOf_ok2 (mkC_sound hD (EntsOk.more (ok_sha_Hex hD k) (EntsOk.none))) Try.func23 rfl q_index_Name rfl (t_index_Name k D)
end Gc
namespace Gc
open Go Gx Go.Proofs
set_option maxRecDepth 100000
noncomputable def C_ref16_Name (k : Nat) (D : CallF) : CallF := mkC D [e_ref02_Hex k D]
noncomputable def ref16_Name (k : Nat) (D : CallF) (id_0 : ByteArray) (h : AHeap) : Option ((ByteArray) × AHeap) :=
 (ref02_Hex k D id_0 h).bind fun r1 =>
 (if (⟨#[105, 110, 100, 101, 120, 47]⟩ : ByteArray).size + r1.1.size ≤ 9223372036854775807 then
 some (((⟨#[105, 110, 100, 101, 120, 47]⟩ : ByteArray) ++ r1.1), r1.2)
 else none)
noncomputable def r_ref16_Name : RCode := an (.n) (rOf Try.prog 0 Try.f24)
noncomputable def e_ref16_Name (k : Nat) (D : CallF) : Ent := entOf 24 [(0, .s)] [(2, .s)] (ref16_Name k D)
theorem q_ref16_Name : (Try.f24.body).bind (rcodeOf Try.prog 0 Try.f24.ntmps) = some (strip r_ref16_Name) := by kernel_rfl
theorem t_ref16_Name (k : Nat) (D : CallF) : curF [(0, .s)] (fun args h => denF (C_ref16_Name k D) k r_ref16_Name [(2, .s)] [none] args h) = ref16_Name k D := by kernel_rfl
theorem ok_ref16_Name {D : CallF} (hD : CSound Try.prog 0 D) (k : Nat) : EntOk Try.prog 0 (e_ref16_Name k D) :=
 entOf_ok2 (mkC_sound hD (EntsOk.more (ok_ref02_Hex hD k) (EntsOk.none))) Try.func24 rfl q_ref16_Name rfl (t_ref16_Name k D)
end Gc
namespace Gc
open Go Gx Go.Proofs
set_option maxRecDepth 100000
noncomputable def C_ref01_Reader_Short (_k : Nat) (D : CallF) : CallF := mkC D []
noncomputable def ref01_Reader_Short_l0b (_k : Nat) (_D : CallF) (j5 : (Option Addr) → AHeap → Option ((Int) × AHeap)) (rec13 : (Option Addr) → Int → Int → Int → AHeap → Option ((Int) × AHeap)) (r8 : Option Addr) (most9 : Int) (n10 : Int) (i11 : Int) (h12 : AHeap) : Option ((Int) × AHeap) :=
 (if (decide (i11 < 9)) = true then
 (r8).bind fun p14 =>
 (ldI .i64 (⟨p14.block, p14.off + 1, none⟩ : Addr) h12).bind fun x15 =>
 (r8).bind fun p16 =>
 (ldS (⟨p16.block, p16.off + 0, none⟩ : Addr) h12).bind fun x17 =>
 (if (decide ((IntKind.wrap .i64 (x15 + i11)) ≥ (x17.size : Int))) = true then
 (r8).bind fun p18 =>
 (st1 (⟨p18.block, p18.off + 2, none⟩ : Addr) (.int .i64 10) h12).bind fun h19 =>
 some (0, h19)
 else
 (r8).bind fun p20 =>
 (ldS (⟨p20.block, p20.off + 0, none⟩ : Addr) h12).bind fun x21 =>
 (r8).bind fun p22 =>
 (ldI .i64 (⟨p22.block, p22.off + 1, none⟩ : Addr) h12).bind fun x23 =>
 (Gx.idxS x21 (IntKind.wrap .i64 (x23 + i11))).bind fun b24 =>
 (if 0 ≤ (IntKind.wrap .i64 (7 * i11)) then
 let t25 : Int := (IntKind.wrap .i64 ((Int.tmod (IntKind.wrap .i64 b24) 128) * 2 ^ (min ((IntKind.wrap .i64 (7 * i11))).toNat (IntKind.bits .i64))))
 (if (decide ((IntKind.wrap .i64 b24) < 128)) = true then
 joinK (fun (r26 : Option Addr) (most27 : Int) (n28 : Int) (i29 : Int) (y30 : Bool) (h31 : AHeap) =>
 (if y30 = true then
 (r26).bind fun p33 =>
 (st1 (⟨p33.block, p33.off + 2, none⟩ : Addr) (.int .i64 3) h31).bind fun h34 =>
 some (0, h34)
 else
 (if (decide (n28 > most27)) = true then
 (r26).bind fun p35 =>
 (st1 (⟨p35.block, p35.off + 2, none⟩ : Addr) (.int .i64 2) h31).bind fun h36 =>
 some (0, h36)
 else
 (r26).bind fun p37 =>
 (ldI .i64 (⟨p37.block, p37.off + 1, none⟩ : Addr) h31).bind fun x38 =>
 (r26).bind fun p39 =>
 (st1 (⟨p39.block, p39.off + 1, none⟩ : Addr) (.int .i64 (IntKind.wrap .i64 (x38 + (IntKind.wrap .i64 (i29 + 1))))) h31).bind fun h40 =>
 some (n28, h40)))) fun j32 =>
 (if ((IntKind.wrap .i64 b24) == 0) = true then
 j32 r8 most9 (IntKind.wrap .i64 (n10 + t25)) i11 (decide (i11 > 0)) h12
 else
 j32 r8 most9 (IntKind.wrap .i64 (n10 + t25)) i11 false h12)
 else
 rec13 r8 most9 (IntKind.wrap .i64 (n10 + t25)) (IntKind.wrap .i64 (i11 + 1)) h12)
 else none))
 else
 j5 r8 h12)
noncomputable def ref01_Reader_Short_l0 (k : Nat) (D : CallF) (j5 : (Option Addr) → AHeap → Option ((Int) × AHeap)) : (Option Addr) → Int → Int → Int → AHeap → Option ((Int) × AHeap) :=
 iterK (α := (Option Addr) → Int → Int → Int → AHeap → Option ((Int) × AHeap)) (fun _ _ _ _ _ => none) k (ref01_Reader_Short_l0b k D j5)
noncomputable def ref01_Reader_Short (k : Nat) (D : CallF) (r_0 : Option Addr) (most_1 : Int) (h : AHeap) : Option ((Int) × AHeap) :=
 (r_0).bind fun p1 =>
 (ldI .i64 (⟨p1.block, p1.off + 2, none⟩ : Addr) h).bind fun x2 =>
 (if (x2 != 0) = true then
 some (0, h)
 else
 joinK (fun (r3 : Option Addr) (h4 : AHeap) =>
 (r3).bind fun p6 =>
 (st1 (⟨p6.block, p6.off + 2, none⟩ : Addr) (.int .i64 3) h4).bind fun h7 =>
 some (0, h7)) fun j5 =>
 ref01_Reader_Short_l0 k D j5 r_0 most_1 0 0 h)
noncomputable def r_ref01_Reader_Short : RCode := an (.s .n (.s .n (.s .n (.s (.j [(0, .p)] (.s .n (.b (.l [(0, .p), (1, .i .i64), (5, .i .i64), (6, .i .i64)] (.s .n (.s (.b (.s .n (.s .n (.s .n (.s .n (.s (.s (.s (.j [(0, .p), (1, .i .i64), (5, .i .i64), (6, .i .i64), (58, .b)] .n) .n) .n) .n)))))) .n)))))) .n)))) (rOf Try.prog 0 Try.f61)
noncomputable def e_ref01_Reader_Short (k : Nat) (D : CallF) : Ent := entOf 61 [(0, .p), (1, .i .i64)] [(4, .i .i64)] (ref01_Reader_Short k D)
theorem q_ref01_Reader_Short : (Try.f61.body).bind (rcodeOf Try.prog 0 Try.f61.ntmps) = some (strip r_ref01_Reader_Short) := by kernel_rfl
theorem t_ref01_Reader_Short (k : Nat) (D : CallF) : curF [(0, .p), (1, .i .i64)] (fun args h => denF (C_ref01_Reader_Short k D) k r_ref01_Reader_Short [(4, .i .i64)] [none] args h) = ref01_Reader_Short k D := by kernel_rfl
theorem ok_ref01_Reader_Short {D : CallF} (hD : CSound Try.prog 0 D) (k : Nat) : EntOk Try.prog 0 (e_ref01_Reader_Short k D) :=
 entOf_ok2 (mkC_sound hD (EntsOk.none)) Try.func61 rfl q_ref01_Reader_Short rfl (t_ref01_Reader_Short k D)
end Gc
namespace Gc
open Go Gx Go.Proofs
set_option maxRecDepth 100000
noncomputable def C_ref01_Reader_Left (_k : Nat) (D : CallF) : CallF := mkC D []
noncomputable def ref01_Reader_Left (_k : Nat) (_D : CallF) (r_0 : Option Addr) (h : AHeap) : Option ((Int) × AHeap) :=
 (r_0).bind fun p1 =>
 (ldS (⟨p1.block, p1.off + 0, none⟩ : Addr) h).bind fun x2 =>
 (r_0).bind fun p3 =>
 (ldI .i64 (⟨p3.block, p3.off + 1, none⟩ : Addr) h).bind fun x4 =>
 some ((IntKind.wrap .i64 ((x2.size : Int) - x4)), h)
noncomputable def r_ref01_Reader_Left : RCode := an (.n) (rOf Try.prog 0 Try.f109)
noncomputable def e_ref01_Reader_Left (k : Nat) (D : CallF) : Ent := entOf 109 [(0, .p)] [(2, .i .i64)] (ref01_Reader_Left k D)
theorem q_ref01_Reader_Left : (Try.f109.body).bind (rcodeOf Try.prog 0 Try.f109.ntmps) = some (strip r_ref01_Reader_Left) := by kernel_rfl
theorem t_ref01_Reader_Left (k : Nat) (D : CallF) : curF [(0, .p)] (fun args h => denF (C_ref01_Reader_Left k D) k r_ref01_Reader_Left [(2, .i .i64)] [none] args h) = ref01_Reader_Left k D := by kernel_rfl
theorem ok_ref01_Reader_Left {D : CallF} (hD : CSound Try.prog 0 D) (k : Nat) : EntOk Try.prog 0 (e_ref01_Reader_Left k D) :=
 entOf_ok2 (mkC_sound hD (EntsOk.none)) Try.func109 rfl q_ref01_Reader_Left rfl (t_ref01_Reader_Left k D)
end Gc
namespace Gc
open Go Gx Go.Proofs
set_option maxRecDepth 100000
noncomputable def C_ref01_Reader_Bytes (k : Nat) (D : CallF) : CallF := mkC D [e_ref01_Reader_Left k D]
noncomputable def ref01_Reader_Bytes (k : Nat) (D : CallF) (r_0 : Option Addr) (n_1 : Int) (h : AHeap) : Option ((ByteArray) × AHeap) :=
 (r_0).bind fun p1 =>
 (ldI .i64 (⟨p1.block, p1.off + 2, none⟩ : Addr) h).bind fun x2 =>
 (if (x2 != 0) = true then
 some ((⟨#[]⟩ : ByteArray), h)
 else
 (if (decide (n_1 < 0)) = true then
 (r_0).bind fun p3 =>
 (st1 (⟨p3.block, p3.off + 2, none⟩ : Addr) (.int .i64 1) h).bind fun h4 =>
 some ((⟨#[]⟩ : ByteArray), h4)
 else
 (ref01_Reader_Left k D r_0 h).bind fun r5 =>
 (if (decide (n_1 > r5.1)) = true then
 (r_0).bind fun p6 =>
 (st1 (⟨p6.block, p6.off + 2, none⟩ : Addr) (.int .i64 10) r5.2).bind fun h7 =>
 some ((⟨#[]⟩ : ByteArray), h7)
 else
 (r_0).bind fun p8 =>
 (ldI .i64 (⟨p8.block, p8.off + 1, none⟩ : Addr) r5.2).bind fun x9 =>
 (r_0).bind fun p10 =>
 (st1 (⟨p10.block, p10.off + 1, none⟩ : Addr) (.int .i64 (IntKind.wrap .i64 (x9 + n_1))) r5.2).bind fun h11 =>
 (r_0).bind fun p12 =>
 (ldS (⟨p12.block, p12.off + 0, none⟩ : Addr) h11).bind fun x13 =>
 (r_0).bind fun p14 =>
 (ldI .i64 (⟨p14.block, p14.off + 1, none⟩ : Addr) h11).bind fun x15 =>
 (r_0).bind fun p16 =>
 (ldI .i64 (⟨p16.block, p16.off + 1, none⟩ : Addr) h11).bind fun x17 =>
 (Gx.subS x13 (some (IntKind.wrap .i64 (x15 - n_1))) (some x17)).bind fun s18 =>
 some (s18, h11))))
noncomputable def r_ref01_Reader_Bytes : RCode := an (.n) (rOf Try.prog 0 Try.f62)
noncomputable def e_ref01_Reader_Bytes (k : Nat) (D : CallF) : Ent := entOf 62 [(0, .p), (1, .i .i64)] [(4, .s)] (ref01_Reader_Bytes k D)
theorem q_ref01_Reader_Bytes : (Try.f62.body).bind (rcodeOf Try.prog 0 Try.f62.ntmps) = some (strip r_ref01_Reader_Bytes) := by kernel_rfl
theorem t_ref01_Reader_Bytes (k : Nat) (D : CallF) : curF [(0, .p), (1, .i .i64)] (fun args h => denF (C_ref01_Reader_Bytes k D) k r_ref01_Reader_Bytes [(4, .s)] [none] args h) = ref01_Reader_Bytes k D := by kernel_rfl
theorem ok_ref01_Reader_Bytes {D : CallF} (hD : CSound Try.prog 0 D) (k : Nat) : EntOk Try.prog 0 (e_ref01_Reader_Bytes k D) :=
 entOf_ok2 (mkC_sound hD (EntsOk.more (ok_ref01_Reader_Left hD k) (EntsOk.none))) Try.func62 rfl q_ref01_Reader_Bytes rfl (t_ref01_Reader_Bytes k D)
end Gc
namespace Gc
open Go Gx Go.Proofs
set_option maxRecDepth 100000
noncomputable def C_ref01_Num (_k : Nat) (D : CallF) : CallF := mkC D []
noncomputable def ref01_Num_l0b (_k : Nat) (_D : CallF) (j3 : Int → AHeap → Option ((Int) × AHeap)) (rec8 : ByteArray → Int → Int → AHeap → Option ((Int) × AHeap)) (s4 : ByteArray) (n5 : Int) (i6 : Int) (h7 : AHeap) : Option ((Int) × AHeap) :=
 (if (decide (i6 < (s4.size : Int))) = true then
 (Gx.idxS s4 i6).bind fun b9 =>
 let t10 : Int := (IntKind.wrap .i64 ((IntKind.wrap .i64 (n5 * 256)) + (IntKind.wrap .i64 b9)))
 rec8 s4 t10 (IntKind.wrap .i64 (i6 + 1)) h7
 else
 j3 n5 h7)
noncomputable def ref01_Num_l0 (k : Nat) (D : CallF) (j3 : Int → AHeap → Option ((Int) × AHeap)) : ByteArray → Int → Int → AHeap → Option ((Int) × AHeap) :=
 iterK (α := ByteArray → Int → Int → AHeap → Option ((Int) × AHeap)) (fun _ _ _ _ => none) k (ref01_Num_l0b k D j3)
noncomputable def ref01_Num (k : Nat) (D : CallF) (s_0 : ByteArray) (h : AHeap) : Option ((Int) × AHeap) :=
 joinK (fun (n1 : Int) (h2 : AHeap) =>
 some (n1, h2)) fun j3 =>
 ref01_Num_l0 k D j3 s_0 0 0 h
noncomputable def r_ref01_Num : RCode := an (.s .n (.s .n (.s (.j [(3, .i .i64)] (.s .n (.b (.l [(0, .s), (3, .i .i64), (4, .i .i64)] .n)))) .n))) (rOf Try.prog 0 Try.f110)
noncomputable def e_ref01_Num (k : Nat) (D : CallF) : Ent := entOf 110 [(0, .s)] [(2, .i .i64)] (ref01_Num k D)
theorem q_ref01_Num : (Try.f110.body).bind (rcodeOf Try.prog 0 Try.f110.ntmps) = some (strip r_ref01_Num) := by kernel_rfl
theorem t_ref01_Num (k : Nat) (D : CallF) : curF [(0, .s)] (fun args h => denF (C_ref01_Num k D) k r_ref01_Num [(2, .i .i64)] [none] args h) = ref01_Num k D := by kernel_rfl
theorem ok_ref01_Num {D : CallF} (hD : CSound Try.prog 0 D) (k : Nat) : EntOk Try.prog 0 (e_ref01_Num k D) :=
 entOf_ok2 (mkC_sound hD (EntsOk.none)) Try.func110 rfl q_ref01_Num rfl (t_ref01_Num k D)
end Gc
namespace Gc
open Go Gx Go.Proofs
set_option maxRecDepth 100000
noncomputable def C_ref01_Reader_Fixed (k : Nat) (D : CallF) : CallF := mkC D [e_ref01_Reader_Bytes k D, e_ref01_Num k D]
noncomputable def ref01_Reader_Fixed (k : Nat) (D : CallF) (r_0 : Option Addr) (bytes_1 : Int) (h : AHeap) : Option ((Int) × AHeap) :=
 joinK (fun (r1 : Option Addr) (bytes2 : Int) (h3 : AHeap) =>
 (ref01_Reader_Bytes k D r1 bytes2 h3).bind fun r5 =>
 (ref01_Num k D r5.1 r5.2).bind fun r6 =>
 some (r6.1, r6.2)) fun j4 =>
 joinK (fun (r7 : Option Addr) (bytes8 : Int) (y9 : Bool) (h10 : AHeap) =>
 (if y9 = true then
 (r7).bind fun p12 =>
 (st1 (⟨p12.block, p12.off + 2, none⟩ : Addr) (.int .i64 1) h10).bind fun h13 =>
 j4 r7 bytes8 h13
 else
 j4 r7 bytes8 h10)) fun j11 =>
 (r_0).bind fun p14 =>
 (ldI .i64 (⟨p14.block, p14.off + 2, none⟩ : Addr) h).bind fun x15 =>
 (if (x15 == 0) = true then
 (if (decide (bytes_1 < 1)) = true then
 j11 r_0 bytes_1 true h
 else
 j11 r_0 bytes_1 (decide (bytes_1 > 7)) h)
 else
 j11 r_0 bytes_1 false h)
noncomputable def r_ref01_Reader_Fixed : RCode := an (.s .n (.s (.j [(0, .p), (1, .i .i64)] (.s (.j [(0, .p), (1, .i .i64), (17, .b)] .n) .n)) .n)) (rOf Try.prog 0 Try.f63)
noncomputable def e_ref01_Reader_Fixed (k : Nat) (D : CallF) : Ent := entOf 63 [(0, .p), (1, .i .i64)] [(4, .i .i64)] (ref01_Reader_Fixed k D)
theorem q_ref01_Reader_Fixed : (Try.f63.body).bind (rcodeOf Try.prog 0 Try.f63.ntmps) = some (strip r_ref01_Reader_Fixed) := by kernel_rfl
theorem t_ref01_Reader_Fixed (k : Nat) (D : CallF) : curF [(0, .p), (1, .i .i64)] (fun args h => denF (C_ref01_Reader_Fixed k D) k r_ref01_Reader_Fixed [(4, .i .i64)] [none] args h) = ref01_Reader_Fixed k D := by kernel_rfl
theorem ok_ref01_Reader_Fixed {D : CallF} (hD : CSound Try.prog 0 D) (k : Nat) : EntOk Try.prog 0 (e_ref01_Reader_Fixed k D) :=
 entOf_ok2 (mkC_sound hD (EntsOk.more (ok_ref01_Reader_Bytes hD k) (EntsOk.more (ok_ref01_Num hD k) (EntsOk.none)))) Try.func63 rfl q_ref01_Reader_Fixed rfl (t_ref01_Reader_Fixed k D)
end Gc
namespace Gc
open Go Gx Go.Proofs
set_option maxRecDepth 100000
noncomputable def C_ref01_Reader_Fail (_k : Nat) (D : CallF) : CallF := mkC D []
noncomputable def ref01_Reader_Fail (_k : Nat) (_D : CallF) (r_0 : Option Addr) (e_1 : Int) (h : AHeap) : Option ((Unit) × AHeap) :=
 (r_0).bind fun p1 =>
 (ldI .i64 (⟨p1.block, p1.off + 2, none⟩ : Addr) h).bind fun x2 =>
 (if (x2 == 0) = true then
 (r_0).bind fun p3 =>
 (st1 (⟨p3.block, p3.off + 2, none⟩ : Addr) (.int .i64 e_1) h).bind fun h4 =>
 some ((), h4)
 else
 some ((), h))
noncomputable def r_ref01_Reader_Fail : RCode := an (.n) (rOf Try.prog 0 Try.f111)
noncomputable def e_ref01_Reader_Fail (k : Nat) (D : CallF) : Ent := entOf 111 [(0, .p), (1, .i .i64)] [] (ref01_Reader_Fail k D)
theorem q_ref01_Reader_Fail : (Try.f111.body).bind (rcodeOf Try.prog 0 Try.f111.ntmps) = some (strip r_ref01_Reader_Fail) := by kernel_rfl
theorem t_ref01_Reader_Fail (k : Nat) (D : CallF) : curF [(0, .p), (1, .i .i64)] (fun args h => denF (C_ref01_Reader_Fail k D) k r_ref01_Reader_Fail [] [] args h) = ref01_Reader_Fail k D := by kernel_rfl
theorem ok_ref01_Reader_Fail {D : CallF} (hD : CSound Try.prog 0 D) (k : Nat) : EntOk Try.prog 0 (e_ref01_Reader_Fail k D) :=
 entOf_ok2 (mkC_sound hD (EntsOk.none)) Try.func111 rfl q_ref01_Reader_Fail rfl (t_ref01_Reader_Fail k D)
end Gc
namespace Gc
open Go Gx Go.Proofs
set_option maxRecDepth 100000
noncomputable def C_ref01_Reader_End (k : Nat) (D : CallF) : CallF := mkC D [e_ref01_Reader_Left k D, e_ref01_Reader_Fail k D]
noncomputable def ref01_Reader_End (k : Nat) (D : CallF) (r_0 : Option Addr) (h : AHeap) : Option ((Int) × AHeap) :=
 joinK (fun (r1 : Option Addr) (h2 : AHeap) =>
 (r1).bind fun p4 =>
 (ldI .i64 (⟨p4.block, p4.off + 2, none⟩ : Addr) h2).bind fun x5 =>
 some (x5, h2)) fun j3 =>
 (ref01_Reader_Left k D r_0 h).bind fun r6 =>
 (if (decide (r6.1 > 0)) = true then
 (ref01_Reader_Fail k D r_0 3 r6.2).bind fun r7 =>
 j3 r_0 r7.2
 else
 j3 r_0 r6.2)
noncomputable def r_ref01_Reader_End : RCode := an (.s .n (.s (.j [(0, .p)] .n) .n)) (rOf Try.prog 0 Try.f64)
noncomputable def e_ref01_Reader_End (k : Nat) (D : CallF) : Ent := entOf 64 [(0, .p)] [(2, .i .i64)] (ref01_Reader_End k D)
theorem q_ref01_Reader_End : (Try.f64.body).bind (rcodeOf Try.prog 0 Try.f64.ntmps) = some (strip r_ref01_Reader_End) := by kernel_rfl
theorem t_ref01_Reader_End (k : Nat) (D : CallF) : curF [(0, .p)] (fun args h => denF (C_ref01_Reader_End k D) k r_ref01_Reader_End [(2, .i .i64)] [none] args h) = ref01_Reader_End k D := by kernel_rfl
theorem ok_ref01_Reader_End {D : CallF} (hD : CSound Try.prog 0 D) (k : Nat) : EntOk Try.prog 0 (e_ref01_Reader_End k D) :=
 entOf_ok2 (mkC_sound hD (EntsOk.more (ok_ref01_Reader_Left hD k) (EntsOk.more (ok_ref01_Reader_Fail hD k) (EntsOk.none)))) Try.func64 rfl q_ref01_Reader_End rfl (t_ref01_Reader_End k D)
end Gc
namespace Gc
open Go Gx Go.Proofs
set_option maxRecDepth 100000
noncomputable def C_ref16_Decode (k : Nat) (D : CallF) : CallF := mkC D [e_ref01_Reader_Short k D, e_ref01_Reader_End k D, e_ref16_refused k D, e_ref01_Reader_Bytes k D, e_ref01_Reader_Fixed k D]
noncomputable def ref16_Decode_l1b (k : Nat) (D : CallF) (j19 : (Option Addr) → (Option Addr) → (Option Addr) → AHeap → Option (((Slc × Slc) × Int) × AHeap)) (rec94 : (Option Addr) → (Option Addr) → (Option Addr) → Int → Int → AHeap → Option (((Slc × Slc) × Int) × AHeap)) (y88 : Option Addr) (r89 : Option Addr) (f90 : Option Addr) (n91 : Int) (i92 : Int) (h93 : AHeap) : Option (((Slc × Slc) × Int) × AHeap) :=
 joinK (fun (y95 : Option Addr) (r96 : Option Addr) (f97 : Option Addr) (n98 : Int) (i99 : Int) (y100 : Bool) (h101 : AHeap) =>
 (if y100 = true then
 (ref01_Reader_Bytes k D r96 32 h101).bind fun r103 =>
 newK r103.2 ((.cells [.string r103.1] 9 true 0)) fun h104 =>
 (f97).bind fun p105 =>
 (ldL (⟨p105.block, p105.off + 0, none⟩ : Addr) h104).bind fun x106 =>
 guardP (SameW [r103.2, h101] (fun H108 => (ldL (⟨p105.block, p105.off + 0, none⟩ : Addr) H108).bind fun y107 => some (.slice y107.a y107.len y107.cap)) (.slice x106.a x106.len x106.cap)) (
 (rdS 1 (⟨(some ⟨r103.2.next, 0, some 0⟩), 1, 1⟩ : Slc) h104).bind fun n110 =>
 (appendA 1 16 9 h104 x106 n110 1).bind fun r109 =>
 (f97).bind fun p111 =>
 (st1 (⟨p111.block, p111.off + 0, none⟩ : Addr) (.slice r109.1.a r109.1.len r109.1.cap) r109.2).bind fun h112 =>
 rec94 y95 r96 f97 n98 (IntKind.wrap .i64 (i99 + 1)) h112)
 else
 j19 y95 r96 f97 h101)) fun j102 =>
 (if (decide (i92 < n91)) = true then
 (r89).bind fun p113 =>
 (ldI .i64 (⟨p113.block, p113.off + 2, none⟩ : Addr) h93).bind fun x114 =>
 j102 y88 r89 f90 n91 i92 (x114 == 0) h93
 else
 j102 y88 r89 f90 n91 i92 false h93)
noncomputable def ref16_Decode_l1 (k : Nat) (D : CallF) (j19 : (Option Addr) → (Option Addr) → (Option Addr) → AHeap → Option (((Slc × Slc) × Int) × AHeap)) : (Option Addr) → (Option Addr) → (Option Addr) → Int → Int → AHeap → Option (((Slc × Slc) × Int) × AHeap) :=
 iterK (α := (Option Addr) → (Option Addr) → (Option Addr) → Int → Int → AHeap → Option (((Slc × Slc) × Int) × AHeap)) (fun _ _ _ _ _ _ => none) k (ref16_Decode_l1b k D j19)
noncomputable def ref16_Decode_l0b (k : Nat) (D : CallF) (j25 : (Option Addr) → (Option Addr) → (Option Addr) → AHeap → Option (((Slc × Slc) × Int) × AHeap)) (rec55 : (Option Addr) → (Option Addr) → (Option Addr) → Int → Int → AHeap → Option (((Slc × Slc) × Int) × AHeap)) (y49 : Option Addr) (r50 : Option Addr) (f51 : Option Addr) (n52 : Int) (i53 : Int) (h54 : AHeap) : Option (((Slc × Slc) × Int) × AHeap) :=
 joinK (fun (y56 : Option Addr) (r57 : Option Addr) (f58 : Option Addr) (n59 : Int) (i60 : Int) (y61 : Bool) (h62 : AHeap) =>
 (if y61 = true then
 (ref01_Reader_Bytes k D r57 32 h62).bind fun r64 =>
 newK r64.2 ((.cells [.string ⟨#[]⟩, .string ⟨#[]⟩, .int .i64 0, .int .i64 0, .int .i64 0, .int .i64 0] 57 true 0)) fun h65 =>
 (stL 6 (⟨r64.2.next, 0, none⟩ : Addr) ([.string r64.1, .string (⟨#[]⟩ : ByteArray), .int .i64 0, .int .i64 0, .int .i64 0, .int .i64 0]) h65).bind fun h66 =>
 (ref01_Reader_Bytes k D r57 32 h66).bind fun r67 =>
 (st1 (⟨r64.2.next, 1, none⟩ : Addr) (.string r67.1) r67.2).bind fun h68 =>
 (ref01_Reader_Fixed k D r57 1 h68).bind fun r69 =>
 (st1 (⟨r64.2.next, 2, none⟩ : Addr) (.int .i64 r69.1) r69.2).bind fun h70 =>
 (ref01_Reader_Short k D r57 65536 h70).bind fun r71 =>
 (st1 (⟨r64.2.next, 3, none⟩ : Addr) (.int .i64 r71.1) r71.2).bind fun h72 =>
 (ref01_Reader_Short k D r57 65536 h72).bind fun r73 =>
 (st1 (⟨r64.2.next, 4, none⟩ : Addr) (.int .i64 r73.1) r73.2).bind fun h74 =>
 (ref01_Reader_Short k D r57 65536 h74).bind fun r75 =>
 (st1 (⟨r64.2.next, 5, none⟩ : Addr) (.int .i64 r75.1) r75.2).bind fun h76 =>
 (f58).bind fun p77 =>
 (ldL (⟨p77.block, p77.off + 1, none⟩ : Addr) h76).bind fun x78 =>
 (ldA 6 (⟨r64.2.next, 0, none⟩ : Addr) h76).bind fun l79 =>
 (decC [.s, .s, .i .i64, .i .i64, .i .i64, .i .i64] l79).bind fun x80 =>
 newK h76 ((.cells [.string x80.1, .string x80.2.1, .int .i64 x80.2.2.1, .int .i64 x80.2.2.2.1, .int .i64 x80.2.2.2.2.1, .int .i64 x80.2.2.2.2.2] 57 true 0)) fun h81 =>
 (rdS 6 (⟨(some ⟨h76.next, 0, some 0⟩), 1, 1⟩ : Slc) h81).bind fun n83 =>
 (appendA 6 64 57 h81 x78 n83 1).bind fun r82 =>
 (f58).bind fun p84 =>
 (st1 (⟨p84.block, p84.off + 1, none⟩ : Addr) (.slice r82.1.a r82.1.len r82.1.cap) r82.2).bind fun h85 =>
 rec55 y56 r57 f58 n59 (IntKind.wrap .i64 (i60 + 1)) h85
 else
 j25 y56 r57 f58 h62)) fun j63 =>
 (if (decide (i53 < n52)) = true then
 (r50).bind fun p86 =>
 (ldI .i64 (⟨p86.block, p86.off + 2, none⟩ : Addr) h54).bind fun x87 =>
 j63 y49 r50 f51 n52 i53 (x87 == 0) h54
 else
 j63 y49 r50 f51 n52 i53 false h54)
noncomputable def ref16_Decode_l0 (k : Nat) (D : CallF) (j25 : (Option Addr) → (Option Addr) → (Option Addr) → AHeap → Option (((Slc × Slc) × Int) × AHeap)) : (Option Addr) → (Option Addr) → (Option Addr) → Int → Int → AHeap → Option (((Slc × Slc) × Int) × AHeap) :=
 iterK (α := (Option Addr) → (Option Addr) → (Option Addr) → Int → Int → AHeap → Option (((Slc × Slc) × Int) × AHeap)) (fun _ _ _ _ _ _ => none) k (ref16_Decode_l0b k D j25)
noncomputable def ref16_Decode (k : Nat) (D : CallF) (s_0 : ByteArray) (h : AHeap) : Option (((Slc × Slc) × Int) × AHeap) :=
 newK h ((.cells [.slice none 0 0, .slice none 0 0] 28 true 0)) fun h1 =>
 joinK (fun (s2 : ByteArray) (y3 : Option Addr) (y4 : Bool) (h5 : AHeap) =>
 (if y4 = true then
 (y3).bind fun p7 =>
 (stL 2 p7 ([.slice none 0 0, .slice none 0 0]) h5).bind fun h8 =>
 (y3).bind fun p9 =>
 (ldA 2 p9 h8).bind fun l10 =>
 (decC [.l, .l] l10).bind fun x11 =>
 some (((x11.1, x11.2), 160), h8)
 else
 newK h5 ((.cells [.string s2, .int .i64 5, .int .i64 0] 101 true 0)) fun h12 =>
 newK h12 ((.cells [.slice none 0 0, .slice none 0 0] 28 true 0)) fun h13 =>
 (ref01_Reader_Short k D (some (⟨h5.next, 0, none⟩ : Addr)) 4096 h13).bind fun r14 =>
 joinK (fun (y15 : Option Addr) (r16 : Option Addr) (f17 : Option Addr) (h18 : AHeap) =>
 (ref01_Reader_Short k D r16 4096 h18).bind fun r20 =>
 joinK (fun (y21 : Option Addr) (r22 : Option Addr) (f23 : Option Addr) (h24 : AHeap) =>
 joinK (fun (y26 : Option Addr) (f27 : Option Addr) (y28 : Bool) (h29 : AHeap) =>
 (if y28 = true then
 (y26).bind fun p31 =>
 (stL 2 p31 ([.slice none 0 0, .slice none 0 0]) h29).bind fun h32 =>
 (y26).bind fun p33 =>
 (ldA 2 p33 h32).bind fun l34 =>
 (decC [.l, .l] l34).bind fun x35 =>
 some (((x35.1, x35.2), 160), h32)
 else
 (f27).bind fun p36 =>
 (ldA 2 p36 h29).bind fun l37 =>
 (decC [.l, .l] l37).bind fun x38 =>
 (y26).bind fun p39 =>
 (stL 2 p39 ([.slice x38.1.a x38.1.len x38.1.cap, .slice x38.2.a x38.2.len x38.2.cap]) h29).bind fun h40 =>
 (y26).bind fun p41 =>
 (ldA 2 p41 h40).bind fun l42 =>
 (decC [.l, .l] l42).bind fun x43 =>
 some (((x43.1, x43.2), 0), h40))) fun j30 =>
 (ref01_Reader_End k D r22 h24).bind fun r44 =>
 (if (r44.1 != 0) = true then
 j30 y21 f23 true r44.2
 else
 (f23).bind fun p45 =>
 (ldA 2 p45 r44.2).bind fun l46 =>
 (decC [.l, .l] l46).bind fun x47 =>
 (ref16_refused k D (x47.1, x47.2) r44.2).bind fun r48 =>
 j30 y21 f23 (r48.1 != 0) r48.2)) fun j25 =>
 ref16_Decode_l0 k D j25 y15 r16 f17 r20.1 0 r20.2) fun j19 =>
 ref16_Decode_l1 k D j19 y3 (some (⟨h5.next, 0, none⟩ : Addr)) (some (⟨h12.next, 0, none⟩ : Addr)) r14.1 0 r14.2)) fun j6 =>
 (if (decide ((s_0.size : Int) > 65536)) = true then
 j6 s_0 (some (⟨h.next, 0, none⟩ : Addr)) true h1
 else
 (if (decide ((s_0.size : Int) < 5)) = true then
 j6 s_0 (some (⟨h.next, 0, none⟩ : Addr)) true h1
 else
 (Gx.subS s_0 none (some 5)).bind fun s115 =>
 j6 s_0 (some (⟨h.next, 0, none⟩ : Addr)) (!(s115 == (⟨#[71, 82, 84, 73, 1]⟩ : ByteArray))) h1))
noncomputable def r_ref16_Decode : RCode := an (.s .n (.s (.s (.j [(0, .s), (2, .p), (22, .b)] .n) .n) (.s .n (.s .n (.s .n (.s (.j [(2, .p), (4, .p), (5, .p)] (.s .n (.b (.l [(2, .p), (4, .p), (5, .p), (6, .i .i64), (7, .i .i64)] (.s (.s (.j [(2, .p), (4, .p), (5, .p), (6, .i .i64), (7, .i .i64), (38, .b)] .n) .n) .n))))) (.s .n (.s (.j [(2, .p), (4, .p), (5, .p)] (.s .n (.b (.l [(2, .p), (4, .p), (5, .p), (6, .i .i64), (8, .i .i64)] (.s (.s (.j [(2, .p), (4, .p), (5, .p), (6, .i .i64), (8, .i .i64), (59, .b)] .n) .n) (.s (.b (.s .n (.s .n (.s .n (.s .n (.s .n (.s .n (.r [(2, .st [.s, .s, .i .i64, .i .i64, .i .i64, .i .i64])])))))))) .n)))))) (.s (.s (.j [(2, .p), (5, .p), (98, .b)] (.r [(4, .st [.l, .l])])) .n) (.s (.r [(0, .st [.l, .l])]) .n)))))))))) (rOf Try.prog 0 Try.f20)
noncomputable def e_ref16_Decode (k : Nat) (D : CallF) : Ent := entOf 20 [(0, .s)] [(2, .st [.l, .l]), (3, .i .i64)] (ref16_Decode k D)
theorem q_ref16_Decode : (Try.f20.body).bind (rcodeOf Try.prog 0 Try.f20.ntmps) = some (strip r_ref16_Decode) := by kernel_rfl
theorem t_ref16_Decode (k : Nat) (D : CallF) : curF [(0, .s)] (fun args h => denF (C_ref16_Decode k D) k r_ref16_Decode [(2, .st [.l, .l]), (3, .i .i64)] [some (.agg 2), none] args h) = ref16_Decode k D := by kernel_rfl
theorem ok_ref16_Decode {D : CallF} (hD : CSound Try.prog 0 D) (k : Nat) : EntOk Try.prog 0 (e_ref16_Decode k D) :=
 entOf_ok2 (mkC_sound hD (EntsOk.more (ok_ref01_Reader_Short hD k) (EntsOk.more (ok_ref01_Reader_End hD k) (EntsOk.more (ok_ref16_refused hD k) (EntsOk.more (ok_ref01_Reader_Bytes hD k) (EntsOk.more (ok_ref01_Reader_Fixed hD k) (EntsOk.none))))))) Try.func20 rfl q_ref16_Decode rfl (t_ref16_Decode k D)
end Gc
namespace Gc
open Go Gx Go.Proofs
set_option maxRecDepth 100000
end Gc
namespace Gc
open Go Gx Go.Proofs
set_option maxRecDepth 100000
end Gc
namespace Gc
open Go Gx Go.Proofs
set_option maxRecDepth 100000
end Gc
namespace Gc
open Go Gx Go.Proofs
set_option maxRecDepth 100000
end Gc
namespace Gc
open Go Gx Go.Proofs
set_option maxRecDepth 100000
end Gc
namespace Gc
open Go Gx Go.Proofs
set_option maxRecDepth 100000
end Gc
namespace Go.Proofs
open Go.Shelf Go.RowKit Go.Sort
end Go.Proofs
namespace Gc
open Go Gx Go.Proofs
end Gc
namespace Gc
open Go Gx Go.Proofs
set_option maxRecDepth 100000
end Gc
namespace Gc
open Go Gx Go.Proofs
set_option maxRecDepth 100000
end Gc
namespace Gc
open Go Gx Go.Proofs
set_option maxRecDepth 100000
end Gc
namespace Gc
open Go Gx Go.Proofs
set_option maxRecDepth 100000
end Gc
namespace Gc
open Go Gx Go.Proofs
set_option maxRecDepth 100000
end Gc
namespace Gc
open Go Gx Go.Proofs
set_option maxRecDepth 100000
end Gc
namespace Gc
open Go Gx Go.Proofs
set_option maxRecDepth 100000
end Gc
namespace Gc
open Go Gx Go.Proofs
set_option maxRecDepth 100000
end Gc
namespace Gc
open Go Gx Go.Proofs
set_option maxRecDepth 100000
end Gc
namespace Gc
open Go Gx Go.Proofs
set_option maxRecDepth 100000
end Gc
namespace Gc
open Go Gx Go.Proofs
set_option maxRecDepth 100000
end Gc
namespace Gc
open Go Gx Go.Proofs
set_option maxRecDepth 100000
end Gc
namespace Gc
open Go Gx Go.Proofs
set_option maxRecDepth 100000
end Gc
namespace Gc
open Go Gx Go.Proofs
set_option maxRecDepth 100000
noncomputable def C_book_SameTexts (_k : Nat) (D : CallF) : CallF := mkC D []
noncomputable def book_SameTexts_l0b (_k : Nat) (_D : CallF) (j2 : AHeap → Option ((Bool) × AHeap)) (rec7 : Slc → Slc → Int → AHeap → Option ((Bool) × AHeap)) (a3 : Slc) (b4 : Slc) (i5 : Int) (h6 : AHeap) : Option ((Bool) × AHeap) :=
 (if (decide (i5 < (a3.len : Int))) = true then
 (Gx.idxL 1 a3 i5).bind fun q8 =>
 (ldS q8 h6).bind fun x9 =>
 (Gx.idxL 1 b4 i5).bind fun q10 =>
 (ldS q10 h6).bind fun x11 =>
 (if (!(x9 == x11)) = true then
 some (false, h6)
 else
 rec7 a3 b4 (IntKind.wrap .i64 (i5 + 1)) h6)
 else
 j2 h6)
noncomputable def book_SameTexts_l0 (k : Nat) (D : CallF) (j2 : AHeap → Option ((Bool) × AHeap)) : Slc → Slc → Int → AHeap → Option ((Bool) × AHeap) :=
 iterK (α := Slc → Slc → Int → AHeap → Option ((Bool) × AHeap)) (fun _ _ _ _ => none) k (book_SameTexts_l0b k D j2)
noncomputable def book_SameTexts (k : Nat) (D : CallF) (a_0 : Slc) (b_1 : Slc) (h : AHeap) : Option ((Bool) × AHeap) :=
 (if ((a_0.len : Int) != (b_1.len : Int)) = true then
 some (false, h)
 else
 joinK (fun (h1 : AHeap) =>
 some (true, h1)) fun j2 =>
 book_SameTexts_l0 k D j2 a_0 b_1 0 h)
noncomputable def r_book_SameTexts : RCode := an (.s .n (.s .n (.s (.j [] (.s .n (.b (.l [(0, .l), (1, .l), (5, .i .i64)] .n)))) .n))) (rOf Try.prog 0 Try.f18)
noncomputable def e_book_SameTexts (k : Nat) (D : CallF) : Ent := entOf 18 [(0, .l), (1, .l)] [(4, .b)] (book_SameTexts k D)
theorem q_book_SameTexts : (Try.f18.body).bind (rcodeOf Try.prog 0 Try.f18.ntmps) = some (strip r_book_SameTexts) := by kernel_rfl
theorem t_book_SameTexts (k : Nat) (D : CallF) : curF [(0, .l), (1, .l)] (fun args h => denF (C_book_SameTexts k D) k r_book_SameTexts [(4, .b)] [none] args h) = book_SameTexts k D := by kernel_rfl
theorem ok_book_SameTexts {D : CallF} (hD : CSound Try.prog 0 D) (k : Nat) : EntOk Try.prog 0 (e_book_SameTexts k D) :=
 entOf_ok2 (mkC_sound hD (EntsOk.none)) Try.func18 rfl q_book_SameTexts rfl (t_book_SameTexts k D)
end Gc
namespace Gc
open Go Gx Go.Proofs
set_option maxRecDepth 100000
end Gc
namespace Gc
open Go Gx Go.Proofs
set_option maxRecDepth 100000
end Gc
namespace Gc
open Go Gx Go.Proofs
set_option maxRecDepth 100000
noncomputable def C_slices_Clip_api_Item_api_Item (_k : Nat) (D : CallF) : CallF := mkC D []
noncomputable def slices_Clip_api_Item_api_Item (_k : Nat) (_D : CallF) (s_0 : Slc) (h : AHeap) : Option ((Slc) × AHeap) :=
 (Gx.subL 6 s_0 none (some (s_0.len : Int)) (some (s_0.len : Int))).bind fun l1 =>
 some (l1, h)
noncomputable def r_slices_Clip_api_Item_api_Item : RCode := an (.n) (rOf Try.prog 0 Try.f52)
noncomputable def e_slices_Clip_api_Item_api_Item (k : Nat) (D : CallF) : Ent := entOf 52 [(0, .l)] [(2, .l)] (slices_Clip_api_Item_api_Item k D)
theorem q_slices_Clip_api_Item_api_Item : (Try.f52.body).bind (rcodeOf Try.prog 0 Try.f52.ntmps) = some (strip r_slices_Clip_api_Item_api_Item) := by kernel_rfl
theorem t_slices_Clip_api_Item_api_Item (k : Nat) (D : CallF) : curF [(0, .l)] (fun args h => denF (C_slices_Clip_api_Item_api_Item k D) k r_slices_Clip_api_Item_api_Item [(2, .l)] [none] args h) = slices_Clip_api_Item_api_Item k D := by kernel_rfl
theorem ok_slices_Clip_api_Item_api_Item {D : CallF} (hD : CSound Try.prog 0 D) (k : Nat) : EntOk Try.prog 0 (e_slices_Clip_api_Item_api_Item k D) :=
 entOf_ok2 (mkC_sound hD (EntsOk.none)) Try.func52 rfl q_slices_Clip_api_Item_api_Item rfl (t_slices_Clip_api_Item_api_Item k D)
end Gc
namespace Gc
open Go Gx Go.Proofs
set_option maxRecDepth 100000
noncomputable def C_index_Split (k : Nat) (D : CallF) : CallF := mkC D [e_index_check k D, e_index_text k D, e_slices_Clip_api_Item_api_Item k D]
noncomputable def index_Split_l0b (k : Nat) (D : CallF) (j13 : Slc → (Option Addr) → AHeap → Option ((Slc × Int) × AHeap)) (rec28 : Slc → (Option Addr) → Slc → Int → Int → AHeap → Option ((Slc × Int) × AHeap)) (out22 : Slc) (part23 : Option Addr) (y24 : Slc) (y25 : Int) (y26 : Int) (h27 : AHeap) : Option ((Slc × Int) × AHeap) :=
 (if (decide (y26 < y25)) = true then
 (Gx.idxL 6 y24 y26).bind fun q29 =>
 (ldA 6 q29 h27).bind fun l30 =>
 (decC [.s, .s, .i .i64, .i .i64, .i .i64, .i .i64] l30).bind fun x31 =>
 newK h27 ((.cells [.string ⟨#[]⟩, .string ⟨#[]⟩, .int .i64 0, .int .i64 0, .int .i64 0, .int .i64 0] 57 true 0)) fun h32 =>
 (stL 6 (⟨h27.next, 0, none⟩ : Addr) ([.string x31.1, .string x31.2.1, .int .i64 x31.2.2.1, .int .i64 x31.2.2.2.1, .int .i64 x31.2.2.2.2.1, .int .i64 x31.2.2.2.2.2]) h32).bind fun h33 =>
 let h34 := AHeap.resv h33 2
 (part23).bind fun p35 =>
 (ldL (⟨p35.block, p35.off + 1, none⟩ : Addr) h34).bind fun x36 =>
 (slices_Clip_api_Item_api_Item k D x36 h34).bind fun r37 =>
 (ldA 6 (⟨h27.next, 0, none⟩ : Addr) r37.2).bind fun l38 =>
 guardP (SameW [h34] (fun H40 => (ldA 6 (⟨h27.next, 0, none⟩ : Addr) H40).bind fun y39 => some (.agg ⟨y39⟩)) (.agg ⟨l38⟩)) (
 (decC [.s, .s, .i .i64, .i .i64, .i .i64, .i .i64] l38).bind fun x41 =>
 let h42 := AHeap.set r37.2 (h33.next + 0) (.cells [.string x41.1, .string x41.2.1, .int .i64 x41.2.2.1, .int .i64 x41.2.2.2.1, .int .i64 x41.2.2.2.2.1, .int .i64 x41.2.2.2.2.2] 57 true 0)
 (rdS 6 (⟨(some ⟨(h33.next + 0), 0, some 0⟩), 1, 1⟩ : Slc) h42).bind fun n44 =>
 (appendA 6 64 57 h42 r37.1 n44 1).bind fun r43 =>
 (part23).bind fun p45 =>
 (ldL (⟨p45.block, p45.off + 0, none⟩ : Addr) r43.2).bind fun x46 =>
 guardP (SameW [h42, r37.2, h34] (fun H48 => (ldL (⟨p45.block, p45.off + 0, none⟩ : Addr) H48).bind fun y47 => some (.slice y47.a y47.len y47.cap)) (.slice x46.a x46.len x46.cap)) (
 let h49 := AHeap.set r43.2 (h33.next + 1) (.cells [.slice none 0 0, .slice none 0 0] 25 true 0)
 (stL 2 (⟨(h33.next + 1), 0, none⟩ : Addr) ([.slice x46.a x46.len x46.cap, .slice r43.1.a r43.1.len r43.1.cap]) h49).bind fun h50 =>
 joinK (fun (out51 : Slc) (part52 : Option Addr) (more53 : Option Addr) (y54 : Slc) (y55 : Int) (y56 : Int) (h57 : AHeap) =>
 (more53).bind fun p59 =>
 (ldA 2 p59 h57).bind fun l60 =>
 (decC [.l, .l] l60).bind fun x61 =>
 (part52).bind fun p62 =>
 (stL 2 p62 ([.slice x61.1.a x61.1.len x61.1.cap, .slice x61.2.a x61.2.len x61.2.cap]) h57).bind fun h63 =>
 rec28 out51 part52 y54 y55 (IntKind.wrap .i64 (y56 + 1)) h63) fun j58 =>
 (ldA 2 (⟨(h33.next + 1), 0, none⟩ : Addr) h50).bind fun l64 =>
 (decC [.l, .l] l64).bind fun x65 =>
 (index_text k D (x65.1, x65.2) h50).bind fun r66 =>
 (if (!r66.1.2) = true then
 (part23).bind fun p67 =>
 (ldA 2 p67 r66.2).bind fun l68 =>
 (decC [.l, .l] l68).bind fun x69 =>
 (index_text k D (x69.1, x69.2) r66.2).bind fun r70 =>
 newK r70.2 ((.cells [.string r70.1.1] 9 true 0)) fun h71 =>
 (rdS 1 (⟨(some ⟨r70.2.next, 0, some 0⟩), 1, 1⟩ : Slc) h71).bind fun n73 =>
 (appendA 1 16 9 h71 out22 n73 1).bind fun r72 =>
 (ldA 6 (⟨h27.next, 0, none⟩ : Addr) r72.2).bind fun l74 =>
 (decC [.s, .s, .i .i64, .i .i64, .i .i64, .i .i64] l74).bind fun x75 =>
 newK r72.2 ((.cells [.string x75.1, .string x75.2.1, .int .i64 x75.2.2.1, .int .i64 x75.2.2.2.1, .int .i64 x75.2.2.2.2.1, .int .i64 x75.2.2.2.2.2] 57 true 0)) fun h76 =>
 (stL 2 (⟨(h33.next + 1), 0, none⟩ : Addr) ([.slice none 0 0, .slice (some ⟨r72.2.next, 0, some 0⟩) 1 1]) h76).bind fun h77 =>
 j58 r72.1 part23 (some (⟨(h33.next + 1), 0, none⟩ : Addr)) y24 y25 y26 h77
 else
 j58 out22 part23 (some (⟨(h33.next + 1), 0, none⟩ : Addr)) y24 y25 y26 r66.2)))
 else
 j13 out22 part23 h27)
noncomputable def index_Split_l0 (k : Nat) (D : CallF) (j13 : Slc → (Option Addr) → AHeap → Option ((Slc × Int) × AHeap)) : Slc → (Option Addr) → Slc → Int → Int → AHeap → Option ((Slc × Int) × AHeap) :=
 iterK (α := Slc → (Option Addr) → Slc → Int → Int → AHeap → Option ((Slc × Int) × AHeap)) (fun _ _ _ _ _ _ => none) k (index_Split_l0b k D j13)
noncomputable def index_Split (k : Nat) (D : CallF) (f_0 : Slc × Slc) (h : AHeap) : Option ((Slc × Int) × AHeap) :=
 newK h ((.cells [.slice f_0.1.a f_0.1.len f_0.1.cap, .slice f_0.2.a f_0.2.len f_0.2.cap] 25 true 0)) fun h1 =>
 (ldA 2 (⟨h.next, 0, none⟩ : Addr) h1).bind fun l2 =>
 (decC [.l, .l] l2).bind fun x3 =>
 (index_check k D (x3.1, x3.2) h1).bind fun r4 =>
 (if (r4.1 != 0) = true then
 some (((⟨none, 0, 0⟩ : Slc), r4.1), r4.2)
 else
 (ldL (⟨h.next, 0, none⟩ : Addr) r4.2).bind fun x5 =>
 (index_text k D (x5, (⟨none, 0, 0⟩ : Slc)) r4.2).bind fun r6 =>
 (if (!r6.1.2) = true then
 some (((⟨none, 0, 0⟩ : Slc), 2), r6.2)
 else
 (ldL (⟨h.next, 0, none⟩ : Addr) r6.2).bind fun x7 =>
 newK r6.2 ((.cells [.slice none 0 0, .slice none 0 0] 25 true 0)) fun h8 =>
 (stL 2 (⟨r6.2.next, 0, none⟩ : Addr) ([.slice x7.a x7.len x7.cap, .slice none 0 0]) h8).bind fun h9 =>
 joinK (fun (out10 : Slc) (part11 : Option Addr) (h12 : AHeap) =>
 (part11).bind fun p14 =>
 (ldA 2 p14 h12).bind fun l15 =>
 (decC [.l, .l] l15).bind fun x16 =>
 (index_text k D (x16.1, x16.2) h12).bind fun r17 =>
 newK r17.2 ((.cells [.string r17.1.1] 9 true 0)) fun h18 =>
 (rdS 1 (⟨(some ⟨r17.2.next, 0, some 0⟩), 1, 1⟩ : Slc) h18).bind fun n20 =>
 (appendA 1 16 9 h18 out10 n20 1).bind fun r19 =>
 some ((r19.1, 0), r19.2)) fun j13 =>
 (ldL (⟨h.next, 1, none⟩ : Addr) h9).bind fun x21 =>
 index_Split_l0 k D j13 (⟨none, 0, 0⟩ : Slc) (some (⟨r6.2.next, 0, none⟩ : Addr)) x21 (x21.len : Int) 0 h9))
noncomputable def r_index_Split : RCode := an (.s .n (.s (.s (.r [(0, .st [.l, .l])]) .n) (.s .n (.s .n (.s .n (.s (.j [(7, .l), (8, .p)] (.s .n (.b (.l [(7, .l), (8, .p), (36, .l), (37, .i .i64), (38, .i .i64)] (.s .n (.s .n (.s (.b (.s (.r [(1, .st [.s, .s, .i .i64, .i .i64, .i .i64, .i .i64])]) (.s (.r [(3, .st [.s, .s, .i .i64, .i .i64, .i .i64, .i .i64])]) (.s (.j [(7, .l), (8, .p), (11, .p), (36, .l), (37, .i .i64), (38, .i .i64)] (.s (.r [(0, .st [.l, .l])]) (.s .n (.s (.s (.r [(0, .st [.l, .l])]) (.s .n (.r [(0, .st [.s, .s, .i .i64, .i .i64, .i .i64, .i .i64])]))) .n)))) (.r [(0, .st [.l, .l])]))))) .n))))))) (.s (.r [(0, .st [.l, .l])]) .n))))))) (rOf Try.prog 0 Try.f16)
noncomputable def e_index_Split (k : Nat) (D : CallF) : Ent := entOf 16 [(0, .st [.l, .l])] [(2, .l), (3, .i .i64)] (index_Split k D)
theorem q_index_Split : (Try.f16.body).bind (rcodeOf Try.prog 0 Try.f16.ntmps) = some (strip r_index_Split) := by kernel_rfl
theorem t_index_Split (k : Nat) (D : CallF) : curF [(0, .st [.l, .l])] (fun args h => denF (C_index_Split k D) k r_index_Split [(2, .l), (3, .i .i64)] [none, none] args h) = index_Split k D := by kernel_rfl
theorem ok_index_Split {D : CallF} (hD : CSound Try.prog 0 D) (k : Nat) : EntOk Try.prog 0 (e_index_Split k D) :=
 entOf_ok2 (mkC_sound hD (EntsOk.more (ok_index_check hD k) (EntsOk.more (ok_index_text hD k) (EntsOk.more (ok_slices_Clip_api_Item_api_Item hD k) (EntsOk.none))))) Try.func16 rfl q_index_Split rfl (t_index_Split k D)
end Gc
namespace Gc
open Go Gx Go.Proofs
set_option maxRecDepth 100000
end Gc
namespace Gc
open Go Gx Go.Proofs
set_option maxRecDepth 100000
noncomputable def C_ref16_Split (k : Nat) (D : CallF) : CallF := mkC D [e_ref16_refused k D, e_ref16_long k D, e_ref16_Text k D]
noncomputable def ref16_Split_l0b (k : Nat) (D : CallF) (j13 : Slc → (Option Addr) → AHeap → Option ((Slc × Int) × AHeap)) (rec26 : (Option Addr) → Slc → (Option Addr) → Int → AHeap → Option ((Slc × Int) × AHeap)) (f21 : Option Addr) (out22 : Slc) (g23 : Option Addr) (i24 : Int) (h25 : AHeap) : Option ((Slc × Int) × AHeap) :=
 (f21).bind fun p27 =>
 (ldL (⟨p27.block, p27.off + 1, none⟩ : Addr) h25).bind fun x28 =>
 (if (decide (i24 < (x28.len : Int))) = true then
 let h29 := AHeap.resv h25 3
 let h30 := AHeap.set h29 (h25.next + 0) (.cells [] 57 true 0)
 (g23).bind fun p31 =>
 (ldL (⟨p31.block, p31.off + 1, none⟩ : Addr) h30).bind fun x32 =>
 guardP (SameW [h29] (fun H34 => (ldL (⟨p31.block, p31.off + 1, none⟩ : Addr) H34).bind fun y33 => some (.slice y33.a y33.len y33.cap)) (.slice x32.a x32.len x32.cap)) (
 (rdS 6 x32 h30).bind fun n36 =>
 (appendA 6 64 57 h30 (⟨(some ⟨(h25.next + 0), 0, some 0⟩), 0, 0⟩ : Slc) n36 x32.len).bind fun r35 =>
 (f21).bind fun p37 =>
 (ldL (⟨p37.block, p37.off + 1, none⟩ : Addr) r35.2).bind fun x38 =>
 guardP (SameW [h30, h29] (fun H40 => (ldL (⟨p37.block, p37.off + 1, none⟩ : Addr) H40).bind fun y39 => some (.slice y39.a y39.len y39.cap)) (.slice x38.a x38.len x38.cap)) (
 (Gx.idxL 6 x38 i24).bind fun q41 =>
 (ldA 6 q41 r35.2).bind fun l42 =>
 guardP (SameW [h30, h29] (fun H44 => (ldA 6 q41 H44).bind fun y43 => some (.agg ⟨y43⟩)) (.agg ⟨l42⟩)) (
 (decC [.s, .s, .i .i64, .i .i64, .i .i64, .i .i64] l42).bind fun x45 =>
 let h46 := AHeap.set r35.2 (h25.next + 1) (.cells [.string x45.1, .string x45.2.1, .int .i64 x45.2.2.1, .int .i64 x45.2.2.2.1, .int .i64 x45.2.2.2.2.1, .int .i64 x45.2.2.2.2.2] 57 true 0)
 (rdS 6 (⟨(some ⟨(h25.next + 1), 0, some 0⟩), 1, 1⟩ : Slc) h46).bind fun n48 =>
 (appendA 6 64 57 h46 r35.1 n48 1).bind fun r47 =>
 (g23).bind fun p49 =>
 (ldL (⟨p49.block, p49.off + 0, none⟩ : Addr) r47.2).bind fun x50 =>
 guardP (SameW [h46, r35.2, h30, h29] (fun H52 => (ldL (⟨p49.block, p49.off + 0, none⟩ : Addr) H52).bind fun y51 => some (.slice y51.a y51.len y51.cap)) (.slice x50.a x50.len x50.cap)) (
 let h53 := AHeap.set r47.2 (h25.next + 2) (.cells [.slice none 0 0, .slice none 0 0] 28 true 0)
 (stL 2 (⟨(h25.next + 2), 0, none⟩ : Addr) ([.slice x50.a x50.len x50.cap, .slice r47.1.a r47.1.len r47.1.cap]) h53).bind fun h54 =>
 joinK (fun (f55 : Option Addr) (out56 : Slc) (g57 : Option Addr) (i58 : Int) (more59 : Option Addr) (h60 : AHeap) =>
 (more59).bind fun p62 =>
 (ldA 2 p62 h60).bind fun l63 =>
 (decC [.l, .l] l63).bind fun x64 =>
 (g57).bind fun p65 =>
 (stL 2 p65 ([.slice x64.1.a x64.1.len x64.1.cap, .slice x64.2.a x64.2.len x64.2.cap]) h60).bind fun h66 =>
 rec26 f55 out56 g57 (IntKind.wrap .i64 (i58 + 1)) h66) fun j61 =>
 (ldA 2 (⟨(h25.next + 2), 0, none⟩ : Addr) h54).bind fun l67 =>
 (decC [.l, .l] l67).bind fun x68 =>
 (ref16_long k D (x68.1, x68.2) h54).bind fun r69 =>
 (if r69.1 = true then
 (g23).bind fun p70 =>
 (ldA 2 p70 r69.2).bind fun l71 =>
 (decC [.l, .l] l71).bind fun x72 =>
 (ref16_Text k D (x72.1, x72.2) r69.2).bind fun r73 =>
 newK r73.2 ((.cells [.string r73.1] 9 true 0)) fun h74 =>
 (rdS 1 (⟨(some ⟨r73.2.next, 0, some 0⟩), 1, 1⟩ : Slc) h74).bind fun n76 =>
 (appendA 1 16 9 h74 out22 n76 1).bind fun r75 =>
 (f21).bind fun p77 =>
 (ldL (⟨p77.block, p77.off + 1, none⟩ : Addr) r75.2).bind fun x78 =>
 (Gx.subL 6 x78 (some i24) (some (IntKind.wrap .i64 (i24 + 1))) none).bind fun l79 =>
 (stL 2 (⟨(h25.next + 2), 0, none⟩ : Addr) ([.slice none 0 0, .slice l79.a l79.len l79.cap]) r75.2).bind fun h80 =>
 j61 f21 r75.1 g23 i24 (some (⟨(h25.next + 2), 0, none⟩ : Addr)) h80
 else
 j61 f21 out22 g23 i24 (some (⟨(h25.next + 2), 0, none⟩ : Addr)) r69.2)))))
 else
 j13 out22 g23 h25)
noncomputable def ref16_Split_l0 (k : Nat) (D : CallF) (j13 : Slc → (Option Addr) → AHeap → Option ((Slc × Int) × AHeap)) : (Option Addr) → Slc → (Option Addr) → Int → AHeap → Option ((Slc × Int) × AHeap) :=
 iterK (α := (Option Addr) → Slc → (Option Addr) → Int → AHeap → Option ((Slc × Int) × AHeap)) (fun _ _ _ _ _ => none) k (ref16_Split_l0b k D j13)
noncomputable def ref16_Split (k : Nat) (D : CallF) (f_0 : Slc × Slc) (h : AHeap) : Option ((Slc × Int) × AHeap) :=
 newK h ((.cells [.slice f_0.1.a f_0.1.len f_0.1.cap, .slice f_0.2.a f_0.2.len f_0.2.cap] 28 true 0)) fun h1 =>
 (ldA 2 (⟨h.next, 0, none⟩ : Addr) h1).bind fun l2 =>
 (decC [.l, .l] l2).bind fun x3 =>
 (ref16_refused k D (x3.1, x3.2) h1).bind fun r4 =>
 (if (r4.1 != 0) = true then
 some (((⟨none, 0, 0⟩ : Slc), r4.1), r4.2)
 else
 (ldL (⟨h.next, 0, none⟩ : Addr) r4.2).bind fun x5 =>
 (ref16_long k D (x5, (⟨none, 0, 0⟩ : Slc)) r4.2).bind fun r6 =>
 (if r6.1 = true then
 some (((⟨none, 0, 0⟩ : Slc), 2), r6.2)
 else
 (ldL (⟨h.next, 0, none⟩ : Addr) r6.2).bind fun x7 =>
 newK r6.2 ((.cells [.slice none 0 0, .slice none 0 0] 28 true 0)) fun h8 =>
 (stL 2 (⟨r6.2.next, 0, none⟩ : Addr) ([.slice x7.a x7.len x7.cap, .slice none 0 0]) h8).bind fun h9 =>
 joinK (fun (out10 : Slc) (g11 : Option Addr) (h12 : AHeap) =>
 (g11).bind fun p14 =>
 (ldA 2 p14 h12).bind fun l15 =>
 (decC [.l, .l] l15).bind fun x16 =>
 (ref16_Text k D (x16.1, x16.2) h12).bind fun r17 =>
 newK r17.2 ((.cells [.string r17.1] 9 true 0)) fun h18 =>
 (rdS 1 (⟨(some ⟨r17.2.next, 0, some 0⟩), 1, 1⟩ : Slc) h18).bind fun n20 =>
 (appendA 1 16 9 h18 out10 n20 1).bind fun r19 =>
 some ((r19.1, 0), r19.2)) fun j13 =>
 ref16_Split_l0 k D j13 (some (⟨h.next, 0, none⟩ : Addr)) (⟨none, 0, 0⟩ : Slc) (some (⟨r6.2.next, 0, none⟩ : Addr)) 0 h9))
noncomputable def r_ref16_Split : RCode := an (.s .n (.s (.s (.r [(0, .st [.l, .l])]) .n) (.s .n (.s .n (.s .n (.s (.j [(5, .l), (6, .p)] (.s .n (.b (.l [(1, .p), (5, .l), (6, .p), (7, .i .i64)] (.s .n (.s (.b (.s (.r [(8, .st [.s, .s, .i .i64, .i .i64, .i .i64, .i .i64])]) (.s (.j [(1, .p), (5, .l), (6, .p), (7, .i .i64), (8, .p)] (.s (.r [(0, .st [.l, .l])]) (.s (.s (.r [(1, .st [.l, .l])]) .n) .n))) (.r [(0, .st [.l, .l])])))) .n)))))) (.s (.r [(1, .st [.l, .l])]) .n))))))) (rOf Try.prog 0 Try.f17)
noncomputable def e_ref16_Split (k : Nat) (D : CallF) : Ent := entOf 17 [(0, .st [.l, .l])] [(2, .l), (3, .i .i64)] (ref16_Split k D)
theorem q_ref16_Split : (Try.f17.body).bind (rcodeOf Try.prog 0 Try.f17.ntmps) = some (strip r_ref16_Split) := by kernel_rfl
theorem t_ref16_Split (k : Nat) (D : CallF) : curF [(0, .st [.l, .l])] (fun args h => denF (C_ref16_Split k D) k r_ref16_Split [(2, .l), (3, .i .i64)] [none, none] args h) = ref16_Split k D := by kernel_rfl
theorem ok_ref16_Split {D : CallF} (hD : CSound Try.prog 0 D) (k : Nat) : EntOk Try.prog 0 (e_ref16_Split k D) :=
 entOf_ok2 (mkC_sound hD (EntsOk.more (ok_ref16_refused hD k) (EntsOk.more (ok_ref16_long hD k) (EntsOk.more (ok_ref16_Text hD k) (EntsOk.none))))) Try.func17 rfl q_ref16_Split rfl (t_ref16_Split k D)
end Gc
namespace Gc
open Go Gx Go.Proofs
set_option maxRecDepth 100000
noncomputable def C_book_Lend (_k : Nat) (D : CallF) : CallF := mkC D []
noncomputable def book_Lend (_k : Nat) (_D : CallF) (l_0 : Slc) (h : AHeap) : Option ((Slc) × AHeap) :=
 newK h ((.cells [] 9 true 0)) fun h1 =>
 (rdS 1 l_0 h1).bind fun n3 =>
 (appendA 1 16 9 h1 (⟨(some ⟨h.next, 0, some 0⟩), 0, 0⟩ : Slc) n3 l_0.len).bind fun r2 =>
 newK r2.2 ((.cells [.string (⟨#[109, 97, 114, 107]⟩ : ByteArray)] 9 true 0)) fun h4 =>
 (rdS 1 (⟨(some ⟨r2.2.next, 0, some 0⟩), 1, 1⟩ : Slc) h4).bind fun n6 =>
 (appendA 1 16 9 h4 r2.1 n6 1).bind fun r5 =>
 (Gx.subL 1 r5.1 none (some (l_0.len : Int)) none).bind fun l7 =>
 some (l7, r5.2)
noncomputable def r_book_Lend : RCode := an (.n) (rOf Try.prog 0 Try.f11)
noncomputable def e_book_Lend (k : Nat) (D : CallF) : Ent := entOf 11 [(0, .l)] [(2, .l)] (book_Lend k D)
theorem q_book_Lend : (Try.f11.body).bind (rcodeOf Try.prog 0 Try.f11.ntmps) = some (strip r_book_Lend) := by kernel_rfl
theorem t_book_Lend (k : Nat) (D : CallF) : curF [(0, .l)] (fun args h => denF (C_book_Lend k D) k r_book_Lend [(2, .l)] [none] args h) = book_Lend k D := by kernel_rfl
theorem ok_book_Lend {D : CallF} (hD : CSound Try.prog 0 D) (k : Nat) : EntOk Try.prog 0 (e_book_Lend k D) :=
 entOf_ok2 (mkC_sound hD (EntsOk.none)) Try.func11 rfl q_book_Lend rfl (t_book_Lend k D)
end Gc
namespace Gc
open Go Gx Go.Proofs
set_option maxRecDepth 100000
noncomputable def C_book_Kept (k : Nat) (D : CallF) : CallF := mkC D [e_book_SameTexts k D]
noncomputable def book_Kept (k : Nat) (D : CallF) (lent_0 : Slc) (l_1 : Slc) (h : AHeap) : Option ((Bool) × AHeap) :=
 (book_SameTexts k D lent_0 l_1 h).bind fun r1 =>
 (if r1.1 = true then
 (Gx.subL 1 lent_0 none (some (IntKind.wrap .i64 ((l_1.len : Int) + 1))) none).bind fun l2 =>
 (Gx.idxL 1 l2 (l_1.len : Int)).bind fun q3 =>
 (ldS q3 r1.2).bind fun x4 =>
 some ((x4 == (⟨#[109, 97, 114, 107]⟩ : ByteArray)), r1.2)
 else
 some (false, r1.2))
noncomputable def r_book_Kept : RCode := an (.n) (rOf Try.prog 0 Try.f14)
noncomputable def e_book_Kept (k : Nat) (D : CallF) : Ent := entOf 14 [(0, .l), (1, .l)] [(4, .b)] (book_Kept k D)
theorem q_book_Kept : (Try.f14.body).bind (rcodeOf Try.prog 0 Try.f14.ntmps) = some (strip r_book_Kept) := by kernel_rfl
theorem t_book_Kept (k : Nat) (D : CallF) : curF [(0, .l), (1, .l)] (fun args h => denF (C_book_Kept k D) k r_book_Kept [(4, .b)] [none] args h) = book_Kept k D := by kernel_rfl
theorem ok_book_Kept {D : CallF} (hD : CSound Try.prog 0 D) (k : Nat) : EntOk Try.prog 0 (e_book_Kept k D) :=
 entOf_ok2 (mkC_sound hD (EntsOk.more (ok_book_SameTexts hD k) (EntsOk.none))) Try.func14 rfl q_book_Kept rfl (t_book_Kept k D)
end Gc
namespace Gc
open Go Gx Go.Proofs
set_option maxRecDepth 100000
noncomputable def C_law16_sameItems (_k : Nat) (D : CallF) : CallF := mkC D []
noncomputable def law16_sameItems_l0b (_k : Nat) (_D : CallF) (j2 : AHeap → Option ((Bool) × AHeap)) (rec7 : Slc → Slc → Int → AHeap → Option ((Bool) × AHeap)) (a3 : Slc) (b4 : Slc) (i5 : Int) (h6 : AHeap) : Option ((Bool) × AHeap) :=
 (if (decide (i5 < (a3.len : Int))) = true then
 (Gx.idxL 6 a3 i5).bind fun q8 =>
 (ldA 6 q8 h6).bind fun l9 =>
 (decC [.s, .s, .i .i64, .i .i64, .i .i64, .i .i64] l9).bind fun x10 =>
 (Gx.idxL 6 b4 i5).bind fun q11 =>
 (ldA 6 q11 h6).bind fun l12 =>
 (decC [.s, .s, .i .i64, .i .i64, .i .i64, .i .i64] l12).bind fun x13 =>
 let c14 : Bool := (!((x10.1 == x13.1) && ((x10.2.1 == x13.2.1) && ((x10.2.2.1 == x13.2.2.1) && ((x10.2.2.2.1 == x13.2.2.2.1) && ((x10.2.2.2.2.1 == x13.2.2.2.2.1) && (x10.2.2.2.2.2 == x13.2.2.2.2.2)))))))
 (if c14 = true then
 some (false, h6)
 else
 rec7 a3 b4 (IntKind.wrap .i64 (i5 + 1)) h6)
 else
 j2 h6)
noncomputable def law16_sameItems_l0 (k : Nat) (D : CallF) (j2 : AHeap → Option ((Bool) × AHeap)) : Slc → Slc → Int → AHeap → Option ((Bool) × AHeap) :=
 iterK (α := Slc → Slc → Int → AHeap → Option ((Bool) × AHeap)) (fun _ _ _ _ => none) k (law16_sameItems_l0b k D j2)
noncomputable def law16_sameItems (k : Nat) (D : CallF) (a_0 : Slc) (b_1 : Slc) (h : AHeap) : Option ((Bool) × AHeap) :=
 (if ((a_0.len : Int) != (b_1.len : Int)) = true then
 some (false, h)
 else
 joinK (fun (h1 : AHeap) =>
 some (true, h1)) fun j2 =>
 law16_sameItems_l0 k D j2 a_0 b_1 0 h)
noncomputable def r_law16_sameItems : RCode := an (.s .n (.s .n (.s (.j [] (.s .n (.b (.l [(0, .l), (1, .l), (5, .i .i64)] (.s .n (.s (.b (.s (.r [(3, .st [.s, .s, .i .i64, .i .i64, .i .i64, .i .i64]), (7, .st [.s, .s, .i .i64, .i .i64, .i .i64, .i .i64])]) .n)) .n)))))) .n))) (rOf Try.prog 0 Try.f15)
noncomputable def e_law16_sameItems (k : Nat) (D : CallF) : Ent := entOf 15 [(0, .l), (1, .l)] [(4, .b)] (law16_sameItems k D)
theorem q_law16_sameItems : (Try.f15.body).bind (rcodeOf Try.prog 0 Try.f15.ntmps) = some (strip r_law16_sameItems) := by kernel_rfl
theorem t_law16_sameItems (k : Nat) (D : CallF) : curF [(0, .l), (1, .l)] (fun args h => denF (C_law16_sameItems k D) k r_law16_sameItems [(4, .b)] [none] args h) = law16_sameItems k D := by kernel_rfl
theorem ok_law16_sameItems {D : CallF} (hD : CSound Try.prog 0 D) (k : Nat) : EntOk Try.prog 0 (e_law16_sameItems k D) :=
 entOf_ok2 (mkC_sound hD (EntsOk.none)) Try.func15 rfl q_law16_sameItems rfl (t_law16_sameItems k D)
end Gc
namespace Gc
open Go Gx Go.Proofs
set_option maxRecDepth 100000
noncomputable def C_law16_few (_k : Nat) (D : CallF) : CallF := mkC D []
noncomputable def law16_few (_k : Nat) (_D : CallF) (f_0 : Slc × Slc) (h : AHeap) : Option ((Bool) × AHeap) :=
 newK h ((.cells [.slice f_0.1.a f_0.1.len f_0.1.cap, .slice f_0.2.a f_0.2.len f_0.2.cap] 25 true 0)) fun h1 =>
 (ldL (⟨h.next, 1, none⟩ : Addr) h1).bind fun x2 =>
 (if (decide ((x2.len : Int) ≤ 60)) = true then
 (ldL (⟨h.next, 0, none⟩ : Addr) h1).bind fun x3 =>
 (if (decide ((x3.len : Int) ≤ 60)) = true then
 some (true, h1)
 else
 (ldL (⟨h.next, 0, none⟩ : Addr) h1).bind fun x4 =>
 some ((decide ((x4.len : Int) > 4096)), h1))
 else
 (ldL (⟨h.next, 1, none⟩ : Addr) h1).bind fun x5 =>
 (if (decide ((x5.len : Int) > 4096)) = true then
 (ldL (⟨h.next, 0, none⟩ : Addr) h1).bind fun x6 =>
 (if (decide ((x6.len : Int) ≤ 60)) = true then
 some (true, h1)
 else
 (ldL (⟨h.next, 0, none⟩ : Addr) h1).bind fun x7 =>
 some ((decide ((x7.len : Int) > 4096)), h1))
 else
 some (false, h1)))
noncomputable def r_law16_few : RCode := an (.n) (rOf Try.prog 0 Try.f9)
noncomputable def e_law16_few (k : Nat) (D : CallF) : Ent := entOf 9 [(0, .st [.l, .l])] [(2, .b)] (law16_few k D)
theorem q_law16_few : (Try.f9.body).bind (rcodeOf Try.prog 0 Try.f9.ntmps) = some (strip r_law16_few) := by kernel_rfl
theorem t_law16_few (k : Nat) (D : CallF) : curF [(0, .st [.l, .l])] (fun args h => denF (C_law16_few k D) k r_law16_few [(2, .b)] [none] args h) = law16_few k D := by kernel_rfl
theorem ok_law16_few {D : CallF} (hD : CSound Try.prog 0 D) (k : Nat) : EntOk Try.prog 0 (e_law16_few k D) :=
 entOf_ok2 (mkC_sound hD (EntsOk.none)) Try.func9 rfl q_law16_few rfl (t_law16_few k D)
end Gc
namespace Gc
open Go Gx Go.Proofs
set_option maxRecDepth 100000
noncomputable def C_law16_IndexWrites (k : Nat) (D : CallF) : CallF := mkC D [e_law16_works k D, e_book_Lend k D, e_index_Encode k D, e_ref16_Encode k D, e_index_Decode k D, e_ref16_Decode k D, e_index_IdOf k D, e_ref16_IdOf k D, e_book_SameTexts k D, e_law16_sameItems k D, e_index_Name k D, e_ref16_Name k D, e_index_Split k D, e_ref16_Split k D, e_book_Kept k D, e_law16_few k D]
noncomputable def law16_IndexWrites (k : Nat) (D : CallF) (f_0 : Slc × Slc) (s_1 : ByteArray) (name_2 : ByteArray) (h : AHeap) : Option ((Bool) × AHeap) :=
 newK h ((.cells [.slice f_0.1.a f_0.1.len f_0.1.cap, .slice f_0.2.a f_0.2.len f_0.2.cap] 25 true 0)) fun h1 =>
 joinK (fun (s2 : ByteArray) (name3 : ByteArray) (f4 : Option Addr) (y5 : Bool) (h6 : AHeap) =>
 (if y5 = true then
 (law16_works k D h6).bind fun r8 =>
 some (r8.1, r8.2)
 else
 (f4).bind fun p9 =>
 (ldL (⟨p9.block, p9.off + 0, none⟩ : Addr) h6).bind fun x10 =>
 (f4).bind fun p11 =>
 (ldL (⟨p11.block, p11.off + 1, none⟩ : Addr) h6).bind fun x12 =>
 newK h6 ((.cells [.slice none 0 0, .slice none 0 0] 28 true 0)) fun h13 =>
 (stL 2 (⟨h6.next, 0, none⟩ : Addr) ([.slice x10.a x10.len x10.cap, .slice x12.a x12.len x12.cap]) h13).bind fun h14 =>
 let h15 := AHeap.resv h14 2
 (f4).bind fun p16 =>
 (ldL (⟨p16.block, p16.off + 0, none⟩ : Addr) h15).bind fun x17 =>
 (book_Lend k D x17 h15).bind fun r18 =>
 let h19 := AHeap.set r18.2 (h14.next + 0) (.cells [] 57 true 0)
 (f4).bind fun p20 =>
 (ldL (⟨p20.block, p20.off + 1, none⟩ : Addr) h19).bind fun x21 =>
 guardP (SameW [r18.2, h15] (fun H23 => (ldL (⟨p20.block, p20.off + 1, none⟩ : Addr) H23).bind fun y22 => some (.slice y22.a y22.len y22.cap)) (.slice x21.a x21.len x21.cap)) (
 (rdS 6 x21 h19).bind fun n25 =>
 (appendA 6 64 57 h19 (⟨(some ⟨(h14.next + 0), 0, some 0⟩), 0, 0⟩ : Slc) n25 x21.len).bind fun r24 =>
 let h26 := AHeap.set r24.2 (h14.next + 1) (.cells [.slice none 0 0, .slice none 0 0] 25 true 0)
 (stL 2 (⟨(h14.next + 1), 0, none⟩ : Addr) ([.slice r18.1.a r18.1.len r18.1.cap, .slice r24.1.a r24.1.len r24.1.cap]) h26).bind fun h27 =>
 (ldA 2 (⟨(h14.next + 1), 0, none⟩ : Addr) h27).bind fun l28 =>
 (decC [.l, .l] l28).bind fun x29 =>
 (index_Encode k D (x29.1, x29.2) h27).bind fun r30 =>
 (ldA 2 (⟨h6.next, 0, none⟩ : Addr) r30.2).bind fun l31 =>
 (decC [.l, .l] l31).bind fun x32 =>
 (ref16_Encode k D (x32.1, x32.2) r30.2).bind fun r33 =>
 joinK (fun (s34 : ByteArray) (name35 : ByteArray) (f36 : Option Addr) (g37 : Option Addr) (own38 : Option Addr) (y39 : Bool) (h40 : AHeap) =>
 (if y39 = true then
 some (false, h40)
 else
 joinK (fun (s42 : ByteArray) (name43 : ByteArray) (h44 : AHeap) =>
 (index_Decode k D s42 h44).bind fun r46 =>
 newK r46.2 ((.cells [.slice none 0 0, .slice none 0 0] 25 true 0)) fun h47 =>
 (stL 2 (⟨r46.2.next, 0, none⟩ : Addr) ([.slice r46.1.1.1.a r46.1.1.1.len r46.1.1.1.cap, .slice r46.1.1.2.a r46.1.1.2.len r46.1.1.2.cap]) h47).bind fun h48 =>
 (ref16_Decode k D s42 h48).bind fun r49 =>
 newK r49.2 ((.cells [.slice none 0 0, .slice none 0 0] 28 true 0)) fun h50 =>
 (stL 2 (⟨r49.2.next, 0, none⟩ : Addr) ([.slice r49.1.1.1.a r49.1.1.1.len r49.1.1.1.cap, .slice r49.1.1.2.a r49.1.1.2.len r49.1.1.2.cap]) h50).bind fun h51 =>
 (index_IdOf k D name43 h51).bind fun r52 =>
 (ref16_IdOf k D name43 r52.2).bind fun r53 =>
 (ldL (⟨r46.2.next, 0, none⟩ : Addr) r53.2).bind fun x54 =>
 (ldL (⟨r49.2.next, 0, none⟩ : Addr) r53.2).bind fun x55 =>
 (book_SameTexts k D x54 x55 r53.2).bind fun r56 =>
 (if r56.1 = true then
 (ldL (⟨r46.2.next, 1, none⟩ : Addr) r56.2).bind fun x57 =>
 (ldL (⟨r49.2.next, 1, none⟩ : Addr) r56.2).bind fun x58 =>
 (law16_sameItems k D x57 x58 r56.2).bind fun r59 =>
 (if r59.1 = true then
 (if (r46.1.2 == r49.1.2) = true then
 (if (r52.1.1 == r53.1.1) = true then
 (if (r52.1.2 == r53.1.2) = true then
 (index_Name k D s42 r59.2).bind fun r60 =>
 (ref16_Name k D s42 r60.2).bind fun r61 =>
 (if (r60.1 == r61.1) = true then
 (law16_works k D r61.2).bind fun r62 =>
 some (r62.1, r62.2)
 else
 some (false, r61.2))
 else
 some (false, r59.2))
 else
 some (false, r59.2))
 else
 some (false, r59.2))
 else
 some (false, r59.2))
 else
 some (false, r56.2))) fun j45 =>
 (f36).bind fun p63 =>
 (ldL (⟨p63.block, p63.off + 1, none⟩ : Addr) h40).bind fun x64 =>
 (if (decide ((x64.len : Int) ≤ 60)) = true then
 (own38).bind fun p65 =>
 (ldA 2 p65 h40).bind fun l66 =>
 (decC [.l, .l] l66).bind fun x67 =>
 (index_Split k D (x67.1, x67.2) h40).bind fun r68 =>
 (g37).bind fun p69 =>
 (ldA 2 p69 r68.2).bind fun l70 =>
 (decC [.l, .l] l70).bind fun x71 =>
 (ref16_Split k D (x71.1, x71.2) r68.2).bind fun r72 =>
 joinK (fun (s73 : ByteArray) (name74 : ByteArray) (y75 : Bool) (h76 : AHeap) =>
 (if y75 = true then
 some (false, h76)
 else
 j45 s73 name74 h76)) fun j77 =>
 (book_SameTexts k D r68.1.1 r72.1.1 r72.2).bind fun r78 =>
 (if (!r78.1) = true then
 j77 s34 name35 true r78.2
 else
 j77 s34 name35 (r68.1.2 != r72.1.2) r78.2)
 else
 j45 s34 name35 h40))) fun j41 =>
 (if (!(r30.1.1 == r33.1.1)) = true then
 j41 s2 name3 f4 (some (⟨h6.next, 0, none⟩ : Addr)) (some (⟨(h14.next + 1), 0, none⟩ : Addr)) true r33.2
 else
 (if (r30.1.2 != r33.1.2) = true then
 j41 s2 name3 f4 (some (⟨h6.next, 0, none⟩ : Addr)) (some (⟨(h14.next + 1), 0, none⟩ : Addr)) true r33.2
 else
 (ldL (⟨(h14.next + 1), 0, none⟩ : Addr) r33.2).bind fun x79 =>
 (f4).bind fun p80 =>
 (ldL (⟨p80.block, p80.off + 0, none⟩ : Addr) r33.2).bind fun x81 =>
 (book_Kept k D x79 x81 r33.2).bind fun r82 =>
 (if (!r82.1) = true then
 j41 s2 name3 f4 (some (⟨h6.next, 0, none⟩ : Addr)) (some (⟨(h14.next + 1), 0, none⟩ : Addr)) true r82.2
 else
 (ldL (⟨(h14.next + 1), 1, none⟩ : Addr) r82.2).bind fun x83 =>
 (f4).bind fun p84 =>
 (ldL (⟨p84.block, p84.off + 1, none⟩ : Addr) r82.2).bind fun x85 =>
 (law16_sameItems k D x83 x85 r82.2).bind fun r86 =>
 j41 s2 name3 f4 (some (⟨h6.next, 0, none⟩ : Addr)) (some (⟨(h14.next + 1), 0, none⟩ : Addr)) (!r86.1) r86.2)))))) fun j7 =>
 (ldA 2 (⟨h.next, 0, none⟩ : Addr) h1).bind fun l87 =>
 (decC [.l, .l] l87).bind fun x88 =>
 (law16_few k D (x88.1, x88.2) h1).bind fun r89 =>
 (if (!r89.1) = true then
 j7 s_1 name_2 (some (⟨h.next, 0, none⟩ : Addr)) true r89.2
 else
 (if (decide ((s_1.size : Int) > 10000)) = true then
 j7 s_1 name_2 (some (⟨h.next, 0, none⟩ : Addr)) (decide ((s_1.size : Int) ≤ 65536)) r89.2
 else
 j7 s_1 name_2 (some (⟨h.next, 0, none⟩ : Addr)) false r89.2))
noncomputable def r_law16_IndexWrites : RCode := an (.s .n (.s (.s (.j [(1, .s), (2, .s), (3, .p), (35, .b)] (.r [(0, .st [.l, .l])])) .n) (.s .n (.s .n (.s (.r [(0, .st [.l, .l])]) (.s (.r [(0, .st [.l, .l])]) (.s (.s (.j [(1, .s), (2, .s), (3, .p), (7, .p), (8, .p), (83, .b)] .n) .n) (.s (.j [(1, .s), (2, .s)] (.s .n (.s (.s (.r [(0, .st [.l, .l])]) (.s (.r [(0, .st [.l, .l])]) (.s (.j [(1, .s), (2, .s), (106, .b)] .n) .n))) .n))) .n)))))))) (rOf Try.prog 0 Try.f3)
noncomputable def e_law16_IndexWrites (k : Nat) (D : CallF) : Ent := entOf 3 [(0, .st [.l, .l]), (1, .s), (2, .s)] [(6, .b)] (law16_IndexWrites k D)
theorem q_law16_IndexWrites : (Try.f3.body).bind (rcodeOf Try.prog 0 Try.f3.ntmps) = some (strip r_law16_IndexWrites) := by kernel_rfl
theorem t_law16_IndexWrites (k : Nat) (D : CallF) : curF [(0, .st [.l, .l]), (1, .s), (2, .s)] (fun args h => denF (C_law16_IndexWrites k D) k r_law16_IndexWrites [(6, .b)] [none] args h) = law16_IndexWrites k D := by kernel_rfl
theorem ok_law16_IndexWrites {D : CallF} (hD : CSound Try.prog 0 D) (k : Nat) : EntOk Try.prog 0 (e_law16_IndexWrites k D) :=
 entOf_ok2 (mkC_sound hD (EntsOk.more (ok_law16_works hD k) (EntsOk.more (ok_book_Lend hD k) (EntsOk.more (ok_index_Encode hD k) (EntsOk.more (ok_ref16_Encode hD k) (EntsOk.more (ok_index_Decode hD k) (EntsOk.more (ok_ref16_Decode hD k) (EntsOk.more (ok_index_IdOf hD k) (EntsOk.more (ok_ref16_IdOf hD k) (EntsOk.more (ok_book_SameTexts hD k) (EntsOk.more (ok_law16_sameItems hD k) (EntsOk.more (ok_index_Name hD k) (EntsOk.more (ok_ref16_Name hD k) (EntsOk.more (ok_index_Split hD k) (EntsOk.more (ok_ref16_Split hD k) (EntsOk.more (ok_book_Kept hD k) (EntsOk.more (ok_law16_few hD k) (EntsOk.none)))))))))))))))))) Try.func3 rfl q_law16_IndexWrites rfl (t_law16_IndexWrites k D)
end Gc
