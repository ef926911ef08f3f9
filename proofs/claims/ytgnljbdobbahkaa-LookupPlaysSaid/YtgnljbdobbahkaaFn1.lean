import Derived.Test.YtgnljbdobbahkaaProg
import Derived.Shelf.Strings.OnBuilder
import Derived.Shelf.Strings.Repeat
import Derived.KernelRfl
import Derived.Shelf.SortM.Plain
import Derived.Shelf.SortM.SortNone
import Derived.Test.YtgnljbdobbahkaaGx3
namespace Gc
open Go Gx Go.Proofs
set_option maxRecDepth 100000
noncomputable def C_cmp_isNaN_string (_k : Nat) (D : CallF) : CallF := mkC D []
noncomputable def cmp_isNaN_string (_k : Nat) (_D : CallF) (x_0 : ByteArray) (h : AHeap) : Option ((Bool) × AHeap) :=
 some ((!(x_0 == x_0)), h)
noncomputable def r_cmp_isNaN_string : RCode := an (.n) (rOf Try.prog 0 Try.f131)
noncomputable def e_cmp_isNaN_string (k : Nat) (D : CallF) : Ent := entOf 131 [(0, .s)] [(2, .b)] (cmp_isNaN_string k D)
theorem q_cmp_isNaN_string : (Try.f131.body).bind (rcodeOf Try.prog 0 Try.f131.ntmps) = some (strip r_cmp_isNaN_string) := by kernel_rfl
theorem t_cmp_isNaN_string (k : Nat) (D : CallF) : curF [(0, .s)] (fun args h => denF (C_cmp_isNaN_string k D) k r_cmp_isNaN_string [(2, .b)] [none] args h) = cmp_isNaN_string k D := by kernel_rfl
theorem ok_cmp_isNaN_string {D : CallF} (hD : CSound Try.prog 0 D) (k : Nat) : EntOk Try.prog 0 (e_cmp_isNaN_string k D) :=
 entOf_ok2 (mkC_sound hD (EntsOk.none)) Try.func131 rfl q_cmp_isNaN_string rfl (t_cmp_isNaN_string k D)
end Gc
namespace Gc
open Go Gx Go.Proofs
set_option maxRecDepth 100000
noncomputable def C_cmp_Compare_string (k : Nat) (D : CallF) : CallF := mkC D [e_cmp_isNaN_string k D]
noncomputable def cmp_Compare_string (k : Nat) (D : CallF) (x_0 : ByteArray) (y_1 : ByteArray) (h : AHeap) : Option ((Int) × AHeap) :=
 (cmp_isNaN_string k D x_0 h).bind fun r1 =>
 (cmp_isNaN_string k D y_1 r1.2).bind fun r2 =>
 (if r1.1 = true then
 (if r2.1 = true then
 some (0, r2.2)
 else
 some ((-1), r2.2))
 else
 (if r2.1 = true then
 some (1, r2.2)
 else
 (if (Op.bytesLess x_0.toList y_1.toList) = true then
 some ((-1), r2.2)
 else
 (if (!(Op.bytesLess x_0.toList y_1.toList || (x_0 == y_1))) = true then
 some (1, r2.2)
 else
 some (0, r2.2)))))
noncomputable def r_cmp_Compare_string : RCode := an (.n) (rOf Try.prog 0 Try.f121)
noncomputable def e_cmp_Compare_string (k : Nat) (D : CallF) : Ent := entOf 121 [(0, .s), (1, .s)] [(4, .i .i64)] (cmp_Compare_string k D)
theorem q_cmp_Compare_string : (Try.f121.body).bind (rcodeOf Try.prog 0 Try.f121.ntmps) = some (strip r_cmp_Compare_string) := by kernel_rfl
theorem t_cmp_Compare_string (k : Nat) (D : CallF) : curF [(0, .s), (1, .s)] (fun args h => denF (C_cmp_Compare_string k D) k r_cmp_Compare_string [(4, .i .i64)] [none] args h) = cmp_Compare_string k D := by kernel_rfl
theorem ok_cmp_Compare_string {D : CallF} (hD : CSound Try.prog 0 D) (k : Nat) : EntOk Try.prog 0 (e_cmp_Compare_string k D) :=
 entOf_ok2 (mkC_sound hD (EntsOk.more (ok_cmp_isNaN_string hD k) (EntsOk.none))) Try.func121 rfl q_cmp_Compare_string rfl (t_cmp_Compare_string k D)
end Gc
namespace Gc
open Go Gx Go.Proofs
set_option maxRecDepth 100000
noncomputable def C_cmp_isNaN_int (_k : Nat) (D : CallF) : CallF := mkC D []
noncomputable def cmp_isNaN_int (_k : Nat) (_D : CallF) (x_0 : Int) (h : AHeap) : Option ((Bool) × AHeap) :=
 some ((x_0 != x_0), h)
noncomputable def r_cmp_isNaN_int : RCode := an (.n) (rOf Try.prog 0 Try.f137)
noncomputable def e_cmp_isNaN_int (k : Nat) (D : CallF) : Ent := entOf 137 [(0, .i .i64)] [(2, .b)] (cmp_isNaN_int k D)
theorem q_cmp_isNaN_int : (Try.f137.body).bind (rcodeOf Try.prog 0 Try.f137.ntmps) = some (strip r_cmp_isNaN_int) := by kernel_rfl
theorem t_cmp_isNaN_int (k : Nat) (D : CallF) : curF [(0, .i .i64)] (fun args h => denF (C_cmp_isNaN_int k D) k r_cmp_isNaN_int [(2, .b)] [none] args h) = cmp_isNaN_int k D := by kernel_rfl
theorem ok_cmp_isNaN_int {D : CallF} (hD : CSound Try.prog 0 D) (k : Nat) : EntOk Try.prog 0 (e_cmp_isNaN_int k D) :=
 entOf_ok2 (mkC_sound hD (EntsOk.none)) Try.func137 rfl q_cmp_isNaN_int rfl (t_cmp_isNaN_int k D)
end Gc
namespace Gc
open Go Gx Go.Proofs
set_option maxRecDepth 100000
noncomputable def C_cmp_Compare_int (k : Nat) (D : CallF) : CallF := mkC D [e_cmp_isNaN_int k D]
noncomputable def cmp_Compare_int (k : Nat) (D : CallF) (x_0 : Int) (y_1 : Int) (h : AHeap) : Option ((Int) × AHeap) :=
 (cmp_isNaN_int k D x_0 h).bind fun r1 =>
 (cmp_isNaN_int k D y_1 r1.2).bind fun r2 =>
 (if r1.1 = true then
 (if r2.1 = true then
 some (0, r2.2)
 else
 some ((-1), r2.2))
 else
 (if r2.1 = true then
 some (1, r2.2)
 else
 (if (decide (x_0 < y_1)) = true then
 some ((-1), r2.2)
 else
 (if (decide (x_0 > y_1)) = true then
 some (1, r2.2)
 else
 some (0, r2.2)))))
noncomputable def r_cmp_Compare_int : RCode := an (.n) (rOf Try.prog 0 Try.f122)
noncomputable def e_cmp_Compare_int (k : Nat) (D : CallF) : Ent := entOf 122 [(0, .i .i64), (1, .i .i64)] [(4, .i .i64)] (cmp_Compare_int k D)
theorem q_cmp_Compare_int : (Try.f122.body).bind (rcodeOf Try.prog 0 Try.f122.ntmps) = some (strip r_cmp_Compare_int) := by kernel_rfl
theorem t_cmp_Compare_int (k : Nat) (D : CallF) : curF [(0, .i .i64), (1, .i .i64)] (fun args h => denF (C_cmp_Compare_int k D) k r_cmp_Compare_int [(4, .i .i64)] [none] args h) = cmp_Compare_int k D := by kernel_rfl
theorem ok_cmp_Compare_int {D : CallF} (hD : CSound Try.prog 0 D) (k : Nat) : EntOk Try.prog 0 (e_cmp_Compare_int k D) :=
 entOf_ok2 (mkC_sound hD (EntsOk.more (ok_cmp_isNaN_int hD k) (EntsOk.none))) Try.func122 rfl q_cmp_Compare_int rfl (t_cmp_Compare_int k D)
end Gc
namespace Gc
open Go Gx Go.Proofs
set_option maxRecDepth 100000
noncomputable def C_cmp_Or_int (_k : Nat) (D : CallF) : CallF := mkC D []
noncomputable def cmp_Or_int_l0b (_k : Nat) (_D : CallF) (j3 : Int → AHeap → Option ((Int) × AHeap)) (rec9 : Int → Slc → Int → Int → AHeap → Option ((Int) × AHeap)) (zero4 : Int) (y5 : Slc) (y6 : Int) (y7 : Int) (h8 : AHeap) : Option ((Int) × AHeap) :=
 (if (decide (y7 < y6)) = true then
 (Gx.idxL 1 y5 y7).bind fun q10 =>
 (ldI .i64 q10 h8).bind fun x11 =>
 (if (x11 != zero4) = true then
 some (x11, h8)
 else
 rec9 zero4 y5 y6 (IntKind.wrap .i64 (y7 + 1)) h8)
 else
 j3 zero4 h8)
noncomputable def cmp_Or_int_l0 (k : Nat) (D : CallF) (j3 : Int → AHeap → Option ((Int) × AHeap)) : Int → Slc → Int → Int → AHeap → Option ((Int) × AHeap) :=
 iterK (α := Int → Slc → Int → Int → AHeap → Option ((Int) × AHeap)) (fun _ _ _ _ _ => none) k (cmp_Or_int_l0b k D j3)
noncomputable def cmp_Or_int (k : Nat) (D : CallF) (vals_0 : Slc) (h : AHeap) : Option ((Int) × AHeap) :=
 joinK (fun (zero1 : Int) (h2 : AHeap) =>
 some (zero1, h2)) fun j3 =>
 cmp_Or_int_l0 k D j3 0 vals_0 (vals_0.len : Int) 0 h
noncomputable def r_cmp_Or_int : RCode := an (.s .n (.s .n (.s (.j [(3, .i .i64)] (.s .n (.b (.l [(3, .i .i64), (6, .l), (7, .i .i64), (8, .i .i64)] .n)))) .n))) (rOf Try.prog 0 Try.f120)
noncomputable def e_cmp_Or_int (k : Nat) (D : CallF) : Ent := entOf 120 [(0, .l)] [(2, .i .i64)] (cmp_Or_int k D)
theorem q_cmp_Or_int : (Try.f120.body).bind (rcodeOf Try.prog 0 Try.f120.ntmps) = some (strip r_cmp_Or_int) := by kernel_rfl
theorem t_cmp_Or_int (k : Nat) (D : CallF) : curF [(0, .l)] (fun args h => denF (C_cmp_Or_int k D) k r_cmp_Or_int [(2, .i .i64)] [none] args h) = cmp_Or_int k D := by kernel_rfl
theorem ok_cmp_Or_int {D : CallF} (hD : CSound Try.prog 0 D) (k : Nat) : EntOk Try.prog 0 (e_cmp_Or_int k D) :=
 entOf_ok2 (mkC_sound hD (EntsOk.none)) Try.func120 rfl q_cmp_Or_int rfl (t_cmp_Or_int k D)
end Gc
namespace Gc
open Go Gx Go.Proofs
set_option maxRecDepth 100000
noncomputable def C_lookup_order (k : Nat) (D : CallF) : CallF := mkC D [e_cmp_Compare_string k D, e_cmp_Compare_int k D, e_cmp_Or_int k D]
noncomputable def lookup_order (k : Nat) (D : CallF) (x_0 : ByteArray × ByteArray × Int × Int × Int × Int) (y_1 : ByteArray × ByteArray × Int × Int × Int × Int) (h : AHeap) : Option ((Int) × AHeap) :=
 newK h ((.cells [.string x_0.1, .string x_0.2.1, .int .i64 x_0.2.2.1, .int .i64 x_0.2.2.2.1, .int .i64 x_0.2.2.2.2.1, .int .i64 x_0.2.2.2.2.2] 57 true 0)) fun h1 =>
 newK h1 ((.cells [.string y_1.1, .string y_1.2.1, .int .i64 y_1.2.2.1, .int .i64 y_1.2.2.2.1, .int .i64 y_1.2.2.2.2.1, .int .i64 y_1.2.2.2.2.2] 57 true 0)) fun h2 =>
 (ldS (⟨h.next, 0, none⟩ : Addr) h2).bind fun x3 =>
 (ldS (⟨h1.next, 0, none⟩ : Addr) h2).bind fun x4 =>
 (cmp_Compare_string k D x3 x4 h2).bind fun r5 =>
 (ldS (⟨h.next, 1, none⟩ : Addr) r5.2).bind fun x6 =>
 guardP (SameW [h2] (fun H8 => (ldS (⟨h.next, 1, none⟩ : Addr) H8).bind fun y7 => some (.string y7)) (.string x6)) (
 (ldS (⟨h1.next, 1, none⟩ : Addr) r5.2).bind fun x9 =>
 guardP (SameW [h2] (fun H11 => (ldS (⟨h1.next, 1, none⟩ : Addr) H11).bind fun y10 => some (.string y10)) (.string x9)) (
 (cmp_Compare_string k D x6 x9 r5.2).bind fun r12 =>
 (ldI .i64 (⟨h.next, 3, none⟩ : Addr) r12.2).bind fun x13 =>
 guardP (SameW [r5.2, h2] (fun H15 => (ldI .i64 (⟨h.next, 3, none⟩ : Addr) H15).bind fun y14 => some (.int .i64 y14)) (.int .i64 x13)) (
 (ldI .i64 (⟨h1.next, 3, none⟩ : Addr) r12.2).bind fun x16 =>
 guardP (SameW [r5.2, h2] (fun H18 => (ldI .i64 (⟨h1.next, 3, none⟩ : Addr) H18).bind fun y17 => some (.int .i64 y17)) (.int .i64 x16)) (
 (cmp_Compare_int k D x13 x16 r12.2).bind fun r19 =>
 (ldI .i64 (⟨h.next, 4, none⟩ : Addr) r19.2).bind fun x20 =>
 guardP (SameW [r12.2, r5.2, h2] (fun H22 => (ldI .i64 (⟨h.next, 4, none⟩ : Addr) H22).bind fun y21 => some (.int .i64 y21)) (.int .i64 x20)) (
 (ldI .i64 (⟨h1.next, 4, none⟩ : Addr) r19.2).bind fun x23 =>
 guardP (SameW [r12.2, r5.2, h2] (fun H25 => (ldI .i64 (⟨h1.next, 4, none⟩ : Addr) H25).bind fun y24 => some (.int .i64 y24)) (.int .i64 x23)) (
 (cmp_Compare_int k D x20 x23 r19.2).bind fun r26 =>
 (ldI .i64 (⟨h.next, 5, none⟩ : Addr) r26.2).bind fun x27 =>
 guardP (SameW [r19.2, r12.2, r5.2, h2] (fun H29 => (ldI .i64 (⟨h.next, 5, none⟩ : Addr) H29).bind fun y28 => some (.int .i64 y28)) (.int .i64 x27)) (
 (ldI .i64 (⟨h1.next, 5, none⟩ : Addr) r26.2).bind fun x30 =>
 guardP (SameW [r19.2, r12.2, r5.2, h2] (fun H32 => (ldI .i64 (⟨h1.next, 5, none⟩ : Addr) H32).bind fun y31 => some (.int .i64 y31)) (.int .i64 x30)) (
 (cmp_Compare_int k D x27 x30 r26.2).bind fun r33 =>
 (ldI .i64 (⟨h.next, 2, none⟩ : Addr) r33.2).bind fun x34 =>
 guardP (SameW [r26.2, r19.2, r12.2, r5.2, h2] (fun H36 => (ldI .i64 (⟨h.next, 2, none⟩ : Addr) H36).bind fun y35 => some (.int .i64 y35)) (.int .i64 x34)) (
 (ldI .i64 (⟨h1.next, 2, none⟩ : Addr) r33.2).bind fun x37 =>
 guardP (SameW [r26.2, r19.2, r12.2, r5.2, h2] (fun H39 => (ldI .i64 (⟨h1.next, 2, none⟩ : Addr) H39).bind fun y38 => some (.int .i64 y38)) (.int .i64 x37)) (
 (cmp_Compare_int k D x34 x37 r33.2).bind fun r40 =>
 newK r40.2 ((.cells [.int .i64 r5.1, .int .i64 r12.1, .int .i64 r19.1, .int .i64 r26.1, .int .i64 r33.1, .int .i64 r40.1] 3 true 0)) fun h41 =>
 (cmp_Or_int k D (⟨(some ⟨r40.2.next, 0, some 0⟩), 6, 6⟩ : Slc) h41).bind fun r42 =>
 some (r42.1, r42.2)))))))))))
noncomputable def r_lookup_order : RCode := an (.n) (rOf Try.prog 0 Try.f78)
noncomputable def e_lookup_order (k : Nat) (D : CallF) : Ent := entOf 78 [(0, .st [.s, .s, .i .i64, .i .i64, .i .i64, .i .i64]), (1, .st [.s, .s, .i .i64, .i .i64, .i .i64, .i .i64])] [(4, .i .i64)] (lookup_order k D)
theorem q_lookup_order : (Try.f78.body).bind (rcodeOf Try.prog 0 Try.f78.ntmps) = some (strip r_lookup_order) := by kernel_rfl
theorem t_lookup_order (k : Nat) (D : CallF) : curF [(0, .st [.s, .s, .i .i64, .i .i64, .i .i64, .i .i64]), (1, .st [.s, .s, .i .i64, .i .i64, .i .i64, .i .i64])] (fun args h => denF (C_lookup_order k D) k r_lookup_order [(4, .i .i64)] [none] args h) = lookup_order k D := by kernel_rfl
theorem ok_lookup_order {D : CallF} (hD : CSound Try.prog 0 D) (k : Nat) : EntOk Try.prog 0 (e_lookup_order k D) :=
 entOf_ok2 (mkC_sound hD (EntsOk.more (ok_cmp_Compare_string hD k) (EntsOk.more (ok_cmp_Compare_int hD k) (EntsOk.more (ok_cmp_Or_int hD k) (EntsOk.none))))) Try.func78 rfl q_lookup_order rfl (t_lookup_order k D)
end Gc
namespace Gc
open Go Gx Go.Proofs
set_option maxRecDepth 100000
end Gc
namespace Gc
open Go Gx Go.Proofs
set_option maxRecDepth 100000
noncomputable def C_sha_IsId (_k : Nat) (D : CallF) : CallF := mkC D []
noncomputable def sha_IsId (_k : Nat) (_D : CallF) (s_0 : ByteArray) (h : AHeap) : Option ((Bool) × AHeap) :=
 some (((s_0.size : Int) == 32), h)
noncomputable def r_sha_IsId : RCode := an (.n) (rOf Try.prog 0 Try.f66)
noncomputable def e_sha_IsId (k : Nat) (D : CallF) : Ent := entOf 66 [(0, .s)] [(2, .b)] (sha_IsId k D)
theorem q_sha_IsId : (Try.f66.body).bind (rcodeOf Try.prog 0 Try.f66.ntmps) = some (strip r_sha_IsId) := by kernel_rfl
theorem t_sha_IsId (k : Nat) (D : CallF) : curF [(0, .s)] (fun args h => denF (C_sha_IsId k D) k r_sha_IsId [(2, .b)] [none] args h) = sha_IsId k D := by kernel_rfl
theorem ok_sha_IsId {D : CallF} (hD : CSound Try.prog 0 D) (k : Nat) : EntOk Try.prog 0 (e_sha_IsId k D) :=
 entOf_ok2 (mkC_sound hD (EntsOk.none)) Try.func66 rfl q_sha_IsId rfl (t_sha_IsId k D)
end Gc
namespace Gc
open Go Gx Go.Proofs
set_option maxRecDepth 100000
noncomputable def C_lookup_within (_k : Nat) (D : CallF) : CallF := mkC D []
noncomputable def lookup_within (_k : Nat) (_D : CallF) (n_0 : Int) (least_1 : Int) (h : AHeap) : Option ((Bool) × AHeap) :=
 (if (decide (n_0 ≥ least_1)) = true then
 some ((decide (n_0 ≤ 65536)), h)
 else
 some (false, h))
noncomputable def r_lookup_within : RCode := an (.n) (rOf Try.prog 0 Try.f76)
noncomputable def e_lookup_within (k : Nat) (D : CallF) : Ent := entOf 76 [(0, .i .i64), (1, .i .i64)] [(4, .b)] (lookup_within k D)
theorem q_lookup_within : (Try.f76.body).bind (rcodeOf Try.prog 0 Try.f76.ntmps) = some (strip r_lookup_within) := by kernel_rfl
theorem t_lookup_within (k : Nat) (D : CallF) : curF [(0, .i .i64), (1, .i .i64)] (fun args h => denF (C_lookup_within k D) k r_lookup_within [(4, .b)] [none] args h) = lookup_within k D := by kernel_rfl
theorem ok_lookup_within {D : CallF} (hD : CSound Try.prog 0 D) (k : Nat) : EntOk Try.prog 0 (e_lookup_within k D) :=
 entOf_ok2 (mkC_sound hD (EntsOk.none)) Try.func76 rfl q_lookup_within rfl (t_lookup_within k D)
end Gc
namespace Gc
open Go Gx Go.Proofs
set_option maxRecDepth 100000
noncomputable def C_lookup_Check (k : Nat) (D : CallF) : CallF := mkC D [e_sha_IsId k D, e_lookup_within k D]
noncomputable def lookup_Check (k : Nat) (D : CallF) (x_0 : ByteArray × ByteArray × Int × Int × Int × Int) (h : AHeap) : Option ((Int) × AHeap) :=
 newK h ((.cells [.string x_0.1, .string x_0.2.1, .int .i64 x_0.2.2.1, .int .i64 x_0.2.2.2.1, .int .i64 x_0.2.2.2.2.1, .int .i64 x_0.2.2.2.2.2] 57 true 0)) fun h1 =>
 joinK (fun (x2 : Option Addr) (kind3 : Bool) (h4 : AHeap) =>
 joinK (fun (y6 : Bool) (h7 : AHeap) =>
 (if y6 = true then
 some (1, h7)
 else
 some (0, h7))) fun j8 =>
 (x2).bind fun p9 =>
 (ldS (⟨p9.block, p9.off + 0, none⟩ : Addr) h4).bind fun x10 =>
 (sha_IsId k D x10 h4).bind fun r11 =>
 (if (!r11.1) = true then
 j8 true r11.2
 else
 (x2).bind fun p12 =>
 (ldS (⟨p12.block, p12.off + 1 + 0, none⟩ : Addr) r11.2).bind fun x13 =>
 (sha_IsId k D x13 r11.2).bind fun r14 =>
 (if (!r14.1) = true then
 j8 true r14.2
 else
 (if (!kind3) = true then
 j8 true r14.2
 else
 (x2).bind fun p15 =>
 (ldI .i64 (⟨p15.block, p15.off + 1 + 2, none⟩ : Addr) r14.2).bind fun x16 =>
 (lookup_within k D x16 0 r14.2).bind fun r17 =>
 (if (!r17.1) = true then
 j8 true r17.2
 else
 (x2).bind fun p18 =>
 (ldI .i64 (⟨p18.block, p18.off + 1 + 3, none⟩ : Addr) r17.2).bind fun x19 =>
 (lookup_within k D x19 1 r17.2).bind fun r20 =>
 (if (!r20.1) = true then
 j8 true r20.2
 else
 (x2).bind fun p21 =>
 (ldI .i64 (⟨p21.block, p21.off + 1 + 4, none⟩ : Addr) r20.2).bind fun x22 =>
 (lookup_within k D x22 0 r20.2).bind fun r23 =>
 j8 (!r23.1) r23.2)))))) fun j5 =>
 (ldI .i64 (⟨h.next, 2, none⟩ : Addr) h1).bind fun x24 =>
 (if (x24 == 1) = true then
 j5 (some (⟨h.next, 0, none⟩ : Addr)) true h1
 else
 (ldI .i64 (⟨h.next, 2, none⟩ : Addr) h1).bind fun x25 =>
 j5 (some (⟨h.next, 0, none⟩ : Addr)) (x25 == 2) h1)
noncomputable def r_lookup_Check : RCode := an (.s .n (.s (.j [(1, .p), (3, .b)] .n) (.s (.s (.j [(49, .b)] .n) .n) .n))) (rOf Try.prog 0 Try.f28)
noncomputable def e_lookup_Check (k : Nat) (D : CallF) : Ent := entOf 28 [(0, .st [.s, .s, .i .i64, .i .i64, .i .i64, .i .i64])] [(2, .i .i64)] (lookup_Check k D)
theorem q_lookup_Check : (Try.f28.body).bind (rcodeOf Try.prog 0 Try.f28.ntmps) = some (strip r_lookup_Check) := by kernel_rfl
theorem t_lookup_Check (k : Nat) (D : CallF) : curF [(0, .st [.s, .s, .i .i64, .i .i64, .i .i64, .i .i64])] (fun args h => denF (C_lookup_Check k D) k r_lookup_Check [(2, .i .i64)] [none] args h) = lookup_Check k D := by kernel_rfl
theorem ok_lookup_Check {D : CallF} (hD : CSound Try.prog 0 D) (k : Nat) : EntOk Try.prog 0 (e_lookup_Check k D) :=
 entOf_ok2 (mkC_sound hD (EntsOk.more (ok_sha_IsId hD k) (EntsOk.more (ok_lookup_within hD k) (EntsOk.none)))) Try.func28 rfl q_lookup_Check rfl (t_lookup_Check k D)
end Gc
namespace Gc
open Go Gx Go.Proofs
set_option maxRecDepth 100000
noncomputable def C_ref13_Known (_k : Nat) (D : CallF) : CallF := mkC D []
noncomputable def ref13_Known (_k : Nat) (_D : CallF) (kind_0 : Int) (h : AHeap) : Option ((Bool) × AHeap) :=
 (if (kind_0 == 1) = true then
 some (true, h)
 else
 some ((kind_0 == 2), h))
noncomputable def r_ref13_Known : RCode := an (.n) (rOf Try.prog 0 Try.f77)
noncomputable def e_ref13_Known (k : Nat) (D : CallF) : Ent := entOf 77 [(0, .i .i64)] [(2, .b)] (ref13_Known k D)
theorem q_ref13_Known : (Try.f77.body).bind (rcodeOf Try.prog 0 Try.f77.ntmps) = some (strip r_ref13_Known) := by kernel_rfl
theorem t_ref13_Known (k : Nat) (D : CallF) : curF [(0, .i .i64)] (fun args h => denF (C_ref13_Known k D) k r_ref13_Known [(2, .b)] [none] args h) = ref13_Known k D := by kernel_rfl
theorem ok_ref13_Known {D : CallF} (hD : CSound Try.prog 0 D) (k : Nat) : EntOk Try.prog 0 (e_ref13_Known k D) :=
 entOf_ok2 (mkC_sound hD (EntsOk.none)) Try.func77 rfl q_ref13_Known rfl (t_ref13_Known k D)
end Gc
namespace Gc
open Go Gx Go.Proofs
set_option maxRecDepth 100000
noncomputable def C_ref15_Check (k : Nat) (D : CallF) : CallF := mkC D [e_ref13_Known k D]
noncomputable def ref15_Check (k : Nat) (D : CallF) (x_0 : ByteArray × ByteArray × Int × Int × Int × Int) (h : AHeap) : Option ((Int) × AHeap) :=
 newK h ((.cells [.string x_0.1, .string x_0.2.1, .int .i64 x_0.2.2.1, .int .i64 x_0.2.2.2.1, .int .i64 x_0.2.2.2.2.1, .int .i64 x_0.2.2.2.2.2] 57 true 0)) fun h1 =>
 (ldA 5 (⟨h.next, 1, none⟩ : Addr) h1).bind fun l2 =>
 (decC [.s, .i .i64, .i .i64, .i .i64, .i .i64] l2).bind fun x3 =>
 newK h1 ((.cells [.string ⟨#[]⟩, .int .i64 0, .int .i64 0, .int .i64 0, .int .i64 0] 55 true 0)) fun h4 =>
 (stL 5 (⟨h1.next, 0, none⟩ : Addr) ([.string x3.1, .int .i64 x3.2.1, .int .i64 x3.2.2.1, .int .i64 x3.2.2.2.1, .int .i64 x3.2.2.2.2]) h4).bind fun h5 =>
 joinK (fun (a6 : Option Addr) (y7 : Bool) (h8 : AHeap) =>
 (if y7 = true then
 some (1, h8)
 else
 joinK (fun (y10 : Bool) (h11 : AHeap) =>
 (if y10 = true then
 some (1, h11)
 else
 some (0, h11))) fun j12 =>
 (a6).bind fun p13 =>
 (ldI .i64 (⟨p13.block, p13.off + 2, none⟩ : Addr) h8).bind fun x14 =>
 (if (decide (x14 < 0)) = true then
 j12 true h8
 else
 (a6).bind fun p15 =>
 (ldI .i64 (⟨p15.block, p15.off + 2, none⟩ : Addr) h8).bind fun x16 =>
 (if (decide (x16 > 65536)) = true then
 j12 true h8
 else
 (a6).bind fun p17 =>
 (ldI .i64 (⟨p17.block, p17.off + 3, none⟩ : Addr) h8).bind fun x18 =>
 (if (decide (x18 < 1)) = true then
 j12 true h8
 else
 (a6).bind fun p19 =>
 (ldI .i64 (⟨p19.block, p19.off + 3, none⟩ : Addr) h8).bind fun x20 =>
 (if (decide (x20 > 65536)) = true then
 j12 true h8
 else
 (a6).bind fun p21 =>
 (ldI .i64 (⟨p21.block, p21.off + 4, none⟩ : Addr) h8).bind fun x22 =>
 (if (decide (x22 < 0)) = true then
 j12 true h8
 else
 (a6).bind fun p23 =>
 (ldI .i64 (⟨p23.block, p23.off + 4, none⟩ : Addr) h8).bind fun x24 =>
 j12 (decide (x24 > 65536)) h8))))))) fun j9 =>
 (ldS (⟨h.next, 0, none⟩ : Addr) h5).bind fun x25 =>
 (if ((x25.size : Int) != 32) = true then
 j9 (some (⟨h1.next, 0, none⟩ : Addr)) true h5
 else
 (ldS (⟨h1.next, 0, none⟩ : Addr) h5).bind fun x26 =>
 (if ((x26.size : Int) != 32) = true then
 j9 (some (⟨h1.next, 0, none⟩ : Addr)) true h5
 else
 (ldI .i64 (⟨h1.next, 1, none⟩ : Addr) h5).bind fun x27 =>
 (ref13_Known k D x27 h5).bind fun r28 =>
 j9 (some (⟨h1.next, 0, none⟩ : Addr)) (!r28.1) r28.2))
noncomputable def r_ref15_Check : RCode := an (.s .n (.s (.r [(1, .st [.s, .i .i64, .i .i64, .i .i64, .i .i64])]) (.s (.s (.j [(3, .p), (21, .b)] .n) .n) (.s (.s (.j [(49, .b)] .n) .n) .n)))) (rOf Try.prog 0 Try.f29)
noncomputable def e_ref15_Check (k : Nat) (D : CallF) : Ent := entOf 29 [(0, .st [.s, .s, .i .i64, .i .i64, .i .i64, .i .i64])] [(2, .i .i64)] (ref15_Check k D)
theorem q_ref15_Check : (Try.f29.body).bind (rcodeOf Try.prog 0 Try.f29.ntmps) = some (strip r_ref15_Check) := by kernel_rfl
theorem t_ref15_Check (k : Nat) (D : CallF) : curF [(0, .st [.s, .s, .i .i64, .i .i64, .i .i64, .i .i64])] (fun args h => denF (C_ref15_Check k D) k r_ref15_Check [(2, .i .i64)] [none] args h) = ref15_Check k D := by kernel_rfl
theorem ok_ref15_Check {D : CallF} (hD : CSound Try.prog 0 D) (k : Nat) : EntOk Try.prog 0 (e_ref15_Check k D) :=
 entOf_ok2 (mkC_sound hD (EntsOk.more (ok_ref13_Known hD k) (EntsOk.none))) Try.func29 rfl q_ref15_Check rfl (t_ref15_Check k D)
end Gc
namespace Gc
open Go Gx Go.Proofs
set_option maxRecDepth 100000
noncomputable def C_ref15_Less (_k : Nat) (D : CallF) : CallF := mkC D []
noncomputable def ref15_Less (_k : Nat) (_D : CallF) (x_0 : ByteArray × ByteArray × Int × Int × Int × Int) (y_1 : ByteArray × ByteArray × Int × Int × Int × Int) (h : AHeap) : Option ((Bool) × AHeap) :=
 newK h ((.cells [.string x_0.1, .string x_0.2.1, .int .i64 x_0.2.2.1, .int .i64 x_0.2.2.2.1, .int .i64 x_0.2.2.2.2.1, .int .i64 x_0.2.2.2.2.2] 57 true 0)) fun h1 =>
 newK h1 ((.cells [.string y_1.1, .string y_1.2.1, .int .i64 y_1.2.2.1, .int .i64 y_1.2.2.2.1, .int .i64 y_1.2.2.2.2.1, .int .i64 y_1.2.2.2.2.2] 57 true 0)) fun h2 =>
 (ldS (⟨h.next, 0, none⟩ : Addr) h2).bind fun x3 =>
 (ldS (⟨h1.next, 0, none⟩ : Addr) h2).bind fun x4 =>
 (if (!(x3 == x4)) = true then
 (ldS (⟨h.next, 0, none⟩ : Addr) h2).bind fun x5 =>
 (ldS (⟨h1.next, 0, none⟩ : Addr) h2).bind fun x6 =>
 some ((Op.bytesLess x5.toList x6.toList), h2)
 else
 let h7 := AHeap.resv h2 2
 (ldA 5 (⟨h.next, 1, none⟩ : Addr) h7).bind fun l8 =>
 (decC [.s, .i .i64, .i .i64, .i .i64, .i .i64] l8).bind fun x9 =>
 let h10 := AHeap.set h7 (h2.next + 0) (.cells [.string ⟨#[]⟩, .int .i64 0, .int .i64 0, .int .i64 0, .int .i64 0] 55 true 0)
 let h11 := AHeap.set h10 (h2.next + 1) (.cells [.string ⟨#[]⟩, .int .i64 0, .int .i64 0, .int .i64 0, .int .i64 0] 55 true 0)
 (stL 5 (⟨(h2.next + 0), 0, none⟩ : Addr) ([.string x9.1, .int .i64 x9.2.1, .int .i64 x9.2.2.1, .int .i64 x9.2.2.2.1, .int .i64 x9.2.2.2.2]) h11).bind fun h12 =>
 (ldA 5 (⟨h1.next, 1, none⟩ : Addr) h12).bind fun l13 =>
 guardP (SameW [h11, h10, h7] (fun H15 => (ldA 5 (⟨h1.next, 1, none⟩ : Addr) H15).bind fun y14 => some (.agg ⟨y14⟩)) (.agg ⟨l13⟩)) (
 (decC [.s, .i .i64, .i .i64, .i .i64, .i .i64] l13).bind fun x16 =>
 (stL 5 (⟨(h2.next + 1), 0, none⟩ : Addr) ([.string x16.1, .int .i64 x16.2.1, .int .i64 x16.2.2.1, .int .i64 x16.2.2.2.1, .int .i64 x16.2.2.2.2]) h12).bind fun h17 =>
 (ldS (⟨(h2.next + 0), 0, none⟩ : Addr) h17).bind fun x18 =>
 (ldS (⟨(h2.next + 1), 0, none⟩ : Addr) h17).bind fun x19 =>
 (if (!(x18 == x19)) = true then
 (ldS (⟨(h2.next + 0), 0, none⟩ : Addr) h17).bind fun x20 =>
 (ldS (⟨(h2.next + 1), 0, none⟩ : Addr) h17).bind fun x21 =>
 some ((Op.bytesLess x20.toList x21.toList), h17)
 else
 (ldI .i64 (⟨(h2.next + 0), 2, none⟩ : Addr) h17).bind fun x22 =>
 (ldI .i64 (⟨(h2.next + 1), 2, none⟩ : Addr) h17).bind fun x23 =>
 (if (x22 != x23) = true then
 (ldI .i64 (⟨(h2.next + 0), 2, none⟩ : Addr) h17).bind fun x24 =>
 (ldI .i64 (⟨(h2.next + 1), 2, none⟩ : Addr) h17).bind fun x25 =>
 some ((decide (x24 < x25)), h17)
 else
 (ldI .i64 (⟨(h2.next + 0), 3, none⟩ : Addr) h17).bind fun x26 =>
 (ldI .i64 (⟨(h2.next + 1), 3, none⟩ : Addr) h17).bind fun x27 =>
 (if (x26 != x27) = true then
 (ldI .i64 (⟨(h2.next + 0), 3, none⟩ : Addr) h17).bind fun x28 =>
 (ldI .i64 (⟨(h2.next + 1), 3, none⟩ : Addr) h17).bind fun x29 =>
 some ((decide (x28 < x29)), h17)
 else
 (ldI .i64 (⟨(h2.next + 0), 4, none⟩ : Addr) h17).bind fun x30 =>
 (ldI .i64 (⟨(h2.next + 1), 4, none⟩ : Addr) h17).bind fun x31 =>
 (if (x30 != x31) = true then
 (ldI .i64 (⟨(h2.next + 0), 4, none⟩ : Addr) h17).bind fun x32 =>
 (ldI .i64 (⟨(h2.next + 1), 4, none⟩ : Addr) h17).bind fun x33 =>
 some ((decide (x32 < x33)), h17)
 else
 (ldI .i64 (⟨(h2.next + 0), 1, none⟩ : Addr) h17).bind fun x34 =>
 (ldI .i64 (⟨(h2.next + 1), 1, none⟩ : Addr) h17).bind fun x35 =>
 some ((decide (x34 < x35)), h17)))))))
noncomputable def r_ref15_Less : RCode := an (.s .n (.s .n (.s (.r [(1, .st [.s, .i .i64, .i .i64, .i .i64, .i .i64]), (6, .st [.s, .i .i64, .i .i64, .i .i64, .i .i64])]) .n))) (rOf Try.prog 0 Try.f31)
noncomputable def e_ref15_Less (k : Nat) (D : CallF) : Ent := entOf 31 [(0, .st [.s, .s, .i .i64, .i .i64, .i .i64, .i .i64]), (1, .st [.s, .s, .i .i64, .i .i64, .i .i64, .i .i64])] [(4, .b)] (ref15_Less k D)
theorem q_ref15_Less : (Try.f31.body).bind (rcodeOf Try.prog 0 Try.f31.ntmps) = some (strip r_ref15_Less) := by kernel_rfl
theorem t_ref15_Less (k : Nat) (D : CallF) : curF [(0, .st [.s, .s, .i .i64, .i .i64, .i .i64, .i .i64]), (1, .st [.s, .s, .i .i64, .i .i64, .i .i64, .i .i64])] (fun args h => denF (C_ref15_Less k D) k r_ref15_Less [(4, .b)] [none] args h) = ref15_Less k D := by kernel_rfl
theorem ok_ref15_Less {D : CallF} (hD : CSound Try.prog 0 D) (k : Nat) : EntOk Try.prog 0 (e_ref15_Less k D) :=
 entOf_ok2 (mkC_sound hD (EntsOk.none)) Try.func31 rfl q_ref15_Less rfl (t_ref15_Less k D)
end Gc
namespace Gc
open Go Gx Go.Proofs
set_option maxRecDepth 100000
noncomputable def C_slices_BinarySearchFunc_api_Item_api_Item_api_Item (_k : Nat) (D : CallF) : CallF := mkC D []
noncomputable def slices_BinarySearchFunc_api_Item_api_Item_api_Item_l0b (k : Nat) (D : CallF) (j8 : Slc → Value → (Option Addr) → Int → Int → AHeap → Option ((Int × Bool) × AHeap)) (rec25 : Slc → Value → (Option Addr) → Int → Int → Int → AHeap → Option ((Int × Bool) × AHeap)) (x18 : Slc) (cmp19 : Value) (target20 : Option Addr) (n21 : Int) (i22 : Int) (j23 : Int) (h24 : AHeap) : Option ((Int × Bool) × AHeap) :=
 (if (decide (i22 < j23)) = true then
 let t26 : Int := (Int.fdiv (IntKind.wrap .u64 (IntKind.wrap .i64 (i22 + j23))) 2)
 (Gx.idxL 6 x18 (IntKind.wrap .i64 t26)).bind fun q27 =>
 (ldA 6 q27 h24).bind fun l28 =>
 (decC [.s, .s, .i .i64, .i .i64, .i .i64, .i .i64] l28).bind fun x29 =>
 (target20).bind fun p30 =>
 (ldA 6 p30 h24).bind fun l31 =>
 (decC [.s, .s, .i .i64, .i .i64, .i .i64, .i .i64] l31).bind fun x32 =>
 callD (C_slices_BinarySearchFunc_api_Item_api_Item_api_Item k D) cmp19 [.agg ⟨[.string x29.1, .string x29.2.1, .int .i64 x29.2.2.1, .int .i64 x29.2.2.2.1, .int .i64 x29.2.2.2.2.1, .int .i64 x29.2.2.2.2.2]⟩, .agg ⟨[.string x32.1, .string x32.2.1, .int .i64 x32.2.2.1, .int .i64 x32.2.2.2.1, .int .i64 x32.2.2.2.2.1, .int .i64 x32.2.2.2.2.2]⟩] h24 fun v33 h34 =>
 (decI .i64 v33).bind fun x35 =>
 (if (decide (x35 < 0)) = true then
 rec25 x18 cmp19 target20 n21 (IntKind.wrap .i64 ((IntKind.wrap .i64 t26) + 1)) j23 h34
 else
 rec25 x18 cmp19 target20 n21 i22 (IntKind.wrap .i64 t26) h34)
 else
 j8 x18 cmp19 target20 n21 i22 h24)
noncomputable def slices_BinarySearchFunc_api_Item_api_Item_api_Item_l0 (k : Nat) (D : CallF) (j8 : Slc → Value → (Option Addr) → Int → Int → AHeap → Option ((Int × Bool) × AHeap)) : Slc → Value → (Option Addr) → Int → Int → Int → AHeap → Option ((Int × Bool) × AHeap) :=
 iterK (α := Slc → Value → (Option Addr) → Int → Int → Int → AHeap → Option ((Int × Bool) × AHeap)) (fun _ _ _ _ _ _ _ => none) k (slices_BinarySearchFunc_api_Item_api_Item_api_Item_l0b k D j8)
noncomputable def slices_BinarySearchFunc_api_Item_api_Item_api_Item (k : Nat) (D : CallF) (x_0 : Slc) (target_1 : ByteArray × ByteArray × Int × Int × Int × Int) (cmp_2 : Value) (h : AHeap) : Option ((Int × Bool) × AHeap) :=
 newK h ((.cells [.string target_1.1, .string target_1.2.1, .int .i64 target_1.2.2.1, .int .i64 target_1.2.2.2.1, .int .i64 target_1.2.2.2.2.1, .int .i64 target_1.2.2.2.2.2] 57 true 0)) fun h1 =>
 joinK (fun (x2 : Slc) (cmp3 : Value) (target4 : Option Addr) (n5 : Int) (i6 : Int) (h7 : AHeap) =>
 (if (decide (i6 < n5)) = true then
 (Gx.idxL 6 x2 i6).bind fun q9 =>
 (ldA 6 q9 h7).bind fun l10 =>
 (decC [.s, .s, .i .i64, .i .i64, .i .i64, .i .i64] l10).bind fun x11 =>
 (target4).bind fun p12 =>
 (ldA 6 p12 h7).bind fun l13 =>
 (decC [.s, .s, .i .i64, .i .i64, .i .i64, .i .i64] l13).bind fun x14 =>
 callD (C_slices_BinarySearchFunc_api_Item_api_Item_api_Item k D) cmp3 [.agg ⟨[.string x11.1, .string x11.2.1, .int .i64 x11.2.2.1, .int .i64 x11.2.2.2.1, .int .i64 x11.2.2.2.2.1, .int .i64 x11.2.2.2.2.2]⟩, .agg ⟨[.string x14.1, .string x14.2.1, .int .i64 x14.2.2.1, .int .i64 x14.2.2.2.1, .int .i64 x14.2.2.2.2.1, .int .i64 x14.2.2.2.2.2]⟩] h7 fun v15 h16 =>
 (decI .i64 v15).bind fun x17 =>
 some ((i6, (x17 == 0)), h16)
 else
 some ((i6, false), h7))) fun j8 =>
 slices_BinarySearchFunc_api_Item_api_Item_api_Item_l0 k D j8 x_0 cmp_2 (some (⟨h.next, 0, none⟩ : Addr)) (x_0.len : Int) 0 (x_0.len : Int) h1
noncomputable def r_slices_BinarySearchFunc_api_Item_api_Item_api_Item : RCode := an (.s .n (.s .n (.s .n (.s (.j [(0, .l), (2, .v), (4, .p), (8, .i .i64), (9, .i .i64)] (.b (.l [(0, .l), (2, .v), (4, .p), (8, .i .i64), (9, .i .i64), (10, .i .i64)] (.s .n (.b (.s .n (.s (.r [(4, .st [.s, .s, .i .i64, .i .i64, .i .i64, .i .i64]), (5, .st [.s, .s, .i .i64, .i .i64, .i .i64, .i .i64]), (6, .i .i64)]) .n))))))) (.s (.r [(8, .st [.s, .s, .i .i64, .i .i64, .i .i64, .i .i64]), (9, .st [.s, .s, .i .i64, .i .i64, .i .i64, .i .i64]), (10, .i .i64)]) .n))))) (rOf Try.prog 0 Try.f80)
noncomputable def e_slices_BinarySearchFunc_api_Item_api_Item_api_Item (k : Nat) (D : CallF) : Ent := entOf 80 [(0, .l), (1, .st [.s, .s, .i .i64, .i .i64, .i .i64, .i .i64]), (2, .v)] [(6, .i .i64), (7, .b)] (slices_BinarySearchFunc_api_Item_api_Item_api_Item k D)
theorem q_slices_BinarySearchFunc_api_Item_api_Item_api_Item : (Try.f80.body).bind (rcodeOf Try.prog 0 Try.f80.ntmps) = some (strip r_slices_BinarySearchFunc_api_Item_api_Item_api_Item) := by kernel_rfl
theorem t_slices_BinarySearchFunc_api_Item_api_Item_api_Item (k : Nat) (D : CallF) : curF [(0, .l), (1, .st [.s, .s, .i .i64, .i .i64, .i .i64, .i .i64]), (2, .v)] (fun args h => denF (C_slices_BinarySearchFunc_api_Item_api_Item_api_Item k D) k r_slices_BinarySearchFunc_api_Item_api_Item_api_Item [(6, .i .i64), (7, .b)] [none, none] args h) = slices_BinarySearchFunc_api_Item_api_Item_api_Item k D := by kernel_rfl
theorem ok_slices_BinarySearchFunc_api_Item_api_Item_api_Item {D : CallF} (hD : CSound Try.prog 0 D) (k : Nat) : EntOk Try.prog 0 (e_slices_BinarySearchFunc_api_Item_api_Item_api_Item k D) :=
 entOf_ok2 (mkC_sound hD (EntsOk.none)) Try.func80 rfl q_slices_BinarySearchFunc_api_Item_api_Item_api_Item rfl (t_slices_BinarySearchFunc_api_Item_api_Item_api_Item k D)
end Gc
namespace Gc
open Go Gx Go.Proofs
set_option maxRecDepth 100000
noncomputable def C_slices_BinarySearchFunc_api_Item_api_Item_string (_k : Nat) (D : CallF) : CallF := mkC D []
noncomputable def slices_BinarySearchFunc_api_Item_api_Item_string_l0b (k : Nat) (D : CallF) (j7 : Slc → ByteArray → Value → Int → Int → AHeap → Option ((Int × Bool) × AHeap)) (rec21 : Slc → ByteArray → Value → Int → Int → Int → AHeap → Option ((Int × Bool) × AHeap)) (x14 : Slc) (target15 : ByteArray) (cmp16 : Value) (n17 : Int) (i18 : Int) (j19 : Int) (h20 : AHeap) : Option ((Int × Bool) × AHeap) :=
 (if (decide (i18 < j19)) = true then
 let t22 : Int := (Int.fdiv (IntKind.wrap .u64 (IntKind.wrap .i64 (i18 + j19))) 2)
 (Gx.idxL 6 x14 (IntKind.wrap .i64 t22)).bind fun q23 =>
 (ldA 6 q23 h20).bind fun l24 =>
 (decC [.s, .s, .i .i64, .i .i64, .i .i64, .i .i64] l24).bind fun x25 =>
 callD (C_slices_BinarySearchFunc_api_Item_api_Item_string k D) cmp16 [.agg ⟨[.string x25.1, .string x25.2.1, .int .i64 x25.2.2.1, .int .i64 x25.2.2.2.1, .int .i64 x25.2.2.2.2.1, .int .i64 x25.2.2.2.2.2]⟩, .string target15] h20 fun v26 h27 =>
 (decI .i64 v26).bind fun x28 =>
 (if (decide (x28 < 0)) = true then
 rec21 x14 target15 cmp16 n17 (IntKind.wrap .i64 ((IntKind.wrap .i64 t22) + 1)) j19 h27
 else
 rec21 x14 target15 cmp16 n17 i18 (IntKind.wrap .i64 t22) h27)
 else
 j7 x14 target15 cmp16 n17 i18 h20)
noncomputable def slices_BinarySearchFunc_api_Item_api_Item_string_l0 (k : Nat) (D : CallF) (j7 : Slc → ByteArray → Value → Int → Int → AHeap → Option ((Int × Bool) × AHeap)) : Slc → ByteArray → Value → Int → Int → Int → AHeap → Option ((Int × Bool) × AHeap) :=
 iterK (α := Slc → ByteArray → Value → Int → Int → Int → AHeap → Option ((Int × Bool) × AHeap)) (fun _ _ _ _ _ _ _ => none) k (slices_BinarySearchFunc_api_Item_api_Item_string_l0b k D j7)
noncomputable def slices_BinarySearchFunc_api_Item_api_Item_string (k : Nat) (D : CallF) (x_0 : Slc) (target_1 : ByteArray) (cmp_2 : Value) (h : AHeap) : Option ((Int × Bool) × AHeap) :=
 joinK (fun (x1 : Slc) (target2 : ByteArray) (cmp3 : Value) (n4 : Int) (i5 : Int) (h6 : AHeap) =>
 (if (decide (i5 < n4)) = true then
 (Gx.idxL 6 x1 i5).bind fun q8 =>
 (ldA 6 q8 h6).bind fun l9 =>
 (decC [.s, .s, .i .i64, .i .i64, .i .i64, .i .i64] l9).bind fun x10 =>
 callD (C_slices_BinarySearchFunc_api_Item_api_Item_string k D) cmp3 [.agg ⟨[.string x10.1, .string x10.2.1, .int .i64 x10.2.2.1, .int .i64 x10.2.2.2.1, .int .i64 x10.2.2.2.2.1, .int .i64 x10.2.2.2.2.2]⟩, .string target2] h6 fun v11 h12 =>
 (decI .i64 v11).bind fun x13 =>
 some ((i5, (x13 == 0)), h12)
 else
 some ((i5, false), h6))) fun j7 =>
 slices_BinarySearchFunc_api_Item_api_Item_string_l0 k D j7 x_0 target_1 cmp_2 (x_0.len : Int) 0 (x_0.len : Int) h
noncomputable def r_slices_BinarySearchFunc_api_Item_api_Item_string : RCode := an (.s .n (.s .n (.s .n (.s (.j [(0, .l), (1, .s), (2, .v), (8, .i .i64), (9, .i .i64)] (.b (.l [(0, .l), (1, .s), (2, .v), (8, .i .i64), (9, .i .i64), (10, .i .i64)] (.s .n (.b (.s .n (.s (.r [(4, .st [.s, .s, .i .i64, .i .i64, .i .i64, .i .i64]), (6, .i .i64)]) .n))))))) (.s (.r [(9, .st [.s, .s, .i .i64, .i .i64, .i .i64, .i .i64]), (11, .i .i64)]) .n))))) (rOf Try.prog 0 Try.f126)
noncomputable def e_slices_BinarySearchFunc_api_Item_api_Item_string (k : Nat) (D : CallF) : Ent := entOf 126 [(0, .l), (1, .s), (2, .v)] [(6, .i .i64), (7, .b)] (slices_BinarySearchFunc_api_Item_api_Item_string k D)
theorem q_slices_BinarySearchFunc_api_Item_api_Item_string : (Try.f126.body).bind (rcodeOf Try.prog 0 Try.f126.ntmps) = some (strip r_slices_BinarySearchFunc_api_Item_api_Item_string) := by kernel_rfl
theorem t_slices_BinarySearchFunc_api_Item_api_Item_string (k : Nat) (D : CallF) : curF [(0, .l), (1, .s), (2, .v)] (fun args h => denF (C_slices_BinarySearchFunc_api_Item_api_Item_string k D) k r_slices_BinarySearchFunc_api_Item_api_Item_string [(6, .i .i64), (7, .b)] [none, none] args h) = slices_BinarySearchFunc_api_Item_api_Item_string k D := by kernel_rfl
theorem ok_slices_BinarySearchFunc_api_Item_api_Item_string {D : CallF} (hD : CSound Try.prog 0 D) (k : Nat) : EntOk Try.prog 0 (e_slices_BinarySearchFunc_api_Item_api_Item_string k D) :=
 entOf_ok2 (mkC_sound hD (EntsOk.none)) Try.func126 rfl q_slices_BinarySearchFunc_api_Item_api_Item_string rfl (t_slices_BinarySearchFunc_api_Item_api_Item_string k D)
end Gc
namespace Gc
open Go Gx Go.Proofs
set_option maxRecDepth 100000
noncomputable def C_lookup_Table_Places_1 (k : Nat) (D : CallF) : CallF := mkC D [e_cmp_Compare_string k D]
noncomputable def lookup_Table_Places_1 (k : Nat) (D : CallF) (x_0 : ByteArray × ByteArray × Int × Int × Int × Int) (id_1 : ByteArray) (h : AHeap) : Option ((Int) × AHeap) :=
 newK h ((.cells [.string x_0.1, .string x_0.2.1, .int .i64 x_0.2.2.1, .int .i64 x_0.2.2.2.1, .int .i64 x_0.2.2.2.2.1, .int .i64 x_0.2.2.2.2.2] 57 true 0)) fun h1 =>
 (ldS (⟨h.next, 0, none⟩ : Addr) h1).bind fun x2 =>
 (cmp_Compare_string k D x2 id_1 h1).bind fun r3 =>
 some (r3.1, r3.2)
noncomputable def r_lookup_Table_Places_1 : RCode := an (.n) (rOf Try.prog 0 Try.f127)
noncomputable def e_lookup_Table_Places_1 (k : Nat) (D : CallF) : Ent := entOf 127 [(0, .st [.s, .s, .i .i64, .i .i64, .i .i64, .i .i64]), (1, .s)] [(4, .i .i64)] (lookup_Table_Places_1 k D)
theorem q_lookup_Table_Places_1 : (Try.f127.body).bind (rcodeOf Try.prog 0 Try.f127.ntmps) = some (strip r_lookup_Table_Places_1) := by kernel_rfl
theorem t_lookup_Table_Places_1 (k : Nat) (D : CallF) : curF [(0, .st [.s, .s, .i .i64, .i .i64, .i .i64, .i .i64]), (1, .s)] (fun args h => denF (C_lookup_Table_Places_1 k D) k r_lookup_Table_Places_1 [(4, .i .i64)] [none] args h) = lookup_Table_Places_1 k D := by kernel_rfl
theorem ok_lookup_Table_Places_1 {D : CallF} (hD : CSound Try.prog 0 D) (k : Nat) : EntOk Try.prog 0 (e_lookup_Table_Places_1 k D) :=
 entOf_ok2 (mkC_sound hD (EntsOk.more (ok_cmp_Compare_string hD k) (EntsOk.none))) Try.func127 rfl q_lookup_Table_Places_1 rfl (t_lookup_Table_Places_1 k D)
end Gc
namespace Gc
open Go Gx Go.Proofs
set_option maxRecDepth 100000
noncomputable def C_lookup_Table_Drop_1 (_k : Nat) (D : CallF) : CallF := mkC D []
noncomputable def lookup_Table_Drop_1 (_k : Nat) (_D : CallF) (x_0 : ByteArray × ByteArray × Int × Int × Int × Int) (a_1 : Option Addr) (h : AHeap) : Option ((Bool) × AHeap) :=
 newK h ((.cells [.string x_0.1, .string x_0.2.1, .int .i64 x_0.2.2.1, .int .i64 x_0.2.2.2.1, .int .i64 x_0.2.2.2.2.1, .int .i64 x_0.2.2.2.2.2] 57 true 0)) fun h1 =>
 (ldS (⟨h.next, 1, none⟩ : Addr) h1).bind fun x2 =>
 (a_1).bind fun p3 =>
 (ldS p3 h1).bind fun x4 =>
 some ((x2 == x4), h1)
noncomputable def r_lookup_Table_Drop_1 : RCode := an (.n) (rOf Try.prog 0 Try.f87)
noncomputable def e_lookup_Table_Drop_1 (k : Nat) (D : CallF) : Ent := entOf 87 [(0, .st [.s, .s, .i .i64, .i .i64, .i .i64, .i .i64]), (1, .p)] [(3, .b)] (lookup_Table_Drop_1 k D)
theorem q_lookup_Table_Drop_1 : (Try.f87.body).bind (rcodeOf Try.prog 0 Try.f87.ntmps) = some (strip r_lookup_Table_Drop_1) := by kernel_rfl
theorem t_lookup_Table_Drop_1 (k : Nat) (D : CallF) : curF [(0, .st [.s, .s, .i .i64, .i .i64, .i .i64, .i .i64]), (1, .p)] (fun args h => denF (C_lookup_Table_Drop_1 k D) k r_lookup_Table_Drop_1 [(3, .b)] [none] args h) = lookup_Table_Drop_1 k D := by kernel_rfl
theorem ok_lookup_Table_Drop_1 {D : CallF} (hD : CSound Try.prog 0 D) (k : Nat) : EntOk Try.prog 0 (e_lookup_Table_Drop_1 k D) :=
 entOf_ok2 (mkC_sound hD (EntsOk.none)) Try.func87 rfl q_lookup_Table_Drop_1 rfl (t_lookup_Table_Drop_1 k D)
end Gc
namespace Gc
open Go Gx Go.Proofs
noncomputable def e_slices_overlaps_api_Item (_k : Nat) (_D : CallF) : Ent := eOvl 123
theorem ok_slices_overlaps_api_Item {D : CallF} (_hD : CSound Try.prog 0 D) (k : Nat) : EntOk Try.prog 0 (e_slices_overlaps_api_Item k D) :=
 ovl_ok (tS := 23) (tR := 4) (e := 57) (size := 6) Try.func123 rfl rfl rfl (by kernel_rfl) (by kernel_rfl) (fun w => run_sizeOf' (by kernel_rfl) w)
end Gc
namespace Gc
open Go Gx Go.Proofs
set_option maxRecDepth 100000
noncomputable def C_slices_Insert_api_Item_api_Item0 (k : Nat) (D : CallF) : CallF := mkC D [e_slices_overlaps_api_Item k D]
noncomputable def slices_Insert_api_Item_api_Item0 (_k : Nat) (_D : CallF) (s_0 : Slc) (i_1 : Int) (v_2 : Slc) (h : AHeap) : Option ((Slc) × AHeap) :=
 (Gx.subL 6 s_0 (some i_1) none none).bind fun _l1 =>
 (if ((v_2.len : Int) == 0) = true then
 some (s_0, h)
 else
 (if (i_1 == (s_0.len : Int)) = true then
 (rdS 6 v_2 h).bind fun n3 =>
 (appendA 6 64 57 h s_0 n3 v_2.len).bind fun r2 =>
 some (r2.1, r2.2)
 else
 (capOf s_0).bind fun c4 =>
 (if (decide ((IntKind.wrap .i64 ((s_0.len : Int) + (v_2.len : Int))) > c4)) = true then
 (Gx.subL 6 s_0 none (some i_1) none).bind fun l5 =>
 let t6 : Int := (IntKind.wrap .i64 ((IntKind.wrap .i64 ((s_0.len : Int) + (v_2.len : Int))) - i_1))
 (if 0 ≤ t6 ∧ t6 ≤ 281474976710656 ∧ t6 * 64 ≤ 281474976710656 then
 (appendA 6 64 57 h l5 (zerosL (t6).toNat [.string ⟨#[]⟩, .string ⟨#[]⟩, .int .i64 0, .int .i64 0, .int .i64 0, .int .i64 0]) (t6).toNat).bind fun r7 =>
 (Gx.subL 6 r7.1 (some i_1) none none).bind fun l8 =>
 (rdS 6 v_2 r7.2).bind fun n10 =>
 (copyA 6 r7.2 l8 (min v_2.len l8.len) n10).bind fun h9 =>
 (Gx.subL 6 r7.1 (some (IntKind.wrap .i64 (i_1 + (v_2.len : Int)))) none none).bind fun l11 =>
 (Gx.subL 6 s_0 (some i_1) none none).bind fun l12 =>
 (rdS 6 l12 h9).bind fun n14 =>
 (copyA 6 h9 l11 (min l12.len l11.len) n14).bind fun h13 =>
 some (r7.1, h13)
 else none)
 else
 (Gx.subL 6 s_0 none (some (IntKind.wrap .i64 ((s_0.len : Int) + (v_2.len : Int)))) none).bind fun l15 =>
 (Gx.subL 6 l15 (some (IntKind.wrap .i64 (i_1 + (v_2.len : Int)))) none none).bind fun l16 =>
 (ovA v_2 l16 h).bind fun _ =>
 (Gx.subL 6 l15 (some (IntKind.wrap .i64 (i_1 + (v_2.len : Int)))) none none).bind fun l17 =>
 (Gx.subL 6 l15 (some i_1) none none).bind fun l18 =>
 (rdS 6 l18 h).bind fun n20 =>
 (copyA 6 h l17 (min l18.len l17.len) n20).bind fun h19 =>
 (Gx.subL 6 l15 (some i_1) none none).bind fun l21 =>
 (rdS 6 v_2 h19).bind fun n23 =>
 (copyA 6 h19 l21 (min v_2.len l21.len) n23).bind fun h22 =>
 some (l15, h22))))
noncomputable def r_slices_Insert_api_Item_api_Item0 : RCode := an (.n) (rOf Try.prog 0 Try.f81)
noncomputable def e_slices_Insert_api_Item_api_Item0 (k : Nat) (D : CallF) : Ent := entOf 81 [(0, .l), (1, .i .i64), (2, .l)] [(6, .l)] (slices_Insert_api_Item_api_Item0 k D)
theorem q_slices_Insert_api_Item_api_Item0 : (Try.f81.body).bind (rcodeOf Try.prog 0 Try.f81.ntmps) = some (strip r_slices_Insert_api_Item_api_Item0) := by kernel_rfl
theorem t_slices_Insert_api_Item_api_Item0 (k : Nat) (D : CallF) : curF [(0, .l), (1, .i .i64), (2, .l)] (fun args h => denF (C_slices_Insert_api_Item_api_Item0 k D) k r_slices_Insert_api_Item_api_Item0 [(6, .l)] [none] args h) = slices_Insert_api_Item_api_Item0 k D := by kernel_rfl
theorem ok_slices_Insert_api_Item_api_Item0 {D : CallF} (hD : CSound Try.prog 0 D) (k : Nat) : EntOk Try.prog 0 (e_slices_Insert_api_Item_api_Item0 k D) :=
 entOf_ok2 (mkC_sound hD (EntsOk.more (ok_slices_overlaps_api_Item hD k) (EntsOk.none))) Try.func81 rfl q_slices_Insert_api_Item_api_Item0 rfl (t_slices_Insert_api_Item_api_Item0 k D)
noncomputable def slices_Insert_api_Item_api_Item (k : Nat) (D : CallF) (s : Slc) (i : Int) (v : Slc) (h : AHeap) : Option (Slc × AHeap) := insA 6 64 57 (slices_Insert_api_Item_api_Item0 k D) s i v h
noncomputable def e_slices_Insert_api_Item_api_Item (k : Nat) (D : CallF) : Ent := entOf 81 [(0, .l), (1, .i .i64), (2, .l)] [(6, .l)] (slices_Insert_api_Item_api_Item k D)
theorem f_slices_Insert_api_Item_api_Item0 (k : Nat) (D : CallF) : slices_Insert_api_Item_api_Item0 k D = insF 6 64 57 [.string ⟨#[]⟩, .string ⟨#[]⟩, .int .i64 0, .int .i64 0, .int .i64 0, .int .i64 0] := rfl
theorem ok_slices_Insert_api_Item_api_Item {D : CallF} (hD : CSound Try.prog 0 D) (k : Nat) : EntOk Try.prog 0 (e_slices_Insert_api_Item_api_Item k D) :=
 ins_ok (ok_slices_Insert_api_Item_api_Item0 hD k) (f_slices_Insert_api_Item_api_Item0 k D) rfl rfl
end Gc
namespace Gc
open Go Gx Go.Proofs
set_option maxRecDepth 100000
noncomputable def C_lookup_New (_k : Nat) (D : CallF) : CallF := mkC D []
noncomputable def lookup_New (_k : Nat) (_D : CallF)  (h : AHeap) : Option (((Option Addr)) × AHeap) :=
 newK h ((.cells (List.replicate 256 (.slice none 0 0)) 123 true 0)) fun h1 =>
 some ((some (⟨h.next, 0, none⟩ : Addr)), h1)
noncomputable def r_lookup_New : RCode := an (.n) (rOf Try.prog 0 Try.f33)
noncomputable def e_lookup_New (k : Nat) (D : CallF) : Ent := entOf 33 [] [(0, .p)] (lookup_New k D)
theorem q_lookup_New : (Try.f33.body).bind (rcodeOf Try.prog 0 Try.f33.ntmps) = some (strip r_lookup_New) := by kernel_rfl
theorem t_lookup_New (k : Nat) (D : CallF) : curF [] (fun args h => denF (C_lookup_New k D) k r_lookup_New [(0, .p)] [none] args h) = lookup_New k D := by kernel_rfl
theorem ok_lookup_New {D : CallF} (hD : CSound Try.prog 0 D) (k : Nat) : EntOk Try.prog 0 (e_lookup_New k D) :=
 entOf_ok2 (mkC_sound hD (EntsOk.none)) Try.func33 rfl q_lookup_New rfl (t_lookup_New k D)
end Gc
namespace Gc
open Go Gx Go.Proofs
set_option maxRecDepth 100000
noncomputable def C_lookup_Table_list (_k : Nat) (D : CallF) : CallF := mkC D []
noncomputable def lookup_Table_list (_k : Nat) (_D : CallF) (t_0 : Option Addr) (id_1 : ByteArray) (h : AHeap) : Option (((Option Addr)) × AHeap) :=
 (if (id_1 == (⟨#[]⟩ : ByteArray)) = true then
 (t_0).bind fun p1 =>
 some ((some (⟨p1.block, p1.off + 0 + 0, none⟩ : Addr)), h)
 else
 (Gx.idxS id_1 0).bind fun b3 =>
 (t_0).bind fun p4 =>
 (Gx.idxA 256 1 (⟨p4.block, p4.off + 0, none⟩ : Addr) b3).bind fun q5 =>
 some ((some q5), h))
noncomputable def r_lookup_Table_list : RCode := an (.n) (rOf Try.prog 0 Try.f79)
noncomputable def e_lookup_Table_list (k : Nat) (D : CallF) : Ent := entOf 79 [(0, .p), (1, .s)] [(4, .p)] (lookup_Table_list k D)
theorem q_lookup_Table_list : (Try.f79.body).bind (rcodeOf Try.prog 0 Try.f79.ntmps) = some (strip r_lookup_Table_list) := by kernel_rfl
theorem t_lookup_Table_list (k : Nat) (D : CallF) : curF [(0, .p), (1, .s)] (fun args h => denF (C_lookup_Table_list k D) k r_lookup_Table_list [(4, .p)] [none] args h) = lookup_Table_list k D := by kernel_rfl
theorem ok_lookup_Table_list {D : CallF} (hD : CSound Try.prog 0 D) (k : Nat) : EntOk Try.prog 0 (e_lookup_Table_list k D) :=
 entOf_ok2 (mkC_sound hD (EntsOk.none)) Try.func79 rfl q_lookup_Table_list rfl (t_lookup_Table_list k D)
end Gc
namespace Gc
open Go Gx Go.Proofs
set_option maxRecDepth 100000
noncomputable def C_lookup_Table_Add (k : Nat) (D : CallF) : CallF := mkC D [e_lookup_Table_list k D, e_slices_BinarySearchFunc_api_Item_api_Item_api_Item k D, e_slices_Insert_api_Item_api_Item k D, e_lookup_Check k D]
noncomputable def lookup_Table_Add_l1b (k : Nat) (D : CallF) (j4 : (Option Addr) → Slc → AHeap → Option ((Int) × AHeap)) (rec47 : (Option Addr) → Slc → Slc → Int → Int → AHeap → Option ((Int) × AHeap)) (t41 : Option Addr) (items42 : Slc) (y43 : Slc) (y44 : Int) (y45 : Int) (h46 : AHeap) : Option ((Int) × AHeap) :=
 (if (decide (y45 < y44)) = true then
 (Gx.idxL 6 y43 y45).bind fun q48 =>
 (ldA 6 q48 h46).bind fun l49 =>
 (decC [.s, .s, .i .i64, .i .i64, .i .i64, .i .i64] l49).bind fun x50 =>
 newK h46 ((.cells [.string ⟨#[]⟩, .string ⟨#[]⟩, .int .i64 0, .int .i64 0, .int .i64 0, .int .i64 0] 57 true 0)) fun h51 =>
 (stL 6 (⟨h46.next, 0, none⟩ : Addr) ([.string x50.1, .string x50.2.1, .int .i64 x50.2.2.1, .int .i64 x50.2.2.2.1, .int .i64 x50.2.2.2.2.1, .int .i64 x50.2.2.2.2.2]) h51).bind fun h52 =>
 (ldA 6 (⟨h46.next, 0, none⟩ : Addr) h52).bind fun l53 =>
 (decC [.s, .s, .i .i64, .i .i64, .i .i64, .i .i64] l53).bind fun x54 =>
 (lookup_Check k D (x54.1, x54.2.1, x54.2.2.1, x54.2.2.2.1, x54.2.2.2.2.1, x54.2.2.2.2.2) h52).bind fun r55 =>
 (if (r55.1 != 0) = true then
 some (r55.1, r55.2)
 else
 rec47 t41 items42 y43 y44 (IntKind.wrap .i64 (y45 + 1)) r55.2)
 else
 j4 t41 items42 h46)
noncomputable def lookup_Table_Add_l1 (k : Nat) (D : CallF) (j4 : (Option Addr) → Slc → AHeap → Option ((Int) × AHeap)) : (Option Addr) → Slc → Slc → Int → Int → AHeap → Option ((Int) × AHeap) :=
 iterK (α := (Option Addr) → Slc → Slc → Int → Int → AHeap → Option ((Int) × AHeap)) (fun _ _ _ _ _ _ => none) k (lookup_Table_Add_l1b k D j4)
noncomputable def lookup_Table_Add_l0b (k : Nat) (D : CallF) (j6 : AHeap → Option ((Int) × AHeap)) (rec12 : (Option Addr) → Slc → Int → Int → AHeap → Option ((Int) × AHeap)) (t7 : Option Addr) (y8 : Slc) (y9 : Int) (y10 : Int) (h11 : AHeap) : Option ((Int) × AHeap) :=
 (if (decide (y10 < y9)) = true then
 joinK (fun (t13 : Option Addr) (y14 : Slc) (y15 : Int) (y16 : Int) (h17 : AHeap) =>
 rec12 t13 y14 y15 (IntKind.wrap .i64 (y16 + 1)) h17) fun j18 =>
 (Gx.idxL 6 y8 y10).bind fun q19 =>
 (ldA 6 q19 h11).bind fun l20 =>
 (decC [.s, .s, .i .i64, .i .i64, .i .i64, .i .i64] l20).bind fun x21 =>
 newK h11 ((.cells [.string ⟨#[]⟩, .string ⟨#[]⟩, .int .i64 0, .int .i64 0, .int .i64 0, .int .i64 0] 57 true 0)) fun h22 =>
 (stL 6 (⟨h11.next, 0, none⟩ : Addr) ([.string x21.1, .string x21.2.1, .int .i64 x21.2.2.1, .int .i64 x21.2.2.2.1, .int .i64 x21.2.2.2.2.1, .int .i64 x21.2.2.2.2.2]) h22).bind fun h23 =>
 (ldS (⟨h11.next, 0, none⟩ : Addr) h23).bind fun x24 =>
 (lookup_Table_list k D t7 x24 h23).bind fun r25 =>
 (r25.1).bind fun p26 =>
 (ldL p26 r25.2).bind fun x27 =>
 (ldA 6 (⟨h11.next, 0, none⟩ : Addr) r25.2).bind fun l28 =>
 (decC [.s, .s, .i .i64, .i .i64, .i .i64, .i .i64] l28).bind fun x29 =>
 (slices_BinarySearchFunc_api_Item_api_Item_api_Item k D x27 (x29.1, x29.2.1, x29.2.2.1, x29.2.2.2.1, x29.2.2.2.2.1, x29.2.2.2.2.2) (.func (.func 78) ⟨[]⟩ ⟨[]⟩) r25.2).bind fun r30 =>
 (if (!r30.1.2) = true then
 (ldA 6 (⟨h11.next, 0, none⟩ : Addr) r30.2).bind fun l31 =>
 (decC [.s, .s, .i .i64, .i .i64, .i .i64, .i .i64] l31).bind fun x32 =>
 newK r30.2 ((.cells [.string x32.1, .string x32.2.1, .int .i64 x32.2.2.1, .int .i64 x32.2.2.2.1, .int .i64 x32.2.2.2.2.1, .int .i64 x32.2.2.2.2.2] 57 true 0)) fun h33 =>
 (r25.1).bind fun p34 =>
 (ldL p34 h33).bind fun x35 =>
 guardP (SameW [r30.2] (fun H37 => (ldL p34 H37).bind fun y36 => some (.slice y36.a y36.len y36.cap)) (.slice x35.a x35.len x35.cap)) (
 (slices_Insert_api_Item_api_Item k D x35 r30.1.1 (⟨(some ⟨r30.2.next, 0, some 0⟩), 1, 1⟩ : Slc) h33).bind fun r38 =>
 (r25.1).bind fun p39 =>
 (st1 p39 (.slice r38.1.a r38.1.len r38.1.cap) r38.2).bind fun h40 =>
 j18 t7 y8 y9 y10 h40)
 else
 j18 t7 y8 y9 y10 r30.2)
 else
 j6 h11)
noncomputable def lookup_Table_Add_l0 (k : Nat) (D : CallF) (j6 : AHeap → Option ((Int) × AHeap)) : (Option Addr) → Slc → Int → Int → AHeap → Option ((Int) × AHeap) :=
 iterK (α := (Option Addr) → Slc → Int → Int → AHeap → Option ((Int) × AHeap)) (fun _ _ _ _ _ => none) k (lookup_Table_Add_l0b k D j6)
noncomputable def lookup_Table_Add (k : Nat) (D : CallF) (t_0 : Option Addr) (items_1 : Slc) (h : AHeap) : Option ((Int) × AHeap) :=
 joinK (fun (t1 : Option Addr) (items2 : Slc) (h3 : AHeap) =>
 joinK (fun (h5 : AHeap) =>
 some (0, h5)) fun j6 =>
 lookup_Table_Add_l0 k D j6 t1 items2 (items2.len : Int) 0 h3) fun j4 =>
 lookup_Table_Add_l1 k D j4 t_0 items_1 items_1 (items_1.len : Int) 0 h
noncomputable def r_lookup_Table_Add : RCode := an (.s .n (.s (.j [(0, .p), (1, .l)] (.s .n (.b (.l [(0, .p), (1, .l), (13, .l), (14, .i .i64), (15, .i .i64)] (.s .n (.s .n (.s (.b (.s (.r [(1, .st [.s, .s, .i .i64, .i .i64, .i .i64, .i .i64])]) (.s (.r [(0, .st [.s, .s, .i .i64, .i .i64, .i .i64, .i .i64])]) .n))) .n))))))) (.s (.j [] (.s .n (.b (.l [(0, .p), (25, .l), (26, .i .i64), (27, .i .i64)] (.s .n (.s .n (.s (.j [(0, .p), (25, .l), (26, .i .i64), (27, .i .i64)] (.b (.s (.r [(1, .st [.s, .s, .i .i64, .i .i64, .i .i64, .i .i64])]) (.s .n (.s (.r [(3, .st [.s, .s, .i .i64, .i .i64, .i .i64, .i .i64])]) (.s .n (.s (.r [(0, .st [.s, .s, .i .i64, .i .i64, .i .i64, .i .i64])]) .n))))))) .n))))))) .n))) (rOf Try.prog 0 Try.f34)
noncomputable def e_lookup_Table_Add (k : Nat) (D : CallF) : Ent := entOf 34 [(0, .p), (1, .l)] [(4, .i .i64)] (lookup_Table_Add k D)
theorem q_lookup_Table_Add : (Try.f34.body).bind (rcodeOf Try.prog 0 Try.f34.ntmps) = some (strip r_lookup_Table_Add) := by kernel_rfl
theorem t_lookup_Table_Add (k : Nat) (D : CallF) : curF [(0, .p), (1, .l)] (fun args h => denF (C_lookup_Table_Add k D) k r_lookup_Table_Add [(4, .i .i64)] [none] args h) = lookup_Table_Add k D := by kernel_rfl
theorem ok_lookup_Table_Add {D : CallF} (hD : CSound Try.prog 0 D) (k : Nat) : EntOk Try.prog 0 (e_lookup_Table_Add k D) :=
 entOf_ok2 (mkC_sound hD (EntsOk.more (ok_lookup_Table_list hD k) (EntsOk.more (ok_slices_BinarySearchFunc_api_Item_api_Item_api_Item hD k) (EntsOk.more (ok_slices_Insert_api_Item_api_Item hD k) (EntsOk.more (ok_lookup_Check hD k) (EntsOk.none)))))) Try.func34 rfl q_lookup_Table_Add rfl (t_lookup_Table_Add k D)
end Gc
namespace Gc
open Go Gx Go.Proofs
set_option maxRecDepth 100000
noncomputable def C_lookup_Table_Places (k : Nat) (D : CallF) : CallF := mkC D [e_lookup_Table_list k D, e_slices_BinarySearchFunc_api_Item_api_Item_string k D]
noncomputable def lookup_Table_Places_l0b (_k : Nat) (_D : CallF) (j7 : Slc → AHeap → Option ((Slc) × AHeap)) (rec13 : ByteArray → Slc → Slc → Int → AHeap → Option ((Slc) × AHeap)) (id8 : ByteArray) (out9 : Slc) (l10 : Slc) (atv11 : Int) (h12 : AHeap) : Option ((Slc) × AHeap) :=
 joinK (fun (id14 : ByteArray) (out15 : Slc) (l16 : Slc) (atv17 : Int) (y18 : Bool) (h19 : AHeap) =>
 (if y18 = true then
 (Gx.idxL 6 l16 atv17).bind fun q21 =>
 (ldA 5 (⟨q21.block, q21.off + 1, none⟩ : Addr) h19).bind fun l22 =>
 (decC [.s, .i .i64, .i .i64, .i .i64, .i .i64] l22).bind fun x23 =>
 newK h19 ((.cells [.string x23.1, .int .i64 x23.2.1, .int .i64 x23.2.2.1, .int .i64 x23.2.2.2.1, .int .i64 x23.2.2.2.2] 55 true 0)) fun h24 =>
 (rdS 5 (⟨(some ⟨h19.next, 0, some 0⟩), 1, 1⟩ : Slc) h24).bind fun n26 =>
 (appendA 5 48 55 h24 out15 n26 1).bind fun r25 =>
 rec13 id14 r25.1 l16 (IntKind.wrap .i64 (atv17 + 1)) r25.2
 else
 j7 out15 h19)) fun j20 =>
 (if (decide (atv11 < (l10.len : Int))) = true then
 (Gx.idxL 6 l10 atv11).bind fun q27 =>
 (ldS (⟨q27.block, q27.off + 0, none⟩ : Addr) h12).bind fun x28 =>
 j20 id8 out9 l10 atv11 (x28 == id8) h12
 else
 j20 id8 out9 l10 atv11 false h12)
noncomputable def lookup_Table_Places_l0 (k : Nat) (D : CallF) (j7 : Slc → AHeap → Option ((Slc) × AHeap)) : ByteArray → Slc → Slc → Int → AHeap → Option ((Slc) × AHeap) :=
 iterK (α := ByteArray → Slc → Slc → Int → AHeap → Option ((Slc) × AHeap)) (fun _ _ _ _ _ => none) k (lookup_Table_Places_l0b k D j7)
noncomputable def lookup_Table_Places (k : Nat) (D : CallF) (t_0 : Option Addr) (id_1 : ByteArray) (h : AHeap) : Option ((Slc) × AHeap) :=
 (lookup_Table_list k D t_0 id_1 h).bind fun r1 =>
 (r1.1).bind fun p2 =>
 (ldL p2 r1.2).bind fun x3 =>
 (slices_BinarySearchFunc_api_Item_api_Item_string k D x3 id_1 (.func (.func 127) ⟨[]⟩ ⟨[]⟩) r1.2).bind fun r4 =>
 joinK (fun (out5 : Slc) (h6 : AHeap) =>
 some (out5, h6)) fun j7 =>
 lookup_Table_Places_l0 k D j7 id_1 (⟨none, 0, 0⟩ : Slc) x3 r4.1.1 r4.2
noncomputable def r_lookup_Table_Places : RCode := an (.s .n (.s .n (.s .n (.s .n (.s (.j [(5, .l)] (.b (.l [(1, .s), (5, .l), (6, .l), (7, .i .i64)] (.s (.s (.j [(1, .s), (5, .l), (6, .l), (7, .i .i64), (32, .b)] .n) .n) (.s (.b (.r [(5, .st [.s, .i .i64, .i .i64, .i .i64, .i .i64])])) .n))))) .n))))) (rOf Try.prog 0 Try.f83)
noncomputable def e_lookup_Table_Places (k : Nat) (D : CallF) : Ent := entOf 83 [(0, .p), (1, .s)] [(4, .l)] (lookup_Table_Places k D)
theorem q_lookup_Table_Places : (Try.f83.body).bind (rcodeOf Try.prog 0 Try.f83.ntmps) = some (strip r_lookup_Table_Places) := by kernel_rfl
theorem t_lookup_Table_Places (k : Nat) (D : CallF) : curF [(0, .p), (1, .s)] (fun args h => denF (C_lookup_Table_Places k D) k r_lookup_Table_Places [(4, .l)] [none] args h) = lookup_Table_Places k D := by kernel_rfl
theorem ok_lookup_Table_Places {D : CallF} (hD : CSound Try.prog 0 D) (k : Nat) : EntOk Try.prog 0 (e_lookup_Table_Places k D) :=
 entOf_ok2 (mkC_sound hD (EntsOk.more (ok_lookup_Table_list hD k) (EntsOk.more (ok_slices_BinarySearchFunc_api_Item_api_Item_string hD k) (EntsOk.none)))) Try.func83 rfl q_lookup_Table_Places rfl (t_lookup_Table_Places k D)
end Gc
namespace Gc
open Go Gx Go.Proofs
set_option maxRecDepth 100000
noncomputable def C_lookup_Table_Get (k : Nat) (D : CallF) : CallF := mkC D [e_lookup_Table_Places k D]
noncomputable def lookup_Table_Get (k : Nat) (D : CallF) (t_0 : Option Addr) (id_1 : ByteArray) (h : AHeap) : Option (((ByteArray × Int × Int × Int × Int) × Bool) × AHeap) :=
 newK h ((.cells [.string ⟨#[]⟩, .int .i64 0, .int .i64 0, .int .i64 0, .int .i64 0] 55 true 0)) fun h1 =>
 (lookup_Table_Places k D t_0 id_1 h1).bind fun r2 =>
 (if ((r2.1.len : Int) == 0) = true then
 (stL 5 (⟨h.next, 0, none⟩ : Addr) ([.string (⟨#[]⟩ : ByteArray), .int .i64 0, .int .i64 0, .int .i64 0, .int .i64 0]) r2.2).bind fun h3 =>
 (ldA 5 (⟨h.next, 0, none⟩ : Addr) h3).bind fun l4 =>
 (decC [.s, .i .i64, .i .i64, .i .i64, .i .i64] l4).bind fun x5 =>
 some (((x5.1, x5.2.1, x5.2.2.1, x5.2.2.2.1, x5.2.2.2.2), false), h3)
 else
 (Gx.idxL 5 r2.1 0).bind fun q6 =>
 (ldA 5 q6 r2.2).bind fun l7 =>
 (decC [.s, .i .i64, .i .i64, .i .i64, .i .i64] l7).bind fun x8 =>
 (stL 5 (⟨h.next, 0, none⟩ : Addr) ([.string x8.1, .int .i64 x8.2.1, .int .i64 x8.2.2.1, .int .i64 x8.2.2.2.1, .int .i64 x8.2.2.2.2]) r2.2).bind fun h9 =>
 (ldA 5 (⟨h.next, 0, none⟩ : Addr) h9).bind fun l10 =>
 (decC [.s, .i .i64, .i .i64, .i .i64, .i .i64] l10).bind fun x11 =>
 some (((x11.1, x11.2.1, x11.2.2.1, x11.2.2.2.1, x11.2.2.2.2), true), h9))
noncomputable def r_lookup_Table_Get : RCode := an (.s .n (.s .n (.s .n (.s (.r [(2, .st [.s, .i .i64, .i .i64, .i .i64, .i .i64])]) .n)))) (rOf Try.prog 0 Try.f39)
noncomputable def e_lookup_Table_Get (k : Nat) (D : CallF) : Ent := entOf 39 [(0, .p), (1, .s)] [(4, .st [.s, .i .i64, .i .i64, .i .i64, .i .i64]), (5, .b)] (lookup_Table_Get k D)
theorem q_lookup_Table_Get : (Try.f39.body).bind (rcodeOf Try.prog 0 Try.f39.ntmps) = some (strip r_lookup_Table_Get) := by kernel_rfl
theorem t_lookup_Table_Get (k : Nat) (D : CallF) : curF [(0, .p), (1, .s)] (fun args h => denF (C_lookup_Table_Get k D) k r_lookup_Table_Get [(4, .st [.s, .i .i64, .i .i64, .i .i64, .i .i64]), (5, .b)] [some (.agg 5), none] args h) = lookup_Table_Get k D := by kernel_rfl
theorem ok_lookup_Table_Get {D : CallF} (hD : CSound Try.prog 0 D) (k : Nat) : EntOk Try.prog 0 (e_lookup_Table_Get k D) :=
 entOf_ok2 (mkC_sound hD (EntsOk.more (ok_lookup_Table_Places hD k) (EntsOk.none))) Try.func39 rfl q_lookup_Table_Get rfl (t_lookup_Table_Get k D)
end Gc
namespace Gc
open Go Gx Go.Proofs
set_option maxRecDepth 100000
noncomputable def C_slices_IndexFunc_api_Item_api_Item (_k : Nat) (D : CallF) : CallF := mkC D []
noncomputable def slices_IndexFunc_api_Item_api_Item_l0b (k : Nat) (D : CallF) (j2 : AHeap → Option ((Int) × AHeap)) (rec8 : Slc → Value → Int → Int → AHeap → Option ((Int) × AHeap)) (s3 : Slc) (f4 : Value) (y5 : Int) (y6 : Int) (h7 : AHeap) : Option ((Int) × AHeap) :=
 (if (decide (y6 < y5)) = true then
 (Gx.idxL 6 s3 y6).bind fun q9 =>
 (ldA 6 q9 h7).bind fun l10 =>
 (decC [.s, .s, .i .i64, .i .i64, .i .i64, .i .i64] l10).bind fun x11 =>
 callD (C_slices_IndexFunc_api_Item_api_Item k D) f4 [.agg ⟨[.string x11.1, .string x11.2.1, .int .i64 x11.2.2.1, .int .i64 x11.2.2.2.1, .int .i64 x11.2.2.2.2.1, .int .i64 x11.2.2.2.2.2]⟩] h7 fun v12 h13 =>
 (decB v12).bind fun x14 =>
 (if x14 = true then
 some (y6, h13)
 else
 rec8 s3 f4 y5 (IntKind.wrap .i64 (y6 + 1)) h13)
 else
 j2 h7)
noncomputable def slices_IndexFunc_api_Item_api_Item_l0 (k : Nat) (D : CallF) (j2 : AHeap → Option ((Int) × AHeap)) : Slc → Value → Int → Int → AHeap → Option ((Int) × AHeap) :=
 iterK (α := Slc → Value → Int → Int → AHeap → Option ((Int) × AHeap)) (fun _ _ _ _ _ => none) k (slices_IndexFunc_api_Item_api_Item_l0b k D j2)
noncomputable def slices_IndexFunc_api_Item_api_Item (k : Nat) (D : CallF) (s_0 : Slc) (f_1 : Value) (h : AHeap) : Option ((Int) × AHeap) :=
 joinK (fun (h1 : AHeap) =>
 some ((-1), h1)) fun j2 =>
 slices_IndexFunc_api_Item_api_Item_l0 k D j2 s_0 f_1 (s_0.len : Int) 0 h
noncomputable def r_slices_IndexFunc_api_Item_api_Item : RCode := an (.s .n (.s (.j [] (.s .n (.b (.l [(0, .l), (1, .v), (7, .i .i64), (8, .i .i64)] (.s .n (.s .n (.s (.b (.s .n (.s (.r [(4, .st [.s, .s, .i .i64, .i .i64, .i .i64, .i .i64]), (5, .b)]) .n))) .n))))))) .n)) (rOf Try.prog 0 Try.f130)
noncomputable def e_slices_IndexFunc_api_Item_api_Item (k : Nat) (D : CallF) : Ent := entOf 130 [(0, .l), (1, .v)] [(4, .i .i64)] (slices_IndexFunc_api_Item_api_Item k D)
theorem q_slices_IndexFunc_api_Item_api_Item : (Try.f130.body).bind (rcodeOf Try.prog 0 Try.f130.ntmps) = some (strip r_slices_IndexFunc_api_Item_api_Item) := by kernel_rfl
theorem t_slices_IndexFunc_api_Item_api_Item (k : Nat) (D : CallF) : curF [(0, .l), (1, .v)] (fun args h => denF (C_slices_IndexFunc_api_Item_api_Item k D) k r_slices_IndexFunc_api_Item_api_Item [(4, .i .i64)] [none] args h) = slices_IndexFunc_api_Item_api_Item k D := by kernel_rfl
theorem ok_slices_IndexFunc_api_Item_api_Item {D : CallF} (hD : CSound Try.prog 0 D) (k : Nat) : EntOk Try.prog 0 (e_slices_IndexFunc_api_Item_api_Item k D) :=
 entOf_ok2 (mkC_sound hD (EntsOk.none)) Try.func130 rfl q_slices_IndexFunc_api_Item_api_Item rfl (t_slices_IndexFunc_api_Item_api_Item k D)
end Gc
namespace Gc
open Go Gx Go.Proofs
set_option maxRecDepth 100000
noncomputable def C_slices_DeleteFunc_api_Item_api_Item (k : Nat) (D : CallF) : CallF := mkC D [e_slices_IndexFunc_api_Item_api_Item k D]
noncomputable def slices_DeleteFunc_api_Item_api_Item_l0b (k : Nat) (D : CallF) (j5 : Slc → Int → AHeap → Option ((Slc) × AHeap)) (rec14 : Slc → Value → Int → Int → AHeap → Option ((Slc) × AHeap)) (s9 : Slc) (del10 : Value) (i11 : Int) (j12 : Int) (h13 : AHeap) : Option ((Slc) × AHeap) :=
 (if (decide (j12 < (s9.len : Int))) = true then
 joinK (fun (s15 : Slc) (del16 : Value) (i17 : Int) (j18 : Int) (h19 : AHeap) =>
 rec14 s15 del16 i17 (IntKind.wrap .i64 (j18 + 1)) h19) fun j20 =>
 (Gx.idxL 6 s9 j12).bind fun q21 =>
 (ldA 6 q21 h13).bind fun l22 =>
 (decC [.s, .s, .i .i64, .i .i64, .i .i64, .i .i64] l22).bind fun x23 =>
 newK h13 ((.cells [.string ⟨#[]⟩, .string ⟨#[]⟩, .int .i64 0, .int .i64 0, .int .i64 0, .int .i64 0] 57 true 0)) fun h24 =>
 (stL 6 (⟨h13.next, 0, none⟩ : Addr) ([.string x23.1, .string x23.2.1, .int .i64 x23.2.2.1, .int .i64 x23.2.2.2.1, .int .i64 x23.2.2.2.2.1, .int .i64 x23.2.2.2.2.2]) h24).bind fun h25 =>
 (ldA 6 (⟨h13.next, 0, none⟩ : Addr) h25).bind fun l26 =>
 (decC [.s, .s, .i .i64, .i .i64, .i .i64, .i .i64] l26).bind fun x27 =>
 callD (C_slices_DeleteFunc_api_Item_api_Item k D) del10 [.agg ⟨[.string x27.1, .string x27.2.1, .int .i64 x27.2.2.1, .int .i64 x27.2.2.2.1, .int .i64 x27.2.2.2.2.1, .int .i64 x27.2.2.2.2.2]⟩] h25 fun v28 h29 =>
 (decB v28).bind fun x30 =>
 (if (!x30) = true then
 (ldA 6 (⟨h13.next, 0, none⟩ : Addr) h29).bind fun l31 =>
 (decC [.s, .s, .i .i64, .i .i64, .i .i64, .i .i64] l31).bind fun x32 =>
 (Gx.idxL 6 s9 i11).bind fun q33 =>
 (stL 6 q33 ([.string x32.1, .string x32.2.1, .int .i64 x32.2.2.1, .int .i64 x32.2.2.2.1, .int .i64 x32.2.2.2.2.1, .int .i64 x32.2.2.2.2.2]) h29).bind fun h34 =>
 j20 s9 del10 (IntKind.wrap .i64 (i11 + 1)) j12 h34
 else
 j20 s9 del10 i11 j12 h29)
 else
 j5 s9 i11 h13)
noncomputable def slices_DeleteFunc_api_Item_api_Item_l0 (k : Nat) (D : CallF) (j5 : Slc → Int → AHeap → Option ((Slc) × AHeap)) : Slc → Value → Int → Int → AHeap → Option ((Slc) × AHeap) :=
 iterK (α := Slc → Value → Int → Int → AHeap → Option ((Slc) × AHeap)) (fun _ _ _ _ _ => none) k (slices_DeleteFunc_api_Item_api_Item_l0b k D j5)
noncomputable def slices_DeleteFunc_api_Item_api_Item (k : Nat) (D : CallF) (s_0 : Slc) (del_1 : Value) (h : AHeap) : Option ((Slc) × AHeap) :=
 (slices_IndexFunc_api_Item_api_Item k D s_0 del_1 h).bind fun r1 =>
 (if (r1.1 == (-1)) = true then
 some (s_0, r1.2)
 else
 joinK (fun (s2 : Slc) (i3 : Int) (h4 : AHeap) =>
 (Gx.subL 6 s2 (some i3) none none).bind fun l6 =>
 (clrL [.string ⟨#[]⟩, .string ⟨#[]⟩, .int .i64 0, .int .i64 0, .int .i64 0, .int .i64 0] l6 h4).bind fun h7 =>
 (Gx.subL 6 s2 none (some i3) none).bind fun l8 =>
 some (l8, h7)) fun j5 =>
 slices_DeleteFunc_api_Item_api_Item_l0 k D j5 s_0 del_1 r1.1 (IntKind.wrap .i64 (r1.1 + 1)) r1.2)
noncomputable def r_slices_DeleteFunc_api_Item_api_Item : RCode := an (.s .n (.s .n (.s .n (.s (.j [(0, .l), (5, .i .i64)] (.s .n (.b (.l [(0, .l), (1, .v), (5, .i .i64), (6, .i .i64)] (.s .n (.s (.j [(0, .l), (1, .v), (5, .i .i64), (6, .i .i64)] (.b (.s (.r [(3, .st [.s, .s, .i .i64, .i .i64, .i .i64, .i .i64])]) (.s (.r [(1, .st [.s, .s, .i .i64, .i .i64, .i .i64, .i .i64]), (2, .b)]) (.s (.s (.r [(2, .st [.s, .s, .i .i64, .i .i64, .i .i64, .i .i64])]) .n) .n))))) .n)))))) .n)))) (rOf Try.prog 0 Try.f86)
noncomputable def e_slices_DeleteFunc_api_Item_api_Item (k : Nat) (D : CallF) : Ent := entOf 86 [(0, .l), (1, .v)] [(4, .l)] (slices_DeleteFunc_api_Item_api_Item k D)
theorem q_slices_DeleteFunc_api_Item_api_Item : (Try.f86.body).bind (rcodeOf Try.prog 0 Try.f86.ntmps) = some (strip r_slices_DeleteFunc_api_Item_api_Item) := by kernel_rfl
theorem t_slices_DeleteFunc_api_Item_api_Item (k : Nat) (D : CallF) : curF [(0, .l), (1, .v)] (fun args h => denF (C_slices_DeleteFunc_api_Item_api_Item k D) k r_slices_DeleteFunc_api_Item_api_Item [(4, .l)] [none] args h) = slices_DeleteFunc_api_Item_api_Item k D := by kernel_rfl
theorem ok_slices_DeleteFunc_api_Item_api_Item {D : CallF} (hD : CSound Try.prog 0 D) (k : Nat) : EntOk Try.prog 0 (e_slices_DeleteFunc_api_Item_api_Item k D) :=
 entOf_ok2 (mkC_sound hD (EntsOk.more (ok_slices_IndexFunc_api_Item_api_Item hD k) (EntsOk.none))) Try.func86 rfl q_slices_DeleteFunc_api_Item_api_Item rfl (t_slices_DeleteFunc_api_Item_api_Item k D)
end Gc
namespace Gc
open Go Gx Go.Proofs
set_option maxRecDepth 100000
noncomputable def C_lookup_Table_Drop (k : Nat) (D : CallF) : CallF := mkC D [e_slices_DeleteFunc_api_Item_api_Item k D]
noncomputable def lookup_Table_Drop_l0b (k : Nat) (D : CallF) (j4 : Int → AHeap → Option ((Int) × AHeap)) (rec13 : (Option Addr) → (Option Addr) → Int → (List Value) → Int → AHeap → Option ((Int) × AHeap)) (t7 : Option Addr) (pack8 : Option Addr) (n9 : Int) (y10 : List Value) (y11 : Int) (h12 : AHeap) : Option ((Int) × AHeap) :=
 (if (decide (y11 < 256)) = true then
 (if 0 ≤ y11 ∧ y11 < ((256 : Nat) : Int) then
 (y10[(y11).toNat * 1]?).bind fun v14 =>
 (decL v14).bind fun x15 =>
 (slices_DeleteFunc_api_Item_api_Item k D x15 (.func (.func 87) ⟨[]⟩ ⟨[.pointer pack8]⟩) h12).bind fun r16 =>
 (t7).bind fun p17 =>
 (Gx.idxA 256 1 (⟨p17.block, p17.off + 0, none⟩ : Addr) y11).bind fun q18 =>
 (st1 q18 (.slice r16.1.a r16.1.len r16.1.cap) r16.2).bind fun h19 =>
 (t7).bind fun p20 =>
 (Gx.idxA 256 1 (⟨p20.block, p20.off + 0, none⟩ : Addr) y11).bind fun q21 =>
 (ldL q21 h19).bind fun x22 =>
 let t23 : Int := (IntKind.wrap .i64 (n9 + (IntKind.wrap .i64 ((x15.len : Int) - (x22.len : Int)))))
 (decA 256 (.agg ⟨y10⟩)).bind fun l24 =>
 rec13 t7 pack8 t23 l24 (IntKind.wrap .i64 (y11 + 1)) h19
 else none)
 else
 j4 n9 h12)
noncomputable def lookup_Table_Drop_l0 (k : Nat) (D : CallF) (j4 : Int → AHeap → Option ((Int) × AHeap)) : (Option Addr) → (Option Addr) → Int → (List Value) → Int → AHeap → Option ((Int) × AHeap) :=
 iterK (α := (Option Addr) → (Option Addr) → Int → (List Value) → Int → AHeap → Option ((Int) × AHeap)) (fun _ _ _ _ _ _ => none) k (lookup_Table_Drop_l0b k D j4)
noncomputable def lookup_Table_Drop (k : Nat) (D : CallF) (t_0 : Option Addr) (pack_1 : ByteArray) (h : AHeap) : Option ((Int) × AHeap) :=
 newK h ((.cells [.string pack_1] 9 true 0)) fun h1 =>
 joinK (fun (n2 : Int) (h3 : AHeap) =>
 some (n2, h3)) fun j4 =>
 (t_0).bind fun p5 =>
 (ldA 256 (⟨p5.block, p5.off + 0, none⟩ : Addr) h1).bind fun l6 =>
 (decA 256 (.agg ⟨l6⟩)).bind fun l25 =>
 lookup_Table_Drop_l0 k D j4 t_0 (some (⟨h.next, 0, none⟩ : Addr)) 0 l25 0 h1
noncomputable def r_lookup_Table_Drop : RCode := an (.s .n (.s .n (.s (.j [(5, .i .i64)] (.s .n (.b (.l [(0, .p), (3, .p), (5, .i .i64), (11, .agg 256), (12, .i .i64)] .n)))) .n))) (rOf Try.prog 0 Try.f41)
noncomputable def e_lookup_Table_Drop (k : Nat) (D : CallF) : Ent := entOf 41 [(0, .p), (1, .s)] [(4, .i .i64)] (lookup_Table_Drop k D)
theorem q_lookup_Table_Drop : (Try.f41.body).bind (rcodeOf Try.prog 0 Try.f41.ntmps) = some (strip r_lookup_Table_Drop) := by kernel_rfl
theorem t_lookup_Table_Drop (k : Nat) (D : CallF) : curF [(0, .p), (1, .s)] (fun args h => denF (C_lookup_Table_Drop k D) k r_lookup_Table_Drop [(4, .i .i64)] [none] args h) = lookup_Table_Drop k D := by kernel_rfl
theorem ok_lookup_Table_Drop {D : CallF} (hD : CSound Try.prog 0 D) (k : Nat) : EntOk Try.prog 0 (e_lookup_Table_Drop k D) :=
 entOf_ok2 (mkC_sound hD (EntsOk.more (ok_slices_DeleteFunc_api_Item_api_Item hD k) (EntsOk.none))) Try.func41 rfl q_lookup_Table_Drop rfl (t_lookup_Table_Drop k D)
end Gc
namespace Gc
open Go Gx Go.Proofs
set_option maxRecDepth 100000
noncomputable def C_book_Among (_k : Nat) (D : CallF) : CallF := mkC D []
noncomputable def book_Among (_k : Nat) (_D : CallF) (x_0 : Int) (n_1 : Int) (h : AHeap) : Option ((Int) × AHeap) :=
 (if n_1 = 0 then none else
 (if n_1 = 0 then none else
 let t1 : Int := (Int.tmod (IntKind.wrap .i64 ((Int.tmod x_0 n_1) + n_1)) n_1)
 some (t1, h)))
noncomputable def r_book_Among : RCode := an (.n) (rOf Try.prog 0 Try.f26)
noncomputable def e_book_Among (k : Nat) (D : CallF) : Ent := entOf 26 [(0, .i .i64), (1, .i .i64)] [(4, .i .i64)] (book_Among k D)
theorem q_book_Among : (Try.f26.body).bind (rcodeOf Try.prog 0 Try.f26.ntmps) = some (strip r_book_Among) := by kernel_rfl
theorem t_book_Among (k : Nat) (D : CallF) : curF [(0, .i .i64), (1, .i .i64)] (fun args h => denF (C_book_Among k D) k r_book_Among [(4, .i .i64)] [none] args h) = book_Among k D := by kernel_rfl
theorem ok_book_Among {D : CallF} (hD : CSound Try.prog 0 D) (k : Nat) : EntOk Try.prog 0 (e_book_Among k D) :=
 entOf_ok2 (mkC_sound hD (EntsOk.none)) Try.func26 rfl q_book_Among rfl (t_book_Among k D)
end Gc
namespace Go.Proofs
open Go.Shelf
def Try.lays105_ren : Go.Shelf.Ren := ⟨fun | 105 => 27 | 212 => 70 | 99 => 71 | 165 => 72 | 166 => 73 | 170 => 74 | 169 => 75 | 263 => 115 | 264 => 116 | 206 => 117 | 240 => 118 | 241 => 119 | 276 => 135 | 277 => 136 | n => n, fun | 9 => 9 | 3 => 3 | 4 => 4 | 20 => 20 | 0 => 0 | 46 => 105 | 109 => 106 | 5 => 5 | 72 => 111 | 76 => 115 | 51 => 147 | 146 => 148 | 53 => 150 | 148 => 151 | 70 => 109 | 37 => 52 | 75 => 114 | 127 => 153 | 164 => 166 | 80 => 117 | n => n, fun | n => n⟩
theorem Try.lays105 : Go.Proofs.Lays.n105 Try.prog Try.lays105_ren := {
 mixed := by kernel_rfl
 f99 := Try.func71.trans (congrArg some (by kernel_rfl))
 f105 := Try.func27.trans (congrArg some (by kernel_rfl))
 f165 := Try.func72.trans (congrArg some (by kernel_rfl))
 f166 := Try.func73.trans (congrArg some (by kernel_rfl))
 f169 := Try.func75.trans (congrArg some (by kernel_rfl))
 f170 := Try.func74.trans (congrArg some (by kernel_rfl))
 f206 := Try.func117.trans (congrArg some (by kernel_rfl))
 f212 := Try.func70.trans (congrArg some (by kernel_rfl))
 f240 := Try.func118.trans (congrArg some (by kernel_rfl))
 f241 := Try.func119.trans (congrArg some (by kernel_rfl))
 f263 := Try.func115.trans (congrArg some (by kernel_rfl))
 f264 := Try.func116.trans (congrArg some (by kernel_rfl))
 f276 := Try.func135.trans (congrArg some (by kernel_rfl))
 f277 := Try.func136.trans (congrArg some (by kernel_rfl))
 t0 := Try.underlying0
 a0 := Try.isAgg0
 z0 := Try.sizeOf0
 v0 := Try.zeroValue0
 t3 := Try.underlying3
 a3 := Try.isAgg3
 z3 := Try.sizeOf3
 v3 := Try.zeroValue3
 t4 := Try.underlying4
 a4 := Try.isAgg4
 z4 := Try.sizeOf4
 v4 := Try.zeroValue4
 t5 := Try.underlying5
 a5 := Try.isAgg5
 z5 := Try.sizeOf5
 v5 := Try.zeroValue5
 t9 := Try.underlying9
 a9 := Try.isAgg9
 z9 := Try.sizeOf9
 v9 := Try.zeroValue9
 t20 := Try.underlying20
 a20 := Try.isAgg20
 z20 := Try.sizeOf20
 v20 := Try.zeroValue20
 t37 := Try.underlying52
 a37 := Try.isAgg52
 z37 := Try.sizeOf52
 v37 := Try.zeroValue52
 t46 := Try.underlying105
 a46 := Try.isAgg105
 z46 := Try.sizeOf105
 v46 := Try.zeroValue105
 t51 := Try.underlying147
 a51 := Try.isAgg147
 z51 := Try.sizeOf147
 v51 := Try.zeroValue147
 t53 := Try.underlying150
 a53 := Try.isAgg150
 z53 := Try.sizeOf150
 v53 := Try.zeroValue150
 t70 := Try.underlying109
 a70 := Try.isAgg109
 z70 := Try.sizeOf109
 v70 := Try.zeroValue109
 t72 := Try.underlying111
 a72 := Try.isAgg111
 z72 := Try.sizeOf111
 v72 := Try.zeroValue111
 t75 := Try.underlying114
 a75 := Try.isAgg114
 z75 := Try.sizeOf114
 v75 := Try.zeroValue114
 t76 := Try.underlying115
 a76 := Try.isAgg115
 z76 := Try.sizeOf115
 v76 := Try.zeroValue115
 t109 := Try.underlying106
 a109 := Try.isAgg106
 z109 := Try.sizeOf106
 v109 := Try.zeroValue106
 t127 := Try.underlying153
 a127 := Try.isAgg153
 z127 := Try.sizeOf153
 v127 := Try.zeroValue153
 t146 := Try.underlying148
 a146 := Try.isAgg148
 z146 := Try.sizeOf148
 v146 := Try.zeroValue148
 t148 := Try.underlying151
 a148 := Try.isAgg151
 z148 := Try.sizeOf151
 v148 := Try.zeroValue151
 t164 := Try.underlying166
 a164 := Try.isAgg166
 z164 := Try.sizeOf166
 v164 := Try.zeroValue166 }
theorem Try.Builder_Extra_105 : Builder.Extra Try.prog Try.lays105_ren := {
 sizeBuilder := by kernel_rfl
 liesBuilder := by kernel_rfl
 t5 := Try.underlying5
 a5 := Try.isAgg5
 z5 := Try.sizeOf5
 v5 := Try.zeroValue5
 infoByte := by kernel_rfl
 cellsByte := by kernel_rfl
 sizeByte := by kernel_rfl
 neB5 := by decide }
end Go.Proofs
namespace Gc
open Go Gx Go.Proofs Go.Shelf
noncomputable def e_strings_Repeat (_k : Nat) (_D : CallF) : Ent := eRepeat 27
theorem ok_strings_Repeat {D : CallF} (_hD : CSound Try.prog 0 D) (k : Nat) : EntOk Try.prog 0 (e_strings_Repeat k D) :=
 repeat_ok (c := _) Try.func27 rfl rfl (fun s n w h1 h2 => Any.strings_Repeat Try.lays105 Try.Builder_Extra_105 s n w h1 h2)
end Gc
namespace Gc
open Go Gx Go.Proofs
set_option maxRecDepth 100000
noncomputable def C_law15_item (k : Nat) (D : CallF) : CallF := mkC D [e_book_Among k D, e_strings_Repeat k D]
noncomputable def law15_item (k : Nat) (D : CallF) (id_0 : Int) (pack_1 : Int) (off_2 : Int) (h : AHeap) : Option (((ByteArray × ByteArray × Int × Int × Int × Int)) × AHeap) :=
 newK h ((.cells [.string ⟨#[]⟩, .string ⟨#[]⟩, .int .i64 0, .int .i64 0, .int .i64 0, .int .i64 0] 57 true 0)) fun h1 =>
 (book_Among k D pack_1 5 h1).bind fun r2 =>
 newK r2.2 ((.cells [.int .u8 (IntKind.wrap .u8 (IntKind.wrap .i64 (97 + r2.1)))] 5 true 0)) fun h3 =>
 (bytesOf h3 (⟨(some ⟨r2.2.next, 0, some 0⟩), 1, 1⟩ : Slc)).bind fun s4 =>
 (book_Among k D id_0 20 h3).bind fun r5 =>
 newK r5.2 ((.cells [.int .u8 (IntKind.wrap .u8 (IntKind.wrap .i64 (r5.1 * 13)))] 5 true 0)) fun h6 =>
 (bytesOf h6 (⟨(some ⟨r5.2.next, 0, some 0⟩), 1, 1⟩ : Slc)).bind fun s7 =>
 (repeatA s7 32).bind fun s8 =>
 (repeatA s4 32).bind fun s9 =>
 (book_Among k D off_2 100 h6).bind fun r10 =>
 (stL 6 (⟨h.next, 0, none⟩ : Addr) ([.string s8, .string s9, .int .i64 1, .int .i64 r10.1, .int .i64 5, .int .i64 3]) r10.2).bind fun h11 =>
 (ldA 6 (⟨h.next, 0, none⟩ : Addr) h11).bind fun l12 =>
 (decC [.s, .s, .i .i64, .i .i64, .i .i64, .i .i64] l12).bind fun x13 =>
 some ((x13.1, x13.2.1, x13.2.2.1, x13.2.2.2.1, x13.2.2.2.2.1, x13.2.2.2.2.2), h11)
noncomputable def r_law15_item : RCode := an (.n) (rOf Try.prog 0 Try.f35)
noncomputable def e_law15_item (k : Nat) (D : CallF) : Ent := entOf 35 [(0, .i .i64), (1, .i .i64), (2, .i .i64)] [(6, .st [.s, .s, .i .i64, .i .i64, .i .i64, .i .i64])] (law15_item k D)
theorem q_law15_item : (Try.f35.body).bind (rcodeOf Try.prog 0 Try.f35.ntmps) = some (strip r_law15_item) := by kernel_rfl
theorem t_law15_item (k : Nat) (D : CallF) : curF [(0, .i .i64), (1, .i .i64), (2, .i .i64)] (fun args h => denF (C_law15_item k D) k r_law15_item [(6, .st [.s, .s, .i .i64, .i .i64, .i .i64, .i .i64])] [some (.agg 6)] args h) = law15_item k D := by kernel_rfl
theorem ok_law15_item {D : CallF} (hD : CSound Try.prog 0 D) (k : Nat) : EntOk Try.prog 0 (e_law15_item k D) :=
 entOf_ok2 (mkC_sound hD (EntsOk.more (ok_book_Among hD k) (EntsOk.more (ok_strings_Repeat hD k) (EntsOk.none)))) Try.func35 rfl q_law15_item rfl (t_law15_item k D)
end Gc
namespace Gc
open Go Gx Go.Proofs
set_option maxRecDepth 100000
noncomputable def C_law15_works (k : Nat) (D : CallF) : CallF := mkC D [e_lookup_New k D, e_law15_item k D, e_lookup_Table_Get k D, e_lookup_Table_Drop k D, e_lookup_Table_Add k D]
noncomputable def law15_works (k : Nat) (D : CallF)  (h : AHeap) : Option ((Bool) × AHeap) :=
 (lookup_New k D h).bind fun r1 =>
 joinK (fun (t2 : Option Addr) (y3 : Bool) (h4 : AHeap) =>
 (if y3 = true then
 some (false, h4)
 else
 (law15_item k D 1 0 0 h4).bind fun r6 =>
 (lookup_Table_Get k D t2 r6.1.1 r6.2).bind fun r7 =>
 newK r7.2 ((.cells [.string ⟨#[]⟩, .int .i64 0, .int .i64 0, .int .i64 0, .int .i64 0] 55 true 0)) fun h8 =>
 (stL 5 (⟨r7.2.next, 0, none⟩ : Addr) ([.string r7.1.1.1, .int .i64 r7.1.1.2.1, .int .i64 r7.1.1.2.2.1, .int .i64 r7.1.1.2.2.2.1, .int .i64 r7.1.1.2.2.2.2]) h8).bind fun h9 =>
 (ldS (⟨r7.2.next, 0, none⟩ : Addr) h9).bind fun x10 =>
 (lookup_Table_Drop k D t2 x10 h9).bind fun r11 =>
 (law15_item k D 1 0 0 r11.2).bind fun r12 =>
 (lookup_Table_Get k D t2 r12.1.1 r12.2).bind fun r13 =>
 newK r13.2 ((.cells [.string ⟨#[]⟩, .int .i64 0, .int .i64 0, .int .i64 0, .int .i64 0] 55 true 0)) fun h14 =>
 (stL 5 (⟨r13.2.next, 0, none⟩ : Addr) ([.string r13.1.1.1, .int .i64 r13.1.1.2.1, .int .i64 r13.1.1.2.2.1, .int .i64 r13.1.1.2.2.2.1, .int .i64 r13.1.1.2.2.2.2]) h14).bind fun h15 =>
 (if r7.1.2 = true then
 (ldI .i64 (⟨r7.2.next, 2, none⟩ : Addr) h15).bind fun x16 =>
 (if (x16 == 9) = true then
 (if (r11.1 == 1) = true then
 (if r13.1.2 = true then
 (ldI .i64 (⟨r13.2.next, 2, none⟩ : Addr) h15).bind fun x17 =>
 some ((x17 == 5), h15)
 else
 some (false, h15))
 else
 some (false, h15))
 else
 some (false, h15))
 else
 some (false, h15)))) fun j5 =>
 (if r1.1.isNone = true then
 j5 r1.1 true r1.2
 else
 (law15_item k D 1 2 5 r1.2).bind fun r18 =>
 (law15_item k D 1 1 9 r18.2).bind fun r19 =>
 newK r19.2 ((.cells [.string r18.1.1, .string r18.1.2.1, .int .i64 r18.1.2.2.1, .int .i64 r18.1.2.2.2.1, .int .i64 r18.1.2.2.2.2.1, .int .i64 r18.1.2.2.2.2.2, .string r19.1.1, .string r19.1.2.1, .int .i64 r19.1.2.2.1, .int .i64 r19.1.2.2.2.1, .int .i64 r19.1.2.2.2.2.1, .int .i64 r19.1.2.2.2.2.2] 57 true 0)) fun h20 =>
 (lookup_Table_Add k D r1.1 (⟨(some ⟨r19.2.next, 0, some 0⟩), 2, 2⟩ : Slc) h20).bind fun r21 =>
 j5 r1.1 (r21.1 != 0) r21.2)
noncomputable def r_law15_works : RCode := an (.s .n (.s .n (.s (.s (.j [(1, .p), (17, .b)] .n) .n) .n))) (rOf Try.prog 0 Try.f32)
noncomputable def e_law15_works (k : Nat) (D : CallF) : Ent := entOf 32 [] [(0, .b)] (law15_works k D)
theorem q_law15_works : (Try.f32.body).bind (rcodeOf Try.prog 0 Try.f32.ntmps) = some (strip r_law15_works) := by kernel_rfl
theorem t_law15_works (k : Nat) (D : CallF) : curF [] (fun args h => denF (C_law15_works k D) k r_law15_works [(0, .b)] [none] args h) = law15_works k D := by kernel_rfl
theorem ok_law15_works {D : CallF} (hD : CSound Try.prog 0 D) (k : Nat) : EntOk Try.prog 0 (e_law15_works k D) :=
 entOf_ok2 (mkC_sound hD (EntsOk.more (ok_lookup_New hD k) (EntsOk.more (ok_law15_item hD k) (EntsOk.more (ok_lookup_Table_Get hD k) (EntsOk.more (ok_lookup_Table_Drop hD k) (EntsOk.more (ok_lookup_Table_Add hD k) (EntsOk.none))))))) Try.func32 rfl q_law15_works rfl (t_law15_works k D)
end Gc
namespace Gc
open Go Gx Go.Proofs
set_option maxRecDepth 100000
end Gc
namespace Gc
open Go Gx Go.Proofs
set_option maxRecDepth 100000
end Gc
namespace Gc
open Go Gx Go.Proofs
set_option maxRecDepth 100000
noncomputable def C_slices_Grow_api_Item_api_Item (_k : Nat) (D : CallF) : CallF := mkC D []
noncomputable def slices_Grow_api_Item_api_Item (_k : Nat) (_D : CallF) (s_0 : Slc) (n_1 : Int) (h : AHeap) : Option ((Slc) × AHeap) :=
 joinK (fun (s1 : Slc) (n2 : Int) (h3 : AHeap) =>
 joinK (fun (s5 : Slc) (h6 : AHeap) =>
 some (s5, h6)) fun j7 =>
 (capOf s1).bind fun c8 =>
 let t9 : Int := (IntKind.wrap .i64 (n2 - (IntKind.wrap .i64 (c8 - (s1.len : Int)))))
 (if (decide (t9 > 0)) = true then
 (capOf s1).bind fun c10 =>
 (Gx.subL 6 s1 none (some c10) none).bind fun l11 =>
 (if 0 ≤ t9 ∧ t9 ≤ 281474976710656 ∧ t9 * 64 ≤ 281474976710656 then
 (appendA 6 64 57 h3 l11 (zerosL (t9).toNat [.string ⟨#[]⟩, .string ⟨#[]⟩, .int .i64 0, .int .i64 0, .int .i64 0, .int .i64 0]) (t9).toNat).bind fun r12 =>
 (Gx.subL 6 r12.1 none (some (s1.len : Int)) none).bind fun l13 =>
 j7 l13 r12.2
 else none)
 else
 j7 s1 h3)) fun j4 =>
 (if (decide (n_1 < 0)) = true then
 none
 else
 j4 s_0 n_1 h)
noncomputable def r_slices_Grow_api_Item_api_Item : RCode := an (.s .n (.s (.j [(0, .l), (1, .i .i64)] .n) (.s (.j [(0, .l)] .n) .n))) (rOf Try.prog 0 Try.f125)
noncomputable def e_slices_Grow_api_Item_api_Item (k : Nat) (D : CallF) : Ent := entOf 125 [(0, .l), (1, .i .i64)] [(4, .l)] (slices_Grow_api_Item_api_Item k D)
theorem q_slices_Grow_api_Item_api_Item : (Try.f125.body).bind (rcodeOf Try.prog 0 Try.f125.ntmps) = some (strip r_slices_Grow_api_Item_api_Item) := by kernel_rfl
theorem t_slices_Grow_api_Item_api_Item (k : Nat) (D : CallF) : curF [(0, .l), (1, .i .i64)] (fun args h => denF (C_slices_Grow_api_Item_api_Item k D) k r_slices_Grow_api_Item_api_Item [(4, .l)] [none] args h) = slices_Grow_api_Item_api_Item k D := by kernel_rfl
theorem ok_slices_Grow_api_Item_api_Item {D : CallF} (hD : CSound Try.prog 0 D) (k : Nat) : EntOk Try.prog 0 (e_slices_Grow_api_Item_api_Item k D) :=
 entOf_ok2 (mkC_sound hD (EntsOk.none)) Try.func125 rfl q_slices_Grow_api_Item_api_Item rfl (t_slices_Grow_api_Item_api_Item k D)
end Gc
namespace Gc
open Go Gx Go.Proofs
set_option maxRecDepth 100000
noncomputable def C_slices_Concat_api_Item_api_Item (k : Nat) (D : CallF) : CallF := mkC D [e_slices_Grow_api_Item_api_Item k D]
noncomputable def slices_Concat_api_Item_api_Item_l1b (_k : Nat) (_D : CallF) (j4 : Slc → Int → AHeap → Option ((Slc) × AHeap)) (rec25 : Slc → Int → Slc → Int → Int → AHeap → Option ((Slc) × AHeap)) (slices19 : Slc) (size20 : Int) (y21 : Slc) (y22 : Int) (y23 : Int) (h24 : AHeap) : Option ((Slc) × AHeap) :=
 (if (decide (y23 < y22)) = true then
 joinK (fun (slices26 : Slc) (size27 : Int) (y28 : Slc) (y29 : Int) (y30 : Int) (h31 : AHeap) =>
 rec25 slices26 size27 y28 y29 (IntKind.wrap .i64 (y30 + 1)) h31) fun j32 =>
 (Gx.idxL 1 y21 y23).bind fun q33 =>
 (ldL q33 h24).bind fun x34 =>
 (if (decide ((IntKind.wrap .i64 (size20 + (x34.len : Int))) < 0)) = true then
 none
 else
 j32 slices19 (IntKind.wrap .i64 (size20 + (x34.len : Int))) y21 y22 y23 h24)
 else
 j4 slices19 size20 h24)
noncomputable def slices_Concat_api_Item_api_Item_l1 (k : Nat) (D : CallF) (j4 : Slc → Int → AHeap → Option ((Slc) × AHeap)) : Slc → Int → Slc → Int → Int → AHeap → Option ((Slc) × AHeap) :=
 iterK (α := Slc → Int → Slc → Int → Int → AHeap → Option ((Slc) × AHeap)) (fun _ _ _ _ _ _ => none) k (slices_Concat_api_Item_api_Item_l1b k D j4)
noncomputable def slices_Concat_api_Item_api_Item_l0b (_k : Nat) (_D : CallF) (j8 : Slc → AHeap → Option ((Slc) × AHeap)) (rec14 : Slc → Slc → Int → Int → AHeap → Option ((Slc) × AHeap)) (newslice9 : Slc) (y10 : Slc) (y11 : Int) (y12 : Int) (h13 : AHeap) : Option ((Slc) × AHeap) :=
 (if (decide (y12 < y11)) = true then
 (Gx.idxL 1 y10 y12).bind fun q15 =>
 (ldL q15 h13).bind fun x16 =>
 (rdS 6 x16 h13).bind fun n18 =>
 (appendA 6 64 57 h13 newslice9 n18 x16.len).bind fun r17 =>
 rec14 r17.1 y10 y11 (IntKind.wrap .i64 (y12 + 1)) r17.2
 else
 j8 newslice9 h13)
noncomputable def slices_Concat_api_Item_api_Item_l0 (k : Nat) (D : CallF) (j8 : Slc → AHeap → Option ((Slc) × AHeap)) : Slc → Slc → Int → Int → AHeap → Option ((Slc) × AHeap) :=
 iterK (α := Slc → Slc → Int → Int → AHeap → Option ((Slc) × AHeap)) (fun _ _ _ _ _ => none) k (slices_Concat_api_Item_api_Item_l0b k D j8)
noncomputable def slices_Concat_api_Item_api_Item (k : Nat) (D : CallF) (slices_0 : Slc) (h : AHeap) : Option ((Slc) × AHeap) :=
 joinK (fun (slices1 : Slc) (size2 : Int) (h3 : AHeap) =>
 (slices_Grow_api_Item_api_Item k D (⟨none, 0, 0⟩ : Slc) size2 h3).bind fun r5 =>
 joinK (fun (newslice6 : Slc) (h7 : AHeap) =>
 some (newslice6, h7)) fun j8 =>
 slices_Concat_api_Item_api_Item_l0 k D j8 r5.1 slices1 (slices1.len : Int) 0 r5.2) fun j4 =>
 slices_Concat_api_Item_api_Item_l1 k D j4 slices_0 0 slices_0 (slices_0.len : Int) 0 h
noncomputable def r_slices_Concat_api_Item_api_Item : RCode := an (.s .n (.s .n (.s (.j [(0, .l), (3, .i .i64)] (.s .n (.b (.l [(0, .l), (3, .i .i64), (9, .l), (10, .i .i64), (11, .i .i64)] (.s .n (.s .n (.s (.j [(0, .l), (3, .i .i64), (9, .l), (10, .i .i64), (11, .i .i64)] .n) .n))))))) (.s .n (.s (.j [(6, .l)] (.s .n (.b (.l [(6, .l), (25, .l), (26, .i .i64), (27, .i .i64)] .n)))) .n))))) (rOf Try.prog 0 Try.f82)
noncomputable def e_slices_Concat_api_Item_api_Item (k : Nat) (D : CallF) : Ent := entOf 82 [(0, .l)] [(2, .l)] (slices_Concat_api_Item_api_Item k D)
theorem q_slices_Concat_api_Item_api_Item : (Try.f82.body).bind (rcodeOf Try.prog 0 Try.f82.ntmps) = some (strip r_slices_Concat_api_Item_api_Item) := by kernel_rfl
theorem t_slices_Concat_api_Item_api_Item (k : Nat) (D : CallF) : curF [(0, .l)] (fun args h => denF (C_slices_Concat_api_Item_api_Item k D) k r_slices_Concat_api_Item_api_Item [(2, .l)] [none] args h) = slices_Concat_api_Item_api_Item k D := by kernel_rfl
theorem ok_slices_Concat_api_Item_api_Item {D : CallF} (hD : CSound Try.prog 0 D) (k : Nat) : EntOk Try.prog 0 (e_slices_Concat_api_Item_api_Item k D) :=
 entOf_ok2 (mkC_sound hD (EntsOk.more (ok_slices_Grow_api_Item_api_Item hD k) (EntsOk.none))) Try.func82 rfl q_slices_Concat_api_Item_api_Item rfl (t_slices_Concat_api_Item_api_Item k D)
end Gc
namespace Gc
open Go Gx Go.Proofs
set_option maxRecDepth 100000
noncomputable def C_lookup_Table_All (k : Nat) (D : CallF) : CallF := mkC D [e_slices_Concat_api_Item_api_Item k D]
noncomputable def lookup_Table_All (k : Nat) (D : CallF) (t_0 : Option Addr) (h : AHeap) : Option ((Slc) × AHeap) :=
 (t_0).bind fun p1 =>
 (Gx.subA 256 1 (⟨p1.block, p1.off + 0, none⟩ : Addr) none none none).bind fun l2 =>
 (slices_Concat_api_Item_api_Item k D l2 h).bind fun r3 =>
 some (r3.1, r3.2)
noncomputable def r_lookup_Table_All : RCode := an (.n) (rOf Try.prog 0 Try.f37)
noncomputable def e_lookup_Table_All (k : Nat) (D : CallF) : Ent := entOf 37 [(0, .p)] [(2, .l)] (lookup_Table_All k D)
theorem q_lookup_Table_All : (Try.f37.body).bind (rcodeOf Try.prog 0 Try.f37.ntmps) = some (strip r_lookup_Table_All) := by kernel_rfl
theorem t_lookup_Table_All (k : Nat) (D : CallF) : curF [(0, .p)] (fun args h => denF (C_lookup_Table_All k D) k r_lookup_Table_All [(2, .l)] [none] args h) = lookup_Table_All k D := by kernel_rfl
theorem ok_lookup_Table_All {D : CallF} (hD : CSound Try.prog 0 D) (k : Nat) : EntOk Try.prog 0 (e_lookup_Table_All k D) :=
 entOf_ok2 (mkC_sound hD (EntsOk.more (ok_slices_Concat_api_Item_api_Item hD k) (EntsOk.none))) Try.func37 rfl q_lookup_Table_All rfl (t_lookup_Table_All k D)
end Gc
namespace Gc
open Go Gx Go.Proofs
set_option maxRecDepth 100000
noncomputable def C_law15_sameItems (_k : Nat) (D : CallF) : CallF := mkC D []
noncomputable def law15_sameItems_l0b (_k : Nat) (_D : CallF) (j2 : AHeap → Option ((Bool) × AHeap)) (rec7 : Slc → Slc → Int → AHeap → Option ((Bool) × AHeap)) (a3 : Slc) (b4 : Slc) (i5 : Int) (h6 : AHeap) : Option ((Bool) × AHeap) :=
 (if (decide (i5 < (a3.len : Int))) = true then
 (Gx.idxL 6 a3 i5).bind fun q8 =>
 (ldA 6 q8 h6).bind fun l9 =>
 (decC [.s, .s, .i .i64, .i .i64, .i .i64, .i .i64] l9).bind fun x10 =>
 (Gx.idxL 6 b4 i5).bind fun q11 =>
 (ldA 6 q11 h6).bind fun l12 =>
 (decC [.s, .s, .i .i64, .i .i64, .i .i64, .i .i64] l12).bind fun x13 =>
 let c14 : Bool := (!((x10.1 == x13.1) && ((x10.2.1 == x13.2.1) && ((x10.2.2.1 == x13.2.2.1) && ((x10.2.2.2.1 == x13.2.2.2.1) && ((x10.2.2.2.2.1 == x13.2.2.2.2.1) && (x10.2.2.2.2.2 == x13.2.2.2.2.2)))))))
 (if c14 = true then
 some (false, h6)
 else
 rec7 a3 b4 (IntKind.wrap .i64 (i5 + 1)) h6)
 else
 j2 h6)
noncomputable def law15_sameItems_l0 (k : Nat) (D : CallF) (j2 : AHeap → Option ((Bool) × AHeap)) : Slc → Slc → Int → AHeap → Option ((Bool) × AHeap) :=
 iterK (α := Slc → Slc → Int → AHeap → Option ((Bool) × AHeap)) (fun _ _ _ _ => none) k (law15_sameItems_l0b k D j2)
noncomputable def law15_sameItems (k : Nat) (D : CallF) (a_0 : Slc) (b_1 : Slc) (h : AHeap) : Option ((Bool) × AHeap) :=
 (if ((a_0.len : Int) != (b_1.len : Int)) = true then
 some (false, h)
 else
 joinK (fun (h1 : AHeap) =>
 some (true, h1)) fun j2 =>
 law15_sameItems_l0 k D j2 a_0 b_1 0 h)
noncomputable def r_law15_sameItems : RCode := an (.s .n (.s .n (.s (.j [] (.s .n (.b (.l [(0, .l), (1, .l), (5, .i .i64)] (.s .n (.s (.b (.s (.r [(3, .st [.s, .s, .i .i64, .i .i64, .i .i64, .i .i64]), (7, .st [.s, .s, .i .i64, .i .i64, .i .i64, .i .i64])]) .n)) .n)))))) .n))) (rOf Try.prog 0 Try.f36)
noncomputable def e_law15_sameItems (k : Nat) (D : CallF) : Ent := entOf 36 [(0, .l), (1, .l)] [(4, .b)] (law15_sameItems k D)
theorem q_law15_sameItems : (Try.f36.body).bind (rcodeOf Try.prog 0 Try.f36.ntmps) = some (strip r_law15_sameItems) := by kernel_rfl
theorem t_law15_sameItems (k : Nat) (D : CallF) : curF [(0, .l), (1, .l)] (fun args h => denF (C_law15_sameItems k D) k r_law15_sameItems [(4, .b)] [none] args h) = law15_sameItems k D := by kernel_rfl
theorem ok_law15_sameItems {D : CallF} (hD : CSound Try.prog 0 D) (k : Nat) : EntOk Try.prog 0 (e_law15_sameItems k D) :=
 entOf_ok2 (mkC_sound hD (EntsOk.none)) Try.func36 rfl q_law15_sameItems rfl (t_law15_sameItems k D)
end Gc
namespace Gc
open Go Gx Go.Proofs
set_option maxRecDepth 100000
noncomputable def C_lookup_Table_Len (_k : Nat) (D : CallF) : CallF := mkC D []
noncomputable def lookup_Table_Len_l0b (_k : Nat) (_D : CallF) (j3 : Int → AHeap → Option ((Int) × AHeap)) (rec10 : Int → (List Value) → Int → AHeap → Option ((Int) × AHeap)) (n6 : Int) (y7 : List Value) (y8 : Int) (h9 : AHeap) : Option ((Int) × AHeap) :=
 (if (decide (y8 < 256)) = true then
 (if 0 ≤ y8 ∧ y8 < ((256 : Nat) : Int) then
 (y7[(y8).toNat * 1]?).bind fun v11 =>
 (decL v11).bind fun x12 =>
 (decA 256 (.agg ⟨y7⟩)).bind fun l13 =>
 rec10 (IntKind.wrap .i64 (n6 + (x12.len : Int))) l13 (IntKind.wrap .i64 (y8 + 1)) h9
 else none)
 else
 j3 n6 h9)
noncomputable def lookup_Table_Len_l0 (k : Nat) (D : CallF) (j3 : Int → AHeap → Option ((Int) × AHeap)) : Int → (List Value) → Int → AHeap → Option ((Int) × AHeap) :=
 iterK (α := Int → (List Value) → Int → AHeap → Option ((Int) × AHeap)) (fun _ _ _ _ => none) k (lookup_Table_Len_l0b k D j3)
noncomputable def lookup_Table_Len (k : Nat) (D : CallF) (t_0 : Option Addr) (h : AHeap) : Option ((Int) × AHeap) :=
 joinK (fun (n1 : Int) (h2 : AHeap) =>
 some (n1, h2)) fun j3 =>
 (t_0).bind fun p4 =>
 (ldA 256 (⟨p4.block, p4.off + 0, none⟩ : Addr) h).bind fun l5 =>
 (decA 256 (.agg ⟨l5⟩)).bind fun l14 =>
 lookup_Table_Len_l0 k D j3 0 l14 0 h
noncomputable def r_lookup_Table_Len : RCode := an (.s .n (.s .n (.s (.j [(3, .i .i64)] (.s .n (.b (.l [(3, .i .i64), (9, .agg 256), (10, .i .i64)] .n)))) .n))) (rOf Try.prog 0 Try.f38)
noncomputable def e_lookup_Table_Len (k : Nat) (D : CallF) : Ent := entOf 38 [(0, .p)] [(2, .i .i64)] (lookup_Table_Len k D)
theorem q_lookup_Table_Len : (Try.f38.body).bind (rcodeOf Try.prog 0 Try.f38.ntmps) = some (strip r_lookup_Table_Len) := by kernel_rfl
theorem t_lookup_Table_Len (k : Nat) (D : CallF) : curF [(0, .p)] (fun args h => denF (C_lookup_Table_Len k D) k r_lookup_Table_Len [(2, .i .i64)] [none] args h) = lookup_Table_Len k D := by kernel_rfl
theorem ok_lookup_Table_Len {D : CallF} (hD : CSound Try.prog 0 D) (k : Nat) : EntOk Try.prog 0 (e_lookup_Table_Len k D) :=
 entOf_ok2 (mkC_sound hD (EntsOk.none)) Try.func38 rfl q_lookup_Table_Len rfl (t_lookup_Table_Len k D)
end Gc
namespace Gc
open Go Gx Go.Proofs
set_option maxRecDepth 100000
noncomputable def C_lookup_Table_Ids (k : Nat) (D : CallF) : CallF := mkC D [e_lookup_Table_All k D]
noncomputable def lookup_Table_Ids_l0b (_k : Nat) (_D : CallF) (j3 : Slc → AHeap → Option ((Slc) × AHeap)) (rec10 : Slc → Slc → Int → Int → AHeap → Option ((Slc) × AHeap)) (out5 : Slc) (y6 : Slc) (y7 : Int) (y8 : Int) (h9 : AHeap) : Option ((Slc) × AHeap) :=
 (if (decide (y8 < y7)) = true then
 joinK (fun (out11 : Slc) (y12 : Slc) (y13 : Int) (y14 : Int) (h15 : AHeap) =>
 rec10 out11 y12 y13 (IntKind.wrap .i64 (y14 + 1)) h15) fun j16 =>
 (Gx.idxL 6 y6 y8).bind fun q17 =>
 (ldA 6 q17 h9).bind fun l18 =>
 (decC [.s, .s, .i .i64, .i .i64, .i .i64, .i .i64] l18).bind fun x19 =>
 newK h9 ((.cells [.string ⟨#[]⟩, .string ⟨#[]⟩, .int .i64 0, .int .i64 0, .int .i64 0, .int .i64 0] 57 true 0)) fun h20 =>
 (stL 6 (⟨h9.next, 0, none⟩ : Addr) ([.string x19.1, .string x19.2.1, .int .i64 x19.2.2.1, .int .i64 x19.2.2.2.1, .int .i64 x19.2.2.2.2.1, .int .i64 x19.2.2.2.2.2]) h20).bind fun h21 =>
 joinK (fun (out22 : Slc) (x23 : Option Addr) (y24 : Slc) (y25 : Int) (y26 : Int) (y27 : Bool) (h28 : AHeap) =>
 (if y27 = true then
 (x23).bind fun p30 =>
 (ldS (⟨p30.block, p30.off + 0, none⟩ : Addr) h28).bind fun x31 =>
 newK h28 ((.cells [.string x31] 9 true 0)) fun h32 =>
 (rdS 1 (⟨(some ⟨h28.next, 0, some 0⟩), 1, 1⟩ : Slc) h32).bind fun n34 =>
 (appendA 1 16 9 h32 out22 n34 1).bind fun r33 =>
 j16 r33.1 y24 y25 y26 r33.2
 else
 j16 out22 y24 y25 y26 h28)) fun j29 =>
 (if ((out5.len : Int) == 0) = true then
 j29 out5 (some (⟨h9.next, 0, none⟩ : Addr)) y6 y7 y8 true h21
 else
 (Gx.idxL 1 out5 (IntKind.wrap .i64 ((out5.len : Int) - 1))).bind fun q35 =>
 (ldS q35 h21).bind fun x36 =>
 (ldS (⟨h9.next, 0, none⟩ : Addr) h21).bind fun x37 =>
 j29 out5 (some (⟨h9.next, 0, none⟩ : Addr)) y6 y7 y8 (!(x36 == x37)) h21)
 else
 j3 out5 h9)
noncomputable def lookup_Table_Ids_l0 (k : Nat) (D : CallF) (j3 : Slc → AHeap → Option ((Slc) × AHeap)) : Slc → Slc → Int → Int → AHeap → Option ((Slc) × AHeap) :=
 iterK (α := Slc → Slc → Int → Int → AHeap → Option ((Slc) × AHeap)) (fun _ _ _ _ _ => none) k (lookup_Table_Ids_l0b k D j3)
noncomputable def lookup_Table_Ids (k : Nat) (D : CallF) (t_0 : Option Addr) (h : AHeap) : Option ((Slc) × AHeap) :=
 joinK (fun (out1 : Slc) (h2 : AHeap) =>
 some (out1, h2)) fun j3 =>
 (lookup_Table_All k D t_0 h).bind fun r4 =>
 lookup_Table_Ids_l0 k D j3 (⟨none, 0, 0⟩ : Slc) r4.1 (r4.1.len : Int) 0 r4.2
noncomputable def r_lookup_Table_Ids : RCode := an (.s .n (.s .n (.s (.j [(3, .l)] (.s .n (.b (.l [(3, .l), (7, .l), (8, .i .i64), (9, .i .i64)] (.s .n (.s .n (.s (.j [(3, .l), (7, .l), (8, .i .i64), (9, .i .i64)] (.b (.s (.r [(1, .st [.s, .s, .i .i64, .i .i64, .i .i64, .i .i64])]) (.s (.j [(3, .l), (5, .p), (7, .l), (8, .i .i64), (9, .i .i64), (26, .b)] .n) .n)))) .n))))))) .n))) (rOf Try.prog 0 Try.f42)
noncomputable def e_lookup_Table_Ids (k : Nat) (D : CallF) : Ent := entOf 42 [(0, .p)] [(2, .l)] (lookup_Table_Ids k D)
theorem q_lookup_Table_Ids : (Try.f42.body).bind (rcodeOf Try.prog 0 Try.f42.ntmps) = some (strip r_lookup_Table_Ids) := by kernel_rfl
theorem t_lookup_Table_Ids (k : Nat) (D : CallF) : curF [(0, .p)] (fun args h => denF (C_lookup_Table_Ids k D) k r_lookup_Table_Ids [(2, .l)] [none] args h) = lookup_Table_Ids k D := by kernel_rfl
theorem ok_lookup_Table_Ids {D : CallF} (hD : CSound Try.prog 0 D) (k : Nat) : EntOk Try.prog 0 (e_lookup_Table_Ids k D) :=
 entOf_ok2 (mkC_sound hD (EntsOk.more (ok_lookup_Table_All hD k) (EntsOk.none))) Try.func42 rfl q_lookup_Table_Ids rfl (t_lookup_Table_Ids k D)
end Gc
namespace Go.Proofs
open Go.Shelf Go.RowKit Go.Sort
def Try.sortA_ren : Go.Shelf.Ren := ⟨fun | 6 => 84 | 8 => 129 | 9 => 128 | 19 => 147 | 20 => 148 | 21 => 139 | 22 => 140 | 23 => 141 | 24 => 142 | 25 => 143 | 26 => 144 | 27 => 97 | 28 => 145 | 29 => 146 | 36 => 151 | 31 => 152 | 32 => 153 | 37 => 154 | 38 => 155 | 39 => 131 | 41 => 156 | n => n, fun | 27 => 22 | 29 => 9 | 3 => 3 | 32 => 105 | 26 => 22 | 0 => 0 | 44 => 147 | 46 => 150 | 4 => 4 | 36 => 171 | 35 => 170 | 41 => 126 | 5 => 5 | 9 => 9 | 53 => 179 | 57 => 183 | 63 => 185 | 64 => 186 | n => n, fun | n => n⟩
theorem Try.sortA : Go.Proofs.SlLaysM.n6 Try.prog Try.sortA_ren := {
 mixed := by kernel_rfl
 f6 := ⟨Try.f84.name, by decide, Try.func84.trans (congrArg some (by kernel_rfl))⟩
 f8 := Try.func129.trans (congrArg some (by kernel_rfl))
 f9 := ⟨Try.f128.name, by decide, Try.func128.trans (congrArg some (by kernel_rfl))⟩
 f19 := Try.func147.trans (congrArg some (by kernel_rfl))
 f20 := Try.func148.trans (congrArg some (by kernel_rfl))
 f21 := ⟨Try.f139.name, by decide, Try.func139.trans (congrArg some (by kernel_rfl))⟩
 f22 := ⟨Try.f140.name, by decide, Try.func140.trans (congrArg some (by kernel_rfl))⟩
 f23 := ⟨Try.f141.name, by decide, Try.func141.trans (congrArg some (by kernel_rfl))⟩
 f24 := ⟨Try.f142.name, by decide, Try.func142.trans (congrArg some (by kernel_rfl))⟩
 f25 := ⟨Try.f143.name, by decide, Try.func143.trans (congrArg some (by kernel_rfl))⟩
 f26 := ⟨Try.f144.name, by decide, Try.func144.trans (congrArg some (by kernel_rfl))⟩
 f27 := ⟨Try.f97.name, by decide, Try.func97.trans (congrArg some (by kernel_rfl))⟩
 f28 := ⟨Try.f145.name, by decide, Try.func145.trans (congrArg some (by kernel_rfl))⟩
 f29 := ⟨Try.f146.name, by decide, Try.func146.trans (congrArg some (by kernel_rfl))⟩
 f31 := Try.func152.trans (congrArg some (by kernel_rfl))
 f32 := Try.func153.trans (congrArg some (by kernel_rfl))
 f36 := ⟨Try.f151.name, by decide, Try.func151.trans (congrArg some (by kernel_rfl))⟩
 f37 := ⟨Try.f154.name, by decide, Try.func154.trans (congrArg some (by kernel_rfl))⟩
 f38 := ⟨Try.f155.name, by decide, Try.func155.trans (congrArg some (by kernel_rfl))⟩
 f39 := ⟨Try.f131.name, by decide, Try.func131.trans (congrArg some (by kernel_rfl))⟩
 f41 := ⟨Try.f156.name, by decide, Try.func156.trans (congrArg some (by kernel_rfl))⟩
 t0 := Try.underlying0
 a0 := Try.isAgg0
 z0 := Try.sizeOf0
 v0 := Try.zeroValue0
 t3 := Try.underlying3
 a3 := Try.isAgg3
 z3 := Try.sizeOf3
 v3 := Try.zeroValue3
 t4 := Try.underlying4
 a4 := Try.isAgg4
 z4 := Try.sizeOf4
 v4 := Try.zeroValue4
 t5 := Try.underlying5
 a5 := Try.isAgg5
 z5 := Try.sizeOf5
 v5 := Try.zeroValue5
 t9 := Try.underlying9
 a9 := Try.isAgg9
 z9 := Try.sizeOf9
 v9 := Try.zeroValue9
 t26 := Try.underlying22
 a26 := Try.isAgg22
 z26 := Try.sizeOf22
 v26 := Try.zeroValue22
 t27 := Try.underlying22
 a27 := Try.isAgg22
 z27 := Try.sizeOf22
 v27 := Try.zeroValue22
 t29 := Try.underlying9
 a29 := Try.isAgg9
 z29 := Try.sizeOf9
 v29 := Try.zeroValue9
 t32 := Try.underlying105
 a32 := Try.isAgg105
 z32 := Try.sizeOf105
 v32 := Try.zeroValue105
 t35 := Try.underlying170
 a35 := Try.isAgg170
 z35 := Try.sizeOf170
 v35 := Try.zeroValue170
 t36 := Try.underlying171
 a36 := Try.isAgg171
 z36 := Try.sizeOf171
 v36 := Try.zeroValue171
 t41 := Try.underlying126
 a41 := Try.isAgg126
 z41 := Try.sizeOf126
 v41 := Try.zeroValue126
 t44 := Try.underlying147
 a44 := Try.isAgg147
 z44 := Try.sizeOf147
 v44 := Try.zeroValue147
 t46 := Try.underlying150
 a46 := Try.isAgg150
 z46 := Try.sizeOf150
 v46 := Try.zeroValue150
 t53 := Try.underlying179
 a53 := Try.isAgg179
 z53 := Try.sizeOf179
 v53 := Try.zeroValue179
 t57 := Try.underlying183
 a57 := Try.isAgg183
 z57 := Try.sizeOf183
 v57 := Try.zeroValue183
 t63 := Try.underlying185
 a63 := Try.isAgg185
 z63 := Try.sizeOf185
 v63 := Try.zeroValue185
 t64 := Try.underlying186
 a64 := Try.isAgg186
 z64 := Try.sizeOf186
 v64 := Try.zeroValue186 }
theorem Try.sortC : Gx.SortC Try.prog 84 := ⟨fun blk off cap ss W hH hblk hsz => AnyM.slices_Sort_string Try.sortA blk off cap ss W hH hblk hsz, fun p cap W => AnyM.slices_Sort_string_none Try.sortA p cap W⟩
end Go.Proofs
namespace Gc
open Go Gx Go.Proofs
noncomputable def e_slices_Sort_string_string (_k : Nat) (_D : CallF) : Ent := eSort 84
theorem ok_slices_Sort_string_string {D : CallF} (_hD : CSound Try.prog 0 D) (k : Nat) : EntOk Try.prog 0 (e_slices_Sort_string_string k D) :=
 sort_ok (c := _) Try.func84 rfl rfl Try.sortC
end Gc
namespace Gc
open Go Gx Go.Proofs
set_option maxRecDepth 100000
noncomputable def C_slices_Compact_string_string (_k : Nat) (D : CallF) : CallF := mkC D []
noncomputable def slices_Compact_string_string_l1b (_k : Nat) (_D : CallF) (j20 : Slc → Int → AHeap → Option ((Slc) × AHeap)) (rec29 : Slc → Int → Slc → Int → AHeap → Option ((Slc) × AHeap)) (s24 : Slc) (kv25 : Int) (s226 : Slc) (k227 : Int) (h28 : AHeap) : Option ((Slc) × AHeap) :=
 (if (decide (k227 < (s226.len : Int))) = true then
 joinK (fun (s30 : Slc) (kv31 : Int) (s232 : Slc) (k233 : Int) (h34 : AHeap) =>
 rec29 s30 kv31 s232 (IntKind.wrap .i64 (k233 + 1)) h34) fun j35 =>
 (Gx.idxL 1 s226 k227).bind fun q36 =>
 (ldS q36 h28).bind fun x37 =>
 (Gx.idxL 1 s226 (IntKind.wrap .i64 (k227 - 1))).bind fun q38 =>
 (ldS q38 h28).bind fun x39 =>
 (if (!(x37 == x39)) = true then
 (Gx.idxL 1 s226 k227).bind fun q40 =>
 (ldS q40 h28).bind fun x41 =>
 (Gx.idxL 1 s24 kv25).bind fun q42 =>
 (st1 q42 (.string x41) h28).bind fun h43 =>
 j35 s24 (IntKind.wrap .i64 (kv25 + 1)) s226 k227 h43
 else
 j35 s24 kv25 s226 k227 h28)
 else
 j20 s24 kv25 h28)
noncomputable def slices_Compact_string_string_l1 (k : Nat) (D : CallF) (j20 : Slc → Int → AHeap → Option ((Slc) × AHeap)) : Slc → Int → Slc → Int → AHeap → Option ((Slc) × AHeap) :=
 iterK (α := Slc → Int → Slc → Int → AHeap → Option ((Slc) × AHeap)) (fun _ _ _ _ _ => none) k (slices_Compact_string_string_l1b k D j20)
noncomputable def slices_Compact_string_string_l0b (k : Nat) (D : CallF) (j3 : Slc → AHeap → Option ((Slc) × AHeap)) (rec7 : Slc → Int → AHeap → Option ((Slc) × AHeap)) (s4 : Slc) (kv5 : Int) (h6 : AHeap) : Option ((Slc) × AHeap) :=
 (if (decide (kv5 < (s4.len : Int))) = true then
 joinK (fun (s8 : Slc) (kv9 : Int) (h10 : AHeap) =>
 rec7 s8 (IntKind.wrap .i64 (kv9 + 1)) h10) fun j11 =>
 (Gx.idxL 1 s4 kv5).bind fun q12 =>
 (ldS q12 h6).bind fun x13 =>
 (Gx.idxL 1 s4 (IntKind.wrap .i64 (kv5 - 1))).bind fun q14 =>
 (ldS q14 h6).bind fun x15 =>
 (if (x13 == x15) = true then
 (Gx.subL 1 s4 (some kv5) none none).bind fun l16 =>
 joinK (fun (s17 : Slc) (kv18 : Int) (h19 : AHeap) =>
 (Gx.subL 1 s17 (some kv18) none none).bind fun l21 =>
 (clrL [.string ⟨#[]⟩] l21 h19).bind fun h22 =>
 (Gx.subL 1 s17 none (some kv18) none).bind fun l23 =>
 some (l23, h22)) fun j20 =>
 slices_Compact_string_string_l1 k D j20 s4 kv5 l16 1 h6
 else
 j11 s4 kv5 h6)
 else
 j3 s4 h6)
noncomputable def slices_Compact_string_string_l0 (k : Nat) (D : CallF) (j3 : Slc → AHeap → Option ((Slc) × AHeap)) : Slc → Int → AHeap → Option ((Slc) × AHeap) :=
 iterK (α := Slc → Int → AHeap → Option ((Slc) × AHeap)) (fun _ _ _ => none) k (slices_Compact_string_string_l0b k D j3)
noncomputable def slices_Compact_string_string (k : Nat) (D : CallF) (s_0 : Slc) (h : AHeap) : Option ((Slc) × AHeap) :=
 (if (decide ((s_0.len : Int) < 2)) = true then
 some (s_0, h)
 else
 joinK (fun (s1 : Slc) (h2 : AHeap) =>
 some (s1, h2)) fun j3 =>
 slices_Compact_string_string_l0 k D j3 s_0 1 h)
noncomputable def r_slices_Compact_string_string : RCode := an (.s .n (.s .n (.s (.j [(0, .l)] (.s .n (.b (.l [(0, .l), (3, .i .i64)] (.s .n (.s (.j [(0, .l), (3, .i .i64)] (.b (.s .n (.s (.s .n (.s (.j [(0, .l), (3, .i .i64)] (.s .n (.b (.l [(0, .l), (3, .i .i64), (4, .l), (5, .i .i64)] (.s .n (.s (.j [(0, .l), (3, .i .i64), (4, .l), (5, .i .i64)] .n) .n)))))) .n)) .n)))) .n)))))) .n))) (rOf Try.prog 0 Try.f85)
noncomputable def e_slices_Compact_string_string (k : Nat) (D : CallF) : Ent := entOf 85 [(0, .l)] [(2, .l)] (slices_Compact_string_string k D)
theorem q_slices_Compact_string_string : (Try.f85.body).bind (rcodeOf Try.prog 0 Try.f85.ntmps) = some (strip r_slices_Compact_string_string) := by kernel_rfl
theorem t_slices_Compact_string_string (k : Nat) (D : CallF) : curF [(0, .l)] (fun args h => denF (C_slices_Compact_string_string k D) k r_slices_Compact_string_string [(2, .l)] [none] args h) = slices_Compact_string_string k D := by kernel_rfl
theorem ok_slices_Compact_string_string {D : CallF} (hD : CSound Try.prog 0 D) (k : Nat) : EntOk Try.prog 0 (e_slices_Compact_string_string k D) :=
 entOf_ok2 (mkC_sound hD (EntsOk.none)) Try.func85 rfl q_slices_Compact_string_string rfl (t_slices_Compact_string_string k D)
end Gc
namespace Gc
open Go Gx Go.Proofs
set_option maxRecDepth 100000
noncomputable def C_lookup_Table_Packs (k : Nat) (D : CallF) : CallF := mkC D [e_slices_Sort_string_string k D, e_slices_Compact_string_string k D, e_lookup_Table_All k D]
noncomputable def lookup_Table_Packs_l0b (_k : Nat) (_D : CallF) (j3 : Slc → AHeap → Option ((Slc) × AHeap)) (rec12 : Slc → Slc → Int → Int → AHeap → Option ((Slc) × AHeap)) (out7 : Slc) (y8 : Slc) (y9 : Int) (y10 : Int) (h11 : AHeap) : Option ((Slc) × AHeap) :=
 (if (decide (y10 < y9)) = true then
 (Gx.idxL 6 y8 y10).bind fun q13 =>
 (ldA 6 q13 h11).bind fun l14 =>
 (decC [.s, .s, .i .i64, .i .i64, .i .i64, .i .i64] l14).bind fun x15 =>
 newK h11 ((.cells [.string ⟨#[]⟩, .string ⟨#[]⟩, .int .i64 0, .int .i64 0, .int .i64 0, .int .i64 0] 57 true 0)) fun h16 =>
 (stL 6 (⟨h11.next, 0, none⟩ : Addr) ([.string x15.1, .string x15.2.1, .int .i64 x15.2.2.1, .int .i64 x15.2.2.2.1, .int .i64 x15.2.2.2.2.1, .int .i64 x15.2.2.2.2.2]) h16).bind fun h17 =>
 (ldS (⟨h11.next, 1, none⟩ : Addr) h17).bind fun x18 =>
 newK h17 ((.cells [.string x18] 9 true 0)) fun h19 =>
 (rdS 1 (⟨(some ⟨h17.next, 0, some 0⟩), 1, 1⟩ : Slc) h19).bind fun n21 =>
 (appendA 1 16 9 h19 out7 n21 1).bind fun r20 =>
 rec12 r20.1 y8 y9 (IntKind.wrap .i64 (y10 + 1)) r20.2
 else
 j3 out7 h11)
noncomputable def lookup_Table_Packs_l0 (k : Nat) (D : CallF) (j3 : Slc → AHeap → Option ((Slc) × AHeap)) : Slc → Slc → Int → Int → AHeap → Option ((Slc) × AHeap) :=
 iterK (α := Slc → Slc → Int → Int → AHeap → Option ((Slc) × AHeap)) (fun _ _ _ _ _ => none) k (lookup_Table_Packs_l0b k D j3)
noncomputable def lookup_Table_Packs (k : Nat) (D : CallF) (t_0 : Option Addr) (h : AHeap) : Option ((Slc) × AHeap) :=
 joinK (fun (out1 : Slc) (h2 : AHeap) =>
 (sortS out1 h2).bind fun h4 =>
 (slices_Compact_string_string k D out1 h4).bind fun r5 =>
 some (r5.1, r5.2)) fun j3 =>
 (lookup_Table_All k D t_0 h).bind fun r6 =>
 lookup_Table_Packs_l0 k D j3 (⟨none, 0, 0⟩ : Slc) r6.1 (r6.1.len : Int) 0 r6.2
noncomputable def r_lookup_Table_Packs : RCode := an (.s .n (.s .n (.s (.j [(3, .l)] (.s .n (.b (.l [(3, .l), (7, .l), (8, .i .i64), (9, .i .i64)] (.s .n (.s .n (.s (.b (.s (.r [(1, .st [.s, .s, .i .i64, .i .i64, .i .i64, .i .i64])]) .n)) .n))))))) .n))) (rOf Try.prog 0 Try.f40)
noncomputable def e_lookup_Table_Packs (k : Nat) (D : CallF) : Ent := entOf 40 [(0, .p)] [(2, .l)] (lookup_Table_Packs k D)
theorem q_lookup_Table_Packs : (Try.f40.body).bind (rcodeOf Try.prog 0 Try.f40.ntmps) = some (strip r_lookup_Table_Packs) := by kernel_rfl
theorem t_lookup_Table_Packs (k : Nat) (D : CallF) : curF [(0, .p)] (fun args h => denF (C_lookup_Table_Packs k D) k r_lookup_Table_Packs [(2, .l)] [none] args h) = lookup_Table_Packs k D := by kernel_rfl
theorem ok_lookup_Table_Packs {D : CallF} (hD : CSound Try.prog 0 D) (k : Nat) : EntOk Try.prog 0 (e_lookup_Table_Packs k D) :=
 entOf_ok2 (mkC_sound hD (EntsOk.more (ok_slices_Sort_string_string hD k) (EntsOk.more (ok_slices_Compact_string_string hD k) (EntsOk.more (ok_lookup_Table_All hD k) (EntsOk.none))))) Try.func40 rfl q_lookup_Table_Packs rfl (t_lookup_Table_Packs k D)
end Gc
namespace Gc
open Go Gx Go.Proofs
set_option maxRecDepth 100000
noncomputable def C_slices_Clone_api_Item_api_Item (_k : Nat) (D : CallF) : CallF := mkC D []
noncomputable def slices_Clone_api_Item_api_Item (_k : Nat) (_D : CallF) (s_0 : Slc) (h : AHeap) : Option ((Slc) × AHeap) :=
 (if s_0.a.isNone = true then
 some ((⟨none, 0, 0⟩ : Slc), h)
 else
 newK h ((.cells [] 57 true 0)) fun h1 =>
 (rdS 6 s_0 h1).bind fun n3 =>
 (appendA 6 64 57 h1 (⟨(some ⟨h.next, 0, some 0⟩), 0, 0⟩ : Slc) n3 s_0.len).bind fun r2 =>
 some (r2.1, r2.2))
noncomputable def r_slices_Clone_api_Item_api_Item : RCode := an (.n) (rOf Try.prog 0 Try.f89)
noncomputable def e_slices_Clone_api_Item_api_Item (k : Nat) (D : CallF) : Ent := entOf 89 [(0, .l)] [(2, .l)] (slices_Clone_api_Item_api_Item k D)
theorem q_slices_Clone_api_Item_api_Item : (Try.f89.body).bind (rcodeOf Try.prog 0 Try.f89.ntmps) = some (strip r_slices_Clone_api_Item_api_Item) := by kernel_rfl
theorem t_slices_Clone_api_Item_api_Item (k : Nat) (D : CallF) : curF [(0, .l)] (fun args h => denF (C_slices_Clone_api_Item_api_Item k D) k r_slices_Clone_api_Item_api_Item [(2, .l)] [none] args h) = slices_Clone_api_Item_api_Item k D := by kernel_rfl
theorem ok_slices_Clone_api_Item_api_Item {D : CallF} (hD : CSound Try.prog 0 D) (k : Nat) : EntOk Try.prog 0 (e_slices_Clone_api_Item_api_Item k D) :=
 entOf_ok2 (mkC_sound hD (EntsOk.none)) Try.func89 rfl q_slices_Clone_api_Item_api_Item rfl (t_slices_Clone_api_Item_api_Item k D)
end Gc
namespace Gc
open Go Gx Go.Proofs
set_option maxRecDepth 100000
noncomputable def C_lookup_Table_Fork (k : Nat) (D : CallF) : CallF := mkC D [e_lookup_New k D, e_slices_Clone_api_Item_api_Item k D]
noncomputable def lookup_Table_Fork_l0b (k : Nat) (D : CallF) (j4 : (Option Addr) → AHeap → Option (((Option Addr)) × AHeap)) (rec11 : (Option Addr) → (List Value) → Int → AHeap → Option (((Option Addr)) × AHeap)) (out7 : Option Addr) (y8 : List Value) (y9 : Int) (h10 : AHeap) : Option (((Option Addr)) × AHeap) :=
 (if (decide (y9 < 256)) = true then
 (if 0 ≤ y9 ∧ y9 < ((256 : Nat) : Int) then
 (y8[(y9).toNat * 1]?).bind fun v12 =>
 (decL v12).bind fun x13 =>
 (slices_Clone_api_Item_api_Item k D x13 h10).bind fun r14 =>
 (out7).bind fun p15 =>
 (Gx.idxA 256 1 (⟨p15.block, p15.off + 0, none⟩ : Addr) y9).bind fun q16 =>
 (st1 q16 (.slice r14.1.a r14.1.len r14.1.cap) r14.2).bind fun h17 =>
 (decA 256 (.agg ⟨y8⟩)).bind fun l18 =>
 rec11 out7 l18 (IntKind.wrap .i64 (y9 + 1)) h17
 else none)
 else
 j4 out7 h10)
noncomputable def lookup_Table_Fork_l0 (k : Nat) (D : CallF) (j4 : (Option Addr) → AHeap → Option (((Option Addr)) × AHeap)) : (Option Addr) → (List Value) → Int → AHeap → Option (((Option Addr)) × AHeap) :=
 iterK (α := (Option Addr) → (List Value) → Int → AHeap → Option (((Option Addr)) × AHeap)) (fun _ _ _ _ => none) k (lookup_Table_Fork_l0b k D j4)
noncomputable def lookup_Table_Fork (k : Nat) (D : CallF) (t_0 : Option Addr) (h : AHeap) : Option (((Option Addr)) × AHeap) :=
 (lookup_New k D h).bind fun r1 =>
 joinK (fun (out2 : Option Addr) (h3 : AHeap) =>
 some (out2, h3)) fun j4 =>
 (t_0).bind fun p5 =>
 (ldA 256 (⟨p5.block, p5.off + 0, none⟩ : Addr) r1.2).bind fun l6 =>
 (decA 256 (.agg ⟨l6⟩)).bind fun l19 =>
 lookup_Table_Fork_l0 k D j4 r1.1 l19 0 r1.2
noncomputable def r_lookup_Table_Fork : RCode := an (.s .n (.s .n (.s (.j [(3, .p)] (.s .n (.b (.l [(3, .p), (10, .agg 256), (11, .i .i64)] .n)))) .n))) (rOf Try.prog 0 Try.f45)
noncomputable def e_lookup_Table_Fork (k : Nat) (D : CallF) : Ent := entOf 45 [(0, .p)] [(2, .p)] (lookup_Table_Fork k D)
theorem q_lookup_Table_Fork : (Try.f45.body).bind (rcodeOf Try.prog 0 Try.f45.ntmps) = some (strip r_lookup_Table_Fork) := by kernel_rfl
theorem t_lookup_Table_Fork (k : Nat) (D : CallF) : curF [(0, .p)] (fun args h => denF (C_lookup_Table_Fork k D) k r_lookup_Table_Fork [(2, .p)] [none] args h) = lookup_Table_Fork k D := by kernel_rfl
theorem ok_lookup_Table_Fork {D : CallF} (hD : CSound Try.prog 0 D) (k : Nat) : EntOk Try.prog 0 (e_lookup_Table_Fork k D) :=
 entOf_ok2 (mkC_sound hD (EntsOk.more (ok_lookup_New hD k) (EntsOk.more (ok_slices_Clone_api_Item_api_Item hD k) (EntsOk.none)))) Try.func45 rfl q_lookup_Table_Fork rfl (t_lookup_Table_Fork k D)
end Gc
namespace Gc
open Go Gx Go.Proofs
set_option maxRecDepth 100000
noncomputable def C_ref15_Table_put (k : Nat) (D : CallF) : CallF := mkC D [e_ref15_Less k D]
noncomputable def ref15_Table_put_l0b (k : Nat) (D : CallF) (j6 : (Option Addr) → (Option Addr) → Int → AHeap → Option ((Unit) × AHeap)) (rec46 : (Option Addr) → (Option Addr) → Int → AHeap → Option ((Unit) × AHeap)) (t42 : Option Addr) (x43 : Option Addr) (i44 : Int) (h45 : AHeap) : Option ((Unit) × AHeap) :=
 joinK (fun (t47 : Option Addr) (x48 : Option Addr) (i49 : Int) (y50 : Bool) (h51 : AHeap) =>
 (if y50 = true then
 rec46 t47 x48 (IntKind.wrap .i64 (i49 + 1)) h51
 else
 j6 t47 x48 i49 h51)) fun j52 =>
 (t42).bind fun p53 =>
 (ldL (⟨p53.block, p53.off + 0, none⟩ : Addr) h45).bind fun x54 =>
 (if (decide (i44 < (x54.len : Int))) = true then
 (t42).bind fun p55 =>
 (ldL (⟨p55.block, p55.off + 0, none⟩ : Addr) h45).bind fun x56 =>
 (Gx.idxL 6 x56 i44).bind fun q57 =>
 (ldA 6 q57 h45).bind fun l58 =>
 (decC [.s, .s, .i .i64, .i .i64, .i .i64, .i .i64] l58).bind fun x59 =>
 (x43).bind fun p60 =>
 (ldA 6 p60 h45).bind fun l61 =>
 (decC [.s, .s, .i .i64, .i .i64, .i .i64, .i .i64] l61).bind fun x62 =>
 (ref15_Less k D (x59.1, x59.2.1, x59.2.2.1, x59.2.2.2.1, x59.2.2.2.2.1, x59.2.2.2.2.2) (x62.1, x62.2.1, x62.2.2.1, x62.2.2.2.1, x62.2.2.2.2.1, x62.2.2.2.2.2) h45).bind fun r63 =>
 j52 t42 x43 i44 r63.1 r63.2
 else
 j52 t42 x43 i44 false h45)
noncomputable def ref15_Table_put_l0 (k : Nat) (D : CallF) (j6 : (Option Addr) → (Option Addr) → Int → AHeap → Option ((Unit) × AHeap)) : (Option Addr) → (Option Addr) → Int → AHeap → Option ((Unit) × AHeap) :=
 iterK (α := (Option Addr) → (Option Addr) → Int → AHeap → Option ((Unit) × AHeap)) (fun _ _ _ _ => none) k (ref15_Table_put_l0b k D j6)
noncomputable def ref15_Table_put (k : Nat) (D : CallF) (t_0 : Option Addr) (x_1 : ByteArray × ByteArray × Int × Int × Int × Int) (h : AHeap) : Option ((Unit) × AHeap) :=
 newK h ((.cells [.string x_1.1, .string x_1.2.1, .int .i64 x_1.2.2.1, .int .i64 x_1.2.2.2.1, .int .i64 x_1.2.2.2.2.1, .int .i64 x_1.2.2.2.2.2] 57 true 0)) fun h1 =>
 joinK (fun (t2 : Option Addr) (x3 : Option Addr) (i4 : Int) (h5 : AHeap) =>
 joinK (fun (t7 : Option Addr) (x8 : Option Addr) (i9 : Int) (y10 : Bool) (h11 : AHeap) =>
 (if y10 = true then
 some ((), h11)
 else
 (t7).bind fun p13 =>
 (ldL (⟨p13.block, p13.off + 0, none⟩ : Addr) h11).bind fun x14 =>
 (Gx.subL 6 x14 none (some i9) none).bind fun l15 =>
 (rdS 6 l15 h11).bind fun n17 =>
 (appendA 6 64 57 h11 (⟨none, 0, 0⟩ : Slc) n17 l15.len).bind fun r16 =>
 (x8).bind fun p18 =>
 (ldA 6 p18 r16.2).bind fun l19 =>
 (decC [.s, .s, .i .i64, .i .i64, .i .i64, .i .i64] l19).bind fun x20 =>
 newK r16.2 ((.cells [.string x20.1, .string x20.2.1, .int .i64 x20.2.2.1, .int .i64 x20.2.2.2.1, .int .i64 x20.2.2.2.2.1, .int .i64 x20.2.2.2.2.2] 57 true 0)) fun h21 =>
 (rdS 6 (⟨(some ⟨r16.2.next, 0, some 0⟩), 1, 1⟩ : Slc) h21).bind fun n23 =>
 (appendA 6 64 57 h21 r16.1 n23 1).bind fun r22 =>
 (t7).bind fun p24 =>
 (ldL (⟨p24.block, p24.off + 0, none⟩ : Addr) r22.2).bind fun x25 =>
 (Gx.subL 6 x25 (some i9) none none).bind fun l26 =>
 (rdS 6 l26 r22.2).bind fun n28 =>
 (appendA 6 64 57 r22.2 r22.1 n28 l26.len).bind fun r27 =>
 (t7).bind fun p29 =>
 (st1 (⟨p29.block, p29.off + 0, none⟩ : Addr) (.slice r27.1.a r27.1.len r27.1.cap) r27.2).bind fun h30 =>
 some ((), h30))) fun j12 =>
 (t2).bind fun p31 =>
 (ldL (⟨p31.block, p31.off + 0, none⟩ : Addr) h5).bind fun x32 =>
 (if (decide (i4 < (x32.len : Int))) = true then
 (t2).bind fun p33 =>
 (ldL (⟨p33.block, p33.off + 0, none⟩ : Addr) h5).bind fun x34 =>
 (Gx.idxL 6 x34 i4).bind fun q35 =>
 (ldA 6 q35 h5).bind fun l36 =>
 (decC [.s, .s, .i .i64, .i .i64, .i .i64, .i .i64] l36).bind fun x37 =>
 (x3).bind fun p38 =>
 (ldA 6 p38 h5).bind fun l39 =>
 (decC [.s, .s, .i .i64, .i .i64, .i .i64, .i .i64] l39).bind fun x40 =>
 let c41 : Bool := ((x37.1 == x40.1) && ((x37.2.1 == x40.2.1) && ((x37.2.2.1 == x40.2.2.1) && ((x37.2.2.2.1 == x40.2.2.2.1) && ((x37.2.2.2.2.1 == x40.2.2.2.2.1) && (x37.2.2.2.2.2 == x40.2.2.2.2.2))))))
 j12 t2 x3 i4 c41 h5
 else
 j12 t2 x3 i4 false h5)) fun j6 =>
 ref15_Table_put_l0 k D j6 t_0 (some (⟨h.next, 0, none⟩ : Addr)) 0 h1
noncomputable def r_ref15_Table_put : RCode := an (.s .n (.s .n (.s (.j [(0, .p), (3, .p), (4, .i .i64)] (.b (.l [(0, .p), (3, .p), (4, .i .i64)] (.s (.s (.j [(0, .p), (3, .p), (4, .i .i64), (23, .b)] (.r [(14, .st [.s, .s, .i .i64, .i .i64, .i .i64, .i .i64]), (15, .st [.s, .s, .i .i64, .i .i64, .i .i64, .i .i64])])) .n) .n)))) (.s (.s (.j [(0, .p), (3, .p), (4, .i .i64), (43, .b)] (.r [(14, .st [.s, .s, .i .i64, .i .i64, .i .i64, .i .i64]), (15, .st [.s, .s, .i .i64, .i .i64, .i .i64, .i .i64])])) .n) (.s .n (.s .n (.s (.r [(1, .st [.s, .s, .i .i64, .i .i64, .i .i64, .i .i64])]) .n))))))) (rOf Try.prog 0 Try.f88)
noncomputable def e_ref15_Table_put (k : Nat) (D : CallF) : Ent := entOf 88 [(0, .p), (1, .st [.s, .s, .i .i64, .i .i64, .i .i64, .i .i64])] [] (ref15_Table_put k D)
theorem q_ref15_Table_put : (Try.f88.body).bind (rcodeOf Try.prog 0 Try.f88.ntmps) = some (strip r_ref15_Table_put) := by kernel_rfl
theorem t_ref15_Table_put (k : Nat) (D : CallF) : curF [(0, .p), (1, .st [.s, .s, .i .i64, .i .i64, .i .i64, .i .i64])] (fun args h => denF (C_ref15_Table_put k D) k r_ref15_Table_put [] [] args h) = ref15_Table_put k D := by kernel_rfl
theorem ok_ref15_Table_put {D : CallF} (hD : CSound Try.prog 0 D) (k : Nat) : EntOk Try.prog 0 (e_ref15_Table_put k D) :=
 entOf_ok2 (mkC_sound hD (EntsOk.more (ok_ref15_Less hD k) (EntsOk.none))) Try.func88 rfl q_ref15_Table_put rfl (t_ref15_Table_put k D)
end Gc
namespace Gc
open Go Gx Go.Proofs
set_option maxRecDepth 100000
noncomputable def C_ref15_Table_Add (k : Nat) (D : CallF) : CallF := mkC D [e_ref15_Table_put k D, e_ref15_Check k D]
noncomputable def ref15_Table_Add_l1b (k : Nat) (D : CallF) (j4 : (Option Addr) → Slc → AHeap → Option ((Int) × AHeap)) (rec20 : (Option Addr) → Slc → Int → AHeap → Option ((Int) × AHeap)) (t16 : Option Addr) (l17 : Slc) (i18 : Int) (h19 : AHeap) : Option ((Int) × AHeap) :=
 (if (decide (i18 < (l17.len : Int))) = true then
 (Gx.idxL 6 l17 i18).bind fun q21 =>
 (ldA 6 q21 h19).bind fun l22 =>
 (decC [.s, .s, .i .i64, .i .i64, .i .i64, .i .i64] l22).bind fun x23 =>
 (ref15_Check k D (x23.1, x23.2.1, x23.2.2.1, x23.2.2.2.1, x23.2.2.2.2.1, x23.2.2.2.2.2) h19).bind fun r24 =>
 (if (r24.1 != 0) = true then
 some (r24.1, r24.2)
 else
 rec20 t16 l17 (IntKind.wrap .i64 (i18 + 1)) r24.2)
 else
 j4 t16 l17 h19)
noncomputable def ref15_Table_Add_l1 (k : Nat) (D : CallF) (j4 : (Option Addr) → Slc → AHeap → Option ((Int) × AHeap)) : (Option Addr) → Slc → Int → AHeap → Option ((Int) × AHeap) :=
 iterK (α := (Option Addr) → Slc → Int → AHeap → Option ((Int) × AHeap)) (fun _ _ _ _ => none) k (ref15_Table_Add_l1b k D j4)
noncomputable def ref15_Table_Add_l0b (k : Nat) (D : CallF) (j6 : AHeap → Option ((Int) × AHeap)) (rec11 : (Option Addr) → Slc → Int → AHeap → Option ((Int) × AHeap)) (t7 : Option Addr) (l8 : Slc) (i9 : Int) (h10 : AHeap) : Option ((Int) × AHeap) :=
 (if (decide (i9 < (l8.len : Int))) = true then
 (Gx.idxL 6 l8 i9).bind fun q12 =>
 (ldA 6 q12 h10).bind fun l13 =>
 (decC [.s, .s, .i .i64, .i .i64, .i .i64, .i .i64] l13).bind fun x14 =>
 (ref15_Table_put k D t7 (x14.1, x14.2.1, x14.2.2.1, x14.2.2.2.1, x14.2.2.2.2.1, x14.2.2.2.2.2) h10).bind fun r15 =>
 rec11 t7 l8 (IntKind.wrap .i64 (i9 + 1)) r15.2
 else
 j6 h10)
noncomputable def ref15_Table_Add_l0 (k : Nat) (D : CallF) (j6 : AHeap → Option ((Int) × AHeap)) : (Option Addr) → Slc → Int → AHeap → Option ((Int) × AHeap) :=
 iterK (α := (Option Addr) → Slc → Int → AHeap → Option ((Int) × AHeap)) (fun _ _ _ _ => none) k (ref15_Table_Add_l0b k D j6)
noncomputable def ref15_Table_Add (k : Nat) (D : CallF) (t_0 : Option Addr) (l_1 : Slc) (h : AHeap) : Option ((Int) × AHeap) :=
 joinK (fun (t1 : Option Addr) (l2 : Slc) (h3 : AHeap) =>
 joinK (fun (h5 : AHeap) =>
 some (0, h5)) fun j6 =>
 ref15_Table_Add_l0 k D j6 t1 l2 0 h3) fun j4 =>
 ref15_Table_Add_l1 k D j4 t_0 l_1 0 h
noncomputable def r_ref15_Table_Add : RCode := an (.s .n (.s (.j [(0, .p), (1, .l)] (.s .n (.b (.l [(0, .p), (1, .l), (5, .i .i64)] (.s .n (.s (.b (.s (.r [(3, .st [.s, .s, .i .i64, .i .i64, .i .i64, .i .i64])]) .n)) .n)))))) (.s (.j [] (.s .n (.b (.l [(0, .p), (1, .l), (7, .i .i64)] (.s .n (.s (.b (.r [(4, .st [.s, .s, .i .i64, .i .i64, .i .i64, .i .i64])])) .n)))))) .n))) (rOf Try.prog 0 Try.f43)
noncomputable def e_ref15_Table_Add (k : Nat) (D : CallF) : Ent := entOf 43 [(0, .p), (1, .l)] [(4, .i .i64)] (ref15_Table_Add k D)
theorem q_ref15_Table_Add : (Try.f43.body).bind (rcodeOf Try.prog 0 Try.f43.ntmps) = some (strip r_ref15_Table_Add) := by kernel_rfl
theorem t_ref15_Table_Add (k : Nat) (D : CallF) : curF [(0, .p), (1, .l)] (fun args h => denF (C_ref15_Table_Add k D) k r_ref15_Table_Add [(4, .i .i64)] [none] args h) = ref15_Table_Add k D := by kernel_rfl
theorem ok_ref15_Table_Add {D : CallF} (hD : CSound Try.prog 0 D) (k : Nat) : EntOk Try.prog 0 (e_ref15_Table_Add k D) :=
 entOf_ok2 (mkC_sound hD (EntsOk.more (ok_ref15_Table_put hD k) (EntsOk.more (ok_ref15_Check hD k) (EntsOk.none)))) Try.func43 rfl q_ref15_Table_Add rfl (t_ref15_Table_Add k D)
end Gc
namespace Gc
open Go Gx Go.Proofs
set_option maxRecDepth 100000
noncomputable def C_ref15_Table_Drop (_k : Nat) (D : CallF) : CallF := mkC D []
noncomputable def ref15_Table_Drop_l0b (_k : Nat) (_D : CallF) (j4 : (Option Addr) → Slc → AHeap → Option ((Int) × AHeap)) (rec14 : (Option Addr) → ByteArray → Slc → Int → AHeap → Option ((Int) × AHeap)) (t9 : Option Addr) (pack10 : ByteArray) (l11 : Slc) (i12 : Int) (h13 : AHeap) : Option ((Int) × AHeap) :=
 (t9).bind fun p15 =>
 (ldL (⟨p15.block, p15.off + 0, none⟩ : Addr) h13).bind fun x16 =>
 (if (decide (i12 < (x16.len : Int))) = true then
 joinK (fun (t17 : Option Addr) (pack18 : ByteArray) (l19 : Slc) (i20 : Int) (h21 : AHeap) =>
 rec14 t17 pack18 l19 (IntKind.wrap .i64 (i20 + 1)) h21) fun j22 =>
 (t9).bind fun p23 =>
 (ldL (⟨p23.block, p23.off + 0, none⟩ : Addr) h13).bind fun x24 =>
 (Gx.idxL 6 x24 i12).bind fun q25 =>
 (ldS (⟨q25.block, q25.off + 1 + 0, none⟩ : Addr) h13).bind fun x26 =>
 (if (!(x26 == pack10)) = true then
 (t9).bind fun p27 =>
 (ldL (⟨p27.block, p27.off + 0, none⟩ : Addr) h13).bind fun x28 =>
 (Gx.idxL 6 x28 i12).bind fun q29 =>
 (ldA 6 q29 h13).bind fun l30 =>
 (decC [.s, .s, .i .i64, .i .i64, .i .i64, .i .i64] l30).bind fun x31 =>
 newK h13 ((.cells [.string x31.1, .string x31.2.1, .int .i64 x31.2.2.1, .int .i64 x31.2.2.2.1, .int .i64 x31.2.2.2.2.1, .int .i64 x31.2.2.2.2.2] 57 true 0)) fun h32 =>
 (rdS 6 (⟨(some ⟨h13.next, 0, some 0⟩), 1, 1⟩ : Slc) h32).bind fun n34 =>
 (appendA 6 64 57 h32 l11 n34 1).bind fun r33 =>
 j22 t9 pack10 r33.1 i12 r33.2
 else
 j22 t9 pack10 l11 i12 h13)
 else
 j4 t9 l11 h13)
noncomputable def ref15_Table_Drop_l0 (k : Nat) (D : CallF) (j4 : (Option Addr) → Slc → AHeap → Option ((Int) × AHeap)) : (Option Addr) → ByteArray → Slc → Int → AHeap → Option ((Int) × AHeap) :=
 iterK (α := (Option Addr) → ByteArray → Slc → Int → AHeap → Option ((Int) × AHeap)) (fun _ _ _ _ _ => none) k (ref15_Table_Drop_l0b k D j4)
noncomputable def ref15_Table_Drop (k : Nat) (D : CallF) (t_0 : Option Addr) (pack_1 : ByteArray) (h : AHeap) : Option ((Int) × AHeap) :=
 joinK (fun (t1 : Option Addr) (l2 : Slc) (h3 : AHeap) =>
 (t1).bind fun p5 =>
 (ldL (⟨p5.block, p5.off + 0, none⟩ : Addr) h3).bind fun x6 =>
 (t1).bind fun p7 =>
 (st1 (⟨p7.block, p7.off + 0, none⟩ : Addr) (.slice l2.a l2.len l2.cap) h3).bind fun h8 =>
 some ((IntKind.wrap .i64 ((x6.len : Int) - (l2.len : Int))), h8)) fun j4 =>
 ref15_Table_Drop_l0 k D j4 t_0 pack_1 (⟨none, 0, 0⟩ : Slc) 0 h
noncomputable def r_ref15_Table_Drop : RCode := an (.s .n (.s .n (.s (.j [(0, .p), (5, .l)] (.s .n (.b (.l [(0, .p), (1, .s), (5, .l), (6, .i .i64)] (.s .n (.s (.j [(0, .p), (1, .s), (5, .l), (6, .i .i64)] (.b (.s .n (.s (.r [(7, .st [.s, .s, .i .i64, .i .i64, .i .i64, .i .i64])]) .n)))) .n)))))) .n))) (rOf Try.prog 0 Try.f44)
noncomputable def e_ref15_Table_Drop (k : Nat) (D : CallF) : Ent := entOf 44 [(0, .p), (1, .s)] [(4, .i .i64)] (ref15_Table_Drop k D)
theorem q_ref15_Table_Drop : (Try.f44.body).bind (rcodeOf Try.prog 0 Try.f44.ntmps) = some (strip r_ref15_Table_Drop) := by kernel_rfl
theorem t_ref15_Table_Drop (k : Nat) (D : CallF) : curF [(0, .p), (1, .s)] (fun args h => denF (C_ref15_Table_Drop k D) k r_ref15_Table_Drop [(4, .i .i64)] [none] args h) = ref15_Table_Drop k D := by kernel_rfl
theorem ok_ref15_Table_Drop {D : CallF} (hD : CSound Try.prog 0 D) (k : Nat) : EntOk Try.prog 0 (e_ref15_Table_Drop k D) :=
 entOf_ok2 (mkC_sound hD (EntsOk.none)) Try.func44 rfl q_ref15_Table_Drop rfl (t_ref15_Table_Drop k D)
end Gc
namespace Gc
open Go Gx Go.Proofs
set_option maxRecDepth 100000
noncomputable def C_ref15_Table_Places (_k : Nat) (D : CallF) : CallF := mkC D []
noncomputable def ref15_Table_Places_l0b (_k : Nat) (_D : CallF) (j3 : Slc → AHeap → Option ((Slc) × AHeap)) (rec9 : (Option Addr) → ByteArray → Slc → Int → AHeap → Option ((Slc) × AHeap)) (t4 : Option Addr) (id5 : ByteArray) (out6 : Slc) (i7 : Int) (h8 : AHeap) : Option ((Slc) × AHeap) :=
 (t4).bind fun p10 =>
 (ldL (⟨p10.block, p10.off + 0, none⟩ : Addr) h8).bind fun x11 =>
 (if (decide (i7 < (x11.len : Int))) = true then
 joinK (fun (t12 : Option Addr) (id13 : ByteArray) (out14 : Slc) (i15 : Int) (h16 : AHeap) =>
 rec9 t12 id13 out14 (IntKind.wrap .i64 (i15 + 1)) h16) fun j17 =>
 (t4).bind fun p18 =>
 (ldL (⟨p18.block, p18.off + 0, none⟩ : Addr) h8).bind fun x19 =>
 (Gx.idxL 6 x19 i7).bind fun q20 =>
 (ldS (⟨q20.block, q20.off + 0, none⟩ : Addr) h8).bind fun x21 =>
 (if (x21 == id5) = true then
 (t4).bind fun p22 =>
 (ldL (⟨p22.block, p22.off + 0, none⟩ : Addr) h8).bind fun x23 =>
 (Gx.idxL 6 x23 i7).bind fun q24 =>
 (ldA 5 (⟨q24.block, q24.off + 1, none⟩ : Addr) h8).bind fun l25 =>
 (decC [.s, .i .i64, .i .i64, .i .i64, .i .i64] l25).bind fun x26 =>
 newK h8 ((.cells [.string x26.1, .int .i64 x26.2.1, .int .i64 x26.2.2.1, .int .i64 x26.2.2.2.1, .int .i64 x26.2.2.2.2] 55 true 0)) fun h27 =>
 (rdS 5 (⟨(some ⟨h8.next, 0, some 0⟩), 1, 1⟩ : Slc) h27).bind fun n29 =>
 (appendA 5 48 55 h27 out6 n29 1).bind fun r28 =>
 j17 t4 id5 r28.1 i7 r28.2
 else
 j17 t4 id5 out6 i7 h8)
 else
 j3 out6 h8)
noncomputable def ref15_Table_Places_l0 (k : Nat) (D : CallF) (j3 : Slc → AHeap → Option ((Slc) × AHeap)) : (Option Addr) → ByteArray → Slc → Int → AHeap → Option ((Slc) × AHeap) :=
 iterK (α := (Option Addr) → ByteArray → Slc → Int → AHeap → Option ((Slc) × AHeap)) (fun _ _ _ _ _ => none) k (ref15_Table_Places_l0b k D j3)
noncomputable def ref15_Table_Places (k : Nat) (D : CallF) (t_0 : Option Addr) (id_1 : ByteArray) (h : AHeap) : Option ((Slc) × AHeap) :=
 joinK (fun (out1 : Slc) (h2 : AHeap) =>
 some (out1, h2)) fun j3 =>
 ref15_Table_Places_l0 k D j3 t_0 id_1 (⟨none, 0, 0⟩ : Slc) 0 h
noncomputable def r_ref15_Table_Places : RCode := an (.s .n (.s .n (.s (.j [(5, .l)] (.s .n (.b (.l [(0, .p), (1, .s), (5, .l), (6, .i .i64)] (.s .n (.s (.j [(0, .p), (1, .s), (5, .l), (6, .i .i64)] (.b (.s .n (.s (.r [(8, .st [.s, .i .i64, .i .i64, .i .i64, .i .i64])]) .n)))) .n)))))) .n))) (rOf Try.prog 0 Try.f92)
noncomputable def e_ref15_Table_Places (k : Nat) (D : CallF) : Ent := entOf 92 [(0, .p), (1, .s)] [(4, .l)] (ref15_Table_Places k D)
theorem q_ref15_Table_Places : (Try.f92.body).bind (rcodeOf Try.prog 0 Try.f92.ntmps) = some (strip r_ref15_Table_Places) := by kernel_rfl
theorem t_ref15_Table_Places (k : Nat) (D : CallF) : curF [(0, .p), (1, .s)] (fun args h => denF (C_ref15_Table_Places k D) k r_ref15_Table_Places [(4, .l)] [none] args h) = ref15_Table_Places k D := by kernel_rfl
theorem ok_ref15_Table_Places {D : CallF} (hD : CSound Try.prog 0 D) (k : Nat) : EntOk Try.prog 0 (e_ref15_Table_Places k D) :=
 entOf_ok2 (mkC_sound hD (EntsOk.none)) Try.func92 rfl q_ref15_Table_Places rfl (t_ref15_Table_Places k D)
end Gc
namespace Gc
open Go Gx Go.Proofs
set_option maxRecDepth 100000
noncomputable def C_ref15_Table_Get (k : Nat) (D : CallF) : CallF := mkC D [e_ref15_Table_Places k D]
noncomputable def ref15_Table_Get (k : Nat) (D : CallF) (t_0 : Option Addr) (id_1 : ByteArray) (h : AHeap) : Option (((ByteArray × Int × Int × Int × Int) × Bool) × AHeap) :=
 newK h ((.cells [.string ⟨#[]⟩, .int .i64 0, .int .i64 0, .int .i64 0, .int .i64 0] 55 true 0)) fun h1 =>
 (ref15_Table_Places k D t_0 id_1 h1).bind fun r2 =>
 (if ((r2.1.len : Int) == 0) = true then
 (stL 5 (⟨h.next, 0, none⟩ : Addr) ([.string (⟨#[]⟩ : ByteArray), .int .i64 0, .int .i64 0, .int .i64 0, .int .i64 0]) r2.2).bind fun h3 =>
 (ldA 5 (⟨h.next, 0, none⟩ : Addr) h3).bind fun l4 =>
 (decC [.s, .i .i64, .i .i64, .i .i64, .i .i64] l4).bind fun x5 =>
 some (((x5.1, x5.2.1, x5.2.2.1, x5.2.2.2.1, x5.2.2.2.2), false), h3)
 else
 (Gx.idxL 5 r2.1 0).bind fun q6 =>
 (ldA 5 q6 r2.2).bind fun l7 =>
 (decC [.s, .i .i64, .i .i64, .i .i64, .i .i64] l7).bind fun x8 =>
 (stL 5 (⟨h.next, 0, none⟩ : Addr) ([.string x8.1, .int .i64 x8.2.1, .int .i64 x8.2.2.1, .int .i64 x8.2.2.2.1, .int .i64 x8.2.2.2.2]) r2.2).bind fun h9 =>
 (ldA 5 (⟨h.next, 0, none⟩ : Addr) h9).bind fun l10 =>
 (decC [.s, .i .i64, .i .i64, .i .i64, .i .i64] l10).bind fun x11 =>
 some (((x11.1, x11.2.1, x11.2.2.1, x11.2.2.2.1, x11.2.2.2.2), true), h9))
noncomputable def r_ref15_Table_Get : RCode := an (.s .n (.s .n (.s .n (.s (.r [(2, .st [.s, .i .i64, .i .i64, .i .i64, .i .i64])]) .n)))) (rOf Try.prog 0 Try.f90)
noncomputable def e_ref15_Table_Get (k : Nat) (D : CallF) : Ent := entOf 90 [(0, .p), (1, .s)] [(4, .st [.s, .i .i64, .i .i64, .i .i64, .i .i64]), (5, .b)] (ref15_Table_Get k D)
theorem q_ref15_Table_Get : (Try.f90.body).bind (rcodeOf Try.prog 0 Try.f90.ntmps) = some (strip r_ref15_Table_Get) := by kernel_rfl
theorem t_ref15_Table_Get (k : Nat) (D : CallF) : curF [(0, .p), (1, .s)] (fun args h => denF (C_ref15_Table_Get k D) k r_ref15_Table_Get [(4, .st [.s, .i .i64, .i .i64, .i .i64, .i .i64]), (5, .b)] [some (.agg 5), none] args h) = ref15_Table_Get k D := by kernel_rfl
theorem ok_ref15_Table_Get {D : CallF} (hD : CSound Try.prog 0 D) (k : Nat) : EntOk Try.prog 0 (e_ref15_Table_Get k D) :=
 entOf_ok2 (mkC_sound hD (EntsOk.more (ok_ref15_Table_Places hD k) (EntsOk.none))) Try.func90 rfl q_ref15_Table_Get rfl (t_ref15_Table_Get k D)
end Gc
namespace Gc
open Go Gx Go.Proofs
set_option maxRecDepth 100000
noncomputable def C_ref15_Table_Ids (_k : Nat) (D : CallF) : CallF := mkC D []
noncomputable def ref15_Table_Ids_l0b (_k : Nat) (_D : CallF) (j3 : Slc → AHeap → Option ((Slc) × AHeap)) (rec8 : (Option Addr) → Slc → Int → AHeap → Option ((Slc) × AHeap)) (t4 : Option Addr) (out5 : Slc) (i6 : Int) (h7 : AHeap) : Option ((Slc) × AHeap) :=
 (t4).bind fun p9 =>
 (ldL (⟨p9.block, p9.off + 0, none⟩ : Addr) h7).bind fun x10 =>
 (if (decide (i6 < (x10.len : Int))) = true then
 joinK (fun (t11 : Option Addr) (out12 : Slc) (i13 : Int) (h14 : AHeap) =>
 rec8 t11 out12 (IntKind.wrap .i64 (i13 + 1)) h14) fun j15 =>
 joinK (fun (t16 : Option Addr) (out17 : Slc) (i18 : Int) (y19 : Bool) (h20 : AHeap) =>
 (if y19 = true then
 (t16).bind fun p22 =>
 (ldL (⟨p22.block, p22.off + 0, none⟩ : Addr) h20).bind fun x23 =>
 (Gx.idxL 6 x23 i18).bind fun q24 =>
 (ldS (⟨q24.block, q24.off + 0, none⟩ : Addr) h20).bind fun x25 =>
 newK h20 ((.cells [.string x25] 9 true 0)) fun h26 =>
 (rdS 1 (⟨(some ⟨h20.next, 0, some 0⟩), 1, 1⟩ : Slc) h26).bind fun n28 =>
 (appendA 1 16 9 h26 out17 n28 1).bind fun r27 =>
 j15 t16 r27.1 i18 r27.2
 else
 j15 t16 out17 i18 h20)) fun j21 =>
 (if (i6 == 0) = true then
 j21 t4 out5 i6 true h7
 else
 (t4).bind fun p29 =>
 (ldL (⟨p29.block, p29.off + 0, none⟩ : Addr) h7).bind fun x30 =>
 (Gx.idxL 6 x30 i6).bind fun q31 =>
 (ldS (⟨q31.block, q31.off + 0, none⟩ : Addr) h7).bind fun x32 =>
 (t4).bind fun p33 =>
 (ldL (⟨p33.block, p33.off + 0, none⟩ : Addr) h7).bind fun x34 =>
 (Gx.idxL 6 x34 (IntKind.wrap .i64 (i6 - 1))).bind fun q35 =>
 (ldS (⟨q35.block, q35.off + 0, none⟩ : Addr) h7).bind fun x36 =>
 j21 t4 out5 i6 (!(x32 == x36)) h7)
 else
 j3 out5 h7)
noncomputable def ref15_Table_Ids_l0 (k : Nat) (D : CallF) (j3 : Slc → AHeap → Option ((Slc) × AHeap)) : (Option Addr) → Slc → Int → AHeap → Option ((Slc) × AHeap) :=
 iterK (α := (Option Addr) → Slc → Int → AHeap → Option ((Slc) × AHeap)) (fun _ _ _ _ => none) k (ref15_Table_Ids_l0b k D j3)
noncomputable def ref15_Table_Ids (k : Nat) (D : CallF) (t_0 : Option Addr) (h : AHeap) : Option ((Slc) × AHeap) :=
 joinK (fun (out1 : Slc) (h2 : AHeap) =>
 some (out1, h2)) fun j3 =>
 ref15_Table_Ids_l0 k D j3 t_0 (⟨none, 0, 0⟩ : Slc) 0 h
noncomputable def r_ref15_Table_Ids : RCode := an (.s .n (.s .n (.s (.j [(3, .l)] (.s .n (.b (.l [(0, .p), (3, .l), (4, .i .i64)] (.s .n (.s (.j [(0, .p), (3, .l), (4, .i .i64)] (.b (.s (.j [(0, .p), (3, .l), (4, .i .i64), (35, .b)] .n) .n))) .n)))))) .n))) (rOf Try.prog 0 Try.f93)
noncomputable def e_ref15_Table_Ids (k : Nat) (D : CallF) : Ent := entOf 93 [(0, .p)] [(2, .l)] (ref15_Table_Ids k D)
theorem q_ref15_Table_Ids : (Try.f93.body).bind (rcodeOf Try.prog 0 Try.f93.ntmps) = some (strip r_ref15_Table_Ids) := by kernel_rfl
theorem t_ref15_Table_Ids (k : Nat) (D : CallF) : curF [(0, .p)] (fun args h => denF (C_ref15_Table_Ids k D) k r_ref15_Table_Ids [(2, .l)] [none] args h) = ref15_Table_Ids k D := by kernel_rfl
theorem ok_ref15_Table_Ids {D : CallF} (hD : CSound Try.prog 0 D) (k : Nat) : EntOk Try.prog 0 (e_ref15_Table_Ids k D) :=
 entOf_ok2 (mkC_sound hD (EntsOk.none)) Try.func93 rfl q_ref15_Table_Ids rfl (t_ref15_Table_Ids k D)
end Gc
namespace Gc
open Go Gx Go.Proofs
set_option maxRecDepth 100000
noncomputable def C_ref15_Table_Packs (_k : Nat) (D : CallF) : CallF := mkC D []
noncomputable def ref15_Table_Packs_l1b (_k : Nat) (_D : CallF) (j26 : (Option Addr) → Slc → Int → ByteArray → Int → AHeap → Option ((Slc) × AHeap)) (rec52 : (Option Addr) → Slc → Int → ByteArray → Int → AHeap → Option ((Slc) × AHeap)) (t46 : Option Addr) (out47 : Slc) (i48 : Int) (p49 : ByteArray) (atv50 : Int) (h51 : AHeap) : Option ((Slc) × AHeap) :=
 joinK (fun (t53 : Option Addr) (out54 : Slc) (i55 : Int) (p56 : ByteArray) (atv57 : Int) (y58 : Bool) (h59 : AHeap) =>
 (if y58 = true then
 rec52 t53 out54 i55 p56 (IntKind.wrap .i64 (atv57 + 1)) h59
 else
 j26 t53 out54 i55 p56 atv57 h59)) fun j60 =>
 (if (decide (atv50 < (out47.len : Int))) = true then
 (Gx.idxL 1 out47 atv50).bind fun q61 =>
 (ldS q61 h51).bind fun x62 =>
 j60 t46 out47 i48 p49 atv50 (Op.bytesLess x62.toList p49.toList) h51
 else
 j60 t46 out47 i48 p49 atv50 false h51)
noncomputable def ref15_Table_Packs_l1 (k : Nat) (D : CallF) (j26 : (Option Addr) → Slc → Int → ByteArray → Int → AHeap → Option ((Slc) × AHeap)) : (Option Addr) → Slc → Int → ByteArray → Int → AHeap → Option ((Slc) × AHeap) :=
 iterK (α := (Option Addr) → Slc → Int → ByteArray → Int → AHeap → Option ((Slc) × AHeap)) (fun _ _ _ _ _ _ => none) k (ref15_Table_Packs_l1b k D j26)
noncomputable def ref15_Table_Packs_l0b (k : Nat) (D : CallF) (j3 : Slc → AHeap → Option ((Slc) × AHeap)) (rec8 : (Option Addr) → Slc → Int → AHeap → Option ((Slc) × AHeap)) (t4 : Option Addr) (out5 : Slc) (i6 : Int) (h7 : AHeap) : Option ((Slc) × AHeap) :=
 (t4).bind fun p9 =>
 (ldL (⟨p9.block, p9.off + 0, none⟩ : Addr) h7).bind fun x10 =>
 (if (decide (i6 < (x10.len : Int))) = true then
 joinK (fun (t11 : Option Addr) (out12 : Slc) (i13 : Int) (h14 : AHeap) =>
 rec8 t11 out12 (IntKind.wrap .i64 (i13 + 1)) h14) fun j15 =>
 (t4).bind fun p16 =>
 (ldL (⟨p16.block, p16.off + 0, none⟩ : Addr) h7).bind fun x17 =>
 (Gx.idxL 6 x17 i6).bind fun q18 =>
 (ldS (⟨q18.block, q18.off + 1 + 0, none⟩ : Addr) h7).bind fun x19 =>
 joinK (fun (t20 : Option Addr) (out21 : Slc) (i22 : Int) (p23 : ByteArray) (atv24 : Int) (h25 : AHeap) =>
 joinK (fun (t27 : Option Addr) (out28 : Slc) (i29 : Int) (p30 : ByteArray) (atv31 : Int) (y32 : Bool) (h33 : AHeap) =>
 (if y32 = true then
 j15 t27 out28 i29 h33
 else
 (Gx.subL 1 out28 none (some atv31) none).bind fun l35 =>
 (rdS 1 l35 h33).bind fun n37 =>
 (appendA 1 16 9 h33 (⟨none, 0, 0⟩ : Slc) n37 l35.len).bind fun r36 =>
 newK r36.2 ((.cells [.string p30] 9 true 0)) fun h38 =>
 (rdS 1 (⟨(some ⟨r36.2.next, 0, some 0⟩), 1, 1⟩ : Slc) h38).bind fun n40 =>
 (appendA 1 16 9 h38 r36.1 n40 1).bind fun r39 =>
 (Gx.subL 1 out28 (some atv31) none none).bind fun l41 =>
 (rdS 1 l41 r39.2).bind fun n43 =>
 (appendA 1 16 9 r39.2 r39.1 n43 l41.len).bind fun r42 =>
 j15 t27 r42.1 i29 r42.2)) fun j34 =>
 (if (decide (atv24 < (out21.len : Int))) = true then
 (Gx.idxL 1 out21 atv24).bind fun q44 =>
 (ldS q44 h25).bind fun x45 =>
 j34 t20 out21 i22 p23 atv24 (x45 == p23) h25
 else
 j34 t20 out21 i22 p23 atv24 false h25)) fun j26 =>
 ref15_Table_Packs_l1 k D j26 t4 out5 i6 x19 0 h7
 else
 j3 out5 h7)
noncomputable def ref15_Table_Packs_l0 (k : Nat) (D : CallF) (j3 : Slc → AHeap → Option ((Slc) × AHeap)) : (Option Addr) → Slc → Int → AHeap → Option ((Slc) × AHeap) :=
 iterK (α := (Option Addr) → Slc → Int → AHeap → Option ((Slc) × AHeap)) (fun _ _ _ _ => none) k (ref15_Table_Packs_l0b k D j3)
noncomputable def ref15_Table_Packs (k : Nat) (D : CallF) (t_0 : Option Addr) (h : AHeap) : Option ((Slc) × AHeap) :=
 joinK (fun (out1 : Slc) (h2 : AHeap) =>
 some (out1, h2)) fun j3 =>
 ref15_Table_Packs_l0 k D j3 t_0 (⟨none, 0, 0⟩ : Slc) 0 h
noncomputable def r_ref15_Table_Packs : RCode := an (.s .n (.s .n (.s (.j [(3, .l)] (.s .n (.b (.l [(0, .p), (3, .l), (4, .i .i64)] (.s .n (.s (.j [(0, .p), (3, .l), (4, .i .i64)] (.b (.s .n (.s .n (.s (.j [(0, .p), (3, .l), (4, .i .i64), (5, .s), (6, .i .i64)] (.b (.l [(0, .p), (3, .l), (4, .i .i64), (5, .s), (6, .i .i64)] (.s (.s (.j [(0, .p), (3, .l), (4, .i .i64), (5, .s), (6, .i .i64), (37, .b)] .n) .n) .n)))) (.s (.s (.j [(0, .p), (3, .l), (4, .i .i64), (5, .s), (6, .i .i64), (51, .b)] .n) .n) .n)))))) .n)))))) .n))) (rOf Try.prog 0 Try.f94)
noncomputable def e_ref15_Table_Packs (k : Nat) (D : CallF) : Ent := entOf 94 [(0, .p)] [(2, .l)] (ref15_Table_Packs k D)
theorem q_ref15_Table_Packs : (Try.f94.body).bind (rcodeOf Try.prog 0 Try.f94.ntmps) = some (strip r_ref15_Table_Packs) := by kernel_rfl
theorem t_ref15_Table_Packs (k : Nat) (D : CallF) : curF [(0, .p)] (fun args h => denF (C_ref15_Table_Packs k D) k r_ref15_Table_Packs [(2, .l)] [none] args h) = ref15_Table_Packs k D := by kernel_rfl
theorem ok_ref15_Table_Packs {D : CallF} (hD : CSound Try.prog 0 D) (k : Nat) : EntOk Try.prog 0 (e_ref15_Table_Packs k D) :=
 entOf_ok2 (mkC_sound hD (EntsOk.none)) Try.func94 rfl q_ref15_Table_Packs rfl (t_ref15_Table_Packs k D)
end Gc
namespace Gc
open Go Gx Go.Proofs
set_option maxRecDepth 100000
noncomputable def C_book_SpoilTexts (_k : Nat) (D : CallF) : CallF := mkC D []
noncomputable def book_SpoilTexts_l0b (_k : Nat) (_D : CallF)  (rec4 : Slc → Int → AHeap → Option ((Unit) × AHeap)) (l1 : Slc) (i2 : Int) (h3 : AHeap) : Option ((Unit) × AHeap) :=
 (if (decide (i2 < (l1.len : Int))) = true then
 (Gx.idxL 1 l1 i2).bind fun q5 =>
 (st1 q5 (.string (⟨#[115, 112, 111, 105, 108, 116]⟩ : ByteArray)) h3).bind fun h6 =>
 rec4 l1 (IntKind.wrap .i64 (i2 + 1)) h6
 else
 some ((), h3))
noncomputable def book_SpoilTexts_l0 (k : Nat) (D : CallF)  : Slc → Int → AHeap → Option ((Unit) × AHeap) :=
 iterK (α := Slc → Int → AHeap → Option ((Unit) × AHeap)) (fun _ _ _ => none) k (book_SpoilTexts_l0b k D )
noncomputable def book_SpoilTexts (k : Nat) (D : CallF) (l_0 : Slc) (h : AHeap) : Option ((Unit) × AHeap) :=
 book_SpoilTexts_l0 k D l_0 0 h
noncomputable def r_book_SpoilTexts : RCode := an (.s .n (.b (.l [(0, .l), (2, .i .i64)] .n))) (rOf Try.prog 0 Try.f95)
noncomputable def e_book_SpoilTexts (k : Nat) (D : CallF) : Ent := entOf 95 [(0, .l)] [] (book_SpoilTexts k D)
theorem q_book_SpoilTexts : (Try.f95.body).bind (rcodeOf Try.prog 0 Try.f95.ntmps) = some (strip r_book_SpoilTexts) := by kernel_rfl
theorem t_book_SpoilTexts (k : Nat) (D : CallF) : curF [(0, .l)] (fun args h => denF (C_book_SpoilTexts k D) k r_book_SpoilTexts [] [] args h) = book_SpoilTexts k D := by kernel_rfl
theorem ok_book_SpoilTexts {D : CallF} (hD : CSound Try.prog 0 D) (k : Nat) : EntOk Try.prog 0 (e_book_SpoilTexts k D) :=
 entOf_ok2 (mkC_sound hD (EntsOk.none)) Try.func95 rfl q_book_SpoilTexts rfl (t_book_SpoilTexts k D)
end Gc
namespace Gc
open Go Gx Go.Proofs
set_option maxRecDepth 100000
noncomputable def C_law15_samePlaces (_k : Nat) (D : CallF) : CallF := mkC D []
noncomputable def law15_samePlaces_l0b (_k : Nat) (_D : CallF) (j2 : AHeap → Option ((Bool) × AHeap)) (rec7 : Slc → Slc → Int → AHeap → Option ((Bool) × AHeap)) (a3 : Slc) (b4 : Slc) (i5 : Int) (h6 : AHeap) : Option ((Bool) × AHeap) :=
 (if (decide (i5 < (a3.len : Int))) = true then
 (Gx.idxL 5 a3 i5).bind fun q8 =>
 (ldA 5 q8 h6).bind fun l9 =>
 (decC [.s, .i .i64, .i .i64, .i .i64, .i .i64] l9).bind fun x10 =>
 (Gx.idxL 5 b4 i5).bind fun q11 =>
 (ldA 5 q11 h6).bind fun l12 =>
 (decC [.s, .i .i64, .i .i64, .i .i64, .i .i64] l12).bind fun x13 =>
 let c14 : Bool := (!((x10.1 == x13.1) && ((x10.2.1 == x13.2.1) && ((x10.2.2.1 == x13.2.2.1) && ((x10.2.2.2.1 == x13.2.2.2.1) && (x10.2.2.2.2 == x13.2.2.2.2))))))
 (if c14 = true then
 some (false, h6)
 else
 rec7 a3 b4 (IntKind.wrap .i64 (i5 + 1)) h6)
 else
 j2 h6)
noncomputable def law15_samePlaces_l0 (k : Nat) (D : CallF) (j2 : AHeap → Option ((Bool) × AHeap)) : Slc → Slc → Int → AHeap → Option ((Bool) × AHeap) :=
 iterK (α := Slc → Slc → Int → AHeap → Option ((Bool) × AHeap)) (fun _ _ _ _ => none) k (law15_samePlaces_l0b k D j2)
noncomputable def law15_samePlaces (k : Nat) (D : CallF) (a_0 : Slc) (b_1 : Slc) (h : AHeap) : Option ((Bool) × AHeap) :=
 (if ((a_0.len : Int) != (b_1.len : Int)) = true then
 some (false, h)
 else
 joinK (fun (h1 : AHeap) =>
 some (true, h1)) fun j2 =>
 law15_samePlaces_l0 k D j2 a_0 b_1 0 h)
noncomputable def r_law15_samePlaces : RCode := an (.s .n (.s .n (.s (.j [] (.s .n (.b (.l [(0, .l), (1, .l), (5, .i .i64)] (.s .n (.s (.b (.s (.r [(3, .st [.s, .i .i64, .i .i64, .i .i64, .i .i64]), (7, .st [.s, .i .i64, .i .i64, .i .i64, .i .i64])]) .n)) .n)))))) .n))) (rOf Try.prog 0 Try.f91)
noncomputable def e_law15_samePlaces (k : Nat) (D : CallF) : Ent := entOf 91 [(0, .l), (1, .l)] [(4, .b)] (law15_samePlaces k D)
theorem q_law15_samePlaces : (Try.f91.body).bind (rcodeOf Try.prog 0 Try.f91.ntmps) = some (strip r_law15_samePlaces) := by kernel_rfl
theorem t_law15_samePlaces (k : Nat) (D : CallF) : curF [(0, .l), (1, .l)] (fun args h => denF (C_law15_samePlaces k D) k r_law15_samePlaces [(4, .b)] [none] args h) = law15_samePlaces k D := by kernel_rfl
theorem ok_law15_samePlaces {D : CallF} (hD : CSound Try.prog 0 D) (k : Nat) : EntOk Try.prog 0 (e_law15_samePlaces k D) :=
 entOf_ok2 (mkC_sound hD (EntsOk.none)) Try.func91 rfl q_law15_samePlaces rfl (t_law15_samePlaces k D)
end Gc
namespace Gc
open Go Gx Go.Proofs
set_option maxRecDepth 100000
noncomputable def C_book_SameTexts (_k : Nat) (D : CallF) : CallF := mkC D []
noncomputable def book_SameTexts_l0b (_k : Nat) (_D : CallF) (j2 : AHeap → Option ((Bool) × AHeap)) (rec7 : Slc → Slc → Int → AHeap → Option ((Bool) × AHeap)) (a3 : Slc) (b4 : Slc) (i5 : Int) (h6 : AHeap) : Option ((Bool) × AHeap) :=
 (if (decide (i5 < (a3.len : Int))) = true then
 (Gx.idxL 1 a3 i5).bind fun q8 =>
 (ldS q8 h6).bind fun x9 =>
 (Gx.idxL 1 b4 i5).bind fun q10 =>
 (ldS q10 h6).bind fun x11 =>
 (if (!(x9 == x11)) = true then
 some (false, h6)
 else
 rec7 a3 b4 (IntKind.wrap .i64 (i5 + 1)) h6)
 else
 j2 h6)
noncomputable def book_SameTexts_l0 (k : Nat) (D : CallF) (j2 : AHeap → Option ((Bool) × AHeap)) : Slc → Slc → Int → AHeap → Option ((Bool) × AHeap) :=
 iterK (α := Slc → Slc → Int → AHeap → Option ((Bool) × AHeap)) (fun _ _ _ _ => none) k (book_SameTexts_l0b k D j2)
noncomputable def book_SameTexts (k : Nat) (D : CallF) (a_0 : Slc) (b_1 : Slc) (h : AHeap) : Option ((Bool) × AHeap) :=
 (if ((a_0.len : Int) != (b_1.len : Int)) = true then
 some (false, h)
 else
 joinK (fun (h1 : AHeap) =>
 some (true, h1)) fun j2 =>
 book_SameTexts_l0 k D j2 a_0 b_1 0 h)
noncomputable def r_book_SameTexts : RCode := an (.s .n (.s .n (.s (.j [] (.s .n (.b (.l [(0, .l), (1, .l), (5, .i .i64)] .n)))) .n))) (rOf Try.prog 0 Try.f18)
noncomputable def e_book_SameTexts (k : Nat) (D : CallF) : Ent := entOf 18 [(0, .l), (1, .l)] [(4, .b)] (book_SameTexts k D)
theorem q_book_SameTexts : (Try.f18.body).bind (rcodeOf Try.prog 0 Try.f18.ntmps) = some (strip r_book_SameTexts) := by kernel_rfl
theorem t_book_SameTexts (k : Nat) (D : CallF) : curF [(0, .l), (1, .l)] (fun args h => denF (C_book_SameTexts k D) k r_book_SameTexts [(4, .b)] [none] args h) = book_SameTexts k D := by kernel_rfl
theorem ok_book_SameTexts {D : CallF} (hD : CSound Try.prog 0 D) (k : Nat) : EntOk Try.prog 0 (e_book_SameTexts k D) :=
 entOf_ok2 (mkC_sound hD (EntsOk.none)) Try.func18 rfl q_book_SameTexts rfl (t_book_SameTexts k D)
end Gc
namespace Gc
open Go Gx Go.Proofs
set_option maxRecDepth 100000
noncomputable def C_law15_same (k : Nat) (D : CallF) : CallF := mkC D [e_lookup_Table_Get k D, e_ref15_Table_Get k D, e_lookup_Table_Places k D, e_lookup_Table_All k D, e_lookup_Table_Ids k D, e_lookup_Table_Packs k D, e_book_SpoilTexts k D, e_ref15_Table_Places k D, e_law15_samePlaces k D, e_law15_sameItems k D, e_ref15_Table_Ids k D, e_book_SameTexts k D, e_ref15_Table_Packs k D, e_lookup_Table_Len k D]
noncomputable def law15_same_l1b (_k : Nat) (_D : CallF) (j27 : Slc → Slc → Slc → Bool → AHeap → Option ((Bool) × AHeap)) (rec51 : Slc → Slc → Slc → Slc → Bool → Int → AHeap → Option ((Bool) × AHeap)) (places44 : Slc) (all45 : Slc) (ids46 : Slc) (packs47 : Slc) (good48 : Bool) (i49 : Int) (h50 : AHeap) : Option ((Bool) × AHeap) :=
 (if (decide (i49 < (places44.len : Int))) = true then
 (Gx.idxL 5 places44 i49).bind fun q52 =>
 (st1 (⟨q52.block, q52.off + 2, none⟩ : Addr) (.int .i64 (-9)) h50).bind fun h53 =>
 rec51 places44 all45 ids46 packs47 good48 (IntKind.wrap .i64 (i49 + 1)) h53
 else
 j27 all45 ids46 packs47 good48 h50)
noncomputable def law15_same_l1 (k : Nat) (D : CallF) (j27 : Slc → Slc → Slc → Bool → AHeap → Option ((Bool) × AHeap)) : Slc → Slc → Slc → Slc → Bool → Int → AHeap → Option ((Bool) × AHeap) :=
 iterK (α := Slc → Slc → Slc → Slc → Bool → Int → AHeap → Option ((Bool) × AHeap)) (fun _ _ _ _ _ _ _ => none) k (law15_same_l1b k D j27)
noncomputable def law15_same_l0b (_k : Nat) (_D : CallF) (j32 : Slc → Slc → Bool → AHeap → Option ((Bool) × AHeap)) (rec41 : Slc → Slc → Slc → Bool → Int → AHeap → Option ((Bool) × AHeap)) (all35 : Slc) (ids36 : Slc) (packs37 : Slc) (good38 : Bool) (i39 : Int) (h40 : AHeap) : Option ((Bool) × AHeap) :=
 (if (decide (i39 < (all35.len : Int))) = true then
 (Gx.idxL 6 all35 i39).bind fun q42 =>
 (st1 (⟨q42.block, q42.off + 1 + 2, none⟩ : Addr) (.int .i64 (-9)) h40).bind fun h43 =>
 rec41 all35 ids36 packs37 good38 (IntKind.wrap .i64 (i39 + 1)) h43
 else
 j32 ids36 packs37 good38 h40)
noncomputable def law15_same_l0 (k : Nat) (D : CallF) (j32 : Slc → Slc → Bool → AHeap → Option ((Bool) × AHeap)) : Slc → Slc → Slc → Bool → Int → AHeap → Option ((Bool) × AHeap) :=
 iterK (α := Slc → Slc → Slc → Bool → Int → AHeap → Option ((Bool) × AHeap)) (fun _ _ _ _ _ _ => none) k (law15_same_l0b k D j32)
noncomputable def law15_same (k : Nat) (D : CallF) (t_0 : Option Addr) (r_1 : Option Addr) (x_2 : ByteArray × ByteArray × Int × Int × Int × Int) (h : AHeap) : Option ((Bool) × AHeap) :=
 newK h ((.cells [.string x_2.1, .string x_2.2.1, .int .i64 x_2.2.2.1, .int .i64 x_2.2.2.2.1, .int .i64 x_2.2.2.2.2.1, .int .i64 x_2.2.2.2.2.2] 57 true 0)) fun h1 =>
 (ldS (⟨h.next, 0, none⟩ : Addr) h1).bind fun x2 =>
 (lookup_Table_Get k D t_0 x2 h1).bind fun r3 =>
 newK r3.2 ((.cells [.string ⟨#[]⟩, .int .i64 0, .int .i64 0, .int .i64 0, .int .i64 0] 55 true 0)) fun h4 =>
 (stL 5 (⟨r3.2.next, 0, none⟩ : Addr) ([.string r3.1.1.1, .int .i64 r3.1.1.2.1, .int .i64 r3.1.1.2.2.1, .int .i64 r3.1.1.2.2.2.1, .int .i64 r3.1.1.2.2.2.2]) h4).bind fun h5 =>
 (ldS (⟨h.next, 0, none⟩ : Addr) h5).bind fun x6 =>
 (ref15_Table_Get k D r_1 x6 h5).bind fun r7 =>
 newK r7.2 ((.cells [.string ⟨#[]⟩, .int .i64 0, .int .i64 0, .int .i64 0, .int .i64 0] 55 true 0)) fun h8 =>
 (stL 5 (⟨r7.2.next, 0, none⟩ : Addr) ([.string r7.1.1.1, .int .i64 r7.1.1.2.1, .int .i64 r7.1.1.2.2.1, .int .i64 r7.1.1.2.2.2.1, .int .i64 r7.1.1.2.2.2.2]) h8).bind fun h9 =>
 (ldS (⟨h.next, 0, none⟩ : Addr) h9).bind fun x10 =>
 (lookup_Table_Places k D t_0 x10 h9).bind fun r11 =>
 (lookup_Table_All k D t_0 r11.2).bind fun r12 =>
 (lookup_Table_Ids k D t_0 r12.2).bind fun r13 =>
 (lookup_Table_Packs k D t_0 r13.2).bind fun r14 =>
 joinK (fun (places15 : Slc) (all16 : Slc) (ids17 : Slc) (packs18 : Slc) (good19 : Bool) (h20 : AHeap) =>
 joinK (fun (all22 : Slc) (ids23 : Slc) (packs24 : Slc) (good25 : Bool) (h26 : AHeap) =>
 joinK (fun (ids28 : Slc) (packs29 : Slc) (good30 : Bool) (h31 : AHeap) =>
 (book_SpoilTexts k D ids28 h31).bind fun r33 =>
 (book_SpoilTexts k D packs29 r33.2).bind fun r34 =>
 some (good30, r34.2)) fun j32 =>
 law15_same_l0 k D j32 all22 ids23 packs24 good25 0 h26) fun j27 =>
 law15_same_l1 k D j27 places15 all16 ids17 packs18 good19 0 h20) fun j21 =>
 (ldA 5 (⟨r3.2.next, 0, none⟩ : Addr) r14.2).bind fun l54 =>
 (decC [.s, .i .i64, .i .i64, .i .i64, .i .i64] l54).bind fun x55 =>
 (ldA 5 (⟨r7.2.next, 0, none⟩ : Addr) r14.2).bind fun l56 =>
 (decC [.s, .i .i64, .i .i64, .i .i64, .i .i64] l56).bind fun x57 =>
 let c58 : Bool := ((x55.1 == x57.1) && ((x55.2.1 == x57.2.1) && ((x55.2.2.1 == x57.2.2.1) && ((x55.2.2.2.1 == x57.2.2.2.1) && (x55.2.2.2.2 == x57.2.2.2.2)))))
 (if c58 = true then
 (if (r3.1.2 == r7.1.2) = true then
 (ldS (⟨h.next, 0, none⟩ : Addr) r14.2).bind fun x59 =>
 (ref15_Table_Places k D r_1 x59 r14.2).bind fun r60 =>
 (law15_samePlaces k D r11.1 r60.1 r60.2).bind fun r61 =>
 (if r61.1 = true then
 (r_1).bind fun p62 =>
 (ldL (⟨p62.block, p62.off + 0, none⟩ : Addr) r61.2).bind fun x63 =>
 (law15_sameItems k D r12.1 x63 r61.2).bind fun r64 =>
 (if r64.1 = true then
 (ref15_Table_Ids k D r_1 r64.2).bind fun r65 =>
 (book_SameTexts k D r13.1 r65.1 r65.2).bind fun r66 =>
 (if r66.1 = true then
 (ref15_Table_Packs k D r_1 r66.2).bind fun r67 =>
 (book_SameTexts k D r14.1 r67.1 r67.2).bind fun r68 =>
 (if r68.1 = true then
 (lookup_Table_Len k D t_0 r68.2).bind fun r69 =>
 (r_1).bind fun p70 =>
 (ldL (⟨p70.block, p70.off + 0, none⟩ : Addr) r69.2).bind fun x71 =>
 guardP (SameW [r68.2] (fun H73 => (ldL (⟨p70.block, p70.off + 0, none⟩ : Addr) H73).bind fun y72 => some (.slice y72.a y72.len y72.cap)) (.slice x71.a x71.len x71.cap)) (
 j21 r11.1 r12.1 r13.1 r14.1 (r69.1 == (x71.len : Int)) r69.2)
 else
 j21 r11.1 r12.1 r13.1 r14.1 false r68.2)
 else
 j21 r11.1 r12.1 r13.1 r14.1 false r66.2)
 else
 j21 r11.1 r12.1 r13.1 r14.1 false r64.2)
 else
 j21 r11.1 r12.1 r13.1 r14.1 false r61.2)
 else
 j21 r11.1 r12.1 r13.1 r14.1 false r14.2)
 else
 j21 r11.1 r12.1 r13.1 r14.1 false r14.2)
noncomputable def r_law15_same : RCode := an (.s .n (.s .n (.s .n (.s .n (.s .n (.s (.j [(11, .l), (12, .l), (13, .l), (14, .l), (15, .b)] (.r [(0, .st [.s, .i .i64, .i .i64, .i .i64, .i .i64]), (1, .st [.s, .i .i64, .i .i64, .i .i64, .i .i64])])) (.s (.j [(12, .l), (13, .l), (14, .l), (15, .b)] (.s .n (.b (.l [(11, .l), (12, .l), (13, .l), (14, .l), (15, .b), (16, .i .i64)] .n)))) (.s (.j [(13, .l), (14, .l), (15, .b)] (.s .n (.b (.l [(12, .l), (13, .l), (14, .l), (15, .b), (17, .i .i64)] .n)))) .n)))))))) (rOf Try.prog 0 Try.f46)
noncomputable def e_law15_same (k : Nat) (D : CallF) : Ent := entOf 46 [(0, .p), (1, .p), (2, .st [.s, .s, .i .i64, .i .i64, .i .i64, .i .i64])] [(6, .b)] (law15_same k D)
theorem q_law15_same : (Try.f46.body).bind (rcodeOf Try.prog 0 Try.f46.ntmps) = some (strip r_law15_same) := by kernel_rfl
theorem t_law15_same (k : Nat) (D : CallF) : curF [(0, .p), (1, .p), (2, .st [.s, .s, .i .i64, .i .i64, .i .i64, .i .i64])] (fun args h => denF (C_law15_same k D) k r_law15_same [(6, .b)] [none] args h) = law15_same k D := by kernel_rfl
theorem ok_law15_same {D : CallF} (hD : CSound Try.prog 0 D) (k : Nat) : EntOk Try.prog 0 (e_law15_same k D) :=
 entOf_ok2 (mkC_sound hD (EntsOk.more (ok_lookup_Table_Get hD k) (EntsOk.more (ok_ref15_Table_Get hD k) (EntsOk.more (ok_lookup_Table_Places hD k) (EntsOk.more (ok_lookup_Table_All hD k) (EntsOk.more (ok_lookup_Table_Ids hD k) (EntsOk.more (ok_lookup_Table_Packs hD k) (EntsOk.more (ok_book_SpoilTexts hD k) (EntsOk.more (ok_ref15_Table_Places hD k) (EntsOk.more (ok_law15_samePlaces hD k) (EntsOk.more (ok_law15_sameItems hD k) (EntsOk.more (ok_ref15_Table_Ids hD k) (EntsOk.more (ok_book_SameTexts hD k) (EntsOk.more (ok_ref15_Table_Packs hD k) (EntsOk.more (ok_lookup_Table_Len hD k) (EntsOk.none)))))))))))))))) Try.func46 rfl q_law15_same rfl (t_law15_same k D)
end Gc
namespace Gc
open Go Gx Go.Proofs
set_option maxRecDepth 100000
noncomputable def C_law15_LookupPlays (k : Nat) (D : CallF) : CallF := mkC D [e_lookup_New k D, e_law15_same k D, e_book_Among k D, e_lookup_Table_Add k D, e_ref15_Table_Add k D, e_law15_sameItems k D, e_lookup_Table_Drop k D, e_ref15_Table_Drop k D, e_lookup_Table_Fork k D, e_law15_works k D]
noncomputable def law15_LookupPlays_l0b (k : Nat) (D : CallF) (j12 : AHeap → Option ((Bool) × AHeap)) (rec19 : Slc → (Option Addr) → (Option Addr) → (Option Addr) → Int → AHeap → Option ((Bool) × AHeap)) (acts13 : Slc) (x14 : Option Addr) (t15 : Option Addr) (r16 : Option Addr) (i17 : Int) (h18 : AHeap) : Option ((Bool) × AHeap) :=
 joinK (fun (acts20 : Slc) (x21 : Option Addr) (t22 : Option Addr) (r23 : Option Addr) (i24 : Int) (y25 : Bool) (h26 : AHeap) =>
 (if y25 = true then
 joinK (fun (acts28 : Slc) (x29 : Option Addr) (t30 : Option Addr) (r31 : Option Addr) (i32 : Int) (h33 : AHeap) =>
 rec19 acts28 x29 t30 r31 (IntKind.wrap .i64 (i32 + 1)) h33) fun j34 =>
 (Gx.idxL 2 acts20 i24).bind fun q35 =>
 (ldL (⟨q35.block, q35.off + 1, none⟩ : Addr) h26).bind fun x36 =>
 (if (decide ((x36.len : Int) > 30)) = true then
 j34 acts20 x21 t22 r23 i24 h26
 else
 newK h26 ((.cells [] 57 true 0)) fun h37 =>
 (rdS 6 x36 h37).bind fun n39 =>
 (appendA 6 64 57 h37 (⟨(some ⟨h26.next, 0, some 0⟩), 0, 0⟩ : Slc) n39 x36.len).bind fun r38 =>
 joinK (fun (acts40 : Slc) (x41 : Option Addr) (t42 : Option Addr) (r43 : Option Addr) (i44 : Int) (l45 : Slc) (h46 : AHeap) =>
 joinK (fun (acts48 : Slc) (x49 : Option Addr) (t50 : Option Addr) (r51 : Option Addr) (i52 : Int) (y53 : Bool) (h54 : AHeap) =>
 (if y53 = true then
 some (false, h54)
 else
 j34 acts48 x49 t50 r51 i52 h54)) fun j55 =>
 (if (decide ((l45.len : Int) > 0)) = true then
 (Gx.idxL 6 l45 0).bind fun q56 =>
 (ldA 6 q56 h46).bind fun l57 =>
 (decC [.s, .s, .i .i64, .i .i64, .i .i64, .i .i64] l57).bind fun x58 =>
 (law15_same k D t42 r43 (x58.1, x58.2.1, x58.2.2.1, x58.2.2.2.1, x58.2.2.2.2.1, x58.2.2.2.2.2) h46).bind fun r59 =>
 (if (!r59.1) = true then
 j55 acts40 x41 t42 r43 i44 true r59.2
 else
 (x41).bind fun p60 =>
 (ldA 6 p60 r59.2).bind fun l61 =>
 (decC [.s, .s, .i .i64, .i .i64, .i .i64, .i .i64] l61).bind fun x62 =>
 (law15_same k D t42 r43 (x62.1, x62.2.1, x62.2.2.1, x62.2.2.2.1, x62.2.2.2.2.1, x62.2.2.2.2.2) r59.2).bind fun r63 =>
 j55 acts40 x41 t42 r43 i44 (!r63.1) r63.2)
 else
 (x41).bind fun p64 =>
 (ldA 6 p64 h46).bind fun l65 =>
 (decC [.s, .s, .i .i64, .i .i64, .i .i64, .i .i64] l65).bind fun x66 =>
 (law15_same k D t42 r43 (x66.1, x66.2.1, x66.2.2.1, x66.2.2.2.1, x66.2.2.2.2.1, x66.2.2.2.2.2) h46).bind fun r67 =>
 j55 acts40 x41 t42 r43 i44 (!r67.1) r67.2)) fun j47 =>
 (Gx.idxL 2 acts20 i24).bind fun q68 =>
 (ldI .i64 (⟨q68.block, q68.off + 0, none⟩ : Addr) r38.2).bind fun x69 =>
 (book_Among k D x69 3 r38.2).bind fun r70 =>
 (if (r70.1 == 0) = true then
 joinK (fun (acts71 : Slc) (x72 : Option Addr) (t73 : Option Addr) (r74 : Option Addr) (i75 : Int) (l76 : Slc) (y77 : Bool) (h78 : AHeap) =>
 (if y77 = true then
 some (false, h78)
 else
 j47 acts71 x72 t73 r74 i75 l76 h78)) fun j79 =>
 (lookup_Table_Add k D t22 r38.1 r70.2).bind fun r80 =>
 (ref15_Table_Add k D r23 x36 r80.2).bind fun r81 =>
 (if (r80.1 != r81.1) = true then
 j79 acts20 x21 t22 r23 i24 x36 true r81.2
 else
 (law15_sameItems k D r38.1 x36 r81.2).bind fun r82 =>
 j79 acts20 x21 t22 r23 i24 x36 (!r82.1) r82.2)
 else
 (if (r70.1 == 1) = true then
 joinK (fun (acts83 : Slc) (x84 : Option Addr) (t85 : Option Addr) (r86 : Option Addr) (i87 : Int) (l88 : Slc) (p89 : ByteArray) (h90 : AHeap) =>
 (lookup_Table_Drop k D t85 p89 h90).bind fun r92 =>
 (ref15_Table_Drop k D r86 p89 r92.2).bind fun r93 =>
 (if (r92.1 != r93.1) = true then
 some (false, r93.2)
 else
 j47 acts83 x84 t85 r86 i87 l88 r93.2)) fun j91 =>
 (if (decide ((x36.len : Int) > 0)) = true then
 (Gx.idxL 6 x36 0).bind fun q94 =>
 (ldS (⟨q94.block, q94.off + 1 + 0, none⟩ : Addr) r70.2).bind fun x95 =>
 j91 acts20 x21 t22 r23 i24 x36 x95 r70.2
 else
 j91 acts20 x21 t22 r23 i24 x36 (⟨#[]⟩ : ByteArray) r70.2)
 else
 (lookup_Table_Fork k D t22 r70.2).bind fun r96 =>
 joinK (fun (acts97 : Slc) (x98 : Option Addr) (t99 : Option Addr) (r100 : Option Addr) (i101 : Int) (l102 : Slc) (own103 : Slc) (f104 : Option Addr) (y105 : Bool) (h106 : AHeap) =>
 (if y105 = true then
 some (false, h106)
 else
 (lookup_Table_Add k D f104 own103 h106).bind fun r108 =>
 (r100).bind fun p109 =>
 (ldL (⟨p109.block, p109.off + 0, none⟩ : Addr) r108.2).bind fun x110 =>
 (if (decide ((x110.len : Int) > 0)) = true then
 (r100).bind fun p111 =>
 (ldL (⟨p111.block, p111.off + 0, none⟩ : Addr) r108.2).bind fun x112 =>
 (Gx.idxL 6 x112 0).bind fun q113 =>
 (ldS (⟨q113.block, q113.off + 1 + 0, none⟩ : Addr) r108.2).bind fun x114 =>
 (lookup_Table_Drop k D f104 x114 r108.2).bind fun r115 =>
 j47 acts97 x98 t99 r100 i101 l102 r115.2
 else
 j47 acts97 x98 t99 r100 i101 l102 r108.2))) fun j107 =>
 (if r96.1.isNone = true then
 j107 acts20 x21 t22 r23 i24 x36 r38.1 r96.1 true r96.2
 else
 (x21).bind fun p116 =>
 (ldA 6 p116 r96.2).bind fun l117 =>
 (decC [.s, .s, .i .i64, .i .i64, .i .i64, .i .i64] l117).bind fun x118 =>
 (law15_same k D r96.1 r23 (x118.1, x118.2.1, x118.2.2.1, x118.2.2.2.1, x118.2.2.2.2.1, x118.2.2.2.2.2) r96.2).bind fun r119 =>
 j107 acts20 x21 t22 r23 i24 x36 r38.1 r96.1 (!r119.1) r119.2))))
 else
 j12 h26)) fun j27 =>
 (if (decide (i17 < (acts13.len : Int))) = true then
 j27 acts13 x14 t15 r16 i17 (decide (i17 < 30)) h18
 else
 j27 acts13 x14 t15 r16 i17 false h18)
noncomputable def law15_LookupPlays_l0 (k : Nat) (D : CallF) (j12 : AHeap → Option ((Bool) × AHeap)) : Slc → (Option Addr) → (Option Addr) → (Option Addr) → Int → AHeap → Option ((Bool) × AHeap) :=
 iterK (α := Slc → (Option Addr) → (Option Addr) → (Option Addr) → Int → AHeap → Option ((Bool) × AHeap)) (fun _ _ _ _ _ _ => none) k (law15_LookupPlays_l0b k D j12)
noncomputable def law15_LookupPlays (k : Nat) (D : CallF) (acts_0 : Slc) (x_1 : ByteArray × ByteArray × Int × Int × Int × Int) (h : AHeap) : Option ((Bool) × AHeap) :=
 newK h ((.cells [.string x_1.1, .string x_1.2.1, .int .i64 x_1.2.2.1, .int .i64 x_1.2.2.2.1, .int .i64 x_1.2.2.2.2.1, .int .i64 x_1.2.2.2.2.2] 57 true 0)) fun h1 =>
 (lookup_New k D h1).bind fun r2 =>
 newK r2.2 ((.cells [.slice none 0 0] 77 true 0)) fun h3 =>
 joinK (fun (acts4 : Slc) (x5 : Option Addr) (t6 : Option Addr) (r7 : Option Addr) (y8 : Bool) (h9 : AHeap) =>
 (if y8 = true then
 some (false, h9)
 else
 joinK (fun (h11 : AHeap) =>
 some (true, h11)) fun j12 =>
 law15_LookupPlays_l0 k D j12 acts4 x5 t6 r7 0 h9)) fun j10 =>
 (if r2.1.isNone = true then
 j10 acts_0 (some (⟨h.next, 0, none⟩ : Addr)) r2.1 (some (⟨r2.2.next, 0, none⟩ : Addr)) true h3
 else
 (law15_works k D h3).bind fun r120 =>
 j10 acts_0 (some (⟨h.next, 0, none⟩ : Addr)) r2.1 (some (⟨r2.2.next, 0, none⟩ : Addr)) (!r120.1) r120.2)
noncomputable def r_law15_LookupPlays : RCode := an (.s .n (.s .n (.s (.s (.j [(0, .l), (3, .p), (5, .p), (6, .p), (20, .b)] .n) .n) (.s (.j [] (.s .n (.b (.l [(0, .l), (3, .p), (5, .p), (6, .p), (7, .i .i64)] (.s (.s (.j [(0, .l), (3, .p), (5, .p), (6, .p), (7, .i .i64), (28, .b)] .n) .n) (.s (.j [(0, .l), (3, .p), (5, .p), (6, .p), (7, .i .i64)] (.b (.s .n (.s .n (.s .n (.s (.j [(0, .l), (3, .p), (5, .p), (6, .p), (7, .i .i64), (8, .l)] (.s .n (.b (.s .n (.s (.s (.j [(0, .l), (3, .p), (5, .p), (6, .p), (7, .i .i64), (8, .l), (92, .b)] .n) .n) (.s .n (.s (.s .n (.s (.j [(0, .l), (3, .p), (5, .p), (6, .p), (7, .i .i64), (8, .l), (10, .s)] .n) .n)) (.s .n (.s (.s (.j [(0, .l), (3, .p), (5, .p), (6, .p), (7, .i .i64), (8, .l), (9, .l), (11, .p), (58, .b)] (.r [(5, .st [.s, .s, .i .i64, .i .i64, .i .i64, .i .i64])])) .n) .n))))))))) (.s (.j [(0, .l), (3, .p), (5, .p), (6, .p), (7, .i .i64), (128, .b)] (.r [(8, .st [.s, .s, .i .i64, .i .i64, .i .i64, .i .i64]), (15, .st [.s, .s, .i .i64, .i .i64, .i .i64, .i .i64])])) .n))))))) .n)))))) .n)))) (rOf Try.prog 0 Try.f8)
noncomputable def e_law15_LookupPlays (k : Nat) (D : CallF) : Ent := entOf 8 [(0, .l), (1, .st [.s, .s, .i .i64, .i .i64, .i .i64, .i .i64])] [(4, .b)] (law15_LookupPlays k D)
theorem q_law15_LookupPlays : (Try.f8.body).bind (rcodeOf Try.prog 0 Try.f8.ntmps) = some (strip r_law15_LookupPlays) := by kernel_rfl
theorem t_law15_LookupPlays (k : Nat) (D : CallF) : curF [(0, .l), (1, .st [.s, .s, .i .i64, .i .i64, .i .i64, .i .i64])] (fun args h => denF (C_law15_LookupPlays k D) k r_law15_LookupPlays [(4, .b)] [none] args h) = law15_LookupPlays k D := by kernel_rfl
theorem ok_law15_LookupPlays {D : CallF} (hD : CSound Try.prog 0 D) (k : Nat) : EntOk Try.prog 0 (e_law15_LookupPlays k D) :=
 entOf_ok2 (mkC_sound hD (EntsOk.more (ok_lookup_New hD k) (EntsOk.more (ok_law15_same hD k) (EntsOk.more (ok_book_Among hD k) (EntsOk.more (ok_lookup_Table_Add hD k) (EntsOk.more (ok_ref15_Table_Add hD k) (EntsOk.more (ok_law15_sameItems hD k) (EntsOk.more (ok_lookup_Table_Drop hD k) (EntsOk.more (ok_ref15_Table_Drop hD k) (EntsOk.more (ok_lookup_Table_Fork hD k) (EntsOk.more (ok_law15_works hD k) (EntsOk.none)))))))))))) Try.func8 rfl q_law15_LookupPlays rfl (t_law15_LookupPlays k D)
end Gc
namespace Gc
open Go Gx Go.Proofs
set_option maxRecDepth 100000
end Gc
