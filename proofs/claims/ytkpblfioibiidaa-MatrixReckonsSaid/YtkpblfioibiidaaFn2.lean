import Derived.Test.YtkpblfioibiidaaProg
import Derived.Test.YtkpblfioibiidaaFn1
namespace Gy
open Go Gx Go.Proofs
set_option maxRecDepth 100000

noncomputable def C_matrix_Space_Mul (k : Nat) (D : CallF) : CallF := mkC D [e_matrix_Check k D, e_matrix_blank k D, e_matrix_M_row k D, e_matrix_Space_add k D]
noncomputable def matrix_Space_Mul_l1b (k : Nat) (D : CallF) (j56 : (Option Addr) → (Option Addr) → (Option Addr) → (Option Addr) → (Option Addr) → Int → Int → AHeap → Option (((Int × Int × Slc) × Int) × AHeap)) (rec73 : (Option Addr) → (Option Addr) → (Option Addr) → (Option Addr) → (Option Addr) → Int → Int → Int → Slc → Int → Int → AHeap → Option (((Int × Int × Slc) × Int) × AHeap)) (s61 : Option Addr) (a62 : Option Addr) (b63 : Option Addr) (y64 : Option Addr) (out65 : Option Addr) (i66 : Int) (y67 : Int) (y68 : Int) (y69 : Slc) (y70 : Int) (y71 : Int) (h72 : AHeap) : Option (((Int × Int × Slc) × Int) × AHeap) :=
  (if (decide (y71 < y70)) = true then
  (Gx.idxL 1 y69 y71).bind fun q74 =>
  (ldI .i64 q74 h72).bind fun x75 =>
  (out65).bind fun p76 =>
  (ldA 3 p76 h72).bind fun l77 =>
  (decC [.i .i64, .i .i64, .l] l77).bind fun x78 =>
  (matrix_M_row k D (x78.1, x78.2.1, x78.2.2) i66 h72).bind fun r79 =>
  (b63).bind fun p80 =>
  (ldA 3 p80 r79.2).bind fun l81 =>
  guardP (SameW [h72] (fun H83 => (b63).bind fun p84 => (ldA 3 p84 H83).bind fun y82 => some (.agg ⟨y82⟩)) (.agg ⟨l81⟩)) (
  (decC [.i .i64, .i .i64, .l] l81).bind fun x85 =>
  (matrix_M_row k D (x85.1, x85.2.1, x85.2.2) y71 r79.2).bind fun r86 =>
  (matrix_Space_add k D s61 r79.1 r86.1 x75 r86.2).bind fun r87 =>
  rec73 s61 a62 b63 y64 out65 i66 y67 y68 y69 y70 (IntKind.wrap .i64 (y71 + 1)) r87.2)
  else
  j56 s61 a62 b63 y64 out65 y67 y68 h72)
noncomputable def matrix_Space_Mul_l1 (k : Nat) (D : CallF) (j56 : (Option Addr) → (Option Addr) → (Option Addr) → (Option Addr) → (Option Addr) → Int → Int → AHeap → Option (((Int × Int × Slc) × Int) × AHeap)) : (Option Addr) → (Option Addr) → (Option Addr) → (Option Addr) → (Option Addr) → Int → Int → Int → Slc → Int → Int → AHeap → Option (((Int × Int × Slc) × Int) × AHeap) :=
  iterK (α := (Option Addr) → (Option Addr) → (Option Addr) → (Option Addr) → (Option Addr) → Int → Int → Int → Slc → Int → Int → AHeap → Option (((Int × Int × Slc) × Int) × AHeap)) (fun _ _ _ _ _ _ _ _ _ _ _ _ => none) k (matrix_Space_Mul_l1b k D j56)
noncomputable def matrix_Space_Mul_l0b (k : Nat) (D : CallF) (j29 : (Option Addr) → (Option Addr) → AHeap → Option (((Int × Int × Slc) × Int) × AHeap)) (rec47 : (Option Addr) → (Option Addr) → (Option Addr) → (Option Addr) → (Option Addr) → Int → Int → AHeap → Option (((Int × Int × Slc) × Int) × AHeap)) (s39 : Option Addr) (a40 : Option Addr) (b41 : Option Addr) (y42 : Option Addr) (out43 : Option Addr) (y44 : Int) (y45 : Int) (h46 : AHeap) : Option (((Int × Int × Slc) × Int) × AHeap) :=
  (if (decide (y45 < y44)) = true then
  joinK (fun (s48 : Option Addr) (a49 : Option Addr) (b50 : Option Addr) (y51 : Option Addr) (out52 : Option Addr) (y53 : Int) (y54 : Int) (h55 : AHeap) =>
  rec47 s48 a49 b50 y51 out52 y53 (IntKind.wrap .i64 (y54 + 1)) h55) fun j56 =>
  (a40).bind fun p57 =>
  (ldA 3 p57 h46).bind fun l58 =>
  (decC [.i .i64, .i .i64, .l] l58).bind fun x59 =>
  (matrix_M_row k D (x59.1, x59.2.1, x59.2.2) y45 h46).bind fun r60 =>
  matrix_Space_Mul_l1 k D j56 s39 a40 b41 y42 out43 y45 y44 y45 r60.1 (r60.1.len : Int) 0 r60.2
  else
  j29 y42 out43 h46)
noncomputable def matrix_Space_Mul_l0 (k : Nat) (D : CallF) (j29 : (Option Addr) → (Option Addr) → AHeap → Option (((Int × Int × Slc) × Int) × AHeap)) : (Option Addr) → (Option Addr) → (Option Addr) → (Option Addr) → (Option Addr) → Int → Int → AHeap → Option (((Int × Int × Slc) × Int) × AHeap) :=
  iterK (α := (Option Addr) → (Option Addr) → (Option Addr) → (Option Addr) → (Option Addr) → Int → Int → AHeap → Option (((Int × Int × Slc) × Int) × AHeap)) (fun _ _ _ _ _ _ _ _ => none) k (matrix_Space_Mul_l0b k D j29)
noncomputable def matrix_Space_Mul (k : Nat) (D : CallF) (s_0 : Option Addr) (a_1 : Int × Int × Slc) (b_2 : Int × Int × Slc) (h : AHeap) : Option (((Int × Int × Slc) × Int) × AHeap) :=
  let h1 := AHeap.new h (.cells [.int .i64 a_1.1, .int .i64 a_1.2.1, .slice a_1.2.2.a a_1.2.2.len a_1.2.2.cap] 51 true 0)
  let h2 := AHeap.new h1 (.cells [.int .i64 b_2.1, .int .i64 b_2.2.1, .slice b_2.2.2.a b_2.2.2.len b_2.2.2.cap] 51 true 0)
  let h3 := AHeap.new h2 (.cells [.int .i64 0, .int .i64 0, .slice none 0 0] 51 true 0)
  (ldA 3 (⟨h.next, 0, none⟩ : Addr) h3).bind fun l4 =>
  (decC [.i .i64, .i .i64, .l] l4).bind fun x5 =>
  (matrix_Check k D (x5.1, x5.2.1, x5.2.2) h3).bind fun r6 =>
  (if (r6.1 != 0) = true then
  (stL 3 (⟨h2.next, 0, none⟩ : Addr) ([.int .i64 0, .int .i64 0, .slice none 0 0]) r6.2).bind fun h7 =>
  (ldA 3 (⟨h2.next, 0, none⟩ : Addr) h7).bind fun l8 =>
  (decC [.i .i64, .i .i64, .l] l8).bind fun x9 =>
  some (((x9.1, x9.2.1, x9.2.2), r6.1), h7)
  else
  (ldA 3 (⟨h1.next, 0, none⟩ : Addr) r6.2).bind fun l10 =>
  (decC [.i .i64, .i .i64, .l] l10).bind fun x11 =>
  (matrix_Check k D (x11.1, x11.2.1, x11.2.2) r6.2).bind fun r12 =>
  (if (r12.1 != 0) = true then
  (stL 3 (⟨h2.next, 0, none⟩ : Addr) ([.int .i64 0, .int .i64 0, .slice none 0 0]) r12.2).bind fun h13 =>
  (ldA 3 (⟨h2.next, 0, none⟩ : Addr) h13).bind fun l14 =>
  (decC [.i .i64, .i .i64, .l] l14).bind fun x15 =>
  some (((x15.1, x15.2.1, x15.2.2), r12.1), h13)
  else
  (ldI .i64 (⟨h.next, 1, none⟩ : Addr) r12.2).bind fun x16 =>
  (ldI .i64 (⟨h1.next, 0, none⟩ : Addr) r12.2).bind fun x17 =>
  (if (x16 != x17) = true then
  (stL 3 (⟨h2.next, 0, none⟩ : Addr) ([.int .i64 0, .int .i64 0, .slice none 0 0]) r12.2).bind fun h18 =>
  (ldA 3 (⟨h2.next, 0, none⟩ : Addr) h18).bind fun l19 =>
  (decC [.i .i64, .i .i64, .l] l19).bind fun x20 =>
  some (((x20.1, x20.2.1, x20.2.2), 4), h18)
  else
  (ldI .i64 (⟨h.next, 0, none⟩ : Addr) r12.2).bind fun x21 =>
  (ldI .i64 (⟨h1.next, 1, none⟩ : Addr) r12.2).bind fun x22 =>
  (matrix_blank k D x21 x22 r12.2).bind fun r23 =>
  let h24 := AHeap.new r23.2 (.cells [.int .i64 0, .int .i64 0, .slice none 0 0] 51 true 0)
  (stL 3 (⟨r23.2.next, 0, none⟩ : Addr) ([.int .i64 r23.1.1, .int .i64 r23.1.2.1, .slice r23.1.2.2.a r23.1.2.2.len r23.1.2.2.cap]) h24).bind fun h25 =>
  joinK (fun (y26 : Option Addr) (out27 : Option Addr) (h28 : AHeap) =>
  (out27).bind fun p30 =>
  (ldA 3 p30 h28).bind fun l31 =>
  (decC [.i .i64, .i .i64, .l] l31).bind fun x32 =>
  (y26).bind fun p33 =>
  (stL 3 p33 ([.int .i64 x32.1, .int .i64 x32.2.1, .slice x32.2.2.a x32.2.2.len x32.2.2.cap]) h28).bind fun h34 =>
  (y26).bind fun p35 =>
  (ldA 3 p35 h34).bind fun l36 =>
  (decC [.i .i64, .i .i64, .l] l36).bind fun x37 =>
  some (((x37.1, x37.2.1, x37.2.2), 0), h34)) fun j29 =>
  (ldI .i64 (⟨h.next, 0, none⟩ : Addr) h25).bind fun x38 =>
  matrix_Space_Mul_l0 k D j29 s_0 (some (⟨h.next, 0, none⟩ : Addr)) (some (⟨h1.next, 0, none⟩ : Addr)) (some (⟨h2.next, 0, none⟩ : Addr)) (some (⟨r23.2.next, 0, none⟩ : Addr)) x38 0 h25)))
def r_matrix_Space_Mul : RCode := .seq (.region [⟨some 4, .a (.box 51 (.tmp 1)), none, none⟩,
  ⟨some 5, .a (.box 51 (.tmp 2)), none, none⟩,
  ⟨some 6, .a (.alloc 51 [.int .i64 0, .int .i64 0, .slice none 0 0]), none, none⟩,
  ⟨some 7, .p (.mv (.const (.int .i64 0))), none, none⟩])
  (.seq (.seq (.region [⟨some 14, .l (.load (.agg 3) (.tmp 4)), none, some (.st [.i .i64, .i .i64, .l])⟩,
  ⟨some 15, .e (.call (.func 53) [.tmp 14]), none, none⟩,
  ⟨some 8, .p (.mv (.tmp 15)), none, none⟩])
  (.seq (.region [⟨some 16, .p (.mv (.tmp 8)), none, none⟩,
  ⟨some 17, .p (.bin .neq (.tmp 16) (.const (.int .i64 0))), none, none⟩])
  (.cond (.tmp 17) (.seq (.region [⟨some 18, .p (.build [.int .i64 0, .int .i64 0, .slice none 0 0] []), none, none⟩,
  ⟨some 19, .p (.mv (.tmp 8)), none, none⟩,
  ⟨none, .e (.store (some 3) (.tmp 6) (.tmp 18)), none, none⟩,
  ⟨some 7, .p (.mv (.tmp 19)), none, none⟩])
  (.ret)) (.skip))))
  (.seq (.seq (.region [⟨some 20, .l (.load (.agg 3) (.tmp 5)), none, some (.st [.i .i64, .i .i64, .l])⟩,
  ⟨some 21, .e (.call (.func 53) [.tmp 20]), none, none⟩,
  ⟨some 9, .p (.mv (.tmp 21)), none, none⟩])
  (.seq (.region [⟨some 22, .p (.mv (.tmp 9)), none, none⟩,
  ⟨some 23, .p (.bin .neq (.tmp 22) (.const (.int .i64 0))), none, none⟩])
  (.cond (.tmp 23) (.seq (.region [⟨some 24, .p (.build [.int .i64 0, .int .i64 0, .slice none 0 0] []), none, none⟩,
  ⟨some 25, .p (.mv (.tmp 9)), none, none⟩,
  ⟨none, .e (.store (some 3) (.tmp 6) (.tmp 24)), none, none⟩,
  ⟨some 7, .p (.mv (.tmp 25)), none, none⟩])
  (.ret)) (.skip))))
  (.seq (.seq (.region [⟨some 26, .p (.fieldAddr 1 (.tmp 4)), none, none⟩,
  ⟨some 27, .l (.load (.i .i64) (.tmp 26)), none, none⟩,
  ⟨some 28, .p (.fieldAddr 0 (.tmp 5)), none, none⟩,
  ⟨some 29, .l (.load (.i .i64) (.tmp 28)), none, none⟩,
  ⟨some 30, .p (.bin .neq (.tmp 27) (.tmp 29)), none, none⟩])
  (.cond (.tmp 30) (.seq (.region [⟨some 31, .p (.build [.int .i64 0, .int .i64 0, .slice none 0 0] []), none, none⟩,
  ⟨none, .e (.store (some 3) (.tmp 6) (.tmp 31)), none, none⟩,
  ⟨some 7, .p (.mv (.const (.int .i64 4))), none, none⟩])
  (.ret)) (.skip)))
  (.seq (.region [⟨some 32, .p (.fieldAddr 0 (.tmp 4)), none, none⟩,
  ⟨some 33, .l (.load (.i .i64) (.tmp 32)), none, none⟩,
  ⟨some 34, .p (.fieldAddr 1 (.tmp 5)), none, none⟩,
  ⟨some 35, .l (.load (.i .i64) (.tmp 34)), none, none⟩,
  ⟨some 36, .e (.call (.func 65) [.tmp 33, .tmp 35]), none, none⟩,
  ⟨some 10, .a (.alloc 51 [.int .i64 0, .int .i64 0, .slice none 0 0]), none, none⟩,
  ⟨none, .e (.store (some 3) (.tmp 10) (.tmp 36)), none, none⟩])
  (.seq (.join [(6, .p), (10, .p)] (.seq (.region [⟨some 37, .p (.fieldAddr 0 (.tmp 4)), none, none⟩,
  ⟨some 38, .l (.load (.i .i64) (.tmp 37)), none, none⟩,
  ⟨some 39, .p (.mv (.const (.int .i64 0))), none, none⟩])
  (.block 0 (.loop [(0, .p), (4, .p), (5, .p), (6, .p), (10, .p), (38, .i .i64), (39, .i .i64)] (.seq (.region [⟨some 40, .p (.bin .lss (.tmp 39) (.tmp 38)), none, none⟩])
  (.seq (.cond (.tmp 40) (.skip) (.exit 0))
  (.seq (.join [(0, .p), (4, .p), (5, .p), (6, .p), (10, .p), (38, .i .i64), (39, .i .i64)] (.block 1 (.seq (.region [⟨some 41, .p (.mv (.tmp 39)), none, none⟩,
  ⟨some 11, .p (.mv (.tmp 41)), none, none⟩])
  (.seq (.region [⟨some 42, .l (.load (.agg 3) (.tmp 4)), none, some (.st [.i .i64, .i .i64, .l])⟩,
  ⟨some 43, .p (.mv (.tmp 11)), none, none⟩,
  ⟨some 44, .e (.call (.func 66) [.tmp 42, .tmp 43]), none, none⟩,
  ⟨some 45, .p (.lenL (.tmp 44)), none, none⟩,
  ⟨some 46, .p (.mv (.const (.int .i64 0))), none, none⟩])
  (.block 2 (.loop [(0, .p), (4, .p), (5, .p), (6, .p), (10, .p), (11, .i .i64), (38, .i .i64), (39, .i .i64), (44, .l), (45, .i .i64), (46, .i .i64)] (.seq (.region [⟨some 47, .p (.bin .lss (.tmp 46) (.tmp 45)), none, none⟩])
  (.seq (.cond (.tmp 47) (.skip) (.exit 2))
  (.seq (.block 3 (.seq (.region [⟨some 48, .p (.mv (.tmp 46)), none, none⟩,
  ⟨some 49, .p (.idxL 1 (.tmp 44) (.tmp 46)), none, none⟩,
  ⟨some 50, .l (.load (.i .i64) (.tmp 49)), none, none⟩,
  ⟨some 12, .p (.mv (.tmp 48)), none, none⟩,
  ⟨some 13, .p (.mv (.tmp 50)), none, none⟩])
  (.draw [⟨1, ⟨some 52, .l (.load (.agg 3) (.tmp 10)), none, some (.st [.i .i64, .i .i64, .l])⟩, [10], 0⟩,
  ⟨2, ⟨some 53, .p (.mv (.tmp 11)), none, none⟩, [11], 0⟩,
  ⟨3, ⟨some 54, .e (.call (.func 66) [.tmp 52, .tmp 53]), none, none⟩, [52, 53], 0⟩,
  ⟨4, ⟨some 55, .l (.load (.agg 3) (.tmp 5)), none, some (.st [.i .i64, .i .i64, .l])⟩, [5], 1⟩,
  ⟨5, ⟨some 56, .p (.mv (.tmp 12)), none, none⟩, [12], 1⟩,
  ⟨6, ⟨some 57, .e (.call (.func 66) [.tmp 55, .tmp 56]), none, none⟩, [55, 56], 0⟩,
  ⟨0, ⟨some 51, .p (.mv (.tmp 0)), none, none⟩, [0], 2⟩,
  ⟨7, ⟨some 58, .p (.mv (.tmp 13)), none, none⟩, [13], 2⟩,
  ⟨8, ⟨some 59, .e (.call (.func 68) [.tmp 51, .tmp 54, .tmp 57, .tmp 58]), none, none⟩, [51, 54, 57, 58], 0⟩])))
  (.region [⟨some 60, .p (.bin .add (.tmp 46) (.const (.int .i64 1))), none, none⟩,
  ⟨some 46, .p (.mv (.tmp 60)), none, none⟩]))))))))))
  (.region [⟨some 61, .p (.bin .add (.tmp 39) (.const (.int .i64 1))), none, none⟩,
  ⟨some 39, .p (.mv (.tmp 61)), none, none⟩]))))))))
  (.seq (.region [⟨some 62, .l (.load (.agg 3) (.tmp 10)), none, some (.st [.i .i64, .i .i64, .l])⟩,
  ⟨none, .e (.store (some 3) (.tmp 6) (.tmp 62)), none, none⟩,
  ⟨some 7, .p (.mv (.const (.int .i64 0))), none, none⟩])
  (.ret)))))))
noncomputable def e_matrix_Space_Mul (k : Nat) (D : CallF) : Ent := entOf 42 [(0, .p), (1, .st [.i .i64, .i .i64, .l]), (2, .st [.i .i64, .i .i64, .l])] [(6, .st [.i .i64, .i .i64, .l]), (7, .i .i64)] (matrix_Space_Mul k D)
theorem q_matrix_Space_Mul : (Try.f42.body).bind (rcodeOf Try.prog 0 Try.f42.ntmps) = some (strip r_matrix_Space_Mul) := by kernel_rfl
theorem t_matrix_Space_Mul (k : Nat) (D : CallF) : curF [(0, .p), (1, .st [.i .i64, .i .i64, .l]), (2, .st [.i .i64, .i .i64, .l])] (fun args h => denF (C_matrix_Space_Mul k D) k r_matrix_Space_Mul [(6, .st [.i .i64, .i .i64, .l]), (7, .i .i64)] [some (.agg 3), none] args h) = matrix_Space_Mul k D := by kernel_rfl
theorem ok_matrix_Space_Mul {D : CallF} (hD : CSound Try.prog 0 D) (k : Nat) : EntOk Try.prog 0 (e_matrix_Space_Mul k D) :=
  entOf_ok2 (mkC_sound hD (EntsOk.more (ok_matrix_Check hD k) (EntsOk.more (ok_matrix_blank hD k) (EntsOk.more (ok_matrix_M_row hD k) (EntsOk.more (ok_matrix_Space_add hD k) (EntsOk.none)))))) Try.func42 rfl q_matrix_Space_Mul rfl (t_matrix_Space_Mul k D)
end Gy

namespace Gy
open Go Gx Go.Proofs
set_option maxRecDepth 100000

noncomputable def C_ref04_Check (_k : Nat) (D : CallF) : CallF := mkC D []
noncomputable def ref04_Check_l0b (_k : Nat) (_D : CallF) (j13 : AHeap → Option ((Int) × AHeap)) (rec17 : (Option Addr) → Int → AHeap → Option ((Int) × AHeap)) (a14 : Option Addr) (i15 : Int) (h16 : AHeap) : Option ((Int) × AHeap) :=
  (a14).bind fun p18 =>
  (ldL (⟨p18.block, p18.off + 2, none⟩ : Addr) h16).bind fun x19 =>
  (if (decide (i15 < (x19.len : Int))) = true then
  joinK (fun (a20 : Option Addr) (i21 : Int) (y22 : Bool) (h23 : AHeap) =>
  (if y22 = true then
  some (1, h23)
  else
  rec17 a20 (IntKind.wrap .i64 (i21 + 1)) h23)) fun j24 =>
  (a14).bind fun p25 =>
  (ldL (⟨p25.block, p25.off + 2, none⟩ : Addr) h16).bind fun x26 =>
  (Gx.idxL 1 x26 i15).bind fun q27 =>
  (ldI .i64 q27 h16).bind fun x28 =>
  (if (decide (x28 < 0)) = true then
  j24 a14 i15 true h16
  else
  (a14).bind fun p29 =>
  (ldL (⟨p29.block, p29.off + 2, none⟩ : Addr) h16).bind fun x30 =>
  (Gx.idxL 1 x30 i15).bind fun q31 =>
  (ldI .i64 q31 h16).bind fun x32 =>
  j24 a14 i15 (decide (x32 > 255)) h16)
  else
  j13 h16)
noncomputable def ref04_Check_l0 (k : Nat) (D : CallF) (j13 : AHeap → Option ((Int) × AHeap)) : (Option Addr) → Int → AHeap → Option ((Int) × AHeap) :=
  iterK (α := (Option Addr) → Int → AHeap → Option ((Int) × AHeap)) (fun _ _ _ => none) k (ref04_Check_l0b k D j13)
noncomputable def ref04_Check (k : Nat) (D : CallF) (a_0 : Int × Int × Slc) (h : AHeap) : Option ((Int) × AHeap) :=
  let h1 := AHeap.new h (.cells [.int .i64 a_0.1, .int .i64 a_0.2.1, .slice a_0.2.2.a a_0.2.2.len a_0.2.2.cap] 54 true 0)
  joinK (fun (a2 : Option Addr) (y3 : Bool) (h4 : AHeap) =>
  (if y3 = true then
  some (1, h4)
  else
  (a2).bind fun p6 =>
  (ldL (⟨p6.block, p6.off + 2, none⟩ : Addr) h4).bind fun x7 =>
  (a2).bind fun p8 =>
  (ldI .i64 (⟨p8.block, p8.off + 0, none⟩ : Addr) h4).bind fun x9 =>
  (a2).bind fun p10 =>
  (ldI .i64 (⟨p10.block, p10.off + 1, none⟩ : Addr) h4).bind fun x11 =>
  (if ((x7.len : Int) != (IntKind.wrap .i64 (x9 * x11))) = true then
  some (4, h4)
  else
  joinK (fun (h12 : AHeap) =>
  some (0, h12)) fun j13 =>
  ref04_Check_l0 k D j13 a2 0 h4))) fun j5 =>
  (ldI .i64 (⟨h.next, 0, none⟩ : Addr) h1).bind fun x33 =>
  (if (decide (x33 < 1)) = true then
  j5 (some (⟨h.next, 0, none⟩ : Addr)) true h1
  else
  (ldI .i64 (⟨h.next, 0, none⟩ : Addr) h1).bind fun x34 =>
  (if (decide (x34 > 255)) = true then
  j5 (some (⟨h.next, 0, none⟩ : Addr)) true h1
  else
  (ldI .i64 (⟨h.next, 1, none⟩ : Addr) h1).bind fun x35 =>
  (if (decide (x35 < 1)) = true then
  j5 (some (⟨h.next, 0, none⟩ : Addr)) true h1
  else
  (ldI .i64 (⟨h.next, 1, none⟩ : Addr) h1).bind fun x36 =>
  j5 (some (⟨h.next, 0, none⟩ : Addr)) (decide (x36 > 255)) h1)))
def r_ref04_Check : RCode := .seq (.region [⟨some 1, .a (.box 54 (.tmp 0)), none, none⟩,
  ⟨some 2, .p (.mv (.const (.int .i64 0))), none, none⟩])
  (.seq (.seq (.join [(1, .p), (21, .b)] (.region [⟨some 4, .p (.fieldAddr 0 (.tmp 1)), none, none⟩,
  ⟨some 5, .l (.load (.i .i64) (.tmp 4)), none, none⟩,
  ⟨some 6, .p (.bin .lss (.tmp 5) (.const (.int .i64 1))), none, none⟩,
  ⟨some 7, .p (.mv (.tmp 6)), none, none⟩,
  ⟨some 8, .p (.fieldAddr 0 (.tmp 1)), (some (7, false)), none⟩,
  ⟨some 9, .l (.load (.i .i64) (.tmp 8)), (some (7, false)), none⟩,
  ⟨some 10, .p (.bin .gtr (.tmp 9) (.const (.int .i64 255))), (some (7, false)), none⟩,
  ⟨some 11, .p (.pick (.tmp 7) (.const (.bool true)) (.tmp 10)), none, none⟩,
  ⟨some 12, .p (.mv (.tmp 11)), none, none⟩,
  ⟨some 13, .p (.fieldAddr 1 (.tmp 1)), (some (12, false)), none⟩,
  ⟨some 14, .l (.load (.i .i64) (.tmp 13)), (some (12, false)), none⟩,
  ⟨some 15, .p (.bin .lss (.tmp 14) (.const (.int .i64 1))), (some (12, false)), none⟩,
  ⟨some 16, .p (.pick (.tmp 12) (.const (.bool true)) (.tmp 15)), none, none⟩,
  ⟨some 17, .p (.mv (.tmp 16)), none, none⟩,
  ⟨some 18, .p (.fieldAddr 1 (.tmp 1)), (some (17, false)), none⟩,
  ⟨some 19, .l (.load (.i .i64) (.tmp 18)), (some (17, false)), none⟩,
  ⟨some 20, .p (.bin .gtr (.tmp 19) (.const (.int .i64 255))), (some (17, false)), none⟩,
  ⟨some 21, .p (.pick (.tmp 17) (.const (.bool true)) (.tmp 20)), none, none⟩]))
  (.cond (.tmp 21) (.seq (.region [⟨some 2, .p (.mv (.const (.int .i64 1))), none, none⟩])
  (.ret)) (.skip)))
  (.seq (.seq (.region [⟨some 22, .p (.fieldAddr 2 (.tmp 1)), none, none⟩,
  ⟨some 23, .l (.load (.l) (.tmp 22)), none, none⟩,
  ⟨some 24, .p (.lenL (.tmp 23)), none, none⟩,
  ⟨some 25, .p (.fieldAddr 0 (.tmp 1)), none, none⟩,
  ⟨some 26, .l (.load (.i .i64) (.tmp 25)), none, none⟩,
  ⟨some 27, .p (.fieldAddr 1 (.tmp 1)), none, none⟩,
  ⟨some 28, .l (.load (.i .i64) (.tmp 27)), none, none⟩,
  ⟨some 29, .p (.bin .mul (.tmp 26) (.tmp 28)), none, none⟩,
  ⟨some 30, .p (.bin .neq (.tmp 24) (.tmp 29)), none, none⟩])
  (.cond (.tmp 30) (.seq (.region [⟨some 2, .p (.mv (.const (.int .i64 4))), none, none⟩])
  (.ret)) (.skip)))
  (.seq (.join [] (.seq (.region [⟨some 3, .p (.mv (.const (.int .i64 0))), none, none⟩])
  (.block 0 (.loop [(1, .p), (3, .i .i64)] (.seq (.seq (.region [⟨some 31, .p (.mv (.tmp 3)), none, none⟩,
  ⟨some 32, .p (.fieldAddr 2 (.tmp 1)), none, none⟩,
  ⟨some 33, .l (.load (.l) (.tmp 32)), none, none⟩,
  ⟨some 34, .p (.lenL (.tmp 33)), none, none⟩,
  ⟨some 35, .p (.bin .lss (.tmp 31) (.tmp 34)), none, none⟩])
  (.cond (.tmp 35) (.skip) (.exit 0)))
  (.seq (.block 1 (.seq (.join [(1, .p), (3, .i .i64), (51, .b)] (.region [⟨some 38, .p (.fieldAddr 2 (.tmp 1)), none, none⟩,
  ⟨some 39, .l (.load (.l) (.tmp 38)), none, none⟩,
  ⟨some 40, .p (.mv (.tmp 3)), none, none⟩,
  ⟨some 41, .p (.idxL 1 (.tmp 39) (.tmp 40)), none, none⟩,
  ⟨some 42, .l (.load (.i .i64) (.tmp 41)), none, none⟩,
  ⟨some 43, .p (.bin .lss (.tmp 42) (.const (.int .i64 0))), none, none⟩,
  ⟨some 44, .p (.mv (.tmp 43)), none, none⟩,
  ⟨some 45, .p (.fieldAddr 2 (.tmp 1)), (some (44, false)), none⟩,
  ⟨some 46, .l (.load (.l) (.tmp 45)), (some (44, false)), none⟩,
  ⟨some 47, .p (.mv (.tmp 3)), (some (44, false)), none⟩,
  ⟨some 48, .p (.idxL 1 (.tmp 46) (.tmp 47)), (some (44, false)), none⟩,
  ⟨some 49, .l (.load (.i .i64) (.tmp 48)), (some (44, false)), none⟩,
  ⟨some 50, .p (.bin .gtr (.tmp 49) (.const (.int .i64 255))), (some (44, false)), none⟩,
  ⟨some 51, .p (.pick (.tmp 44) (.const (.bool true)) (.tmp 50)), none, none⟩]))
  (.cond (.tmp 51) (.seq (.region [⟨some 2, .p (.mv (.const (.int .i64 1))), none, none⟩])
  (.ret)) (.skip))))
  (.region [⟨some 36, .p (.mv (.tmp 3)), none, none⟩,
  ⟨some 37, .p (.bin .add (.tmp 36) (.const (.int .i64 1))), none, none⟩,
  ⟨some 3, .p (.mv (.tmp 37)), none, none⟩])))))))
  (.seq (.region [⟨some 2, .p (.mv (.const (.int .i64 0))), none, none⟩])
  (.ret)))))
noncomputable def e_ref04_Check (k : Nat) (D : CallF) : Ent := entOf 54 [(0, .st [.i .i64, .i .i64, .l])] [(2, .i .i64)] (ref04_Check k D)
theorem q_ref04_Check : (Try.f54.body).bind (rcodeOf Try.prog 0 Try.f54.ntmps) = some (strip r_ref04_Check) := by kernel_rfl
theorem t_ref04_Check (k : Nat) (D : CallF) : curF [(0, .st [.i .i64, .i .i64, .l])] (fun args h => denF (C_ref04_Check k D) k r_ref04_Check [(2, .i .i64)] [none] args h) = ref04_Check k D := by kernel_rfl
theorem ok_ref04_Check {D : CallF} (hD : CSound Try.prog 0 D) (k : Nat) : EntOk Try.prog 0 (e_ref04_Check k D) :=
  entOf_ok2 (mkC_sound hD (EntsOk.none)) Try.func54 rfl q_ref04_Check rfl (t_ref04_Check k D)
end Gy

namespace Gy
open Go Gx Go.Proofs
set_option maxRecDepth 100000

noncomputable def C_ref04_M_At (_k : Nat) (D : CallF) : CallF := mkC D []
noncomputable def ref04_M_At (_k : Nat) (_D : CallF) (a_0 : Int × Int × Slc) (i_1 : Int) (j_2 : Int) (h : AHeap) : Option ((Int) × AHeap) :=
  let h1 := AHeap.new h (.cells [.int .i64 a_0.1, .int .i64 a_0.2.1, .slice a_0.2.2.a a_0.2.2.len a_0.2.2.cap] 54 true 0)
  (ldL (⟨h.next, 2, none⟩ : Addr) h1).bind fun x2 =>
  (ldI .i64 (⟨h.next, 1, none⟩ : Addr) h1).bind fun x3 =>
  (Gx.idxL 1 x2 (IntKind.wrap .i64 ((IntKind.wrap .i64 (i_1 * x3)) + j_2))).bind fun q4 =>
  (ldI .i64 q4 h1).bind fun x5 =>
  some (x5, h1)
def r_ref04_M_At : RCode := .seq (.region [⟨some 3, .a (.box 54 (.tmp 0)), none, none⟩,
  ⟨some 6, .p (.mv (.const (.int .i64 0))), none, none⟩])
  (.seq (.region [⟨some 7, .p (.fieldAddr 2 (.tmp 3)), none, none⟩,
  ⟨some 8, .l (.load (.l) (.tmp 7)), none, none⟩,
  ⟨some 9, .p (.mv (.tmp 1)), none, none⟩,
  ⟨some 10, .p (.fieldAddr 1 (.tmp 3)), none, none⟩,
  ⟨some 11, .l (.load (.i .i64) (.tmp 10)), none, none⟩,
  ⟨some 12, .p (.bin .mul (.tmp 9) (.tmp 11)), none, none⟩,
  ⟨some 13, .p (.mv (.tmp 2)), none, none⟩,
  ⟨some 14, .p (.bin .add (.tmp 12) (.tmp 13)), none, none⟩,
  ⟨some 15, .p (.idxL 1 (.tmp 8) (.tmp 14)), none, none⟩,
  ⟨some 16, .l (.load (.i .i64) (.tmp 15)), none, none⟩,
  ⟨some 6, .p (.mv (.tmp 16)), none, none⟩])
  (.ret))
noncomputable def e_ref04_M_At (k : Nat) (D : CallF) : Ent := entOf 71 [(0, .st [.i .i64, .i .i64, .l]), (1, .i .i64), (2, .i .i64)] [(6, .i .i64)] (ref04_M_At k D)
theorem q_ref04_M_At : (Try.f71.body).bind (rcodeOf Try.prog 0 Try.f71.ntmps) = some (strip r_ref04_M_At) := by kernel_rfl
theorem t_ref04_M_At (k : Nat) (D : CallF) : curF [(0, .st [.i .i64, .i .i64, .l]), (1, .i .i64), (2, .i .i64)] (fun args h => denF (C_ref04_M_At k D) k r_ref04_M_At [(6, .i .i64)] [none] args h) = ref04_M_At k D := by kernel_rfl
theorem ok_ref04_M_At {D : CallF} (hD : CSound Try.prog 0 D) (k : Nat) : EntOk Try.prog 0 (e_ref04_M_At k D) :=
  entOf_ok2 (mkC_sound hD (EntsOk.none)) Try.func71 rfl q_ref04_M_At rfl (t_ref04_M_At k D)
end Gy

namespace Gy
open Go Gx Go.Proofs
set_option maxRecDepth 100000

noncomputable def C_ref04_Mul (k : Nat) (D : CallF) : CallF := mkC D [e_ref04_Check k D, e_ref04_zero k D, e_ref04_M_At k D, e_ref03_Times k D]
noncomputable def ref04_Mul_l2b (k : Nat) (D : CallF) (j80 : (Option Addr) → (Option Addr) → (Option Addr) → (Option Addr) → Int → Int → Int → AHeap → Option (((Int × Int × Slc) × Int) × AHeap)) (rec96 : (Option Addr) → (Option Addr) → (Option Addr) → (Option Addr) → Int → Int → Int → Int → AHeap → Option (((Int × Int × Slc) × Int) × AHeap)) (a87 : Option Addr) (b88 : Option Addr) (y89 : Option Addr) (out90 : Option Addr) (i91 : Int) (j92 : Int) (n93 : Int) (kv94 : Int) (h95 : AHeap) : Option (((Int × Int × Slc) × Int) × AHeap) :=
  (a87).bind fun p97 =>
  (ldI .i64 (⟨p97.block, p97.off + 1, none⟩ : Addr) h95).bind fun x98 =>
  (if (decide (kv94 < x98)) = true then
  (a87).bind fun p99 =>
  (ldA 3 p99 h95).bind fun l100 =>
  (decC [.i .i64, .i .i64, .l] l100).bind fun x101 =>
  (ref04_M_At k D (x101.1, x101.2.1, x101.2.2) i91 kv94 h95).bind fun r102 =>
  (b88).bind fun p103 =>
  (ldA 3 p103 r102.2).bind fun l104 =>
  guardP (SameW [h95] (fun H106 => (b88).bind fun p107 => (ldA 3 p107 H106).bind fun y105 => some (.agg ⟨y105⟩)) (.agg ⟨l104⟩)) (
  (decC [.i .i64, .i .i64, .l] l104).bind fun x108 =>
  (ref04_M_At k D (x108.1, x108.2.1, x108.2.2) kv94 j92 r102.2).bind fun r109 =>
  (ref03_Times k D r102.1 r109.1 r109.2).bind fun r110 =>
  rec96 a87 b88 y89 out90 i91 j92 (Go.bits .xor .i64 n93 r110.1) (IntKind.wrap .i64 (kv94 + 1)) r110.2)
  else
  j80 a87 b88 y89 out90 i91 j92 n93 h95)
noncomputable def ref04_Mul_l2 (k : Nat) (D : CallF) (j80 : (Option Addr) → (Option Addr) → (Option Addr) → (Option Addr) → Int → Int → Int → AHeap → Option (((Int × Int × Slc) × Int) × AHeap)) : (Option Addr) → (Option Addr) → (Option Addr) → (Option Addr) → Int → Int → Int → Int → AHeap → Option (((Int × Int × Slc) × Int) × AHeap) :=
  iterK (α := (Option Addr) → (Option Addr) → (Option Addr) → (Option Addr) → Int → Int → Int → Int → AHeap → Option (((Int × Int × Slc) × Int) × AHeap)) (fun _ _ _ _ _ _ _ _ _ => none) k (ref04_Mul_l2b k D j80)
noncomputable def ref04_Mul_l1b (k : Nat) (D : CallF) (j53 : (Option Addr) → (Option Addr) → (Option Addr) → (Option Addr) → Int → AHeap → Option (((Int × Int × Slc) × Int) × AHeap)) (rec61 : (Option Addr) → (Option Addr) → (Option Addr) → (Option Addr) → Int → Int → AHeap → Option (((Int × Int × Slc) × Int) × AHeap)) (a54 : Option Addr) (b55 : Option Addr) (y56 : Option Addr) (out57 : Option Addr) (i58 : Int) (j59 : Int) (h60 : AHeap) : Option (((Int × Int × Slc) × Int) × AHeap) :=
  (b55).bind fun p62 =>
  (ldI .i64 (⟨p62.block, p62.off + 1, none⟩ : Addr) h60).bind fun x63 =>
  (if (decide (j59 < x63)) = true then
  joinK (fun (a64 : Option Addr) (b65 : Option Addr) (y66 : Option Addr) (out67 : Option Addr) (i68 : Int) (j69 : Int) (h70 : AHeap) =>
  rec61 a64 b65 y66 out67 i68 (IntKind.wrap .i64 (j69 + 1)) h70) fun j71 =>
  joinK (fun (a72 : Option Addr) (b73 : Option Addr) (y74 : Option Addr) (out75 : Option Addr) (i76 : Int) (j77 : Int) (n78 : Int) (h79 : AHeap) =>
  (out75).bind fun p81 =>
  (ldL (⟨p81.block, p81.off + 2, none⟩ : Addr) h79).bind fun x82 =>
  (b73).bind fun p83 =>
  (ldI .i64 (⟨p83.block, p83.off + 1, none⟩ : Addr) h79).bind fun x84 =>
  (Gx.idxL 1 x82 (IntKind.wrap .i64 ((IntKind.wrap .i64 (i76 * x84)) + j77))).bind fun q85 =>
  (st1 q85 (.int .i64 n78) h79).bind fun h86 =>
  j71 a72 b73 y74 out75 i76 j77 h86) fun j80 =>
  ref04_Mul_l2 k D j80 a54 b55 y56 out57 i58 j59 0 0 h60
  else
  j53 a54 b55 y56 out57 i58 h60)
noncomputable def ref04_Mul_l1 (k : Nat) (D : CallF) (j53 : (Option Addr) → (Option Addr) → (Option Addr) → (Option Addr) → Int → AHeap → Option (((Int × Int × Slc) × Int) × AHeap)) : (Option Addr) → (Option Addr) → (Option Addr) → (Option Addr) → Int → Int → AHeap → Option (((Int × Int × Slc) × Int) × AHeap) :=
  iterK (α := (Option Addr) → (Option Addr) → (Option Addr) → (Option Addr) → Int → Int → AHeap → Option (((Int × Int × Slc) × Int) × AHeap)) (fun _ _ _ _ _ _ _ => none) k (ref04_Mul_l1b k D j53)
noncomputable def ref04_Mul_l0b (k : Nat) (D : CallF) (j29 : (Option Addr) → (Option Addr) → AHeap → Option (((Int × Int × Slc) × Int) × AHeap)) (rec44 : (Option Addr) → (Option Addr) → (Option Addr) → (Option Addr) → Int → AHeap → Option (((Int × Int × Slc) × Int) × AHeap)) (a38 : Option Addr) (b39 : Option Addr) (y40 : Option Addr) (out41 : Option Addr) (i42 : Int) (h43 : AHeap) : Option (((Int × Int × Slc) × Int) × AHeap) :=
  (a38).bind fun p45 =>
  (ldI .i64 (⟨p45.block, p45.off + 0, none⟩ : Addr) h43).bind fun x46 =>
  (if (decide (i42 < x46)) = true then
  joinK (fun (a47 : Option Addr) (b48 : Option Addr) (y49 : Option Addr) (out50 : Option Addr) (i51 : Int) (h52 : AHeap) =>
  rec44 a47 b48 y49 out50 (IntKind.wrap .i64 (i51 + 1)) h52) fun j53 =>
  ref04_Mul_l1 k D j53 a38 b39 y40 out41 i42 0 h43
  else
  j29 y40 out41 h43)
noncomputable def ref04_Mul_l0 (k : Nat) (D : CallF) (j29 : (Option Addr) → (Option Addr) → AHeap → Option (((Int × Int × Slc) × Int) × AHeap)) : (Option Addr) → (Option Addr) → (Option Addr) → (Option Addr) → Int → AHeap → Option (((Int × Int × Slc) × Int) × AHeap) :=
  iterK (α := (Option Addr) → (Option Addr) → (Option Addr) → (Option Addr) → Int → AHeap → Option (((Int × Int × Slc) × Int) × AHeap)) (fun _ _ _ _ _ _ => none) k (ref04_Mul_l0b k D j29)
noncomputable def ref04_Mul (k : Nat) (D : CallF) (a_0 : Int × Int × Slc) (b_1 : Int × Int × Slc) (h : AHeap) : Option (((Int × Int × Slc) × Int) × AHeap) :=
  let h1 := AHeap.new h (.cells [.int .i64 a_0.1, .int .i64 a_0.2.1, .slice a_0.2.2.a a_0.2.2.len a_0.2.2.cap] 54 true 0)
  let h2 := AHeap.new h1 (.cells [.int .i64 b_1.1, .int .i64 b_1.2.1, .slice b_1.2.2.a b_1.2.2.len b_1.2.2.cap] 54 true 0)
  let h3 := AHeap.new h2 (.cells [.int .i64 0, .int .i64 0, .slice none 0 0] 54 true 0)
  (ldA 3 (⟨h.next, 0, none⟩ : Addr) h3).bind fun l4 =>
  (decC [.i .i64, .i .i64, .l] l4).bind fun x5 =>
  (ref04_Check k D (x5.1, x5.2.1, x5.2.2) h3).bind fun r6 =>
  (if (r6.1 != 0) = true then
  (stL 3 (⟨h2.next, 0, none⟩ : Addr) ([.int .i64 0, .int .i64 0, .slice none 0 0]) r6.2).bind fun h7 =>
  (ldA 3 (⟨h2.next, 0, none⟩ : Addr) h7).bind fun l8 =>
  (decC [.i .i64, .i .i64, .l] l8).bind fun x9 =>
  some (((x9.1, x9.2.1, x9.2.2), r6.1), h7)
  else
  (ldA 3 (⟨h1.next, 0, none⟩ : Addr) r6.2).bind fun l10 =>
  (decC [.i .i64, .i .i64, .l] l10).bind fun x11 =>
  (ref04_Check k D (x11.1, x11.2.1, x11.2.2) r6.2).bind fun r12 =>
  (if (r12.1 != 0) = true then
  (stL 3 (⟨h2.next, 0, none⟩ : Addr) ([.int .i64 0, .int .i64 0, .slice none 0 0]) r12.2).bind fun h13 =>
  (ldA 3 (⟨h2.next, 0, none⟩ : Addr) h13).bind fun l14 =>
  (decC [.i .i64, .i .i64, .l] l14).bind fun x15 =>
  some (((x15.1, x15.2.1, x15.2.2), r12.1), h13)
  else
  (ldI .i64 (⟨h.next, 1, none⟩ : Addr) r12.2).bind fun x16 =>
  (ldI .i64 (⟨h1.next, 0, none⟩ : Addr) r12.2).bind fun x17 =>
  (if (x16 != x17) = true then
  (stL 3 (⟨h2.next, 0, none⟩ : Addr) ([.int .i64 0, .int .i64 0, .slice none 0 0]) r12.2).bind fun h18 =>
  (ldA 3 (⟨h2.next, 0, none⟩ : Addr) h18).bind fun l19 =>
  (decC [.i .i64, .i .i64, .l] l19).bind fun x20 =>
  some (((x20.1, x20.2.1, x20.2.2), 4), h18)
  else
  (ldI .i64 (⟨h.next, 0, none⟩ : Addr) r12.2).bind fun x21 =>
  (ldI .i64 (⟨h1.next, 1, none⟩ : Addr) r12.2).bind fun x22 =>
  (ref04_zero k D x21 x22 r12.2).bind fun r23 =>
  let h24 := AHeap.new r23.2 (.cells [.int .i64 0, .int .i64 0, .slice none 0 0] 54 true 0)
  (stL 3 (⟨r23.2.next, 0, none⟩ : Addr) ([.int .i64 r23.1.1, .int .i64 r23.1.2.1, .slice r23.1.2.2.a r23.1.2.2.len r23.1.2.2.cap]) h24).bind fun h25 =>
  joinK (fun (y26 : Option Addr) (out27 : Option Addr) (h28 : AHeap) =>
  (out27).bind fun p30 =>
  (ldA 3 p30 h28).bind fun l31 =>
  (decC [.i .i64, .i .i64, .l] l31).bind fun x32 =>
  (y26).bind fun p33 =>
  (stL 3 p33 ([.int .i64 x32.1, .int .i64 x32.2.1, .slice x32.2.2.a x32.2.2.len x32.2.2.cap]) h28).bind fun h34 =>
  (y26).bind fun p35 =>
  (ldA 3 p35 h34).bind fun l36 =>
  (decC [.i .i64, .i .i64, .l] l36).bind fun x37 =>
  some (((x37.1, x37.2.1, x37.2.2), 0), h34)) fun j29 =>
  ref04_Mul_l0 k D j29 (some (⟨h.next, 0, none⟩ : Addr)) (some (⟨h1.next, 0, none⟩ : Addr)) (some (⟨h2.next, 0, none⟩ : Addr)) (some (⟨r23.2.next, 0, none⟩ : Addr)) 0 h25)))
def r_ref04_Mul : RCode := .seq (.region [⟨some 2, .a (.box 54 (.tmp 0)), none, none⟩,
  ⟨some 3, .a (.box 54 (.tmp 1)), none, none⟩,
  ⟨some 4, .a (.alloc 54 [.int .i64 0, .int .i64 0, .slice none 0 0]), none, none⟩,
  ⟨some 5, .p (.mv (.const (.int .i64 0))), none, none⟩])
  (.seq (.seq (.region [⟨some 13, .l (.load (.agg 3) (.tmp 2)), none, some (.st [.i .i64, .i .i64, .l])⟩,
  ⟨some 14, .e (.call (.func 54) [.tmp 13]), none, none⟩,
  ⟨some 6, .p (.mv (.tmp 14)), none, none⟩])
  (.seq (.region [⟨some 15, .p (.mv (.tmp 6)), none, none⟩,
  ⟨some 16, .p (.bin .neq (.tmp 15) (.const (.int .i64 0))), none, none⟩])
  (.cond (.tmp 16) (.seq (.region [⟨some 17, .p (.build [.int .i64 0, .int .i64 0, .slice none 0 0] []), none, none⟩,
  ⟨some 18, .p (.mv (.tmp 6)), none, none⟩,
  ⟨none, .e (.store (some 3) (.tmp 4) (.tmp 17)), none, none⟩,
  ⟨some 5, .p (.mv (.tmp 18)), none, none⟩])
  (.ret)) (.skip))))
  (.seq (.seq (.region [⟨some 19, .l (.load (.agg 3) (.tmp 3)), none, some (.st [.i .i64, .i .i64, .l])⟩,
  ⟨some 20, .e (.call (.func 54) [.tmp 19]), none, none⟩,
  ⟨some 7, .p (.mv (.tmp 20)), none, none⟩])
  (.seq (.region [⟨some 21, .p (.mv (.tmp 7)), none, none⟩,
  ⟨some 22, .p (.bin .neq (.tmp 21) (.const (.int .i64 0))), none, none⟩])
  (.cond (.tmp 22) (.seq (.region [⟨some 23, .p (.build [.int .i64 0, .int .i64 0, .slice none 0 0] []), none, none⟩,
  ⟨some 24, .p (.mv (.tmp 7)), none, none⟩,
  ⟨none, .e (.store (some 3) (.tmp 4) (.tmp 23)), none, none⟩,
  ⟨some 5, .p (.mv (.tmp 24)), none, none⟩])
  (.ret)) (.skip))))
  (.seq (.seq (.region [⟨some 25, .p (.fieldAddr 1 (.tmp 2)), none, none⟩,
  ⟨some 26, .l (.load (.i .i64) (.tmp 25)), none, none⟩,
  ⟨some 27, .p (.fieldAddr 0 (.tmp 3)), none, none⟩,
  ⟨some 28, .l (.load (.i .i64) (.tmp 27)), none, none⟩,
  ⟨some 29, .p (.bin .neq (.tmp 26) (.tmp 28)), none, none⟩])
  (.cond (.tmp 29) (.seq (.region [⟨some 30, .p (.build [.int .i64 0, .int .i64 0, .slice none 0 0] []), none, none⟩,
  ⟨none, .e (.store (some 3) (.tmp 4) (.tmp 30)), none, none⟩,
  ⟨some 5, .p (.mv (.const (.int .i64 4))), none, none⟩])
  (.ret)) (.skip)))
  (.seq (.region [⟨some 31, .p (.fieldAddr 0 (.tmp 2)), none, none⟩,
  ⟨some 32, .l (.load (.i .i64) (.tmp 31)), none, none⟩,
  ⟨some 33, .p (.fieldAddr 1 (.tmp 3)), none, none⟩,
  ⟨some 34, .l (.load (.i .i64) (.tmp 33)), none, none⟩,
  ⟨some 35, .e (.call (.func 67) [.tmp 32, .tmp 34]), none, none⟩,
  ⟨some 8, .a (.alloc 54 [.int .i64 0, .int .i64 0, .slice none 0 0]), none, none⟩,
  ⟨none, .e (.store (some 3) (.tmp 8) (.tmp 35)), none, none⟩])
  (.seq (.join [(4, .p), (8, .p)] (.seq (.region [⟨some 9, .p (.mv (.const (.int .i64 0))), none, none⟩])
  (.block 0 (.loop [(2, .p), (3, .p), (4, .p), (8, .p), (9, .i .i64)] (.seq (.seq (.region [⟨some 36, .p (.mv (.tmp 9)), none, none⟩,
  ⟨some 37, .p (.fieldAddr 0 (.tmp 2)), none, none⟩,
  ⟨some 38, .l (.load (.i .i64) (.tmp 37)), none, none⟩,
  ⟨some 39, .p (.bin .lss (.tmp 36) (.tmp 38)), none, none⟩])
  (.cond (.tmp 39) (.skip) (.exit 0)))
  (.seq (.join [(2, .p), (3, .p), (4, .p), (8, .p), (9, .i .i64)] (.block 1 (.seq (.region [⟨some 10, .p (.mv (.const (.int .i64 0))), none, none⟩])
  (.block 2 (.loop [(2, .p), (3, .p), (4, .p), (8, .p), (9, .i .i64), (10, .i .i64)] (.seq (.seq (.region [⟨some 42, .p (.mv (.tmp 10)), none, none⟩,
  ⟨some 43, .p (.fieldAddr 1 (.tmp 3)), none, none⟩,
  ⟨some 44, .l (.load (.i .i64) (.tmp 43)), none, none⟩,
  ⟨some 45, .p (.bin .lss (.tmp 42) (.tmp 44)), none, none⟩])
  (.cond (.tmp 45) (.skip) (.exit 2)))
  (.seq (.join [(2, .p), (3, .p), (4, .p), (8, .p), (9, .i .i64), (10, .i .i64)] (.block 3 (.seq (.region [⟨some 11, .p (.mv (.const (.int .i64 0))), none, none⟩])
  (.seq (.join [(2, .p), (3, .p), (4, .p), (8, .p), (9, .i .i64), (10, .i .i64), (11, .i .i64)] (.seq (.region [⟨some 12, .p (.mv (.const (.int .i64 0))), none, none⟩])
  (.block 4 (.loop [(2, .p), (3, .p), (4, .p), (8, .p), (9, .i .i64), (10, .i .i64), (11, .i .i64), (12, .i .i64)] (.seq (.seq (.region [⟨some 48, .p (.mv (.tmp 12)), none, none⟩,
  ⟨some 49, .p (.fieldAddr 1 (.tmp 2)), none, none⟩,
  ⟨some 50, .l (.load (.i .i64) (.tmp 49)), none, none⟩,
  ⟨some 51, .p (.bin .lss (.tmp 48) (.tmp 50)), none, none⟩])
  (.cond (.tmp 51) (.skip) (.exit 4)))
  (.seq (.block 5 (.draw [⟨1, ⟨some 55, .l (.load (.agg 3) (.tmp 2)), none, some (.st [.i .i64, .i .i64, .l])⟩, [2], 0⟩,
  ⟨2, ⟨some 56, .p (.mv (.tmp 9)), none, none⟩, [9], 0⟩,
  ⟨3, ⟨some 57, .p (.mv (.tmp 12)), none, none⟩, [12], 0⟩,
  ⟨4, ⟨some 58, .e (.call (.func 71) [.tmp 55, .tmp 56, .tmp 57]), none, none⟩, [55, 56, 57], 0⟩,
  ⟨5, ⟨some 59, .l (.load (.agg 3) (.tmp 3)), none, some (.st [.i .i64, .i .i64, .l])⟩, [3], 1⟩,
  ⟨6, ⟨some 60, .p (.mv (.tmp 12)), none, none⟩, [12], 1⟩,
  ⟨7, ⟨some 61, .p (.mv (.tmp 10)), none, none⟩, [10], 1⟩,
  ⟨8, ⟨some 62, .e (.call (.func 71) [.tmp 59, .tmp 60, .tmp 61]), none, none⟩, [59, 60, 61], 0⟩,
  ⟨9, ⟨some 63, .e (.call (.func 61) [.tmp 58, .tmp 62]), none, none⟩, [58, 62], 0⟩,
  ⟨0, ⟨some 54, .p (.mv (.tmp 11)), none, none⟩, [11], 3⟩,
  ⟨10, ⟨some 64, .p (.bin .xor (.tmp 54) (.tmp 63)), none, none⟩, [54, 63], 0⟩,
  ⟨11, ⟨some 11, .p (.mv (.tmp 64)), none, none⟩, [64], 0⟩]))
  (.region [⟨some 52, .p (.mv (.tmp 12)), none, none⟩,
  ⟨some 53, .p (.bin .add (.tmp 52) (.const (.int .i64 1))), none, none⟩,
  ⟨some 12, .p (.mv (.tmp 53)), none, none⟩])))))))
  (.region [⟨some 65, .p (.fieldAddr 2 (.tmp 8)), none, none⟩,
  ⟨some 66, .l (.load (.l) (.tmp 65)), none, none⟩,
  ⟨some 67, .p (.mv (.tmp 9)), none, none⟩,
  ⟨some 68, .p (.fieldAddr 1 (.tmp 3)), none, none⟩,
  ⟨some 69, .l (.load (.i .i64) (.tmp 68)), none, none⟩,
  ⟨some 70, .p (.bin .mul (.tmp 67) (.tmp 69)), none, none⟩,
  ⟨some 71, .p (.mv (.tmp 10)), none, none⟩,
  ⟨some 72, .p (.bin .add (.tmp 70) (.tmp 71)), none, none⟩,
  ⟨some 73, .p (.mv (.tmp 11)), none, none⟩,
  ⟨some 74, .p (.idxL 1 (.tmp 66) (.tmp 72)), none, none⟩,
  ⟨none, .e (.store none (.tmp 74) (.tmp 73)), none, none⟩])))))
  (.region [⟨some 46, .p (.mv (.tmp 10)), none, none⟩,
  ⟨some 47, .p (.bin .add (.tmp 46) (.const (.int .i64 1))), none, none⟩,
  ⟨some 10, .p (.mv (.tmp 47)), none, none⟩]))))))))
  (.region [⟨some 40, .p (.mv (.tmp 9)), none, none⟩,
  ⟨some 41, .p (.bin .add (.tmp 40) (.const (.int .i64 1))), none, none⟩,
  ⟨some 9, .p (.mv (.tmp 41)), none, none⟩])))))))
  (.seq (.region [⟨some 75, .l (.load (.agg 3) (.tmp 8)), none, some (.st [.i .i64, .i .i64, .l])⟩,
  ⟨none, .e (.store (some 3) (.tmp 4) (.tmp 75)), none, none⟩,
  ⟨some 5, .p (.mv (.const (.int .i64 0))), none, none⟩])
  (.ret)))))))
noncomputable def e_ref04_Mul (k : Nat) (D : CallF) : Ent := entOf 50 [(0, .st [.i .i64, .i .i64, .l]), (1, .st [.i .i64, .i .i64, .l])] [(4, .st [.i .i64, .i .i64, .l]), (5, .i .i64)] (ref04_Mul k D)
theorem q_ref04_Mul : (Try.f50.body).bind (rcodeOf Try.prog 0 Try.f50.ntmps) = some (strip r_ref04_Mul) := by kernel_rfl
theorem t_ref04_Mul (k : Nat) (D : CallF) : curF [(0, .st [.i .i64, .i .i64, .l]), (1, .st [.i .i64, .i .i64, .l])] (fun args h => denF (C_ref04_Mul k D) k r_ref04_Mul [(4, .st [.i .i64, .i .i64, .l]), (5, .i .i64)] [some (.agg 3), none] args h) = ref04_Mul k D := by kernel_rfl
theorem ok_ref04_Mul {D : CallF} (hD : CSound Try.prog 0 D) (k : Nat) : EntOk Try.prog 0 (e_ref04_Mul k D) :=
  entOf_ok2 (mkC_sound hD (EntsOk.more (ok_ref04_Check hD k) (EntsOk.more (ok_ref04_zero hD k) (EntsOk.more (ok_ref04_M_At hD k) (EntsOk.more (ok_ref03_Times hD k) (EntsOk.none)))))) Try.func50 rfl q_ref04_Mul rfl (t_ref04_Mul k D)
end Gy

namespace Gy
open Go Gx Go.Proofs
set_option maxRecDepth 100000

noncomputable def C_matrix_clone (_k : Nat) (D : CallF) : CallF := mkC D []
noncomputable def matrix_clone (_k : Nat) (_D : CallF) (a_0 : Int × Int × Slc) (h : AHeap) : Option (((Int × Int × Slc)) × AHeap) :=
  let h1 := AHeap.new h (.cells [.int .i64 a_0.1, .int .i64 a_0.2.1, .slice a_0.2.2.a a_0.2.2.len a_0.2.2.cap] 51 true 0)
  let h2 := AHeap.new h1 (.cells [.int .i64 0, .int .i64 0, .slice none 0 0] 51 true 0)
  (ldL (⟨h.next, 2, none⟩ : Addr) h2).bind fun x3 =>
  (rdS 1 x3 h2).bind fun n5 =>
  (appendA 1 8 3 h2 (⟨none, 0, 0⟩ : Slc) n5 x3.len).bind fun r4 =>
  (ldI .i64 (⟨h.next, 0, none⟩ : Addr) r4.2).bind fun x6 =>
  guardP (SameW [h2] (fun H8 => (ldI .i64 (⟨h.next, 0, none⟩ : Addr) H8).bind fun y7 => some (.int .i64 y7)) (.int .i64 x6)) (
  (ldI .i64 (⟨h.next, 1, none⟩ : Addr) r4.2).bind fun x9 =>
  guardP (SameW [h2] (fun H11 => (ldI .i64 (⟨h.next, 1, none⟩ : Addr) H11).bind fun y10 => some (.int .i64 y10)) (.int .i64 x9)) (
  (stL 3 (⟨h1.next, 0, none⟩ : Addr) ([.int .i64 x6, .int .i64 x9, .slice r4.1.a r4.1.len r4.1.cap]) r4.2).bind fun h12 =>
  (ldA 3 (⟨h1.next, 0, none⟩ : Addr) h12).bind fun l13 =>
  (decC [.i .i64, .i .i64, .l] l13).bind fun x14 =>
  some ((x14.1, x14.2.1, x14.2.2), h12)))
def r_matrix_clone : RCode := .seq (.region [⟨some 1, .a (.box 51 (.tmp 0)), none, none⟩,
  ⟨some 2, .a (.alloc 51 [.int .i64 0, .int .i64 0, .slice none 0 0]), none, none⟩])
  (.seq (.draw [⟨4, ⟨some 7, .p (.fieldAddr 2 (.tmp 1)), none, none⟩, [1], 0⟩,
  ⟨5, ⟨some 8, .l (.load (.l) (.tmp 7)), none, none⟩, [7], 0⟩,
  ⟨6, ⟨some 9, .e (.append 1 8 3 [.int .i64 0] .slice (.const (.slice none 0 0)) (.tmp 8)), none, none⟩, [8], 0⟩,
  ⟨0, ⟨some 3, .p (.fieldAddr 0 (.tmp 1)), none, none⟩, [1], 1⟩,
  ⟨1, ⟨some 4, .l (.load (.i .i64) (.tmp 3)), none, none⟩, [3], 1⟩,
  ⟨2, ⟨some 5, .p (.fieldAddr 1 (.tmp 1)), none, none⟩, [1], 1⟩,
  ⟨3, ⟨some 6, .l (.load (.i .i64) (.tmp 5)), none, none⟩, [5], 1⟩,
  ⟨7, ⟨some 10, .p (.build [.int .i64 0, .int .i64 0, .slice none 0 0] [(0, 1, .tmp 4), (1, 1, .tmp 6), (2, 1, .tmp 9)]), none, none⟩, [4, 6, 9], 0⟩,
  ⟨8, ⟨none, .e (.store (some 3) (.tmp 2) (.tmp 10)), none, none⟩, [2, 10], 0⟩])
  (.ret))
noncomputable def e_matrix_clone (k : Nat) (D : CallF) : Ent := entOf 70 [(0, .st [.i .i64, .i .i64, .l])] [(2, .st [.i .i64, .i .i64, .l])] (matrix_clone k D)
theorem q_matrix_clone : (Try.f70.body).bind (rcodeOf Try.prog 0 Try.f70.ntmps) = some (strip r_matrix_clone) := by kernel_rfl
theorem t_matrix_clone (k : Nat) (D : CallF) : curF [(0, .st [.i .i64, .i .i64, .l])] (fun args h => denF (C_matrix_clone k D) k r_matrix_clone [(2, .st [.i .i64, .i .i64, .l])] [some (.agg 3)] args h) = matrix_clone k D := by kernel_rfl
theorem ok_matrix_clone {D : CallF} (hD : CSound Try.prog 0 D) (k : Nat) : EntOk Try.prog 0 (e_matrix_clone k D) :=
  entOf_ok2 (mkC_sound hD (EntsOk.none)) Try.func70 rfl q_matrix_clone rfl (t_matrix_clone k D)
end Gy

namespace Gy
open Go Gx Go.Proofs
set_option maxRecDepth 100000

noncomputable def C_matrix_M_swap (k : Nat) (D : CallF) : CallF := mkC D [e_matrix_M_row k D]
noncomputable def matrix_M_swap_l0b (_k : Nat) (_D : CallF)  (rec15 : Slc → Slc → Int → Int → AHeap → Option ((Unit) × AHeap)) (x10 : Slc) (y11 : Slc) (y12 : Int) (y13 : Int) (h14 : AHeap) : Option ((Unit) × AHeap) :=
  (if (decide (y13 < y12)) = true then
  (Gx.idxL 1 y11 y13).bind fun q16 =>
  (ldI .i64 q16 h14).bind fun x17 =>
  (Gx.idxL 1 x10 y13).bind fun q18 =>
  (ldI .i64 q18 h14).bind fun x19 =>
  (Gx.idxL 1 x10 y13).bind fun q20 =>
  (st1 q20 (.int .i64 x17) h14).bind fun h21 =>
  (Gx.idxL 1 y11 y13).bind fun q22 =>
  (st1 q22 (.int .i64 x19) h21).bind fun h23 =>
  rec15 x10 y11 y12 (IntKind.wrap .i64 (y13 + 1)) h23
  else
  some ((), h14))
noncomputable def matrix_M_swap_l0 (k : Nat) (D : CallF)  : Slc → Slc → Int → Int → AHeap → Option ((Unit) × AHeap) :=
  iterK (α := Slc → Slc → Int → Int → AHeap → Option ((Unit) × AHeap)) (fun _ _ _ _ _ => none) k (matrix_M_swap_l0b k D )
noncomputable def matrix_M_swap (k : Nat) (D : CallF) (a_0 : Int × Int × Slc) (i_1 : Int) (k_2 : Int) (h : AHeap) : Option ((Unit) × AHeap) :=
  let h1 := AHeap.new h (.cells [.int .i64 a_0.1, .int .i64 a_0.2.1, .slice a_0.2.2.a a_0.2.2.len a_0.2.2.cap] 51 true 0)
  (ldA 3 (⟨h.next, 0, none⟩ : Addr) h1).bind fun l2 =>
  (decC [.i .i64, .i .i64, .l] l2).bind fun x3 =>
  (matrix_M_row k D (x3.1, x3.2.1, x3.2.2) i_1 h1).bind fun r4 =>
  (ldA 3 (⟨h.next, 0, none⟩ : Addr) r4.2).bind fun l5 =>
  guardP (SameW [h1] (fun H7 => (ldA 3 (⟨h.next, 0, none⟩ : Addr) H7).bind fun y6 => some (.agg ⟨y6⟩)) (.agg ⟨l5⟩)) (
  (decC [.i .i64, .i .i64, .l] l5).bind fun x8 =>
  (matrix_M_row k D (x8.1, x8.2.1, x8.2.2) k_2 r4.2).bind fun r9 =>
  matrix_M_swap_l0 k D r4.1 r9.1 (r4.1.len : Int) 0 r9.2)
def r_matrix_M_swap : RCode := .seq (.region [⟨some 3, .a (.box 51 (.tmp 0)), none, none⟩])
  (.seq (.draw [⟨0, ⟨some 9, .l (.load (.agg 3) (.tmp 3)), none, some (.st [.i .i64, .i .i64, .l])⟩, [3], 0⟩,
  ⟨1, ⟨some 10, .p (.mv (.tmp 1)), none, none⟩, [1], 0⟩,
  ⟨2, ⟨some 11, .e (.call (.func 66) [.tmp 9, .tmp 10]), none, none⟩, [9, 10], 0⟩,
  ⟨3, ⟨some 12, .l (.load (.agg 3) (.tmp 3)), none, some (.st [.i .i64, .i .i64, .l])⟩, [3], 1⟩,
  ⟨4, ⟨some 13, .p (.mv (.tmp 2)), none, none⟩, [2], 1⟩,
  ⟨5, ⟨some 14, .e (.call (.func 66) [.tmp 12, .tmp 13]), none, none⟩, [12, 13], 0⟩,
  ⟨6, ⟨some 6, .p (.mv (.tmp 11)), none, none⟩, [11], 0⟩,
  ⟨7, ⟨some 7, .p (.mv (.tmp 14)), none, none⟩, [14], 0⟩])
  (.seq (.region [⟨some 15, .p (.mv (.tmp 6)), none, none⟩,
  ⟨some 16, .p (.lenL (.tmp 15)), none, none⟩,
  ⟨some 17, .p (.mv (.const (.int .i64 0))), none, none⟩])
  (.block 0 (.loop [(6, .l), (7, .l), (16, .i .i64), (17, .i .i64)] (.seq (.region [⟨some 18, .p (.bin .lss (.tmp 17) (.tmp 16)), none, none⟩])
  (.seq (.cond (.tmp 18) (.skip) (.exit 0))
  (.seq (.block 1 (.seq (.region [⟨some 19, .p (.mv (.tmp 17)), none, none⟩,
  ⟨some 8, .p (.mv (.tmp 19)), none, none⟩])
  (.draw [⟨0, ⟨some 20, .p (.mv (.tmp 6)), none, none⟩, [6], 0⟩,
  ⟨1, ⟨some 21, .p (.mv (.tmp 8)), none, none⟩, [8], 0⟩,
  ⟨4, ⟨some 24, .p (.mv (.tmp 7)), none, none⟩, [7], 0⟩,
  ⟨5, ⟨some 25, .p (.mv (.tmp 8)), none, none⟩, [8], 0⟩,
  ⟨6, ⟨some 26, .p (.idxL 1 (.tmp 24) (.tmp 25)), none, none⟩, [24, 25], 0⟩,
  ⟨7, ⟨some 27, .l (.load (.i .i64) (.tmp 26)), none, none⟩, [26], 0⟩,
  ⟨8, ⟨some 28, .p (.mv (.tmp 6)), none, none⟩, [6], 0⟩,
  ⟨9, ⟨some 29, .p (.mv (.tmp 8)), none, none⟩, [8], 0⟩,
  ⟨10, ⟨some 30, .p (.idxL 1 (.tmp 28) (.tmp 29)), none, none⟩, [28, 29], 0⟩,
  ⟨11, ⟨some 31, .l (.load (.i .i64) (.tmp 30)), none, none⟩, [30], 0⟩,
  ⟨12, ⟨some 32, .p (.idxL 1 (.tmp 20) (.tmp 21)), none, none⟩, [20, 21], 0⟩,
  ⟨13, ⟨none, .e (.store none (.tmp 32) (.tmp 27)), none, none⟩, [32, 27], 0⟩,
  ⟨2, ⟨some 22, .p (.mv (.tmp 7)), none, none⟩, [7], 1⟩,
  ⟨3, ⟨some 23, .p (.mv (.tmp 8)), none, none⟩, [8], 1⟩,
  ⟨14, ⟨some 33, .p (.idxL 1 (.tmp 22) (.tmp 23)), none, none⟩, [22, 23], 0⟩,
  ⟨15, ⟨none, .e (.store none (.tmp 33) (.tmp 31)), none, none⟩, [33, 31], 0⟩])))
  (.region [⟨some 34, .p (.bin .add (.tmp 17) (.const (.int .i64 1))), none, none⟩,
  ⟨some 17, .p (.mv (.tmp 34)), none, none⟩]))))))))
noncomputable def e_matrix_M_swap (k : Nat) (D : CallF) : Ent := entOf 80 [(0, .st [.i .i64, .i .i64, .l]), (1, .i .i64), (2, .i .i64)] [] (matrix_M_swap k D)
theorem q_matrix_M_swap : (Try.f80.body).bind (rcodeOf Try.prog 0 Try.f80.ntmps) = some (strip r_matrix_M_swap) := by kernel_rfl
theorem t_matrix_M_swap (k : Nat) (D : CallF) : curF [(0, .st [.i .i64, .i .i64, .l]), (1, .i .i64), (2, .i .i64)] (fun args h => denF (C_matrix_M_swap k D) k r_matrix_M_swap [] [] args h) = matrix_M_swap k D := by kernel_rfl
theorem ok_matrix_M_swap {D : CallF} (hD : CSound Try.prog 0 D) (k : Nat) : EntOk Try.prog 0 (e_matrix_M_swap k D) :=
  entOf_ok2 (mkC_sound hD (EntsOk.more (ok_matrix_M_row hD k) (EntsOk.none))) Try.func80 rfl q_matrix_M_swap rfl (t_matrix_M_swap k D)
end Gy

namespace Gy
open Go Gx Go.Proofs
set_option maxRecDepth 100000

noncomputable def C_matrix_Space_divide (k : Nat) (D : CallF) : CallF := mkC D [e_field_Field_Div k D]
noncomputable def matrix_Space_divide_l0b (k : Nat) (D : CallF)  (rec8 : (Option Addr) → Slc → Int → Slc → Int → Int → AHeap → Option ((Unit) × AHeap)) (s1 : Option Addr) (row2 : Slc) (byv3 : Int) (y4 : Slc) (y5 : Int) (y6 : Int) (h7 : AHeap) : Option ((Unit) × AHeap) :=
  (if (decide (y6 < y5)) = true then
  (Gx.idxL 1 y4 y6).bind fun q9 =>
  (ldI .i64 q9 h7).bind fun x10 =>
  (s1).bind fun p11 =>
  (ldP (⟨p11.block, p11.off + 0, none⟩ : Addr) h7).bind fun x12 =>
  (field_Field_Div k D x12 x10 byv3 h7).bind fun r13 =>
  (Gx.idxL 1 row2 y6).bind fun q14 =>
  (st1 q14 (.int .i64 r13.1.1) r13.2).bind fun h15 =>
  rec8 s1 row2 byv3 y4 y5 (IntKind.wrap .i64 (y6 + 1)) h15
  else
  some ((), h7))
noncomputable def matrix_Space_divide_l0 (k : Nat) (D : CallF)  : (Option Addr) → Slc → Int → Slc → Int → Int → AHeap → Option ((Unit) × AHeap) :=
  iterK (α := (Option Addr) → Slc → Int → Slc → Int → Int → AHeap → Option ((Unit) × AHeap)) (fun _ _ _ _ _ _ _ => none) k (matrix_Space_divide_l0b k D )
noncomputable def matrix_Space_divide (k : Nat) (D : CallF) (s_0 : Option Addr) (row_1 : Slc) (by_2 : Int) (h : AHeap) : Option ((Unit) × AHeap) :=
  matrix_Space_divide_l0 k D s_0 row_1 by_2 row_1 (row_1.len : Int) 0 h
def r_matrix_Space_divide : RCode := .seq (.region [⟨some 8, .p (.mv (.tmp 1)), none, none⟩,
  ⟨some 9, .p (.lenL (.tmp 8)), none, none⟩,
  ⟨some 10, .p (.mv (.const (.int .i64 0))), none, none⟩])
  (.block 0 (.loop [(0, .p), (1, .l), (2, .i .i64), (8, .l), (9, .i .i64), (10, .i .i64)] (.seq (.region [⟨some 11, .p (.bin .lss (.tmp 10) (.tmp 9)), none, none⟩])
  (.seq (.cond (.tmp 11) (.skip) (.exit 0))
  (.seq (.block 1 (.seq (.region [⟨some 12, .p (.mv (.tmp 10)), none, none⟩,
  ⟨some 13, .p (.idxL 1 (.tmp 8) (.tmp 10)), none, none⟩,
  ⟨some 14, .l (.load (.i .i64) (.tmp 13)), none, none⟩,
  ⟨some 6, .p (.mv (.tmp 12)), none, none⟩,
  ⟨some 7, .p (.mv (.tmp 14)), none, none⟩])
  (.region [⟨some 16, .p (.mv (.tmp 1)), none, none⟩,
  ⟨some 17, .p (.mv (.tmp 6)), none, none⟩,
  ⟨some 18, .p (.mv (.tmp 0)), none, none⟩,
  ⟨some 19, .p (.nilP (.tmp 18)), none, none⟩,
  ⟨some 20, .p (.fieldAddr 0 (.tmp 19)), none, none⟩,
  ⟨some 21, .l (.load (.p) (.tmp 20)), none, none⟩,
  ⟨some 22, .p (.mv (.tmp 7)), none, none⟩,
  ⟨some 23, .p (.mv (.tmp 2)), none, none⟩,
  ⟨some 24, .e (.call (.func 19) [.tmp 21, .tmp 22, .tmp 23]), none, none⟩,
  ⟨some 15, .p (.mv (.tmp 24)), none, none⟩,
  ⟨some 25, .p (.extract (.tmp 15) 0), none, none⟩,
  ⟨some 26, .p (.extract (.tmp 15) 1), none, none⟩,
  ⟨some 27, .p (.idxL 1 (.tmp 16) (.tmp 17)), none, none⟩,
  ⟨none, .e (.store none (.tmp 27) (.tmp 25)), none, none⟩])))
  (.region [⟨some 28, .p (.bin .add (.tmp 10) (.const (.int .i64 1))), none, none⟩,
  ⟨some 10, .p (.mv (.tmp 28)), none, none⟩]))))))
noncomputable def e_matrix_Space_divide (k : Nat) (D : CallF) : Ent := entOf 81 [(0, .p), (1, .l), (2, .i .i64)] [] (matrix_Space_divide k D)
theorem q_matrix_Space_divide : (Try.f81.body).bind (rcodeOf Try.prog 0 Try.f81.ntmps) = some (strip r_matrix_Space_divide) := by kernel_rfl
theorem t_matrix_Space_divide (k : Nat) (D : CallF) : curF [(0, .p), (1, .l), (2, .i .i64)] (fun args h => denF (C_matrix_Space_divide k D) k r_matrix_Space_divide [] [] args h) = matrix_Space_divide k D := by kernel_rfl
theorem ok_matrix_Space_divide {D : CallF} (hD : CSound Try.prog 0 D) (k : Nat) : EntOk Try.prog 0 (e_matrix_Space_divide k D) :=
  entOf_ok2 (mkC_sound hD (EntsOk.more (ok_field_Field_Div hD k) (EntsOk.none))) Try.func81 rfl q_matrix_Space_divide rfl (t_matrix_Space_divide k D)
end Gy

namespace Gy
open Go Gx Go.Proofs
set_option maxRecDepth 100000

noncomputable def C_matrix_Space_steps (k : Nat) (D : CallF) : CallF := mkC D [e_matrix_M_swap k D, e_matrix_M_row k D, e_matrix_Space_divide k D, e_matrix_Space_add k D]
noncomputable def matrix_Space_steps_l2b (k : Nat) (D : CallF) (j35 : (Option Addr) → (Option Addr) → (Option Addr) → Int → Int → Int → AHeap → Option ((Int) × AHeap)) (rec138 : (Option Addr) → (Option Addr) → (Option Addr) → Int → Int → Int → AHeap → Option ((Int) × AHeap)) (s131 : Option Addr) (a132 : Option Addr) (beside133 : Option Addr) (rank134 : Int) (j135 : Int) (lead136 : Int) (h137 : AHeap) : Option ((Int) × AHeap) :=
  joinK (fun (s139 : Option Addr) (a140 : Option Addr) (beside141 : Option Addr) (rank142 : Int) (j143 : Int) (lead144 : Int) (y145 : Bool) (h146 : AHeap) =>
  (if y145 = true then
  rec138 s139 a140 beside141 rank142 j143 (IntKind.wrap .i64 (lead144 + 1)) h146
  else
  j35 s139 a140 beside141 rank142 j143 lead144 h146)) fun j147 =>
  (a132).bind fun p148 =>
  (ldI .i64 (⟨p148.block, p148.off + 0, none⟩ : Addr) h137).bind fun x149 =>
  (if (decide (lead136 < x149)) = true then
  (a132).bind fun p150 =>
  (ldA 3 p150 h137).bind fun l151 =>
  (decC [.i .i64, .i .i64, .l] l151).bind fun x152 =>
  (matrix_M_row k D (x152.1, x152.2.1, x152.2.2) lead136 h137).bind fun r153 =>
  (Gx.idxL 1 r153.1 j135).bind fun q154 =>
  (ldI .i64 q154 r153.2).bind fun x155 =>
  j147 s131 a132 beside133 rank134 j135 lead136 (x155 == 0) r153.2
  else
  j147 s131 a132 beside133 rank134 j135 lead136 false h137)
noncomputable def matrix_Space_steps_l2 (k : Nat) (D : CallF) (j35 : (Option Addr) → (Option Addr) → (Option Addr) → Int → Int → Int → AHeap → Option ((Int) × AHeap)) : (Option Addr) → (Option Addr) → (Option Addr) → Int → Int → Int → AHeap → Option ((Int) × AHeap) :=
  iterK (α := (Option Addr) → (Option Addr) → (Option Addr) → Int → Int → Int → AHeap → Option ((Int) × AHeap)) (fun _ _ _ _ _ _ _ => none) k (matrix_Space_steps_l2b k D j35)
noncomputable def matrix_Space_steps_l1b (k : Nat) (D : CallF) (j68 : (Option Addr) → (Option Addr) → (Option Addr) → Int → Int → AHeap → Option ((Int) × AHeap)) (rec79 : (Option Addr) → (Option Addr) → (Option Addr) → Int → Int → Int → Int → AHeap → Option ((Int) × AHeap)) (s71 : Option Addr) (a72 : Option Addr) (beside73 : Option Addr) (rank74 : Int) (j75 : Int) (y76 : Int) (y77 : Int) (h78 : AHeap) : Option ((Int) × AHeap) :=
  (if (decide (y77 < y76)) = true then
  joinK (fun (s80 : Option Addr) (a81 : Option Addr) (beside82 : Option Addr) (rank83 : Int) (j84 : Int) (y85 : Int) (y86 : Int) (h87 : AHeap) =>
  rec79 s80 a81 beside82 rank83 j84 y85 (IntKind.wrap .i64 (y86 + 1)) h87) fun j88 =>
  (a72).bind fun p89 =>
  (ldA 3 p89 h78).bind fun l90 =>
  (decC [.i .i64, .i .i64, .l] l90).bind fun x91 =>
  (matrix_M_row k D (x91.1, x91.2.1, x91.2.2) y77 h78).bind fun r92 =>
  (Gx.idxL 1 r92.1 j75).bind fun q93 =>
  (ldI .i64 q93 r92.2).bind fun x94 =>
  joinK (fun (s95 : Option Addr) (a96 : Option Addr) (beside97 : Option Addr) (rank98 : Int) (j99 : Int) (i100 : Int) (byv101 : Int) (y102 : Int) (y103 : Int) (y104 : Bool) (h105 : AHeap) =>
  (if y104 = true then
  (a96).bind fun p107 =>
  (ldA 3 p107 h105).bind fun l108 =>
  (decC [.i .i64, .i .i64, .l] l108).bind fun x109 =>
  (matrix_M_row k D (x109.1, x109.2.1, x109.2.2) i100 h105).bind fun r110 =>
  (a96).bind fun p111 =>
  (ldA 3 p111 r110.2).bind fun l112 =>
  guardP (SameW [h105] (fun H114 => (a96).bind fun p115 => (ldA 3 p115 H114).bind fun y113 => some (.agg ⟨y113⟩)) (.agg ⟨l112⟩)) (
  (decC [.i .i64, .i .i64, .l] l112).bind fun x116 =>
  (matrix_M_row k D (x116.1, x116.2.1, x116.2.2) rank98 r110.2).bind fun r117 =>
  (matrix_Space_add k D s95 r110.1 r117.1 byv101 r117.2).bind fun r118 =>
  (beside97).bind fun p119 =>
  (ldA 3 p119 r118.2).bind fun l120 =>
  (decC [.i .i64, .i .i64, .l] l120).bind fun x121 =>
  (matrix_M_row k D (x121.1, x121.2.1, x121.2.2) i100 r118.2).bind fun r122 =>
  (beside97).bind fun p123 =>
  (ldA 3 p123 r122.2).bind fun l124 =>
  guardP (SameW [r118.2] (fun H126 => (beside97).bind fun p127 => (ldA 3 p127 H126).bind fun y125 => some (.agg ⟨y125⟩)) (.agg ⟨l124⟩)) (
  (decC [.i .i64, .i .i64, .l] l124).bind fun x128 =>
  (matrix_M_row k D (x128.1, x128.2.1, x128.2.2) rank98 r122.2).bind fun r129 =>
  (matrix_Space_add k D s95 r122.1 r129.1 byv101 r129.2).bind fun r130 =>
  j88 s95 a96 beside97 rank98 j99 y102 y103 r130.2))
  else
  j88 s95 a96 beside97 rank98 j99 y102 y103 h105)) fun j106 =>
  (if (y77 != rank74) = true then
  j106 s71 a72 beside73 rank74 j75 y77 x94 y76 y77 (x94 != 0) r92.2
  else
  j106 s71 a72 beside73 rank74 j75 y77 x94 y76 y77 false r92.2)
  else
  j68 s71 a72 beside73 rank74 j75 h78)
noncomputable def matrix_Space_steps_l1 (k : Nat) (D : CallF) (j68 : (Option Addr) → (Option Addr) → (Option Addr) → Int → Int → AHeap → Option ((Int) × AHeap)) : (Option Addr) → (Option Addr) → (Option Addr) → Int → Int → Int → Int → AHeap → Option ((Int) × AHeap) :=
  iterK (α := (Option Addr) → (Option Addr) → (Option Addr) → Int → Int → Int → Int → AHeap → Option ((Int) × AHeap)) (fun _ _ _ _ _ _ _ _ => none) k (matrix_Space_steps_l1b k D j68)
noncomputable def matrix_Space_steps_l0b (k : Nat) (D : CallF) (j5 : Int → AHeap → Option ((Int) × AHeap)) (rec12 : (Option Addr) → (Option Addr) → (Option Addr) → Int → Int → AHeap → Option ((Int) × AHeap)) (s6 : Option Addr) (a7 : Option Addr) (beside8 : Option Addr) (rank9 : Int) (j10 : Int) (h11 : AHeap) : Option ((Int) × AHeap) :=
  joinK (fun (s13 : Option Addr) (a14 : Option Addr) (beside15 : Option Addr) (rank16 : Int) (j17 : Int) (y18 : Bool) (h19 : AHeap) =>
  (if y18 = true then
  joinK (fun (s21 : Option Addr) (a22 : Option Addr) (beside23 : Option Addr) (rank24 : Int) (j25 : Int) (h26 : AHeap) =>
  rec12 s21 a22 beside23 rank24 (IntKind.wrap .i64 (j25 + 1)) h26) fun j27 =>
  joinK (fun (s28 : Option Addr) (a29 : Option Addr) (beside30 : Option Addr) (rank31 : Int) (j32 : Int) (lead33 : Int) (h34 : AHeap) =>
  (a29).bind fun p36 =>
  (ldI .i64 (⟨p36.block, p36.off + 0, none⟩ : Addr) h34).bind fun x37 =>
  (if (lead33 == x37) = true then
  j27 s28 a29 beside30 rank31 j32 h34
  else
  (a29).bind fun p38 =>
  (ldA 3 p38 h34).bind fun l39 =>
  (decC [.i .i64, .i .i64, .l] l39).bind fun x40 =>
  (matrix_M_swap k D (x40.1, x40.2.1, x40.2.2) lead33 rank31 h34).bind fun r41 =>
  (beside30).bind fun p42 =>
  (ldA 3 p42 r41.2).bind fun l43 =>
  (decC [.i .i64, .i .i64, .l] l43).bind fun x44 =>
  (matrix_M_swap k D (x44.1, x44.2.1, x44.2.2) lead33 rank31 r41.2).bind fun r45 =>
  (a29).bind fun p46 =>
  (ldA 3 p46 r45.2).bind fun l47 =>
  (decC [.i .i64, .i .i64, .l] l47).bind fun x48 =>
  (matrix_M_row k D (x48.1, x48.2.1, x48.2.2) rank31 r45.2).bind fun r49 =>
  (Gx.idxL 1 r49.1 j32).bind fun q50 =>
  (ldI .i64 q50 r49.2).bind fun x51 =>
  (a29).bind fun p52 =>
  (ldA 3 p52 r49.2).bind fun l53 =>
  (decC [.i .i64, .i .i64, .l] l53).bind fun x54 =>
  (matrix_M_row k D (x54.1, x54.2.1, x54.2.2) rank31 r49.2).bind fun r55 =>
  (matrix_Space_divide k D s28 r55.1 x51 r55.2).bind fun r56 =>
  (beside30).bind fun p57 =>
  (ldA 3 p57 r56.2).bind fun l58 =>
  (decC [.i .i64, .i .i64, .l] l58).bind fun x59 =>
  (matrix_M_row k D (x59.1, x59.2.1, x59.2.2) rank31 r56.2).bind fun r60 =>
  (matrix_Space_divide k D s28 r60.1 x51 r60.2).bind fun r61 =>
  joinK (fun (s62 : Option Addr) (a63 : Option Addr) (beside64 : Option Addr) (rank65 : Int) (j66 : Int) (h67 : AHeap) =>
  j27 s62 a63 beside64 (IntKind.wrap .i64 (rank65 + 1)) j66 h67) fun j68 =>
  (a29).bind fun p69 =>
  (ldI .i64 (⟨p69.block, p69.off + 0, none⟩ : Addr) r61.2).bind fun x70 =>
  matrix_Space_steps_l1 k D j68 s28 a29 beside30 rank31 j32 x70 0 r61.2)) fun j35 =>
  matrix_Space_steps_l2 k D j35 s13 a14 beside15 rank16 j17 rank16 h19
  else
  j5 rank16 h19)) fun j20 =>
  (a7).bind fun p156 =>
  (ldI .i64 (⟨p156.block, p156.off + 1, none⟩ : Addr) h11).bind fun x157 =>
  (if (decide (j10 < x157)) = true then
  (a7).bind fun p158 =>
  (ldI .i64 (⟨p158.block, p158.off + 0, none⟩ : Addr) h11).bind fun x159 =>
  j20 s6 a7 beside8 rank9 j10 (decide (rank9 < x159)) h11
  else
  j20 s6 a7 beside8 rank9 j10 false h11)
noncomputable def matrix_Space_steps_l0 (k : Nat) (D : CallF) (j5 : Int → AHeap → Option ((Int) × AHeap)) : (Option Addr) → (Option Addr) → (Option Addr) → Int → Int → AHeap → Option ((Int) × AHeap) :=
  iterK (α := (Option Addr) → (Option Addr) → (Option Addr) → Int → Int → AHeap → Option ((Int) × AHeap)) (fun _ _ _ _ _ _ => none) k (matrix_Space_steps_l0b k D j5)
noncomputable def matrix_Space_steps (k : Nat) (D : CallF) (s_0 : Option Addr) (a_1 : Int × Int × Slc) (beside_2 : Int × Int × Slc) (h : AHeap) : Option ((Int) × AHeap) :=
  let h1 := AHeap.new h (.cells [.int .i64 a_1.1, .int .i64 a_1.2.1, .slice a_1.2.2.a a_1.2.2.len a_1.2.2.cap] 51 true 0)
  let h2 := AHeap.new h1 (.cells [.int .i64 beside_2.1, .int .i64 beside_2.2.1, .slice beside_2.2.2.a beside_2.2.2.len beside_2.2.2.cap] 51 true 0)
  joinK (fun (rank3 : Int) (h4 : AHeap) =>
  some (rank3, h4)) fun j5 =>
  matrix_Space_steps_l0 k D j5 s_0 (some (⟨h.next, 0, none⟩ : Addr)) (some (⟨h1.next, 0, none⟩ : Addr)) 0 0 h2
def r_matrix_Space_steps : RCode := .seq (.region [⟨some 4, .a (.box 51 (.tmp 1)), none, none⟩,
  ⟨some 5, .a (.box 51 (.tmp 2)), none, none⟩,
  ⟨some 6, .p (.mv (.const (.int .i64 0))), none, none⟩])
  (.seq (.region [⟨some 7, .p (.mv (.const (.int .i64 0))), none, none⟩])
  (.seq (.join [(7, .i .i64)] (.seq (.region [⟨some 8, .p (.mv (.const (.int .i64 0))), none, none⟩])
  (.block 0 (.loop [(0, .p), (4, .p), (5, .p), (7, .i .i64), (8, .i .i64)] (.seq (.seq (.join [(0, .p), (4, .p), (5, .p), (7, .i .i64), (8, .i .i64), (22, .b)] (.region [⟨some 13, .p (.mv (.tmp 8)), none, none⟩,
  ⟨some 14, .p (.fieldAddr 1 (.tmp 4)), none, none⟩,
  ⟨some 15, .l (.load (.i .i64) (.tmp 14)), none, none⟩,
  ⟨some 16, .p (.bin .lss (.tmp 13) (.tmp 15)), none, none⟩,
  ⟨some 17, .p (.mv (.tmp 16)), none, none⟩,
  ⟨some 18, .p (.mv (.tmp 7)), (some (17, true)), none⟩,
  ⟨some 19, .p (.fieldAddr 0 (.tmp 4)), (some (17, true)), none⟩,
  ⟨some 20, .l (.load (.i .i64) (.tmp 19)), (some (17, true)), none⟩,
  ⟨some 21, .p (.bin .lss (.tmp 18) (.tmp 20)), (some (17, true)), none⟩,
  ⟨some 22, .p (.pick (.tmp 17) (.tmp 21) (.const (.bool false))), none, none⟩]))
  (.cond (.tmp 22) (.skip) (.exit 0)))
  (.seq (.join [(0, .p), (4, .p), (5, .p), (7, .i .i64), (8, .i .i64)] (.block 1 (.seq (.region [⟨some 25, .p (.mv (.tmp 7)), none, none⟩,
  ⟨some 9, .p (.mv (.tmp 25)), none, none⟩])
  (.seq (.join [(0, .p), (4, .p), (5, .p), (7, .i .i64), (8, .i .i64), (9, .i .i64)] (.block 2 (.loop [(0, .p), (4, .p), (5, .p), (7, .i .i64), (8, .i .i64), (9, .i .i64)] (.seq (.seq (.join [(0, .p), (4, .p), (5, .p), (7, .i .i64), (8, .i .i64), (9, .i .i64), (38, .b)] (.region [⟨some 26, .p (.mv (.tmp 9)), none, none⟩,
  ⟨some 27, .p (.fieldAddr 0 (.tmp 4)), none, none⟩,
  ⟨some 28, .l (.load (.i .i64) (.tmp 27)), none, none⟩,
  ⟨some 29, .p (.bin .lss (.tmp 26) (.tmp 28)), none, none⟩,
  ⟨some 30, .p (.mv (.tmp 29)), none, none⟩,
  ⟨some 31, .l (.load (.agg 3) (.tmp 4)), (some (30, true)), some (.st [.i .i64, .i .i64, .l])⟩,
  ⟨some 32, .p (.mv (.tmp 9)), (some (30, true)), none⟩,
  ⟨some 33, .e (.call (.func 66) [.tmp 31, .tmp 32]), (some (30, true)), none⟩,
  ⟨some 34, .p (.mv (.tmp 8)), (some (30, true)), none⟩,
  ⟨some 35, .p (.idxL 1 (.tmp 33) (.tmp 34)), (some (30, true)), none⟩,
  ⟨some 36, .l (.load (.i .i64) (.tmp 35)), (some (30, true)), none⟩,
  ⟨some 37, .p (.bin .eql (.tmp 36) (.const (.int .i64 0))), (some (30, true)), none⟩,
  ⟨some 38, .p (.pick (.tmp 30) (.tmp 37) (.const (.bool false))), none, none⟩]))
  (.cond (.tmp 38) (.skip) (.exit 2)))
  (.block 3 (.region [⟨some 39, .p (.mv (.tmp 9)), none, none⟩,
  ⟨some 40, .p (.bin .add (.tmp 39) (.const (.int .i64 1))), none, none⟩,
  ⟨some 9, .p (.mv (.tmp 40)), none, none⟩]))))))
  (.seq (.seq (.region [⟨some 41, .p (.mv (.tmp 9)), none, none⟩,
  ⟨some 42, .p (.fieldAddr 0 (.tmp 4)), none, none⟩,
  ⟨some 43, .l (.load (.i .i64) (.tmp 42)), none, none⟩,
  ⟨some 44, .p (.bin .eql (.tmp 41) (.tmp 43)), none, none⟩])
  (.cond (.tmp 44) (.exit 1) (.skip)))
  (.seq (.region [⟨some 45, .l (.load (.agg 3) (.tmp 4)), none, some (.st [.i .i64, .i .i64, .l])⟩,
  ⟨some 46, .p (.mv (.tmp 9)), none, none⟩,
  ⟨some 47, .p (.mv (.tmp 7)), none, none⟩,
  ⟨some 48, .e (.call (.func 80) [.tmp 45, .tmp 46, .tmp 47]), none, none⟩])
  (.seq (.region [⟨some 49, .l (.load (.agg 3) (.tmp 5)), none, some (.st [.i .i64, .i .i64, .l])⟩,
  ⟨some 50, .p (.mv (.tmp 9)), none, none⟩,
  ⟨some 51, .p (.mv (.tmp 7)), none, none⟩,
  ⟨some 52, .e (.call (.func 80) [.tmp 49, .tmp 50, .tmp 51]), none, none⟩])
  (.seq (.region [⟨some 53, .l (.load (.agg 3) (.tmp 4)), none, some (.st [.i .i64, .i .i64, .l])⟩,
  ⟨some 54, .p (.mv (.tmp 7)), none, none⟩,
  ⟨some 55, .e (.call (.func 66) [.tmp 53, .tmp 54]), none, none⟩,
  ⟨some 56, .p (.mv (.tmp 8)), none, none⟩,
  ⟨some 57, .p (.idxL 1 (.tmp 55) (.tmp 56)), none, none⟩,
  ⟨some 58, .l (.load (.i .i64) (.tmp 57)), none, none⟩,
  ⟨some 10, .p (.mv (.tmp 58)), none, none⟩])
  (.seq (.region [⟨some 59, .p (.mv (.tmp 0)), none, none⟩,
  ⟨some 60, .l (.load (.agg 3) (.tmp 4)), none, some (.st [.i .i64, .i .i64, .l])⟩,
  ⟨some 61, .p (.mv (.tmp 7)), none, none⟩,
  ⟨some 62, .e (.call (.func 66) [.tmp 60, .tmp 61]), none, none⟩,
  ⟨some 63, .p (.mv (.tmp 10)), none, none⟩,
  ⟨some 64, .e (.call (.func 81) [.tmp 59, .tmp 62, .tmp 63]), none, none⟩])
  (.seq (.region [⟨some 65, .p (.mv (.tmp 0)), none, none⟩,
  ⟨some 66, .l (.load (.agg 3) (.tmp 5)), none, some (.st [.i .i64, .i .i64, .l])⟩,
  ⟨some 67, .p (.mv (.tmp 7)), none, none⟩,
  ⟨some 68, .e (.call (.func 66) [.tmp 66, .tmp 67]), none, none⟩,
  ⟨some 69, .p (.mv (.tmp 10)), none, none⟩,
  ⟨some 70, .e (.call (.func 81) [.tmp 65, .tmp 68, .tmp 69]), none, none⟩])
  (.seq (.join [(0, .p), (4, .p), (5, .p), (7, .i .i64), (8, .i .i64)] (.seq (.region [⟨some 71, .p (.fieldAddr 0 (.tmp 4)), none, none⟩,
  ⟨some 72, .l (.load (.i .i64) (.tmp 71)), none, none⟩,
  ⟨some 73, .p (.mv (.const (.int .i64 0))), none, none⟩])
  (.block 4 (.loop [(0, .p), (4, .p), (5, .p), (7, .i .i64), (8, .i .i64), (72, .i .i64), (73, .i .i64)] (.seq (.region [⟨some 74, .p (.bin .lss (.tmp 73) (.tmp 72)), none, none⟩])
  (.seq (.cond (.tmp 74) (.skip) (.exit 4))
  (.seq (.join [(0, .p), (4, .p), (5, .p), (7, .i .i64), (8, .i .i64), (72, .i .i64), (73, .i .i64)] (.block 5 (.seq (.region [⟨some 75, .p (.mv (.tmp 73)), none, none⟩,
  ⟨some 11, .p (.mv (.tmp 75)), none, none⟩])
  (.seq (.region [⟨some 76, .l (.load (.agg 3) (.tmp 4)), none, some (.st [.i .i64, .i .i64, .l])⟩,
  ⟨some 77, .p (.mv (.tmp 11)), none, none⟩,
  ⟨some 78, .e (.call (.func 66) [.tmp 76, .tmp 77]), none, none⟩,
  ⟨some 79, .p (.mv (.tmp 8)), none, none⟩,
  ⟨some 80, .p (.idxL 1 (.tmp 78) (.tmp 79)), none, none⟩,
  ⟨some 81, .l (.load (.i .i64) (.tmp 80)), none, none⟩,
  ⟨some 12, .p (.mv (.tmp 81)), none, none⟩])
  (.seq (.join [(0, .p), (4, .p), (5, .p), (7, .i .i64), (8, .i .i64), (11, .i .i64), (12, .i .i64), (72, .i .i64), (73, .i .i64), (88, .b)] (.region [⟨some 82, .p (.mv (.tmp 11)), none, none⟩,
  ⟨some 83, .p (.mv (.tmp 7)), none, none⟩,
  ⟨some 84, .p (.bin .neq (.tmp 82) (.tmp 83)), none, none⟩,
  ⟨some 85, .p (.mv (.tmp 84)), none, none⟩,
  ⟨some 86, .p (.mv (.tmp 12)), (some (85, true)), none⟩,
  ⟨some 87, .p (.bin .neq (.tmp 86) (.const (.int .i64 0))), (some (85, true)), none⟩,
  ⟨some 88, .p (.pick (.tmp 85) (.tmp 87) (.const (.bool false))), none, none⟩]))
  (.cond (.tmp 88) (.seq (.draw [⟨1, ⟨some 90, .l (.load (.agg 3) (.tmp 4)), none, some (.st [.i .i64, .i .i64, .l])⟩, [4], 0⟩,
  ⟨2, ⟨some 91, .p (.mv (.tmp 11)), none, none⟩, [11], 0⟩,
  ⟨3, ⟨some 92, .e (.call (.func 66) [.tmp 90, .tmp 91]), none, none⟩, [90, 91], 0⟩,
  ⟨4, ⟨some 93, .l (.load (.agg 3) (.tmp 4)), none, some (.st [.i .i64, .i .i64, .l])⟩, [4], 1⟩,
  ⟨5, ⟨some 94, .p (.mv (.tmp 7)), none, none⟩, [7], 1⟩,
  ⟨6, ⟨some 95, .e (.call (.func 66) [.tmp 93, .tmp 94]), none, none⟩, [93, 94], 0⟩,
  ⟨0, ⟨some 89, .p (.mv (.tmp 0)), none, none⟩, [0], 2⟩,
  ⟨7, ⟨some 96, .p (.mv (.tmp 12)), none, none⟩, [12], 2⟩,
  ⟨8, ⟨some 97, .e (.call (.func 68) [.tmp 89, .tmp 92, .tmp 95, .tmp 96]), none, none⟩, [89, 92, 95, 96], 0⟩])
  (.draw [⟨1, ⟨some 99, .l (.load (.agg 3) (.tmp 5)), none, some (.st [.i .i64, .i .i64, .l])⟩, [5], 0⟩,
  ⟨2, ⟨some 100, .p (.mv (.tmp 11)), none, none⟩, [11], 0⟩,
  ⟨3, ⟨some 101, .e (.call (.func 66) [.tmp 99, .tmp 100]), none, none⟩, [99, 100], 0⟩,
  ⟨4, ⟨some 102, .l (.load (.agg 3) (.tmp 5)), none, some (.st [.i .i64, .i .i64, .l])⟩, [5], 1⟩,
  ⟨5, ⟨some 103, .p (.mv (.tmp 7)), none, none⟩, [7], 1⟩,
  ⟨6, ⟨some 104, .e (.call (.func 66) [.tmp 102, .tmp 103]), none, none⟩, [102, 103], 0⟩,
  ⟨0, ⟨some 98, .p (.mv (.tmp 0)), none, none⟩, [0], 2⟩,
  ⟨7, ⟨some 105, .p (.mv (.tmp 12)), none, none⟩, [12], 2⟩,
  ⟨8, ⟨some 106, .e (.call (.func 68) [.tmp 98, .tmp 101, .tmp 104, .tmp 105]), none, none⟩, [98, 101, 104, 105], 0⟩])) (.skip)))))))
  (.region [⟨some 107, .p (.bin .add (.tmp 73) (.const (.int .i64 1))), none, none⟩,
  ⟨some 73, .p (.mv (.tmp 107)), none, none⟩]))))))))
  (.region [⟨some 108, .p (.mv (.tmp 7)), none, none⟩,
  ⟨some 109, .p (.bin .add (.tmp 108) (.const (.int .i64 1))), none, none⟩,
  ⟨some 7, .p (.mv (.tmp 109)), none, none⟩]))))))))))))
  (.region [⟨some 23, .p (.mv (.tmp 8)), none, none⟩,
  ⟨some 24, .p (.bin .add (.tmp 23) (.const (.int .i64 1))), none, none⟩,
  ⟨some 8, .p (.mv (.tmp 24)), none, none⟩])))))))
  (.seq (.region [⟨some 110, .p (.mv (.tmp 7)), none, none⟩,
  ⟨some 6, .p (.mv (.tmp 110)), none, none⟩])
  (.ret))))
noncomputable def e_matrix_Space_steps (k : Nat) (D : CallF) : Ent := entOf 69 [(0, .p), (1, .st [.i .i64, .i .i64, .l]), (2, .st [.i .i64, .i .i64, .l])] [(6, .i .i64)] (matrix_Space_steps k D)
theorem q_matrix_Space_steps : (Try.f69.body).bind (rcodeOf Try.prog 0 Try.f69.ntmps) = some (strip r_matrix_Space_steps) := by kernel_rfl
theorem t_matrix_Space_steps (k : Nat) (D : CallF) : curF [(0, .p), (1, .st [.i .i64, .i .i64, .l]), (2, .st [.i .i64, .i .i64, .l])] (fun args h => denF (C_matrix_Space_steps k D) k r_matrix_Space_steps [(6, .i .i64)] [none] args h) = matrix_Space_steps k D := by kernel_rfl
theorem ok_matrix_Space_steps {D : CallF} (hD : CSound Try.prog 0 D) (k : Nat) : EntOk Try.prog 0 (e_matrix_Space_steps k D) :=
  entOf_ok2 (mkC_sound hD (EntsOk.more (ok_matrix_M_swap hD k) (EntsOk.more (ok_matrix_M_row hD k) (EntsOk.more (ok_matrix_Space_divide hD k) (EntsOk.more (ok_matrix_Space_add hD k) (EntsOk.none)))))) Try.func69 rfl q_matrix_Space_steps rfl (t_matrix_Space_steps k D)
end Gy

namespace Gy
open Go Gx Go.Proofs
set_option maxRecDepth 100000

noncomputable def C_matrix_Space_Inverse (k : Nat) (D : CallF) : CallF := mkC D [e_matrix_Check k D, e_matrix_One k D, e_matrix_clone k D, e_matrix_Space_steps k D]
noncomputable def matrix_Space_Inverse (k : Nat) (D : CallF) (s_0 : Option Addr) (a_1 : Int × Int × Slc) (h : AHeap) : Option (((Int × Int × Slc) × Int) × AHeap) :=
  let h1 := AHeap.new h (.cells [.int .i64 a_1.1, .int .i64 a_1.2.1, .slice a_1.2.2.a a_1.2.2.len a_1.2.2.cap] 51 true 0)
  let h2 := AHeap.new h1 (.cells [.int .i64 0, .int .i64 0, .slice none 0 0] 51 true 0)
  (ldA 3 (⟨h.next, 0, none⟩ : Addr) h2).bind fun l3 =>
  (decC [.i .i64, .i .i64, .l] l3).bind fun x4 =>
  (matrix_Check k D (x4.1, x4.2.1, x4.2.2) h2).bind fun r5 =>
  (if (r5.1 != 0) = true then
  (stL 3 (⟨h1.next, 0, none⟩ : Addr) ([.int .i64 0, .int .i64 0, .slice none 0 0]) r5.2).bind fun h6 =>
  (ldA 3 (⟨h1.next, 0, none⟩ : Addr) h6).bind fun l7 =>
  (decC [.i .i64, .i .i64, .l] l7).bind fun x8 =>
  some (((x8.1, x8.2.1, x8.2.2), r5.1), h6)
  else
  (ldI .i64 (⟨h.next, 0, none⟩ : Addr) r5.2).bind fun x9 =>
  (ldI .i64 (⟨h.next, 1, none⟩ : Addr) r5.2).bind fun x10 =>
  (if (x9 != x10) = true then
  (stL 3 (⟨h1.next, 0, none⟩ : Addr) ([.int .i64 0, .int .i64 0, .slice none 0 0]) r5.2).bind fun h11 =>
  (ldA 3 (⟨h1.next, 0, none⟩ : Addr) h11).bind fun l12 =>
  (decC [.i .i64, .i .i64, .l] l12).bind fun x13 =>
  some (((x13.1, x13.2.1, x13.2.2), 4), h11)
  else
  (ldI .i64 (⟨h.next, 0, none⟩ : Addr) r5.2).bind fun x14 =>
  (matrix_One k D x14 r5.2).bind fun r15 =>
  let h16 := AHeap.new r15.2 (.cells [.int .i64 0, .int .i64 0, .slice none 0 0] 51 true 0)
  (stL 3 (⟨r15.2.next, 0, none⟩ : Addr) ([.int .i64 r15.1.1.1, .int .i64 r15.1.1.2.1, .slice r15.1.1.2.2.a r15.1.1.2.2.len r15.1.1.2.2.cap]) h16).bind fun h17 =>
  (ldA 3 (⟨h.next, 0, none⟩ : Addr) h17).bind fun l18 =>
  (decC [.i .i64, .i .i64, .l] l18).bind fun x19 =>
  (matrix_clone k D (x19.1, x19.2.1, x19.2.2) h17).bind fun r20 =>
  (ldA 3 (⟨r15.2.next, 0, none⟩ : Addr) r20.2).bind fun l21 =>
  guardP (SameW [h17] (fun H23 => (ldA 3 (⟨r15.2.next, 0, none⟩ : Addr) H23).bind fun y22 => some (.agg ⟨y22⟩)) (.agg ⟨l21⟩)) (
  (decC [.i .i64, .i .i64, .l] l21).bind fun x24 =>
  (matrix_Space_steps k D s_0 (r20.1.1, r20.1.2.1, r20.1.2.2) (x24.1, x24.2.1, x24.2.2) r20.2).bind fun r25 =>
  (ldI .i64 (⟨h.next, 0, none⟩ : Addr) r25.2).bind fun x26 =>
  guardP (SameW [r20.2, h17] (fun H28 => (ldI .i64 (⟨h.next, 0, none⟩ : Addr) H28).bind fun y27 => some (.int .i64 y27)) (.int .i64 x26)) (
  (if (decide (r25.1 < x26)) = true then
  (stL 3 (⟨h1.next, 0, none⟩ : Addr) ([.int .i64 0, .int .i64 0, .slice none 0 0]) r25.2).bind fun h29 =>
  (ldA 3 (⟨h1.next, 0, none⟩ : Addr) h29).bind fun l30 =>
  (decC [.i .i64, .i .i64, .l] l30).bind fun x31 =>
  some (((x31.1, x31.2.1, x31.2.2), 40), h29)
  else
  (ldA 3 (⟨r15.2.next, 0, none⟩ : Addr) r25.2).bind fun l32 =>
  (decC [.i .i64, .i .i64, .l] l32).bind fun x33 =>
  (stL 3 (⟨h1.next, 0, none⟩ : Addr) ([.int .i64 x33.1, .int .i64 x33.2.1, .slice x33.2.2.a x33.2.2.len x33.2.2.cap]) r25.2).bind fun h34 =>
  (ldA 3 (⟨h1.next, 0, none⟩ : Addr) h34).bind fun l35 =>
  (decC [.i .i64, .i .i64, .l] l35).bind fun x36 =>
  some (((x36.1, x36.2.1, x36.2.2), 0), h34))))))
def r_matrix_Space_Inverse : RCode := .seq (.region [⟨some 3, .a (.box 51 (.tmp 1)), none, none⟩,
  ⟨some 4, .a (.alloc 51 [.int .i64 0, .int .i64 0, .slice none 0 0]), none, none⟩,
  ⟨some 5, .p (.mv (.const (.int .i64 0))), none, none⟩])
  (.seq (.seq (.region [⟨some 9, .l (.load (.agg 3) (.tmp 3)), none, some (.st [.i .i64, .i .i64, .l])⟩,
  ⟨some 10, .e (.call (.func 53) [.tmp 9]), none, none⟩,
  ⟨some 6, .p (.mv (.tmp 10)), none, none⟩])
  (.seq (.region [⟨some 11, .p (.mv (.tmp 6)), none, none⟩,
  ⟨some 12, .p (.bin .neq (.tmp 11) (.const (.int .i64 0))), none, none⟩])
  (.cond (.tmp 12) (.seq (.region [⟨some 13, .p (.build [.int .i64 0, .int .i64 0, .slice none 0 0] []), none, none⟩,
  ⟨some 14, .p (.mv (.tmp 6)), none, none⟩,
  ⟨none, .e (.store (some 3) (.tmp 4) (.tmp 13)), none, none⟩,
  ⟨some 5, .p (.mv (.tmp 14)), none, none⟩])
  (.ret)) (.skip))))
  (.seq (.seq (.region [⟨some 15, .p (.fieldAddr 0 (.tmp 3)), none, none⟩,
  ⟨some 16, .l (.load (.i .i64) (.tmp 15)), none, none⟩,
  ⟨some 17, .p (.fieldAddr 1 (.tmp 3)), none, none⟩,
  ⟨some 18, .l (.load (.i .i64) (.tmp 17)), none, none⟩,
  ⟨some 19, .p (.bin .neq (.tmp 16) (.tmp 18)), none, none⟩])
  (.cond (.tmp 19) (.seq (.region [⟨some 20, .p (.build [.int .i64 0, .int .i64 0, .slice none 0 0] []), none, none⟩,
  ⟨none, .e (.store (some 3) (.tmp 4) (.tmp 20)), none, none⟩,
  ⟨some 5, .p (.mv (.const (.int .i64 4))), none, none⟩])
  (.ret)) (.skip)))
  (.seq (.region [⟨some 22, .p (.fieldAddr 0 (.tmp 3)), none, none⟩,
  ⟨some 23, .l (.load (.i .i64) (.tmp 22)), none, none⟩,
  ⟨some 24, .e (.call (.func 38) [.tmp 23]), none, none⟩,
  ⟨some 21, .p (.mv (.tmp 24)), none, none⟩,
  ⟨some 25, .p (.extract (.tmp 21) 0), none, none⟩,
  ⟨some 26, .p (.extract (.tmp 21) 1), none, none⟩,
  ⟨some 7, .a (.alloc 51 [.int .i64 0, .int .i64 0, .slice none 0 0]), none, none⟩,
  ⟨none, .e (.store (some 3) (.tmp 7) (.tmp 25)), none, none⟩,
  ⟨some 8, .p (.mv (.tmp 26)), none, none⟩])
  (.seq (.seq (.draw [⟨1, ⟨some 28, .l (.load (.agg 3) (.tmp 3)), none, some (.st [.i .i64, .i .i64, .l])⟩, [3], 0⟩,
  ⟨2, ⟨some 29, .e (.call (.func 70) [.tmp 28]), none, none⟩, [28], 0⟩,
  ⟨0, ⟨some 27, .p (.mv (.tmp 0)), none, none⟩, [0], 1⟩,
  ⟨3, ⟨some 30, .l (.load (.agg 3) (.tmp 7)), none, some (.st [.i .i64, .i .i64, .l])⟩, [7], 1⟩,
  ⟨4, ⟨some 31, .e (.call (.func 69) [.tmp 27, .tmp 29, .tmp 30]), none, none⟩, [27, 29, 30], 0⟩,
  ⟨5, ⟨some 32, .p (.fieldAddr 0 (.tmp 3)), none, none⟩, [3], 2⟩,
  ⟨6, ⟨some 33, .l (.load (.i .i64) (.tmp 32)), none, none⟩, [32], 2⟩,
  ⟨7, ⟨some 34, .p (.bin .lss (.tmp 31) (.tmp 33)), none, none⟩, [31, 33], 0⟩])
  (.cond (.tmp 34) (.seq (.region [⟨some 35, .p (.build [.int .i64 0, .int .i64 0, .slice none 0 0] []), none, none⟩,
  ⟨none, .e (.store (some 3) (.tmp 4) (.tmp 35)), none, none⟩,
  ⟨some 5, .p (.mv (.const (.int .i64 40))), none, none⟩])
  (.ret)) (.skip)))
  (.seq (.region [⟨some 36, .l (.load (.agg 3) (.tmp 7)), none, some (.st [.i .i64, .i .i64, .l])⟩,
  ⟨none, .e (.store (some 3) (.tmp 4) (.tmp 36)), none, none⟩,
  ⟨some 5, .p (.mv (.const (.int .i64 0))), none, none⟩])
  (.ret))))))
noncomputable def e_matrix_Space_Inverse (k : Nat) (D : CallF) : Ent := entOf 45 [(0, .p), (1, .st [.i .i64, .i .i64, .l])] [(4, .st [.i .i64, .i .i64, .l]), (5, .i .i64)] (matrix_Space_Inverse k D)
theorem q_matrix_Space_Inverse : (Try.f45.body).bind (rcodeOf Try.prog 0 Try.f45.ntmps) = some (strip r_matrix_Space_Inverse) := by kernel_rfl
theorem t_matrix_Space_Inverse (k : Nat) (D : CallF) : curF [(0, .p), (1, .st [.i .i64, .i .i64, .l])] (fun args h => denF (C_matrix_Space_Inverse k D) k r_matrix_Space_Inverse [(4, .st [.i .i64, .i .i64, .l]), (5, .i .i64)] [some (.agg 3), none] args h) = matrix_Space_Inverse k D := by kernel_rfl
theorem ok_matrix_Space_Inverse {D : CallF} (hD : CSound Try.prog 0 D) (k : Nat) : EntOk Try.prog 0 (e_matrix_Space_Inverse k D) :=
  entOf_ok2 (mkC_sound hD (EntsOk.more (ok_matrix_Check hD k) (EntsOk.more (ok_matrix_One hD k) (EntsOk.more (ok_matrix_clone hD k) (EntsOk.more (ok_matrix_Space_steps hD k) (EntsOk.none)))))) Try.func45 rfl q_matrix_Space_Inverse rfl (t_matrix_Space_Inverse k D)
end Gy

namespace Gy
open Go Gx Go.Proofs
set_option maxRecDepth 100000

noncomputable def C_ref04_copied (_k : Nat) (D : CallF) : CallF := mkC D []
noncomputable def ref04_copied (_k : Nat) (_D : CallF) (a_0 : Int × Int × Slc) (h : AHeap) : Option (((Int × Int × Slc)) × AHeap) :=
  let h1 := AHeap.new h (.cells [.int .i64 a_0.1, .int .i64 a_0.2.1, .slice a_0.2.2.a a_0.2.2.len a_0.2.2.cap] 54 true 0)
  let h2 := AHeap.new h1 (.cells [.int .i64 0, .int .i64 0, .slice none 0 0] 54 true 0)
  let h3 := AHeap.new h2 (.cells [] 3 true 0)
  (ldL (⟨h.next, 2, none⟩ : Addr) h3).bind fun x4 =>
  guardP (SameW [h2] (fun H6 => (ldL (⟨h.next, 2, none⟩ : Addr) H6).bind fun y5 => some (.slice y5.a y5.len y5.cap)) (.slice x4.a x4.len x4.cap)) (
  (rdS 1 x4 h3).bind fun n8 =>
  (appendA 1 8 3 h3 (⟨(some ⟨h2.next, 0, some 0⟩), 0, 0⟩ : Slc) n8 x4.len).bind fun r7 =>
  (ldI .i64 (⟨h.next, 0, none⟩ : Addr) r7.2).bind fun x9 =>
  guardP (SameW [h3, h2] (fun H11 => (ldI .i64 (⟨h.next, 0, none⟩ : Addr) H11).bind fun y10 => some (.int .i64 y10)) (.int .i64 x9)) (
  (ldI .i64 (⟨h.next, 1, none⟩ : Addr) r7.2).bind fun x12 =>
  guardP (SameW [h3, h2] (fun H14 => (ldI .i64 (⟨h.next, 1, none⟩ : Addr) H14).bind fun y13 => some (.int .i64 y13)) (.int .i64 x12)) (
  (stL 3 (⟨h1.next, 0, none⟩ : Addr) ([.int .i64 x9, .int .i64 x12, .slice r7.1.a r7.1.len r7.1.cap]) r7.2).bind fun h15 =>
  (ldA 3 (⟨h1.next, 0, none⟩ : Addr) h15).bind fun l16 =>
  (decC [.i .i64, .i .i64, .l] l16).bind fun x17 =>
  some ((x17.1, x17.2.1, x17.2.2), h15))))
def r_ref04_copied : RCode := .seq (.region [⟨some 1, .a (.box 54 (.tmp 0)), none, none⟩,
  ⟨some 2, .a (.alloc 54 [.int .i64 0, .int .i64 0, .slice none 0 0]), none, none⟩])
  (.seq (.draw [⟨4, ⟨some 7, .a (.buildSlice 3 0 (zerosL 0 [.int .i64 0]) []), none, none⟩, [], 0⟩,
  ⟨5, ⟨some 8, .p (.fieldAddr 2 (.tmp 1)), none, none⟩, [1], 1⟩,
  ⟨6, ⟨some 9, .l (.load (.l) (.tmp 8)), none, none⟩, [8], 1⟩,
  ⟨7, ⟨some 10, .e (.append 1 8 3 [.int .i64 0] .slice (.tmp 7) (.tmp 9)), none, none⟩, [7, 9], 0⟩,
  ⟨0, ⟨some 3, .p (.fieldAddr 0 (.tmp 1)), none, none⟩, [1], 2⟩,
  ⟨1, ⟨some 4, .l (.load (.i .i64) (.tmp 3)), none, none⟩, [3], 2⟩,
  ⟨2, ⟨some 5, .p (.fieldAddr 1 (.tmp 1)), none, none⟩, [1], 2⟩,
  ⟨3, ⟨some 6, .l (.load (.i .i64) (.tmp 5)), none, none⟩, [5], 2⟩,
  ⟨8, ⟨some 11, .p (.build [.int .i64 0, .int .i64 0, .slice none 0 0] [(0, 1, .tmp 4), (1, 1, .tmp 6), (2, 1, .tmp 10)]), none, none⟩, [4, 6, 10], 0⟩,
  ⟨9, ⟨none, .e (.store (some 3) (.tmp 2) (.tmp 11)), none, none⟩, [2, 11], 0⟩])
  (.ret))
noncomputable def e_ref04_copied (k : Nat) (D : CallF) : Ent := entOf 72 [(0, .st [.i .i64, .i .i64, .l])] [(2, .st [.i .i64, .i .i64, .l])] (ref04_copied k D)
theorem q_ref04_copied : (Try.f72.body).bind (rcodeOf Try.prog 0 Try.f72.ntmps) = some (strip r_ref04_copied) := by kernel_rfl
theorem t_ref04_copied (k : Nat) (D : CallF) : curF [(0, .st [.i .i64, .i .i64, .l])] (fun args h => denF (C_ref04_copied k D) k r_ref04_copied [(2, .st [.i .i64, .i .i64, .l])] [some (.agg 3)] args h) = ref04_copied k D := by kernel_rfl
theorem ok_ref04_copied {D : CallF} (hD : CSound Try.prog 0 D) (k : Nat) : EntOk Try.prog 0 (e_ref04_copied k D) :=
  entOf_ok2 (mkC_sound hD (EntsOk.none)) Try.func72 rfl q_ref04_copied rfl (t_ref04_copied k D)
end Gy

namespace Gy
open Go Gx Go.Proofs
set_option maxRecDepth 100000

noncomputable def C_ref04_M_lead (k : Nat) (D : CallF) : CallF := mkC D [e_ref04_M_At k D]
noncomputable def ref04_M_lead_l0b (k : Nat) (D : CallF) (j3 : AHeap → Option ((Int) × AHeap)) (rec8 : Int → (Option Addr) → Int → AHeap → Option ((Int) × AHeap)) (j4 : Int) (a5 : Option Addr) (i6 : Int) (h7 : AHeap) : Option ((Int) × AHeap) :=
  (a5).bind fun p9 =>
  (ldI .i64 (⟨p9.block, p9.off + 0, none⟩ : Addr) h7).bind fun x10 =>
  (if (decide (i6 < x10)) = true then
  (a5).bind fun p11 =>
  (ldA 3 p11 h7).bind fun l12 =>
  (decC [.i .i64, .i .i64, .l] l12).bind fun x13 =>
  (ref04_M_At k D (x13.1, x13.2.1, x13.2.2) i6 j4 h7).bind fun r14 =>
  (if (r14.1 != 0) = true then
  some (i6, r14.2)
  else
  rec8 j4 a5 (IntKind.wrap .i64 (i6 + 1)) r14.2)
  else
  j3 h7)
noncomputable def ref04_M_lead_l0 (k : Nat) (D : CallF) (j3 : AHeap → Option ((Int) × AHeap)) : Int → (Option Addr) → Int → AHeap → Option ((Int) × AHeap) :=
  iterK (α := Int → (Option Addr) → Int → AHeap → Option ((Int) × AHeap)) (fun _ _ _ _ => none) k (ref04_M_lead_l0b k D j3)
noncomputable def ref04_M_lead (k : Nat) (D : CallF) (a_0 : Int × Int × Slc) (from_1 : Int) (j_2 : Int) (h : AHeap) : Option ((Int) × AHeap) :=
  let h1 := AHeap.new h (.cells [.int .i64 a_0.1, .int .i64 a_0.2.1, .slice a_0.2.2.a a_0.2.2.len a_0.2.2.cap] 54 true 0)
  joinK (fun (h2 : AHeap) =>
  some ((-1), h2)) fun j3 =>
  ref04_M_lead_l0 k D j3 j_2 (some (⟨h.next, 0, none⟩ : Addr)) from_1 h1
def r_ref04_M_lead : RCode := .seq (.region [⟨some 3, .a (.box 54 (.tmp 0)), none, none⟩,
  ⟨some 6, .p (.mv (.const (.int .i64 0))), none, none⟩])
  (.seq (.join [] (.seq (.region [⟨some 8, .p (.mv (.tmp 1)), none, none⟩,
  ⟨some 7, .p (.mv (.tmp 8)), none, none⟩])
  (.block 0 (.loop [(2, .i .i64), (3, .p), (7, .i .i64)] (.seq (.seq (.region [⟨some 9, .p (.mv (.tmp 7)), none, none⟩,
  ⟨some 10, .p (.fieldAddr 0 (.tmp 3)), none, none⟩,
  ⟨some 11, .l (.load (.i .i64) (.tmp 10)), none, none⟩,
  ⟨some 12, .p (.bin .lss (.tmp 9) (.tmp 11)), none, none⟩])
  (.cond (.tmp 12) (.skip) (.exit 0)))
  (.seq (.block 1 (.seq (.region [⟨some 15, .l (.load (.agg 3) (.tmp 3)), none, some (.st [.i .i64, .i .i64, .l])⟩,
  ⟨some 16, .p (.mv (.tmp 7)), none, none⟩,
  ⟨some 17, .p (.mv (.tmp 2)), none, none⟩,
  ⟨some 18, .e (.call (.func 71) [.tmp 15, .tmp 16, .tmp 17]), none, none⟩,
  ⟨some 19, .p (.bin .neq (.tmp 18) (.const (.int .i64 0))), none, none⟩])
  (.cond (.tmp 19) (.seq (.region [⟨some 20, .p (.mv (.tmp 7)), none, none⟩,
  ⟨some 6, .p (.mv (.tmp 20)), none, none⟩])
  (.ret)) (.skip))))
  (.region [⟨some 13, .p (.mv (.tmp 7)), none, none⟩,
  ⟨some 14, .p (.bin .add (.tmp 13) (.const (.int .i64 1))), none, none⟩,
  ⟨some 7, .p (.mv (.tmp 14)), none, none⟩])))))))
  (.seq (.region [⟨some 6, .p (.mv (.const (.int .i64 (-1)))), none, none⟩])
  (.ret)))
noncomputable def e_ref04_M_lead (k : Nat) (D : CallF) : Ent := entOf 73 [(0, .st [.i .i64, .i .i64, .l]), (1, .i .i64), (2, .i .i64)] [(6, .i .i64)] (ref04_M_lead k D)
theorem q_ref04_M_lead : (Try.f73.body).bind (rcodeOf Try.prog 0 Try.f73.ntmps) = some (strip r_ref04_M_lead) := by kernel_rfl
theorem t_ref04_M_lead (k : Nat) (D : CallF) : curF [(0, .st [.i .i64, .i .i64, .l]), (1, .i .i64), (2, .i .i64)] (fun args h => denF (C_ref04_M_lead k D) k r_ref04_M_lead [(6, .i .i64)] [none] args h) = ref04_M_lead k D := by kernel_rfl
theorem ok_ref04_M_lead {D : CallF} (hD : CSound Try.prog 0 D) (k : Nat) : EntOk Try.prog 0 (e_ref04_M_lead k D) :=
  entOf_ok2 (mkC_sound hD (EntsOk.more (ok_ref04_M_At hD k) (EntsOk.none))) Try.func73 rfl q_ref04_M_lead rfl (t_ref04_M_lead k D)
end Gy

namespace Gy
open Go Gx Go.Proofs
set_option maxRecDepth 100000

noncomputable def C_ref04_M_swap (k : Nat) (D : CallF) : CallF := mkC D [e_ref04_M_At k D]
noncomputable def ref04_M_swap_l0b (k : Nat) (D : CallF)  (rec7 : Int → Int → (Option Addr) → Int → AHeap → Option ((Unit) × AHeap)) (i2 : Int) (kv3 : Int) (a4 : Option Addr) (j5 : Int) (h6 : AHeap) : Option ((Unit) × AHeap) :=
  (a4).bind fun p8 =>
  (ldI .i64 (⟨p8.block, p8.off + 1, none⟩ : Addr) h6).bind fun x9 =>
  (if (decide (j5 < x9)) = true then
  (a4).bind fun p10 =>
  (ldA 3 p10 h6).bind fun l11 =>
  (decC [.i .i64, .i .i64, .l] l11).bind fun x12 =>
  (ref04_M_At k D (x12.1, x12.2.1, x12.2.2) i2 j5 h6).bind fun r13 =>
  (a4).bind fun p14 =>
  (ldA 3 p14 r13.2).bind fun l15 =>
  (decC [.i .i64, .i .i64, .l] l15).bind fun x16 =>
  (ref04_M_At k D (x16.1, x16.2.1, x16.2.2) kv3 j5 r13.2).bind fun r17 =>
  (a4).bind fun p18 =>
  (ldL (⟨p18.block, p18.off + 2, none⟩ : Addr) r17.2).bind fun x19 =>
  guardP (SameW [r13.2] (fun H21 => (ldL (⟨p18.block, p18.off + 2, none⟩ : Addr) H21).bind fun y20 => some (.slice y20.a y20.len y20.cap)) (.slice x19.a x19.len x19.cap)) (
  (a4).bind fun p22 =>
  (ldI .i64 (⟨p22.block, p22.off + 1, none⟩ : Addr) r17.2).bind fun x23 =>
  guardP (SameW [r13.2] (fun H25 => (ldI .i64 (⟨p22.block, p22.off + 1, none⟩ : Addr) H25).bind fun y24 => some (.int .i64 y24)) (.int .i64 x23)) (
  (Gx.idxL 1 x19 (IntKind.wrap .i64 ((IntKind.wrap .i64 (i2 * x23)) + j5))).bind fun q26 =>
  (st1 q26 (.int .i64 r17.1) r17.2).bind fun h27 =>
  (a4).bind fun p28 =>
  (ldL (⟨p28.block, p28.off + 2, none⟩ : Addr) h27).bind fun x29 =>
  (a4).bind fun p30 =>
  (ldI .i64 (⟨p30.block, p30.off + 1, none⟩ : Addr) h27).bind fun x31 =>
  (Gx.idxL 1 x29 (IntKind.wrap .i64 ((IntKind.wrap .i64 (kv3 * x31)) + j5))).bind fun q32 =>
  (st1 q32 (.int .i64 r13.1) h27).bind fun h33 =>
  rec7 i2 kv3 a4 (IntKind.wrap .i64 (j5 + 1)) h33))
  else
  some ((), h6))
noncomputable def ref04_M_swap_l0 (k : Nat) (D : CallF)  : Int → Int → (Option Addr) → Int → AHeap → Option ((Unit) × AHeap) :=
  iterK (α := Int → Int → (Option Addr) → Int → AHeap → Option ((Unit) × AHeap)) (fun _ _ _ _ _ => none) k (ref04_M_swap_l0b k D )
noncomputable def ref04_M_swap (k : Nat) (D : CallF) (a_0 : Int × Int × Slc) (i_1 : Int) (k_2 : Int) (h : AHeap) : Option ((Unit) × AHeap) :=
  let h1 := AHeap.new h (.cells [.int .i64 a_0.1, .int .i64 a_0.2.1, .slice a_0.2.2.a a_0.2.2.len a_0.2.2.cap] 54 true 0)
  ref04_M_swap_l0 k D i_1 k_2 (some (⟨h.next, 0, none⟩ : Addr)) 0 h1
def r_ref04_M_swap : RCode := .seq (.region [⟨some 3, .a (.box 54 (.tmp 0)), none, none⟩])
  (.seq (.region [⟨some 6, .p (.mv (.const (.int .i64 0))), none, none⟩])
  (.block 0 (.loop [(1, .i .i64), (2, .i .i64), (3, .p), (6, .i .i64)] (.seq (.seq (.region [⟨some 8, .p (.mv (.tmp 6)), none, none⟩,
  ⟨some 9, .p (.fieldAddr 1 (.tmp 3)), none, none⟩,
  ⟨some 10, .l (.load (.i .i64) (.tmp 9)), none, none⟩,
  ⟨some 11, .p (.bin .lss (.tmp 8) (.tmp 10)), none, none⟩])
  (.cond (.tmp 11) (.skip) (.exit 0)))
  (.seq (.block 1 (.seq (.region [⟨some 14, .l (.load (.agg 3) (.tmp 3)), none, some (.st [.i .i64, .i .i64, .l])⟩,
  ⟨some 15, .p (.mv (.tmp 1)), none, none⟩,
  ⟨some 16, .p (.mv (.tmp 6)), none, none⟩,
  ⟨some 17, .e (.call (.func 71) [.tmp 14, .tmp 15, .tmp 16]), none, none⟩,
  ⟨some 7, .p (.mv (.tmp 17)), none, none⟩])
  (.seq (.draw [⟨8, ⟨some 26, .l (.load (.agg 3) (.tmp 3)), none, some (.st [.i .i64, .i .i64, .l])⟩, [3], 0⟩,
  ⟨9, ⟨some 27, .p (.mv (.tmp 2)), none, none⟩, [2], 0⟩,
  ⟨10, ⟨some 28, .p (.mv (.tmp 6)), none, none⟩, [6], 0⟩,
  ⟨11, ⟨some 29, .e (.call (.func 71) [.tmp 26, .tmp 27, .tmp 28]), none, none⟩, [26, 27, 28], 0⟩,
  ⟨0, ⟨some 18, .p (.fieldAddr 2 (.tmp 3)), none, none⟩, [3], 1⟩,
  ⟨1, ⟨some 19, .l (.load (.l) (.tmp 18)), none, none⟩, [18], 1⟩,
  ⟨2, ⟨some 20, .p (.mv (.tmp 1)), none, none⟩, [1], 1⟩,
  ⟨3, ⟨some 21, .p (.fieldAddr 1 (.tmp 3)), none, none⟩, [3], 1⟩,
  ⟨4, ⟨some 22, .l (.load (.i .i64) (.tmp 21)), none, none⟩, [21], 1⟩,
  ⟨5, ⟨some 23, .p (.bin .mul (.tmp 20) (.tmp 22)), none, none⟩, [20, 22], 1⟩,
  ⟨6, ⟨some 24, .p (.mv (.tmp 6)), none, none⟩, [6], 1⟩,
  ⟨7, ⟨some 25, .p (.bin .add (.tmp 23) (.tmp 24)), none, none⟩, [23, 24], 1⟩,
  ⟨12, ⟨some 30, .p (.idxL 1 (.tmp 19) (.tmp 25)), none, none⟩, [19, 25], 0⟩,
  ⟨13, ⟨none, .e (.store none (.tmp 30) (.tmp 29)), none, none⟩, [30, 29], 0⟩])
  (.region [⟨some 31, .p (.fieldAddr 2 (.tmp 3)), none, none⟩,
  ⟨some 32, .l (.load (.l) (.tmp 31)), none, none⟩,
  ⟨some 33, .p (.mv (.tmp 2)), none, none⟩,
  ⟨some 34, .p (.fieldAddr 1 (.tmp 3)), none, none⟩,
  ⟨some 35, .l (.load (.i .i64) (.tmp 34)), none, none⟩,
  ⟨some 36, .p (.bin .mul (.tmp 33) (.tmp 35)), none, none⟩,
  ⟨some 37, .p (.mv (.tmp 6)), none, none⟩,
  ⟨some 38, .p (.bin .add (.tmp 36) (.tmp 37)), none, none⟩,
  ⟨some 39, .p (.mv (.tmp 7)), none, none⟩,
  ⟨some 40, .p (.idxL 1 (.tmp 32) (.tmp 38)), none, none⟩,
  ⟨none, .e (.store none (.tmp 40) (.tmp 39)), none, none⟩]))))
  (.region [⟨some 12, .p (.mv (.tmp 6)), none, none⟩,
  ⟨some 13, .p (.bin .add (.tmp 12) (.const (.int .i64 1))), none, none⟩,
  ⟨some 6, .p (.mv (.tmp 13)), none, none⟩]))))))
noncomputable def e_ref04_M_swap (k : Nat) (D : CallF) : Ent := entOf 74 [(0, .st [.i .i64, .i .i64, .l]), (1, .i .i64), (2, .i .i64)] [] (ref04_M_swap k D)
theorem q_ref04_M_swap : (Try.f74.body).bind (rcodeOf Try.prog 0 Try.f74.ntmps) = some (strip r_ref04_M_swap) := by kernel_rfl
theorem t_ref04_M_swap (k : Nat) (D : CallF) : curF [(0, .st [.i .i64, .i .i64, .l]), (1, .i .i64), (2, .i .i64)] (fun args h => denF (C_ref04_M_swap k D) k r_ref04_M_swap [] [] args h) = ref04_M_swap k D := by kernel_rfl
theorem ok_ref04_M_swap {D : CallF} (hD : CSound Try.prog 0 D) (k : Nat) : EntOk Try.prog 0 (e_ref04_M_swap k D) :=
  entOf_ok2 (mkC_sound hD (EntsOk.more (ok_ref04_M_At hD k) (EntsOk.none))) Try.func74 rfl q_ref04_M_swap rfl (t_ref04_M_swap k D)
end Gy

namespace Gy
open Go Gx Go.Proofs
set_option maxRecDepth 100000

noncomputable def C_ref04_M_scale (k : Nat) (D : CallF) : CallF := mkC D [e_ref04_M_At k D, e_ref03_Times k D]
noncomputable def ref04_M_scale_l0b (k : Nat) (D : CallF)  (rec7 : Int → Int → (Option Addr) → Int → AHeap → Option ((Unit) × AHeap)) (i2 : Int) (c3 : Int) (a4 : Option Addr) (j5 : Int) (h6 : AHeap) : Option ((Unit) × AHeap) :=
  (a4).bind fun p8 =>
  (ldI .i64 (⟨p8.block, p8.off + 1, none⟩ : Addr) h6).bind fun x9 =>
  (if (decide (j5 < x9)) = true then
  (a4).bind fun p10 =>
  (ldA 3 p10 h6).bind fun l11 =>
  (decC [.i .i64, .i .i64, .l] l11).bind fun x12 =>
  (ref04_M_At k D (x12.1, x12.2.1, x12.2.2) i2 j5 h6).bind fun r13 =>
  (ref03_Times k D r13.1 c3 r13.2).bind fun r14 =>
  (a4).bind fun p15 =>
  (ldL (⟨p15.block, p15.off + 2, none⟩ : Addr) r14.2).bind fun x16 =>
  guardP (SameW [r13.2, h6] (fun H18 => (ldL (⟨p15.block, p15.off + 2, none⟩ : Addr) H18).bind fun y17 => some (.slice y17.a y17.len y17.cap)) (.slice x16.a x16.len x16.cap)) (
  (a4).bind fun p19 =>
  (ldI .i64 (⟨p19.block, p19.off + 1, none⟩ : Addr) r14.2).bind fun x20 =>
  guardP (SameW [r13.2, h6] (fun H22 => (ldI .i64 (⟨p19.block, p19.off + 1, none⟩ : Addr) H22).bind fun y21 => some (.int .i64 y21)) (.int .i64 x20)) (
  (Gx.idxL 1 x16 (IntKind.wrap .i64 ((IntKind.wrap .i64 (i2 * x20)) + j5))).bind fun q23 =>
  (st1 q23 (.int .i64 r14.1) r14.2).bind fun h24 =>
  rec7 i2 c3 a4 (IntKind.wrap .i64 (j5 + 1)) h24))
  else
  some ((), h6))
noncomputable def ref04_M_scale_l0 (k : Nat) (D : CallF)  : Int → Int → (Option Addr) → Int → AHeap → Option ((Unit) × AHeap) :=
  iterK (α := Int → Int → (Option Addr) → Int → AHeap → Option ((Unit) × AHeap)) (fun _ _ _ _ _ => none) k (ref04_M_scale_l0b k D )
noncomputable def ref04_M_scale (k : Nat) (D : CallF) (a_0 : Int × Int × Slc) (i_1 : Int) (c_2 : Int) (h : AHeap) : Option ((Unit) × AHeap) :=
  let h1 := AHeap.new h (.cells [.int .i64 a_0.1, .int .i64 a_0.2.1, .slice a_0.2.2.a a_0.2.2.len a_0.2.2.cap] 54 true 0)
  ref04_M_scale_l0 k D i_1 c_2 (some (⟨h.next, 0, none⟩ : Addr)) 0 h1
def r_ref04_M_scale : RCode := .seq (.region [⟨some 3, .a (.box 54 (.tmp 0)), none, none⟩])
  (.seq (.region [⟨some 6, .p (.mv (.const (.int .i64 0))), none, none⟩])
  (.block 0 (.loop [(1, .i .i64), (2, .i .i64), (3, .p), (6, .i .i64)] (.seq (.seq (.region [⟨some 7, .p (.mv (.tmp 6)), none, none⟩,
  ⟨some 8, .p (.fieldAddr 1 (.tmp 3)), none, none⟩,
  ⟨some 9, .l (.load (.i .i64) (.tmp 8)), none, none⟩,
  ⟨some 10, .p (.bin .lss (.tmp 7) (.tmp 9)), none, none⟩])
  (.cond (.tmp 10) (.skip) (.exit 0)))
  (.seq (.block 1 (.draw [⟨8, ⟨some 21, .l (.load (.agg 3) (.tmp 3)), none, some (.st [.i .i64, .i .i64, .l])⟩, [3], 0⟩,
  ⟨9, ⟨some 22, .p (.mv (.tmp 1)), none, none⟩, [1], 0⟩,
  ⟨10, ⟨some 23, .p (.mv (.tmp 6)), none, none⟩, [6], 0⟩,
  ⟨11, ⟨some 24, .e (.call (.func 71) [.tmp 21, .tmp 22, .tmp 23]), none, none⟩, [21, 22, 23], 0⟩,
  ⟨12, ⟨some 25, .p (.mv (.tmp 2)), none, none⟩, [2], 1⟩,
  ⟨13, ⟨some 26, .e (.call (.func 61) [.tmp 24, .tmp 25]), none, none⟩, [24, 25], 0⟩,
  ⟨0, ⟨some 13, .p (.fieldAddr 2 (.tmp 3)), none, none⟩, [3], 2⟩,
  ⟨1, ⟨some 14, .l (.load (.l) (.tmp 13)), none, none⟩, [13], 2⟩,
  ⟨2, ⟨some 15, .p (.mv (.tmp 1)), none, none⟩, [1], 2⟩,
  ⟨3, ⟨some 16, .p (.fieldAddr 1 (.tmp 3)), none, none⟩, [3], 2⟩,
  ⟨4, ⟨some 17, .l (.load (.i .i64) (.tmp 16)), none, none⟩, [16], 2⟩,
  ⟨5, ⟨some 18, .p (.bin .mul (.tmp 15) (.tmp 17)), none, none⟩, [15, 17], 2⟩,
  ⟨6, ⟨some 19, .p (.mv (.tmp 6)), none, none⟩, [6], 2⟩,
  ⟨7, ⟨some 20, .p (.bin .add (.tmp 18) (.tmp 19)), none, none⟩, [18, 19], 2⟩,
  ⟨14, ⟨some 27, .p (.idxL 1 (.tmp 14) (.tmp 20)), none, none⟩, [14, 20], 0⟩,
  ⟨15, ⟨none, .e (.store none (.tmp 27) (.tmp 26)), none, none⟩, [27, 26], 0⟩]))
  (.region [⟨some 11, .p (.mv (.tmp 6)), none, none⟩,
  ⟨some 12, .p (.bin .add (.tmp 11) (.const (.int .i64 1))), none, none⟩,
  ⟨some 6, .p (.mv (.tmp 12)), none, none⟩]))))))
noncomputable def e_ref04_M_scale (k : Nat) (D : CallF) : Ent := entOf 75 [(0, .st [.i .i64, .i .i64, .l]), (1, .i .i64), (2, .i .i64)] [] (ref04_M_scale k D)
theorem q_ref04_M_scale : (Try.f75.body).bind (rcodeOf Try.prog 0 Try.f75.ntmps) = some (strip r_ref04_M_scale) := by kernel_rfl
theorem t_ref04_M_scale (k : Nat) (D : CallF) : curF [(0, .st [.i .i64, .i .i64, .l]), (1, .i .i64), (2, .i .i64)] (fun args h => denF (C_ref04_M_scale k D) k r_ref04_M_scale [] [] args h) = ref04_M_scale k D := by kernel_rfl
theorem ok_ref04_M_scale {D : CallF} (hD : CSound Try.prog 0 D) (k : Nat) : EntOk Try.prog 0 (e_ref04_M_scale k D) :=
  entOf_ok2 (mkC_sound hD (EntsOk.more (ok_ref04_M_At hD k) (EntsOk.more (ok_ref03_Times hD k) (EntsOk.none)))) Try.func75 rfl q_ref04_M_scale rfl (t_ref04_M_scale k D)
end Gy

namespace Gy
open Go Gx Go.Proofs
set_option maxRecDepth 100000

noncomputable def C_ref04_M_add (k : Nat) (D : CallF) : CallF := mkC D [e_ref04_M_At k D, e_ref03_Times k D]
noncomputable def ref04_M_add_l0b (k : Nat) (D : CallF)  (rec8 : Int → Int → Int → (Option Addr) → Int → AHeap → Option ((Unit) × AHeap)) (i2 : Int) (kv3 : Int) (c4 : Int) (a5 : Option Addr) (j6 : Int) (h7 : AHeap) : Option ((Unit) × AHeap) :=
  (a5).bind fun p9 =>
  (ldI .i64 (⟨p9.block, p9.off + 1, none⟩ : Addr) h7).bind fun x10 =>
  (if (decide (j6 < x10)) = true then
  (a5).bind fun p11 =>
  (ldA 3 p11 h7).bind fun l12 =>
  (decC [.i .i64, .i .i64, .l] l12).bind fun x13 =>
  (ref04_M_At k D (x13.1, x13.2.1, x13.2.2) i2 j6 h7).bind fun r14 =>
  (a5).bind fun p15 =>
  (ldA 3 p15 r14.2).bind fun l16 =>
  guardP (SameW [h7] (fun H18 => (a5).bind fun p19 => (ldA 3 p19 H18).bind fun y17 => some (.agg ⟨y17⟩)) (.agg ⟨l16⟩)) (
  (decC [.i .i64, .i .i64, .l] l16).bind fun x20 =>
  (ref04_M_At k D (x20.1, x20.2.1, x20.2.2) kv3 j6 r14.2).bind fun r21 =>
  (ref03_Times k D r21.1 c4 r21.2).bind fun r22 =>
  (a5).bind fun p23 =>
  (ldL (⟨p23.block, p23.off + 2, none⟩ : Addr) r22.2).bind fun x24 =>
  guardP (SameW [r21.2, r14.2, h7] (fun H26 => (ldL (⟨p23.block, p23.off + 2, none⟩ : Addr) H26).bind fun y25 => some (.slice y25.a y25.len y25.cap)) (.slice x24.a x24.len x24.cap)) (
  (a5).bind fun p27 =>
  (ldI .i64 (⟨p27.block, p27.off + 1, none⟩ : Addr) r22.2).bind fun x28 =>
  guardP (SameW [r21.2, r14.2, h7] (fun H30 => (ldI .i64 (⟨p27.block, p27.off + 1, none⟩ : Addr) H30).bind fun y29 => some (.int .i64 y29)) (.int .i64 x28)) (
  (Gx.idxL 1 x24 (IntKind.wrap .i64 ((IntKind.wrap .i64 (i2 * x28)) + j6))).bind fun q31 =>
  (st1 q31 (.int .i64 (Go.bits .xor .i64 r14.1 r22.1)) r22.2).bind fun h32 =>
  rec8 i2 kv3 c4 a5 (IntKind.wrap .i64 (j6 + 1)) h32)))
  else
  some ((), h7))
noncomputable def ref04_M_add_l0 (k : Nat) (D : CallF)  : Int → Int → Int → (Option Addr) → Int → AHeap → Option ((Unit) × AHeap) :=
  iterK (α := Int → Int → Int → (Option Addr) → Int → AHeap → Option ((Unit) × AHeap)) (fun _ _ _ _ _ _ => none) k (ref04_M_add_l0b k D )
noncomputable def ref04_M_add (k : Nat) (D : CallF) (a_0 : Int × Int × Slc) (i_1 : Int) (k_2 : Int) (c_3 : Int) (h : AHeap) : Option ((Unit) × AHeap) :=
  let h1 := AHeap.new h (.cells [.int .i64 a_0.1, .int .i64 a_0.2.1, .slice a_0.2.2.a a_0.2.2.len a_0.2.2.cap] 54 true 0)
  ref04_M_add_l0 k D i_1 k_2 c_3 (some (⟨h.next, 0, none⟩ : Addr)) 0 h1
def r_ref04_M_add : RCode := .seq (.region [⟨some 4, .a (.box 54 (.tmp 0)), none, none⟩])
  (.seq (.region [⟨some 8, .p (.mv (.const (.int .i64 0))), none, none⟩])
  (.block 0 (.loop [(1, .i .i64), (2, .i .i64), (3, .i .i64), (4, .p), (8, .i .i64)] (.seq (.seq (.region [⟨some 9, .p (.mv (.tmp 8)), none, none⟩,
  ⟨some 10, .p (.fieldAddr 1 (.tmp 4)), none, none⟩,
  ⟨some 11, .l (.load (.i .i64) (.tmp 10)), none, none⟩,
  ⟨some 12, .p (.bin .lss (.tmp 9) (.tmp 11)), none, none⟩])
  (.cond (.tmp 12) (.skip) (.exit 0)))
  (.seq (.block 1 (.draw [⟨8, ⟨some 23, .l (.load (.agg 3) (.tmp 4)), none, some (.st [.i .i64, .i .i64, .l])⟩, [4], 0⟩,
  ⟨9, ⟨some 24, .p (.mv (.tmp 1)), none, none⟩, [1], 0⟩,
  ⟨10, ⟨some 25, .p (.mv (.tmp 8)), none, none⟩, [8], 0⟩,
  ⟨11, ⟨some 26, .e (.call (.func 71) [.tmp 23, .tmp 24, .tmp 25]), none, none⟩, [23, 24, 25], 0⟩,
  ⟨12, ⟨some 27, .l (.load (.agg 3) (.tmp 4)), none, some (.st [.i .i64, .i .i64, .l])⟩, [4], 1⟩,
  ⟨13, ⟨some 28, .p (.mv (.tmp 2)), none, none⟩, [2], 1⟩,
  ⟨14, ⟨some 29, .p (.mv (.tmp 8)), none, none⟩, [8], 1⟩,
  ⟨15, ⟨some 30, .e (.call (.func 71) [.tmp 27, .tmp 28, .tmp 29]), none, none⟩, [27, 28, 29], 0⟩,
  ⟨16, ⟨some 31, .p (.mv (.tmp 3)), none, none⟩, [3], 2⟩,
  ⟨17, ⟨some 32, .e (.call (.func 61) [.tmp 30, .tmp 31]), none, none⟩, [30, 31], 0⟩,
  ⟨0, ⟨some 15, .p (.fieldAddr 2 (.tmp 4)), none, none⟩, [4], 3⟩,
  ⟨1, ⟨some 16, .l (.load (.l) (.tmp 15)), none, none⟩, [15], 3⟩,
  ⟨2, ⟨some 17, .p (.mv (.tmp 1)), none, none⟩, [1], 3⟩,
  ⟨3, ⟨some 18, .p (.fieldAddr 1 (.tmp 4)), none, none⟩, [4], 3⟩,
  ⟨4, ⟨some 19, .l (.load (.i .i64) (.tmp 18)), none, none⟩, [18], 3⟩,
  ⟨5, ⟨some 20, .p (.bin .mul (.tmp 17) (.tmp 19)), none, none⟩, [17, 19], 3⟩,
  ⟨6, ⟨some 21, .p (.mv (.tmp 8)), none, none⟩, [8], 3⟩,
  ⟨7, ⟨some 22, .p (.bin .add (.tmp 20) (.tmp 21)), none, none⟩, [20, 21], 3⟩,
  ⟨18, ⟨some 33, .p (.bin .xor (.tmp 26) (.tmp 32)), none, none⟩, [26, 32], 0⟩,
  ⟨19, ⟨some 34, .p (.idxL 1 (.tmp 16) (.tmp 22)), none, none⟩, [16, 22], 0⟩,
  ⟨20, ⟨none, .e (.store none (.tmp 34) (.tmp 33)), none, none⟩, [34, 33], 0⟩]))
  (.region [⟨some 13, .p (.mv (.tmp 8)), none, none⟩,
  ⟨some 14, .p (.bin .add (.tmp 13) (.const (.int .i64 1))), none, none⟩,
  ⟨some 8, .p (.mv (.tmp 14)), none, none⟩]))))))
noncomputable def e_ref04_M_add (k : Nat) (D : CallF) : Ent := entOf 76 [(0, .st [.i .i64, .i .i64, .l]), (1, .i .i64), (2, .i .i64), (3, .i .i64)] [] (ref04_M_add k D)
theorem q_ref04_M_add : (Try.f76.body).bind (rcodeOf Try.prog 0 Try.f76.ntmps) = some (strip r_ref04_M_add) := by kernel_rfl
theorem t_ref04_M_add (k : Nat) (D : CallF) : curF [(0, .st [.i .i64, .i .i64, .l]), (1, .i .i64), (2, .i .i64), (3, .i .i64)] (fun args h => denF (C_ref04_M_add k D) k r_ref04_M_add [] [] args h) = ref04_M_add k D := by kernel_rfl
theorem ok_ref04_M_add {D : CallF} (hD : CSound Try.prog 0 D) (k : Nat) : EntOk Try.prog 0 (e_ref04_M_add k D) :=
  entOf_ok2 (mkC_sound hD (EntsOk.more (ok_ref04_M_At hD k) (EntsOk.more (ok_ref03_Times hD k) (EntsOk.none)))) Try.func76 rfl q_ref04_M_add rfl (t_ref04_M_add k D)
end Gy

namespace Gy
open Go Gx Go.Proofs
set_option maxRecDepth 100000

noncomputable def C_ref04_Inverse (k : Nat) (D : CallF) : CallF := mkC D [e_ref04_Check k D, e_ref04_copied k D, e_ref04_One k D, e_ref04_M_lead k D, e_ref04_M_swap k D, e_ref04_M_At k D, e_ref03_Over k D, e_ref04_M_scale k D, e_ref04_M_add k D]
noncomputable def ref04_Inverse_l1b (k : Nat) (D : CallF) (j50 : (Option Addr) → (Option Addr) → (Option Addr) → (Option Addr) → Int → AHeap → Option (((Int × Int × Slc) × Int) × AHeap)) (rec88 : (Option Addr) → (Option Addr) → (Option Addr) → (Option Addr) → Int → Int → AHeap → Option (((Int × Int × Slc) × Int) × AHeap)) (a81 : Option Addr) (y82 : Option Addr) (l83 : Option Addr) (out84 : Option Addr) (j85 : Int) (kv86 : Int) (h87 : AHeap) : Option (((Int × Int × Slc) × Int) × AHeap) :=
  (a81).bind fun p89 =>
  (ldI .i64 (⟨p89.block, p89.off + 0, none⟩ : Addr) h87).bind fun x90 =>
  (if (decide (kv86 < x90)) = true then
  joinK (fun (a91 : Option Addr) (y92 : Option Addr) (l93 : Option Addr) (out94 : Option Addr) (j95 : Int) (kv96 : Int) (h97 : AHeap) =>
  rec88 a91 y92 l93 out94 j95 (IntKind.wrap .i64 (kv96 + 1)) h97) fun j98 =>
  joinK (fun (a99 : Option Addr) (y100 : Option Addr) (l101 : Option Addr) (out102 : Option Addr) (j103 : Int) (kv104 : Int) (y105 : Bool) (h106 : AHeap) =>
  (if y105 = true then
  (l101).bind fun p108 =>
  (ldA 3 p108 h106).bind fun l109 =>
  (decC [.i .i64, .i .i64, .l] l109).bind fun x110 =>
  (ref04_M_At k D (x110.1, x110.2.1, x110.2.2) kv104 j103 h106).bind fun r111 =>
  (l101).bind fun p112 =>
  (ldA 3 p112 r111.2).bind fun l113 =>
  (decC [.i .i64, .i .i64, .l] l113).bind fun x114 =>
  (ref04_M_add k D (x114.1, x114.2.1, x114.2.2) kv104 j103 r111.1 r111.2).bind fun r115 =>
  (out102).bind fun p116 =>
  (ldA 3 p116 r115.2).bind fun l117 =>
  (decC [.i .i64, .i .i64, .l] l117).bind fun x118 =>
  (ref04_M_add k D (x118.1, x118.2.1, x118.2.2) kv104 j103 r111.1 r115.2).bind fun r119 =>
  j98 a99 y100 l101 out102 j103 kv104 r119.2
  else
  j98 a99 y100 l101 out102 j103 kv104 h106)) fun j107 =>
  (if (kv86 != j85) = true then
  (l83).bind fun p120 =>
  (ldA 3 p120 h87).bind fun l121 =>
  (decC [.i .i64, .i .i64, .l] l121).bind fun x122 =>
  (ref04_M_At k D (x122.1, x122.2.1, x122.2.2) kv86 j85 h87).bind fun r123 =>
  j107 a81 y82 l83 out84 j85 kv86 (r123.1 != 0) r123.2
  else
  j107 a81 y82 l83 out84 j85 kv86 false h87)
  else
  j50 a81 y82 l83 out84 j85 h87)
noncomputable def ref04_Inverse_l1 (k : Nat) (D : CallF) (j50 : (Option Addr) → (Option Addr) → (Option Addr) → (Option Addr) → Int → AHeap → Option (((Int × Int × Slc) × Int) × AHeap)) : (Option Addr) → (Option Addr) → (Option Addr) → (Option Addr) → Int → Int → AHeap → Option (((Int × Int × Slc) × Int) × AHeap) :=
  iterK (α := (Option Addr) → (Option Addr) → (Option Addr) → (Option Addr) → Int → Int → AHeap → Option (((Int × Int × Slc) × Int) × AHeap)) (fun _ _ _ _ _ _ _ => none) k (ref04_Inverse_l1b k D j50)
noncomputable def ref04_Inverse_l0b (k : Nat) (D : CallF) (j26 : (Option Addr) → (Option Addr) → AHeap → Option (((Int × Int × Slc) × Int) × AHeap)) (rec41 : (Option Addr) → (Option Addr) → (Option Addr) → (Option Addr) → Int → AHeap → Option (((Int × Int × Slc) × Int) × AHeap)) (a35 : Option Addr) (y36 : Option Addr) (l37 : Option Addr) (out38 : Option Addr) (j39 : Int) (h40 : AHeap) : Option (((Int × Int × Slc) × Int) × AHeap) :=
  (a35).bind fun p42 =>
  (ldI .i64 (⟨p42.block, p42.off + 1, none⟩ : Addr) h40).bind fun x43 =>
  (if (decide (j39 < x43)) = true then
  joinK (fun (a44 : Option Addr) (y45 : Option Addr) (l46 : Option Addr) (out47 : Option Addr) (j48 : Int) (h49 : AHeap) =>
  rec41 a44 y45 l46 out47 (IntKind.wrap .i64 (j48 + 1)) h49) fun j50 =>
  (l37).bind fun p51 =>
  (ldA 3 p51 h40).bind fun l52 =>
  (decC [.i .i64, .i .i64, .l] l52).bind fun x53 =>
  (ref04_M_lead k D (x53.1, x53.2.1, x53.2.2) j39 j39 h40).bind fun r54 =>
  (if (decide (r54.1 < 0)) = true then
  (y36).bind fun p55 =>
  (stL 3 p55 ([.int .i64 0, .int .i64 0, .slice none 0 0]) r54.2).bind fun h56 =>
  (y36).bind fun p57 =>
  (ldA 3 p57 h56).bind fun l58 =>
  (decC [.i .i64, .i .i64, .l] l58).bind fun x59 =>
  some (((x59.1, x59.2.1, x59.2.2), 40), h56)
  else
  (l37).bind fun p60 =>
  (ldA 3 p60 r54.2).bind fun l61 =>
  (decC [.i .i64, .i .i64, .l] l61).bind fun x62 =>
  (ref04_M_swap k D (x62.1, x62.2.1, x62.2.2) r54.1 j39 r54.2).bind fun r63 =>
  (out38).bind fun p64 =>
  (ldA 3 p64 r63.2).bind fun l65 =>
  (decC [.i .i64, .i .i64, .l] l65).bind fun x66 =>
  (ref04_M_swap k D (x66.1, x66.2.1, x66.2.2) r54.1 j39 r63.2).bind fun r67 =>
  (l37).bind fun p68 =>
  (ldA 3 p68 r67.2).bind fun l69 =>
  (decC [.i .i64, .i .i64, .l] l69).bind fun x70 =>
  (ref04_M_At k D (x70.1, x70.2.1, x70.2.2) j39 j39 r67.2).bind fun r71 =>
  (ref03_Over k D 1 r71.1 r71.2).bind fun r72 =>
  (l37).bind fun p73 =>
  (ldA 3 p73 r72.2).bind fun l74 =>
  (decC [.i .i64, .i .i64, .l] l74).bind fun x75 =>
  (ref04_M_scale k D (x75.1, x75.2.1, x75.2.2) j39 r72.1 r72.2).bind fun r76 =>
  (out38).bind fun p77 =>
  (ldA 3 p77 r76.2).bind fun l78 =>
  (decC [.i .i64, .i .i64, .l] l78).bind fun x79 =>
  (ref04_M_scale k D (x79.1, x79.2.1, x79.2.2) j39 r72.1 r76.2).bind fun r80 =>
  ref04_Inverse_l1 k D j50 a35 y36 l37 out38 j39 0 r80.2)
  else
  j26 y36 out38 h40)
noncomputable def ref04_Inverse_l0 (k : Nat) (D : CallF) (j26 : (Option Addr) → (Option Addr) → AHeap → Option (((Int × Int × Slc) × Int) × AHeap)) : (Option Addr) → (Option Addr) → (Option Addr) → (Option Addr) → Int → AHeap → Option (((Int × Int × Slc) × Int) × AHeap) :=
  iterK (α := (Option Addr) → (Option Addr) → (Option Addr) → (Option Addr) → Int → AHeap → Option (((Int × Int × Slc) × Int) × AHeap)) (fun _ _ _ _ _ _ => none) k (ref04_Inverse_l0b k D j26)
noncomputable def ref04_Inverse (k : Nat) (D : CallF) (a_0 : Int × Int × Slc) (h : AHeap) : Option (((Int × Int × Slc) × Int) × AHeap) :=
  let h1 := AHeap.new h (.cells [.int .i64 a_0.1, .int .i64 a_0.2.1, .slice a_0.2.2.a a_0.2.2.len a_0.2.2.cap] 54 true 0)
  let h2 := AHeap.new h1 (.cells [.int .i64 0, .int .i64 0, .slice none 0 0] 54 true 0)
  (ldA 3 (⟨h.next, 0, none⟩ : Addr) h2).bind fun l3 =>
  (decC [.i .i64, .i .i64, .l] l3).bind fun x4 =>
  (ref04_Check k D (x4.1, x4.2.1, x4.2.2) h2).bind fun r5 =>
  (if (r5.1 != 0) = true then
  (stL 3 (⟨h1.next, 0, none⟩ : Addr) ([.int .i64 0, .int .i64 0, .slice none 0 0]) r5.2).bind fun h6 =>
  (ldA 3 (⟨h1.next, 0, none⟩ : Addr) h6).bind fun l7 =>
  (decC [.i .i64, .i .i64, .l] l7).bind fun x8 =>
  some (((x8.1, x8.2.1, x8.2.2), r5.1), h6)
  else
  (ldI .i64 (⟨h.next, 0, none⟩ : Addr) r5.2).bind fun x9 =>
  (ldI .i64 (⟨h.next, 1, none⟩ : Addr) r5.2).bind fun x10 =>
  (if (x9 != x10) = true then
  (stL 3 (⟨h1.next, 0, none⟩ : Addr) ([.int .i64 0, .int .i64 0, .slice none 0 0]) r5.2).bind fun h11 =>
  (ldA 3 (⟨h1.next, 0, none⟩ : Addr) h11).bind fun l12 =>
  (decC [.i .i64, .i .i64, .l] l12).bind fun x13 =>
  some (((x13.1, x13.2.1, x13.2.2), 4), h11)
  else
  (ldA 3 (⟨h.next, 0, none⟩ : Addr) r5.2).bind fun l14 =>
  (decC [.i .i64, .i .i64, .l] l14).bind fun x15 =>
  (ref04_copied k D (x15.1, x15.2.1, x15.2.2) r5.2).bind fun r16 =>
  let h17 := AHeap.new r16.2 (.cells [.int .i64 0, .int .i64 0, .slice none 0 0] 54 true 0)
  (stL 3 (⟨r16.2.next, 0, none⟩ : Addr) ([.int .i64 r16.1.1, .int .i64 r16.1.2.1, .slice r16.1.2.2.a r16.1.2.2.len r16.1.2.2.cap]) h17).bind fun h18 =>
  (ldI .i64 (⟨h.next, 0, none⟩ : Addr) h18).bind fun x19 =>
  (ref04_One k D x19 h18).bind fun r20 =>
  let h21 := AHeap.new r20.2 (.cells [.int .i64 0, .int .i64 0, .slice none 0 0] 54 true 0)
  (stL 3 (⟨r20.2.next, 0, none⟩ : Addr) ([.int .i64 r20.1.1.1, .int .i64 r20.1.1.2.1, .slice r20.1.1.2.2.a r20.1.1.2.2.len r20.1.1.2.2.cap]) h21).bind fun h22 =>
  joinK (fun (y23 : Option Addr) (out24 : Option Addr) (h25 : AHeap) =>
  (out24).bind fun p27 =>
  (ldA 3 p27 h25).bind fun l28 =>
  (decC [.i .i64, .i .i64, .l] l28).bind fun x29 =>
  (y23).bind fun p30 =>
  (stL 3 p30 ([.int .i64 x29.1, .int .i64 x29.2.1, .slice x29.2.2.a x29.2.2.len x29.2.2.cap]) h25).bind fun h31 =>
  (y23).bind fun p32 =>
  (ldA 3 p32 h31).bind fun l33 =>
  (decC [.i .i64, .i .i64, .l] l33).bind fun x34 =>
  some (((x34.1, x34.2.1, x34.2.2), 0), h31)) fun j26 =>
  ref04_Inverse_l0 k D j26 (some (⟨h.next, 0, none⟩ : Addr)) (some (⟨h1.next, 0, none⟩ : Addr)) (some (⟨r16.2.next, 0, none⟩ : Addr)) (some (⟨r20.2.next, 0, none⟩ : Addr)) 0 h22))
def r_ref04_Inverse : RCode := .seq (.region [⟨some 1, .a (.box 54 (.tmp 0)), none, none⟩,
  ⟨some 2, .a (.alloc 54 [.int .i64 0, .int .i64 0, .slice none 0 0]), none, none⟩,
  ⟨some 3, .p (.mv (.const (.int .i64 0))), none, none⟩])
  (.seq (.seq (.region [⟨some 13, .l (.load (.agg 3) (.tmp 1)), none, some (.st [.i .i64, .i .i64, .l])⟩,
  ⟨some 14, .e (.call (.func 54) [.tmp 13]), none, none⟩,
  ⟨some 4, .p (.mv (.tmp 14)), none, none⟩])
  (.seq (.region [⟨some 15, .p (.mv (.tmp 4)), none, none⟩,
  ⟨some 16, .p (.bin .neq (.tmp 15) (.const (.int .i64 0))), none, none⟩])
  (.cond (.tmp 16) (.seq (.region [⟨some 17, .p (.build [.int .i64 0, .int .i64 0, .slice none 0 0] []), none, none⟩,
  ⟨some 18, .p (.mv (.tmp 4)), none, none⟩,
  ⟨none, .e (.store (some 3) (.tmp 2) (.tmp 17)), none, none⟩,
  ⟨some 3, .p (.mv (.tmp 18)), none, none⟩])
  (.ret)) (.skip))))
  (.seq (.seq (.region [⟨some 19, .p (.fieldAddr 0 (.tmp 1)), none, none⟩,
  ⟨some 20, .l (.load (.i .i64) (.tmp 19)), none, none⟩,
  ⟨some 21, .p (.fieldAddr 1 (.tmp 1)), none, none⟩,
  ⟨some 22, .l (.load (.i .i64) (.tmp 21)), none, none⟩,
  ⟨some 23, .p (.bin .neq (.tmp 20) (.tmp 22)), none, none⟩])
  (.cond (.tmp 23) (.seq (.region [⟨some 24, .p (.build [.int .i64 0, .int .i64 0, .slice none 0 0] []), none, none⟩,
  ⟨none, .e (.store (some 3) (.tmp 2) (.tmp 24)), none, none⟩,
  ⟨some 3, .p (.mv (.const (.int .i64 4))), none, none⟩])
  (.ret)) (.skip)))
  (.seq (.region [⟨some 25, .l (.load (.agg 3) (.tmp 1)), none, some (.st [.i .i64, .i .i64, .l])⟩,
  ⟨some 26, .e (.call (.func 72) [.tmp 25]), none, none⟩,
  ⟨some 5, .a (.alloc 54 [.int .i64 0, .int .i64 0, .slice none 0 0]), none, none⟩,
  ⟨none, .e (.store (some 3) (.tmp 5) (.tmp 26)), none, none⟩])
  (.seq (.region [⟨some 28, .p (.fieldAddr 0 (.tmp 1)), none, none⟩,
  ⟨some 29, .l (.load (.i .i64) (.tmp 28)), none, none⟩,
  ⟨some 30, .e (.call (.func 39) [.tmp 29]), none, none⟩,
  ⟨some 27, .p (.mv (.tmp 30)), none, none⟩,
  ⟨some 31, .p (.extract (.tmp 27) 0), none, none⟩,
  ⟨some 32, .p (.extract (.tmp 27) 1), none, none⟩,
  ⟨some 6, .a (.alloc 54 [.int .i64 0, .int .i64 0, .slice none 0 0]), none, none⟩,
  ⟨none, .e (.store (some 3) (.tmp 6) (.tmp 31)), none, none⟩,
  ⟨some 7, .p (.mv (.tmp 32)), none, none⟩])
  (.seq (.join [(2, .p), (6, .p)] (.seq (.region [⟨some 8, .p (.mv (.const (.int .i64 0))), none, none⟩])
  (.block 0 (.loop [(1, .p), (2, .p), (5, .p), (6, .p), (8, .i .i64)] (.seq (.seq (.region [⟨some 33, .p (.mv (.tmp 8)), none, none⟩,
  ⟨some 34, .p (.fieldAddr 1 (.tmp 1)), none, none⟩,
  ⟨some 35, .l (.load (.i .i64) (.tmp 34)), none, none⟩,
  ⟨some 36, .p (.bin .lss (.tmp 33) (.tmp 35)), none, none⟩])
  (.cond (.tmp 36) (.skip) (.exit 0)))
  (.seq (.join [(1, .p), (2, .p), (5, .p), (6, .p), (8, .i .i64)] (.block 1 (.seq (.region [⟨some 39, .l (.load (.agg 3) (.tmp 5)), none, some (.st [.i .i64, .i .i64, .l])⟩,
  ⟨some 40, .p (.mv (.tmp 8)), none, none⟩,
  ⟨some 41, .p (.mv (.tmp 8)), none, none⟩,
  ⟨some 42, .e (.call (.func 73) [.tmp 39, .tmp 40, .tmp 41]), none, none⟩,
  ⟨some 9, .p (.mv (.tmp 42)), none, none⟩])
  (.seq (.seq (.region [⟨some 43, .p (.mv (.tmp 9)), none, none⟩,
  ⟨some 44, .p (.bin .lss (.tmp 43) (.const (.int .i64 0))), none, none⟩])
  (.cond (.tmp 44) (.seq (.region [⟨some 45, .p (.build [.int .i64 0, .int .i64 0, .slice none 0 0] []), none, none⟩,
  ⟨none, .e (.store (some 3) (.tmp 2) (.tmp 45)), none, none⟩,
  ⟨some 3, .p (.mv (.const (.int .i64 40))), none, none⟩])
  (.ret)) (.skip)))
  (.seq (.region [⟨some 46, .l (.load (.agg 3) (.tmp 5)), none, some (.st [.i .i64, .i .i64, .l])⟩,
  ⟨some 47, .p (.mv (.tmp 9)), none, none⟩,
  ⟨some 48, .p (.mv (.tmp 8)), none, none⟩,
  ⟨some 49, .e (.call (.func 74) [.tmp 46, .tmp 47, .tmp 48]), none, none⟩])
  (.seq (.region [⟨some 50, .l (.load (.agg 3) (.tmp 6)), none, some (.st [.i .i64, .i .i64, .l])⟩,
  ⟨some 51, .p (.mv (.tmp 9)), none, none⟩,
  ⟨some 52, .p (.mv (.tmp 8)), none, none⟩,
  ⟨some 53, .e (.call (.func 74) [.tmp 50, .tmp 51, .tmp 52]), none, none⟩])
  (.seq (.region [⟨some 54, .l (.load (.agg 3) (.tmp 5)), none, some (.st [.i .i64, .i .i64, .l])⟩,
  ⟨some 55, .p (.mv (.tmp 8)), none, none⟩,
  ⟨some 56, .p (.mv (.tmp 8)), none, none⟩,
  ⟨some 57, .e (.call (.func 71) [.tmp 54, .tmp 55, .tmp 56]), none, none⟩,
  ⟨some 58, .e (.call (.func 62) [.const (.int .i64 1), .tmp 57]), none, none⟩,
  ⟨some 10, .p (.mv (.tmp 58)), none, none⟩])
  (.seq (.region [⟨some 59, .l (.load (.agg 3) (.tmp 5)), none, some (.st [.i .i64, .i .i64, .l])⟩,
  ⟨some 60, .p (.mv (.tmp 8)), none, none⟩,
  ⟨some 61, .p (.mv (.tmp 10)), none, none⟩,
  ⟨some 62, .e (.call (.func 75) [.tmp 59, .tmp 60, .tmp 61]), none, none⟩])
  (.seq (.region [⟨some 63, .l (.load (.agg 3) (.tmp 6)), none, some (.st [.i .i64, .i .i64, .l])⟩,
  ⟨some 64, .p (.mv (.tmp 8)), none, none⟩,
  ⟨some 65, .p (.mv (.tmp 10)), none, none⟩,
  ⟨some 66, .e (.call (.func 75) [.tmp 63, .tmp 64, .tmp 65]), none, none⟩])
  (.seq (.region [⟨some 11, .p (.mv (.const (.int .i64 0))), none, none⟩])
  (.block 2 (.loop [(1, .p), (2, .p), (5, .p), (6, .p), (8, .i .i64), (11, .i .i64)] (.seq (.seq (.region [⟨some 67, .p (.mv (.tmp 11)), none, none⟩,
  ⟨some 68, .p (.fieldAddr 0 (.tmp 1)), none, none⟩,
  ⟨some 69, .l (.load (.i .i64) (.tmp 68)), none, none⟩,
  ⟨some 70, .p (.bin .lss (.tmp 67) (.tmp 69)), none, none⟩])
  (.cond (.tmp 70) (.skip) (.exit 2)))
  (.seq (.join [(1, .p), (2, .p), (5, .p), (6, .p), (8, .i .i64), (11, .i .i64)] (.block 3 (.seq (.join [(1, .p), (2, .p), (5, .p), (6, .p), (8, .i .i64), (11, .i .i64), (82, .b)] (.region [⟨some 73, .p (.mv (.tmp 11)), none, none⟩,
  ⟨some 74, .p (.mv (.tmp 8)), none, none⟩,
  ⟨some 75, .p (.bin .neq (.tmp 73) (.tmp 74)), none, none⟩,
  ⟨some 76, .p (.mv (.tmp 75)), none, none⟩,
  ⟨some 77, .l (.load (.agg 3) (.tmp 5)), (some (76, true)), some (.st [.i .i64, .i .i64, .l])⟩,
  ⟨some 78, .p (.mv (.tmp 11)), (some (76, true)), none⟩,
  ⟨some 79, .p (.mv (.tmp 8)), (some (76, true)), none⟩,
  ⟨some 80, .e (.call (.func 71) [.tmp 77, .tmp 78, .tmp 79]), (some (76, true)), none⟩,
  ⟨some 81, .p (.bin .neq (.tmp 80) (.const (.int .i64 0))), (some (76, true)), none⟩,
  ⟨some 82, .p (.pick (.tmp 76) (.tmp 81) (.const (.bool false))), none, none⟩]))
  (.cond (.tmp 82) (.seq (.region [⟨some 83, .l (.load (.agg 3) (.tmp 5)), none, some (.st [.i .i64, .i .i64, .l])⟩,
  ⟨some 84, .p (.mv (.tmp 11)), none, none⟩,
  ⟨some 85, .p (.mv (.tmp 8)), none, none⟩,
  ⟨some 86, .e (.call (.func 71) [.tmp 83, .tmp 84, .tmp 85]), none, none⟩,
  ⟨some 12, .p (.mv (.tmp 86)), none, none⟩])
  (.seq (.region [⟨some 87, .l (.load (.agg 3) (.tmp 5)), none, some (.st [.i .i64, .i .i64, .l])⟩,
  ⟨some 88, .p (.mv (.tmp 11)), none, none⟩,
  ⟨some 89, .p (.mv (.tmp 8)), none, none⟩,
  ⟨some 90, .p (.mv (.tmp 12)), none, none⟩,
  ⟨some 91, .e (.call (.func 76) [.tmp 87, .tmp 88, .tmp 89, .tmp 90]), none, none⟩])
  (.region [⟨some 92, .l (.load (.agg 3) (.tmp 6)), none, some (.st [.i .i64, .i .i64, .l])⟩,
  ⟨some 93, .p (.mv (.tmp 11)), none, none⟩,
  ⟨some 94, .p (.mv (.tmp 8)), none, none⟩,
  ⟨some 95, .p (.mv (.tmp 12)), none, none⟩,
  ⟨some 96, .e (.call (.func 76) [.tmp 92, .tmp 93, .tmp 94, .tmp 95]), none, none⟩]))) (.skip)))))
  (.region [⟨some 71, .p (.mv (.tmp 11)), none, none⟩,
  ⟨some 72, .p (.bin .add (.tmp 71) (.const (.int .i64 1))), none, none⟩,
  ⟨some 11, .p (.mv (.tmp 72)), none, none⟩])))))))))))))))
  (.region [⟨some 37, .p (.mv (.tmp 8)), none, none⟩,
  ⟨some 38, .p (.bin .add (.tmp 37) (.const (.int .i64 1))), none, none⟩,
  ⟨some 8, .p (.mv (.tmp 38)), none, none⟩])))))))
  (.seq (.region [⟨some 97, .l (.load (.agg 3) (.tmp 6)), none, some (.st [.i .i64, .i .i64, .l])⟩,
  ⟨none, .e (.store (some 3) (.tmp 2) (.tmp 97)), none, none⟩,
  ⟨some 3, .p (.mv (.const (.int .i64 0))), none, none⟩])
  (.ret)))))))
noncomputable def e_ref04_Inverse (k : Nat) (D : CallF) : Ent := entOf 51 [(0, .st [.i .i64, .i .i64, .l])] [(2, .st [.i .i64, .i .i64, .l]), (3, .i .i64)] (ref04_Inverse k D)
theorem q_ref04_Inverse : (Try.f51.body).bind (rcodeOf Try.prog 0 Try.f51.ntmps) = some (strip r_ref04_Inverse) := by kernel_rfl
theorem t_ref04_Inverse (k : Nat) (D : CallF) : curF [(0, .st [.i .i64, .i .i64, .l])] (fun args h => denF (C_ref04_Inverse k D) k r_ref04_Inverse [(2, .st [.i .i64, .i .i64, .l]), (3, .i .i64)] [some (.agg 3), none] args h) = ref04_Inverse k D := by kernel_rfl
theorem ok_ref04_Inverse {D : CallF} (hD : CSound Try.prog 0 D) (k : Nat) : EntOk Try.prog 0 (e_ref04_Inverse k D) :=
  entOf_ok2 (mkC_sound hD (EntsOk.more (ok_ref04_Check hD k) (EntsOk.more (ok_ref04_copied hD k) (EntsOk.more (ok_ref04_One hD k) (EntsOk.more (ok_ref04_M_lead hD k) (EntsOk.more (ok_ref04_M_swap hD k) (EntsOk.more (ok_ref04_M_At hD k) (EntsOk.more (ok_ref03_Over hD k) (EntsOk.more (ok_ref04_M_scale hD k) (EntsOk.more (ok_ref04_M_add hD k) (EntsOk.none))))))))))) Try.func51 rfl q_ref04_Inverse rfl (t_ref04_Inverse k D)
end Gy

namespace Gy
open Go Gx Go.Proofs
set_option maxRecDepth 100000

noncomputable def C_matrix_Space_Rank (k : Nat) (D : CallF) : CallF := mkC D [e_matrix_Check k D, e_matrix_clone k D, e_matrix_blank k D, e_matrix_Space_steps k D]
noncomputable def matrix_Space_Rank (k : Nat) (D : CallF) (s_0 : Option Addr) (a_1 : Int × Int × Slc) (h : AHeap) : Option ((Int × Int) × AHeap) :=
  let h1 := AHeap.new h (.cells [.int .i64 a_1.1, .int .i64 a_1.2.1, .slice a_1.2.2.a a_1.2.2.len a_1.2.2.cap] 51 true 0)
  (ldA 3 (⟨h.next, 0, none⟩ : Addr) h1).bind fun l2 =>
  (decC [.i .i64, .i .i64, .l] l2).bind fun x3 =>
  (matrix_Check k D (x3.1, x3.2.1, x3.2.2) h1).bind fun r4 =>
  (if (r4.1 != 0) = true then
  some ((0, r4.1), r4.2)
  else
  (ldA 3 (⟨h.next, 0, none⟩ : Addr) r4.2).bind fun l5 =>
  (decC [.i .i64, .i .i64, .l] l5).bind fun x6 =>
  (matrix_clone k D (x6.1, x6.2.1, x6.2.2) r4.2).bind fun r7 =>
  (ldI .i64 (⟨h.next, 0, none⟩ : Addr) r7.2).bind fun x8 =>
  guardP (SameW [r4.2] (fun H10 => (ldI .i64 (⟨h.next, 0, none⟩ : Addr) H10).bind fun y9 => some (.int .i64 y9)) (.int .i64 x8)) (
  (matrix_blank k D x8 1 r7.2).bind fun r11 =>
  (matrix_Space_steps k D s_0 (r7.1.1, r7.1.2.1, r7.1.2.2) (r11.1.1, r11.1.2.1, r11.1.2.2) r11.2).bind fun r12 =>
  some ((r12.1, 0), r12.2)))
def r_matrix_Space_Rank : RCode := .seq (.region [⟨some 3, .a (.box 51 (.tmp 1)), none, none⟩,
  ⟨some 4, .p (.mv (.const (.int .i64 0))), none, none⟩,
  ⟨some 5, .p (.mv (.const (.int .i64 0))), none, none⟩])
  (.seq (.seq (.region [⟨some 7, .l (.load (.agg 3) (.tmp 3)), none, some (.st [.i .i64, .i .i64, .l])⟩,
  ⟨some 8, .e (.call (.func 53) [.tmp 7]), none, none⟩,
  ⟨some 6, .p (.mv (.tmp 8)), none, none⟩])
  (.seq (.region [⟨some 9, .p (.mv (.tmp 6)), none, none⟩,
  ⟨some 10, .p (.bin .neq (.tmp 9) (.const (.int .i64 0))), none, none⟩])
  (.cond (.tmp 10) (.seq (.region [⟨some 11, .p (.mv (.tmp 6)), none, none⟩,
  ⟨some 4, .p (.mv (.const (.int .i64 0))), none, none⟩,
  ⟨some 5, .p (.mv (.tmp 11)), none, none⟩])
  (.ret)) (.skip))))
  (.seq (.draw [⟨1, ⟨some 13, .l (.load (.agg 3) (.tmp 3)), none, some (.st [.i .i64, .i .i64, .l])⟩, [3], 0⟩,
  ⟨2, ⟨some 14, .e (.call (.func 70) [.tmp 13]), none, none⟩, [13], 0⟩,
  ⟨3, ⟨some 15, .p (.fieldAddr 0 (.tmp 3)), none, none⟩, [3], 1⟩,
  ⟨4, ⟨some 16, .l (.load (.i .i64) (.tmp 15)), none, none⟩, [15], 1⟩,
  ⟨5, ⟨some 17, .e (.call (.func 65) [.tmp 16, .const (.int .i64 1)]), none, none⟩, [16], 0⟩,
  ⟨0, ⟨some 12, .p (.mv (.tmp 0)), none, none⟩, [0], 2⟩,
  ⟨6, ⟨some 18, .e (.call (.func 69) [.tmp 12, .tmp 14, .tmp 17]), none, none⟩, [12, 14, 17], 0⟩,
  ⟨7, ⟨some 4, .p (.mv (.tmp 18)), none, none⟩, [18], 0⟩,
  ⟨8, ⟨some 5, .p (.mv (.const (.int .i64 0))), none, none⟩, [], 0⟩])
  (.ret)))
noncomputable def e_matrix_Space_Rank (k : Nat) (D : CallF) : Ent := entOf 46 [(0, .p), (1, .st [.i .i64, .i .i64, .l])] [(4, .i .i64), (5, .i .i64)] (matrix_Space_Rank k D)
theorem q_matrix_Space_Rank : (Try.f46.body).bind (rcodeOf Try.prog 0 Try.f46.ntmps) = some (strip r_matrix_Space_Rank) := by kernel_rfl
theorem t_matrix_Space_Rank (k : Nat) (D : CallF) : curF [(0, .p), (1, .st [.i .i64, .i .i64, .l])] (fun args h => denF (C_matrix_Space_Rank k D) k r_matrix_Space_Rank [(4, .i .i64), (5, .i .i64)] [none, none] args h) = matrix_Space_Rank k D := by kernel_rfl
theorem ok_matrix_Space_Rank {D : CallF} (hD : CSound Try.prog 0 D) (k : Nat) : EntOk Try.prog 0 (e_matrix_Space_Rank k D) :=
  entOf_ok2 (mkC_sound hD (EntsOk.more (ok_matrix_Check hD k) (EntsOk.more (ok_matrix_clone hD k) (EntsOk.more (ok_matrix_blank hD k) (EntsOk.more (ok_matrix_Space_steps hD k) (EntsOk.none)))))) Try.func46 rfl q_matrix_Space_Rank rfl (t_matrix_Space_Rank k D)
end Gy

namespace Gy
open Go Gx Go.Proofs
set_option maxRecDepth 100000

noncomputable def C_ref04_Rank (k : Nat) (D : CallF) : CallF := mkC D [e_ref04_Check k D, e_ref04_copied k D, e_ref04_M_lead k D, e_ref04_M_swap k D, e_ref04_M_At k D, e_ref03_Over k D, e_ref04_M_scale k D, e_ref04_M_add k D]
noncomputable def ref04_Rank_l1b (k : Nat) (D : CallF) (j57 : (Option Addr) → (Option Addr) → Int → Int → AHeap → Option ((Int × Int) × AHeap)) (rec64 : (Option Addr) → (Option Addr) → Int → Int → Int → AHeap → Option ((Int × Int) × AHeap)) (a58 : Option Addr) (l59 : Option Addr) (n60 : Int) (j61 : Int) (kv62 : Int) (h63 : AHeap) : Option ((Int × Int) × AHeap) :=
  (a58).bind fun p65 =>
  (ldI .i64 (⟨p65.block, p65.off + 0, none⟩ : Addr) h63).bind fun x66 =>
  (if (decide (kv62 < x66)) = true then
  (l59).bind fun p67 =>
  (ldA 3 p67 h63).bind fun l68 =>
  (decC [.i .i64, .i .i64, .l] l68).bind fun x69 =>
  (ref04_M_At k D (x69.1, x69.2.1, x69.2.2) kv62 j61 h63).bind fun r70 =>
  (l59).bind fun p71 =>
  (ldA 3 p71 r70.2).bind fun l72 =>
  guardP (SameW [h63] (fun H74 => (l59).bind fun p75 => (ldA 3 p75 H74).bind fun y73 => some (.agg ⟨y73⟩)) (.agg ⟨l72⟩)) (
  (decC [.i .i64, .i .i64, .l] l72).bind fun x76 =>
  (ref04_M_add k D (x76.1, x76.2.1, x76.2.2) kv62 n60 r70.1 r70.2).bind fun r77 =>
  rec64 a58 l59 n60 j61 (IntKind.wrap .i64 (kv62 + 1)) r77.2)
  else
  j57 a58 l59 n60 j61 h63)
noncomputable def ref04_Rank_l1 (k : Nat) (D : CallF) (j57 : (Option Addr) → (Option Addr) → Int → Int → AHeap → Option ((Int × Int) × AHeap)) : (Option Addr) → (Option Addr) → Int → Int → Int → AHeap → Option ((Int × Int) × AHeap) :=
  iterK (α := (Option Addr) → (Option Addr) → Int → Int → Int → AHeap → Option ((Int × Int) × AHeap)) (fun _ _ _ _ _ _ => none) k (ref04_Rank_l1b k D j57)
noncomputable def ref04_Rank_l0b (k : Nat) (D : CallF) (j12 : Int → AHeap → Option ((Int × Int) × AHeap)) (rec18 : (Option Addr) → (Option Addr) → Int → Int → AHeap → Option ((Int × Int) × AHeap)) (a13 : Option Addr) (l14 : Option Addr) (n15 : Int) (j16 : Int) (h17 : AHeap) : Option ((Int × Int) × AHeap) :=
  joinK (fun (a19 : Option Addr) (l20 : Option Addr) (n21 : Int) (j22 : Int) (y23 : Bool) (h24 : AHeap) =>
  (if y23 = true then
  joinK (fun (a26 : Option Addr) (l27 : Option Addr) (n28 : Int) (j29 : Int) (h30 : AHeap) =>
  rec18 a26 l27 n28 (IntKind.wrap .i64 (j29 + 1)) h30) fun j31 =>
  (l20).bind fun p32 =>
  (ldA 3 p32 h24).bind fun l33 =>
  (decC [.i .i64, .i .i64, .l] l33).bind fun x34 =>
  (ref04_M_lead k D (x34.1, x34.2.1, x34.2.2) n21 j22 h24).bind fun r35 =>
  (if (decide (r35.1 < 0)) = true then
  j31 a19 l20 n21 j22 r35.2
  else
  (l20).bind fun p36 =>
  (ldA 3 p36 r35.2).bind fun l37 =>
  (decC [.i .i64, .i .i64, .l] l37).bind fun x38 =>
  (ref04_M_swap k D (x38.1, x38.2.1, x38.2.2) r35.1 n21 r35.2).bind fun r39 =>
  (l20).bind fun p40 =>
  (ldA 3 p40 r39.2).bind fun l41 =>
  (decC [.i .i64, .i .i64, .l] l41).bind fun x42 =>
  (ref04_M_At k D (x42.1, x42.2.1, x42.2.2) n21 j22 r39.2).bind fun r43 =>
  (ref03_Over k D 1 r43.1 r43.2).bind fun r44 =>
  (l20).bind fun p45 =>
  (ldA 3 p45 r44.2).bind fun l46 =>
  guardP (SameW [r43.2, r39.2] (fun H48 => (l20).bind fun p49 => (ldA 3 p49 H48).bind fun y47 => some (.agg ⟨y47⟩)) (.agg ⟨l46⟩)) (
  (decC [.i .i64, .i .i64, .l] l46).bind fun x50 =>
  (ref04_M_scale k D (x50.1, x50.2.1, x50.2.2) n21 r44.1 r44.2).bind fun r51 =>
  joinK (fun (a52 : Option Addr) (l53 : Option Addr) (n54 : Int) (j55 : Int) (h56 : AHeap) =>
  j31 a52 l53 (IntKind.wrap .i64 (n54 + 1)) j55 h56) fun j57 =>
  ref04_Rank_l1 k D j57 a19 l20 n21 j22 (IntKind.wrap .i64 (n21 + 1)) r51.2))
  else
  j12 n21 h24)) fun j25 =>
  (a13).bind fun p78 =>
  (ldI .i64 (⟨p78.block, p78.off + 1, none⟩ : Addr) h17).bind fun x79 =>
  (if (decide (j16 < x79)) = true then
  (a13).bind fun p80 =>
  (ldI .i64 (⟨p80.block, p80.off + 0, none⟩ : Addr) h17).bind fun x81 =>
  j25 a13 l14 n15 j16 (decide (n15 < x81)) h17
  else
  j25 a13 l14 n15 j16 false h17)
noncomputable def ref04_Rank_l0 (k : Nat) (D : CallF) (j12 : Int → AHeap → Option ((Int × Int) × AHeap)) : (Option Addr) → (Option Addr) → Int → Int → AHeap → Option ((Int × Int) × AHeap) :=
  iterK (α := (Option Addr) → (Option Addr) → Int → Int → AHeap → Option ((Int × Int) × AHeap)) (fun _ _ _ _ _ => none) k (ref04_Rank_l0b k D j12)
noncomputable def ref04_Rank (k : Nat) (D : CallF) (a_0 : Int × Int × Slc) (h : AHeap) : Option ((Int × Int) × AHeap) :=
  let h1 := AHeap.new h (.cells [.int .i64 a_0.1, .int .i64 a_0.2.1, .slice a_0.2.2.a a_0.2.2.len a_0.2.2.cap] 54 true 0)
  (ldA 3 (⟨h.next, 0, none⟩ : Addr) h1).bind fun l2 =>
  (decC [.i .i64, .i .i64, .l] l2).bind fun x3 =>
  (ref04_Check k D (x3.1, x3.2.1, x3.2.2) h1).bind fun r4 =>
  (if (r4.1 != 0) = true then
  some ((0, r4.1), r4.2)
  else
  (ldA 3 (⟨h.next, 0, none⟩ : Addr) r4.2).bind fun l5 =>
  (decC [.i .i64, .i .i64, .l] l5).bind fun x6 =>
  (ref04_copied k D (x6.1, x6.2.1, x6.2.2) r4.2).bind fun r7 =>
  let h8 := AHeap.new r7.2 (.cells [.int .i64 0, .int .i64 0, .slice none 0 0] 54 true 0)
  (stL 3 (⟨r7.2.next, 0, none⟩ : Addr) ([.int .i64 r7.1.1, .int .i64 r7.1.2.1, .slice r7.1.2.2.a r7.1.2.2.len r7.1.2.2.cap]) h8).bind fun h9 =>
  joinK (fun (n10 : Int) (h11 : AHeap) =>
  some ((n10, 0), h11)) fun j12 =>
  ref04_Rank_l0 k D j12 (some (⟨h.next, 0, none⟩ : Addr)) (some (⟨r7.2.next, 0, none⟩ : Addr)) 0 0 h9)
def r_ref04_Rank : RCode := .seq (.region [⟨some 1, .a (.box 54 (.tmp 0)), none, none⟩,
  ⟨some 2, .p (.mv (.const (.int .i64 0))), none, none⟩,
  ⟨some 3, .p (.mv (.const (.int .i64 0))), none, none⟩])
  (.seq (.seq (.region [⟨some 10, .l (.load (.agg 3) (.tmp 1)), none, some (.st [.i .i64, .i .i64, .l])⟩,
  ⟨some 11, .e (.call (.func 54) [.tmp 10]), none, none⟩,
  ⟨some 4, .p (.mv (.tmp 11)), none, none⟩])
  (.seq (.region [⟨some 12, .p (.mv (.tmp 4)), none, none⟩,
  ⟨some 13, .p (.bin .neq (.tmp 12) (.const (.int .i64 0))), none, none⟩])
  (.cond (.tmp 13) (.seq (.region [⟨some 14, .p (.mv (.tmp 4)), none, none⟩,
  ⟨some 2, .p (.mv (.const (.int .i64 0))), none, none⟩,
  ⟨some 3, .p (.mv (.tmp 14)), none, none⟩])
  (.ret)) (.skip))))
  (.seq (.region [⟨some 15, .l (.load (.agg 3) (.tmp 1)), none, some (.st [.i .i64, .i .i64, .l])⟩,
  ⟨some 16, .e (.call (.func 72) [.tmp 15]), none, none⟩,
  ⟨some 5, .a (.alloc 54 [.int .i64 0, .int .i64 0, .slice none 0 0]), none, none⟩,
  ⟨none, .e (.store (some 3) (.tmp 5) (.tmp 16)), none, none⟩])
  (.seq (.region [⟨some 6, .p (.mv (.const (.int .i64 0))), none, none⟩])
  (.seq (.join [(6, .i .i64)] (.seq (.region [⟨some 7, .p (.mv (.const (.int .i64 0))), none, none⟩])
  (.block 0 (.loop [(1, .p), (5, .p), (6, .i .i64), (7, .i .i64)] (.seq (.seq (.join [(1, .p), (5, .p), (6, .i .i64), (7, .i .i64), (26, .b)] (.region [⟨some 17, .p (.mv (.tmp 7)), none, none⟩,
  ⟨some 18, .p (.fieldAddr 1 (.tmp 1)), none, none⟩,
  ⟨some 19, .l (.load (.i .i64) (.tmp 18)), none, none⟩,
  ⟨some 20, .p (.bin .lss (.tmp 17) (.tmp 19)), none, none⟩,
  ⟨some 21, .p (.mv (.tmp 20)), none, none⟩,
  ⟨some 22, .p (.mv (.tmp 6)), (some (21, true)), none⟩,
  ⟨some 23, .p (.fieldAddr 0 (.tmp 1)), (some (21, true)), none⟩,
  ⟨some 24, .l (.load (.i .i64) (.tmp 23)), (some (21, true)), none⟩,
  ⟨some 25, .p (.bin .lss (.tmp 22) (.tmp 24)), (some (21, true)), none⟩,
  ⟨some 26, .p (.pick (.tmp 21) (.tmp 25) (.const (.bool false))), none, none⟩]))
  (.cond (.tmp 26) (.skip) (.exit 0)))
  (.seq (.join [(1, .p), (5, .p), (6, .i .i64), (7, .i .i64)] (.block 1 (.seq (.region [⟨some 29, .l (.load (.agg 3) (.tmp 5)), none, some (.st [.i .i64, .i .i64, .l])⟩,
  ⟨some 30, .p (.mv (.tmp 6)), none, none⟩,
  ⟨some 31, .p (.mv (.tmp 7)), none, none⟩,
  ⟨some 32, .e (.call (.func 73) [.tmp 29, .tmp 30, .tmp 31]), none, none⟩,
  ⟨some 8, .p (.mv (.tmp 32)), none, none⟩])
  (.seq (.seq (.region [⟨some 33, .p (.mv (.tmp 8)), none, none⟩,
  ⟨some 34, .p (.bin .lss (.tmp 33) (.const (.int .i64 0))), none, none⟩])
  (.cond (.tmp 34) (.exit 1) (.skip)))
  (.seq (.region [⟨some 35, .l (.load (.agg 3) (.tmp 5)), none, some (.st [.i .i64, .i .i64, .l])⟩,
  ⟨some 36, .p (.mv (.tmp 8)), none, none⟩,
  ⟨some 37, .p (.mv (.tmp 6)), none, none⟩,
  ⟨some 38, .e (.call (.func 74) [.tmp 35, .tmp 36, .tmp 37]), none, none⟩])
  (.seq (.draw [⟨2, ⟨some 41, .l (.load (.agg 3) (.tmp 5)), none, some (.st [.i .i64, .i .i64, .l])⟩, [5], 0⟩,
  ⟨3, ⟨some 42, .p (.mv (.tmp 6)), none, none⟩, [6], 0⟩,
  ⟨4, ⟨some 43, .p (.mv (.tmp 7)), none, none⟩, [7], 0⟩,
  ⟨5, ⟨some 44, .e (.call (.func 71) [.tmp 41, .tmp 42, .tmp 43]), none, none⟩, [41, 42, 43], 0⟩,
  ⟨6, ⟨some 45, .e (.call (.func 62) [.const (.int .i64 1), .tmp 44]), none, none⟩, [44], 0⟩,
  ⟨0, ⟨some 39, .l (.load (.agg 3) (.tmp 5)), none, some (.st [.i .i64, .i .i64, .l])⟩, [5], 2⟩,
  ⟨1, ⟨some 40, .p (.mv (.tmp 6)), none, none⟩, [6], 2⟩,
  ⟨7, ⟨some 46, .e (.call (.func 75) [.tmp 39, .tmp 40, .tmp 45]), none, none⟩, [39, 40, 45], 0⟩])
  (.seq (.join [(1, .p), (5, .p), (6, .i .i64), (7, .i .i64)] (.seq (.region [⟨some 47, .p (.mv (.tmp 6)), none, none⟩,
  ⟨some 48, .p (.bin .add (.tmp 47) (.const (.int .i64 1))), none, none⟩,
  ⟨some 9, .p (.mv (.tmp 48)), none, none⟩])
  (.block 2 (.loop [(1, .p), (5, .p), (6, .i .i64), (7, .i .i64), (9, .i .i64)] (.seq (.seq (.region [⟨some 49, .p (.mv (.tmp 9)), none, none⟩,
  ⟨some 50, .p (.fieldAddr 0 (.tmp 1)), none, none⟩,
  ⟨some 51, .l (.load (.i .i64) (.tmp 50)), none, none⟩,
  ⟨some 52, .p (.bin .lss (.tmp 49) (.tmp 51)), none, none⟩])
  (.cond (.tmp 52) (.skip) (.exit 2)))
  (.seq (.block 3 (.draw [⟨3, ⟨some 58, .l (.load (.agg 3) (.tmp 5)), none, some (.st [.i .i64, .i .i64, .l])⟩, [5], 0⟩,
  ⟨4, ⟨some 59, .p (.mv (.tmp 9)), none, none⟩, [9], 0⟩,
  ⟨5, ⟨some 60, .p (.mv (.tmp 7)), none, none⟩, [7], 0⟩,
  ⟨6, ⟨some 61, .e (.call (.func 71) [.tmp 58, .tmp 59, .tmp 60]), none, none⟩, [58, 59, 60], 0⟩,
  ⟨0, ⟨some 55, .l (.load (.agg 3) (.tmp 5)), none, some (.st [.i .i64, .i .i64, .l])⟩, [5], 1⟩,
  ⟨1, ⟨some 56, .p (.mv (.tmp 9)), none, none⟩, [9], 1⟩,
  ⟨2, ⟨some 57, .p (.mv (.tmp 6)), none, none⟩, [6], 1⟩,
  ⟨7, ⟨some 62, .e (.call (.func 76) [.tmp 55, .tmp 56, .tmp 57, .tmp 61]), none, none⟩, [55, 56, 57, 61], 0⟩]))
  (.region [⟨some 53, .p (.mv (.tmp 9)), none, none⟩,
  ⟨some 54, .p (.bin .add (.tmp 53) (.const (.int .i64 1))), none, none⟩,
  ⟨some 9, .p (.mv (.tmp 54)), none, none⟩])))))))
  (.region [⟨some 63, .p (.mv (.tmp 6)), none, none⟩,
  ⟨some 64, .p (.bin .add (.tmp 63) (.const (.int .i64 1))), none, none⟩,
  ⟨some 6, .p (.mv (.tmp 64)), none, none⟩]))))))))
  (.region [⟨some 27, .p (.mv (.tmp 7)), none, none⟩,
  ⟨some 28, .p (.bin .add (.tmp 27) (.const (.int .i64 1))), none, none⟩,
  ⟨some 7, .p (.mv (.tmp 28)), none, none⟩])))))))
  (.seq (.region [⟨some 65, .p (.mv (.tmp 6)), none, none⟩,
  ⟨some 2, .p (.mv (.tmp 65)), none, none⟩,
  ⟨some 3, .p (.mv (.const (.int .i64 0))), none, none⟩])
  (.ret))))))
noncomputable def e_ref04_Rank (k : Nat) (D : CallF) : Ent := entOf 52 [(0, .st [.i .i64, .i .i64, .l])] [(2, .i .i64), (3, .i .i64)] (ref04_Rank k D)
theorem q_ref04_Rank : (Try.f52.body).bind (rcodeOf Try.prog 0 Try.f52.ntmps) = some (strip r_ref04_Rank) := by kernel_rfl
theorem t_ref04_Rank (k : Nat) (D : CallF) : curF [(0, .st [.i .i64, .i .i64, .l])] (fun args h => denF (C_ref04_Rank k D) k r_ref04_Rank [(2, .i .i64), (3, .i .i64)] [none, none] args h) = ref04_Rank k D := by kernel_rfl
theorem ok_ref04_Rank {D : CallF} (hD : CSound Try.prog 0 D) (k : Nat) : EntOk Try.prog 0 (e_ref04_Rank k D) :=
  entOf_ok2 (mkC_sound hD (EntsOk.more (ok_ref04_Check hD k) (EntsOk.more (ok_ref04_copied hD k) (EntsOk.more (ok_ref04_M_lead hD k) (EntsOk.more (ok_ref04_M_swap hD k) (EntsOk.more (ok_ref04_M_At hD k) (EntsOk.more (ok_ref03_Over hD k) (EntsOk.more (ok_ref04_M_scale hD k) (EntsOk.more (ok_ref04_M_add hD k) (EntsOk.none)))))))))) Try.func52 rfl q_ref04_Rank rfl (t_ref04_Rank k D)
end Gy

namespace Gy
open Go Gx Go.Proofs
set_option maxRecDepth 100000

noncomputable def C_matrix_Turn (k : Nat) (D : CallF) : CallF := mkC D [e_matrix_Check k D, e_matrix_blank k D, e_matrix_M_row k D]
noncomputable def matrix_Turn_l1b (k : Nat) (D : CallF) (j40 : (Option Addr) → (Option Addr) → (Option Addr) → Int → Int → AHeap → Option (((Int × Int × Slc) × Int) × AHeap)) (rec55 : (Option Addr) → (Option Addr) → (Option Addr) → Int → Int → Int → Slc → Int → Int → AHeap → Option (((Int × Int × Slc) × Int) × AHeap)) (a45 : Option Addr) (y46 : Option Addr) (out47 : Option Addr) (i48 : Int) (y49 : Int) (y50 : Int) (y51 : Slc) (y52 : Int) (y53 : Int) (h54 : AHeap) : Option (((Int × Int × Slc) × Int) × AHeap) :=
  (if (decide (y53 < y52)) = true then
  (Gx.idxL 1 y51 y53).bind fun q56 =>
  (ldI .i64 q56 h54).bind fun x57 =>
  (out47).bind fun p58 =>
  (ldA 3 p58 h54).bind fun l59 =>
  (decC [.i .i64, .i .i64, .l] l59).bind fun x60 =>
  (matrix_M_row k D (x60.1, x60.2.1, x60.2.2) y53 h54).bind fun r61 =>
  (Gx.idxL 1 r61.1 i48).bind fun q62 =>
  (st1 q62 (.int .i64 x57) r61.2).bind fun h63 =>
  rec55 a45 y46 out47 i48 y49 y50 y51 y52 (IntKind.wrap .i64 (y53 + 1)) h63
  else
  j40 a45 y46 out47 y49 y50 h54)
noncomputable def matrix_Turn_l1 (k : Nat) (D : CallF) (j40 : (Option Addr) → (Option Addr) → (Option Addr) → Int → Int → AHeap → Option (((Int × Int × Slc) × Int) × AHeap)) : (Option Addr) → (Option Addr) → (Option Addr) → Int → Int → Int → Slc → Int → Int → AHeap → Option (((Int × Int × Slc) × Int) × AHeap) :=
  iterK (α := (Option Addr) → (Option Addr) → (Option Addr) → Int → Int → Int → Slc → Int → Int → AHeap → Option (((Int × Int × Slc) × Int) × AHeap)) (fun _ _ _ _ _ _ _ _ _ _ => none) k (matrix_Turn_l1b k D j40)
noncomputable def matrix_Turn_l0b (k : Nat) (D : CallF) (j17 : (Option Addr) → (Option Addr) → AHeap → Option (((Int × Int × Slc) × Int) × AHeap)) (rec33 : (Option Addr) → (Option Addr) → (Option Addr) → Int → Int → AHeap → Option (((Int × Int × Slc) × Int) × AHeap)) (a27 : Option Addr) (y28 : Option Addr) (out29 : Option Addr) (y30 : Int) (y31 : Int) (h32 : AHeap) : Option (((Int × Int × Slc) × Int) × AHeap) :=
  (if (decide (y31 < y30)) = true then
  joinK (fun (a34 : Option Addr) (y35 : Option Addr) (out36 : Option Addr) (y37 : Int) (y38 : Int) (h39 : AHeap) =>
  rec33 a34 y35 out36 y37 (IntKind.wrap .i64 (y38 + 1)) h39) fun j40 =>
  (a27).bind fun p41 =>
  (ldA 3 p41 h32).bind fun l42 =>
  (decC [.i .i64, .i .i64, .l] l42).bind fun x43 =>
  (matrix_M_row k D (x43.1, x43.2.1, x43.2.2) y31 h32).bind fun r44 =>
  matrix_Turn_l1 k D j40 a27 y28 out29 y31 y30 y31 r44.1 (r44.1.len : Int) 0 r44.2
  else
  j17 y28 out29 h32)
noncomputable def matrix_Turn_l0 (k : Nat) (D : CallF) (j17 : (Option Addr) → (Option Addr) → AHeap → Option (((Int × Int × Slc) × Int) × AHeap)) : (Option Addr) → (Option Addr) → (Option Addr) → Int → Int → AHeap → Option (((Int × Int × Slc) × Int) × AHeap) :=
  iterK (α := (Option Addr) → (Option Addr) → (Option Addr) → Int → Int → AHeap → Option (((Int × Int × Slc) × Int) × AHeap)) (fun _ _ _ _ _ _ => none) k (matrix_Turn_l0b k D j17)
noncomputable def matrix_Turn (k : Nat) (D : CallF) (a_0 : Int × Int × Slc) (h : AHeap) : Option (((Int × Int × Slc) × Int) × AHeap) :=
  let h1 := AHeap.new h (.cells [.int .i64 a_0.1, .int .i64 a_0.2.1, .slice a_0.2.2.a a_0.2.2.len a_0.2.2.cap] 51 true 0)
  let h2 := AHeap.new h1 (.cells [.int .i64 0, .int .i64 0, .slice none 0 0] 51 true 0)
  (ldA 3 (⟨h.next, 0, none⟩ : Addr) h2).bind fun l3 =>
  (decC [.i .i64, .i .i64, .l] l3).bind fun x4 =>
  (matrix_Check k D (x4.1, x4.2.1, x4.2.2) h2).bind fun r5 =>
  (if (r5.1 != 0) = true then
  (stL 3 (⟨h1.next, 0, none⟩ : Addr) ([.int .i64 0, .int .i64 0, .slice none 0 0]) r5.2).bind fun h6 =>
  (ldA 3 (⟨h1.next, 0, none⟩ : Addr) h6).bind fun l7 =>
  (decC [.i .i64, .i .i64, .l] l7).bind fun x8 =>
  some (((x8.1, x8.2.1, x8.2.2), r5.1), h6)
  else
  (ldI .i64 (⟨h.next, 1, none⟩ : Addr) r5.2).bind fun x9 =>
  (ldI .i64 (⟨h.next, 0, none⟩ : Addr) r5.2).bind fun x10 =>
  (matrix_blank k D x9 x10 r5.2).bind fun r11 =>
  let h12 := AHeap.new r11.2 (.cells [.int .i64 0, .int .i64 0, .slice none 0 0] 51 true 0)
  (stL 3 (⟨r11.2.next, 0, none⟩ : Addr) ([.int .i64 r11.1.1, .int .i64 r11.1.2.1, .slice r11.1.2.2.a r11.1.2.2.len r11.1.2.2.cap]) h12).bind fun h13 =>
  joinK (fun (y14 : Option Addr) (out15 : Option Addr) (h16 : AHeap) =>
  (out15).bind fun p18 =>
  (ldA 3 p18 h16).bind fun l19 =>
  (decC [.i .i64, .i .i64, .l] l19).bind fun x20 =>
  (y14).bind fun p21 =>
  (stL 3 p21 ([.int .i64 x20.1, .int .i64 x20.2.1, .slice x20.2.2.a x20.2.2.len x20.2.2.cap]) h16).bind fun h22 =>
  (y14).bind fun p23 =>
  (ldA 3 p23 h22).bind fun l24 =>
  (decC [.i .i64, .i .i64, .l] l24).bind fun x25 =>
  some (((x25.1, x25.2.1, x25.2.2), 0), h22)) fun j17 =>
  (ldI .i64 (⟨h.next, 0, none⟩ : Addr) h13).bind fun x26 =>
  matrix_Turn_l0 k D j17 (some (⟨h.next, 0, none⟩ : Addr)) (some (⟨h1.next, 0, none⟩ : Addr)) (some (⟨r11.2.next, 0, none⟩ : Addr)) x26 0 h13)
def r_matrix_Turn : RCode := .seq (.region [⟨some 1, .a (.box 51 (.tmp 0)), none, none⟩,
  ⟨some 2, .a (.alloc 51 [.int .i64 0, .int .i64 0, .slice none 0 0]), none, none⟩,
  ⟨some 3, .p (.mv (.const (.int .i64 0))), none, none⟩])
  (.seq (.seq (.region [⟨some 9, .l (.load (.agg 3) (.tmp 1)), none, some (.st [.i .i64, .i .i64, .l])⟩,
  ⟨some 10, .e (.call (.func 53) [.tmp 9]), none, none⟩,
  ⟨some 4, .p (.mv (.tmp 10)), none, none⟩])
  (.seq (.region [⟨some 11, .p (.mv (.tmp 4)), none, none⟩,
  ⟨some 12, .p (.bin .neq (.tmp 11) (.const (.int .i64 0))), none, none⟩])
  (.cond (.tmp 12) (.seq (.region [⟨some 13, .p (.build [.int .i64 0, .int .i64 0, .slice none 0 0] []), none, none⟩,
  ⟨some 14, .p (.mv (.tmp 4)), none, none⟩,
  ⟨none, .e (.store (some 3) (.tmp 2) (.tmp 13)), none, none⟩,
  ⟨some 3, .p (.mv (.tmp 14)), none, none⟩])
  (.ret)) (.skip))))
  (.seq (.region [⟨some 15, .p (.fieldAddr 1 (.tmp 1)), none, none⟩,
  ⟨some 16, .l (.load (.i .i64) (.tmp 15)), none, none⟩,
  ⟨some 17, .p (.fieldAddr 0 (.tmp 1)), none, none⟩,
  ⟨some 18, .l (.load (.i .i64) (.tmp 17)), none, none⟩,
  ⟨some 19, .e (.call (.func 65) [.tmp 16, .tmp 18]), none, none⟩,
  ⟨some 5, .a (.alloc 51 [.int .i64 0, .int .i64 0, .slice none 0 0]), none, none⟩,
  ⟨none, .e (.store (some 3) (.tmp 5) (.tmp 19)), none, none⟩])
  (.seq (.join [(2, .p), (5, .p)] (.seq (.region [⟨some 20, .p (.fieldAddr 0 (.tmp 1)), none, none⟩,
  ⟨some 21, .l (.load (.i .i64) (.tmp 20)), none, none⟩,
  ⟨some 22, .p (.mv (.const (.int .i64 0))), none, none⟩])
  (.block 0 (.loop [(1, .p), (2, .p), (5, .p), (21, .i .i64), (22, .i .i64)] (.seq (.region [⟨some 23, .p (.bin .lss (.tmp 22) (.tmp 21)), none, none⟩])
  (.seq (.cond (.tmp 23) (.skip) (.exit 0))
  (.seq (.join [(1, .p), (2, .p), (5, .p), (21, .i .i64), (22, .i .i64)] (.block 1 (.seq (.region [⟨some 24, .p (.mv (.tmp 22)), none, none⟩,
  ⟨some 6, .p (.mv (.tmp 24)), none, none⟩])
  (.seq (.region [⟨some 25, .l (.load (.agg 3) (.tmp 1)), none, some (.st [.i .i64, .i .i64, .l])⟩,
  ⟨some 26, .p (.mv (.tmp 6)), none, none⟩,
  ⟨some 27, .e (.call (.func 66) [.tmp 25, .tmp 26]), none, none⟩,
  ⟨some 28, .p (.lenL (.tmp 27)), none, none⟩,
  ⟨some 29, .p (.mv (.const (.int .i64 0))), none, none⟩])
  (.block 2 (.loop [(1, .p), (2, .p), (5, .p), (6, .i .i64), (21, .i .i64), (22, .i .i64), (27, .l), (28, .i .i64), (29, .i .i64)] (.seq (.region [⟨some 30, .p (.bin .lss (.tmp 29) (.tmp 28)), none, none⟩])
  (.seq (.cond (.tmp 30) (.skip) (.exit 2))
  (.seq (.block 3 (.seq (.region [⟨some 31, .p (.mv (.tmp 29)), none, none⟩,
  ⟨some 32, .p (.idxL 1 (.tmp 27) (.tmp 29)), none, none⟩,
  ⟨some 33, .l (.load (.i .i64) (.tmp 32)), none, none⟩,
  ⟨some 7, .p (.mv (.tmp 31)), none, none⟩,
  ⟨some 8, .p (.mv (.tmp 33)), none, none⟩])
  (.region [⟨some 34, .l (.load (.agg 3) (.tmp 5)), none, some (.st [.i .i64, .i .i64, .l])⟩,
  ⟨some 35, .p (.mv (.tmp 7)), none, none⟩,
  ⟨some 36, .e (.call (.func 66) [.tmp 34, .tmp 35]), none, none⟩,
  ⟨some 37, .p (.mv (.tmp 6)), none, none⟩,
  ⟨some 38, .p (.mv (.tmp 8)), none, none⟩,
  ⟨some 39, .p (.idxL 1 (.tmp 36) (.tmp 37)), none, none⟩,
  ⟨none, .e (.store none (.tmp 39) (.tmp 38)), none, none⟩])))
  (.region [⟨some 40, .p (.bin .add (.tmp 29) (.const (.int .i64 1))), none, none⟩,
  ⟨some 29, .p (.mv (.tmp 40)), none, none⟩]))))))))))
  (.region [⟨some 41, .p (.bin .add (.tmp 22) (.const (.int .i64 1))), none, none⟩,
  ⟨some 22, .p (.mv (.tmp 41)), none, none⟩]))))))))
  (.seq (.region [⟨some 42, .l (.load (.agg 3) (.tmp 5)), none, some (.st [.i .i64, .i .i64, .l])⟩,
  ⟨none, .e (.store (some 3) (.tmp 2) (.tmp 42)), none, none⟩,
  ⟨some 3, .p (.mv (.const (.int .i64 0))), none, none⟩])
  (.ret)))))
noncomputable def e_matrix_Turn (k : Nat) (D : CallF) : Ent := entOf 43 [(0, .st [.i .i64, .i .i64, .l])] [(2, .st [.i .i64, .i .i64, .l]), (3, .i .i64)] (matrix_Turn k D)
theorem q_matrix_Turn : (Try.f43.body).bind (rcodeOf Try.prog 0 Try.f43.ntmps) = some (strip r_matrix_Turn) := by kernel_rfl
theorem t_matrix_Turn (k : Nat) (D : CallF) : curF [(0, .st [.i .i64, .i .i64, .l])] (fun args h => denF (C_matrix_Turn k D) k r_matrix_Turn [(2, .st [.i .i64, .i .i64, .l]), (3, .i .i64)] [some (.agg 3), none] args h) = matrix_Turn k D := by kernel_rfl
theorem ok_matrix_Turn {D : CallF} (hD : CSound Try.prog 0 D) (k : Nat) : EntOk Try.prog 0 (e_matrix_Turn k D) :=
  entOf_ok2 (mkC_sound hD (EntsOk.more (ok_matrix_Check hD k) (EntsOk.more (ok_matrix_blank hD k) (EntsOk.more (ok_matrix_M_row hD k) (EntsOk.none))))) Try.func43 rfl q_matrix_Turn rfl (t_matrix_Turn k D)
end Gy

namespace Gy
open Go Gx Go.Proofs
set_option maxRecDepth 100000

noncomputable def C_ref04_Turn (k : Nat) (D : CallF) : CallF := mkC D [e_ref04_Check k D, e_ref04_zero k D, e_ref04_M_At k D]
noncomputable def ref04_Turn_l1b (k : Nat) (D : CallF) (j39 : (Option Addr) → (Option Addr) → (Option Addr) → Int → AHeap → Option (((Int × Int × Slc) × Int) × AHeap)) (rec46 : (Option Addr) → (Option Addr) → (Option Addr) → Int → Int → AHeap → Option (((Int × Int × Slc) × Int) × AHeap)) (a40 : Option Addr) (y41 : Option Addr) (out42 : Option Addr) (i43 : Int) (j44 : Int) (h45 : AHeap) : Option (((Int × Int × Slc) × Int) × AHeap) :=
  (a40).bind fun p47 =>
  (ldI .i64 (⟨p47.block, p47.off + 1, none⟩ : Addr) h45).bind fun x48 =>
  (if (decide (j44 < x48)) = true then
  (a40).bind fun p49 =>
  (ldA 3 p49 h45).bind fun l50 =>
  (decC [.i .i64, .i .i64, .l] l50).bind fun x51 =>
  (ref04_M_At k D (x51.1, x51.2.1, x51.2.2) i43 j44 h45).bind fun r52 =>
  (out42).bind fun p53 =>
  (ldL (⟨p53.block, p53.off + 2, none⟩ : Addr) r52.2).bind fun x54 =>
  guardP (SameW [h45] (fun H56 => (ldL (⟨p53.block, p53.off + 2, none⟩ : Addr) H56).bind fun y55 => some (.slice y55.a y55.len y55.cap)) (.slice x54.a x54.len x54.cap)) (
  (a40).bind fun p57 =>
  (ldI .i64 (⟨p57.block, p57.off + 0, none⟩ : Addr) r52.2).bind fun x58 =>
  guardP (SameW [h45] (fun H60 => (ldI .i64 (⟨p57.block, p57.off + 0, none⟩ : Addr) H60).bind fun y59 => some (.int .i64 y59)) (.int .i64 x58)) (
  (Gx.idxL 1 x54 (IntKind.wrap .i64 ((IntKind.wrap .i64 (j44 * x58)) + i43))).bind fun q61 =>
  (st1 q61 (.int .i64 r52.1) r52.2).bind fun h62 =>
  rec46 a40 y41 out42 i43 (IntKind.wrap .i64 (j44 + 1)) h62))
  else
  j39 a40 y41 out42 i43 h45)
noncomputable def ref04_Turn_l1 (k : Nat) (D : CallF) (j39 : (Option Addr) → (Option Addr) → (Option Addr) → Int → AHeap → Option (((Int × Int × Slc) × Int) × AHeap)) : (Option Addr) → (Option Addr) → (Option Addr) → Int → Int → AHeap → Option (((Int × Int × Slc) × Int) × AHeap) :=
  iterK (α := (Option Addr) → (Option Addr) → (Option Addr) → Int → Int → AHeap → Option (((Int × Int × Slc) × Int) × AHeap)) (fun _ _ _ _ _ _ => none) k (ref04_Turn_l1b k D j39)
noncomputable def ref04_Turn_l0b (k : Nat) (D : CallF) (j17 : (Option Addr) → (Option Addr) → AHeap → Option (((Int × Int × Slc) × Int) × AHeap)) (rec31 : (Option Addr) → (Option Addr) → (Option Addr) → Int → AHeap → Option (((Int × Int × Slc) × Int) × AHeap)) (a26 : Option Addr) (y27 : Option Addr) (out28 : Option Addr) (i29 : Int) (h30 : AHeap) : Option (((Int × Int × Slc) × Int) × AHeap) :=
  (a26).bind fun p32 =>
  (ldI .i64 (⟨p32.block, p32.off + 0, none⟩ : Addr) h30).bind fun x33 =>
  (if (decide (i29 < x33)) = true then
  joinK (fun (a34 : Option Addr) (y35 : Option Addr) (out36 : Option Addr) (i37 : Int) (h38 : AHeap) =>
  rec31 a34 y35 out36 (IntKind.wrap .i64 (i37 + 1)) h38) fun j39 =>
  ref04_Turn_l1 k D j39 a26 y27 out28 i29 0 h30
  else
  j17 y27 out28 h30)
noncomputable def ref04_Turn_l0 (k : Nat) (D : CallF) (j17 : (Option Addr) → (Option Addr) → AHeap → Option (((Int × Int × Slc) × Int) × AHeap)) : (Option Addr) → (Option Addr) → (Option Addr) → Int → AHeap → Option (((Int × Int × Slc) × Int) × AHeap) :=
  iterK (α := (Option Addr) → (Option Addr) → (Option Addr) → Int → AHeap → Option (((Int × Int × Slc) × Int) × AHeap)) (fun _ _ _ _ _ => none) k (ref04_Turn_l0b k D j17)
noncomputable def ref04_Turn (k : Nat) (D : CallF) (a_0 : Int × Int × Slc) (h : AHeap) : Option (((Int × Int × Slc) × Int) × AHeap) :=
  let h1 := AHeap.new h (.cells [.int .i64 a_0.1, .int .i64 a_0.2.1, .slice a_0.2.2.a a_0.2.2.len a_0.2.2.cap] 54 true 0)
  let h2 := AHeap.new h1 (.cells [.int .i64 0, .int .i64 0, .slice none 0 0] 54 true 0)
  (ldA 3 (⟨h.next, 0, none⟩ : Addr) h2).bind fun l3 =>
  (decC [.i .i64, .i .i64, .l] l3).bind fun x4 =>
  (ref04_Check k D (x4.1, x4.2.1, x4.2.2) h2).bind fun r5 =>
  (if (r5.1 != 0) = true then
  (stL 3 (⟨h1.next, 0, none⟩ : Addr) ([.int .i64 0, .int .i64 0, .slice none 0 0]) r5.2).bind fun h6 =>
  (ldA 3 (⟨h1.next, 0, none⟩ : Addr) h6).bind fun l7 =>
  (decC [.i .i64, .i .i64, .l] l7).bind fun x8 =>
  some (((x8.1, x8.2.1, x8.2.2), r5.1), h6)
  else
  (ldI .i64 (⟨h.next, 1, none⟩ : Addr) r5.2).bind fun x9 =>
  (ldI .i64 (⟨h.next, 0, none⟩ : Addr) r5.2).bind fun x10 =>
  (ref04_zero k D x9 x10 r5.2).bind fun r11 =>
  let h12 := AHeap.new r11.2 (.cells [.int .i64 0, .int .i64 0, .slice none 0 0] 54 true 0)
  (stL 3 (⟨r11.2.next, 0, none⟩ : Addr) ([.int .i64 r11.1.1, .int .i64 r11.1.2.1, .slice r11.1.2.2.a r11.1.2.2.len r11.1.2.2.cap]) h12).bind fun h13 =>
  joinK (fun (y14 : Option Addr) (out15 : Option Addr) (h16 : AHeap) =>
  (out15).bind fun p18 =>
  (ldA 3 p18 h16).bind fun l19 =>
  (decC [.i .i64, .i .i64, .l] l19).bind fun x20 =>
  (y14).bind fun p21 =>
  (stL 3 p21 ([.int .i64 x20.1, .int .i64 x20.2.1, .slice x20.2.2.a x20.2.2.len x20.2.2.cap]) h16).bind fun h22 =>
  (y14).bind fun p23 =>
  (ldA 3 p23 h22).bind fun l24 =>
  (decC [.i .i64, .i .i64, .l] l24).bind fun x25 =>
  some (((x25.1, x25.2.1, x25.2.2), 0), h22)) fun j17 =>
  ref04_Turn_l0 k D j17 (some (⟨h.next, 0, none⟩ : Addr)) (some (⟨h1.next, 0, none⟩ : Addr)) (some (⟨r11.2.next, 0, none⟩ : Addr)) 0 h13)
def r_ref04_Turn : RCode := .seq (.region [⟨some 1, .a (.box 54 (.tmp 0)), none, none⟩,
  ⟨some 2, .a (.alloc 54 [.int .i64 0, .int .i64 0, .slice none 0 0]), none, none⟩,
  ⟨some 3, .p (.mv (.const (.int .i64 0))), none, none⟩])
  (.seq (.seq (.region [⟨some 8, .l (.load (.agg 3) (.tmp 1)), none, some (.st [.i .i64, .i .i64, .l])⟩,
  ⟨some 9, .e (.call (.func 54) [.tmp 8]), none, none⟩,
  ⟨some 4, .p (.mv (.tmp 9)), none, none⟩])
  (.seq (.region [⟨some 10, .p (.mv (.tmp 4)), none, none⟩,
  ⟨some 11, .p (.bin .neq (.tmp 10) (.const (.int .i64 0))), none, none⟩])
  (.cond (.tmp 11) (.seq (.region [⟨some 12, .p (.build [.int .i64 0, .int .i64 0, .slice none 0 0] []), none, none⟩,
  ⟨some 13, .p (.mv (.tmp 4)), none, none⟩,
  ⟨none, .e (.store (some 3) (.tmp 2) (.tmp 12)), none, none⟩,
  ⟨some 3, .p (.mv (.tmp 13)), none, none⟩])
  (.ret)) (.skip))))
  (.seq (.region [⟨some 14, .p (.fieldAddr 1 (.tmp 1)), none, none⟩,
  ⟨some 15, .l (.load (.i .i64) (.tmp 14)), none, none⟩,
  ⟨some 16, .p (.fieldAddr 0 (.tmp 1)), none, none⟩,
  ⟨some 17, .l (.load (.i .i64) (.tmp 16)), none, none⟩,
  ⟨some 18, .e (.call (.func 67) [.tmp 15, .tmp 17]), none, none⟩,
  ⟨some 5, .a (.alloc 54 [.int .i64 0, .int .i64 0, .slice none 0 0]), none, none⟩,
  ⟨none, .e (.store (some 3) (.tmp 5) (.tmp 18)), none, none⟩])
  (.seq (.join [(2, .p), (5, .p)] (.seq (.region [⟨some 6, .p (.mv (.const (.int .i64 0))), none, none⟩])
  (.block 0 (.loop [(1, .p), (2, .p), (5, .p), (6, .i .i64)] (.seq (.seq (.region [⟨some 19, .p (.mv (.tmp 6)), none, none⟩,
  ⟨some 20, .p (.fieldAddr 0 (.tmp 1)), none, none⟩,
  ⟨some 21, .l (.load (.i .i64) (.tmp 20)), none, none⟩,
  ⟨some 22, .p (.bin .lss (.tmp 19) (.tmp 21)), none, none⟩])
  (.cond (.tmp 22) (.skip) (.exit 0)))
  (.seq (.join [(1, .p), (2, .p), (5, .p), (6, .i .i64)] (.block 1 (.seq (.region [⟨some 7, .p (.mv (.const (.int .i64 0))), none, none⟩])
  (.block 2 (.loop [(1, .p), (2, .p), (5, .p), (6, .i .i64), (7, .i .i64)] (.seq (.seq (.region [⟨some 25, .p (.mv (.tmp 7)), none, none⟩,
  ⟨some 26, .p (.fieldAddr 1 (.tmp 1)), none, none⟩,
  ⟨some 27, .l (.load (.i .i64) (.tmp 26)), none, none⟩,
  ⟨some 28, .p (.bin .lss (.tmp 25) (.tmp 27)), none, none⟩])
  (.cond (.tmp 28) (.skip) (.exit 2)))
  (.seq (.block 3 (.draw [⟨8, ⟨some 39, .l (.load (.agg 3) (.tmp 1)), none, some (.st [.i .i64, .i .i64, .l])⟩, [1], 0⟩,
  ⟨9, ⟨some 40, .p (.mv (.tmp 6)), none, none⟩, [6], 0⟩,
  ⟨10, ⟨some 41, .p (.mv (.tmp 7)), none, none⟩, [7], 0⟩,
  ⟨11, ⟨some 42, .e (.call (.func 71) [.tmp 39, .tmp 40, .tmp 41]), none, none⟩, [39, 40, 41], 0⟩,
  ⟨0, ⟨some 31, .p (.fieldAddr 2 (.tmp 5)), none, none⟩, [5], 1⟩,
  ⟨1, ⟨some 32, .l (.load (.l) (.tmp 31)), none, none⟩, [31], 1⟩,
  ⟨2, ⟨some 33, .p (.mv (.tmp 7)), none, none⟩, [7], 1⟩,
  ⟨3, ⟨some 34, .p (.fieldAddr 0 (.tmp 1)), none, none⟩, [1], 1⟩,
  ⟨4, ⟨some 35, .l (.load (.i .i64) (.tmp 34)), none, none⟩, [34], 1⟩,
  ⟨5, ⟨some 36, .p (.bin .mul (.tmp 33) (.tmp 35)), none, none⟩, [33, 35], 1⟩,
  ⟨6, ⟨some 37, .p (.mv (.tmp 6)), none, none⟩, [6], 1⟩,
  ⟨7, ⟨some 38, .p (.bin .add (.tmp 36) (.tmp 37)), none, none⟩, [36, 37], 1⟩,
  ⟨12, ⟨some 43, .p (.idxL 1 (.tmp 32) (.tmp 38)), none, none⟩, [32, 38], 0⟩,
  ⟨13, ⟨none, .e (.store none (.tmp 43) (.tmp 42)), none, none⟩, [43, 42], 0⟩]))
  (.region [⟨some 29, .p (.mv (.tmp 7)), none, none⟩,
  ⟨some 30, .p (.bin .add (.tmp 29) (.const (.int .i64 1))), none, none⟩,
  ⟨some 7, .p (.mv (.tmp 30)), none, none⟩]))))))))
  (.region [⟨some 23, .p (.mv (.tmp 6)), none, none⟩,
  ⟨some 24, .p (.bin .add (.tmp 23) (.const (.int .i64 1))), none, none⟩,
  ⟨some 6, .p (.mv (.tmp 24)), none, none⟩])))))))
  (.seq (.region [⟨some 44, .l (.load (.agg 3) (.tmp 5)), none, some (.st [.i .i64, .i .i64, .l])⟩,
  ⟨none, .e (.store (some 3) (.tmp 2) (.tmp 44)), none, none⟩,
  ⟨some 3, .p (.mv (.const (.int .i64 0))), none, none⟩])
  (.ret)))))
noncomputable def e_ref04_Turn (k : Nat) (D : CallF) : Ent := entOf 55 [(0, .st [.i .i64, .i .i64, .l])] [(2, .st [.i .i64, .i .i64, .l]), (3, .i .i64)] (ref04_Turn k D)
theorem q_ref04_Turn : (Try.f55.body).bind (rcodeOf Try.prog 0 Try.f55.ntmps) = some (strip r_ref04_Turn) := by kernel_rfl
theorem t_ref04_Turn (k : Nat) (D : CallF) : curF [(0, .st [.i .i64, .i .i64, .l])] (fun args h => denF (C_ref04_Turn k D) k r_ref04_Turn [(2, .st [.i .i64, .i .i64, .l]), (3, .i .i64)] [some (.agg 3), none] args h) = ref04_Turn k D := by kernel_rfl
theorem ok_ref04_Turn {D : CallF} (hD : CSound Try.prog 0 D) (k : Nat) : EntOk Try.prog 0 (e_ref04_Turn k D) :=
  entOf_ok2 (mkC_sound hD (EntsOk.more (ok_ref04_Check hD k) (EntsOk.more (ok_ref04_zero hD k) (EntsOk.more (ok_ref04_M_At hD k) (EntsOk.none))))) Try.func55 rfl q_ref04_Turn rfl (t_ref04_Turn k D)
end Gy

namespace Gy
open Go Gx Go.Proofs
set_option maxRecDepth 100000

noncomputable def C_matrix_Pick (k : Nat) (D : CallF) : CallF := mkC D [e_matrix_Check k D, e_matrix_M_row k D]
noncomputable def matrix_Pick_l0b (k : Nat) (D : CallF) (j27 : (Option Addr) → (Option Addr) → AHeap → Option (((Int × Int × Slc) × Int) × AHeap)) (rec43 : (Option Addr) → (Option Addr) → (Option Addr) → Slc → Int → Int → AHeap → Option (((Int × Int × Slc) × Int) × AHeap)) (a36 : Option Addr) (y37 : Option Addr) (out38 : Option Addr) (y39 : Slc) (y40 : Int) (y41 : Int) (h42 : AHeap) : Option (((Int × Int × Slc) × Int) × AHeap) :=
  (if (decide (y41 < y40)) = true then
  (Gx.idxL 1 y39 y41).bind fun q44 =>
  (ldI .i64 q44 h42).bind fun x45 =>
  joinK (fun (a46 : Option Addr) (y47 : Option Addr) (out48 : Option Addr) (i49 : Int) (y50 : Slc) (y51 : Int) (y52 : Int) (y53 : Bool) (h54 : AHeap) =>
  (if y53 = true then
  (y47).bind fun p56 =>
  (stL 3 p56 ([.int .i64 0, .int .i64 0, .slice none 0 0]) h54).bind fun h57 =>
  (y47).bind fun p58 =>
  (ldA 3 p58 h57).bind fun l59 =>
  (decC [.i .i64, .i .i64, .l] l59).bind fun x60 =>
  some (((x60.1, x60.2.1, x60.2.2), 1), h57)
  else
  (a46).bind fun p61 =>
  (ldA 3 p61 h54).bind fun l62 =>
  (decC [.i .i64, .i .i64, .l] l62).bind fun x63 =>
  (matrix_M_row k D (x63.1, x63.2.1, x63.2.2) i49 h54).bind fun r64 =>
  (out48).bind fun p65 =>
  (ldL (⟨p65.block, p65.off + 2, none⟩ : Addr) r64.2).bind fun x66 =>
  guardP (SameW [h54] (fun H68 => (ldL (⟨p65.block, p65.off + 2, none⟩ : Addr) H68).bind fun y67 => some (.slice y67.a y67.len y67.cap)) (.slice x66.a x66.len x66.cap)) (
  (rdS 1 r64.1 r64.2).bind fun n70 =>
  (appendA 1 8 3 r64.2 x66 n70 r64.1.len).bind fun r69 =>
  (out48).bind fun p71 =>
  (st1 (⟨p71.block, p71.off + 2, none⟩ : Addr) (.slice r69.1.a r69.1.len r69.1.cap) r69.2).bind fun h72 =>
  rec43 a46 y47 out48 y50 y51 (IntKind.wrap .i64 (y52 + 1)) h72))) fun j55 =>
  (if (decide (x45 < 0)) = true then
  j55 a36 y37 out38 x45 y39 y40 y41 true h42
  else
  (a36).bind fun p73 =>
  (ldI .i64 (⟨p73.block, p73.off + 0, none⟩ : Addr) h42).bind fun x74 =>
  j55 a36 y37 out38 x45 y39 y40 y41 (decide (x45 ≥ x74)) h42)
  else
  j27 y37 out38 h42)
noncomputable def matrix_Pick_l0 (k : Nat) (D : CallF) (j27 : (Option Addr) → (Option Addr) → AHeap → Option (((Int × Int × Slc) × Int) × AHeap)) : (Option Addr) → (Option Addr) → (Option Addr) → Slc → Int → Int → AHeap → Option (((Int × Int × Slc) × Int) × AHeap) :=
  iterK (α := (Option Addr) → (Option Addr) → (Option Addr) → Slc → Int → Int → AHeap → Option (((Int × Int × Slc) × Int) × AHeap)) (fun _ _ _ _ _ _ _ => none) k (matrix_Pick_l0b k D j27)
noncomputable def matrix_Pick (k : Nat) (D : CallF) (a_0 : Int × Int × Slc) (rows_1 : Slc) (h : AHeap) : Option (((Int × Int × Slc) × Int) × AHeap) :=
  let h1 := AHeap.new h (.cells [.int .i64 a_0.1, .int .i64 a_0.2.1, .slice a_0.2.2.a a_0.2.2.len a_0.2.2.cap] 51 true 0)
  let h2 := AHeap.new h1 (.cells [.int .i64 0, .int .i64 0, .slice none 0 0] 51 true 0)
  (ldA 3 (⟨h.next, 0, none⟩ : Addr) h2).bind fun l3 =>
  (decC [.i .i64, .i .i64, .l] l3).bind fun x4 =>
  (matrix_Check k D (x4.1, x4.2.1, x4.2.2) h2).bind fun r5 =>
  (if (r5.1 != 0) = true then
  (stL 3 (⟨h1.next, 0, none⟩ : Addr) ([.int .i64 0, .int .i64 0, .slice none 0 0]) r5.2).bind fun h6 =>
  (ldA 3 (⟨h1.next, 0, none⟩ : Addr) h6).bind fun l7 =>
  (decC [.i .i64, .i .i64, .l] l7).bind fun x8 =>
  some (((x8.1, x8.2.1, x8.2.2), r5.1), h6)
  else
  joinK (fun (rows9 : Slc) (a10 : Option Addr) (y11 : Option Addr) (y12 : Bool) (h13 : AHeap) =>
  (if y12 = true then
  (y11).bind fun p15 =>
  (stL 3 p15 ([.int .i64 0, .int .i64 0, .slice none 0 0]) h13).bind fun h16 =>
  (y11).bind fun p17 =>
  (ldA 3 p17 h16).bind fun l18 =>
  (decC [.i .i64, .i .i64, .l] l18).bind fun x19 =>
  some (((x19.1, x19.2.1, x19.2.2), 1), h16)
  else
  (a10).bind fun p20 =>
  (ldI .i64 (⟨p20.block, p20.off + 1, none⟩ : Addr) h13).bind fun x21 =>
  let h22 := AHeap.new h13 (.cells [.int .i64 0, .int .i64 0, .slice none 0 0] 51 true 0)
  (stL 3 (⟨h13.next, 0, none⟩ : Addr) ([.int .i64 (rows9.len : Int), .int .i64 x21, .slice none 0 0]) h22).bind fun h23 =>
  joinK (fun (y24 : Option Addr) (out25 : Option Addr) (h26 : AHeap) =>
  (out25).bind fun p28 =>
  (ldA 3 p28 h26).bind fun l29 =>
  (decC [.i .i64, .i .i64, .l] l29).bind fun x30 =>
  (y24).bind fun p31 =>
  (stL 3 p31 ([.int .i64 x30.1, .int .i64 x30.2.1, .slice x30.2.2.a x30.2.2.len x30.2.2.cap]) h26).bind fun h32 =>
  (y24).bind fun p33 =>
  (ldA 3 p33 h32).bind fun l34 =>
  (decC [.i .i64, .i .i64, .l] l34).bind fun x35 =>
  some (((x35.1, x35.2.1, x35.2.2), 0), h32)) fun j27 =>
  matrix_Pick_l0 k D j27 a10 y11 (some (⟨h13.next, 0, none⟩ : Addr)) rows9 (rows9.len : Int) 0 h23)) fun j14 =>
  (if ((rows_1.len : Int) == 0) = true then
  j14 rows_1 (some (⟨h.next, 0, none⟩ : Addr)) (some (⟨h1.next, 0, none⟩ : Addr)) true r5.2
  else
  j14 rows_1 (some (⟨h.next, 0, none⟩ : Addr)) (some (⟨h1.next, 0, none⟩ : Addr)) (decide ((rows_1.len : Int) > 255)) r5.2))
def r_matrix_Pick : RCode := .seq (.region [⟨some 2, .a (.box 51 (.tmp 0)), none, none⟩,
  ⟨some 4, .a (.alloc 51 [.int .i64 0, .int .i64 0, .slice none 0 0]), none, none⟩,
  ⟨some 5, .p (.mv (.const (.int .i64 0))), none, none⟩])
  (.seq (.seq (.region [⟨some 10, .l (.load (.agg 3) (.tmp 2)), none, some (.st [.i .i64, .i .i64, .l])⟩,
  ⟨some 11, .e (.call (.func 53) [.tmp 10]), none, none⟩,
  ⟨some 6, .p (.mv (.tmp 11)), none, none⟩])
  (.seq (.region [⟨some 12, .p (.mv (.tmp 6)), none, none⟩,
  ⟨some 13, .p (.bin .neq (.tmp 12) (.const (.int .i64 0))), none, none⟩])
  (.cond (.tmp 13) (.seq (.region [⟨some 14, .p (.build [.int .i64 0, .int .i64 0, .slice none 0 0] []), none, none⟩,
  ⟨some 15, .p (.mv (.tmp 6)), none, none⟩,
  ⟨none, .e (.store (some 3) (.tmp 4) (.tmp 14)), none, none⟩,
  ⟨some 5, .p (.mv (.tmp 15)), none, none⟩])
  (.ret)) (.skip))))
  (.seq (.seq (.join [(1, .l), (2, .p), (4, .p), (23, .b)] (.region [⟨some 16, .p (.mv (.tmp 1)), none, none⟩,
  ⟨some 17, .p (.lenL (.tmp 16)), none, none⟩,
  ⟨some 18, .p (.bin .eql (.tmp 17) (.const (.int .i64 0))), none, none⟩,
  ⟨some 19, .p (.mv (.tmp 18)), none, none⟩,
  ⟨some 20, .p (.mv (.tmp 1)), (some (19, false)), none⟩,
  ⟨some 21, .p (.lenL (.tmp 20)), (some (19, false)), none⟩,
  ⟨some 22, .p (.bin .gtr (.tmp 21) (.const (.int .i64 255))), (some (19, false)), none⟩,
  ⟨some 23, .p (.pick (.tmp 19) (.const (.bool true)) (.tmp 22)), none, none⟩]))
  (.cond (.tmp 23) (.seq (.region [⟨some 24, .p (.build [.int .i64 0, .int .i64 0, .slice none 0 0] []), none, none⟩,
  ⟨none, .e (.store (some 3) (.tmp 4) (.tmp 24)), none, none⟩,
  ⟨some 5, .p (.mv (.const (.int .i64 1))), none, none⟩])
  (.ret)) (.skip)))
  (.seq (.region [⟨some 25, .p (.mv (.tmp 1)), none, none⟩,
  ⟨some 26, .p (.lenL (.tmp 25)), none, none⟩,
  ⟨some 27, .p (.fieldAddr 1 (.tmp 2)), none, none⟩,
  ⟨some 28, .l (.load (.i .i64) (.tmp 27)), none, none⟩,
  ⟨some 29, .p (.build [.int .i64 0, .int .i64 0, .slice none 0 0] [(0, 1, .tmp 26), (1, 1, .tmp 28)]), none, none⟩,
  ⟨some 7, .a (.alloc 51 [.int .i64 0, .int .i64 0, .slice none 0 0]), none, none⟩,
  ⟨none, .e (.store (some 3) (.tmp 7) (.tmp 29)), none, none⟩])
  (.seq (.join [(4, .p), (7, .p)] (.seq (.region [⟨some 30, .p (.mv (.tmp 1)), none, none⟩,
  ⟨some 31, .p (.lenL (.tmp 30)), none, none⟩,
  ⟨some 32, .p (.mv (.const (.int .i64 0))), none, none⟩])
  (.block 0 (.loop [(2, .p), (4, .p), (7, .p), (30, .l), (31, .i .i64), (32, .i .i64)] (.seq (.region [⟨some 33, .p (.bin .lss (.tmp 32) (.tmp 31)), none, none⟩])
  (.seq (.cond (.tmp 33) (.skip) (.exit 0))
  (.seq (.block 1 (.seq (.region [⟨some 34, .p (.idxL 1 (.tmp 30) (.tmp 32)), none, none⟩,
  ⟨some 35, .l (.load (.i .i64) (.tmp 34)), none, none⟩,
  ⟨some 9, .p (.mv (.tmp 35)), none, none⟩])
  (.seq (.seq (.join [(2, .p), (4, .p), (7, .p), (9, .i .i64), (30, .l), (31, .i .i64), (32, .i .i64), (43, .b)] (.region [⟨some 36, .p (.mv (.tmp 9)), none, none⟩,
  ⟨some 37, .p (.bin .lss (.tmp 36) (.const (.int .i64 0))), none, none⟩,
  ⟨some 38, .p (.mv (.tmp 37)), none, none⟩,
  ⟨some 39, .p (.mv (.tmp 9)), (some (38, false)), none⟩,
  ⟨some 40, .p (.fieldAddr 0 (.tmp 2)), (some (38, false)), none⟩,
  ⟨some 41, .l (.load (.i .i64) (.tmp 40)), (some (38, false)), none⟩,
  ⟨some 42, .p (.bin .geq (.tmp 39) (.tmp 41)), (some (38, false)), none⟩,
  ⟨some 43, .p (.pick (.tmp 38) (.const (.bool true)) (.tmp 42)), none, none⟩]))
  (.cond (.tmp 43) (.seq (.region [⟨some 44, .p (.build [.int .i64 0, .int .i64 0, .slice none 0 0] []), none, none⟩,
  ⟨none, .e (.store (some 3) (.tmp 4) (.tmp 44)), none, none⟩,
  ⟨some 5, .p (.mv (.const (.int .i64 1))), none, none⟩])
  (.ret)) (.skip)))
  (.draw [⟨2, ⟨some 47, .l (.load (.agg 3) (.tmp 2)), none, some (.st [.i .i64, .i .i64, .l])⟩, [2], 0⟩,
  ⟨3, ⟨some 48, .p (.mv (.tmp 9)), none, none⟩, [9], 0⟩,
  ⟨4, ⟨some 49, .e (.call (.func 66) [.tmp 47, .tmp 48]), none, none⟩, [47, 48], 0⟩,
  ⟨0, ⟨some 45, .p (.fieldAddr 2 (.tmp 7)), none, none⟩, [7], 1⟩,
  ⟨1, ⟨some 46, .l (.load (.l) (.tmp 45)), none, none⟩, [45], 1⟩,
  ⟨5, ⟨some 50, .e (.append 1 8 3 [.int .i64 0] .slice (.tmp 46) (.tmp 49)), none, none⟩, [46, 49], 0⟩,
  ⟨6, ⟨some 51, .p (.fieldAddr 2 (.tmp 7)), none, none⟩, [7], 0⟩,
  ⟨7, ⟨none, .e (.store none (.tmp 51) (.tmp 50)), none, none⟩, [51, 50], 0⟩]))))
  (.region [⟨some 52, .p (.bin .add (.tmp 32) (.const (.int .i64 1))), none, none⟩,
  ⟨some 32, .p (.mv (.tmp 52)), none, none⟩]))))))))
  (.seq (.region [⟨some 53, .l (.load (.agg 3) (.tmp 7)), none, some (.st [.i .i64, .i .i64, .l])⟩,
  ⟨none, .e (.store (some 3) (.tmp 4) (.tmp 53)), none, none⟩,
  ⟨some 5, .p (.mv (.const (.int .i64 0))), none, none⟩])
  (.ret))))))
noncomputable def e_matrix_Pick (k : Nat) (D : CallF) : Ent := entOf 47 [(0, .st [.i .i64, .i .i64, .l]), (1, .l)] [(4, .st [.i .i64, .i .i64, .l]), (5, .i .i64)] (matrix_Pick k D)
theorem q_matrix_Pick : (Try.f47.body).bind (rcodeOf Try.prog 0 Try.f47.ntmps) = some (strip r_matrix_Pick) := by kernel_rfl
theorem t_matrix_Pick (k : Nat) (D : CallF) : curF [(0, .st [.i .i64, .i .i64, .l]), (1, .l)] (fun args h => denF (C_matrix_Pick k D) k r_matrix_Pick [(4, .st [.i .i64, .i .i64, .l]), (5, .i .i64)] [some (.agg 3), none] args h) = matrix_Pick k D := by kernel_rfl
theorem ok_matrix_Pick {D : CallF} (hD : CSound Try.prog 0 D) (k : Nat) : EntOk Try.prog 0 (e_matrix_Pick k D) :=
  entOf_ok2 (mkC_sound hD (EntsOk.more (ok_matrix_Check hD k) (EntsOk.more (ok_matrix_M_row hD k) (EntsOk.none)))) Try.func47 rfl q_matrix_Pick rfl (t_matrix_Pick k D)
end Gy

namespace Gy
open Go Gx Go.Proofs
set_option maxRecDepth 100000

noncomputable def C_ref04_Pick (k : Nat) (D : CallF) : CallF := mkC D [e_ref04_Check k D, e_ref04_zero k D, e_ref04_M_At k D]
noncomputable def ref04_Pick_l2b (_k : Nat) (_D : CallF) (j24 : Slc → (Option Addr) → (Option Addr) → AHeap → Option (((Int × Int × Slc) × Int) × AHeap)) (rec87 : Slc → (Option Addr) → (Option Addr) → Int → AHeap → Option (((Int × Int × Slc) × Int) × AHeap)) (rows82 : Slc) (a83 : Option Addr) (y84 : Option Addr) (i85 : Int) (h86 : AHeap) : Option (((Int × Int × Slc) × Int) × AHeap) :=
  (if (decide (i85 < (rows82.len : Int))) = true then
  joinK (fun (rows88 : Slc) (a89 : Option Addr) (y90 : Option Addr) (i91 : Int) (y92 : Bool) (h93 : AHeap) =>
  (if y92 = true then
  (y90).bind fun p95 =>
  (stL 3 p95 ([.int .i64 0, .int .i64 0, .slice none 0 0]) h93).bind fun h96 =>
  (y90).bind fun p97 =>
  (ldA 3 p97 h96).bind fun l98 =>
  (decC [.i .i64, .i .i64, .l] l98).bind fun x99 =>
  some (((x99.1, x99.2.1, x99.2.2), 1), h96)
  else
  rec87 rows88 a89 y90 (IntKind.wrap .i64 (i91 + 1)) h93)) fun j94 =>
  (Gx.idxL 1 rows82 i85).bind fun q100 =>
  (ldI .i64 q100 h86).bind fun x101 =>
  (if (decide (x101 < 0)) = true then
  j94 rows82 a83 y84 i85 true h86
  else
  (Gx.idxL 1 rows82 i85).bind fun q102 =>
  (ldI .i64 q102 h86).bind fun x103 =>
  (a83).bind fun p104 =>
  (ldI .i64 (⟨p104.block, p104.off + 0, none⟩ : Addr) h86).bind fun x105 =>
  j94 rows82 a83 y84 i85 (decide (x103 ≥ x105)) h86)
  else
  j24 rows82 a83 y84 h86)
noncomputable def ref04_Pick_l2 (k : Nat) (D : CallF) (j24 : Slc → (Option Addr) → (Option Addr) → AHeap → Option (((Int × Int × Slc) × Int) × AHeap)) : Slc → (Option Addr) → (Option Addr) → Int → AHeap → Option (((Int × Int × Slc) × Int) × AHeap) :=
  iterK (α := Slc → (Option Addr) → (Option Addr) → Int → AHeap → Option (((Int × Int × Slc) × Int) × AHeap)) (fun _ _ _ _ _ => none) k (ref04_Pick_l2b k D j24)
noncomputable def ref04_Pick_l1b (k : Nat) (D : CallF) (j55 : Slc → (Option Addr) → (Option Addr) → (Option Addr) → Int → AHeap → Option (((Int × Int × Slc) × Int) × AHeap)) (rec63 : Slc → (Option Addr) → (Option Addr) → (Option Addr) → Int → Int → AHeap → Option (((Int × Int × Slc) × Int) × AHeap)) (rows56 : Slc) (a57 : Option Addr) (y58 : Option Addr) (out59 : Option Addr) (i60 : Int) (j61 : Int) (h62 : AHeap) : Option (((Int × Int × Slc) × Int) × AHeap) :=
  (a57).bind fun p64 =>
  (ldI .i64 (⟨p64.block, p64.off + 1, none⟩ : Addr) h62).bind fun x65 =>
  (if (decide (j61 < x65)) = true then
  (a57).bind fun p66 =>
  (ldA 3 p66 h62).bind fun l67 =>
  (decC [.i .i64, .i .i64, .l] l67).bind fun x68 =>
  (Gx.idxL 1 rows56 i60).bind fun q69 =>
  (ldI .i64 q69 h62).bind fun x70 =>
  (ref04_M_At k D (x68.1, x68.2.1, x68.2.2) x70 j61 h62).bind fun r71 =>
  (out59).bind fun p72 =>
  (ldL (⟨p72.block, p72.off + 2, none⟩ : Addr) r71.2).bind fun x73 =>
  guardP (SameW [h62] (fun H75 => (ldL (⟨p72.block, p72.off + 2, none⟩ : Addr) H75).bind fun y74 => some (.slice y74.a y74.len y74.cap)) (.slice x73.a x73.len x73.cap)) (
  (a57).bind fun p76 =>
  (ldI .i64 (⟨p76.block, p76.off + 1, none⟩ : Addr) r71.2).bind fun x77 =>
  guardP (SameW [h62] (fun H79 => (ldI .i64 (⟨p76.block, p76.off + 1, none⟩ : Addr) H79).bind fun y78 => some (.int .i64 y78)) (.int .i64 x77)) (
  (Gx.idxL 1 x73 (IntKind.wrap .i64 ((IntKind.wrap .i64 (i60 * x77)) + j61))).bind fun q80 =>
  (st1 q80 (.int .i64 r71.1) r71.2).bind fun h81 =>
  rec63 rows56 a57 y58 out59 i60 (IntKind.wrap .i64 (j61 + 1)) h81))
  else
  j55 rows56 a57 y58 out59 i60 h62)
noncomputable def ref04_Pick_l1 (k : Nat) (D : CallF) (j55 : Slc → (Option Addr) → (Option Addr) → (Option Addr) → Int → AHeap → Option (((Int × Int × Slc) × Int) × AHeap)) : Slc → (Option Addr) → (Option Addr) → (Option Addr) → Int → Int → AHeap → Option (((Int × Int × Slc) × Int) × AHeap) :=
  iterK (α := Slc → (Option Addr) → (Option Addr) → (Option Addr) → Int → Int → AHeap → Option (((Int × Int × Slc) × Int) × AHeap)) (fun _ _ _ _ _ _ _ => none) k (ref04_Pick_l1b k D j55)
noncomputable def ref04_Pick_l0b (k : Nat) (D : CallF) (j33 : (Option Addr) → (Option Addr) → AHeap → Option (((Int × Int × Slc) × Int) × AHeap)) (rec48 : Slc → (Option Addr) → (Option Addr) → (Option Addr) → Int → AHeap → Option (((Int × Int × Slc) × Int) × AHeap)) (rows42 : Slc) (a43 : Option Addr) (y44 : Option Addr) (out45 : Option Addr) (i46 : Int) (h47 : AHeap) : Option (((Int × Int × Slc) × Int) × AHeap) :=
  (if (decide (i46 < (rows42.len : Int))) = true then
  joinK (fun (rows49 : Slc) (a50 : Option Addr) (y51 : Option Addr) (out52 : Option Addr) (i53 : Int) (h54 : AHeap) =>
  rec48 rows49 a50 y51 out52 (IntKind.wrap .i64 (i53 + 1)) h54) fun j55 =>
  ref04_Pick_l1 k D j55 rows42 a43 y44 out45 i46 0 h47
  else
  j33 y44 out45 h47)
noncomputable def ref04_Pick_l0 (k : Nat) (D : CallF) (j33 : (Option Addr) → (Option Addr) → AHeap → Option (((Int × Int × Slc) × Int) × AHeap)) : Slc → (Option Addr) → (Option Addr) → (Option Addr) → Int → AHeap → Option (((Int × Int × Slc) × Int) × AHeap) :=
  iterK (α := Slc → (Option Addr) → (Option Addr) → (Option Addr) → Int → AHeap → Option (((Int × Int × Slc) × Int) × AHeap)) (fun _ _ _ _ _ _ => none) k (ref04_Pick_l0b k D j33)
noncomputable def ref04_Pick (k : Nat) (D : CallF) (a_0 : Int × Int × Slc) (rows_1 : Slc) (h : AHeap) : Option (((Int × Int × Slc) × Int) × AHeap) :=
  let h1 := AHeap.new h (.cells [.int .i64 a_0.1, .int .i64 a_0.2.1, .slice a_0.2.2.a a_0.2.2.len a_0.2.2.cap] 54 true 0)
  let h2 := AHeap.new h1 (.cells [.int .i64 0, .int .i64 0, .slice none 0 0] 54 true 0)
  (ldA 3 (⟨h.next, 0, none⟩ : Addr) h2).bind fun l3 =>
  (decC [.i .i64, .i .i64, .l] l3).bind fun x4 =>
  (ref04_Check k D (x4.1, x4.2.1, x4.2.2) h2).bind fun r5 =>
  (if (r5.1 != 0) = true then
  (stL 3 (⟨h1.next, 0, none⟩ : Addr) ([.int .i64 0, .int .i64 0, .slice none 0 0]) r5.2).bind fun h6 =>
  (ldA 3 (⟨h1.next, 0, none⟩ : Addr) h6).bind fun l7 =>
  (decC [.i .i64, .i .i64, .l] l7).bind fun x8 =>
  some (((x8.1, x8.2.1, x8.2.2), r5.1), h6)
  else
  joinK (fun (rows9 : Slc) (a10 : Option Addr) (y11 : Option Addr) (y12 : Bool) (h13 : AHeap) =>
  (if y12 = true then
  (y11).bind fun p15 =>
  (stL 3 p15 ([.int .i64 0, .int .i64 0, .slice none 0 0]) h13).bind fun h16 =>
  (y11).bind fun p17 =>
  (ldA 3 p17 h16).bind fun l18 =>
  (decC [.i .i64, .i .i64, .l] l18).bind fun x19 =>
  some (((x19.1, x19.2.1, x19.2.2), 1), h16)
  else
  joinK (fun (rows20 : Slc) (a21 : Option Addr) (y22 : Option Addr) (h23 : AHeap) =>
  (a21).bind fun p25 =>
  (ldI .i64 (⟨p25.block, p25.off + 1, none⟩ : Addr) h23).bind fun x26 =>
  (ref04_zero k D (rows20.len : Int) x26 h23).bind fun r27 =>
  let h28 := AHeap.new r27.2 (.cells [.int .i64 0, .int .i64 0, .slice none 0 0] 54 true 0)
  (stL 3 (⟨r27.2.next, 0, none⟩ : Addr) ([.int .i64 r27.1.1, .int .i64 r27.1.2.1, .slice r27.1.2.2.a r27.1.2.2.len r27.1.2.2.cap]) h28).bind fun h29 =>
  joinK (fun (y30 : Option Addr) (out31 : Option Addr) (h32 : AHeap) =>
  (out31).bind fun p34 =>
  (ldA 3 p34 h32).bind fun l35 =>
  (decC [.i .i64, .i .i64, .l] l35).bind fun x36 =>
  (y30).bind fun p37 =>
  (stL 3 p37 ([.int .i64 x36.1, .int .i64 x36.2.1, .slice x36.2.2.a x36.2.2.len x36.2.2.cap]) h32).bind fun h38 =>
  (y30).bind fun p39 =>
  (ldA 3 p39 h38).bind fun l40 =>
  (decC [.i .i64, .i .i64, .l] l40).bind fun x41 =>
  some (((x41.1, x41.2.1, x41.2.2), 0), h38)) fun j33 =>
  ref04_Pick_l0 k D j33 rows20 a21 y22 (some (⟨r27.2.next, 0, none⟩ : Addr)) 0 h29) fun j24 =>
  ref04_Pick_l2 k D j24 rows9 a10 y11 0 h13)) fun j14 =>
  (if (decide ((rows_1.len : Int) < 1)) = true then
  j14 rows_1 (some (⟨h.next, 0, none⟩ : Addr)) (some (⟨h1.next, 0, none⟩ : Addr)) true r5.2
  else
  j14 rows_1 (some (⟨h.next, 0, none⟩ : Addr)) (some (⟨h1.next, 0, none⟩ : Addr)) (decide ((rows_1.len : Int) > 255)) r5.2))
def r_ref04_Pick : RCode := .seq (.region [⟨some 2, .a (.box 54 (.tmp 0)), none, none⟩,
  ⟨some 4, .a (.alloc 54 [.int .i64 0, .int .i64 0, .slice none 0 0]), none, none⟩,
  ⟨some 5, .p (.mv (.const (.int .i64 0))), none, none⟩])
  (.seq (.seq (.region [⟨some 11, .l (.load (.agg 3) (.tmp 2)), none, some (.st [.i .i64, .i .i64, .l])⟩,
  ⟨some 12, .e (.call (.func 54) [.tmp 11]), none, none⟩,
  ⟨some 6, .p (.mv (.tmp 12)), none, none⟩])
  (.seq (.region [⟨some 13, .p (.mv (.tmp 6)), none, none⟩,
  ⟨some 14, .p (.bin .neq (.tmp 13) (.const (.int .i64 0))), none, none⟩])
  (.cond (.tmp 14) (.seq (.region [⟨some 15, .p (.build [.int .i64 0, .int .i64 0, .slice none 0 0] []), none, none⟩,
  ⟨some 16, .p (.mv (.tmp 6)), none, none⟩,
  ⟨none, .e (.store (some 3) (.tmp 4) (.tmp 15)), none, none⟩,
  ⟨some 5, .p (.mv (.tmp 16)), none, none⟩])
  (.ret)) (.skip))))
  (.seq (.seq (.join [(1, .l), (2, .p), (4, .p), (24, .b)] (.region [⟨some 17, .p (.mv (.tmp 1)), none, none⟩,
  ⟨some 18, .p (.lenL (.tmp 17)), none, none⟩,
  ⟨some 19, .p (.bin .lss (.tmp 18) (.const (.int .i64 1))), none, none⟩,
  ⟨some 20, .p (.mv (.tmp 19)), none, none⟩,
  ⟨some 21, .p (.mv (.tmp 1)), (some (20, false)), none⟩,
  ⟨some 22, .p (.lenL (.tmp 21)), (some (20, false)), none⟩,
  ⟨some 23, .p (.bin .gtr (.tmp 22) (.const (.int .i64 255))), (some (20, false)), none⟩,
  ⟨some 24, .p (.pick (.tmp 20) (.const (.bool true)) (.tmp 23)), none, none⟩]))
  (.cond (.tmp 24) (.seq (.region [⟨some 25, .p (.build [.int .i64 0, .int .i64 0, .slice none 0 0] []), none, none⟩,
  ⟨none, .e (.store (some 3) (.tmp 4) (.tmp 25)), none, none⟩,
  ⟨some 5, .p (.mv (.const (.int .i64 1))), none, none⟩])
  (.ret)) (.skip)))
  (.seq (.join [(1, .l), (2, .p), (4, .p)] (.seq (.region [⟨some 7, .p (.mv (.const (.int .i64 0))), none, none⟩])
  (.block 0 (.loop [(1, .l), (2, .p), (4, .p), (7, .i .i64)] (.seq (.seq (.region [⟨some 26, .p (.mv (.tmp 7)), none, none⟩,
  ⟨some 27, .p (.mv (.tmp 1)), none, none⟩,
  ⟨some 28, .p (.lenL (.tmp 27)), none, none⟩,
  ⟨some 29, .p (.bin .lss (.tmp 26) (.tmp 28)), none, none⟩])
  (.cond (.tmp 29) (.skip) (.exit 0)))
  (.seq (.block 1 (.seq (.join [(1, .l), (2, .p), (4, .p), (7, .i .i64), (45, .b)] (.draw [⟨0, ⟨some 32, .p (.mv (.tmp 1)), none, none⟩, [1], 0⟩,
  ⟨1, ⟨some 33, .p (.mv (.tmp 7)), none, none⟩, [7], 0⟩,
  ⟨2, ⟨some 34, .p (.idxL 1 (.tmp 32) (.tmp 33)), none, none⟩, [32, 33], 0⟩,
  ⟨3, ⟨some 35, .l (.load (.i .i64) (.tmp 34)), none, none⟩, [34], 0⟩,
  ⟨4, ⟨some 36, .p (.bin .lss (.tmp 35) (.const (.int .i64 0))), none, none⟩, [35], 0⟩,
  ⟨5, ⟨some 37, .p (.mv (.tmp 36)), none, none⟩, [36], 0⟩,
  ⟨6, ⟨some 38, .p (.mv (.tmp 1)), (some (37, false)), none⟩, [1, 37], 0⟩,
  ⟨7, ⟨some 39, .p (.mv (.tmp 7)), (some (37, false)), none⟩, [7, 37], 0⟩,
  ⟨8, ⟨some 40, .p (.idxL 1 (.tmp 38) (.tmp 39)), (some (37, false)), none⟩, [38, 39, 37], 0⟩,
  ⟨9, ⟨some 41, .l (.load (.i .i64) (.tmp 40)), (some (37, false)), none⟩, [40, 37], 0⟩,
  ⟨10, ⟨some 42, .p (.fieldAddr 0 (.tmp 2)), (some (37, false)), none⟩, [2, 37], 0⟩,
  ⟨11, ⟨some 43, .l (.load (.i .i64) (.tmp 42)), (some (37, false)), none⟩, [42, 37], 0⟩,
  ⟨12, ⟨some 44, .p (.bin .geq (.tmp 41) (.tmp 43)), (some (37, false)), none⟩, [41, 43, 37], 0⟩,
  ⟨13, ⟨some 45, .p (.pick (.tmp 37) (.const (.bool true)) (.tmp 44)), none, none⟩, [37, 44], 0⟩]))
  (.cond (.tmp 45) (.seq (.region [⟨some 46, .p (.build [.int .i64 0, .int .i64 0, .slice none 0 0] []), none, none⟩,
  ⟨none, .e (.store (some 3) (.tmp 4) (.tmp 46)), none, none⟩,
  ⟨some 5, .p (.mv (.const (.int .i64 1))), none, none⟩])
  (.ret)) (.skip))))
  (.region [⟨some 30, .p (.mv (.tmp 7)), none, none⟩,
  ⟨some 31, .p (.bin .add (.tmp 30) (.const (.int .i64 1))), none, none⟩,
  ⟨some 7, .p (.mv (.tmp 31)), none, none⟩])))))))
  (.seq (.region [⟨some 47, .p (.mv (.tmp 1)), none, none⟩,
  ⟨some 48, .p (.lenL (.tmp 47)), none, none⟩,
  ⟨some 49, .p (.fieldAddr 1 (.tmp 2)), none, none⟩,
  ⟨some 50, .l (.load (.i .i64) (.tmp 49)), none, none⟩,
  ⟨some 51, .e (.call (.func 67) [.tmp 48, .tmp 50]), none, none⟩,
  ⟨some 8, .a (.alloc 54 [.int .i64 0, .int .i64 0, .slice none 0 0]), none, none⟩,
  ⟨none, .e (.store (some 3) (.tmp 8) (.tmp 51)), none, none⟩])
  (.seq (.join [(4, .p), (8, .p)] (.seq (.region [⟨some 9, .p (.mv (.const (.int .i64 0))), none, none⟩])
  (.block 2 (.loop [(1, .l), (2, .p), (4, .p), (8, .p), (9, .i .i64)] (.seq (.seq (.region [⟨some 52, .p (.mv (.tmp 9)), none, none⟩,
  ⟨some 53, .p (.mv (.tmp 1)), none, none⟩,
  ⟨some 54, .p (.lenL (.tmp 53)), none, none⟩,
  ⟨some 55, .p (.bin .lss (.tmp 52) (.tmp 54)), none, none⟩])
  (.cond (.tmp 55) (.skip) (.exit 2)))
  (.seq (.join [(1, .l), (2, .p), (4, .p), (8, .p), (9, .i .i64)] (.block 3 (.seq (.region [⟨some 10, .p (.mv (.const (.int .i64 0))), none, none⟩])
  (.block 4 (.loop [(1, .l), (2, .p), (4, .p), (8, .p), (9, .i .i64), (10, .i .i64)] (.seq (.seq (.region [⟨some 58, .p (.mv (.tmp 10)), none, none⟩,
  ⟨some 59, .p (.fieldAddr 1 (.tmp 2)), none, none⟩,
  ⟨some 60, .l (.load (.i .i64) (.tmp 59)), none, none⟩,
  ⟨some 61, .p (.bin .lss (.tmp 58) (.tmp 60)), none, none⟩])
  (.cond (.tmp 61) (.skip) (.exit 4)))
  (.seq (.block 5 (.draw [⟨8, ⟨some 72, .l (.load (.agg 3) (.tmp 2)), none, some (.st [.i .i64, .i .i64, .l])⟩, [2], 0⟩,
  ⟨9, ⟨some 73, .p (.mv (.tmp 1)), none, none⟩, [1], 0⟩,
  ⟨10, ⟨some 74, .p (.mv (.tmp 9)), none, none⟩, [9], 0⟩,
  ⟨11, ⟨some 75, .p (.idxL 1 (.tmp 73) (.tmp 74)), none, none⟩, [73, 74], 0⟩,
  ⟨12, ⟨some 76, .l (.load (.i .i64) (.tmp 75)), none, none⟩, [75], 0⟩,
  ⟨13, ⟨some 77, .p (.mv (.tmp 10)), none, none⟩, [10], 0⟩,
  ⟨14, ⟨some 78, .e (.call (.func 71) [.tmp 72, .tmp 76, .tmp 77]), none, none⟩, [72, 76, 77], 0⟩,
  ⟨0, ⟨some 64, .p (.fieldAddr 2 (.tmp 8)), none, none⟩, [8], 1⟩,
  ⟨1, ⟨some 65, .l (.load (.l) (.tmp 64)), none, none⟩, [64], 1⟩,
  ⟨2, ⟨some 66, .p (.mv (.tmp 9)), none, none⟩, [9], 1⟩,
  ⟨3, ⟨some 67, .p (.fieldAddr 1 (.tmp 2)), none, none⟩, [2], 1⟩,
  ⟨4, ⟨some 68, .l (.load (.i .i64) (.tmp 67)), none, none⟩, [67], 1⟩,
  ⟨5, ⟨some 69, .p (.bin .mul (.tmp 66) (.tmp 68)), none, none⟩, [66, 68], 1⟩,
  ⟨6, ⟨some 70, .p (.mv (.tmp 10)), none, none⟩, [10], 1⟩,
  ⟨7, ⟨some 71, .p (.bin .add (.tmp 69) (.tmp 70)), none, none⟩, [69, 70], 1⟩,
  ⟨15, ⟨some 79, .p (.idxL 1 (.tmp 65) (.tmp 71)), none, none⟩, [65, 71], 0⟩,
  ⟨16, ⟨none, .e (.store none (.tmp 79) (.tmp 78)), none, none⟩, [79, 78], 0⟩]))
  (.region [⟨some 62, .p (.mv (.tmp 10)), none, none⟩,
  ⟨some 63, .p (.bin .add (.tmp 62) (.const (.int .i64 1))), none, none⟩,
  ⟨some 10, .p (.mv (.tmp 63)), none, none⟩]))))))))
  (.region [⟨some 56, .p (.mv (.tmp 9)), none, none⟩,
  ⟨some 57, .p (.bin .add (.tmp 56) (.const (.int .i64 1))), none, none⟩,
  ⟨some 9, .p (.mv (.tmp 57)), none, none⟩])))))))
  (.seq (.region [⟨some 80, .l (.load (.agg 3) (.tmp 8)), none, some (.st [.i .i64, .i .i64, .l])⟩,
  ⟨none, .e (.store (some 3) (.tmp 4) (.tmp 80)), none, none⟩,
  ⟨some 5, .p (.mv (.const (.int .i64 0))), none, none⟩])
  (.ret)))))))
noncomputable def e_ref04_Pick (k : Nat) (D : CallF) : Ent := entOf 56 [(0, .st [.i .i64, .i .i64, .l]), (1, .l)] [(4, .st [.i .i64, .i .i64, .l]), (5, .i .i64)] (ref04_Pick k D)
theorem q_ref04_Pick : (Try.f56.body).bind (rcodeOf Try.prog 0 Try.f56.ntmps) = some (strip r_ref04_Pick) := by kernel_rfl
theorem t_ref04_Pick (k : Nat) (D : CallF) : curF [(0, .st [.i .i64, .i .i64, .l]), (1, .l)] (fun args h => denF (C_ref04_Pick k D) k r_ref04_Pick [(4, .st [.i .i64, .i .i64, .l]), (5, .i .i64)] [some (.agg 3), none] args h) = ref04_Pick k D := by kernel_rfl
theorem ok_ref04_Pick {D : CallF} (hD : CSound Try.prog 0 D) (k : Nat) : EntOk Try.prog 0 (e_ref04_Pick k D) :=
  entOf_ok2 (mkC_sound hD (EntsOk.more (ok_ref04_Check hD k) (EntsOk.more (ok_ref04_zero hD k) (EntsOk.more (ok_ref04_M_At hD k) (EntsOk.none))))) Try.func56 rfl q_ref04_Pick rfl (t_ref04_Pick k D)
end Gy

namespace Gy
open Go Gx Go.Proofs
set_option maxRecDepth 100000

noncomputable def C_law04_small (_k : Nat) (D : CallF) : CallF := mkC D []
noncomputable def law04_small (_k : Nat) (_D : CallF) (a_0 : Int × Int × Slc) (h : AHeap) : Option ((Bool) × AHeap) :=
  let h1 := AHeap.new h (.cells [.int .i64 a_0.1, .int .i64 a_0.2.1, .slice a_0.2.2.a a_0.2.2.len a_0.2.2.cap] 51 true 0)
  (ldL (⟨h.next, 2, none⟩ : Addr) h1).bind fun x2 =>
  some ((decide ((x2.len : Int) ≤ 150)), h1)
def r_law04_small : RCode := .seq (.region [⟨some 1, .a (.box 51 (.tmp 0)), none, none⟩,
  ⟨some 2, .p (.mv (.const (.bool false))), none, none⟩])
  (.seq (.region [⟨some 3, .p (.fieldAddr 2 (.tmp 1)), none, none⟩,
  ⟨some 4, .l (.load (.l) (.tmp 3)), none, none⟩,
  ⟨some 5, .p (.lenL (.tmp 4)), none, none⟩,
  ⟨some 6, .p (.bin .leq (.tmp 5) (.const (.int .i64 150))), none, none⟩,
  ⟨some 2, .p (.mv (.tmp 6)), none, none⟩])
  (.ret))
noncomputable def e_law04_small (k : Nat) (D : CallF) : Ent := entOf 48 [(0, .st [.i .i64, .i .i64, .l])] [(2, .b)] (law04_small k D)
theorem q_law04_small : (Try.f48.body).bind (rcodeOf Try.prog 0 Try.f48.ntmps) = some (strip r_law04_small) := by kernel_rfl
theorem t_law04_small (k : Nat) (D : CallF) : curF [(0, .st [.i .i64, .i .i64, .l])] (fun args h => denF (C_law04_small k D) k r_law04_small [(2, .b)] [none] args h) = law04_small k D := by kernel_rfl
theorem ok_law04_small {D : CallF} (hD : CSound Try.prog 0 D) (k : Nat) : EntOk Try.prog 0 (e_law04_small k D) :=
  entOf_ok2 (mkC_sound hD (EntsOk.none)) Try.func48 rfl q_law04_small rfl (t_law04_small k D)
end Gy

namespace Gy
open Go Gx Go.Proofs
set_option maxRecDepth 100000

noncomputable def C_law04_MatrixReckons (k : Nat) (D : CallF) : CallF := mkC D [e_matrix_New k D, e_law04_of k D, e_matrix_Space_Mul k D, e_ref04_Mul k D, e_matrix_Space_Inverse k D, e_ref04_Inverse k D, e_matrix_Space_Rank k D, e_ref04_Rank k D, e_matrix_Turn k D, e_ref04_Turn k D, e_matrix_Pick k D, e_ref04_Pick k D, e_law04_same k D, e_book_SameInts k D, e_matrix_Check k D, e_ref04_Check k D, e_law04_small k D, e_law04_works k D]
noncomputable def law04_MatrixReckons (k : Nat) (D : CallF) (p_0 : Int × Int × Slc) (q_1 : Int × Int × Slc) (rows_2 : Slc) (h : AHeap) : Option ((Bool) × AHeap) :=
  let h1 := AHeap.new h (.cells [.int .i64 p_0.1, .int .i64 p_0.2.1, .slice p_0.2.2.a p_0.2.2.len p_0.2.2.cap] 51 true 0)
  let h2 := AHeap.new h1 (.cells [.int .i64 q_1.1, .int .i64 q_1.2.1, .slice q_1.2.2.a q_1.2.2.len q_1.2.2.cap] 51 true 0)
  (matrix_New k D h2).bind fun r3 =>
  joinK (fun (rows4 : Slc) (p5 : Option Addr) (q6 : Option Addr) (s7 : Option Addr) (y8 : Bool) (h9 : AHeap) =>
  (if y8 = true then
  some (false, h9)
  else
  joinK (fun (rows11 : Slc) (p12 : Option Addr) (q13 : Option Addr) (s14 : Option Addr) (y15 : Bool) (h16 : AHeap) =>
  (if y15 = true then
  some (true, h16)
  else
  let h18 := AHeap.resv h16 2
  (p12).bind fun p19 =>
  (ldI .i64 (⟨p19.block, p19.off + 0, none⟩ : Addr) h18).bind fun x20 =>
  (p12).bind fun p21 =>
  (ldI .i64 (⟨p21.block, p21.off + 1, none⟩ : Addr) h18).bind fun x22 =>
  (p12).bind fun p23 =>
  (ldL (⟨p23.block, p23.off + 2, none⟩ : Addr) h18).bind fun x24 =>
  let h25 := AHeap.set h18 (h16.next + 0) (.cells [.int .i64 0, .int .i64 0, .slice none 0 0] 54 true 0)
  let h26 := AHeap.set h25 (h16.next + 1) (.cells [.int .i64 0, .int .i64 0, .slice none 0 0] 54 true 0)
  (stL 3 (⟨(h16.next + 0), 0, none⟩ : Addr) ([.int .i64 x20, .int .i64 x22, .slice x24.a x24.len x24.cap]) h26).bind fun h27 =>
  (q13).bind fun p28 =>
  (ldI .i64 (⟨p28.block, p28.off + 0, none⟩ : Addr) h27).bind fun x29 =>
  guardP (SameW [h26, h25, h18] (fun H31 => (ldI .i64 (⟨p28.block, p28.off + 0, none⟩ : Addr) H31).bind fun y30 => some (.int .i64 y30)) (.int .i64 x29)) (
  (q13).bind fun p32 =>
  (ldI .i64 (⟨p32.block, p32.off + 1, none⟩ : Addr) h27).bind fun x33 =>
  guardP (SameW [h26, h25, h18] (fun H35 => (ldI .i64 (⟨p32.block, p32.off + 1, none⟩ : Addr) H35).bind fun y34 => some (.int .i64 y34)) (.int .i64 x33)) (
  (q13).bind fun p36 =>
  (ldL (⟨p36.block, p36.off + 2, none⟩ : Addr) h27).bind fun x37 =>
  guardP (SameW [h26, h25, h18] (fun H39 => (ldL (⟨p36.block, p36.off + 2, none⟩ : Addr) H39).bind fun y38 => some (.slice y38.a y38.len y38.cap)) (.slice x37.a x37.len x37.cap)) (
  (stL 3 (⟨(h16.next + 1), 0, none⟩ : Addr) ([.int .i64 x29, .int .i64 x33, .slice x37.a x37.len x37.cap]) h27).bind fun h40 =>
  let h41 := AHeap.resv h40 2
  (ldA 3 (⟨(h16.next + 0), 0, none⟩ : Addr) h41).bind fun l42 =>
  (decC [.i .i64, .i .i64, .l] l42).bind fun x43 =>
  (law04_of k D (x43.1, x43.2.1, x43.2.2) h41).bind fun r44 =>
  (ldA 3 (⟨(h16.next + 1), 0, none⟩ : Addr) r44.2).bind fun l45 =>
  guardP (SameW [h41] (fun H47 => (ldA 3 (⟨(h16.next + 1), 0, none⟩ : Addr) H47).bind fun y46 => some (.agg ⟨y46⟩)) (.agg ⟨l45⟩)) (
  (decC [.i .i64, .i .i64, .l] l45).bind fun x48 =>
  (law04_of k D (x48.1, x48.2.1, x48.2.2) r44.2).bind fun r49 =>
  let h50 := AHeap.set r49.2 (h40.next + 0) (.cells [.int .i64 0, .int .i64 0, .slice none 0 0] 51 true 0)
  let h51 := AHeap.set h50 (h40.next + 1) (.cells [.int .i64 0, .int .i64 0, .slice none 0 0] 51 true 0)
  (stL 3 (⟨(h40.next + 0), 0, none⟩ : Addr) ([.int .i64 r44.1.1, .int .i64 r44.1.2.1, .slice r44.1.2.2.a r44.1.2.2.len r44.1.2.2.cap]) h51).bind fun h52 =>
  (stL 3 (⟨(h40.next + 1), 0, none⟩ : Addr) ([.int .i64 r49.1.1, .int .i64 r49.1.2.1, .slice r49.1.2.2.a r49.1.2.2.len r49.1.2.2.cap]) h52).bind fun h53 =>
  let h54 := AHeap.new h53 (.cells [] 3 true 0)
  (rdS 1 rows11 h54).bind fun n56 =>
  (appendA 1 8 3 h54 (⟨(some ⟨h53.next, 0, some 0⟩), 0, 0⟩ : Slc) n56 rows11.len).bind fun r55 =>
  (ldA 3 (⟨(h40.next + 0), 0, none⟩ : Addr) r55.2).bind fun l57 =>
  (decC [.i .i64, .i .i64, .l] l57).bind fun x58 =>
  (ldA 3 (⟨(h40.next + 1), 0, none⟩ : Addr) r55.2).bind fun l59 =>
  (decC [.i .i64, .i .i64, .l] l59).bind fun x60 =>
  (matrix_Space_Mul k D s14 (x58.1, x58.2.1, x58.2.2) (x60.1, x60.2.1, x60.2.2) r55.2).bind fun r61 =>
  let h62 := AHeap.new r61.2 (.cells [.int .i64 0, .int .i64 0, .slice none 0 0] 51 true 0)
  (stL 3 (⟨r61.2.next, 0, none⟩ : Addr) ([.int .i64 r61.1.1.1, .int .i64 r61.1.1.2.1, .slice r61.1.1.2.2.a r61.1.1.2.2.len r61.1.1.2.2.cap]) h62).bind fun h63 =>
  (ldA 3 (⟨(h16.next + 0), 0, none⟩ : Addr) h63).bind fun l64 =>
  (decC [.i .i64, .i .i64, .l] l64).bind fun x65 =>
  (ldA 3 (⟨(h16.next + 1), 0, none⟩ : Addr) h63).bind fun l66 =>
  (decC [.i .i64, .i .i64, .l] l66).bind fun x67 =>
  (ref04_Mul k D (x65.1, x65.2.1, x65.2.2) (x67.1, x67.2.1, x67.2.2) h63).bind fun r68 =>
  let h69 := AHeap.new r68.2 (.cells [.int .i64 0, .int .i64 0, .slice none 0 0] 54 true 0)
  (stL 3 (⟨r68.2.next, 0, none⟩ : Addr) ([.int .i64 r68.1.1.1, .int .i64 r68.1.1.2.1, .slice r68.1.1.2.2.a r68.1.1.2.2.len r68.1.1.2.2.cap]) h69).bind fun h70 =>
  joinK (fun (rows71 : Slc) (s72 : Option Addr) (a73 : Option Addr) (b74 : Option Addr) (x75 : Option Addr) (y76 : Option Addr) (own77 : Slc) (y78 : Bool) (h79 : AHeap) =>
  (if y78 = true then
  some (false, h79)
  else
  (x75).bind fun p81 =>
  (ldA 3 p81 h79).bind fun l82 =>
  (decC [.i .i64, .i .i64, .l] l82).bind fun x83 =>
  (matrix_Space_Inverse k D s72 (x83.1, x83.2.1, x83.2.2) h79).bind fun r84 =>
  let h85 := AHeap.new r84.2 (.cells [.int .i64 0, .int .i64 0, .slice none 0 0] 51 true 0)
  (stL 3 (⟨r84.2.next, 0, none⟩ : Addr) ([.int .i64 r84.1.1.1, .int .i64 r84.1.1.2.1, .slice r84.1.1.2.2.a r84.1.1.2.2.len r84.1.1.2.2.cap]) h85).bind fun h86 =>
  (a73).bind fun p87 =>
  (ldA 3 p87 h86).bind fun l88 =>
  (decC [.i .i64, .i .i64, .l] l88).bind fun x89 =>
  (ref04_Inverse k D (x89.1, x89.2.1, x89.2.2) h86).bind fun r90 =>
  let h91 := AHeap.new r90.2 (.cells [.int .i64 0, .int .i64 0, .slice none 0 0] 54 true 0)
  (stL 3 (⟨r90.2.next, 0, none⟩ : Addr) ([.int .i64 r90.1.1.1, .int .i64 r90.1.1.2.1, .slice r90.1.1.2.2.a r90.1.1.2.2.len r90.1.1.2.2.cap]) h91).bind fun h92 =>
  joinK (fun (rows93 : Slc) (s94 : Option Addr) (a95 : Option Addr) (b96 : Option Addr) (x97 : Option Addr) (y98 : Option Addr) (own99 : Slc) (y100 : Bool) (h101 : AHeap) =>
  (if y100 = true then
  some (false, h101)
  else
  (x97).bind fun p103 =>
  (ldA 3 p103 h101).bind fun l104 =>
  (decC [.i .i64, .i .i64, .l] l104).bind fun x105 =>
  (matrix_Space_Rank k D s94 (x105.1, x105.2.1, x105.2.2) h101).bind fun r106 =>
  (a95).bind fun p107 =>
  (ldA 3 p107 r106.2).bind fun l108 =>
  (decC [.i .i64, .i .i64, .l] l108).bind fun x109 =>
  (ref04_Rank k D (x109.1, x109.2.1, x109.2.2) r106.2).bind fun r110 =>
  joinK (fun (rows111 : Slc) (a112 : Option Addr) (b113 : Option Addr) (x114 : Option Addr) (y115 : Option Addr) (own116 : Slc) (y117 : Bool) (h118 : AHeap) =>
  (if y117 = true then
  some (false, h118)
  else
  (x114).bind fun p120 =>
  (ldA 3 p120 h118).bind fun l121 =>
  (decC [.i .i64, .i .i64, .l] l121).bind fun x122 =>
  (matrix_Turn k D (x122.1, x122.2.1, x122.2.2) h118).bind fun r123 =>
  let h124 := AHeap.new r123.2 (.cells [.int .i64 0, .int .i64 0, .slice none 0 0] 51 true 0)
  (stL 3 (⟨r123.2.next, 0, none⟩ : Addr) ([.int .i64 r123.1.1.1, .int .i64 r123.1.1.2.1, .slice r123.1.1.2.2.a r123.1.1.2.2.len r123.1.1.2.2.cap]) h124).bind fun h125 =>
  (a112).bind fun p126 =>
  (ldA 3 p126 h125).bind fun l127 =>
  (decC [.i .i64, .i .i64, .l] l127).bind fun x128 =>
  (ref04_Turn k D (x128.1, x128.2.1, x128.2.2) h125).bind fun r129 =>
  let h130 := AHeap.new r129.2 (.cells [.int .i64 0, .int .i64 0, .slice none 0 0] 54 true 0)
  (stL 3 (⟨r129.2.next, 0, none⟩ : Addr) ([.int .i64 r129.1.1.1, .int .i64 r129.1.1.2.1, .slice r129.1.1.2.2.a r129.1.1.2.2.len r129.1.1.2.2.cap]) h130).bind fun h131 =>
  joinK (fun (rows132 : Slc) (a133 : Option Addr) (b134 : Option Addr) (x135 : Option Addr) (y136 : Option Addr) (own137 : Slc) (y138 : Bool) (h139 : AHeap) =>
  (if y138 = true then
  some (false, h139)
  else
  (x135).bind fun p141 =>
  (ldA 3 p141 h139).bind fun l142 =>
  (decC [.i .i64, .i .i64, .l] l142).bind fun x143 =>
  (matrix_Pick k D (x143.1, x143.2.1, x143.2.2) own137 h139).bind fun r144 =>
  let h145 := AHeap.new r144.2 (.cells [.int .i64 0, .int .i64 0, .slice none 0 0] 51 true 0)
  (stL 3 (⟨r144.2.next, 0, none⟩ : Addr) ([.int .i64 r144.1.1.1, .int .i64 r144.1.1.2.1, .slice r144.1.1.2.2.a r144.1.1.2.2.len r144.1.1.2.2.cap]) h145).bind fun h146 =>
  (a133).bind fun p147 =>
  (ldA 3 p147 h146).bind fun l148 =>
  (decC [.i .i64, .i .i64, .l] l148).bind fun x149 =>
  (ref04_Pick k D (x149.1, x149.2.1, x149.2.2) rows132 h146).bind fun r150 =>
  let h151 := AHeap.new r150.2 (.cells [.int .i64 0, .int .i64 0, .slice none 0 0] 54 true 0)
  (stL 3 (⟨r150.2.next, 0, none⟩ : Addr) ([.int .i64 r150.1.1.1, .int .i64 r150.1.1.2.1, .slice r150.1.1.2.2.a r150.1.1.2.2.len r150.1.1.2.2.cap]) h151).bind fun h152 =>
  (ldA 3 (⟨r144.2.next, 0, none⟩ : Addr) h152).bind fun l153 =>
  (decC [.i .i64, .i .i64, .l] l153).bind fun x154 =>
  (ldA 3 (⟨r150.2.next, 0, none⟩ : Addr) h152).bind fun l155 =>
  (decC [.i .i64, .i .i64, .l] l155).bind fun x156 =>
  (law04_same k D (x154.1, x154.2.1, x154.2.2) (x156.1, x156.2.1, x156.2.2) h152).bind fun r157 =>
  (if r157.1 = true then
  (if (r144.1.2 == r150.1.2) = true then
  (x135).bind fun p158 =>
  (ldA 3 p158 r157.2).bind fun l159 =>
  (decC [.i .i64, .i .i64, .l] l159).bind fun x160 =>
  (a133).bind fun p161 =>
  (ldA 3 p161 r157.2).bind fun l162 =>
  (decC [.i .i64, .i .i64, .l] l162).bind fun x163 =>
  (law04_same k D (x160.1, x160.2.1, x160.2.2) (x163.1, x163.2.1, x163.2.2) r157.2).bind fun r164 =>
  (if r164.1 = true then
  (y136).bind fun p165 =>
  (ldA 3 p165 r164.2).bind fun l166 =>
  (decC [.i .i64, .i .i64, .l] l166).bind fun x167 =>
  (b134).bind fun p168 =>
  (ldA 3 p168 r164.2).bind fun l169 =>
  (decC [.i .i64, .i .i64, .l] l169).bind fun x170 =>
  (law04_same k D (x167.1, x167.2.1, x167.2.2) (x170.1, x170.2.1, x170.2.2) r164.2).bind fun r171 =>
  (if r171.1 = true then
  (book_SameInts k D own137 rows132 r171.2).bind fun r172 =>
  some (r172.1, r172.2)
  else
  some (false, r171.2))
  else
  some (false, r164.2))
  else
  some (false, r157.2))
  else
  some (false, r157.2)))) fun j140 =>
  (ldA 3 (⟨r123.2.next, 0, none⟩ : Addr) h131).bind fun l173 =>
  (decC [.i .i64, .i .i64, .l] l173).bind fun x174 =>
  (ldA 3 (⟨r129.2.next, 0, none⟩ : Addr) h131).bind fun l175 =>
  (decC [.i .i64, .i .i64, .l] l175).bind fun x176 =>
  (law04_same k D (x174.1, x174.2.1, x174.2.2) (x176.1, x176.2.1, x176.2.2) h131).bind fun r177 =>
  (if (!r177.1) = true then
  j140 rows111 a112 b113 x114 y115 own116 true r177.2
  else
  j140 rows111 a112 b113 x114 y115 own116 (r123.1.2 != r129.1.2) r177.2))) fun j119 =>
  (if (r106.1.1 != r110.1.1) = true then
  j119 rows93 a95 b96 x97 y98 own99 true r110.2
  else
  (if (r106.1.2 != r110.1.2) = true then
  j119 rows93 a95 b96 x97 y98 own99 true r110.2
  else
  (x97).bind fun p178 =>
  (ldA 3 p178 r110.2).bind fun l179 =>
  (decC [.i .i64, .i .i64, .l] l179).bind fun x180 =>
  (matrix_Check k D (x180.1, x180.2.1, x180.2.2) r110.2).bind fun r181 =>
  (a95).bind fun p182 =>
  (ldA 3 p182 r181.2).bind fun l183 =>
  guardP (SameW [r110.2] (fun H185 => (a95).bind fun p186 => (ldA 3 p186 H185).bind fun y184 => some (.agg ⟨y184⟩)) (.agg ⟨l183⟩)) (
  (decC [.i .i64, .i .i64, .l] l183).bind fun x187 =>
  (ref04_Check k D (x187.1, x187.2.1, x187.2.2) r181.2).bind fun r188 =>
  j119 rows93 a95 b96 x97 y98 own99 (r181.1 != r188.1) r188.2))))) fun j102 =>
  (ldA 3 (⟨r84.2.next, 0, none⟩ : Addr) h92).bind fun l189 =>
  (decC [.i .i64, .i .i64, .l] l189).bind fun x190 =>
  (ldA 3 (⟨r90.2.next, 0, none⟩ : Addr) h92).bind fun l191 =>
  (decC [.i .i64, .i .i64, .l] l191).bind fun x192 =>
  (law04_same k D (x190.1, x190.2.1, x190.2.2) (x192.1, x192.2.1, x192.2.2) h92).bind fun r193 =>
  (if (!r193.1) = true then
  j102 rows71 s72 a73 b74 x75 y76 own77 true r193.2
  else
  j102 rows71 s72 a73 b74 x75 y76 own77 (r84.1.2 != r90.1.2) r193.2))) fun j80 =>
  (ldA 3 (⟨r61.2.next, 0, none⟩ : Addr) h70).bind fun l194 =>
  (decC [.i .i64, .i .i64, .l] l194).bind fun x195 =>
  (ldA 3 (⟨r68.2.next, 0, none⟩ : Addr) h70).bind fun l196 =>
  (decC [.i .i64, .i .i64, .l] l196).bind fun x197 =>
  (law04_same k D (x195.1, x195.2.1, x195.2.2) (x197.1, x197.2.1, x197.2.2) h70).bind fun r198 =>
  (if (!r198.1) = true then
  j80 rows11 s14 (some (⟨(h16.next + 0), 0, none⟩ : Addr)) (some (⟨(h16.next + 1), 0, none⟩ : Addr)) (some (⟨(h40.next + 0), 0, none⟩ : Addr)) (some (⟨(h40.next + 1), 0, none⟩ : Addr)) r55.1 true r198.2
  else
  j80 rows11 s14 (some (⟨(h16.next + 0), 0, none⟩ : Addr)) (some (⟨(h16.next + 1), 0, none⟩ : Addr)) (some (⟨(h40.next + 0), 0, none⟩ : Addr)) (some (⟨(h40.next + 1), 0, none⟩ : Addr)) r55.1 (r61.1.2 != r68.1.2) r198.2))))))) fun j17 =>
  (p5).bind fun p199 =>
  (ldA 3 p199 h9).bind fun l200 =>
  (decC [.i .i64, .i .i64, .l] l200).bind fun x201 =>
  (law04_small k D (x201.1, x201.2.1, x201.2.2) h9).bind fun r202 =>
  (if (!r202.1) = true then
  j17 rows4 p5 q6 s7 true r202.2
  else
  (q6).bind fun p203 =>
  (ldA 3 p203 r202.2).bind fun l204 =>
  (decC [.i .i64, .i .i64, .l] l204).bind fun x205 =>
  (law04_small k D (x205.1, x205.2.1, x205.2.2) r202.2).bind fun r206 =>
  (if (!r206.1) = true then
  j17 rows4 p5 q6 s7 true r206.2
  else
  (if (decide ((rows4.len : Int) > 20)) = true then
  j17 rows4 p5 q6 s7 (decide ((rows4.len : Int) ≤ 255)) r206.2
  else
  j17 rows4 p5 q6 s7 false r206.2))))) fun j10 =>
  (if r3.1.isNone = true then
  j10 rows_2 (some (⟨h.next, 0, none⟩ : Addr)) (some (⟨h1.next, 0, none⟩ : Addr)) r3.1 true r3.2
  else
  (law04_works k D r3.2).bind fun r207 =>
  j10 rows_2 (some (⟨h.next, 0, none⟩ : Addr)) (some (⟨h1.next, 0, none⟩ : Addr)) r3.1 (!r207.1) r207.2)
def r_law04_MatrixReckons : RCode := .seq (.region [⟨some 3, .a (.box 51 (.tmp 0)), none, none⟩,
  ⟨some 4, .a (.box 51 (.tmp 1)), none, none⟩,
  ⟨some 6, .p (.mv (.const (.bool false))), none, none⟩])
  (.seq (.region [⟨some 25, .e (.call (.func 34) []), none, none⟩,
  ⟨some 7, .p (.mv (.tmp 25)), none, none⟩])
  (.seq (.seq (.join [(2, .l), (3, .p), (4, .p), (7, .p), (33, .b)] (.region [⟨some 26, .p (.mv (.tmp 7)), none, none⟩,
  ⟨some 27, .p (.isNil .p false (.tmp 26)), none, none⟩,
  ⟨some 28, .p (.mv (.tmp 27)), none, none⟩,
  ⟨some 29, .p (.pick (.tmp 28) (.const (.bool true)) (.const (.bool false))), none, none⟩,
  ⟨some 30, .p (.mv (.tmp 29)), none, none⟩,
  ⟨some 31, .e (.call (.func 35) []), (some (30, false)), none⟩,
  ⟨some 32, .p (.un .not (.tmp 31)), (some (30, false)), none⟩,
  ⟨some 33, .p (.pick (.tmp 30) (.const (.bool true)) (.tmp 32)), none, none⟩]))
  (.cond (.tmp 33) (.seq (.region [⟨some 6, .p (.mv (.const (.bool false))), none, none⟩])
  (.ret)) (.skip)))
  (.seq (.seq (.join [(2, .l), (3, .p), (4, .p), (7, .p), (51, .b)] (.region [⟨some 34, .l (.load (.agg 3) (.tmp 3)), none, some (.st [.i .i64, .i .i64, .l])⟩,
  ⟨some 35, .e (.call (.func 48) [.tmp 34]), none, none⟩,
  ⟨some 36, .p (.un .not (.tmp 35)), none, none⟩,
  ⟨some 37, .p (.mv (.tmp 36)), none, none⟩,
  ⟨some 38, .l (.load (.agg 3) (.tmp 4)), (some (37, false)), some (.st [.i .i64, .i .i64, .l])⟩,
  ⟨some 39, .e (.call (.func 48) [.tmp 38]), (some (37, false)), none⟩,
  ⟨some 40, .p (.un .not (.tmp 39)), (some (37, false)), none⟩,
  ⟨some 41, .p (.pick (.tmp 37) (.const (.bool true)) (.tmp 40)), none, none⟩,
  ⟨some 42, .p (.mv (.tmp 41)), none, none⟩,
  ⟨some 43, .p (.mv (.tmp 2)), (some (42, false)), none⟩,
  ⟨some 44, .p (.lenL (.tmp 43)), (some (42, false)), none⟩,
  ⟨some 45, .p (.bin .gtr (.tmp 44) (.const (.int .i64 20))), (some (42, false)), none⟩,
  ⟨some 46, .p (.mv (.tmp 45)), (some (42, false)), none⟩,
  ⟨some 47, .p (.mv (.tmp 2)), (some (46, true)), none⟩,
  ⟨some 48, .p (.lenL (.tmp 47)), (some (46, true)), none⟩,
  ⟨some 49, .p (.bin .leq (.tmp 48) (.const (.int .i64 255))), (some (46, true)), none⟩,
  ⟨some 50, .p (.pick (.tmp 46) (.tmp 49) (.const (.bool false))), (some (42, false)), none⟩,
  ⟨some 51, .p (.pick (.tmp 42) (.const (.bool true)) (.tmp 50)), none, none⟩]))
  (.cond (.tmp 51) (.seq (.region [⟨some 6, .p (.mv (.const (.bool true))), none, none⟩])
  (.ret)) (.skip)))
  (.seq (.gdraw 2 [⟨⟨0, ⟨some 52, .p (.fieldAddr 0 (.tmp 3)), none, none⟩, [3], 0⟩, none⟩,
  ⟨⟨1, ⟨some 53, .l (.load (.i .i64) (.tmp 52)), none, none⟩, [52], 0⟩, none⟩,
  ⟨⟨2, ⟨some 54, .p (.fieldAddr 1 (.tmp 3)), none, none⟩, [3], 0⟩, none⟩,
  ⟨⟨3, ⟨some 55, .l (.load (.i .i64) (.tmp 54)), none, none⟩, [54], 0⟩, none⟩,
  ⟨⟨4, ⟨some 56, .p (.fieldAddr 2 (.tmp 3)), none, none⟩, [3], 0⟩, none⟩,
  ⟨⟨5, ⟨some 57, .l (.load (.l) (.tmp 56)), none, none⟩, [56], 0⟩, none⟩,
  ⟨⟨6, ⟨some 58, .p (.build [.int .i64 0, .int .i64 0, .slice none 0 0] [(0, 1, .tmp 53), (1, 1, .tmp 55), (2, 1, .tmp 57)]), none, none⟩, [53, 55, 57], 0⟩, none⟩,
  ⟨⟨14, ⟨some 8, .a (.alloc 54 [.int .i64 0, .int .i64 0, .slice none 0 0]), none, none⟩, [], 0⟩, some 0⟩,
  ⟨⟨15, ⟨some 9, .a (.alloc 54 [.int .i64 0, .int .i64 0, .slice none 0 0]), none, none⟩, [], 1⟩, some 1⟩,
  ⟨⟨16, ⟨none, .e (.store (some 3) (.tmp 8) (.tmp 58)), none, none⟩, [8, 58], 0⟩, none⟩,
  ⟨⟨7, ⟨some 59, .p (.fieldAddr 0 (.tmp 4)), none, none⟩, [4], 3⟩, none⟩,
  ⟨⟨8, ⟨some 60, .l (.load (.i .i64) (.tmp 59)), none, none⟩, [59], 3⟩, none⟩,
  ⟨⟨9, ⟨some 61, .p (.fieldAddr 1 (.tmp 4)), none, none⟩, [4], 3⟩, none⟩,
  ⟨⟨10, ⟨some 62, .l (.load (.i .i64) (.tmp 61)), none, none⟩, [61], 3⟩, none⟩,
  ⟨⟨11, ⟨some 63, .p (.fieldAddr 2 (.tmp 4)), none, none⟩, [4], 3⟩, none⟩,
  ⟨⟨12, ⟨some 64, .l (.load (.l) (.tmp 63)), none, none⟩, [63], 3⟩, none⟩,
  ⟨⟨13, ⟨some 65, .p (.build [.int .i64 0, .int .i64 0, .slice none 0 0] [(0, 1, .tmp 60), (1, 1, .tmp 62), (2, 1, .tmp 64)]), none, none⟩, [60, 62, 64], 3⟩, none⟩,
  ⟨⟨17, ⟨none, .e (.store (some 3) (.tmp 9) (.tmp 65)), none, none⟩, [9, 65], 0⟩, none⟩])
  (.seq (.gdraw 2 [⟨⟨0, ⟨some 66, .l (.load (.agg 3) (.tmp 8)), none, some (.st [.i .i64, .i .i64, .l])⟩, [8], 0⟩, none⟩,
  ⟨⟨1, ⟨some 67, .e (.call (.func 49) [.tmp 66]), none, none⟩, [66], 0⟩, none⟩,
  ⟨⟨2, ⟨some 68, .l (.load (.agg 3) (.tmp 9)), none, some (.st [.i .i64, .i .i64, .l])⟩, [9], 1⟩, none⟩,
  ⟨⟨3, ⟨some 69, .e (.call (.func 49) [.tmp 68]), none, none⟩, [68], 0⟩, none⟩,
  ⟨⟨4, ⟨some 10, .a (.alloc 51 [.int .i64 0, .int .i64 0, .slice none 0 0]), none, none⟩, [], 2⟩, some 0⟩,
  ⟨⟨5, ⟨some 11, .a (.alloc 51 [.int .i64 0, .int .i64 0, .slice none 0 0]), none, none⟩, [], 3⟩, some 1⟩,
  ⟨⟨6, ⟨none, .e (.store (some 3) (.tmp 10) (.tmp 67)), none, none⟩, [10, 67], 0⟩, none⟩,
  ⟨⟨7, ⟨none, .e (.store (some 3) (.tmp 11) (.tmp 69)), none, none⟩, [11, 69], 0⟩, none⟩])
  (.seq (.region [⟨some 70, .a (.buildSlice 3 0 (zerosL 0 [.int .i64 0]) []), none, none⟩,
  ⟨some 71, .p (.mv (.tmp 2)), none, none⟩,
  ⟨some 72, .e (.append 1 8 3 [.int .i64 0] .slice (.tmp 70) (.tmp 71)), none, none⟩,
  ⟨some 12, .p (.mv (.tmp 72)), none, none⟩])
  (.seq (.region [⟨some 74, .p (.mv (.tmp 7)), none, none⟩,
  ⟨some 75, .l (.load (.agg 3) (.tmp 10)), none, some (.st [.i .i64, .i .i64, .l])⟩,
  ⟨some 76, .l (.load (.agg 3) (.tmp 11)), none, some (.st [.i .i64, .i .i64, .l])⟩,
  ⟨some 77, .e (.call (.func 42) [.tmp 74, .tmp 75, .tmp 76]), none, none⟩,
  ⟨some 73, .p (.mv (.tmp 77)), none, none⟩,
  ⟨some 78, .p (.extract (.tmp 73) 0), none, none⟩,
  ⟨some 79, .p (.extract (.tmp 73) 1), none, none⟩,
  ⟨some 13, .a (.alloc 51 [.int .i64 0, .int .i64 0, .slice none 0 0]), none, none⟩,
  ⟨none, .e (.store (some 3) (.tmp 13) (.tmp 78)), none, none⟩,
  ⟨some 14, .p (.mv (.tmp 79)), none, none⟩])
  (.seq (.region [⟨some 81, .l (.load (.agg 3) (.tmp 8)), none, some (.st [.i .i64, .i .i64, .l])⟩,
  ⟨some 82, .l (.load (.agg 3) (.tmp 9)), none, some (.st [.i .i64, .i .i64, .l])⟩,
  ⟨some 83, .e (.call (.func 50) [.tmp 81, .tmp 82]), none, none⟩,
  ⟨some 80, .p (.mv (.tmp 83)), none, none⟩,
  ⟨some 84, .p (.extract (.tmp 80) 0), none, none⟩,
  ⟨some 85, .p (.extract (.tmp 80) 1), none, none⟩,
  ⟨some 15, .a (.alloc 54 [.int .i64 0, .int .i64 0, .slice none 0 0]), none, none⟩,
  ⟨none, .e (.store (some 3) (.tmp 15) (.tmp 84)), none, none⟩,
  ⟨some 16, .p (.mv (.tmp 85)), none, none⟩])
  (.seq (.seq (.join [(2, .l), (7, .p), (8, .p), (9, .p), (10, .p), (11, .p), (12, .l), (94, .b)] (.region [⟨some 86, .l (.load (.agg 3) (.tmp 13)), none, some (.st [.i .i64, .i .i64, .l])⟩,
  ⟨some 87, .l (.load (.agg 3) (.tmp 15)), none, some (.st [.i .i64, .i .i64, .l])⟩,
  ⟨some 88, .e (.call (.func 40) [.tmp 86, .tmp 87]), none, none⟩,
  ⟨some 89, .p (.un .not (.tmp 88)), none, none⟩,
  ⟨some 90, .p (.mv (.tmp 89)), none, none⟩,
  ⟨some 91, .p (.mv (.tmp 14)), (some (90, false)), none⟩,
  ⟨some 92, .p (.mv (.tmp 16)), (some (90, false)), none⟩,
  ⟨some 93, .p (.bin .neq (.tmp 91) (.tmp 92)), (some (90, false)), none⟩,
  ⟨some 94, .p (.pick (.tmp 90) (.const (.bool true)) (.tmp 93)), none, none⟩]))
  (.cond (.tmp 94) (.seq (.region [⟨some 6, .p (.mv (.const (.bool false))), none, none⟩])
  (.ret)) (.skip)))
  (.seq (.region [⟨some 96, .p (.mv (.tmp 7)), none, none⟩,
  ⟨some 97, .l (.load (.agg 3) (.tmp 10)), none, some (.st [.i .i64, .i .i64, .l])⟩,
  ⟨some 98, .e (.call (.func 45) [.tmp 96, .tmp 97]), none, none⟩,
  ⟨some 95, .p (.mv (.tmp 98)), none, none⟩,
  ⟨some 99, .p (.extract (.tmp 95) 0), none, none⟩,
  ⟨some 100, .p (.extract (.tmp 95) 1), none, none⟩,
  ⟨some 17, .a (.alloc 51 [.int .i64 0, .int .i64 0, .slice none 0 0]), none, none⟩,
  ⟨none, .e (.store (some 3) (.tmp 17) (.tmp 99)), none, none⟩,
  ⟨some 14, .p (.mv (.tmp 100)), none, none⟩])
  (.seq (.region [⟨some 102, .l (.load (.agg 3) (.tmp 8)), none, some (.st [.i .i64, .i .i64, .l])⟩,
  ⟨some 103, .e (.call (.func 51) [.tmp 102]), none, none⟩,
  ⟨some 101, .p (.mv (.tmp 103)), none, none⟩,
  ⟨some 104, .p (.extract (.tmp 101) 0), none, none⟩,
  ⟨some 105, .p (.extract (.tmp 101) 1), none, none⟩,
  ⟨some 18, .a (.alloc 54 [.int .i64 0, .int .i64 0, .slice none 0 0]), none, none⟩,
  ⟨none, .e (.store (some 3) (.tmp 18) (.tmp 104)), none, none⟩,
  ⟨some 16, .p (.mv (.tmp 105)), none, none⟩])
  (.seq (.seq (.join [(2, .l), (7, .p), (8, .p), (9, .p), (10, .p), (11, .p), (12, .l), (114, .b)] (.region [⟨some 106, .l (.load (.agg 3) (.tmp 17)), none, some (.st [.i .i64, .i .i64, .l])⟩,
  ⟨some 107, .l (.load (.agg 3) (.tmp 18)), none, some (.st [.i .i64, .i .i64, .l])⟩,
  ⟨some 108, .e (.call (.func 40) [.tmp 106, .tmp 107]), none, none⟩,
  ⟨some 109, .p (.un .not (.tmp 108)), none, none⟩,
  ⟨some 110, .p (.mv (.tmp 109)), none, none⟩,
  ⟨some 111, .p (.mv (.tmp 14)), (some (110, false)), none⟩,
  ⟨some 112, .p (.mv (.tmp 16)), (some (110, false)), none⟩,
  ⟨some 113, .p (.bin .neq (.tmp 111) (.tmp 112)), (some (110, false)), none⟩,
  ⟨some 114, .p (.pick (.tmp 110) (.const (.bool true)) (.tmp 113)), none, none⟩]))
  (.cond (.tmp 114) (.seq (.region [⟨some 6, .p (.mv (.const (.bool false))), none, none⟩])
  (.ret)) (.skip)))
  (.seq (.region [⟨some 116, .p (.mv (.tmp 7)), none, none⟩,
  ⟨some 117, .l (.load (.agg 3) (.tmp 10)), none, some (.st [.i .i64, .i .i64, .l])⟩,
  ⟨some 118, .e (.call (.func 46) [.tmp 116, .tmp 117]), none, none⟩,
  ⟨some 115, .p (.mv (.tmp 118)), none, none⟩,
  ⟨some 119, .p (.extract (.tmp 115) 0), none, none⟩,
  ⟨some 120, .p (.extract (.tmp 115) 1), none, none⟩,
  ⟨some 19, .p (.mv (.tmp 119)), none, none⟩,
  ⟨some 14, .p (.mv (.tmp 120)), none, none⟩])
  (.seq (.region [⟨some 122, .l (.load (.agg 3) (.tmp 8)), none, some (.st [.i .i64, .i .i64, .l])⟩,
  ⟨some 123, .e (.call (.func 52) [.tmp 122]), none, none⟩,
  ⟨some 121, .p (.mv (.tmp 123)), none, none⟩,
  ⟨some 124, .p (.extract (.tmp 121) 0), none, none⟩,
  ⟨some 125, .p (.extract (.tmp 121) 1), none, none⟩,
  ⟨some 20, .p (.mv (.tmp 124)), none, none⟩,
  ⟨some 16, .p (.mv (.tmp 125)), none, none⟩])
  (.seq (.seq (.join [(2, .l), (8, .p), (9, .p), (10, .p), (11, .p), (12, .l), (140, .b)] (.draw [⟨0, ⟨some 126, .p (.mv (.tmp 19)), none, none⟩, [19], 0⟩,
  ⟨1, ⟨some 127, .p (.mv (.tmp 20)), none, none⟩, [20], 0⟩,
  ⟨2, ⟨some 128, .p (.bin .neq (.tmp 126) (.tmp 127)), none, none⟩, [126, 127], 0⟩,
  ⟨3, ⟨some 129, .p (.mv (.tmp 128)), none, none⟩, [128], 0⟩,
  ⟨4, ⟨some 130, .p (.mv (.tmp 14)), (some (129, false)), none⟩, [14, 129], 0⟩,
  ⟨5, ⟨some 131, .p (.mv (.tmp 16)), (some (129, false)), none⟩, [16, 129], 0⟩,
  ⟨6, ⟨some 132, .p (.bin .neq (.tmp 130) (.tmp 131)), (some (129, false)), none⟩, [130, 131, 129], 0⟩,
  ⟨7, ⟨some 133, .p (.pick (.tmp 129) (.const (.bool true)) (.tmp 132)), none, none⟩, [129, 132], 0⟩,
  ⟨8, ⟨some 134, .p (.mv (.tmp 133)), none, none⟩, [133], 0⟩,
  ⟨9, ⟨some 135, .l (.load (.agg 3) (.tmp 10)), (some (134, false)), some (.st [.i .i64, .i .i64, .l])⟩, [10, 134], 0⟩,
  ⟨10, ⟨some 136, .e (.call (.func 53) [.tmp 135]), (some (134, false)), none⟩, [135, 134], 0⟩,
  ⟨11, ⟨some 137, .l (.load (.agg 3) (.tmp 8)), (some (134, false)), some (.st [.i .i64, .i .i64, .l])⟩, [8, 134], 1⟩,
  ⟨12, ⟨some 138, .e (.call (.func 54) [.tmp 137]), (some (134, false)), none⟩, [137, 134], 0⟩,
  ⟨13, ⟨some 139, .p (.bin .neq (.tmp 136) (.tmp 138)), (some (134, false)), none⟩, [136, 138, 134], 0⟩,
  ⟨14, ⟨some 140, .p (.pick (.tmp 134) (.const (.bool true)) (.tmp 139)), none, none⟩, [134, 139], 0⟩]))
  (.cond (.tmp 140) (.seq (.region [⟨some 6, .p (.mv (.const (.bool false))), none, none⟩])
  (.ret)) (.skip)))
  (.seq (.region [⟨some 142, .l (.load (.agg 3) (.tmp 10)), none, some (.st [.i .i64, .i .i64, .l])⟩,
  ⟨some 143, .e (.call (.func 43) [.tmp 142]), none, none⟩,
  ⟨some 141, .p (.mv (.tmp 143)), none, none⟩,
  ⟨some 144, .p (.extract (.tmp 141) 0), none, none⟩,
  ⟨some 145, .p (.extract (.tmp 141) 1), none, none⟩,
  ⟨some 21, .a (.alloc 51 [.int .i64 0, .int .i64 0, .slice none 0 0]), none, none⟩,
  ⟨none, .e (.store (some 3) (.tmp 21) (.tmp 144)), none, none⟩,
  ⟨some 14, .p (.mv (.tmp 145)), none, none⟩])
  (.seq (.region [⟨some 147, .l (.load (.agg 3) (.tmp 8)), none, some (.st [.i .i64, .i .i64, .l])⟩,
  ⟨some 148, .e (.call (.func 55) [.tmp 147]), none, none⟩,
  ⟨some 146, .p (.mv (.tmp 148)), none, none⟩,
  ⟨some 149, .p (.extract (.tmp 146) 0), none, none⟩,
  ⟨some 150, .p (.extract (.tmp 146) 1), none, none⟩,
  ⟨some 22, .a (.alloc 54 [.int .i64 0, .int .i64 0, .slice none 0 0]), none, none⟩,
  ⟨none, .e (.store (some 3) (.tmp 22) (.tmp 149)), none, none⟩,
  ⟨some 16, .p (.mv (.tmp 150)), none, none⟩])
  (.seq (.seq (.join [(2, .l), (8, .p), (9, .p), (10, .p), (11, .p), (12, .l), (159, .b)] (.region [⟨some 151, .l (.load (.agg 3) (.tmp 21)), none, some (.st [.i .i64, .i .i64, .l])⟩,
  ⟨some 152, .l (.load (.agg 3) (.tmp 22)), none, some (.st [.i .i64, .i .i64, .l])⟩,
  ⟨some 153, .e (.call (.func 40) [.tmp 151, .tmp 152]), none, none⟩,
  ⟨some 154, .p (.un .not (.tmp 153)), none, none⟩,
  ⟨some 155, .p (.mv (.tmp 154)), none, none⟩,
  ⟨some 156, .p (.mv (.tmp 14)), (some (155, false)), none⟩,
  ⟨some 157, .p (.mv (.tmp 16)), (some (155, false)), none⟩,
  ⟨some 158, .p (.bin .neq (.tmp 156) (.tmp 157)), (some (155, false)), none⟩,
  ⟨some 159, .p (.pick (.tmp 155) (.const (.bool true)) (.tmp 158)), none, none⟩]))
  (.cond (.tmp 159) (.seq (.region [⟨some 6, .p (.mv (.const (.bool false))), none, none⟩])
  (.ret)) (.skip)))
  (.seq (.region [⟨some 161, .l (.load (.agg 3) (.tmp 10)), none, some (.st [.i .i64, .i .i64, .l])⟩,
  ⟨some 162, .p (.mv (.tmp 12)), none, none⟩,
  ⟨some 163, .e (.call (.func 47) [.tmp 161, .tmp 162]), none, none⟩,
  ⟨some 160, .p (.mv (.tmp 163)), none, none⟩,
  ⟨some 164, .p (.extract (.tmp 160) 0), none, none⟩,
  ⟨some 165, .p (.extract (.tmp 160) 1), none, none⟩,
  ⟨some 23, .a (.alloc 51 [.int .i64 0, .int .i64 0, .slice none 0 0]), none, none⟩,
  ⟨none, .e (.store (some 3) (.tmp 23) (.tmp 164)), none, none⟩,
  ⟨some 14, .p (.mv (.tmp 165)), none, none⟩])
  (.seq (.region [⟨some 167, .l (.load (.agg 3) (.tmp 8)), none, some (.st [.i .i64, .i .i64, .l])⟩,
  ⟨some 168, .p (.mv (.tmp 2)), none, none⟩,
  ⟨some 169, .e (.call (.func 56) [.tmp 167, .tmp 168]), none, none⟩,
  ⟨some 166, .p (.mv (.tmp 169)), none, none⟩,
  ⟨some 170, .p (.extract (.tmp 166) 0), none, none⟩,
  ⟨some 171, .p (.extract (.tmp 166) 1), none, none⟩,
  ⟨some 24, .a (.alloc 54 [.int .i64 0, .int .i64 0, .slice none 0 0]), none, none⟩,
  ⟨none, .e (.store (some 3) (.tmp 24) (.tmp 170)), none, none⟩,
  ⟨some 16, .p (.mv (.tmp 171)), none, none⟩])
  (.seq (.region [⟨some 172, .l (.load (.agg 3) (.tmp 23)), none, some (.st [.i .i64, .i .i64, .l])⟩,
  ⟨some 173, .l (.load (.agg 3) (.tmp 24)), none, some (.st [.i .i64, .i .i64, .l])⟩,
  ⟨some 174, .e (.call (.func 40) [.tmp 172, .tmp 173]), none, none⟩,
  ⟨some 175, .p (.mv (.tmp 174)), none, none⟩,
  ⟨some 176, .p (.mv (.tmp 14)), (some (175, true)), none⟩,
  ⟨some 177, .p (.mv (.tmp 16)), (some (175, true)), none⟩,
  ⟨some 178, .p (.bin .eql (.tmp 176) (.tmp 177)), (some (175, true)), none⟩,
  ⟨some 179, .p (.pick (.tmp 175) (.tmp 178) (.const (.bool false))), none, none⟩,
  ⟨some 180, .p (.mv (.tmp 179)), none, none⟩,
  ⟨some 181, .l (.load (.agg 3) (.tmp 10)), (some (180, true)), some (.st [.i .i64, .i .i64, .l])⟩,
  ⟨some 182, .l (.load (.agg 3) (.tmp 8)), (some (180, true)), some (.st [.i .i64, .i .i64, .l])⟩,
  ⟨some 183, .e (.call (.func 40) [.tmp 181, .tmp 182]), (some (180, true)), none⟩,
  ⟨some 184, .p (.pick (.tmp 180) (.tmp 183) (.const (.bool false))), none, none⟩,
  ⟨some 185, .p (.mv (.tmp 184)), none, none⟩,
  ⟨some 186, .l (.load (.agg 3) (.tmp 11)), (some (185, true)), some (.st [.i .i64, .i .i64, .l])⟩,
  ⟨some 187, .l (.load (.agg 3) (.tmp 9)), (some (185, true)), some (.st [.i .i64, .i .i64, .l])⟩,
  ⟨some 188, .e (.call (.func 40) [.tmp 186, .tmp 187]), (some (185, true)), none⟩,
  ⟨some 189, .p (.pick (.tmp 185) (.tmp 188) (.const (.bool false))), none, none⟩,
  ⟨some 190, .p (.mv (.tmp 189)), none, none⟩,
  ⟨some 191, .p (.mv (.tmp 12)), (some (190, true)), none⟩,
  ⟨some 192, .p (.mv (.tmp 2)), (some (190, true)), none⟩,
  ⟨some 193, .e (.call (.func 29) [.tmp 191, .tmp 192]), (some (190, true)), none⟩,
  ⟨some 194, .p (.pick (.tmp 190) (.tmp 193) (.const (.bool false))), none, none⟩,
  ⟨some 6, .p (.mv (.tmp 194)), none, none⟩])
  (.ret))))))))))))))))))))))
noncomputable def e_law04_MatrixReckons (k : Nat) (D : CallF) : Ent := entOf 12 [(0, .st [.i .i64, .i .i64, .l]), (1, .st [.i .i64, .i .i64, .l]), (2, .l)] [(6, .b)] (law04_MatrixReckons k D)
theorem q_law04_MatrixReckons : (Try.f12.body).bind (rcodeOf Try.prog 0 Try.f12.ntmps) = some (strip r_law04_MatrixReckons) := by kernel_rfl
theorem t_law04_MatrixReckons (k : Nat) (D : CallF) : curF [(0, .st [.i .i64, .i .i64, .l]), (1, .st [.i .i64, .i .i64, .l]), (2, .l)] (fun args h => denF (C_law04_MatrixReckons k D) k r_law04_MatrixReckons [(6, .b)] [none] args h) = law04_MatrixReckons k D := by kernel_rfl
theorem ok_law04_MatrixReckons {D : CallF} (hD : CSound Try.prog 0 D) (k : Nat) : EntOk Try.prog 0 (e_law04_MatrixReckons k D) :=
  entOf_ok2 (mkC_sound hD (EntsOk.more (ok_matrix_New hD k) (EntsOk.more (ok_law04_of hD k) (EntsOk.more (ok_matrix_Space_Mul hD k) (EntsOk.more (ok_ref04_Mul hD k) (EntsOk.more (ok_matrix_Space_Inverse hD k) (EntsOk.more (ok_ref04_Inverse hD k) (EntsOk.more (ok_matrix_Space_Rank hD k) (EntsOk.more (ok_ref04_Rank hD k) (EntsOk.more (ok_matrix_Turn hD k) (EntsOk.more (ok_ref04_Turn hD k) (EntsOk.more (ok_matrix_Pick hD k) (EntsOk.more (ok_ref04_Pick hD k) (EntsOk.more (ok_law04_same hD k) (EntsOk.more (ok_book_SameInts hD k) (EntsOk.more (ok_matrix_Check hD k) (EntsOk.more (ok_ref04_Check hD k) (EntsOk.more (ok_law04_small hD k) (EntsOk.more (ok_law04_works hD k) (EntsOk.none)))))))))))))))))))) Try.func12 rfl q_law04_MatrixReckons rfl (t_law04_MatrixReckons k D)
end Gy
