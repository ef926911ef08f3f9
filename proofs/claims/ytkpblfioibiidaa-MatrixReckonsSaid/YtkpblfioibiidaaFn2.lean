import Derived.Test.YtkpblfioibiidaaProg
import Derived.Test.YtkpblfioibiidaaFn1
namespace Gy
open Go Gx Go.Proofs
set_option maxRecDepth 100000
noncomputable def C_ref04_Rank (k : Nat) (D : CallF) : CallF := mkC D [e_ref04_Check k D, e_ref04_copied k D, e_ref04_M_lead k D, e_ref04_M_swap k D, e_ref04_M_At k D, e_ref03_Over k D, e_ref04_M_scale k D, e_ref04_M_add k D]
noncomputable def ref04_Rank_l1b (k : Nat) (D : CallF) (j57 : (Option Addr) → (Option Addr) → Int → Int → AHeap → Option ((Int × Int) × AHeap)) (rec64 : (Option Addr) → (Option Addr) → Int → Int → Int → AHeap → Option ((Int × Int) × AHeap)) (a58 : Option Addr) (l59 : Option Addr) (n60 : Int) (j61 : Int) (kv62 : Int) (h63 : AHeap) : Option ((Int × Int) × AHeap) :=
  (a58).bind fun p65 =>
  (ldI .i64 (⟨p65.block, p65.off + 0, none⟩ : Addr) h63).bind fun x66 =>
  (if (decide (kv62 < x66)) = true then
  (l59).bind fun p67 =>
  (ldA 3 p67 h63).bind fun l68 =>
  (decC [.i .i64, .i .i64, .l] l68).bind fun x69 =>
  (ref04_M_At k D (x69.1, x69.2.1, x69.2.2) kv62 j61 h63).bind fun r70 =>
  (l59).bind fun p71 =>
  (ldA 3 p71 r70.2).bind fun l72 =>
  guardP (SameW [h63] (fun H74 => (l59).bind fun p75 => (ldA 3 p75 H74).bind fun y73 => some (.agg ⟨y73⟩)) (.agg ⟨l72⟩)) (
  (decC [.i .i64, .i .i64, .l] l72).bind fun x76 =>
  (ref04_M_add k D (x76.1, x76.2.1, x76.2.2) kv62 n60 r70.1 r70.2).bind fun r77 =>
  rec64 a58 l59 n60 j61 (IntKind.wrap .i64 (kv62 + 1)) r77.2)
  else
  j57 a58 l59 n60 j61 h63)
noncomputable def ref04_Rank_l1 (k : Nat) (D : CallF) (j57 : (Option Addr) → (Option Addr) → Int → Int → AHeap → Option ((Int × Int) × AHeap)) : (Option Addr) → (Option Addr) → Int → Int → Int → AHeap → Option ((Int × Int) × AHeap) :=
  iterK (α := (Option Addr) → (Option Addr) → Int → Int → Int → AHeap → Option ((Int × Int) × AHeap)) (fun _ _ _ _ _ _ => none) k (ref04_Rank_l1b k D j57)
noncomputable def ref04_Rank_l0b (k : Nat) (D : CallF) (j12 : Int → AHeap → Option ((Int × Int) × AHeap)) (rec18 : (Option Addr) → (Option Addr) → Int → Int → AHeap → Option ((Int × Int) × AHeap)) (a13 : Option Addr) (l14 : Option Addr) (n15 : Int) (j16 : Int) (h17 : AHeap) : Option ((Int × Int) × AHeap) :=
  joinK (fun (a19 : Option Addr) (l20 : Option Addr) (n21 : Int) (j22 : Int) (y23 : Bool) (h24 : AHeap) =>
  (if y23 = true then
  joinK (fun (a26 : Option Addr) (l27 : Option Addr) (n28 : Int) (j29 : Int) (h30 : AHeap) =>
  rec18 a26 l27 n28 (IntKind.wrap .i64 (j29 + 1)) h30) fun j31 =>
  (l20).bind fun p32 =>
  (ldA 3 p32 h24).bind fun l33 =>
  (decC [.i .i64, .i .i64, .l] l33).bind fun x34 =>
  (ref04_M_lead k D (x34.1, x34.2.1, x34.2.2) n21 j22 h24).bind fun r35 =>
  (if (decide (r35.1 < 0)) = true then
  j31 a19 l20 n21 j22 r35.2
  else
  (l20).bind fun p36 =>
  (ldA 3 p36 r35.2).bind fun l37 =>
  (decC [.i .i64, .i .i64, .l] l37).bind fun x38 =>
  (ref04_M_swap k D (x38.1, x38.2.1, x38.2.2) r35.1 n21 r35.2).bind fun r39 =>
  (l20).bind fun p40 =>
  (ldA 3 p40 r39.2).bind fun l41 =>
  (decC [.i .i64, .i .i64, .l] l41).bind fun x42 =>
  (ref04_M_At k D (x42.1, x42.2.1, x42.2.2) n21 j22 r39.2).bind fun r43 =>
  (ref03_Over k D 1 r43.1 r43.2).bind fun r44 =>
  (l20).bind fun p45 =>
  (ldA 3 p45 r44.2).bind fun l46 =>
  guardP (SameW [r43.2, r39.2] (fun H48 => (l20).bind fun p49 => (ldA 3 p49 H48).bind fun y47 => some (.agg ⟨y47⟩)) (.agg ⟨l46⟩)) (
  (decC [.i .i64, .i .i64, .l] l46).bind fun x50 =>
  (ref04_M_scale k D (x50.1, x50.2.1, x50.2.2) n21 r44.1 r44.2).bind fun r51 =>
  joinK (fun (a52 : Option Addr) (l53 : Option Addr) (n54 : Int) (j55 : Int) (h56 : AHeap) =>
  j31 a52 l53 (IntKind.wrap .i64 (n54 + 1)) j55 h56) fun j57 =>
  ref04_Rank_l1 k D j57 a19 l20 n21 j22 (IntKind.wrap .i64 (n21 + 1)) r51.2))
  else
  j12 n21 h24)) fun j25 =>
  (a13).bind fun p78 =>
  (ldI .i64 (⟨p78.block, p78.off + 1, none⟩ : Addr) h17).bind fun x79 =>
  (if (decide (j16 < x79)) = true then
  (a13).bind fun p80 =>
  (ldI .i64 (⟨p80.block, p80.off + 0, none⟩ : Addr) h17).bind fun x81 =>
  j25 a13 l14 n15 j16 (decide (n15 < x81)) h17
  else
  j25 a13 l14 n15 j16 false h17)
noncomputable def ref04_Rank_l0 (k : Nat) (D : CallF) (j12 : Int → AHeap → Option ((Int × Int) × AHeap)) : (Option Addr) → (Option Addr) → Int → Int → AHeap → Option ((Int × Int) × AHeap) :=
  iterK (α := (Option Addr) → (Option Addr) → Int → Int → AHeap → Option ((Int × Int) × AHeap)) (fun _ _ _ _ _ => none) k (ref04_Rank_l0b k D j12)
noncomputable def ref04_Rank (k : Nat) (D : CallF) (a_0 : Int × Int × Slc) (h : AHeap) : Option ((Int × Int) × AHeap) :=
  let h1 := AHeap.new h (.cells [.int .i64 a_0.1, .int .i64 a_0.2.1, .slice a_0.2.2.a a_0.2.2.len a_0.2.2.cap] 54 true 0)
  (ldA 3 (⟨h.next, 0, none⟩ : Addr) h1).bind fun l2 =>
  (decC [.i .i64, .i .i64, .l] l2).bind fun x3 =>
  (ref04_Check k D (x3.1, x3.2.1, x3.2.2) h1).bind fun r4 =>
  (if (r4.1 != 0) = true then
  some ((0, r4.1), r4.2)
  else
  (ldA 3 (⟨h.next, 0, none⟩ : Addr) r4.2).bind fun l5 =>
  (decC [.i .i64, .i .i64, .l] l5).bind fun x6 =>
  (ref04_copied k D (x6.1, x6.2.1, x6.2.2) r4.2).bind fun r7 =>
  let h8 := AHeap.new r7.2 (.cells [.int .i64 0, .int .i64 0, .slice none 0 0] 54 true 0)
  (stL 3 (⟨r7.2.next, 0, none⟩ : Addr) ([.int .i64 r7.1.1, .int .i64 r7.1.2.1, .slice r7.1.2.2.a r7.1.2.2.len r7.1.2.2.cap]) h8).bind fun h9 =>
  joinK (fun (n10 : Int) (h11 : AHeap) =>
  some ((n10, 0), h11)) fun j12 =>
  ref04_Rank_l0 k D j12 (some (⟨h.next, 0, none⟩ : Addr)) (some (⟨r7.2.next, 0, none⟩ : Addr)) 0 0 h9)
def r_ref04_Rank : RCode := .seq (.region [⟨some 1, .a (.box 54 (.tmp 0)), none, none⟩,
  ⟨some 2, .p (.mv (.const (.int .i64 0))), none, none⟩,
  ⟨some 3, .p (.mv (.const (.int .i64 0))), none, none⟩])
  (.seq (.seq (.region [⟨some 10, .l (.load (.agg 3) (.tmp 1)), none, some (.st [.i .i64, .i .i64, .l])⟩,
  ⟨some 11, .e (.call (.func 54) [.tmp 10]), none, none⟩,
  ⟨some 4, .p (.mv (.tmp 11)), none, none⟩])
  (.seq (.region [⟨some 12, .p (.mv (.tmp 4)), none, none⟩,
  ⟨some 13, .p (.bin .neq (.tmp 12) (.const (.int .i64 0))), none, none⟩])
  (.cond (.tmp 13) (.seq (.region [⟨some 14, .p (.mv (.tmp 4)), none, none⟩,
  ⟨some 2, .p (.mv (.const (.int .i64 0))), none, none⟩,
  ⟨some 3, .p (.mv (.tmp 14)), none, none⟩])
  (.ret)) (.skip))))
  (.seq (.region [⟨some 15, .l (.load (.agg 3) (.tmp 1)), none, some (.st [.i .i64, .i .i64, .l])⟩,
  ⟨some 16, .e (.call (.func 72) [.tmp 15]), none, none⟩,
  ⟨some 5, .a (.alloc 54 [.int .i64 0, .int .i64 0, .slice none 0 0]), none, none⟩,
  ⟨none, .e (.store (some 3) (.tmp 5) (.tmp 16)), none, none⟩])
  (.seq (.region [⟨some 6, .p (.mv (.const (.int .i64 0))), none, none⟩])
  (.seq (.join [(6, .i .i64)] (.seq (.region [⟨some 7, .p (.mv (.const (.int .i64 0))), none, none⟩])
  (.block 0 (.loop [(1, .p), (5, .p), (6, .i .i64), (7, .i .i64)] (.seq (.seq (.join [(1, .p), (5, .p), (6, .i .i64), (7, .i .i64), (26, .b)] (.region [⟨some 17, .p (.mv (.tmp 7)), none, none⟩,
  ⟨some 18, .p (.fieldAddr 1 (.tmp 1)), none, none⟩,
  ⟨some 19, .l (.load (.i .i64) (.tmp 18)), none, none⟩,
  ⟨some 20, .p (.bin .lss (.tmp 17) (.tmp 19)), none, none⟩,
  ⟨some 21, .p (.mv (.tmp 20)), none, none⟩,
  ⟨some 22, .p (.mv (.tmp 6)), (some (21, true)), none⟩,
  ⟨some 23, .p (.fieldAddr 0 (.tmp 1)), (some (21, true)), none⟩,
  ⟨some 24, .l (.load (.i .i64) (.tmp 23)), (some (21, true)), none⟩,
  ⟨some 25, .p (.bin .lss (.tmp 22) (.tmp 24)), (some (21, true)), none⟩,
  ⟨some 26, .p (.pick (.tmp 21) (.tmp 25) (.const (.bool false))), none, none⟩]))
  (.cond (.tmp 26) (.skip) (.exit 0)))
  (.seq (.join [(1, .p), (5, .p), (6, .i .i64), (7, .i .i64)] (.block 1 (.seq (.region [⟨some 29, .l (.load (.agg 3) (.tmp 5)), none, some (.st [.i .i64, .i .i64, .l])⟩,
  ⟨some 30, .p (.mv (.tmp 6)), none, none⟩,
  ⟨some 31, .p (.mv (.tmp 7)), none, none⟩,
  ⟨some 32, .e (.call (.func 73) [.tmp 29, .tmp 30, .tmp 31]), none, none⟩,
  ⟨some 8, .p (.mv (.tmp 32)), none, none⟩])
  (.seq (.seq (.region [⟨some 33, .p (.mv (.tmp 8)), none, none⟩,
  ⟨some 34, .p (.bin .lss (.tmp 33) (.const (.int .i64 0))), none, none⟩])
  (.cond (.tmp 34) (.exit 1) (.skip)))
  (.seq (.region [⟨some 35, .l (.load (.agg 3) (.tmp 5)), none, some (.st [.i .i64, .i .i64, .l])⟩,
  ⟨some 36, .p (.mv (.tmp 8)), none, none⟩,
  ⟨some 37, .p (.mv (.tmp 6)), none, none⟩,
  ⟨some 38, .e (.call (.func 74) [.tmp 35, .tmp 36, .tmp 37]), none, none⟩])
  (.seq (.draw [⟨2, ⟨some 41, .l (.load (.agg 3) (.tmp 5)), none, some (.st [.i .i64, .i .i64, .l])⟩, [5], 0⟩,
  ⟨3, ⟨some 42, .p (.mv (.tmp 6)), none, none⟩, [6], 0⟩,
  ⟨4, ⟨some 43, .p (.mv (.tmp 7)), none, none⟩, [7], 0⟩,
  ⟨5, ⟨some 44, .e (.call (.func 71) [.tmp 41, .tmp 42, .tmp 43]), none, none⟩, [41, 42, 43], 0⟩,
  ⟨6, ⟨some 45, .e (.call (.func 62) [.const (.int .i64 1), .tmp 44]), none, none⟩, [44], 0⟩,
  ⟨0, ⟨some 39, .l (.load (.agg 3) (.tmp 5)), none, some (.st [.i .i64, .i .i64, .l])⟩, [5], 2⟩,
  ⟨1, ⟨some 40, .p (.mv (.tmp 6)), none, none⟩, [6], 2⟩,
  ⟨7, ⟨some 46, .e (.call (.func 75) [.tmp 39, .tmp 40, .tmp 45]), none, none⟩, [39, 40, 45], 0⟩])
  (.seq (.join [(1, .p), (5, .p), (6, .i .i64), (7, .i .i64)] (.seq (.region [⟨some 47, .p (.mv (.tmp 6)), none, none⟩,
  ⟨some 48, .p (.bin .add (.tmp 47) (.const (.int .i64 1))), none, none⟩,
  ⟨some 9, .p (.mv (.tmp 48)), none, none⟩])
  (.block 2 (.loop [(1, .p), (5, .p), (6, .i .i64), (7, .i .i64), (9, .i .i64)] (.seq (.seq (.region [⟨some 49, .p (.mv (.tmp 9)), none, none⟩,
  ⟨some 50, .p (.fieldAddr 0 (.tmp 1)), none, none⟩,
  ⟨some 51, .l (.load (.i .i64) (.tmp 50)), none, none⟩,
  ⟨some 52, .p (.bin .lss (.tmp 49) (.tmp 51)), none, none⟩])
  (.cond (.tmp 52) (.skip) (.exit 2)))
  (.seq (.block 3 (.draw [⟨3, ⟨some 58, .l (.load (.agg 3) (.tmp 5)), none, some (.st [.i .i64, .i .i64, .l])⟩, [5], 0⟩,
  ⟨4, ⟨some 59, .p (.mv (.tmp 9)), none, none⟩, [9], 0⟩,
  ⟨5, ⟨some 60, .p (.mv (.tmp 7)), none, none⟩, [7], 0⟩,
  ⟨6, ⟨some 61, .e (.call (.func 71) [.tmp 58, .tmp 59, .tmp 60]), none, none⟩, [58, 59, 60], 0⟩,
  ⟨0, ⟨some 55, .l (.load (.agg 3) (.tmp 5)), none, some (.st [.i .i64, .i .i64, .l])⟩, [5], 1⟩,
  ⟨1, ⟨some 56, .p (.mv (.tmp 9)), none, none⟩, [9], 1⟩,
  ⟨2, ⟨some 57, .p (.mv (.tmp 6)), none, none⟩, [6], 1⟩,
  ⟨7, ⟨some 62, .e (.call (.func 76) [.tmp 55, .tmp 56, .tmp 57, .tmp 61]), none, none⟩, [55, 56, 57, 61], 0⟩]))
  (.region [⟨some 53, .p (.mv (.tmp 9)), none, none⟩,
  ⟨some 54, .p (.bin .add (.tmp 53) (.const (.int .i64 1))), none, none⟩,
  ⟨some 9, .p (.mv (.tmp 54)), none, none⟩])))))))
  (.region [⟨some 63, .p (.mv (.tmp 6)), none, none⟩,
  ⟨some 64, .p (.bin .add (.tmp 63) (.const (.int .i64 1))), none, none⟩,
  ⟨some 6, .p (.mv (.tmp 64)), none, none⟩]))))))))
  (.region [⟨some 27, .p (.mv (.tmp 7)), none, none⟩,
  ⟨some 28, .p (.bin .add (.tmp 27) (.const (.int .i64 1))), none, none⟩,
  ⟨some 7, .p (.mv (.tmp 28)), none, none⟩])))))))
  (.seq (.region [⟨some 65, .p (.mv (.tmp 6)), none, none⟩,
  ⟨some 2, .p (.mv (.tmp 65)), none, none⟩,
  ⟨some 3, .p (.mv (.const (.int .i64 0))), none, none⟩])
  (.ret))))))
noncomputable def e_ref04_Rank (k : Nat) (D : CallF) : Ent := entOf 52 [(0, .st [.i .i64, .i .i64, .l])] [(2, .i .i64), (3, .i .i64)] (ref04_Rank k D)
theorem q_ref04_Rank : (Try.f52.body).bind (rcodeOf Try.prog 0 Try.f52.ntmps) = some (strip r_ref04_Rank) := by kernel_rfl
theorem t_ref04_Rank (k : Nat) (D : CallF) : curF [(0, .st [.i .i64, .i .i64, .l])] (fun args h => denF (C_ref04_Rank k D) k r_ref04_Rank [(2, .i .i64), (3, .i .i64)] [none, none] args h) = ref04_Rank k D := by kernel_rfl
theorem ok_ref04_Rank {D : CallF} (hD : CSound Try.prog 0 D) (k : Nat) : EntOk Try.prog 0 (e_ref04_Rank k D) :=
  entOf_ok2 (mkC_sound hD (EntsOk.more (ok_ref04_Check hD k) (EntsOk.more (ok_ref04_copied hD k) (EntsOk.more (ok_ref04_M_lead hD k) (EntsOk.more (ok_ref04_M_swap hD k) (EntsOk.more (ok_ref04_M_At hD k) (EntsOk.more (ok_ref03_Over hD k) (EntsOk.more (ok_ref04_M_scale hD k) (EntsOk.more (ok_ref04_M_add hD k) (EntsOk.none)))))))))) Try.func52 rfl q_ref04_Rank rfl (t_ref04_Rank k D)
end Gy
namespace Gy
open Go Gx Go.Proofs
set_option maxRecDepth 100000
noncomputable def C_matrix_Turn (k : Nat) (D : CallF) : CallF := mkC D [e_matrix_Check k D, e_matrix_blank k D, e_matrix_M_row k D]
noncomputable def matrix_Turn_l1b (k : Nat) (D : CallF) (j40 : (Option Addr) → (Option Addr) → (Option Addr) → Int → Int → AHeap → Option (((Int × Int × Slc) × Int) × AHeap)) (rec55 : (Option Addr) → (Option Addr) → (Option Addr) → Int → Int → Int → Slc → Int → Int → AHeap → Option (((Int × Int × Slc) × Int) × AHeap)) (a45 : Option Addr) (y46 : Option Addr) (out47 : Option Addr) (i48 : Int) (y49 : Int) (y50 : Int) (y51 : Slc) (y52 : Int) (y53 : Int) (h54 : AHeap) : Option (((Int × Int × Slc) × Int) × AHeap) :=
  (if (decide (y53 < y52)) = true then
  (Gx.idxL 1 y51 y53).bind fun q56 =>
  (ldI .i64 q56 h54).bind fun x57 =>
  (out47).bind fun p58 =>
  (ldA 3 p58 h54).bind fun l59 =>
  (decC [.i .i64, .i .i64, .l] l59).bind fun x60 =>
  (matrix_M_row k D (x60.1, x60.2.1, x60.2.2) y53 h54).bind fun r61 =>
  (Gx.idxL 1 r61.1 i48).bind fun q62 =>
  (st1 q62 (.int .i64 x57) r61.2).bind fun h63 =>
  rec55 a45 y46 out47 i48 y49 y50 y51 y52 (IntKind.wrap .i64 (y53 + 1)) h63
  else
  j40 a45 y46 out47 y49 y50 h54)
noncomputable def matrix_Turn_l1 (k : Nat) (D : CallF) (j40 : (Option Addr) → (Option Addr) → (Option Addr) → Int → Int → AHeap → Option (((Int × Int × Slc) × Int) × AHeap)) : (Option Addr) → (Option Addr) → (Option Addr) → Int → Int → Int → Slc → Int → Int → AHeap → Option (((Int × Int × Slc) × Int) × AHeap) :=
  iterK (α := (Option Addr) → (Option Addr) → (Option Addr) → Int → Int → Int → Slc → Int → Int → AHeap → Option (((Int × Int × Slc) × Int) × AHeap)) (fun _ _ _ _ _ _ _ _ _ _ => none) k (matrix_Turn_l1b k D j40)
noncomputable def matrix_Turn_l0b (k : Nat) (D : CallF) (j17 : (Option Addr) → (Option Addr) → AHeap → Option (((Int × Int × Slc) × Int) × AHeap)) (rec33 : (Option Addr) → (Option Addr) → (Option Addr) → Int → Int → AHeap → Option (((Int × Int × Slc) × Int) × AHeap)) (a27 : Option Addr) (y28 : Option Addr) (out29 : Option Addr) (y30 : Int) (y31 : Int) (h32 : AHeap) : Option (((Int × Int × Slc) × Int) × AHeap) :=
  (if (decide (y31 < y30)) = true then
  joinK (fun (a34 : Option Addr) (y35 : Option Addr) (out36 : Option Addr) (y37 : Int) (y38 : Int) (h39 : AHeap) =>
  rec33 a34 y35 out36 y37 (IntKind.wrap .i64 (y38 + 1)) h39) fun j40 =>
  (a27).bind fun p41 =>
  (ldA 3 p41 h32).bind fun l42 =>
  (decC [.i .i64, .i .i64, .l] l42).bind fun x43 =>
  (matrix_M_row k D (x43.1, x43.2.1, x43.2.2) y31 h32).bind fun r44 =>
  matrix_Turn_l1 k D j40 a27 y28 out29 y31 y30 y31 r44.1 (r44.1.len : Int) 0 r44.2
  else
  j17 y28 out29 h32)
noncomputable def matrix_Turn_l0 (k : Nat) (D : CallF) (j17 : (Option Addr) → (Option Addr) → AHeap → Option (((Int × Int × Slc) × Int) × AHeap)) : (Option Addr) → (Option Addr) → (Option Addr) → Int → Int → AHeap → Option (((Int × Int × Slc) × Int) × AHeap) :=
  iterK (α := (Option Addr) → (Option Addr) → (Option Addr) → Int → Int → AHeap → Option (((Int × Int × Slc) × Int) × AHeap)) (fun _ _ _ _ _ _ => none) k (matrix_Turn_l0b k D j17)
noncomputable def matrix_Turn (k : Nat) (D : CallF) (a_0 : Int × Int × Slc) (h : AHeap) : Option (((Int × Int × Slc) × Int) × AHeap) :=
  let h1 := AHeap.new h (.cells [.int .i64 a_0.1, .int .i64 a_0.2.1, .slice a_0.2.2.a a_0.2.2.len a_0.2.2.cap] 51 true 0)
  let h2 := AHeap.new h1 (.cells [.int .i64 0, .int .i64 0, .slice none 0 0] 51 true 0)
  (ldA 3 (⟨h.next, 0, none⟩ : Addr) h2).bind fun l3 =>
  (decC [.i .i64, .i .i64, .l] l3).bind fun x4 =>
  (matrix_Check k D (x4.1, x4.2.1, x4.2.2) h2).bind fun r5 =>
  (if (r5.1 != 0) = true then
  (stL 3 (⟨h1.next, 0, none⟩ : Addr) ([.int .i64 0, .int .i64 0, .slice none 0 0]) r5.2).bind fun h6 =>
  (ldA 3 (⟨h1.next, 0, none⟩ : Addr) h6).bind fun l7 =>
  (decC [.i .i64, .i .i64, .l] l7).bind fun x8 =>
  some (((x8.1, x8.2.1, x8.2.2), r5.1), h6)
  else
  (ldI .i64 (⟨h.next, 1, none⟩ : Addr) r5.2).bind fun x9 =>
  (ldI .i64 (⟨h.next, 0, none⟩ : Addr) r5.2).bind fun x10 =>
  (matrix_blank k D x9 x10 r5.2).bind fun r11 =>
  let h12 := AHeap.new r11.2 (.cells [.int .i64 0, .int .i64 0, .slice none 0 0] 51 true 0)
  (stL 3 (⟨r11.2.next, 0, none⟩ : Addr) ([.int .i64 r11.1.1, .int .i64 r11.1.2.1, .slice r11.1.2.2.a r11.1.2.2.len r11.1.2.2.cap]) h12).bind fun h13 =>
  joinK (fun (y14 : Option Addr) (out15 : Option Addr) (h16 : AHeap) =>
  (out15).bind fun p18 =>
  (ldA 3 p18 h16).bind fun l19 =>
  (decC [.i .i64, .i .i64, .l] l19).bind fun x20 =>
  (y14).bind fun p21 =>
  (stL 3 p21 ([.int .i64 x20.1, .int .i64 x20.2.1, .slice x20.2.2.a x20.2.2.len x20.2.2.cap]) h16).bind fun h22 =>
  (y14).bind fun p23 =>
  (ldA 3 p23 h22).bind fun l24 =>
  (decC [.i .i64, .i .i64, .l] l24).bind fun x25 =>
  some (((x25.1, x25.2.1, x25.2.2), 0), h22)) fun j17 =>
  (ldI .i64 (⟨h.next, 0, none⟩ : Addr) h13).bind fun x26 =>
  matrix_Turn_l0 k D j17 (some (⟨h.next, 0, none⟩ : Addr)) (some (⟨h1.next, 0, none⟩ : Addr)) (some (⟨r11.2.next, 0, none⟩ : Addr)) x26 0 h13)
def r_matrix_Turn : RCode := .seq (.region [⟨some 1, .a (.box 51 (.tmp 0)), none, none⟩,
  ⟨some 2, .a (.alloc 51 [.int .i64 0, .int .i64 0, .slice none 0 0]), none, none⟩,
  ⟨some 3, .p (.mv (.const (.int .i64 0))), none, none⟩])
  (.seq (.seq (.region [⟨some 9, .l (.load (.agg 3) (.tmp 1)), none, some (.st [.i .i64, .i .i64, .l])⟩,
  ⟨some 10, .e (.call (.func 53) [.tmp 9]), none, none⟩,
  ⟨some 4, .p (.mv (.tmp 10)), none, none⟩])
  (.seq (.region [⟨some 11, .p (.mv (.tmp 4)), none, none⟩,
  ⟨some 12, .p (.bin .neq (.tmp 11) (.const (.int .i64 0))), none, none⟩])
  (.cond (.tmp 12) (.seq (.region [⟨some 13, .p (.build [.int .i64 0, .int .i64 0, .slice none 0 0] []), none, none⟩,
  ⟨some 14, .p (.mv (.tmp 4)), none, none⟩,
  ⟨none, .e (.store (some 3) (.tmp 2) (.tmp 13)), none, none⟩,
  ⟨some 3, .p (.mv (.tmp 14)), none, none⟩])
  (.ret)) (.skip))))
  (.seq (.region [⟨some 15, .p (.fieldAddr 1 (.tmp 1)), none, none⟩,
  ⟨some 16, .l (.load (.i .i64) (.tmp 15)), none, none⟩,
  ⟨some 17, .p (.fieldAddr 0 (.tmp 1)), none, none⟩,
  ⟨some 18, .l (.load (.i .i64) (.tmp 17)), none, none⟩,
  ⟨some 19, .e (.call (.func 65) [.tmp 16, .tmp 18]), none, none⟩,
  ⟨some 5, .a (.alloc 51 [.int .i64 0, .int .i64 0, .slice none 0 0]), none, none⟩,
  ⟨none, .e (.store (some 3) (.tmp 5) (.tmp 19)), none, none⟩])
  (.seq (.join [(2, .p), (5, .p)] (.seq (.region [⟨some 20, .p (.fieldAddr 0 (.tmp 1)), none, none⟩,
  ⟨some 21, .l (.load (.i .i64) (.tmp 20)), none, none⟩,
  ⟨some 22, .p (.mv (.const (.int .i64 0))), none, none⟩])
  (.block 0 (.loop [(1, .p), (2, .p), (5, .p), (21, .i .i64), (22, .i .i64)] (.seq (.region [⟨some 23, .p (.bin .lss (.tmp 22) (.tmp 21)), none, none⟩])
  (.seq (.cond (.tmp 23) (.skip) (.exit 0))
  (.seq (.join [(1, .p), (2, .p), (5, .p), (21, .i .i64), (22, .i .i64)] (.block 1 (.seq (.region [⟨some 24, .p (.mv (.tmp 22)), none, none⟩,
  ⟨some 6, .p (.mv (.tmp 24)), none, none⟩])
  (.seq (.region [⟨some 25, .l (.load (.agg 3) (.tmp 1)), none, some (.st [.i .i64, .i .i64, .l])⟩,
  ⟨some 26, .p (.mv (.tmp 6)), none, none⟩,
  ⟨some 27, .e (.call (.func 66) [.tmp 25, .tmp 26]), none, none⟩,
  ⟨some 28, .p (.lenL (.tmp 27)), none, none⟩,
  ⟨some 29, .p (.mv (.const (.int .i64 0))), none, none⟩])
  (.block 2 (.loop [(1, .p), (2, .p), (5, .p), (6, .i .i64), (21, .i .i64), (22, .i .i64), (27, .l), (28, .i .i64), (29, .i .i64)] (.seq (.region [⟨some 30, .p (.bin .lss (.tmp 29) (.tmp 28)), none, none⟩])
  (.seq (.cond (.tmp 30) (.skip) (.exit 2))
  (.seq (.block 3 (.seq (.region [⟨some 31, .p (.mv (.tmp 29)), none, none⟩,
  ⟨some 32, .p (.idxL 1 (.tmp 27) (.tmp 29)), none, none⟩,
  ⟨some 33, .l (.load (.i .i64) (.tmp 32)), none, none⟩,
  ⟨some 7, .p (.mv (.tmp 31)), none, none⟩,
  ⟨some 8, .p (.mv (.tmp 33)), none, none⟩])
  (.region [⟨some 34, .l (.load (.agg 3) (.tmp 5)), none, some (.st [.i .i64, .i .i64, .l])⟩,
  ⟨some 35, .p (.mv (.tmp 7)), none, none⟩,
  ⟨some 36, .e (.call (.func 66) [.tmp 34, .tmp 35]), none, none⟩,
  ⟨some 37, .p (.mv (.tmp 6)), none, none⟩,
  ⟨some 38, .p (.mv (.tmp 8)), none, none⟩,
  ⟨some 39, .p (.idxL 1 (.tmp 36) (.tmp 37)), none, none⟩,
  ⟨none, .e (.store none (.tmp 39) (.tmp 38)), none, none⟩])))
  (.region [⟨some 40, .p (.bin .add (.tmp 29) (.const (.int .i64 1))), none, none⟩,
  ⟨some 29, .p (.mv (.tmp 40)), none, none⟩]))))))))))
  (.region [⟨some 41, .p (.bin .add (.tmp 22) (.const (.int .i64 1))), none, none⟩,
  ⟨some 22, .p (.mv (.tmp 41)), none, none⟩]))))))))
  (.seq (.region [⟨some 42, .l (.load (.agg 3) (.tmp 5)), none, some (.st [.i .i64, .i .i64, .l])⟩,
  ⟨none, .e (.store (some 3) (.tmp 2) (.tmp 42)), none, none⟩,
  ⟨some 3, .p (.mv (.const (.int .i64 0))), none, none⟩])
  (.ret)))))
noncomputable def e_matrix_Turn (k : Nat) (D : CallF) : Ent := entOf 43 [(0, .st [.i .i64, .i .i64, .l])] [(2, .st [.i .i64, .i .i64, .l]), (3, .i .i64)] (matrix_Turn k D)
theorem q_matrix_Turn : (Try.f43.body).bind (rcodeOf Try.prog 0 Try.f43.ntmps) = some (strip r_matrix_Turn) := by kernel_rfl
theorem t_matrix_Turn (k : Nat) (D : CallF) : curF [(0, .st [.i .i64, .i .i64, .l])] (fun args h => denF (C_matrix_Turn k D) k r_matrix_Turn [(2, .st [.i .i64, .i .i64, .l]), (3, .i .i64)] [some (.agg 3), none] args h) = matrix_Turn k D := by kernel_rfl
theorem ok_matrix_Turn {D : CallF} (hD : CSound Try.prog 0 D) (k : Nat) : EntOk Try.prog 0 (e_matrix_Turn k D) :=
  entOf_ok2 (mkC_sound hD (EntsOk.more (ok_matrix_Check hD k) (EntsOk.more (ok_matrix_blank hD k) (EntsOk.more (ok_matrix_M_row hD k) (EntsOk.none))))) Try.func43 rfl q_matrix_Turn rfl (t_matrix_Turn k D)
end Gy
namespace Gy
open Go Gx Go.Proofs
set_option maxRecDepth 100000
noncomputable def C_ref04_Turn (k : Nat) (D : CallF) : CallF := mkC D [e_ref04_Check k D, e_ref04_zero k D, e_ref04_M_At k D]
noncomputable def ref04_Turn_l1b (k : Nat) (D : CallF) (j39 : (Option Addr) → (Option Addr) → (Option Addr) → Int → AHeap → Option (((Int × Int × Slc) × Int) × AHeap)) (rec46 : (Option Addr) → (Option Addr) → (Option Addr) → Int → Int → AHeap → Option (((Int × Int × Slc) × Int) × AHeap)) (a40 : Option Addr) (y41 : Option Addr) (out42 : Option Addr) (i43 : Int) (j44 : Int) (h45 : AHeap) : Option (((Int × Int × Slc) × Int) × AHeap) :=
  (a40).bind fun p47 =>
  (ldI .i64 (⟨p47.block, p47.off + 1, none⟩ : Addr) h45).bind fun x48 =>
  (if (decide (j44 < x48)) = true then
  (a40).bind fun p49 =>
  (ldA 3 p49 h45).bind fun l50 =>
  (decC [.i .i64, .i .i64, .l] l50).bind fun x51 =>
  (ref04_M_At k D (x51.1, x51.2.1, x51.2.2) i43 j44 h45).bind fun r52 =>
  (out42).bind fun p53 =>
  (ldL (⟨p53.block, p53.off + 2, none⟩ : Addr) r52.2).bind fun x54 =>
  guardP (SameW [h45] (fun H56 => (ldL (⟨p53.block, p53.off + 2, none⟩ : Addr) H56).bind fun y55 => some (.slice y55.a y55.len y55.cap)) (.slice x54.a x54.len x54.cap)) (
  (a40).bind fun p57 =>
  (ldI .i64 (⟨p57.block, p57.off + 0, none⟩ : Addr) r52.2).bind fun x58 =>
  guardP (SameW [h45] (fun H60 => (ldI .i64 (⟨p57.block, p57.off + 0, none⟩ : Addr) H60).bind fun y59 => some (.int .i64 y59)) (.int .i64 x58)) (
  (Gx.idxL 1 x54 (IntKind.wrap .i64 ((IntKind.wrap .i64 (j44 * x58)) + i43))).bind fun q61 =>
  (st1 q61 (.int .i64 r52.1) r52.2).bind fun h62 =>
  rec46 a40 y41 out42 i43 (IntKind.wrap .i64 (j44 + 1)) h62))
  else
  j39 a40 y41 out42 i43 h45)
noncomputable def ref04_Turn_l1 (k : Nat) (D : CallF) (j39 : (Option Addr) → (Option Addr) → (Option Addr) → Int → AHeap → Option (((Int × Int × Slc) × Int) × AHeap)) : (Option Addr) → (Option Addr) → (Option Addr) → Int → Int → AHeap → Option (((Int × Int × Slc) × Int) × AHeap) :=
  iterK (α := (Option Addr) → (Option Addr) → (Option Addr) → Int → Int → AHeap → Option (((Int × Int × Slc) × Int) × AHeap)) (fun _ _ _ _ _ _ => none) k (ref04_Turn_l1b k D j39)
noncomputable def ref04_Turn_l0b (k : Nat) (D : CallF) (j17 : (Option Addr) → (Option Addr) → AHeap → Option (((Int × Int × Slc) × Int) × AHeap)) (rec31 : (Option Addr) → (Option Addr) → (Option Addr) → Int → AHeap → Option (((Int × Int × Slc) × Int) × AHeap)) (a26 : Option Addr) (y27 : Option Addr) (out28 : Option Addr) (i29 : Int) (h30 : AHeap) : Option (((Int × Int × Slc) × Int) × AHeap) :=
  (a26).bind fun p32 =>
  (ldI .i64 (⟨p32.block, p32.off + 0, none⟩ : Addr) h30).bind fun x33 =>
  (if (decide (i29 < x33)) = true then
  joinK (fun (a34 : Option Addr) (y35 : Option Addr) (out36 : Option Addr) (i37 : Int) (h38 : AHeap) =>
  rec31 a34 y35 out36 (IntKind.wrap .i64 (i37 + 1)) h38) fun j39 =>
  ref04_Turn_l1 k D j39 a26 y27 out28 i29 0 h30
  else
  j17 y27 out28 h30)
noncomputable def ref04_Turn_l0 (k : Nat) (D : CallF) (j17 : (Option Addr) → (Option Addr) → AHeap → Option (((Int × Int × Slc) × Int) × AHeap)) : (Option Addr) → (Option Addr) → (Option Addr) → Int → AHeap → Option (((Int × Int × Slc) × Int) × AHeap) :=
  iterK (α := (Option Addr) → (Option Addr) → (Option Addr) → Int → AHeap → Option (((Int × Int × Slc) × Int) × AHeap)) (fun _ _ _ _ _ => none) k (ref04_Turn_l0b k D j17)
noncomputable def ref04_Turn (k : Nat) (D : CallF) (a_0 : Int × Int × Slc) (h : AHeap) : Option (((Int × Int × Slc) × Int) × AHeap) :=
  let h1 := AHeap.new h (.cells [.int .i64 a_0.1, .int .i64 a_0.2.1, .slice a_0.2.2.a a_0.2.2.len a_0.2.2.cap] 54 true 0)
  let h2 := AHeap.new h1 (.cells [.int .i64 0, .int .i64 0, .slice none 0 0] 54 true 0)
  (ldA 3 (⟨h.next, 0, none⟩ : Addr) h2).bind fun l3 =>
  (decC [.i .i64, .i .i64, .l] l3).bind fun x4 =>
  (ref04_Check k D (x4.1, x4.2.1, x4.2.2) h2).bind fun r5 =>
  (if (r5.1 != 0) = true then
  (stL 3 (⟨h1.next, 0, none⟩ : Addr) ([.int .i64 0, .int .i64 0, .slice none 0 0]) r5.2).bind fun h6 =>
  (ldA 3 (⟨h1.next, 0, none⟩ : Addr) h6).bind fun l7 =>
  (decC [.i .i64, .i .i64, .l] l7).bind fun x8 =>
  some (((x8.1, x8.2.1, x8.2.2), r5.1), h6)
  else
  (ldI .i64 (⟨h.next, 1, none⟩ : Addr) r5.2).bind fun x9 =>
  (ldI .i64 (⟨h.next, 0, none⟩ : Addr) r5.2).bind fun x10 =>
  (ref04_zero k D x9 x10 r5.2).bind fun r11 =>
  let h12 := AHeap.new r11.2 (.cells [.int .i64 0, .int .i64 0, .slice none 0 0] 54 true 0)
  (stL 3 (⟨r11.2.next, 0, none⟩ : Addr) ([.int .i64 r11.1.1, .int .i64 r11.1.2.1, .slice r11.1.2.2.a r11.1.2.2.len r11.1.2.2.cap]) h12).bind fun h13 =>
  joinK (fun (y14 : Option Addr) (out15 : Option Addr) (h16 : AHeap) =>
  (out15).bind fun p18 =>
  (ldA 3 p18 h16).bind fun l19 =>
  (decC [.i .i64, .i .i64, .l] l19).bind fun x20 =>
  (y14).bind fun p21 =>
  (stL 3 p21 ([.int .i64 x20.1, .int .i64 x20.2.1, .slice x20.2.2.a x20.2.2.len x20.2.2.cap]) h16).bind fun h22 =>
  (y14).bind fun p23 =>
  (ldA 3 p23 h22).bind fun l24 =>
  (decC [.i .i64, .i .i64, .l] l24).bind fun x25 =>
  some (((x25.1, x25.2.1, x25.2.2), 0), h22)) fun j17 =>
  ref04_Turn_l0 k D j17 (some (⟨h.next, 0, none⟩ : Addr)) (some (⟨h1.next, 0, none⟩ : Addr)) (some (⟨r11.2.next, 0, none⟩ : Addr)) 0 h13)
def r_ref04_Turn : RCode := .seq (.region [⟨some 1, .a (.box 54 (.tmp 0)), none, none⟩,
  ⟨some 2, .a (.alloc 54 [.int .i64 0, .int .i64 0, .slice none 0 0]), none, none⟩,
  ⟨some 3, .p (.mv (.const (.int .i64 0))), none, none⟩])
  (.seq (.seq (.region [⟨some 8, .l (.load (.agg 3) (.tmp 1)), none, some (.st [.i .i64, .i .i64, .l])⟩,
  ⟨some 9, .e (.call (.func 54) [.tmp 8]), none, none⟩,
  ⟨some 4, .p (.mv (.tmp 9)), none, none⟩])
  (.seq (.region [⟨some 10, .p (.mv (.tmp 4)), none, none⟩,
  ⟨some 11, .p (.bin .neq (.tmp 10) (.const (.int .i64 0))), none, none⟩])
  (.cond (.tmp 11) (.seq (.region [⟨some 12, .p (.build [.int .i64 0, .int .i64 0, .slice none 0 0] []), none, none⟩,
  ⟨some 13, .p (.mv (.tmp 4)), none, none⟩,
  ⟨none, .e (.store (some 3) (.tmp 2) (.tmp 12)), none, none⟩,
  ⟨some 3, .p (.mv (.tmp 13)), none, none⟩])
  (.ret)) (.skip))))
  (.seq (.region [⟨some 14, .p (.fieldAddr 1 (.tmp 1)), none, none⟩,
  ⟨some 15, .l (.load (.i .i64) (.tmp 14)), none, none⟩,
  ⟨some 16, .p (.fieldAddr 0 (.tmp 1)), none, none⟩,
  ⟨some 17, .l (.load (.i .i64) (.tmp 16)), none, none⟩,
  ⟨some 18, .e (.call (.func 67) [.tmp 15, .tmp 17]), none, none⟩,
  ⟨some 5, .a (.alloc 54 [.int .i64 0, .int .i64 0, .slice none 0 0]), none, none⟩,
  ⟨none, .e (.store (some 3) (.tmp 5) (.tmp 18)), none, none⟩])
  (.seq (.join [(2, .p), (5, .p)] (.seq (.region [⟨some 6, .p (.mv (.const (.int .i64 0))), none, none⟩])
  (.block 0 (.loop [(1, .p), (2, .p), (5, .p), (6, .i .i64)] (.seq (.seq (.region [⟨some 19, .p (.mv (.tmp 6)), none, none⟩,
  ⟨some 20, .p (.fieldAddr 0 (.tmp 1)), none, none⟩,
  ⟨some 21, .l (.load (.i .i64) (.tmp 20)), none, none⟩,
  ⟨some 22, .p (.bin .lss (.tmp 19) (.tmp 21)), none, none⟩])
  (.cond (.tmp 22) (.skip) (.exit 0)))
  (.seq (.join [(1, .p), (2, .p), (5, .p), (6, .i .i64)] (.block 1 (.seq (.region [⟨some 7, .p (.mv (.const (.int .i64 0))), none, none⟩])
  (.block 2 (.loop [(1, .p), (2, .p), (5, .p), (6, .i .i64), (7, .i .i64)] (.seq (.seq (.region [⟨some 25, .p (.mv (.tmp 7)), none, none⟩,
  ⟨some 26, .p (.fieldAddr 1 (.tmp 1)), none, none⟩,
  ⟨some 27, .l (.load (.i .i64) (.tmp 26)), none, none⟩,
  ⟨some 28, .p (.bin .lss (.tmp 25) (.tmp 27)), none, none⟩])
  (.cond (.tmp 28) (.skip) (.exit 2)))
  (.seq (.block 3 (.draw [⟨8, ⟨some 39, .l (.load (.agg 3) (.tmp 1)), none, some (.st [.i .i64, .i .i64, .l])⟩, [1], 0⟩,
  ⟨9, ⟨some 40, .p (.mv (.tmp 6)), none, none⟩, [6], 0⟩,
  ⟨10, ⟨some 41, .p (.mv (.tmp 7)), none, none⟩, [7], 0⟩,
  ⟨11, ⟨some 42, .e (.call (.func 71) [.tmp 39, .tmp 40, .tmp 41]), none, none⟩, [39, 40, 41], 0⟩,
  ⟨0, ⟨some 31, .p (.fieldAddr 2 (.tmp 5)), none, none⟩, [5], 1⟩,
  ⟨1, ⟨some 32, .l (.load (.l) (.tmp 31)), none, none⟩, [31], 1⟩,
  ⟨2, ⟨some 33, .p (.mv (.tmp 7)), none, none⟩, [7], 1⟩,
  ⟨3, ⟨some 34, .p (.fieldAddr 0 (.tmp 1)), none, none⟩, [1], 1⟩,
  ⟨4, ⟨some 35, .l (.load (.i .i64) (.tmp 34)), none, none⟩, [34], 1⟩,
  ⟨5, ⟨some 36, .p (.bin .mul (.tmp 33) (.tmp 35)), none, none⟩, [33, 35], 1⟩,
  ⟨6, ⟨some 37, .p (.mv (.tmp 6)), none, none⟩, [6], 1⟩,
  ⟨7, ⟨some 38, .p (.bin .add (.tmp 36) (.tmp 37)), none, none⟩, [36, 37], 1⟩,
  ⟨12, ⟨some 43, .p (.idxL 1 (.tmp 32) (.tmp 38)), none, none⟩, [32, 38], 0⟩,
  ⟨13, ⟨none, .e (.store none (.tmp 43) (.tmp 42)), none, none⟩, [43, 42], 0⟩]))
  (.region [⟨some 29, .p (.mv (.tmp 7)), none, none⟩,
  ⟨some 30, .p (.bin .add (.tmp 29) (.const (.int .i64 1))), none, none⟩,
  ⟨some 7, .p (.mv (.tmp 30)), none, none⟩]))))))))
  (.region [⟨some 23, .p (.mv (.tmp 6)), none, none⟩,
  ⟨some 24, .p (.bin .add (.tmp 23) (.const (.int .i64 1))), none, none⟩,
  ⟨some 6, .p (.mv (.tmp 24)), none, none⟩])))))))
  (.seq (.region [⟨some 44, .l (.load (.agg 3) (.tmp 5)), none, some (.st [.i .i64, .i .i64, .l])⟩,
  ⟨none, .e (.store (some 3) (.tmp 2) (.tmp 44)), none, none⟩,
  ⟨some 3, .p (.mv (.const (.int .i64 0))), none, none⟩])
  (.ret)))))
noncomputable def e_ref04_Turn (k : Nat) (D : CallF) : Ent := entOf 55 [(0, .st [.i .i64, .i .i64, .l])] [(2, .st [.i .i64, .i .i64, .l]), (3, .i .i64)] (ref04_Turn k D)
theorem q_ref04_Turn : (Try.f55.body).bind (rcodeOf Try.prog 0 Try.f55.ntmps) = some (strip r_ref04_Turn) := by kernel_rfl
theorem t_ref04_Turn (k : Nat) (D : CallF) : curF [(0, .st [.i .i64, .i .i64, .l])] (fun args h => denF (C_ref04_Turn k D) k r_ref04_Turn [(2, .st [.i .i64, .i .i64, .l]), (3, .i .i64)] [some (.agg 3), none] args h) = ref04_Turn k D := by kernel_rfl
theorem ok_ref04_Turn {D : CallF} (hD : CSound Try.prog 0 D) (k : Nat) : EntOk Try.prog 0 (e_ref04_Turn k D) :=
  entOf_ok2 (mkC_sound hD (EntsOk.more (ok_ref04_Check hD k) (EntsOk.more (ok_ref04_zero hD k) (EntsOk.more (ok_ref04_M_At hD k) (EntsOk.none))))) Try.func55 rfl q_ref04_Turn rfl (t_ref04_Turn k D)
end Gy
namespace Gy
open Go Gx Go.Proofs
set_option maxRecDepth 100000
noncomputable def C_matrix_Pick (k : Nat) (D : CallF) : CallF := mkC D [e_matrix_Check k D, e_matrix_M_row k D]
noncomputable def matrix_Pick_l0b (k : Nat) (D : CallF) (j27 : (Option Addr) → (Option Addr) → AHeap → Option (((Int × Int × Slc) × Int) × AHeap)) (rec43 : (Option Addr) → (Option Addr) → (Option Addr) → Slc → Int → Int → AHeap → Option (((Int × Int × Slc) × Int) × AHeap)) (a36 : Option Addr) (y37 : Option Addr) (out38 : Option Addr) (y39 : Slc) (y40 : Int) (y41 : Int) (h42 : AHeap) : Option (((Int × Int × Slc) × Int) × AHeap) :=
  (if (decide (y41 < y40)) = true then
  (Gx.idxL 1 y39 y41).bind fun q44 =>
  (ldI .i64 q44 h42).bind fun x45 =>
  joinK (fun (a46 : Option Addr) (y47 : Option Addr) (out48 : Option Addr) (i49 : Int) (y50 : Slc) (y51 : Int) (y52 : Int) (y53 : Bool) (h54 : AHeap) =>
  (if y53 = true then
  (y47).bind fun p56 =>
  (stL 3 p56 ([.int .i64 0, .int .i64 0, .slice none 0 0]) h54).bind fun h57 =>
  (y47).bind fun p58 =>
  (ldA 3 p58 h57).bind fun l59 =>
  (decC [.i .i64, .i .i64, .l] l59).bind fun x60 =>
  some (((x60.1, x60.2.1, x60.2.2), 1), h57)
  else
  (a46).bind fun p61 =>
  (ldA 3 p61 h54).bind fun l62 =>
  (decC [.i .i64, .i .i64, .l] l62).bind fun x63 =>
  (matrix_M_row k D (x63.1, x63.2.1, x63.2.2) i49 h54).bind fun r64 =>
  (out48).bind fun p65 =>
  (ldL (⟨p65.block, p65.off + 2, none⟩ : Addr) r64.2).bind fun x66 =>
  guardP (SameW [h54] (fun H68 => (ldL (⟨p65.block, p65.off + 2, none⟩ : Addr) H68).bind fun y67 => some (.slice y67.a y67.len y67.cap)) (.slice x66.a x66.len x66.cap)) (
  (rdS 1 r64.1 r64.2).bind fun n70 =>
  (appendA 1 8 3 r64.2 x66 n70 r64.1.len).bind fun r69 =>
  (out48).bind fun p71 =>
  (st1 (⟨p71.block, p71.off + 2, none⟩ : Addr) (.slice r69.1.a r69.1.len r69.1.cap) r69.2).bind fun h72 =>
  rec43 a46 y47 out48 y50 y51 (IntKind.wrap .i64 (y52 + 1)) h72))) fun j55 =>
  (if (decide (x45 < 0)) = true then
  j55 a36 y37 out38 x45 y39 y40 y41 true h42
  else
  (a36).bind fun p73 =>
  (ldI .i64 (⟨p73.block, p73.off + 0, none⟩ : Addr) h42).bind fun x74 =>
  j55 a36 y37 out38 x45 y39 y40 y41 (decide (x45 ≥ x74)) h42)
  else
  j27 y37 out38 h42)
noncomputable def matrix_Pick_l0 (k : Nat) (D : CallF) (j27 : (Option Addr) → (Option Addr) → AHeap → Option (((Int × Int × Slc) × Int) × AHeap)) : (Option Addr) → (Option Addr) → (Option Addr) → Slc → Int → Int → AHeap → Option (((Int × Int × Slc) × Int) × AHeap) :=
  iterK (α := (Option Addr) → (Option Addr) → (Option Addr) → Slc → Int → Int → AHeap → Option (((Int × Int × Slc) × Int) × AHeap)) (fun _ _ _ _ _ _ _ => none) k (matrix_Pick_l0b k D j27)
noncomputable def matrix_Pick (k : Nat) (D : CallF) (a_0 : Int × Int × Slc) (rows_1 : Slc) (h : AHeap) : Option (((Int × Int × Slc) × Int) × AHeap) :=
  let h1 := AHeap.new h (.cells [.int .i64 a_0.1, .int .i64 a_0.2.1, .slice a_0.2.2.a a_0.2.2.len a_0.2.2.cap] 51 true 0)
  let h2 := AHeap.new h1 (.cells [.int .i64 0, .int .i64 0, .slice none 0 0] 51 true 0)
  (ldA 3 (⟨h.next, 0, none⟩ : Addr) h2).bind fun l3 =>
  (decC [.i .i64, .i .i64, .l] l3).bind fun x4 =>
  (matrix_Check k D (x4.1, x4.2.1, x4.2.2) h2).bind fun r5 =>
  (if (r5.1 != 0) = true then
  (stL 3 (⟨h1.next, 0, none⟩ : Addr) ([.int .i64 0, .int .i64 0, .slice none 0 0]) r5.2).bind fun h6 =>
  (ldA 3 (⟨h1.next, 0, none⟩ : Addr) h6).bind fun l7 =>
  (decC [.i .i64, .i .i64, .l] l7).bind fun x8 =>
  some (((x8.1, x8.2.1, x8.2.2), r5.1), h6)
  else
  joinK (fun (rows9 : Slc) (a10 : Option Addr) (y11 : Option Addr) (y12 : Bool) (h13 : AHeap) =>
  (if y12 = true then
  (y11).bind fun p15 =>
  (stL 3 p15 ([.int .i64 0, .int .i64 0, .slice none 0 0]) h13).bind fun h16 =>
  (y11).bind fun p17 =>
  (ldA 3 p17 h16).bind fun l18 =>
  (decC [.i .i64, .i .i64, .l] l18).bind fun x19 =>
  some (((x19.1, x19.2.1, x19.2.2), 1), h16)
  else
  (a10).bind fun p20 =>
  (ldI .i64 (⟨p20.block, p20.off + 1, none⟩ : Addr) h13).bind fun x21 =>
  let h22 := AHeap.new h13 (.cells [.int .i64 0, .int .i64 0, .slice none 0 0] 51 true 0)
  (stL 3 (⟨h13.next, 0, none⟩ : Addr) ([.int .i64 (rows9.len : Int), .int .i64 x21, .slice none 0 0]) h22).bind fun h23 =>
  joinK (fun (y24 : Option Addr) (out25 : Option Addr) (h26 : AHeap) =>
  (out25).bind fun p28 =>
  (ldA 3 p28 h26).bind fun l29 =>
  (decC [.i .i64, .i .i64, .l] l29).bind fun x30 =>
  (y24).bind fun p31 =>
  (stL 3 p31 ([.int .i64 x30.1, .int .i64 x30.2.1, .slice x30.2.2.a x30.2.2.len x30.2.2.cap]) h26).bind fun h32 =>
  (y24).bind fun p33 =>
  (ldA 3 p33 h32).bind fun l34 =>
  (decC [.i .i64, .i .i64, .l] l34).bind fun x35 =>
  some (((x35.1, x35.2.1, x35.2.2), 0), h32)) fun j27 =>
  matrix_Pick_l0 k D j27 a10 y11 (some (⟨h13.next, 0, none⟩ : Addr)) rows9 (rows9.len : Int) 0 h23)) fun j14 =>
  (if ((rows_1.len : Int) == 0) = true then
  j14 rows_1 (some (⟨h.next, 0, none⟩ : Addr)) (some (⟨h1.next, 0, none⟩ : Addr)) true r5.2
  else
  j14 rows_1 (some (⟨h.next, 0, none⟩ : Addr)) (some (⟨h1.next, 0, none⟩ : Addr)) (decide ((rows_1.len : Int) > 255)) r5.2))
def r_matrix_Pick : RCode := .seq (.region [⟨some 2, .a (.box 51 (.tmp 0)), none, none⟩,
  ⟨some 4, .a (.alloc 51 [.int .i64 0, .int .i64 0, .slice none 0 0]), none, none⟩,
  ⟨some 5, .p (.mv (.const (.int .i64 0))), none, none⟩])
  (.seq (.seq (.region [⟨some 10, .l (.load (.agg 3) (.tmp 2)), none, some (.st [.i .i64, .i .i64, .l])⟩,
  ⟨some 11, .e (.call (.func 53) [.tmp 10]), none, none⟩,
  ⟨some 6, .p (.mv (.tmp 11)), none, none⟩])
  (.seq (.region [⟨some 12, .p (.mv (.tmp 6)), none, none⟩,
  ⟨some 13, .p (.bin .neq (.tmp 12) (.const (.int .i64 0))), none, none⟩])
  (.cond (.tmp 13) (.seq (.region [⟨some 14, .p (.build [.int .i64 0, .int .i64 0, .slice none 0 0] []), none, none⟩,
  ⟨some 15, .p (.mv (.tmp 6)), none, none⟩,
  ⟨none, .e (.store (some 3) (.tmp 4) (.tmp 14)), none, none⟩,
  ⟨some 5, .p (.mv (.tmp 15)), none, none⟩])
  (.ret)) (.skip))))
  (.seq (.seq (.join [(1, .l), (2, .p), (4, .p), (23, .b)] (.region [⟨some 16, .p (.mv (.tmp 1)), none, none⟩,
  ⟨some 17, .p (.lenL (.tmp 16)), none, none⟩,
  ⟨some 18, .p (.bin .eql (.tmp 17) (.const (.int .i64 0))), none, none⟩,
  ⟨some 19, .p (.mv (.tmp 18)), none, none⟩,
  ⟨some 20, .p (.mv (.tmp 1)), (some (19, false)), none⟩,
  ⟨some 21, .p (.lenL (.tmp 20)), (some (19, false)), none⟩,
  ⟨some 22, .p (.bin .gtr (.tmp 21) (.const (.int .i64 255))), (some (19, false)), none⟩,
  ⟨some 23, .p (.pick (.tmp 19) (.const (.bool true)) (.tmp 22)), none, none⟩]))
  (.cond (.tmp 23) (.seq (.region [⟨some 24, .p (.build [.int .i64 0, .int .i64 0, .slice none 0 0] []), none, none⟩,
  ⟨none, .e (.store (some 3) (.tmp 4) (.tmp 24)), none, none⟩,
  ⟨some 5, .p (.mv (.const (.int .i64 1))), none, none⟩])
  (.ret)) (.skip)))
  (.seq (.region [⟨some 25, .p (.mv (.tmp 1)), none, none⟩,
  ⟨some 26, .p (.lenL (.tmp 25)), none, none⟩,
  ⟨some 27, .p (.fieldAddr 1 (.tmp 2)), none, none⟩,
  ⟨some 28, .l (.load (.i .i64) (.tmp 27)), none, none⟩,
  ⟨some 29, .p (.build [.int .i64 0, .int .i64 0, .slice none 0 0] [(0, 1, .tmp 26), (1, 1, .tmp 28)]), none, none⟩,
  ⟨some 7, .a (.alloc 51 [.int .i64 0, .int .i64 0, .slice none 0 0]), none, none⟩,
  ⟨none, .e (.store (some 3) (.tmp 7) (.tmp 29)), none, none⟩])
  (.seq (.join [(4, .p), (7, .p)] (.seq (.region [⟨some 30, .p (.mv (.tmp 1)), none, none⟩,
  ⟨some 31, .p (.lenL (.tmp 30)), none, none⟩,
  ⟨some 32, .p (.mv (.const (.int .i64 0))), none, none⟩])
  (.block 0 (.loop [(2, .p), (4, .p), (7, .p), (30, .l), (31, .i .i64), (32, .i .i64)] (.seq (.region [⟨some 33, .p (.bin .lss (.tmp 32) (.tmp 31)), none, none⟩])
  (.seq (.cond (.tmp 33) (.skip) (.exit 0))
  (.seq (.block 1 (.seq (.region [⟨some 34, .p (.idxL 1 (.tmp 30) (.tmp 32)), none, none⟩,
  ⟨some 35, .l (.load (.i .i64) (.tmp 34)), none, none⟩,
  ⟨some 9, .p (.mv (.tmp 35)), none, none⟩])
  (.seq (.seq (.join [(2, .p), (4, .p), (7, .p), (9, .i .i64), (30, .l), (31, .i .i64), (32, .i .i64), (43, .b)] (.region [⟨some 36, .p (.mv (.tmp 9)), none, none⟩,
  ⟨some 37, .p (.bin .lss (.tmp 36) (.const (.int .i64 0))), none, none⟩,
  ⟨some 38, .p (.mv (.tmp 37)), none, none⟩,
  ⟨some 39, .p (.mv (.tmp 9)), (some (38, false)), none⟩,
  ⟨some 40, .p (.fieldAddr 0 (.tmp 2)), (some (38, false)), none⟩,
  ⟨some 41, .l (.load (.i .i64) (.tmp 40)), (some (38, false)), none⟩,
  ⟨some 42, .p (.bin .geq (.tmp 39) (.tmp 41)), (some (38, false)), none⟩,
  ⟨some 43, .p (.pick (.tmp 38) (.const (.bool true)) (.tmp 42)), none, none⟩]))
  (.cond (.tmp 43) (.seq (.region [⟨some 44, .p (.build [.int .i64 0, .int .i64 0, .slice none 0 0] []), none, none⟩,
  ⟨none, .e (.store (some 3) (.tmp 4) (.tmp 44)), none, none⟩,
  ⟨some 5, .p (.mv (.const (.int .i64 1))), none, none⟩])
  (.ret)) (.skip)))
  (.draw [⟨2, ⟨some 47, .l (.load (.agg 3) (.tmp 2)), none, some (.st [.i .i64, .i .i64, .l])⟩, [2], 0⟩,
  ⟨3, ⟨some 48, .p (.mv (.tmp 9)), none, none⟩, [9], 0⟩,
  ⟨4, ⟨some 49, .e (.call (.func 66) [.tmp 47, .tmp 48]), none, none⟩, [47, 48], 0⟩,
  ⟨0, ⟨some 45, .p (.fieldAddr 2 (.tmp 7)), none, none⟩, [7], 1⟩,
  ⟨1, ⟨some 46, .l (.load (.l) (.tmp 45)), none, none⟩, [45], 1⟩,
  ⟨5, ⟨some 50, .e (.append 1 8 3 [.int .i64 0] .slice (.tmp 46) (.tmp 49)), none, none⟩, [46, 49], 0⟩,
  ⟨6, ⟨some 51, .p (.fieldAddr 2 (.tmp 7)), none, none⟩, [7], 0⟩,
  ⟨7, ⟨none, .e (.store none (.tmp 51) (.tmp 50)), none, none⟩, [51, 50], 0⟩]))))
  (.region [⟨some 52, .p (.bin .add (.tmp 32) (.const (.int .i64 1))), none, none⟩,
  ⟨some 32, .p (.mv (.tmp 52)), none, none⟩]))))))))
  (.seq (.region [⟨some 53, .l (.load (.agg 3) (.tmp 7)), none, some (.st [.i .i64, .i .i64, .l])⟩,
  ⟨none, .e (.store (some 3) (.tmp 4) (.tmp 53)), none, none⟩,
  ⟨some 5, .p (.mv (.const (.int .i64 0))), none, none⟩])
  (.ret))))))
noncomputable def e_matrix_Pick (k : Nat) (D : CallF) : Ent := entOf 47 [(0, .st [.i .i64, .i .i64, .l]), (1, .l)] [(4, .st [.i .i64, .i .i64, .l]), (5, .i .i64)] (matrix_Pick k D)
theorem q_matrix_Pick : (Try.f47.body).bind (rcodeOf Try.prog 0 Try.f47.ntmps) = some (strip r_matrix_Pick) := by kernel_rfl
theorem t_matrix_Pick (k : Nat) (D : CallF) : curF [(0, .st [.i .i64, .i .i64, .l]), (1, .l)] (fun args h => denF (C_matrix_Pick k D) k r_matrix_Pick [(4, .st [.i .i64, .i .i64, .l]), (5, .i .i64)] [some (.agg 3), none] args h) = matrix_Pick k D := by kernel_rfl
theorem ok_matrix_Pick {D : CallF} (hD : CSound Try.prog 0 D) (k : Nat) : EntOk Try.prog 0 (e_matrix_Pick k D) :=
  entOf_ok2 (mkC_sound hD (EntsOk.more (ok_matrix_Check hD k) (EntsOk.more (ok_matrix_M_row hD k) (EntsOk.none)))) Try.func47 rfl q_matrix_Pick rfl (t_matrix_Pick k D)
end Gy
namespace Gy
open Go Gx Go.Proofs
set_option maxRecDepth 100000
noncomputable def C_ref04_Pick (k : Nat) (D : CallF) : CallF := mkC D [e_ref04_Check k D, e_ref04_zero k D, e_ref04_M_At k D]
noncomputable def ref04_Pick_l2b (_k : Nat) (_D : CallF) (j24 : Slc → (Option Addr) → (Option Addr) → AHeap → Option (((Int × Int × Slc) × Int) × AHeap)) (rec87 : Slc → (Option Addr) → (Option Addr) → Int → AHeap → Option (((Int × Int × Slc) × Int) × AHeap)) (rows82 : Slc) (a83 : Option Addr) (y84 : Option Addr) (i85 : Int) (h86 : AHeap) : Option (((Int × Int × Slc) × Int) × AHeap) :=
  (if (decide (i85 < (rows82.len : Int))) = true then
  joinK (fun (rows88 : Slc) (a89 : Option Addr) (y90 : Option Addr) (i91 : Int) (y92 : Bool) (h93 : AHeap) =>
  (if y92 = true then
  (y90).bind fun p95 =>
  (stL 3 p95 ([.int .i64 0, .int .i64 0, .slice none 0 0]) h93).bind fun h96 =>
  (y90).bind fun p97 =>
  (ldA 3 p97 h96).bind fun l98 =>
  (decC [.i .i64, .i .i64, .l] l98).bind fun x99 =>
  some (((x99.1, x99.2.1, x99.2.2), 1), h96)
  else
  rec87 rows88 a89 y90 (IntKind.wrap .i64 (i91 + 1)) h93)) fun j94 =>
  (Gx.idxL 1 rows82 i85).bind fun q100 =>
  (ldI .i64 q100 h86).bind fun x101 =>
  (if (decide (x101 < 0)) = true then
  j94 rows82 a83 y84 i85 true h86
  else
  (Gx.idxL 1 rows82 i85).bind fun q102 =>
  (ldI .i64 q102 h86).bind fun x103 =>
  (a83).bind fun p104 =>
  (ldI .i64 (⟨p104.block, p104.off + 0, none⟩ : Addr) h86).bind fun x105 =>
  j94 rows82 a83 y84 i85 (decide (x103 ≥ x105)) h86)
  else
  j24 rows82 a83 y84 h86)
noncomputable def ref04_Pick_l2 (k : Nat) (D : CallF) (j24 : Slc → (Option Addr) → (Option Addr) → AHeap → Option (((Int × Int × Slc) × Int) × AHeap)) : Slc → (Option Addr) → (Option Addr) → Int → AHeap → Option (((Int × Int × Slc) × Int) × AHeap) :=
  iterK (α := Slc → (Option Addr) → (Option Addr) → Int → AHeap → Option (((Int × Int × Slc) × Int) × AHeap)) (fun _ _ _ _ _ => none) k (ref04_Pick_l2b k D j24)
noncomputable def ref04_Pick_l1b (k : Nat) (D : CallF) (j55 : Slc → (Option Addr) → (Option Addr) → (Option Addr) → Int → AHeap → Option (((Int × Int × Slc) × Int) × AHeap)) (rec63 : Slc → (Option Addr) → (Option Addr) → (Option Addr) → Int → Int → AHeap → Option (((Int × Int × Slc) × Int) × AHeap)) (rows56 : Slc) (a57 : Option Addr) (y58 : Option Addr) (out59 : Option Addr) (i60 : Int) (j61 : Int) (h62 : AHeap) : Option (((Int × Int × Slc) × Int) × AHeap) :=
  (a57).bind fun p64 =>
  (ldI .i64 (⟨p64.block, p64.off + 1, none⟩ : Addr) h62).bind fun x65 =>
  (if (decide (j61 < x65)) = true then
  (a57).bind fun p66 =>
  (ldA 3 p66 h62).bind fun l67 =>
  (decC [.i .i64, .i .i64, .l] l67).bind fun x68 =>
  (Gx.idxL 1 rows56 i60).bind fun q69 =>
  (ldI .i64 q69 h62).bind fun x70 =>
  (ref04_M_At k D (x68.1, x68.2.1, x68.2.2) x70 j61 h62).bind fun r71 =>
  (out59).bind fun p72 =>
  (ldL (⟨p72.block, p72.off + 2, none⟩ : Addr) r71.2).bind fun x73 =>
  guardP (SameW [h62] (fun H75 => (ldL (⟨p72.block, p72.off + 2, none⟩ : Addr) H75).bind fun y74 => some (.slice y74.a y74.len y74.cap)) (.slice x73.a x73.len x73.cap)) (
  (a57).bind fun p76 =>
  (ldI .i64 (⟨p76.block, p76.off + 1, none⟩ : Addr) r71.2).bind fun x77 =>
  guardP (SameW [h62] (fun H79 => (ldI .i64 (⟨p76.block, p76.off + 1, none⟩ : Addr) H79).bind fun y78 => some (.int .i64 y78)) (.int .i64 x77)) (
  (Gx.idxL 1 x73 (IntKind.wrap .i64 ((IntKind.wrap .i64 (i60 * x77)) + j61))).bind fun q80 =>
  (st1 q80 (.int .i64 r71.1) r71.2).bind fun h81 =>
  rec63 rows56 a57 y58 out59 i60 (IntKind.wrap .i64 (j61 + 1)) h81))
  else
  j55 rows56 a57 y58 out59 i60 h62)
noncomputable def ref04_Pick_l1 (k : Nat) (D : CallF) (j55 : Slc → (Option Addr) → (Option Addr) → (Option Addr) → Int → AHeap → Option (((Int × Int × Slc) × Int) × AHeap)) : Slc → (Option Addr) → (Option Addr) → (Option Addr) → Int → Int → AHeap → Option (((Int × Int × Slc) × Int) × AHeap) :=
  iterK (α := Slc → (Option Addr) → (Option Addr) → (Option Addr) → Int → Int → AHeap → Option (((Int × Int × Slc) × Int) × AHeap)) (fun _ _ _ _ _ _ _ => none) k (ref04_Pick_l1b k D j55)
noncomputable def ref04_Pick_l0b (k : Nat) (D : CallF) (j33 : (Option Addr) → (Option Addr) → AHeap → Option (((Int × Int × Slc) × Int) × AHeap)) (rec48 : Slc → (Option Addr) → (Option Addr) → (Option Addr) → Int → AHeap → Option (((Int × Int × Slc) × Int) × AHeap)) (rows42 : Slc) (a43 : Option Addr) (y44 : Option Addr) (out45 : Option Addr) (i46 : Int) (h47 : AHeap) : Option (((Int × Int × Slc) × Int) × AHeap) :=
  (if (decide (i46 < (rows42.len : Int))) = true then
  joinK (fun (rows49 : Slc) (a50 : Option Addr) (y51 : Option Addr) (out52 : Option Addr) (i53 : Int) (h54 : AHeap) =>
  rec48 rows49 a50 y51 out52 (IntKind.wrap .i64 (i53 + 1)) h54) fun j55 =>
  ref04_Pick_l1 k D j55 rows42 a43 y44 out45 i46 0 h47
  else
  j33 y44 out45 h47)
noncomputable def ref04_Pick_l0 (k : Nat) (D : CallF) (j33 : (Option Addr) → (Option Addr) → AHeap → Option (((Int × Int × Slc) × Int) × AHeap)) : Slc → (Option Addr) → (Option Addr) → (Option Addr) → Int → AHeap → Option (((Int × Int × Slc) × Int) × AHeap) :=
  iterK (α := Slc → (Option Addr) → (Option Addr) → (Option Addr) → Int → AHeap → Option (((Int × Int × Slc) × Int) × AHeap)) (fun _ _ _ _ _ _ => none) k (ref04_Pick_l0b k D j33)
noncomputable def ref04_Pick (k : Nat) (D : CallF) (a_0 : Int × Int × Slc) (rows_1 : Slc) (h : AHeap) : Option (((Int × Int × Slc) × Int) × AHeap) :=
  let h1 := AHeap.new h (.cells [.int .i64 a_0.1, .int .i64 a_0.2.1, .slice a_0.2.2.a a_0.2.2.len a_0.2.2.cap] 54 true 0)
  let h2 := AHeap.new h1 (.cells [.int .i64 0, .int .i64 0, .slice none 0 0] 54 true 0)
  (ldA 3 (⟨h.next, 0, none⟩ : Addr) h2).bind fun l3 =>
  (decC [.i .i64, .i .i64, .l] l3).bind fun x4 =>
  (ref04_Check k D (x4.1, x4.2.1, x4.2.2) h2).bind fun r5 =>
  (if (r5.1 != 0) = true then
  (stL 3 (⟨h1.next, 0, none⟩ : Addr) ([.int .i64 0, .int .i64 0, .slice none 0 0]) r5.2).bind fun h6 =>
  (ldA 3 (⟨h1.next, 0, none⟩ : Addr) h6).bind fun l7 =>
  (decC [.i .i64, .i .i64, .l] l7).bind fun x8 =>
  some (((x8.1, x8.2.1, x8.2.2), r5.1), h6)
  else
  joinK (fun (rows9 : Slc) (a10 : Option Addr) (y11 : Option Addr) (y12 : Bool) (h13 : AHeap) =>
  (if y12 = true then
  (y11).bind fun p15 =>
  (stL 3 p15 ([.int .i64 0, .int .i64 0, .slice none 0 0]) h13).bind fun h16 =>
  (y11).bind fun p17 =>
  (ldA 3 p17 h16).bind fun l18 =>
  (decC [.i .i64, .i .i64, .l] l18).bind fun x19 =>
  some (((x19.1, x19.2.1, x19.2.2), 1), h16)
  else
  joinK (fun (rows20 : Slc) (a21 : Option Addr) (y22 : Option Addr) (h23 : AHeap) =>
  (a21).bind fun p25 =>
  (ldI .i64 (⟨p25.block, p25.off + 1, none⟩ : Addr) h23).bind fun x26 =>
  (ref04_zero k D (rows20.len : Int) x26 h23).bind fun r27 =>
  let h28 := AHeap.new r27.2 (.cells [.int .i64 0, .int .i64 0, .slice none 0 0] 54 true 0)
  (stL 3 (⟨r27.2.next, 0, none⟩ : Addr) ([.int .i64 r27.1.1, .int .i64 r27.1.2.1, .slice r27.1.2.2.a r27.1.2.2.len r27.1.2.2.cap]) h28).bind fun h29 =>
  joinK (fun (y30 : Option Addr) (out31 : Option Addr) (h32 : AHeap) =>
  (out31).bind fun p34 =>
  (ldA 3 p34 h32).bind fun l35 =>
  (decC [.i .i64, .i .i64, .l] l35).bind fun x36 =>
  (y30).bind fun p37 =>
  (stL 3 p37 ([.int .i64 x36.1, .int .i64 x36.2.1, .slice x36.2.2.a x36.2.2.len x36.2.2.cap]) h32).bind fun h38 =>
  (y30).bind fun p39 =>
  (ldA 3 p39 h38).bind fun l40 =>
  (decC [.i .i64, .i .i64, .l] l40).bind fun x41 =>
  some (((x41.1, x41.2.1, x41.2.2), 0), h38)) fun j33 =>
  ref04_Pick_l0 k D j33 rows20 a21 y22 (some (⟨r27.2.next, 0, none⟩ : Addr)) 0 h29) fun j24 =>
  ref04_Pick_l2 k D j24 rows9 a10 y11 0 h13)) fun j14 =>
  (if (decide ((rows_1.len : Int) < 1)) = true then
  j14 rows_1 (some (⟨h.next, 0, none⟩ : Addr)) (some (⟨h1.next, 0, none⟩ : Addr)) true r5.2
  else
  j14 rows_1 (some (⟨h.next, 0, none⟩ : Addr)) (some (⟨h1.next, 0, none⟩ : Addr)) (decide ((rows_1.len : Int) > 255)) r5.2))
def r_ref04_Pick : RCode := .seq (.region [⟨some 2, .a (.box 54 (.tmp 0)), none, none⟩,
  ⟨some 4, .a (.alloc 54 [.int .i64 0, .int .i64 0, .slice none 0 0]), none, none⟩,
  ⟨some 5, .p (.mv (.const (.int .i64 0))), none, none⟩])
  (.seq (.seq (.region [⟨some 11, .l (.load (.agg 3) (.tmp 2)), none, some (.st [.i .i64, .i .i64, .l])⟩,
  ⟨some 12, .e (.call (.func 54) [.tmp 11]), none, none⟩,
  ⟨some 6, .p (.mv (.tmp 12)), none, none⟩])
  (.seq (.region [⟨some 13, .p (.mv (.tmp 6)), none, none⟩,
  ⟨some 14, .p (.bin .neq (.tmp 13) (.const (.int .i64 0))), none, none⟩])
  (.cond (.tmp 14) (.seq (.region [⟨some 15, .p (.build [.int .i64 0, .int .i64 0, .slice none 0 0] []), none, none⟩,
  ⟨some 16, .p (.mv (.tmp 6)), none, none⟩,
  ⟨none, .e (.store (some 3) (.tmp 4) (.tmp 15)), none, none⟩,
  ⟨some 5, .p (.mv (.tmp 16)), none, none⟩])
  (.ret)) (.skip))))
  (.seq (.seq (.join [(1, .l), (2, .p), (4, .p), (24, .b)] (.region [⟨some 17, .p (.mv (.tmp 1)), none, none⟩,
  ⟨some 18, .p (.lenL (.tmp 17)), none, none⟩,
  ⟨some 19, .p (.bin .lss (.tmp 18) (.const (.int .i64 1))), none, none⟩,
  ⟨some 20, .p (.mv (.tmp 19)), none, none⟩,
  ⟨some 21, .p (.mv (.tmp 1)), (some (20, false)), none⟩,
  ⟨some 22, .p (.lenL (.tmp 21)), (some (20, false)), none⟩,
  ⟨some 23, .p (.bin .gtr (.tmp 22) (.const (.int .i64 255))), (some (20, false)), none⟩,
  ⟨some 24, .p (.pick (.tmp 20) (.const (.bool true)) (.tmp 23)), none, none⟩]))
  (.cond (.tmp 24) (.seq (.region [⟨some 25, .p (.build [.int .i64 0, .int .i64 0, .slice none 0 0] []), none, none⟩,
  ⟨none, .e (.store (some 3) (.tmp 4) (.tmp 25)), none, none⟩,
  ⟨some 5, .p (.mv (.const (.int .i64 1))), none, none⟩])
  (.ret)) (.skip)))
  (.seq (.join [(1, .l), (2, .p), (4, .p)] (.seq (.region [⟨some 7, .p (.mv (.const (.int .i64 0))), none, none⟩])
  (.block 0 (.loop [(1, .l), (2, .p), (4, .p), (7, .i .i64)] (.seq (.seq (.region [⟨some 26, .p (.mv (.tmp 7)), none, none⟩,
  ⟨some 27, .p (.mv (.tmp 1)), none, none⟩,
  ⟨some 28, .p (.lenL (.tmp 27)), none, none⟩,
  ⟨some 29, .p (.bin .lss (.tmp 26) (.tmp 28)), none, none⟩])
  (.cond (.tmp 29) (.skip) (.exit 0)))
  (.seq (.block 1 (.seq (.join [(1, .l), (2, .p), (4, .p), (7, .i .i64), (45, .b)] (.draw [⟨0, ⟨some 32, .p (.mv (.tmp 1)), none, none⟩, [1], 0⟩,
  ⟨1, ⟨some 33, .p (.mv (.tmp 7)), none, none⟩, [7], 0⟩,
  ⟨2, ⟨some 34, .p (.idxL 1 (.tmp 32) (.tmp 33)), none, none⟩, [32, 33], 0⟩,
  ⟨3, ⟨some 35, .l (.load (.i .i64) (.tmp 34)), none, none⟩, [34], 0⟩,
  ⟨4, ⟨some 36, .p (.bin .lss (.tmp 35) (.const (.int .i64 0))), none, none⟩, [35], 0⟩,
  ⟨5, ⟨some 37, .p (.mv (.tmp 36)), none, none⟩, [36], 0⟩,
  ⟨6, ⟨some 38, .p (.mv (.tmp 1)), (some (37, false)), none⟩, [1, 37], 0⟩,
  ⟨7, ⟨some 39, .p (.mv (.tmp 7)), (some (37, false)), none⟩, [7, 37], 0⟩,
  ⟨8, ⟨some 40, .p (.idxL 1 (.tmp 38) (.tmp 39)), (some (37, false)), none⟩, [38, 39, 37], 0⟩,
  ⟨9, ⟨some 41, .l (.load (.i .i64) (.tmp 40)), (some (37, false)), none⟩, [40, 37], 0⟩,
  ⟨10, ⟨some 42, .p (.fieldAddr 0 (.tmp 2)), (some (37, false)), none⟩, [2, 37], 0⟩,
  ⟨11, ⟨some 43, .l (.load (.i .i64) (.tmp 42)), (some (37, false)), none⟩, [42, 37], 0⟩,
  ⟨12, ⟨some 44, .p (.bin .geq (.tmp 41) (.tmp 43)), (some (37, false)), none⟩, [41, 43, 37], 0⟩,
  ⟨13, ⟨some 45, .p (.pick (.tmp 37) (.const (.bool true)) (.tmp 44)), none, none⟩, [37, 44], 0⟩]))
  (.cond (.tmp 45) (.seq (.region [⟨some 46, .p (.build [.int .i64 0, .int .i64 0, .slice none 0 0] []), none, none⟩,
  ⟨none, .e (.store (some 3) (.tmp 4) (.tmp 46)), none, none⟩,
  ⟨some 5, .p (.mv (.const (.int .i64 1))), none, none⟩])
  (.ret)) (.skip))))
  (.region [⟨some 30, .p (.mv (.tmp 7)), none, none⟩,
  ⟨some 31, .p (.bin .add (.tmp 30) (.const (.int .i64 1))), none, none⟩,
  ⟨some 7, .p (.mv (.tmp 31)), none, none⟩])))))))
  (.seq (.region [⟨some 47, .p (.mv (.tmp 1)), none, none⟩,
  ⟨some 48, .p (.lenL (.tmp 47)), none, none⟩,
  ⟨some 49, .p (.fieldAddr 1 (.tmp 2)), none, none⟩,
  ⟨some 50, .l (.load (.i .i64) (.tmp 49)), none, none⟩,
  ⟨some 51, .e (.call (.func 67) [.tmp 48, .tmp 50]), none, none⟩,
  ⟨some 8, .a (.alloc 54 [.int .i64 0, .int .i64 0, .slice none 0 0]), none, none⟩,
  ⟨none, .e (.store (some 3) (.tmp 8) (.tmp 51)), none, none⟩])
  (.seq (.join [(4, .p), (8, .p)] (.seq (.region [⟨some 9, .p (.mv (.const (.int .i64 0))), none, none⟩])
  (.block 2 (.loop [(1, .l), (2, .p), (4, .p), (8, .p), (9, .i .i64)] (.seq (.seq (.region [⟨some 52, .p (.mv (.tmp 9)), none, none⟩,
  ⟨some 53, .p (.mv (.tmp 1)), none, none⟩,
  ⟨some 54, .p (.lenL (.tmp 53)), none, none⟩,
  ⟨some 55, .p (.bin .lss (.tmp 52) (.tmp 54)), none, none⟩])
  (.cond (.tmp 55) (.skip) (.exit 2)))
  (.seq (.join [(1, .l), (2, .p), (4, .p), (8, .p), (9, .i .i64)] (.block 3 (.seq (.region [⟨some 10, .p (.mv (.const (.int .i64 0))), none, none⟩])
  (.block 4 (.loop [(1, .l), (2, .p), (4, .p), (8, .p), (9, .i .i64), (10, .i .i64)] (.seq (.seq (.region [⟨some 58, .p (.mv (.tmp 10)), none, none⟩,
  ⟨some 59, .p (.fieldAddr 1 (.tmp 2)), none, none⟩,
  ⟨some 60, .l (.load (.i .i64) (.tmp 59)), none, none⟩,
  ⟨some 61, .p (.bin .lss (.tmp 58) (.tmp 60)), none, none⟩])
  (.cond (.tmp 61) (.skip) (.exit 4)))
  (.seq (.block 5 (.draw [⟨8, ⟨some 72, .l (.load (.agg 3) (.tmp 2)), none, some (.st [.i .i64, .i .i64, .l])⟩, [2], 0⟩,
  ⟨9, ⟨some 73, .p (.mv (.tmp 1)), none, none⟩, [1], 0⟩,
  ⟨10, ⟨some 74, .p (.mv (.tmp 9)), none, none⟩, [9], 0⟩,
  ⟨11, ⟨some 75, .p (.idxL 1 (.tmp 73) (.tmp 74)), none, none⟩, [73, 74], 0⟩,
  ⟨12, ⟨some 76, .l (.load (.i .i64) (.tmp 75)), none, none⟩, [75], 0⟩,
  ⟨13, ⟨some 77, .p (.mv (.tmp 10)), none, none⟩, [10], 0⟩,
  ⟨14, ⟨some 78, .e (.call (.func 71) [.tmp 72, .tmp 76, .tmp 77]), none, none⟩, [72, 76, 77], 0⟩,
  ⟨0, ⟨some 64, .p (.fieldAddr 2 (.tmp 8)), none, none⟩, [8], 1⟩,
  ⟨1, ⟨some 65, .l (.load (.l) (.tmp 64)), none, none⟩, [64], 1⟩,
  ⟨2, ⟨some 66, .p (.mv (.tmp 9)), none, none⟩, [9], 1⟩,
  ⟨3, ⟨some 67, .p (.fieldAddr 1 (.tmp 2)), none, none⟩, [2], 1⟩,
  ⟨4, ⟨some 68, .l (.load (.i .i64) (.tmp 67)), none, none⟩, [67], 1⟩,
  ⟨5, ⟨some 69, .p (.bin .mul (.tmp 66) (.tmp 68)), none, none⟩, [66, 68], 1⟩,
  ⟨6, ⟨some 70, .p (.mv (.tmp 10)), none, none⟩, [10], 1⟩,
  ⟨7, ⟨some 71, .p (.bin .add (.tmp 69) (.tmp 70)), none, none⟩, [69, 70], 1⟩,
  ⟨15, ⟨some 79, .p (.idxL 1 (.tmp 65) (.tmp 71)), none, none⟩, [65, 71], 0⟩,
  ⟨16, ⟨none, .e (.store none (.tmp 79) (.tmp 78)), none, none⟩, [79, 78], 0⟩]))
  (.region [⟨some 62, .p (.mv (.tmp 10)), none, none⟩,
  ⟨some 63, .p (.bin .add (.tmp 62) (.const (.int .i64 1))), none, none⟩,
  ⟨some 10, .p (.mv (.tmp 63)), none, none⟩]))))))))
  (.region [⟨some 56, .p (.mv (.tmp 9)), none, none⟩,
  ⟨some 57, .p (.bin .add (.tmp 56) (.const (.int .i64 1))), none, none⟩,
  ⟨some 9, .p (.mv (.tmp 57)), none, none⟩])))))))
  (.seq (.region [⟨some 80, .l (.load (.agg 3) (.tmp 8)), none, some (.st [.i .i64, .i .i64, .l])⟩,
  ⟨none, .e (.store (some 3) (.tmp 4) (.tmp 80)), none, none⟩,
  ⟨some 5, .p (.mv (.const (.int .i64 0))), none, none⟩])
  (.ret)))))))
noncomputable def e_ref04_Pick (k : Nat) (D : CallF) : Ent := entOf 56 [(0, .st [.i .i64, .i .i64, .l]), (1, .l)] [(4, .st [.i .i64, .i .i64, .l]), (5, .i .i64)] (ref04_Pick k D)
theorem q_ref04_Pick : (Try.f56.body).bind (rcodeOf Try.prog 0 Try.f56.ntmps) = some (strip r_ref04_Pick) := by kernel_rfl
theorem t_ref04_Pick (k : Nat) (D : CallF) : curF [(0, .st [.i .i64, .i .i64, .l]), (1, .l)] (fun args h => denF (C_ref04_Pick k D) k r_ref04_Pick [(4, .st [.i .i64, .i .i64, .l]), (5, .i .i64)] [some (.agg 3), none] args h) = ref04_Pick k D := by kernel_rfl
theorem ok_ref04_Pick {D : CallF} (hD : CSound Try.prog 0 D) (k : Nat) : EntOk Try.prog 0 (e_ref04_Pick k D) :=
  entOf_ok2 (mkC_sound hD (EntsOk.more (ok_ref04_Check hD k) (EntsOk.more (ok_ref04_zero hD k) (EntsOk.more (ok_ref04_M_At hD k) (EntsOk.none))))) Try.func56 rfl q_ref04_Pick rfl (t_ref04_Pick k D)
end Gy
namespace Gy
open Go Gx Go.Proofs
set_option maxRecDepth 100000
noncomputable def C_law04_small (_k : Nat) (D : CallF) : CallF := mkC D []
noncomputable def law04_small (_k : Nat) (_D : CallF) (a_0 : Int × Int × Slc) (h : AHeap) : Option ((Bool) × AHeap) :=
  let h1 := AHeap.new h (.cells [.int .i64 a_0.1, .int .i64 a_0.2.1, .slice a_0.2.2.a a_0.2.2.len a_0.2.2.cap] 51 true 0)
  (ldL (⟨h.next, 2, none⟩ : Addr) h1).bind fun x2 =>
  some ((decide ((x2.len : Int) ≤ 150)), h1)
def r_law04_small : RCode := .seq (.region [⟨some 1, .a (.box 51 (.tmp 0)), none, none⟩,
  ⟨some 2, .p (.mv (.const (.bool false))), none, none⟩])
  (.seq (.region [⟨some 3, .p (.fieldAddr 2 (.tmp 1)), none, none⟩,
  ⟨some 4, .l (.load (.l) (.tmp 3)), none, none⟩,
  ⟨some 5, .p (.lenL (.tmp 4)), none, none⟩,
  ⟨some 6, .p (.bin .leq (.tmp 5) (.const (.int .i64 150))), none, none⟩,
  ⟨some 2, .p (.mv (.tmp 6)), none, none⟩])
  (.ret))
noncomputable def e_law04_small (k : Nat) (D : CallF) : Ent := entOf 48 [(0, .st [.i .i64, .i .i64, .l])] [(2, .b)] (law04_small k D)
theorem q_law04_small : (Try.f48.body).bind (rcodeOf Try.prog 0 Try.f48.ntmps) = some (strip r_law04_small) := by kernel_rfl
theorem t_law04_small (k : Nat) (D : CallF) : curF [(0, .st [.i .i64, .i .i64, .l])] (fun args h => denF (C_law04_small k D) k r_law04_small [(2, .b)] [none] args h) = law04_small k D := by kernel_rfl
theorem ok_law04_small {D : CallF} (hD : CSound Try.prog 0 D) (k : Nat) : EntOk Try.prog 0 (e_law04_small k D) :=
  entOf_ok2 (mkC_sound hD (EntsOk.none)) Try.func48 rfl q_law04_small rfl (t_law04_small k D)
end Gy
namespace Gy
open Go Gx Go.Proofs
set_option maxRecDepth 100000
noncomputable def C_law04_MatrixReckons (k : Nat) (D : CallF) : CallF := mkC D [e_matrix_New k D, e_law04_of k D, e_matrix_Space_Mul k D, e_ref04_Mul k D, e_matrix_Space_Inverse k D, e_ref04_Inverse k D, e_matrix_Space_Rank k D, e_ref04_Rank k D, e_matrix_Turn k D, e_ref04_Turn k D, e_matrix_Pick k D, e_ref04_Pick k D, e_law04_same k D, e_book_SameInts k D, e_matrix_Check k D, e_ref04_Check k D, e_law04_small k D, e_law04_works k D]
noncomputable def law04_MatrixReckons (k : Nat) (D : CallF) (p_0 : Int × Int × Slc) (q_1 : Int × Int × Slc) (rows_2 : Slc) (h : AHeap) : Option ((Bool) × AHeap) :=
  let h1 := AHeap.new h (.cells [.int .i64 p_0.1, .int .i64 p_0.2.1, .slice p_0.2.2.a p_0.2.2.len p_0.2.2.cap] 51 true 0)
  let h2 := AHeap.new h1 (.cells [.int .i64 q_1.1, .int .i64 q_1.2.1, .slice q_1.2.2.a q_1.2.2.len q_1.2.2.cap] 51 true 0)
  (matrix_New k D h2).bind fun r3 =>
  joinK (fun (rows4 : Slc) (p5 : Option Addr) (q6 : Option Addr) (s7 : Option Addr) (y8 : Bool) (h9 : AHeap) =>
  (if y8 = true then
  some (false, h9)
  else
  joinK (fun (rows11 : Slc) (p12 : Option Addr) (q13 : Option Addr) (s14 : Option Addr) (y15 : Bool) (h16 : AHeap) =>
  (if y15 = true then
  some (true, h16)
  else
  let h18 := AHeap.resv h16 2
  (p12).bind fun p19 =>
  (ldI .i64 (⟨p19.block, p19.off + 0, none⟩ : Addr) h18).bind fun x20 =>
  (p12).bind fun p21 =>
  (ldI .i64 (⟨p21.block, p21.off + 1, none⟩ : Addr) h18).bind fun x22 =>
  (p12).bind fun p23 =>
  (ldL (⟨p23.block, p23.off + 2, none⟩ : Addr) h18).bind fun x24 =>
  let h25 := AHeap.set h18 (h16.next + 0) (.cells [.int .i64 0, .int .i64 0, .slice none 0 0] 54 true 0)
  let h26 := AHeap.set h25 (h16.next + 1) (.cells [.int .i64 0, .int .i64 0, .slice none 0 0] 54 true 0)
  (stL 3 (⟨(h16.next + 0), 0, none⟩ : Addr) ([.int .i64 x20, .int .i64 x22, .slice x24.a x24.len x24.cap]) h26).bind fun h27 =>
  (q13).bind fun p28 =>
  (ldI .i64 (⟨p28.block, p28.off + 0, none⟩ : Addr) h27).bind fun x29 =>
  guardP (SameW [h26, h25, h18] (fun H31 => (ldI .i64 (⟨p28.block, p28.off + 0, none⟩ : Addr) H31).bind fun y30 => some (.int .i64 y30)) (.int .i64 x29)) (
  (q13).bind fun p32 =>
  (ldI .i64 (⟨p32.block, p32.off + 1, none⟩ : Addr) h27).bind fun x33 =>
  guardP (SameW [h26, h25, h18] (fun H35 => (ldI .i64 (⟨p32.block, p32.off + 1, none⟩ : Addr) H35).bind fun y34 => some (.int .i64 y34)) (.int .i64 x33)) (
  (q13).bind fun p36 =>
  (ldL (⟨p36.block, p36.off + 2, none⟩ : Addr) h27).bind fun x37 =>
  guardP (SameW [h26, h25, h18] (fun H39 => (ldL (⟨p36.block, p36.off + 2, none⟩ : Addr) H39).bind fun y38 => some (.slice y38.a y38.len y38.cap)) (.slice x37.a x37.len x37.cap)) (
  (stL 3 (⟨(h16.next + 1), 0, none⟩ : Addr) ([.int .i64 x29, .int .i64 x33, .slice x37.a x37.len x37.cap]) h27).bind fun h40 =>
  let h41 := AHeap.resv h40 2
  (ldA 3 (⟨(h16.next + 0), 0, none⟩ : Addr) h41).bind fun l42 =>
  (decC [.i .i64, .i .i64, .l] l42).bind fun x43 =>
  (law04_of k D (x43.1, x43.2.1, x43.2.2) h41).bind fun r44 =>
  (ldA 3 (⟨(h16.next + 1), 0, none⟩ : Addr) r44.2).bind fun l45 =>
  guardP (SameW [h41] (fun H47 => (ldA 3 (⟨(h16.next + 1), 0, none⟩ : Addr) H47).bind fun y46 => some (.agg ⟨y46⟩)) (.agg ⟨l45⟩)) (
  (decC [.i .i64, .i .i64, .l] l45).bind fun x48 =>
  (law04_of k D (x48.1, x48.2.1, x48.2.2) r44.2).bind fun r49 =>
  let h50 := AHeap.set r49.2 (h40.next + 0) (.cells [.int .i64 0, .int .i64 0, .slice none 0 0] 51 true 0)
  let h51 := AHeap.set h50 (h40.next + 1) (.cells [.int .i64 0, .int .i64 0, .slice none 0 0] 51 true 0)
  (stL 3 (⟨(h40.next + 0), 0, none⟩ : Addr) ([.int .i64 r44.1.1, .int .i64 r44.1.2.1, .slice r44.1.2.2.a r44.1.2.2.len r44.1.2.2.cap]) h51).bind fun h52 =>
  (stL 3 (⟨(h40.next + 1), 0, none⟩ : Addr) ([.int .i64 r49.1.1, .int .i64 r49.1.2.1, .slice r49.1.2.2.a r49.1.2.2.len r49.1.2.2.cap]) h52).bind fun h53 =>
  let h54 := AHeap.new h53 (.cells [] 3 true 0)
  (rdS 1 rows11 h54).bind fun n56 =>
  (appendA 1 8 3 h54 (⟨(some ⟨h53.next, 0, some 0⟩), 0, 0⟩ : Slc) n56 rows11.len).bind fun r55 =>
  (ldA 3 (⟨(h40.next + 0), 0, none⟩ : Addr) r55.2).bind fun l57 =>
  (decC [.i .i64, .i .i64, .l] l57).bind fun x58 =>
  (ldA 3 (⟨(h40.next + 1), 0, none⟩ : Addr) r55.2).bind fun l59 =>
  (decC [.i .i64, .i .i64, .l] l59).bind fun x60 =>
  (matrix_Space_Mul k D s14 (x58.1, x58.2.1, x58.2.2) (x60.1, x60.2.1, x60.2.2) r55.2).bind fun r61 =>
  let h62 := AHeap.new r61.2 (.cells [.int .i64 0, .int .i64 0, .slice none 0 0] 51 true 0)
  (stL 3 (⟨r61.2.next, 0, none⟩ : Addr) ([.int .i64 r61.1.1.1, .int .i64 r61.1.1.2.1, .slice r61.1.1.2.2.a r61.1.1.2.2.len r61.1.1.2.2.cap]) h62).bind fun h63 =>
  (ldA 3 (⟨(h16.next + 0), 0, none⟩ : Addr) h63).bind fun l64 =>
  (decC [.i .i64, .i .i64, .l] l64).bind fun x65 =>
  (ldA 3 (⟨(h16.next + 1), 0, none⟩ : Addr) h63).bind fun l66 =>
  (decC [.i .i64, .i .i64, .l] l66).bind fun x67 =>
  (ref04_Mul k D (x65.1, x65.2.1, x65.2.2) (x67.1, x67.2.1, x67.2.2) h63).bind fun r68 =>
  let h69 := AHeap.new r68.2 (.cells [.int .i64 0, .int .i64 0, .slice none 0 0] 54 true 0)
  (stL 3 (⟨r68.2.next, 0, none⟩ : Addr) ([.int .i64 r68.1.1.1, .int .i64 r68.1.1.2.1, .slice r68.1.1.2.2.a r68.1.1.2.2.len r68.1.1.2.2.cap]) h69).bind fun h70 =>
  joinK (fun (rows71 : Slc) (s72 : Option Addr) (a73 : Option Addr) (b74 : Option Addr) (x75 : Option Addr) (y76 : Option Addr) (own77 : Slc) (y78 : Bool) (h79 : AHeap) =>
  (if y78 = true then
  some (false, h79)
  else
  (x75).bind fun p81 =>
  (ldA 3 p81 h79).bind fun l82 =>
  (decC [.i .i64, .i .i64, .l] l82).bind fun x83 =>
  (matrix_Space_Inverse k D s72 (x83.1, x83.2.1, x83.2.2) h79).bind fun r84 =>
  let h85 := AHeap.new r84.2 (.cells [.int .i64 0, .int .i64 0, .slice none 0 0] 51 true 0)
  (stL 3 (⟨r84.2.next, 0, none⟩ : Addr) ([.int .i64 r84.1.1.1, .int .i64 r84.1.1.2.1, .slice r84.1.1.2.2.a r84.1.1.2.2.len r84.1.1.2.2.cap]) h85).bind fun h86 =>
  (a73).bind fun p87 =>
  (ldA 3 p87 h86).bind fun l88 =>
  (decC [.i .i64, .i .i64, .l] l88).bind fun x89 =>
  (ref04_Inverse k D (x89.1, x89.2.1, x89.2.2) h86).bind fun r90 =>
  let h91 := AHeap.new r90.2 (.cells [.int .i64 0, .int .i64 0, .slice none 0 0] 54 true 0)
  (stL 3 (⟨r90.2.next, 0, none⟩ : Addr) ([.int .i64 r90.1.1.1, .int .i64 r90.1.1.2.1, .slice r90.1.1.2.2.a r90.1.1.2.2.len r90.1.1.2.2.cap]) h91).bind fun h92 =>
  joinK (fun (rows93 : Slc) (s94 : Option Addr) (a95 : Option Addr) (b96 : Option Addr) (x97 : Option Addr) (y98 : Option Addr) (own99 : Slc) (y100 : Bool) (h101 : AHeap) =>
  (if y100 = true then
  some (false, h101)
  else
  (x97).bind fun p103 =>
  (ldA 3 p103 h101).bind fun l104 =>
  (decC [.i .i64, .i .i64, .l] l104).bind fun x105 =>
  (matrix_Space_Rank k D s94 (x105.1, x105.2.1, x105.2.2) h101).bind fun r106 =>
  (a95).bind fun p107 =>
  (ldA 3 p107 r106.2).bind fun l108 =>
  (decC [.i .i64, .i .i64, .l] l108).bind fun x109 =>
  (ref04_Rank k D (x109.1, x109.2.1, x109.2.2) r106.2).bind fun r110 =>
  joinK (fun (rows111 : Slc) (a112 : Option Addr) (b113 : Option Addr) (x114 : Option Addr) (y115 : Option Addr) (own116 : Slc) (y117 : Bool) (h118 : AHeap) =>
  (if y117 = true then
  some (false, h118)
  else
  (x114).bind fun p120 =>
  (ldA 3 p120 h118).bind fun l121 =>
  (decC [.i .i64, .i .i64, .l] l121).bind fun x122 =>
  (matrix_Turn k D (x122.1, x122.2.1, x122.2.2) h118).bind fun r123 =>
  let h124 := AHeap.new r123.2 (.cells [.int .i64 0, .int .i64 0, .slice none 0 0] 51 true 0)
  (stL 3 (⟨r123.2.next, 0, none⟩ : Addr) ([.int .i64 r123.1.1.1, .int .i64 r123.1.1.2.1, .slice r123.1.1.2.2.a r123.1.1.2.2.len r123.1.1.2.2.cap]) h124).bind fun h125 =>
  (a112).bind fun p126 =>
  (ldA 3 p126 h125).bind fun l127 =>
  (decC [.i .i64, .i .i64, .l] l127).bind fun x128 =>
  (ref04_Turn k D (x128.1, x128.2.1, x128.2.2) h125).bind fun r129 =>
  let h130 := AHeap.new r129.2 (.cells [.int .i64 0, .int .i64 0, .slice none 0 0] 54 true 0)
  (stL 3 (⟨r129.2.next, 0, none⟩ : Addr) ([.int .i64 r129.1.1.1, .int .i64 r129.1.1.2.1, .slice r129.1.1.2.2.a r129.1.1.2.2.len r129.1.1.2.2.cap]) h130).bind fun h131 =>
  joinK (fun (rows132 : Slc) (a133 : Option Addr) (b134 : Option Addr) (x135 : Option Addr) (y136 : Option Addr) (own137 : Slc) (y138 : Bool) (h139 : AHeap) =>
  (if y138 = true then
  some (false, h139)
  else
  (x135).bind fun p141 =>
  (ldA 3 p141 h139).bind fun l142 =>
  (decC [.i .i64, .i .i64, .l] l142).bind fun x143 =>
  (matrix_Pick k D (x143.1, x143.2.1, x143.2.2) own137 h139).bind fun r144 =>
  let h145 := AHeap.new r144.2 (.cells [.int .i64 0, .int .i64 0, .slice none 0 0] 51 true 0)
  (stL 3 (⟨r144.2.next, 0, none⟩ : Addr) ([.int .i64 r144.1.1.1, .int .i64 r144.1.1.2.1, .slice r144.1.1.2.2.a r144.1.1.2.2.len r144.1.1.2.2.cap]) h145).bind fun h146 =>
  (a133).bind fun p147 =>
  (ldA 3 p147 h146).bind fun l148 =>
  (decC [.i .i64, .i .i64, .l] l148).bind fun x149 =>
  (ref04_Pick k D (x149.1, x149.2.1, x149.2.2) rows132 h146).bind fun r150 =>
  let h151 := AHeap.new r150.2 (.cells [.int .i64 0, .int .i64 0, .slice none 0 0] 54 true 0)
  (stL 3 (⟨r150.2.next, 0, none⟩ : Addr) ([.int .i64 r150.1.1.1, .int .i64 r150.1.1.2.1, .slice r150.1.1.2.2.a r150.1.1.2.2.len r150.1.1.2.2.cap]) h151).bind fun h152 =>
  (ldA 3 (⟨r144.2.next, 0, none⟩ : Addr) h152).bind fun l153 =>
  (decC [.i .i64, .i .i64, .l] l153).bind fun x154 =>
  (ldA 3 (⟨r150.2.next, 0, none⟩ : Addr) h152).bind fun l155 =>
  (decC [.i .i64, .i .i64, .l] l155).bind fun x156 =>
  (law04_same k D (x154.1, x154.2.1, x154.2.2) (x156.1, x156.2.1, x156.2.2) h152).bind fun r157 =>
  (if r157.1 = true then
  (if (r144.1.2 == r150.1.2) = true then
  (x135).bind fun p158 =>
  (ldA 3 p158 r157.2).bind fun l159 =>
  (decC [.i .i64, .i .i64, .l] l159).bind fun x160 =>
  (a133).bind fun p161 =>
  (ldA 3 p161 r157.2).bind fun l162 =>
  (decC [.i .i64, .i .i64, .l] l162).bind fun x163 =>
  (law04_same k D (x160.1, x160.2.1, x160.2.2) (x163.1, x163.2.1, x163.2.2) r157.2).bind fun r164 =>
  (if r164.1 = true then
  (y136).bind fun p165 =>
  (ldA 3 p165 r164.2).bind fun l166 =>
  (decC [.i .i64, .i .i64, .l] l166).bind fun x167 =>
  (b134).bind fun p168 =>
  (ldA 3 p168 r164.2).bind fun l169 =>
  (decC [.i .i64, .i .i64, .l] l169).bind fun x170 =>
  (law04_same k D (x167.1, x167.2.1, x167.2.2) (x170.1, x170.2.1, x170.2.2) r164.2).bind fun r171 =>
  (if r171.1 = true then
  (book_SameInts k D own137 rows132 r171.2).bind fun r172 =>
  some (r172.1, r172.2)
  else
  some (false, r171.2))
  else
  some (false, r164.2))
  else
  some (false, r157.2))
  else
  some (false, r157.2)))) fun j140 =>
  (ldA 3 (⟨r123.2.next, 0, none⟩ : Addr) h131).bind fun l173 =>
  (decC [.i .i64, .i .i64, .l] l173).bind fun x174 =>
  (ldA 3 (⟨r129.2.next, 0, none⟩ : Addr) h131).bind fun l175 =>
  (decC [.i .i64, .i .i64, .l] l175).bind fun x176 =>
  (law04_same k D (x174.1, x174.2.1, x174.2.2) (x176.1, x176.2.1, x176.2.2) h131).bind fun r177 =>
  (if (!r177.1) = true then
  j140 rows111 a112 b113 x114 y115 own116 true r177.2
  else
  j140 rows111 a112 b113 x114 y115 own116 (r123.1.2 != r129.1.2) r177.2))) fun j119 =>
  (if (r106.1.1 != r110.1.1) = true then
  j119 rows93 a95 b96 x97 y98 own99 true r110.2
  else
  (if (r106.1.2 != r110.1.2) = true then
  j119 rows93 a95 b96 x97 y98 own99 true r110.2
  else
  (x97).bind fun p178 =>
  (ldA 3 p178 r110.2).bind fun l179 =>
  (decC [.i .i64, .i .i64, .l] l179).bind fun x180 =>
  (matrix_Check k D (x180.1, x180.2.1, x180.2.2) r110.2).bind fun r181 =>
  (a95).bind fun p182 =>
  (ldA 3 p182 r181.2).bind fun l183 =>
  guardP (SameW [r110.2] (fun H185 => (a95).bind fun p186 => (ldA 3 p186 H185).bind fun y184 => some (.agg ⟨y184⟩)) (.agg ⟨l183⟩)) (
  (decC [.i .i64, .i .i64, .l] l183).bind fun x187 =>
  (ref04_Check k D (x187.1, x187.2.1, x187.2.2) r181.2).bind fun r188 =>
  j119 rows93 a95 b96 x97 y98 own99 (r181.1 != r188.1) r188.2))))) fun j102 =>
  (ldA 3 (⟨r84.2.next, 0, none⟩ : Addr) h92).bind fun l189 =>
  (decC [.i .i64, .i .i64, .l] l189).bind fun x190 =>
  (ldA 3 (⟨r90.2.next, 0, none⟩ : Addr) h92).bind fun l191 =>
  (decC [.i .i64, .i .i64, .l] l191).bind fun x192 =>
  (law04_same k D (x190.1, x190.2.1, x190.2.2) (x192.1, x192.2.1, x192.2.2) h92).bind fun r193 =>
  (if (!r193.1) = true then
  j102 rows71 s72 a73 b74 x75 y76 own77 true r193.2
  else
  j102 rows71 s72 a73 b74 x75 y76 own77 (r84.1.2 != r90.1.2) r193.2))) fun j80 =>
  (ldA 3 (⟨r61.2.next, 0, none⟩ : Addr) h70).bind fun l194 =>
  (decC [.i .i64, .i .i64, .l] l194).bind fun x195 =>
  (ldA 3 (⟨r68.2.next, 0, none⟩ : Addr) h70).bind fun l196 =>
  (decC [.i .i64, .i .i64, .l] l196).bind fun x197 =>
  (law04_same k D (x195.1, x195.2.1, x195.2.2) (x197.1, x197.2.1, x197.2.2) h70).bind fun r198 =>
  (if (!r198.1) = true then
  j80 rows11 s14 (some (⟨(h16.next + 0), 0, none⟩ : Addr)) (some (⟨(h16.next + 1), 0, none⟩ : Addr)) (some (⟨(h40.next + 0), 0, none⟩ : Addr)) (some (⟨(h40.next + 1), 0, none⟩ : Addr)) r55.1 true r198.2
  else
  j80 rows11 s14 (some (⟨(h16.next + 0), 0, none⟩ : Addr)) (some (⟨(h16.next + 1), 0, none⟩ : Addr)) (some (⟨(h40.next + 0), 0, none⟩ : Addr)) (some (⟨(h40.next + 1), 0, none⟩ : Addr)) r55.1 (r61.1.2 != r68.1.2) r198.2))))))) fun j17 =>
  (p5).bind fun p199 =>
  (ldA 3 p199 h9).bind fun l200 =>
  (decC [.i .i64, .i .i64, .l] l200).bind fun x201 =>
  (law04_small k D (x201.1, x201.2.1, x201.2.2) h9).bind fun r202 =>
  (if (!r202.1) = true then
  j17 rows4 p5 q6 s7 true r202.2
  else
  (q6).bind fun p203 =>
  (ldA 3 p203 r202.2).bind fun l204 =>
  (decC [.i .i64, .i .i64, .l] l204).bind fun x205 =>
  (law04_small k D (x205.1, x205.2.1, x205.2.2) r202.2).bind fun r206 =>
  (if (!r206.1) = true then
  j17 rows4 p5 q6 s7 true r206.2
  else
  (if (decide ((rows4.len : Int) > 20)) = true then
  j17 rows4 p5 q6 s7 (decide ((rows4.len : Int) ≤ 255)) r206.2
  else
  j17 rows4 p5 q6 s7 false r206.2))))) fun j10 =>
  (if r3.1.isNone = true then
  j10 rows_2 (some (⟨h.next, 0, none⟩ : Addr)) (some (⟨h1.next, 0, none⟩ : Addr)) r3.1 true r3.2
  else
  (law04_works k D r3.2).bind fun r207 =>
  j10 rows_2 (some (⟨h.next, 0, none⟩ : Addr)) (some (⟨h1.next, 0, none⟩ : Addr)) r3.1 (!r207.1) r207.2)
def r_law04_MatrixReckons : RCode := .seq (.region [⟨some 3, .a (.box 51 (.tmp 0)), none, none⟩,
  ⟨some 4, .a (.box 51 (.tmp 1)), none, none⟩,
  ⟨some 6, .p (.mv (.const (.bool false))), none, none⟩])
  (.seq (.region [⟨some 25, .e (.call (.func 34) []), none, none⟩,
  ⟨some 7, .p (.mv (.tmp 25)), none, none⟩])
  (.seq (.seq (.join [(2, .l), (3, .p), (4, .p), (7, .p), (33, .b)] (.region [⟨some 26, .p (.mv (.tmp 7)), none, none⟩,
  ⟨some 27, .p (.isNil .p false (.tmp 26)), none, none⟩,
  ⟨some 28, .p (.mv (.tmp 27)), none, none⟩,
  ⟨some 29, .p (.pick (.tmp 28) (.const (.bool true)) (.const (.bool false))), none, none⟩,
  ⟨some 30, .p (.mv (.tmp 29)), none, none⟩,
  ⟨some 31, .e (.call (.func 35) []), (some (30, false)), none⟩,
  ⟨some 32, .p (.un .not (.tmp 31)), (some (30, false)), none⟩,
  ⟨some 33, .p (.pick (.tmp 30) (.const (.bool true)) (.tmp 32)), none, none⟩]))
  (.cond (.tmp 33) (.seq (.region [⟨some 6, .p (.mv (.const (.bool false))), none, none⟩])
  (.ret)) (.skip)))
  (.seq (.seq (.join [(2, .l), (3, .p), (4, .p), (7, .p), (51, .b)] (.region [⟨some 34, .l (.load (.agg 3) (.tmp 3)), none, some (.st [.i .i64, .i .i64, .l])⟩,
  ⟨some 35, .e (.call (.func 48) [.tmp 34]), none, none⟩,
  ⟨some 36, .p (.un .not (.tmp 35)), none, none⟩,
  ⟨some 37, .p (.mv (.tmp 36)), none, none⟩,
  ⟨some 38, .l (.load (.agg 3) (.tmp 4)), (some (37, false)), some (.st [.i .i64, .i .i64, .l])⟩,
  ⟨some 39, .e (.call (.func 48) [.tmp 38]), (some (37, false)), none⟩,
  ⟨some 40, .p (.un .not (.tmp 39)), (some (37, false)), none⟩,
  ⟨some 41, .p (.pick (.tmp 37) (.const (.bool true)) (.tmp 40)), none, none⟩,
  ⟨some 42, .p (.mv (.tmp 41)), none, none⟩,
  ⟨some 43, .p (.mv (.tmp 2)), (some (42, false)), none⟩,
  ⟨some 44, .p (.lenL (.tmp 43)), (some (42, false)), none⟩,
  ⟨some 45, .p (.bin .gtr (.tmp 44) (.const (.int .i64 20))), (some (42, false)), none⟩,
  ⟨some 46, .p (.mv (.tmp 45)), (some (42, false)), none⟩,
  ⟨some 47, .p (.mv (.tmp 2)), (some (46, true)), none⟩,
  ⟨some 48, .p (.lenL (.tmp 47)), (some (46, true)), none⟩,
  ⟨some 49, .p (.bin .leq (.tmp 48) (.const (.int .i64 255))), (some (46, true)), none⟩,
  ⟨some 50, .p (.pick (.tmp 46) (.tmp 49) (.const (.bool false))), (some (42, false)), none⟩,
  ⟨some 51, .p (.pick (.tmp 42) (.const (.bool true)) (.tmp 50)), none, none⟩]))
  (.cond (.tmp 51) (.seq (.region [⟨some 6, .p (.mv (.const (.bool true))), none, none⟩])
  (.ret)) (.skip)))
  (.seq (.gdraw 2 [⟨⟨0, ⟨some 52, .p (.fieldAddr 0 (.tmp 3)), none, none⟩, [3], 0⟩, none⟩,
  ⟨⟨1, ⟨some 53, .l (.load (.i .i64) (.tmp 52)), none, none⟩, [52], 0⟩, none⟩,
  ⟨⟨2, ⟨some 54, .p (.fieldAddr 1 (.tmp 3)), none, none⟩, [3], 0⟩, none⟩,
  ⟨⟨3, ⟨some 55, .l (.load (.i .i64) (.tmp 54)), none, none⟩, [54], 0⟩, none⟩,
  ⟨⟨4, ⟨some 56, .p (.fieldAddr 2 (.tmp 3)), none, none⟩, [3], 0⟩, none⟩,
  ⟨⟨5, ⟨some 57, .l (.load (.l) (.tmp 56)), none, none⟩, [56], 0⟩, none⟩,
  ⟨⟨6, ⟨some 58, .p (.build [.int .i64 0, .int .i64 0, .slice none 0 0] [(0, 1, .tmp 53), (1, 1, .tmp 55), (2, 1, .tmp 57)]), none, none⟩, [53, 55, 57], 0⟩, none⟩,
  ⟨⟨14, ⟨some 8, .a (.alloc 54 [.int .i64 0, .int .i64 0, .slice none 0 0]), none, none⟩, [], 0⟩, some 0⟩,
  ⟨⟨15, ⟨some 9, .a (.alloc 54 [.int .i64 0, .int .i64 0, .slice none 0 0]), none, none⟩, [], 1⟩, some 1⟩,
  ⟨⟨16, ⟨none, .e (.store (some 3) (.tmp 8) (.tmp 58)), none, none⟩, [8, 58], 0⟩, none⟩,
  ⟨⟨7, ⟨some 59, .p (.fieldAddr 0 (.tmp 4)), none, none⟩, [4], 3⟩, none⟩,
  ⟨⟨8, ⟨some 60, .l (.load (.i .i64) (.tmp 59)), none, none⟩, [59], 3⟩, none⟩,
  ⟨⟨9, ⟨some 61, .p (.fieldAddr 1 (.tmp 4)), none, none⟩, [4], 3⟩, none⟩,
  ⟨⟨10, ⟨some 62, .l (.load (.i .i64) (.tmp 61)), none, none⟩, [61], 3⟩, none⟩,
  ⟨⟨11, ⟨some 63, .p (.fieldAddr 2 (.tmp 4)), none, none⟩, [4], 3⟩, none⟩,
  ⟨⟨12, ⟨some 64, .l (.load (.l) (.tmp 63)), none, none⟩, [63], 3⟩, none⟩,
  ⟨⟨13, ⟨some 65, .p (.build [.int .i64 0, .int .i64 0, .slice none 0 0] [(0, 1, .tmp 60), (1, 1, .tmp 62), (2, 1, .tmp 64)]), none, none⟩, [60, 62, 64], 3⟩, none⟩,
  ⟨⟨17, ⟨none, .e (.store (some 3) (.tmp 9) (.tmp 65)), none, none⟩, [9, 65], 0⟩, none⟩])
  (.seq (.gdraw 2 [⟨⟨0, ⟨some 66, .l (.load (.agg 3) (.tmp 8)), none, some (.st [.i .i64, .i .i64, .l])⟩, [8], 0⟩, none⟩,
  ⟨⟨1, ⟨some 67, .e (.call (.func 49) [.tmp 66]), none, none⟩, [66], 0⟩, none⟩,
  ⟨⟨2, ⟨some 68, .l (.load (.agg 3) (.tmp 9)), none, some (.st [.i .i64, .i .i64, .l])⟩, [9], 1⟩, none⟩,
  ⟨⟨3, ⟨some 69, .e (.call (.func 49) [.tmp 68]), none, none⟩, [68], 0⟩, none⟩,
  ⟨⟨4, ⟨some 10, .a (.alloc 51 [.int .i64 0, .int .i64 0, .slice none 0 0]), none, none⟩, [], 2⟩, some 0⟩,
  ⟨⟨5, ⟨some 11, .a (.alloc 51 [.int .i64 0, .int .i64 0, .slice none 0 0]), none, none⟩, [], 3⟩, some 1⟩,
  ⟨⟨6, ⟨none, .e (.store (some 3) (.tmp 10) (.tmp 67)), none, none⟩, [10, 67], 0⟩, none⟩,
  ⟨⟨7, ⟨none, .e (.store (some 3) (.tmp 11) (.tmp 69)), none, none⟩, [11, 69], 0⟩, none⟩])
  (.seq (.region [⟨some 70, .a (.buildSlice 3 0 (zerosL 0 [.int .i64 0]) []), none, none⟩,
  ⟨some 71, .p (.mv (.tmp 2)), none, none⟩,
  ⟨some 72, .e (.append 1 8 3 [.int .i64 0] .slice (.tmp 70) (.tmp 71)), none, none⟩,
  ⟨some 12, .p (.mv (.tmp 72)), none, none⟩])
  (.seq (.region [⟨some 74, .p (.mv (.tmp 7)), none, none⟩,
  ⟨some 75, .l (.load (.agg 3) (.tmp 10)), none, some (.st [.i .i64, .i .i64, .l])⟩,
  ⟨some 76, .l (.load (.agg 3) (.tmp 11)), none, some (.st [.i .i64, .i .i64, .l])⟩,
  ⟨some 77, .e (.call (.func 42) [.tmp 74, .tmp 75, .tmp 76]), none, none⟩,
  ⟨some 73, .p (.mv (.tmp 77)), none, none⟩,
  ⟨some 78, .p (.extract (.tmp 73) 0), none, none⟩,
  ⟨some 79, .p (.extract (.tmp 73) 1), none, none⟩,
  ⟨some 13, .a (.alloc 51 [.int .i64 0, .int .i64 0, .slice none 0 0]), none, none⟩,
  ⟨none, .e (.store (some 3) (.tmp 13) (.tmp 78)), none, none⟩,
  ⟨some 14, .p (.mv (.tmp 79)), none, none⟩])
  (.seq (.region [⟨some 81, .l (.load (.agg 3) (.tmp 8)), none, some (.st [.i .i64, .i .i64, .l])⟩,
  ⟨some 82, .l (.load (.agg 3) (.tmp 9)), none, some (.st [.i .i64, .i .i64, .l])⟩,
  ⟨some 83, .e (.call (.func 50) [.tmp 81, .tmp 82]), none, none⟩,
  ⟨some 80, .p (.mv (.tmp 83)), none, none⟩,
  ⟨some 84, .p (.extract (.tmp 80) 0), none, none⟩,
  ⟨some 85, .p (.extract (.tmp 80) 1), none, none⟩,
  ⟨some 15, .a (.alloc 54 [.int .i64 0, .int .i64 0, .slice none 0 0]), none, none⟩,
  ⟨none, .e (.store (some 3) (.tmp 15) (.tmp 84)), none, none⟩,
  ⟨some 16, .p (.mv (.tmp 85)), none, none⟩])
  (.seq (.seq (.join [(2, .l), (7, .p), (8, .p), (9, .p), (10, .p), (11, .p), (12, .l), (94, .b)] (.region [⟨some 86, .l (.load (.agg 3) (.tmp 13)), none, some (.st [.i .i64, .i .i64, .l])⟩,
  ⟨some 87, .l (.load (.agg 3) (.tmp 15)), none, some (.st [.i .i64, .i .i64, .l])⟩,
  ⟨some 88, .e (.call (.func 40) [.tmp 86, .tmp 87]), none, none⟩,
  ⟨some 89, .p (.un .not (.tmp 88)), none, none⟩,
  ⟨some 90, .p (.mv (.tmp 89)), none, none⟩,
  ⟨some 91, .p (.mv (.tmp 14)), (some (90, false)), none⟩,
  ⟨some 92, .p (.mv (.tmp 16)), (some (90, false)), none⟩,
  ⟨some 93, .p (.bin .neq (.tmp 91) (.tmp 92)), (some (90, false)), none⟩,
  ⟨some 94, .p (.pick (.tmp 90) (.const (.bool true)) (.tmp 93)), none, none⟩]))
  (.cond (.tmp 94) (.seq (.region [⟨some 6, .p (.mv (.const (.bool false))), none, none⟩])
  (.ret)) (.skip)))
  (.seq (.region [⟨some 96, .p (.mv (.tmp 7)), none, none⟩,
  ⟨some 97, .l (.load (.agg 3) (.tmp 10)), none, some (.st [.i .i64, .i .i64, .l])⟩,
  ⟨some 98, .e (.call (.func 45) [.tmp 96, .tmp 97]), none, none⟩,
  ⟨some 95, .p (.mv (.tmp 98)), none, none⟩,
  ⟨some 99, .p (.extract (.tmp 95) 0), none, none⟩,
  ⟨some 100, .p (.extract (.tmp 95) 1), none, none⟩,
  ⟨some 17, .a (.alloc 51 [.int .i64 0, .int .i64 0, .slice none 0 0]), none, none⟩,
  ⟨none, .e (.store (some 3) (.tmp 17) (.tmp 99)), none, none⟩,
  ⟨some 14, .p (.mv (.tmp 100)), none, none⟩])
  (.seq (.region [⟨some 102, .l (.load (.agg 3) (.tmp 8)), none, some (.st [.i .i64, .i .i64, .l])⟩,
  ⟨some 103, .e (.call (.func 51) [.tmp 102]), none, none⟩,
  ⟨some 101, .p (.mv (.tmp 103)), none, none⟩,
  ⟨some 104, .p (.extract (.tmp 101) 0), none, none⟩,
  ⟨some 105, .p (.extract (.tmp 101) 1), none, none⟩,
  ⟨some 18, .a (.alloc 54 [.int .i64 0, .int .i64 0, .slice none 0 0]), none, none⟩,
  ⟨none, .e (.store (some 3) (.tmp 18) (.tmp 104)), none, none⟩,
  ⟨some 16, .p (.mv (.tmp 105)), none, none⟩])
  (.seq (.seq (.join [(2, .l), (7, .p), (8, .p), (9, .p), (10, .p), (11, .p), (12, .l), (114, .b)] (.region [⟨some 106, .l (.load (.agg 3) (.tmp 17)), none, some (.st [.i .i64, .i .i64, .l])⟩,
  ⟨some 107, .l (.load (.agg 3) (.tmp 18)), none, some (.st [.i .i64, .i .i64, .l])⟩,
  ⟨some 108, .e (.call (.func 40) [.tmp 106, .tmp 107]), none, none⟩,
  ⟨some 109, .p (.un .not (.tmp 108)), none, none⟩,
  ⟨some 110, .p (.mv (.tmp 109)), none, none⟩,
  ⟨some 111, .p (.mv (.tmp 14)), (some (110, false)), none⟩,
  ⟨some 112, .p (.mv (.tmp 16)), (some (110, false)), none⟩,
  ⟨some 113, .p (.bin .neq (.tmp 111) (.tmp 112)), (some (110, false)), none⟩,
  ⟨some 114, .p (.pick (.tmp 110) (.const (.bool true)) (.tmp 113)), none, none⟩]))
  (.cond (.tmp 114) (.seq (.region [⟨some 6, .p (.mv (.const (.bool false))), none, none⟩])
  (.ret)) (.skip)))
  (.seq (.region [⟨some 116, .p (.mv (.tmp 7)), none, none⟩,
  ⟨some 117, .l (.load (.agg 3) (.tmp 10)), none, some (.st [.i .i64, .i .i64, .l])⟩,
  ⟨some 118, .e (.call (.func 46) [.tmp 116, .tmp 117]), none, none⟩,
  ⟨some 115, .p (.mv (.tmp 118)), none, none⟩,
  ⟨some 119, .p (.extract (.tmp 115) 0), none, none⟩,
  ⟨some 120, .p (.extract (.tmp 115) 1), none, none⟩,
  ⟨some 19, .p (.mv (.tmp 119)), none, none⟩,
  ⟨some 14, .p (.mv (.tmp 120)), none, none⟩])
  (.seq (.region [⟨some 122, .l (.load (.agg 3) (.tmp 8)), none, some (.st [.i .i64, .i .i64, .l])⟩,
  ⟨some 123, .e (.call (.func 52) [.tmp 122]), none, none⟩,
  ⟨some 121, .p (.mv (.tmp 123)), none, none⟩,
  ⟨some 124, .p (.extract (.tmp 121) 0), none, none⟩,
  ⟨some 125, .p (.extract (.tmp 121) 1), none, none⟩,
  ⟨some 20, .p (.mv (.tmp 124)), none, none⟩,
  ⟨some 16, .p (.mv (.tmp 125)), none, none⟩])
  (.seq (.seq (.join [(2, .l), (8, .p), (9, .p), (10, .p), (11, .p), (12, .l), (140, .b)] (.draw [⟨0, ⟨some 126, .p (.mv (.tmp 19)), none, none⟩, [19], 0⟩,
  ⟨1, ⟨some 127, .p (.mv (.tmp 20)), none, none⟩, [20], 0⟩,
  ⟨2, ⟨some 128, .p (.bin .neq (.tmp 126) (.tmp 127)), none, none⟩, [126, 127], 0⟩,
  ⟨3, ⟨some 129, .p (.mv (.tmp 128)), none, none⟩, [128], 0⟩,
  ⟨4, ⟨some 130, .p (.mv (.tmp 14)), (some (129, false)), none⟩, [14, 129], 0⟩,
  ⟨5, ⟨some 131, .p (.mv (.tmp 16)), (some (129, false)), none⟩, [16, 129], 0⟩,
  ⟨6, ⟨some 132, .p (.bin .neq (.tmp 130) (.tmp 131)), (some (129, false)), none⟩, [130, 131, 129], 0⟩,
  ⟨7, ⟨some 133, .p (.pick (.tmp 129) (.const (.bool true)) (.tmp 132)), none, none⟩, [129, 132], 0⟩,
  ⟨8, ⟨some 134, .p (.mv (.tmp 133)), none, none⟩, [133], 0⟩,
  ⟨9, ⟨some 135, .l (.load (.agg 3) (.tmp 10)), (some (134, false)), some (.st [.i .i64, .i .i64, .l])⟩, [10, 134], 0⟩,
  ⟨10, ⟨some 136, .e (.call (.func 53) [.tmp 135]), (some (134, false)), none⟩, [135, 134], 0⟩,
  ⟨11, ⟨some 137, .l (.load (.agg 3) (.tmp 8)), (some (134, false)), some (.st [.i .i64, .i .i64, .l])⟩, [8, 134], 1⟩,
  ⟨12, ⟨some 138, .e (.call (.func 54) [.tmp 137]), (some (134, false)), none⟩, [137, 134], 0⟩,
  ⟨13, ⟨some 139, .p (.bin .neq (.tmp 136) (.tmp 138)), (some (134, false)), none⟩, [136, 138, 134], 0⟩,
  ⟨14, ⟨some 140, .p (.pick (.tmp 134) (.const (.bool true)) (.tmp 139)), none, none⟩, [134, 139], 0⟩]))
  (.cond (.tmp 140) (.seq (.region [⟨some 6, .p (.mv (.const (.bool false))), none, none⟩])
  (.ret)) (.skip)))
  (.seq (.region [⟨some 142, .l (.load (.agg 3) (.tmp 10)), none, some (.st [.i .i64, .i .i64, .l])⟩,
  ⟨some 143, .e (.call (.func 43) [.tmp 142]), none, none⟩,
  ⟨some 141, .p (.mv (.tmp 143)), none, none⟩,
  ⟨some 144, .p (.extract (.tmp 141) 0), none, none⟩,
  ⟨some 145, .p (.extract (.tmp 141) 1), none, none⟩,
  ⟨some 21, .a (.alloc 51 [.int .i64 0, .int .i64 0, .slice none 0 0]), none, none⟩,
  ⟨none, .e (.store (some 3) (.tmp 21) (.tmp 144)), none, none⟩,
  ⟨some 14, .p (.mv (.tmp 145)), none, none⟩])
  (.seq (.region [⟨some 147, .l (.load (.agg 3) (.tmp 8)), none, some (.st [.i .i64, .i .i64, .l])⟩,
  ⟨some 148, .e (.call (.func 55) [.tmp 147]), none, none⟩,
  ⟨some 146, .p (.mv (.tmp 148)), none, none⟩,
  ⟨some 149, .p (.extract (.tmp 146) 0), none, none⟩,
  ⟨some 150, .p (.extract (.tmp 146) 1), none, none⟩,
  ⟨some 22, .a (.alloc 54 [.int .i64 0, .int .i64 0, .slice none 0 0]), none, none⟩,
  ⟨none, .e (.store (some 3) (.tmp 22) (.tmp 149)), none, none⟩,
  ⟨some 16, .p (.mv (.tmp 150)), none, none⟩])
  (.seq (.seq (.join [(2, .l), (8, .p), (9, .p), (10, .p), (11, .p), (12, .l), (159, .b)] (.region [⟨some 151, .l (.load (.agg 3) (.tmp 21)), none, some (.st [.i .i64, .i .i64, .l])⟩,
  ⟨some 152, .l (.load (.agg 3) (.tmp 22)), none, some (.st [.i .i64, .i .i64, .l])⟩,
  ⟨some 153, .e (.call (.func 40) [.tmp 151, .tmp 152]), none, none⟩,
  ⟨some 154, .p (.un .not (.tmp 153)), none, none⟩,
  ⟨some 155, .p (.mv (.tmp 154)), none, none⟩,
  ⟨some 156, .p (.mv (.tmp 14)), (some (155, false)), none⟩,
  ⟨some 157, .p (.mv (.tmp 16)), (some (155, false)), none⟩,
  ⟨some 158, .p (.bin .neq (.tmp 156) (.tmp 157)), (some (155, false)), none⟩,
  ⟨some 159, .p (.pick (.tmp 155) (.const (.bool true)) (.tmp 158)), none, none⟩]))
  (.cond (.tmp 159) (.seq (.region [⟨some 6, .p (.mv (.const (.bool false))), none, none⟩])
  (.ret)) (.skip)))
  (.seq (.region [⟨some 161, .l (.load (.agg 3) (.tmp 10)), none, some (.st [.i .i64, .i .i64, .l])⟩,
  ⟨some 162, .p (.mv (.tmp 12)), none, none⟩,
  ⟨some 163, .e (.call (.func 47) [.tmp 161, .tmp 162]), none, none⟩,
  ⟨some 160, .p (.mv (.tmp 163)), none, none⟩,
  ⟨some 164, .p (.extract (.tmp 160) 0), none, none⟩,
  ⟨some 165, .p (.extract (.tmp 160) 1), none, none⟩,
  ⟨some 23, .a (.alloc 51 [.int .i64 0, .int .i64 0, .slice none 0 0]), none, none⟩,
  ⟨none, .e (.store (some 3) (.tmp 23) (.tmp 164)), none, none⟩,
  ⟨some 14, .p (.mv (.tmp 165)), none, none⟩])
  (.seq (.region [⟨some 167, .l (.load (.agg 3) (.tmp 8)), none, some (.st [.i .i64, .i .i64, .l])⟩,
  ⟨some 168, .p (.mv (.tmp 2)), none, none⟩,
  ⟨some 169, .e (.call (.func 56) [.tmp 167, .tmp 168]), none, none⟩,
  ⟨some 166, .p (.mv (.tmp 169)), none, none⟩,
  ⟨some 170, .p (.extract (.tmp 166) 0), none, none⟩,
  ⟨some 171, .p (.extract (.tmp 166) 1), none, none⟩,
  ⟨some 24, .a (.alloc 54 [.int .i64 0, .int .i64 0, .slice none 0 0]), none, none⟩,
  ⟨none, .e (.store (some 3) (.tmp 24) (.tmp 170)), none, none⟩,
  ⟨some 16, .p (.mv (.tmp 171)), none, none⟩])
  (.seq (.region [⟨some 172, .l (.load (.agg 3) (.tmp 23)), none, some (.st [.i .i64, .i .i64, .l])⟩,
  ⟨some 173, .l (.load (.agg 3) (.tmp 24)), none, some (.st [.i .i64, .i .i64, .l])⟩,
  ⟨some 174, .e (.call (.func 40) [.tmp 172, .tmp 173]), none, none⟩,
  ⟨some 175, .p (.mv (.tmp 174)), none, none⟩,
  ⟨some 176, .p (.mv (.tmp 14)), (some (175, true)), none⟩,
  ⟨some 177, .p (.mv (.tmp 16)), (some (175, true)), none⟩,
  ⟨some 178, .p (.bin .eql (.tmp 176) (.tmp 177)), (some (175, true)), none⟩,
  ⟨some 179, .p (.pick (.tmp 175) (.tmp 178) (.const (.bool false))), none, none⟩,
  ⟨some 180, .p (.mv (.tmp 179)), none, none⟩,
  ⟨some 181, .l (.load (.agg 3) (.tmp 10)), (some (180, true)), some (.st [.i .i64, .i .i64, .l])⟩,
  ⟨some 182, .l (.load (.agg 3) (.tmp 8)), (some (180, true)), some (.st [.i .i64, .i .i64, .l])⟩,
  ⟨some 183, .e (.call (.func 40) [.tmp 181, .tmp 182]), (some (180, true)), none⟩,
  ⟨some 184, .p (.pick (.tmp 180) (.tmp 183) (.const (.bool false))), none, none⟩,
  ⟨some 185, .p (.mv (.tmp 184)), none, none⟩,
  ⟨some 186, .l (.load (.agg 3) (.tmp 11)), (some (185, true)), some (.st [.i .i64, .i .i64, .l])⟩,
  ⟨some 187, .l (.load (.agg 3) (.tmp 9)), (some (185, true)), some (.st [.i .i64, .i .i64, .l])⟩,
  ⟨some 188, .e (.call (.func 40) [.tmp 186, .tmp 187]), (some (185, true)), none⟩,
  ⟨some 189, .p (.pick (.tmp 185) (.tmp 188) (.const (.bool false))), none, none⟩,
  ⟨some 190, .p (.mv (.tmp 189)), none, none⟩,
  ⟨some 191, .p (.mv (.tmp 12)), (some (190, true)), none⟩,
  ⟨some 192, .p (.mv (.tmp 2)), (some (190, true)), none⟩,
  ⟨some 193, .e (.call (.func 29) [.tmp 191, .tmp 192]), (some (190, true)), none⟩,
  ⟨some 194, .p (.pick (.tmp 190) (.tmp 193) (.const (.bool false))), none, none⟩,
  ⟨some 6, .p (.mv (.tmp 194)), none, none⟩])
  (.ret))))))))))))))))))))))
noncomputable def e_law04_MatrixReckons (k : Nat) (D : CallF) : Ent := entOf 12 [(0, .st [.i .i64, .i .i64, .l]), (1, .st [.i .i64, .i .i64, .l]), (2, .l)] [(6, .b)] (law04_MatrixReckons k D)
theorem q_law04_MatrixReckons : (Try.f12.body).bind (rcodeOf Try.prog 0 Try.f12.ntmps) = some (strip r_law04_MatrixReckons) := by kernel_rfl
theorem t_law04_MatrixReckons (k : Nat) (D : CallF) : curF [(0, .st [.i .i64, .i .i64, .l]), (1, .st [.i .i64, .i .i64, .l]), (2, .l)] (fun args h => denF (C_law04_MatrixReckons k D) k r_law04_MatrixReckons [(6, .b)] [none] args h) = law04_MatrixReckons k D := by kernel_rfl
theorem ok_law04_MatrixReckons {D : CallF} (hD : CSound Try.prog 0 D) (k : Nat) : EntOk Try.prog 0 (e_law04_MatrixReckons k D) :=
  entOf_ok2 (mkC_sound hD (EntsOk.more (ok_matrix_New hD k) (EntsOk.more (ok_law04_of hD k) (EntsOk.more (ok_matrix_Space_Mul hD k) (EntsOk.more (ok_ref04_Mul hD k) (EntsOk.more (ok_matrix_Space_Inverse hD k) (EntsOk.more (ok_ref04_Inverse hD k) (EntsOk.more (ok_matrix_Space_Rank hD k) (EntsOk.more (ok_ref04_Rank hD k) (EntsOk.more (ok_matrix_Turn hD k) (EntsOk.more (ok_ref04_Turn hD k) (EntsOk.more (ok_matrix_Pick hD k) (EntsOk.more (ok_ref04_Pick hD k) (EntsOk.more (ok_law04_same hD k) (EntsOk.more (ok_book_SameInts hD k) (EntsOk.more (ok_matrix_Check hD k) (EntsOk.more (ok_ref04_Check hD k) (EntsOk.more (ok_law04_small hD k) (EntsOk.more (ok_law04_works hD k) (EntsOk.none)))))))))))))))))))) Try.func12 rfl q_law04_MatrixReckons rfl (t_law04_MatrixReckons k D)
end Gy
