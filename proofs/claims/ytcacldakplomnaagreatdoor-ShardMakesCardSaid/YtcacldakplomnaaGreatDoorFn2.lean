import Derived.Test.YtcacldakplomnaaGreatDoorProg
import Derived.Test.YtcacldakplomnaaGreatDoorFn1
namespace Gz
open Go Gx Go.Proofs
set_option maxRecDepth 100000
noncomputable def C_ref04_Cauchy (k : Nat) (D : CallF) : CallF := mkC D [e_ref04_zero k D, e_ref03_Over k D]
noncomputable def ref04_Cauchy_l1b (k : Nat) (D : CallF) (j41 : Int → Int → (Option Addr) → (Option Addr) → Int → AHeap → Option (((Int × Int × Slc) × Int) × AHeap)) (rec53 : Int → Int → (Option Addr) → (Option Addr) → Int → Int → AHeap → Option (((Int × Int × Slc) × Int) × AHeap)) (kv46 : Int) (m47 : Int) (y48 : Option Addr) (out49 : Option Addr) (j50 : Int) (i51 : Int) (h52 : AHeap) : Option (((Int × Int × Slc) × Int) × AHeap) :=
  (if (decide (i51 < m47)) = true then
  (ref03_Over k D 1 (Go.bits .xor .i64 (IntKind.wrap .i64 (kv46 + i51)) j50) h52).bind fun r54 =>
  (out49).bind fun p55 =>
  (ldL (⟨p55.block, p55.off + 2, none⟩ : Addr) r54.2).bind fun x56 =>
  guardP (SameW [h52] (fun H58 => (ldL (⟨p55.block, p55.off + 2, none⟩ : Addr) H58).bind fun y57 => some (.slice y57.a y57.len y57.cap)) (.slice x56.a x56.len x56.cap)) (
  let t59 : Int := (IntKind.wrap .i64 ((IntKind.wrap .i64 (kv46 + i51)) * kv46))
  (Gx.idxL 1 x56 (IntKind.wrap .i64 (t59 + j50))).bind fun q60 =>
  (st1 q60 (.int .i64 r54.1) r54.2).bind fun h61 =>
  rec53 kv46 m47 y48 out49 j50 (IntKind.wrap .i64 (i51 + 1)) h61)
  else
  j41 kv46 m47 y48 out49 j50 h52)
noncomputable def ref04_Cauchy_l1 (k : Nat) (D : CallF) (j41 : Int → Int → (Option Addr) → (Option Addr) → Int → AHeap → Option (((Int × Int × Slc) × Int) × AHeap)) : Int → Int → (Option Addr) → (Option Addr) → Int → Int → AHeap → Option (((Int × Int × Slc) × Int) × AHeap) :=
  iterK (α := Int → Int → (Option Addr) → (Option Addr) → Int → Int → AHeap → Option (((Int × Int × Slc) × Int) × AHeap)) (fun _ _ _ _ _ _ _ => none) k (ref04_Cauchy_l1b k D j41)
noncomputable def ref04_Cauchy_l0b (k : Nat) (D : CallF) (j19 : (Option Addr) → (Option Addr) → AHeap → Option (((Int × Int × Slc) × Int) × AHeap)) (rec34 : Int → Int → (Option Addr) → (Option Addr) → Int → AHeap → Option (((Int × Int × Slc) × Int) × AHeap)) (kv28 : Int) (m29 : Int) (y30 : Option Addr) (out31 : Option Addr) (j32 : Int) (h33 : AHeap) : Option (((Int × Int × Slc) × Int) × AHeap) :=
  (if (decide (j32 < kv28)) = true then
  joinK (fun (kv35 : Int) (m36 : Int) (y37 : Option Addr) (out38 : Option Addr) (j39 : Int) (h40 : AHeap) =>
  rec34 kv35 m36 y37 out38 (IntKind.wrap .i64 (j39 + 1)) h40) fun j41 =>
  (out31).bind fun p42 =>
  (ldL (⟨p42.block, p42.off + 2, none⟩ : Addr) h33).bind fun x43 =>
  (Gx.idxL 1 x43 (IntKind.wrap .i64 ((IntKind.wrap .i64 (j32 * kv28)) + j32))).bind fun q44 =>
  (st1 q44 (.int .i64 1) h33).bind fun h45 =>
  ref04_Cauchy_l1 k D j41 kv28 m29 y30 out31 j32 0 h45
  else
  j19 y30 out31 h33)
noncomputable def ref04_Cauchy_l0 (k : Nat) (D : CallF) (j19 : (Option Addr) → (Option Addr) → AHeap → Option (((Int × Int × Slc) × Int) × AHeap)) : Int → Int → (Option Addr) → (Option Addr) → Int → AHeap → Option (((Int × Int × Slc) × Int) × AHeap) :=
  iterK (α := Int → Int → (Option Addr) → (Option Addr) → Int → AHeap → Option (((Int × Int × Slc) × Int) × AHeap)) (fun _ _ _ _ _ _ => none) k (ref04_Cauchy_l0b k D j19)
noncomputable def ref04_Cauchy (k : Nat) (D : CallF) (k_0 : Int) (m_1 : Int) (h : AHeap) : Option (((Int × Int × Slc) × Int) × AHeap) :=
  let h1 := AHeap.new h (.cells [.int .i64 0, .int .i64 0, .slice none 0 0] 97 true 0)
  joinK (fun (kv2 : Int) (m3 : Int) (y4 : Option Addr) (y5 : Bool) (h6 : AHeap) =>
  (if y5 = true then
  (y4).bind fun p8 =>
  (stL 3 p8 ([.int .i64 0, .int .i64 0, .slice none 0 0]) h6).bind fun h9 =>
  (y4).bind fun p10 =>
  (ldA 3 p10 h9).bind fun l11 =>
  (decC [.i .i64, .i .i64, .l] l11).bind fun x12 =>
  some (((x12.1, x12.2.1, x12.2.2), 1), h9)
  else
  (ref04_zero k D (IntKind.wrap .i64 (kv2 + m3)) kv2 h6).bind fun r13 =>
  let h14 := AHeap.new r13.2 (.cells [.int .i64 0, .int .i64 0, .slice none 0 0] 97 true 0)
  (stL 3 (⟨r13.2.next, 0, none⟩ : Addr) ([.int .i64 r13.1.1, .int .i64 r13.1.2.1, .slice r13.1.2.2.a r13.1.2.2.len r13.1.2.2.cap]) h14).bind fun h15 =>
  joinK (fun (y16 : Option Addr) (out17 : Option Addr) (h18 : AHeap) =>
  (out17).bind fun p20 =>
  (ldA 3 p20 h18).bind fun l21 =>
  (decC [.i .i64, .i .i64, .l] l21).bind fun x22 =>
  (y16).bind fun p23 =>
  (stL 3 p23 ([.int .i64 x22.1, .int .i64 x22.2.1, .slice x22.2.2.a x22.2.2.len x22.2.2.cap]) h18).bind fun h24 =>
  (y16).bind fun p25 =>
  (ldA 3 p25 h24).bind fun l26 =>
  (decC [.i .i64, .i .i64, .l] l26).bind fun x27 =>
  some (((x27.1, x27.2.1, x27.2.2), 0), h24)) fun j19 =>
  ref04_Cauchy_l0 k D j19 kv2 m3 y4 (some (⟨r13.2.next, 0, none⟩ : Addr)) 0 h15)) fun j7 =>
  (if (decide (k_0 < 1)) = true then
  j7 k_0 m_1 (some (⟨h.next, 0, none⟩ : Addr)) true h1
  else
  (if (decide (m_1 < 0)) = true then
  j7 k_0 m_1 (some (⟨h.next, 0, none⟩ : Addr)) true h1
  else
  (if (decide (k_0 > 255)) = true then
  j7 k_0 m_1 (some (⟨h.next, 0, none⟩ : Addr)) true h1
  else
  j7 k_0 m_1 (some (⟨h.next, 0, none⟩ : Addr)) (decide (m_1 > (IntKind.wrap .i64 (255 - k_0)))) h1)))
def r_ref04_Cauchy : RCode := .seq (.region [⟨some 4, .a (.alloc 97 [.int .i64 0, .int .i64 0, .slice none 0 0]), none, none⟩,
  ⟨some 5, .p (.mv (.const (.int .i64 0))), none, none⟩])
  (.seq (.seq (.join [(0, .i .i64), (1, .i .i64), (4, .p), (24, .b)] (.region [⟨some 9, .p (.mv (.tmp 0)), none, none⟩,
  ⟨some 10, .p (.bin .lss (.tmp 9) (.const (.int .i64 1))), none, none⟩,
  ⟨some 11, .p (.mv (.tmp 10)), none, none⟩,
  ⟨some 12, .p (.mv (.tmp 1)), (some (11, false)), none⟩,
  ⟨some 13, .p (.bin .lss (.tmp 12) (.const (.int .i64 0))), (some (11, false)), none⟩,
  ⟨some 14, .p (.pick (.tmp 11) (.const (.bool true)) (.tmp 13)), none, none⟩,
  ⟨some 15, .p (.mv (.tmp 14)), none, none⟩,
  ⟨some 16, .p (.mv (.tmp 0)), (some (15, false)), none⟩,
  ⟨some 17, .p (.bin .gtr (.tmp 16) (.const (.int .i64 255))), (some (15, false)), none⟩,
  ⟨some 18, .p (.pick (.tmp 15) (.const (.bool true)) (.tmp 17)), none, none⟩,
  ⟨some 19, .p (.mv (.tmp 18)), none, none⟩,
  ⟨some 20, .p (.mv (.tmp 1)), (some (19, false)), none⟩,
  ⟨some 21, .p (.mv (.tmp 0)), (some (19, false)), none⟩,
  ⟨some 22, .p (.bin .sub (.const (.int .i64 255)) (.tmp 21)), (some (19, false)), none⟩,
  ⟨some 23, .p (.bin .gtr (.tmp 20) (.tmp 22)), (some (19, false)), none⟩,
  ⟨some 24, .p (.pick (.tmp 19) (.const (.bool true)) (.tmp 23)), none, none⟩]))
  (.cond (.tmp 24) (.seq (.region [⟨some 25, .p (.build [.int .i64 0, .int .i64 0, .slice none 0 0] []), none, none⟩,
  ⟨none, .e (.store (some 3) (.tmp 4) (.tmp 25)), none, none⟩,
  ⟨some 5, .p (.mv (.const (.int .i64 1))), none, none⟩])
  (.ret)) (.skip)))
  (.seq (.region [⟨some 26, .p (.mv (.tmp 0)), none, none⟩,
  ⟨some 27, .p (.mv (.tmp 1)), none, none⟩,
  ⟨some 28, .p (.bin .add (.tmp 26) (.tmp 27)), none, none⟩,
  ⟨some 29, .p (.mv (.tmp 0)), none, none⟩,
  ⟨some 30, .e (.call (.func 78) [.tmp 28, .tmp 29]), none, none⟩,
  ⟨some 6, .a (.alloc 97 [.int .i64 0, .int .i64 0, .slice none 0 0]), none, none⟩,
  ⟨none, .e (.store (some 3) (.tmp 6) (.tmp 30)), none, none⟩])
  (.seq (.join [(4, .p), (6, .p)] (.seq (.region [⟨some 7, .p (.mv (.const (.int .i64 0))), none, none⟩])
  (.block 0 (.loop [(0, .i .i64), (1, .i .i64), (4, .p), (6, .p), (7, .i .i64)] (.seq (.seq (.region [⟨some 31, .p (.mv (.tmp 7)), none, none⟩,
  ⟨some 32, .p (.mv (.tmp 0)), none, none⟩,
  ⟨some 33, .p (.bin .lss (.tmp 31) (.tmp 32)), none, none⟩])
  (.cond (.tmp 33) (.skip) (.exit 0)))
  (.seq (.join [(0, .i .i64), (1, .i .i64), (4, .p), (6, .p), (7, .i .i64)] (.block 1 (.seq (.region [⟨some 36, .p (.fieldAddr 2 (.tmp 6)), none, none⟩,
  ⟨some 37, .l (.load (.l) (.tmp 36)), none, none⟩,
  ⟨some 38, .p (.mv (.tmp 7)), none, none⟩,
  ⟨some 39, .p (.mv (.tmp 0)), none, none⟩,
  ⟨some 40, .p (.bin .mul (.tmp 38) (.tmp 39)), none, none⟩,
  ⟨some 41, .p (.mv (.tmp 7)), none, none⟩,
  ⟨some 42, .p (.bin .add (.tmp 40) (.tmp 41)), none, none⟩,
  ⟨some 43, .p (.idxL 1 (.tmp 37) (.tmp 42)), none, none⟩,
  ⟨none, .e (.store none (.tmp 43) (.const (.int .i64 1))), none, none⟩])
  (.seq (.region [⟨some 8, .p (.mv (.const (.int .i64 0))), none, none⟩])
  (.block 2 (.loop [(0, .i .i64), (1, .i .i64), (4, .p), (6, .p), (7, .i .i64), (8, .i .i64)] (.seq (.seq (.region [⟨some 44, .p (.mv (.tmp 8)), none, none⟩,
  ⟨some 45, .p (.mv (.tmp 1)), none, none⟩,
  ⟨some 46, .p (.bin .lss (.tmp 44) (.tmp 45)), none, none⟩])
  (.cond (.tmp 46) (.skip) (.exit 2)))
  (.seq (.block 3 (.draw [⟨9, ⟨some 58, .p (.mv (.tmp 0)), none, none⟩, [0], 0⟩,
  ⟨10, ⟨some 59, .p (.mv (.tmp 8)), none, none⟩, [8], 0⟩,
  ⟨11, ⟨some 60, .p (.bin .add (.tmp 58) (.tmp 59)), none, none⟩, [58, 59], 0⟩,
  ⟨12, ⟨some 61, .p (.mv (.tmp 7)), none, none⟩, [7], 0⟩,
  ⟨13, ⟨some 62, .p (.bin .xor (.tmp 60) (.tmp 61)), none, none⟩, [60, 61], 0⟩,
  ⟨14, ⟨some 63, .e (.call (.func 79) [.const (.int .i64 1), .tmp 62]), none, none⟩, [62], 0⟩,
  ⟨0, ⟨some 49, .p (.fieldAddr 2 (.tmp 6)), none, none⟩, [6], 1⟩,
  ⟨1, ⟨some 50, .l (.load (.l) (.tmp 49)), none, none⟩, [49], 1⟩,
  ⟨2, ⟨some 51, .p (.mv (.tmp 0)), none, none⟩, [0], 1⟩,
  ⟨3, ⟨some 52, .p (.mv (.tmp 8)), none, none⟩, [8], 1⟩,
  ⟨4, ⟨some 53, .p (.bin .add (.tmp 51) (.tmp 52)), none, none⟩, [51, 52], 1⟩,
  ⟨5, ⟨some 54, .p (.mv (.tmp 0)), none, none⟩, [0], 1⟩,
  ⟨6, ⟨some 55, .p (.bin .mul (.tmp 53) (.tmp 54)), none, none⟩, [53, 54], 1⟩,
  ⟨7, ⟨some 56, .p (.mv (.tmp 7)), none, none⟩, [7], 1⟩,
  ⟨8, ⟨some 57, .p (.bin .add (.tmp 55) (.tmp 56)), none, none⟩, [55, 56], 1⟩,
  ⟨15, ⟨some 64, .p (.idxL 1 (.tmp 50) (.tmp 57)), none, none⟩, [50, 57], 0⟩,
  ⟨16, ⟨none, .e (.store none (.tmp 64) (.tmp 63)), none, none⟩, [64, 63], 0⟩]))
  (.region [⟨some 47, .p (.mv (.tmp 8)), none, none⟩,
  ⟨some 48, .p (.bin .add (.tmp 47) (.const (.int .i64 1))), none, none⟩,
  ⟨some 8, .p (.mv (.tmp 48)), none, none⟩])))))))))
  (.region [⟨some 34, .p (.mv (.tmp 7)), none, none⟩,
  ⟨some 35, .p (.bin .add (.tmp 34) (.const (.int .i64 1))), none, none⟩,
  ⟨some 7, .p (.mv (.tmp 35)), none, none⟩])))))))
  (.seq (.region [⟨some 65, .l (.load (.agg 3) (.tmp 6)), none, some (.st [.i .i64, .i .i64, .l])⟩,
  ⟨none, .e (.store (some 3) (.tmp 4) (.tmp 65)), none, none⟩,
  ⟨some 5, .p (.mv (.const (.int .i64 0))), none, none⟩])
  (.ret)))))
noncomputable def e_ref04_Cauchy (k : Nat) (D : CallF) : Ent := entOf 47 [(0, .i .i64), (1, .i .i64)] [(4, .st [.i .i64, .i .i64, .l]), (5, .i .i64)] (ref04_Cauchy k D)
theorem q_ref04_Cauchy : (Tryz.f47.body).bind (rcodeOf Tryz.prog 2 Tryz.f47.ntmps) = some (strip r_ref04_Cauchy) := by kernel_rfl
theorem t_ref04_Cauchy (k : Nat) (D : CallF) : curF [(0, .i .i64), (1, .i .i64)] (fun args h => denF (C_ref04_Cauchy k D) k r_ref04_Cauchy [(4, .st [.i .i64, .i .i64, .l]), (5, .i .i64)] [some (.agg 3), none] args h) = ref04_Cauchy k D := by kernel_rfl
theorem ok_ref04_Cauchy {D : CallF} (hD : CSound Tryz.prog 2 D) (k : Nat) : EntOk Tryz.prog 2 (e_ref04_Cauchy k D) :=
  entOf_ok2 (mkC_sound hD (EntsOk.more (ok_ref04_zero hD k) (EntsOk.more (ok_ref03_Over hD k) (EntsOk.none)))) Tryz.func47 rfl q_ref04_Cauchy rfl (t_ref04_Cauchy k D)
end Gz
namespace Gz
open Go Gx Go.Proofs
set_option maxRecDepth 100000
noncomputable def C_ref05_New (k : Nat) (D : CallF) : CallF := mkC D [e_ref04_Cauchy k D]
noncomputable def ref05_New (k : Nat) (D : CallF) (k_0 : Int) (m_1 : Int) (h : AHeap) : Option (((Option Addr) × Int) × AHeap) :=
  (ref04_Cauchy k D k_0 m_1 h).bind fun r1 =>
  let h2 := AHeap.new r1.2 (.cells [.int .i64 0, .int .i64 0, .slice none 0 0] 97 true 0)
  (stL 3 (⟨r1.2.next, 0, none⟩ : Addr) ([.int .i64 r1.1.1.1, .int .i64 r1.1.1.2.1, .slice r1.1.1.2.2.a r1.1.1.2.2.len r1.1.1.2.2.cap]) h2).bind fun h3 =>
  (if (r1.1.2 != 0) = true then
  some ((none, r1.1.2), h3)
  else
  (ldA 3 (⟨r1.2.next, 0, none⟩ : Addr) h3).bind fun l4 =>
  (decC [.i .i64, .i .i64, .l] l4).bind fun x5 =>
  let h6 := AHeap.new h3 (.cells [.int .i64 k_0, .int .i64 m_1, .int .i64 x5.1, .int .i64 x5.2.1, .slice x5.2.2.a x5.2.2.len x5.2.2.cap] 101 true 0)
  some (((some (⟨h3.next, 0, none⟩ : Addr)), 0), h6))
def r_ref05_New : RCode := .seq (.region [⟨some 4, .p (.mv (.const (.pointer none))), none, none⟩,
  ⟨some 5, .p (.mv (.const (.int .i64 0))), none, none⟩])
  (.seq (.region [⟨some 9, .p (.mv (.tmp 0)), none, none⟩,
  ⟨some 10, .p (.mv (.tmp 1)), none, none⟩,
  ⟨some 11, .e (.call (.func 47) [.tmp 9, .tmp 10]), none, none⟩,
  ⟨some 8, .p (.mv (.tmp 11)), none, none⟩,
  ⟨some 12, .p (.extract (.tmp 8) 0), none, none⟩,
  ⟨some 13, .p (.extract (.tmp 8) 1), none, none⟩,
  ⟨some 6, .a (.alloc 97 [.int .i64 0, .int .i64 0, .slice none 0 0]), none, none⟩,
  ⟨none, .e (.store (some 3) (.tmp 6) (.tmp 12)), none, none⟩,
  ⟨some 7, .p (.mv (.tmp 13)), none, none⟩])
  (.seq (.seq (.region [⟨some 14, .p (.mv (.tmp 7)), none, none⟩,
  ⟨some 15, .p (.bin .neq (.tmp 14) (.const (.int .i64 0))), none, none⟩])
  (.cond (.tmp 15) (.seq (.region [⟨some 16, .p (.mv (.tmp 7)), none, none⟩,
  ⟨some 4, .p (.mv (.const (.pointer none))), none, none⟩,
  ⟨some 5, .p (.mv (.tmp 16)), none, none⟩])
  (.ret)) (.skip)))
  (.seq (.region [⟨some 17, .p (.mv (.tmp 0)), none, none⟩,
  ⟨some 18, .p (.mv (.tmp 1)), none, none⟩,
  ⟨some 19, .l (.load (.agg 3) (.tmp 6)), none, some (.st [.i .i64, .i .i64, .l])⟩,
  ⟨some 20, .p (.build [.int .i64 0, .int .i64 0, .int .i64 0, .int .i64 0, .slice none 0 0] [(0, 1, .tmp 17), (1, 1, .tmp 18), (2, 3, .tmp 19)]), none, none⟩,
  ⟨some 21, .a (.box 101 (.tmp 20)), none, none⟩,
  ⟨some 4, .p (.mv (.tmp 21)), none, none⟩,
  ⟨some 5, .p (.mv (.const (.int .i64 0))), none, none⟩])
  (.ret))))
noncomputable def e_ref05_New (k : Nat) (D : CallF) : Ent := entOf 23 [(0, .i .i64), (1, .i .i64)] [(4, .p), (5, .i .i64)] (ref05_New k D)
theorem q_ref05_New : (Tryz.f23.body).bind (rcodeOf Tryz.prog 2 Tryz.f23.ntmps) = some (strip r_ref05_New) := by kernel_rfl
theorem t_ref05_New (k : Nat) (D : CallF) : curF [(0, .i .i64), (1, .i .i64)] (fun args h => denF (C_ref05_New k D) k r_ref05_New [(4, .p), (5, .i .i64)] [none, none] args h) = ref05_New k D := by kernel_rfl
theorem ok_ref05_New {D : CallF} (hD : CSound Tryz.prog 2 D) (k : Nat) : EntOk Tryz.prog 2 (e_ref05_New k D) :=
  entOf_ok2 (mkC_sound hD (EntsOk.more (ok_ref04_Cauchy hD k) (EntsOk.none))) Tryz.func23 rfl q_ref05_New rfl (t_ref05_New k D)
end Gz
namespace Gz
open Go Gx Go.Proofs
set_option maxRecDepth 100000
noncomputable def C_ref05_Plan_pieces (k : Nat) (D : CallF) : CallF := mkC D [e_ref05_Size k D]
noncomputable def ref05_Plan_pieces_l0b (_k : Nat) (_D : CallF) (j11 : Slc → AHeap → Option ((Slc) × AHeap)) (rec18 : (Option Addr) → ByteArray → Int → Slc → Int → AHeap → Option ((Slc) × AHeap)) (p12 : Option Addr) (s13 : ByteArray) (n14 : Int) (out15 : Slc) (i16 : Int) (h17 : AHeap) : Option ((Slc) × AHeap) :=
  (p12).bind fun p19 =>
  (ldI .i64 (⟨p19.block, p19.off + 0, none⟩ : Addr) h17).bind fun x20 =>
  (if (decide (i16 < x20)) = true then
  (Gx.subS s13 (some (IntKind.wrap .i64 (i16 * n14))) (some (IntKind.wrap .i64 ((IntKind.wrap .i64 (i16 + 1)) * n14)))).bind fun s21 =>
  let h22 := AHeap.new h17 (.cells [.string s21] 9 true 0)
  (rdS 1 (⟨(some ⟨h17.next, 0, some 0⟩), 1, 1⟩ : Slc) h22).bind fun n24 =>
  (appendA 1 16 9 h22 out15 n24 1).bind fun r23 =>
  rec18 p12 s13 n14 r23.1 (IntKind.wrap .i64 (i16 + 1)) r23.2
  else
  j11 out15 h17)
noncomputable def ref05_Plan_pieces_l0 (k : Nat) (D : CallF) (j11 : Slc → AHeap → Option ((Slc) × AHeap)) : (Option Addr) → ByteArray → Int → Slc → Int → AHeap → Option ((Slc) × AHeap) :=
  iterK (α := (Option Addr) → ByteArray → Int → Slc → Int → AHeap → Option ((Slc) × AHeap)) (fun _ _ _ _ _ _ => none) k (ref05_Plan_pieces_l0b k D j11)
noncomputable def ref05_Plan_pieces (k : Nat) (D : CallF) (p_0 : Option Addr) (s_1 : ByteArray) (h : AHeap) : Option ((Slc) × AHeap) :=
  (p_0).bind fun p1 =>
  (ldI .i64 (⟨p1.block, p1.off + 0, none⟩ : Addr) h).bind fun x2 =>
  (ref05_Size k D x2 (s_1.size : Int) h).bind fun r3 =>
  (p_0).bind fun p4 =>
  (ldI .i64 (⟨p4.block, p4.off + 0, none⟩ : Addr) r3.2).bind fun x5 =>
  let t6 : Int := (IntKind.wrap .i64 ((IntKind.wrap .i64 (x5 * r3.1)) - (s_1.size : Int)))
  (if 0 ≤ t6 ∧ t6 ≤ t6 ∧ t6 ≤ 281474976710656 ∧ 1 * t6 ≤ 281474976710656 then
  let h7 := AHeap.new r3.2 (.cells (zerosL (t6).toNat [.int .u8 0]) 5 true 0)
  (bytesOf h7 (⟨(some ⟨r3.2.next, 0, some 0⟩), (t6).toNat, (t6).toNat⟩ : Slc)).bind fun s8 =>
  (if s_1.size + s8.size ≤ 9223372036854775807 then
  joinK (fun (out9 : Slc) (h10 : AHeap) =>
  some (out9, h10)) fun j11 =>
  ref05_Plan_pieces_l0 k D j11 p_0 (s_1 ++ s8) r3.1 (⟨none, 0, 0⟩ : Slc) 0 h7
  else none)
  else none)
def r_ref05_Plan_pieces : RCode := .seq (.region [⟨some 4, .p (.mv (.const (.slice none 0 0))), none, none⟩])
  (.seq (.region [⟨some 8, .p (.mv (.tmp 0)), none, none⟩,
  ⟨some 9, .p (.nilP (.tmp 8)), none, none⟩,
  ⟨some 10, .p (.fieldAddr 0 (.tmp 9)), none, none⟩,
  ⟨some 11, .l (.load (.i .i64) (.tmp 10)), none, none⟩,
  ⟨some 12, .p (.mv (.tmp 1)), none, none⟩,
  ⟨some 13, .p (.lenS (.tmp 12)), none, none⟩,
  ⟨some 14, .e (.call (.func 56) [.tmp 11, .tmp 13]), none, none⟩,
  ⟨some 5, .p (.mv (.tmp 14)), none, none⟩])
  (.seq (.region [⟨some 15, .p (.mv (.tmp 1)), none, none⟩,
  ⟨some 16, .p (.mv (.tmp 0)), none, none⟩,
  ⟨some 17, .p (.nilP (.tmp 16)), none, none⟩,
  ⟨some 18, .p (.fieldAddr 0 (.tmp 17)), none, none⟩,
  ⟨some 19, .l (.load (.i .i64) (.tmp 18)), none, none⟩,
  ⟨some 20, .p (.mv (.tmp 5)), none, none⟩,
  ⟨some 21, .p (.bin .mul (.tmp 19) (.tmp 20)), none, none⟩,
  ⟨some 22, .p (.mv (.tmp 1)), none, none⟩,
  ⟨some 23, .p (.lenS (.tmp 22)), none, none⟩,
  ⟨some 24, .p (.bin .sub (.tmp 21) (.tmp 23)), none, none⟩,
  ⟨some 25, .a (.mkSlice 5 1 [.int .u8 0] (.tmp 24) (.tmp 24)), none, none⟩,
  ⟨some 26, .l (.convBS (.tmp 25)), none, none⟩,
  ⟨some 27, .p (.bin .add (.tmp 15) (.tmp 26)), none, none⟩,
  ⟨some 1, .p (.mv (.tmp 27)), none, none⟩])
  (.seq (.region [⟨some 6, .p (.mv (.const (.slice none 0 0))), none, none⟩])
  (.seq (.join [(6, .l)] (.seq (.region [⟨some 7, .p (.mv (.const (.int .i64 0))), none, none⟩])
  (.block 0 (.loop [(0, .p), (1, .s), (5, .i .i64), (6, .l), (7, .i .i64)] (.seq (.seq (.region [⟨some 28, .p (.mv (.tmp 7)), none, none⟩,
  ⟨some 29, .p (.mv (.tmp 0)), none, none⟩,
  ⟨some 30, .p (.nilP (.tmp 29)), none, none⟩,
  ⟨some 31, .p (.fieldAddr 0 (.tmp 30)), none, none⟩,
  ⟨some 32, .l (.load (.i .i64) (.tmp 31)), none, none⟩,
  ⟨some 33, .p (.bin .lss (.tmp 28) (.tmp 32)), none, none⟩])
  (.cond (.tmp 33) (.skip) (.exit 0)))
  (.seq (.block 1 (.region [⟨some 36, .p (.mv (.tmp 6)), none, none⟩,
  ⟨some 37, .p (.mv (.tmp 1)), none, none⟩,
  ⟨some 38, .p (.mv (.tmp 7)), none, none⟩,
  ⟨some 39, .p (.mv (.tmp 5)), none, none⟩,
  ⟨some 40, .p (.bin .mul (.tmp 38) (.tmp 39)), none, none⟩,
  ⟨some 41, .p (.mv (.tmp 7)), none, none⟩,
  ⟨some 42, .p (.bin .add (.tmp 41) (.const (.int .i64 1))), none, none⟩,
  ⟨some 43, .p (.mv (.tmp 5)), none, none⟩,
  ⟨some 44, .p (.bin .mul (.tmp 42) (.tmp 43)), none, none⟩,
  ⟨some 45, .p (.subS (.tmp 37) (some (.tmp 40)) (some (.tmp 44))), none, none⟩,
  ⟨some 46, .a (.buildSlice 9 1 (zerosL 1 [.string ⟨#[]⟩]) [(0, 1, .tmp 45)]), none, none⟩,
  ⟨some 47, .e (.append 1 16 9 [.string ⟨#[]⟩] .slice (.tmp 36) (.tmp 46)), none, none⟩,
  ⟨some 6, .p (.mv (.tmp 47)), none, none⟩]))
  (.region [⟨some 34, .p (.mv (.tmp 7)), none, none⟩,
  ⟨some 35, .p (.bin .add (.tmp 34) (.const (.int .i64 1))), none, none⟩,
  ⟨some 7, .p (.mv (.tmp 35)), none, none⟩])))))))
  (.seq (.region [⟨some 48, .p (.mv (.tmp 6)), none, none⟩,
  ⟨some 4, .p (.mv (.tmp 48)), none, none⟩])
  (.ret))))))
noncomputable def e_ref05_Plan_pieces (k : Nat) (D : CallF) : Ent := entOf 80 [(0, .p), (1, .s)] [(4, .l)] (ref05_Plan_pieces k D)
theorem q_ref05_Plan_pieces : (Tryz.f80.body).bind (rcodeOf Tryz.prog 2 Tryz.f80.ntmps) = some (strip r_ref05_Plan_pieces) := by kernel_rfl
theorem t_ref05_Plan_pieces (k : Nat) (D : CallF) : curF [(0, .p), (1, .s)] (fun args h => denF (C_ref05_Plan_pieces k D) k r_ref05_Plan_pieces [(4, .l)] [none] args h) = ref05_Plan_pieces k D := by kernel_rfl
theorem ok_ref05_Plan_pieces {D : CallF} (hD : CSound Tryz.prog 2 D) (k : Nat) : EntOk Tryz.prog 2 (e_ref05_Plan_pieces k D) :=
  entOf_ok2 (mkC_sound hD (EntsOk.more (ok_ref05_Size hD k) (EntsOk.none))) Tryz.func80 rfl q_ref05_Plan_pieces rfl (t_ref05_Plan_pieces k D)
end Gz
namespace Gz
open Go Gx Go.Proofs
set_option maxRecDepth 100000
noncomputable def C_ref05_Plan_row (_k : Nat) (D : CallF) : CallF := mkC D []
noncomputable def ref05_Plan_row (_k : Nat) (_D : CallF) (p_0 : Option Addr) (i_1 : Int) (h : AHeap) : Option ((Slc) × AHeap) :=
  (p_0).bind fun p1 =>
  (ldL (⟨p1.block, p1.off + 2 + 2, none⟩ : Addr) h).bind fun x2 =>
  (p_0).bind fun p3 =>
  (ldI .i64 (⟨p3.block, p3.off + 0, none⟩ : Addr) h).bind fun x4 =>
  (p_0).bind fun p5 =>
  (ldI .i64 (⟨p5.block, p5.off + 0, none⟩ : Addr) h).bind fun x6 =>
  (Gx.subL 1 x2 (some (IntKind.wrap .i64 (i_1 * x4))) (some (IntKind.wrap .i64 ((IntKind.wrap .i64 (i_1 + 1)) * x6))) none).bind fun l7 =>
  some (l7, h)
def r_ref05_Plan_row : RCode := .seq (.region [⟨some 4, .p (.mv (.const (.slice none 0 0))), none, none⟩])
  (.seq (.draw [⟨0, ⟨some 5, .p (.mv (.tmp 0)), none, none⟩, [0], 0⟩,
  ⟨1, ⟨some 6, .p (.nilP (.tmp 5)), none, none⟩, [5], 0⟩,
  ⟨2, ⟨some 7, .p (.fieldAddr 2 (.tmp 6)), none, none⟩, [6], 0⟩,
  ⟨3, ⟨some 8, .p (.fieldAddr 2 (.tmp 7)), none, none⟩, [7], 0⟩,
  ⟨4, ⟨some 9, .l (.load (.l) (.tmp 8)), none, none⟩, [8], 0⟩,
  ⟨5, ⟨some 10, .p (.mv (.tmp 1)), none, none⟩, [1], 0⟩,
  ⟨6, ⟨some 11, .p (.mv (.tmp 0)), none, none⟩, [0], 0⟩,
  ⟨7, ⟨some 12, .p (.nilP (.tmp 11)), none, none⟩, [11], 0⟩,
  ⟨8, ⟨some 13, .p (.fieldAddr 0 (.tmp 12)), none, none⟩, [12], 0⟩,
  ⟨9, ⟨some 14, .l (.load (.i .i64) (.tmp 13)), none, none⟩, [13], 0⟩,
  ⟨10, ⟨some 15, .p (.bin .mul (.tmp 10) (.tmp 14)), none, none⟩, [10, 14], 0⟩,
  ⟨11, ⟨some 16, .p (.mv (.tmp 1)), none, none⟩, [1], 0⟩,
  ⟨12, ⟨some 17, .p (.bin .add (.tmp 16) (.const (.int .i64 1))), none, none⟩, [16], 0⟩,
  ⟨13, ⟨some 18, .p (.mv (.tmp 0)), none, none⟩, [0], 0⟩,
  ⟨14, ⟨some 19, .p (.nilP (.tmp 18)), none, none⟩, [18], 0⟩,
  ⟨15, ⟨some 20, .p (.fieldAddr 0 (.tmp 19)), none, none⟩, [19], 0⟩,
  ⟨16, ⟨some 21, .l (.load (.i .i64) (.tmp 20)), none, none⟩, [20], 0⟩,
  ⟨17, ⟨some 22, .p (.bin .mul (.tmp 17) (.tmp 21)), none, none⟩, [17, 21], 0⟩,
  ⟨18, ⟨some 23, .p (.subL 1 (.tmp 9) (some (.tmp 15)) (some (.tmp 22)) none), none, none⟩, [9, 15, 22], 0⟩,
  ⟨19, ⟨some 4, .p (.mv (.tmp 23)), none, none⟩, [23], 0⟩])
  (.ret))
noncomputable def e_ref05_Plan_row (k : Nat) (D : CallF) : Ent := entOf 81 [(0, .p), (1, .i .i64)] [(4, .l)] (ref05_Plan_row k D)
theorem q_ref05_Plan_row : (Tryz.f81.body).bind (rcodeOf Tryz.prog 2 Tryz.f81.ntmps) = some (strip r_ref05_Plan_row) := by kernel_rfl
theorem t_ref05_Plan_row (k : Nat) (D : CallF) : curF [(0, .p), (1, .i .i64)] (fun args h => denF (C_ref05_Plan_row k D) k r_ref05_Plan_row [(4, .l)] [none] args h) = ref05_Plan_row k D := by kernel_rfl
theorem ok_ref05_Plan_row {D : CallF} (hD : CSound Tryz.prog 2 D) (k : Nat) : EntOk Tryz.prog 2 (e_ref05_Plan_row k D) :=
  entOf_ok2 (mkC_sound hD (EntsOk.none)) Tryz.func81 rfl q_ref05_Plan_row rfl (t_ref05_Plan_row k D)
end Gz
namespace Gz
open Go Gx Go.Proofs
set_option maxRecDepth 100000
noncomputable def C_ref03_is (_k : Nat) (D : CallF) : CallF := mkC D []
noncomputable def ref03_is (_k : Nat) (_D : CallF) (a_0 : Int) (h : AHeap) : Option ((Bool) × AHeap) :=
  (if (decide (a_0 ≥ 0)) = true then
  some ((decide (a_0 < 256)), h)
  else
  some (false, h))
def r_ref03_is : RCode := .seq (.region [⟨some 2, .p (.mv (.const (.bool false))), none, none⟩])
  (.seq (.region [⟨some 3, .p (.mv (.tmp 0)), none, none⟩,
  ⟨some 4, .p (.bin .geq (.tmp 3) (.const (.int .i64 0))), none, none⟩,
  ⟨some 5, .p (.mv (.tmp 4)), none, none⟩,
  ⟨some 6, .p (.mv (.tmp 0)), (some (5, true)), none⟩,
  ⟨some 7, .p (.bin .lss (.tmp 6) (.const (.int .i64 256))), (some (5, true)), none⟩,
  ⟨some 8, .p (.pick (.tmp 5) (.tmp 7) (.const (.bool false))), none, none⟩,
  ⟨some 2, .p (.mv (.tmp 8)), none, none⟩])
  (.ret))
noncomputable def e_ref03_is (k : Nat) (D : CallF) : Ent := entOf 97 [(0, .i .i64)] [(2, .b)] (ref03_is k D)
theorem q_ref03_is : (Tryz.f97.body).bind (rcodeOf Tryz.prog 2 Tryz.f97.ntmps) = some (strip r_ref03_is) := by kernel_rfl
theorem t_ref03_is (k : Nat) (D : CallF) : curF [(0, .i .i64)] (fun args h => denF (C_ref03_is k D) k r_ref03_is [(2, .b)] [none] args h) = ref03_is k D := by kernel_rfl
theorem ok_ref03_is {D : CallF} (hD : CSound Tryz.prog 2 D) (k : Nat) : EntOk Tryz.prog 2 (e_ref03_is k D) :=
  entOf_ok2 (mkC_sound hD (EntsOk.none)) Tryz.func97 rfl q_ref03_is rfl (t_ref03_is k D)
end Gz
namespace Gz
open Go Gx Go.Proofs
set_option maxRecDepth 100000
noncomputable def C_ref03_By (k : Nat) (D : CallF) : CallF := mkC D [e_ref03_Times k D]
noncomputable def ref03_By_l0b (k : Nat) (D : CallF) (j4 : Slc → AHeap → Option ((ByteArray) × AHeap)) (rec11 : ByteArray → Int → Slc → Int → AHeap → Option ((ByteArray) × AHeap)) (s6 : ByteArray) (c7 : Int) (out8 : Slc) (i9 : Int) (h10 : AHeap) : Option ((ByteArray) × AHeap) :=
  (if (decide (i9 < (s6.size : Int))) = true then
  (Gx.idxS s6 i9).bind fun b12 =>
  (ref03_Times k D (IntKind.wrap .i64 b12) c7 h10).bind fun r13 =>
  (Gx.idxL 1 out8 i9).bind fun q14 =>
  (st1 q14 (.int .u8 (IntKind.wrap .u8 r13.1)) r13.2).bind fun h15 =>
  rec11 s6 c7 out8 (IntKind.wrap .i64 (i9 + 1)) h15
  else
  j4 out8 h10)
noncomputable def ref03_By_l0 (k : Nat) (D : CallF) (j4 : Slc → AHeap → Option ((ByteArray) × AHeap)) : ByteArray → Int → Slc → Int → AHeap → Option ((ByteArray) × AHeap) :=
  iterK (α := ByteArray → Int → Slc → Int → AHeap → Option ((ByteArray) × AHeap)) (fun _ _ _ _ _ => none) k (ref03_By_l0b k D j4)
noncomputable def ref03_By (k : Nat) (D : CallF) (s_0 : ByteArray) (c_1 : Int) (h : AHeap) : Option ((ByteArray) × AHeap) :=
  (if 0 ≤ (s_0.size : Int) ∧ (s_0.size : Int) ≤ (s_0.size : Int) ∧ (s_0.size : Int) ≤ 281474976710656 ∧ 1 * (s_0.size : Int) ≤ 281474976710656 then
  let h1 := AHeap.new h (.cells (zerosL ((s_0.size : Int)).toNat [.int .u8 0]) 5 true 0)
  joinK (fun (out2 : Slc) (h3 : AHeap) =>
  (bytesOf h3 out2).bind fun s5 =>
  some (s5, h3)) fun j4 =>
  ref03_By_l0 k D j4 s_0 c_1 (⟨(some ⟨h.next, 0, some 0⟩), ((s_0.size : Int)).toNat, ((s_0.size : Int)).toNat⟩ : Slc) 0 h1
  else none)
def r_ref03_By : RCode := .seq (.region [⟨some 4, .p (.mv (.const (.string ⟨#[]⟩))), none, none⟩])
  (.seq (.region [⟨some 7, .p (.mv (.tmp 0)), none, none⟩,
  ⟨some 8, .p (.lenS (.tmp 7)), none, none⟩,
  ⟨some 9, .a (.mkSlice 5 1 [.int .u8 0] (.tmp 8) (.tmp 8)), none, none⟩,
  ⟨some 5, .p (.mv (.tmp 9)), none, none⟩])
  (.seq (.join [(5, .l)] (.seq (.region [⟨some 6, .p (.mv (.const (.int .i64 0))), none, none⟩])
  (.block 0 (.loop [(0, .s), (1, .i .i64), (5, .l), (6, .i .i64)] (.seq (.seq (.region [⟨some 10, .p (.mv (.tmp 6)), none, none⟩,
  ⟨some 11, .p (.mv (.tmp 0)), none, none⟩,
  ⟨some 12, .p (.lenS (.tmp 11)), none, none⟩,
  ⟨some 13, .p (.bin .lss (.tmp 10) (.tmp 12)), none, none⟩])
  (.cond (.tmp 13) (.skip) (.exit 0)))
  (.seq (.block 1 (.region [⟨some 16, .p (.mv (.tmp 5)), none, none⟩,
  ⟨some 17, .p (.mv (.tmp 6)), none, none⟩,
  ⟨some 18, .p (.mv (.tmp 0)), none, none⟩,
  ⟨some 19, .p (.mv (.tmp 6)), none, none⟩,
  ⟨some 20, .p (.idxS (.tmp 18) (.tmp 19)), none, none⟩,
  ⟨some 21, .p (.convI .i64 (.tmp 20)), none, none⟩,
  ⟨some 22, .p (.mv (.tmp 1)), none, none⟩,
  ⟨some 23, .e (.call (.func 109) [.tmp 21, .tmp 22]), none, none⟩,
  ⟨some 24, .p (.convI .u8 (.tmp 23)), none, none⟩,
  ⟨some 25, .p (.idxL 1 (.tmp 16) (.tmp 17)), none, none⟩,
  ⟨none, .e (.store none (.tmp 25) (.tmp 24)), none, none⟩]))
  (.region [⟨some 14, .p (.mv (.tmp 6)), none, none⟩,
  ⟨some 15, .p (.bin .add (.tmp 14) (.const (.int .i64 1))), none, none⟩,
  ⟨some 6, .p (.mv (.tmp 15)), none, none⟩])))))))
  (.seq (.region [⟨some 26, .p (.mv (.tmp 5)), none, none⟩,
  ⟨some 27, .l (.convBS (.tmp 26)), none, none⟩,
  ⟨some 4, .p (.mv (.tmp 27)), none, none⟩])
  (.ret))))
noncomputable def e_ref03_By (k : Nat) (D : CallF) : Ent := entOf 99 [(0, .s), (1, .i .i64)] [(4, .s)] (ref03_By k D)
theorem q_ref03_By : (Tryz.f99.body).bind (rcodeOf Tryz.prog 2 Tryz.f99.ntmps) = some (strip r_ref03_By) := by kernel_rfl
theorem t_ref03_By (k : Nat) (D : CallF) : curF [(0, .s), (1, .i .i64)] (fun args h => denF (C_ref03_By k D) k r_ref03_By [(4, .s)] [none] args h) = ref03_By k D := by kernel_rfl
theorem ok_ref03_By {D : CallF} (hD : CSound Tryz.prog 2 D) (k : Nat) : EntOk Tryz.prog 2 (e_ref03_By k D) :=
  entOf_ok2 (mkC_sound hD (EntsOk.more (ok_ref03_Times hD k) (EntsOk.none))) Tryz.func99 rfl q_ref03_By rfl (t_ref03_By k D)
end Gz
namespace Gz
open Go Gx Go.Proofs
set_option maxRecDepth 100000
noncomputable def C_ref03_Add (_k : Nat) (D : CallF) : CallF := mkC D []
noncomputable def ref03_Add_l0b (_k : Nat) (_D : CallF) (j4 : Slc → AHeap → Option ((ByteArray × Int) × AHeap)) (rec11 : ByteArray → ByteArray → Slc → Int → AHeap → Option ((ByteArray × Int) × AHeap)) (a6 : ByteArray) (b7 : ByteArray) (out8 : Slc) (i9 : Int) (h10 : AHeap) : Option ((ByteArray × Int) × AHeap) :=
  (if (decide (i9 < (a6.size : Int))) = true then
  (Gx.idxS a6 i9).bind fun b12 =>
  (Gx.idxS b7 i9).bind fun b13 =>
  (Gx.idxL 1 out8 i9).bind fun q14 =>
  (st1 q14 (.int .u8 (Go.bits .xor .u8 b12 b13)) h10).bind fun h15 =>
  rec11 a6 b7 out8 (IntKind.wrap .i64 (i9 + 1)) h15
  else
  j4 out8 h10)
noncomputable def ref03_Add_l0 (k : Nat) (D : CallF) (j4 : Slc → AHeap → Option ((ByteArray × Int) × AHeap)) : ByteArray → ByteArray → Slc → Int → AHeap → Option ((ByteArray × Int) × AHeap) :=
  iterK (α := ByteArray → ByteArray → Slc → Int → AHeap → Option ((ByteArray × Int) × AHeap)) (fun _ _ _ _ _ => none) k (ref03_Add_l0b k D j4)
noncomputable def ref03_Add (k : Nat) (D : CallF) (a_0 : ByteArray) (b_1 : ByteArray) (h : AHeap) : Option ((ByteArray × Int) × AHeap) :=
  (if ((a_0.size : Int) != (b_1.size : Int)) = true then
  some (((⟨#[]⟩ : ByteArray), 4), h)
  else
  (if 0 ≤ (a_0.size : Int) ∧ (a_0.size : Int) ≤ (a_0.size : Int) ∧ (a_0.size : Int) ≤ 281474976710656 ∧ 1 * (a_0.size : Int) ≤ 281474976710656 then
  let h1 := AHeap.new h (.cells (zerosL ((a_0.size : Int)).toNat [.int .u8 0]) 5 true 0)
  joinK (fun (out2 : Slc) (h3 : AHeap) =>
  (bytesOf h3 out2).bind fun s5 =>
  some ((s5, 0), h3)) fun j4 =>
  ref03_Add_l0 k D j4 a_0 b_1 (⟨(some ⟨h.next, 0, some 0⟩), ((a_0.size : Int)).toNat, ((a_0.size : Int)).toNat⟩ : Slc) 0 h1
  else none))
def r_ref03_Add : RCode := .seq (.region [⟨some 4, .p (.mv (.const (.string ⟨#[]⟩))), none, none⟩,
  ⟨some 5, .p (.mv (.const (.int .i64 0))), none, none⟩])
  (.seq (.seq (.region [⟨some 8, .p (.mv (.tmp 0)), none, none⟩,
  ⟨some 9, .p (.lenS (.tmp 8)), none, none⟩,
  ⟨some 10, .p (.mv (.tmp 1)), none, none⟩,
  ⟨some 11, .p (.lenS (.tmp 10)), none, none⟩,
  ⟨some 12, .p (.bin .neq (.tmp 9) (.tmp 11)), none, none⟩])
  (.cond (.tmp 12) (.seq (.region [⟨some 4, .p (.mv (.const (.string ⟨#[]⟩))), none, none⟩,
  ⟨some 5, .p (.mv (.const (.int .i64 4))), none, none⟩])
  (.ret)) (.skip)))
  (.seq (.region [⟨some 13, .p (.mv (.tmp 0)), none, none⟩,
  ⟨some 14, .p (.lenS (.tmp 13)), none, none⟩,
  ⟨some 15, .a (.mkSlice 5 1 [.int .u8 0] (.tmp 14) (.tmp 14)), none, none⟩,
  ⟨some 6, .p (.mv (.tmp 15)), none, none⟩])
  (.seq (.join [(6, .l)] (.seq (.region [⟨some 7, .p (.mv (.const (.int .i64 0))), none, none⟩])
  (.block 0 (.loop [(0, .s), (1, .s), (6, .l), (7, .i .i64)] (.seq (.seq (.region [⟨some 16, .p (.mv (.tmp 7)), none, none⟩,
  ⟨some 17, .p (.mv (.tmp 0)), none, none⟩,
  ⟨some 18, .p (.lenS (.tmp 17)), none, none⟩,
  ⟨some 19, .p (.bin .lss (.tmp 16) (.tmp 18)), none, none⟩])
  (.cond (.tmp 19) (.skip) (.exit 0)))
  (.seq (.block 1 (.draw [⟨0, ⟨some 22, .p (.mv (.tmp 6)), none, none⟩, [6], 0⟩,
  ⟨1, ⟨some 23, .p (.mv (.tmp 7)), none, none⟩, [7], 0⟩,
  ⟨2, ⟨some 24, .p (.mv (.tmp 0)), none, none⟩, [0], 0⟩,
  ⟨3, ⟨some 25, .p (.mv (.tmp 7)), none, none⟩, [7], 0⟩,
  ⟨4, ⟨some 26, .p (.idxS (.tmp 24) (.tmp 25)), none, none⟩, [24, 25], 0⟩,
  ⟨5, ⟨some 27, .p (.mv (.tmp 1)), none, none⟩, [1], 0⟩,
  ⟨6, ⟨some 28, .p (.mv (.tmp 7)), none, none⟩, [7], 0⟩,
  ⟨7, ⟨some 29, .p (.idxS (.tmp 27) (.tmp 28)), none, none⟩, [27, 28], 0⟩,
  ⟨8, ⟨some 30, .p (.bin .xor (.tmp 26) (.tmp 29)), none, none⟩, [26, 29], 0⟩,
  ⟨9, ⟨some 31, .p (.idxL 1 (.tmp 22) (.tmp 23)), none, none⟩, [22, 23], 0⟩,
  ⟨10, ⟨none, .e (.store none (.tmp 31) (.tmp 30)), none, none⟩, [31, 30], 0⟩]))
  (.region [⟨some 20, .p (.mv (.tmp 7)), none, none⟩,
  ⟨some 21, .p (.bin .add (.tmp 20) (.const (.int .i64 1))), none, none⟩,
  ⟨some 7, .p (.mv (.tmp 21)), none, none⟩])))))))
  (.seq (.region [⟨some 32, .p (.mv (.tmp 6)), none, none⟩,
  ⟨some 33, .l (.convBS (.tmp 32)), none, none⟩,
  ⟨some 4, .p (.mv (.tmp 33)), none, none⟩,
  ⟨some 5, .p (.mv (.const (.int .i64 0))), none, none⟩])
  (.ret)))))
noncomputable def e_ref03_Add (k : Nat) (D : CallF) : Ent := entOf 98 [(0, .s), (1, .s)] [(4, .s), (5, .i .i64)] (ref03_Add k D)
theorem q_ref03_Add : (Tryz.f98.body).bind (rcodeOf Tryz.prog 2 Tryz.f98.ntmps) = some (strip r_ref03_Add) := by kernel_rfl
theorem t_ref03_Add (k : Nat) (D : CallF) : curF [(0, .s), (1, .s)] (fun args h => denF (C_ref03_Add k D) k r_ref03_Add [(4, .s), (5, .i .i64)] [none, none] args h) = ref03_Add k D := by kernel_rfl
theorem ok_ref03_Add {D : CallF} (hD : CSound Tryz.prog 2 D) (k : Nat) : EntOk Tryz.prog 2 (e_ref03_Add k D) :=
  entOf_ok2 (mkC_sound hD (EntsOk.none)) Tryz.func98 rfl q_ref03_Add rfl (t_ref03_Add k D)
end Gz
namespace Gz
open Go Gx Go.Proofs
set_option maxRecDepth 100000
noncomputable def C_ref03_Mix (k : Nat) (D : CallF) : CallF := mkC D [e_ref03_By k D, e_ref03_Add k D, e_ref03_is k D]
noncomputable def ref03_Mix_l2b (_k : Nat) (_D : CallF) (j4 : Slc → Slc → AHeap → Option ((ByteArray × Int) × AHeap)) (rec40 : Slc → Slc → Int → AHeap → Option ((ByteArray × Int) × AHeap)) (l36 : Slc) (c37 : Slc) (i38 : Int) (h39 : AHeap) : Option ((ByteArray × Int) × AHeap) :=
  (if (decide (i38 < (l36.len : Int))) = true then
  (Gx.idxL 1 l36 i38).bind fun q41 =>
  (ldS q41 h39).bind fun x42 =>
  (Gx.idxL 1 l36 0).bind fun q43 =>
  (ldS q43 h39).bind fun x44 =>
  (if ((x42.size : Int) != (x44.size : Int)) = true then
  some (((⟨#[]⟩ : ByteArray), 4), h39)
  else
  rec40 l36 c37 (IntKind.wrap .i64 (i38 + 1)) h39)
  else
  j4 l36 c37 h39)
noncomputable def ref03_Mix_l2 (k : Nat) (D : CallF) (j4 : Slc → Slc → AHeap → Option ((ByteArray × Int) × AHeap)) : Slc → Slc → Int → AHeap → Option ((ByteArray × Int) × AHeap) :=
  iterK (α := Slc → Slc → Int → AHeap → Option ((ByteArray × Int) × AHeap)) (fun _ _ _ _ => none) k (ref03_Mix_l2b k D j4)
noncomputable def ref03_Mix_l1b (k : Nat) (D : CallF) (j8 : Slc → Slc → AHeap → Option ((ByteArray × Int) × AHeap)) (rec32 : Slc → Slc → Int → AHeap → Option ((ByteArray × Int) × AHeap)) (l28 : Slc) (c29 : Slc) (i30 : Int) (h31 : AHeap) : Option ((ByteArray × Int) × AHeap) :=
  (if (decide (i30 < (c29.len : Int))) = true then
  (Gx.idxL 1 c29 i30).bind fun q33 =>
  (ldI .i64 q33 h31).bind fun x34 =>
  (ref03_is k D x34 h31).bind fun r35 =>
  (if (!r35.1) = true then
  some (((⟨#[]⟩ : ByteArray), 1), r35.2)
  else
  rec32 l28 c29 (IntKind.wrap .i64 (i30 + 1)) r35.2)
  else
  j8 l28 c29 h31)
noncomputable def ref03_Mix_l1 (k : Nat) (D : CallF) (j8 : Slc → Slc → AHeap → Option ((ByteArray × Int) × AHeap)) : Slc → Slc → Int → AHeap → Option ((ByteArray × Int) × AHeap) :=
  iterK (α := Slc → Slc → Int → AHeap → Option ((ByteArray × Int) × AHeap)) (fun _ _ _ _ => none) k (ref03_Mix_l1b k D j8)
noncomputable def ref03_Mix_l0b (k : Nat) (D : CallF) (j15 : ByteArray → AHeap → Option ((ByteArray × Int) × AHeap)) (rec21 : Slc → Slc → ByteArray → Int → AHeap → Option ((ByteArray × Int) × AHeap)) (l16 : Slc) (c17 : Slc) (out18 : ByteArray) (i19 : Int) (h20 : AHeap) : Option ((ByteArray × Int) × AHeap) :=
  (if (decide (i19 < (l16.len : Int))) = true then
  (Gx.idxL 1 l16 i19).bind fun q22 =>
  (ldS q22 h20).bind fun x23 =>
  (Gx.idxL 1 c17 i19).bind fun q24 =>
  (ldI .i64 q24 h20).bind fun x25 =>
  (ref03_By k D x23 x25 h20).bind fun r26 =>
  (ref03_Add k D out18 r26.1 r26.2).bind fun r27 =>
  rec21 l16 c17 r27.1.1 (IntKind.wrap .i64 (i19 + 1)) r27.2
  else
  j15 out18 h20)
noncomputable def ref03_Mix_l0 (k : Nat) (D : CallF) (j15 : ByteArray → AHeap → Option ((ByteArray × Int) × AHeap)) : Slc → Slc → ByteArray → Int → AHeap → Option ((ByteArray × Int) × AHeap) :=
  iterK (α := Slc → Slc → ByteArray → Int → AHeap → Option ((ByteArray × Int) × AHeap)) (fun _ _ _ _ _ => none) k (ref03_Mix_l0b k D j15)
noncomputable def ref03_Mix (k : Nat) (D : CallF) (l_0 : Slc) (c_1 : Slc) (h : AHeap) : Option ((ByteArray × Int) × AHeap) :=
  (if ((l_0.len : Int) != (c_1.len : Int)) = true then
  some (((⟨#[]⟩ : ByteArray), 4), h)
  else
  joinK (fun (l1 : Slc) (c2 : Slc) (h3 : AHeap) =>
  joinK (fun (l5 : Slc) (c6 : Slc) (h7 : AHeap) =>
  (if ((l5.len : Int) == 0) = true then
  some (((⟨#[]⟩ : ByteArray), 0), h7)
  else
  (Gx.idxL 1 l5 0).bind fun q9 =>
  (ldS q9 h7).bind fun x10 =>
  (if 0 ≤ (x10.size : Int) ∧ (x10.size : Int) ≤ (x10.size : Int) ∧ (x10.size : Int) ≤ 281474976710656 ∧ 1 * (x10.size : Int) ≤ 281474976710656 then
  let h11 := AHeap.new h7 (.cells (zerosL ((x10.size : Int)).toNat [.int .u8 0]) 5 true 0)
  (bytesOf h11 (⟨(some ⟨h7.next, 0, some 0⟩), ((x10.size : Int)).toNat, ((x10.size : Int)).toNat⟩ : Slc)).bind fun s12 =>
  joinK (fun (out13 : ByteArray) (h14 : AHeap) =>
  some ((out13, 0), h14)) fun j15 =>
  ref03_Mix_l0 k D j15 l5 c6 s12 0 h11
  else none))) fun j8 =>
  ref03_Mix_l1 k D j8 l1 c2 0 h3) fun j4 =>
  ref03_Mix_l2 k D j4 l_0 c_1 0 h)
def r_ref03_Mix : RCode := .seq (.region [⟨some 4, .p (.mv (.const (.string ⟨#[]⟩))), none, none⟩,
  ⟨some 5, .p (.mv (.const (.int .i64 0))), none, none⟩])
  (.seq (.seq (.region [⟨some 10, .p (.mv (.tmp 0)), none, none⟩,
  ⟨some 11, .p (.lenL (.tmp 10)), none, none⟩,
  ⟨some 12, .p (.mv (.tmp 1)), none, none⟩,
  ⟨some 13, .p (.lenL (.tmp 12)), none, none⟩,
  ⟨some 14, .p (.bin .neq (.tmp 11) (.tmp 13)), none, none⟩])
  (.cond (.tmp 14) (.seq (.region [⟨some 4, .p (.mv (.const (.string ⟨#[]⟩))), none, none⟩,
  ⟨some 5, .p (.mv (.const (.int .i64 4))), none, none⟩])
  (.ret)) (.skip)))
  (.seq (.join [(0, .l), (1, .l)] (.seq (.region [⟨some 6, .p (.mv (.const (.int .i64 0))), none, none⟩])
  (.block 0 (.loop [(0, .l), (1, .l), (6, .i .i64)] (.seq (.seq (.region [⟨some 15, .p (.mv (.tmp 6)), none, none⟩,
  ⟨some 16, .p (.mv (.tmp 0)), none, none⟩,
  ⟨some 17, .p (.lenL (.tmp 16)), none, none⟩,
  ⟨some 18, .p (.bin .lss (.tmp 15) (.tmp 17)), none, none⟩])
  (.cond (.tmp 18) (.skip) (.exit 0)))
  (.seq (.block 1 (.seq (.draw [⟨0, ⟨some 21, .p (.mv (.tmp 0)), none, none⟩, [0], 0⟩,
  ⟨1, ⟨some 22, .p (.mv (.tmp 6)), none, none⟩, [6], 0⟩,
  ⟨2, ⟨some 23, .p (.idxL 1 (.tmp 21) (.tmp 22)), none, none⟩, [21, 22], 0⟩,
  ⟨3, ⟨some 24, .l (.load (.s) (.tmp 23)), none, none⟩, [23], 0⟩,
  ⟨4, ⟨some 25, .p (.lenS (.tmp 24)), none, none⟩, [24], 0⟩,
  ⟨5, ⟨some 26, .p (.mv (.tmp 0)), none, none⟩, [0], 0⟩,
  ⟨6, ⟨some 27, .p (.idxL 1 (.tmp 26) (.const (.int .i64 0))), none, none⟩, [26], 0⟩,
  ⟨7, ⟨some 28, .l (.load (.s) (.tmp 27)), none, none⟩, [27], 0⟩,
  ⟨8, ⟨some 29, .p (.lenS (.tmp 28)), none, none⟩, [28], 0⟩,
  ⟨9, ⟨some 30, .p (.bin .neq (.tmp 25) (.tmp 29)), none, none⟩, [25, 29], 0⟩])
  (.cond (.tmp 30) (.seq (.region [⟨some 4, .p (.mv (.const (.string ⟨#[]⟩))), none, none⟩,
  ⟨some 5, .p (.mv (.const (.int .i64 4))), none, none⟩])
  (.ret)) (.skip))))
  (.region [⟨some 19, .p (.mv (.tmp 6)), none, none⟩,
  ⟨some 20, .p (.bin .add (.tmp 19) (.const (.int .i64 1))), none, none⟩,
  ⟨some 6, .p (.mv (.tmp 20)), none, none⟩])))))))
  (.seq (.join [(0, .l), (1, .l)] (.seq (.region [⟨some 7, .p (.mv (.const (.int .i64 0))), none, none⟩])
  (.block 2 (.loop [(0, .l), (1, .l), (7, .i .i64)] (.seq (.seq (.region [⟨some 31, .p (.mv (.tmp 7)), none, none⟩,
  ⟨some 32, .p (.mv (.tmp 1)), none, none⟩,
  ⟨some 33, .p (.lenL (.tmp 32)), none, none⟩,
  ⟨some 34, .p (.bin .lss (.tmp 31) (.tmp 33)), none, none⟩])
  (.cond (.tmp 34) (.skip) (.exit 2)))
  (.seq (.block 3 (.seq (.region [⟨some 37, .p (.mv (.tmp 1)), none, none⟩,
  ⟨some 38, .p (.mv (.tmp 7)), none, none⟩,
  ⟨some 39, .p (.idxL 1 (.tmp 37) (.tmp 38)), none, none⟩,
  ⟨some 40, .l (.load (.i .i64) (.tmp 39)), none, none⟩,
  ⟨some 41, .e (.call (.func 97) [.tmp 40]), none, none⟩,
  ⟨some 42, .p (.un .not (.tmp 41)), none, none⟩])
  (.cond (.tmp 42) (.seq (.region [⟨some 4, .p (.mv (.const (.string ⟨#[]⟩))), none, none⟩,
  ⟨some 5, .p (.mv (.const (.int .i64 1))), none, none⟩])
  (.ret)) (.skip))))
  (.region [⟨some 35, .p (.mv (.tmp 7)), none, none⟩,
  ⟨some 36, .p (.bin .add (.tmp 35) (.const (.int .i64 1))), none, none⟩,
  ⟨some 7, .p (.mv (.tmp 36)), none, none⟩])))))))
  (.seq (.seq (.region [⟨some 43, .p (.mv (.tmp 0)), none, none⟩,
  ⟨some 44, .p (.lenL (.tmp 43)), none, none⟩,
  ⟨some 45, .p (.bin .eql (.tmp 44) (.const (.int .i64 0))), none, none⟩])
  (.cond (.tmp 45) (.seq (.region [⟨some 4, .p (.mv (.const (.string ⟨#[]⟩))), none, none⟩,
  ⟨some 5, .p (.mv (.const (.int .i64 0))), none, none⟩])
  (.ret)) (.skip)))
  (.seq (.region [⟨some 46, .p (.mv (.tmp 0)), none, none⟩,
  ⟨some 47, .p (.idxL 1 (.tmp 46) (.const (.int .i64 0))), none, none⟩,
  ⟨some 48, .l (.load (.s) (.tmp 47)), none, none⟩,
  ⟨some 49, .p (.lenS (.tmp 48)), none, none⟩,
  ⟨some 50, .a (.mkSlice 5 1 [.int .u8 0] (.tmp 49) (.tmp 49)), none, none⟩,
  ⟨some 51, .l (.convBS (.tmp 50)), none, none⟩,
  ⟨some 8, .p (.mv (.tmp 51)), none, none⟩])
  (.seq (.join [(8, .s)] (.seq (.region [⟨some 9, .p (.mv (.const (.int .i64 0))), none, none⟩])
  (.block 4 (.loop [(0, .l), (1, .l), (8, .s), (9, .i .i64)] (.seq (.seq (.region [⟨some 52, .p (.mv (.tmp 9)), none, none⟩,
  ⟨some 53, .p (.mv (.tmp 0)), none, none⟩,
  ⟨some 54, .p (.lenL (.tmp 53)), none, none⟩,
  ⟨some 55, .p (.bin .lss (.tmp 52) (.tmp 54)), none, none⟩])
  (.cond (.tmp 55) (.skip) (.exit 4)))
  (.seq (.block 5 (.draw [⟨1, ⟨some 60, .p (.mv (.tmp 0)), none, none⟩, [0], 0⟩,
  ⟨2, ⟨some 61, .p (.mv (.tmp 9)), none, none⟩, [9], 0⟩,
  ⟨3, ⟨some 62, .p (.idxL 1 (.tmp 60) (.tmp 61)), none, none⟩, [60, 61], 0⟩,
  ⟨4, ⟨some 63, .l (.load (.s) (.tmp 62)), none, none⟩, [62], 0⟩,
  ⟨5, ⟨some 64, .p (.mv (.tmp 1)), none, none⟩, [1], 0⟩,
  ⟨6, ⟨some 65, .p (.mv (.tmp 9)), none, none⟩, [9], 0⟩,
  ⟨7, ⟨some 66, .p (.idxL 1 (.tmp 64) (.tmp 65)), none, none⟩, [64, 65], 0⟩,
  ⟨8, ⟨some 67, .l (.load (.i .i64) (.tmp 66)), none, none⟩, [66], 0⟩,
  ⟨9, ⟨some 68, .e (.call (.func 99) [.tmp 63, .tmp 67]), none, none⟩, [63, 67], 0⟩,
  ⟨0, ⟨some 59, .p (.mv (.tmp 8)), none, none⟩, [8], 1⟩,
  ⟨10, ⟨some 69, .e (.call (.func 98) [.tmp 59, .tmp 68]), none, none⟩, [59, 68], 0⟩,
  ⟨11, ⟨some 58, .p (.mv (.tmp 69)), none, none⟩, [69], 0⟩,
  ⟨12, ⟨some 70, .p (.extract (.tmp 58) 0), none, none⟩, [58], 0⟩,
  ⟨13, ⟨some 71, .p (.extract (.tmp 58) 1), none, none⟩, [58], 0⟩,
  ⟨14, ⟨some 8, .p (.mv (.tmp 70)), none, none⟩, [70], 0⟩]))
  (.region [⟨some 56, .p (.mv (.tmp 9)), none, none⟩,
  ⟨some 57, .p (.bin .add (.tmp 56) (.const (.int .i64 1))), none, none⟩,
  ⟨some 9, .p (.mv (.tmp 57)), none, none⟩])))))))
  (.seq (.region [⟨some 72, .p (.mv (.tmp 8)), none, none⟩,
  ⟨some 4, .p (.mv (.tmp 72)), none, none⟩,
  ⟨some 5, .p (.mv (.const (.int .i64 0))), none, none⟩])
  (.ret))))))))
noncomputable def e_ref03_Mix (k : Nat) (D : CallF) : Ent := entOf 61 [(0, .l), (1, .l)] [(4, .s), (5, .i .i64)] (ref03_Mix k D)
theorem q_ref03_Mix : (Tryz.f61.body).bind (rcodeOf Tryz.prog 2 Tryz.f61.ntmps) = some (strip r_ref03_Mix) := by kernel_rfl
theorem t_ref03_Mix (k : Nat) (D : CallF) : curF [(0, .l), (1, .l)] (fun args h => denF (C_ref03_Mix k D) k r_ref03_Mix [(4, .s), (5, .i .i64)] [none, none] args h) = ref03_Mix k D := by kernel_rfl
theorem ok_ref03_Mix {D : CallF} (hD : CSound Tryz.prog 2 D) (k : Nat) : EntOk Tryz.prog 2 (e_ref03_Mix k D) :=
  entOf_ok2 (mkC_sound hD (EntsOk.more (ok_ref03_By hD k) (EntsOk.more (ok_ref03_Add hD k) (EntsOk.more (ok_ref03_is hD k) (EntsOk.none))))) Tryz.func61 rfl q_ref03_Mix rfl (t_ref03_Mix k D)
end Gz
namespace Gz
open Go Gx Go.Proofs
set_option maxRecDepth 100000
noncomputable def C_ref05_Plan_Shards (k : Nat) (D : CallF) : CallF := mkC D [e_ref05_Plan_pieces k D, e_ref05_Plan_row k D, e_ref03_Mix k D]
noncomputable def ref05_Plan_Shards_l0b (k : Nat) (D : CallF) (j7 : Slc → AHeap → Option ((Slc) × AHeap)) (rec15 : (Option Addr) → Slc → Slc → Int → AHeap → Option ((Slc) × AHeap)) (p10 : Option Addr) (l11 : Slc) (out12 : Slc) (i13 : Int) (h14 : AHeap) : Option ((Slc) × AHeap) :=
  (p10).bind fun p16 =>
  (ldI .i64 (⟨p16.block, p16.off + 0, none⟩ : Addr) h14).bind fun x17 =>
  (p10).bind fun p18 =>
  (ldI .i64 (⟨p18.block, p18.off + 1, none⟩ : Addr) h14).bind fun x19 =>
  (if (decide (i13 < (IntKind.wrap .i64 (x17 + x19)))) = true then
  (ref05_Plan_row k D p10 i13 h14).bind fun r20 =>
  (ref03_Mix k D l11 r20.1 r20.2).bind fun r21 =>
  let h22 := AHeap.new r21.2 (.cells [.string r21.1.1] 9 true 0)
  (rdS 1 (⟨(some ⟨r21.2.next, 0, some 0⟩), 1, 1⟩ : Slc) h22).bind fun n24 =>
  (appendA 1 16 9 h22 out12 n24 1).bind fun r23 =>
  rec15 p10 l11 r23.1 (IntKind.wrap .i64 (i13 + 1)) r23.2
  else
  j7 out12 h14)
noncomputable def ref05_Plan_Shards_l0 (k : Nat) (D : CallF) (j7 : Slc → AHeap → Option ((Slc) × AHeap)) : (Option Addr) → Slc → Slc → Int → AHeap → Option ((Slc) × AHeap) :=
  iterK (α := (Option Addr) → Slc → Slc → Int → AHeap → Option ((Slc) × AHeap)) (fun _ _ _ _ _ => none) k (ref05_Plan_Shards_l0b k D j7)
noncomputable def ref05_Plan_Shards (k : Nat) (D : CallF) (p_0 : Option Addr) (s_1 : ByteArray) (h : AHeap) : Option ((Slc) × AHeap) :=
  (ref05_Plan_pieces k D p_0 s_1 h).bind fun r1 =>
  let h2 := AHeap.new r1.2 (.cells [] 9 true 0)
  (rdS 1 r1.1 h2).bind fun n4 =>
  (appendA 1 16 9 h2 (⟨(some ⟨r1.2.next, 0, some 0⟩), 0, 0⟩ : Slc) n4 r1.1.len).bind fun r3 =>
  joinK (fun (out5 : Slc) (h6 : AHeap) =>
  some (out5, h6)) fun j7 =>
  (p_0).bind fun p8 =>
  (ldI .i64 (⟨p8.block, p8.off + 0, none⟩ : Addr) r3.2).bind fun x9 =>
  ref05_Plan_Shards_l0 k D j7 p_0 r1.1 r3.1 x9 r3.2
def r_ref05_Plan_Shards : RCode := .seq (.region [⟨some 4, .p (.mv (.const (.slice none 0 0))), none, none⟩])
  (.seq (.region [⟨some 10, .p (.mv (.tmp 0)), none, none⟩,
  ⟨some 11, .p (.mv (.tmp 1)), none, none⟩,
  ⟨some 12, .e (.call (.func 80) [.tmp 10, .tmp 11]), none, none⟩,
  ⟨some 5, .p (.mv (.tmp 12)), none, none⟩])
  (.seq (.region [⟨some 13, .a (.buildSlice 9 0 (zerosL 0 [.string ⟨#[]⟩]) []), none, none⟩,
  ⟨some 14, .p (.mv (.tmp 5)), none, none⟩,
  ⟨some 15, .e (.append 1 16 9 [.string ⟨#[]⟩] .slice (.tmp 13) (.tmp 14)), none, none⟩,
  ⟨some 6, .p (.mv (.tmp 15)), none, none⟩])
  (.seq (.join [(6, .l)] (.seq (.region [⟨some 16, .p (.mv (.tmp 0)), none, none⟩,
  ⟨some 17, .p (.nilP (.tmp 16)), none, none⟩,
  ⟨some 18, .p (.fieldAddr 0 (.tmp 17)), none, none⟩,
  ⟨some 19, .l (.load (.i .i64) (.tmp 18)), none, none⟩,
  ⟨some 7, .p (.mv (.tmp 19)), none, none⟩])
  (.block 0 (.loop [(0, .p), (5, .l), (6, .l), (7, .i .i64)] (.seq (.seq (.draw [⟨0, ⟨some 20, .p (.mv (.tmp 7)), none, none⟩, [7], 0⟩,
  ⟨1, ⟨some 21, .p (.mv (.tmp 0)), none, none⟩, [0], 0⟩,
  ⟨2, ⟨some 22, .p (.nilP (.tmp 21)), none, none⟩, [21], 0⟩,
  ⟨3, ⟨some 23, .p (.fieldAddr 0 (.tmp 22)), none, none⟩, [22], 0⟩,
  ⟨4, ⟨some 24, .l (.load (.i .i64) (.tmp 23)), none, none⟩, [23], 0⟩,
  ⟨5, ⟨some 25, .p (.mv (.tmp 0)), none, none⟩, [0], 0⟩,
  ⟨6, ⟨some 26, .p (.nilP (.tmp 25)), none, none⟩, [25], 0⟩,
  ⟨7, ⟨some 27, .p (.fieldAddr 1 (.tmp 26)), none, none⟩, [26], 0⟩,
  ⟨8, ⟨some 28, .l (.load (.i .i64) (.tmp 27)), none, none⟩, [27], 0⟩,
  ⟨9, ⟨some 29, .p (.bin .add (.tmp 24) (.tmp 28)), none, none⟩, [24, 28], 0⟩,
  ⟨10, ⟨some 30, .p (.bin .lss (.tmp 20) (.tmp 29)), none, none⟩, [20, 29], 0⟩])
  (.cond (.tmp 30) (.skip) (.exit 0)))
  (.seq (.block 1 (.seq (.region [⟨some 34, .p (.mv (.tmp 5)), none, none⟩,
  ⟨some 35, .p (.mv (.tmp 0)), none, none⟩,
  ⟨some 36, .p (.mv (.tmp 7)), none, none⟩,
  ⟨some 37, .e (.call (.func 81) [.tmp 35, .tmp 36]), none, none⟩,
  ⟨some 38, .e (.call (.func 61) [.tmp 34, .tmp 37]), none, none⟩,
  ⟨some 33, .p (.mv (.tmp 38)), none, none⟩,
  ⟨some 39, .p (.extract (.tmp 33) 0), none, none⟩,
  ⟨some 40, .p (.extract (.tmp 33) 1), none, none⟩,
  ⟨some 8, .p (.mv (.tmp 39)), none, none⟩,
  ⟨some 9, .p (.mv (.tmp 40)), none, none⟩])
  (.region [⟨some 41, .p (.mv (.tmp 6)), none, none⟩,
  ⟨some 42, .p (.mv (.tmp 8)), none, none⟩,
  ⟨some 43, .a (.buildSlice 9 1 (zerosL 1 [.string ⟨#[]⟩]) [(0, 1, .tmp 42)]), none, none⟩,
  ⟨some 44, .e (.append 1 16 9 [.string ⟨#[]⟩] .slice (.tmp 41) (.tmp 43)), none, none⟩,
  ⟨some 6, .p (.mv (.tmp 44)), none, none⟩])))
  (.region [⟨some 31, .p (.mv (.tmp 7)), none, none⟩,
  ⟨some 32, .p (.bin .add (.tmp 31) (.const (.int .i64 1))), none, none⟩,
  ⟨some 7, .p (.mv (.tmp 32)), none, none⟩])))))))
  (.seq (.region [⟨some 45, .p (.mv (.tmp 6)), none, none⟩,
  ⟨some 4, .p (.mv (.tmp 45)), none, none⟩])
  (.ret)))))
noncomputable def e_ref05_Plan_Shards (k : Nat) (D : CallF) : Ent := entOf 48 [(0, .p), (1, .s)] [(4, .l)] (ref05_Plan_Shards k D)
theorem q_ref05_Plan_Shards : (Tryz.f48.body).bind (rcodeOf Tryz.prog 2 Tryz.f48.ntmps) = some (strip r_ref05_Plan_Shards) := by kernel_rfl
theorem t_ref05_Plan_Shards (k : Nat) (D : CallF) : curF [(0, .p), (1, .s)] (fun args h => denF (C_ref05_Plan_Shards k D) k r_ref05_Plan_Shards [(4, .l)] [none] args h) = ref05_Plan_Shards k D := by kernel_rfl
theorem ok_ref05_Plan_Shards {D : CallF} (hD : CSound Tryz.prog 2 D) (k : Nat) : EntOk Tryz.prog 2 (e_ref05_Plan_Shards k D) :=
  entOf_ok2 (mkC_sound hD (EntsOk.more (ok_ref05_Plan_pieces hD k) (EntsOk.more (ok_ref05_Plan_row hD k) (EntsOk.more (ok_ref03_Mix hD k) (EntsOk.none))))) Tryz.func48 rfl q_ref05_Plan_Shards rfl (t_ref05_Plan_Shards k D)
end Gz
namespace Gz
open Go Gx Go.Proofs
set_option maxRecDepth 100000
noncomputable def C_ref05_Plan_Split (k : Nat) (D : CallF) : CallF := mkC D [e_ref05_Plan_Shards k D]
noncomputable def ref05_Plan_Split (k : Nat) (D : CallF) (p_0 : Option Addr) (s_1 : ByteArray) (h : AHeap) : Option ((Slc × Int) × AHeap) :=
  (if (decide ((s_1.size : Int) > 65536)) = true then
  some (((⟨none, 0, 0⟩ : Slc), 2), h)
  else
  (ref05_Plan_Shards k D p_0 s_1 h).bind fun r1 =>
  some ((r1.1, 0), r1.2))
def r_ref05_Plan_Split : RCode := .seq (.region [⟨some 4, .p (.mv (.const (.slice none 0 0))), none, none⟩,
  ⟨some 5, .p (.mv (.const (.int .i64 0))), none, none⟩])
  (.seq (.seq (.region [⟨some 6, .p (.mv (.tmp 1)), none, none⟩,
  ⟨some 7, .p (.lenS (.tmp 6)), none, none⟩,
  ⟨some 8, .p (.bin .gtr (.tmp 7) (.const (.int .i64 65536))), none, none⟩])
  (.cond (.tmp 8) (.seq (.region [⟨some 4, .p (.mv (.const (.slice none 0 0))), none, none⟩,
  ⟨some 5, .p (.mv (.const (.int .i64 2))), none, none⟩])
  (.ret)) (.skip)))
  (.seq (.region [⟨some 9, .p (.mv (.tmp 0)), none, none⟩,
  ⟨some 10, .p (.mv (.tmp 1)), none, none⟩,
  ⟨some 11, .e (.call (.func 48) [.tmp 9, .tmp 10]), none, none⟩,
  ⟨some 4, .p (.mv (.tmp 11)), none, none⟩,
  ⟨some 5, .p (.mv (.const (.int .i64 0))), none, none⟩])
  (.ret)))
noncomputable def e_ref05_Plan_Split (k : Nat) (D : CallF) : Ent := entOf 24 [(0, .p), (1, .s)] [(4, .l), (5, .i .i64)] (ref05_Plan_Split k D)
theorem q_ref05_Plan_Split : (Tryz.f24.body).bind (rcodeOf Tryz.prog 2 Tryz.f24.ntmps) = some (strip r_ref05_Plan_Split) := by kernel_rfl
theorem t_ref05_Plan_Split (k : Nat) (D : CallF) : curF [(0, .p), (1, .s)] (fun args h => denF (C_ref05_Plan_Split k D) k r_ref05_Plan_Split [(4, .l), (5, .i .i64)] [none, none] args h) = ref05_Plan_Split k D := by kernel_rfl
theorem ok_ref05_Plan_Split {D : CallF} (hD : CSound Tryz.prog 2 D) (k : Nat) : EntOk Tryz.prog 2 (e_ref05_Plan_Split k D) :=
  entOf_ok2 (mkC_sound hD (EntsOk.more (ok_ref05_Plan_Shards hD k) (EntsOk.none))) Tryz.func24 rfl q_ref05_Plan_Split rfl (t_ref05_Plan_Split k D)
end Gz
namespace Gz
open Go Gx Go.Proofs
set_option maxRecDepth 100000
noncomputable def C_ref02_turn (_k : Nat) (D : CallF) : CallF := mkC D []
noncomputable def ref02_turn (_k : Nat) (_D : CallF) (x_0 : Int) (n_1 : Int) (h : AHeap) : Option ((Int) × AHeap) :=
  (if 0 ≤ n_1 then
  (if 0 ≤ (IntKind.wrap .i64 (32 - n_1)) then
  let t1 : Int := (IntKind.wrap .u32 (x_0 * 2 ^ (min ((IntKind.wrap .i64 (32 - n_1))).toNat (IntKind.bits .u32))))
  let t2 : Int := (Go.bits .or .u32 (Int.fdiv x_0 (2 ^ (min (n_1).toNat (IntKind.bits .u32)))) t1)
  some (t2, h)
  else none)
  else none)
def r_ref02_turn : RCode := .seq (.region [⟨some 4, .p (.mv (.const (.int .u32 0))), none, none⟩])
  (.seq (.draw [⟨0, ⟨some 5, .p (.mv (.tmp 0)), none, none⟩, [0], 0⟩,
  ⟨1, ⟨some 6, .p (.mv (.tmp 1)), none, none⟩, [1], 0⟩,
  ⟨2, ⟨some 7, .p (.bin .shr (.tmp 5) (.tmp 6)), none, none⟩, [5, 6], 0⟩,
  ⟨3, ⟨some 8, .p (.mv (.tmp 0)), none, none⟩, [0], 0⟩,
  ⟨4, ⟨some 9, .p (.mv (.tmp 1)), none, none⟩, [1], 0⟩,
  ⟨5, ⟨some 10, .p (.bin .sub (.const (.int .i64 32)) (.tmp 9)), none, none⟩, [9], 0⟩,
  ⟨6, ⟨some 11, .p (.bin .shl (.tmp 8) (.tmp 10)), none, none⟩, [8, 10], 0⟩,
  ⟨7, ⟨some 12, .p (.bin .or (.tmp 7) (.tmp 11)), none, none⟩, [7, 11], 0⟩,
  ⟨8, ⟨some 4, .p (.mv (.tmp 12)), none, none⟩, [12], 0⟩])
  (.ret))
noncomputable def e_ref02_turn (k : Nat) (D : CallF) : Ent := entOf 85 [(0, .i .u32), (1, .i .i64)] [(4, .i .u32)] (ref02_turn k D)
theorem q_ref02_turn : (Tryz.f85.body).bind (rcodeOf Tryz.prog 2 Tryz.f85.ntmps) = some (strip r_ref02_turn) := by kernel_rfl
theorem t_ref02_turn (k : Nat) (D : CallF) : curF [(0, .i .u32), (1, .i .i64)] (fun args h => denF (C_ref02_turn k D) k r_ref02_turn [(4, .i .u32)] [none] args h) = ref02_turn k D := by kernel_rfl
theorem ok_ref02_turn {D : CallF} (hD : CSound Tryz.prog 2 D) (k : Nat) : EntOk Tryz.prog 2 (e_ref02_turn k D) :=
  entOf_ok2 (mkC_sound hD (EntsOk.none)) Tryz.func85 rfl q_ref02_turn rfl (t_ref02_turn k D)
end Gz
namespace Gz
open Go Gx Go.Proofs
set_option maxRecDepth 100000
noncomputable def C_ref02_words (k : Nat) (D : CallF) : CallF := mkC D [e_ref02_turn k D, e_ref01_Num k D]
noncomputable def ref02_words_l1b (k : Nat) (D : CallF) (j6 : (Option Addr) → (Option Addr) → AHeap → Option (((List Value)) × AHeap)) (rec54 : ByteArray → (Option Addr) → (Option Addr) → Int → AHeap → Option (((List Value)) × AHeap)) (s49 : ByteArray) (y50 : Option Addr) (w51 : Option Addr) (i52 : Int) (h53 : AHeap) : Option (((List Value)) × AHeap) :=
  (if (decide (i52 < 16)) = true then
  (Gx.subS s49 (some (IntKind.wrap .i64 (4 * i52))) (some (IntKind.wrap .i64 ((IntKind.wrap .i64 (4 * i52)) + 4)))).bind fun s55 =>
  (ref01_Num k D s55 h53).bind fun r56 =>
  (w51).bind fun p58 =>
  (Gx.idxA 64 1 p58 i52).bind fun q57 =>
  (st1 q57 (.int .u32 (IntKind.wrap .u32 r56.1)) r56.2).bind fun h59 =>
  rec54 s49 y50 w51 (IntKind.wrap .i64 (i52 + 1)) h59
  else
  j6 y50 w51 h53)
noncomputable def ref02_words_l1 (k : Nat) (D : CallF) (j6 : (Option Addr) → (Option Addr) → AHeap → Option (((List Value)) × AHeap)) : ByteArray → (Option Addr) → (Option Addr) → Int → AHeap → Option (((List Value)) × AHeap) :=
  iterK (α := ByteArray → (Option Addr) → (Option Addr) → Int → AHeap → Option (((List Value)) × AHeap)) (fun _ _ _ _ _ => none) k (ref02_words_l1b k D j6)
noncomputable def ref02_words_l0b (k : Nat) (D : CallF) (j10 : (Option Addr) → (Option Addr) → AHeap → Option (((List Value)) × AHeap)) (rec22 : (Option Addr) → (Option Addr) → Int → AHeap → Option (((List Value)) × AHeap)) (y18 : Option Addr) (w19 : Option Addr) (i20 : Int) (h21 : AHeap) : Option (((List Value)) × AHeap) :=
  (if (decide (i20 < 64)) = true then
  (w19).bind fun p24 =>
  (Gx.idxA 64 1 p24 (IntKind.wrap .i64 (i20 - 15))).bind fun q23 =>
  (ldI .u32 q23 h21).bind fun x25 =>
  (w19).bind fun p27 =>
  (Gx.idxA 64 1 p27 (IntKind.wrap .i64 (i20 - 2))).bind fun q26 =>
  (ldI .u32 q26 h21).bind fun x28 =>
  (ref02_turn k D x25 7 h21).bind fun r29 =>
  (ref02_turn k D x25 18 r29.2).bind fun r30 =>
  (ref02_turn k D x28 17 r30.2).bind fun r31 =>
  (ref02_turn k D x28 19 r31.2).bind fun r32 =>
  (w19).bind fun p34 =>
  (Gx.idxA 64 1 p34 (IntKind.wrap .i64 (i20 - 16))).bind fun q33 =>
  (ldI .u32 q33 r32.2).bind fun x35 =>
  guardP (SameW [r31.2, r30.2, r29.2, h21] (fun H37 => (ldI .u32 q33 H37).bind fun y36 => some (.int .u32 y36)) (.int .u32 x35)) (
  (w19).bind fun p39 =>
  (Gx.idxA 64 1 p39 (IntKind.wrap .i64 (i20 - 7))).bind fun q38 =>
  (ldI .u32 q38 r32.2).bind fun x40 =>
  guardP (SameW [r31.2, r30.2, r29.2, h21] (fun H42 => (ldI .u32 q38 H42).bind fun y41 => some (.int .u32 y41)) (.int .u32 x40)) (
  let t43 : Int := (Go.bits .xor .u32 (Go.bits .xor .u32 r29.1 r30.1) (Int.fdiv x25 8))
  let t44 : Int := (Go.bits .xor .u32 (Go.bits .xor .u32 r31.1 r32.1) (Int.fdiv x28 1024))
  let t45 : Int := (IntKind.wrap .u32 ((IntKind.wrap .u32 ((IntKind.wrap .u32 (x35 + x40)) + t43)) + t44))
  (w19).bind fun p47 =>
  (Gx.idxA 64 1 p47 i20).bind fun q46 =>
  (st1 q46 (.int .u32 t45) r32.2).bind fun h48 =>
  rec22 y18 w19 (IntKind.wrap .i64 (i20 + 1)) h48))
  else
  j10 y18 w19 h21)
noncomputable def ref02_words_l0 (k : Nat) (D : CallF) (j10 : (Option Addr) → (Option Addr) → AHeap → Option (((List Value)) × AHeap)) : (Option Addr) → (Option Addr) → Int → AHeap → Option (((List Value)) × AHeap) :=
  iterK (α := (Option Addr) → (Option Addr) → Int → AHeap → Option (((List Value)) × AHeap)) (fun _ _ _ _ => none) k (ref02_words_l0b k D j10)
noncomputable def ref02_words (k : Nat) (D : CallF) (s_0 : ByteArray) (h : AHeap) : Option (((List Value)) × AHeap) :=
  let h1 := AHeap.new h (.cells (List.replicate 64 (.int .u32 0)) 159 true 0)
  let h2 := AHeap.new h1 (.cells (List.replicate 64 (.int .u32 0)) 159 true 0)
  joinK (fun (y3 : Option Addr) (w4 : Option Addr) (h5 : AHeap) =>
  joinK (fun (y7 : Option Addr) (w8 : Option Addr) (h9 : AHeap) =>
  (w8).bind fun p11 =>
  (ldA 64 p11 h9).bind fun l12 =>
  (y7).bind fun p13 =>
  (stL 64 p13 l12 h9).bind fun h14 =>
  (y7).bind fun p15 =>
  (ldA 64 p15 h14).bind fun l16 =>
  (decA 64 (.agg ⟨l16⟩)).bind fun l17 =>
  some (l17, h14)) fun j10 =>
  ref02_words_l0 k D j10 y3 w4 16 h5) fun j6 =>
  ref02_words_l1 k D j6 s_0 (some (⟨h.next, 0, none⟩ : Addr)) (some (⟨h1.next, 0, none⟩ : Addr)) 0 h2
def r_ref02_words : RCode := .seq (.region [⟨some 2, .a (.alloc 159 (List.replicate 64 (.int .u32 0))), none, none⟩])
  (.seq (.region [⟨some 3, .a (.alloc 159 (List.replicate 64 (.int .u32 0))), none, none⟩])
  (.seq (.join [(2, .p), (3, .p)] (.seq (.region [⟨some 4, .p (.mv (.const (.int .i64 0))), none, none⟩])
  (.block 0 (.loop [(0, .s), (2, .p), (3, .p), (4, .i .i64)] (.seq (.seq (.region [⟨some 8, .p (.mv (.tmp 4)), none, none⟩,
  ⟨some 9, .p (.bin .lss (.tmp 8) (.const (.int .i64 16))), none, none⟩])
  (.cond (.tmp 9) (.skip) (.exit 0)))
  (.seq (.block 1 (.region [⟨some 12, .p (.mv (.tmp 4)), none, none⟩,
  ⟨some 13, .p (.mv (.tmp 0)), none, none⟩,
  ⟨some 14, .p (.mv (.tmp 4)), none, none⟩,
  ⟨some 15, .p (.bin .mul (.const (.int .i64 4)) (.tmp 14)), none, none⟩,
  ⟨some 16, .p (.mv (.tmp 4)), none, none⟩,
  ⟨some 17, .p (.bin .mul (.const (.int .i64 4)) (.tmp 16)), none, none⟩,
  ⟨some 18, .p (.bin .add (.tmp 17) (.const (.int .i64 4))), none, none⟩,
  ⟨some 19, .p (.subS (.tmp 13) (some (.tmp 15)) (some (.tmp 18))), none, none⟩,
  ⟨some 20, .e (.call (.func 110) [.tmp 19]), none, none⟩,
  ⟨some 21, .p (.convI .u32 (.tmp 20)), none, none⟩,
  ⟨some 22, .p (.idxA 64 1 (.tmp 3) (.tmp 12)), none, none⟩,
  ⟨none, .e (.store none (.tmp 22) (.tmp 21)), none, none⟩]))
  (.region [⟨some 10, .p (.mv (.tmp 4)), none, none⟩,
  ⟨some 11, .p (.bin .add (.tmp 10) (.const (.int .i64 1))), none, none⟩,
  ⟨some 4, .p (.mv (.tmp 11)), none, none⟩])))))))
  (.seq (.join [(2, .p), (3, .p)] (.seq (.region [⟨some 5, .p (.mv (.const (.int .i64 16))), none, none⟩])
  (.block 2 (.loop [(2, .p), (3, .p), (5, .i .i64)] (.seq (.seq (.region [⟨some 23, .p (.mv (.tmp 5)), none, none⟩,
  ⟨some 24, .p (.bin .lss (.tmp 23) (.const (.int .i64 64))), none, none⟩])
  (.cond (.tmp 24) (.skip) (.exit 2)))
  (.seq (.block 3 (.seq (.draw [⟨0, ⟨some 27, .p (.mv (.tmp 5)), none, none⟩, [5], 0⟩,
  ⟨1, ⟨some 28, .p (.bin .sub (.tmp 27) (.const (.int .i64 15))), none, none⟩, [27], 0⟩,
  ⟨2, ⟨some 29, .p (.idxA 64 1 (.tmp 3) (.tmp 28)), none, none⟩, [3, 28], 0⟩,
  ⟨3, ⟨some 30, .l (.load (.i .u32) (.tmp 29)), none, none⟩, [29], 0⟩,
  ⟨4, ⟨some 31, .p (.mv (.tmp 5)), none, none⟩, [5], 0⟩,
  ⟨5, ⟨some 32, .p (.bin .sub (.tmp 31) (.const (.int .i64 2))), none, none⟩, [31], 0⟩,
  ⟨6, ⟨some 33, .p (.idxA 64 1 (.tmp 3) (.tmp 32)), none, none⟩, [3, 32], 0⟩,
  ⟨7, ⟨some 34, .l (.load (.i .u32) (.tmp 33)), none, none⟩, [33], 0⟩,
  ⟨8, ⟨some 6, .p (.mv (.tmp 30)), none, none⟩, [30], 0⟩,
  ⟨9, ⟨some 7, .p (.mv (.tmp 34)), none, none⟩, [34], 0⟩])
  (.draw [⟨10, ⟨some 45, .p (.mv (.tmp 6)), none, none⟩, [6], 0⟩,
  ⟨11, ⟨some 46, .e (.call (.func 85) [.tmp 45, .const (.int .i64 7)]), none, none⟩, [45], 0⟩,
  ⟨12, ⟨some 47, .p (.mv (.tmp 6)), none, none⟩, [6], 1⟩,
  ⟨13, ⟨some 48, .e (.call (.func 85) [.tmp 47, .const (.int .i64 18)]), none, none⟩, [47], 0⟩,
  ⟨19, ⟨some 54, .p (.mv (.tmp 7)), none, none⟩, [7], 2⟩,
  ⟨20, ⟨some 55, .e (.call (.func 85) [.tmp 54, .const (.int .i64 17)]), none, none⟩, [54], 0⟩,
  ⟨21, ⟨some 56, .p (.mv (.tmp 7)), none, none⟩, [7], 3⟩,
  ⟨22, ⟨some 57, .e (.call (.func 85) [.tmp 56, .const (.int .i64 19)]), none, none⟩, [56], 0⟩,
  ⟨0, ⟨some 35, .p (.mv (.tmp 5)), none, none⟩, [5], 4⟩,
  ⟨1, ⟨some 36, .p (.mv (.tmp 5)), none, none⟩, [5], 4⟩,
  ⟨2, ⟨some 37, .p (.bin .sub (.tmp 36) (.const (.int .i64 16))), none, none⟩, [36], 4⟩,
  ⟨3, ⟨some 38, .p (.idxA 64 1 (.tmp 3) (.tmp 37)), none, none⟩, [3, 37], 4⟩,
  ⟨4, ⟨some 39, .l (.load (.i .u32) (.tmp 38)), none, none⟩, [38], 4⟩,
  ⟨5, ⟨some 40, .p (.mv (.tmp 5)), none, none⟩, [5], 4⟩,
  ⟨6, ⟨some 41, .p (.bin .sub (.tmp 40) (.const (.int .i64 7))), none, none⟩, [40], 4⟩,
  ⟨7, ⟨some 42, .p (.idxA 64 1 (.tmp 3) (.tmp 41)), none, none⟩, [3, 41], 4⟩,
  ⟨8, ⟨some 43, .l (.load (.i .u32) (.tmp 42)), none, none⟩, [42], 4⟩,
  ⟨9, ⟨some 44, .p (.bin .add (.tmp 39) (.tmp 43)), none, none⟩, [39, 43], 4⟩,
  ⟨14, ⟨some 49, .p (.bin .xor (.tmp 46) (.tmp 48)), none, none⟩, [46, 48], 2⟩,
  ⟨15, ⟨some 50, .p (.mv (.tmp 6)), none, none⟩, [6], 4⟩,
  ⟨16, ⟨some 51, .p (.bin .shr (.tmp 50) (.const (.int .u64 3))), none, none⟩, [50], 4⟩,
  ⟨17, ⟨some 52, .p (.bin .xor (.tmp 49) (.tmp 51)), none, none⟩, [49, 51], 2⟩,
  ⟨18, ⟨some 53, .p (.bin .add (.tmp 44) (.tmp 52)), none, none⟩, [44, 52], 2⟩,
  ⟨23, ⟨some 58, .p (.bin .xor (.tmp 55) (.tmp 57)), none, none⟩, [55, 57], 0⟩,
  ⟨24, ⟨some 59, .p (.mv (.tmp 7)), none, none⟩, [7], 4⟩,
  ⟨25, ⟨some 60, .p (.bin .shr (.tmp 59) (.const (.int .u64 10))), none, none⟩, [59], 4⟩,
  ⟨26, ⟨some 61, .p (.bin .xor (.tmp 58) (.tmp 60)), none, none⟩, [58, 60], 0⟩,
  ⟨27, ⟨some 62, .p (.bin .add (.tmp 53) (.tmp 61)), none, none⟩, [53, 61], 0⟩,
  ⟨28, ⟨some 63, .p (.idxA 64 1 (.tmp 3) (.tmp 35)), none, none⟩, [3, 35], 0⟩,
  ⟨29, ⟨none, .e (.store none (.tmp 63) (.tmp 62)), none, none⟩, [63, 62], 0⟩])))
  (.region [⟨some 25, .p (.mv (.tmp 5)), none, none⟩,
  ⟨some 26, .p (.bin .add (.tmp 25) (.const (.int .i64 1))), none, none⟩,
  ⟨some 5, .p (.mv (.tmp 26)), none, none⟩])))))))
  (.seq (.region [⟨some 64, .l (.load (.agg 64) (.tmp 3)), none, none⟩,
  ⟨none, .e (.store (some 64) (.tmp 2) (.tmp 64)), none, none⟩])
  (.ret)))))
noncomputable def e_ref02_words (k : Nat) (D : CallF) : Ent := entOf 83 [(0, .s)] [(2, .agg 64)] (ref02_words k D)
theorem q_ref02_words : (Tryz.f83.body).bind (rcodeOf Tryz.prog 2 Tryz.f83.ntmps) = some (strip r_ref02_words) := by kernel_rfl
theorem t_ref02_words (k : Nat) (D : CallF) : curF [(0, .s)] (fun args h => denF (C_ref02_words k D) k r_ref02_words [(2, .agg 64)] [some (.agg 64)] args h) = ref02_words k D := by kernel_rfl
theorem ok_ref02_words {D : CallF} (hD : CSound Tryz.prog 2 D) (k : Nat) : EntOk Tryz.prog 2 (e_ref02_words k D) :=
  entOf_ok2 (mkC_sound hD (EntsOk.more (ok_ref02_turn hD k) (EntsOk.more (ok_ref01_Num hD k) (EntsOk.none)))) Tryz.func83 rfl q_ref02_words rfl (t_ref02_words k D)
end Gz
namespace Gz
open Go Gx Go.Proofs
set_option maxRecDepth 100000
noncomputable def C_ref02_constants (_k : Nat) (D : CallF) : CallF := mkC D []
noncomputable def ref02_constants (_k : Nat) (_D : CallF)  (h : AHeap) : Option (((List Value)) × AHeap) :=
  let h1 := AHeap.new h (.cells (List.replicate 64 (.int .u32 0)) 159 true 0)
  (stL 64 (⟨h.next, 0, none⟩ : Addr) ([.int .u32 1116352408, .int .u32 1899447441, .int .u32 3049323471, .int .u32 3921009573, .int .u32 961987163, .int .u32 1508970993, .int .u32 2453635748, .int .u32 2870763221, .int .u32 3624381080, .int .u32 310598401, .int .u32 607225278, .int .u32 1426881987, .int .u32 1925078388, .int .u32 2162078206, .int .u32 2614888103, .int .u32 3248222580, .int .u32 3835390401, .int .u32 4022224774, .int .u32 264347078, .int .u32 604807628, .int .u32 770255983, .int .u32 1249150122, .int .u32 1555081692, .int .u32 1996064986, .int .u32 2554220882, .int .u32 2821834349, .int .u32 2952996808, .int .u32 3210313671, .int .u32 3336571891, .int .u32 3584528711, .int .u32 113926993, .int .u32 338241895, .int .u32 666307205, .int .u32 773529912, .int .u32 1294757372, .int .u32 1396182291, .int .u32 1695183700, .int .u32 1986661051, .int .u32 2177026350, .int .u32 2456956037, .int .u32 2730485921, .int .u32 2820302411, .int .u32 3259730800, .int .u32 3345764771, .int .u32 3516065817, .int .u32 3600352804, .int .u32 4094571909, .int .u32 275423344, .int .u32 430227734, .int .u32 506948616, .int .u32 659060556, .int .u32 883997877, .int .u32 958139571, .int .u32 1322822218, .int .u32 1537002063, .int .u32 1747873779, .int .u32 1955562222, .int .u32 2024104815, .int .u32 2227730452, .int .u32 2361852424, .int .u32 2428436474, .int .u32 2756734187, .int .u32 3204031479, .int .u32 3329325298]) h1).bind fun h2 =>
  (ldA 64 (⟨h.next, 0, none⟩ : Addr) h2).bind fun l3 =>
  (decA 64 (.agg ⟨l3⟩)).bind fun l4 =>
  some (l4, h2)
def r_ref02_constants : RCode := .seq (.region [⟨some 0, .a (.alloc 159 (List.replicate 64 (.int .u32 0))), none, none⟩])
  (.seq (.region [⟨some 1, .p (.build (List.replicate 64 (.int .u32 0)) [(0, 1, .const (.int .u32 1116352408)), (1, 1, .const (.int .u32 1899447441)), (2, 1, .const (.int .u32 3049323471)), (3, 1, .const (.int .u32 3921009573)), (4, 1, .const (.int .u32 961987163)), (5, 1, .const (.int .u32 1508970993)), (6, 1, .const (.int .u32 2453635748)), (7, 1, .const (.int .u32 2870763221)), (8, 1, .const (.int .u32 3624381080)), (9, 1, .const (.int .u32 310598401)), (10, 1, .const (.int .u32 607225278)), (11, 1, .const (.int .u32 1426881987)), (12, 1, .const (.int .u32 1925078388)), (13, 1, .const (.int .u32 2162078206)), (14, 1, .const (.int .u32 2614888103)), (15, 1, .const (.int .u32 3248222580)), (16, 1, .const (.int .u32 3835390401)), (17, 1, .const (.int .u32 4022224774)), (18, 1, .const (.int .u32 264347078)), (19, 1, .const (.int .u32 604807628)), (20, 1, .const (.int .u32 770255983)), (21, 1, .const (.int .u32 1249150122)), (22, 1, .const (.int .u32 1555081692)), (23, 1, .const (.int .u32 1996064986)), (24, 1, .const (.int .u32 2554220882)), (25, 1, .const (.int .u32 2821834349)), (26, 1, .const (.int .u32 2952996808)), (27, 1, .const (.int .u32 3210313671)), (28, 1, .const (.int .u32 3336571891)), (29, 1, .const (.int .u32 3584528711)), (30, 1, .const (.int .u32 113926993)), (31, 1, .const (.int .u32 338241895)), (32, 1, .const (.int .u32 666307205)), (33, 1, .const (.int .u32 773529912)), (34, 1, .const (.int .u32 1294757372)), (35, 1, .const (.int .u32 1396182291)), (36, 1, .const (.int .u32 1695183700)), (37, 1, .const (.int .u32 1986661051)), (38, 1, .const (.int .u32 2177026350)), (39, 1, .const (.int .u32 2456956037)), (40, 1, .const (.int .u32 2730485921)), (41, 1, .const (.int .u32 2820302411)), (42, 1, .const (.int .u32 3259730800)), (43, 1, .const (.int .u32 3345764771)), (44, 1, .const (.int .u32 3516065817)), (45, 1, .const (.int .u32 3600352804)), (46, 1, .const (.int .u32 4094571909)), (47, 1, .const (.int .u32 275423344)), (48, 1, .const (.int .u32 430227734)), (49, 1, .const (.int .u32 506948616)), (50, 1, .const (.int .u32 659060556)), (51, 1, .const (.int .u32 883997877)), (52, 1, .const (.int .u32 958139571)), (53, 1, .const (.int .u32 1322822218)), (54, 1, .const (.int .u32 1537002063)), (55, 1, .const (.int .u32 1747873779)), (56, 1, .const (.int .u32 1955562222)), (57, 1, .const (.int .u32 2024104815)), (58, 1, .const (.int .u32 2227730452)), (59, 1, .const (.int .u32 2361852424)), (60, 1, .const (.int .u32 2428436474)), (61, 1, .const (.int .u32 2756734187)), (62, 1, .const (.int .u32 3204031479)), (63, 1, .const (.int .u32 3329325298))]), none, none⟩,
  ⟨none, .e (.store (some 64) (.tmp 0) (.tmp 1)), none, none⟩])
  (.ret))
noncomputable def e_ref02_constants (k : Nat) (D : CallF) : Ent := entOf 84 [] [(0, .agg 64)] (ref02_constants k D)
theorem q_ref02_constants : (Tryz.f84.body).bind (rcodeOf Tryz.prog 2 Tryz.f84.ntmps) = some (strip r_ref02_constants) := by kernel_rfl
theorem t_ref02_constants (k : Nat) (D : CallF) : curF [] (fun args h => denF (C_ref02_constants k D) k r_ref02_constants [(0, .agg 64)] [some (.agg 64)] args h) = ref02_constants k D := by kernel_rfl
theorem ok_ref02_constants {D : CallF} (hD : CSound Tryz.prog 2 D) (k : Nat) : EntOk Tryz.prog 2 (e_ref02_constants k D) :=
  entOf_ok2 (mkC_sound hD (EntsOk.none)) Tryz.func84 rfl q_ref02_constants rfl (t_ref02_constants k D)
end Gz
namespace Gz
open Go Gx Go.Proofs
set_option maxRecDepth 100000
noncomputable def C_ref02_take (k : Nat) (D : CallF) : CallF := mkC D [e_ref02_words k D, e_ref02_constants k D, e_ref02_turn k D]
noncomputable def ref02_take_l1b (k : Nat) (D : CallF) (j17 : (Option Addr) → (Option Addr) → (Option Addr) → AHeap → Option (((Int × Int × Int × Int × Int × Int × Int × Int)) × AHeap)) (rec52 : (Option Addr) → (Option Addr) → (Option Addr) → (Option Addr) → (Option Addr) → Int → AHeap → Option (((Int × Int × Int × Int × Int × Int × Int × Int)) × AHeap)) (l45 : Option Addr) (y46 : Option Addr) (w47 : Option Addr) (kv48 : Option Addr) (v49 : Option Addr) (i50 : Int) (h51 : AHeap) : Option (((Int × Int × Int × Int × Int × Int × Int × Int)) × AHeap) :=
  (if (decide (i50 < 64)) = true then
  (v49).bind fun p54 =>
  (ldI .u32 (⟨p54.block, p54.off + 0, none⟩ : Addr) h51).bind fun x55 =>
  (v49).bind fun p57 =>
  (ldI .u32 (⟨p57.block, p57.off + 1, none⟩ : Addr) h51).bind fun x58 =>
  (v49).bind fun p60 =>
  (ldI .u32 (⟨p60.block, p60.off + 2, none⟩ : Addr) h51).bind fun x61 =>
  (v49).bind fun p63 =>
  (ldI .u32 (⟨p63.block, p63.off + 4, none⟩ : Addr) h51).bind fun x64 =>
  (v49).bind fun p66 =>
  (ldI .u32 (⟨p66.block, p66.off + 5, none⟩ : Addr) h51).bind fun x67 =>
  (v49).bind fun p69 =>
  (ldI .u32 (⟨p69.block, p69.off + 6, none⟩ : Addr) h51).bind fun x70 =>
  (ref02_turn k D x64 6 h51).bind fun r71 =>
  (ref02_turn k D x64 11 r71.2).bind fun r72 =>
  (ref02_turn k D x64 25 r72.2).bind fun r73 =>
  (v49).bind fun p75 =>
  (ldI .u32 (⟨p75.block, p75.off + 7, none⟩ : Addr) r73.2).bind fun x76 =>
  guardP (SameW [r72.2, r71.2, h51] (fun H78 => (ldI .u32 (⟨p75.block, p75.off + 7, none⟩ : Addr) H78).bind fun y77 => some (.int .u32 y77)) (.int .u32 x76)) (
  let t79 : Int := (IntKind.wrap .u32 (x76 + (Go.bits .xor .u32 (Go.bits .xor .u32 r71.1 r72.1) r73.1)))
  let t80 : Int := (Go.bits .xor .u32 (Go.bits .and .u32 x64 x67) (Go.bits .andNot .u32 x70 x64))
  (kv48).bind fun p82 =>
  (Gx.idxA 64 1 p82 i50).bind fun q81 =>
  (ldI .u32 q81 r73.2).bind fun x83 =>
  guardP (SameW [r72.2, r71.2, h51] (fun H85 => (ldI .u32 q81 H85).bind fun y84 => some (.int .u32 y84)) (.int .u32 x83)) (
  (w47).bind fun p87 =>
  (Gx.idxA 64 1 p87 i50).bind fun q86 =>
  (ldI .u32 q86 r73.2).bind fun x88 =>
  guardP (SameW [r72.2, r71.2, h51] (fun H90 => (ldI .u32 q86 H90).bind fun y89 => some (.int .u32 y89)) (.int .u32 x88)) (
  let t91 : Int := (IntKind.wrap .u32 ((IntKind.wrap .u32 ((IntKind.wrap .u32 (t79 + t80)) + x83)) + x88))
  (ref02_turn k D x55 2 r73.2).bind fun r92 =>
  (ref02_turn k D x55 13 r92.2).bind fun r93 =>
  (ref02_turn k D x55 22 r93.2).bind fun r94 =>
  let t95 : Int := (Go.bits .xor .u32 (Go.bits .and .u32 x55 x58) (Go.bits .and .u32 x55 x61))
  let t96 : Int := (IntKind.wrap .u32 ((Go.bits .xor .u32 (Go.bits .xor .u32 r92.1 r93.1) r94.1) + (Go.bits .xor .u32 t95 (Go.bits .and .u32 x58 x61))))
  (v49).bind fun p98 =>
  (ldI .u32 (⟨p98.block, p98.off + 3, none⟩ : Addr) r94.2).bind fun x99 =>
  (v49).bind fun p100 =>
  (stL 8 p100 ([.int .u32 (IntKind.wrap .u32 (t91 + t96)), .int .u32 x55, .int .u32 x58, .int .u32 x61, .int .u32 (IntKind.wrap .u32 (x99 + t91)), .int .u32 x64, .int .u32 x67, .int .u32 x70]) r94.2).bind fun h101 =>
  rec52 l45 y46 w47 kv48 v49 (IntKind.wrap .i64 (i50 + 1)) h101)))
  else
  j17 l45 y46 v49 h51)
noncomputable def ref02_take_l1 (k : Nat) (D : CallF) (j17 : (Option Addr) → (Option Addr) → (Option Addr) → AHeap → Option (((Int × Int × Int × Int × Int × Int × Int × Int)) × AHeap)) : (Option Addr) → (Option Addr) → (Option Addr) → (Option Addr) → (Option Addr) → Int → AHeap → Option (((Int × Int × Int × Int × Int × Int × Int × Int)) × AHeap) :=
  iterK (α := (Option Addr) → (Option Addr) → (Option Addr) → (Option Addr) → (Option Addr) → Int → AHeap → Option (((Int × Int × Int × Int × Int × Int × Int × Int)) × AHeap)) (fun _ _ _ _ _ _ _ => none) k (ref02_take_l1b k D j17)
noncomputable def ref02_take_l0b (_k : Nat) (_D : CallF) (j21 : (Option Addr) → (Option Addr) → AHeap → Option (((Int × Int × Int × Int × Int × Int × Int × Int)) × AHeap)) (rec35 : (Option Addr) → (Option Addr) → (Option Addr) → Int → AHeap → Option (((Int × Int × Int × Int × Int × Int × Int × Int)) × AHeap)) (l30 : Option Addr) (y31 : Option Addr) (v32 : Option Addr) (i33 : Int) (h34 : AHeap) : Option (((Int × Int × Int × Int × Int × Int × Int × Int)) × AHeap) :=
  (if (decide (i33 < 8)) = true then
  (l30).bind fun p37 =>
  (Gx.idxA 8 1 p37 i33).bind fun q36 =>
  (ldI .u32 q36 h34).bind fun x38 =>
  (v32).bind fun p40 =>
  (Gx.idxA 8 1 p40 i33).bind fun q39 =>
  (ldI .u32 q39 h34).bind fun x41 =>
  (l30).bind fun p43 =>
  (Gx.idxA 8 1 p43 i33).bind fun q42 =>
  (st1 q42 (.int .u32 (IntKind.wrap .u32 (x38 + x41))) h34).bind fun h44 =>
  rec35 l30 y31 v32 (IntKind.wrap .i64 (i33 + 1)) h44
  else
  j21 l30 y31 h34)
noncomputable def ref02_take_l0 (k : Nat) (D : CallF) (j21 : (Option Addr) → (Option Addr) → AHeap → Option (((Int × Int × Int × Int × Int × Int × Int × Int)) × AHeap)) : (Option Addr) → (Option Addr) → (Option Addr) → Int → AHeap → Option (((Int × Int × Int × Int × Int × Int × Int × Int)) × AHeap) :=
  iterK (α := (Option Addr) → (Option Addr) → (Option Addr) → Int → AHeap → Option (((Int × Int × Int × Int × Int × Int × Int × Int)) × AHeap)) (fun _ _ _ _ _ => none) k (ref02_take_l0b k D j21)
noncomputable def ref02_take (k : Nat) (D : CallF) (l_0 : Int × Int × Int × Int × Int × Int × Int × Int) (s_1 : ByteArray) (h : AHeap) : Option (((Int × Int × Int × Int × Int × Int × Int × Int)) × AHeap) :=
  let h1 := AHeap.new h (.cells [.int .u32 l_0.1, .int .u32 l_0.2.1, .int .u32 l_0.2.2.1, .int .u32 l_0.2.2.2.1, .int .u32 l_0.2.2.2.2.1, .int .u32 l_0.2.2.2.2.2.1, .int .u32 l_0.2.2.2.2.2.2.1, .int .u32 l_0.2.2.2.2.2.2.2] 104 true 0)
  let h2 := AHeap.new h1 (.cells [.int .u32 0, .int .u32 0, .int .u32 0, .int .u32 0, .int .u32 0, .int .u32 0, .int .u32 0, .int .u32 0] 104 true 0)
  (ref02_words k D s_1 h2).bind fun r3 =>
  let h4 := AHeap.new r3.2 (.cells (List.replicate 64 (.int .u32 0)) 159 true 0)
  (stL 64 (⟨r3.2.next, 0, none⟩ : Addr) r3.1 h4).bind fun h5 =>
  (ref02_constants k D h5).bind fun r6 =>
  let h7 := AHeap.new r6.2 (.cells (List.replicate 64 (.int .u32 0)) 159 true 0)
  (stL 64 (⟨r6.2.next, 0, none⟩ : Addr) r6.1 h7).bind fun h8 =>
  (ldA 8 (⟨h.next, 0, none⟩ : Addr) h8).bind fun l9 =>
  (decC [.i .u32, .i .u32, .i .u32, .i .u32, .i .u32, .i .u32, .i .u32, .i .u32] l9).bind fun x10 =>
  let h11 := AHeap.new h8 (.cells [.int .u32 0, .int .u32 0, .int .u32 0, .int .u32 0, .int .u32 0, .int .u32 0, .int .u32 0, .int .u32 0] 104 true 0)
  (stL 8 (⟨h8.next, 0, none⟩ : Addr) ([.int .u32 x10.1, .int .u32 x10.2.1, .int .u32 x10.2.2.1, .int .u32 x10.2.2.2.1, .int .u32 x10.2.2.2.2.1, .int .u32 x10.2.2.2.2.2.1, .int .u32 x10.2.2.2.2.2.2.1, .int .u32 x10.2.2.2.2.2.2.2]) h11).bind fun h12 =>
  joinK (fun (l13 : Option Addr) (y14 : Option Addr) (v15 : Option Addr) (h16 : AHeap) =>
  joinK (fun (l18 : Option Addr) (y19 : Option Addr) (h20 : AHeap) =>
  (l18).bind fun p22 =>
  (ldA 8 p22 h20).bind fun l23 =>
  (decC [.i .u32, .i .u32, .i .u32, .i .u32, .i .u32, .i .u32, .i .u32, .i .u32] l23).bind fun x24 =>
  (y19).bind fun p25 =>
  (stL 8 p25 ([.int .u32 x24.1, .int .u32 x24.2.1, .int .u32 x24.2.2.1, .int .u32 x24.2.2.2.1, .int .u32 x24.2.2.2.2.1, .int .u32 x24.2.2.2.2.2.1, .int .u32 x24.2.2.2.2.2.2.1, .int .u32 x24.2.2.2.2.2.2.2]) h20).bind fun h26 =>
  (y19).bind fun p27 =>
  (ldA 8 p27 h26).bind fun l28 =>
  (decC [.i .u32, .i .u32, .i .u32, .i .u32, .i .u32, .i .u32, .i .u32, .i .u32] l28).bind fun x29 =>
  some ((x29.1, x29.2.1, x29.2.2.1, x29.2.2.2.1, x29.2.2.2.2.1, x29.2.2.2.2.2.1, x29.2.2.2.2.2.2.1, x29.2.2.2.2.2.2.2), h26)) fun j21 =>
  ref02_take_l0 k D j21 l13 y14 v15 0 h16) fun j17 =>
  ref02_take_l1 k D j17 (some (⟨h.next, 0, none⟩ : Addr)) (some (⟨h1.next, 0, none⟩ : Addr)) (some (⟨r3.2.next, 0, none⟩ : Addr)) (some (⟨r6.2.next, 0, none⟩ : Addr)) (some (⟨h8.next, 0, none⟩ : Addr)) 0 h12
def r_ref02_take : RCode := .seq (.region [⟨some 2, .a (.box 104 (.tmp 0)), none, none⟩,
  ⟨some 4, .a (.alloc 104 [.int .u32 0, .int .u32 0, .int .u32 0, .int .u32 0, .int .u32 0, .int .u32 0, .int .u32 0, .int .u32 0]), none, none⟩])
  (.seq (.region [⟨some 18, .p (.mv (.tmp 1)), none, none⟩,
  ⟨some 19, .e (.call (.func 83) [.tmp 18]), none, none⟩,
  ⟨some 5, .a (.alloc 159 (List.replicate 64 (.int .u32 0))), none, none⟩,
  ⟨none, .e (.store (some 64) (.tmp 5) (.tmp 19)), none, none⟩])
  (.seq (.region [⟨some 20, .e (.call (.func 84) []), none, none⟩,
  ⟨some 6, .a (.alloc 159 (List.replicate 64 (.int .u32 0))), none, none⟩,
  ⟨none, .e (.store (some 64) (.tmp 6) (.tmp 20)), none, none⟩])
  (.seq (.region [⟨some 21, .l (.load (.agg 8) (.tmp 2)), none, some (.st [.i .u32, .i .u32, .i .u32, .i .u32, .i .u32, .i .u32, .i .u32, .i .u32])⟩,
  ⟨some 7, .a (.alloc 104 [.int .u32 0, .int .u32 0, .int .u32 0, .int .u32 0, .int .u32 0, .int .u32 0, .int .u32 0, .int .u32 0]), none, none⟩,
  ⟨none, .e (.store (some 8) (.tmp 7) (.tmp 21)), none, none⟩])
  (.seq (.join [(2, .p), (4, .p), (7, .p)] (.seq (.region [⟨some 8, .p (.mv (.const (.int .i64 0))), none, none⟩])
  (.block 0 (.loop [(2, .p), (4, .p), (5, .p), (6, .p), (7, .p), (8, .i .i64)] (.seq (.seq (.region [⟨some 22, .p (.mv (.tmp 8)), none, none⟩,
  ⟨some 23, .p (.bin .lss (.tmp 22) (.const (.int .i64 64))), none, none⟩])
  (.cond (.tmp 23) (.skip) (.exit 0)))
  (.seq (.block 1 (.seq (.draw [⟨0, ⟨some 26, .p (.idxA 8 1 (.tmp 7) (.const (.int .i64 0))), none, none⟩, [7], 0⟩,
  ⟨1, ⟨some 27, .l (.load (.i .u32) (.tmp 26)), none, none⟩, [26], 0⟩,
  ⟨2, ⟨some 28, .p (.idxA 8 1 (.tmp 7) (.const (.int .i64 1))), none, none⟩, [7], 0⟩,
  ⟨3, ⟨some 29, .l (.load (.i .u32) (.tmp 28)), none, none⟩, [28], 0⟩,
  ⟨4, ⟨some 30, .p (.idxA 8 1 (.tmp 7) (.const (.int .i64 2))), none, none⟩, [7], 0⟩,
  ⟨5, ⟨some 31, .l (.load (.i .u32) (.tmp 30)), none, none⟩, [30], 0⟩,
  ⟨6, ⟨some 32, .p (.idxA 8 1 (.tmp 7) (.const (.int .i64 4))), none, none⟩, [7], 0⟩,
  ⟨7, ⟨some 33, .l (.load (.i .u32) (.tmp 32)), none, none⟩, [32], 0⟩,
  ⟨8, ⟨some 34, .p (.idxA 8 1 (.tmp 7) (.const (.int .i64 5))), none, none⟩, [7], 0⟩,
  ⟨9, ⟨some 35, .l (.load (.i .u32) (.tmp 34)), none, none⟩, [34], 0⟩,
  ⟨10, ⟨some 36, .p (.idxA 8 1 (.tmp 7) (.const (.int .i64 6))), none, none⟩, [7], 0⟩,
  ⟨11, ⟨some 37, .l (.load (.i .u32) (.tmp 36)), none, none⟩, [36], 0⟩,
  ⟨12, ⟨some 9, .p (.mv (.tmp 27)), none, none⟩, [27], 0⟩,
  ⟨13, ⟨some 10, .p (.mv (.tmp 29)), none, none⟩, [29], 0⟩,
  ⟨14, ⟨some 11, .p (.mv (.tmp 31)), none, none⟩, [31], 0⟩,
  ⟨15, ⟨some 12, .p (.mv (.tmp 33)), none, none⟩, [33], 0⟩,
  ⟨16, ⟨some 13, .p (.mv (.tmp 35)), none, none⟩, [35], 0⟩,
  ⟨17, ⟨some 14, .p (.mv (.tmp 37)), none, none⟩, [37], 0⟩])
  (.seq (.draw [⟨2, ⟨some 40, .p (.mv (.tmp 12)), none, none⟩, [12], 0⟩,
  ⟨3, ⟨some 41, .e (.call (.func 85) [.tmp 40, .const (.int .i64 6)]), none, none⟩, [40], 0⟩,
  ⟨4, ⟨some 42, .p (.mv (.tmp 12)), none, none⟩, [12], 1⟩,
  ⟨5, ⟨some 43, .e (.call (.func 85) [.tmp 42, .const (.int .i64 11)]), none, none⟩, [42], 0⟩,
  ⟨7, ⟨some 45, .p (.mv (.tmp 12)), none, none⟩, [12], 2⟩,
  ⟨8, ⟨some 46, .e (.call (.func 85) [.tmp 45, .const (.int .i64 25)]), none, none⟩, [45], 0⟩,
  ⟨0, ⟨some 38, .p (.idxA 8 1 (.tmp 7) (.const (.int .i64 7))), none, none⟩, [7], 3⟩,
  ⟨1, ⟨some 39, .l (.load (.i .u32) (.tmp 38)), none, none⟩, [38], 3⟩,
  ⟨6, ⟨some 44, .p (.bin .xor (.tmp 41) (.tmp 43)), none, none⟩, [41, 43], 1⟩,
  ⟨9, ⟨some 47, .p (.bin .xor (.tmp 44) (.tmp 46)), none, none⟩, [44, 46], 0⟩,
  ⟨10, ⟨some 48, .p (.bin .add (.tmp 39) (.tmp 47)), none, none⟩, [39, 47], 0⟩,
  ⟨11, ⟨some 49, .p (.mv (.tmp 12)), none, none⟩, [12], 3⟩,
  ⟨12, ⟨some 50, .p (.mv (.tmp 13)), none, none⟩, [13], 3⟩,
  ⟨13, ⟨some 51, .p (.bin .and (.tmp 49) (.tmp 50)), none, none⟩, [49, 50], 3⟩,
  ⟨14, ⟨some 52, .p (.mv (.tmp 14)), none, none⟩, [14], 3⟩,
  ⟨15, ⟨some 53, .p (.mv (.tmp 12)), none, none⟩, [12], 3⟩,
  ⟨16, ⟨some 54, .p (.bin .andNot (.tmp 52) (.tmp 53)), none, none⟩, [52, 53], 3⟩,
  ⟨17, ⟨some 55, .p (.bin .xor (.tmp 51) (.tmp 54)), none, none⟩, [51, 54], 3⟩,
  ⟨18, ⟨some 56, .p (.bin .add (.tmp 48) (.tmp 55)), none, none⟩, [48, 55], 0⟩,
  ⟨19, ⟨some 57, .p (.mv (.tmp 8)), none, none⟩, [8], 3⟩,
  ⟨20, ⟨some 58, .p (.idxA 64 1 (.tmp 6) (.tmp 57)), none, none⟩, [6, 57], 3⟩,
  ⟨21, ⟨some 59, .l (.load (.i .u32) (.tmp 58)), none, none⟩, [58], 3⟩,
  ⟨22, ⟨some 60, .p (.bin .add (.tmp 56) (.tmp 59)), none, none⟩, [56, 59], 0⟩,
  ⟨23, ⟨some 61, .p (.mv (.tmp 8)), none, none⟩, [8], 3⟩,
  ⟨24, ⟨some 62, .p (.idxA 64 1 (.tmp 5) (.tmp 61)), none, none⟩, [5, 61], 3⟩,
  ⟨25, ⟨some 63, .l (.load (.i .u32) (.tmp 62)), none, none⟩, [62], 3⟩,
  ⟨26, ⟨some 64, .p (.bin .add (.tmp 60) (.tmp 63)), none, none⟩, [60, 63], 0⟩,
  ⟨27, ⟨some 15, .p (.mv (.tmp 64)), none, none⟩, [64], 0⟩])
  (.seq (.region [⟨some 65, .p (.mv (.tmp 9)), none, none⟩,
  ⟨some 66, .e (.call (.func 85) [.tmp 65, .const (.int .i64 2)]), none, none⟩,
  ⟨some 67, .p (.mv (.tmp 9)), none, none⟩,
  ⟨some 68, .e (.call (.func 85) [.tmp 67, .const (.int .i64 13)]), none, none⟩,
  ⟨some 69, .p (.bin .xor (.tmp 66) (.tmp 68)), none, none⟩,
  ⟨some 70, .p (.mv (.tmp 9)), none, none⟩,
  ⟨some 71, .e (.call (.func 85) [.tmp 70, .const (.int .i64 22)]), none, none⟩,
  ⟨some 72, .p (.bin .xor (.tmp 69) (.tmp 71)), none, none⟩,
  ⟨some 73, .p (.mv (.tmp 9)), none, none⟩,
  ⟨some 74, .p (.mv (.tmp 10)), none, none⟩,
  ⟨some 75, .p (.bin .and (.tmp 73) (.tmp 74)), none, none⟩,
  ⟨some 76, .p (.mv (.tmp 9)), none, none⟩,
  ⟨some 77, .p (.mv (.tmp 11)), none, none⟩,
  ⟨some 78, .p (.bin .and (.tmp 76) (.tmp 77)), none, none⟩,
  ⟨some 79, .p (.bin .xor (.tmp 75) (.tmp 78)), none, none⟩,
  ⟨some 80, .p (.mv (.tmp 10)), none, none⟩,
  ⟨some 81, .p (.mv (.tmp 11)), none, none⟩,
  ⟨some 82, .p (.bin .and (.tmp 80) (.tmp 81)), none, none⟩,
  ⟨some 83, .p (.bin .xor (.tmp 79) (.tmp 82)), none, none⟩,
  ⟨some 84, .p (.bin .add (.tmp 72) (.tmp 83)), none, none⟩,
  ⟨some 16, .p (.mv (.tmp 84)), none, none⟩])
  (.region [⟨some 85, .p (.mv (.tmp 15)), none, none⟩,
  ⟨some 86, .p (.mv (.tmp 16)), none, none⟩,
  ⟨some 87, .p (.bin .add (.tmp 85) (.tmp 86)), none, none⟩,
  ⟨some 88, .p (.mv (.tmp 9)), none, none⟩,
  ⟨some 89, .p (.mv (.tmp 10)), none, none⟩,
  ⟨some 90, .p (.mv (.tmp 11)), none, none⟩,
  ⟨some 91, .p (.idxA 8 1 (.tmp 7) (.const (.int .i64 3))), none, none⟩,
  ⟨some 92, .l (.load (.i .u32) (.tmp 91)), none, none⟩,
  ⟨some 93, .p (.mv (.tmp 15)), none, none⟩,
  ⟨some 94, .p (.bin .add (.tmp 92) (.tmp 93)), none, none⟩,
  ⟨some 95, .p (.mv (.tmp 12)), none, none⟩,
  ⟨some 96, .p (.mv (.tmp 13)), none, none⟩,
  ⟨some 97, .p (.mv (.tmp 14)), none, none⟩,
  ⟨some 98, .p (.build [.int .u32 0, .int .u32 0, .int .u32 0, .int .u32 0, .int .u32 0, .int .u32 0, .int .u32 0, .int .u32 0] [(0, 1, .tmp 87), (1, 1, .tmp 88), (2, 1, .tmp 89), (3, 1, .tmp 90), (4, 1, .tmp 94), (5, 1, .tmp 95), (6, 1, .tmp 96), (7, 1, .tmp 97)]), none, none⟩,
  ⟨none, .e (.store (some 8) (.tmp 7) (.tmp 98)), none, none⟩])))))
  (.region [⟨some 24, .p (.mv (.tmp 8)), none, none⟩,
  ⟨some 25, .p (.bin .add (.tmp 24) (.const (.int .i64 1))), none, none⟩,
  ⟨some 8, .p (.mv (.tmp 25)), none, none⟩])))))))
  (.seq (.join [(2, .p), (4, .p)] (.seq (.region [⟨some 17, .p (.mv (.const (.int .i64 0))), none, none⟩])
  (.block 2 (.loop [(2, .p), (4, .p), (7, .p), (17, .i .i64)] (.seq (.seq (.region [⟨some 99, .p (.mv (.tmp 17)), none, none⟩,
  ⟨some 100, .p (.bin .lss (.tmp 99) (.const (.int .i64 8))), none, none⟩])
  (.cond (.tmp 100) (.skip) (.exit 2)))
  (.seq (.block 3 (.draw [⟨0, ⟨some 103, .p (.mv (.tmp 17)), none, none⟩, [17], 0⟩,
  ⟨1, ⟨some 104, .p (.idxA 8 1 (.tmp 2) (.tmp 103)), none, none⟩, [2, 103], 0⟩,
  ⟨2, ⟨some 105, .l (.load (.i .u32) (.tmp 104)), none, none⟩, [104], 0⟩,
  ⟨3, ⟨some 106, .p (.mv (.tmp 17)), none, none⟩, [17], 0⟩,
  ⟨4, ⟨some 107, .p (.idxA 8 1 (.tmp 7) (.tmp 106)), none, none⟩, [7, 106], 0⟩,
  ⟨5, ⟨some 108, .l (.load (.i .u32) (.tmp 107)), none, none⟩, [107], 0⟩,
  ⟨6, ⟨some 109, .p (.bin .add (.tmp 105) (.tmp 108)), none, none⟩, [105, 108], 0⟩,
  ⟨7, ⟨some 110, .p (.idxA 8 1 (.tmp 2) (.tmp 103)), none, none⟩, [2, 103], 0⟩,
  ⟨8, ⟨none, .e (.store none (.tmp 110) (.tmp 109)), none, none⟩, [110, 109], 0⟩]))
  (.region [⟨some 101, .p (.mv (.tmp 17)), none, none⟩,
  ⟨some 102, .p (.bin .add (.tmp 101) (.const (.int .i64 1))), none, none⟩,
  ⟨some 17, .p (.mv (.tmp 102)), none, none⟩])))))))
  (.seq (.region [⟨some 111, .l (.load (.agg 8) (.tmp 2)), none, some (.st [.i .u32, .i .u32, .i .u32, .i .u32, .i .u32, .i .u32, .i .u32, .i .u32])⟩,
  ⟨none, .e (.store (some 8) (.tmp 4) (.tmp 111)), none, none⟩])
  (.ret)))))))
noncomputable def e_ref02_take (k : Nat) (D : CallF) : Ent := entOf 50 [(0, .st [.i .u32, .i .u32, .i .u32, .i .u32, .i .u32, .i .u32, .i .u32, .i .u32]), (1, .s)] [(4, .st [.i .u32, .i .u32, .i .u32, .i .u32, .i .u32, .i .u32, .i .u32, .i .u32])] (ref02_take k D)
theorem q_ref02_take : (Tryz.f50.body).bind (rcodeOf Tryz.prog 2 Tryz.f50.ntmps) = some (strip r_ref02_take) := by kernel_rfl
theorem t_ref02_take (k : Nat) (D : CallF) : curF [(0, .st [.i .u32, .i .u32, .i .u32, .i .u32, .i .u32, .i .u32, .i .u32, .i .u32]), (1, .s)] (fun args h => denF (C_ref02_take k D) k r_ref02_take [(4, .st [.i .u32, .i .u32, .i .u32, .i .u32, .i .u32, .i .u32, .i .u32, .i .u32])] [some (.agg 8)] args h) = ref02_take k D := by kernel_rfl
theorem ok_ref02_take {D : CallF} (hD : CSound Tryz.prog 2 D) (k : Nat) : EntOk Tryz.prog 2 (e_ref02_take k D) :=
  entOf_ok2 (mkC_sound hD (EntsOk.more (ok_ref02_words hD k) (EntsOk.more (ok_ref02_constants hD k) (EntsOk.more (ok_ref02_turn hD k) (EntsOk.none))))) Tryz.func50 rfl q_ref02_take rfl (t_ref02_take k D)
end Gz
namespace Gz
open Go Gx Go.Proofs
set_option maxRecDepth 100000
noncomputable def C_ref02_Digest (k : Nat) (D : CallF) : CallF := mkC D [e_ref01_Must k D, e_ref02_take k D]
noncomputable def ref02_Digest_l2b (_k : Nat) (_D : CallF) (j4 : ByteArray → Int → AHeap → Option ((ByteArray) × AHeap)) (rec38 : ByteArray → Int → AHeap → Option ((ByteArray) × AHeap)) (s35 : ByteArray) (n36 : Int) (h37 : AHeap) : Option ((ByteArray) × AHeap) :=
  (if ((Int.tmod (s35.size : Int) 64) != 56) = true then
  (if s35.size + (⟨#[0]⟩ : ByteArray).size ≤ 9223372036854775807 then
  rec38 (s35 ++ (⟨#[0]⟩ : ByteArray)) n36 h37
  else none)
  else
  j4 s35 n36 h37)
noncomputable def ref02_Digest_l2 (k : Nat) (D : CallF) (j4 : ByteArray → Int → AHeap → Option ((ByteArray) × AHeap)) : ByteArray → Int → AHeap → Option ((ByteArray) × AHeap) :=
  iterK (α := ByteArray → Int → AHeap → Option ((ByteArray) × AHeap)) (fun _ _ _ => none) k (ref02_Digest_l2b k D j4)
noncomputable def ref02_Digest_l1b (k : Nat) (D : CallF) (j10 : (Option Addr) → AHeap → Option ((ByteArray) × AHeap)) (rec27 : ByteArray → (Option Addr) → Int → AHeap → Option ((ByteArray) × AHeap)) (s23 : ByteArray) (l24 : Option Addr) (i25 : Int) (h26 : AHeap) : Option ((ByteArray) × AHeap) :=
  (if (decide (i25 < (s23.size : Int))) = true then
  (l24).bind fun p28 =>
  (ldA 8 p28 h26).bind fun l29 =>
  (decC [.i .u32, .i .u32, .i .u32, .i .u32, .i .u32, .i .u32, .i .u32, .i .u32] l29).bind fun x30 =>
  (Gx.subS s23 (some i25) (some (IntKind.wrap .i64 (i25 + 64)))).bind fun s31 =>
  (ref02_take k D (x30.1, x30.2.1, x30.2.2.1, x30.2.2.2.1, x30.2.2.2.2.1, x30.2.2.2.2.2.1, x30.2.2.2.2.2.2.1, x30.2.2.2.2.2.2.2) s31 h26).bind fun r32 =>
  (l24).bind fun p33 =>
  (stL 8 p33 ([.int .u32 r32.1.1, .int .u32 r32.1.2.1, .int .u32 r32.1.2.2.1, .int .u32 r32.1.2.2.2.1, .int .u32 r32.1.2.2.2.2.1, .int .u32 r32.1.2.2.2.2.2.1, .int .u32 r32.1.2.2.2.2.2.2.1, .int .u32 r32.1.2.2.2.2.2.2.2]) r32.2).bind fun h34 =>
  rec27 s23 l24 (IntKind.wrap .i64 (i25 + 64)) h34
  else
  j10 l24 h26)
noncomputable def ref02_Digest_l1 (k : Nat) (D : CallF) (j10 : (Option Addr) → AHeap → Option ((ByteArray) × AHeap)) : ByteArray → (Option Addr) → Int → AHeap → Option ((ByteArray) × AHeap) :=
  iterK (α := ByteArray → (Option Addr) → Int → AHeap → Option ((ByteArray) × AHeap)) (fun _ _ _ _ => none) k (ref02_Digest_l1b k D j10)
noncomputable def ref02_Digest_l0b (k : Nat) (D : CallF) (j13 : ByteArray → AHeap → Option ((ByteArray) × AHeap)) (rec18 : (Option Addr) → ByteArray → Int → AHeap → Option ((ByteArray) × AHeap)) (l14 : Option Addr) (out15 : ByteArray) (i16 : Int) (h17 : AHeap) : Option ((ByteArray) × AHeap) :=
  (if (decide (i16 < 8)) = true then
  (l14).bind fun p20 =>
  (Gx.idxA 8 1 p20 i16).bind fun q19 =>
  (ldI .u32 q19 h17).bind fun x21 =>
  (ref01_Must k D (IntKind.wrap .i64 x21) 4 h17).bind fun r22 =>
  (if out15.size + r22.1.size ≤ 9223372036854775807 then
  rec18 l14 (out15 ++ r22.1) (IntKind.wrap .i64 (i16 + 1)) r22.2
  else none)
  else
  j13 out15 h17)
noncomputable def ref02_Digest_l0 (k : Nat) (D : CallF) (j13 : ByteArray → AHeap → Option ((ByteArray) × AHeap)) : (Option Addr) → ByteArray → Int → AHeap → Option ((ByteArray) × AHeap) :=
  iterK (α := (Option Addr) → ByteArray → Int → AHeap → Option ((ByteArray) × AHeap)) (fun _ _ _ _ => none) k (ref02_Digest_l0b k D j13)
noncomputable def ref02_Digest (k : Nat) (D : CallF) (s_0 : ByteArray) (h : AHeap) : Option ((ByteArray) × AHeap) :=
  (if s_0.size + (⟨#[128]⟩ : ByteArray).size ≤ 9223372036854775807 then
  joinK (fun (s1 : ByteArray) (n2 : Int) (h3 : AHeap) =>
  (ref01_Must k D (IntKind.wrap .i64 (n2 * 8)) 8 h3).bind fun r5 =>
  (if s1.size + r5.1.size ≤ 9223372036854775807 then
  let h6 := AHeap.new r5.2 (.cells [.int .u32 0, .int .u32 0, .int .u32 0, .int .u32 0, .int .u32 0, .int .u32 0, .int .u32 0, .int .u32 0] 104 true 0)
  (stL 8 (⟨r5.2.next, 0, none⟩ : Addr) ([.int .u32 1779033703, .int .u32 3144134277, .int .u32 1013904242, .int .u32 2773480762, .int .u32 1359893119, .int .u32 2600822924, .int .u32 528734635, .int .u32 1541459225]) h6).bind fun h7 =>
  joinK (fun (l8 : Option Addr) (h9 : AHeap) =>
  joinK (fun (out11 : ByteArray) (h12 : AHeap) =>
  some (out11, h12)) fun j13 =>
  ref02_Digest_l0 k D j13 l8 (⟨#[]⟩ : ByteArray) 0 h9) fun j10 =>
  ref02_Digest_l1 k D j10 (s1 ++ r5.1) (some (⟨r5.2.next, 0, none⟩ : Addr)) 0 h7
  else none)) fun j4 =>
  ref02_Digest_l2 k D j4 (s_0 ++ (⟨#[128]⟩ : ByteArray)) (s_0.size : Int) h
  else none)
def r_ref02_Digest : RCode := .seq (.region [⟨some 2, .p (.mv (.const (.string ⟨#[]⟩))), none, none⟩])
  (.seq (.region [⟨some 8, .p (.mv (.tmp 0)), none, none⟩,
  ⟨some 9, .p (.lenS (.tmp 8)), none, none⟩,
  ⟨some 3, .p (.mv (.tmp 9)), none, none⟩])
  (.seq (.region [⟨some 10, .p (.mv (.tmp 0)), none, none⟩,
  ⟨some 11, .p (.bin .add (.tmp 10) (.const (.string ⟨#[128]⟩))), none, none⟩,
  ⟨some 0, .p (.mv (.tmp 11)), none, none⟩])
  (.seq (.join [(0, .s), (3, .i .i64)] (.block 0 (.loop [(0, .s), (3, .i .i64)] (.seq (.seq (.region [⟨some 12, .p (.mv (.tmp 0)), none, none⟩,
  ⟨some 13, .p (.lenS (.tmp 12)), none, none⟩,
  ⟨some 14, .p (.bin .rem (.tmp 13) (.const (.int .i64 64))), none, none⟩,
  ⟨some 15, .p (.bin .neq (.tmp 14) (.const (.int .i64 56))), none, none⟩])
  (.cond (.tmp 15) (.skip) (.exit 0)))
  (.block 1 (.region [⟨some 16, .p (.mv (.tmp 0)), none, none⟩,
  ⟨some 17, .p (.bin .add (.tmp 16) (.const (.string ⟨#[0]⟩))), none, none⟩,
  ⟨some 0, .p (.mv (.tmp 17)), none, none⟩]))))))
  (.seq (.region [⟨some 18, .p (.mv (.tmp 0)), none, none⟩,
  ⟨some 19, .p (.mv (.tmp 3)), none, none⟩,
  ⟨some 20, .p (.bin .mul (.tmp 19) (.const (.int .i64 8))), none, none⟩,
  ⟨some 21, .e (.call (.func 49) [.tmp 20, .const (.int .i64 8)]), none, none⟩,
  ⟨some 22, .p (.bin .add (.tmp 18) (.tmp 21)), none, none⟩,
  ⟨some 0, .p (.mv (.tmp 22)), none, none⟩])
  (.seq (.region [⟨some 23, .p (.build [.int .u32 0, .int .u32 0, .int .u32 0, .int .u32 0, .int .u32 0, .int .u32 0, .int .u32 0, .int .u32 0] [(0, 1, .const (.int .u32 1779033703)), (1, 1, .const (.int .u32 3144134277)), (2, 1, .const (.int .u32 1013904242)), (3, 1, .const (.int .u32 2773480762)), (4, 1, .const (.int .u32 1359893119)), (5, 1, .const (.int .u32 2600822924)), (6, 1, .const (.int .u32 528734635)), (7, 1, .const (.int .u32 1541459225))]), none, none⟩,
  ⟨some 4, .a (.alloc 104 [.int .u32 0, .int .u32 0, .int .u32 0, .int .u32 0, .int .u32 0, .int .u32 0, .int .u32 0, .int .u32 0]), none, none⟩,
  ⟨none, .e (.store (some 8) (.tmp 4) (.tmp 23)), none, none⟩])
  (.seq (.join [(4, .p)] (.seq (.region [⟨some 5, .p (.mv (.const (.int .i64 0))), none, none⟩])
  (.block 2 (.loop [(0, .s), (4, .p), (5, .i .i64)] (.seq (.seq (.region [⟨some 24, .p (.mv (.tmp 5)), none, none⟩,
  ⟨some 25, .p (.mv (.tmp 0)), none, none⟩,
  ⟨some 26, .p (.lenS (.tmp 25)), none, none⟩,
  ⟨some 27, .p (.bin .lss (.tmp 24) (.tmp 26)), none, none⟩])
  (.cond (.tmp 27) (.skip) (.exit 2)))
  (.seq (.block 3 (.draw [⟨0, ⟨some 30, .l (.load (.agg 8) (.tmp 4)), none, some (.st [.i .u32, .i .u32, .i .u32, .i .u32, .i .u32, .i .u32, .i .u32, .i .u32])⟩, [4], 0⟩,
  ⟨1, ⟨some 31, .p (.mv (.tmp 0)), none, none⟩, [0], 0⟩,
  ⟨2, ⟨some 32, .p (.mv (.tmp 5)), none, none⟩, [5], 0⟩,
  ⟨3, ⟨some 33, .p (.mv (.tmp 5)), none, none⟩, [5], 0⟩,
  ⟨4, ⟨some 34, .p (.bin .add (.tmp 33) (.const (.int .i64 64))), none, none⟩, [33], 0⟩,
  ⟨5, ⟨some 35, .p (.subS (.tmp 31) (some (.tmp 32)) (some (.tmp 34))), none, none⟩, [31, 32, 34], 0⟩,
  ⟨6, ⟨some 36, .e (.call (.func 50) [.tmp 30, .tmp 35]), none, none⟩, [30, 35], 0⟩,
  ⟨7, ⟨none, .e (.store (some 8) (.tmp 4) (.tmp 36)), none, none⟩, [4, 36], 0⟩]))
  (.region [⟨some 28, .p (.mv (.tmp 5)), none, none⟩,
  ⟨some 29, .p (.bin .add (.tmp 28) (.const (.int .i64 64))), none, none⟩,
  ⟨some 5, .p (.mv (.tmp 29)), none, none⟩])))))))
  (.seq (.region [⟨some 6, .p (.mv (.const (.string ⟨#[]⟩))), none, none⟩])
  (.seq (.join [(6, .s)] (.seq (.region [⟨some 7, .p (.mv (.const (.int .i64 0))), none, none⟩])
  (.block 4 (.loop [(4, .p), (6, .s), (7, .i .i64)] (.seq (.seq (.region [⟨some 37, .p (.mv (.tmp 7)), none, none⟩,
  ⟨some 38, .p (.bin .lss (.tmp 37) (.const (.int .i64 8))), none, none⟩])
  (.cond (.tmp 38) (.skip) (.exit 4)))
  (.seq (.block 5 (.region [⟨some 41, .p (.mv (.tmp 6)), none, none⟩,
  ⟨some 42, .p (.mv (.tmp 7)), none, none⟩,
  ⟨some 43, .p (.idxA 8 1 (.tmp 4) (.tmp 42)), none, none⟩,
  ⟨some 44, .l (.load (.i .u32) (.tmp 43)), none, none⟩,
  ⟨some 45, .p (.convI .i64 (.tmp 44)), none, none⟩,
  ⟨some 46, .e (.call (.func 49) [.tmp 45, .const (.int .i64 4)]), none, none⟩,
  ⟨some 47, .p (.bin .add (.tmp 41) (.tmp 46)), none, none⟩,
  ⟨some 6, .p (.mv (.tmp 47)), none, none⟩]))
  (.region [⟨some 39, .p (.mv (.tmp 7)), none, none⟩,
  ⟨some 40, .p (.bin .add (.tmp 39) (.const (.int .i64 1))), none, none⟩,
  ⟨some 7, .p (.mv (.tmp 40)), none, none⟩])))))))
  (.seq (.region [⟨some 48, .p (.mv (.tmp 6)), none, none⟩,
  ⟨some 2, .p (.mv (.tmp 48)), none, none⟩])
  (.ret))))))))))
noncomputable def e_ref02_Digest (k : Nat) (D : CallF) : Ent := entOf 25 [(0, .s)] [(2, .s)] (ref02_Digest k D)
theorem q_ref02_Digest : (Tryz.f25.body).bind (rcodeOf Tryz.prog 2 Tryz.f25.ntmps) = some (strip r_ref02_Digest) := by kernel_rfl
theorem t_ref02_Digest (k : Nat) (D : CallF) : curF [(0, .s)] (fun args h => denF (C_ref02_Digest k D) k r_ref02_Digest [(2, .s)] [none] args h) = ref02_Digest k D := by kernel_rfl
theorem ok_ref02_Digest {D : CallF} (hD : CSound Tryz.prog 2 D) (k : Nat) : EntOk Tryz.prog 2 (e_ref02_Digest k D) :=
  entOf_ok2 (mkC_sound hD (EntsOk.more (ok_ref01_Must hD k) (EntsOk.more (ok_ref02_take hD k) (EntsOk.none)))) Tryz.func25 rfl q_ref02_Digest rfl (t_ref02_Digest k D)
end Gz
namespace Gz
open Go Gx Go.Proofs
set_option maxRecDepth 100000
noncomputable def C_ref06_Make (k : Nat) (D : CallF) : CallF := mkC D [e_ref05_New k D, e_ref05_Plan_Split k D, e_ref02_Digest k D, e_ref06_Text k D]
noncomputable def ref06_Make_l0b (k : Nat) (D : CallF) (j6 : Slc → AHeap → Option ((Slc × Int) × AHeap)) (rec15 : Int → Int → ByteArray → Slc → ByteArray → Slc → Int → AHeap → Option ((Slc × Int) × AHeap)) (kv7 : Int) (m8 : Int) (data9 : ByteArray) (l10 : Slc) (id11 : ByteArray) (out12 : Slc) (i13 : Int) (h14 : AHeap) : Option ((Slc × Int) × AHeap) :=
  (if (decide (i13 < (l10.len : Int))) = true then
  (Gx.idxL 1 l10 i13).bind fun q16 =>
  (ldS q16 h14).bind fun x17 =>
  (ref06_Text k D (kv7, m8, i13, (data9.size : Int), id11, x17) h14).bind fun r18 =>
  let h19 := AHeap.new r18.2 (.cells [.string r18.1] 9 true 0)
  (rdS 1 (⟨(some ⟨r18.2.next, 0, some 0⟩), 1, 1⟩ : Slc) h19).bind fun n21 =>
  (appendA 1 16 9 h19 out12 n21 1).bind fun r20 =>
  rec15 kv7 m8 data9 l10 id11 r20.1 (IntKind.wrap .i64 (i13 + 1)) r20.2
  else
  j6 out12 h14)
noncomputable def ref06_Make_l0 (k : Nat) (D : CallF) (j6 : Slc → AHeap → Option ((Slc × Int) × AHeap)) : Int → Int → ByteArray → Slc → ByteArray → Slc → Int → AHeap → Option ((Slc × Int) × AHeap) :=
  iterK (α := Int → Int → ByteArray → Slc → ByteArray → Slc → Int → AHeap → Option ((Slc × Int) × AHeap)) (fun _ _ _ _ _ _ _ _ => none) k (ref06_Make_l0b k D j6)
noncomputable def ref06_Make (k : Nat) (D : CallF) (k_0 : Int) (m_1 : Int) (data_2 : ByteArray) (h : AHeap) : Option ((Slc × Int) × AHeap) :=
  (ref05_New k D k_0 m_1 h).bind fun r1 =>
  (if (r1.1.2 != 0) = true then
  some (((⟨none, 0, 0⟩ : Slc), r1.1.2), r1.2)
  else
  (ref05_Plan_Split k D r1.1.1 data_2 r1.2).bind fun r2 =>
  (if (r2.1.2 != 0) = true then
  some (((⟨none, 0, 0⟩ : Slc), r2.1.2), r2.2)
  else
  (ref02_Digest k D data_2 r2.2).bind fun r3 =>
  joinK (fun (out4 : Slc) (h5 : AHeap) =>
  some ((out4, 0), h5)) fun j6 =>
  ref06_Make_l0 k D j6 k_0 m_1 data_2 r2.1.1 r3.1 (⟨none, 0, 0⟩ : Slc) 0 r3.2))
def r_ref06_Make : RCode := .seq (.region [⟨some 6, .p (.mv (.const (.slice none 0 0))), none, none⟩,
  ⟨some 7, .p (.mv (.const (.int .i64 0))), none, none⟩])
  (.seq (.region [⟨some 15, .p (.mv (.tmp 0)), none, none⟩,
  ⟨some 16, .p (.mv (.tmp 1)), none, none⟩,
  ⟨some 17, .e (.call (.func 23) [.tmp 15, .tmp 16]), none, none⟩,
  ⟨some 14, .p (.mv (.tmp 17)), none, none⟩,
  ⟨some 18, .p (.extract (.tmp 14) 0), none, none⟩,
  ⟨some 19, .p (.extract (.tmp 14) 1), none, none⟩,
  ⟨some 8, .p (.mv (.tmp 18)), none, none⟩,
  ⟨some 9, .p (.mv (.tmp 19)), none, none⟩])
  (.seq (.seq (.region [⟨some 20, .p (.mv (.tmp 9)), none, none⟩,
  ⟨some 21, .p (.bin .neq (.tmp 20) (.const (.int .i64 0))), none, none⟩])
  (.cond (.tmp 21) (.seq (.region [⟨some 22, .p (.mv (.tmp 9)), none, none⟩,
  ⟨some 6, .p (.mv (.const (.slice none 0 0))), none, none⟩,
  ⟨some 7, .p (.mv (.tmp 22)), none, none⟩])
  (.ret)) (.skip)))
  (.seq (.region [⟨some 24, .p (.mv (.tmp 8)), none, none⟩,
  ⟨some 25, .p (.mv (.tmp 2)), none, none⟩,
  ⟨some 26, .e (.call (.func 24) [.tmp 24, .tmp 25]), none, none⟩,
  ⟨some 23, .p (.mv (.tmp 26)), none, none⟩,
  ⟨some 27, .p (.extract (.tmp 23) 0), none, none⟩,
  ⟨some 28, .p (.extract (.tmp 23) 1), none, none⟩,
  ⟨some 10, .p (.mv (.tmp 27)), none, none⟩,
  ⟨some 9, .p (.mv (.tmp 28)), none, none⟩])
  (.seq (.seq (.region [⟨some 29, .p (.mv (.tmp 9)), none, none⟩,
  ⟨some 30, .p (.bin .neq (.tmp 29) (.const (.int .i64 0))), none, none⟩])
  (.cond (.tmp 30) (.seq (.region [⟨some 31, .p (.mv (.tmp 9)), none, none⟩,
  ⟨some 6, .p (.mv (.const (.slice none 0 0))), none, none⟩,
  ⟨some 7, .p (.mv (.tmp 31)), none, none⟩])
  (.ret)) (.skip)))
  (.seq (.region [⟨some 32, .p (.mv (.tmp 2)), none, none⟩,
  ⟨some 33, .e (.call (.func 25) [.tmp 32]), none, none⟩,
  ⟨some 11, .p (.mv (.tmp 33)), none, none⟩])
  (.seq (.region [⟨some 12, .p (.mv (.const (.slice none 0 0))), none, none⟩])
  (.seq (.join [(12, .l)] (.seq (.region [⟨some 13, .p (.mv (.const (.int .i64 0))), none, none⟩])
  (.block 0 (.loop [(0, .i .i64), (1, .i .i64), (2, .s), (10, .l), (11, .s), (12, .l), (13, .i .i64)] (.seq (.seq (.region [⟨some 34, .p (.mv (.tmp 13)), none, none⟩,
  ⟨some 35, .p (.mv (.tmp 10)), none, none⟩,
  ⟨some 36, .p (.lenL (.tmp 35)), none, none⟩,
  ⟨some 37, .p (.bin .lss (.tmp 34) (.tmp 36)), none, none⟩])
  (.cond (.tmp 37) (.skip) (.exit 0)))
  (.seq (.block 1 (.region [⟨some 40, .p (.mv (.tmp 12)), none, none⟩,
  ⟨some 41, .p (.mv (.tmp 0)), none, none⟩,
  ⟨some 42, .p (.mv (.tmp 1)), none, none⟩,
  ⟨some 43, .p (.mv (.tmp 13)), none, none⟩,
  ⟨some 44, .p (.mv (.tmp 2)), none, none⟩,
  ⟨some 45, .p (.lenS (.tmp 44)), none, none⟩,
  ⟨some 46, .p (.mv (.tmp 11)), none, none⟩,
  ⟨some 47, .p (.mv (.tmp 10)), none, none⟩,
  ⟨some 48, .p (.mv (.tmp 13)), none, none⟩,
  ⟨some 49, .p (.idxL 1 (.tmp 47) (.tmp 48)), none, none⟩,
  ⟨some 50, .l (.load (.s) (.tmp 49)), none, none⟩,
  ⟨some 51, .p (.build [.int .i64 0, .int .i64 0, .int .i64 0, .int .i64 0, .string ⟨#[]⟩, .string ⟨#[]⟩] [(0, 1, .tmp 41), (1, 1, .tmp 42), (2, 1, .tmp 43), (3, 1, .tmp 45), (4, 1, .tmp 46), (5, 1, .tmp 50)]), none, none⟩,
  ⟨some 52, .e (.call (.func 26) [.tmp 51]), none, none⟩,
  ⟨some 53, .a (.buildSlice 9 1 (zerosL 1 [.string ⟨#[]⟩]) [(0, 1, .tmp 52)]), none, none⟩,
  ⟨some 54, .e (.append 1 16 9 [.string ⟨#[]⟩] .slice (.tmp 40) (.tmp 53)), none, none⟩,
  ⟨some 12, .p (.mv (.tmp 54)), none, none⟩]))
  (.region [⟨some 38, .p (.mv (.tmp 13)), none, none⟩,
  ⟨some 39, .p (.bin .add (.tmp 38) (.const (.int .i64 1))), none, none⟩,
  ⟨some 13, .p (.mv (.tmp 39)), none, none⟩])))))))
  (.seq (.region [⟨some 55, .p (.mv (.tmp 12)), none, none⟩,
  ⟨some 6, .p (.mv (.tmp 55)), none, none⟩,
  ⟨some 7, .p (.mv (.const (.int .i64 0))), none, none⟩])
  (.ret)))))))))
noncomputable def e_ref06_Make (k : Nat) (D : CallF) : Ent := entOf 8 [(0, .i .i64), (1, .i .i64), (2, .s)] [(6, .l), (7, .i .i64)] (ref06_Make k D)
theorem q_ref06_Make : (Tryz.f8.body).bind (rcodeOf Tryz.prog 2 Tryz.f8.ntmps) = some (strip r_ref06_Make) := by kernel_rfl
theorem t_ref06_Make (k : Nat) (D : CallF) : curF [(0, .i .i64), (1, .i .i64), (2, .s)] (fun args h => denF (C_ref06_Make k D) k r_ref06_Make [(6, .l), (7, .i .i64)] [none, none] args h) = ref06_Make k D := by kernel_rfl
theorem ok_ref06_Make {D : CallF} (hD : CSound Tryz.prog 2 D) (k : Nat) : EntOk Tryz.prog 2 (e_ref06_Make k D) :=
  entOf_ok2 (mkC_sound hD (EntsOk.more (ok_ref05_New hD k) (EntsOk.more (ok_ref05_Plan_Split hD k) (EntsOk.more (ok_ref02_Digest hD k) (EntsOk.more (ok_ref06_Text hD k) (EntsOk.none)))))) Tryz.func8 rfl q_ref06_Make rfl (t_ref06_Make k D)
end Gz
namespace Gz
open Go Gx Go.Proofs
set_option maxRecDepth 100000
noncomputable def C_book_SameTexts (_k : Nat) (D : CallF) : CallF := mkC D []
noncomputable def book_SameTexts_l0b (_k : Nat) (_D : CallF) (j2 : AHeap → Option ((Bool) × AHeap)) (rec7 : Slc → Slc → Int → AHeap → Option ((Bool) × AHeap)) (a3 : Slc) (b4 : Slc) (i5 : Int) (h6 : AHeap) : Option ((Bool) × AHeap) :=
  (if (decide (i5 < (a3.len : Int))) = true then
  (Gx.idxL 1 a3 i5).bind fun q8 =>
  (ldS q8 h6).bind fun x9 =>
  (Gx.idxL 1 b4 i5).bind fun q10 =>
  (ldS q10 h6).bind fun x11 =>
  (if (!(x9 == x11)) = true then
  some (false, h6)
  else
  rec7 a3 b4 (IntKind.wrap .i64 (i5 + 1)) h6)
  else
  j2 h6)
noncomputable def book_SameTexts_l0 (k : Nat) (D : CallF) (j2 : AHeap → Option ((Bool) × AHeap)) : Slc → Slc → Int → AHeap → Option ((Bool) × AHeap) :=
  iterK (α := Slc → Slc → Int → AHeap → Option ((Bool) × AHeap)) (fun _ _ _ _ => none) k (book_SameTexts_l0b k D j2)
noncomputable def book_SameTexts (k : Nat) (D : CallF) (a_0 : Slc) (b_1 : Slc) (h : AHeap) : Option ((Bool) × AHeap) :=
  (if ((a_0.len : Int) != (b_1.len : Int)) = true then
  some (false, h)
  else
  joinK (fun (h1 : AHeap) =>
  some (true, h1)) fun j2 =>
  book_SameTexts_l0 k D j2 a_0 b_1 0 h)
def r_book_SameTexts : RCode := .seq (.region [⟨some 4, .p (.mv (.const (.bool false))), none, none⟩])
  (.seq (.seq (.region [⟨some 6, .p (.mv (.tmp 0)), none, none⟩,
  ⟨some 7, .p (.lenL (.tmp 6)), none, none⟩,
  ⟨some 8, .p (.mv (.tmp 1)), none, none⟩,
  ⟨some 9, .p (.lenL (.tmp 8)), none, none⟩,
  ⟨some 10, .p (.bin .neq (.tmp 7) (.tmp 9)), none, none⟩])
  (.cond (.tmp 10) (.seq (.region [⟨some 4, .p (.mv (.const (.bool false))), none, none⟩])
  (.ret)) (.skip)))
  (.seq (.join [] (.seq (.region [⟨some 5, .p (.mv (.const (.int .i64 0))), none, none⟩])
  (.block 0 (.loop [(0, .l), (1, .l), (5, .i .i64)] (.seq (.seq (.region [⟨some 11, .p (.mv (.tmp 5)), none, none⟩,
  ⟨some 12, .p (.mv (.tmp 0)), none, none⟩,
  ⟨some 13, .p (.lenL (.tmp 12)), none, none⟩,
  ⟨some 14, .p (.bin .lss (.tmp 11) (.tmp 13)), none, none⟩])
  (.cond (.tmp 14) (.skip) (.exit 0)))
  (.seq (.block 1 (.seq (.draw [⟨0, ⟨some 17, .p (.mv (.tmp 0)), none, none⟩, [0], 0⟩,
  ⟨1, ⟨some 18, .p (.mv (.tmp 5)), none, none⟩, [5], 0⟩,
  ⟨2, ⟨some 19, .p (.idxL 1 (.tmp 17) (.tmp 18)), none, none⟩, [17, 18], 0⟩,
  ⟨3, ⟨some 20, .l (.load (.s) (.tmp 19)), none, none⟩, [19], 0⟩,
  ⟨4, ⟨some 21, .p (.mv (.tmp 1)), none, none⟩, [1], 0⟩,
  ⟨5, ⟨some 22, .p (.mv (.tmp 5)), none, none⟩, [5], 0⟩,
  ⟨6, ⟨some 23, .p (.idxL 1 (.tmp 21) (.tmp 22)), none, none⟩, [21, 22], 0⟩,
  ⟨7, ⟨some 24, .l (.load (.s) (.tmp 23)), none, none⟩, [23], 0⟩,
  ⟨8, ⟨some 25, .p (.bin .neq (.tmp 20) (.tmp 24)), none, none⟩, [20, 24], 0⟩])
  (.cond (.tmp 25) (.seq (.region [⟨some 4, .p (.mv (.const (.bool false))), none, none⟩])
  (.ret)) (.skip))))
  (.region [⟨some 15, .p (.mv (.tmp 5)), none, none⟩,
  ⟨some 16, .p (.bin .add (.tmp 15) (.const (.int .i64 1))), none, none⟩,
  ⟨some 5, .p (.mv (.tmp 16)), none, none⟩])))))))
  (.seq (.region [⟨some 4, .p (.mv (.const (.bool true))), none, none⟩])
  (.ret))))
noncomputable def e_book_SameTexts (k : Nat) (D : CallF) : Ent := entOf 9 [(0, .l), (1, .l)] [(4, .b)] (book_SameTexts k D)
theorem q_book_SameTexts : (Tryz.f9.body).bind (rcodeOf Tryz.prog 2 Tryz.f9.ntmps) = some (strip r_book_SameTexts) := by kernel_rfl
theorem t_book_SameTexts (k : Nat) (D : CallF) : curF [(0, .l), (1, .l)] (fun args h => denF (C_book_SameTexts k D) k r_book_SameTexts [(4, .b)] [none] args h) = book_SameTexts k D := by kernel_rfl
theorem ok_book_SameTexts {D : CallF} (hD : CSound Tryz.prog 2 D) (k : Nat) : EntOk Tryz.prog 2 (e_book_SameTexts k D) :=
  entOf_ok2 (mkC_sound hD (EntsOk.none)) Tryz.func9 rfl q_book_SameTexts rfl (t_book_SameTexts k D)
end Gz
namespace Gz
open Go Gx Go.Proofs
set_option maxRecDepth 100000
noncomputable def C_book_SpoilTexts (_k : Nat) (D : CallF) : CallF := mkC D []
noncomputable def book_SpoilTexts_l0b (_k : Nat) (_D : CallF)  (rec4 : Slc → Int → AHeap → Option ((Unit) × AHeap)) (l1 : Slc) (i2 : Int) (h3 : AHeap) : Option ((Unit) × AHeap) :=
  (if (decide (i2 < (l1.len : Int))) = true then
  (Gx.idxL 1 l1 i2).bind fun q5 =>
  (st1 q5 (.string (⟨#[115, 112, 111, 105, 108, 116]⟩ : ByteArray)) h3).bind fun h6 =>
  rec4 l1 (IntKind.wrap .i64 (i2 + 1)) h6
  else
  some ((), h3))
noncomputable def book_SpoilTexts_l0 (k : Nat) (D : CallF)  : Slc → Int → AHeap → Option ((Unit) × AHeap) :=
  iterK (α := Slc → Int → AHeap → Option ((Unit) × AHeap)) (fun _ _ _ => none) k (book_SpoilTexts_l0b k D )
noncomputable def book_SpoilTexts (k : Nat) (D : CallF) (l_0 : Slc) (h : AHeap) : Option ((Unit) × AHeap) :=
  book_SpoilTexts_l0 k D l_0 0 h
def r_book_SpoilTexts : RCode := .seq (.region [⟨some 2, .p (.mv (.const (.int .i64 0))), none, none⟩])
  (.block 0 (.loop [(0, .l), (2, .i .i64)] (.seq (.seq (.region [⟨some 3, .p (.mv (.tmp 2)), none, none⟩,
  ⟨some 4, .p (.mv (.tmp 0)), none, none⟩,
  ⟨some 5, .p (.lenL (.tmp 4)), none, none⟩,
  ⟨some 6, .p (.bin .lss (.tmp 3) (.tmp 5)), none, none⟩])
  (.cond (.tmp 6) (.skip) (.exit 0)))
  (.seq (.block 1 (.region [⟨some 9, .p (.mv (.tmp 0)), none, none⟩,
  ⟨some 10, .p (.mv (.tmp 2)), none, none⟩,
  ⟨some 11, .p (.idxL 1 (.tmp 9) (.tmp 10)), none, none⟩,
  ⟨none, .e (.store none (.tmp 11) (.const (.string ⟨#[115, 112, 111, 105, 108, 116]⟩))), none, none⟩]))
  (.region [⟨some 7, .p (.mv (.tmp 2)), none, none⟩,
  ⟨some 8, .p (.bin .add (.tmp 7) (.const (.int .i64 1))), none, none⟩,
  ⟨some 2, .p (.mv (.tmp 8)), none, none⟩])))))
noncomputable def e_book_SpoilTexts (k : Nat) (D : CallF) : Ent := entOf 10 [(0, .l)] [] (book_SpoilTexts k D)
theorem q_book_SpoilTexts : (Tryz.f10.body).bind (rcodeOf Tryz.prog 2 Tryz.f10.ntmps) = some (strip r_book_SpoilTexts) := by kernel_rfl
theorem t_book_SpoilTexts (k : Nat) (D : CallF) : curF [(0, .l)] (fun args h => denF (C_book_SpoilTexts k D) k r_book_SpoilTexts [] [] args h) = book_SpoilTexts k D := by kernel_rfl
theorem ok_book_SpoilTexts {D : CallF} (hD : CSound Tryz.prog 2 D) (k : Nat) : EntOk Tryz.prog 2 (e_book_SpoilTexts k D) :=
  entOf_ok2 (mkC_sound hD (EntsOk.none)) Tryz.func10 rfl q_book_SpoilTexts rfl (t_book_SpoilTexts k D)
end Gz
namespace Gz
open Go Gx Go.Proofs
set_option maxRecDepth 100000
noncomputable def C_law06_ShardMakes (k : Nat) (D : CallF) : CallF := mkC D [e_law06_works k D, e_shard_Make k D, e_ref06_Make k D, e_book_SpoilTexts k D, e_book_SameTexts k D]
noncomputable def law06_ShardMakes (k : Nat) (D : CallF) (k_0 : Int) (m_1 : Int) (data_2 : ByteArray) (h : AHeap) : Option ((Bool) × AHeap) :=
  joinK (fun (kv1 : Int) (m2 : Int) (data3 : ByteArray) (y4 : Bool) (h5 : AHeap) =>
  (if y4 = true then
  (law06_works k D h5).bind fun r7 =>
  some (r7.1, r7.2)
  else
  (shard_Make k D kv1 m2 data3 h5).bind fun r8 =>
  (ref06_Make k D kv1 m2 data3 r8.2).bind fun r9 =>
  joinK (fun (l10 : Slc) (ok11 : Bool) (h12 : AHeap) =>
  (book_SpoilTexts k D l10 h12).bind fun r14 =>
  some (ok11, r14.2)) fun j13 =>
  (book_SameTexts k D r8.1.1 r9.1.1 r9.2).bind fun r15 =>
  (if r15.1 = true then
  (if (r8.1.2 == r9.1.2) = true then
  (law06_works k D r15.2).bind fun r16 =>
  j13 r8.1.1 r16.1 r16.2
  else
  j13 r8.1.1 false r15.2)
  else
  j13 r8.1.1 false r15.2))) fun j6 =>
  (if (decide (k_0 > 6)) = true then
  (if (decide (k_0 ≤ 255)) = true then
  j6 k_0 m_1 data_2 true h
  else
  (if (decide (m_1 > 6)) = true then
  (if (decide (m_1 ≤ 255)) = true then
  j6 k_0 m_1 data_2 true h
  else
  (if (decide ((data_2.size : Int) > 300)) = true then
  j6 k_0 m_1 data_2 (decide ((data_2.size : Int) ≤ 65536)) h
  else
  j6 k_0 m_1 data_2 false h))
  else
  (if (decide ((data_2.size : Int) > 300)) = true then
  j6 k_0 m_1 data_2 (decide ((data_2.size : Int) ≤ 65536)) h
  else
  j6 k_0 m_1 data_2 false h)))
  else
  (if (decide (m_1 > 6)) = true then
  (if (decide (m_1 ≤ 255)) = true then
  j6 k_0 m_1 data_2 true h
  else
  (if (decide ((data_2.size : Int) > 300)) = true then
  j6 k_0 m_1 data_2 (decide ((data_2.size : Int) ≤ 65536)) h
  else
  j6 k_0 m_1 data_2 false h))
  else
  (if (decide ((data_2.size : Int) > 300)) = true then
  j6 k_0 m_1 data_2 (decide ((data_2.size : Int) ≤ 65536)) h
  else
  j6 k_0 m_1 data_2 false h)))
def r_law06_ShardMakes : RCode := .seq (.region [⟨some 6, .p (.mv (.const (.bool false))), none, none⟩])
  (.seq (.seq (.join [(0, .i .i64), (1, .i .i64), (2, .s), (35, .b)] (.region [⟨some 12, .p (.mv (.tmp 0)), none, none⟩,
  ⟨some 13, .p (.bin .gtr (.tmp 12) (.const (.int .i64 6))), none, none⟩,
  ⟨some 14, .p (.mv (.tmp 13)), none, none⟩,
  ⟨some 15, .p (.mv (.tmp 0)), (some (14, true)), none⟩,
  ⟨some 16, .p (.bin .leq (.tmp 15) (.const (.int .i64 255))), (some (14, true)), none⟩,
  ⟨some 17, .p (.pick (.tmp 14) (.tmp 16) (.const (.bool false))), none, none⟩,
  ⟨some 18, .p (.mv (.tmp 17)), none, none⟩,
  ⟨some 19, .p (.mv (.tmp 1)), (some (18, false)), none⟩,
  ⟨some 20, .p (.bin .gtr (.tmp 19) (.const (.int .i64 6))), (some (18, false)), none⟩,
  ⟨some 21, .p (.mv (.tmp 20)), (some (18, false)), none⟩,
  ⟨some 22, .p (.mv (.tmp 1)), (some (21, true)), none⟩,
  ⟨some 23, .p (.bin .leq (.tmp 22) (.const (.int .i64 255))), (some (21, true)), none⟩,
  ⟨some 24, .p (.pick (.tmp 21) (.tmp 23) (.const (.bool false))), (some (18, false)), none⟩,
  ⟨some 25, .p (.pick (.tmp 18) (.const (.bool true)) (.tmp 24)), none, none⟩,
  ⟨some 26, .p (.mv (.tmp 25)), none, none⟩,
  ⟨some 27, .p (.mv (.tmp 2)), (some (26, false)), none⟩,
  ⟨some 28, .p (.lenS (.tmp 27)), (some (26, false)), none⟩,
  ⟨some 29, .p (.bin .gtr (.tmp 28) (.const (.int .i64 300))), (some (26, false)), none⟩,
  ⟨some 30, .p (.mv (.tmp 29)), (some (26, false)), none⟩,
  ⟨some 31, .p (.mv (.tmp 2)), (some (30, true)), none⟩,
  ⟨some 32, .p (.lenS (.tmp 31)), (some (30, true)), none⟩,
  ⟨some 33, .p (.bin .leq (.tmp 32) (.const (.int .i64 65536))), (some (30, true)), none⟩,
  ⟨some 34, .p (.pick (.tmp 30) (.tmp 33) (.const (.bool false))), (some (26, false)), none⟩,
  ⟨some 35, .p (.pick (.tmp 26) (.const (.bool true)) (.tmp 34)), none, none⟩]))
  (.cond (.tmp 35) (.seq (.region [⟨some 36, .e (.call (.func 6) []), none, none⟩,
  ⟨some 6, .p (.mv (.tmp 36)), none, none⟩])
  (.ret)) (.skip)))
  (.seq (.region [⟨some 38, .p (.mv (.tmp 0)), none, none⟩,
  ⟨some 39, .p (.mv (.tmp 1)), none, none⟩,
  ⟨some 40, .p (.mv (.tmp 2)), none, none⟩,
  ⟨some 41, .e (.call (.func 7) [.tmp 38, .tmp 39, .tmp 40]), none, none⟩,
  ⟨some 37, .p (.mv (.tmp 41)), none, none⟩,
  ⟨some 42, .p (.extract (.tmp 37) 0), none, none⟩,
  ⟨some 43, .p (.extract (.tmp 37) 1), none, none⟩,
  ⟨some 7, .p (.mv (.tmp 42)), none, none⟩,
  ⟨some 8, .p (.mv (.tmp 43)), none, none⟩])
  (.seq (.region [⟨some 45, .p (.mv (.tmp 0)), none, none⟩,
  ⟨some 46, .p (.mv (.tmp 1)), none, none⟩,
  ⟨some 47, .p (.mv (.tmp 2)), none, none⟩,
  ⟨some 48, .e (.call (.func 8) [.tmp 45, .tmp 46, .tmp 47]), none, none⟩,
  ⟨some 44, .p (.mv (.tmp 48)), none, none⟩,
  ⟨some 49, .p (.extract (.tmp 44) 0), none, none⟩,
  ⟨some 50, .p (.extract (.tmp 44) 1), none, none⟩,
  ⟨some 9, .p (.mv (.tmp 49)), none, none⟩,
  ⟨some 10, .p (.mv (.tmp 50)), none, none⟩])
  (.seq (.join [(7, .l), (11, .b)] (.region [⟨some 51, .p (.mv (.tmp 7)), none, none⟩,
  ⟨some 52, .p (.mv (.tmp 9)), none, none⟩,
  ⟨some 53, .e (.call (.func 9) [.tmp 51, .tmp 52]), none, none⟩,
  ⟨some 54, .p (.mv (.tmp 53)), none, none⟩,
  ⟨some 55, .p (.mv (.tmp 8)), (some (54, true)), none⟩,
  ⟨some 56, .p (.mv (.tmp 10)), (some (54, true)), none⟩,
  ⟨some 57, .p (.bin .eql (.tmp 55) (.tmp 56)), (some (54, true)), none⟩,
  ⟨some 58, .p (.pick (.tmp 54) (.tmp 57) (.const (.bool false))), none, none⟩,
  ⟨some 59, .p (.mv (.tmp 58)), none, none⟩,
  ⟨some 60, .e (.call (.func 6) []), (some (59, true)), none⟩,
  ⟨some 61, .p (.pick (.tmp 59) (.tmp 60) (.const (.bool false))), none, none⟩,
  ⟨some 11, .p (.mv (.tmp 61)), none, none⟩]))
  (.seq (.region [⟨some 62, .p (.mv (.tmp 7)), none, none⟩,
  ⟨some 63, .e (.call (.func 10) [.tmp 62]), none, none⟩])
  (.seq (.region [⟨some 64, .p (.mv (.tmp 11)), none, none⟩,
  ⟨some 6, .p (.mv (.tmp 64)), none, none⟩])
  (.ret)))))))
noncomputable def e_law06_ShardMakes (k : Nat) (D : CallF) : Ent := entOf 3 [(0, .i .i64), (1, .i .i64), (2, .s)] [(6, .b)] (law06_ShardMakes k D)
theorem q_law06_ShardMakes : (Tryz.f3.body).bind (rcodeOf Tryz.prog 2 Tryz.f3.ntmps) = some (strip r_law06_ShardMakes) := by kernel_rfl
theorem t_law06_ShardMakes (k : Nat) (D : CallF) : curF [(0, .i .i64), (1, .i .i64), (2, .s)] (fun args h => denF (C_law06_ShardMakes k D) k r_law06_ShardMakes [(6, .b)] [none] args h) = law06_ShardMakes k D := by kernel_rfl
theorem ok_law06_ShardMakes {D : CallF} (hD : CSound Tryz.prog 2 D) (k : Nat) : EntOk Tryz.prog 2 (e_law06_ShardMakes k D) :=
  entOf_ok2 (mkC_sound hD (EntsOk.more (ok_law06_works hD k) (EntsOk.more (ok_shard_Make hD k) (EntsOk.more (ok_ref06_Make hD k) (EntsOk.more (ok_book_SpoilTexts hD k) (EntsOk.more (ok_book_SameTexts hD k) (EntsOk.none))))))) Tryz.func3 rfl q_law06_ShardMakes rfl (t_law06_ShardMakes k D)
end Gz
namespace Gz
open Go Gx Go.Proofs
set_option maxRecDepth 100000
end Gz
namespace Gz
open Go Gx Go.Proofs
set_option maxRecDepth 100000
end Gz
namespace Gz
open Go Gx Go.Proofs
set_option maxRecDepth 100000
end Gz
namespace Gz
open Go Gx Go.Proofs
set_option maxRecDepth 100000
end Gz
namespace Gz
open Go Gx Go.Proofs
set_option maxRecDepth 100000
end Gz
namespace Gz
open Go Gx Go.Proofs
set_option maxRecDepth 100000
end Gz
namespace Gz
open Go Gx Go.Proofs
set_option maxRecDepth 100000
end Gz
namespace Gz
open Go Gx Go.Proofs
set_option maxRecDepth 100000
end Gz
namespace Gz
open Go Gx Go.Proofs
set_option maxRecDepth 100000
end Gz
namespace Gz
open Go Gx Go.Proofs
set_option maxRecDepth 100000
end Gz
namespace Gz
open Go Gx Go.Proofs
set_option maxRecDepth 100000
end Gz
namespace Gz
open Go Gx Go.Proofs
set_option maxRecDepth 100000
end Gz
namespace Gz
open Go Gx Go.Proofs
set_option maxRecDepth 100000
end Gz
namespace Gz
open Go Gx Go.Proofs
set_option maxRecDepth 100000
end Gz
namespace Gz
open Go Gx Go.Proofs
set_option maxRecDepth 100000
end Gz
namespace Gz
open Go Gx Go.Proofs Go.Shelf
end Gz
namespace Gz
open Go Gx Go.Proofs
set_option maxRecDepth 100000
end Gz
namespace Gz
open Go Gx Go.Proofs
set_option maxRecDepth 100000
end Gz
namespace Gz
open Go Gx Go.Proofs
set_option maxRecDepth 100000
end Gz
namespace Gz
open Go Gx Go.Proofs
set_option maxRecDepth 100000
end Gz
namespace Gz
open Go Gx Go.Proofs
set_option maxRecDepth 100000
end Gz
namespace Gz
open Go Gx Go.Proofs
set_option maxRecDepth 100000
end Gz
namespace Gz
open Go Gx Go.Proofs
set_option maxRecDepth 100000
end Gz
namespace Gz
open Go Gx Go.Proofs
set_option maxRecDepth 100000
end Gz
namespace Gz
open Go Gx Go.Proofs
set_option maxRecDepth 100000
end Gz
namespace Gz
open Go Gx Go.Proofs
set_option maxRecDepth 100000
end Gz
namespace Gz
open Go Gx Go.Proofs
set_option maxRecDepth 100000
end Gz
namespace Gz
open Go Gx Go.Proofs
set_option maxRecDepth 100000
end Gz
namespace Gz
open Go Gx Go.Proofs
set_option maxRecDepth 100000
end Gz
namespace Gz
open Go Gx Go.Proofs
set_option maxRecDepth 100000
end Gz
namespace Gz
open Go Gx Go.Proofs
set_option maxRecDepth 100000
end Gz
namespace Gz
open Go Gx Go.Proofs
set_option maxRecDepth 100000
end Gz
namespace Gz
open Go Gx Go.Proofs
set_option maxRecDepth 100000
end Gz
namespace Gz
open Go Gx Go.Proofs
set_option maxRecDepth 100000
end Gz
namespace Gz
open Go Gx Go.Proofs
set_option maxRecDepth 100000
end Gz
namespace Gz
open Go Gx Go.Proofs
set_option maxRecDepth 100000
end Gz
