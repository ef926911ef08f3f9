import Derived.Test.YtcacldakplomnaaGreatDoorProg
import Derived.Test.YtcacldakplomnaaGreatDoorFn1
namespace Gz
open Go Gx Go.Proofs
set_option maxRecDepth 100000
noncomputable def C_sha_Hash_Sum (k : Nat) (D : CallF) : CallF := mkC D [e_sha_Hash_Fork k D, e_sha_Hash_Write k D]
noncomputable def sha_Hash_Sum_l2b (_k : Nat) (_D : CallF) (j7 : (Option Addr) → (Option Addr) → Slc → AHeap → Option ((ByteArray) × AHeap)) (rec47 : (Option Addr) → (Option Addr) → Slc → AHeap → Option ((ByteArray) × AHeap)) (hv43 : Option Addr) (endv44 : Option Addr) (tail45 : Slc) (h46 : AHeap) : Option ((ByteArray) × AHeap) :=
  (endv44).bind fun p48 =>
  (ldL (⟨p48.block, p48.off + 8, none⟩ : Addr) h46).bind fun x49 =>
  let t50 : Int := (Int.tmod (IntKind.wrap .i64 ((x49.len : Int) + (tail45.len : Int))) 64)
  (if (t50 != 56) = true then
  let h51 := AHeap.new h46 (.cells [.int .u8 0] 5 true 0)
  (rdS 1 (⟨(some ⟨h46.next, 0, some 0⟩), 1, 1⟩ : Slc) h51).bind fun n53 =>
  (appendA 1 1 5 h51 tail45 n53 1).bind fun r52 =>
  rec47 hv43 endv44 r52.1 r52.2
  else
  j7 hv43 endv44 tail45 h46)
noncomputable def sha_Hash_Sum_l2 (k : Nat) (D : CallF) (j7 : (Option Addr) → (Option Addr) → Slc → AHeap → Option ((ByteArray) × AHeap)) : (Option Addr) → (Option Addr) → Slc → AHeap → Option ((ByteArray) × AHeap) :=
  iterK (α := (Option Addr) → (Option Addr) → Slc → AHeap → Option ((ByteArray) × AHeap)) (fun _ _ _ _ => none) k (sha_Hash_Sum_l2b k D j7)
noncomputable def sha_Hash_Sum_l1b (_k : Nat) (_D : CallF) (j13 : (Option Addr) → Slc → AHeap → Option ((ByteArray) × AHeap)) (rec38 : (Option Addr) → Slc → Int → Int → AHeap → Option ((ByteArray) × AHeap)) (endv33 : Option Addr) (tail34 : Slc) (count35 : Int) (shift36 : Int) (h37 : AHeap) : Option ((ByteArray) × AHeap) :=
  (if (decide (shift36 ≥ 0)) = true then
  (if 0 ≤ shift36 then
  let t39 : Int := (Int.fdiv count35 (2 ^ (min (shift36).toNat (IntKind.bits .u64))))
  let h40 := AHeap.new h37 (.cells [.int .u8 (IntKind.wrap .u8 t39)] 5 true 0)
  (rdS 1 (⟨(some ⟨h37.next, 0, some 0⟩), 1, 1⟩ : Slc) h40).bind fun n42 =>
  (appendA 1 1 5 h40 tail34 n42 1).bind fun r41 =>
  rec38 endv33 r41.1 count35 (IntKind.wrap .i64 (shift36 - 8)) r41.2
  else none)
  else
  j13 endv33 tail34 h37)
noncomputable def sha_Hash_Sum_l1 (k : Nat) (D : CallF) (j13 : (Option Addr) → Slc → AHeap → Option ((ByteArray) × AHeap)) : (Option Addr) → Slc → Int → Int → AHeap → Option ((ByteArray) × AHeap) :=
  iterK (α := (Option Addr) → Slc → Int → Int → AHeap → Option ((ByteArray) × AHeap)) (fun _ _ _ _ _ => none) k (sha_Hash_Sum_l1b k D j13)
noncomputable def sha_Hash_Sum_l0b (_k : Nat) (_D : CallF) (j18 : Slc → AHeap → Option ((ByteArray) × AHeap)) (rec27 : Slc → (Int × Int × Int × Int × Int × Int × Int × Int) → Int → AHeap → Option ((ByteArray) × AHeap)) (out23 : Slc) (y24 : Int × Int × Int × Int × Int × Int × Int × Int) (y25 : Int) (h26 : AHeap) : Option ((ByteArray) × AHeap) :=
  (if (decide (y25 < 8)) = true then
  (if 0 ≤ y25 ∧ y25 < ((8 : Nat) : Int) then
  (([.int .u32 y24.1, .int .u32 y24.2.1, .int .u32 y24.2.2.1, .int .u32 y24.2.2.2.1, .int .u32 y24.2.2.2.2.1, .int .u32 y24.2.2.2.2.2.1, .int .u32 y24.2.2.2.2.2.2.1, .int .u32 y24.2.2.2.2.2.2.2])[(y25).toNat * 1]?).bind fun v28 =>
  (decI .u32 v28).bind fun x29 =>
  let h30 := AHeap.new h26 (.cells [.int .u8 (IntKind.wrap .u8 (Int.fdiv x29 16777216)), .int .u8 (IntKind.wrap .u8 (Int.fdiv x29 65536)), .int .u8 (IntKind.wrap .u8 (Int.fdiv x29 256)), .int .u8 (IntKind.wrap .u8 x29)] 5 true 0)
  (rdS 1 (⟨(some ⟨h26.next, 0, some 0⟩), 4, 4⟩ : Slc) h30).bind fun n32 =>
  (appendA 1 1 5 h30 out23 n32 4).bind fun r31 =>
  rec27 r31.1 (y24.1, y24.2.1, y24.2.2.1, y24.2.2.2.1, y24.2.2.2.2.1, y24.2.2.2.2.2.1, y24.2.2.2.2.2.2.1, y24.2.2.2.2.2.2.2) (IntKind.wrap .i64 (y25 + 1)) r31.2
  else none)
  else
  j18 out23 h26)
noncomputable def sha_Hash_Sum_l0 (k : Nat) (D : CallF) (j18 : Slc → AHeap → Option ((ByteArray) × AHeap)) : Slc → (Int × Int × Int × Int × Int × Int × Int × Int) → Int → AHeap → Option ((ByteArray) × AHeap) :=
  iterK (α := Slc → (Int × Int × Int × Int × Int × Int × Int × Int) → Int → AHeap → Option ((ByteArray) × AHeap)) (fun _ _ _ _ => none) k (sha_Hash_Sum_l0b k D j18)
noncomputable def sha_Hash_Sum (k : Nat) (D : CallF) (h_0 : Option Addr) (h : AHeap) : Option ((ByteArray) × AHeap) :=
  (sha_Hash_Fork k D h_0 h).bind fun r1 =>
  let h2 := AHeap.new r1.2 (.cells [.int .u8 128] 5 true 0)
  joinK (fun (hv3 : Option Addr) (endv4 : Option Addr) (tail5 : Slc) (h6 : AHeap) =>
  (hv3).bind fun p8 =>
  (ldI .i64 (⟨p8.block, p8.off + 9, none⟩ : Addr) h6).bind fun x9 =>
  joinK (fun (endv10 : Option Addr) (tail11 : Slc) (h12 : AHeap) =>
  (bytesOf h12 tail11).bind fun s14 =>
  (sha_Hash_Write k D endv10 s14 h12).bind fun r15 =>
  joinK (fun (out16 : Slc) (h17 : AHeap) =>
  (bytesOf h17 out16).bind fun s19 =>
  some (s19, h17)) fun j18 =>
  (endv10).bind fun p20 =>
  (ldA 8 (⟨p20.block, p20.off + 0, none⟩ : Addr) r15.2).bind fun l21 =>
  (decC [.i .u32, .i .u32, .i .u32, .i .u32, .i .u32, .i .u32, .i .u32, .i .u32] l21).bind fun x22 =>
  sha_Hash_Sum_l0 k D j18 (⟨none, 0, 0⟩ : Slc) (x22.1, x22.2.1, x22.2.2.1, x22.2.2.2.1, x22.2.2.2.2.1, x22.2.2.2.2.2.1, x22.2.2.2.2.2.2.1, x22.2.2.2.2.2.2.2) 0 r15.2) fun j13 =>
  sha_Hash_Sum_l1 k D j13 endv4 tail5 (IntKind.wrap .u64 ((IntKind.wrap .u64 x9) * 8)) 56 h6) fun j7 =>
  sha_Hash_Sum_l2 k D j7 h_0 r1.1 (⟨(some ⟨r1.2.next, 0, some 0⟩), 1, 1⟩ : Slc) h2
def r_sha_Hash_Sum : RCode := .seq (.region [⟨some 2, .p (.mv (.const (.string ⟨#[]⟩))), none, none⟩])
  (.seq (.region [⟨some 10, .p (.mv (.tmp 0)), none, none⟩,
  ⟨some 11, .e (.call (.func 65) [.tmp 10]), none, none⟩,
  ⟨some 3, .p (.mv (.tmp 11)), none, none⟩])
  (.seq (.region [⟨some 12, .a (.buildSlice 5 1 (zerosL 1 [.int .u8 0]) [(0, 1, .const (.int .u8 128))]), none, none⟩,
  ⟨some 4, .p (.mv (.tmp 12)), none, none⟩])
  (.seq (.join [(0, .p), (3, .p), (4, .l)] (.block 0 (.loop [(0, .p), (3, .p), (4, .l)] (.seq (.seq (.region [⟨some 13, .p (.mv (.tmp 3)), none, none⟩,
  ⟨some 14, .p (.nilP (.tmp 13)), none, none⟩,
  ⟨some 15, .p (.fieldAddr 8 (.tmp 14)), none, none⟩,
  ⟨some 16, .l (.load (.l) (.tmp 15)), none, none⟩,
  ⟨some 17, .p (.lenL (.tmp 16)), none, none⟩,
  ⟨some 18, .p (.mv (.tmp 4)), none, none⟩,
  ⟨some 19, .p (.lenL (.tmp 18)), none, none⟩,
  ⟨some 20, .p (.bin .add (.tmp 17) (.tmp 19)), none, none⟩,
  ⟨some 21, .p (.bin .rem (.tmp 20) (.const (.int .i64 64))), none, none⟩,
  ⟨some 22, .p (.bin .neq (.tmp 21) (.const (.int .i64 56))), none, none⟩])
  (.cond (.tmp 22) (.skip) (.exit 0)))
  (.block 1 (.region [⟨some 23, .p (.mv (.tmp 4)), none, none⟩,
  ⟨some 24, .a (.buildSlice 5 1 (zerosL 1 [.int .u8 0]) [(0, 1, .const (.int .u8 0))]), none, none⟩,
  ⟨some 25, .e (.append 1 1 5 [.int .u8 0] .slice (.tmp 23) (.tmp 24)), none, none⟩,
  ⟨some 4, .p (.mv (.tmp 25)), none, none⟩]))))))
  (.seq (.region [⟨some 26, .p (.mv (.tmp 0)), none, none⟩,
  ⟨some 27, .p (.nilP (.tmp 26)), none, none⟩,
  ⟨some 28, .p (.fieldAddr 9 (.tmp 27)), none, none⟩,
  ⟨some 29, .l (.load (.i .i64) (.tmp 28)), none, none⟩,
  ⟨some 30, .p (.convI .u64 (.tmp 29)), none, none⟩,
  ⟨some 31, .p (.bin .mul (.tmp 30) (.const (.int .u64 8))), none, none⟩,
  ⟨some 5, .p (.mv (.tmp 31)), none, none⟩])
  (.seq (.join [(3, .p), (4, .l)] (.seq (.region [⟨some 6, .p (.mv (.const (.int .i64 56))), none, none⟩])
  (.block 2 (.loop [(3, .p), (4, .l), (5, .i .u64), (6, .i .i64)] (.seq (.seq (.region [⟨some 32, .p (.mv (.tmp 6)), none, none⟩,
  ⟨some 33, .p (.bin .geq (.tmp 32) (.const (.int .i64 0))), none, none⟩])
  (.cond (.tmp 33) (.skip) (.exit 2)))
  (.seq (.block 3 (.region [⟨some 36, .p (.mv (.tmp 4)), none, none⟩,
  ⟨some 37, .p (.mv (.tmp 5)), none, none⟩,
  ⟨some 38, .p (.mv (.tmp 6)), none, none⟩,
  ⟨some 39, .p (.bin .shr (.tmp 37) (.tmp 38)), none, none⟩,
  ⟨some 40, .p (.convI .u8 (.tmp 39)), none, none⟩,
  ⟨some 41, .a (.buildSlice 5 1 (zerosL 1 [.int .u8 0]) [(0, 1, .tmp 40)]), none, none⟩,
  ⟨some 42, .e (.append 1 1 5 [.int .u8 0] .slice (.tmp 36) (.tmp 41)), none, none⟩,
  ⟨some 4, .p (.mv (.tmp 42)), none, none⟩]))
  (.region [⟨some 34, .p (.mv (.tmp 6)), none, none⟩,
  ⟨some 35, .p (.bin .sub (.tmp 34) (.const (.int .i64 8))), none, none⟩,
  ⟨some 6, .p (.mv (.tmp 35)), none, none⟩])))))))
  (.seq (.region [⟨some 43, .p (.mv (.tmp 3)), none, none⟩,
  ⟨some 44, .p (.mv (.tmp 4)), none, none⟩,
  ⟨some 45, .l (.convBS (.tmp 44)), none, none⟩,
  ⟨some 46, .e (.call (.func 37) [.tmp 43, .tmp 45]), none, none⟩])
  (.seq (.region [⟨some 7, .p (.mv (.const (.slice none 0 0))), none, none⟩])
  (.seq (.join [(7, .l)] (.seq (.region [⟨some 47, .p (.mv (.tmp 3)), none, none⟩,
  ⟨some 48, .p (.nilP (.tmp 47)), none, none⟩,
  ⟨some 49, .p (.fieldAddr 0 (.tmp 48)), none, none⟩,
  ⟨some 50, .l (.load (.agg 8) (.tmp 49)), none, some (.st [.i .u32, .i .u32, .i .u32, .i .u32, .i .u32, .i .u32, .i .u32, .i .u32])⟩,
  ⟨some 51, .p (.mv (.const (.int .i64 0))), none, none⟩])
  (.block 4 (.loop [(7, .l), (50, .st [.i .u32, .i .u32, .i .u32, .i .u32, .i .u32, .i .u32, .i .u32, .i .u32]), (51, .i .i64)] (.seq (.region [⟨some 52, .p (.bin .lss (.tmp 51) (.const (.int .i64 8))), none, none⟩])
  (.seq (.cond (.tmp 52) (.skip) (.exit 4))
  (.seq (.block 5 (.seq (.region [⟨some 53, .p (.idxV 8 1 (.i .u32) (.tmp 50) (.tmp 51)), none, none⟩,
  ⟨some 9, .p (.mv (.tmp 53)), none, none⟩])
  (.region [⟨some 54, .p (.mv (.tmp 7)), none, none⟩,
  ⟨some 55, .p (.mv (.tmp 9)), none, none⟩,
  ⟨some 56, .p (.bin .shr (.tmp 55) (.const (.int .u64 24))), none, none⟩,
  ⟨some 57, .p (.convI .u8 (.tmp 56)), none, none⟩,
  ⟨some 58, .p (.mv (.tmp 9)), none, none⟩,
  ⟨some 59, .p (.bin .shr (.tmp 58) (.const (.int .u64 16))), none, none⟩,
  ⟨some 60, .p (.convI .u8 (.tmp 59)), none, none⟩,
  ⟨some 61, .p (.mv (.tmp 9)), none, none⟩,
  ⟨some 62, .p (.bin .shr (.tmp 61) (.const (.int .u64 8))), none, none⟩,
  ⟨some 63, .p (.convI .u8 (.tmp 62)), none, none⟩,
  ⟨some 64, .p (.mv (.tmp 9)), none, none⟩,
  ⟨some 65, .p (.convI .u8 (.tmp 64)), none, none⟩,
  ⟨some 66, .a (.buildSlice 5 4 (zerosL 4 [.int .u8 0]) [(0, 1, .tmp 57), (1, 1, .tmp 60), (2, 1, .tmp 63), (3, 1, .tmp 65)]), none, none⟩,
  ⟨some 67, .e (.append 1 1 5 [.int .u8 0] .slice (.tmp 54) (.tmp 66)), none, none⟩,
  ⟨some 7, .p (.mv (.tmp 67)), none, none⟩])))
  (.region [⟨some 68, .p (.bin .add (.tmp 51) (.const (.int .i64 1))), none, none⟩,
  ⟨some 51, .p (.mv (.tmp 68)), none, none⟩]))))))))
  (.seq (.region [⟨some 69, .p (.mv (.tmp 7)), none, none⟩,
  ⟨some 70, .l (.convBS (.tmp 69)), none, none⟩,
  ⟨some 2, .p (.mv (.tmp 70)), none, none⟩])
  (.ret))))))))))
noncomputable def e_sha_Hash_Sum (k : Nat) (D : CallF) : Ent := entOf 38 [(0, .p)] [(2, .s)] (sha_Hash_Sum k D)
theorem q_sha_Hash_Sum : (Tryz.f38.body).bind (rcodeOf Tryz.prog 2 Tryz.f38.ntmps) = some (strip r_sha_Hash_Sum) := by kernel_rfl
theorem t_sha_Hash_Sum (k : Nat) (D : CallF) : curF [(0, .p)] (fun args h => denF (C_sha_Hash_Sum k D) k r_sha_Hash_Sum [(2, .s)] [none] args h) = sha_Hash_Sum k D := by kernel_rfl
theorem ok_sha_Hash_Sum {D : CallF} (hD : CSound Tryz.prog 2 D) (k : Nat) : EntOk Tryz.prog 2 (e_sha_Hash_Sum k D) :=
  entOf_ok2 (mkC_sound hD (EntsOk.more (ok_sha_Hash_Fork hD k) (EntsOk.more (ok_sha_Hash_Write hD k) (EntsOk.none)))) Tryz.func38 rfl q_sha_Hash_Sum rfl (t_sha_Hash_Sum k D)
end Gz
namespace Gz
open Go Gx Go.Proofs
set_option maxRecDepth 100000
noncomputable def C_sha_Sum (k : Nat) (D : CallF) : CallF := mkC D [e_sha_New k D, e_sha_Hash_Sum k D, e_sha_Hash_Write k D]
noncomputable def sha_Sum_l0b (k : Nat) (D : CallF) (j4 : (Option Addr) → AHeap → Option ((ByteArray) × AHeap)) (rec11 : (Option Addr) → Slc → Int → Int → AHeap → Option ((ByteArray) × AHeap)) (hv6 : Option Addr) (y7 : Slc) (y8 : Int) (y9 : Int) (h10 : AHeap) : Option ((ByteArray) × AHeap) :=
  (if (decide (y9 < y8)) = true then
  (Gx.idxL 1 y7 y9).bind fun q12 =>
  (ldS q12 h10).bind fun x13 =>
  (sha_Hash_Write k D hv6 x13 h10).bind fun r14 =>
  rec11 hv6 y7 y8 (IntKind.wrap .i64 (y9 + 1)) r14.2
  else
  j4 hv6 h10)
noncomputable def sha_Sum_l0 (k : Nat) (D : CallF) (j4 : (Option Addr) → AHeap → Option ((ByteArray) × AHeap)) : (Option Addr) → Slc → Int → Int → AHeap → Option ((ByteArray) × AHeap) :=
  iterK (α := (Option Addr) → Slc → Int → Int → AHeap → Option ((ByteArray) × AHeap)) (fun _ _ _ _ _ => none) k (sha_Sum_l0b k D j4)
noncomputable def sha_Sum (k : Nat) (D : CallF) (pieces_0 : Slc) (h : AHeap) : Option ((ByteArray) × AHeap) :=
  (sha_New k D h).bind fun r1 =>
  joinK (fun (hv2 : Option Addr) (h3 : AHeap) =>
  (sha_Hash_Sum k D hv2 h3).bind fun r5 =>
  some (r5.1, r5.2)) fun j4 =>
  sha_Sum_l0 k D j4 r1.1 pieces_0 (pieces_0.len : Int) 0 r1.2
def r_sha_Sum : RCode := .seq (.region [⟨some 2, .p (.mv (.const (.string ⟨#[]⟩))), none, none⟩])
  (.seq (.region [⟨some 6, .e (.call (.func 36) []), none, none⟩,
  ⟨some 3, .p (.mv (.tmp 6)), none, none⟩])
  (.seq (.join [(3, .p)] (.seq (.region [⟨some 7, .p (.mv (.tmp 0)), none, none⟩,
  ⟨some 8, .p (.lenL (.tmp 7)), none, none⟩,
  ⟨some 9, .p (.mv (.const (.int .i64 0))), none, none⟩])
  (.block 0 (.loop [(3, .p), (7, .l), (8, .i .i64), (9, .i .i64)] (.seq (.region [⟨some 10, .p (.bin .lss (.tmp 9) (.tmp 8)), none, none⟩])
  (.seq (.cond (.tmp 10) (.skip) (.exit 0))
  (.seq (.block 1 (.seq (.region [⟨some 11, .p (.idxL 1 (.tmp 7) (.tmp 9)), none, none⟩,
  ⟨some 12, .l (.load (.s) (.tmp 11)), none, none⟩,
  ⟨some 5, .p (.mv (.tmp 12)), none, none⟩])
  (.region [⟨some 13, .p (.mv (.tmp 3)), none, none⟩,
  ⟨some 14, .p (.mv (.tmp 5)), none, none⟩,
  ⟨some 15, .e (.call (.func 37) [.tmp 13, .tmp 14]), none, none⟩])))
  (.region [⟨some 16, .p (.bin .add (.tmp 9) (.const (.int .i64 1))), none, none⟩,
  ⟨some 9, .p (.mv (.tmp 16)), none, none⟩]))))))))
  (.seq (.region [⟨some 17, .p (.mv (.tmp 3)), none, none⟩,
  ⟨some 18, .e (.call (.func 38) [.tmp 17]), none, none⟩,
  ⟨some 2, .p (.mv (.tmp 18)), none, none⟩])
  (.ret))))
noncomputable def e_sha_Sum (k : Nat) (D : CallF) : Ent := entOf 18 [(0, .l)] [(2, .s)] (sha_Sum k D)
theorem q_sha_Sum : (Tryz.f18.body).bind (rcodeOf Tryz.prog 2 Tryz.f18.ntmps) = some (strip r_sha_Sum) := by kernel_rfl
theorem t_sha_Sum (k : Nat) (D : CallF) : curF [(0, .l)] (fun args h => denF (C_sha_Sum k D) k r_sha_Sum [(2, .s)] [none] args h) = sha_Sum k D := by kernel_rfl
theorem ok_sha_Sum {D : CallF} (hD : CSound Tryz.prog 2 D) (k : Nat) : EntOk Tryz.prog 2 (e_sha_Sum k D) :=
  entOf_ok2 (mkC_sound hD (EntsOk.more (ok_sha_New hD k) (EntsOk.more (ok_sha_Hash_Sum hD k) (EntsOk.more (ok_sha_Hash_Write hD k) (EntsOk.none))))) Tryz.func18 rfl q_sha_Sum rfl (t_sha_Sum k D)
end Gz
namespace Gz
open Go Gx Go.Proofs
set_option maxRecDepth 100000
noncomputable def C_sha_IsId (_k : Nat) (D : CallF) : CallF := mkC D []
noncomputable def sha_IsId (_k : Nat) (_D : CallF) (s_0 : ByteArray) (h : AHeap) : Option ((Bool) × AHeap) :=
  some (((s_0.size : Int) == 32), h)
def r_sha_IsId : RCode := .seq (.region [⟨some 2, .p (.mv (.const (.bool false))), none, none⟩])
  (.seq (.region [⟨some 3, .p (.mv (.tmp 0)), none, none⟩,
  ⟨some 4, .p (.lenS (.tmp 3)), none, none⟩,
  ⟨some 5, .p (.bin .eql (.tmp 4) (.const (.int .i64 32))), none, none⟩,
  ⟨some 2, .p (.mv (.tmp 5)), none, none⟩])
  (.ret))
noncomputable def e_sha_IsId (k : Nat) (D : CallF) : Ent := entOf 52 [(0, .s)] [(2, .b)] (sha_IsId k D)
theorem q_sha_IsId : (Tryz.f52.body).bind (rcodeOf Tryz.prog 2 Tryz.f52.ntmps) = some (strip r_sha_IsId) := by kernel_rfl
theorem t_sha_IsId (k : Nat) (D : CallF) : curF [(0, .s)] (fun args h => denF (C_sha_IsId k D) k r_sha_IsId [(2, .b)] [none] args h) = sha_IsId k D := by kernel_rfl
theorem ok_sha_IsId {D : CallF} (hD : CSound Tryz.prog 2 D) (k : Nat) : EntOk Tryz.prog 2 (e_sha_IsId k D) :=
  entOf_ok2 (mkC_sound hD (EntsOk.none)) Tryz.func52 rfl q_sha_IsId rfl (t_sha_IsId k D)
end Gz
namespace Gz
open Go Gx Go.Proofs
set_option maxRecDepth 100000
noncomputable def C_shard_Check (k : Nat) (D : CallF) : CallF := mkC D [e_sha_IsId k D]
noncomputable def shard_Check (k : Nat) (D : CallF) (x_0 : Int × Int × Int × Int × ByteArray × ByteArray) (h : AHeap) : Option ((Int) × AHeap) :=
  let h1 := AHeap.new h (.cells [.int .i64 x_0.1, .int .i64 x_0.2.1, .int .i64 x_0.2.2.1, .int .i64 x_0.2.2.2.1, .string x_0.2.2.2.2.1, .string x_0.2.2.2.2.2] 33 true 0)
  joinK (fun (h2 : AHeap) =>
  some (60, h2)) fun j3 =>
  joinK (fun (x4 : Option Addr) (y5 : Bool) (h6 : AHeap) =>
  (if y5 = true then
  j3 h6
  else
  joinK (fun (x8 : Option Addr) (y9 : Bool) (h10 : AHeap) =>
  (if y9 = true then
  j3 h10
  else
  joinK (fun (x12 : Option Addr) (y13 : Bool) (h14 : AHeap) =>
  (if y13 = true then
  j3 h14
  else
  (x12).bind fun p16 =>
  (ldI .i64 (⟨p16.block, p16.off + 3, none⟩ : Addr) h14).bind fun x17 =>
  (x12).bind fun p18 =>
  (ldI .i64 (⟨p18.block, p18.off + 0, none⟩ : Addr) h14).bind fun x19 =>
  (x12).bind fun p20 =>
  (ldI .i64 (⟨p20.block, p20.off + 0, none⟩ : Addr) h14).bind fun x21 =>
  (if x21 = 0 then none else
  let t22 : Int := (IntKind.wrap .i64 (Int.tdiv (IntKind.wrap .i64 ((IntKind.wrap .i64 (x17 + x19)) - 1)) x21))
  (x12).bind fun p23 =>
  (ldS (⟨p23.block, p23.off + 5, none⟩ : Addr) h14).bind fun x24 =>
  (if ((x24.size : Int) != t22) = true then
  some (60, h14)
  else
  some (0, h14))))) fun j15 =>
  (x8).bind fun p25 =>
  (ldI .i64 (⟨p25.block, p25.off + 3, none⟩ : Addr) h10).bind fun x26 =>
  (if (decide (x26 < 0)) = true then
  j15 x8 true h10
  else
  (x8).bind fun p27 =>
  (ldI .i64 (⟨p27.block, p27.off + 3, none⟩ : Addr) h10).bind fun x28 =>
  (if (decide (x28 > 65536)) = true then
  j15 x8 true h10
  else
  (x8).bind fun p29 =>
  (ldS (⟨p29.block, p29.off + 4, none⟩ : Addr) h10).bind fun x30 =>
  (sha_IsId k D x30 h10).bind fun r31 =>
  j15 x8 (!r31.1) r31.2)))) fun j11 =>
  (x4).bind fun p32 =>
  (ldI .i64 (⟨p32.block, p32.off + 2, none⟩ : Addr) h6).bind fun x33 =>
  (if (decide (x33 < 0)) = true then
  j11 x4 true h6
  else
  (x4).bind fun p34 =>
  (ldI .i64 (⟨p34.block, p34.off + 2, none⟩ : Addr) h6).bind fun x35 =>
  (x4).bind fun p36 =>
  (ldI .i64 (⟨p36.block, p36.off + 0, none⟩ : Addr) h6).bind fun x37 =>
  (x4).bind fun p38 =>
  (ldI .i64 (⟨p38.block, p38.off + 1, none⟩ : Addr) h6).bind fun x39 =>
  j11 x4 (decide (x35 ≥ (IntKind.wrap .i64 (x37 + x39)))) h6))) fun j7 =>
  (ldI .i64 (⟨h.next, 0, none⟩ : Addr) h1).bind fun x40 =>
  (if (decide (x40 < 1)) = true then
  j7 (some (⟨h.next, 0, none⟩ : Addr)) true h1
  else
  (ldI .i64 (⟨h.next, 1, none⟩ : Addr) h1).bind fun x41 =>
  (if (decide (x41 < 0)) = true then
  j7 (some (⟨h.next, 0, none⟩ : Addr)) true h1
  else
  (ldI .i64 (⟨h.next, 0, none⟩ : Addr) h1).bind fun x42 =>
  (if (decide (x42 > 255)) = true then
  j7 (some (⟨h.next, 0, none⟩ : Addr)) true h1
  else
  (ldI .i64 (⟨h.next, 1, none⟩ : Addr) h1).bind fun x43 =>
  (ldI .i64 (⟨h.next, 0, none⟩ : Addr) h1).bind fun x44 =>
  j7 (some (⟨h.next, 0, none⟩ : Addr)) (decide (x43 > (IntKind.wrap .i64 (255 - x44)))) h1)))
def r_shard_Check : RCode := .seq (.region [⟨some 1, .a (.box 33 (.tmp 0)), none, none⟩,
  ⟨some 2, .p (.mv (.const (.int .i64 0))), none, none⟩])
  (.seq (.region [⟨some 3, .p (.mv (.const (.int .i64 0))), none, none⟩])
  (.seq (.block 0 (.seq (.block 4 (.seq (.join [] (.block 3 (.block 2 (.block 1 (.seq (.seq (.seq (.join [(1, .p), (4, .b)] (.region [⟨some 5, .p (.fieldAddr 0 (.tmp 1)), none, none⟩,
  ⟨some 6, .l (.load (.i .i64) (.tmp 5)), none, none⟩,
  ⟨some 7, .p (.bin .lss (.tmp 6) (.const (.int .i64 1))), none, none⟩,
  ⟨some 8, .p (.mv (.tmp 7)), none, none⟩,
  ⟨some 9, .p (.fieldAddr 1 (.tmp 1)), (some (8, false)), none⟩,
  ⟨some 10, .l (.load (.i .i64) (.tmp 9)), (some (8, false)), none⟩,
  ⟨some 11, .p (.bin .lss (.tmp 10) (.const (.int .i64 0))), (some (8, false)), none⟩,
  ⟨some 12, .p (.pick (.tmp 8) (.const (.bool true)) (.tmp 11)), none, none⟩,
  ⟨some 13, .p (.mv (.tmp 12)), none, none⟩,
  ⟨some 14, .p (.fieldAddr 0 (.tmp 1)), (some (13, false)), none⟩,
  ⟨some 15, .l (.load (.i .i64) (.tmp 14)), (some (13, false)), none⟩,
  ⟨some 16, .p (.bin .gtr (.tmp 15) (.const (.int .i64 255))), (some (13, false)), none⟩,
  ⟨some 17, .p (.pick (.tmp 13) (.const (.bool true)) (.tmp 16)), none, none⟩,
  ⟨some 18, .p (.mv (.tmp 17)), none, none⟩,
  ⟨some 19, .p (.fieldAddr 1 (.tmp 1)), (some (18, false)), none⟩,
  ⟨some 20, .l (.load (.i .i64) (.tmp 19)), (some (18, false)), none⟩,
  ⟨some 21, .p (.fieldAddr 0 (.tmp 1)), (some (18, false)), none⟩,
  ⟨some 22, .l (.load (.i .i64) (.tmp 21)), (some (18, false)), none⟩,
  ⟨some 23, .p (.bin .sub (.const (.int .i64 255)) (.tmp 22)), (some (18, false)), none⟩,
  ⟨some 24, .p (.bin .gtr (.tmp 20) (.tmp 23)), (some (18, false)), none⟩,
  ⟨some 25, .p (.pick (.tmp 18) (.const (.bool true)) (.tmp 24)), none, none⟩,
  ⟨some 4, .p (.mv (.tmp 25)), none, none⟩]))
  (.cond (.tmp 4) (.exit 1) (.skip)))
  (.seq (.seq (.join [(1, .p), (26, .b)] (.region [⟨some 27, .p (.fieldAddr 2 (.tmp 1)), none, none⟩,
  ⟨some 28, .l (.load (.i .i64) (.tmp 27)), none, none⟩,
  ⟨some 29, .p (.bin .lss (.tmp 28) (.const (.int .i64 0))), none, none⟩,
  ⟨some 30, .p (.mv (.tmp 29)), none, none⟩,
  ⟨some 31, .p (.fieldAddr 2 (.tmp 1)), (some (30, false)), none⟩,
  ⟨some 32, .l (.load (.i .i64) (.tmp 31)), (some (30, false)), none⟩,
  ⟨some 33, .p (.fieldAddr 0 (.tmp 1)), (some (30, false)), none⟩,
  ⟨some 34, .l (.load (.i .i64) (.tmp 33)), (some (30, false)), none⟩,
  ⟨some 35, .p (.fieldAddr 1 (.tmp 1)), (some (30, false)), none⟩,
  ⟨some 36, .l (.load (.i .i64) (.tmp 35)), (some (30, false)), none⟩,
  ⟨some 37, .p (.bin .add (.tmp 34) (.tmp 36)), (some (30, false)), none⟩,
  ⟨some 38, .p (.bin .geq (.tmp 32) (.tmp 37)), (some (30, false)), none⟩,
  ⟨some 39, .p (.pick (.tmp 30) (.const (.bool true)) (.tmp 38)), none, none⟩,
  ⟨some 26, .p (.mv (.tmp 39)), none, none⟩]))
  (.cond (.tmp 26) (.exit 2) (.skip)))
  (.seq (.join [(1, .p), (40, .b)] (.region [⟨some 41, .p (.fieldAddr 3 (.tmp 1)), none, none⟩,
  ⟨some 42, .l (.load (.i .i64) (.tmp 41)), none, none⟩,
  ⟨some 43, .p (.bin .lss (.tmp 42) (.const (.int .i64 0))), none, none⟩,
  ⟨some 44, .p (.mv (.tmp 43)), none, none⟩,
  ⟨some 45, .p (.fieldAddr 3 (.tmp 1)), (some (44, false)), none⟩,
  ⟨some 46, .l (.load (.i .i64) (.tmp 45)), (some (44, false)), none⟩,
  ⟨some 47, .p (.bin .gtr (.tmp 46) (.const (.int .i64 65536))), (some (44, false)), none⟩,
  ⟨some 48, .p (.pick (.tmp 44) (.const (.bool true)) (.tmp 47)), none, none⟩,
  ⟨some 49, .p (.mv (.tmp 48)), none, none⟩,
  ⟨some 50, .p (.fieldAddr 4 (.tmp 1)), (some (49, false)), none⟩,
  ⟨some 51, .l (.load (.s) (.tmp 50)), (some (49, false)), none⟩,
  ⟨some 52, .e (.call (.func 52) [.tmp 51]), (some (49, false)), none⟩,
  ⟨some 53, .p (.un .not (.tmp 52)), (some (49, false)), none⟩,
  ⟨some 54, .p (.pick (.tmp 49) (.const (.bool true)) (.tmp 53)), none, none⟩,
  ⟨some 40, .p (.mv (.tmp 54)), none, none⟩]))
  (.cond (.tmp 40) (.exit 3) (.skip)))))
  (.exit 4))))))
  (.seq (.seq (.region [⟨some 2, .p (.mv (.const (.int .i64 60))), none, none⟩])
  (.ret))
  (.exit 0))))
  (.seq (.region [⟨some 55, .p (.fieldAddr 3 (.tmp 1)), none, none⟩,
  ⟨some 56, .l (.load (.i .i64) (.tmp 55)), none, none⟩,
  ⟨some 57, .p (.fieldAddr 0 (.tmp 1)), none, none⟩,
  ⟨some 58, .l (.load (.i .i64) (.tmp 57)), none, none⟩,
  ⟨some 59, .p (.bin .add (.tmp 56) (.tmp 58)), none, none⟩,
  ⟨some 60, .p (.bin .sub (.tmp 59) (.const (.int .i64 1))), none, none⟩,
  ⟨some 61, .p (.fieldAddr 0 (.tmp 1)), none, none⟩,
  ⟨some 62, .l (.load (.i .i64) (.tmp 61)), none, none⟩,
  ⟨some 63, .p (.bin .quo (.tmp 60) (.tmp 62)), none, none⟩,
  ⟨some 3, .p (.mv (.tmp 63)), none, none⟩])
  (.exit 0))))
  (.seq (.seq (.region [⟨some 64, .p (.fieldAddr 5 (.tmp 1)), none, none⟩,
  ⟨some 65, .l (.load (.s) (.tmp 64)), none, none⟩,
  ⟨some 66, .p (.lenS (.tmp 65)), none, none⟩,
  ⟨some 67, .p (.mv (.tmp 3)), none, none⟩,
  ⟨some 68, .p (.bin .neq (.tmp 66) (.tmp 67)), none, none⟩])
  (.cond (.tmp 68) (.seq (.region [⟨some 2, .p (.mv (.const (.int .i64 60))), none, none⟩])
  (.ret)) (.skip)))
  (.seq (.region [⟨some 2, .p (.mv (.const (.int .i64 0))), none, none⟩])
  (.ret)))))
noncomputable def e_shard_Check (k : Nat) (D : CallF) : Ent := entOf 27 [(0, .st [.i .i64, .i .i64, .i .i64, .i .i64, .s, .s])] [(2, .i .i64)] (shard_Check k D)
theorem q_shard_Check : (Tryz.f27.body).bind (rcodeOf Tryz.prog 2 Tryz.f27.ntmps) = some (strip r_shard_Check) := by kernel_rfl
theorem t_shard_Check (k : Nat) (D : CallF) : curF [(0, .st [.i .i64, .i .i64, .i .i64, .i .i64, .s, .s])] (fun args h => denF (C_shard_Check k D) k r_shard_Check [(2, .i .i64)] [none] args h) = shard_Check k D := by kernel_rfl
theorem ok_shard_Check {D : CallF} (hD : CSound Tryz.prog 2 D) (k : Nat) : EntOk Tryz.prog 2 (e_shard_Check k D) :=
  entOf_ok2 (mkC_sound hD (EntsOk.more (ok_sha_IsId hD k) (EntsOk.none))) Tryz.func27 rfl q_shard_Check rfl (t_shard_Check k D)
end Gz
namespace Gz
open Go Gx Go.Proofs
set_option maxRecDepth 100000
noncomputable def C_shard_Fits (_k : Nat) (D : CallF) : CallF := mkC D []
noncomputable def shard_Fits (_k : Nat) (_D : CallF) (x_0 : Int × Int × Int × Int × ByteArray × ByteArray) (y_1 : Int × Int × Int × Int × ByteArray × ByteArray) (h : AHeap) : Option ((Bool) × AHeap) :=
  let h1 := AHeap.new h (.cells [.int .i64 x_0.1, .int .i64 x_0.2.1, .int .i64 x_0.2.2.1, .int .i64 x_0.2.2.2.1, .string x_0.2.2.2.2.1, .string x_0.2.2.2.2.2] 33 true 0)
  let h2 := AHeap.new h1 (.cells [.int .i64 y_1.1, .int .i64 y_1.2.1, .int .i64 y_1.2.2.1, .int .i64 y_1.2.2.2.1, .string y_1.2.2.2.2.1, .string y_1.2.2.2.2.2] 33 true 0)
  (ldI .i64 (⟨h1.next, 2, none⟩ : Addr) h2).bind fun x3 =>
  (st1 (⟨h.next, 2, none⟩ : Addr) (.int .i64 x3) h2).bind fun h4 =>
  (ldS (⟨h1.next, 5, none⟩ : Addr) h4).bind fun x5 =>
  guardP (SameW [h2] (fun H7 => (ldS (⟨h1.next, 5, none⟩ : Addr) H7).bind fun y6 => some (.string y6)) (.string x5)) (
  (st1 (⟨h.next, 5, none⟩ : Addr) (.string x5) h4).bind fun h8 =>
  (ldA 6 (⟨h.next, 0, none⟩ : Addr) h8).bind fun l9 =>
  (decC [.i .i64, .i .i64, .i .i64, .i .i64, .s, .s] l9).bind fun x10 =>
  (ldA 6 (⟨h1.next, 0, none⟩ : Addr) h8).bind fun l11 =>
  (decC [.i .i64, .i .i64, .i .i64, .i .i64, .s, .s] l11).bind fun x12 =>
  let c13 : Bool := ((x10.1 == x12.1) && ((x10.2.1 == x12.2.1) && ((x10.2.2.1 == x12.2.2.1) && ((x10.2.2.2.1 == x12.2.2.2.1) && ((x10.2.2.2.2.1 == x12.2.2.2.2.1) && (x10.2.2.2.2.2 == x12.2.2.2.2.2))))))
  some (c13, h8))
def r_shard_Fits : RCode := .seq (.region [⟨some 2, .a (.box 33 (.tmp 0)), none, none⟩,
  ⟨some 3, .a (.box 33 (.tmp 1)), none, none⟩,
  ⟨some 4, .p (.mv (.const (.bool false))), none, none⟩])
  (.seq (.draw [⟨0, ⟨some 5, .p (.fieldAddr 2 (.tmp 3)), none, none⟩, [3], 0⟩,
  ⟨1, ⟨some 6, .l (.load (.i .i64) (.tmp 5)), none, none⟩, [5], 0⟩,
  ⟨4, ⟨some 9, .p (.fieldAddr 2 (.tmp 2)), none, none⟩, [2], 0⟩,
  ⟨5, ⟨none, .e (.store none (.tmp 9) (.tmp 6)), none, none⟩, [9, 6], 0⟩,
  ⟨2, ⟨some 7, .p (.fieldAddr 5 (.tmp 3)), none, none⟩, [3], 1⟩,
  ⟨3, ⟨some 8, .l (.load (.s) (.tmp 7)), none, none⟩, [7], 1⟩,
  ⟨6, ⟨some 10, .p (.fieldAddr 5 (.tmp 2)), none, none⟩, [2], 0⟩,
  ⟨7, ⟨none, .e (.store none (.tmp 10) (.tmp 8)), none, none⟩, [10, 8], 0⟩])
  (.seq (.region [⟨some 11, .l (.load (.agg 6) (.tmp 2)), none, some (.st [.i .i64, .i .i64, .i .i64, .i .i64, .s, .s])⟩,
  ⟨some 12, .l (.load (.agg 6) (.tmp 3)), none, some (.st [.i .i64, .i .i64, .i .i64, .i .i64, .s, .s])⟩,
  ⟨some 13, .p (.eqSt false [.i .i64, .i .i64, .i .i64, .i .i64, .s, .s] (.tmp 11) (.tmp 12)), none, none⟩,
  ⟨some 4, .p (.mv (.tmp 13)), none, none⟩])
  (.ret)))
noncomputable def e_shard_Fits (k : Nat) (D : CallF) : Ent := entOf 14 [(0, .st [.i .i64, .i .i64, .i .i64, .i .i64, .s, .s]), (1, .st [.i .i64, .i .i64, .i .i64, .i .i64, .s, .s])] [(4, .b)] (shard_Fits k D)
theorem q_shard_Fits : (Tryz.f14.body).bind (rcodeOf Tryz.prog 2 Tryz.f14.ntmps) = some (strip r_shard_Fits) := by kernel_rfl
theorem t_shard_Fits (k : Nat) (D : CallF) : curF [(0, .st [.i .i64, .i .i64, .i .i64, .i .i64, .s, .s]), (1, .st [.i .i64, .i .i64, .i .i64, .i .i64, .s, .s])] (fun args h => denF (C_shard_Fits k D) k r_shard_Fits [(4, .b)] [none] args h) = shard_Fits k D := by kernel_rfl
theorem ok_shard_Fits {D : CallF} (hD : CSound Tryz.prog 2 D) (k : Nat) : EntOk Tryz.prog 2 (e_shard_Fits k D) :=
  entOf_ok2 (mkC_sound hD (EntsOk.none)) Tryz.func14 rfl q_shard_Fits rfl (t_shard_Fits k D)
end Gz
namespace Gz
open Go Gx Go.Proofs
set_option maxRecDepth 100000
noncomputable def C_shard_Gather (k : Nat) (D : CallF) : CallF := mkC D [e_stripe_New k D, e_stripe_Plan_Join k D, e_sha_Sum k D, e_shard_Check k D, e_shard_Fits k D]
noncomputable def shard_Gather_l0b (k : Nat) (D : CallF) (j4 : Slc → Slc → AHeap → Option ((ByteArray × Int) × AHeap)) (rec25 : Slc → Slc → Slc → Int → Int → AHeap → Option ((ByteArray × Int) × AHeap)) (l19 : Slc) (parts20 : Slc) (y21 : Slc) (y22 : Int) (y23 : Int) (h24 : AHeap) : Option ((ByteArray × Int) × AHeap) :=
  (if (decide (y23 < y22)) = true then
  (Gx.idxL 6 y21 y23).bind fun q26 =>
  (ldA 6 q26 h24).bind fun l27 =>
  (decC [.i .i64, .i .i64, .i .i64, .i .i64, .s, .s] l27).bind fun x28 =>
  let h29 := AHeap.new h24 (.cells [.int .i64 0, .int .i64 0, .int .i64 0, .int .i64 0, .string ⟨#[]⟩, .string ⟨#[]⟩] 33 true 0)
  (stL 6 (⟨h24.next, 0, none⟩ : Addr) ([.int .i64 x28.1, .int .i64 x28.2.1, .int .i64 x28.2.2.1, .int .i64 x28.2.2.2.1, .string x28.2.2.2.2.1, .string x28.2.2.2.2.2]) h29).bind fun h30 =>
  joinK (fun (l31 : Slc) (parts32 : Slc) (x33 : Option Addr) (y34 : Slc) (y35 : Int) (y36 : Int) (y37 : Bool) (h38 : AHeap) =>
  (if y37 = true then
  some (((⟨#[]⟩ : ByteArray), 4), h38)
  else
  (x33).bind fun p40 =>
  (ldI .i64 (⟨p40.block, p40.off + 2, none⟩ : Addr) h38).bind fun x41 =>
  (x33).bind fun p42 =>
  (ldS (⟨p42.block, p42.off + 5, none⟩ : Addr) h38).bind fun x43 =>
  let h44 := AHeap.new h38 (.cells [.int .i64 x41, .string x43] 61 true 0)
  (rdS 2 (⟨(some ⟨h38.next, 0, some 0⟩), 1, 1⟩ : Slc) h44).bind fun n46 =>
  (appendA 2 24 61 h44 parts32 n46 1).bind fun r45 =>
  rec25 l31 r45.1 y34 y35 (IntKind.wrap .i64 (y36 + 1)) r45.2)) fun j39 =>
  (ldA 6 (⟨h24.next, 0, none⟩ : Addr) h30).bind fun l47 =>
  (decC [.i .i64, .i .i64, .i .i64, .i .i64, .s, .s] l47).bind fun x48 =>
  (shard_Check k D (x48.1, x48.2.1, x48.2.2.1, x48.2.2.2.1, x48.2.2.2.2.1, x48.2.2.2.2.2) h30).bind fun r49 =>
  (if (r49.1 != 0) = true then
  j39 l19 parts20 (some (⟨h24.next, 0, none⟩ : Addr)) y21 y22 y23 true r49.2
  else
  (Gx.idxL 6 l19 0).bind fun q50 =>
  (ldA 6 q50 r49.2).bind fun l51 =>
  (decC [.i .i64, .i .i64, .i .i64, .i .i64, .s, .s] l51).bind fun x52 =>
  (ldA 6 (⟨h24.next, 0, none⟩ : Addr) r49.2).bind fun l53 =>
  (decC [.i .i64, .i .i64, .i .i64, .i .i64, .s, .s] l53).bind fun x54 =>
  (shard_Fits k D (x52.1, x52.2.1, x52.2.2.1, x52.2.2.2.1, x52.2.2.2.2.1, x52.2.2.2.2.2) (x54.1, x54.2.1, x54.2.2.1, x54.2.2.2.1, x54.2.2.2.2.1, x54.2.2.2.2.2) r49.2).bind fun r55 =>
  j39 l19 parts20 (some (⟨h24.next, 0, none⟩ : Addr)) y21 y22 y23 (!r55.1) r55.2)
  else
  j4 l19 parts20 h24)
noncomputable def shard_Gather_l0 (k : Nat) (D : CallF) (j4 : Slc → Slc → AHeap → Option ((ByteArray × Int) × AHeap)) : Slc → Slc → Slc → Int → Int → AHeap → Option ((ByteArray × Int) × AHeap) :=
  iterK (α := Slc → Slc → Slc → Int → Int → AHeap → Option ((ByteArray × Int) × AHeap)) (fun _ _ _ _ _ _ => none) k (shard_Gather_l0b k D j4)
noncomputable def shard_Gather (k : Nat) (D : CallF) (l_0 : Slc) (h : AHeap) : Option ((ByteArray × Int) × AHeap) :=
  (if ((l_0.len : Int) == 0) = true then
  some (((⟨#[]⟩ : ByteArray), 4), h)
  else
  joinK (fun (l1 : Slc) (parts2 : Slc) (h3 : AHeap) =>
  (Gx.idxL 6 l1 0).bind fun q5 =>
  (ldI .i64 (⟨q5.block, q5.off + 0, none⟩ : Addr) h3).bind fun x6 =>
  (Gx.idxL 6 l1 0).bind fun q7 =>
  (ldI .i64 (⟨q7.block, q7.off + 1, none⟩ : Addr) h3).bind fun x8 =>
  (stripe_New k D x6 x8 h3).bind fun r9 =>
  (if (r9.1.2 != 0) = true then
  some (((⟨#[]⟩ : ByteArray), r9.1.2), r9.2)
  else
  (Gx.idxL 6 l1 0).bind fun q10 =>
  (ldI .i64 (⟨q10.block, q10.off + 3, none⟩ : Addr) r9.2).bind fun x11 =>
  (stripe_Plan_Join k D r9.1.1 parts2 x11 r9.2).bind fun r12 =>
  (if (r12.1.2 != 0) = true then
  some (((⟨#[]⟩ : ByteArray), r12.1.2), r12.2)
  else
  let h13 := AHeap.new r12.2 (.cells [.string r12.1.1] 9 true 0)
  (sha_Sum k D (⟨(some ⟨r12.2.next, 0, some 0⟩), 1, 1⟩ : Slc) h13).bind fun r14 =>
  (Gx.idxL 6 l1 0).bind fun q15 =>
  (ldS (⟨q15.block, q15.off + 4, none⟩ : Addr) r14.2).bind fun x16 =>
  guardP (SameW [h13, r12.2] (fun H18 => (ldS (⟨q15.block, q15.off + 4, none⟩ : Addr) H18).bind fun y17 => some (.string y17)) (.string x16)) (
  (if (!(r14.1 == x16)) = true then
  some (((⟨#[]⟩ : ByteArray), 60), r14.2)
  else
  some ((r12.1.1, 0), r14.2)))))) fun j4 =>
  shard_Gather_l0 k D j4 l_0 (⟨none, 0, 0⟩ : Slc) l_0 (l_0.len : Int) 0 h)
def r_shard_Gather : RCode := .seq (.region [⟨some 2, .p (.mv (.const (.string ⟨#[]⟩))), none, none⟩,
  ⟨some 3, .p (.mv (.const (.int .i64 0))), none, none⟩])
  (.seq (.seq (.region [⟨some 10, .p (.mv (.tmp 0)), none, none⟩,
  ⟨some 11, .p (.lenL (.tmp 10)), none, none⟩,
  ⟨some 12, .p (.bin .eql (.tmp 11) (.const (.int .i64 0))), none, none⟩])
  (.cond (.tmp 12) (.seq (.region [⟨some 2, .p (.mv (.const (.string ⟨#[]⟩))), none, none⟩,
  ⟨some 3, .p (.mv (.const (.int .i64 4))), none, none⟩])
  (.ret)) (.skip)))
  (.seq (.region [⟨some 4, .p (.mv (.const (.slice none 0 0))), none, none⟩])
  (.seq (.join [(0, .l), (4, .l)] (.seq (.region [⟨some 13, .p (.mv (.tmp 0)), none, none⟩,
  ⟨some 14, .p (.lenL (.tmp 13)), none, none⟩,
  ⟨some 15, .p (.mv (.const (.int .i64 0))), none, none⟩])
  (.block 0 (.loop [(0, .l), (4, .l), (13, .l), (14, .i .i64), (15, .i .i64)] (.seq (.region [⟨some 16, .p (.bin .lss (.tmp 15) (.tmp 14)), none, none⟩])
  (.seq (.cond (.tmp 16) (.skip) (.exit 0))
  (.seq (.block 1 (.seq (.region [⟨some 17, .p (.idxL 6 (.tmp 13) (.tmp 15)), none, none⟩,
  ⟨some 18, .l (.load (.agg 6) (.tmp 17)), none, some (.st [.i .i64, .i .i64, .i .i64, .i .i64, .s, .s])⟩,
  ⟨some 6, .a (.alloc 33 [.int .i64 0, .int .i64 0, .int .i64 0, .int .i64 0, .string ⟨#[]⟩, .string ⟨#[]⟩]), none, none⟩,
  ⟨none, .e (.store (some 6) (.tmp 6) (.tmp 18)), none, none⟩])
  (.seq (.seq (.join [(0, .l), (4, .l), (6, .p), (13, .l), (14, .i .i64), (15, .i .i64), (29, .b)] (.draw [⟨0, ⟨some 19, .l (.load (.agg 6) (.tmp 6)), none, some (.st [.i .i64, .i .i64, .i .i64, .i .i64, .s, .s])⟩, [6], 0⟩,
  ⟨1, ⟨some 20, .e (.call (.func 27) [.tmp 19]), none, none⟩, [19], 0⟩,
  ⟨2, ⟨some 21, .p (.bin .neq (.tmp 20) (.const (.int .i64 0))), none, none⟩, [20], 0⟩,
  ⟨3, ⟨some 22, .p (.mv (.tmp 21)), none, none⟩, [21], 0⟩,
  ⟨4, ⟨some 23, .p (.mv (.tmp 0)), (some (22, false)), none⟩, [0, 22], 0⟩,
  ⟨5, ⟨some 24, .p (.idxL 6 (.tmp 23) (.const (.int .i64 0))), (some (22, false)), none⟩, [23, 22], 0⟩,
  ⟨6, ⟨some 25, .l (.load (.agg 6) (.tmp 24)), (some (22, false)), some (.st [.i .i64, .i .i64, .i .i64, .i .i64, .s, .s])⟩, [24, 22], 0⟩,
  ⟨7, ⟨some 26, .l (.load (.agg 6) (.tmp 6)), (some (22, false)), some (.st [.i .i64, .i .i64, .i .i64, .i .i64, .s, .s])⟩, [6, 22], 0⟩,
  ⟨8, ⟨some 27, .e (.call (.func 14) [.tmp 25, .tmp 26]), (some (22, false)), none⟩, [25, 26, 22], 0⟩,
  ⟨9, ⟨some 28, .p (.un .not (.tmp 27)), (some (22, false)), none⟩, [27, 22], 0⟩,
  ⟨10, ⟨some 29, .p (.pick (.tmp 22) (.const (.bool true)) (.tmp 28)), none, none⟩, [22, 28], 0⟩]))
  (.cond (.tmp 29) (.seq (.region [⟨some 2, .p (.mv (.const (.string ⟨#[]⟩))), none, none⟩,
  ⟨some 3, .p (.mv (.const (.int .i64 4))), none, none⟩])
  (.ret)) (.skip)))
  (.region [⟨some 30, .p (.mv (.tmp 4)), none, none⟩,
  ⟨some 31, .p (.fieldAddr 2 (.tmp 6)), none, none⟩,
  ⟨some 32, .l (.load (.i .i64) (.tmp 31)), none, none⟩,
  ⟨some 33, .p (.fieldAddr 5 (.tmp 6)), none, none⟩,
  ⟨some 34, .l (.load (.s) (.tmp 33)), none, none⟩,
  ⟨some 35, .p (.build [.int .i64 0, .string ⟨#[]⟩] [(0, 1, .tmp 32), (1, 1, .tmp 34)]), none, none⟩,
  ⟨some 36, .a (.buildSlice 61 1 (zerosL 1 [.int .i64 0, .string ⟨#[]⟩]) [(0, 2, .tmp 35)]), none, none⟩,
  ⟨some 37, .e (.append 2 24 61 [.int .i64 0, .string ⟨#[]⟩] .slice (.tmp 30) (.tmp 36)), none, none⟩,
  ⟨some 4, .p (.mv (.tmp 37)), none, none⟩]))))
  (.region [⟨some 38, .p (.bin .add (.tmp 15) (.const (.int .i64 1))), none, none⟩,
  ⟨some 15, .p (.mv (.tmp 38)), none, none⟩]))))))))
  (.seq (.draw [⟨0, ⟨some 40, .p (.mv (.tmp 0)), none, none⟩, [0], 0⟩,
  ⟨1, ⟨some 41, .p (.idxL 6 (.tmp 40) (.const (.int .i64 0))), none, none⟩, [40], 0⟩,
  ⟨2, ⟨some 42, .p (.fieldAddr 0 (.tmp 41)), none, none⟩, [41], 0⟩,
  ⟨3, ⟨some 43, .l (.load (.i .i64) (.tmp 42)), none, none⟩, [42], 0⟩,
  ⟨4, ⟨some 44, .p (.mv (.tmp 0)), none, none⟩, [0], 0⟩,
  ⟨5, ⟨some 45, .p (.idxL 6 (.tmp 44) (.const (.int .i64 0))), none, none⟩, [44], 0⟩,
  ⟨6, ⟨some 46, .p (.fieldAddr 1 (.tmp 45)), none, none⟩, [45], 0⟩,
  ⟨7, ⟨some 47, .l (.load (.i .i64) (.tmp 46)), none, none⟩, [46], 0⟩,
  ⟨8, ⟨some 48, .e (.call (.func 20) [.tmp 43, .tmp 47]), none, none⟩, [43, 47], 0⟩,
  ⟨9, ⟨some 39, .p (.mv (.tmp 48)), none, none⟩, [48], 0⟩,
  ⟨10, ⟨some 49, .p (.extract (.tmp 39) 0), none, none⟩, [39], 0⟩,
  ⟨11, ⟨some 50, .p (.extract (.tmp 39) 1), none, none⟩, [39], 0⟩,
  ⟨12, ⟨some 7, .p (.mv (.tmp 49)), none, none⟩, [49], 0⟩,
  ⟨13, ⟨some 8, .p (.mv (.tmp 50)), none, none⟩, [50], 0⟩])
  (.seq (.seq (.region [⟨some 51, .p (.mv (.tmp 8)), none, none⟩,
  ⟨some 52, .p (.bin .neq (.tmp 51) (.const (.int .i64 0))), none, none⟩])
  (.cond (.tmp 52) (.seq (.region [⟨some 53, .p (.mv (.tmp 8)), none, none⟩,
  ⟨some 2, .p (.mv (.const (.string ⟨#[]⟩))), none, none⟩,
  ⟨some 3, .p (.mv (.tmp 53)), none, none⟩])
  (.ret)) (.skip)))
  (.seq (.region [⟨some 55, .p (.mv (.tmp 7)), none, none⟩,
  ⟨some 56, .p (.mv (.tmp 4)), none, none⟩,
  ⟨some 57, .p (.mv (.tmp 0)), none, none⟩,
  ⟨some 58, .p (.idxL 6 (.tmp 57) (.const (.int .i64 0))), none, none⟩,
  ⟨some 59, .p (.fieldAddr 3 (.tmp 58)), none, none⟩,
  ⟨some 60, .l (.load (.i .i64) (.tmp 59)), none, none⟩,
  ⟨some 61, .e (.call (.func 28) [.tmp 55, .tmp 56, .tmp 60]), none, none⟩,
  ⟨some 54, .p (.mv (.tmp 61)), none, none⟩,
  ⟨some 62, .p (.extract (.tmp 54) 0), none, none⟩,
  ⟨some 63, .p (.extract (.tmp 54) 1), none, none⟩,
  ⟨some 9, .p (.mv (.tmp 62)), none, none⟩,
  ⟨some 8, .p (.mv (.tmp 63)), none, none⟩])
  (.seq (.block 2 (.seq (.region [⟨some 65, .p (.mv (.tmp 8)), none, none⟩,
  ⟨some 66, .p (.bin .neq (.tmp 65) (.const (.int .i64 0))), none, none⟩,
  ⟨some 64, .p (.mv (.tmp 66)), none, none⟩])
  (.cond (.tmp 64) (.seq (.region [⟨some 67, .p (.mv (.tmp 8)), none, none⟩,
  ⟨some 2, .p (.mv (.const (.string ⟨#[]⟩))), none, none⟩,
  ⟨some 3, .p (.mv (.tmp 67)), none, none⟩])
  (.ret)) (.seq (.draw [⟨0, ⟨some 69, .p (.mv (.tmp 9)), none, none⟩, [9], 0⟩,
  ⟨1, ⟨some 70, .a (.buildSlice 9 1 (zerosL 1 [.string ⟨#[]⟩]) [(0, 1, .tmp 69)]), none, none⟩, [69], 0⟩,
  ⟨2, ⟨some 71, .e (.call (.func 18) [.tmp 70]), none, none⟩, [70], 0⟩,
  ⟨3, ⟨some 72, .p (.mv (.tmp 0)), none, none⟩, [0], 2⟩,
  ⟨4, ⟨some 73, .p (.idxL 6 (.tmp 72) (.const (.int .i64 0))), none, none⟩, [72], 2⟩,
  ⟨5, ⟨some 74, .p (.fieldAddr 4 (.tmp 73)), none, none⟩, [73], 2⟩,
  ⟨6, ⟨some 75, .l (.load (.s) (.tmp 74)), none, none⟩, [74], 2⟩,
  ⟨7, ⟨some 76, .p (.bin .neq (.tmp 71) (.tmp 75)), none, none⟩, [71, 75], 0⟩,
  ⟨8, ⟨some 68, .p (.mv (.tmp 76)), none, none⟩, [76], 0⟩])
  (.cond (.tmp 68) (.seq (.region [⟨some 2, .p (.mv (.const (.string ⟨#[]⟩))), none, none⟩,
  ⟨some 3, .p (.mv (.const (.int .i64 60))), none, none⟩])
  (.ret)) (.skip))))))
  (.seq (.region [⟨some 77, .p (.mv (.tmp 9)), none, none⟩,
  ⟨some 2, .p (.mv (.tmp 77)), none, none⟩,
  ⟨some 3, .p (.mv (.const (.int .i64 0))), none, none⟩])
  (.ret)))))))))
noncomputable def e_shard_Gather (k : Nat) (D : CallF) : Ent := entOf 12 [(0, .l)] [(2, .s), (3, .i .i64)] (shard_Gather k D)
theorem q_shard_Gather : (Tryz.f12.body).bind (rcodeOf Tryz.prog 2 Tryz.f12.ntmps) = some (strip r_shard_Gather) := by kernel_rfl
theorem t_shard_Gather (k : Nat) (D : CallF) : curF [(0, .l)] (fun args h => denF (C_shard_Gather k D) k r_shard_Gather [(2, .s), (3, .i .i64)] [none, none] args h) = shard_Gather k D := by kernel_rfl
theorem ok_shard_Gather {D : CallF} (hD : CSound Tryz.prog 2 D) (k : Nat) : EntOk Tryz.prog 2 (e_shard_Gather k D) :=
  entOf_ok2 (mkC_sound hD (EntsOk.more (ok_stripe_New hD k) (EntsOk.more (ok_stripe_Plan_Join hD k) (EntsOk.more (ok_sha_Sum hD k) (EntsOk.more (ok_shard_Check hD k) (EntsOk.more (ok_shard_Fits hD k) (EntsOk.none))))))) Tryz.func12 rfl q_shard_Gather rfl (t_shard_Gather k D)
end Gz
namespace Gz
open Go Gx Go.Proofs
set_option maxRecDepth 100000
end Gz
namespace Gz
open Go Gx Go.Proofs
set_option maxRecDepth 100000
end Gz
namespace Gz
open Go Gx Go.Proofs
set_option maxRecDepth 100000
end Gz
namespace Gz
open Go Gx Go.Proofs
set_option maxRecDepth 100000
end Gz
namespace Gz
open Go Gx Go.Proofs
set_option maxRecDepth 100000
end Gz
namespace Gz
open Go Gx Go.Proofs
set_option maxRecDepth 100000
end Gz
namespace Gz
open Go Gx Go.Proofs
set_option maxRecDepth 100000
end Gz
namespace Gz
open Go Gx Go.Proofs
set_option maxRecDepth 100000
end Gz
namespace Gz
open Go Gx Go.Proofs
set_option maxRecDepth 100000
end Gz
namespace Gz
open Go Gx Go.Proofs
set_option maxRecDepth 100000
end Gz
namespace Gz
open Go Gx Go.Proofs
set_option maxRecDepth 100000
end Gz
namespace Gz
open Go Gx Go.Proofs
set_option maxRecDepth 100000
end Gz
namespace Gz
open Go Gx Go.Proofs
set_option maxRecDepth 100000
end Gz
namespace Gz
open Go Gx Go.Proofs
set_option maxRecDepth 100000
end Gz
namespace Gz
open Go Gx Go.Proofs
set_option maxRecDepth 100000
end Gz
namespace Gz
open Go Gx Go.Proofs
set_option maxRecDepth 100000
end Gz
namespace Gz
open Go Gx Go.Proofs
set_option maxRecDepth 100000
end Gz
namespace Gz
open Go Gx Go.Proofs
set_option maxRecDepth 100000
end Gz
namespace Gz
open Go Gx Go.Proofs
set_option maxRecDepth 100000
end Gz
namespace Gz
open Go Gx Go.Proofs
set_option maxRecDepth 100000
end Gz
namespace Gz
open Go Gx Go.Proofs
set_option maxRecDepth 100000
end Gz
namespace Gz
open Go Gx Go.Proofs
set_option maxRecDepth 100000
end Gz
namespace Gz
open Go Gx Go.Proofs
set_option maxRecDepth 100000
end Gz
namespace Gz
open Go Gx Go.Proofs
set_option maxRecDepth 100000
end Gz
namespace Gz
open Go Gx Go.Proofs
set_option maxRecDepth 100000
end Gz
namespace Gz
open Go Gx Go.Proofs
set_option maxRecDepth 100000
end Gz
namespace Gz
open Go Gx Go.Proofs
set_option maxRecDepth 100000
end Gz
namespace Gz
open Go Gx Go.Proofs
set_option maxRecDepth 100000
end Gz
namespace Gz
open Go Gx Go.Proofs
set_option maxRecDepth 100000
end Gz
namespace Gz
open Go Gx Go.Proofs
set_option maxRecDepth 100000
end Gz
namespace Gz
open Go Gx Go.Proofs
set_option maxRecDepth 100000
end Gz
namespace Gz
open Go Gx Go.Proofs
set_option maxRecDepth 100000
end Gz
namespace Gz
open Go Gx Go.Proofs
set_option maxRecDepth 100000
noncomputable def C_num_Read (_k : Nat) (D : CallF) : CallF := mkC D []
noncomputable def num_Read (_k : Nat) (_D : CallF) (s_0 : ByteArray) (h : AHeap) : Option (((Option Addr)) × AHeap) :=
  let h1 := AHeap.new h (.cells [.string s_0, .int .i64 0] 115 true 0)
  some ((some (⟨h.next, 0, none⟩ : Addr)), h1)
def r_num_Read : RCode := .seq (.region [⟨some 2, .p (.mv (.const (.pointer none))), none, none⟩])
  (.seq (.region [⟨some 3, .p (.mv (.tmp 0)), none, none⟩,
  ⟨some 4, .p (.build [.string ⟨#[]⟩, .int .i64 0] [(0, 1, .tmp 3)]), none, none⟩,
  ⟨some 5, .a (.box 115 (.tmp 4)), none, none⟩,
  ⟨some 2, .p (.mv (.tmp 5)), none, none⟩])
  (.ret))
noncomputable def e_num_Read (k : Nat) (D : CallF) : Ent := entOf 31 [(0, .s)] [(2, .p)] (num_Read k D)
theorem q_num_Read : (Tryz.f31.body).bind (rcodeOf Tryz.prog 2 Tryz.f31.ntmps) = some (strip r_num_Read) := by kernel_rfl
theorem t_num_Read (k : Nat) (D : CallF) : curF [(0, .s)] (fun args h => denF (C_num_Read k D) k r_num_Read [(2, .p)] [none] args h) = num_Read k D := by kernel_rfl
theorem ok_num_Read {D : CallF} (hD : CSound Tryz.prog 2 D) (k : Nat) : EntOk Tryz.prog 2 (e_num_Read k D) :=
  entOf_ok2 (mkC_sound hD (EntsOk.none)) Tryz.func31 rfl q_num_Read rfl (t_num_Read k D)
end Gz
namespace Gz
open Go Gx Go.Proofs
set_option maxRecDepth 100000
noncomputable def C_num_Reader_Fail (_k : Nat) (D : CallF) : CallF := mkC D []
noncomputable def num_Reader_Fail (_k : Nat) (_D : CallF) (r_0 : Option Addr) (e_1 : Int) (h : AHeap) : Option ((Unit) × AHeap) :=
  (r_0).bind fun p1 =>
  (ldI .i64 (⟨p1.block, p1.off + 1, none⟩ : Addr) h).bind fun x2 =>
  (if (x2 == 0) = true then
  (r_0).bind fun p3 =>
  (st1 (⟨p3.block, p3.off + 1, none⟩ : Addr) (.int .i64 e_1) h).bind fun h4 =>
  some ((), h4)
  else
  some ((), h))
def r_num_Reader_Fail : RCode := .seq (.region [⟨some 4, .p (.mv (.tmp 0)), none, none⟩,
  ⟨some 5, .p (.nilP (.tmp 4)), none, none⟩,
  ⟨some 6, .p (.fieldAddr 1 (.tmp 5)), none, none⟩,
  ⟨some 7, .l (.load (.i .i64) (.tmp 6)), none, none⟩,
  ⟨some 8, .p (.bin .eql (.tmp 7) (.const (.int .i64 0))), none, none⟩])
  (.cond (.tmp 8) (.region [⟨some 9, .p (.mv (.tmp 0)), none, none⟩,
  ⟨some 10, .p (.mv (.tmp 1)), none, none⟩,
  ⟨some 11, .p (.nilP (.tmp 9)), none, none⟩,
  ⟨some 12, .p (.fieldAddr 1 (.tmp 11)), none, none⟩,
  ⟨none, .e (.store none (.tmp 12) (.tmp 10)), none, none⟩]) (.skip))
noncomputable def e_num_Reader_Fail (k : Nat) (D : CallF) : Ent := entOf 62 [(0, .p), (1, .i .i64)] [] (num_Reader_Fail k D)
theorem q_num_Reader_Fail : (Tryz.f62.body).bind (rcodeOf Tryz.prog 2 Tryz.f62.ntmps) = some (strip r_num_Reader_Fail) := by kernel_rfl
theorem t_num_Reader_Fail (k : Nat) (D : CallF) : curF [(0, .p), (1, .i .i64)] (fun args h => denF (C_num_Reader_Fail k D) k r_num_Reader_Fail [] [] args h) = num_Reader_Fail k D := by kernel_rfl
theorem ok_num_Reader_Fail {D : CallF} (hD : CSound Tryz.prog 2 D) (k : Nat) : EntOk Tryz.prog 2 (e_num_Reader_Fail k D) :=
  entOf_ok2 (mkC_sound hD (EntsOk.none)) Tryz.func62 rfl q_num_Reader_Fail rfl (t_num_Reader_Fail k D)
end Gz
namespace Gz
open Go Gx Go.Proofs
set_option maxRecDepth 100000
noncomputable def C_num_Reader_Left (_k : Nat) (D : CallF) : CallF := mkC D []
noncomputable def num_Reader_Left (_k : Nat) (_D : CallF) (r_0 : Option Addr) (h : AHeap) : Option ((Int) × AHeap) :=
  (r_0).bind fun p1 =>
  (ldS (⟨p1.block, p1.off + 0, none⟩ : Addr) h).bind fun x2 =>
  some ((x2.size : Int), h)
def r_num_Reader_Left : RCode := .seq (.region [⟨some 2, .p (.mv (.const (.int .i64 0))), none, none⟩])
  (.seq (.region [⟨some 3, .p (.mv (.tmp 0)), none, none⟩,
  ⟨some 4, .p (.nilP (.tmp 3)), none, none⟩,
  ⟨some 5, .p (.fieldAddr 0 (.tmp 4)), none, none⟩,
  ⟨some 6, .l (.load (.s) (.tmp 5)), none, none⟩,
  ⟨some 7, .p (.lenS (.tmp 6)), none, none⟩,
  ⟨some 2, .p (.mv (.tmp 7)), none, none⟩])
  (.ret))
noncomputable def e_num_Reader_Left (k : Nat) (D : CallF) : Ent := entOf 34 [(0, .p)] [(2, .i .i64)] (num_Reader_Left k D)
theorem q_num_Reader_Left : (Tryz.f34.body).bind (rcodeOf Tryz.prog 2 Tryz.f34.ntmps) = some (strip r_num_Reader_Left) := by kernel_rfl
theorem t_num_Reader_Left (k : Nat) (D : CallF) : curF [(0, .p)] (fun args h => denF (C_num_Reader_Left k D) k r_num_Reader_Left [(2, .i .i64)] [none] args h) = num_Reader_Left k D := by kernel_rfl
theorem ok_num_Reader_Left {D : CallF} (hD : CSound Tryz.prog 2 D) (k : Nat) : EntOk Tryz.prog 2 (e_num_Reader_Left k D) :=
  entOf_ok2 (mkC_sound hD (EntsOk.none)) Tryz.func34 rfl q_num_Reader_Left rfl (t_num_Reader_Left k D)
end Gz
namespace Gz
open Go Gx Go.Proofs
set_option maxRecDepth 100000
noncomputable def C_num_Reader_Bytes (k : Nat) (D : CallF) : CallF := mkC D [e_num_Reader_Fail k D, e_num_Reader_Left k D]
noncomputable def num_Reader_Bytes (k : Nat) (D : CallF) (r_0 : Option Addr) (n_1 : Int) (h : AHeap) : Option ((ByteArray) × AHeap) :=
  joinK (fun (r1 : Option Addr) (n2 : Int) (h3 : AHeap) =>
  (r1).bind fun p5 =>
  (ldI .i64 (⟨p5.block, p5.off + 1, none⟩ : Addr) h3).bind fun x6 =>
  (if (x6 != 0) = true then
  some ((⟨#[]⟩ : ByteArray), h3)
  else
  (r1).bind fun p7 =>
  (ldS (⟨p7.block, p7.off + 0, none⟩ : Addr) h3).bind fun x8 =>
  (Gx.subS x8 none (some n2)).bind fun s9 =>
  (r1).bind fun p10 =>
  (ldS (⟨p10.block, p10.off + 0, none⟩ : Addr) h3).bind fun x11 =>
  (Gx.subS x11 (some n2) none).bind fun s12 =>
  (r1).bind fun p13 =>
  (st1 (⟨p13.block, p13.off + 0, none⟩ : Addr) (.string s12) h3).bind fun h14 =>
  some (s9, h14))) fun j4 =>
  (if (decide (n_1 < 0)) = true then
  (num_Reader_Fail k D r_0 1 h).bind fun r15 =>
  j4 r_0 n_1 r15.2
  else
  (num_Reader_Left k D r_0 h).bind fun r16 =>
  (if (decide (n_1 > r16.1)) = true then
  (num_Reader_Fail k D r_0 10 r16.2).bind fun r17 =>
  j4 r_0 n_1 r17.2
  else
  j4 r_0 n_1 r16.2))
def r_num_Reader_Bytes : RCode := .seq (.region [⟨some 4, .p (.mv (.const (.string ⟨#[]⟩))), none, none⟩])
  (.seq (.join [(0, .p), (1, .i .i64)] (.block 0 (.seq (.region [⟨some 7, .p (.mv (.tmp 1)), none, none⟩,
  ⟨some 8, .p (.bin .lss (.tmp 7) (.const (.int .i64 0))), none, none⟩,
  ⟨some 6, .p (.mv (.tmp 8)), none, none⟩])
  (.cond (.tmp 6) (.region [⟨some 9, .p (.mv (.tmp 0)), none, none⟩,
  ⟨some 10, .e (.call (.func 62) [.tmp 9, .const (.int .i64 1)]), none, none⟩]) (.seq (.region [⟨some 12, .p (.mv (.tmp 1)), none, none⟩,
  ⟨some 13, .p (.mv (.tmp 0)), none, none⟩,
  ⟨some 14, .e (.call (.func 34) [.tmp 13]), none, none⟩,
  ⟨some 15, .p (.bin .gtr (.tmp 12) (.tmp 14)), none, none⟩,
  ⟨some 11, .p (.mv (.tmp 15)), none, none⟩])
  (.cond (.tmp 11) (.region [⟨some 16, .p (.mv (.tmp 0)), none, none⟩,
  ⟨some 17, .e (.call (.func 62) [.tmp 16, .const (.int .i64 10)]), none, none⟩]) (.skip)))))))
  (.seq (.seq (.region [⟨some 18, .p (.mv (.tmp 0)), none, none⟩,
  ⟨some 19, .p (.nilP (.tmp 18)), none, none⟩,
  ⟨some 20, .p (.fieldAddr 1 (.tmp 19)), none, none⟩,
  ⟨some 21, .l (.load (.i .i64) (.tmp 20)), none, none⟩,
  ⟨some 22, .p (.bin .neq (.tmp 21) (.const (.int .i64 0))), none, none⟩])
  (.cond (.tmp 22) (.seq (.region [⟨some 4, .p (.mv (.const (.string ⟨#[]⟩))), none, none⟩])
  (.ret)) (.skip)))
  (.seq (.region [⟨some 23, .p (.mv (.tmp 0)), none, none⟩,
  ⟨some 24, .p (.nilP (.tmp 23)), none, none⟩,
  ⟨some 25, .p (.fieldAddr 0 (.tmp 24)), none, none⟩,
  ⟨some 26, .l (.load (.s) (.tmp 25)), none, none⟩,
  ⟨some 27, .p (.mv (.tmp 1)), none, none⟩,
  ⟨some 28, .p (.subS (.tmp 26) none (some (.tmp 27))), none, none⟩,
  ⟨some 5, .p (.mv (.tmp 28)), none, none⟩])
  (.seq (.region [⟨some 29, .p (.mv (.tmp 0)), none, none⟩,
  ⟨some 30, .p (.mv (.tmp 0)), none, none⟩,
  ⟨some 31, .p (.nilP (.tmp 30)), none, none⟩,
  ⟨some 32, .p (.fieldAddr 0 (.tmp 31)), none, none⟩,
  ⟨some 33, .l (.load (.s) (.tmp 32)), none, none⟩,
  ⟨some 34, .p (.mv (.tmp 1)), none, none⟩,
  ⟨some 35, .p (.subS (.tmp 33) (some (.tmp 34)) none), none, none⟩,
  ⟨some 36, .p (.nilP (.tmp 29)), none, none⟩,
  ⟨some 37, .p (.fieldAddr 0 (.tmp 36)), none, none⟩,
  ⟨none, .e (.store none (.tmp 37) (.tmp 35)), none, none⟩])
  (.seq (.region [⟨some 38, .p (.mv (.tmp 5)), none, none⟩,
  ⟨some 4, .p (.mv (.tmp 38)), none, none⟩])
  (.ret))))))
noncomputable def e_num_Reader_Bytes (k : Nat) (D : CallF) : Ent := entOf 32 [(0, .p), (1, .i .i64)] [(4, .s)] (num_Reader_Bytes k D)
theorem q_num_Reader_Bytes : (Tryz.f32.body).bind (rcodeOf Tryz.prog 2 Tryz.f32.ntmps) = some (strip r_num_Reader_Bytes) := by kernel_rfl
theorem t_num_Reader_Bytes (k : Nat) (D : CallF) : curF [(0, .p), (1, .i .i64)] (fun args h => denF (C_num_Reader_Bytes k D) k r_num_Reader_Bytes [(4, .s)] [none] args h) = num_Reader_Bytes k D := by kernel_rfl
theorem ok_num_Reader_Bytes {D : CallF} (hD : CSound Tryz.prog 2 D) (k : Nat) : EntOk Tryz.prog 2 (e_num_Reader_Bytes k D) :=
  entOf_ok2 (mkC_sound hD (EntsOk.more (ok_num_Reader_Fail hD k) (EntsOk.more (ok_num_Reader_Left hD k) (EntsOk.none)))) Tryz.func32 rfl q_num_Reader_Bytes rfl (t_num_Reader_Bytes k D)
end Gz
namespace Gz
open Go Gx Go.Proofs
set_option maxRecDepth 100000
noncomputable def C_num_Reader_Fixed (k : Nat) (D : CallF) : CallF := mkC D [e_num_Reader_Bytes k D, e_num_Reader_Fail k D]
noncomputable def num_Reader_Fixed_l0b (_k : Nat) (_D : CallF) (j7 : Int → AHeap → Option ((Int) × AHeap)) (rec15 : Int → Slc → Int → Int → AHeap → Option ((Int) × AHeap)) (n10 : Int) (y11 : Slc) (y12 : Int) (y13 : Int) (h14 : AHeap) : Option ((Int) × AHeap) :=
  (if (decide (y13 < y12)) = true then
  (Gx.idxL 1 y11 y13).bind fun q16 =>
  (ldI .u8 q16 h14).bind fun x17 =>
  let t18 : Int := (Go.bits .or .i64 (IntKind.wrap .i64 (n10 * 256)) (IntKind.wrap .i64 x17))
  rec15 t18 y11 y12 (IntKind.wrap .i64 (y13 + 1)) h14
  else
  j7 n10 h14)
noncomputable def num_Reader_Fixed_l0 (k : Nat) (D : CallF) (j7 : Int → AHeap → Option ((Int) × AHeap)) : Int → Slc → Int → Int → AHeap → Option ((Int) × AHeap) :=
  iterK (α := Int → Slc → Int → Int → AHeap → Option ((Int) × AHeap)) (fun _ _ _ _ _ => none) k (num_Reader_Fixed_l0b k D j7)
noncomputable def num_Reader_Fixed (k : Nat) (D : CallF) (r_0 : Option Addr) (bytes_1 : Int) (h : AHeap) : Option ((Int) × AHeap) :=
  joinK (fun (r1 : Option Addr) (bytes2 : Int) (h3 : AHeap) =>
  joinK (fun (n5 : Int) (h6 : AHeap) =>
  some (n5, h6)) fun j7 =>
  (num_Reader_Bytes k D r1 bytes2 h3).bind fun r8 =>
  let h9 := AHeap.new r8.2 (.cells (bytesL r8.1) 5 true 0)
  num_Reader_Fixed_l0 k D j7 0 (⟨(some ⟨r8.2.next, 0, some 2⟩), r8.1.size, r8.1.size⟩ : Slc) (r8.1.size : Int) 0 h9) fun j4 =>
  joinK (fun (r19 : Option Addr) (bytes20 : Int) (y21 : Bool) (h22 : AHeap) =>
  (if y21 = true then
  (num_Reader_Fail k D r19 1 h22).bind fun r24 =>
  j4 r19 bytes20 r24.2
  else
  j4 r19 bytes20 h22)) fun j23 =>
  (if (decide (bytes_1 < 1)) = true then
  j23 r_0 bytes_1 true h
  else
  j23 r_0 bytes_1 (decide (bytes_1 > 7)) h)
def r_num_Reader_Fixed : RCode := .seq (.region [⟨some 4, .p (.mv (.const (.int .i64 0))), none, none⟩])
  (.seq (.join [(0, .p), (1, .i .i64)] (.seq (.join [(0, .p), (1, .i .i64), (14, .b)] (.region [⟨some 9, .p (.mv (.tmp 1)), none, none⟩,
  ⟨some 10, .p (.bin .lss (.tmp 9) (.const (.int .i64 1))), none, none⟩,
  ⟨some 11, .p (.mv (.tmp 10)), none, none⟩,
  ⟨some 12, .p (.mv (.tmp 1)), (some (11, false)), none⟩,
  ⟨some 13, .p (.bin .gtr (.tmp 12) (.const (.int .i64 7))), (some (11, false)), none⟩,
  ⟨some 14, .p (.pick (.tmp 11) (.const (.bool true)) (.tmp 13)), none, none⟩]))
  (.cond (.tmp 14) (.region [⟨some 15, .p (.mv (.tmp 0)), none, none⟩,
  ⟨some 16, .e (.call (.func 62) [.tmp 15, .const (.int .i64 1)]), none, none⟩]) (.skip))))
  (.seq (.region [⟨some 17, .p (.mv (.tmp 0)), none, none⟩,
  ⟨some 18, .p (.mkFunc 32 [.tmp 17] []), none, none⟩,
  ⟨some 5, .p (.mv (.tmp 18)), none, none⟩])
  (.seq (.region [⟨some 6, .p (.mv (.const (.int .i64 0))), none, none⟩])
  (.seq (.join [(6, .i .i64)] (.seq (.region [⟨some 19, .p (.mv (.tmp 5)), none, none⟩,
  ⟨some 20, .p (.mv (.tmp 1)), none, none⟩,
  ⟨some 21, .e (.call (.tmp 19) [.tmp 20]), none, some (.s)⟩,
  ⟨some 22, .a (.convSB 5 (.tmp 21)), none, none⟩,
  ⟨some 23, .p (.lenL (.tmp 22)), none, none⟩,
  ⟨some 24, .p (.mv (.const (.int .i64 0))), none, none⟩])
  (.block 0 (.loop [(6, .i .i64), (22, .l), (23, .i .i64), (24, .i .i64)] (.seq (.region [⟨some 25, .p (.bin .lss (.tmp 24) (.tmp 23)), none, none⟩])
  (.seq (.cond (.tmp 25) (.skip) (.exit 0))
  (.seq (.block 1 (.seq (.region [⟨some 26, .p (.idxL 1 (.tmp 22) (.tmp 24)), none, none⟩,
  ⟨some 27, .l (.load (.i .u8) (.tmp 26)), none, none⟩,
  ⟨some 8, .p (.mv (.tmp 27)), none, none⟩])
  (.region [⟨some 28, .p (.mv (.tmp 6)), none, none⟩,
  ⟨some 29, .p (.bin .shl (.tmp 28) (.const (.int .u64 8))), none, none⟩,
  ⟨some 30, .p (.mv (.tmp 8)), none, none⟩,
  ⟨some 31, .p (.convI .i64 (.tmp 30)), none, none⟩,
  ⟨some 32, .p (.bin .or (.tmp 29) (.tmp 31)), none, none⟩,
  ⟨some 6, .p (.mv (.tmp 32)), none, none⟩])))
  (.region [⟨some 33, .p (.bin .add (.tmp 24) (.const (.int .i64 1))), none, none⟩,
  ⟨some 24, .p (.mv (.tmp 33)), none, none⟩]))))))))
  (.seq (.region [⟨some 34, .p (.mv (.tmp 6)), none, none⟩,
  ⟨some 4, .p (.mv (.tmp 34)), none, none⟩])
  (.ret))))))
noncomputable def e_num_Reader_Fixed (k : Nat) (D : CallF) : Ent := entOf 33 [(0, .p), (1, .i .i64)] [(4, .i .i64)] (num_Reader_Fixed k D)
theorem q_num_Reader_Fixed : (Tryz.f33.body).bind (rcodeOf Tryz.prog 2 Tryz.f33.ntmps) = some (strip r_num_Reader_Fixed) := by kernel_rfl
theorem t_num_Reader_Fixed (k : Nat) (D : CallF) : curF [(0, .p), (1, .i .i64)] (fun args h => denF (C_num_Reader_Fixed k D) k r_num_Reader_Fixed [(4, .i .i64)] [none] args h) = num_Reader_Fixed k D := by kernel_rfl
theorem ok_num_Reader_Fixed {D : CallF} (hD : CSound Tryz.prog 2 D) (k : Nat) : EntOk Tryz.prog 2 (e_num_Reader_Fixed k D) :=
  entOf_ok2 (mkC_sound hD (EntsOk.more (ok_num_Reader_Bytes hD k) (EntsOk.more (ok_num_Reader_Fail hD k) (EntsOk.none)))) Tryz.func33 rfl q_num_Reader_Fixed rfl (t_num_Reader_Fixed k D)
end Gz
namespace Gz
open Go Gx Go.Proofs
set_option maxRecDepth 100000
noncomputable def C_num_Reader_Err (_k : Nat) (D : CallF) : CallF := mkC D []
noncomputable def num_Reader_Err (_k : Nat) (_D : CallF) (r_0 : Option Addr) (h : AHeap) : Option ((Int) × AHeap) :=
  (r_0).bind fun p1 =>
  (ldI .i64 (⟨p1.block, p1.off + 1, none⟩ : Addr) h).bind fun x2 =>
  some (x2, h)
def r_num_Reader_Err : RCode := .seq (.region [⟨some 2, .p (.mv (.const (.int .i64 0))), none, none⟩])
  (.seq (.region [⟨some 3, .p (.mv (.tmp 0)), none, none⟩,
  ⟨some 4, .p (.nilP (.tmp 3)), none, none⟩,
  ⟨some 5, .p (.fieldAddr 1 (.tmp 4)), none, none⟩,
  ⟨some 6, .l (.load (.i .i64) (.tmp 5)), none, none⟩,
  ⟨some 2, .p (.mv (.tmp 6)), none, none⟩])
  (.ret))
noncomputable def e_num_Reader_Err (k : Nat) (D : CallF) : Ent := entOf 35 [(0, .p)] [(2, .i .i64)] (num_Reader_Err k D)
theorem q_num_Reader_Err : (Tryz.f35.body).bind (rcodeOf Tryz.prog 2 Tryz.f35.ntmps) = some (strip r_num_Reader_Err) := by kernel_rfl
theorem t_num_Reader_Err (k : Nat) (D : CallF) : curF [(0, .p)] (fun args h => denF (C_num_Reader_Err k D) k r_num_Reader_Err [(2, .i .i64)] [none] args h) = num_Reader_Err k D := by kernel_rfl
theorem ok_num_Reader_Err {D : CallF} (hD : CSound Tryz.prog 2 D) (k : Nat) : EntOk Tryz.prog 2 (e_num_Reader_Err k D) :=
  entOf_ok2 (mkC_sound hD (EntsOk.none)) Tryz.func35 rfl q_num_Reader_Err rfl (t_num_Reader_Err k D)
end Gz
namespace Gz
open Go Gx Go.Proofs
set_option maxRecDepth 100000
noncomputable def C_num_Fixed (_k : Nat) (D : CallF) : CallF := mkC D []
noncomputable def num_Fixed_l0b (_k : Nat) (_D : CallF) (j11 : Int → Int → Slc → AHeap → Option ((ByteArray × Int) × AHeap)) (rec24 : Int → Int → Slc → Int → Int → AHeap → Option ((ByteArray × Int) × AHeap)) (n18 : Int) (bytes19 : Int) (b20 : Slc) (y21 : Int) (y22 : Int) (h23 : AHeap) : Option ((ByteArray × Int) × AHeap) :=
  (if (decide (y22 < y21)) = true then
  let t25 : Int := (IntKind.wrap .i64 ((IntKind.wrap .i64 (bytes19 - 1)) - y22))
  (if 0 ≤ (IntKind.wrap .i64 (8 * y22)) then
  let t26 : Int := (Int.fdiv n18 (2 ^ (min ((IntKind.wrap .i64 (8 * y22))).toNat (IntKind.bits .i64))))
  (Gx.idxL 1 b20 t25).bind fun q27 =>
  (st1 q27 (.int .u8 (IntKind.wrap .u8 t26)) h23).bind fun h28 =>
  rec24 n18 bytes19 b20 y21 (IntKind.wrap .i64 (y22 + 1)) h28
  else none)
  else
  j11 n18 bytes19 b20 h23)
noncomputable def num_Fixed_l0 (k : Nat) (D : CallF) (j11 : Int → Int → Slc → AHeap → Option ((ByteArray × Int) × AHeap)) : Int → Int → Slc → Int → Int → AHeap → Option ((ByteArray × Int) × AHeap) :=
  iterK (α := Int → Int → Slc → Int → Int → AHeap → Option ((ByteArray × Int) × AHeap)) (fun _ _ _ _ _ _ => none) k (num_Fixed_l0b k D j11)
noncomputable def num_Fixed (k : Nat) (D : CallF) (n_0 : Int) (bytes_1 : Int) (h : AHeap) : Option ((ByteArray × Int) × AHeap) :=
  joinK (fun (n1 : Int) (bytes2 : Int) (y3 : Bool) (h4 : AHeap) =>
  (if y3 = true then
  some (((⟨#[]⟩ : ByteArray), 1), h4)
  else
  (if 0 ≤ bytes2 ∧ bytes2 ≤ bytes2 ∧ bytes2 ≤ 281474976710656 ∧ 1 * bytes2 ≤ 281474976710656 then
  let h6 := AHeap.new h4 (.cells (zerosL (bytes2).toNat [.int .u8 0]) 5 true 0)
  joinK (fun (n7 : Int) (bytes8 : Int) (b9 : Slc) (h10 : AHeap) =>
  joinK (fun (b12 : Slc) (y13 : Bool) (h14 : AHeap) =>
  (if y13 = true then
  some (((⟨#[]⟩ : ByteArray), 1), h14)
  else
  (bytesOf h14 b12).bind fun s16 =>
  some ((s16, 0), h14))) fun j15 =>
  (if (decide (bytes8 < 8)) = true then
  (if 0 ≤ (IntKind.wrap .i64 (8 * bytes8)) then
  let t17 : Int := (Int.fdiv n7 (2 ^ (min ((IntKind.wrap .i64 (8 * bytes8))).toNat (IntKind.bits .i64))))
  j15 b9 (decide (t17 > 0)) h10
  else none)
  else
  j15 b9 false h10)) fun j11 =>
  num_Fixed_l0 k D j11 n1 bytes2 (⟨(some ⟨h4.next, 0, some 0⟩), (bytes2).toNat, (bytes2).toNat⟩ : Slc) ((bytes2).toNat : Int) 0 h6
  else none))) fun j5 =>
  (if (decide (bytes_1 < 1)) = true then
  j5 n_0 bytes_1 true h
  else
  (if (decide (bytes_1 > 8)) = true then
  j5 n_0 bytes_1 true h
  else
  j5 n_0 bytes_1 (decide (n_0 < 0)) h))
def r_num_Fixed : RCode := .seq (.region [⟨some 4, .p (.mv (.const (.string ⟨#[]⟩))), none, none⟩,
  ⟨some 5, .p (.mv (.const (.int .i64 0))), none, none⟩])
  (.seq (.seq (.join [(0, .i .i64), (1, .i .i64), (17, .b)] (.region [⟨some 8, .p (.mv (.tmp 1)), none, none⟩,
  ⟨some 9, .p (.bin .lss (.tmp 8) (.const (.int .i64 1))), none, none⟩,
  ⟨some 10, .p (.mv (.tmp 9)), none, none⟩,
  ⟨some 11, .p (.mv (.tmp 1)), (some (10, false)), none⟩,
  ⟨some 12, .p (.bin .gtr (.tmp 11) (.const (.int .i64 8))), (some (10, false)), none⟩,
  ⟨some 13, .p (.pick (.tmp 10) (.const (.bool true)) (.tmp 12)), none, none⟩,
  ⟨some 14, .p (.mv (.tmp 13)), none, none⟩,
  ⟨some 15, .p (.mv (.tmp 0)), (some (14, false)), none⟩,
  ⟨some 16, .p (.bin .lss (.tmp 15) (.const (.int .i64 0))), (some (14, false)), none⟩,
  ⟨some 17, .p (.pick (.tmp 14) (.const (.bool true)) (.tmp 16)), none, none⟩]))
  (.cond (.tmp 17) (.seq (.region [⟨some 4, .p (.mv (.const (.string ⟨#[]⟩))), none, none⟩,
  ⟨some 5, .p (.mv (.const (.int .i64 1))), none, none⟩])
  (.ret)) (.skip)))
  (.seq (.region [⟨some 18, .p (.mv (.tmp 1)), none, none⟩,
  ⟨some 19, .a (.mkSlice 5 1 [.int .u8 0] (.tmp 18) (.tmp 18)), none, none⟩,
  ⟨some 6, .p (.mv (.tmp 19)), none, none⟩])
  (.seq (.join [(0, .i .i64), (1, .i .i64), (6, .l)] (.seq (.region [⟨some 20, .p (.mv (.tmp 6)), none, none⟩,
  ⟨some 21, .p (.lenL (.tmp 20)), none, none⟩,
  ⟨some 22, .p (.mv (.const (.int .i64 0))), none, none⟩])
  (.block 0 (.loop [(0, .i .i64), (1, .i .i64), (6, .l), (21, .i .i64), (22, .i .i64)] (.seq (.region [⟨some 23, .p (.bin .lss (.tmp 22) (.tmp 21)), none, none⟩])
  (.seq (.cond (.tmp 23) (.skip) (.exit 0))
  (.seq (.block 1 (.seq (.region [⟨some 24, .p (.mv (.tmp 22)), none, none⟩,
  ⟨some 7, .p (.mv (.tmp 24)), none, none⟩])
  (.region [⟨some 25, .p (.mv (.tmp 6)), none, none⟩,
  ⟨some 26, .p (.mv (.tmp 1)), none, none⟩,
  ⟨some 27, .p (.bin .sub (.tmp 26) (.const (.int .i64 1))), none, none⟩,
  ⟨some 28, .p (.mv (.tmp 7)), none, none⟩,
  ⟨some 29, .p (.bin .sub (.tmp 27) (.tmp 28)), none, none⟩,
  ⟨some 30, .p (.mv (.tmp 0)), none, none⟩,
  ⟨some 31, .p (.mv (.tmp 7)), none, none⟩,
  ⟨some 32, .p (.bin .mul (.const (.int .i64 8)) (.tmp 31)), none, none⟩,
  ⟨some 33, .p (.bin .shr (.tmp 30) (.tmp 32)), none, none⟩,
  ⟨some 34, .p (.convI .u8 (.tmp 33)), none, none⟩,
  ⟨some 35, .p (.idxL 1 (.tmp 25) (.tmp 29)), none, none⟩,
  ⟨none, .e (.store none (.tmp 35) (.tmp 34)), none, none⟩])))
  (.region [⟨some 36, .p (.bin .add (.tmp 22) (.const (.int .i64 1))), none, none⟩,
  ⟨some 22, .p (.mv (.tmp 36)), none, none⟩]))))))))
  (.seq (.seq (.join [(6, .l), (45, .b)] (.region [⟨some 37, .p (.mv (.tmp 1)), none, none⟩,
  ⟨some 38, .p (.bin .lss (.tmp 37) (.const (.int .i64 8))), none, none⟩,
  ⟨some 39, .p (.mv (.tmp 38)), none, none⟩,
  ⟨some 40, .p (.mv (.tmp 0)), (some (39, true)), none⟩,
  ⟨some 41, .p (.mv (.tmp 1)), (some (39, true)), none⟩,
  ⟨some 42, .p (.bin .mul (.const (.int .i64 8)) (.tmp 41)), (some (39, true)), none⟩,
  ⟨some 43, .p (.bin .shr (.tmp 40) (.tmp 42)), (some (39, true)), none⟩,
  ⟨some 44, .p (.bin .gtr (.tmp 43) (.const (.int .i64 0))), (some (39, true)), none⟩,
  ⟨some 45, .p (.pick (.tmp 39) (.tmp 44) (.const (.bool false))), none, none⟩]))
  (.cond (.tmp 45) (.seq (.region [⟨some 4, .p (.mv (.const (.string ⟨#[]⟩))), none, none⟩,
  ⟨some 5, .p (.mv (.const (.int .i64 1))), none, none⟩])
  (.ret)) (.skip)))
  (.seq (.region [⟨some 46, .p (.mv (.tmp 6)), none, none⟩,
  ⟨some 47, .l (.convBS (.tmp 46)), none, none⟩,
  ⟨some 4, .p (.mv (.tmp 47)), none, none⟩,
  ⟨some 5, .p (.mv (.const (.int .i64 0))), none, none⟩])
  (.ret))))))
noncomputable def e_num_Fixed (k : Nat) (D : CallF) : Ent := entOf 46 [(0, .i .i64), (1, .i .i64)] [(4, .s), (5, .i .i64)] (num_Fixed k D)
theorem q_num_Fixed : (Tryz.f46.body).bind (rcodeOf Tryz.prog 2 Tryz.f46.ntmps) = some (strip r_num_Fixed) := by kernel_rfl
theorem t_num_Fixed (k : Nat) (D : CallF) : curF [(0, .i .i64), (1, .i .i64)] (fun args h => denF (C_num_Fixed k D) k r_num_Fixed [(4, .s), (5, .i .i64)] [none, none] args h) = num_Fixed k D := by kernel_rfl
theorem ok_num_Fixed {D : CallF} (hD : CSound Tryz.prog 2 D) (k : Nat) : EntOk Tryz.prog 2 (e_num_Fixed k D) :=
  entOf_ok2 (mkC_sound hD (EntsOk.none)) Tryz.func46 rfl q_num_Fixed rfl (t_num_Fixed k D)
end Gz
namespace Gz
open Go Gx Go.Proofs
set_option maxRecDepth 100000
noncomputable def C_shard_Crc (_k : Nat) (D : CallF) : CallF := mkC D []
noncomputable def shard_Crc_l1b (_k : Nat) (_D : CallF) (j17 : Int → Slc → Int → Int → AHeap → Option ((Int) × AHeap)) (rec26 : Int → Slc → Int → Int → Int → AHeap → Option ((Int) × AHeap)) (r20 : Int) (y21 : Slc) (y22 : Int) (y23 : Int) (y24 : Int) (h25 : AHeap) : Option ((Int) × AHeap) :=
  (if (decide (y24 < 8)) = true then
  let t27 : Int := (Go.bits .and .u32 2197175160 (IntKind.wrap .u32 (0 - (Go.bits .and .u32 r20 1))))
  rec26 (Go.bits .xor .u32 (Int.fdiv r20 2) t27) y21 y22 y23 (IntKind.wrap .i64 (y24 + 1)) h25
  else
  j17 r20 y21 y22 y23 h25)
noncomputable def shard_Crc_l1 (k : Nat) (D : CallF) (j17 : Int → Slc → Int → Int → AHeap → Option ((Int) × AHeap)) : Int → Slc → Int → Int → Int → AHeap → Option ((Int) × AHeap) :=
  iterK (α := Int → Slc → Int → Int → Int → AHeap → Option ((Int) × AHeap)) (fun _ _ _ _ _ _ => none) k (shard_Crc_l1b k D j17)
noncomputable def shard_Crc_l0b (k : Nat) (D : CallF) (j3 : Int → AHeap → Option ((Int) × AHeap)) (rec11 : Int → Slc → Int → Int → AHeap → Option ((Int) × AHeap)) (r6 : Int) (y7 : Slc) (y8 : Int) (y9 : Int) (h10 : AHeap) : Option ((Int) × AHeap) :=
  (if (decide (y9 < y8)) = true then
  joinK (fun (r12 : Int) (y13 : Slc) (y14 : Int) (y15 : Int) (h16 : AHeap) =>
  rec11 r12 y13 y14 (IntKind.wrap .i64 (y15 + 1)) h16) fun j17 =>
  (Gx.idxL 1 y7 y9).bind fun q18 =>
  (ldI .u8 q18 h10).bind fun x19 =>
  shard_Crc_l1 k D j17 (Go.bits .xor .u32 r6 (IntKind.wrap .u32 x19)) y7 y8 y9 0 h10
  else
  j3 r6 h10)
noncomputable def shard_Crc_l0 (k : Nat) (D : CallF) (j3 : Int → AHeap → Option ((Int) × AHeap)) : Int → Slc → Int → Int → AHeap → Option ((Int) × AHeap) :=
  iterK (α := Int → Slc → Int → Int → AHeap → Option ((Int) × AHeap)) (fun _ _ _ _ _ => none) k (shard_Crc_l0b k D j3)
noncomputable def shard_Crc (k : Nat) (D : CallF) (s_0 : ByteArray) (h : AHeap) : Option ((Int) × AHeap) :=
  joinK (fun (r1 : Int) (h2 : AHeap) =>
  let t4 : Int := (IntKind.wrap .i64 (Go.bits .xor .u32 (IntKind.max .u32) r1))
  some (t4, h2)) fun j3 =>
  let h5 := AHeap.new h (.cells (bytesL s_0) 5 true 0)
  shard_Crc_l0 k D j3 4294967295 (⟨(some ⟨h.next, 0, some 2⟩), s_0.size, s_0.size⟩ : Slc) (s_0.size : Int) 0 h5
def r_shard_Crc : RCode := .seq (.region [⟨some 2, .p (.mv (.const (.int .i64 0))), none, none⟩])
  (.seq (.region [⟨some 3, .p (.mv (.const (.int .u32 4294967295))), none, none⟩])
  (.seq (.join [(3, .i .u32)] (.seq (.region [⟨some 7, .p (.mv (.tmp 0)), none, none⟩,
  ⟨some 8, .a (.convSB 5 (.tmp 7)), none, none⟩,
  ⟨some 9, .p (.lenL (.tmp 8)), none, none⟩,
  ⟨some 10, .p (.mv (.const (.int .i64 0))), none, none⟩])
  (.block 0 (.loop [(3, .i .u32), (8, .l), (9, .i .i64), (10, .i .i64)] (.seq (.region [⟨some 11, .p (.bin .lss (.tmp 10) (.tmp 9)), none, none⟩])
  (.seq (.cond (.tmp 11) (.skip) (.exit 0))
  (.seq (.join [(3, .i .u32), (8, .l), (9, .i .i64), (10, .i .i64)] (.block 1 (.seq (.region [⟨some 12, .p (.idxL 1 (.tmp 8) (.tmp 10)), none, none⟩,
  ⟨some 13, .l (.load (.i .u8) (.tmp 12)), none, none⟩,
  ⟨some 5, .p (.mv (.tmp 13)), none, none⟩])
  (.seq (.region [⟨some 14, .p (.mv (.tmp 3)), none, none⟩,
  ⟨some 15, .p (.mv (.tmp 5)), none, none⟩,
  ⟨some 16, .p (.convI .u32 (.tmp 15)), none, none⟩,
  ⟨some 17, .p (.bin .xor (.tmp 14) (.tmp 16)), none, none⟩,
  ⟨some 3, .p (.mv (.tmp 17)), none, none⟩])
  (.seq (.region [⟨some 18, .p (.mv (.const (.int .i64 0))), none, none⟩])
  (.block 2 (.loop [(3, .i .u32), (8, .l), (9, .i .i64), (10, .i .i64), (18, .i .i64)] (.seq (.region [⟨some 19, .p (.bin .lss (.tmp 18) (.const (.int .i64 8))), none, none⟩])
  (.seq (.cond (.tmp 19) (.skip) (.exit 2))
  (.seq (.block 3 (.seq (.region [⟨some 20, .p (.mv (.tmp 3)), none, none⟩,
  ⟨some 21, .p (.bin .and (.tmp 20) (.const (.int .u32 1))), none, none⟩,
  ⟨some 6, .p (.mv (.tmp 21)), none, none⟩])
  (.region [⟨some 22, .p (.mv (.tmp 3)), none, none⟩,
  ⟨some 23, .p (.bin .shr (.tmp 22) (.const (.int .u64 1))), none, none⟩,
  ⟨some 24, .p (.mv (.tmp 6)), none, none⟩,
  ⟨some 25, .p (.un .neg (.tmp 24)), none, none⟩,
  ⟨some 26, .p (.bin .and (.const (.int .u32 2197175160)) (.tmp 25)), none, none⟩,
  ⟨some 27, .p (.bin .xor (.tmp 23) (.tmp 26)), none, none⟩,
  ⟨some 3, .p (.mv (.tmp 27)), none, none⟩])))
  (.region [⟨some 28, .p (.bin .add (.tmp 18) (.const (.int .i64 1))), none, none⟩,
  ⟨some 18, .p (.mv (.tmp 28)), none, none⟩])))))))))))
  (.region [⟨some 29, .p (.bin .add (.tmp 10) (.const (.int .i64 1))), none, none⟩,
  ⟨some 10, .p (.mv (.tmp 29)), none, none⟩]))))))))
  (.seq (.region [⟨some 30, .p (.mv (.tmp 3)), none, none⟩,
  ⟨some 31, .p (.un .xor (.tmp 30)), none, none⟩,
  ⟨some 32, .p (.convI .i64 (.tmp 31)), none, none⟩,
  ⟨some 2, .p (.mv (.tmp 32)), none, none⟩])
  (.ret))))
noncomputable def e_shard_Crc (k : Nat) (D : CallF) : Ent := entOf 19 [(0, .s)] [(2, .i .i64)] (shard_Crc k D)
theorem q_shard_Crc : (Tryz.f19.body).bind (rcodeOf Tryz.prog 2 Tryz.f19.ntmps) = some (strip r_shard_Crc) := by kernel_rfl
theorem t_shard_Crc (k : Nat) (D : CallF) : curF [(0, .s)] (fun args h => denF (C_shard_Crc k D) k r_shard_Crc [(2, .i .i64)] [none] args h) = shard_Crc k D := by kernel_rfl
theorem ok_shard_Crc {D : CallF} (hD : CSound Tryz.prog 2 D) (k : Nat) : EntOk Tryz.prog 2 (e_shard_Crc k D) :=
  entOf_ok2 (mkC_sound hD (EntsOk.none)) Tryz.func19 rfl q_shard_Crc rfl (t_shard_Crc k D)
end Gz
namespace Gz
open Go Gx Go.Proofs
set_option maxRecDepth 100000
noncomputable def C_shard_text (k : Nat) (D : CallF) : CallF := mkC D [e_num_Fixed k D, e_shard_Crc k D]
noncomputable def shard_text (k : Nat) (D : CallF) (x_0 : Int × Int × Int × Int × ByteArray × ByteArray) (h : AHeap) : Option ((ByteArray) × AHeap) :=
  let h1 := AHeap.new h (.cells [.int .i64 x_0.1, .int .i64 x_0.2.1, .int .i64 x_0.2.2.1, .int .i64 x_0.2.2.2.1, .string x_0.2.2.2.2.1, .string x_0.2.2.2.2.2] 33 true 0)
  (ldI .i64 (⟨h.next, 3, none⟩ : Addr) h1).bind fun x2 =>
  (num_Fixed k D x2 4 h1).bind fun r3 =>
  (ldI .i64 (⟨h.next, 0, none⟩ : Addr) r3.2).bind fun x4 =>
  (ldI .i64 (⟨h.next, 1, none⟩ : Addr) r3.2).bind fun x5 =>
  (ldI .i64 (⟨h.next, 2, none⟩ : Addr) r3.2).bind fun x6 =>
  let h7 := AHeap.new r3.2 (.cells [.int .u8 (IntKind.wrap .u8 x4), .int .u8 (IntKind.wrap .u8 x5), .int .u8 (IntKind.wrap .u8 x6)] 5 true 0)
  (bytesOf h7 (⟨(some ⟨r3.2.next, 0, some 0⟩), 3, 3⟩ : Slc)).bind fun s8 =>
  (if (⟨#[71, 82, 84, 1]⟩ : ByteArray).size + s8.size ≤ 9223372036854775807 then
  (if ((⟨#[71, 82, 84, 1]⟩ : ByteArray) ++ s8).size + r3.1.1.size ≤ 9223372036854775807 then
  (ldS (⟨h.next, 4, none⟩ : Addr) h7).bind fun x9 =>
  (if (((⟨#[71, 82, 84, 1]⟩ : ByteArray) ++ s8) ++ r3.1.1).size + x9.size ≤ 9223372036854775807 then
  (ldS (⟨h.next, 5, none⟩ : Addr) h7).bind fun x10 =>
  (if ((((⟨#[71, 82, 84, 1]⟩ : ByteArray) ++ s8) ++ r3.1.1) ++ x9).size + x10.size ≤ 9223372036854775807 then
  let s11 : ByteArray := (((((⟨#[71, 82, 84, 1]⟩ : ByteArray) ++ s8) ++ r3.1.1) ++ x9) ++ x10)
  (shard_Crc k D s11 h7).bind fun r12 =>
  let h13 := AHeap.new r12.2 (.cells [.int .u8 (IntKind.wrap .u8 r12.1), .int .u8 (IntKind.wrap .u8 (Int.fdiv r12.1 256)), .int .u8 (IntKind.wrap .u8 (Int.fdiv r12.1 65536)), .int .u8 (IntKind.wrap .u8 (Int.fdiv r12.1 16777216))] 5 true 0)
  (bytesOf h13 (⟨(some ⟨r12.2.next, 0, some 0⟩), 4, 4⟩ : Slc)).bind fun s14 =>
  (if s11.size + s14.size ≤ 9223372036854775807 then
  some ((s11 ++ s14), h13)
  else none)
  else none)
  else none)
  else none)
  else none)
def r_shard_text : RCode := .seq (.region [⟨some 1, .a (.box 33 (.tmp 0)), none, none⟩,
  ⟨some 2, .p (.mv (.const (.string ⟨#[]⟩))), none, none⟩])
  (.seq (.region [⟨some 8, .p (.fieldAddr 3 (.tmp 1)), none, none⟩,
  ⟨some 9, .l (.load (.i .i64) (.tmp 8)), none, none⟩,
  ⟨some 10, .e (.call (.func 46) [.tmp 9, .const (.int .i64 4)]), none, none⟩,
  ⟨some 7, .p (.mv (.tmp 10)), none, none⟩,
  ⟨some 11, .p (.extract (.tmp 7) 0), none, none⟩,
  ⟨some 12, .p (.extract (.tmp 7) 1), none, none⟩,
  ⟨some 3, .p (.mv (.tmp 11)), none, none⟩,
  ⟨some 4, .p (.mv (.tmp 12)), none, none⟩])
  (.seq (.region [⟨some 13, .p (.fieldAddr 0 (.tmp 1)), none, none⟩,
  ⟨some 14, .l (.load (.i .i64) (.tmp 13)), none, none⟩,
  ⟨some 15, .p (.convI .u8 (.tmp 14)), none, none⟩,
  ⟨some 16, .p (.fieldAddr 1 (.tmp 1)), none, none⟩,
  ⟨some 17, .l (.load (.i .i64) (.tmp 16)), none, none⟩,
  ⟨some 18, .p (.convI .u8 (.tmp 17)), none, none⟩,
  ⟨some 19, .p (.fieldAddr 2 (.tmp 1)), none, none⟩,
  ⟨some 20, .l (.load (.i .i64) (.tmp 19)), none, none⟩,
  ⟨some 21, .p (.convI .u8 (.tmp 20)), none, none⟩,
  ⟨some 22, .a (.buildSlice 5 3 (zerosL 3 [.int .u8 0]) [(0, 1, .tmp 15), (1, 1, .tmp 18), (2, 1, .tmp 21)]), none, none⟩,
  ⟨some 23, .l (.convBS (.tmp 22)), none, none⟩,
  ⟨some 24, .p (.bin .add (.const (.string ⟨#[71, 82, 84, 1]⟩)) (.tmp 23)), none, none⟩,
  ⟨some 25, .p (.mv (.tmp 3)), none, none⟩,
  ⟨some 26, .p (.bin .add (.tmp 24) (.tmp 25)), none, none⟩,
  ⟨some 27, .p (.fieldAddr 4 (.tmp 1)), none, none⟩,
  ⟨some 28, .l (.load (.s) (.tmp 27)), none, none⟩,
  ⟨some 29, .p (.bin .add (.tmp 26) (.tmp 28)), none, none⟩,
  ⟨some 30, .p (.fieldAddr 5 (.tmp 1)), none, none⟩,
  ⟨some 31, .l (.load (.s) (.tmp 30)), none, none⟩,
  ⟨some 32, .p (.bin .add (.tmp 29) (.tmp 31)), none, none⟩,
  ⟨some 5, .p (.mv (.tmp 32)), none, none⟩])
  (.seq (.region [⟨some 33, .p (.mv (.tmp 5)), none, none⟩,
  ⟨some 34, .e (.call (.func 19) [.tmp 33]), none, none⟩,
  ⟨some 6, .p (.mv (.tmp 34)), none, none⟩])
  (.seq (.region [⟨some 35, .p (.mv (.tmp 5)), none, none⟩,
  ⟨some 36, .p (.mv (.tmp 6)), none, none⟩,
  ⟨some 37, .p (.convI .u8 (.tmp 36)), none, none⟩,
  ⟨some 38, .p (.mv (.tmp 6)), none, none⟩,
  ⟨some 39, .p (.bin .shr (.tmp 38) (.const (.int .u64 8))), none, none⟩,
  ⟨some 40, .p (.convI .u8 (.tmp 39)), none, none⟩,
  ⟨some 41, .p (.mv (.tmp 6)), none, none⟩,
  ⟨some 42, .p (.bin .shr (.tmp 41) (.const (.int .u64 16))), none, none⟩,
  ⟨some 43, .p (.convI .u8 (.tmp 42)), none, none⟩,
  ⟨some 44, .p (.mv (.tmp 6)), none, none⟩,
  ⟨some 45, .p (.bin .shr (.tmp 44) (.const (.int .u64 24))), none, none⟩,
  ⟨some 46, .p (.convI .u8 (.tmp 45)), none, none⟩,
  ⟨some 47, .a (.buildSlice 5 4 (zerosL 4 [.int .u8 0]) [(0, 1, .tmp 37), (1, 1, .tmp 40), (2, 1, .tmp 43), (3, 1, .tmp 46)]), none, none⟩,
  ⟨some 48, .l (.convBS (.tmp 47)), none, none⟩,
  ⟨some 49, .p (.bin .add (.tmp 35) (.tmp 48)), none, none⟩,
  ⟨some 2, .p (.mv (.tmp 49)), none, none⟩])
  (.ret)))))
noncomputable def e_shard_text (k : Nat) (D : CallF) : Ent := entOf 22 [(0, .st [.i .i64, .i .i64, .i .i64, .i .i64, .s, .s])] [(2, .s)] (shard_text k D)
theorem q_shard_text : (Tryz.f22.body).bind (rcodeOf Tryz.prog 2 Tryz.f22.ntmps) = some (strip r_shard_text) := by kernel_rfl
theorem t_shard_text (k : Nat) (D : CallF) : curF [(0, .st [.i .i64, .i .i64, .i .i64, .i .i64, .s, .s])] (fun args h => denF (C_shard_text k D) k r_shard_text [(2, .s)] [none] args h) = shard_text k D := by kernel_rfl
theorem ok_shard_text {D : CallF} (hD : CSound Tryz.prog 2 D) (k : Nat) : EntOk Tryz.prog 2 (e_shard_text k D) :=
  entOf_ok2 (mkC_sound hD (EntsOk.more (ok_num_Fixed hD k) (EntsOk.more (ok_shard_Crc hD k) (EntsOk.none)))) Tryz.func22 rfl q_shard_text rfl (t_shard_text k D)
end Gz
namespace Gz
open Go Gx Go.Proofs
set_option maxRecDepth 100000
noncomputable def C_shard_Decode (k : Nat) (D : CallF) : CallF := mkC D [e_num_Read k D, e_num_Reader_Bytes k D, e_num_Reader_Fixed k D, e_num_Reader_Left k D, e_num_Reader_Err k D, e_shard_Check k D, e_shard_text k D]
noncomputable def shard_Decode (k : Nat) (D : CallF) (s_0 : ByteArray) (h : AHeap) : Option (((Int × Int × Int × Int × ByteArray × ByteArray) × Int) × AHeap) :=
  let h1 := AHeap.new h (.cells [.int .i64 0, .int .i64 0, .int .i64 0, .int .i64 0, .string ⟨#[]⟩, .string ⟨#[]⟩] 33 true 0)
  (num_Read k D s_0 h1).bind fun r2 =>
  (num_Reader_Bytes k D r2.1 4 r2.2).bind fun r3 =>
  (num_Reader_Fixed k D r2.1 1 r3.2).bind fun r4 =>
  (num_Reader_Fixed k D r2.1 1 r4.2).bind fun r5 =>
  (num_Reader_Fixed k D r2.1 1 r5.2).bind fun r6 =>
  (num_Reader_Fixed k D r2.1 4 r6.2).bind fun r7 =>
  (num_Reader_Bytes k D r2.1 32 r7.2).bind fun r8 =>
  let h9 := AHeap.new r8.2 (.cells [.int .i64 0, .int .i64 0, .int .i64 0, .int .i64 0, .string ⟨#[]⟩, .string ⟨#[]⟩] 33 true 0)
  (stL 6 (⟨r8.2.next, 0, none⟩ : Addr) ([.int .i64 r4.1, .int .i64 r5.1, .int .i64 r6.1, .int .i64 r7.1, .string r8.1, .string (⟨#[]⟩ : ByteArray)]) h9).bind fun h10 =>
  (num_Reader_Left k D r2.1 h10).bind fun r11 =>
  (num_Reader_Bytes k D r2.1 (IntKind.wrap .i64 (r11.1 - 4)) r11.2).bind fun r12 =>
  (st1 (⟨r8.2.next, 5, none⟩ : Addr) (.string r12.1) r12.2).bind fun h13 =>
  joinK (fun (y14 : Option Addr) (x15 : Option Addr) (y16 : Bool) (h17 : AHeap) =>
  (if y16 = true then
  (y14).bind fun p19 =>
  (stL 6 p19 ([.int .i64 0, .int .i64 0, .int .i64 0, .int .i64 0, .string (⟨#[]⟩ : ByteArray), .string (⟨#[]⟩ : ByteArray)]) h17).bind fun h20 =>
  (y14).bind fun p21 =>
  (ldA 6 p21 h20).bind fun l22 =>
  (decC [.i .i64, .i .i64, .i .i64, .i .i64, .s, .s] l22).bind fun x23 =>
  some (((x23.1, x23.2.1, x23.2.2.1, x23.2.2.2.1, x23.2.2.2.2.1, x23.2.2.2.2.2), 60), h20)
  else
  (x15).bind fun p24 =>
  (ldA 6 p24 h17).bind fun l25 =>
  (decC [.i .i64, .i .i64, .i .i64, .i .i64, .s, .s] l25).bind fun x26 =>
  (y14).bind fun p27 =>
  (stL 6 p27 ([.int .i64 x26.1, .int .i64 x26.2.1, .int .i64 x26.2.2.1, .int .i64 x26.2.2.2.1, .string x26.2.2.2.2.1, .string x26.2.2.2.2.2]) h17).bind fun h28 =>
  (y14).bind fun p29 =>
  (ldA 6 p29 h28).bind fun l30 =>
  (decC [.i .i64, .i .i64, .i .i64, .i .i64, .s, .s] l30).bind fun x31 =>
  some (((x31.1, x31.2.1, x31.2.2.1, x31.2.2.2.1, x31.2.2.2.2.1, x31.2.2.2.2.2), 0), h28))) fun j18 =>
  (num_Reader_Err k D r2.1 h13).bind fun r32 =>
  (if (r32.1 != 0) = true then
  j18 (some (⟨h.next, 0, none⟩ : Addr)) (some (⟨r8.2.next, 0, none⟩ : Addr)) true r32.2
  else
  (ldA 6 (⟨r8.2.next, 0, none⟩ : Addr) r32.2).bind fun l33 =>
  (decC [.i .i64, .i .i64, .i .i64, .i .i64, .s, .s] l33).bind fun x34 =>
  (shard_Check k D (x34.1, x34.2.1, x34.2.2.1, x34.2.2.2.1, x34.2.2.2.2.1, x34.2.2.2.2.2) r32.2).bind fun r35 =>
  (if (r35.1 != 0) = true then
  j18 (some (⟨h.next, 0, none⟩ : Addr)) (some (⟨r8.2.next, 0, none⟩ : Addr)) true r35.2
  else
  (ldA 6 (⟨r8.2.next, 0, none⟩ : Addr) r35.2).bind fun l36 =>
  (decC [.i .i64, .i .i64, .i .i64, .i .i64, .s, .s] l36).bind fun x37 =>
  (shard_text k D (x37.1, x37.2.1, x37.2.2.1, x37.2.2.2.1, x37.2.2.2.2.1, x37.2.2.2.2.2) r35.2).bind fun r38 =>
  j18 (some (⟨h.next, 0, none⟩ : Addr)) (some (⟨r8.2.next, 0, none⟩ : Addr)) (!(r38.1 == s_0)) r38.2))
def r_shard_Decode : RCode := .seq (.region [⟨some 2, .a (.alloc 33 [.int .i64 0, .int .i64 0, .int .i64 0, .int .i64 0, .string ⟨#[]⟩, .string ⟨#[]⟩]), none, none⟩,
  ⟨some 3, .p (.mv (.const (.int .i64 0))), none, none⟩])
  (.seq (.region [⟨some 6, .p (.mv (.tmp 0)), none, none⟩,
  ⟨some 7, .e (.call (.func 31) [.tmp 6]), none, none⟩,
  ⟨some 4, .p (.mv (.tmp 7)), none, none⟩])
  (.seq (.region [⟨some 8, .p (.mv (.tmp 4)), none, none⟩,
  ⟨some 9, .e (.call (.func 32) [.tmp 8, .const (.int .i64 4)]), none, none⟩])
  (.seq (.region [⟨some 10, .p (.mv (.tmp 4)), none, none⟩,
  ⟨some 11, .e (.call (.func 33) [.tmp 10, .const (.int .i64 1)]), none, none⟩,
  ⟨some 12, .p (.mv (.tmp 4)), none, none⟩,
  ⟨some 13, .e (.call (.func 33) [.tmp 12, .const (.int .i64 1)]), none, none⟩,
  ⟨some 14, .p (.mv (.tmp 4)), none, none⟩,
  ⟨some 15, .e (.call (.func 33) [.tmp 14, .const (.int .i64 1)]), none, none⟩,
  ⟨some 16, .p (.mv (.tmp 4)), none, none⟩,
  ⟨some 17, .e (.call (.func 33) [.tmp 16, .const (.int .i64 4)]), none, none⟩,
  ⟨some 18, .p (.mv (.tmp 4)), none, none⟩,
  ⟨some 19, .e (.call (.func 32) [.tmp 18, .const (.int .i64 32)]), none, none⟩,
  ⟨some 20, .p (.build [.int .i64 0, .int .i64 0, .int .i64 0, .int .i64 0, .string ⟨#[]⟩, .string ⟨#[]⟩] [(0, 1, .tmp 11), (1, 1, .tmp 13), (2, 1, .tmp 15), (3, 1, .tmp 17), (4, 1, .tmp 19)]), none, none⟩,
  ⟨some 5, .a (.alloc 33 [.int .i64 0, .int .i64 0, .int .i64 0, .int .i64 0, .string ⟨#[]⟩, .string ⟨#[]⟩]), none, none⟩,
  ⟨none, .e (.store (some 6) (.tmp 5) (.tmp 20)), none, none⟩])
  (.seq (.region [⟨some 21, .p (.mv (.tmp 4)), none, none⟩,
  ⟨some 22, .p (.mv (.tmp 4)), none, none⟩,
  ⟨some 23, .e (.call (.func 34) [.tmp 22]), none, none⟩,
  ⟨some 24, .p (.bin .sub (.tmp 23) (.const (.int .i64 4))), none, none⟩,
  ⟨some 25, .e (.call (.func 32) [.tmp 21, .tmp 24]), none, none⟩,
  ⟨some 26, .p (.fieldAddr 5 (.tmp 5)), none, none⟩,
  ⟨none, .e (.store none (.tmp 26) (.tmp 25)), none, none⟩])
  (.seq (.seq (.join [(2, .p), (5, .p), (40, .b)] (.region [⟨some 27, .p (.mv (.tmp 4)), none, none⟩,
  ⟨some 28, .e (.call (.func 35) [.tmp 27]), none, none⟩,
  ⟨some 29, .p (.bin .neq (.tmp 28) (.const (.int .i64 0))), none, none⟩,
  ⟨some 30, .p (.mv (.tmp 29)), none, none⟩,
  ⟨some 31, .l (.load (.agg 6) (.tmp 5)), (some (30, false)), some (.st [.i .i64, .i .i64, .i .i64, .i .i64, .s, .s])⟩,
  ⟨some 32, .e (.call (.func 27) [.tmp 31]), (some (30, false)), none⟩,
  ⟨some 33, .p (.bin .neq (.tmp 32) (.const (.int .i64 0))), (some (30, false)), none⟩,
  ⟨some 34, .p (.pick (.tmp 30) (.const (.bool true)) (.tmp 33)), none, none⟩,
  ⟨some 35, .p (.mv (.tmp 34)), none, none⟩,
  ⟨some 36, .l (.load (.agg 6) (.tmp 5)), (some (35, false)), some (.st [.i .i64, .i .i64, .i .i64, .i .i64, .s, .s])⟩,
  ⟨some 37, .e (.call (.func 22) [.tmp 36]), (some (35, false)), none⟩,
  ⟨some 38, .p (.mv (.tmp 0)), (some (35, false)), none⟩,
  ⟨some 39, .p (.bin .neq (.tmp 37) (.tmp 38)), (some (35, false)), none⟩,
  ⟨some 40, .p (.pick (.tmp 35) (.const (.bool true)) (.tmp 39)), none, none⟩]))
  (.cond (.tmp 40) (.seq (.region [⟨some 41, .p (.build [.int .i64 0, .int .i64 0, .int .i64 0, .int .i64 0, .string ⟨#[]⟩, .string ⟨#[]⟩] []), none, none⟩,
  ⟨none, .e (.store (some 6) (.tmp 2) (.tmp 41)), none, none⟩,
  ⟨some 3, .p (.mv (.const (.int .i64 60))), none, none⟩])
  (.ret)) (.skip)))
  (.seq (.region [⟨some 42, .l (.load (.agg 6) (.tmp 5)), none, some (.st [.i .i64, .i .i64, .i .i64, .i .i64, .s, .s])⟩,
  ⟨none, .e (.store (some 6) (.tmp 2) (.tmp 42)), none, none⟩,
  ⟨some 3, .p (.mv (.const (.int .i64 0))), none, none⟩])
  (.ret)))))))
noncomputable def e_shard_Decode (k : Nat) (D : CallF) : Ent := entOf 16 [(0, .s)] [(2, .st [.i .i64, .i .i64, .i .i64, .i .i64, .s, .s]), (3, .i .i64)] (shard_Decode k D)
theorem q_shard_Decode : (Tryz.f16.body).bind (rcodeOf Tryz.prog 2 Tryz.f16.ntmps) = some (strip r_shard_Decode) := by kernel_rfl
theorem t_shard_Decode (k : Nat) (D : CallF) : curF [(0, .s)] (fun args h => denF (C_shard_Decode k D) k r_shard_Decode [(2, .st [.i .i64, .i .i64, .i .i64, .i .i64, .s, .s]), (3, .i .i64)] [some (.agg 6), none] args h) = shard_Decode k D := by kernel_rfl
theorem ok_shard_Decode {D : CallF} (hD : CSound Tryz.prog 2 D) (k : Nat) : EntOk Tryz.prog 2 (e_shard_Decode k D) :=
  entOf_ok2 (mkC_sound hD (EntsOk.more (ok_num_Read hD k) (EntsOk.more (ok_num_Reader_Bytes hD k) (EntsOk.more (ok_num_Reader_Fixed hD k) (EntsOk.more (ok_num_Reader_Left hD k) (EntsOk.more (ok_num_Reader_Err hD k) (EntsOk.more (ok_shard_Check hD k) (EntsOk.more (ok_shard_text hD k) (EntsOk.none))))))))) Tryz.func16 rfl q_shard_Decode rfl (t_shard_Decode k D)
end Gz
namespace Gz
open Go Gx Go.Proofs
set_option maxRecDepth 100000
noncomputable def C_book_Among (_k : Nat) (D : CallF) : CallF := mkC D []
noncomputable def book_Among (_k : Nat) (_D : CallF) (x_0 : Int) (n_1 : Int) (h : AHeap) : Option ((Int) × AHeap) :=
  (if n_1 = 0 then none else
  (if n_1 = 0 then none else
  let t1 : Int := (Int.tmod (IntKind.wrap .i64 ((Int.tmod x_0 n_1) + n_1)) n_1)
  some (t1, h)))
def r_book_Among : RCode := .seq (.region [⟨some 4, .p (.mv (.const (.int .i64 0))), none, none⟩])
  (.seq (.region [⟨some 5, .p (.mv (.tmp 0)), none, none⟩,
  ⟨some 6, .p (.mv (.tmp 1)), none, none⟩,
  ⟨some 7, .p (.bin .rem (.tmp 5) (.tmp 6)), none, none⟩,
  ⟨some 8, .p (.mv (.tmp 1)), none, none⟩,
  ⟨some 9, .p (.bin .add (.tmp 7) (.tmp 8)), none, none⟩,
  ⟨some 10, .p (.mv (.tmp 1)), none, none⟩,
  ⟨some 11, .p (.bin .rem (.tmp 9) (.tmp 10)), none, none⟩,
  ⟨some 4, .p (.mv (.tmp 11)), none, none⟩])
  (.ret))
noncomputable def e_book_Among (k : Nat) (D : CallF) : Ent := entOf 17 [(0, .i .i64), (1, .i .i64)] [(4, .i .i64)] (book_Among k D)
theorem q_book_Among : (Tryz.f17.body).bind (rcodeOf Tryz.prog 2 Tryz.f17.ntmps) = some (strip r_book_Among) := by kernel_rfl
theorem t_book_Among (k : Nat) (D : CallF) : curF [(0, .i .i64), (1, .i .i64)] (fun args h => denF (C_book_Among k D) k r_book_Among [(4, .i .i64)] [none] args h) = book_Among k D := by kernel_rfl
theorem ok_book_Among {D : CallF} (hD : CSound Tryz.prog 2 D) (k : Nat) : EntOk Tryz.prog 2 (e_book_Among k D) :=
  entOf_ok2 (mkC_sound hD (EntsOk.none)) Tryz.func17 rfl q_book_Among rfl (t_book_Among k D)
end Gz
namespace Gz
open Go Gx Go.Proofs Go.Shelf
noncomputable def e_strings_Repeat (_k : Nat) (_D : CallF) : Ent := eRepeat 43
theorem ok_strings_Repeat {D : CallF} (_hD : CSound Tryz.prog 2 D) (k : Nat) : EntOk Tryz.prog 2 (e_strings_Repeat k D) :=
  repeat_ok (c := _) Tryz.func43 rfl rfl (fun s n w h1 h2 => Any.strings_Repeat Tryz.lays105 Tryz.Builder_Extra_105 s n w h1 h2)
end Gz
namespace Gz
open Go Gx Go.Proofs
set_option maxRecDepth 100000
noncomputable def C_stripe_Plan_Split (k : Nat) (D : CallF) : CallF := mkC D [e_stripe_Plan_Each k D, e_strings_Repeat k D, e_stripe_Plan_row k D, e_field_Field_Mix k D]
noncomputable def stripe_Plan_Split_l1b (_k : Nat) (_D : CallF) (j14 : (Option Addr) → Slc → AHeap → Option ((Slc × Int) × AHeap)) (rec55 : (Option Addr) → ByteArray → Int → Slc → Int → Int → AHeap → Option ((Slc × Int) × AHeap)) (p48 : Option Addr) (s49 : ByteArray) (n50 : Int) (out51 : Slc) (y52 : Int) (y53 : Int) (h54 : AHeap) : Option ((Slc × Int) × AHeap) :=
  (if (decide (y53 < y52)) = true then
  (Gx.subS s49 (some (IntKind.wrap .i64 (y53 * n50))) (some (IntKind.wrap .i64 ((IntKind.wrap .i64 (y53 + 1)) * n50)))).bind fun s56 =>
  let h57 := AHeap.new h54 (.cells [.string s56] 9 true 0)
  (rdS 1 (⟨(some ⟨h54.next, 0, some 0⟩), 1, 1⟩ : Slc) h57).bind fun n59 =>
  (appendA 1 16 9 h57 out51 n59 1).bind fun r58 =>
  rec55 p48 s49 n50 r58.1 y52 (IntKind.wrap .i64 (y53 + 1)) r58.2
  else
  j14 p48 out51 h54)
noncomputable def stripe_Plan_Split_l1 (k : Nat) (D : CallF) (j14 : (Option Addr) → Slc → AHeap → Option ((Slc × Int) × AHeap)) : (Option Addr) → ByteArray → Int → Slc → Int → Int → AHeap → Option ((Slc × Int) × AHeap) :=
  iterK (α := (Option Addr) → ByteArray → Int → Slc → Int → Int → AHeap → Option ((Slc × Int) × AHeap)) (fun _ _ _ _ _ _ _ => none) k (stripe_Plan_Split_l1b k D j14)
noncomputable def stripe_Plan_Split_l0b (k : Nat) (D : CallF) (j22 : Slc → AHeap → Option ((Slc × Int) × AHeap)) (rec31 : (Option Addr) → Slc → Slc → Int → Int → AHeap → Option ((Slc × Int) × AHeap)) (p25 : Option Addr) (out26 : Slc) (pieces27 : Slc) (y28 : Int) (y29 : Int) (h30 : AHeap) : Option ((Slc × Int) × AHeap) :=
  (if (decide (y29 < y28)) = true then
  (p25).bind fun p32 =>
  (ldA 3 (⟨p32.block, p32.off + 4, none⟩ : Addr) h30).bind fun l33 =>
  (decC [.i .i64, .i .i64, .l] l33).bind fun x34 =>
  (p25).bind fun p35 =>
  (ldI .i64 (⟨p35.block, p35.off + 0, none⟩ : Addr) h30).bind fun x36 =>
  (stripe_Plan_row k D p25 (x34.1, x34.2.1, x34.2.2) (IntKind.wrap .i64 (x36 + y29)) h30).bind fun r37 =>
  (p25).bind fun p38 =>
  (ldP (⟨p38.block, p38.off + 2, none⟩ : Addr) r37.2).bind fun x39 =>
  guardP (SameW [h30] (fun H41 => (ldP (⟨p38.block, p38.off + 2, none⟩ : Addr) H41).bind fun y40 => some (.pointer y40)) (.pointer x39)) (
  (field_Field_Mix k D x39 pieces27 r37.1 r37.2).bind fun r42 =>
  let h43 := AHeap.new r42.2 (.cells [.string r42.1.1] 9 true 0)
  (rdS 1 (⟨(some ⟨r42.2.next, 0, some 0⟩), 1, 1⟩ : Slc) h43).bind fun n45 =>
  (appendA 1 16 9 h43 out26 n45 1).bind fun r44 =>
  rec31 p25 r44.1 pieces27 y28 (IntKind.wrap .i64 (y29 + 1)) r44.2)
  else
  j22 out26 h30)
noncomputable def stripe_Plan_Split_l0 (k : Nat) (D : CallF) (j22 : Slc → AHeap → Option ((Slc × Int) × AHeap)) : (Option Addr) → Slc → Slc → Int → Int → AHeap → Option ((Slc × Int) × AHeap) :=
  iterK (α := (Option Addr) → Slc → Slc → Int → Int → AHeap → Option ((Slc × Int) × AHeap)) (fun _ _ _ _ _ _ => none) k (stripe_Plan_Split_l0b k D j22)
noncomputable def stripe_Plan_Split (k : Nat) (D : CallF) (p_0 : Option Addr) (s_1 : ByteArray) (h : AHeap) : Option ((Slc × Int) × AHeap) :=
  (stripe_Plan_Each k D p_0 (s_1.size : Int) h).bind fun r1 =>
  (if (r1.1.2 != 0) = true then
  some (((⟨none, 0, 0⟩ : Slc), 2), r1.2)
  else
  (p_0).bind fun p2 =>
  (ldI .i64 (⟨p2.block, p2.off + 0, none⟩ : Addr) r1.2).bind fun x3 =>
  let t4 : Int := (IntKind.wrap .i64 ((IntKind.wrap .i64 (x3 * r1.1.1)) - (s_1.size : Int)))
  (repeatA (⟨#[0]⟩ : ByteArray) t4).bind fun s5 =>
  (if s_1.size + s5.size ≤ 9223372036854775807 then
  (p_0).bind fun p6 =>
  (ldI .i64 (⟨p6.block, p6.off + 0, none⟩ : Addr) r1.2).bind fun x7 =>
  (p_0).bind fun p8 =>
  (ldI .i64 (⟨p8.block, p8.off + 1, none⟩ : Addr) r1.2).bind fun x9 =>
  (if 0 ≤ (0 : Int) ∧ 0 ≤ (IntKind.wrap .i64 (x7 + x9)) ∧ (IntKind.wrap .i64 (x7 + x9)) ≤ 281474976710656 ∧ 16 * (IntKind.wrap .i64 (x7 + x9)) ≤ 281474976710656 then
  let h10 := AHeap.new r1.2 (.cells (zerosL ((IntKind.wrap .i64 (x7 + x9))).toNat [.string ⟨#[]⟩]) 9 true 0)
  joinK (fun (p11 : Option Addr) (out12 : Slc) (h13 : AHeap) =>
  (p11).bind fun p15 =>
  (ldI .i64 (⟨p15.block, p15.off + 0, none⟩ : Addr) h13).bind fun x16 =>
  (p11).bind fun p17 =>
  (ldI .i64 (⟨p17.block, p17.off + 0, none⟩ : Addr) h13).bind fun x18 =>
  (Gx.subL 1 out12 none (some x16) (some x18)).bind fun l19 =>
  joinK (fun (out20 : Slc) (h21 : AHeap) =>
  some ((out20, 0), h21)) fun j22 =>
  (p11).bind fun p23 =>
  (ldI .i64 (⟨p23.block, p23.off + 1, none⟩ : Addr) h13).bind fun x24 =>
  stripe_Plan_Split_l0 k D j22 p11 out12 l19 x24 0 h13) fun j14 =>
  (p_0).bind fun p46 =>
  (ldI .i64 (⟨p46.block, p46.off + 0, none⟩ : Addr) h10).bind fun x47 =>
  stripe_Plan_Split_l1 k D j14 p_0 (s_1 ++ s5) r1.1.1 (⟨(some ⟨r1.2.next, 0, some 0⟩), (0 : Int).toNat, ((IntKind.wrap .i64 (x7 + x9))).toNat⟩ : Slc) x47 0 h10
  else none)
  else none))
def r_stripe_Plan_Split : RCode := .seq (.region [⟨some 4, .p (.mv (.const (.slice none 0 0))), none, none⟩,
  ⟨some 5, .p (.mv (.const (.int .i64 0))), none, none⟩])
  (.seq (.region [⟨some 15, .p (.mv (.tmp 0)), none, none⟩,
  ⟨some 16, .p (.mv (.tmp 1)), none, none⟩,
  ⟨some 17, .p (.lenS (.tmp 16)), none, none⟩,
  ⟨some 18, .e (.call (.func 42) [.tmp 15, .tmp 17]), none, none⟩,
  ⟨some 14, .p (.mv (.tmp 18)), none, none⟩,
  ⟨some 19, .p (.extract (.tmp 14) 0), none, none⟩,
  ⟨some 20, .p (.extract (.tmp 14) 1), none, none⟩,
  ⟨some 6, .p (.mv (.tmp 19)), none, none⟩,
  ⟨some 7, .p (.mv (.tmp 20)), none, none⟩])
  (.seq (.seq (.region [⟨some 21, .p (.mv (.tmp 7)), none, none⟩,
  ⟨some 22, .p (.bin .neq (.tmp 21) (.const (.int .i64 0))), none, none⟩])
  (.cond (.tmp 22) (.seq (.region [⟨some 4, .p (.mv (.const (.slice none 0 0))), none, none⟩,
  ⟨some 5, .p (.mv (.const (.int .i64 2))), none, none⟩])
  (.ret)) (.skip)))
  (.seq (.region [⟨some 23, .p (.mv (.tmp 1)), none, none⟩,
  ⟨some 24, .p (.mv (.tmp 0)), none, none⟩,
  ⟨some 25, .p (.nilP (.tmp 24)), none, none⟩,
  ⟨some 26, .p (.fieldAddr 0 (.tmp 25)), none, none⟩,
  ⟨some 27, .l (.load (.i .i64) (.tmp 26)), none, none⟩,
  ⟨some 28, .p (.mv (.tmp 6)), none, none⟩,
  ⟨some 29, .p (.bin .mul (.tmp 27) (.tmp 28)), none, none⟩,
  ⟨some 30, .p (.mv (.tmp 1)), none, none⟩,
  ⟨some 31, .p (.lenS (.tmp 30)), none, none⟩,
  ⟨some 32, .p (.bin .sub (.tmp 29) (.tmp 31)), none, none⟩,
  ⟨some 33, .e (.call (.func 43) [.const (.string ⟨#[0]⟩), .tmp 32]), none, none⟩,
  ⟨some 34, .p (.bin .add (.tmp 23) (.tmp 33)), none, none⟩,
  ⟨some 1, .p (.mv (.tmp 34)), none, none⟩])
  (.seq (.draw [⟨0, ⟨some 35, .p (.mv (.tmp 0)), none, none⟩, [0], 0⟩,
  ⟨1, ⟨some 36, .p (.nilP (.tmp 35)), none, none⟩, [35], 0⟩,
  ⟨2, ⟨some 37, .p (.fieldAddr 0 (.tmp 36)), none, none⟩, [36], 0⟩,
  ⟨3, ⟨some 38, .l (.load (.i .i64) (.tmp 37)), none, none⟩, [37], 0⟩,
  ⟨4, ⟨some 39, .p (.mv (.tmp 0)), none, none⟩, [0], 0⟩,
  ⟨5, ⟨some 40, .p (.nilP (.tmp 39)), none, none⟩, [39], 0⟩,
  ⟨6, ⟨some 41, .p (.fieldAddr 1 (.tmp 40)), none, none⟩, [40], 0⟩,
  ⟨7, ⟨some 42, .l (.load (.i .i64) (.tmp 41)), none, none⟩, [41], 0⟩,
  ⟨8, ⟨some 43, .p (.bin .add (.tmp 38) (.tmp 42)), none, none⟩, [38, 42], 0⟩,
  ⟨9, ⟨some 44, .a (.mkSlice 9 16 [.string ⟨#[]⟩] (.const (.int .i64 0)) (.tmp 43)), none, none⟩, [43], 0⟩,
  ⟨10, ⟨some 8, .p (.mv (.tmp 44)), none, none⟩, [44], 0⟩])
  (.seq (.join [(0, .p), (8, .l)] (.seq (.region [⟨some 45, .p (.mv (.tmp 0)), none, none⟩,
  ⟨some 46, .p (.nilP (.tmp 45)), none, none⟩,
  ⟨some 47, .p (.fieldAddr 0 (.tmp 46)), none, none⟩,
  ⟨some 48, .l (.load (.i .i64) (.tmp 47)), none, none⟩,
  ⟨some 49, .p (.mv (.const (.int .i64 0))), none, none⟩])
  (.block 0 (.loop [(0, .p), (1, .s), (6, .i .i64), (8, .l), (48, .i .i64), (49, .i .i64)] (.seq (.region [⟨some 50, .p (.bin .lss (.tmp 49) (.tmp 48)), none, none⟩])
  (.seq (.cond (.tmp 50) (.skip) (.exit 0))
  (.seq (.block 1 (.seq (.region [⟨some 51, .p (.mv (.tmp 49)), none, none⟩,
  ⟨some 9, .p (.mv (.tmp 51)), none, none⟩])
  (.region [⟨some 52, .p (.mv (.tmp 8)), none, none⟩,
  ⟨some 53, .p (.mv (.tmp 1)), none, none⟩,
  ⟨some 54, .p (.mv (.tmp 9)), none, none⟩,
  ⟨some 55, .p (.mv (.tmp 6)), none, none⟩,
  ⟨some 56, .p (.bin .mul (.tmp 54) (.tmp 55)), none, none⟩,
  ⟨some 57, .p (.mv (.tmp 9)), none, none⟩,
  ⟨some 58, .p (.bin .add (.tmp 57) (.const (.int .i64 1))), none, none⟩,
  ⟨some 59, .p (.mv (.tmp 6)), none, none⟩,
  ⟨some 60, .p (.bin .mul (.tmp 58) (.tmp 59)), none, none⟩,
  ⟨some 61, .p (.subS (.tmp 53) (some (.tmp 56)) (some (.tmp 60))), none, none⟩,
  ⟨some 62, .a (.buildSlice 9 1 (zerosL 1 [.string ⟨#[]⟩]) [(0, 1, .tmp 61)]), none, none⟩,
  ⟨some 63, .e (.append 1 16 9 [.string ⟨#[]⟩] .slice (.tmp 52) (.tmp 62)), none, none⟩,
  ⟨some 8, .p (.mv (.tmp 63)), none, none⟩])))
  (.region [⟨some 64, .p (.bin .add (.tmp 49) (.const (.int .i64 1))), none, none⟩,
  ⟨some 49, .p (.mv (.tmp 64)), none, none⟩]))))))))
  (.seq (.draw [⟨0, ⟨some 65, .p (.mv (.tmp 8)), none, none⟩, [8], 0⟩,
  ⟨1, ⟨some 66, .p (.mv (.tmp 0)), none, none⟩, [0], 0⟩,
  ⟨2, ⟨some 67, .p (.nilP (.tmp 66)), none, none⟩, [66], 0⟩,
  ⟨3, ⟨some 68, .p (.fieldAddr 0 (.tmp 67)), none, none⟩, [67], 0⟩,
  ⟨4, ⟨some 69, .l (.load (.i .i64) (.tmp 68)), none, none⟩, [68], 0⟩,
  ⟨5, ⟨some 70, .p (.mv (.tmp 0)), none, none⟩, [0], 0⟩,
  ⟨6, ⟨some 71, .p (.nilP (.tmp 70)), none, none⟩, [70], 0⟩,
  ⟨7, ⟨some 72, .p (.fieldAddr 0 (.tmp 71)), none, none⟩, [71], 0⟩,
  ⟨8, ⟨some 73, .l (.load (.i .i64) (.tmp 72)), none, none⟩, [72], 0⟩,
  ⟨9, ⟨some 74, .p (.subL 1 (.tmp 65) none (some (.tmp 69)) (some (.tmp 73))), none, none⟩, [65, 69, 73], 0⟩,
  ⟨10, ⟨some 10, .p (.mv (.tmp 74)), none, none⟩, [74], 0⟩])
  (.seq (.join [(8, .l)] (.seq (.region [⟨some 75, .p (.mv (.tmp 0)), none, none⟩,
  ⟨some 76, .p (.nilP (.tmp 75)), none, none⟩,
  ⟨some 77, .p (.fieldAddr 1 (.tmp 76)), none, none⟩,
  ⟨some 78, .l (.load (.i .i64) (.tmp 77)), none, none⟩,
  ⟨some 79, .p (.mv (.const (.int .i64 0))), none, none⟩])
  (.block 2 (.loop [(0, .p), (8, .l), (10, .l), (78, .i .i64), (79, .i .i64)] (.seq (.region [⟨some 80, .p (.bin .lss (.tmp 79) (.tmp 78)), none, none⟩])
  (.seq (.cond (.tmp 80) (.skip) (.exit 2))
  (.seq (.block 3 (.seq (.region [⟨some 81, .p (.mv (.tmp 79)), none, none⟩,
  ⟨some 11, .p (.mv (.tmp 81)), none, none⟩])
  (.seq (.draw [⟨5, ⟨some 88, .p (.mv (.tmp 0)), none, none⟩, [0], 0⟩,
  ⟨6, ⟨some 89, .p (.mv (.tmp 0)), none, none⟩, [0], 0⟩,
  ⟨7, ⟨some 90, .p (.nilP (.tmp 89)), none, none⟩, [89], 0⟩,
  ⟨8, ⟨some 91, .p (.fieldAddr 4 (.tmp 90)), none, none⟩, [90], 0⟩,
  ⟨9, ⟨some 92, .l (.load (.agg 3) (.tmp 91)), none, some (.st [.i .i64, .i .i64, .l])⟩, [91], 0⟩,
  ⟨10, ⟨some 93, .p (.mv (.tmp 0)), none, none⟩, [0], 0⟩,
  ⟨11, ⟨some 94, .p (.nilP (.tmp 93)), none, none⟩, [93], 0⟩,
  ⟨12, ⟨some 95, .p (.fieldAddr 0 (.tmp 94)), none, none⟩, [94], 0⟩,
  ⟨13, ⟨some 96, .l (.load (.i .i64) (.tmp 95)), none, none⟩, [95], 0⟩,
  ⟨14, ⟨some 97, .p (.mv (.tmp 11)), none, none⟩, [11], 0⟩,
  ⟨15, ⟨some 98, .p (.bin .add (.tmp 96) (.tmp 97)), none, none⟩, [96, 97], 0⟩,
  ⟨16, ⟨some 99, .e (.call (.func 45) [.tmp 88, .tmp 92, .tmp 98]), none, none⟩, [88, 92, 98], 0⟩,
  ⟨0, ⟨some 83, .p (.mv (.tmp 0)), none, none⟩, [0], 1⟩,
  ⟨1, ⟨some 84, .p (.nilP (.tmp 83)), none, none⟩, [83], 1⟩,
  ⟨2, ⟨some 85, .p (.fieldAddr 2 (.tmp 84)), none, none⟩, [84], 1⟩,
  ⟨3, ⟨some 86, .l (.load (.p) (.tmp 85)), none, none⟩, [85], 1⟩,
  ⟨4, ⟨some 87, .p (.mv (.tmp 10)), none, none⟩, [10], 1⟩,
  ⟨17, ⟨some 100, .e (.call (.func 44) [.tmp 86, .tmp 87, .tmp 99]), none, none⟩, [86, 87, 99], 0⟩,
  ⟨18, ⟨some 82, .p (.mv (.tmp 100)), none, none⟩, [100], 0⟩,
  ⟨19, ⟨some 101, .p (.extract (.tmp 82) 0), none, none⟩, [82], 0⟩,
  ⟨20, ⟨some 102, .p (.extract (.tmp 82) 1), none, none⟩, [82], 0⟩,
  ⟨21, ⟨some 12, .p (.mv (.tmp 101)), none, none⟩, [101], 0⟩,
  ⟨22, ⟨some 13, .p (.mv (.tmp 102)), none, none⟩, [102], 0⟩])
  (.region [⟨some 103, .p (.mv (.tmp 8)), none, none⟩,
  ⟨some 104, .p (.mv (.tmp 12)), none, none⟩,
  ⟨some 105, .a (.buildSlice 9 1 (zerosL 1 [.string ⟨#[]⟩]) [(0, 1, .tmp 104)]), none, none⟩,
  ⟨some 106, .e (.append 1 16 9 [.string ⟨#[]⟩] .slice (.tmp 103) (.tmp 105)), none, none⟩,
  ⟨some 8, .p (.mv (.tmp 106)), none, none⟩]))))
  (.region [⟨some 107, .p (.bin .add (.tmp 79) (.const (.int .i64 1))), none, none⟩,
  ⟨some 79, .p (.mv (.tmp 107)), none, none⟩]))))))))
  (.seq (.region [⟨some 108, .p (.mv (.tmp 8)), none, none⟩,
  ⟨some 4, .p (.mv (.tmp 108)), none, none⟩,
  ⟨some 5, .p (.mv (.const (.int .i64 0))), none, none⟩])
  (.ret)))))))))
noncomputable def e_stripe_Plan_Split (k : Nat) (D : CallF) : Ent := entOf 21 [(0, .p), (1, .s)] [(4, .l), (5, .i .i64)] (stripe_Plan_Split k D)
theorem q_stripe_Plan_Split : (Tryz.f21.body).bind (rcodeOf Tryz.prog 2 Tryz.f21.ntmps) = some (strip r_stripe_Plan_Split) := by kernel_rfl
theorem t_stripe_Plan_Split (k : Nat) (D : CallF) : curF [(0, .p), (1, .s)] (fun args h => denF (C_stripe_Plan_Split k D) k r_stripe_Plan_Split [(4, .l), (5, .i .i64)] [none, none] args h) = stripe_Plan_Split k D := by kernel_rfl
theorem ok_stripe_Plan_Split {D : CallF} (hD : CSound Tryz.prog 2 D) (k : Nat) : EntOk Tryz.prog 2 (e_stripe_Plan_Split k D) :=
  entOf_ok2 (mkC_sound hD (EntsOk.more (ok_stripe_Plan_Each hD k) (EntsOk.more (ok_strings_Repeat hD k) (EntsOk.more (ok_stripe_Plan_row hD k) (EntsOk.more (ok_field_Field_Mix hD k) (EntsOk.none)))))) Tryz.func21 rfl q_stripe_Plan_Split rfl (t_stripe_Plan_Split k D)
end Gz
namespace Gz
open Go Gx Go.Proofs
set_option maxRecDepth 100000
end Gz
namespace Gz
open Go Gx Go.Proofs
set_option maxRecDepth 100000
end Gz
namespace Gz
open Go Gx Go.Proofs
set_option maxRecDepth 100000
end Gz
namespace Gz
open Go Gx Go.Proofs
set_option maxRecDepth 100000
end Gz
namespace Gz
open Go Gx Go.Proofs
set_option maxRecDepth 100000
end Gz
namespace Gz
open Go Gx Go.Proofs
set_option maxRecDepth 100000
end Gz
namespace Gz
open Go Gx Go.Proofs
set_option maxRecDepth 100000
noncomputable def C_law06_works (k : Nat) (D : CallF) : CallF := mkC D [e_shard_Crc k D]
noncomputable def law06_works (k : Nat) (D : CallF)  (h : AHeap) : Option ((Bool) × AHeap) :=
  (shard_Crc k D (⟨#[49, 50, 51, 52, 53, 54, 55, 56, 57]⟩ : ByteArray) h).bind fun r1 =>
  some ((r1.1 == 3808858755), r1.2)
def r_law06_works : RCode := .seq (.region [⟨some 0, .p (.mv (.const (.bool false))), none, none⟩])
  (.seq (.region [⟨some 1, .e (.call (.func 19) [.const (.string ⟨#[49, 50, 51, 52, 53, 54, 55, 56, 57]⟩)]), none, none⟩,
  ⟨some 2, .p (.bin .eql (.tmp 1) (.const (.int .i64 3808858755))), none, none⟩,
  ⟨some 0, .p (.mv (.tmp 2)), none, none⟩])
  (.ret))
noncomputable def e_law06_works (k : Nat) (D : CallF) : Ent := entOf 6 [] [(0, .b)] (law06_works k D)
theorem q_law06_works : (Tryz.f6.body).bind (rcodeOf Tryz.prog 2 Tryz.f6.ntmps) = some (strip r_law06_works) := by kernel_rfl
theorem t_law06_works (k : Nat) (D : CallF) : curF [] (fun args h => denF (C_law06_works k D) k r_law06_works [(0, .b)] [none] args h) = law06_works k D := by kernel_rfl
theorem ok_law06_works {D : CallF} (hD : CSound Tryz.prog 2 D) (k : Nat) : EntOk Tryz.prog 2 (e_law06_works k D) :=
  entOf_ok2 (mkC_sound hD (EntsOk.more (ok_shard_Crc hD k) (EntsOk.none))) Tryz.func6 rfl q_law06_works rfl (t_law06_works k D)
end Gz
namespace Gz
open Go Gx Go.Proofs
set_option maxRecDepth 100000
noncomputable def C_shard_Make (k : Nat) (D : CallF) : CallF := mkC D [e_stripe_New k D, e_stripe_Plan_Split k D, e_sha_Sum k D, e_shard_text k D]
noncomputable def shard_Make_l0b (k : Nat) (D : CallF) (j7 : Slc → AHeap → Option ((Slc × Int) × AHeap)) (rec17 : Int → Int → ByteArray → ByteArray → Slc → Slc → Int → Int → AHeap → Option ((Slc × Int) × AHeap)) (kv8 : Int) (m9 : Int) (data10 : ByteArray) (id11 : ByteArray) (out12 : Slc) (y13 : Slc) (y14 : Int) (y15 : Int) (h16 : AHeap) : Option ((Slc × Int) × AHeap) :=
  (if (decide (y15 < y14)) = true then
  (Gx.idxL 1 y13 y15).bind fun q18 =>
  (ldS q18 h16).bind fun x19 =>
  (shard_text k D (kv8, m9, y15, (data10.size : Int), id11, x19) h16).bind fun r20 =>
  let h21 := AHeap.new r20.2 (.cells [.string r20.1] 9 true 0)
  (rdS 1 (⟨(some ⟨r20.2.next, 0, some 0⟩), 1, 1⟩ : Slc) h21).bind fun n23 =>
  (appendA 1 16 9 h21 out12 n23 1).bind fun r22 =>
  rec17 kv8 m9 data10 id11 r22.1 y13 y14 (IntKind.wrap .i64 (y15 + 1)) r22.2
  else
  j7 out12 h16)
noncomputable def shard_Make_l0 (k : Nat) (D : CallF) (j7 : Slc → AHeap → Option ((Slc × Int) × AHeap)) : Int → Int → ByteArray → ByteArray → Slc → Slc → Int → Int → AHeap → Option ((Slc × Int) × AHeap) :=
  iterK (α := Int → Int → ByteArray → ByteArray → Slc → Slc → Int → Int → AHeap → Option ((Slc × Int) × AHeap)) (fun _ _ _ _ _ _ _ _ _ => none) k (shard_Make_l0b k D j7)
noncomputable def shard_Make (k : Nat) (D : CallF) (k_0 : Int) (m_1 : Int) (data_2 : ByteArray) (h : AHeap) : Option ((Slc × Int) × AHeap) :=
  (stripe_New k D k_0 m_1 h).bind fun r1 =>
  (if (r1.1.2 != 0) = true then
  some (((⟨none, 0, 0⟩ : Slc), r1.1.2), r1.2)
  else
  (stripe_Plan_Split k D r1.1.1 data_2 r1.2).bind fun r2 =>
  (if (r2.1.2 != 0) = true then
  some (((⟨none, 0, 0⟩ : Slc), r2.1.2), r2.2)
  else
  let h3 := AHeap.new r2.2 (.cells [.string data_2] 9 true 0)
  (sha_Sum k D (⟨(some ⟨r2.2.next, 0, some 0⟩), 1, 1⟩ : Slc) h3).bind fun r4 =>
  joinK (fun (out5 : Slc) (h6 : AHeap) =>
  some ((out5, 0), h6)) fun j7 =>
  shard_Make_l0 k D j7 k_0 m_1 data_2 r4.1 (⟨none, 0, 0⟩ : Slc) r2.1.1 (r2.1.1.len : Int) 0 r4.2))
def r_shard_Make : RCode := .seq (.region [⟨some 6, .p (.mv (.const (.slice none 0 0))), none, none⟩,
  ⟨some 7, .p (.mv (.const (.int .i64 0))), none, none⟩])
  (.seq (.region [⟨some 16, .p (.mv (.tmp 0)), none, none⟩,
  ⟨some 17, .p (.mv (.tmp 1)), none, none⟩,
  ⟨some 18, .e (.call (.func 20) [.tmp 16, .tmp 17]), none, none⟩,
  ⟨some 15, .p (.mv (.tmp 18)), none, none⟩,
  ⟨some 19, .p (.extract (.tmp 15) 0), none, none⟩,
  ⟨some 20, .p (.extract (.tmp 15) 1), none, none⟩,
  ⟨some 8, .p (.mv (.tmp 19)), none, none⟩,
  ⟨some 9, .p (.mv (.tmp 20)), none, none⟩])
  (.seq (.seq (.region [⟨some 21, .p (.mv (.tmp 9)), none, none⟩,
  ⟨some 22, .p (.bin .neq (.tmp 21) (.const (.int .i64 0))), none, none⟩])
  (.cond (.tmp 22) (.seq (.region [⟨some 23, .p (.mv (.tmp 9)), none, none⟩,
  ⟨some 6, .p (.mv (.const (.slice none 0 0))), none, none⟩,
  ⟨some 7, .p (.mv (.tmp 23)), none, none⟩])
  (.ret)) (.skip)))
  (.seq (.region [⟨some 25, .p (.mv (.tmp 8)), none, none⟩,
  ⟨some 26, .p (.mv (.tmp 2)), none, none⟩,
  ⟨some 27, .e (.call (.func 21) [.tmp 25, .tmp 26]), none, none⟩,
  ⟨some 24, .p (.mv (.tmp 27)), none, none⟩,
  ⟨some 28, .p (.extract (.tmp 24) 0), none, none⟩,
  ⟨some 29, .p (.extract (.tmp 24) 1), none, none⟩,
  ⟨some 10, .p (.mv (.tmp 28)), none, none⟩,
  ⟨some 9, .p (.mv (.tmp 29)), none, none⟩])
  (.seq (.seq (.region [⟨some 30, .p (.mv (.tmp 9)), none, none⟩,
  ⟨some 31, .p (.bin .neq (.tmp 30) (.const (.int .i64 0))), none, none⟩])
  (.cond (.tmp 31) (.seq (.region [⟨some 32, .p (.mv (.tmp 9)), none, none⟩,
  ⟨some 6, .p (.mv (.const (.slice none 0 0))), none, none⟩,
  ⟨some 7, .p (.mv (.tmp 32)), none, none⟩])
  (.ret)) (.skip)))
  (.seq (.region [⟨some 33, .p (.mv (.tmp 2)), none, none⟩,
  ⟨some 34, .a (.buildSlice 9 1 (zerosL 1 [.string ⟨#[]⟩]) [(0, 1, .tmp 33)]), none, none⟩,
  ⟨some 35, .e (.call (.func 18) [.tmp 34]), none, none⟩,
  ⟨some 11, .p (.mv (.tmp 35)), none, none⟩])
  (.seq (.region [⟨some 12, .p (.mv (.const (.slice none 0 0))), none, none⟩])
  (.seq (.join [(12, .l)] (.seq (.region [⟨some 36, .p (.mv (.tmp 10)), none, none⟩,
  ⟨some 37, .p (.lenL (.tmp 36)), none, none⟩,
  ⟨some 38, .p (.mv (.const (.int .i64 0))), none, none⟩])
  (.block 0 (.loop [(0, .i .i64), (1, .i .i64), (2, .s), (11, .s), (12, .l), (36, .l), (37, .i .i64), (38, .i .i64)] (.seq (.region [⟨some 39, .p (.bin .lss (.tmp 38) (.tmp 37)), none, none⟩])
  (.seq (.cond (.tmp 39) (.skip) (.exit 0))
  (.seq (.block 1 (.seq (.region [⟨some 40, .p (.mv (.tmp 38)), none, none⟩,
  ⟨some 41, .p (.idxL 1 (.tmp 36) (.tmp 38)), none, none⟩,
  ⟨some 42, .l (.load (.s) (.tmp 41)), none, none⟩,
  ⟨some 13, .p (.mv (.tmp 40)), none, none⟩,
  ⟨some 14, .p (.mv (.tmp 42)), none, none⟩])
  (.region [⟨some 43, .p (.mv (.tmp 12)), none, none⟩,
  ⟨some 44, .p (.mv (.tmp 0)), none, none⟩,
  ⟨some 45, .p (.mv (.tmp 1)), none, none⟩,
  ⟨some 46, .p (.mv (.tmp 13)), none, none⟩,
  ⟨some 47, .p (.mv (.tmp 2)), none, none⟩,
  ⟨some 48, .p (.lenS (.tmp 47)), none, none⟩,
  ⟨some 49, .p (.mv (.tmp 11)), none, none⟩,
  ⟨some 50, .p (.mv (.tmp 14)), none, none⟩,
  ⟨some 51, .p (.build [.int .i64 0, .int .i64 0, .int .i64 0, .int .i64 0, .string ⟨#[]⟩, .string ⟨#[]⟩] [(0, 1, .tmp 44), (1, 1, .tmp 45), (2, 1, .tmp 46), (3, 1, .tmp 48), (4, 1, .tmp 49), (5, 1, .tmp 50)]), none, none⟩,
  ⟨some 52, .e (.call (.func 22) [.tmp 51]), none, none⟩,
  ⟨some 53, .a (.buildSlice 9 1 (zerosL 1 [.string ⟨#[]⟩]) [(0, 1, .tmp 52)]), none, none⟩,
  ⟨some 54, .e (.append 1 16 9 [.string ⟨#[]⟩] .slice (.tmp 43) (.tmp 53)), none, none⟩,
  ⟨some 12, .p (.mv (.tmp 54)), none, none⟩])))
  (.region [⟨some 55, .p (.bin .add (.tmp 38) (.const (.int .i64 1))), none, none⟩,
  ⟨some 38, .p (.mv (.tmp 55)), none, none⟩]))))))))
  (.seq (.region [⟨some 56, .p (.mv (.tmp 12)), none, none⟩,
  ⟨some 6, .p (.mv (.tmp 56)), none, none⟩,
  ⟨some 7, .p (.mv (.const (.int .i64 0))), none, none⟩])
  (.ret)))))))))
noncomputable def e_shard_Make (k : Nat) (D : CallF) : Ent := entOf 7 [(0, .i .i64), (1, .i .i64), (2, .s)] [(6, .l), (7, .i .i64)] (shard_Make k D)
theorem q_shard_Make : (Tryz.f7.body).bind (rcodeOf Tryz.prog 2 Tryz.f7.ntmps) = some (strip r_shard_Make) := by kernel_rfl
theorem t_shard_Make (k : Nat) (D : CallF) : curF [(0, .i .i64), (1, .i .i64), (2, .s)] (fun args h => denF (C_shard_Make k D) k r_shard_Make [(6, .l), (7, .i .i64)] [none, none] args h) = shard_Make k D := by kernel_rfl
theorem ok_shard_Make {D : CallF} (hD : CSound Tryz.prog 2 D) (k : Nat) : EntOk Tryz.prog 2 (e_shard_Make k D) :=
  entOf_ok2 (mkC_sound hD (EntsOk.more (ok_stripe_New hD k) (EntsOk.more (ok_stripe_Plan_Split hD k) (EntsOk.more (ok_sha_Sum hD k) (EntsOk.more (ok_shard_text hD k) (EntsOk.none)))))) Tryz.func7 rfl q_shard_Make rfl (t_shard_Make k D)
end Gz
namespace Gz
open Go Gx Go.Proofs
set_option maxRecDepth 100000
end Gz
namespace Gz
open Go Gx Go.Proofs
set_option maxRecDepth 100000
end Gz
namespace Gz
open Go Gx Go.Proofs
set_option maxRecDepth 100000
end Gz
namespace Gz
open Go Gx Go.Proofs
set_option maxRecDepth 100000
end Gz
namespace Gz
open Go Gx Go.Proofs
set_option maxRecDepth 100000
noncomputable def C_law06_ShardWhole (k : Nat) (D : CallF) : CallF := mkC D [e_law06_works k D, e_shard_Make k D, e_shard_Gather k D, e_sha_Sum k D, e_shard_Decode k D, e_book_Among k D]
noncomputable def law06_ShardWhole_l0b (k : Nat) (D : CallF) (j21 : ByteArray → (Option Addr) → Slc → AHeap → Option ((Bool) × AHeap)) (rec49 : ByteArray → Int → (Option Addr) → Slc → Slc → Int → AHeap → Option ((Bool) × AHeap)) (data42 : ByteArray) (left43 : Int) (other44 : Option Addr) (l45 : Slc) (two46 : Slc) (y47 : Int) (h48 : AHeap) : Option ((Bool) × AHeap) :=
  (if (decide (y47 < 3)) = true then
  joinK (fun (data50 : ByteArray) (left51 : Int) (other52 : Option Addr) (l53 : Slc) (two54 : Slc) (y55 : Int) (h56 : AHeap) =>
  rec49 data50 left51 other52 l53 two54 (IntKind.wrap .i64 (y55 + 1)) h56) fun j57 =>
  (Gx.idxL 1 l45 y47).bind fun q58 =>
  (ldS q58 h48).bind fun x59 =>
  (shard_Decode k D x59 h48).bind fun r60 =>
  let h61 := AHeap.new r60.2 (.cells [.int .i64 0, .int .i64 0, .int .i64 0, .int .i64 0, .string ⟨#[]⟩, .string ⟨#[]⟩] 33 true 0)
  (stL 6 (⟨r60.2.next, 0, none⟩ : Addr) ([.int .i64 r60.1.1.1, .int .i64 r60.1.1.2.1, .int .i64 r60.1.1.2.2.1, .int .i64 r60.1.1.2.2.2.1, .string r60.1.1.2.2.2.2.1, .string r60.1.1.2.2.2.2.2]) h61).bind fun h62 =>
  (if (r60.1.2 != 0) = true then
  some (false, h62)
  else
  (book_Among k D left43 3 h62).bind fun r63 =>
  (if (y47 != r63.1) = true then
  (ldA 6 (⟨r60.2.next, 0, none⟩ : Addr) r63.2).bind fun l64 =>
  (decC [.i .i64, .i .i64, .i .i64, .i .i64, .s, .s] l64).bind fun x65 =>
  let h66 := AHeap.new r63.2 (.cells [.int .i64 x65.1, .int .i64 x65.2.1, .int .i64 x65.2.2.1, .int .i64 x65.2.2.2.1, .string x65.2.2.2.2.1, .string x65.2.2.2.2.2] 33 true 0)
  (rdS 6 (⟨(some ⟨r63.2.next, 0, some 0⟩), 1, 1⟩ : Slc) h66).bind fun n68 =>
  (appendA 6 64 33 h66 two46 n68 1).bind fun r67 =>
  j57 data42 left43 other44 l45 r67.1 y47 r67.2
  else
  j57 data42 left43 other44 l45 two46 y47 r63.2))
  else
  j21 data42 other44 two46 h48)
noncomputable def law06_ShardWhole_l0 (k : Nat) (D : CallF) (j21 : ByteArray → (Option Addr) → Slc → AHeap → Option ((Bool) × AHeap)) : ByteArray → Int → (Option Addr) → Slc → Slc → Int → AHeap → Option ((Bool) × AHeap) :=
  iterK (α := ByteArray → Int → (Option Addr) → Slc → Slc → Int → AHeap → Option ((Bool) × AHeap)) (fun _ _ _ _ _ _ _ => none) k (law06_ShardWhole_l0b k D j21)
noncomputable def law06_ShardWhole (k : Nat) (D : CallF) (data_0 : ByteArray) (left_1 : Int) (other_2 : Int × Int × Int × Int × ByteArray × ByteArray) (h : AHeap) : Option ((Bool) × AHeap) :=
  let h1 := AHeap.new h (.cells [.int .i64 other_2.1, .int .i64 other_2.2.1, .int .i64 other_2.2.2.1, .int .i64 other_2.2.2.2.1, .string other_2.2.2.2.2.1, .string other_2.2.2.2.2.2] 33 true 0)
  (law06_works k D h1).bind fun r2 =>
  (if (!r2.1) = true then
  some (false, r2.2)
  else
  joinK (fun (data3 : ByteArray) (left4 : Int) (other5 : Option Addr) (y6 : Bool) (h7 : AHeap) =>
  (if y6 = true then
  some (true, h7)
  else
  (shard_Make k D 2 1 data3 h7).bind fun r9 =>
  joinK (fun (data10 : ByteArray) (left11 : Int) (other12 : Option Addr) (l13 : Slc) (y14 : Bool) (h15 : AHeap) =>
  (if y14 = true then
  some (false, h15)
  else
  joinK (fun (data17 : ByteArray) (other18 : Option Addr) (two19 : Slc) (h20 : AHeap) =>
  (shard_Gather k D two19 h20).bind fun r22 =>
  (other18).bind fun p23 =>
  (ldA 6 p23 r22.2).bind fun l24 =>
  (decC [.i .i64, .i .i64, .i .i64, .i .i64, .s, .s] l24).bind fun x25 =>
  let h26 := AHeap.new r22.2 (.cells [.int .i64 x25.1, .int .i64 x25.2.1, .int .i64 x25.2.2.1, .int .i64 x25.2.2.2.1, .string x25.2.2.2.2.1, .string x25.2.2.2.2.2] 33 true 0)
  (shard_Gather k D (⟨(some ⟨r22.2.next, 0, some 0⟩), 1, 1⟩ : Slc) h26).bind fun r27 =>
  (Gx.subL 6 two19 none (some 1) none).bind fun l28 =>
  (shard_Gather k D l28 r27.2).bind fun r29 =>
  (if (r22.1.2 == 0) = true then
  (if (r22.1.1 == data17) = true then
  (if (r27.1.2 != 0) = true then
  (if (r27.1.1 == (⟨#[]⟩ : ByteArray)) = true then
  some ((r29.1.2 == 50), r29.2)
  else
  let h30 := AHeap.new r29.2 (.cells [.string r27.1.1] 9 true 0)
  (sha_Sum k D (⟨(some ⟨r29.2.next, 0, some 0⟩), 1, 1⟩ : Slc) h30).bind fun r31 =>
  (other18).bind fun p32 =>
  (ldS (⟨p32.block, p32.off + 4, none⟩ : Addr) r31.2).bind fun x33 =>
  guardP (SameW [h30, r29.2] (fun H35 => (ldS (⟨p32.block, p32.off + 4, none⟩ : Addr) H35).bind fun y34 => some (.string y34)) (.string x33)) (
  (if (r31.1 == x33) = true then
  some ((r29.1.2 == 50), r31.2)
  else
  some (false, r31.2))))
  else
  let h36 := AHeap.new r29.2 (.cells [.string r27.1.1] 9 true 0)
  (sha_Sum k D (⟨(some ⟨r29.2.next, 0, some 0⟩), 1, 1⟩ : Slc) h36).bind fun r37 =>
  (other18).bind fun p38 =>
  (ldS (⟨p38.block, p38.off + 4, none⟩ : Addr) r37.2).bind fun x39 =>
  guardP (SameW [h36, r29.2] (fun H41 => (ldS (⟨p38.block, p38.off + 4, none⟩ : Addr) H41).bind fun y40 => some (.string y40)) (.string x39)) (
  (if (r37.1 == x39) = true then
  some ((r29.1.2 == 50), r37.2)
  else
  some (false, r37.2))))
  else
  some (false, r29.2))
  else
  some (false, r29.2))) fun j21 =>
  law06_ShardWhole_l0 k D j21 data10 left11 other12 l13 (⟨none, 0, 0⟩ : Slc) 0 h15)) fun j16 =>
  (if (r9.1.2 != 0) = true then
  j16 data3 left4 other5 r9.1.1 true r9.2
  else
  j16 data3 left4 other5 r9.1.1 ((r9.1.1.len : Int) != 3) r9.2))) fun j8 =>
  (if (decide ((data_0.size : Int) > 300)) = true then
  j8 data_0 left_1 (some (⟨h.next, 0, none⟩ : Addr)) true r2.2
  else
  (ldS (⟨h.next, 5, none⟩ : Addr) r2.2).bind fun x69 =>
  (if (decide ((x69.size : Int) > 300)) = true then
  j8 data_0 left_1 (some (⟨h.next, 0, none⟩ : Addr)) true r2.2
  else
  (ldI .i64 (⟨h.next, 0, none⟩ : Addr) r2.2).bind fun x70 =>
  (if (decide (x70 > 20)) = true then
  j8 data_0 left_1 (some (⟨h.next, 0, none⟩ : Addr)) true r2.2
  else
  (ldI .i64 (⟨h.next, 1, none⟩ : Addr) r2.2).bind fun x71 =>
  j8 data_0 left_1 (some (⟨h.next, 0, none⟩ : Addr)) (decide (x71 > 20)) r2.2))))
def r_law06_ShardWhole : RCode := .seq (.region [⟨some 5, .a (.box 33 (.tmp 2)), none, none⟩,
  ⟨some 6, .p (.mv (.const (.bool false))), none, none⟩])
  (.seq (.seq (.region [⟨some 18, .e (.call (.func 6) []), none, none⟩,
  ⟨some 19, .p (.un .not (.tmp 18)), none, none⟩])
  (.cond (.tmp 19) (.seq (.region [⟨some 6, .p (.mv (.const (.bool false))), none, none⟩])
  (.ret)) (.skip)))
  (.seq (.seq (.join [(0, .s), (1, .i .i64), (5, .p), (38, .b)] (.region [⟨some 20, .p (.mv (.tmp 0)), none, none⟩,
  ⟨some 21, .p (.lenS (.tmp 20)), none, none⟩,
  ⟨some 22, .p (.bin .gtr (.tmp 21) (.const (.int .i64 300))), none, none⟩,
  ⟨some 23, .p (.mv (.tmp 22)), none, none⟩,
  ⟨some 24, .p (.fieldAddr 5 (.tmp 5)), (some (23, false)), none⟩,
  ⟨some 25, .l (.load (.s) (.tmp 24)), (some (23, false)), none⟩,
  ⟨some 26, .p (.lenS (.tmp 25)), (some (23, false)), none⟩,
  ⟨some 27, .p (.bin .gtr (.tmp 26) (.const (.int .i64 300))), (some (23, false)), none⟩,
  ⟨some 28, .p (.pick (.tmp 23) (.const (.bool true)) (.tmp 27)), none, none⟩,
  ⟨some 29, .p (.mv (.tmp 28)), none, none⟩,
  ⟨some 30, .p (.fieldAddr 0 (.tmp 5)), (some (29, false)), none⟩,
  ⟨some 31, .l (.load (.i .i64) (.tmp 30)), (some (29, false)), none⟩,
  ⟨some 32, .p (.bin .gtr (.tmp 31) (.const (.int .i64 20))), (some (29, false)), none⟩,
  ⟨some 33, .p (.pick (.tmp 29) (.const (.bool true)) (.tmp 32)), none, none⟩,
  ⟨some 34, .p (.mv (.tmp 33)), none, none⟩,
  ⟨some 35, .p (.fieldAddr 1 (.tmp 5)), (some (34, false)), none⟩,
  ⟨some 36, .l (.load (.i .i64) (.tmp 35)), (some (34, false)), none⟩,
  ⟨some 37, .p (.bin .gtr (.tmp 36) (.const (.int .i64 20))), (some (34, false)), none⟩,
  ⟨some 38, .p (.pick (.tmp 34) (.const (.bool true)) (.tmp 37)), none, none⟩]))
  (.cond (.tmp 38) (.seq (.region [⟨some 6, .p (.mv (.const (.bool true))), none, none⟩])
  (.ret)) (.skip)))
  (.seq (.region [⟨some 40, .p (.mv (.tmp 0)), none, none⟩,
  ⟨some 41, .e (.call (.func 7) [.const (.int .i64 2), .const (.int .i64 1), .tmp 40]), none, none⟩,
  ⟨some 39, .p (.mv (.tmp 41)), none, none⟩,
  ⟨some 42, .p (.extract (.tmp 39) 0), none, none⟩,
  ⟨some 43, .p (.extract (.tmp 39) 1), none, none⟩,
  ⟨some 7, .p (.mv (.tmp 42)), none, none⟩,
  ⟨some 8, .p (.mv (.tmp 43)), none, none⟩])
  (.seq (.seq (.join [(0, .s), (1, .i .i64), (5, .p), (7, .l), (50, .b)] (.region [⟨some 44, .p (.mv (.tmp 8)), none, none⟩,
  ⟨some 45, .p (.bin .neq (.tmp 44) (.const (.int .i64 0))), none, none⟩,
  ⟨some 46, .p (.mv (.tmp 45)), none, none⟩,
  ⟨some 47, .p (.mv (.tmp 7)), (some (46, false)), none⟩,
  ⟨some 48, .p (.lenL (.tmp 47)), (some (46, false)), none⟩,
  ⟨some 49, .p (.bin .neq (.tmp 48) (.const (.int .i64 3))), (some (46, false)), none⟩,
  ⟨some 50, .p (.pick (.tmp 46) (.const (.bool true)) (.tmp 49)), none, none⟩]))
  (.cond (.tmp 50) (.seq (.region [⟨some 6, .p (.mv (.const (.bool false))), none, none⟩])
  (.ret)) (.skip)))
  (.seq (.region [⟨some 9, .p (.mv (.const (.slice none 0 0))), none, none⟩])
  (.seq (.join [(0, .s), (5, .p), (9, .l)] (.seq (.region [⟨some 51, .p (.mv (.const (.int .i64 0))), none, none⟩])
  (.block 0 (.loop [(0, .s), (1, .i .i64), (5, .p), (7, .l), (9, .l), (51, .i .i64)] (.seq (.region [⟨some 52, .p (.bin .lss (.tmp 51) (.const (.int .i64 3))), none, none⟩])
  (.seq (.cond (.tmp 52) (.skip) (.exit 0))
  (.seq (.join [(0, .s), (1, .i .i64), (5, .p), (7, .l), (9, .l), (51, .i .i64)] (.block 1 (.seq (.region [⟨some 53, .p (.mv (.tmp 51)), none, none⟩,
  ⟨some 10, .p (.mv (.tmp 53)), none, none⟩])
  (.seq (.region [⟨some 55, .p (.mv (.tmp 7)), none, none⟩,
  ⟨some 56, .p (.mv (.tmp 10)), none, none⟩,
  ⟨some 57, .p (.idxL 1 (.tmp 55) (.tmp 56)), none, none⟩,
  ⟨some 58, .l (.load (.s) (.tmp 57)), none, none⟩,
  ⟨some 59, .e (.call (.func 16) [.tmp 58]), none, none⟩,
  ⟨some 54, .p (.mv (.tmp 59)), none, none⟩,
  ⟨some 60, .p (.extract (.tmp 54) 0), none, none⟩,
  ⟨some 61, .p (.extract (.tmp 54) 1), none, none⟩,
  ⟨some 11, .a (.alloc 33 [.int .i64 0, .int .i64 0, .int .i64 0, .int .i64 0, .string ⟨#[]⟩, .string ⟨#[]⟩]), none, none⟩,
  ⟨none, .e (.store (some 6) (.tmp 11) (.tmp 60)), none, none⟩,
  ⟨some 12, .p (.mv (.tmp 61)), none, none⟩])
  (.seq (.seq (.region [⟨some 62, .p (.mv (.tmp 12)), none, none⟩,
  ⟨some 63, .p (.bin .neq (.tmp 62) (.const (.int .i64 0))), none, none⟩])
  (.cond (.tmp 63) (.seq (.region [⟨some 6, .p (.mv (.const (.bool false))), none, none⟩])
  (.ret)) (.skip)))
  (.seq (.region [⟨some 64, .p (.mv (.tmp 10)), none, none⟩,
  ⟨some 65, .p (.mv (.tmp 1)), none, none⟩,
  ⟨some 66, .e (.call (.func 17) [.tmp 65, .const (.int .i64 3)]), none, none⟩,
  ⟨some 67, .p (.bin .neq (.tmp 64) (.tmp 66)), none, none⟩])
  (.cond (.tmp 67) (.region [⟨some 68, .p (.mv (.tmp 9)), none, none⟩,
  ⟨some 69, .l (.load (.agg 6) (.tmp 11)), none, some (.st [.i .i64, .i .i64, .i .i64, .i .i64, .s, .s])⟩,
  ⟨some 70, .a (.buildSlice 33 1 (zerosL 1 [.int .i64 0, .int .i64 0, .int .i64 0, .int .i64 0, .string ⟨#[]⟩, .string ⟨#[]⟩]) [(0, 6, .tmp 69)]), none, none⟩,
  ⟨some 71, .e (.append 6 64 33 [.int .i64 0, .int .i64 0, .int .i64 0, .int .i64 0, .string ⟨#[]⟩, .string ⟨#[]⟩] .slice (.tmp 68) (.tmp 70)), none, none⟩,
  ⟨some 9, .p (.mv (.tmp 71)), none, none⟩]) (.skip))))))))
  (.region [⟨some 72, .p (.bin .add (.tmp 51) (.const (.int .i64 1))), none, none⟩,
  ⟨some 51, .p (.mv (.tmp 72)), none, none⟩]))))))))
  (.seq (.region [⟨some 74, .p (.mv (.tmp 9)), none, none⟩,
  ⟨some 75, .e (.call (.func 12) [.tmp 74]), none, none⟩,
  ⟨some 73, .p (.mv (.tmp 75)), none, none⟩,
  ⟨some 76, .p (.extract (.tmp 73) 0), none, none⟩,
  ⟨some 77, .p (.extract (.tmp 73) 1), none, none⟩,
  ⟨some 13, .p (.mv (.tmp 76)), none, none⟩,
  ⟨some 8, .p (.mv (.tmp 77)), none, none⟩])
  (.seq (.region [⟨some 79, .l (.load (.agg 6) (.tmp 5)), none, some (.st [.i .i64, .i .i64, .i .i64, .i .i64, .s, .s])⟩,
  ⟨some 80, .a (.buildSlice 33 1 (zerosL 1 [.int .i64 0, .int .i64 0, .int .i64 0, .int .i64 0, .string ⟨#[]⟩, .string ⟨#[]⟩]) [(0, 6, .tmp 79)]), none, none⟩,
  ⟨some 81, .e (.call (.func 12) [.tmp 80]), none, none⟩,
  ⟨some 78, .p (.mv (.tmp 81)), none, none⟩,
  ⟨some 82, .p (.extract (.tmp 78) 0), none, none⟩,
  ⟨some 83, .p (.extract (.tmp 78) 1), none, none⟩,
  ⟨some 14, .p (.mv (.tmp 82)), none, none⟩,
  ⟨some 15, .p (.mv (.tmp 83)), none, none⟩])
  (.seq (.region [⟨some 85, .p (.mv (.tmp 9)), none, none⟩,
  ⟨some 86, .p (.subL 6 (.tmp 85) none (some (.const (.int .i64 1))) none), none, none⟩,
  ⟨some 87, .e (.call (.func 12) [.tmp 86]), none, none⟩,
  ⟨some 84, .p (.mv (.tmp 87)), none, none⟩,
  ⟨some 88, .p (.extract (.tmp 84) 0), none, none⟩,
  ⟨some 89, .p (.extract (.tmp 84) 1), none, none⟩,
  ⟨some 16, .p (.mv (.tmp 88)), none, none⟩,
  ⟨some 17, .p (.mv (.tmp 89)), none, none⟩])
  (.seq (.draw [⟨0, ⟨some 90, .p (.mv (.tmp 8)), none, none⟩, [8], 0⟩,
  ⟨1, ⟨some 91, .p (.bin .eql (.tmp 90) (.const (.int .i64 0))), none, none⟩, [90], 0⟩,
  ⟨2, ⟨some 92, .p (.mv (.tmp 91)), none, none⟩, [91], 0⟩,
  ⟨3, ⟨some 93, .p (.mv (.tmp 13)), (some (92, true)), none⟩, [13, 92], 0⟩,
  ⟨4, ⟨some 94, .p (.mv (.tmp 0)), (some (92, true)), none⟩, [0, 92], 0⟩,
  ⟨5, ⟨some 95, .p (.bin .eql (.tmp 93) (.tmp 94)), (some (92, true)), none⟩, [93, 94, 92], 0⟩,
  ⟨6, ⟨some 96, .p (.pick (.tmp 92) (.tmp 95) (.const (.bool false))), none, none⟩, [92, 95], 0⟩,
  ⟨7, ⟨some 97, .p (.mv (.tmp 96)), none, none⟩, [96], 0⟩,
  ⟨8, ⟨some 98, .p (.mv (.tmp 15)), (some (97, true)), none⟩, [15, 97], 0⟩,
  ⟨9, ⟨some 99, .p (.bin .neq (.tmp 98) (.const (.int .i64 0))), (some (97, true)), none⟩, [98, 97], 0⟩,
  ⟨10, ⟨some 100, .p (.mv (.tmp 99)), (some (97, true)), none⟩, [99, 97], 0⟩,
  ⟨11, ⟨some 101, .p (.mv (.tmp 14)), (some (100, true)), none⟩, [14, 100], 0⟩,
  ⟨12, ⟨some 102, .p (.bin .eql (.tmp 101) (.const (.string ⟨#[]⟩))), (some (100, true)), none⟩, [101, 100], 0⟩,
  ⟨13, ⟨some 103, .p (.pick (.tmp 100) (.tmp 102) (.const (.bool false))), (some (97, true)), none⟩, [100, 102, 97], 0⟩,
  ⟨14, ⟨some 104, .p (.mv (.tmp 103)), (some (97, true)), none⟩, [103, 97], 0⟩,
  ⟨15, ⟨some 105, .p (.mv (.tmp 14)), (some (104, false)), none⟩, [14, 104], 0⟩,
  ⟨16, ⟨some 106, .a (.buildSlice 9 1 (zerosL 1 [.string ⟨#[]⟩]) [(0, 1, .tmp 105)]), (some (104, false)), none⟩, [105, 104], 0⟩,
  ⟨17, ⟨some 107, .e (.call (.func 18) [.tmp 106]), (some (104, false)), none⟩, [106, 104], 0⟩,
  ⟨18, ⟨some 108, .p (.fieldAddr 4 (.tmp 5)), (some (104, false)), none⟩, [5, 104], 2⟩,
  ⟨19, ⟨some 109, .l (.load (.s) (.tmp 108)), (some (104, false)), none⟩, [108, 104], 2⟩,
  ⟨20, ⟨some 110, .p (.bin .eql (.tmp 107) (.tmp 109)), (some (104, false)), none⟩, [107, 109, 104], 0⟩,
  ⟨21, ⟨some 111, .p (.pick (.tmp 104) (.const (.bool true)) (.tmp 110)), (some (97, true)), none⟩, [104, 110, 97], 0⟩,
  ⟨22, ⟨some 112, .p (.pick (.tmp 97) (.tmp 111) (.const (.bool false))), none, none⟩, [97, 111], 0⟩,
  ⟨23, ⟨some 113, .p (.mv (.tmp 112)), none, none⟩, [112], 0⟩,
  ⟨24, ⟨some 114, .p (.mv (.tmp 17)), (some (113, true)), none⟩, [17, 113], 0⟩,
  ⟨25, ⟨some 115, .p (.bin .eql (.tmp 114) (.const (.int .i64 50))), (some (113, true)), none⟩, [114, 113], 0⟩,
  ⟨26, ⟨some 116, .p (.pick (.tmp 113) (.tmp 115) (.const (.bool false))), none, none⟩, [113, 115], 0⟩,
  ⟨27, ⟨some 6, .p (.mv (.tmp 116)), none, none⟩, [116], 0⟩])
  (.ret)))))))))))
noncomputable def e_law06_ShardWhole (k : Nat) (D : CallF) : Ent := entOf 5 [(0, .s), (1, .i .i64), (2, .st [.i .i64, .i .i64, .i .i64, .i .i64, .s, .s])] [(6, .b)] (law06_ShardWhole k D)
theorem q_law06_ShardWhole : (Tryz.f5.body).bind (rcodeOf Tryz.prog 2 Tryz.f5.ntmps) = some (strip r_law06_ShardWhole) := by kernel_rfl
theorem t_law06_ShardWhole (k : Nat) (D : CallF) : curF [(0, .s), (1, .i .i64), (2, .st [.i .i64, .i .i64, .i .i64, .i .i64, .s, .s])] (fun args h => denF (C_law06_ShardWhole k D) k r_law06_ShardWhole [(6, .b)] [none] args h) = law06_ShardWhole k D := by kernel_rfl
theorem ok_law06_ShardWhole {D : CallF} (hD : CSound Tryz.prog 2 D) (k : Nat) : EntOk Tryz.prog 2 (e_law06_ShardWhole k D) :=
  entOf_ok2 (mkC_sound hD (EntsOk.more (ok_law06_works hD k) (EntsOk.more (ok_shard_Make hD k) (EntsOk.more (ok_shard_Gather hD k) (EntsOk.more (ok_sha_Sum hD k) (EntsOk.more (ok_shard_Decode hD k) (EntsOk.more (ok_book_Among hD k) (EntsOk.none)))))))) Tryz.func5 rfl q_law06_ShardWhole rfl (t_law06_ShardWhole k D)
end Gz
namespace Gz
open Go Gx Go.Proofs
set_option maxRecDepth 100000
end Gz
namespace Gz
open Go Gx Go.Proofs
set_option maxRecDepth 100000
end Gz
namespace Gz
open Go Gx Go.Proofs
set_option maxRecDepth 100000
end Gz
