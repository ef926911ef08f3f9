import Derived.Test.YtcacldakplomnaaProg
import Derived.Test.YtcacldakplomnaaGx2
namespace Gb
open Go Gx Go.Proofs
set_option maxRecDepth 100000
noncomputable def C_shard_Crc (_k : Nat) (D : CallF) : CallF := mkC D []
noncomputable def shard_Crc_l1b (_k : Nat) (_D : CallF) (j17 : Int → Slc → Int → Int → AHeap → Option ((Int) × AHeap)) (rec26 : Int → Slc → Int → Int → Int → AHeap → Option ((Int) × AHeap)) (r20 : Int) (y21 : Slc) (y22 : Int) (y23 : Int) (y24 : Int) (h25 : AHeap) : Option ((Int) × AHeap) :=
  (if (decide (y24 < 8)) = true then
  let t27 : Int := (Go.bits .and .u32 2197175160 (IntKind.wrap .u32 (0 - (Go.bits .and .u32 r20 1))))
  rec26 (Go.bits .xor .u32 (Int.fdiv r20 2) t27) y21 y22 y23 (IntKind.wrap .i64 (y24 + 1)) h25
  else
  j17 r20 y21 y22 y23 h25)
noncomputable def shard_Crc_l1 (k : Nat) (D : CallF) (j17 : Int → Slc → Int → Int → AHeap → Option ((Int) × AHeap)) : Int → Slc → Int → Int → Int → AHeap → Option ((Int) × AHeap) :=
  iterK (α := Int → Slc → Int → Int → Int → AHeap → Option ((Int) × AHeap)) (fun _ _ _ _ _ _ => none) k (shard_Crc_l1b k D j17)
noncomputable def shard_Crc_l0b (k : Nat) (D : CallF) (j3 : Int → AHeap → Option ((Int) × AHeap)) (rec11 : Int → Slc → Int → Int → AHeap → Option ((Int) × AHeap)) (r6 : Int) (y7 : Slc) (y8 : Int) (y9 : Int) (h10 : AHeap) : Option ((Int) × AHeap) :=
  (if (decide (y9 < y8)) = true then
  joinK (fun (r12 : Int) (y13 : Slc) (y14 : Int) (y15 : Int) (h16 : AHeap) =>
  rec11 r12 y13 y14 (IntKind.wrap .i64 (y15 + 1)) h16) fun j17 =>
  (Gx.idxL 1 y7 y9).bind fun q18 =>
  (ldI .u8 q18 h10).bind fun x19 =>
  shard_Crc_l1 k D j17 (Go.bits .xor .u32 r6 (IntKind.wrap .u32 x19)) y7 y8 y9 0 h10
  else
  j3 r6 h10)
noncomputable def shard_Crc_l0 (k : Nat) (D : CallF) (j3 : Int → AHeap → Option ((Int) × AHeap)) : Int → Slc → Int → Int → AHeap → Option ((Int) × AHeap) :=
  iterK (α := Int → Slc → Int → Int → AHeap → Option ((Int) × AHeap)) (fun _ _ _ _ _ => none) k (shard_Crc_l0b k D j3)
noncomputable def shard_Crc (k : Nat) (D : CallF) (s_0 : ByteArray) (h : AHeap) : Option ((Int) × AHeap) :=
  joinK (fun (r1 : Int) (h2 : AHeap) =>
  let t4 : Int := (IntKind.wrap .i64 (Go.bits .xor .u32 (IntKind.max .u32) r1))
  some (t4, h2)) fun j3 =>
  let h5 := AHeap.new h (.cells (bytesL s_0) 5 true 0)
  shard_Crc_l0 k D j3 4294967295 (⟨(some ⟨h.next, 0, some 2⟩), s_0.size, s_0.size⟩ : Slc) (s_0.size : Int) 0 h5
def r_shard_Crc : RCode := .seq (.region [⟨some 2, .p (.mv (.const (.int .i64 0))), none, none⟩])
  (.seq (.region [⟨some 3, .p (.mv (.const (.int .u32 4294967295))), none, none⟩])
  (.seq (.join [(3, .i .u32)] (.seq (.region [⟨some 7, .p (.mv (.tmp 0)), none, none⟩,
  ⟨some 8, .a (.convSB 5 (.tmp 7)), none, none⟩,
  ⟨some 9, .p (.lenL (.tmp 8)), none, none⟩,
  ⟨some 10, .p (.mv (.const (.int .i64 0))), none, none⟩])
  (.block 0 (.loop [(3, .i .u32), (8, .l), (9, .i .i64), (10, .i .i64)] (.seq (.region [⟨some 11, .p (.bin .lss (.tmp 10) (.tmp 9)), none, none⟩])
  (.seq (.cond (.tmp 11) (.skip) (.exit 0))
  (.seq (.join [(3, .i .u32), (8, .l), (9, .i .i64), (10, .i .i64)] (.block 1 (.seq (.region [⟨some 12, .p (.idxL 1 (.tmp 8) (.tmp 10)), none, none⟩,
  ⟨some 13, .l (.load (.i .u8) (.tmp 12)), none, none⟩,
  ⟨some 5, .p (.mv (.tmp 13)), none, none⟩])
  (.seq (.region [⟨some 14, .p (.mv (.tmp 3)), none, none⟩,
  ⟨some 15, .p (.mv (.tmp 5)), none, none⟩,
  ⟨some 16, .p (.convI .u32 (.tmp 15)), none, none⟩,
  ⟨some 17, .p (.bin .xor (.tmp 14) (.tmp 16)), none, none⟩,
  ⟨some 3, .p (.mv (.tmp 17)), none, none⟩])
  (.seq (.region [⟨some 18, .p (.mv (.const (.int .i64 0))), none, none⟩])
  (.block 2 (.loop [(3, .i .u32), (8, .l), (9, .i .i64), (10, .i .i64), (18, .i .i64)] (.seq (.region [⟨some 19, .p (.bin .lss (.tmp 18) (.const (.int .i64 8))), none, none⟩])
  (.seq (.cond (.tmp 19) (.skip) (.exit 2))
  (.seq (.block 3 (.seq (.region [⟨some 20, .p (.mv (.tmp 3)), none, none⟩,
  ⟨some 21, .p (.bin .and (.tmp 20) (.const (.int .u32 1))), none, none⟩,
  ⟨some 6, .p (.mv (.tmp 21)), none, none⟩])
  (.region [⟨some 22, .p (.mv (.tmp 3)), none, none⟩,
  ⟨some 23, .p (.bin .shr (.tmp 22) (.const (.int .u64 1))), none, none⟩,
  ⟨some 24, .p (.mv (.tmp 6)), none, none⟩,
  ⟨some 25, .p (.un .neg (.tmp 24)), none, none⟩,
  ⟨some 26, .p (.bin .and (.const (.int .u32 2197175160)) (.tmp 25)), none, none⟩,
  ⟨some 27, .p (.bin .xor (.tmp 23) (.tmp 26)), none, none⟩,
  ⟨some 3, .p (.mv (.tmp 27)), none, none⟩])))
  (.region [⟨some 28, .p (.bin .add (.tmp 18) (.const (.int .i64 1))), none, none⟩,
  ⟨some 18, .p (.mv (.tmp 28)), none, none⟩])))))))))))
  (.region [⟨some 29, .p (.bin .add (.tmp 10) (.const (.int .i64 1))), none, none⟩,
  ⟨some 10, .p (.mv (.tmp 29)), none, none⟩]))))))))
  (.seq (.region [⟨some 30, .p (.mv (.tmp 3)), none, none⟩,
  ⟨some 31, .p (.un .xor (.tmp 30)), none, none⟩,
  ⟨some 32, .p (.convI .i64 (.tmp 31)), none, none⟩,
  ⟨some 2, .p (.mv (.tmp 32)), none, none⟩])
  (.ret))))
noncomputable def e_shard_Crc (k : Nat) (D : CallF) : Ent := entOf 18 [(0, .s)] [(2, .i .i64)] (shard_Crc k D)
theorem q_shard_Crc : (Try.f18.body).bind (rcodeOf Try.prog 0 Try.f18.ntmps) = some (strip r_shard_Crc) := by kernel_rfl
theorem t_shard_Crc (k : Nat) (D : CallF) : curF [(0, .s)] (fun args h => denF (C_shard_Crc k D) k r_shard_Crc [(2, .i .i64)] [none] args h) = shard_Crc k D := by kernel_rfl
theorem ok_shard_Crc {D : CallF} (hD : CSound Try.prog 0 D) (k : Nat) : EntOk Try.prog 0 (e_shard_Crc k D) :=
  entOf_ok2 (mkC_sound hD (EntsOk.none)) Try.func18 rfl q_shard_Crc rfl (t_shard_Crc k D)
end Gb
namespace Gb
open Go Gx Go.Proofs
set_option maxRecDepth 100000
noncomputable def C_law06_works (k : Nat) (D : CallF) : CallF := mkC D [e_shard_Crc k D]
noncomputable def law06_works (k : Nat) (D : CallF)  (h : AHeap) : Option ((Bool) × AHeap) :=
  (shard_Crc k D (⟨#[49, 50, 51, 52, 53, 54, 55, 56, 57]⟩ : ByteArray) h).bind fun r1 =>
  some ((r1.1 == 3808858755), r1.2)
def r_law06_works : RCode := .seq (.region [⟨some 0, .p (.mv (.const (.bool false))), none, none⟩])
  (.seq (.region [⟨some 1, .e (.call (.func 18) [.const (.string ⟨#[49, 50, 51, 52, 53, 54, 55, 56, 57]⟩)]), none, none⟩,
  ⟨some 2, .p (.bin .eql (.tmp 1) (.const (.int .i64 3808858755))), none, none⟩,
  ⟨some 0, .p (.mv (.tmp 2)), none, none⟩])
  (.ret))
noncomputable def e_law06_works (k : Nat) (D : CallF) : Ent := entOf 9 [] [(0, .b)] (law06_works k D)
theorem q_law06_works : (Try.f9.body).bind (rcodeOf Try.prog 0 Try.f9.ntmps) = some (strip r_law06_works) := by kernel_rfl
theorem t_law06_works (k : Nat) (D : CallF) : curF [] (fun args h => denF (C_law06_works k D) k r_law06_works [(0, .b)] [none] args h) = law06_works k D := by kernel_rfl
theorem ok_law06_works {D : CallF} (hD : CSound Try.prog 0 D) (k : Nat) : EntOk Try.prog 0 (e_law06_works k D) :=
  entOf_ok2 (mkC_sound hD (EntsOk.more (ok_shard_Crc hD k) (EntsOk.none))) Try.func9 rfl q_law06_works rfl (t_law06_works k D)
end Gb
namespace Gb
open Go Gx Go.Proofs
set_option maxRecDepth 100000
noncomputable def C_sha_IsId (_k : Nat) (D : CallF) : CallF := mkC D []
noncomputable def sha_IsId (_k : Nat) (_D : CallF) (s_0 : ByteArray) (h : AHeap) : Option ((Bool) × AHeap) :=
  some (((s_0.size : Int) == 32), h)
def r_sha_IsId : RCode := .seq (.region [⟨some 2, .p (.mv (.const (.bool false))), none, none⟩])
  (.seq (.region [⟨some 3, .p (.mv (.tmp 0)), none, none⟩,
  ⟨some 4, .p (.lenS (.tmp 3)), none, none⟩,
  ⟨some 5, .p (.bin .eql (.tmp 4) (.const (.int .i64 32))), none, none⟩,
  ⟨some 2, .p (.mv (.tmp 5)), none, none⟩])
  (.ret))
noncomputable def e_sha_IsId (k : Nat) (D : CallF) : Ent := entOf 43 [(0, .s)] [(2, .b)] (sha_IsId k D)
theorem q_sha_IsId : (Try.f43.body).bind (rcodeOf Try.prog 0 Try.f43.ntmps) = some (strip r_sha_IsId) := by kernel_rfl
theorem t_sha_IsId (k : Nat) (D : CallF) : curF [(0, .s)] (fun args h => denF (C_sha_IsId k D) k r_sha_IsId [(2, .b)] [none] args h) = sha_IsId k D := by kernel_rfl
theorem ok_sha_IsId {D : CallF} (hD : CSound Try.prog 0 D) (k : Nat) : EntOk Try.prog 0 (e_sha_IsId k D) :=
  entOf_ok2 (mkC_sound hD (EntsOk.none)) Try.func43 rfl q_sha_IsId rfl (t_sha_IsId k D)
end Gb
namespace Gb
open Go Gx Go.Proofs
set_option maxRecDepth 100000
noncomputable def C_shard_Check (k : Nat) (D : CallF) : CallF := mkC D [e_sha_IsId k D]
noncomputable def shard_Check (k : Nat) (D : CallF) (x_0 : Int × Int × Int × Int × ByteArray × ByteArray) (h : AHeap) : Option ((Int) × AHeap) :=
  let h1 := AHeap.new h (.cells [.int .i64 x_0.1, .int .i64 x_0.2.1, .int .i64 x_0.2.2.1, .int .i64 x_0.2.2.2.1, .string x_0.2.2.2.2.1, .string x_0.2.2.2.2.2] 23 true 0)
  joinK (fun (h2 : AHeap) =>
  some (60, h2)) fun j3 =>
  joinK (fun (x4 : Option Addr) (y5 : Bool) (h6 : AHeap) =>
  (if y5 = true then
  j3 h6
  else
  joinK (fun (x8 : Option Addr) (y9 : Bool) (h10 : AHeap) =>
  (if y9 = true then
  j3 h10
  else
  joinK (fun (x12 : Option Addr) (y13 : Bool) (h14 : AHeap) =>
  (if y13 = true then
  j3 h14
  else
  (x12).bind fun p16 =>
  (ldI .i64 (⟨p16.block, p16.off + 3, none⟩ : Addr) h14).bind fun x17 =>
  (x12).bind fun p18 =>
  (ldI .i64 (⟨p18.block, p18.off + 0, none⟩ : Addr) h14).bind fun x19 =>
  (x12).bind fun p20 =>
  (ldI .i64 (⟨p20.block, p20.off + 0, none⟩ : Addr) h14).bind fun x21 =>
  (if x21 = 0 then none else
  let t22 : Int := (IntKind.wrap .i64 (Int.tdiv (IntKind.wrap .i64 ((IntKind.wrap .i64 (x17 + x19)) - 1)) x21))
  (x12).bind fun p23 =>
  (ldS (⟨p23.block, p23.off + 5, none⟩ : Addr) h14).bind fun x24 =>
  (if ((x24.size : Int) != t22) = true then
  some (60, h14)
  else
  some (0, h14))))) fun j15 =>
  (x8).bind fun p25 =>
  (ldI .i64 (⟨p25.block, p25.off + 3, none⟩ : Addr) h10).bind fun x26 =>
  (if (decide (x26 < 0)) = true then
  j15 x8 true h10
  else
  (x8).bind fun p27 =>
  (ldI .i64 (⟨p27.block, p27.off + 3, none⟩ : Addr) h10).bind fun x28 =>
  (if (decide (x28 > 65536)) = true then
  j15 x8 true h10
  else
  (x8).bind fun p29 =>
  (ldS (⟨p29.block, p29.off + 4, none⟩ : Addr) h10).bind fun x30 =>
  (sha_IsId k D x30 h10).bind fun r31 =>
  j15 x8 (!r31.1) r31.2)))) fun j11 =>
  (x4).bind fun p32 =>
  (ldI .i64 (⟨p32.block, p32.off + 2, none⟩ : Addr) h6).bind fun x33 =>
  (if (decide (x33 < 0)) = true then
  j11 x4 true h6
  else
  (x4).bind fun p34 =>
  (ldI .i64 (⟨p34.block, p34.off + 2, none⟩ : Addr) h6).bind fun x35 =>
  (x4).bind fun p36 =>
  (ldI .i64 (⟨p36.block, p36.off + 0, none⟩ : Addr) h6).bind fun x37 =>
  (x4).bind fun p38 =>
  (ldI .i64 (⟨p38.block, p38.off + 1, none⟩ : Addr) h6).bind fun x39 =>
  j11 x4 (decide (x35 ≥ (IntKind.wrap .i64 (x37 + x39)))) h6))) fun j7 =>
  (ldI .i64 (⟨h.next, 0, none⟩ : Addr) h1).bind fun x40 =>
  (if (decide (x40 < 1)) = true then
  j7 (some (⟨h.next, 0, none⟩ : Addr)) true h1
  else
  (ldI .i64 (⟨h.next, 1, none⟩ : Addr) h1).bind fun x41 =>
  (if (decide (x41 < 0)) = true then
  j7 (some (⟨h.next, 0, none⟩ : Addr)) true h1
  else
  (ldI .i64 (⟨h.next, 0, none⟩ : Addr) h1).bind fun x42 =>
  (if (decide (x42 > 255)) = true then
  j7 (some (⟨h.next, 0, none⟩ : Addr)) true h1
  else
  (ldI .i64 (⟨h.next, 1, none⟩ : Addr) h1).bind fun x43 =>
  (ldI .i64 (⟨h.next, 0, none⟩ : Addr) h1).bind fun x44 =>
  j7 (some (⟨h.next, 0, none⟩ : Addr)) (decide (x43 > (IntKind.wrap .i64 (255 - x44)))) h1)))
def r_shard_Check : RCode := .seq (.region [⟨some 1, .a (.box 23 (.tmp 0)), none, none⟩,
  ⟨some 2, .p (.mv (.const (.int .i64 0))), none, none⟩])
  (.seq (.region [⟨some 3, .p (.mv (.const (.int .i64 0))), none, none⟩])
  (.seq (.block 0 (.seq (.block 4 (.seq (.join [] (.block 3 (.block 2 (.block 1 (.seq (.seq (.seq (.join [(1, .p), (4, .b)] (.region [⟨some 5, .p (.fieldAddr 0 (.tmp 1)), none, none⟩,
  ⟨some 6, .l (.load (.i .i64) (.tmp 5)), none, none⟩,
  ⟨some 7, .p (.bin .lss (.tmp 6) (.const (.int .i64 1))), none, none⟩,
  ⟨some 8, .p (.mv (.tmp 7)), none, none⟩,
  ⟨some 9, .p (.fieldAddr 1 (.tmp 1)), (some (8, false)), none⟩,
  ⟨some 10, .l (.load (.i .i64) (.tmp 9)), (some (8, false)), none⟩,
  ⟨some 11, .p (.bin .lss (.tmp 10) (.const (.int .i64 0))), (some (8, false)), none⟩,
  ⟨some 12, .p (.pick (.tmp 8) (.const (.bool true)) (.tmp 11)), none, none⟩,
  ⟨some 13, .p (.mv (.tmp 12)), none, none⟩,
  ⟨some 14, .p (.fieldAddr 0 (.tmp 1)), (some (13, false)), none⟩,
  ⟨some 15, .l (.load (.i .i64) (.tmp 14)), (some (13, false)), none⟩,
  ⟨some 16, .p (.bin .gtr (.tmp 15) (.const (.int .i64 255))), (some (13, false)), none⟩,
  ⟨some 17, .p (.pick (.tmp 13) (.const (.bool true)) (.tmp 16)), none, none⟩,
  ⟨some 18, .p (.mv (.tmp 17)), none, none⟩,
  ⟨some 19, .p (.fieldAddr 1 (.tmp 1)), (some (18, false)), none⟩,
  ⟨some 20, .l (.load (.i .i64) (.tmp 19)), (some (18, false)), none⟩,
  ⟨some 21, .p (.fieldAddr 0 (.tmp 1)), (some (18, false)), none⟩,
  ⟨some 22, .l (.load (.i .i64) (.tmp 21)), (some (18, false)), none⟩,
  ⟨some 23, .p (.bin .sub (.const (.int .i64 255)) (.tmp 22)), (some (18, false)), none⟩,
  ⟨some 24, .p (.bin .gtr (.tmp 20) (.tmp 23)), (some (18, false)), none⟩,
  ⟨some 25, .p (.pick (.tmp 18) (.const (.bool true)) (.tmp 24)), none, none⟩,
  ⟨some 4, .p (.mv (.tmp 25)), none, none⟩]))
  (.cond (.tmp 4) (.exit 1) (.skip)))
  (.seq (.seq (.join [(1, .p), (26, .b)] (.region [⟨some 27, .p (.fieldAddr 2 (.tmp 1)), none, none⟩,
  ⟨some 28, .l (.load (.i .i64) (.tmp 27)), none, none⟩,
  ⟨some 29, .p (.bin .lss (.tmp 28) (.const (.int .i64 0))), none, none⟩,
  ⟨some 30, .p (.mv (.tmp 29)), none, none⟩,
  ⟨some 31, .p (.fieldAddr 2 (.tmp 1)), (some (30, false)), none⟩,
  ⟨some 32, .l (.load (.i .i64) (.tmp 31)), (some (30, false)), none⟩,
  ⟨some 33, .p (.fieldAddr 0 (.tmp 1)), (some (30, false)), none⟩,
  ⟨some 34, .l (.load (.i .i64) (.tmp 33)), (some (30, false)), none⟩,
  ⟨some 35, .p (.fieldAddr 1 (.tmp 1)), (some (30, false)), none⟩,
  ⟨some 36, .l (.load (.i .i64) (.tmp 35)), (some (30, false)), none⟩,
  ⟨some 37, .p (.bin .add (.tmp 34) (.tmp 36)), (some (30, false)), none⟩,
  ⟨some 38, .p (.bin .geq (.tmp 32) (.tmp 37)), (some (30, false)), none⟩,
  ⟨some 39, .p (.pick (.tmp 30) (.const (.bool true)) (.tmp 38)), none, none⟩,
  ⟨some 26, .p (.mv (.tmp 39)), none, none⟩]))
  (.cond (.tmp 26) (.exit 2) (.skip)))
  (.seq (.join [(1, .p), (40, .b)] (.region [⟨some 41, .p (.fieldAddr 3 (.tmp 1)), none, none⟩,
  ⟨some 42, .l (.load (.i .i64) (.tmp 41)), none, none⟩,
  ⟨some 43, .p (.bin .lss (.tmp 42) (.const (.int .i64 0))), none, none⟩,
  ⟨some 44, .p (.mv (.tmp 43)), none, none⟩,
  ⟨some 45, .p (.fieldAddr 3 (.tmp 1)), (some (44, false)), none⟩,
  ⟨some 46, .l (.load (.i .i64) (.tmp 45)), (some (44, false)), none⟩,
  ⟨some 47, .p (.bin .gtr (.tmp 46) (.const (.int .i64 65536))), (some (44, false)), none⟩,
  ⟨some 48, .p (.pick (.tmp 44) (.const (.bool true)) (.tmp 47)), none, none⟩,
  ⟨some 49, .p (.mv (.tmp 48)), none, none⟩,
  ⟨some 50, .p (.fieldAddr 4 (.tmp 1)), (some (49, false)), none⟩,
  ⟨some 51, .l (.load (.s) (.tmp 50)), (some (49, false)), none⟩,
  ⟨some 52, .e (.call (.func 43) [.tmp 51]), (some (49, false)), none⟩,
  ⟨some 53, .p (.un .not (.tmp 52)), (some (49, false)), none⟩,
  ⟨some 54, .p (.pick (.tmp 49) (.const (.bool true)) (.tmp 53)), none, none⟩,
  ⟨some 40, .p (.mv (.tmp 54)), none, none⟩]))
  (.cond (.tmp 40) (.exit 3) (.skip)))))
  (.exit 4))))))
  (.seq (.seq (.region [⟨some 2, .p (.mv (.const (.int .i64 60))), none, none⟩])
  (.ret))
  (.exit 0))))
  (.seq (.region [⟨some 55, .p (.fieldAddr 3 (.tmp 1)), none, none⟩,
  ⟨some 56, .l (.load (.i .i64) (.tmp 55)), none, none⟩,
  ⟨some 57, .p (.fieldAddr 0 (.tmp 1)), none, none⟩,
  ⟨some 58, .l (.load (.i .i64) (.tmp 57)), none, none⟩,
  ⟨some 59, .p (.bin .add (.tmp 56) (.tmp 58)), none, none⟩,
  ⟨some 60, .p (.bin .sub (.tmp 59) (.const (.int .i64 1))), none, none⟩,
  ⟨some 61, .p (.fieldAddr 0 (.tmp 1)), none, none⟩,
  ⟨some 62, .l (.load (.i .i64) (.tmp 61)), none, none⟩,
  ⟨some 63, .p (.bin .quo (.tmp 60) (.tmp 62)), none, none⟩,
  ⟨some 3, .p (.mv (.tmp 63)), none, none⟩])
  (.exit 0))))
  (.seq (.seq (.region [⟨some 64, .p (.fieldAddr 5 (.tmp 1)), none, none⟩,
  ⟨some 65, .l (.load (.s) (.tmp 64)), none, none⟩,
  ⟨some 66, .p (.lenS (.tmp 65)), none, none⟩,
  ⟨some 67, .p (.mv (.tmp 3)), none, none⟩,
  ⟨some 68, .p (.bin .neq (.tmp 66) (.tmp 67)), none, none⟩])
  (.cond (.tmp 68) (.seq (.region [⟨some 2, .p (.mv (.const (.int .i64 60))), none, none⟩])
  (.ret)) (.skip)))
  (.seq (.region [⟨some 2, .p (.mv (.const (.int .i64 0))), none, none⟩])
  (.ret)))))
noncomputable def e_shard_Check (k : Nat) (D : CallF) : Ent := entOf 15 [(0, .st [.i .i64, .i .i64, .i .i64, .i .i64, .s, .s])] [(2, .i .i64)] (shard_Check k D)
theorem q_shard_Check : (Try.f15.body).bind (rcodeOf Try.prog 0 Try.f15.ntmps) = some (strip r_shard_Check) := by kernel_rfl
theorem t_shard_Check (k : Nat) (D : CallF) : curF [(0, .st [.i .i64, .i .i64, .i .i64, .i .i64, .s, .s])] (fun args h => denF (C_shard_Check k D) k r_shard_Check [(2, .i .i64)] [none] args h) = shard_Check k D := by kernel_rfl
theorem ok_shard_Check {D : CallF} (hD : CSound Try.prog 0 D) (k : Nat) : EntOk Try.prog 0 (e_shard_Check k D) :=
  entOf_ok2 (mkC_sound hD (EntsOk.more (ok_sha_IsId hD k) (EntsOk.none))) Try.func15 rfl q_shard_Check rfl (t_shard_Check k D)
end Gb
namespace Gb
open Go Gx Go.Proofs
set_option maxRecDepth 100000
noncomputable def C_num_Fixed (_k : Nat) (D : CallF) : CallF := mkC D []
noncomputable def num_Fixed_l0b (_k : Nat) (_D : CallF) (j11 : Int → Int → Slc → AHeap → Option ((ByteArray × Int) × AHeap)) (rec24 : Int → Int → Slc → Int → Int → AHeap → Option ((ByteArray × Int) × AHeap)) (n18 : Int) (bytes19 : Int) (b20 : Slc) (y21 : Int) (y22 : Int) (h23 : AHeap) : Option ((ByteArray × Int) × AHeap) :=
  (if (decide (y22 < y21)) = true then
  let t25 : Int := (IntKind.wrap .i64 ((IntKind.wrap .i64 (bytes19 - 1)) - y22))
  (if 0 ≤ (IntKind.wrap .i64 (8 * y22)) then
  let t26 : Int := (Int.fdiv n18 (2 ^ (min ((IntKind.wrap .i64 (8 * y22))).toNat (IntKind.bits .i64))))
  (Gx.idxL 1 b20 t25).bind fun q27 =>
  (st1 q27 (.int .u8 (IntKind.wrap .u8 t26)) h23).bind fun h28 =>
  rec24 n18 bytes19 b20 y21 (IntKind.wrap .i64 (y22 + 1)) h28
  else none)
  else
  j11 n18 bytes19 b20 h23)
noncomputable def num_Fixed_l0 (k : Nat) (D : CallF) (j11 : Int → Int → Slc → AHeap → Option ((ByteArray × Int) × AHeap)) : Int → Int → Slc → Int → Int → AHeap → Option ((ByteArray × Int) × AHeap) :=
  iterK (α := Int → Int → Slc → Int → Int → AHeap → Option ((ByteArray × Int) × AHeap)) (fun _ _ _ _ _ _ => none) k (num_Fixed_l0b k D j11)
noncomputable def num_Fixed (k : Nat) (D : CallF) (n_0 : Int) (bytes_1 : Int) (h : AHeap) : Option ((ByteArray × Int) × AHeap) :=
  joinK (fun (n1 : Int) (bytes2 : Int) (y3 : Bool) (h4 : AHeap) =>
  (if y3 = true then
  some (((⟨#[]⟩ : ByteArray), 1), h4)
  else
  (if 0 ≤ bytes2 ∧ bytes2 ≤ bytes2 ∧ bytes2 ≤ 281474976710656 ∧ 1 * bytes2 ≤ 281474976710656 then
  let h6 := AHeap.new h4 (.cells (zerosL (bytes2).toNat [.int .u8 0]) 5 true 0)
  joinK (fun (n7 : Int) (bytes8 : Int) (b9 : Slc) (h10 : AHeap) =>
  joinK (fun (b12 : Slc) (y13 : Bool) (h14 : AHeap) =>
  (if y13 = true then
  some (((⟨#[]⟩ : ByteArray), 1), h14)
  else
  (bytesOf h14 b12).bind fun s16 =>
  some ((s16, 0), h14))) fun j15 =>
  (if (decide (bytes8 < 8)) = true then
  (if 0 ≤ (IntKind.wrap .i64 (8 * bytes8)) then
  let t17 : Int := (Int.fdiv n7 (2 ^ (min ((IntKind.wrap .i64 (8 * bytes8))).toNat (IntKind.bits .i64))))
  j15 b9 (decide (t17 > 0)) h10
  else none)
  else
  j15 b9 false h10)) fun j11 =>
  num_Fixed_l0 k D j11 n1 bytes2 (⟨(some ⟨h4.next, 0, some 0⟩), (bytes2).toNat, (bytes2).toNat⟩ : Slc) ((bytes2).toNat : Int) 0 h6
  else none))) fun j5 =>
  (if (decide (bytes_1 < 1)) = true then
  j5 n_0 bytes_1 true h
  else
  (if (decide (bytes_1 > 8)) = true then
  j5 n_0 bytes_1 true h
  else
  j5 n_0 bytes_1 (decide (n_0 < 0)) h))
def r_num_Fixed : RCode := .seq (.region [⟨some 4, .p (.mv (.const (.string ⟨#[]⟩))), none, none⟩,
  ⟨some 5, .p (.mv (.const (.int .i64 0))), none, none⟩])
  (.seq (.seq (.join [(0, .i .i64), (1, .i .i64), (17, .b)] (.region [⟨some 8, .p (.mv (.tmp 1)), none, none⟩,
  ⟨some 9, .p (.bin .lss (.tmp 8) (.const (.int .i64 1))), none, none⟩,
  ⟨some 10, .p (.mv (.tmp 9)), none, none⟩,
  ⟨some 11, .p (.mv (.tmp 1)), (some (10, false)), none⟩,
  ⟨some 12, .p (.bin .gtr (.tmp 11) (.const (.int .i64 8))), (some (10, false)), none⟩,
  ⟨some 13, .p (.pick (.tmp 10) (.const (.bool true)) (.tmp 12)), none, none⟩,
  ⟨some 14, .p (.mv (.tmp 13)), none, none⟩,
  ⟨some 15, .p (.mv (.tmp 0)), (some (14, false)), none⟩,
  ⟨some 16, .p (.bin .lss (.tmp 15) (.const (.int .i64 0))), (some (14, false)), none⟩,
  ⟨some 17, .p (.pick (.tmp 14) (.const (.bool true)) (.tmp 16)), none, none⟩]))
  (.cond (.tmp 17) (.seq (.region [⟨some 4, .p (.mv (.const (.string ⟨#[]⟩))), none, none⟩,
  ⟨some 5, .p (.mv (.const (.int .i64 1))), none, none⟩])
  (.ret)) (.skip)))
  (.seq (.region [⟨some 18, .p (.mv (.tmp 1)), none, none⟩,
  ⟨some 19, .a (.mkSlice 5 1 [.int .u8 0] (.tmp 18) (.tmp 18)), none, none⟩,
  ⟨some 6, .p (.mv (.tmp 19)), none, none⟩])
  (.seq (.join [(0, .i .i64), (1, .i .i64), (6, .l)] (.seq (.region [⟨some 20, .p (.mv (.tmp 6)), none, none⟩,
  ⟨some 21, .p (.lenL (.tmp 20)), none, none⟩,
  ⟨some 22, .p (.mv (.const (.int .i64 0))), none, none⟩])
  (.block 0 (.loop [(0, .i .i64), (1, .i .i64), (6, .l), (21, .i .i64), (22, .i .i64)] (.seq (.region [⟨some 23, .p (.bin .lss (.tmp 22) (.tmp 21)), none, none⟩])
  (.seq (.cond (.tmp 23) (.skip) (.exit 0))
  (.seq (.block 1 (.seq (.region [⟨some 24, .p (.mv (.tmp 22)), none, none⟩,
  ⟨some 7, .p (.mv (.tmp 24)), none, none⟩])
  (.region [⟨some 25, .p (.mv (.tmp 6)), none, none⟩,
  ⟨some 26, .p (.mv (.tmp 1)), none, none⟩,
  ⟨some 27, .p (.bin .sub (.tmp 26) (.const (.int .i64 1))), none, none⟩,
  ⟨some 28, .p (.mv (.tmp 7)), none, none⟩,
  ⟨some 29, .p (.bin .sub (.tmp 27) (.tmp 28)), none, none⟩,
  ⟨some 30, .p (.mv (.tmp 0)), none, none⟩,
  ⟨some 31, .p (.mv (.tmp 7)), none, none⟩,
  ⟨some 32, .p (.bin .mul (.const (.int .i64 8)) (.tmp 31)), none, none⟩,
  ⟨some 33, .p (.bin .shr (.tmp 30) (.tmp 32)), none, none⟩,
  ⟨some 34, .p (.convI .u8 (.tmp 33)), none, none⟩,
  ⟨some 35, .p (.idxL 1 (.tmp 25) (.tmp 29)), none, none⟩,
  ⟨none, .e (.store none (.tmp 35) (.tmp 34)), none, none⟩])))
  (.region [⟨some 36, .p (.bin .add (.tmp 22) (.const (.int .i64 1))), none, none⟩,
  ⟨some 22, .p (.mv (.tmp 36)), none, none⟩]))))))))
  (.seq (.seq (.join [(6, .l), (45, .b)] (.region [⟨some 37, .p (.mv (.tmp 1)), none, none⟩,
  ⟨some 38, .p (.bin .lss (.tmp 37) (.const (.int .i64 8))), none, none⟩,
  ⟨some 39, .p (.mv (.tmp 38)), none, none⟩,
  ⟨some 40, .p (.mv (.tmp 0)), (some (39, true)), none⟩,
  ⟨some 41, .p (.mv (.tmp 1)), (some (39, true)), none⟩,
  ⟨some 42, .p (.bin .mul (.const (.int .i64 8)) (.tmp 41)), (some (39, true)), none⟩,
  ⟨some 43, .p (.bin .shr (.tmp 40) (.tmp 42)), (some (39, true)), none⟩,
  ⟨some 44, .p (.bin .gtr (.tmp 43) (.const (.int .i64 0))), (some (39, true)), none⟩,
  ⟨some 45, .p (.pick (.tmp 39) (.tmp 44) (.const (.bool false))), none, none⟩]))
  (.cond (.tmp 45) (.seq (.region [⟨some 4, .p (.mv (.const (.string ⟨#[]⟩))), none, none⟩,
  ⟨some 5, .p (.mv (.const (.int .i64 1))), none, none⟩])
  (.ret)) (.skip)))
  (.seq (.region [⟨some 46, .p (.mv (.tmp 6)), none, none⟩,
  ⟨some 47, .l (.convBS (.tmp 46)), none, none⟩,
  ⟨some 4, .p (.mv (.tmp 47)), none, none⟩,
  ⟨some 5, .p (.mv (.const (.int .i64 0))), none, none⟩])
  (.ret))))))
noncomputable def e_num_Fixed (k : Nat) (D : CallF) : Ent := entOf 57 [(0, .i .i64), (1, .i .i64)] [(4, .s), (5, .i .i64)] (num_Fixed k D)
theorem q_num_Fixed : (Try.f57.body).bind (rcodeOf Try.prog 0 Try.f57.ntmps) = some (strip r_num_Fixed) := by kernel_rfl
theorem t_num_Fixed (k : Nat) (D : CallF) : curF [(0, .i .i64), (1, .i .i64)] (fun args h => denF (C_num_Fixed k D) k r_num_Fixed [(4, .s), (5, .i .i64)] [none, none] args h) = num_Fixed k D := by kernel_rfl
theorem ok_num_Fixed {D : CallF} (hD : CSound Try.prog 0 D) (k : Nat) : EntOk Try.prog 0 (e_num_Fixed k D) :=
  entOf_ok2 (mkC_sound hD (EntsOk.none)) Try.func57 rfl q_num_Fixed rfl (t_num_Fixed k D)
end Gb
namespace Gb
open Go Gx Go.Proofs
set_option maxRecDepth 100000
noncomputable def C_shard_text (k : Nat) (D : CallF) : CallF := mkC D [e_num_Fixed k D, e_shard_Crc k D]
noncomputable def shard_text (k : Nat) (D : CallF) (x_0 : Int × Int × Int × Int × ByteArray × ByteArray) (h : AHeap) : Option ((ByteArray) × AHeap) :=
  let h1 := AHeap.new h (.cells [.int .i64 x_0.1, .int .i64 x_0.2.1, .int .i64 x_0.2.2.1, .int .i64 x_0.2.2.2.1, .string x_0.2.2.2.2.1, .string x_0.2.2.2.2.2] 23 true 0)
  (ldI .i64 (⟨h.next, 3, none⟩ : Addr) h1).bind fun x2 =>
  (num_Fixed k D x2 4 h1).bind fun r3 =>
  (ldI .i64 (⟨h.next, 0, none⟩ : Addr) r3.2).bind fun x4 =>
  (ldI .i64 (⟨h.next, 1, none⟩ : Addr) r3.2).bind fun x5 =>
  (ldI .i64 (⟨h.next, 2, none⟩ : Addr) r3.2).bind fun x6 =>
  let h7 := AHeap.new r3.2 (.cells [.int .u8 (IntKind.wrap .u8 x4), .int .u8 (IntKind.wrap .u8 x5), .int .u8 (IntKind.wrap .u8 x6)] 5 true 0)
  (bytesOf h7 (⟨(some ⟨r3.2.next, 0, some 0⟩), 3, 3⟩ : Slc)).bind fun s8 =>
  (if (⟨#[71, 82, 84, 1]⟩ : ByteArray).size + s8.size ≤ 9223372036854775807 then
  (if ((⟨#[71, 82, 84, 1]⟩ : ByteArray) ++ s8).size + r3.1.1.size ≤ 9223372036854775807 then
  (ldS (⟨h.next, 4, none⟩ : Addr) h7).bind fun x9 =>
  (if (((⟨#[71, 82, 84, 1]⟩ : ByteArray) ++ s8) ++ r3.1.1).size + x9.size ≤ 9223372036854775807 then
  (ldS (⟨h.next, 5, none⟩ : Addr) h7).bind fun x10 =>
  (if ((((⟨#[71, 82, 84, 1]⟩ : ByteArray) ++ s8) ++ r3.1.1) ++ x9).size + x10.size ≤ 9223372036854775807 then
  let s11 : ByteArray := (((((⟨#[71, 82, 84, 1]⟩ : ByteArray) ++ s8) ++ r3.1.1) ++ x9) ++ x10)
  (shard_Crc k D s11 h7).bind fun r12 =>
  let h13 := AHeap.new r12.2 (.cells [.int .u8 (IntKind.wrap .u8 r12.1), .int .u8 (IntKind.wrap .u8 (Int.fdiv r12.1 256)), .int .u8 (IntKind.wrap .u8 (Int.fdiv r12.1 65536)), .int .u8 (IntKind.wrap .u8 (Int.fdiv r12.1 16777216))] 5 true 0)
  (bytesOf h13 (⟨(some ⟨r12.2.next, 0, some 0⟩), 4, 4⟩ : Slc)).bind fun s14 =>
  (if s11.size + s14.size ≤ 9223372036854775807 then
  some ((s11 ++ s14), h13)
  else none)
  else none)
  else none)
  else none)
  else none)
def r_shard_text : RCode := .seq (.region [⟨some 1, .a (.box 23 (.tmp 0)), none, none⟩,
  ⟨some 2, .p (.mv (.const (.string ⟨#[]⟩))), none, none⟩])
  (.seq (.region [⟨some 8, .p (.fieldAddr 3 (.tmp 1)), none, none⟩,
  ⟨some 9, .l (.load (.i .i64) (.tmp 8)), none, none⟩,
  ⟨some 10, .e (.call (.func 57) [.tmp 9, .const (.int .i64 4)]), none, none⟩,
  ⟨some 7, .p (.mv (.tmp 10)), none, none⟩,
  ⟨some 11, .p (.extract (.tmp 7) 0), none, none⟩,
  ⟨some 12, .p (.extract (.tmp 7) 1), none, none⟩,
  ⟨some 3, .p (.mv (.tmp 11)), none, none⟩,
  ⟨some 4, .p (.mv (.tmp 12)), none, none⟩])
  (.seq (.region [⟨some 13, .p (.fieldAddr 0 (.tmp 1)), none, none⟩,
  ⟨some 14, .l (.load (.i .i64) (.tmp 13)), none, none⟩,
  ⟨some 15, .p (.convI .u8 (.tmp 14)), none, none⟩,
  ⟨some 16, .p (.fieldAddr 1 (.tmp 1)), none, none⟩,
  ⟨some 17, .l (.load (.i .i64) (.tmp 16)), none, none⟩,
  ⟨some 18, .p (.convI .u8 (.tmp 17)), none, none⟩,
  ⟨some 19, .p (.fieldAddr 2 (.tmp 1)), none, none⟩,
  ⟨some 20, .l (.load (.i .i64) (.tmp 19)), none, none⟩,
  ⟨some 21, .p (.convI .u8 (.tmp 20)), none, none⟩,
  ⟨some 22, .a (.buildSlice 5 3 (zerosL 3 [.int .u8 0]) [(0, 1, .tmp 15), (1, 1, .tmp 18), (2, 1, .tmp 21)]), none, none⟩,
  ⟨some 23, .l (.convBS (.tmp 22)), none, none⟩,
  ⟨some 24, .p (.bin .add (.const (.string ⟨#[71, 82, 84, 1]⟩)) (.tmp 23)), none, none⟩,
  ⟨some 25, .p (.mv (.tmp 3)), none, none⟩,
  ⟨some 26, .p (.bin .add (.tmp 24) (.tmp 25)), none, none⟩,
  ⟨some 27, .p (.fieldAddr 4 (.tmp 1)), none, none⟩,
  ⟨some 28, .l (.load (.s) (.tmp 27)), none, none⟩,
  ⟨some 29, .p (.bin .add (.tmp 26) (.tmp 28)), none, none⟩,
  ⟨some 30, .p (.fieldAddr 5 (.tmp 1)), none, none⟩,
  ⟨some 31, .l (.load (.s) (.tmp 30)), none, none⟩,
  ⟨some 32, .p (.bin .add (.tmp 29) (.tmp 31)), none, none⟩,
  ⟨some 5, .p (.mv (.tmp 32)), none, none⟩])
  (.seq (.region [⟨some 33, .p (.mv (.tmp 5)), none, none⟩,
  ⟨some 34, .e (.call (.func 18) [.tmp 33]), none, none⟩,
  ⟨some 6, .p (.mv (.tmp 34)), none, none⟩])
  (.seq (.region [⟨some 35, .p (.mv (.tmp 5)), none, none⟩,
  ⟨some 36, .p (.mv (.tmp 6)), none, none⟩,
  ⟨some 37, .p (.convI .u8 (.tmp 36)), none, none⟩,
  ⟨some 38, .p (.mv (.tmp 6)), none, none⟩,
  ⟨some 39, .p (.bin .shr (.tmp 38) (.const (.int .u64 8))), none, none⟩,
  ⟨some 40, .p (.convI .u8 (.tmp 39)), none, none⟩,
  ⟨some 41, .p (.mv (.tmp 6)), none, none⟩,
  ⟨some 42, .p (.bin .shr (.tmp 41) (.const (.int .u64 16))), none, none⟩,
  ⟨some 43, .p (.convI .u8 (.tmp 42)), none, none⟩,
  ⟨some 44, .p (.mv (.tmp 6)), none, none⟩,
  ⟨some 45, .p (.bin .shr (.tmp 44) (.const (.int .u64 24))), none, none⟩,
  ⟨some 46, .p (.convI .u8 (.tmp 45)), none, none⟩,
  ⟨some 47, .a (.buildSlice 5 4 (zerosL 4 [.int .u8 0]) [(0, 1, .tmp 37), (1, 1, .tmp 40), (2, 1, .tmp 43), (3, 1, .tmp 46)]), none, none⟩,
  ⟨some 48, .l (.convBS (.tmp 47)), none, none⟩,
  ⟨some 49, .p (.bin .add (.tmp 35) (.tmp 48)), none, none⟩,
  ⟨some 2, .p (.mv (.tmp 49)), none, none⟩])
  (.ret)))))
noncomputable def e_shard_text (k : Nat) (D : CallF) : Ent := entOf 35 [(0, .st [.i .i64, .i .i64, .i .i64, .i .i64, .s, .s])] [(2, .s)] (shard_text k D)
theorem q_shard_text : (Try.f35.body).bind (rcodeOf Try.prog 0 Try.f35.ntmps) = some (strip r_shard_text) := by kernel_rfl
theorem t_shard_text (k : Nat) (D : CallF) : curF [(0, .st [.i .i64, .i .i64, .i .i64, .i .i64, .s, .s])] (fun args h => denF (C_shard_text k D) k r_shard_text [(2, .s)] [none] args h) = shard_text k D := by kernel_rfl
theorem ok_shard_text {D : CallF} (hD : CSound Try.prog 0 D) (k : Nat) : EntOk Try.prog 0 (e_shard_text k D) :=
  entOf_ok2 (mkC_sound hD (EntsOk.more (ok_num_Fixed hD k) (EntsOk.more (ok_shard_Crc hD k) (EntsOk.none)))) Try.func35 rfl q_shard_text rfl (t_shard_text k D)
end Gb
namespace Gb
open Go Gx Go.Proofs
set_option maxRecDepth 100000
noncomputable def C_shard_Encode (k : Nat) (D : CallF) : CallF := mkC D [e_shard_Check k D, e_shard_text k D]
noncomputable def shard_Encode (k : Nat) (D : CallF) (x_0 : Int × Int × Int × Int × ByteArray × ByteArray) (h : AHeap) : Option ((ByteArray × Int) × AHeap) :=
  let h1 := AHeap.new h (.cells [.int .i64 x_0.1, .int .i64 x_0.2.1, .int .i64 x_0.2.2.1, .int .i64 x_0.2.2.2.1, .string x_0.2.2.2.2.1, .string x_0.2.2.2.2.2] 23 true 0)
  (ldA 6 (⟨h.next, 0, none⟩ : Addr) h1).bind fun l2 =>
  (decC [.i .i64, .i .i64, .i .i64, .i .i64, .s, .s] l2).bind fun x3 =>
  (shard_Check k D (x3.1, x3.2.1, x3.2.2.1, x3.2.2.2.1, x3.2.2.2.2.1, x3.2.2.2.2.2) h1).bind fun r4 =>
  (if (r4.1 != 0) = true then
  some (((⟨#[]⟩ : ByteArray), r4.1), r4.2)
  else
  (ldA 6 (⟨h.next, 0, none⟩ : Addr) r4.2).bind fun l5 =>
  (decC [.i .i64, .i .i64, .i .i64, .i .i64, .s, .s] l5).bind fun x6 =>
  (shard_text k D (x6.1, x6.2.1, x6.2.2.1, x6.2.2.2.1, x6.2.2.2.2.1, x6.2.2.2.2.2) r4.2).bind fun r7 =>
  some ((r7.1, 0), r7.2))
def r_shard_Encode : RCode := .seq (.region [⟨some 1, .a (.box 23 (.tmp 0)), none, none⟩,
  ⟨some 2, .p (.mv (.const (.string ⟨#[]⟩))), none, none⟩,
  ⟨some 3, .p (.mv (.const (.int .i64 0))), none, none⟩])
  (.seq (.seq (.region [⟨some 5, .l (.load (.agg 6) (.tmp 1)), none, some (.st [.i .i64, .i .i64, .i .i64, .i .i64, .s, .s])⟩,
  ⟨some 6, .e (.call (.func 15) [.tmp 5]), none, none⟩,
  ⟨some 4, .p (.mv (.tmp 6)), none, none⟩])
  (.seq (.region [⟨some 7, .p (.mv (.tmp 4)), none, none⟩,
  ⟨some 8, .p (.bin .neq (.tmp 7) (.const (.int .i64 0))), none, none⟩])
  (.cond (.tmp 8) (.seq (.region [⟨some 9, .p (.mv (.tmp 4)), none, none⟩,
  ⟨some 2, .p (.mv (.const (.string ⟨#[]⟩))), none, none⟩,
  ⟨some 3, .p (.mv (.tmp 9)), none, none⟩])
  (.ret)) (.skip))))
  (.seq (.region [⟨some 10, .l (.load (.agg 6) (.tmp 1)), none, some (.st [.i .i64, .i .i64, .i .i64, .i .i64, .s, .s])⟩,
  ⟨some 11, .e (.call (.func 35) [.tmp 10]), none, none⟩,
  ⟨some 2, .p (.mv (.tmp 11)), none, none⟩,
  ⟨some 3, .p (.mv (.const (.int .i64 0))), none, none⟩])
  (.ret)))
noncomputable def e_shard_Encode (k : Nat) (D : CallF) : Ent := entOf 10 [(0, .st [.i .i64, .i .i64, .i .i64, .i .i64, .s, .s])] [(2, .s), (3, .i .i64)] (shard_Encode k D)
theorem q_shard_Encode : (Try.f10.body).bind (rcodeOf Try.prog 0 Try.f10.ntmps) = some (strip r_shard_Encode) := by kernel_rfl
theorem t_shard_Encode (k : Nat) (D : CallF) : curF [(0, .st [.i .i64, .i .i64, .i .i64, .i .i64, .s, .s])] (fun args h => denF (C_shard_Encode k D) k r_shard_Encode [(2, .s), (3, .i .i64)] [none, none] args h) = shard_Encode k D := by kernel_rfl
theorem ok_shard_Encode {D : CallF} (hD : CSound Try.prog 0 D) (k : Nat) : EntOk Try.prog 0 (e_shard_Encode k D) :=
  entOf_ok2 (mkC_sound hD (EntsOk.more (ok_shard_Check hD k) (EntsOk.more (ok_shard_text hD k) (EntsOk.none)))) Try.func10 rfl q_shard_Encode rfl (t_shard_Encode k D)
end Gb
namespace Gb
open Go Gx Go.Proofs
set_option maxRecDepth 100000
end Gb
namespace Gb
open Go Gx Go.Proofs
set_option maxRecDepth 100000
end Gb
namespace Gb
open Go Gx Go.Proofs
set_option maxRecDepth 100000
end Gb
namespace Gb
open Go Gx Go.Proofs
set_option maxRecDepth 100000
end Gb
namespace Gb
open Go Gx Go.Proofs
set_option maxRecDepth 100000
end Gb
namespace Gb
open Go Gx Go.Proofs
set_option maxRecDepth 100000
end Gb
namespace Gb
open Go Gx Go.Proofs
set_option maxRecDepth 100000
end Gb
namespace Gb
open Go Gx Go.Proofs
set_option maxRecDepth 100000
end Gb
namespace Gb
open Go Gx Go.Proofs
set_option maxRecDepth 100000
noncomputable def C_num_Read (_k : Nat) (D : CallF) : CallF := mkC D []
noncomputable def num_Read (_k : Nat) (_D : CallF) (s_0 : ByteArray) (h : AHeap) : Option (((Option Addr)) × AHeap) :=
  let h1 := AHeap.new h (.cells [.string s_0, .int .i64 0] 108 true 0)
  some ((some (⟨h.next, 0, none⟩ : Addr)), h1)
def r_num_Read : RCode := .seq (.region [⟨some 2, .p (.mv (.const (.pointer none))), none, none⟩])
  (.seq (.region [⟨some 3, .p (.mv (.tmp 0)), none, none⟩,
  ⟨some 4, .p (.build [.string ⟨#[]⟩, .int .i64 0] [(0, 1, .tmp 3)]), none, none⟩,
  ⟨some 5, .a (.box 108 (.tmp 4)), none, none⟩,
  ⟨some 2, .p (.mv (.tmp 5)), none, none⟩])
  (.ret))
noncomputable def e_num_Read (k : Nat) (D : CallF) : Ent := entOf 37 [(0, .s)] [(2, .p)] (num_Read k D)
theorem q_num_Read : (Try.f37.body).bind (rcodeOf Try.prog 0 Try.f37.ntmps) = some (strip r_num_Read) := by kernel_rfl
theorem t_num_Read (k : Nat) (D : CallF) : curF [(0, .s)] (fun args h => denF (C_num_Read k D) k r_num_Read [(2, .p)] [none] args h) = num_Read k D := by kernel_rfl
theorem ok_num_Read {D : CallF} (hD : CSound Try.prog 0 D) (k : Nat) : EntOk Try.prog 0 (e_num_Read k D) :=
  entOf_ok2 (mkC_sound hD (EntsOk.none)) Try.func37 rfl q_num_Read rfl (t_num_Read k D)
end Gb
namespace Gb
open Go Gx Go.Proofs
set_option maxRecDepth 100000
noncomputable def C_num_Reader_Fail (_k : Nat) (D : CallF) : CallF := mkC D []
noncomputable def num_Reader_Fail (_k : Nat) (_D : CallF) (r_0 : Option Addr) (e_1 : Int) (h : AHeap) : Option ((Unit) × AHeap) :=
  (r_0).bind fun p1 =>
  (ldI .i64 (⟨p1.block, p1.off + 1, none⟩ : Addr) h).bind fun x2 =>
  (if (x2 == 0) = true then
  (r_0).bind fun p3 =>
  (st1 (⟨p3.block, p3.off + 1, none⟩ : Addr) (.int .i64 e_1) h).bind fun h4 =>
  some ((), h4)
  else
  some ((), h))
def r_num_Reader_Fail : RCode := .seq (.region [⟨some 4, .p (.mv (.tmp 0)), none, none⟩,
  ⟨some 5, .p (.nilP (.tmp 4)), none, none⟩,
  ⟨some 6, .p (.fieldAddr 1 (.tmp 5)), none, none⟩,
  ⟨some 7, .l (.load (.i .i64) (.tmp 6)), none, none⟩,
  ⟨some 8, .p (.bin .eql (.tmp 7) (.const (.int .i64 0))), none, none⟩])
  (.cond (.tmp 8) (.region [⟨some 9, .p (.mv (.tmp 0)), none, none⟩,
  ⟨some 10, .p (.mv (.tmp 1)), none, none⟩,
  ⟨some 11, .p (.nilP (.tmp 9)), none, none⟩,
  ⟨some 12, .p (.fieldAddr 1 (.tmp 11)), none, none⟩,
  ⟨none, .e (.store none (.tmp 12) (.tmp 10)), none, none⟩]) (.skip))
noncomputable def e_num_Reader_Fail (k : Nat) (D : CallF) : Ent := entOf 59 [(0, .p), (1, .i .i64)] [] (num_Reader_Fail k D)
theorem q_num_Reader_Fail : (Try.f59.body).bind (rcodeOf Try.prog 0 Try.f59.ntmps) = some (strip r_num_Reader_Fail) := by kernel_rfl
theorem t_num_Reader_Fail (k : Nat) (D : CallF) : curF [(0, .p), (1, .i .i64)] (fun args h => denF (C_num_Reader_Fail k D) k r_num_Reader_Fail [] [] args h) = num_Reader_Fail k D := by kernel_rfl
theorem ok_num_Reader_Fail {D : CallF} (hD : CSound Try.prog 0 D) (k : Nat) : EntOk Try.prog 0 (e_num_Reader_Fail k D) :=
  entOf_ok2 (mkC_sound hD (EntsOk.none)) Try.func59 rfl q_num_Reader_Fail rfl (t_num_Reader_Fail k D)
end Gb
namespace Gb
open Go Gx Go.Proofs
set_option maxRecDepth 100000
noncomputable def C_num_Reader_Left (_k : Nat) (D : CallF) : CallF := mkC D []
noncomputable def num_Reader_Left (_k : Nat) (_D : CallF) (r_0 : Option Addr) (h : AHeap) : Option ((Int) × AHeap) :=
  (r_0).bind fun p1 =>
  (ldS (⟨p1.block, p1.off + 0, none⟩ : Addr) h).bind fun x2 =>
  some ((x2.size : Int), h)
def r_num_Reader_Left : RCode := .seq (.region [⟨some 2, .p (.mv (.const (.int .i64 0))), none, none⟩])
  (.seq (.region [⟨some 3, .p (.mv (.tmp 0)), none, none⟩,
  ⟨some 4, .p (.nilP (.tmp 3)), none, none⟩,
  ⟨some 5, .p (.fieldAddr 0 (.tmp 4)), none, none⟩,
  ⟨some 6, .l (.load (.s) (.tmp 5)), none, none⟩,
  ⟨some 7, .p (.lenS (.tmp 6)), none, none⟩,
  ⟨some 2, .p (.mv (.tmp 7)), none, none⟩])
  (.ret))
noncomputable def e_num_Reader_Left (k : Nat) (D : CallF) : Ent := entOf 40 [(0, .p)] [(2, .i .i64)] (num_Reader_Left k D)
theorem q_num_Reader_Left : (Try.f40.body).bind (rcodeOf Try.prog 0 Try.f40.ntmps) = some (strip r_num_Reader_Left) := by kernel_rfl
theorem t_num_Reader_Left (k : Nat) (D : CallF) : curF [(0, .p)] (fun args h => denF (C_num_Reader_Left k D) k r_num_Reader_Left [(2, .i .i64)] [none] args h) = num_Reader_Left k D := by kernel_rfl
theorem ok_num_Reader_Left {D : CallF} (hD : CSound Try.prog 0 D) (k : Nat) : EntOk Try.prog 0 (e_num_Reader_Left k D) :=
  entOf_ok2 (mkC_sound hD (EntsOk.none)) Try.func40 rfl q_num_Reader_Left rfl (t_num_Reader_Left k D)
end Gb
namespace Gb
open Go Gx Go.Proofs
set_option maxRecDepth 100000
noncomputable def C_num_Reader_Bytes (k : Nat) (D : CallF) : CallF := mkC D [e_num_Reader_Fail k D, e_num_Reader_Left k D]
noncomputable def num_Reader_Bytes (k : Nat) (D : CallF) (r_0 : Option Addr) (n_1 : Int) (h : AHeap) : Option ((ByteArray) × AHeap) :=
  joinK (fun (r1 : Option Addr) (n2 : Int) (h3 : AHeap) =>
  (r1).bind fun p5 =>
  (ldI .i64 (⟨p5.block, p5.off + 1, none⟩ : Addr) h3).bind fun x6 =>
  (if (x6 != 0) = true then
  some ((⟨#[]⟩ : ByteArray), h3)
  else
  (r1).bind fun p7 =>
  (ldS (⟨p7.block, p7.off + 0, none⟩ : Addr) h3).bind fun x8 =>
  (Gx.subS x8 none (some n2)).bind fun s9 =>
  (r1).bind fun p10 =>
  (ldS (⟨p10.block, p10.off + 0, none⟩ : Addr) h3).bind fun x11 =>
  (Gx.subS x11 (some n2) none).bind fun s12 =>
  (r1).bind fun p13 =>
  (st1 (⟨p13.block, p13.off + 0, none⟩ : Addr) (.string s12) h3).bind fun h14 =>
  some (s9, h14))) fun j4 =>
  (if (decide (n_1 < 0)) = true then
  (num_Reader_Fail k D r_0 1 h).bind fun r15 =>
  j4 r_0 n_1 r15.2
  else
  (num_Reader_Left k D r_0 h).bind fun r16 =>
  (if (decide (n_1 > r16.1)) = true then
  (num_Reader_Fail k D r_0 10 r16.2).bind fun r17 =>
  j4 r_0 n_1 r17.2
  else
  j4 r_0 n_1 r16.2))
def r_num_Reader_Bytes : RCode := .seq (.region [⟨some 4, .p (.mv (.const (.string ⟨#[]⟩))), none, none⟩])
  (.seq (.join [(0, .p), (1, .i .i64)] (.block 0 (.seq (.region [⟨some 7, .p (.mv (.tmp 1)), none, none⟩,
  ⟨some 8, .p (.bin .lss (.tmp 7) (.const (.int .i64 0))), none, none⟩,
  ⟨some 6, .p (.mv (.tmp 8)), none, none⟩])
  (.cond (.tmp 6) (.region [⟨some 9, .p (.mv (.tmp 0)), none, none⟩,
  ⟨some 10, .e (.call (.func 59) [.tmp 9, .const (.int .i64 1)]), none, none⟩]) (.seq (.region [⟨some 12, .p (.mv (.tmp 1)), none, none⟩,
  ⟨some 13, .p (.mv (.tmp 0)), none, none⟩,
  ⟨some 14, .e (.call (.func 40) [.tmp 13]), none, none⟩,
  ⟨some 15, .p (.bin .gtr (.tmp 12) (.tmp 14)), none, none⟩,
  ⟨some 11, .p (.mv (.tmp 15)), none, none⟩])
  (.cond (.tmp 11) (.region [⟨some 16, .p (.mv (.tmp 0)), none, none⟩,
  ⟨some 17, .e (.call (.func 59) [.tmp 16, .const (.int .i64 10)]), none, none⟩]) (.skip)))))))
  (.seq (.seq (.region [⟨some 18, .p (.mv (.tmp 0)), none, none⟩,
  ⟨some 19, .p (.nilP (.tmp 18)), none, none⟩,
  ⟨some 20, .p (.fieldAddr 1 (.tmp 19)), none, none⟩,
  ⟨some 21, .l (.load (.i .i64) (.tmp 20)), none, none⟩,
  ⟨some 22, .p (.bin .neq (.tmp 21) (.const (.int .i64 0))), none, none⟩])
  (.cond (.tmp 22) (.seq (.region [⟨some 4, .p (.mv (.const (.string ⟨#[]⟩))), none, none⟩])
  (.ret)) (.skip)))
  (.seq (.region [⟨some 23, .p (.mv (.tmp 0)), none, none⟩,
  ⟨some 24, .p (.nilP (.tmp 23)), none, none⟩,
  ⟨some 25, .p (.fieldAddr 0 (.tmp 24)), none, none⟩,
  ⟨some 26, .l (.load (.s) (.tmp 25)), none, none⟩,
  ⟨some 27, .p (.mv (.tmp 1)), none, none⟩,
  ⟨some 28, .p (.subS (.tmp 26) none (some (.tmp 27))), none, none⟩,
  ⟨some 5, .p (.mv (.tmp 28)), none, none⟩])
  (.seq (.region [⟨some 29, .p (.mv (.tmp 0)), none, none⟩,
  ⟨some 30, .p (.mv (.tmp 0)), none, none⟩,
  ⟨some 31, .p (.nilP (.tmp 30)), none, none⟩,
  ⟨some 32, .p (.fieldAddr 0 (.tmp 31)), none, none⟩,
  ⟨some 33, .l (.load (.s) (.tmp 32)), none, none⟩,
  ⟨some 34, .p (.mv (.tmp 1)), none, none⟩,
  ⟨some 35, .p (.subS (.tmp 33) (some (.tmp 34)) none), none, none⟩,
  ⟨some 36, .p (.nilP (.tmp 29)), none, none⟩,
  ⟨some 37, .p (.fieldAddr 0 (.tmp 36)), none, none⟩,
  ⟨none, .e (.store none (.tmp 37) (.tmp 35)), none, none⟩])
  (.seq (.region [⟨some 38, .p (.mv (.tmp 5)), none, none⟩,
  ⟨some 4, .p (.mv (.tmp 38)), none, none⟩])
  (.ret))))))
noncomputable def e_num_Reader_Bytes (k : Nat) (D : CallF) : Ent := entOf 38 [(0, .p), (1, .i .i64)] [(4, .s)] (num_Reader_Bytes k D)
theorem q_num_Reader_Bytes : (Try.f38.body).bind (rcodeOf Try.prog 0 Try.f38.ntmps) = some (strip r_num_Reader_Bytes) := by kernel_rfl
theorem t_num_Reader_Bytes (k : Nat) (D : CallF) : curF [(0, .p), (1, .i .i64)] (fun args h => denF (C_num_Reader_Bytes k D) k r_num_Reader_Bytes [(4, .s)] [none] args h) = num_Reader_Bytes k D := by kernel_rfl
theorem ok_num_Reader_Bytes {D : CallF} (hD : CSound Try.prog 0 D) (k : Nat) : EntOk Try.prog 0 (e_num_Reader_Bytes k D) :=
  entOf_ok2 (mkC_sound hD (EntsOk.more (ok_num_Reader_Fail hD k) (EntsOk.more (ok_num_Reader_Left hD k) (EntsOk.none)))) Try.func38 rfl q_num_Reader_Bytes rfl (t_num_Reader_Bytes k D)
end Gb
namespace Gb
open Go Gx Go.Proofs
set_option maxRecDepth 100000
noncomputable def C_num_Reader_Fixed (k : Nat) (D : CallF) : CallF := mkC D [e_num_Reader_Bytes k D, e_num_Reader_Fail k D]
noncomputable def num_Reader_Fixed_l0b (_k : Nat) (_D : CallF) (j7 : Int → AHeap → Option ((Int) × AHeap)) (rec15 : Int → Slc → Int → Int → AHeap → Option ((Int) × AHeap)) (n10 : Int) (y11 : Slc) (y12 : Int) (y13 : Int) (h14 : AHeap) : Option ((Int) × AHeap) :=
  (if (decide (y13 < y12)) = true then
  (Gx.idxL 1 y11 y13).bind fun q16 =>
  (ldI .u8 q16 h14).bind fun x17 =>
  let t18 : Int := (Go.bits .or .i64 (IntKind.wrap .i64 (n10 * 256)) (IntKind.wrap .i64 x17))
  rec15 t18 y11 y12 (IntKind.wrap .i64 (y13 + 1)) h14
  else
  j7 n10 h14)
noncomputable def num_Reader_Fixed_l0 (k : Nat) (D : CallF) (j7 : Int → AHeap → Option ((Int) × AHeap)) : Int → Slc → Int → Int → AHeap → Option ((Int) × AHeap) :=
  iterK (α := Int → Slc → Int → Int → AHeap → Option ((Int) × AHeap)) (fun _ _ _ _ _ => none) k (num_Reader_Fixed_l0b k D j7)
noncomputable def num_Reader_Fixed (k : Nat) (D : CallF) (r_0 : Option Addr) (bytes_1 : Int) (h : AHeap) : Option ((Int) × AHeap) :=
  joinK (fun (r1 : Option Addr) (bytes2 : Int) (h3 : AHeap) =>
  joinK (fun (n5 : Int) (h6 : AHeap) =>
  some (n5, h6)) fun j7 =>
  (num_Reader_Bytes k D r1 bytes2 h3).bind fun r8 =>
  let h9 := AHeap.new r8.2 (.cells (bytesL r8.1) 5 true 0)
  num_Reader_Fixed_l0 k D j7 0 (⟨(some ⟨r8.2.next, 0, some 2⟩), r8.1.size, r8.1.size⟩ : Slc) (r8.1.size : Int) 0 h9) fun j4 =>
  joinK (fun (r19 : Option Addr) (bytes20 : Int) (y21 : Bool) (h22 : AHeap) =>
  (if y21 = true then
  (num_Reader_Fail k D r19 1 h22).bind fun r24 =>
  j4 r19 bytes20 r24.2
  else
  j4 r19 bytes20 h22)) fun j23 =>
  (if (decide (bytes_1 < 1)) = true then
  j23 r_0 bytes_1 true h
  else
  j23 r_0 bytes_1 (decide (bytes_1 > 7)) h)
def r_num_Reader_Fixed : RCode := .seq (.region [⟨some 4, .p (.mv (.const (.int .i64 0))), none, none⟩])
  (.seq (.join [(0, .p), (1, .i .i64)] (.seq (.join [(0, .p), (1, .i .i64), (14, .b)] (.region [⟨some 9, .p (.mv (.tmp 1)), none, none⟩,
  ⟨some 10, .p (.bin .lss (.tmp 9) (.const (.int .i64 1))), none, none⟩,
  ⟨some 11, .p (.mv (.tmp 10)), none, none⟩,
  ⟨some 12, .p (.mv (.tmp 1)), (some (11, false)), none⟩,
  ⟨some 13, .p (.bin .gtr (.tmp 12) (.const (.int .i64 7))), (some (11, false)), none⟩,
  ⟨some 14, .p (.pick (.tmp 11) (.const (.bool true)) (.tmp 13)), none, none⟩]))
  (.cond (.tmp 14) (.region [⟨some 15, .p (.mv (.tmp 0)), none, none⟩,
  ⟨some 16, .e (.call (.func 59) [.tmp 15, .const (.int .i64 1)]), none, none⟩]) (.skip))))
  (.seq (.region [⟨some 17, .p (.mv (.tmp 0)), none, none⟩,
  ⟨some 18, .p (.mkFunc 38 [.tmp 17] []), none, none⟩,
  ⟨some 5, .p (.mv (.tmp 18)), none, none⟩])
  (.seq (.region [⟨some 6, .p (.mv (.const (.int .i64 0))), none, none⟩])
  (.seq (.join [(6, .i .i64)] (.seq (.region [⟨some 19, .p (.mv (.tmp 5)), none, none⟩,
  ⟨some 20, .p (.mv (.tmp 1)), none, none⟩,
  ⟨some 21, .e (.call (.tmp 19) [.tmp 20]), none, some (.s)⟩,
  ⟨some 22, .a (.convSB 5 (.tmp 21)), none, none⟩,
  ⟨some 23, .p (.lenL (.tmp 22)), none, none⟩,
  ⟨some 24, .p (.mv (.const (.int .i64 0))), none, none⟩])
  (.block 0 (.loop [(6, .i .i64), (22, .l), (23, .i .i64), (24, .i .i64)] (.seq (.region [⟨some 25, .p (.bin .lss (.tmp 24) (.tmp 23)), none, none⟩])
  (.seq (.cond (.tmp 25) (.skip) (.exit 0))
  (.seq (.block 1 (.seq (.region [⟨some 26, .p (.idxL 1 (.tmp 22) (.tmp 24)), none, none⟩,
  ⟨some 27, .l (.load (.i .u8) (.tmp 26)), none, none⟩,
  ⟨some 8, .p (.mv (.tmp 27)), none, none⟩])
  (.region [⟨some 28, .p (.mv (.tmp 6)), none, none⟩,
  ⟨some 29, .p (.bin .shl (.tmp 28) (.const (.int .u64 8))), none, none⟩,
  ⟨some 30, .p (.mv (.tmp 8)), none, none⟩,
  ⟨some 31, .p (.convI .i64 (.tmp 30)), none, none⟩,
  ⟨some 32, .p (.bin .or (.tmp 29) (.tmp 31)), none, none⟩,
  ⟨some 6, .p (.mv (.tmp 32)), none, none⟩])))
  (.region [⟨some 33, .p (.bin .add (.tmp 24) (.const (.int .i64 1))), none, none⟩,
  ⟨some 24, .p (.mv (.tmp 33)), none, none⟩]))))))))
  (.seq (.region [⟨some 34, .p (.mv (.tmp 6)), none, none⟩,
  ⟨some 4, .p (.mv (.tmp 34)), none, none⟩])
  (.ret))))))
noncomputable def e_num_Reader_Fixed (k : Nat) (D : CallF) : Ent := entOf 39 [(0, .p), (1, .i .i64)] [(4, .i .i64)] (num_Reader_Fixed k D)
theorem q_num_Reader_Fixed : (Try.f39.body).bind (rcodeOf Try.prog 0 Try.f39.ntmps) = some (strip r_num_Reader_Fixed) := by kernel_rfl
theorem t_num_Reader_Fixed (k : Nat) (D : CallF) : curF [(0, .p), (1, .i .i64)] (fun args h => denF (C_num_Reader_Fixed k D) k r_num_Reader_Fixed [(4, .i .i64)] [none] args h) = num_Reader_Fixed k D := by kernel_rfl
theorem ok_num_Reader_Fixed {D : CallF} (hD : CSound Try.prog 0 D) (k : Nat) : EntOk Try.prog 0 (e_num_Reader_Fixed k D) :=
  entOf_ok2 (mkC_sound hD (EntsOk.more (ok_num_Reader_Bytes hD k) (EntsOk.more (ok_num_Reader_Fail hD k) (EntsOk.none)))) Try.func39 rfl q_num_Reader_Fixed rfl (t_num_Reader_Fixed k D)
end Gb
namespace Gb
open Go Gx Go.Proofs
set_option maxRecDepth 100000
noncomputable def C_num_Reader_Err (_k : Nat) (D : CallF) : CallF := mkC D []
noncomputable def num_Reader_Err (_k : Nat) (_D : CallF) (r_0 : Option Addr) (h : AHeap) : Option ((Int) × AHeap) :=
  (r_0).bind fun p1 =>
  (ldI .i64 (⟨p1.block, p1.off + 1, none⟩ : Addr) h).bind fun x2 =>
  some (x2, h)
def r_num_Reader_Err : RCode := .seq (.region [⟨some 2, .p (.mv (.const (.int .i64 0))), none, none⟩])
  (.seq (.region [⟨some 3, .p (.mv (.tmp 0)), none, none⟩,
  ⟨some 4, .p (.nilP (.tmp 3)), none, none⟩,
  ⟨some 5, .p (.fieldAddr 1 (.tmp 4)), none, none⟩,
  ⟨some 6, .l (.load (.i .i64) (.tmp 5)), none, none⟩,
  ⟨some 2, .p (.mv (.tmp 6)), none, none⟩])
  (.ret))
noncomputable def e_num_Reader_Err (k : Nat) (D : CallF) : Ent := entOf 41 [(0, .p)] [(2, .i .i64)] (num_Reader_Err k D)
theorem q_num_Reader_Err : (Try.f41.body).bind (rcodeOf Try.prog 0 Try.f41.ntmps) = some (strip r_num_Reader_Err) := by kernel_rfl
theorem t_num_Reader_Err (k : Nat) (D : CallF) : curF [(0, .p)] (fun args h => denF (C_num_Reader_Err k D) k r_num_Reader_Err [(2, .i .i64)] [none] args h) = num_Reader_Err k D := by kernel_rfl
theorem ok_num_Reader_Err {D : CallF} (hD : CSound Try.prog 0 D) (k : Nat) : EntOk Try.prog 0 (e_num_Reader_Err k D) :=
  entOf_ok2 (mkC_sound hD (EntsOk.none)) Try.func41 rfl q_num_Reader_Err rfl (t_num_Reader_Err k D)
end Gb
namespace Gb
open Go Gx Go.Proofs
set_option maxRecDepth 100000
noncomputable def C_shard_Decode (k : Nat) (D : CallF) : CallF := mkC D [e_num_Read k D, e_num_Reader_Bytes k D, e_num_Reader_Fixed k D, e_num_Reader_Left k D, e_num_Reader_Err k D, e_shard_Check k D, e_shard_text k D]
noncomputable def shard_Decode (k : Nat) (D : CallF) (s_0 : ByteArray) (h : AHeap) : Option (((Int × Int × Int × Int × ByteArray × ByteArray) × Int) × AHeap) :=
  let h1 := AHeap.new h (.cells [.int .i64 0, .int .i64 0, .int .i64 0, .int .i64 0, .string ⟨#[]⟩, .string ⟨#[]⟩] 23 true 0)
  (num_Read k D s_0 h1).bind fun r2 =>
  (num_Reader_Bytes k D r2.1 4 r2.2).bind fun r3 =>
  (num_Reader_Fixed k D r2.1 1 r3.2).bind fun r4 =>
  (num_Reader_Fixed k D r2.1 1 r4.2).bind fun r5 =>
  (num_Reader_Fixed k D r2.1 1 r5.2).bind fun r6 =>
  (num_Reader_Fixed k D r2.1 4 r6.2).bind fun r7 =>
  (num_Reader_Bytes k D r2.1 32 r7.2).bind fun r8 =>
  let h9 := AHeap.new r8.2 (.cells [.int .i64 0, .int .i64 0, .int .i64 0, .int .i64 0, .string ⟨#[]⟩, .string ⟨#[]⟩] 23 true 0)
  (stL 6 (⟨r8.2.next, 0, none⟩ : Addr) ([.int .i64 r4.1, .int .i64 r5.1, .int .i64 r6.1, .int .i64 r7.1, .string r8.1, .string (⟨#[]⟩ : ByteArray)]) h9).bind fun h10 =>
  (num_Reader_Left k D r2.1 h10).bind fun r11 =>
  (num_Reader_Bytes k D r2.1 (IntKind.wrap .i64 (r11.1 - 4)) r11.2).bind fun r12 =>
  (st1 (⟨r8.2.next, 5, none⟩ : Addr) (.string r12.1) r12.2).bind fun h13 =>
  joinK (fun (y14 : Option Addr) (x15 : Option Addr) (y16 : Bool) (h17 : AHeap) =>
  (if y16 = true then
  (y14).bind fun p19 =>
  (stL 6 p19 ([.int .i64 0, .int .i64 0, .int .i64 0, .int .i64 0, .string (⟨#[]⟩ : ByteArray), .string (⟨#[]⟩ : ByteArray)]) h17).bind fun h20 =>
  (y14).bind fun p21 =>
  (ldA 6 p21 h20).bind fun l22 =>
  (decC [.i .i64, .i .i64, .i .i64, .i .i64, .s, .s] l22).bind fun x23 =>
  some (((x23.1, x23.2.1, x23.2.2.1, x23.2.2.2.1, x23.2.2.2.2.1, x23.2.2.2.2.2), 60), h20)
  else
  (x15).bind fun p24 =>
  (ldA 6 p24 h17).bind fun l25 =>
  (decC [.i .i64, .i .i64, .i .i64, .i .i64, .s, .s] l25).bind fun x26 =>
  (y14).bind fun p27 =>
  (stL 6 p27 ([.int .i64 x26.1, .int .i64 x26.2.1, .int .i64 x26.2.2.1, .int .i64 x26.2.2.2.1, .string x26.2.2.2.2.1, .string x26.2.2.2.2.2]) h17).bind fun h28 =>
  (y14).bind fun p29 =>
  (ldA 6 p29 h28).bind fun l30 =>
  (decC [.i .i64, .i .i64, .i .i64, .i .i64, .s, .s] l30).bind fun x31 =>
  some (((x31.1, x31.2.1, x31.2.2.1, x31.2.2.2.1, x31.2.2.2.2.1, x31.2.2.2.2.2), 0), h28))) fun j18 =>
  (num_Reader_Err k D r2.1 h13).bind fun r32 =>
  (if (r32.1 != 0) = true then
  j18 (some (⟨h.next, 0, none⟩ : Addr)) (some (⟨r8.2.next, 0, none⟩ : Addr)) true r32.2
  else
  (ldA 6 (⟨r8.2.next, 0, none⟩ : Addr) r32.2).bind fun l33 =>
  (decC [.i .i64, .i .i64, .i .i64, .i .i64, .s, .s] l33).bind fun x34 =>
  (shard_Check k D (x34.1, x34.2.1, x34.2.2.1, x34.2.2.2.1, x34.2.2.2.2.1, x34.2.2.2.2.2) r32.2).bind fun r35 =>
  (if (r35.1 != 0) = true then
  j18 (some (⟨h.next, 0, none⟩ : Addr)) (some (⟨r8.2.next, 0, none⟩ : Addr)) true r35.2
  else
  (ldA 6 (⟨r8.2.next, 0, none⟩ : Addr) r35.2).bind fun l36 =>
  (decC [.i .i64, .i .i64, .i .i64, .i .i64, .s, .s] l36).bind fun x37 =>
  (shard_text k D (x37.1, x37.2.1, x37.2.2.1, x37.2.2.2.1, x37.2.2.2.2.1, x37.2.2.2.2.2) r35.2).bind fun r38 =>
  j18 (some (⟨h.next, 0, none⟩ : Addr)) (some (⟨r8.2.next, 0, none⟩ : Addr)) (!(r38.1 == s_0)) r38.2))
def r_shard_Decode : RCode := .seq (.region [⟨some 2, .a (.alloc 23 [.int .i64 0, .int .i64 0, .int .i64 0, .int .i64 0, .string ⟨#[]⟩, .string ⟨#[]⟩]), none, none⟩,
  ⟨some 3, .p (.mv (.const (.int .i64 0))), none, none⟩])
  (.seq (.region [⟨some 6, .p (.mv (.tmp 0)), none, none⟩,
  ⟨some 7, .e (.call (.func 37) [.tmp 6]), none, none⟩,
  ⟨some 4, .p (.mv (.tmp 7)), none, none⟩])
  (.seq (.region [⟨some 8, .p (.mv (.tmp 4)), none, none⟩,
  ⟨some 9, .e (.call (.func 38) [.tmp 8, .const (.int .i64 4)]), none, none⟩])
  (.seq (.region [⟨some 10, .p (.mv (.tmp 4)), none, none⟩,
  ⟨some 11, .e (.call (.func 39) [.tmp 10, .const (.int .i64 1)]), none, none⟩,
  ⟨some 12, .p (.mv (.tmp 4)), none, none⟩,
  ⟨some 13, .e (.call (.func 39) [.tmp 12, .const (.int .i64 1)]), none, none⟩,
  ⟨some 14, .p (.mv (.tmp 4)), none, none⟩,
  ⟨some 15, .e (.call (.func 39) [.tmp 14, .const (.int .i64 1)]), none, none⟩,
  ⟨some 16, .p (.mv (.tmp 4)), none, none⟩,
  ⟨some 17, .e (.call (.func 39) [.tmp 16, .const (.int .i64 4)]), none, none⟩,
  ⟨some 18, .p (.mv (.tmp 4)), none, none⟩,
  ⟨some 19, .e (.call (.func 38) [.tmp 18, .const (.int .i64 32)]), none, none⟩,
  ⟨some 20, .p (.build [.int .i64 0, .int .i64 0, .int .i64 0, .int .i64 0, .string ⟨#[]⟩, .string ⟨#[]⟩] [(0, 1, .tmp 11), (1, 1, .tmp 13), (2, 1, .tmp 15), (3, 1, .tmp 17), (4, 1, .tmp 19)]), none, none⟩,
  ⟨some 5, .a (.alloc 23 [.int .i64 0, .int .i64 0, .int .i64 0, .int .i64 0, .string ⟨#[]⟩, .string ⟨#[]⟩]), none, none⟩,
  ⟨none, .e (.store (some 6) (.tmp 5) (.tmp 20)), none, none⟩])
  (.seq (.region [⟨some 21, .p (.mv (.tmp 4)), none, none⟩,
  ⟨some 22, .p (.mv (.tmp 4)), none, none⟩,
  ⟨some 23, .e (.call (.func 40) [.tmp 22]), none, none⟩,
  ⟨some 24, .p (.bin .sub (.tmp 23) (.const (.int .i64 4))), none, none⟩,
  ⟨some 25, .e (.call (.func 38) [.tmp 21, .tmp 24]), none, none⟩,
  ⟨some 26, .p (.fieldAddr 5 (.tmp 5)), none, none⟩,
  ⟨none, .e (.store none (.tmp 26) (.tmp 25)), none, none⟩])
  (.seq (.seq (.join [(2, .p), (5, .p), (40, .b)] (.region [⟨some 27, .p (.mv (.tmp 4)), none, none⟩,
  ⟨some 28, .e (.call (.func 41) [.tmp 27]), none, none⟩,
  ⟨some 29, .p (.bin .neq (.tmp 28) (.const (.int .i64 0))), none, none⟩,
  ⟨some 30, .p (.mv (.tmp 29)), none, none⟩,
  ⟨some 31, .l (.load (.agg 6) (.tmp 5)), (some (30, false)), some (.st [.i .i64, .i .i64, .i .i64, .i .i64, .s, .s])⟩,
  ⟨some 32, .e (.call (.func 15) [.tmp 31]), (some (30, false)), none⟩,
  ⟨some 33, .p (.bin .neq (.tmp 32) (.const (.int .i64 0))), (some (30, false)), none⟩,
  ⟨some 34, .p (.pick (.tmp 30) (.const (.bool true)) (.tmp 33)), none, none⟩,
  ⟨some 35, .p (.mv (.tmp 34)), none, none⟩,
  ⟨some 36, .l (.load (.agg 6) (.tmp 5)), (some (35, false)), some (.st [.i .i64, .i .i64, .i .i64, .i .i64, .s, .s])⟩,
  ⟨some 37, .e (.call (.func 35) [.tmp 36]), (some (35, false)), none⟩,
  ⟨some 38, .p (.mv (.tmp 0)), (some (35, false)), none⟩,
  ⟨some 39, .p (.bin .neq (.tmp 37) (.tmp 38)), (some (35, false)), none⟩,
  ⟨some 40, .p (.pick (.tmp 35) (.const (.bool true)) (.tmp 39)), none, none⟩]))
  (.cond (.tmp 40) (.seq (.region [⟨some 41, .p (.build [.int .i64 0, .int .i64 0, .int .i64 0, .int .i64 0, .string ⟨#[]⟩, .string ⟨#[]⟩] []), none, none⟩,
  ⟨none, .e (.store (some 6) (.tmp 2) (.tmp 41)), none, none⟩,
  ⟨some 3, .p (.mv (.const (.int .i64 60))), none, none⟩])
  (.ret)) (.skip)))
  (.seq (.region [⟨some 42, .l (.load (.agg 6) (.tmp 5)), none, some (.st [.i .i64, .i .i64, .i .i64, .i .i64, .s, .s])⟩,
  ⟨none, .e (.store (some 6) (.tmp 2) (.tmp 42)), none, none⟩,
  ⟨some 3, .p (.mv (.const (.int .i64 0))), none, none⟩])
  (.ret)))))))
noncomputable def e_shard_Decode (k : Nat) (D : CallF) : Ent := entOf 13 [(0, .s)] [(2, .st [.i .i64, .i .i64, .i .i64, .i .i64, .s, .s]), (3, .i .i64)] (shard_Decode k D)
theorem q_shard_Decode : (Try.f13.body).bind (rcodeOf Try.prog 0 Try.f13.ntmps) = some (strip r_shard_Decode) := by kernel_rfl
theorem t_shard_Decode (k : Nat) (D : CallF) : curF [(0, .s)] (fun args h => denF (C_shard_Decode k D) k r_shard_Decode [(2, .st [.i .i64, .i .i64, .i .i64, .i .i64, .s, .s]), (3, .i .i64)] [some (.agg 6), none] args h) = shard_Decode k D := by kernel_rfl
theorem ok_shard_Decode {D : CallF} (hD : CSound Try.prog 0 D) (k : Nat) : EntOk Try.prog 0 (e_shard_Decode k D) :=
  entOf_ok2 (mkC_sound hD (EntsOk.more (ok_num_Read hD k) (EntsOk.more (ok_num_Reader_Bytes hD k) (EntsOk.more (ok_num_Reader_Fixed hD k) (EntsOk.more (ok_num_Reader_Left hD k) (EntsOk.more (ok_num_Reader_Err hD k) (EntsOk.more (ok_shard_Check hD k) (EntsOk.more (ok_shard_text hD k) (EntsOk.none))))))))) Try.func13 rfl q_shard_Decode rfl (t_shard_Decode k D)
end Gb
namespace Gb
open Go Gx Go.Proofs
set_option maxRecDepth 100000
end Gb
namespace Gb
open Go Gx Go.Proofs
set_option maxRecDepth 100000
end Gb
namespace Gb
open Go Gx Go.Proofs
set_option maxRecDepth 100000
end Gb
namespace Gb
open Go Gx Go.Proofs
set_option maxRecDepth 100000
end Gb
namespace Gb
open Go Gx Go.Proofs
set_option maxRecDepth 100000
noncomputable def C_law06_ShardBack (k : Nat) (D : CallF) : CallF := mkC D [e_law06_works k D, e_shard_Decode k D, e_shard_Encode k D]
noncomputable def law06_ShardBack (k : Nat) (D : CallF) (x_0 : Int × Int × Int × Int × ByteArray × ByteArray) (s_1 : ByteArray) (h : AHeap) : Option ((Bool) × AHeap) :=
  let h1 := AHeap.new h (.cells [.int .i64 x_0.1, .int .i64 x_0.2.1, .int .i64 x_0.2.2.1, .int .i64 x_0.2.2.2.1, .string x_0.2.2.2.2.1, .string x_0.2.2.2.2.2] 23 true 0)
  (law06_works k D h1).bind fun r2 =>
  (if (!r2.1) = true then
  some (false, r2.2)
  else
  joinK (fun (s3 : ByteArray) (x4 : Option Addr) (y5 : Bool) (h6 : AHeap) =>
  (if y5 = true then
  some (true, h6)
  else
  joinK (fun (s8 : ByteArray) (h9 : AHeap) =>
  joinK (fun (h11 : AHeap) =>
  some (true, h11)) fun j12 =>
  (shard_Decode k D s8 h9).bind fun r13 =>
  let h14 := AHeap.new r13.2 (.cells [.int .i64 0, .int .i64 0, .int .i64 0, .int .i64 0, .string ⟨#[]⟩, .string ⟨#[]⟩] 23 true 0)
  (stL 6 (⟨r13.2.next, 0, none⟩ : Addr) ([.int .i64 r13.1.1.1, .int .i64 r13.1.1.2.1, .int .i64 r13.1.1.2.2.1, .int .i64 r13.1.1.2.2.2.1, .string r13.1.1.2.2.2.2.1, .string r13.1.1.2.2.2.2.2]) h14).bind fun h15 =>
  (if (r13.1.2 == 0) = true then
  (ldA 6 (⟨r13.2.next, 0, none⟩ : Addr) h15).bind fun l16 =>
  (decC [.i .i64, .i .i64, .i .i64, .i .i64, .s, .s] l16).bind fun x17 =>
  (shard_Encode k D (x17.1, x17.2.1, x17.2.2.1, x17.2.2.2.1, x17.2.2.2.2.1, x17.2.2.2.2.2) h15).bind fun r18 =>
  joinK (fun (y19 : Bool) (h20 : AHeap) =>
  (if y19 = true then
  some (false, h20)
  else
  j12 h20)) fun j21 =>
  (if (r18.1.2 != 0) = true then
  j21 true r18.2
  else
  j21 (!(r18.1.1 == s8)) r18.2)
  else
  j12 h15)) fun j10 =>
  (x4).bind fun p22 =>
  (ldA 6 p22 h6).bind fun l23 =>
  (decC [.i .i64, .i .i64, .i .i64, .i .i64, .s, .s] l23).bind fun x24 =>
  (shard_Encode k D (x24.1, x24.2.1, x24.2.2.1, x24.2.2.2.1, x24.2.2.2.2.1, x24.2.2.2.2.2) h6).bind fun r25 =>
  (if (r25.1.2 == 0) = true then
  (shard_Decode k D r25.1.1 r25.2).bind fun r26 =>
  let h27 := AHeap.new r26.2 (.cells [.int .i64 0, .int .i64 0, .int .i64 0, .int .i64 0, .string ⟨#[]⟩, .string ⟨#[]⟩] 23 true 0)
  (stL 6 (⟨r26.2.next, 0, none⟩ : Addr) ([.int .i64 r26.1.1.1, .int .i64 r26.1.1.2.1, .int .i64 r26.1.1.2.2.1, .int .i64 r26.1.1.2.2.2.1, .string r26.1.1.2.2.2.2.1, .string r26.1.1.2.2.2.2.2]) h27).bind fun h28 =>
  joinK (fun (s29 : ByteArray) (y30 : Bool) (h31 : AHeap) =>
  (if y30 = true then
  some (false, h31)
  else
  j10 s29 h31)) fun j32 =>
  (if (r26.1.2 != 0) = true then
  j32 s3 true h28
  else
  (ldA 6 (⟨r26.2.next, 0, none⟩ : Addr) h28).bind fun l33 =>
  (decC [.i .i64, .i .i64, .i .i64, .i .i64, .s, .s] l33).bind fun x34 =>
  (x4).bind fun p35 =>
  (ldA 6 p35 h28).bind fun l36 =>
  (decC [.i .i64, .i .i64, .i .i64, .i .i64, .s, .s] l36).bind fun x37 =>
  let c38 : Bool := (!((x34.1 == x37.1) && ((x34.2.1 == x37.2.1) && ((x34.2.2.1 == x37.2.2.1) && ((x34.2.2.2.1 == x37.2.2.2.1) && ((x34.2.2.2.2.1 == x37.2.2.2.2.1) && (x34.2.2.2.2.2 == x37.2.2.2.2.2)))))))
  j32 s3 c38 h28)
  else
  j10 s3 r25.2))) fun j7 =>
  (ldS (⟨h.next, 5, none⟩ : Addr) r2.2).bind fun x39 =>
  (if (decide ((x39.size : Int) > 2000)) = true then
  j7 s_1 (some (⟨h.next, 0, none⟩ : Addr)) true r2.2
  else
  j7 s_1 (some (⟨h.next, 0, none⟩ : Addr)) (decide ((s_1.size : Int) > 2000)) r2.2))
def r_law06_ShardBack : RCode := .seq (.region [⟨some 2, .a (.box 23 (.tmp 0)), none, none⟩,
  ⟨some 4, .p (.mv (.const (.bool false))), none, none⟩])
  (.seq (.seq (.region [⟨some 13, .e (.call (.func 9) []), none, none⟩,
  ⟨some 14, .p (.un .not (.tmp 13)), none, none⟩])
  (.cond (.tmp 14) (.seq (.region [⟨some 4, .p (.mv (.const (.bool false))), none, none⟩])
  (.ret)) (.skip)))
  (.seq (.seq (.join [(1, .s), (2, .p), (23, .b)] (.region [⟨some 15, .p (.fieldAddr 5 (.tmp 2)), none, none⟩,
  ⟨some 16, .l (.load (.s) (.tmp 15)), none, none⟩,
  ⟨some 17, .p (.lenS (.tmp 16)), none, none⟩,
  ⟨some 18, .p (.bin .gtr (.tmp 17) (.const (.int .i64 2000))), none, none⟩,
  ⟨some 19, .p (.mv (.tmp 18)), none, none⟩,
  ⟨some 20, .p (.mv (.tmp 1)), (some (19, false)), none⟩,
  ⟨some 21, .p (.lenS (.tmp 20)), (some (19, false)), none⟩,
  ⟨some 22, .p (.bin .gtr (.tmp 21) (.const (.int .i64 2000))), (some (19, false)), none⟩,
  ⟨some 23, .p (.pick (.tmp 19) (.const (.bool true)) (.tmp 22)), none, none⟩]))
  (.cond (.tmp 23) (.seq (.region [⟨some 4, .p (.mv (.const (.bool true))), none, none⟩])
  (.ret)) (.skip)))
  (.seq (.join [(1, .s)] (.seq (.region [⟨some 25, .l (.load (.agg 6) (.tmp 2)), none, some (.st [.i .i64, .i .i64, .i .i64, .i .i64, .s, .s])⟩,
  ⟨some 26, .e (.call (.func 10) [.tmp 25]), none, none⟩,
  ⟨some 24, .p (.mv (.tmp 26)), none, none⟩,
  ⟨some 27, .p (.extract (.tmp 24) 0), none, none⟩,
  ⟨some 28, .p (.extract (.tmp 24) 1), none, none⟩,
  ⟨some 5, .p (.mv (.tmp 27)), none, none⟩,
  ⟨some 6, .p (.mv (.tmp 28)), none, none⟩])
  (.seq (.region [⟨some 29, .p (.mv (.tmp 6)), none, none⟩,
  ⟨some 30, .p (.bin .eql (.tmp 29) (.const (.int .i64 0))), none, none⟩])
  (.cond (.tmp 30) (.seq (.region [⟨some 32, .p (.mv (.tmp 5)), none, none⟩,
  ⟨some 33, .e (.call (.func 13) [.tmp 32]), none, none⟩,
  ⟨some 31, .p (.mv (.tmp 33)), none, none⟩,
  ⟨some 34, .p (.extract (.tmp 31) 0), none, none⟩,
  ⟨some 35, .p (.extract (.tmp 31) 1), none, none⟩,
  ⟨some 7, .a (.alloc 23 [.int .i64 0, .int .i64 0, .int .i64 0, .int .i64 0, .string ⟨#[]⟩, .string ⟨#[]⟩]), none, none⟩,
  ⟨none, .e (.store (some 6) (.tmp 7) (.tmp 34)), none, none⟩,
  ⟨some 8, .p (.mv (.tmp 35)), none, none⟩])
  (.seq (.join [(1, .s), (42, .b)] (.region [⟨some 36, .p (.mv (.tmp 8)), none, none⟩,
  ⟨some 37, .p (.bin .neq (.tmp 36) (.const (.int .i64 0))), none, none⟩,
  ⟨some 38, .p (.mv (.tmp 37)), none, none⟩,
  ⟨some 39, .l (.load (.agg 6) (.tmp 7)), (some (38, false)), some (.st [.i .i64, .i .i64, .i .i64, .i .i64, .s, .s])⟩,
  ⟨some 40, .l (.load (.agg 6) (.tmp 2)), (some (38, false)), some (.st [.i .i64, .i .i64, .i .i64, .i .i64, .s, .s])⟩,
  ⟨some 41, .p (.eqSt true [.i .i64, .i .i64, .i .i64, .i .i64, .s, .s] (.tmp 39) (.tmp 40)), (some (38, false)), none⟩,
  ⟨some 42, .p (.pick (.tmp 38) (.const (.bool true)) (.tmp 41)), none, none⟩]))
  (.cond (.tmp 42) (.seq (.region [⟨some 4, .p (.mv (.const (.bool false))), none, none⟩])
  (.ret)) (.skip)))) (.skip)))))
  (.seq (.join [] (.seq (.region [⟨some 44, .p (.mv (.tmp 1)), none, none⟩,
  ⟨some 45, .e (.call (.func 13) [.tmp 44]), none, none⟩,
  ⟨some 43, .p (.mv (.tmp 45)), none, none⟩,
  ⟨some 46, .p (.extract (.tmp 43) 0), none, none⟩,
  ⟨some 47, .p (.extract (.tmp 43) 1), none, none⟩,
  ⟨some 9, .a (.alloc 23 [.int .i64 0, .int .i64 0, .int .i64 0, .int .i64 0, .string ⟨#[]⟩, .string ⟨#[]⟩]), none, none⟩,
  ⟨none, .e (.store (some 6) (.tmp 9) (.tmp 46)), none, none⟩,
  ⟨some 10, .p (.mv (.tmp 47)), none, none⟩])
  (.seq (.region [⟨some 48, .p (.mv (.tmp 10)), none, none⟩,
  ⟨some 49, .p (.bin .eql (.tmp 48) (.const (.int .i64 0))), none, none⟩])
  (.cond (.tmp 49) (.seq (.region [⟨some 51, .l (.load (.agg 6) (.tmp 9)), none, some (.st [.i .i64, .i .i64, .i .i64, .i .i64, .s, .s])⟩,
  ⟨some 52, .e (.call (.func 10) [.tmp 51]), none, none⟩,
  ⟨some 50, .p (.mv (.tmp 52)), none, none⟩,
  ⟨some 53, .p (.extract (.tmp 50) 0), none, none⟩,
  ⟨some 54, .p (.extract (.tmp 50) 1), none, none⟩,
  ⟨some 11, .p (.mv (.tmp 53)), none, none⟩,
  ⟨some 12, .p (.mv (.tmp 54)), none, none⟩])
  (.seq (.join [(61, .b)] (.region [⟨some 55, .p (.mv (.tmp 12)), none, none⟩,
  ⟨some 56, .p (.bin .neq (.tmp 55) (.const (.int .i64 0))), none, none⟩,
  ⟨some 57, .p (.mv (.tmp 56)), none, none⟩,
  ⟨some 58, .p (.mv (.tmp 11)), (some (57, false)), none⟩,
  ⟨some 59, .p (.mv (.tmp 1)), (some (57, false)), none⟩,
  ⟨some 60, .p (.bin .neq (.tmp 58) (.tmp 59)), (some (57, false)), none⟩,
  ⟨some 61, .p (.pick (.tmp 57) (.const (.bool true)) (.tmp 60)), none, none⟩]))
  (.cond (.tmp 61) (.seq (.region [⟨some 4, .p (.mv (.const (.bool false))), none, none⟩])
  (.ret)) (.skip)))) (.skip)))))
  (.seq (.region [⟨some 4, .p (.mv (.const (.bool true))), none, none⟩])
  (.ret))))))
noncomputable def e_law06_ShardBack (k : Nat) (D : CallF) : Ent := entOf 4 [(0, .st [.i .i64, .i .i64, .i .i64, .i .i64, .s, .s]), (1, .s)] [(4, .b)] (law06_ShardBack k D)
theorem q_law06_ShardBack : (Try.f4.body).bind (rcodeOf Try.prog 0 Try.f4.ntmps) = some (strip r_law06_ShardBack) := by kernel_rfl
theorem t_law06_ShardBack (k : Nat) (D : CallF) : curF [(0, .st [.i .i64, .i .i64, .i .i64, .i .i64, .s, .s]), (1, .s)] (fun args h => denF (C_law06_ShardBack k D) k r_law06_ShardBack [(4, .b)] [none] args h) = law06_ShardBack k D := by kernel_rfl
theorem ok_law06_ShardBack {D : CallF} (hD : CSound Try.prog 0 D) (k : Nat) : EntOk Try.prog 0 (e_law06_ShardBack k D) :=
  entOf_ok2 (mkC_sound hD (EntsOk.more (ok_law06_works hD k) (EntsOk.more (ok_shard_Decode hD k) (EntsOk.more (ok_shard_Encode hD k) (EntsOk.none))))) Try.func4 rfl q_law06_ShardBack rfl (t_law06_ShardBack k D)
end Gb
