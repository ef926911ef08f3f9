import Derived.Test.YtcacldakplomnaaDoorProg
import Derived.Test.YtcacldakplomnaaDoorFn1
namespace Gd
open Go Gx Go.Proofs
set_option maxRecDepth 100000
noncomputable def C_law06_ShardTurned (k : Nat) (D : CallF) : CallF := mkC D [e_law06_works k D, e_shard_Make k D, e_book_Among k D, e_shard_Decode k D, e_sha_Sum k D]
noncomputable def law06_ShardTurned_l0b (_k : Nat) (_D : CallF) (j33 : ByteArray → (Option Addr) → ByteArray → Slc → AHeap → Option ((Bool) × AHeap)) (rec68 : ByteArray → (Option Addr) → ByteArray → Int → Slc → Int → Int → AHeap → Option ((Bool) × AHeap)) (data60 : ByteArray) (atv61 : Option Addr) (s62 : ByteArray) (pattern63 : Int) (b64 : Slc) (first65 : Int) (y66 : Int) (h67 : AHeap) : Option ((Bool) × AHeap) :=
  (if (decide (y66 < 32)) = true then
  joinK (fun (data69 : ByteArray) (atv70 : Option Addr) (s71 : ByteArray) (pattern72 : Int) (b73 : Slc) (first74 : Int) (y75 : Int) (h76 : AHeap) =>
  rec68 data69 atv70 s71 pattern72 b73 first74 (IntKind.wrap .i64 (y75 + 1)) h76) fun j77 =>
  joinK (fun (data78 : ByteArray) (atv79 : Option Addr) (s80 : ByteArray) (pattern81 : Int) (b82 : Slc) (first83 : Int) (bit84 : Int) (y85 : Int) (y86 : Bool) (h87 : AHeap) =>
  (if y86 = true then
  (Gx.idxL 1 b82 (IntKind.wrap .i64 (Int.tdiv bit84 8))).bind fun q89 =>
  (ldI .u8 q89 h87).bind fun x90 =>
  (if 0 ≤ (Int.tmod bit84 8) then
  let t91 : Int := (IntKind.wrap .u8 (1 * 2 ^ (min ((Int.tmod bit84 8)).toNat (IntKind.bits .u8))))
  (Gx.idxL 1 b82 (IntKind.wrap .i64 (Int.tdiv bit84 8))).bind fun q92 =>
  (st1 q92 (.int .u8 (Go.bits .xor .u8 x90 t91)) h87).bind fun h93 =>
  j77 data78 atv79 s80 pattern81 b82 first83 y85 h93
  else none)
  else
  j77 data78 atv79 s80 pattern81 b82 first83 y85 h87)) fun j88 =>
  (if 0 ≤ y66 then
  let t94 : Int := (Int.fdiv pattern63 (2 ^ (min (y66).toNat (IntKind.bits .u32))))
  (if ((Go.bits .and .u32 t94 1) == 1) = true then
  let c95 : Bool := (decide ((IntKind.wrap .i64 (first65 + y66)) < (IntKind.wrap .i64 (8 * (b64.len : Int)))))
  j88 data60 atv61 s62 pattern63 b64 first65 (IntKind.wrap .i64 (first65 + y66)) y66 c95 h67
  else
  j88 data60 atv61 s62 pattern63 b64 first65 (IntKind.wrap .i64 (first65 + y66)) y66 false h67)
  else none)
  else
  j33 data60 atv61 s62 b64 h67)
noncomputable def law06_ShardTurned_l0 (k : Nat) (D : CallF) (j33 : ByteArray → (Option Addr) → ByteArray → Slc → AHeap → Option ((Bool) × AHeap)) : ByteArray → (Option Addr) → ByteArray → Int → Slc → Int → Int → AHeap → Option ((Bool) × AHeap) :=
  iterK (α := ByteArray → (Option Addr) → ByteArray → Int → Slc → Int → Int → AHeap → Option ((Bool) × AHeap)) (fun _ _ _ _ _ _ _ _ => none) k (law06_ShardTurned_l0b k D j33)
noncomputable def law06_ShardTurned (k : Nat) (D : CallF) (data_0 : ByteArray) (at_1 : Int × Int) (by_2 : Int) (h : AHeap) : Option ((Bool) × AHeap) :=
  let h1 := AHeap.new h (.cells [.int .i64 at_1.1, .int .i64 at_1.2] 22 true 0)
  (law06_works k D h1).bind fun r2 =>
  (if (!r2.1) = true then
  some (false, r2.2)
  else
  (if (decide ((data_0.size : Int) > 300)) = true then
  some (true, r2.2)
  else
  (shard_Make k D 2 1 data_0 r2.2).bind fun r3 =>
  joinK (fun (data4 : ByteArray) (byv5 : Int) (atv6 : Option Addr) (l7 : Slc) (y8 : Bool) (h9 : AHeap) =>
  (if y8 = true then
  some (false, h9)
  else
  (atv6).bind fun p12 =>
  (ldI .i64 (⟨p12.block, p12.off + 0, none⟩ : Addr) h9).bind fun x13 =>
  (book_Among k D x13 3 h9).bind fun r14 =>
  (Gx.idxL 1 l7 r14.1).bind fun q15 =>
  (ldS q15 r14.2).bind fun x16 =>
  joinK (fun (data17 : ByteArray) (atv18 : Option Addr) (s19 : ByteArray) (pattern20 : Int) (h21 : AHeap) =>
  let h23 := AHeap.new h21 (.cells (bytesL s19) 5 true 0)
  (atv18).bind fun p25 =>
  (ldI .i64 (⟨p25.block, p25.off + 1, none⟩ : Addr) h23).bind fun x26 =>
  (book_Among k D x26 (IntKind.wrap .i64 (8 * (s19.size : Int))) h23).bind fun r27 =>
  joinK (fun (data28 : ByteArray) (atv29 : Option Addr) (s30 : ByteArray) (b31 : Slc) (h32 : AHeap) =>
  (bytesOf h32 b31).bind fun s34 =>
  (shard_Decode k D s34 h32).bind fun r35 =>
  let h36 := AHeap.new r35.2 (.cells [.int .i64 0, .int .i64 0, .int .i64 0, .int .i64 0, .string ⟨#[]⟩, .string ⟨#[]⟩] 32 true 0)
  (stL 6 (⟨r35.2.next, 0, none⟩ : Addr) ([.int .i64 r35.1.1.1, .int .i64 r35.1.1.2.1, .int .i64 r35.1.1.2.2.1, .int .i64 r35.1.1.2.2.2.1, .string r35.1.1.2.2.2.2.1, .string r35.1.1.2.2.2.2.2]) h36).bind fun h37 =>
  joinK (fun (data38 : ByteArray) (atv39 : Option Addr) (s40 : ByteArray) (y41 : Bool) (h42 : AHeap) =>
  (if y41 = true then
  some (false, h42)
  else
  (atv39).bind fun p45 =>
  (ldI .i64 (⟨p45.block, p45.off + 1, none⟩ : Addr) h42).bind fun x46 =>
  (book_Among k D x46 (s40.size : Int) h42).bind fun r47 =>
  (Gx.subS s40 none (some r47.1)).bind fun s48 =>
  (shard_Decode k D s48 r47.2).bind fun r49 =>
  (shard_Decode k D s40 r49.2).bind fun r50 =>
  let h51 := AHeap.new r50.2 (.cells [.int .i64 0, .int .i64 0, .int .i64 0, .int .i64 0, .string ⟨#[]⟩, .string ⟨#[]⟩] 32 true 0)
  (stL 6 (⟨r50.2.next, 0, none⟩ : Addr) ([.int .i64 r50.1.1.1, .int .i64 r50.1.1.2.1, .int .i64 r50.1.1.2.2.1, .int .i64 r50.1.1.2.2.2.1, .string r50.1.1.2.2.2.2.1, .string r50.1.1.2.2.2.2.2]) h51).bind fun h52 =>
  (if (r49.1.2 == 60) = true then
  (if (r50.1.2 == 0) = true then
  let h53 := AHeap.new h52 (.cells [.string data38] 9 true 0)
  (sha_Sum k D (⟨(some ⟨h52.next, 0, some 0⟩), 1, 1⟩ : Slc) h53).bind fun r54 =>
  (ldS (⟨r50.2.next, 4, none⟩ : Addr) r54.2).bind fun x55 =>
  guardP (SameW [h53, h52] (fun H57 => (ldS (⟨r50.2.next, 4, none⟩ : Addr) H57).bind fun y56 => some (.string y56)) (.string x55)) (
  (if (x55 == r54.1) = true then
  (ldI .i64 (⟨r50.2.next, 3, none⟩ : Addr) r54.2).bind fun x58 =>
  some ((x58 == (data38.size : Int)), r54.2)
  else
  some (false, r54.2)))
  else
  some (false, h52))
  else
  some (false, h52)))) fun j43 =>
  (bytesOf h37 b31).bind fun s59 =>
  (if (!(s59 == s30)) = true then
  j43 data28 atv29 s30 (r35.1.2 != 60) h37
  else
  j43 data28 atv29 s30 false h37)) fun j33 =>
  law06_ShardTurned_l0 k D j33 data17 atv18 s19 pattern20 (⟨(some ⟨h21.next, 0, some 2⟩), s19.size, s19.size⟩ : Slc) r27.1 0 r27.2) fun j22 =>
  (if ((IntKind.wrap .u32 byv5) == 0) = true then
  j22 data4 atv6 x16 1 r14.2
  else
  j22 data4 atv6 x16 (IntKind.wrap .u32 byv5) r14.2))) fun j10 =>
  (if (r3.1.2 != 0) = true then
  j10 data_0 by_2 (some (⟨h.next, 0, none⟩ : Addr)) r3.1.1 true r3.2
  else
  j10 data_0 by_2 (some (⟨h.next, 0, none⟩ : Addr)) r3.1.1 ((r3.1.1.len : Int) != 3) r3.2)))
def r_law06_ShardTurned : RCode := .seq (.region [⟨some 4, .a (.box 22 (.tmp 1)), none, none⟩,
  ⟨some 6, .p (.mv (.const (.bool false))), none, none⟩])
  (.seq (.seq (.region [⟨some 19, .e (.call (.func 4) []), none, none⟩,
  ⟨some 20, .p (.un .not (.tmp 19)), none, none⟩])
  (.cond (.tmp 20) (.seq (.region [⟨some 6, .p (.mv (.const (.bool false))), none, none⟩])
  (.ret)) (.skip)))
  (.seq (.seq (.region [⟨some 21, .p (.mv (.tmp 0)), none, none⟩,
  ⟨some 22, .p (.lenS (.tmp 21)), none, none⟩,
  ⟨some 23, .p (.bin .gtr (.tmp 22) (.const (.int .i64 300))), none, none⟩])
  (.cond (.tmp 23) (.seq (.region [⟨some 6, .p (.mv (.const (.bool true))), none, none⟩])
  (.ret)) (.skip)))
  (.seq (.region [⟨some 25, .p (.mv (.tmp 0)), none, none⟩,
  ⟨some 26, .e (.call (.func 5) [.const (.int .i64 2), .const (.int .i64 1), .tmp 25]), none, none⟩,
  ⟨some 24, .p (.mv (.tmp 26)), none, none⟩,
  ⟨some 27, .p (.extract (.tmp 24) 0), none, none⟩,
  ⟨some 28, .p (.extract (.tmp 24) 1), none, none⟩,
  ⟨some 7, .p (.mv (.tmp 27)), none, none⟩,
  ⟨some 8, .p (.mv (.tmp 28)), none, none⟩])
  (.seq (.seq (.join [(0, .s), (2, .i .i64), (4, .p), (7, .l), (35, .b)] (.region [⟨some 29, .p (.mv (.tmp 8)), none, none⟩,
  ⟨some 30, .p (.bin .neq (.tmp 29) (.const (.int .i64 0))), none, none⟩,
  ⟨some 31, .p (.mv (.tmp 30)), none, none⟩,
  ⟨some 32, .p (.mv (.tmp 7)), (some (31, false)), none⟩,
  ⟨some 33, .p (.lenL (.tmp 32)), (some (31, false)), none⟩,
  ⟨some 34, .p (.bin .neq (.tmp 33) (.const (.int .i64 3))), (some (31, false)), none⟩,
  ⟨some 35, .p (.pick (.tmp 31) (.const (.bool true)) (.tmp 34)), none, none⟩]))
  (.cond (.tmp 35) (.seq (.region [⟨some 6, .p (.mv (.const (.bool false))), none, none⟩])
  (.ret)) (.skip)))
  (.seq (.region [⟨some 36, .p (.mv (.tmp 7)), none, none⟩,
  ⟨some 37, .p (.idxA 2 1 (.tmp 4) (.const (.int .i64 0))), none, none⟩,
  ⟨some 38, .l (.load (.i .i64) (.tmp 37)), none, none⟩,
  ⟨some 39, .e (.call (.func 6) [.tmp 38, .const (.int .i64 3)]), none, none⟩,
  ⟨some 40, .p (.idxL 1 (.tmp 36) (.tmp 39)), none, none⟩,
  ⟨some 41, .l (.load (.s) (.tmp 40)), none, none⟩,
  ⟨some 9, .p (.mv (.tmp 41)), none, none⟩])
  (.seq (.region [⟨some 42, .p (.mv (.tmp 2)), none, none⟩,
  ⟨some 43, .p (.convI .u32 (.tmp 42)), none, none⟩,
  ⟨some 10, .p (.mv (.tmp 43)), none, none⟩])
  (.seq (.join [(0, .s), (4, .p), (9, .s), (10, .i .u32)] (.seq (.region [⟨some 44, .p (.mv (.tmp 10)), none, none⟩,
  ⟨some 45, .p (.bin .eql (.tmp 44) (.const (.int .u32 0))), none, none⟩])
  (.cond (.tmp 45) (.region [⟨some 10, .p (.mv (.const (.int .u32 1))), none, none⟩]) (.skip))))
  (.seq (.region [⟨some 46, .p (.mv (.tmp 9)), none, none⟩,
  ⟨some 47, .a (.convSB 5 (.tmp 46)), none, none⟩,
  ⟨some 11, .p (.mv (.tmp 47)), none, none⟩])
  (.seq (.region [⟨some 48, .p (.idxA 2 1 (.tmp 4) (.const (.int .i64 1))), none, none⟩,
  ⟨some 49, .l (.load (.i .i64) (.tmp 48)), none, none⟩,
  ⟨some 50, .p (.mv (.tmp 11)), none, none⟩,
  ⟨some 51, .p (.lenL (.tmp 50)), none, none⟩,
  ⟨some 52, .p (.bin .mul (.const (.int .i64 8)) (.tmp 51)), none, none⟩,
  ⟨some 53, .e (.call (.func 6) [.tmp 49, .tmp 52]), none, none⟩,
  ⟨some 12, .p (.mv (.tmp 53)), none, none⟩])
  (.seq (.join [(0, .s), (4, .p), (9, .s), (11, .l)] (.seq (.region [⟨some 54, .p (.mv (.const (.int .i64 0))), none, none⟩])
  (.block 0 (.loop [(0, .s), (4, .p), (9, .s), (10, .i .u32), (11, .l), (12, .i .i64), (54, .i .i64)] (.seq (.region [⟨some 55, .p (.bin .lss (.tmp 54) (.const (.int .i64 32))), none, none⟩])
  (.seq (.cond (.tmp 55) (.skip) (.exit 0))
  (.seq (.join [(0, .s), (4, .p), (9, .s), (10, .i .u32), (11, .l), (12, .i .i64), (54, .i .i64)] (.block 1 (.seq (.region [⟨some 56, .p (.mv (.tmp 54)), none, none⟩,
  ⟨some 13, .p (.mv (.tmp 56)), none, none⟩])
  (.seq (.region [⟨some 57, .p (.mv (.tmp 12)), none, none⟩,
  ⟨some 58, .p (.mv (.tmp 13)), none, none⟩,
  ⟨some 59, .p (.bin .add (.tmp 57) (.tmp 58)), none, none⟩,
  ⟨some 14, .p (.mv (.tmp 59)), none, none⟩])
  (.seq (.join [(0, .s), (4, .p), (9, .s), (10, .i .u32), (11, .l), (12, .i .i64), (14, .i .i64), (54, .i .i64), (71, .b)] (.region [⟨some 60, .p (.mv (.tmp 10)), none, none⟩,
  ⟨some 61, .p (.mv (.tmp 13)), none, none⟩,
  ⟨some 62, .p (.bin .shr (.tmp 60) (.tmp 61)), none, none⟩,
  ⟨some 63, .p (.bin .and (.tmp 62) (.const (.int .u32 1))), none, none⟩,
  ⟨some 64, .p (.bin .eql (.tmp 63) (.const (.int .u32 1))), none, none⟩,
  ⟨some 65, .p (.mv (.tmp 64)), none, none⟩,
  ⟨some 66, .p (.mv (.tmp 14)), (some (65, true)), none⟩,
  ⟨some 67, .p (.mv (.tmp 11)), (some (65, true)), none⟩,
  ⟨some 68, .p (.lenL (.tmp 67)), (some (65, true)), none⟩,
  ⟨some 69, .p (.bin .mul (.const (.int .i64 8)) (.tmp 68)), (some (65, true)), none⟩,
  ⟨some 70, .p (.bin .lss (.tmp 66) (.tmp 69)), (some (65, true)), none⟩,
  ⟨some 71, .p (.pick (.tmp 65) (.tmp 70) (.const (.bool false))), none, none⟩]))
  (.cond (.tmp 71) (.draw [⟨0, ⟨some 72, .p (.mv (.tmp 11)), none, none⟩, [11], 0⟩,
  ⟨1, ⟨some 73, .p (.mv (.tmp 14)), none, none⟩, [14], 0⟩,
  ⟨2, ⟨some 74, .p (.bin .quo (.tmp 73) (.const (.int .i64 8))), none, none⟩, [73], 0⟩,
  ⟨3, ⟨some 75, .p (.idxL 1 (.tmp 72) (.tmp 74)), none, none⟩, [72, 74], 0⟩,
  ⟨4, ⟨some 76, .l (.load (.i .u8) (.tmp 75)), none, none⟩, [75], 0⟩,
  ⟨5, ⟨some 77, .p (.mv (.tmp 14)), none, none⟩, [14], 0⟩,
  ⟨6, ⟨some 78, .p (.bin .rem (.tmp 77) (.const (.int .i64 8))), none, none⟩, [77], 0⟩,
  ⟨7, ⟨some 79, .p (.bin .shl (.const (.int .u8 1)) (.tmp 78)), none, none⟩, [78], 0⟩,
  ⟨8, ⟨some 80, .p (.bin .xor (.tmp 76) (.tmp 79)), none, none⟩, [76, 79], 0⟩,
  ⟨9, ⟨some 81, .p (.idxL 1 (.tmp 72) (.tmp 74)), none, none⟩, [72, 74], 0⟩,
  ⟨10, ⟨none, .e (.store none (.tmp 81) (.tmp 80)), none, none⟩, [81, 80], 0⟩]) (.skip)))))))
  (.region [⟨some 82, .p (.bin .add (.tmp 54) (.const (.int .i64 1))), none, none⟩,
  ⟨some 54, .p (.mv (.tmp 82)), none, none⟩]))))))))
  (.seq (.seq (.region [⟨some 84, .p (.mv (.tmp 11)), none, none⟩,
  ⟨some 85, .l (.convBS (.tmp 84)), none, none⟩,
  ⟨some 86, .e (.call (.func 7) [.tmp 85]), none, none⟩,
  ⟨some 83, .p (.mv (.tmp 86)), none, none⟩,
  ⟨some 87, .p (.extract (.tmp 83) 0), none, none⟩,
  ⟨some 88, .p (.extract (.tmp 83) 1), none, none⟩,
  ⟨some 15, .a (.alloc 32 [.int .i64 0, .int .i64 0, .int .i64 0, .int .i64 0, .string ⟨#[]⟩, .string ⟨#[]⟩]), none, none⟩,
  ⟨none, .e (.store (some 6) (.tmp 15) (.tmp 87)), none, none⟩,
  ⟨some 16, .p (.mv (.tmp 88)), none, none⟩])
  (.seq (.join [(0, .s), (4, .p), (9, .s), (96, .b)] (.region [⟨some 89, .p (.mv (.tmp 11)), none, none⟩,
  ⟨some 90, .l (.convBS (.tmp 89)), none, none⟩,
  ⟨some 91, .p (.mv (.tmp 9)), none, none⟩,
  ⟨some 92, .p (.bin .neq (.tmp 90) (.tmp 91)), none, none⟩,
  ⟨some 93, .p (.mv (.tmp 92)), none, none⟩,
  ⟨some 94, .p (.mv (.tmp 16)), (some (93, true)), none⟩,
  ⟨some 95, .p (.bin .neq (.tmp 94) (.const (.int .i64 60))), (some (93, true)), none⟩,
  ⟨some 96, .p (.pick (.tmp 93) (.tmp 95) (.const (.bool false))), none, none⟩]))
  (.cond (.tmp 96) (.seq (.region [⟨some 6, .p (.mv (.const (.bool false))), none, none⟩])
  (.ret)) (.skip))))
  (.seq (.region [⟨some 98, .p (.mv (.tmp 9)), none, none⟩,
  ⟨some 99, .p (.idxA 2 1 (.tmp 4) (.const (.int .i64 1))), none, none⟩,
  ⟨some 100, .l (.load (.i .i64) (.tmp 99)), none, none⟩,
  ⟨some 101, .p (.mv (.tmp 9)), none, none⟩,
  ⟨some 102, .p (.lenS (.tmp 101)), none, none⟩,
  ⟨some 103, .e (.call (.func 6) [.tmp 100, .tmp 102]), none, none⟩,
  ⟨some 104, .p (.subS (.tmp 98) none (some (.tmp 103))), none, none⟩,
  ⟨some 105, .e (.call (.func 7) [.tmp 104]), none, none⟩,
  ⟨some 97, .p (.mv (.tmp 105)), none, none⟩,
  ⟨some 106, .p (.extract (.tmp 97) 0), none, none⟩,
  ⟨some 107, .p (.extract (.tmp 97) 1), none, none⟩,
  ⟨some 8, .p (.mv (.tmp 107)), none, none⟩])
  (.seq (.region [⟨some 109, .p (.mv (.tmp 9)), none, none⟩,
  ⟨some 110, .e (.call (.func 7) [.tmp 109]), none, none⟩,
  ⟨some 108, .p (.mv (.tmp 110)), none, none⟩,
  ⟨some 111, .p (.extract (.tmp 108) 0), none, none⟩,
  ⟨some 112, .p (.extract (.tmp 108) 1), none, none⟩,
  ⟨some 17, .a (.alloc 32 [.int .i64 0, .int .i64 0, .int .i64 0, .int .i64 0, .string ⟨#[]⟩, .string ⟨#[]⟩]), none, none⟩,
  ⟨none, .e (.store (some 6) (.tmp 17) (.tmp 111)), none, none⟩,
  ⟨some 18, .p (.mv (.tmp 112)), none, none⟩])
  (.seq (.draw [⟨0, ⟨some 113, .p (.mv (.tmp 8)), none, none⟩, [8], 0⟩,
  ⟨1, ⟨some 114, .p (.bin .eql (.tmp 113) (.const (.int .i64 60))), none, none⟩, [113], 0⟩,
  ⟨2, ⟨some 115, .p (.mv (.tmp 114)), none, none⟩, [114], 0⟩,
  ⟨3, ⟨some 116, .p (.mv (.tmp 18)), (some (115, true)), none⟩, [18, 115], 0⟩,
  ⟨4, ⟨some 117, .p (.bin .eql (.tmp 116) (.const (.int .i64 0))), (some (115, true)), none⟩, [116, 115], 0⟩,
  ⟨5, ⟨some 118, .p (.pick (.tmp 115) (.tmp 117) (.const (.bool false))), none, none⟩, [115, 117], 0⟩,
  ⟨6, ⟨some 119, .p (.mv (.tmp 118)), none, none⟩, [118], 0⟩,
  ⟨9, ⟨some 122, .p (.mv (.tmp 0)), (some (119, true)), none⟩, [0, 119], 0⟩,
  ⟨10, ⟨some 123, .a (.buildSlice 9 1 (zerosL 1 [.string ⟨#[]⟩]) [(0, 1, .tmp 122)]), (some (119, true)), none⟩, [122, 119], 0⟩,
  ⟨11, ⟨some 124, .e (.call (.func 8) [.tmp 123]), (some (119, true)), none⟩, [123, 119], 0⟩,
  ⟨7, ⟨some 120, .p (.fieldAddr 4 (.tmp 17)), (some (119, true)), none⟩, [17, 119], 2⟩,
  ⟨8, ⟨some 121, .l (.load (.s) (.tmp 120)), (some (119, true)), none⟩, [120, 119], 2⟩,
  ⟨12, ⟨some 125, .p (.bin .eql (.tmp 121) (.tmp 124)), (some (119, true)), none⟩, [121, 124, 119], 0⟩,
  ⟨13, ⟨some 126, .p (.pick (.tmp 119) (.tmp 125) (.const (.bool false))), none, none⟩, [119, 125], 0⟩,
  ⟨14, ⟨some 127, .p (.mv (.tmp 126)), none, none⟩, [126], 0⟩,
  ⟨15, ⟨some 128, .p (.fieldAddr 3 (.tmp 17)), (some (127, true)), none⟩, [17, 127], 0⟩,
  ⟨16, ⟨some 129, .l (.load (.i .i64) (.tmp 128)), (some (127, true)), none⟩, [128, 127], 0⟩,
  ⟨17, ⟨some 130, .p (.mv (.tmp 0)), (some (127, true)), none⟩, [0, 127], 0⟩,
  ⟨18, ⟨some 131, .p (.lenS (.tmp 130)), (some (127, true)), none⟩, [130, 127], 0⟩,
  ⟨19, ⟨some 132, .p (.bin .eql (.tmp 129) (.tmp 131)), (some (127, true)), none⟩, [129, 131, 127], 0⟩,
  ⟨20, ⟨some 133, .p (.pick (.tmp 127) (.tmp 132) (.const (.bool false))), none, none⟩, [127, 132], 0⟩,
  ⟨21, ⟨some 6, .p (.mv (.tmp 133)), none, none⟩, [133], 0⟩])
  (.ret)))))))))))))))
noncomputable def e_law06_ShardTurned (k : Nat) (D : CallF) : Ent := entOf 3 [(0, .s), (1, .st [.i .i64, .i .i64]), (2, .i .i64)] [(6, .b)] (law06_ShardTurned k D)
theorem q_law06_ShardTurned : (Tryd.f3.body).bind (rcodeOf Tryd.prog 2 Tryd.f3.ntmps) = some (strip r_law06_ShardTurned) := by kernel_rfl
theorem t_law06_ShardTurned (k : Nat) (D : CallF) : curF [(0, .s), (1, .st [.i .i64, .i .i64]), (2, .i .i64)] (fun args h => denF (C_law06_ShardTurned k D) k r_law06_ShardTurned [(6, .b)] [none] args h) = law06_ShardTurned k D := by kernel_rfl
theorem ok_law06_ShardTurned {D : CallF} (hD : CSound Tryd.prog 2 D) (k : Nat) : EntOk Tryd.prog 2 (e_law06_ShardTurned k D) :=
  entOf_ok2 (mkC_sound hD (EntsOk.more (ok_law06_works hD k) (EntsOk.more (ok_shard_Make hD k) (EntsOk.more (ok_book_Among hD k) (EntsOk.more (ok_shard_Decode hD k) (EntsOk.more (ok_sha_Sum hD k) (EntsOk.none))))))) Tryd.func3 rfl q_law06_ShardTurned rfl (t_law06_ShardTurned k D)
end Gd
