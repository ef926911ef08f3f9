import Derived.Test.YtcacldakplomnaaProg
import Derived.Test.YtcacldakplomnaaFn1
namespace Gb
open Go Gx Go.Proofs
set_option maxRecDepth 100000
noncomputable def C_law05_StripeTurned (k : Nat) (D : CallF) : CallF := mkC D [e_law05_shape k D, e_stripe_New k D, e_stripe_Plan_Split k D, e_book_Among k D, e_stripe_Plan_Join k D, e_stripe_Plan_Shard k D, e_law05_works k D]
noncomputable def law05_StripeTurned_l0b (_k : Nat) (_D : CallF) (j59 : ByteArray → (Option Addr) → Slc → Int → Slc → Slc → AHeap → Option ((Bool) × AHeap)) (rec75 : ByteArray → Int → (Option Addr) → Slc → Int → Slc → Slc → Int → Int → AHeap → Option ((Bool) × AHeap)) (s65 : ByteArray) (kv66 : Int) (p67 : Option Addr) (l68 : Slc) (bad69 : Int) (withv70 : Slc) (without71 : Slc) (y72 : Int) (y73 : Int) (h74 : AHeap) : Option ((Bool) × AHeap) :=
  (if (decide (y73 < y72)) = true then
  joinK (fun (s76 : ByteArray) (kv77 : Int) (p78 : Option Addr) (l79 : Slc) (bad80 : Int) (withv81 : Slc) (without82 : Slc) (y83 : Int) (y84 : Int) (h85 : AHeap) =>
  rec75 s76 kv77 p78 l79 bad80 withv81 without82 y83 (IntKind.wrap .i64 (y84 + 1)) h85) fun j86 =>
  (if (y73 == bad69) = true then
  j86 s65 kv66 p67 l68 bad69 withv70 without71 y72 y73 h74
  else
  (Gx.idxL 1 l68 y73).bind fun q87 =>
  (ldS q87 h74).bind fun x88 =>
  let h89 := AHeap.new h74 (.cells [.int .i64 y73, .string x88] 68 true 0)
  (rdS 2 (⟨(some ⟨h74.next, 0, some 0⟩), 1, 1⟩ : Slc) h89).bind fun n91 =>
  (appendA 2 24 68 h89 without71 n91 1).bind fun r90 =>
  (if (decide ((withv70.len : Int) < kv66)) = true then
  (Gx.idxL 1 l68 y73).bind fun q92 =>
  (ldS q92 r90.2).bind fun x93 =>
  let h94 := AHeap.new r90.2 (.cells [.int .i64 y73, .string x93] 68 true 0)
  (rdS 2 (⟨(some ⟨r90.2.next, 0, some 0⟩), 1, 1⟩ : Slc) h94).bind fun n96 =>
  (appendA 2 24 68 h94 withv70 n96 1).bind fun r95 =>
  j86 s65 kv66 p67 l68 bad69 r95.1 r90.1 y72 y73 r95.2
  else
  j86 s65 kv66 p67 l68 bad69 withv70 r90.1 y72 y73 r90.2))
  else
  j59 s65 p67 l68 bad69 withv70 without71 h74)
noncomputable def law05_StripeTurned_l0 (k : Nat) (D : CallF) (j59 : ByteArray → (Option Addr) → Slc → Int → Slc → Slc → AHeap → Option ((Bool) × AHeap)) : ByteArray → Int → (Option Addr) → Slc → Int → Slc → Slc → Int → Int → AHeap → Option ((Bool) × AHeap) :=
  iterK (α := ByteArray → Int → (Option Addr) → Slc → Int → Slc → Slc → Int → Int → AHeap → Option ((Bool) × AHeap)) (fun _ _ _ _ _ _ _ _ _ _ => none) k (law05_StripeTurned_l0b k D j59)
noncomputable def law05_StripeTurned (k : Nat) (D : CallF) (n_0 : Int × Int) (s_1 : ByteArray) (at_2 : Int × Int) (h : AHeap) : Option ((Bool) × AHeap) :=
  let h1 := AHeap.new h (.cells [.int .i64 n_0.1, .int .i64 n_0.2] 40 true 0)
  let h2 := AHeap.new h1 (.cells [.int .i64 at_2.1, .int .i64 at_2.2] 40 true 0)
  (ldA 2 (⟨h.next, 0, none⟩ : Addr) h2).bind fun l3 =>
  (decC [.i .i64, .i .i64] l3).bind fun x4 =>
  (law05_shape k D (x4.1, x4.2) h2).bind fun r5 =>
  (stripe_New k D r5.1.1 (if r5.1.2 > 1 then r5.1.2 else 1) r5.2).bind fun r6 =>
  joinK (fun (s7 : ByteArray) (atv8 : Option Addr) (kv9 : Int) (m10 : Int) (p11 : Option Addr) (y12 : Bool) (h13 : AHeap) =>
  (if y12 = true then
  some (false, h13)
  else
  joinK (fun (s15 : ByteArray) (atv16 : Option Addr) (kv17 : Int) (m18 : Int) (p19 : Option Addr) (y20 : Bool) (h21 : AHeap) =>
  (if y20 = true then
  some (true, h21)
  else
  (stripe_Plan_Split k D p19 s15 h21).bind fun r23 =>
  joinK (fun (s24 : ByteArray) (atv25 : Option Addr) (kv26 : Int) (m27 : Int) (p28 : Option Addr) (l29 : Slc) (y30 : Bool) (h31 : AHeap) =>
  (if y30 = true then
  some (false, h31)
  else
  (atv25).bind fun p34 =>
  (ldI .i64 (⟨p34.block, p34.off + 0, none⟩ : Addr) h31).bind fun x35 =>
  (book_Among k D x35 (IntKind.wrap .i64 (kv26 + m27)) h31).bind fun r36 =>
  (Gx.idxL 1 l29 r36.1).bind fun q37 =>
  (ldS q37 r36.2).bind fun x38 =>
  let h39 := AHeap.new r36.2 (.cells (bytesL x38) 5 true 0)
  (atv25).bind fun p41 =>
  (ldI .i64 (⟨p41.block, p41.off + 1, none⟩ : Addr) h39).bind fun x42 =>
  (book_Among k D x42 (x38.size : Int) h39).bind fun r43 =>
  (Gx.idxL 1 (⟨(some ⟨r36.2.next, 0, some 2⟩), x38.size, x38.size⟩ : Slc) r43.1).bind fun q44 =>
  (ldI .u8 q44 r43.2).bind fun x45 =>
  (Gx.idxL 1 (⟨(some ⟨r36.2.next, 0, some 2⟩), x38.size, x38.size⟩ : Slc) r43.1).bind fun q46 =>
  (st1 q46 (.int .u8 (Go.bits .xor .u8 x45 1)) r43.2).bind fun h47 =>
  (bytesOf h47 (⟨(some ⟨r36.2.next, 0, some 2⟩), x38.size, x38.size⟩ : Slc)).bind fun s48 =>
  let h49 := AHeap.new h47 (.cells [.int .i64 r36.1, .string s48] 68 true 0)
  (rdS 2 (⟨(some ⟨h47.next, 0, some 0⟩), 1, 1⟩ : Slc) h49).bind fun n51 =>
  (appendA 2 24 68 h49 (⟨none, 0, 0⟩ : Slc) n51 1).bind fun r50 =>
  joinK (fun (s52 : ByteArray) (p53 : Option Addr) (l54 : Slc) (bad55 : Int) (withv56 : Slc) (without57 : Slc) (h58 : AHeap) =>
  (stripe_Plan_Join k D p53 without57 (s52.size : Int) h58).bind fun r60 =>
  (stripe_Plan_Join k D p53 withv56 (s52.size : Int) r60.2).bind fun r61 =>
  (stripe_Plan_Shard k D p53 withv56 (s52.size : Int) bad55 r61.2).bind fun r62 =>
  (if (r60.1.2 == 0) = true then
  (if (r60.1.1 == s52) = true then
  (if (r61.1.2 == 0) = true then
  (if (r62.1.2 == 0) = true then
  (if (!(r61.1.1 == s52)) = true then
  some (true, r62.2)
  else
  (Gx.idxL 1 l54 bad55).bind fun q63 =>
  (ldS q63 r62.2).bind fun x64 =>
  some ((r62.1.1 == x64), r62.2))
  else
  some (false, r62.2))
  else
  some (false, r62.2))
  else
  some (false, r62.2))
  else
  some (false, r62.2))) fun j59 =>
  law05_StripeTurned_l0 k D j59 s24 kv26 p28 l29 r36.1 r50.1 (⟨none, 0, 0⟩ : Slc) (l29.len : Int) 0 r50.2)) fun j32 =>
  (if (r23.1.2 != 0) = true then
  j32 s15 atv16 kv17 m18 p19 r23.1.1 true r23.2
  else
  j32 s15 atv16 kv17 m18 p19 r23.1.1 ((r23.1.1.len : Int) != (IntKind.wrap .i64 (kv17 + m18))) r23.2))) fun j22 =>
  (if (s7 == (⟨#[]⟩ : ByteArray)) = true then
  j22 s7 atv8 kv9 m10 p11 true h13
  else
  j22 s7 atv8 kv9 m10 p11 (decide ((s7.size : Int) > 200)) h13))) fun j14 =>
  (if r6.1.1.isNone = true then
  j14 s_1 (some (⟨h1.next, 0, none⟩ : Addr)) r5.1.1 (if r5.1.2 > 1 then r5.1.2 else 1) r6.1.1 true r6.2
  else
  (if (r6.1.2 != 0) = true then
  j14 s_1 (some (⟨h1.next, 0, none⟩ : Addr)) r5.1.1 (if r5.1.2 > 1 then r5.1.2 else 1) r6.1.1 true r6.2
  else
  (law05_works k D r6.2).bind fun r97 =>
  j14 s_1 (some (⟨h1.next, 0, none⟩ : Addr)) r5.1.1 (if r5.1.2 > 1 then r5.1.2 else 1) r6.1.1 (!r97.1) r97.2))
def r_law05_StripeTurned : RCode := .seq (.region [⟨some 3, .a (.box 40 (.tmp 0)), none, none⟩,
  ⟨some 5, .a (.box 40 (.tmp 2)), none, none⟩,
  ⟨some 6, .p (.mv (.const (.bool false))), none, none⟩])
  (.seq (.region [⟨some 23, .l (.load (.agg 2) (.tmp 3)), none, some (.st [.i .i64, .i .i64])⟩,
  ⟨some 24, .e (.call (.func 20) [.tmp 23]), none, none⟩,
  ⟨some 22, .p (.mv (.tmp 24)), none, none⟩,
  ⟨some 25, .p (.extract (.tmp 22) 0), none, none⟩,
  ⟨some 26, .p (.extract (.tmp 22) 1), none, none⟩,
  ⟨some 7, .p (.mv (.tmp 25)), none, none⟩,
  ⟨some 8, .p (.mv (.tmp 26)), none, none⟩])
  (.seq (.region [⟨some 27, .p (.mv (.tmp 8)), none, none⟩,
  ⟨some 28, .p (.maxI (.const (.int .i64 1)) (.tmp 27)), none, none⟩,
  ⟨some 8, .p (.mv (.tmp 28)), none, none⟩])
  (.seq (.region [⟨some 30, .p (.mv (.tmp 7)), none, none⟩,
  ⟨some 31, .p (.mv (.tmp 8)), none, none⟩,
  ⟨some 32, .e (.call (.func 21) [.tmp 30, .tmp 31]), none, none⟩,
  ⟨some 29, .p (.mv (.tmp 32)), none, none⟩,
  ⟨some 33, .p (.extract (.tmp 29) 0), none, none⟩,
  ⟨some 34, .p (.extract (.tmp 29) 1), none, none⟩,
  ⟨some 9, .p (.mv (.tmp 33)), none, none⟩,
  ⟨some 10, .p (.mv (.tmp 34)), none, none⟩])
  (.seq (.seq (.join [(1, .s), (5, .p), (7, .i .i64), (8, .i .i64), (9, .p), (44, .b)] (.region [⟨some 35, .p (.mv (.tmp 9)), none, none⟩,
  ⟨some 36, .p (.isNil .p false (.tmp 35)), none, none⟩,
  ⟨some 37, .p (.mv (.tmp 36)), none, none⟩,
  ⟨some 38, .p (.mv (.tmp 10)), (some (37, false)), none⟩,
  ⟨some 39, .p (.bin .neq (.tmp 38) (.const (.int .i64 0))), (some (37, false)), none⟩,
  ⟨some 40, .p (.pick (.tmp 37) (.const (.bool true)) (.tmp 39)), none, none⟩,
  ⟨some 41, .p (.mv (.tmp 40)), none, none⟩,
  ⟨some 42, .e (.call (.func 22) []), (some (41, false)), none⟩,
  ⟨some 43, .p (.un .not (.tmp 42)), (some (41, false)), none⟩,
  ⟨some 44, .p (.pick (.tmp 41) (.const (.bool true)) (.tmp 43)), none, none⟩]))
  (.cond (.tmp 44) (.seq (.region [⟨some 6, .p (.mv (.const (.bool false))), none, none⟩])
  (.ret)) (.skip)))
  (.seq (.seq (.join [(1, .s), (5, .p), (7, .i .i64), (8, .i .i64), (9, .p), (51, .b)] (.region [⟨some 45, .p (.mv (.tmp 1)), none, none⟩,
  ⟨some 46, .p (.bin .eql (.tmp 45) (.const (.string ⟨#[]⟩))), none, none⟩,
  ⟨some 47, .p (.mv (.tmp 46)), none, none⟩,
  ⟨some 48, .p (.mv (.tmp 1)), (some (47, false)), none⟩,
  ⟨some 49, .p (.lenS (.tmp 48)), (some (47, false)), none⟩,
  ⟨some 50, .p (.bin .gtr (.tmp 49) (.const (.int .i64 200))), (some (47, false)), none⟩,
  ⟨some 51, .p (.pick (.tmp 47) (.const (.bool true)) (.tmp 50)), none, none⟩]))
  (.cond (.tmp 51) (.seq (.region [⟨some 6, .p (.mv (.const (.bool true))), none, none⟩])
  (.ret)) (.skip)))
  (.seq (.region [⟨some 53, .p (.mv (.tmp 9)), none, none⟩,
  ⟨some 54, .p (.mv (.tmp 1)), none, none⟩,
  ⟨some 55, .e (.call (.func 23) [.tmp 53, .tmp 54]), none, none⟩,
  ⟨some 52, .p (.mv (.tmp 55)), none, none⟩,
  ⟨some 56, .p (.extract (.tmp 52) 0), none, none⟩,
  ⟨some 57, .p (.extract (.tmp 52) 1), none, none⟩,
  ⟨some 11, .p (.mv (.tmp 56)), none, none⟩,
  ⟨some 10, .p (.mv (.tmp 57)), none, none⟩])
  (.seq (.seq (.join [(1, .s), (5, .p), (7, .i .i64), (8, .i .i64), (9, .p), (11, .l), (67, .b)] (.region [⟨some 58, .p (.mv (.tmp 10)), none, none⟩,
  ⟨some 59, .p (.bin .neq (.tmp 58) (.const (.int .i64 0))), none, none⟩,
  ⟨some 60, .p (.mv (.tmp 59)), none, none⟩,
  ⟨some 61, .p (.mv (.tmp 11)), (some (60, false)), none⟩,
  ⟨some 62, .p (.lenL (.tmp 61)), (some (60, false)), none⟩,
  ⟨some 63, .p (.mv (.tmp 7)), (some (60, false)), none⟩,
  ⟨some 64, .p (.mv (.tmp 8)), (some (60, false)), none⟩,
  ⟨some 65, .p (.bin .add (.tmp 63) (.tmp 64)), (some (60, false)), none⟩,
  ⟨some 66, .p (.bin .neq (.tmp 62) (.tmp 65)), (some (60, false)), none⟩,
  ⟨some 67, .p (.pick (.tmp 60) (.const (.bool true)) (.tmp 66)), none, none⟩]))
  (.cond (.tmp 67) (.seq (.region [⟨some 6, .p (.mv (.const (.bool false))), none, none⟩])
  (.ret)) (.skip)))
  (.seq (.region [⟨some 68, .p (.idxA 2 1 (.tmp 5) (.const (.int .i64 0))), none, none⟩,
  ⟨some 69, .l (.load (.i .i64) (.tmp 68)), none, none⟩,
  ⟨some 70, .p (.mv (.tmp 7)), none, none⟩,
  ⟨some 71, .p (.mv (.tmp 8)), none, none⟩,
  ⟨some 72, .p (.bin .add (.tmp 70) (.tmp 71)), none, none⟩,
  ⟨some 73, .e (.call (.func 34) [.tmp 69, .tmp 72]), none, none⟩,
  ⟨some 12, .p (.mv (.tmp 73)), none, none⟩])
  (.seq (.region [⟨some 74, .p (.mv (.tmp 11)), none, none⟩,
  ⟨some 75, .p (.mv (.tmp 12)), none, none⟩,
  ⟨some 76, .p (.idxL 1 (.tmp 74) (.tmp 75)), none, none⟩,
  ⟨some 77, .l (.load (.s) (.tmp 76)), none, none⟩,
  ⟨some 78, .a (.convSB 5 (.tmp 77)), none, none⟩,
  ⟨some 13, .p (.mv (.tmp 78)), none, none⟩])
  (.seq (.region [⟨some 79, .p (.mv (.tmp 13)), none, none⟩,
  ⟨some 80, .p (.idxA 2 1 (.tmp 5) (.const (.int .i64 1))), none, none⟩,
  ⟨some 81, .l (.load (.i .i64) (.tmp 80)), none, none⟩,
  ⟨some 82, .p (.mv (.tmp 13)), none, none⟩,
  ⟨some 83, .p (.lenL (.tmp 82)), none, none⟩,
  ⟨some 84, .e (.call (.func 34) [.tmp 81, .tmp 83]), none, none⟩,
  ⟨some 85, .p (.idxL 1 (.tmp 79) (.tmp 84)), none, none⟩,
  ⟨some 86, .l (.load (.i .u8) (.tmp 85)), none, none⟩,
  ⟨some 87, .p (.bin .xor (.tmp 86) (.const (.int .u8 1))), none, none⟩,
  ⟨some 88, .p (.idxL 1 (.tmp 79) (.tmp 84)), none, none⟩,
  ⟨none, .e (.store none (.tmp 88) (.tmp 87)), none, none⟩])
  (.seq (.region [⟨some 14, .p (.mv (.const (.slice none 0 0))), none, none⟩,
  ⟨some 15, .p (.mv (.const (.slice none 0 0))), none, none⟩])
  (.seq (.region [⟨some 89, .p (.mv (.tmp 14)), none, none⟩,
  ⟨some 90, .p (.mv (.tmp 12)), none, none⟩,
  ⟨some 91, .p (.mv (.tmp 13)), none, none⟩,
  ⟨some 92, .l (.convBS (.tmp 91)), none, none⟩,
  ⟨some 93, .p (.build [.int .i64 0, .string ⟨#[]⟩] [(0, 1, .tmp 90), (1, 1, .tmp 92)]), none, none⟩,
  ⟨some 94, .a (.buildSlice 68 1 (zerosL 1 [.int .i64 0, .string ⟨#[]⟩]) [(0, 2, .tmp 93)]), none, none⟩,
  ⟨some 95, .e (.append 2 24 68 [.int .i64 0, .string ⟨#[]⟩] .slice (.tmp 89) (.tmp 94)), none, none⟩,
  ⟨some 14, .p (.mv (.tmp 95)), none, none⟩])
  (.seq (.join [(1, .s), (9, .p), (11, .l), (12, .i .i64), (14, .l), (15, .l)] (.seq (.region [⟨some 96, .p (.mv (.tmp 11)), none, none⟩,
  ⟨some 97, .p (.lenL (.tmp 96)), none, none⟩,
  ⟨some 98, .p (.mv (.const (.int .i64 0))), none, none⟩])
  (.block 0 (.loop [(1, .s), (7, .i .i64), (9, .p), (11, .l), (12, .i .i64), (14, .l), (15, .l), (97, .i .i64), (98, .i .i64)] (.seq (.region [⟨some 99, .p (.bin .lss (.tmp 98) (.tmp 97)), none, none⟩])
  (.seq (.cond (.tmp 99) (.skip) (.exit 0))
  (.seq (.join [(1, .s), (7, .i .i64), (9, .p), (11, .l), (12, .i .i64), (14, .l), (15, .l), (97, .i .i64), (98, .i .i64)] (.block 1 (.seq (.region [⟨some 100, .p (.mv (.tmp 98)), none, none⟩,
  ⟨some 16, .p (.mv (.tmp 100)), none, none⟩])
  (.seq (.seq (.region [⟨some 101, .p (.mv (.tmp 16)), none, none⟩,
  ⟨some 102, .p (.mv (.tmp 12)), none, none⟩,
  ⟨some 103, .p (.bin .eql (.tmp 101) (.tmp 102)), none, none⟩])
  (.cond (.tmp 103) (.exit 1) (.skip)))
  (.seq (.region [⟨some 104, .p (.mv (.tmp 15)), none, none⟩,
  ⟨some 105, .p (.mv (.tmp 16)), none, none⟩,
  ⟨some 106, .p (.mv (.tmp 11)), none, none⟩,
  ⟨some 107, .p (.mv (.tmp 16)), none, none⟩,
  ⟨some 108, .p (.idxL 1 (.tmp 106) (.tmp 107)), none, none⟩,
  ⟨some 109, .l (.load (.s) (.tmp 108)), none, none⟩,
  ⟨some 110, .p (.build [.int .i64 0, .string ⟨#[]⟩] [(0, 1, .tmp 105), (1, 1, .tmp 109)]), none, none⟩,
  ⟨some 111, .a (.buildSlice 68 1 (zerosL 1 [.int .i64 0, .string ⟨#[]⟩]) [(0, 2, .tmp 110)]), none, none⟩,
  ⟨some 112, .e (.append 2 24 68 [.int .i64 0, .string ⟨#[]⟩] .slice (.tmp 104) (.tmp 111)), none, none⟩,
  ⟨some 15, .p (.mv (.tmp 112)), none, none⟩])
  (.seq (.region [⟨some 113, .p (.mv (.tmp 14)), none, none⟩,
  ⟨some 114, .p (.lenL (.tmp 113)), none, none⟩,
  ⟨some 115, .p (.mv (.tmp 7)), none, none⟩,
  ⟨some 116, .p (.bin .lss (.tmp 114) (.tmp 115)), none, none⟩])
  (.cond (.tmp 116) (.region [⟨some 117, .p (.mv (.tmp 14)), none, none⟩,
  ⟨some 118, .p (.mv (.tmp 16)), none, none⟩,
  ⟨some 119, .p (.mv (.tmp 11)), none, none⟩,
  ⟨some 120, .p (.mv (.tmp 16)), none, none⟩,
  ⟨some 121, .p (.idxL 1 (.tmp 119) (.tmp 120)), none, none⟩,
  ⟨some 122, .l (.load (.s) (.tmp 121)), none, none⟩,
  ⟨some 123, .p (.build [.int .i64 0, .string ⟨#[]⟩] [(0, 1, .tmp 118), (1, 1, .tmp 122)]), none, none⟩,
  ⟨some 124, .a (.buildSlice 68 1 (zerosL 1 [.int .i64 0, .string ⟨#[]⟩]) [(0, 2, .tmp 123)]), none, none⟩,
  ⟨some 125, .e (.append 2 24 68 [.int .i64 0, .string ⟨#[]⟩] .slice (.tmp 117) (.tmp 124)), none, none⟩,
  ⟨some 14, .p (.mv (.tmp 125)), none, none⟩]) (.skip))))))))
  (.region [⟨some 126, .p (.bin .add (.tmp 98) (.const (.int .i64 1))), none, none⟩,
  ⟨some 98, .p (.mv (.tmp 126)), none, none⟩]))))))))
  (.seq (.region [⟨some 128, .p (.mv (.tmp 9)), none, none⟩,
  ⟨some 129, .p (.mv (.tmp 15)), none, none⟩,
  ⟨some 130, .p (.mv (.tmp 1)), none, none⟩,
  ⟨some 131, .p (.lenS (.tmp 130)), none, none⟩,
  ⟨some 132, .e (.call (.func 32) [.tmp 128, .tmp 129, .tmp 131]), none, none⟩,
  ⟨some 127, .p (.mv (.tmp 132)), none, none⟩,
  ⟨some 133, .p (.extract (.tmp 127) 0), none, none⟩,
  ⟨some 134, .p (.extract (.tmp 127) 1), none, none⟩,
  ⟨some 17, .p (.mv (.tmp 133)), none, none⟩,
  ⟨some 10, .p (.mv (.tmp 134)), none, none⟩])
  (.seq (.region [⟨some 136, .p (.mv (.tmp 9)), none, none⟩,
  ⟨some 137, .p (.mv (.tmp 14)), none, none⟩,
  ⟨some 138, .p (.mv (.tmp 1)), none, none⟩,
  ⟨some 139, .p (.lenS (.tmp 138)), none, none⟩,
  ⟨some 140, .e (.call (.func 32) [.tmp 136, .tmp 137, .tmp 139]), none, none⟩,
  ⟨some 135, .p (.mv (.tmp 140)), none, none⟩,
  ⟨some 141, .p (.extract (.tmp 135) 0), none, none⟩,
  ⟨some 142, .p (.extract (.tmp 135) 1), none, none⟩,
  ⟨some 18, .p (.mv (.tmp 141)), none, none⟩,
  ⟨some 19, .p (.mv (.tmp 142)), none, none⟩])
  (.seq (.region [⟨some 144, .p (.mv (.tmp 9)), none, none⟩,
  ⟨some 145, .p (.mv (.tmp 14)), none, none⟩,
  ⟨some 146, .p (.mv (.tmp 1)), none, none⟩,
  ⟨some 147, .p (.lenS (.tmp 146)), none, none⟩,
  ⟨some 148, .p (.mv (.tmp 12)), none, none⟩,
  ⟨some 149, .e (.call (.func 33) [.tmp 144, .tmp 145, .tmp 147, .tmp 148]), none, none⟩,
  ⟨some 143, .p (.mv (.tmp 149)), none, none⟩,
  ⟨some 150, .p (.extract (.tmp 143) 0), none, none⟩,
  ⟨some 151, .p (.extract (.tmp 143) 1), none, none⟩,
  ⟨some 20, .p (.mv (.tmp 150)), none, none⟩,
  ⟨some 21, .p (.mv (.tmp 151)), none, none⟩])
  (.seq (.region [⟨some 152, .p (.mv (.tmp 10)), none, none⟩,
  ⟨some 153, .p (.bin .eql (.tmp 152) (.const (.int .i64 0))), none, none⟩,
  ⟨some 154, .p (.mv (.tmp 153)), none, none⟩,
  ⟨some 155, .p (.mv (.tmp 17)), (some (154, true)), none⟩,
  ⟨some 156, .p (.mv (.tmp 1)), (some (154, true)), none⟩,
  ⟨some 157, .p (.bin .eql (.tmp 155) (.tmp 156)), (some (154, true)), none⟩,
  ⟨some 158, .p (.pick (.tmp 154) (.tmp 157) (.const (.bool false))), none, none⟩,
  ⟨some 159, .p (.mv (.tmp 158)), none, none⟩,
  ⟨some 160, .p (.mv (.tmp 19)), (some (159, true)), none⟩,
  ⟨some 161, .p (.bin .eql (.tmp 160) (.const (.int .i64 0))), (some (159, true)), none⟩,
  ⟨some 162, .p (.pick (.tmp 159) (.tmp 161) (.const (.bool false))), none, none⟩,
  ⟨some 163, .p (.mv (.tmp 162)), none, none⟩,
  ⟨some 164, .p (.mv (.tmp 21)), (some (163, true)), none⟩,
  ⟨some 165, .p (.bin .eql (.tmp 164) (.const (.int .i64 0))), (some (163, true)), none⟩,
  ⟨some 166, .p (.pick (.tmp 163) (.tmp 165) (.const (.bool false))), none, none⟩,
  ⟨some 167, .p (.mv (.tmp 166)), none, none⟩,
  ⟨some 168, .p (.mv (.tmp 18)), (some (167, true)), none⟩,
  ⟨some 169, .p (.mv (.tmp 1)), (some (167, true)), none⟩,
  ⟨some 170, .p (.bin .neq (.tmp 168) (.tmp 169)), (some (167, true)), none⟩,
  ⟨some 171, .p (.mv (.tmp 170)), (some (167, true)), none⟩,
  ⟨some 172, .p (.mv (.tmp 20)), (some (171, false)), none⟩,
  ⟨some 173, .p (.mv (.tmp 11)), (some (171, false)), none⟩,
  ⟨some 174, .p (.mv (.tmp 12)), (some (171, false)), none⟩,
  ⟨some 175, .p (.idxL 1 (.tmp 173) (.tmp 174)), (some (171, false)), none⟩,
  ⟨some 176, .l (.load (.s) (.tmp 175)), (some (171, false)), none⟩,
  ⟨some 177, .p (.bin .eql (.tmp 172) (.tmp 176)), (some (171, false)), none⟩,
  ⟨some 178, .p (.pick (.tmp 171) (.const (.bool true)) (.tmp 177)), (some (167, true)), none⟩,
  ⟨some 179, .p (.pick (.tmp 167) (.tmp 178) (.const (.bool false))), none, none⟩,
  ⟨some 6, .p (.mv (.tmp 179)), none, none⟩])
  (.ret))))))))))))))))))
noncomputable def e_law05_StripeTurned (k : Nat) (D : CallF) : Ent := entOf 8 [(0, .st [.i .i64, .i .i64]), (1, .s), (2, .st [.i .i64, .i .i64])] [(6, .b)] (law05_StripeTurned k D)
theorem q_law05_StripeTurned : (Try.f8.body).bind (rcodeOf Try.prog 0 Try.f8.ntmps) = some (strip r_law05_StripeTurned) := by kernel_rfl
theorem t_law05_StripeTurned (k : Nat) (D : CallF) : curF [(0, .st [.i .i64, .i .i64]), (1, .s), (2, .st [.i .i64, .i .i64])] (fun args h => denF (C_law05_StripeTurned k D) k r_law05_StripeTurned [(6, .b)] [none] args h) = law05_StripeTurned k D := by kernel_rfl
theorem ok_law05_StripeTurned {D : CallF} (hD : CSound Try.prog 0 D) (k : Nat) : EntOk Try.prog 0 (e_law05_StripeTurned k D) :=
  entOf_ok2 (mkC_sound hD (EntsOk.more (ok_law05_shape hD k) (EntsOk.more (ok_stripe_New hD k) (EntsOk.more (ok_stripe_Plan_Split hD k) (EntsOk.more (ok_book_Among hD k) (EntsOk.more (ok_stripe_Plan_Join hD k) (EntsOk.more (ok_stripe_Plan_Shard hD k) (EntsOk.more (ok_law05_works hD k) (EntsOk.none))))))))) Try.func8 rfl q_law05_StripeTurned rfl (t_law05_StripeTurned k D)
end Gb
