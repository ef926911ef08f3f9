import Derived.Test.YtcacldakplomnaaGreatDoorProg
import Derived.Shelf.Strings.OnBuilder
import Derived.Shelf.Strings.Repeat
import Derived.KernelRfl
import Derived.Test.YtcacldakplomnaaGreatDoorGx3
namespace Gz
open Go Gx Go.Proofs
set_option maxRecDepth 100000
noncomputable def C_math_bits_RotateLeft32 (_k : Nat) (D : CallF) : CallF := mkC D []
noncomputable def math_bits_RotateLeft32 (_k : Nat) (_D : CallF) (x_0 : Int) (k_1 : Int) (h : AHeap) : Option ((Int) × AHeap) :=
  (if 0 ≤ (Go.bits .and .u64 (IntKind.wrap .u64 k_1) 31) then
  let t1 : Int := (IntKind.wrap .u32 (x_0 * 2 ^ (min ((Go.bits .and .u64 (IntKind.wrap .u64 k_1) 31)).toNat (IntKind.bits .u32))))
  let t2 : Int := (IntKind.wrap .u64 (32 - (Go.bits .and .u64 (IntKind.wrap .u64 k_1) 31)))
  (if 0 ≤ t2 then
  let t3 : Int := (Go.bits .or .u32 t1 (Int.fdiv x_0 (2 ^ (min (t2).toNat (IntKind.bits .u32)))))
  some (t3, h)
  else none)
  else none)
def r_math_bits_RotateLeft32 : RCode := .seq (.region [⟨some 4, .p (.mv (.const (.int .u32 0))), none, none⟩])
  (.seq (.region [⟨some 6, .p (.mv (.tmp 1)), none, none⟩,
  ⟨some 7, .p (.convI .u64 (.tmp 6)), none, none⟩,
  ⟨some 8, .p (.bin .and (.tmp 7) (.const (.int .u64 31))), none, none⟩,
  ⟨some 5, .p (.mv (.tmp 8)), none, none⟩])
  (.seq (.region [⟨some 9, .p (.mv (.tmp 0)), none, none⟩,
  ⟨some 10, .p (.mv (.tmp 5)), none, none⟩,
  ⟨some 11, .p (.bin .shl (.tmp 9) (.tmp 10)), none, none⟩,
  ⟨some 12, .p (.mv (.tmp 0)), none, none⟩,
  ⟨some 13, .p (.mv (.tmp 5)), none, none⟩,
  ⟨some 14, .p (.bin .sub (.const (.int .u64 32)) (.tmp 13)), none, none⟩,
  ⟨some 15, .p (.bin .shr (.tmp 12) (.tmp 14)), none, none⟩,
  ⟨some 16, .p (.bin .or (.tmp 11) (.tmp 15)), none, none⟩,
  ⟨some 4, .p (.mv (.tmp 16)), none, none⟩])
  (.ret)))
noncomputable def e_math_bits_RotateLeft32 (k : Nat) (D : CallF) : Ent := entOf 101 [(0, .i .u32), (1, .i .i64)] [(4, .i .u32)] (math_bits_RotateLeft32 k D)
theorem q_math_bits_RotateLeft32 : (Tryz.f101.body).bind (rcodeOf Tryz.prog 2 Tryz.f101.ntmps) = some (strip r_math_bits_RotateLeft32) := by kernel_rfl
theorem t_math_bits_RotateLeft32 (k : Nat) (D : CallF) : curF [(0, .i .u32), (1, .i .i64)] (fun args h => denF (C_math_bits_RotateLeft32 k D) k r_math_bits_RotateLeft32 [(4, .i .u32)] [none] args h) = math_bits_RotateLeft32 k D := by kernel_rfl
theorem ok_math_bits_RotateLeft32 {D : CallF} (hD : CSound Tryz.prog 2 D) (k : Nat) : EntOk Tryz.prog 2 (e_math_bits_RotateLeft32 k D) :=
  entOf_ok2 (mkC_sound hD (EntsOk.none)) Tryz.func101 rfl q_math_bits_RotateLeft32 rfl (t_math_bits_RotateLeft32 k D)
end Gz
namespace Gz
open Go Gx Go.Proofs
set_option maxRecDepth 100000
noncomputable def C_sha_spread (k : Nat) (D : CallF) : CallF := mkC D [e_math_bits_RotateLeft32 k D]
noncomputable def sha_spread_l1b (_k : Nat) (_D : CallF) (j4 : (Option Addr) → AHeap → Option (((List Value)) × AHeap)) (rec45 : Slc → (Option Addr) → Int → AHeap → Option (((List Value)) × AHeap)) (b41 : Slc) (w42 : Option Addr) (y43 : Int) (h44 : AHeap) : Option (((List Value)) × AHeap) :=
  (if (decide (y43 < 16)) = true then
  (Gx.idxL 1 b41 (IntKind.wrap .i64 (4 * y43))).bind fun q46 =>
  (ldI .u8 q46 h44).bind fun x47 =>
  (Gx.idxL 1 b41 (IntKind.wrap .i64 ((IntKind.wrap .i64 (4 * y43)) + 1))).bind fun q48 =>
  (ldI .u8 q48 h44).bind fun x49 =>
  let t50 : Int := (Go.bits .or .u32 (IntKind.wrap .u32 ((IntKind.wrap .u32 x47) * 16777216)) (IntKind.wrap .u32 ((IntKind.wrap .u32 x49) * 65536)))
  (Gx.idxL 1 b41 (IntKind.wrap .i64 ((IntKind.wrap .i64 (4 * y43)) + 2))).bind fun q51 =>
  (ldI .u8 q51 h44).bind fun x52 =>
  let t53 : Int := (Go.bits .or .u32 t50 (IntKind.wrap .u32 ((IntKind.wrap .u32 x52) * 256)))
  (Gx.idxL 1 b41 (IntKind.wrap .i64 ((IntKind.wrap .i64 (4 * y43)) + 3))).bind fun q54 =>
  (ldI .u8 q54 h44).bind fun x55 =>
  (w42).bind fun p57 =>
  (Gx.idxA 64 1 p57 y43).bind fun q56 =>
  (st1 q56 (.int .u32 (Go.bits .or .u32 t53 (IntKind.wrap .u32 x55))) h44).bind fun h58 =>
  rec45 b41 w42 (IntKind.wrap .i64 (y43 + 1)) h58
  else
  j4 w42 h44)
noncomputable def sha_spread_l1 (k : Nat) (D : CallF) (j4 : (Option Addr) → AHeap → Option (((List Value)) × AHeap)) : Slc → (Option Addr) → Int → AHeap → Option (((List Value)) × AHeap) :=
  iterK (α := Slc → (Option Addr) → Int → AHeap → Option (((List Value)) × AHeap)) (fun _ _ _ _ => none) k (sha_spread_l1b k D j4)
noncomputable def sha_spread_l0b (k : Nat) (D : CallF) (j7 : (Option Addr) → AHeap → Option (((List Value)) × AHeap)) (rec18 : (Option Addr) → Int → AHeap → Option (((List Value)) × AHeap)) (w15 : Option Addr) (i16 : Int) (h17 : AHeap) : Option (((List Value)) × AHeap) :=
  (if (decide (i16 < 64)) = true then
  (w15).bind fun p20 =>
  (Gx.idxA 64 1 p20 (IntKind.wrap .i64 (i16 - 15))).bind fun q19 =>
  (ldI .u32 q19 h17).bind fun x21 =>
  (w15).bind fun p23 =>
  (Gx.idxA 64 1 p23 (IntKind.wrap .i64 (i16 - 2))).bind fun q22 =>
  (ldI .u32 q22 h17).bind fun x24 =>
  (math_bits_RotateLeft32 k D x21 (-7) h17).bind fun r25 =>
  (math_bits_RotateLeft32 k D x21 (-18) r25.2).bind fun r26 =>
  let t27 : Int := (Go.bits .xor .u32 (Go.bits .xor .u32 r25.1 r26.1) (Int.fdiv x21 8))
  (math_bits_RotateLeft32 k D x24 (-17) r26.2).bind fun r28 =>
  (math_bits_RotateLeft32 k D x24 (-19) r28.2).bind fun r29 =>
  let t30 : Int := (Go.bits .xor .u32 (Go.bits .xor .u32 r28.1 r29.1) (Int.fdiv x24 1024))
  (w15).bind fun p32 =>
  (Gx.idxA 64 1 p32 (IntKind.wrap .i64 (i16 - 16))).bind fun q31 =>
  (ldI .u32 q31 r29.2).bind fun x33 =>
  (w15).bind fun p35 =>
  (Gx.idxA 64 1 p35 (IntKind.wrap .i64 (i16 - 7))).bind fun q34 =>
  (ldI .u32 q34 r29.2).bind fun x36 =>
  let t37 : Int := (IntKind.wrap .u32 ((IntKind.wrap .u32 ((IntKind.wrap .u32 (x33 + t27)) + x36)) + t30))
  (w15).bind fun p39 =>
  (Gx.idxA 64 1 p39 i16).bind fun q38 =>
  (st1 q38 (.int .u32 t37) r29.2).bind fun h40 =>
  rec18 w15 (IntKind.wrap .i64 (i16 + 1)) h40
  else
  j7 w15 h17)
noncomputable def sha_spread_l0 (k : Nat) (D : CallF) (j7 : (Option Addr) → AHeap → Option (((List Value)) × AHeap)) : (Option Addr) → Int → AHeap → Option (((List Value)) × AHeap) :=
  iterK (α := (Option Addr) → Int → AHeap → Option (((List Value)) × AHeap)) (fun _ _ _ => none) k (sha_spread_l0b k D j7)
noncomputable def sha_spread (k : Nat) (D : CallF) (b_0 : Slc) (h : AHeap) : Option (((List Value)) × AHeap) :=
  let h1 := AHeap.new h (.cells (List.replicate 64 (.int .u32 0)) 159 true 0)
  joinK (fun (w2 : Option Addr) (h3 : AHeap) =>
  joinK (fun (w5 : Option Addr) (h6 : AHeap) =>
  (w5).bind fun p8 =>
  (ldA 64 p8 h6).bind fun l9 =>
  (w5).bind fun p10 =>
  (stL 64 p10 l9 h6).bind fun h11 =>
  (w5).bind fun p12 =>
  (ldA 64 p12 h11).bind fun l13 =>
  (decA 64 (.agg ⟨l13⟩)).bind fun l14 =>
  some (l14, h11)) fun j7 =>
  sha_spread_l0 k D j7 w2 16 h3) fun j4 =>
  sha_spread_l1 k D j4 b_0 (some (⟨h.next, 0, none⟩ : Addr)) 0 h1
def r_sha_spread : RCode := .seq (.region [⟨some 2, .a (.alloc 159 (List.replicate 64 (.int .u32 0))), none, none⟩])
  (.seq (.join [(2, .p)] (.seq (.region [⟨some 7, .p (.mv (.const (.int .i64 0))), none, none⟩])
  (.block 0 (.loop [(0, .l), (2, .p), (7, .i .i64)] (.seq (.region [⟨some 8, .p (.bin .lss (.tmp 7) (.const (.int .i64 16))), none, none⟩])
  (.seq (.cond (.tmp 8) (.skip) (.exit 0))
  (.seq (.block 1 (.seq (.region [⟨some 9, .p (.mv (.tmp 7)), none, none⟩,
  ⟨some 3, .p (.mv (.tmp 9)), none, none⟩])
  (.draw [⟨0, ⟨some 10, .p (.mv (.tmp 3)), none, none⟩, [3], 0⟩,
  ⟨1, ⟨some 11, .p (.mv (.tmp 0)), none, none⟩, [0], 0⟩,
  ⟨2, ⟨some 12, .p (.mv (.tmp 3)), none, none⟩, [3], 0⟩,
  ⟨3, ⟨some 13, .p (.bin .mul (.const (.int .i64 4)) (.tmp 12)), none, none⟩, [12], 0⟩,
  ⟨4, ⟨some 14, .p (.idxL 1 (.tmp 11) (.tmp 13)), none, none⟩, [11, 13], 0⟩,
  ⟨5, ⟨some 15, .l (.load (.i .u8) (.tmp 14)), none, none⟩, [14], 0⟩,
  ⟨6, ⟨some 16, .p (.convI .u32 (.tmp 15)), none, none⟩, [15], 0⟩,
  ⟨7, ⟨some 17, .p (.bin .shl (.tmp 16) (.const (.int .u64 24))), none, none⟩, [16], 0⟩,
  ⟨8, ⟨some 18, .p (.mv (.tmp 0)), none, none⟩, [0], 0⟩,
  ⟨9, ⟨some 19, .p (.mv (.tmp 3)), none, none⟩, [3], 0⟩,
  ⟨10, ⟨some 20, .p (.bin .mul (.const (.int .i64 4)) (.tmp 19)), none, none⟩, [19], 0⟩,
  ⟨11, ⟨some 21, .p (.bin .add (.tmp 20) (.const (.int .i64 1))), none, none⟩, [20], 0⟩,
  ⟨12, ⟨some 22, .p (.idxL 1 (.tmp 18) (.tmp 21)), none, none⟩, [18, 21], 0⟩,
  ⟨13, ⟨some 23, .l (.load (.i .u8) (.tmp 22)), none, none⟩, [22], 0⟩,
  ⟨14, ⟨some 24, .p (.convI .u32 (.tmp 23)), none, none⟩, [23], 0⟩,
  ⟨15, ⟨some 25, .p (.bin .shl (.tmp 24) (.const (.int .u64 16))), none, none⟩, [24], 0⟩,
  ⟨16, ⟨some 26, .p (.bin .or (.tmp 17) (.tmp 25)), none, none⟩, [17, 25], 0⟩,
  ⟨17, ⟨some 27, .p (.mv (.tmp 0)), none, none⟩, [0], 0⟩,
  ⟨18, ⟨some 28, .p (.mv (.tmp 3)), none, none⟩, [3], 0⟩,
  ⟨19, ⟨some 29, .p (.bin .mul (.const (.int .i64 4)) (.tmp 28)), none, none⟩, [28], 0⟩,
  ⟨20, ⟨some 30, .p (.bin .add (.tmp 29) (.const (.int .i64 2))), none, none⟩, [29], 0⟩,
  ⟨21, ⟨some 31, .p (.idxL 1 (.tmp 27) (.tmp 30)), none, none⟩, [27, 30], 0⟩,
  ⟨22, ⟨some 32, .l (.load (.i .u8) (.tmp 31)), none, none⟩, [31], 0⟩,
  ⟨23, ⟨some 33, .p (.convI .u32 (.tmp 32)), none, none⟩, [32], 0⟩,
  ⟨24, ⟨some 34, .p (.bin .shl (.tmp 33) (.const (.int .u64 8))), none, none⟩, [33], 0⟩,
  ⟨25, ⟨some 35, .p (.bin .or (.tmp 26) (.tmp 34)), none, none⟩, [26, 34], 0⟩,
  ⟨26, ⟨some 36, .p (.mv (.tmp 0)), none, none⟩, [0], 0⟩,
  ⟨27, ⟨some 37, .p (.mv (.tmp 3)), none, none⟩, [3], 0⟩,
  ⟨28, ⟨some 38, .p (.bin .mul (.const (.int .i64 4)) (.tmp 37)), none, none⟩, [37], 0⟩,
  ⟨29, ⟨some 39, .p (.bin .add (.tmp 38) (.const (.int .i64 3))), none, none⟩, [38], 0⟩,
  ⟨30, ⟨some 40, .p (.idxL 1 (.tmp 36) (.tmp 39)), none, none⟩, [36, 39], 0⟩,
  ⟨31, ⟨some 41, .l (.load (.i .u8) (.tmp 40)), none, none⟩, [40], 0⟩,
  ⟨32, ⟨some 42, .p (.convI .u32 (.tmp 41)), none, none⟩, [41], 0⟩,
  ⟨33, ⟨some 43, .p (.bin .or (.tmp 35) (.tmp 42)), none, none⟩, [35, 42], 0⟩,
  ⟨34, ⟨some 44, .p (.idxA 64 1 (.tmp 2) (.tmp 10)), none, none⟩, [2, 10], 0⟩,
  ⟨35, ⟨none, .e (.store none (.tmp 44) (.tmp 43)), none, none⟩, [44, 43], 0⟩])))
  (.region [⟨some 45, .p (.bin .add (.tmp 7) (.const (.int .i64 1))), none, none⟩,
  ⟨some 7, .p (.mv (.tmp 45)), none, none⟩]))))))))
  (.seq (.join [(2, .p)] (.seq (.region [⟨some 4, .p (.mv (.const (.int .i64 16))), none, none⟩])
  (.block 2 (.loop [(2, .p), (4, .i .i64)] (.seq (.seq (.region [⟨some 46, .p (.mv (.tmp 4)), none, none⟩,
  ⟨some 47, .p (.bin .lss (.tmp 46) (.const (.int .i64 64))), none, none⟩])
  (.cond (.tmp 47) (.skip) (.exit 2)))
  (.seq (.block 3 (.seq (.draw [⟨0, ⟨some 50, .p (.mv (.tmp 4)), none, none⟩, [4], 0⟩,
  ⟨1, ⟨some 51, .p (.bin .sub (.tmp 50) (.const (.int .i64 15))), none, none⟩, [50], 0⟩,
  ⟨2, ⟨some 52, .p (.idxA 64 1 (.tmp 2) (.tmp 51)), none, none⟩, [2, 51], 0⟩,
  ⟨3, ⟨some 53, .l (.load (.i .u32) (.tmp 52)), none, none⟩, [52], 0⟩,
  ⟨4, ⟨some 54, .p (.mv (.tmp 4)), none, none⟩, [4], 0⟩,
  ⟨5, ⟨some 55, .p (.bin .sub (.tmp 54) (.const (.int .i64 2))), none, none⟩, [54], 0⟩,
  ⟨6, ⟨some 56, .p (.idxA 64 1 (.tmp 2) (.tmp 55)), none, none⟩, [2, 55], 0⟩,
  ⟨7, ⟨some 57, .l (.load (.i .u32) (.tmp 56)), none, none⟩, [56], 0⟩,
  ⟨8, ⟨some 5, .p (.mv (.tmp 53)), none, none⟩, [53], 0⟩,
  ⟨9, ⟨some 6, .p (.mv (.tmp 57)), none, none⟩, [57], 0⟩])
  (.seq (.region [⟨some 58, .p (.mv (.tmp 5)), none, none⟩,
  ⟨some 59, .e (.call (.func 101) [.tmp 58, .const (.int .i64 (-7))]), none, none⟩,
  ⟨some 60, .p (.mv (.tmp 5)), none, none⟩,
  ⟨some 61, .e (.call (.func 101) [.tmp 60, .const (.int .i64 (-18))]), none, none⟩,
  ⟨some 62, .p (.bin .xor (.tmp 59) (.tmp 61)), none, none⟩,
  ⟨some 63, .p (.mv (.tmp 5)), none, none⟩,
  ⟨some 64, .p (.bin .shr (.tmp 63) (.const (.int .u64 3))), none, none⟩,
  ⟨some 65, .p (.bin .xor (.tmp 62) (.tmp 64)), none, none⟩,
  ⟨some 5, .p (.mv (.tmp 65)), none, none⟩])
  (.seq (.region [⟨some 66, .p (.mv (.tmp 6)), none, none⟩,
  ⟨some 67, .e (.call (.func 101) [.tmp 66, .const (.int .i64 (-17))]), none, none⟩,
  ⟨some 68, .p (.mv (.tmp 6)), none, none⟩,
  ⟨some 69, .e (.call (.func 101) [.tmp 68, .const (.int .i64 (-19))]), none, none⟩,
  ⟨some 70, .p (.bin .xor (.tmp 67) (.tmp 69)), none, none⟩,
  ⟨some 71, .p (.mv (.tmp 6)), none, none⟩,
  ⟨some 72, .p (.bin .shr (.tmp 71) (.const (.int .u64 10))), none, none⟩,
  ⟨some 73, .p (.bin .xor (.tmp 70) (.tmp 72)), none, none⟩,
  ⟨some 6, .p (.mv (.tmp 73)), none, none⟩])
  (.draw [⟨0, ⟨some 74, .p (.mv (.tmp 4)), none, none⟩, [4], 0⟩,
  ⟨1, ⟨some 75, .p (.mv (.tmp 4)), none, none⟩, [4], 0⟩,
  ⟨2, ⟨some 76, .p (.bin .sub (.tmp 75) (.const (.int .i64 16))), none, none⟩, [75], 0⟩,
  ⟨3, ⟨some 77, .p (.idxA 64 1 (.tmp 2) (.tmp 76)), none, none⟩, [2, 76], 0⟩,
  ⟨4, ⟨some 78, .l (.load (.i .u32) (.tmp 77)), none, none⟩, [77], 0⟩,
  ⟨5, ⟨some 79, .p (.mv (.tmp 5)), none, none⟩, [5], 0⟩,
  ⟨6, ⟨some 80, .p (.bin .add (.tmp 78) (.tmp 79)), none, none⟩, [78, 79], 0⟩,
  ⟨7, ⟨some 81, .p (.mv (.tmp 4)), none, none⟩, [4], 0⟩,
  ⟨8, ⟨some 82, .p (.bin .sub (.tmp 81) (.const (.int .i64 7))), none, none⟩, [81], 0⟩,
  ⟨9, ⟨some 83, .p (.idxA 64 1 (.tmp 2) (.tmp 82)), none, none⟩, [2, 82], 0⟩,
  ⟨10, ⟨some 84, .l (.load (.i .u32) (.tmp 83)), none, none⟩, [83], 0⟩,
  ⟨11, ⟨some 85, .p (.bin .add (.tmp 80) (.tmp 84)), none, none⟩, [80, 84], 0⟩,
  ⟨12, ⟨some 86, .p (.mv (.tmp 6)), none, none⟩, [6], 0⟩,
  ⟨13, ⟨some 87, .p (.bin .add (.tmp 85) (.tmp 86)), none, none⟩, [85, 86], 0⟩,
  ⟨14, ⟨some 88, .p (.idxA 64 1 (.tmp 2) (.tmp 74)), none, none⟩, [2, 74], 0⟩,
  ⟨15, ⟨none, .e (.store none (.tmp 88) (.tmp 87)), none, none⟩, [88, 87], 0⟩])))))
  (.region [⟨some 48, .p (.mv (.tmp 4)), none, none⟩,
  ⟨some 49, .p (.bin .add (.tmp 48) (.const (.int .i64 1))), none, none⟩,
  ⟨some 4, .p (.mv (.tmp 49)), none, none⟩])))))))
  (.seq (.region [⟨some 89, .l (.load (.agg 64) (.tmp 2)), none, none⟩,
  ⟨none, .e (.store (some 64) (.tmp 2) (.tmp 89)), none, none⟩])
  (.ret))))
noncomputable def e_sha_spread (k : Nat) (D : CallF) : Ent := entOf 100 [(0, .l)] [(2, .agg 64)] (sha_spread k D)
theorem q_sha_spread : (Tryz.f100.body).bind (rcodeOf Tryz.prog 2 Tryz.f100.ntmps) = some (strip r_sha_spread) := by kernel_rfl
theorem t_sha_spread (k : Nat) (D : CallF) : curF [(0, .l)] (fun args h => denF (C_sha_spread k D) k r_sha_spread [(2, .agg 64)] [some (.agg 64)] args h) = sha_spread k D := by kernel_rfl
theorem ok_sha_spread {D : CallF} (hD : CSound Tryz.prog 2 D) (k : Nat) : EntOk Tryz.prog 2 (e_sha_spread k D) :=
  entOf_ok2 (mkC_sound hD (EntsOk.more (ok_math_bits_RotateLeft32 hD k) (EntsOk.none))) Tryz.func100 rfl q_sha_spread rfl (t_sha_spread k D)
end Gz
namespace Gz
open Go Gx Go.Proofs
set_option maxRecDepth 100000
noncomputable def C_sha_Hash_take (k : Nat) (D : CallF) : CallF := mkC D [e_sha_spread k D, e_math_bits_RotateLeft32 k D]
noncomputable def sha_Hash_take_l1b (k : Nat) (D : CallF) (j38 : (Option Addr) → Int → Int → Int → Int → Int → Int → Int → Int → AHeap → Option ((Unit) × AHeap)) (rec64 : (Option Addr) → (Option Addr) → Int → Int → Int → Int → Int → Int → Int → Int → Int → AHeap → Option ((Unit) × AHeap)) (hv52 : Option Addr) (w53 : Option Addr) (a54 : Int) (b55 : Int) (c56 : Int) (d57 : Int) (e58 : Int) (f59 : Int) (g60 : Int) (last61 : Int) (y62 : Int) (h63 : AHeap) : Option ((Unit) × AHeap) :=
  (if (decide (y62 < 64)) = true then
  (math_bits_RotateLeft32 k D e58 (-6) h63).bind fun r65 =>
  (math_bits_RotateLeft32 k D e58 (-11) r65.2).bind fun r66 =>
  (math_bits_RotateLeft32 k D e58 (-25) r66.2).bind fun r67 =>
  let t68 : Int := (IntKind.wrap .u32 (last61 + (Go.bits .xor .u32 (Go.bits .xor .u32 r65.1 r66.1) r67.1)))
  let t69 : Int := (Go.bits .and .u32 (Go.bits .xor .u32 (IntKind.max .u32) e58) g60)
  let t70 : Int := (IntKind.wrap .u32 (t68 + (Go.bits .xor .u32 (Go.bits .and .u32 e58 f59) t69)))
  (Gx.idxA 64 1 (⟨0, 0, none⟩ : Addr) y62).bind fun q71 =>
  (ldI .u32 q71 r67.2).bind fun x72 =>
  (w53).bind fun p74 =>
  (Gx.idxA 64 1 p74 y62).bind fun q73 =>
  (ldI .u32 q73 r67.2).bind fun x75 =>
  (math_bits_RotateLeft32 k D a54 (-2) r67.2).bind fun r76 =>
  (math_bits_RotateLeft32 k D a54 (-13) r76.2).bind fun r77 =>
  (math_bits_RotateLeft32 k D a54 (-22) r77.2).bind fun r78 =>
  let t79 : Int := (Go.bits .xor .u32 (Go.bits .and .u32 a54 b55) (Go.bits .and .u32 a54 c56))
  let t80 : Int := (IntKind.wrap .u32 ((Go.bits .xor .u32 (Go.bits .xor .u32 r76.1 r77.1) r78.1) + (Go.bits .xor .u32 t79 (Go.bits .and .u32 b55 c56))))
  let t81 : Int := (IntKind.wrap .u32 (d57 + (IntKind.wrap .u32 ((IntKind.wrap .u32 (t70 + x72)) + x75))))
  let t82 : Int := (IntKind.wrap .u32 ((IntKind.wrap .u32 ((IntKind.wrap .u32 (t70 + x72)) + x75)) + t80))
  rec64 hv52 w53 t82 a54 b55 c56 t81 e58 f59 g60 (IntKind.wrap .i64 (y62 + 1)) r78.2
  else
  j38 hv52 a54 b55 c56 d57 e58 f59 g60 last61 h63)
noncomputable def sha_Hash_take_l1 (k : Nat) (D : CallF) (j38 : (Option Addr) → Int → Int → Int → Int → Int → Int → Int → Int → AHeap → Option ((Unit) × AHeap)) : (Option Addr) → (Option Addr) → Int → Int → Int → Int → Int → Int → Int → Int → Int → AHeap → Option ((Unit) × AHeap) :=
  iterK (α := (Option Addr) → (Option Addr) → Int → Int → Int → Int → Int → Int → Int → Int → Int → AHeap → Option ((Unit) × AHeap)) (fun _ _ _ _ _ _ _ _ _ _ _ _ => none) k (sha_Hash_take_l1b k D j38)
noncomputable def sha_Hash_take_l0b (_k : Nat) (_D : CallF)  (rec43 : (Option Addr) → (Int × Int × Int × Int × Int × Int × Int × Int) → Int → AHeap → Option ((Unit) × AHeap)) (hv39 : Option Addr) (y40 : Int × Int × Int × Int × Int × Int × Int × Int) (y41 : Int) (h42 : AHeap) : Option ((Unit) × AHeap) :=
  (if (decide (y41 < 8)) = true then
  (if 0 ≤ y41 ∧ y41 < ((8 : Nat) : Int) then
  (([.int .u32 y40.1, .int .u32 y40.2.1, .int .u32 y40.2.2.1, .int .u32 y40.2.2.2.1, .int .u32 y40.2.2.2.2.1, .int .u32 y40.2.2.2.2.2.1, .int .u32 y40.2.2.2.2.2.2.1, .int .u32 y40.2.2.2.2.2.2.2])[(y41).toNat * 1]?).bind fun v44 =>
  (decI .u32 v44).bind fun x45 =>
  (hv39).bind fun p46 =>
  (Gx.idxA 8 1 (⟨p46.block, p46.off + 0, none⟩ : Addr) y41).bind fun q47 =>
  (ldI .u32 q47 h42).bind fun x48 =>
  (hv39).bind fun p49 =>
  (Gx.idxA 8 1 (⟨p49.block, p49.off + 0, none⟩ : Addr) y41).bind fun q50 =>
  (st1 q50 (.int .u32 (IntKind.wrap .u32 (x48 + x45))) h42).bind fun h51 =>
  rec43 hv39 (y40.1, y40.2.1, y40.2.2.1, y40.2.2.2.1, y40.2.2.2.2.1, y40.2.2.2.2.2.1, y40.2.2.2.2.2.2.1, y40.2.2.2.2.2.2.2) (IntKind.wrap .i64 (y41 + 1)) h51
  else none)
  else
  some ((), h42))
noncomputable def sha_Hash_take_l0 (k : Nat) (D : CallF)  : (Option Addr) → (Int × Int × Int × Int × Int × Int × Int × Int) → Int → AHeap → Option ((Unit) × AHeap) :=
  iterK (α := (Option Addr) → (Int × Int × Int × Int × Int × Int × Int × Int) → Int → AHeap → Option ((Unit) × AHeap)) (fun _ _ _ _ => none) k (sha_Hash_take_l0b k D )
noncomputable def sha_Hash_take (k : Nat) (D : CallF) (h_0 : Option Addr) (block_1 : Slc) (h : AHeap) : Option ((Unit) × AHeap) :=
  (sha_spread k D block_1 h).bind fun r1 =>
  let h2 := AHeap.new r1.2 (.cells (List.replicate 64 (.int .u32 0)) 159 true 0)
  (stL 64 (⟨r1.2.next, 0, none⟩ : Addr) r1.1 h2).bind fun h3 =>
  (h_0).bind fun p4 =>
  (ldI .u32 (⟨p4.block, p4.off + 0 + 0, none⟩ : Addr) h3).bind fun x6 =>
  (h_0).bind fun p7 =>
  (ldI .u32 (⟨p7.block, p7.off + 0 + 1, none⟩ : Addr) h3).bind fun x9 =>
  (h_0).bind fun p10 =>
  (ldI .u32 (⟨p10.block, p10.off + 0 + 2, none⟩ : Addr) h3).bind fun x12 =>
  (h_0).bind fun p13 =>
  (ldI .u32 (⟨p13.block, p13.off + 0 + 3, none⟩ : Addr) h3).bind fun x15 =>
  (h_0).bind fun p16 =>
  (ldI .u32 (⟨p16.block, p16.off + 0 + 4, none⟩ : Addr) h3).bind fun x18 =>
  (h_0).bind fun p19 =>
  (ldI .u32 (⟨p19.block, p19.off + 0 + 5, none⟩ : Addr) h3).bind fun x21 =>
  (h_0).bind fun p22 =>
  (ldI .u32 (⟨p22.block, p22.off + 0 + 6, none⟩ : Addr) h3).bind fun x24 =>
  (h_0).bind fun p25 =>
  (ldI .u32 (⟨p25.block, p25.off + 0 + 7, none⟩ : Addr) h3).bind fun x27 =>
  joinK (fun (hv28 : Option Addr) (a29 : Int) (b30 : Int) (c31 : Int) (d32 : Int) (e33 : Int) (f34 : Int) (g35 : Int) (last36 : Int) (h37 : AHeap) =>
  sha_Hash_take_l0 k D hv28 (a29, b30, c31, d32, e33, f34, g35, last36) 0 h37) fun j38 =>
  sha_Hash_take_l1 k D j38 h_0 (some (⟨r1.2.next, 0, none⟩ : Addr)) x6 x9 x12 x15 x18 x21 x24 x27 0 h3
def r_sha_Hash_take : RCode := .seq (.region [⟨some 20, .p (.mv (.tmp 1)), none, none⟩,
  ⟨some 21, .e (.call (.func 100) [.tmp 20]), none, none⟩,
  ⟨some 4, .a (.alloc 159 (List.replicate 64 (.int .u32 0))), none, none⟩,
  ⟨none, .e (.store (some 64) (.tmp 4) (.tmp 21)), none, none⟩])
  (.seq (.draw [⟨0, ⟨some 22, .p (.mv (.tmp 0)), none, none⟩, [0], 0⟩,
  ⟨1, ⟨some 23, .p (.nilP (.tmp 22)), none, none⟩, [22], 0⟩,
  ⟨2, ⟨some 24, .p (.fieldAddr 0 (.tmp 23)), none, none⟩, [23], 0⟩,
  ⟨3, ⟨some 25, .p (.idxA 8 1 (.tmp 24) (.const (.int .i64 0))), none, none⟩, [24], 0⟩,
  ⟨4, ⟨some 26, .l (.load (.i .u32) (.tmp 25)), none, none⟩, [25], 0⟩,
  ⟨5, ⟨some 27, .p (.mv (.tmp 0)), none, none⟩, [0], 0⟩,
  ⟨6, ⟨some 28, .p (.nilP (.tmp 27)), none, none⟩, [27], 0⟩,
  ⟨7, ⟨some 29, .p (.fieldAddr 0 (.tmp 28)), none, none⟩, [28], 0⟩,
  ⟨8, ⟨some 30, .p (.idxA 8 1 (.tmp 29) (.const (.int .i64 1))), none, none⟩, [29], 0⟩,
  ⟨9, ⟨some 31, .l (.load (.i .u32) (.tmp 30)), none, none⟩, [30], 0⟩,
  ⟨10, ⟨some 32, .p (.mv (.tmp 0)), none, none⟩, [0], 0⟩,
  ⟨11, ⟨some 33, .p (.nilP (.tmp 32)), none, none⟩, [32], 0⟩,
  ⟨12, ⟨some 34, .p (.fieldAddr 0 (.tmp 33)), none, none⟩, [33], 0⟩,
  ⟨13, ⟨some 35, .p (.idxA 8 1 (.tmp 34) (.const (.int .i64 2))), none, none⟩, [34], 0⟩,
  ⟨14, ⟨some 36, .l (.load (.i .u32) (.tmp 35)), none, none⟩, [35], 0⟩,
  ⟨15, ⟨some 37, .p (.mv (.tmp 0)), none, none⟩, [0], 0⟩,
  ⟨16, ⟨some 38, .p (.nilP (.tmp 37)), none, none⟩, [37], 0⟩,
  ⟨17, ⟨some 39, .p (.fieldAddr 0 (.tmp 38)), none, none⟩, [38], 0⟩,
  ⟨18, ⟨some 40, .p (.idxA 8 1 (.tmp 39) (.const (.int .i64 3))), none, none⟩, [39], 0⟩,
  ⟨19, ⟨some 41, .l (.load (.i .u32) (.tmp 40)), none, none⟩, [40], 0⟩,
  ⟨20, ⟨some 5, .p (.mv (.tmp 26)), none, none⟩, [26], 0⟩,
  ⟨21, ⟨some 6, .p (.mv (.tmp 31)), none, none⟩, [31], 0⟩,
  ⟨22, ⟨some 7, .p (.mv (.tmp 36)), none, none⟩, [36], 0⟩,
  ⟨23, ⟨some 8, .p (.mv (.tmp 41)), none, none⟩, [41], 0⟩])
  (.seq (.draw [⟨0, ⟨some 42, .p (.mv (.tmp 0)), none, none⟩, [0], 0⟩,
  ⟨1, ⟨some 43, .p (.nilP (.tmp 42)), none, none⟩, [42], 0⟩,
  ⟨2, ⟨some 44, .p (.fieldAddr 0 (.tmp 43)), none, none⟩, [43], 0⟩,
  ⟨3, ⟨some 45, .p (.idxA 8 1 (.tmp 44) (.const (.int .i64 4))), none, none⟩, [44], 0⟩,
  ⟨4, ⟨some 46, .l (.load (.i .u32) (.tmp 45)), none, none⟩, [45], 0⟩,
  ⟨5, ⟨some 47, .p (.mv (.tmp 0)), none, none⟩, [0], 0⟩,
  ⟨6, ⟨some 48, .p (.nilP (.tmp 47)), none, none⟩, [47], 0⟩,
  ⟨7, ⟨some 49, .p (.fieldAddr 0 (.tmp 48)), none, none⟩, [48], 0⟩,
  ⟨8, ⟨some 50, .p (.idxA 8 1 (.tmp 49) (.const (.int .i64 5))), none, none⟩, [49], 0⟩,
  ⟨9, ⟨some 51, .l (.load (.i .u32) (.tmp 50)), none, none⟩, [50], 0⟩,
  ⟨10, ⟨some 52, .p (.mv (.tmp 0)), none, none⟩, [0], 0⟩,
  ⟨11, ⟨some 53, .p (.nilP (.tmp 52)), none, none⟩, [52], 0⟩,
  ⟨12, ⟨some 54, .p (.fieldAddr 0 (.tmp 53)), none, none⟩, [53], 0⟩,
  ⟨13, ⟨some 55, .p (.idxA 8 1 (.tmp 54) (.const (.int .i64 6))), none, none⟩, [54], 0⟩,
  ⟨14, ⟨some 56, .l (.load (.i .u32) (.tmp 55)), none, none⟩, [55], 0⟩,
  ⟨15, ⟨some 57, .p (.mv (.tmp 0)), none, none⟩, [0], 0⟩,
  ⟨16, ⟨some 58, .p (.nilP (.tmp 57)), none, none⟩, [57], 0⟩,
  ⟨17, ⟨some 59, .p (.fieldAddr 0 (.tmp 58)), none, none⟩, [58], 0⟩,
  ⟨18, ⟨some 60, .p (.idxA 8 1 (.tmp 59) (.const (.int .i64 7))), none, none⟩, [59], 0⟩,
  ⟨19, ⟨some 61, .l (.load (.i .u32) (.tmp 60)), none, none⟩, [60], 0⟩,
  ⟨20, ⟨some 9, .p (.mv (.tmp 46)), none, none⟩, [46], 0⟩,
  ⟨21, ⟨some 10, .p (.mv (.tmp 51)), none, none⟩, [51], 0⟩,
  ⟨22, ⟨some 11, .p (.mv (.tmp 56)), none, none⟩, [56], 0⟩,
  ⟨23, ⟨some 12, .p (.mv (.tmp 61)), none, none⟩, [61], 0⟩])
  (.seq (.join [(0, .p), (5, .i .u32), (6, .i .u32), (7, .i .u32), (8, .i .u32), (9, .i .u32), (10, .i .u32), (11, .i .u32), (12, .i .u32)] (.seq (.region [⟨some 62, .p (.mv (.const (.int .i64 0))), none, none⟩])
  (.block 0 (.loop [(0, .p), (4, .p), (5, .i .u32), (6, .i .u32), (7, .i .u32), (8, .i .u32), (9, .i .u32), (10, .i .u32), (11, .i .u32), (12, .i .u32), (62, .i .i64)] (.seq (.region [⟨some 63, .p (.bin .lss (.tmp 62) (.const (.int .i64 64))), none, none⟩])
  (.seq (.cond (.tmp 63) (.skip) (.exit 0))
  (.seq (.block 1 (.seq (.region [⟨some 64, .p (.mv (.tmp 62)), none, none⟩,
  ⟨some 13, .p (.mv (.tmp 64)), none, none⟩])
  (.seq (.region [⟨some 65, .p (.mv (.tmp 9)), none, none⟩,
  ⟨some 66, .e (.call (.func 101) [.tmp 65, .const (.int .i64 (-6))]), none, none⟩,
  ⟨some 67, .p (.mv (.tmp 9)), none, none⟩,
  ⟨some 68, .e (.call (.func 101) [.tmp 67, .const (.int .i64 (-11))]), none, none⟩,
  ⟨some 69, .p (.bin .xor (.tmp 66) (.tmp 68)), none, none⟩,
  ⟨some 70, .p (.mv (.tmp 9)), none, none⟩,
  ⟨some 71, .e (.call (.func 101) [.tmp 70, .const (.int .i64 (-25))]), none, none⟩,
  ⟨some 72, .p (.bin .xor (.tmp 69) (.tmp 71)), none, none⟩,
  ⟨some 14, .p (.mv (.tmp 72)), none, none⟩])
  (.seq (.draw [⟨0, ⟨some 73, .p (.mv (.tmp 12)), none, none⟩, [12], 0⟩,
  ⟨1, ⟨some 74, .p (.mv (.tmp 14)), none, none⟩, [14], 0⟩,
  ⟨2, ⟨some 75, .p (.bin .add (.tmp 73) (.tmp 74)), none, none⟩, [73, 74], 0⟩,
  ⟨3, ⟨some 76, .p (.mv (.tmp 9)), none, none⟩, [9], 0⟩,
  ⟨4, ⟨some 77, .p (.mv (.tmp 10)), none, none⟩, [10], 0⟩,
  ⟨5, ⟨some 78, .p (.bin .and (.tmp 76) (.tmp 77)), none, none⟩, [76, 77], 0⟩,
  ⟨6, ⟨some 79, .p (.mv (.tmp 9)), none, none⟩, [9], 0⟩,
  ⟨7, ⟨some 80, .p (.un .xor (.tmp 79)), none, none⟩, [79], 0⟩,
  ⟨8, ⟨some 81, .p (.mv (.tmp 11)), none, none⟩, [11], 0⟩,
  ⟨9, ⟨some 82, .p (.bin .and (.tmp 80) (.tmp 81)), none, none⟩, [80, 81], 0⟩,
  ⟨10, ⟨some 83, .p (.bin .xor (.tmp 78) (.tmp 82)), none, none⟩, [78, 82], 0⟩,
  ⟨11, ⟨some 84, .p (.bin .add (.tmp 75) (.tmp 83)), none, none⟩, [75, 83], 0⟩,
  ⟨12, ⟨some 85, .p (.mv (.tmp 13)), none, none⟩, [13], 0⟩,
  ⟨13, ⟨some 86, .p (.idxA 64 1 (.global 0) (.tmp 85)), none, none⟩, [85], 0⟩,
  ⟨14, ⟨some 87, .l (.load (.i .u32) (.tmp 86)), none, none⟩, [86], 0⟩,
  ⟨15, ⟨some 88, .p (.bin .add (.tmp 84) (.tmp 87)), none, none⟩, [84, 87], 0⟩,
  ⟨16, ⟨some 89, .p (.mv (.tmp 13)), none, none⟩, [13], 0⟩,
  ⟨17, ⟨some 90, .p (.idxA 64 1 (.tmp 4) (.tmp 89)), none, none⟩, [4, 89], 0⟩,
  ⟨18, ⟨some 91, .l (.load (.i .u32) (.tmp 90)), none, none⟩, [90], 0⟩,
  ⟨19, ⟨some 92, .p (.bin .add (.tmp 88) (.tmp 91)), none, none⟩, [88, 91], 0⟩,
  ⟨20, ⟨some 15, .p (.mv (.tmp 92)), none, none⟩, [92], 0⟩])
  (.seq (.region [⟨some 93, .p (.mv (.tmp 5)), none, none⟩,
  ⟨some 94, .e (.call (.func 101) [.tmp 93, .const (.int .i64 (-2))]), none, none⟩,
  ⟨some 95, .p (.mv (.tmp 5)), none, none⟩,
  ⟨some 96, .e (.call (.func 101) [.tmp 95, .const (.int .i64 (-13))]), none, none⟩,
  ⟨some 97, .p (.bin .xor (.tmp 94) (.tmp 96)), none, none⟩,
  ⟨some 98, .p (.mv (.tmp 5)), none, none⟩,
  ⟨some 99, .e (.call (.func 101) [.tmp 98, .const (.int .i64 (-22))]), none, none⟩,
  ⟨some 100, .p (.bin .xor (.tmp 97) (.tmp 99)), none, none⟩,
  ⟨some 16, .p (.mv (.tmp 100)), none, none⟩])
  (.seq (.region [⟨some 101, .p (.mv (.tmp 16)), none, none⟩,
  ⟨some 102, .p (.mv (.tmp 5)), none, none⟩,
  ⟨some 103, .p (.mv (.tmp 6)), none, none⟩,
  ⟨some 104, .p (.bin .and (.tmp 102) (.tmp 103)), none, none⟩,
  ⟨some 105, .p (.mv (.tmp 5)), none, none⟩,
  ⟨some 106, .p (.mv (.tmp 7)), none, none⟩,
  ⟨some 107, .p (.bin .and (.tmp 105) (.tmp 106)), none, none⟩,
  ⟨some 108, .p (.bin .xor (.tmp 104) (.tmp 107)), none, none⟩,
  ⟨some 109, .p (.mv (.tmp 6)), none, none⟩,
  ⟨some 110, .p (.mv (.tmp 7)), none, none⟩,
  ⟨some 111, .p (.bin .and (.tmp 109) (.tmp 110)), none, none⟩,
  ⟨some 112, .p (.bin .xor (.tmp 108) (.tmp 111)), none, none⟩,
  ⟨some 113, .p (.bin .add (.tmp 101) (.tmp 112)), none, none⟩,
  ⟨some 17, .p (.mv (.tmp 113)), none, none⟩])
  (.region [⟨some 114, .p (.mv (.tmp 11)), none, none⟩,
  ⟨some 115, .p (.mv (.tmp 10)), none, none⟩,
  ⟨some 116, .p (.mv (.tmp 9)), none, none⟩,
  ⟨some 117, .p (.mv (.tmp 8)), none, none⟩,
  ⟨some 118, .p (.mv (.tmp 15)), none, none⟩,
  ⟨some 119, .p (.bin .add (.tmp 117) (.tmp 118)), none, none⟩,
  ⟨some 120, .p (.mv (.tmp 7)), none, none⟩,
  ⟨some 121, .p (.mv (.tmp 6)), none, none⟩,
  ⟨some 122, .p (.mv (.tmp 5)), none, none⟩,
  ⟨some 123, .p (.mv (.tmp 15)), none, none⟩,
  ⟨some 124, .p (.mv (.tmp 17)), none, none⟩,
  ⟨some 125, .p (.bin .add (.tmp 123) (.tmp 124)), none, none⟩,
  ⟨some 12, .p (.mv (.tmp 114)), none, none⟩,
  ⟨some 11, .p (.mv (.tmp 115)), none, none⟩,
  ⟨some 10, .p (.mv (.tmp 116)), none, none⟩,
  ⟨some 9, .p (.mv (.tmp 119)), none, none⟩,
  ⟨some 8, .p (.mv (.tmp 120)), none, none⟩,
  ⟨some 7, .p (.mv (.tmp 121)), none, none⟩,
  ⟨some 6, .p (.mv (.tmp 122)), none, none⟩,
  ⟨some 5, .p (.mv (.tmp 125)), none, none⟩])))))))
  (.region [⟨some 126, .p (.bin .add (.tmp 62) (.const (.int .i64 1))), none, none⟩,
  ⟨some 62, .p (.mv (.tmp 126)), none, none⟩]))))))))
  (.seq (.region [⟨some 127, .p (.mv (.tmp 5)), none, none⟩,
  ⟨some 128, .p (.mv (.tmp 6)), none, none⟩,
  ⟨some 129, .p (.mv (.tmp 7)), none, none⟩,
  ⟨some 130, .p (.mv (.tmp 8)), none, none⟩,
  ⟨some 131, .p (.mv (.tmp 9)), none, none⟩,
  ⟨some 132, .p (.mv (.tmp 10)), none, none⟩,
  ⟨some 133, .p (.mv (.tmp 11)), none, none⟩,
  ⟨some 134, .p (.mv (.tmp 12)), none, none⟩,
  ⟨some 135, .p (.build [.int .u32 0, .int .u32 0, .int .u32 0, .int .u32 0, .int .u32 0, .int .u32 0, .int .u32 0, .int .u32 0] [(0, 1, .tmp 127), (1, 1, .tmp 128), (2, 1, .tmp 129), (3, 1, .tmp 130), (4, 1, .tmp 131), (5, 1, .tmp 132), (6, 1, .tmp 133), (7, 1, .tmp 134)]), none, none⟩,
  ⟨some 136, .p (.mv (.const (.int .i64 0))), none, none⟩])
  (.block 2 (.loop [(0, .p), (135, .st [.i .u32, .i .u32, .i .u32, .i .u32, .i .u32, .i .u32, .i .u32, .i .u32]), (136, .i .i64)] (.seq (.region [⟨some 137, .p (.bin .lss (.tmp 136) (.const (.int .i64 8))), none, none⟩])
  (.seq (.cond (.tmp 137) (.skip) (.exit 2))
  (.seq (.block 3 (.seq (.region [⟨some 138, .p (.mv (.tmp 136)), none, none⟩,
  ⟨some 139, .p (.idxV 8 1 (.i .u32) (.tmp 135) (.tmp 136)), none, none⟩,
  ⟨some 18, .p (.mv (.tmp 138)), none, none⟩,
  ⟨some 19, .p (.mv (.tmp 139)), none, none⟩])
  (.draw [⟨0, ⟨some 140, .p (.mv (.tmp 0)), none, none⟩, [0], 0⟩,
  ⟨1, ⟨some 141, .p (.mv (.tmp 18)), none, none⟩, [18], 0⟩,
  ⟨2, ⟨some 142, .p (.nilP (.tmp 140)), none, none⟩, [140], 0⟩,
  ⟨3, ⟨some 143, .p (.fieldAddr 0 (.tmp 142)), none, none⟩, [142], 0⟩,
  ⟨4, ⟨some 144, .p (.idxA 8 1 (.tmp 143) (.tmp 141)), none, none⟩, [143, 141], 0⟩,
  ⟨5, ⟨some 145, .l (.load (.i .u32) (.tmp 144)), none, none⟩, [144], 0⟩,
  ⟨6, ⟨some 146, .p (.mv (.tmp 19)), none, none⟩, [19], 0⟩,
  ⟨7, ⟨some 147, .p (.bin .add (.tmp 145) (.tmp 146)), none, none⟩, [145, 146], 0⟩,
  ⟨8, ⟨some 148, .p (.nilP (.tmp 140)), none, none⟩, [140], 0⟩,
  ⟨9, ⟨some 149, .p (.fieldAddr 0 (.tmp 148)), none, none⟩, [148], 0⟩,
  ⟨10, ⟨some 150, .p (.idxA 8 1 (.tmp 149) (.tmp 141)), none, none⟩, [149, 141], 0⟩,
  ⟨11, ⟨none, .e (.store none (.tmp 150) (.tmp 147)), none, none⟩, [150, 147], 0⟩])))
  (.region [⟨some 151, .p (.bin .add (.tmp 136) (.const (.int .i64 1))), none, none⟩,
  ⟨some 136, .p (.mv (.tmp 151)), none, none⟩]))))))))))
noncomputable def e_sha_Hash_take (k : Nat) (D : CallF) : Ent := entOf 64 [(0, .p), (1, .l)] [] (sha_Hash_take k D)
theorem q_sha_Hash_take : (Tryz.f64.body).bind (rcodeOf Tryz.prog 2 Tryz.f64.ntmps) = some (strip r_sha_Hash_take) := by kernel_rfl
theorem t_sha_Hash_take (k : Nat) (D : CallF) : curF [(0, .p), (1, .l)] (fun args h => denF (C_sha_Hash_take k D) k r_sha_Hash_take [] [] args h) = sha_Hash_take k D := by kernel_rfl
theorem ok_sha_Hash_take {D : CallF} (hD : CSound Tryz.prog 2 D) (k : Nat) : EntOk Tryz.prog 2 (e_sha_Hash_take k D) :=
  entOf_ok2 (mkC_sound hD (EntsOk.more (ok_sha_spread hD k) (EntsOk.more (ok_math_bits_RotateLeft32 hD k) (EntsOk.none)))) Tryz.func64 rfl q_sha_Hash_take rfl (t_sha_Hash_take k D)
end Gz
namespace Gz
open Go Gx Go.Proofs
set_option maxRecDepth 100000
noncomputable def C_sha_Hash_Write (k : Nat) (D : CallF) : CallF := mkC D [e_sha_Hash_take k D]
noncomputable def sha_Hash_Write_l0b (k : Nat) (D : CallF) (j13 : (Option Addr) → Int → AHeap → Option ((Unit) × AHeap)) (rec24 : (Option Addr) → Int → AHeap → Option ((Unit) × AHeap)) (hv21 : Option Addr) (atv22 : Int) (h23 : AHeap) : Option ((Unit) × AHeap) :=
  (hv21).bind fun p25 =>
  (ldL (⟨p25.block, p25.off + 8, none⟩ : Addr) h23).bind fun x26 =>
  (if (decide ((IntKind.wrap .i64 ((x26.len : Int) - atv22)) ≥ 64)) = true then
  (hv21).bind fun p27 =>
  (ldL (⟨p27.block, p27.off + 8, none⟩ : Addr) h23).bind fun x28 =>
  (Gx.subL 1 x28 (some atv22) (some (IntKind.wrap .i64 (atv22 + 64))) none).bind fun l29 =>
  (sha_Hash_take k D hv21 l29 h23).bind fun r30 =>
  rec24 hv21 (IntKind.wrap .i64 (atv22 + 64)) r30.2
  else
  j13 hv21 atv22 h23)
noncomputable def sha_Hash_Write_l0 (k : Nat) (D : CallF) (j13 : (Option Addr) → Int → AHeap → Option ((Unit) × AHeap)) : (Option Addr) → Int → AHeap → Option ((Unit) × AHeap) :=
  iterK (α := (Option Addr) → Int → AHeap → Option ((Unit) × AHeap)) (fun _ _ _ => none) k (sha_Hash_Write_l0b k D j13)
noncomputable def sha_Hash_Write (k : Nat) (D : CallF) (h_0 : Option Addr) (s_1 : ByteArray) (h : AHeap) : Option ((Unit) × AHeap) :=
  (h_0).bind fun p1 =>
  (ldI .i64 (⟨p1.block, p1.off + 9, none⟩ : Addr) h).bind fun x2 =>
  (h_0).bind fun p3 =>
  (st1 (⟨p3.block, p3.off + 9, none⟩ : Addr) (.int .i64 (IntKind.wrap .i64 (x2 + (s_1.size : Int)))) h).bind fun h4 =>
  (h_0).bind fun p5 =>
  (ldL (⟨p5.block, p5.off + 8, none⟩ : Addr) h4).bind fun x6 =>
  (appendA 1 1 5 h4 x6 (bytesL s_1) s_1.size).bind fun r7 =>
  (h_0).bind fun p8 =>
  (st1 (⟨p8.block, p8.off + 8, none⟩ : Addr) (.slice r7.1.a r7.1.len r7.1.cap) r7.2).bind fun h9 =>
  joinK (fun (hv10 : Option Addr) (atv11 : Int) (h12 : AHeap) =>
  (hv10).bind fun p14 =>
  (ldL (⟨p14.block, p14.off + 8, none⟩ : Addr) h12).bind fun x15 =>
  (Gx.subL 1 x15 (some atv11) none none).bind fun l16 =>
  (rdS 1 l16 h12).bind fun n18 =>
  (appendA 1 1 5 h12 (⟨none, 0, 0⟩ : Slc) n18 l16.len).bind fun r17 =>
  (hv10).bind fun p19 =>
  (st1 (⟨p19.block, p19.off + 8, none⟩ : Addr) (.slice r17.1.a r17.1.len r17.1.cap) r17.2).bind fun h20 =>
  some ((), h20)) fun j13 =>
  sha_Hash_Write_l0 k D j13 h_0 0 h9
def r_sha_Hash_Write : RCode := .seq (.region [⟨some 5, .p (.mv (.tmp 0)), none, none⟩,
  ⟨some 6, .p (.nilP (.tmp 5)), none, none⟩,
  ⟨some 7, .p (.fieldAddr 9 (.tmp 6)), none, none⟩,
  ⟨some 8, .l (.load (.i .i64) (.tmp 7)), none, none⟩,
  ⟨some 9, .p (.mv (.tmp 1)), none, none⟩,
  ⟨some 10, .p (.lenS (.tmp 9)), none, none⟩,
  ⟨some 11, .p (.bin .add (.tmp 8) (.tmp 10)), none, none⟩,
  ⟨some 12, .p (.nilP (.tmp 5)), none, none⟩,
  ⟨some 13, .p (.fieldAddr 9 (.tmp 12)), none, none⟩,
  ⟨none, .e (.store none (.tmp 13) (.tmp 11)), none, none⟩])
  (.seq (.region [⟨some 14, .p (.mv (.tmp 0)), none, none⟩,
  ⟨some 15, .p (.mv (.tmp 0)), none, none⟩,
  ⟨some 16, .p (.nilP (.tmp 15)), none, none⟩,
  ⟨some 17, .p (.fieldAddr 8 (.tmp 16)), none, none⟩,
  ⟨some 18, .l (.load (.l) (.tmp 17)), none, none⟩,
  ⟨some 19, .p (.mv (.tmp 1)), none, none⟩,
  ⟨some 20, .e (.append 1 1 5 [.int .u8 0] .string (.tmp 18) (.tmp 19)), none, none⟩,
  ⟨some 21, .p (.nilP (.tmp 14)), none, none⟩,
  ⟨some 22, .p (.fieldAddr 8 (.tmp 21)), none, none⟩,
  ⟨none, .e (.store none (.tmp 22) (.tmp 20)), none, none⟩])
  (.seq (.region [⟨some 4, .p (.mv (.const (.int .i64 0))), none, none⟩])
  (.seq (.join [(0, .p), (4, .i .i64)] (.block 0 (.loop [(0, .p), (4, .i .i64)] (.seq (.seq (.region [⟨some 23, .p (.mv (.tmp 0)), none, none⟩,
  ⟨some 24, .p (.nilP (.tmp 23)), none, none⟩,
  ⟨some 25, .p (.fieldAddr 8 (.tmp 24)), none, none⟩,
  ⟨some 26, .l (.load (.l) (.tmp 25)), none, none⟩,
  ⟨some 27, .p (.lenL (.tmp 26)), none, none⟩,
  ⟨some 28, .p (.mv (.tmp 4)), none, none⟩,
  ⟨some 29, .p (.bin .sub (.tmp 27) (.tmp 28)), none, none⟩,
  ⟨some 30, .p (.bin .geq (.tmp 29) (.const (.int .i64 64))), none, none⟩])
  (.cond (.tmp 30) (.skip) (.exit 0)))
  (.seq (.block 1 (.region [⟨some 33, .p (.mv (.tmp 0)), none, none⟩,
  ⟨some 34, .p (.mv (.tmp 0)), none, none⟩,
  ⟨some 35, .p (.nilP (.tmp 34)), none, none⟩,
  ⟨some 36, .p (.fieldAddr 8 (.tmp 35)), none, none⟩,
  ⟨some 37, .l (.load (.l) (.tmp 36)), none, none⟩,
  ⟨some 38, .p (.mv (.tmp 4)), none, none⟩,
  ⟨some 39, .p (.mv (.tmp 4)), none, none⟩,
  ⟨some 40, .p (.bin .add (.tmp 39) (.const (.int .i64 64))), none, none⟩,
  ⟨some 41, .p (.subL 1 (.tmp 37) (some (.tmp 38)) (some (.tmp 40)) none), none, none⟩,
  ⟨some 42, .e (.call (.func 64) [.tmp 33, .tmp 41]), none, none⟩]))
  (.region [⟨some 31, .p (.mv (.tmp 4)), none, none⟩,
  ⟨some 32, .p (.bin .add (.tmp 31) (.const (.int .i64 64))), none, none⟩,
  ⟨some 4, .p (.mv (.tmp 32)), none, none⟩]))))))
  (.region [⟨some 43, .p (.mv (.tmp 0)), none, none⟩,
  ⟨some 44, .p (.mv (.tmp 0)), none, none⟩,
  ⟨some 45, .p (.nilP (.tmp 44)), none, none⟩,
  ⟨some 46, .p (.fieldAddr 8 (.tmp 45)), none, none⟩,
  ⟨some 47, .l (.load (.l) (.tmp 46)), none, none⟩,
  ⟨some 48, .p (.mv (.tmp 4)), none, none⟩,
  ⟨some 49, .p (.subL 1 (.tmp 47) (some (.tmp 48)) none none), none, none⟩,
  ⟨some 50, .e (.append 1 1 5 [.int .u8 0] .slice (.const (.slice none 0 0)) (.tmp 49)), none, none⟩,
  ⟨some 51, .p (.nilP (.tmp 43)), none, none⟩,
  ⟨some 52, .p (.fieldAddr 8 (.tmp 51)), none, none⟩,
  ⟨none, .e (.store none (.tmp 52) (.tmp 50)), none, none⟩]))))
noncomputable def e_sha_Hash_Write (k : Nat) (D : CallF) : Ent := entOf 37 [(0, .p), (1, .s)] [] (sha_Hash_Write k D)
theorem q_sha_Hash_Write : (Tryz.f37.body).bind (rcodeOf Tryz.prog 2 Tryz.f37.ntmps) = some (strip r_sha_Hash_Write) := by kernel_rfl
theorem t_sha_Hash_Write (k : Nat) (D : CallF) : curF [(0, .p), (1, .s)] (fun args h => denF (C_sha_Hash_Write k D) k r_sha_Hash_Write [] [] args h) = sha_Hash_Write k D := by kernel_rfl
theorem ok_sha_Hash_Write {D : CallF} (hD : CSound Tryz.prog 2 D) (k : Nat) : EntOk Tryz.prog 2 (e_sha_Hash_Write k D) :=
  entOf_ok2 (mkC_sound hD (EntsOk.more (ok_sha_Hash_take hD k) (EntsOk.none))) Tryz.func37 rfl q_sha_Hash_Write rfl (t_sha_Hash_Write k D)
end Gz
namespace Gz
open Go Gx Go.Proofs
set_option maxRecDepth 100000
noncomputable def C_sha_first (_k : Nat) (D : CallF) : CallF := mkC D []
noncomputable def sha_first (_k : Nat) (_D : CallF)  (h : AHeap) : Option (((Int × Int × Int × Int × Int × Int × Int × Int)) × AHeap) :=
  let h1 := AHeap.new h (.cells [.int .u32 0, .int .u32 0, .int .u32 0, .int .u32 0, .int .u32 0, .int .u32 0, .int .u32 0, .int .u32 0] 104 true 0)
  (stL 8 (⟨h.next, 0, none⟩ : Addr) ([.int .u32 1779033703, .int .u32 3144134277, .int .u32 1013904242, .int .u32 2773480762, .int .u32 1359893119, .int .u32 2600822924, .int .u32 528734635, .int .u32 1541459225]) h1).bind fun h2 =>
  (ldA 8 (⟨h.next, 0, none⟩ : Addr) h2).bind fun l3 =>
  (decC [.i .u32, .i .u32, .i .u32, .i .u32, .i .u32, .i .u32, .i .u32, .i .u32] l3).bind fun x4 =>
  some ((x4.1, x4.2.1, x4.2.2.1, x4.2.2.2.1, x4.2.2.2.2.1, x4.2.2.2.2.2.1, x4.2.2.2.2.2.2.1, x4.2.2.2.2.2.2.2), h2)
def r_sha_first : RCode := .seq (.region [⟨some 0, .a (.alloc 104 [.int .u32 0, .int .u32 0, .int .u32 0, .int .u32 0, .int .u32 0, .int .u32 0, .int .u32 0, .int .u32 0]), none, none⟩])
  (.seq (.region [⟨some 1, .p (.build [.int .u32 0, .int .u32 0, .int .u32 0, .int .u32 0, .int .u32 0, .int .u32 0, .int .u32 0, .int .u32 0] [(0, 1, .const (.int .u32 1779033703)), (1, 1, .const (.int .u32 3144134277)), (2, 1, .const (.int .u32 1013904242)), (3, 1, .const (.int .u32 2773480762)), (4, 1, .const (.int .u32 1359893119)), (5, 1, .const (.int .u32 2600822924)), (6, 1, .const (.int .u32 528734635)), (7, 1, .const (.int .u32 1541459225))]), none, none⟩,
  ⟨none, .e (.store (some 8) (.tmp 0) (.tmp 1)), none, none⟩])
  (.ret))
noncomputable def e_sha_first (k : Nat) (D : CallF) : Ent := entOf 63 [] [(0, .st [.i .u32, .i .u32, .i .u32, .i .u32, .i .u32, .i .u32, .i .u32, .i .u32])] (sha_first k D)
theorem q_sha_first : (Tryz.f63.body).bind (rcodeOf Tryz.prog 2 Tryz.f63.ntmps) = some (strip r_sha_first) := by kernel_rfl
theorem t_sha_first (k : Nat) (D : CallF) : curF [] (fun args h => denF (C_sha_first k D) k r_sha_first [(0, .st [.i .u32, .i .u32, .i .u32, .i .u32, .i .u32, .i .u32, .i .u32, .i .u32])] [some (.agg 8)] args h) = sha_first k D := by kernel_rfl
theorem ok_sha_first {D : CallF} (hD : CSound Tryz.prog 2 D) (k : Nat) : EntOk Tryz.prog 2 (e_sha_first k D) :=
  entOf_ok2 (mkC_sound hD (EntsOk.none)) Tryz.func63 rfl q_sha_first rfl (t_sha_first k D)
end Gz
namespace Gz
open Go Gx Go.Proofs
set_option maxRecDepth 100000
noncomputable def C_sha_New (k : Nat) (D : CallF) : CallF := mkC D [e_sha_first k D]
noncomputable def sha_New (k : Nat) (D : CallF)  (h : AHeap) : Option (((Option Addr)) × AHeap) :=
  (sha_first k D h).bind fun r1 =>
  let h2 := AHeap.new r1.2 (.cells [.int .u32 r1.1.1, .int .u32 r1.1.2.1, .int .u32 r1.1.2.2.1, .int .u32 r1.1.2.2.2.1, .int .u32 r1.1.2.2.2.2.1, .int .u32 r1.1.2.2.2.2.2.1, .int .u32 r1.1.2.2.2.2.2.2.1, .int .u32 r1.1.2.2.2.2.2.2.2, .slice none 0 0, .int .i64 0] 119 true 0)
  some ((some (⟨r1.2.next, 0, none⟩ : Addr)), h2)
def r_sha_New : RCode := .seq (.region [⟨some 0, .p (.mv (.const (.pointer none))), none, none⟩])
  (.seq (.region [⟨some 1, .e (.call (.func 63) []), none, none⟩,
  ⟨some 2, .p (.build [.int .u32 0, .int .u32 0, .int .u32 0, .int .u32 0, .int .u32 0, .int .u32 0, .int .u32 0, .int .u32 0, .slice none 0 0, .int .i64 0] [(0, 8, .tmp 1)]), none, none⟩,
  ⟨some 3, .a (.box 119 (.tmp 2)), none, none⟩,
  ⟨some 0, .p (.mv (.tmp 3)), none, none⟩])
  (.ret))
noncomputable def e_sha_New (k : Nat) (D : CallF) : Ent := entOf 36 [] [(0, .p)] (sha_New k D)
theorem q_sha_New : (Tryz.f36.body).bind (rcodeOf Tryz.prog 2 Tryz.f36.ntmps) = some (strip r_sha_New) := by kernel_rfl
theorem t_sha_New (k : Nat) (D : CallF) : curF [] (fun args h => denF (C_sha_New k D) k r_sha_New [(0, .p)] [none] args h) = sha_New k D := by kernel_rfl
theorem ok_sha_New {D : CallF} (hD : CSound Tryz.prog 2 D) (k : Nat) : EntOk Tryz.prog 2 (e_sha_New k D) :=
  entOf_ok2 (mkC_sound hD (EntsOk.more (ok_sha_first hD k) (EntsOk.none))) Tryz.func36 rfl q_sha_New rfl (t_sha_New k D)
end Gz
namespace Gz
open Go Gx Go.Proofs
set_option maxRecDepth 100000
noncomputable def C_sha_Hash_Fork (_k : Nat) (D : CallF) : CallF := mkC D []
noncomputable def sha_Hash_Fork (_k : Nat) (_D : CallF) (h_0 : Option Addr) (h : AHeap) : Option (((Option Addr)) × AHeap) :=
  (h_0).bind fun p1 =>
  (ldL (⟨p1.block, p1.off + 8, none⟩ : Addr) h).bind fun x2 =>
  (rdS 1 x2 h).bind fun n4 =>
  (appendA 1 1 5 h (⟨none, 0, 0⟩ : Slc) n4 x2.len).bind fun r3 =>
  (h_0).bind fun p5 =>
  (ldA 8 (⟨p5.block, p5.off + 0, none⟩ : Addr) r3.2).bind fun l6 =>
  guardP (SameW [h] (fun H8 => (ldA 8 (⟨p5.block, p5.off + 0, none⟩ : Addr) H8).bind fun y7 => some (.agg ⟨y7⟩)) (.agg ⟨l6⟩)) (
  (decC [.i .u32, .i .u32, .i .u32, .i .u32, .i .u32, .i .u32, .i .u32, .i .u32] l6).bind fun x9 =>
  (h_0).bind fun p10 =>
  (ldI .i64 (⟨p10.block, p10.off + 9, none⟩ : Addr) r3.2).bind fun x11 =>
  guardP (SameW [h] (fun H13 => (ldI .i64 (⟨p10.block, p10.off + 9, none⟩ : Addr) H13).bind fun y12 => some (.int .i64 y12)) (.int .i64 x11)) (
  let h14 := AHeap.new r3.2 (.cells [.int .u32 x9.1, .int .u32 x9.2.1, .int .u32 x9.2.2.1, .int .u32 x9.2.2.2.1, .int .u32 x9.2.2.2.2.1, .int .u32 x9.2.2.2.2.2.1, .int .u32 x9.2.2.2.2.2.2.1, .int .u32 x9.2.2.2.2.2.2.2, .slice r3.1.a r3.1.len r3.1.cap, .int .i64 x11] 119 true 0)
  some ((some (⟨r3.2.next, 0, none⟩ : Addr)), h14)))
def r_sha_Hash_Fork : RCode := .seq (.region [⟨some 2, .p (.mv (.const (.pointer none))), none, none⟩])
  (.seq (.draw [⟨4, ⟨some 7, .p (.mv (.tmp 0)), none, none⟩, [0], 0⟩,
  ⟨5, ⟨some 8, .p (.nilP (.tmp 7)), none, none⟩, [7], 0⟩,
  ⟨6, ⟨some 9, .p (.fieldAddr 8 (.tmp 8)), none, none⟩, [8], 0⟩,
  ⟨7, ⟨some 10, .l (.load (.l) (.tmp 9)), none, none⟩, [9], 0⟩,
  ⟨8, ⟨some 11, .e (.append 1 1 5 [.int .u8 0] .slice (.const (.slice none 0 0)) (.tmp 10)), none, none⟩, [10], 0⟩,
  ⟨0, ⟨some 3, .p (.mv (.tmp 0)), none, none⟩, [0], 1⟩,
  ⟨1, ⟨some 4, .p (.nilP (.tmp 3)), none, none⟩, [3], 1⟩,
  ⟨2, ⟨some 5, .p (.fieldAddr 0 (.tmp 4)), none, none⟩, [4], 1⟩,
  ⟨3, ⟨some 6, .l (.load (.agg 8) (.tmp 5)), none, some (.st [.i .u32, .i .u32, .i .u32, .i .u32, .i .u32, .i .u32, .i .u32, .i .u32])⟩, [5], 1⟩,
  ⟨9, ⟨some 12, .p (.mv (.tmp 0)), none, none⟩, [0], 1⟩,
  ⟨10, ⟨some 13, .p (.nilP (.tmp 12)), none, none⟩, [12], 1⟩,
  ⟨11, ⟨some 14, .p (.fieldAddr 9 (.tmp 13)), none, none⟩, [13], 1⟩,
  ⟨12, ⟨some 15, .l (.load (.i .i64) (.tmp 14)), none, none⟩, [14], 1⟩,
  ⟨13, ⟨some 16, .p (.build [.int .u32 0, .int .u32 0, .int .u32 0, .int .u32 0, .int .u32 0, .int .u32 0, .int .u32 0, .int .u32 0, .slice none 0 0, .int .i64 0] [(0, 8, .tmp 6), (8, 1, .tmp 11), (9, 1, .tmp 15)]), none, none⟩, [6, 11, 15], 0⟩,
  ⟨14, ⟨some 17, .a (.box 119 (.tmp 16)), none, none⟩, [16], 0⟩,
  ⟨15, ⟨some 2, .p (.mv (.tmp 17)), none, none⟩, [17], 0⟩])
  (.ret))
noncomputable def e_sha_Hash_Fork (k : Nat) (D : CallF) : Ent := entOf 65 [(0, .p)] [(2, .p)] (sha_Hash_Fork k D)
theorem q_sha_Hash_Fork : (Tryz.f65.body).bind (rcodeOf Tryz.prog 2 Tryz.f65.ntmps) = some (strip r_sha_Hash_Fork) := by kernel_rfl
theorem t_sha_Hash_Fork (k : Nat) (D : CallF) : curF [(0, .p)] (fun args h => denF (C_sha_Hash_Fork k D) k r_sha_Hash_Fork [(2, .p)] [none] args h) = sha_Hash_Fork k D := by kernel_rfl
theorem ok_sha_Hash_Fork {D : CallF} (hD : CSound Tryz.prog 2 D) (k : Nat) : EntOk Tryz.prog 2 (e_sha_Hash_Fork k D) :=
  entOf_ok2 (mkC_sound hD (EntsOk.none)) Tryz.func65 rfl q_sha_Hash_Fork rfl (t_sha_Hash_Fork k D)
end Gz
namespace Gz
open Go Gx Go.Proofs
set_option maxRecDepth 100000
noncomputable def C_sha_Hash_Sum (k : Nat) (D : CallF) : CallF := mkC D [e_sha_Hash_Fork k D, e_sha_Hash_Write k D]
noncomputable def sha_Hash_Sum_l2b (_k : Nat) (_D : CallF) (j7 : (Option Addr) → (Option Addr) → Slc → AHeap → Option ((ByteArray) × AHeap)) (rec47 : (Option Addr) → (Option Addr) → Slc → AHeap → Option ((ByteArray) × AHeap)) (hv43 : Option Addr) (endv44 : Option Addr) (tail45 : Slc) (h46 : AHeap) : Option ((ByteArray) × AHeap) :=
  (endv44).bind fun p48 =>
  (ldL (⟨p48.block, p48.off + 8, none⟩ : Addr) h46).bind fun x49 =>
  let t50 : Int := (Int.tmod (IntKind.wrap .i64 ((x49.len : Int) + (tail45.len : Int))) 64)
  (if (t50 != 56) = true then
  let h51 := AHeap.new h46 (.cells [.int .u8 0] 5 true 0)
  (rdS 1 (⟨(some ⟨h46.next, 0, some 0⟩), 1, 1⟩ : Slc) h51).bind fun n53 =>
  (appendA 1 1 5 h51 tail45 n53 1).bind fun r52 =>
  rec47 hv43 endv44 r52.1 r52.2
  else
  j7 hv43 endv44 tail45 h46)
noncomputable def sha_Hash_Sum_l2 (k : Nat) (D : CallF) (j7 : (Option Addr) → (Option Addr) → Slc → AHeap → Option ((ByteArray) × AHeap)) : (Option Addr) → (Option Addr) → Slc → AHeap → Option ((ByteArray) × AHeap) :=
  iterK (α := (Option Addr) → (Option Addr) → Slc → AHeap → Option ((ByteArray) × AHeap)) (fun _ _ _ _ => none) k (sha_Hash_Sum_l2b k D j7)
noncomputable def sha_Hash_Sum_l1b (_k : Nat) (_D : CallF) (j13 : (Option Addr) → Slc → AHeap → Option ((ByteArray) × AHeap)) (rec38 : (Option Addr) → Slc → Int → Int → AHeap → Option ((ByteArray) × AHeap)) (endv33 : Option Addr) (tail34 : Slc) (count35 : Int) (shift36 : Int) (h37 : AHeap) : Option ((ByteArray) × AHeap) :=
  (if (decide (shift36 ≥ 0)) = true then
  (if 0 ≤ shift36 then
  let t39 : Int := (Int.fdiv count35 (2 ^ (min (shift36).toNat (IntKind.bits .u64))))
  let h40 := AHeap.new h37 (.cells [.int .u8 (IntKind.wrap .u8 t39)] 5 true 0)
  (rdS 1 (⟨(some ⟨h37.next, 0, some 0⟩), 1, 1⟩ : Slc) h40).bind fun n42 =>
  (appendA 1 1 5 h40 tail34 n42 1).bind fun r41 =>
  rec38 endv33 r41.1 count35 (IntKind.wrap .i64 (shift36 - 8)) r41.2
  else none)
  else
  j13 endv33 tail34 h37)
noncomputable def sha_Hash_Sum_l1 (k : Nat) (D : CallF) (j13 : (Option Addr) → Slc → AHeap → Option ((ByteArray) × AHeap)) : (Option Addr) → Slc → Int → Int → AHeap → Option ((ByteArray) × AHeap) :=
  iterK (α := (Option Addr) → Slc → Int → Int → AHeap → Option ((ByteArray) × AHeap)) (fun _ _ _ _ _ => none) k (sha_Hash_Sum_l1b k D j13)
noncomputable def sha_Hash_Sum_l0b (_k : Nat) (_D : CallF) (j18 : Slc → AHeap → Option ((ByteArray) × AHeap)) (rec27 : Slc → (Int × Int × Int × Int × Int × Int × Int × Int) → Int → AHeap → Option ((ByteArray) × AHeap)) (out23 : Slc) (y24 : Int × Int × Int × Int × Int × Int × Int × Int) (y25 : Int) (h26 : AHeap) : Option ((ByteArray) × AHeap) :=
  (if (decide (y25 < 8)) = true then
  (if 0 ≤ y25 ∧ y25 < ((8 : Nat) : Int) then
  (([.int .u32 y24.1, .int .u32 y24.2.1, .int .u32 y24.2.2.1, .int .u32 y24.2.2.2.1, .int .u32 y24.2.2.2.2.1, .int .u32 y24.2.2.2.2.2.1, .int .u32 y24.2.2.2.2.2.2.1, .int .u32 y24.2.2.2.2.2.2.2])[(y25).toNat * 1]?).bind fun v28 =>
  (decI .u32 v28).bind fun x29 =>
  let h30 := AHeap.new h26 (.cells [.int .u8 (IntKind.wrap .u8 (Int.fdiv x29 16777216)), .int .u8 (IntKind.wrap .u8 (Int.fdiv x29 65536)), .int .u8 (IntKind.wrap .u8 (Int.fdiv x29 256)), .int .u8 (IntKind.wrap .u8 x29)] 5 true 0)
  (rdS 1 (⟨(some ⟨h26.next, 0, some 0⟩), 4, 4⟩ : Slc) h30).bind fun n32 =>
  (appendA 1 1 5 h30 out23 n32 4).bind fun r31 =>
  rec27 r31.1 (y24.1, y24.2.1, y24.2.2.1, y24.2.2.2.1, y24.2.2.2.2.1, y24.2.2.2.2.2.1, y24.2.2.2.2.2.2.1, y24.2.2.2.2.2.2.2) (IntKind.wrap .i64 (y25 + 1)) r31.2
  else none)
  else
  j18 out23 h26)
noncomputable def sha_Hash_Sum_l0 (k : Nat) (D : CallF) (j18 : Slc → AHeap → Option ((ByteArray) × AHeap)) : Slc → (Int × Int × Int × Int × Int × Int × Int × Int) → Int → AHeap → Option ((ByteArray) × AHeap) :=
  iterK (α := Slc → (Int × Int × Int × Int × Int × Int × Int × Int) → Int → AHeap → Option ((ByteArray) × AHeap)) (fun _ _ _ _ => none) k (sha_Hash_Sum_l0b k D j18)
noncomputable def sha_Hash_Sum (k : Nat) (D : CallF) (h_0 : Option Addr) (h : AHeap) : Option ((ByteArray) × AHeap) :=
  (sha_Hash_Fork k D h_0 h).bind fun r1 =>
  let h2 := AHeap.new r1.2 (.cells [.int .u8 128] 5 true 0)
  joinK (fun (hv3 : Option Addr) (endv4 : Option Addr) (tail5 : Slc) (h6 : AHeap) =>
  (hv3).bind fun p8 =>
  (ldI .i64 (⟨p8.block, p8.off + 9, none⟩ : Addr) h6).bind fun x9 =>
  joinK (fun (endv10 : Option Addr) (tail11 : Slc) (h12 : AHeap) =>
  (bytesOf h12 tail11).bind fun s14 =>
  (sha_Hash_Write k D endv10 s14 h12).bind fun r15 =>
  joinK (fun (out16 : Slc) (h17 : AHeap) =>
  (bytesOf h17 out16).bind fun s19 =>
  some (s19, h17)) fun j18 =>
  (endv10).bind fun p20 =>
  (ldA 8 (⟨p20.block, p20.off + 0, none⟩ : Addr) r15.2).bind fun l21 =>
  (decC [.i .u32, .i .u32, .i .u32, .i .u32, .i .u32, .i .u32, .i .u32, .i .u32] l21).bind fun x22 =>
  sha_Hash_Sum_l0 k D j18 (⟨none, 0, 0⟩ : Slc) (x22.1, x22.2.1, x22.2.2.1, x22.2.2.2.1, x22.2.2.2.2.1, x22.2.2.2.2.2.1, x22.2.2.2.2.2.2.1, x22.2.2.2.2.2.2.2) 0 r15.2) fun j13 =>
  sha_Hash_Sum_l1 k D j13 endv4 tail5 (IntKind.wrap .u64 ((IntKind.wrap .u64 x9) * 8)) 56 h6) fun j7 =>
  sha_Hash_Sum_l2 k D j7 h_0 r1.1 (⟨(some ⟨r1.2.next, 0, some 0⟩), 1, 1⟩ : Slc) h2
def r_sha_Hash_Sum : RCode := .seq (.region [⟨some 2, .p (.mv (.const (.string ⟨#[]⟩))), none, none⟩])
  (.seq (.region [⟨some 10, .p (.mv (.tmp 0)), none, none⟩,
  ⟨some 11, .e (.call (.func 65) [.tmp 10]), none, none⟩,
  ⟨some 3, .p (.mv (.tmp 11)), none, none⟩])
  (.seq (.region [⟨some 12, .a (.buildSlice 5 1 (zerosL 1 [.int .u8 0]) [(0, 1, .const (.int .u8 128))]), none, none⟩,
  ⟨some 4, .p (.mv (.tmp 12)), none, none⟩])
  (.seq (.join [(0, .p), (3, .p), (4, .l)] (.block 0 (.loop [(0, .p), (3, .p), (4, .l)] (.seq (.seq (.region [⟨some 13, .p (.mv (.tmp 3)), none, none⟩,
  ⟨some 14, .p (.nilP (.tmp 13)), none, none⟩,
  ⟨some 15, .p (.fieldAddr 8 (.tmp 14)), none, none⟩,
  ⟨some 16, .l (.load (.l) (.tmp 15)), none, none⟩,
  ⟨some 17, .p (.lenL (.tmp 16)), none, none⟩,
  ⟨some 18, .p (.mv (.tmp 4)), none, none⟩,
  ⟨some 19, .p (.lenL (.tmp 18)), none, none⟩,
  ⟨some 20, .p (.bin .add (.tmp 17) (.tmp 19)), none, none⟩,
  ⟨some 21, .p (.bin .rem (.tmp 20) (.const (.int .i64 64))), none, none⟩,
  ⟨some 22, .p (.bin .neq (.tmp 21) (.const (.int .i64 56))), none, none⟩])
  (.cond (.tmp 22) (.skip) (.exit 0)))
  (.block 1 (.region [⟨some 23, .p (.mv (.tmp 4)), none, none⟩,
  ⟨some 24, .a (.buildSlice 5 1 (zerosL 1 [.int .u8 0]) [(0, 1, .const (.int .u8 0))]), none, none⟩,
  ⟨some 25, .e (.append 1 1 5 [.int .u8 0] .slice (.tmp 23) (.tmp 24)), none, none⟩,
  ⟨some 4, .p (.mv (.tmp 25)), none, none⟩]))))))
  (.seq (.region [⟨some 26, .p (.mv (.tmp 0)), none, none⟩,
  ⟨some 27, .p (.nilP (.tmp 26)), none, none⟩,
  ⟨some 28, .p (.fieldAddr 9 (.tmp 27)), none, none⟩,
  ⟨some 29, .l (.load (.i .i64) (.tmp 28)), none, none⟩,
  ⟨some 30, .p (.convI .u64 (.tmp 29)), none, none⟩,
  ⟨some 31, .p (.bin .mul (.tmp 30) (.const (.int .u64 8))), none, none⟩,
  ⟨some 5, .p (.mv (.tmp 31)), none, none⟩])
  (.seq (.join [(3, .p), (4, .l)] (.seq (.region [⟨some 6, .p (.mv (.const (.int .i64 56))), none, none⟩])
  (.block 2 (.loop [(3, .p), (4, .l), (5, .i .u64), (6, .i .i64)] (.seq (.seq (.region [⟨some 32, .p (.mv (.tmp 6)), none, none⟩,
  ⟨some 33, .p (.bin .geq (.tmp 32) (.const (.int .i64 0))), none, none⟩])
  (.cond (.tmp 33) (.skip) (.exit 2)))
  (.seq (.block 3 (.region [⟨some 36, .p (.mv (.tmp 4)), none, none⟩,
  ⟨some 37, .p (.mv (.tmp 5)), none, none⟩,
  ⟨some 38, .p (.mv (.tmp 6)), none, none⟩,
  ⟨some 39, .p (.bin .shr (.tmp 37) (.tmp 38)), none, none⟩,
  ⟨some 40, .p (.convI .u8 (.tmp 39)), none, none⟩,
  ⟨some 41, .a (.buildSlice 5 1 (zerosL 1 [.int .u8 0]) [(0, 1, .tmp 40)]), none, none⟩,
  ⟨some 42, .e (.append 1 1 5 [.int .u8 0] .slice (.tmp 36) (.tmp 41)), none, none⟩,
  ⟨some 4, .p (.mv (.tmp 42)), none, none⟩]))
  (.region [⟨some 34, .p (.mv (.tmp 6)), none, none⟩,
  ⟨some 35, .p (.bin .sub (.tmp 34) (.const (.int .i64 8))), none, none⟩,
  ⟨some 6, .p (.mv (.tmp 35)), none, none⟩])))))))
  (.seq (.region [⟨some 43, .p (.mv (.tmp 3)), none, none⟩,
  ⟨some 44, .p (.mv (.tmp 4)), none, none⟩,
  ⟨some 45, .l (.convBS (.tmp 44)), none, none⟩,
  ⟨some 46, .e (.call (.func 37) [.tmp 43, .tmp 45]), none, none⟩])
  (.seq (.region [⟨some 7, .p (.mv (.const (.slice none 0 0))), none, none⟩])
  (.seq (.join [(7, .l)] (.seq (.region [⟨some 47, .p (.mv (.tmp 3)), none, none⟩,
  ⟨some 48, .p (.nilP (.tmp 47)), none, none⟩,
  ⟨some 49, .p (.fieldAddr 0 (.tmp 48)), none, none⟩,
  ⟨some 50, .l (.load (.agg 8) (.tmp 49)), none, some (.st [.i .u32, .i .u32, .i .u32, .i .u32, .i .u32, .i .u32, .i .u32, .i .u32])⟩,
  ⟨some 51, .p (.mv (.const (.int .i64 0))), none, none⟩])
  (.block 4 (.loop [(7, .l), (50, .st [.i .u32, .i .u32, .i .u32, .i .u32, .i .u32, .i .u32, .i .u32, .i .u32]), (51, .i .i64)] (.seq (.region [⟨some 52, .p (.bin .lss (.tmp 51) (.const (.int .i64 8))), none, none⟩])
  (.seq (.cond (.tmp 52) (.skip) (.exit 4))
  (.seq (.block 5 (.seq (.region [⟨some 53, .p (.idxV 8 1 (.i .u32) (.tmp 50) (.tmp 51)), none, none⟩,
  ⟨some 9, .p (.mv (.tmp 53)), none, none⟩])
  (.region [⟨some 54, .p (.mv (.tmp 7)), none, none⟩,
  ⟨some 55, .p (.mv (.tmp 9)), none, none⟩,
  ⟨some 56, .p (.bin .shr (.tmp 55) (.const (.int .u64 24))), none, none⟩,
  ⟨some 57, .p (.convI .u8 (.tmp 56)), none, none⟩,
  ⟨some 58, .p (.mv (.tmp 9)), none, none⟩,
  ⟨some 59, .p (.bin .shr (.tmp 58) (.const (.int .u64 16))), none, none⟩,
  ⟨some 60, .p (.convI .u8 (.tmp 59)), none, none⟩,
  ⟨some 61, .p (.mv (.tmp 9)), none, none⟩,
  ⟨some 62, .p (.bin .shr (.tmp 61) (.const (.int .u64 8))), none, none⟩,
  ⟨some 63, .p (.convI .u8 (.tmp 62)), none, none⟩,
  ⟨some 64, .p (.mv (.tmp 9)), none, none⟩,
  ⟨some 65, .p (.convI .u8 (.tmp 64)), none, none⟩,
  ⟨some 66, .a (.buildSlice 5 4 (zerosL 4 [.int .u8 0]) [(0, 1, .tmp 57), (1, 1, .tmp 60), (2, 1, .tmp 63), (3, 1, .tmp 65)]), none, none⟩,
  ⟨some 67, .e (.append 1 1 5 [.int .u8 0] .slice (.tmp 54) (.tmp 66)), none, none⟩,
  ⟨some 7, .p (.mv (.tmp 67)), none, none⟩])))
  (.region [⟨some 68, .p (.bin .add (.tmp 51) (.const (.int .i64 1))), none, none⟩,
  ⟨some 51, .p (.mv (.tmp 68)), none, none⟩]))))))))
  (.seq (.region [⟨some 69, .p (.mv (.tmp 7)), none, none⟩,
  ⟨some 70, .l (.convBS (.tmp 69)), none, none⟩,
  ⟨some 2, .p (.mv (.tmp 70)), none, none⟩])
  (.ret))))))))))
noncomputable def e_sha_Hash_Sum (k : Nat) (D : CallF) : Ent := entOf 38 [(0, .p)] [(2, .s)] (sha_Hash_Sum k D)
theorem q_sha_Hash_Sum : (Tryz.f38.body).bind (rcodeOf Tryz.prog 2 Tryz.f38.ntmps) = some (strip r_sha_Hash_Sum) := by kernel_rfl
theorem t_sha_Hash_Sum (k : Nat) (D : CallF) : curF [(0, .p)] (fun args h => denF (C_sha_Hash_Sum k D) k r_sha_Hash_Sum [(2, .s)] [none] args h) = sha_Hash_Sum k D := by kernel_rfl
theorem ok_sha_Hash_Sum {D : CallF} (hD : CSound Tryz.prog 2 D) (k : Nat) : EntOk Tryz.prog 2 (e_sha_Hash_Sum k D) :=
  entOf_ok2 (mkC_sound hD (EntsOk.more (ok_sha_Hash_Fork hD k) (EntsOk.more (ok_sha_Hash_Write hD k) (EntsOk.none)))) Tryz.func38 rfl q_sha_Hash_Sum rfl (t_sha_Hash_Sum k D)
end Gz
namespace Gz
open Go Gx Go.Proofs
set_option maxRecDepth 100000
noncomputable def C_sha_Sum (k : Nat) (D : CallF) : CallF := mkC D [e_sha_New k D, e_sha_Hash_Sum k D, e_sha_Hash_Write k D]
noncomputable def sha_Sum_l0b (k : Nat) (D : CallF) (j4 : (Option Addr) → AHeap → Option ((ByteArray) × AHeap)) (rec11 : (Option Addr) → Slc → Int → Int → AHeap → Option ((ByteArray) × AHeap)) (hv6 : Option Addr) (y7 : Slc) (y8 : Int) (y9 : Int) (h10 : AHeap) : Option ((ByteArray) × AHeap) :=
  (if (decide (y9 < y8)) = true then
  (Gx.idxL 1 y7 y9).bind fun q12 =>
  (ldS q12 h10).bind fun x13 =>
  (sha_Hash_Write k D hv6 x13 h10).bind fun r14 =>
  rec11 hv6 y7 y8 (IntKind.wrap .i64 (y9 + 1)) r14.2
  else
  j4 hv6 h10)
noncomputable def sha_Sum_l0 (k : Nat) (D : CallF) (j4 : (Option Addr) → AHeap → Option ((ByteArray) × AHeap)) : (Option Addr) → Slc → Int → Int → AHeap → Option ((ByteArray) × AHeap) :=
  iterK (α := (Option Addr) → Slc → Int → Int → AHeap → Option ((ByteArray) × AHeap)) (fun _ _ _ _ _ => none) k (sha_Sum_l0b k D j4)
noncomputable def sha_Sum (k : Nat) (D : CallF) (pieces_0 : Slc) (h : AHeap) : Option ((ByteArray) × AHeap) :=
  (sha_New k D h).bind fun r1 =>
  joinK (fun (hv2 : Option Addr) (h3 : AHeap) =>
  (sha_Hash_Sum k D hv2 h3).bind fun r5 =>
  some (r5.1, r5.2)) fun j4 =>
  sha_Sum_l0 k D j4 r1.1 pieces_0 (pieces_0.len : Int) 0 r1.2
def r_sha_Sum : RCode := .seq (.region [⟨some 2, .p (.mv (.const (.string ⟨#[]⟩))), none, none⟩])
  (.seq (.region [⟨some 6, .e (.call (.func 36) []), none, none⟩,
  ⟨some 3, .p (.mv (.tmp 6)), none, none⟩])
  (.seq (.join [(3, .p)] (.seq (.region [⟨some 7, .p (.mv (.tmp 0)), none, none⟩,
  ⟨some 8, .p (.lenL (.tmp 7)), none, none⟩,
  ⟨some 9, .p (.mv (.const (.int .i64 0))), none, none⟩])
  (.block 0 (.loop [(3, .p), (7, .l), (8, .i .i64), (9, .i .i64)] (.seq (.region [⟨some 10, .p (.bin .lss (.tmp 9) (.tmp 8)), none, none⟩])
  (.seq (.cond (.tmp 10) (.skip) (.exit 0))
  (.seq (.block 1 (.seq (.region [⟨some 11, .p (.idxL 1 (.tmp 7) (.tmp 9)), none, none⟩,
  ⟨some 12, .l (.load (.s) (.tmp 11)), none, none⟩,
  ⟨some 5, .p (.mv (.tmp 12)), none, none⟩])
  (.region [⟨some 13, .p (.mv (.tmp 3)), none, none⟩,
  ⟨some 14, .p (.mv (.tmp 5)), none, none⟩,
  ⟨some 15, .e (.call (.func 37) [.tmp 13, .tmp 14]), none, none⟩])))
  (.region [⟨some 16, .p (.bin .add (.tmp 9) (.const (.int .i64 1))), none, none⟩,
  ⟨some 9, .p (.mv (.tmp 16)), none, none⟩]))))))))
  (.seq (.region [⟨some 17, .p (.mv (.tmp 3)), none, none⟩,
  ⟨some 18, .e (.call (.func 38) [.tmp 17]), none, none⟩,
  ⟨some 2, .p (.mv (.tmp 18)), none, none⟩])
  (.ret))))
noncomputable def e_sha_Sum (k : Nat) (D : CallF) : Ent := entOf 18 [(0, .l)] [(2, .s)] (sha_Sum k D)
theorem q_sha_Sum : (Tryz.f18.body).bind (rcodeOf Tryz.prog 2 Tryz.f18.ntmps) = some (strip r_sha_Sum) := by kernel_rfl
theorem t_sha_Sum (k : Nat) (D : CallF) : curF [(0, .l)] (fun args h => denF (C_sha_Sum k D) k r_sha_Sum [(2, .s)] [none] args h) = sha_Sum k D := by kernel_rfl
theorem ok_sha_Sum {D : CallF} (hD : CSound Tryz.prog 2 D) (k : Nat) : EntOk Tryz.prog 2 (e_sha_Sum k D) :=
  entOf_ok2 (mkC_sound hD (EntsOk.more (ok_sha_New hD k) (EntsOk.more (ok_sha_Hash_Sum hD k) (EntsOk.more (ok_sha_Hash_Write hD k) (EntsOk.none))))) Tryz.func18 rfl q_sha_Sum rfl (t_sha_Sum k D)
end Gz
namespace Gz
open Go Gx Go.Proofs
set_option maxRecDepth 100000
end Gz
namespace Gz
open Go Gx Go.Proofs
set_option maxRecDepth 100000
end Gz
namespace Gz
open Go Gx Go.Proofs
set_option maxRecDepth 100000
end Gz
namespace Gz
open Go Gx Go.Proofs
set_option maxRecDepth 100000
end Gz
namespace Gz
open Go Gx Go.Proofs
set_option maxRecDepth 100000
end Gz
namespace Gz
open Go Gx Go.Proofs
set_option maxRecDepth 100000
end Gz
namespace Gz
open Go Gx Go.Proofs
set_option maxRecDepth 100000
end Gz
namespace Gz
open Go Gx Go.Proofs
set_option maxRecDepth 100000
end Gz
namespace Gz
open Go Gx Go.Proofs
set_option maxRecDepth 100000
noncomputable def C_num_Fixed (_k : Nat) (D : CallF) : CallF := mkC D []
noncomputable def num_Fixed_l0b (_k : Nat) (_D : CallF) (j11 : Int → Int → Slc → AHeap → Option ((ByteArray × Int) × AHeap)) (rec24 : Int → Int → Slc → Int → Int → AHeap → Option ((ByteArray × Int) × AHeap)) (n18 : Int) (bytes19 : Int) (b20 : Slc) (y21 : Int) (y22 : Int) (h23 : AHeap) : Option ((ByteArray × Int) × AHeap) :=
  (if (decide (y22 < y21)) = true then
  let t25 : Int := (IntKind.wrap .i64 ((IntKind.wrap .i64 (bytes19 - 1)) - y22))
  (if 0 ≤ (IntKind.wrap .i64 (8 * y22)) then
  let t26 : Int := (Int.fdiv n18 (2 ^ (min ((IntKind.wrap .i64 (8 * y22))).toNat (IntKind.bits .i64))))
  (Gx.idxL 1 b20 t25).bind fun q27 =>
  (st1 q27 (.int .u8 (IntKind.wrap .u8 t26)) h23).bind fun h28 =>
  rec24 n18 bytes19 b20 y21 (IntKind.wrap .i64 (y22 + 1)) h28
  else none)
  else
  j11 n18 bytes19 b20 h23)
noncomputable def num_Fixed_l0 (k : Nat) (D : CallF) (j11 : Int → Int → Slc → AHeap → Option ((ByteArray × Int) × AHeap)) : Int → Int → Slc → Int → Int → AHeap → Option ((ByteArray × Int) × AHeap) :=
  iterK (α := Int → Int → Slc → Int → Int → AHeap → Option ((ByteArray × Int) × AHeap)) (fun _ _ _ _ _ _ => none) k (num_Fixed_l0b k D j11)
noncomputable def num_Fixed (k : Nat) (D : CallF) (n_0 : Int) (bytes_1 : Int) (h : AHeap) : Option ((ByteArray × Int) × AHeap) :=
  joinK (fun (n1 : Int) (bytes2 : Int) (y3 : Bool) (h4 : AHeap) =>
  (if y3 = true then
  some (((⟨#[]⟩ : ByteArray), 1), h4)
  else
  (if 0 ≤ bytes2 ∧ bytes2 ≤ bytes2 ∧ bytes2 ≤ 281474976710656 ∧ 1 * bytes2 ≤ 281474976710656 then
  let h6 := AHeap.new h4 (.cells (zerosL (bytes2).toNat [.int .u8 0]) 5 true 0)
  joinK (fun (n7 : Int) (bytes8 : Int) (b9 : Slc) (h10 : AHeap) =>
  joinK (fun (b12 : Slc) (y13 : Bool) (h14 : AHeap) =>
  (if y13 = true then
  some (((⟨#[]⟩ : ByteArray), 1), h14)
  else
  (bytesOf h14 b12).bind fun s16 =>
  some ((s16, 0), h14))) fun j15 =>
  (if (decide (bytes8 < 8)) = true then
  (if 0 ≤ (IntKind.wrap .i64 (8 * bytes8)) then
  let t17 : Int := (Int.fdiv n7 (2 ^ (min ((IntKind.wrap .i64 (8 * bytes8))).toNat (IntKind.bits .i64))))
  j15 b9 (decide (t17 > 0)) h10
  else none)
  else
  j15 b9 false h10)) fun j11 =>
  num_Fixed_l0 k D j11 n1 bytes2 (⟨(some ⟨h4.next, 0, some 0⟩), (bytes2).toNat, (bytes2).toNat⟩ : Slc) ((bytes2).toNat : Int) 0 h6
  else none))) fun j5 =>
  (if (decide (bytes_1 < 1)) = true then
  j5 n_0 bytes_1 true h
  else
  (if (decide (bytes_1 > 8)) = true then
  j5 n_0 bytes_1 true h
  else
  j5 n_0 bytes_1 (decide (n_0 < 0)) h))
def r_num_Fixed : RCode := .seq (.region [⟨some 4, .p (.mv (.const (.string ⟨#[]⟩))), none, none⟩,
  ⟨some 5, .p (.mv (.const (.int .i64 0))), none, none⟩])
  (.seq (.seq (.join [(0, .i .i64), (1, .i .i64), (17, .b)] (.region [⟨some 8, .p (.mv (.tmp 1)), none, none⟩,
  ⟨some 9, .p (.bin .lss (.tmp 8) (.const (.int .i64 1))), none, none⟩,
  ⟨some 10, .p (.mv (.tmp 9)), none, none⟩,
  ⟨some 11, .p (.mv (.tmp 1)), (some (10, false)), none⟩,
  ⟨some 12, .p (.bin .gtr (.tmp 11) (.const (.int .i64 8))), (some (10, false)), none⟩,
  ⟨some 13, .p (.pick (.tmp 10) (.const (.bool true)) (.tmp 12)), none, none⟩,
  ⟨some 14, .p (.mv (.tmp 13)), none, none⟩,
  ⟨some 15, .p (.mv (.tmp 0)), (some (14, false)), none⟩,
  ⟨some 16, .p (.bin .lss (.tmp 15) (.const (.int .i64 0))), (some (14, false)), none⟩,
  ⟨some 17, .p (.pick (.tmp 14) (.const (.bool true)) (.tmp 16)), none, none⟩]))
  (.cond (.tmp 17) (.seq (.region [⟨some 4, .p (.mv (.const (.string ⟨#[]⟩))), none, none⟩,
  ⟨some 5, .p (.mv (.const (.int .i64 1))), none, none⟩])
  (.ret)) (.skip)))
  (.seq (.region [⟨some 18, .p (.mv (.tmp 1)), none, none⟩,
  ⟨some 19, .a (.mkSlice 5 1 [.int .u8 0] (.tmp 18) (.tmp 18)), none, none⟩,
  ⟨some 6, .p (.mv (.tmp 19)), none, none⟩])
  (.seq (.join [(0, .i .i64), (1, .i .i64), (6, .l)] (.seq (.region [⟨some 20, .p (.mv (.tmp 6)), none, none⟩,
  ⟨some 21, .p (.lenL (.tmp 20)), none, none⟩,
  ⟨some 22, .p (.mv (.const (.int .i64 0))), none, none⟩])
  (.block 0 (.loop [(0, .i .i64), (1, .i .i64), (6, .l), (21, .i .i64), (22, .i .i64)] (.seq (.region [⟨some 23, .p (.bin .lss (.tmp 22) (.tmp 21)), none, none⟩])
  (.seq (.cond (.tmp 23) (.skip) (.exit 0))
  (.seq (.block 1 (.seq (.region [⟨some 24, .p (.mv (.tmp 22)), none, none⟩,
  ⟨some 7, .p (.mv (.tmp 24)), none, none⟩])
  (.region [⟨some 25, .p (.mv (.tmp 6)), none, none⟩,
  ⟨some 26, .p (.mv (.tmp 1)), none, none⟩,
  ⟨some 27, .p (.bin .sub (.tmp 26) (.const (.int .i64 1))), none, none⟩,
  ⟨some 28, .p (.mv (.tmp 7)), none, none⟩,
  ⟨some 29, .p (.bin .sub (.tmp 27) (.tmp 28)), none, none⟩,
  ⟨some 30, .p (.mv (.tmp 0)), none, none⟩,
  ⟨some 31, .p (.mv (.tmp 7)), none, none⟩,
  ⟨some 32, .p (.bin .mul (.const (.int .i64 8)) (.tmp 31)), none, none⟩,
  ⟨some 33, .p (.bin .shr (.tmp 30) (.tmp 32)), none, none⟩,
  ⟨some 34, .p (.convI .u8 (.tmp 33)), none, none⟩,
  ⟨some 35, .p (.idxL 1 (.tmp 25) (.tmp 29)), none, none⟩,
  ⟨none, .e (.store none (.tmp 35) (.tmp 34)), none, none⟩])))
  (.region [⟨some 36, .p (.bin .add (.tmp 22) (.const (.int .i64 1))), none, none⟩,
  ⟨some 22, .p (.mv (.tmp 36)), none, none⟩]))))))))
  (.seq (.seq (.join [(6, .l), (45, .b)] (.region [⟨some 37, .p (.mv (.tmp 1)), none, none⟩,
  ⟨some 38, .p (.bin .lss (.tmp 37) (.const (.int .i64 8))), none, none⟩,
  ⟨some 39, .p (.mv (.tmp 38)), none, none⟩,
  ⟨some 40, .p (.mv (.tmp 0)), (some (39, true)), none⟩,
  ⟨some 41, .p (.mv (.tmp 1)), (some (39, true)), none⟩,
  ⟨some 42, .p (.bin .mul (.const (.int .i64 8)) (.tmp 41)), (some (39, true)), none⟩,
  ⟨some 43, .p (.bin .shr (.tmp 40) (.tmp 42)), (some (39, true)), none⟩,
  ⟨some 44, .p (.bin .gtr (.tmp 43) (.const (.int .i64 0))), (some (39, true)), none⟩,
  ⟨some 45, .p (.pick (.tmp 39) (.tmp 44) (.const (.bool false))), none, none⟩]))
  (.cond (.tmp 45) (.seq (.region [⟨some 4, .p (.mv (.const (.string ⟨#[]⟩))), none, none⟩,
  ⟨some 5, .p (.mv (.const (.int .i64 1))), none, none⟩])
  (.ret)) (.skip)))
  (.seq (.region [⟨some 46, .p (.mv (.tmp 6)), none, none⟩,
  ⟨some 47, .l (.convBS (.tmp 46)), none, none⟩,
  ⟨some 4, .p (.mv (.tmp 47)), none, none⟩,
  ⟨some 5, .p (.mv (.const (.int .i64 0))), none, none⟩])
  (.ret))))))
noncomputable def e_num_Fixed (k : Nat) (D : CallF) : Ent := entOf 46 [(0, .i .i64), (1, .i .i64)] [(4, .s), (5, .i .i64)] (num_Fixed k D)
theorem q_num_Fixed : (Tryz.f46.body).bind (rcodeOf Tryz.prog 2 Tryz.f46.ntmps) = some (strip r_num_Fixed) := by kernel_rfl
theorem t_num_Fixed (k : Nat) (D : CallF) : curF [(0, .i .i64), (1, .i .i64)] (fun args h => denF (C_num_Fixed k D) k r_num_Fixed [(4, .s), (5, .i .i64)] [none, none] args h) = num_Fixed k D := by kernel_rfl
theorem ok_num_Fixed {D : CallF} (hD : CSound Tryz.prog 2 D) (k : Nat) : EntOk Tryz.prog 2 (e_num_Fixed k D) :=
  entOf_ok2 (mkC_sound hD (EntsOk.none)) Tryz.func46 rfl q_num_Fixed rfl (t_num_Fixed k D)
end Gz
namespace Gz
open Go Gx Go.Proofs
set_option maxRecDepth 100000
noncomputable def C_shard_Crc (_k : Nat) (D : CallF) : CallF := mkC D []
noncomputable def shard_Crc_l1b (_k : Nat) (_D : CallF) (j17 : Int → Slc → Int → Int → AHeap → Option ((Int) × AHeap)) (rec26 : Int → Slc → Int → Int → Int → AHeap → Option ((Int) × AHeap)) (r20 : Int) (y21 : Slc) (y22 : Int) (y23 : Int) (y24 : Int) (h25 : AHeap) : Option ((Int) × AHeap) :=
  (if (decide (y24 < 8)) = true then
  let t27 : Int := (Go.bits .and .u32 2197175160 (IntKind.wrap .u32 (0 - (Go.bits .and .u32 r20 1))))
  rec26 (Go.bits .xor .u32 (Int.fdiv r20 2) t27) y21 y22 y23 (IntKind.wrap .i64 (y24 + 1)) h25
  else
  j17 r20 y21 y22 y23 h25)
noncomputable def shard_Crc_l1 (k : Nat) (D : CallF) (j17 : Int → Slc → Int → Int → AHeap → Option ((Int) × AHeap)) : Int → Slc → Int → Int → Int → AHeap → Option ((Int) × AHeap) :=
  iterK (α := Int → Slc → Int → Int → Int → AHeap → Option ((Int) × AHeap)) (fun _ _ _ _ _ _ => none) k (shard_Crc_l1b k D j17)
noncomputable def shard_Crc_l0b (k : Nat) (D : CallF) (j3 : Int → AHeap → Option ((Int) × AHeap)) (rec11 : Int → Slc → Int → Int → AHeap → Option ((Int) × AHeap)) (r6 : Int) (y7 : Slc) (y8 : Int) (y9 : Int) (h10 : AHeap) : Option ((Int) × AHeap) :=
  (if (decide (y9 < y8)) = true then
  joinK (fun (r12 : Int) (y13 : Slc) (y14 : Int) (y15 : Int) (h16 : AHeap) =>
  rec11 r12 y13 y14 (IntKind.wrap .i64 (y15 + 1)) h16) fun j17 =>
  (Gx.idxL 1 y7 y9).bind fun q18 =>
  (ldI .u8 q18 h10).bind fun x19 =>
  shard_Crc_l1 k D j17 (Go.bits .xor .u32 r6 (IntKind.wrap .u32 x19)) y7 y8 y9 0 h10
  else
  j3 r6 h10)
noncomputable def shard_Crc_l0 (k : Nat) (D : CallF) (j3 : Int → AHeap → Option ((Int) × AHeap)) : Int → Slc → Int → Int → AHeap → Option ((Int) × AHeap) :=
  iterK (α := Int → Slc → Int → Int → AHeap → Option ((Int) × AHeap)) (fun _ _ _ _ _ => none) k (shard_Crc_l0b k D j3)
noncomputable def shard_Crc (k : Nat) (D : CallF) (s_0 : ByteArray) (h : AHeap) : Option ((Int) × AHeap) :=
  joinK (fun (r1 : Int) (h2 : AHeap) =>
  let t4 : Int := (IntKind.wrap .i64 (Go.bits .xor .u32 (IntKind.max .u32) r1))
  some (t4, h2)) fun j3 =>
  let h5 := AHeap.new h (.cells (bytesL s_0) 5 true 0)
  shard_Crc_l0 k D j3 4294967295 (⟨(some ⟨h.next, 0, some 2⟩), s_0.size, s_0.size⟩ : Slc) (s_0.size : Int) 0 h5
def r_shard_Crc : RCode := .seq (.region [⟨some 2, .p (.mv (.const (.int .i64 0))), none, none⟩])
  (.seq (.region [⟨some 3, .p (.mv (.const (.int .u32 4294967295))), none, none⟩])
  (.seq (.join [(3, .i .u32)] (.seq (.region [⟨some 7, .p (.mv (.tmp 0)), none, none⟩,
  ⟨some 8, .a (.convSB 5 (.tmp 7)), none, none⟩,
  ⟨some 9, .p (.lenL (.tmp 8)), none, none⟩,
  ⟨some 10, .p (.mv (.const (.int .i64 0))), none, none⟩])
  (.block 0 (.loop [(3, .i .u32), (8, .l), (9, .i .i64), (10, .i .i64)] (.seq (.region [⟨some 11, .p (.bin .lss (.tmp 10) (.tmp 9)), none, none⟩])
  (.seq (.cond (.tmp 11) (.skip) (.exit 0))
  (.seq (.join [(3, .i .u32), (8, .l), (9, .i .i64), (10, .i .i64)] (.block 1 (.seq (.region [⟨some 12, .p (.idxL 1 (.tmp 8) (.tmp 10)), none, none⟩,
  ⟨some 13, .l (.load (.i .u8) (.tmp 12)), none, none⟩,
  ⟨some 5, .p (.mv (.tmp 13)), none, none⟩])
  (.seq (.region [⟨some 14, .p (.mv (.tmp 3)), none, none⟩,
  ⟨some 15, .p (.mv (.tmp 5)), none, none⟩,
  ⟨some 16, .p (.convI .u32 (.tmp 15)), none, none⟩,
  ⟨some 17, .p (.bin .xor (.tmp 14) (.tmp 16)), none, none⟩,
  ⟨some 3, .p (.mv (.tmp 17)), none, none⟩])
  (.seq (.region [⟨some 18, .p (.mv (.const (.int .i64 0))), none, none⟩])
  (.block 2 (.loop [(3, .i .u32), (8, .l), (9, .i .i64), (10, .i .i64), (18, .i .i64)] (.seq (.region [⟨some 19, .p (.bin .lss (.tmp 18) (.const (.int .i64 8))), none, none⟩])
  (.seq (.cond (.tmp 19) (.skip) (.exit 2))
  (.seq (.block 3 (.seq (.region [⟨some 20, .p (.mv (.tmp 3)), none, none⟩,
  ⟨some 21, .p (.bin .and (.tmp 20) (.const (.int .u32 1))), none, none⟩,
  ⟨some 6, .p (.mv (.tmp 21)), none, none⟩])
  (.region [⟨some 22, .p (.mv (.tmp 3)), none, none⟩,
  ⟨some 23, .p (.bin .shr (.tmp 22) (.const (.int .u64 1))), none, none⟩,
  ⟨some 24, .p (.mv (.tmp 6)), none, none⟩,
  ⟨some 25, .p (.un .neg (.tmp 24)), none, none⟩,
  ⟨some 26, .p (.bin .and (.const (.int .u32 2197175160)) (.tmp 25)), none, none⟩,
  ⟨some 27, .p (.bin .xor (.tmp 23) (.tmp 26)), none, none⟩,
  ⟨some 3, .p (.mv (.tmp 27)), none, none⟩])))
  (.region [⟨some 28, .p (.bin .add (.tmp 18) (.const (.int .i64 1))), none, none⟩,
  ⟨some 18, .p (.mv (.tmp 28)), none, none⟩])))))))))))
  (.region [⟨some 29, .p (.bin .add (.tmp 10) (.const (.int .i64 1))), none, none⟩,
  ⟨some 10, .p (.mv (.tmp 29)), none, none⟩]))))))))
  (.seq (.region [⟨some 30, .p (.mv (.tmp 3)), none, none⟩,
  ⟨some 31, .p (.un .xor (.tmp 30)), none, none⟩,
  ⟨some 32, .p (.convI .i64 (.tmp 31)), none, none⟩,
  ⟨some 2, .p (.mv (.tmp 32)), none, none⟩])
  (.ret))))
noncomputable def e_shard_Crc (k : Nat) (D : CallF) : Ent := entOf 19 [(0, .s)] [(2, .i .i64)] (shard_Crc k D)
theorem q_shard_Crc : (Tryz.f19.body).bind (rcodeOf Tryz.prog 2 Tryz.f19.ntmps) = some (strip r_shard_Crc) := by kernel_rfl
theorem t_shard_Crc (k : Nat) (D : CallF) : curF [(0, .s)] (fun args h => denF (C_shard_Crc k D) k r_shard_Crc [(2, .i .i64)] [none] args h) = shard_Crc k D := by kernel_rfl
theorem ok_shard_Crc {D : CallF} (hD : CSound Tryz.prog 2 D) (k : Nat) : EntOk Tryz.prog 2 (e_shard_Crc k D) :=
  entOf_ok2 (mkC_sound hD (EntsOk.none)) Tryz.func19 rfl q_shard_Crc rfl (t_shard_Crc k D)
end Gz
namespace Gz
open Go Gx Go.Proofs
set_option maxRecDepth 100000
noncomputable def C_shard_text (k : Nat) (D : CallF) : CallF := mkC D [e_num_Fixed k D, e_shard_Crc k D]
noncomputable def shard_text (k : Nat) (D : CallF) (x_0 : Int × Int × Int × Int × ByteArray × ByteArray) (h : AHeap) : Option ((ByteArray) × AHeap) :=
  let h1 := AHeap.new h (.cells [.int .i64 x_0.1, .int .i64 x_0.2.1, .int .i64 x_0.2.2.1, .int .i64 x_0.2.2.2.1, .string x_0.2.2.2.2.1, .string x_0.2.2.2.2.2] 33 true 0)
  (ldI .i64 (⟨h.next, 3, none⟩ : Addr) h1).bind fun x2 =>
  (num_Fixed k D x2 4 h1).bind fun r3 =>
  (ldI .i64 (⟨h.next, 0, none⟩ : Addr) r3.2).bind fun x4 =>
  (ldI .i64 (⟨h.next, 1, none⟩ : Addr) r3.2).bind fun x5 =>
  (ldI .i64 (⟨h.next, 2, none⟩ : Addr) r3.2).bind fun x6 =>
  let h7 := AHeap.new r3.2 (.cells [.int .u8 (IntKind.wrap .u8 x4), .int .u8 (IntKind.wrap .u8 x5), .int .u8 (IntKind.wrap .u8 x6)] 5 true 0)
  (bytesOf h7 (⟨(some ⟨r3.2.next, 0, some 0⟩), 3, 3⟩ : Slc)).bind fun s8 =>
  (if (⟨#[71, 82, 84, 1]⟩ : ByteArray).size + s8.size ≤ 9223372036854775807 then
  (if ((⟨#[71, 82, 84, 1]⟩ : ByteArray) ++ s8).size + r3.1.1.size ≤ 9223372036854775807 then
  (ldS (⟨h.next, 4, none⟩ : Addr) h7).bind fun x9 =>
  (if (((⟨#[71, 82, 84, 1]⟩ : ByteArray) ++ s8) ++ r3.1.1).size + x9.size ≤ 9223372036854775807 then
  (ldS (⟨h.next, 5, none⟩ : Addr) h7).bind fun x10 =>
  (if ((((⟨#[71, 82, 84, 1]⟩ : ByteArray) ++ s8) ++ r3.1.1) ++ x9).size + x10.size ≤ 9223372036854775807 then
  let s11 : ByteArray := (((((⟨#[71, 82, 84, 1]⟩ : ByteArray) ++ s8) ++ r3.1.1) ++ x9) ++ x10)
  (shard_Crc k D s11 h7).bind fun r12 =>
  let h13 := AHeap.new r12.2 (.cells [.int .u8 (IntKind.wrap .u8 r12.1), .int .u8 (IntKind.wrap .u8 (Int.fdiv r12.1 256)), .int .u8 (IntKind.wrap .u8 (Int.fdiv r12.1 65536)), .int .u8 (IntKind.wrap .u8 (Int.fdiv r12.1 16777216))] 5 true 0)
  (bytesOf h13 (⟨(some ⟨r12.2.next, 0, some 0⟩), 4, 4⟩ : Slc)).bind fun s14 =>
  (if s11.size + s14.size ≤ 9223372036854775807 then
  some ((s11 ++ s14), h13)
  else none)
  else none)
  else none)
  else none)
  else none)
def r_shard_text : RCode := .seq (.region [⟨some 1, .a (.box 33 (.tmp 0)), none, none⟩,
  ⟨some 2, .p (.mv (.const (.string ⟨#[]⟩))), none, none⟩])
  (.seq (.region [⟨some 8, .p (.fieldAddr 3 (.tmp 1)), none, none⟩,
  ⟨some 9, .l (.load (.i .i64) (.tmp 8)), none, none⟩,
  ⟨some 10, .e (.call (.func 46) [.tmp 9, .const (.int .i64 4)]), none, none⟩,
  ⟨some 7, .p (.mv (.tmp 10)), none, none⟩,
  ⟨some 11, .p (.extract (.tmp 7) 0), none, none⟩,
  ⟨some 12, .p (.extract (.tmp 7) 1), none, none⟩,
  ⟨some 3, .p (.mv (.tmp 11)), none, none⟩,
  ⟨some 4, .p (.mv (.tmp 12)), none, none⟩])
  (.seq (.region [⟨some 13, .p (.fieldAddr 0 (.tmp 1)), none, none⟩,
  ⟨some 14, .l (.load (.i .i64) (.tmp 13)), none, none⟩,
  ⟨some 15, .p (.convI .u8 (.tmp 14)), none, none⟩,
  ⟨some 16, .p (.fieldAddr 1 (.tmp 1)), none, none⟩,
  ⟨some 17, .l (.load (.i .i64) (.tmp 16)), none, none⟩,
  ⟨some 18, .p (.convI .u8 (.tmp 17)), none, none⟩,
  ⟨some 19, .p (.fieldAddr 2 (.tmp 1)), none, none⟩,
  ⟨some 20, .l (.load (.i .i64) (.tmp 19)), none, none⟩,
  ⟨some 21, .p (.convI .u8 (.tmp 20)), none, none⟩,
  ⟨some 22, .a (.buildSlice 5 3 (zerosL 3 [.int .u8 0]) [(0, 1, .tmp 15), (1, 1, .tmp 18), (2, 1, .tmp 21)]), none, none⟩,
  ⟨some 23, .l (.convBS (.tmp 22)), none, none⟩,
  ⟨some 24, .p (.bin .add (.const (.string ⟨#[71, 82, 84, 1]⟩)) (.tmp 23)), none, none⟩,
  ⟨some 25, .p (.mv (.tmp 3)), none, none⟩,
  ⟨some 26, .p (.bin .add (.tmp 24) (.tmp 25)), none, none⟩,
  ⟨some 27, .p (.fieldAddr 4 (.tmp 1)), none, none⟩,
  ⟨some 28, .l (.load (.s) (.tmp 27)), none, none⟩,
  ⟨some 29, .p (.bin .add (.tmp 26) (.tmp 28)), none, none⟩,
  ⟨some 30, .p (.fieldAddr 5 (.tmp 1)), none, none⟩,
  ⟨some 31, .l (.load (.s) (.tmp 30)), none, none⟩,
  ⟨some 32, .p (.bin .add (.tmp 29) (.tmp 31)), none, none⟩,
  ⟨some 5, .p (.mv (.tmp 32)), none, none⟩])
  (.seq (.region [⟨some 33, .p (.mv (.tmp 5)), none, none⟩,
  ⟨some 34, .e (.call (.func 19) [.tmp 33]), none, none⟩,
  ⟨some 6, .p (.mv (.tmp 34)), none, none⟩])
  (.seq (.region [⟨some 35, .p (.mv (.tmp 5)), none, none⟩,
  ⟨some 36, .p (.mv (.tmp 6)), none, none⟩,
  ⟨some 37, .p (.convI .u8 (.tmp 36)), none, none⟩,
  ⟨some 38, .p (.mv (.tmp 6)), none, none⟩,
  ⟨some 39, .p (.bin .shr (.tmp 38) (.const (.int .u64 8))), none, none⟩,
  ⟨some 40, .p (.convI .u8 (.tmp 39)), none, none⟩,
  ⟨some 41, .p (.mv (.tmp 6)), none, none⟩,
  ⟨some 42, .p (.bin .shr (.tmp 41) (.const (.int .u64 16))), none, none⟩,
  ⟨some 43, .p (.convI .u8 (.tmp 42)), none, none⟩,
  ⟨some 44, .p (.mv (.tmp 6)), none, none⟩,
  ⟨some 45, .p (.bin .shr (.tmp 44) (.const (.int .u64 24))), none, none⟩,
  ⟨some 46, .p (.convI .u8 (.tmp 45)), none, none⟩,
  ⟨some 47, .a (.buildSlice 5 4 (zerosL 4 [.int .u8 0]) [(0, 1, .tmp 37), (1, 1, .tmp 40), (2, 1, .tmp 43), (3, 1, .tmp 46)]), none, none⟩,
  ⟨some 48, .l (.convBS (.tmp 47)), none, none⟩,
  ⟨some 49, .p (.bin .add (.tmp 35) (.tmp 48)), none, none⟩,
  ⟨some 2, .p (.mv (.tmp 49)), none, none⟩])
  (.ret)))))
noncomputable def e_shard_text (k : Nat) (D : CallF) : Ent := entOf 22 [(0, .st [.i .i64, .i .i64, .i .i64, .i .i64, .s, .s])] [(2, .s)] (shard_text k D)
theorem q_shard_text : (Tryz.f22.body).bind (rcodeOf Tryz.prog 2 Tryz.f22.ntmps) = some (strip r_shard_text) := by kernel_rfl
theorem t_shard_text (k : Nat) (D : CallF) : curF [(0, .st [.i .i64, .i .i64, .i .i64, .i .i64, .s, .s])] (fun args h => denF (C_shard_text k D) k r_shard_text [(2, .s)] [none] args h) = shard_text k D := by kernel_rfl
theorem ok_shard_text {D : CallF} (hD : CSound Tryz.prog 2 D) (k : Nat) : EntOk Tryz.prog 2 (e_shard_text k D) :=
  entOf_ok2 (mkC_sound hD (EntsOk.more (ok_num_Fixed hD k) (EntsOk.more (ok_shard_Crc hD k) (EntsOk.none)))) Tryz.func22 rfl q_shard_text rfl (t_shard_text k D)
end Gz
namespace Gz
open Go Gx Go.Proofs
set_option maxRecDepth 100000
end Gz
namespace Gz
open Go Gx Go.Proofs
set_option maxRecDepth 100000
end Gz
namespace Gz
open Go Gx Go.Proofs
set_option maxRecDepth 100000
noncomputable def C_ref05_Size (_k : Nat) (D : CallF) : CallF := mkC D []
noncomputable def ref05_Size (_k : Nat) (_D : CallF) (k_0 : Int) (long_1 : Int) (h : AHeap) : Option ((Int) × AHeap) :=
  (if k_0 = 0 then none else
  let t1 : Int := (IntKind.wrap .i64 (Int.tdiv (IntKind.wrap .i64 ((IntKind.wrap .i64 (long_1 + k_0)) - 1)) k_0))
  some (t1, h))
def r_ref05_Size : RCode := .seq (.region [⟨some 4, .p (.mv (.const (.int .i64 0))), none, none⟩])
  (.seq (.region [⟨some 5, .p (.mv (.tmp 1)), none, none⟩,
  ⟨some 6, .p (.mv (.tmp 0)), none, none⟩,
  ⟨some 7, .p (.bin .add (.tmp 5) (.tmp 6)), none, none⟩,
  ⟨some 8, .p (.bin .sub (.tmp 7) (.const (.int .i64 1))), none, none⟩,
  ⟨some 9, .p (.mv (.tmp 0)), none, none⟩,
  ⟨some 10, .p (.bin .quo (.tmp 8) (.tmp 9)), none, none⟩,
  ⟨some 4, .p (.mv (.tmp 10)), none, none⟩])
  (.ret))
noncomputable def e_ref05_Size (k : Nat) (D : CallF) : Ent := entOf 56 [(0, .i .i64), (1, .i .i64)] [(4, .i .i64)] (ref05_Size k D)
theorem q_ref05_Size : (Tryz.f56.body).bind (rcodeOf Tryz.prog 2 Tryz.f56.ntmps) = some (strip r_ref05_Size) := by kernel_rfl
theorem t_ref05_Size (k : Nat) (D : CallF) : curF [(0, .i .i64), (1, .i .i64)] (fun args h => denF (C_ref05_Size k D) k r_ref05_Size [(4, .i .i64)] [none] args h) = ref05_Size k D := by kernel_rfl
theorem ok_ref05_Size {D : CallF} (hD : CSound Tryz.prog 2 D) (k : Nat) : EntOk Tryz.prog 2 (e_ref05_Size k D) :=
  entOf_ok2 (mkC_sound hD (EntsOk.none)) Tryz.func56 rfl q_ref05_Size rfl (t_ref05_Size k D)
end Gz
namespace Gz
open Go Gx Go.Proofs
set_option maxRecDepth 100000
end Gz
namespace Gz
open Go Gx Go.Proofs
set_option maxRecDepth 100000
noncomputable def C_ref01_Fixed (_k : Nat) (D : CallF) : CallF := mkC D []
noncomputable def ref01_Fixed_l0b (_k : Nat) (_D : CallF) (j9 : Slc → AHeap → Option ((ByteArray × Int) × AHeap)) (rec15 : Int → Slc → Int → AHeap → Option ((ByteArray × Int) × AHeap)) (n11 : Int) (b12 : Slc) (i13 : Int) (h14 : AHeap) : Option ((ByteArray × Int) × AHeap) :=
  (if (decide (i13 ≥ 0)) = true then
  (Gx.idxL 1 b12 i13).bind fun q16 =>
  (st1 q16 (.int .u8 (IntKind.wrap .u8 n11)) h14).bind fun h17 =>
  rec15 (IntKind.wrap .i64 (Int.tdiv n11 256)) b12 (IntKind.wrap .i64 (i13 - 1)) h17
  else
  j9 b12 h14)
noncomputable def ref01_Fixed_l0 (k : Nat) (D : CallF) (j9 : Slc → AHeap → Option ((ByteArray × Int) × AHeap)) : Int → Slc → Int → AHeap → Option ((ByteArray × Int) × AHeap) :=
  iterK (α := Int → Slc → Int → AHeap → Option ((ByteArray × Int) × AHeap)) (fun _ _ _ _ => none) k (ref01_Fixed_l0b k D j9)
noncomputable def ref01_Fixed (k : Nat) (D : CallF) (n_0 : Int) (bytes_1 : Int) (h : AHeap) : Option ((ByteArray × Int) × AHeap) :=
  joinK (fun (n1 : Int) (bytes2 : Int) (y3 : Bool) (h4 : AHeap) =>
  (if y3 = true then
  some (((⟨#[]⟩ : ByteArray), 1), h4)
  else
  (if 0 ≤ bytes2 ∧ bytes2 ≤ bytes2 ∧ bytes2 ≤ 281474976710656 ∧ 1 * bytes2 ≤ 281474976710656 then
  let h6 := AHeap.new h4 (.cells (zerosL (bytes2).toNat [.int .u8 0]) 5 true 0)
  joinK (fun (b7 : Slc) (h8 : AHeap) =>
  (bytesOf h8 b7).bind fun s10 =>
  some ((s10, 0), h8)) fun j9 =>
  ref01_Fixed_l0 k D j9 n1 (⟨(some ⟨h4.next, 0, some 0⟩), (bytes2).toNat, (bytes2).toNat⟩ : Slc) (IntKind.wrap .i64 (bytes2 - 1)) h6
  else none))) fun j5 =>
  (if (decide (bytes_1 < 1)) = true then
  j5 n_0 bytes_1 true h
  else
  (if (decide (bytes_1 > 8)) = true then
  j5 n_0 bytes_1 true h
  else
  (if (decide (n_0 < 0)) = true then
  j5 n_0 bytes_1 true h
  else
  (if (decide (bytes_1 < 8)) = true then
  (if 0 ≤ (IntKind.wrap .i64 (8 * bytes_1)) then
  let t18 : Int := (Int.fdiv n_0 (2 ^ (min ((IntKind.wrap .i64 (8 * bytes_1))).toNat (IntKind.bits .i64))))
  j5 n_0 bytes_1 (t18 != 0) h
  else none)
  else
  j5 n_0 bytes_1 false h))))
def r_ref01_Fixed : RCode := .seq (.region [⟨some 4, .p (.mv (.const (.string ⟨#[]⟩))), none, none⟩,
  ⟨some 5, .p (.mv (.const (.int .i64 0))), none, none⟩])
  (.seq (.seq (.join [(0, .i .i64), (1, .i .i64), (28, .b)] (.region [⟨some 8, .p (.mv (.tmp 1)), none, none⟩,
  ⟨some 9, .p (.bin .lss (.tmp 8) (.const (.int .i64 1))), none, none⟩,
  ⟨some 10, .p (.mv (.tmp 9)), none, none⟩,
  ⟨some 11, .p (.mv (.tmp 1)), (some (10, false)), none⟩,
  ⟨some 12, .p (.bin .gtr (.tmp 11) (.const (.int .i64 8))), (some (10, false)), none⟩,
  ⟨some 13, .p (.pick (.tmp 10) (.const (.bool true)) (.tmp 12)), none, none⟩,
  ⟨some 14, .p (.mv (.tmp 13)), none, none⟩,
  ⟨some 15, .p (.mv (.tmp 0)), (some (14, false)), none⟩,
  ⟨some 16, .p (.bin .lss (.tmp 15) (.const (.int .i64 0))), (some (14, false)), none⟩,
  ⟨some 17, .p (.pick (.tmp 14) (.const (.bool true)) (.tmp 16)), none, none⟩,
  ⟨some 18, .p (.mv (.tmp 17)), none, none⟩,
  ⟨some 19, .p (.mv (.tmp 1)), (some (18, false)), none⟩,
  ⟨some 20, .p (.bin .lss (.tmp 19) (.const (.int .i64 8))), (some (18, false)), none⟩,
  ⟨some 21, .p (.mv (.tmp 20)), (some (18, false)), none⟩,
  ⟨some 22, .p (.mv (.tmp 0)), (some (21, true)), none⟩,
  ⟨some 23, .p (.mv (.tmp 1)), (some (21, true)), none⟩,
  ⟨some 24, .p (.bin .mul (.const (.int .i64 8)) (.tmp 23)), (some (21, true)), none⟩,
  ⟨some 25, .p (.bin .shr (.tmp 22) (.tmp 24)), (some (21, true)), none⟩,
  ⟨some 26, .p (.bin .neq (.tmp 25) (.const (.int .i64 0))), (some (21, true)), none⟩,
  ⟨some 27, .p (.pick (.tmp 21) (.tmp 26) (.const (.bool false))), (some (18, false)), none⟩,
  ⟨some 28, .p (.pick (.tmp 18) (.const (.bool true)) (.tmp 27)), none, none⟩]))
  (.cond (.tmp 28) (.seq (.region [⟨some 4, .p (.mv (.const (.string ⟨#[]⟩))), none, none⟩,
  ⟨some 5, .p (.mv (.const (.int .i64 1))), none, none⟩])
  (.ret)) (.skip)))
  (.seq (.region [⟨some 29, .p (.mv (.tmp 1)), none, none⟩,
  ⟨some 30, .a (.mkSlice 5 1 [.int .u8 0] (.tmp 29) (.tmp 29)), none, none⟩,
  ⟨some 6, .p (.mv (.tmp 30)), none, none⟩])
  (.seq (.join [(6, .l)] (.seq (.region [⟨some 31, .p (.mv (.tmp 1)), none, none⟩,
  ⟨some 32, .p (.bin .sub (.tmp 31) (.const (.int .i64 1))), none, none⟩,
  ⟨some 7, .p (.mv (.tmp 32)), none, none⟩])
  (.block 0 (.loop [(0, .i .i64), (6, .l), (7, .i .i64)] (.seq (.seq (.region [⟨some 33, .p (.mv (.tmp 7)), none, none⟩,
  ⟨some 34, .p (.bin .geq (.tmp 33) (.const (.int .i64 0))), none, none⟩])
  (.cond (.tmp 34) (.skip) (.exit 0)))
  (.seq (.block 1 (.seq (.region [⟨some 37, .p (.mv (.tmp 6)), none, none⟩,
  ⟨some 38, .p (.mv (.tmp 7)), none, none⟩,
  ⟨some 39, .p (.mv (.tmp 0)), none, none⟩,
  ⟨some 40, .p (.convI .u8 (.tmp 39)), none, none⟩,
  ⟨some 41, .p (.idxL 1 (.tmp 37) (.tmp 38)), none, none⟩,
  ⟨none, .e (.store none (.tmp 41) (.tmp 40)), none, none⟩])
  (.region [⟨some 42, .p (.mv (.tmp 0)), none, none⟩,
  ⟨some 43, .p (.bin .quo (.tmp 42) (.const (.int .i64 256))), none, none⟩,
  ⟨some 0, .p (.mv (.tmp 43)), none, none⟩])))
  (.region [⟨some 35, .p (.mv (.tmp 7)), none, none⟩,
  ⟨some 36, .p (.bin .sub (.tmp 35) (.const (.int .i64 1))), none, none⟩,
  ⟨some 7, .p (.mv (.tmp 36)), none, none⟩])))))))
  (.seq (.region [⟨some 44, .p (.mv (.tmp 6)), none, none⟩,
  ⟨some 45, .l (.convBS (.tmp 44)), none, none⟩,
  ⟨some 4, .p (.mv (.tmp 45)), none, none⟩,
  ⟨some 5, .p (.mv (.const (.int .i64 0))), none, none⟩])
  (.ret)))))
noncomputable def e_ref01_Fixed (k : Nat) (D : CallF) : Ent := entOf 82 [(0, .i .i64), (1, .i .i64)] [(4, .s), (5, .i .i64)] (ref01_Fixed k D)
theorem q_ref01_Fixed : (Tryz.f82.body).bind (rcodeOf Tryz.prog 2 Tryz.f82.ntmps) = some (strip r_ref01_Fixed) := by kernel_rfl
theorem t_ref01_Fixed (k : Nat) (D : CallF) : curF [(0, .i .i64), (1, .i .i64)] (fun args h => denF (C_ref01_Fixed k D) k r_ref01_Fixed [(4, .s), (5, .i .i64)] [none, none] args h) = ref01_Fixed k D := by kernel_rfl
theorem ok_ref01_Fixed {D : CallF} (hD : CSound Tryz.prog 2 D) (k : Nat) : EntOk Tryz.prog 2 (e_ref01_Fixed k D) :=
  entOf_ok2 (mkC_sound hD (EntsOk.none)) Tryz.func82 rfl q_ref01_Fixed rfl (t_ref01_Fixed k D)
end Gz
namespace Gz
open Go Gx Go.Proofs
set_option maxRecDepth 100000
noncomputable def C_ref01_Must (k : Nat) (D : CallF) : CallF := mkC D [e_ref01_Fixed k D]
noncomputable def ref01_Must (k : Nat) (D : CallF) (n_0 : Int) (bytes_1 : Int) (h : AHeap) : Option ((ByteArray) × AHeap) :=
  (ref01_Fixed k D n_0 bytes_1 h).bind fun r1 =>
  some (r1.1.1, r1.2)
def r_ref01_Must : RCode := .seq (.region [⟨some 4, .p (.mv (.const (.string ⟨#[]⟩))), none, none⟩])
  (.seq (.region [⟨some 8, .p (.mv (.tmp 0)), none, none⟩,
  ⟨some 9, .p (.mv (.tmp 1)), none, none⟩,
  ⟨some 10, .e (.call (.func 82) [.tmp 8, .tmp 9]), none, none⟩,
  ⟨some 7, .p (.mv (.tmp 10)), none, none⟩,
  ⟨some 11, .p (.extract (.tmp 7) 0), none, none⟩,
  ⟨some 12, .p (.extract (.tmp 7) 1), none, none⟩,
  ⟨some 5, .p (.mv (.tmp 11)), none, none⟩,
  ⟨some 6, .p (.mv (.tmp 12)), none, none⟩])
  (.seq (.region [⟨some 13, .p (.mv (.tmp 5)), none, none⟩,
  ⟨some 4, .p (.mv (.tmp 13)), none, none⟩])
  (.ret)))
noncomputable def e_ref01_Must (k : Nat) (D : CallF) : Ent := entOf 49 [(0, .i .i64), (1, .i .i64)] [(4, .s)] (ref01_Must k D)
theorem q_ref01_Must : (Tryz.f49.body).bind (rcodeOf Tryz.prog 2 Tryz.f49.ntmps) = some (strip r_ref01_Must) := by kernel_rfl
theorem t_ref01_Must (k : Nat) (D : CallF) : curF [(0, .i .i64), (1, .i .i64)] (fun args h => denF (C_ref01_Must k D) k r_ref01_Must [(4, .s)] [none] args h) = ref01_Must k D := by kernel_rfl
theorem ok_ref01_Must {D : CallF} (hD : CSound Tryz.prog 2 D) (k : Nat) : EntOk Tryz.prog 2 (e_ref01_Must k D) :=
  entOf_ok2 (mkC_sound hD (EntsOk.more (ok_ref01_Fixed hD k) (EntsOk.none))) Tryz.func49 rfl q_ref01_Must rfl (t_ref01_Must k D)
end Gz
namespace Gz
open Go Gx Go.Proofs
set_option maxRecDepth 100000
noncomputable def C_ref06_Crc (_k : Nat) (D : CallF) : CallF := mkC D []
noncomputable def ref06_Crc_l1b (_k : Nat) (_D : CallF) (j13 : ByteArray → Int → Int → AHeap → Option ((Int) × AHeap)) (rec20 : ByteArray → Int → Int → Int → AHeap → Option ((Int) × AHeap)) (s15 : ByteArray) (r16 : Int) (i17 : Int) (kv18 : Int) (h19 : AHeap) : Option ((Int) × AHeap) :=
  (if (decide (kv18 < 8)) = true then
  joinK (fun (s21 : ByteArray) (r22 : Int) (i23 : Int) (kv24 : Int) (h25 : AHeap) =>
  rec20 s21 r22 i23 (IntKind.wrap .i64 (kv24 + 1)) h25) fun j26 =>
  (if ((Int.tmod r16 2) == 1) = true then
  let t27 : Int := (Go.bits .xor .i64 (IntKind.wrap .i64 (Int.tdiv r16 2)) 2197175160)
  j26 s15 t27 i17 kv18 h19
  else
  j26 s15 (IntKind.wrap .i64 (Int.tdiv r16 2)) i17 kv18 h19)
  else
  j13 s15 r16 i17 h19)
noncomputable def ref06_Crc_l1 (k : Nat) (D : CallF) (j13 : ByteArray → Int → Int → AHeap → Option ((Int) × AHeap)) : ByteArray → Int → Int → Int → AHeap → Option ((Int) × AHeap) :=
  iterK (α := ByteArray → Int → Int → Int → AHeap → Option ((Int) × AHeap)) (fun _ _ _ _ _ => none) k (ref06_Crc_l1b k D j13)
noncomputable def ref06_Crc_l0b (k : Nat) (D : CallF) (j3 : Int → AHeap → Option ((Int) × AHeap)) (rec8 : ByteArray → Int → Int → AHeap → Option ((Int) × AHeap)) (s4 : ByteArray) (r5 : Int) (i6 : Int) (h7 : AHeap) : Option ((Int) × AHeap) :=
  (if (decide (i6 < (s4.size : Int))) = true then
  joinK (fun (s9 : ByteArray) (r10 : Int) (i11 : Int) (h12 : AHeap) =>
  rec8 s9 r10 (IntKind.wrap .i64 (i11 + 1)) h12) fun j13 =>
  (Gx.idxS s4 i6).bind fun b14 =>
  ref06_Crc_l1 k D j13 s4 (Go.bits .xor .i64 r5 (IntKind.wrap .i64 b14)) i6 0 h7
  else
  j3 r5 h7)
noncomputable def ref06_Crc_l0 (k : Nat) (D : CallF) (j3 : Int → AHeap → Option ((Int) × AHeap)) : ByteArray → Int → Int → AHeap → Option ((Int) × AHeap) :=
  iterK (α := ByteArray → Int → Int → AHeap → Option ((Int) × AHeap)) (fun _ _ _ _ => none) k (ref06_Crc_l0b k D j3)
noncomputable def ref06_Crc (k : Nat) (D : CallF) (s_0 : ByteArray) (h : AHeap) : Option ((Int) × AHeap) :=
  joinK (fun (r1 : Int) (h2 : AHeap) =>
  some ((Go.bits .xor .i64 r1 4294967295), h2)) fun j3 =>
  ref06_Crc_l0 k D j3 s_0 4294967295 0 h
def r_ref06_Crc : RCode := .seq (.region [⟨some 2, .p (.mv (.const (.int .i64 0))), none, none⟩])
  (.seq (.region [⟨some 3, .p (.mv (.const (.int .i64 4294967295))), none, none⟩])
  (.seq (.join [(3, .i .i64)] (.seq (.region [⟨some 4, .p (.mv (.const (.int .i64 0))), none, none⟩])
  (.block 0 (.loop [(0, .s), (3, .i .i64), (4, .i .i64)] (.seq (.seq (.region [⟨some 7, .p (.mv (.tmp 4)), none, none⟩,
  ⟨some 8, .p (.mv (.tmp 0)), none, none⟩,
  ⟨some 9, .p (.lenS (.tmp 8)), none, none⟩,
  ⟨some 10, .p (.bin .lss (.tmp 7) (.tmp 9)), none, none⟩])
  (.cond (.tmp 10) (.skip) (.exit 0)))
  (.seq (.join [(0, .s), (3, .i .i64), (4, .i .i64)] (.block 1 (.seq (.region [⟨some 13, .p (.mv (.tmp 3)), none, none⟩,
  ⟨some 14, .p (.mv (.tmp 0)), none, none⟩,
  ⟨some 15, .p (.mv (.tmp 4)), none, none⟩,
  ⟨some 16, .p (.idxS (.tmp 14) (.tmp 15)), none, none⟩,
  ⟨some 17, .p (.convI .i64 (.tmp 16)), none, none⟩,
  ⟨some 18, .p (.bin .xor (.tmp 13) (.tmp 17)), none, none⟩,
  ⟨some 3, .p (.mv (.tmp 18)), none, none⟩])
  (.seq (.region [⟨some 5, .p (.mv (.const (.int .i64 0))), none, none⟩])
  (.block 2 (.loop [(0, .s), (3, .i .i64), (4, .i .i64), (5, .i .i64)] (.seq (.seq (.region [⟨some 19, .p (.mv (.tmp 5)), none, none⟩,
  ⟨some 20, .p (.bin .lss (.tmp 19) (.const (.int .i64 8))), none, none⟩])
  (.cond (.tmp 20) (.skip) (.exit 2)))
  (.seq (.join [(0, .s), (3, .i .i64), (4, .i .i64), (5, .i .i64)] (.block 3 (.seq (.region [⟨some 23, .p (.mv (.tmp 3)), none, none⟩,
  ⟨some 24, .p (.bin .rem (.tmp 23) (.const (.int .i64 2))), none, none⟩,
  ⟨some 25, .p (.bin .eql (.tmp 24) (.const (.int .i64 1))), none, none⟩,
  ⟨some 6, .p (.mv (.tmp 25)), none, none⟩])
  (.seq (.region [⟨some 26, .p (.mv (.tmp 3)), none, none⟩,
  ⟨some 27, .p (.bin .quo (.tmp 26) (.const (.int .i64 2))), none, none⟩,
  ⟨some 3, .p (.mv (.tmp 27)), none, none⟩])
  (.seq (.region [⟨some 28, .p (.mv (.tmp 6)), none, none⟩])
  (.cond (.tmp 28) (.region [⟨some 29, .p (.mv (.tmp 3)), none, none⟩,
  ⟨some 30, .p (.bin .xor (.tmp 29) (.const (.int .i64 2197175160))), none, none⟩,
  ⟨some 3, .p (.mv (.tmp 30)), none, none⟩]) (.skip)))))))
  (.region [⟨some 21, .p (.mv (.tmp 5)), none, none⟩,
  ⟨some 22, .p (.bin .add (.tmp 21) (.const (.int .i64 1))), none, none⟩,
  ⟨some 5, .p (.mv (.tmp 22)), none, none⟩])))))))))
  (.region [⟨some 11, .p (.mv (.tmp 4)), none, none⟩,
  ⟨some 12, .p (.bin .add (.tmp 11) (.const (.int .i64 1))), none, none⟩,
  ⟨some 4, .p (.mv (.tmp 12)), none, none⟩])))))))
  (.seq (.region [⟨some 31, .p (.mv (.tmp 3)), none, none⟩,
  ⟨some 32, .p (.bin .xor (.tmp 31) (.const (.int .i64 4294967295))), none, none⟩,
  ⟨some 2, .p (.mv (.tmp 32)), none, none⟩])
  (.ret))))
noncomputable def e_ref06_Crc (k : Nat) (D : CallF) : Ent := entOf 51 [(0, .s)] [(2, .i .i64)] (ref06_Crc k D)
theorem q_ref06_Crc : (Tryz.f51.body).bind (rcodeOf Tryz.prog 2 Tryz.f51.ntmps) = some (strip r_ref06_Crc) := by kernel_rfl
theorem t_ref06_Crc (k : Nat) (D : CallF) : curF [(0, .s)] (fun args h => denF (C_ref06_Crc k D) k r_ref06_Crc [(2, .i .i64)] [none] args h) = ref06_Crc k D := by kernel_rfl
theorem ok_ref06_Crc {D : CallF} (hD : CSound Tryz.prog 2 D) (k : Nat) : EntOk Tryz.prog 2 (e_ref06_Crc k D) :=
  entOf_ok2 (mkC_sound hD (EntsOk.none)) Tryz.func51 rfl q_ref06_Crc rfl (t_ref06_Crc k D)
end Gz
namespace Gz
open Go Gx Go.Proofs
set_option maxRecDepth 100000
noncomputable def C_ref06_Text (k : Nat) (D : CallF) : CallF := mkC D [e_ref01_Must k D, e_ref06_Crc k D]
noncomputable def ref06_Text (k : Nat) (D : CallF) (x_0 : Int × Int × Int × Int × ByteArray × ByteArray) (h : AHeap) : Option ((ByteArray) × AHeap) :=
  let h1 := AHeap.new h (.cells [.int .i64 x_0.1, .int .i64 x_0.2.1, .int .i64 x_0.2.2.1, .int .i64 x_0.2.2.2.1, .string x_0.2.2.2.2.1, .string x_0.2.2.2.2.2] 34 true 0)
  let h2 := AHeap.resv h1 1
  (ldI .i64 (⟨h.next, 3, none⟩ : Addr) h2).bind fun x3 =>
  (ref01_Must k D x3 4 h2).bind fun r4 =>
  (ldI .i64 (⟨h.next, 0, none⟩ : Addr) r4.2).bind fun x5 =>
  guardP (SameW [h2] (fun H7 => (ldI .i64 (⟨h.next, 0, none⟩ : Addr) H7).bind fun y6 => some (.int .i64 y6)) (.int .i64 x5)) (
  (ldI .i64 (⟨h.next, 1, none⟩ : Addr) r4.2).bind fun x8 =>
  guardP (SameW [h2] (fun H10 => (ldI .i64 (⟨h.next, 1, none⟩ : Addr) H10).bind fun y9 => some (.int .i64 y9)) (.int .i64 x8)) (
  (ldI .i64 (⟨h.next, 2, none⟩ : Addr) r4.2).bind fun x11 =>
  guardP (SameW [h2] (fun H13 => (ldI .i64 (⟨h.next, 2, none⟩ : Addr) H13).bind fun y12 => some (.int .i64 y12)) (.int .i64 x11)) (
  let h14 := AHeap.set r4.2 (h1.next + 0) (.cells [.int .u8 (IntKind.wrap .u8 x5), .int .u8 (IntKind.wrap .u8 x8), .int .u8 (IntKind.wrap .u8 x11)] 5 true 0)
  (bytesOf h14 (⟨(some ⟨(h1.next + 0), 0, some 0⟩), 3, 3⟩ : Slc)).bind fun s15 =>
  guardP (OwnW (h1.next + 0) h14 (fun H17 => (bytesOf H17 (⟨(some ⟨(h1.next + 0), 0, some 0⟩), 3, 3⟩ : Slc)).bind fun y16 => some (.string y16)) (.string s15)) (
  (if (⟨#[71, 82, 84, 1]⟩ : ByteArray).size + s15.size ≤ 9223372036854775807 then
  (if ((⟨#[71, 82, 84, 1]⟩ : ByteArray) ++ s15).size + r4.1.size ≤ 9223372036854775807 then
  (ldS (⟨h.next, 4, none⟩ : Addr) h14).bind fun x18 =>
  guardP (SameW [r4.2, h2] (fun H20 => (ldS (⟨h.next, 4, none⟩ : Addr) H20).bind fun y19 => some (.string y19)) (.string x18)) (
  (if (((⟨#[71, 82, 84, 1]⟩ : ByteArray) ++ s15) ++ r4.1).size + x18.size ≤ 9223372036854775807 then
  (ldS (⟨h.next, 5, none⟩ : Addr) h14).bind fun x21 =>
  guardP (SameW [r4.2, h2] (fun H23 => (ldS (⟨h.next, 5, none⟩ : Addr) H23).bind fun y22 => some (.string y22)) (.string x21)) (
  (if ((((⟨#[71, 82, 84, 1]⟩ : ByteArray) ++ s15) ++ r4.1) ++ x18).size + x21.size ≤ 9223372036854775807 then
  let s24 : ByteArray := (((((⟨#[71, 82, 84, 1]⟩ : ByteArray) ++ s15) ++ r4.1) ++ x18) ++ x21)
  (ref06_Crc k D s24 h14).bind fun r25 =>
  let h26 := AHeap.new r25.2 (.cells [.int .u8 (IntKind.wrap .u8 r25.1), .int .u8 (IntKind.wrap .u8 (Int.fdiv r25.1 256)), .int .u8 (IntKind.wrap .u8 (Int.fdiv r25.1 65536)), .int .u8 (IntKind.wrap .u8 (Int.fdiv r25.1 16777216))] 5 true 0)
  (bytesOf h26 (⟨(some ⟨r25.2.next, 0, some 0⟩), 4, 4⟩ : Slc)).bind fun s27 =>
  (if s24.size + s27.size ≤ 9223372036854775807 then
  some ((s24 ++ s27), h26)
  else none)
  else none))
  else none))
  else none)
  else none)))))
def r_ref06_Text : RCode := .seq (.region [⟨some 1, .a (.box 34 (.tmp 0)), none, none⟩,
  ⟨some 2, .p (.mv (.const (.string ⟨#[]⟩))), none, none⟩])
  (.seq (.gdraw 1 [⟨⟨12, ⟨some 17, .p (.fieldAddr 3 (.tmp 1)), none, none⟩, [1], 0⟩, none, none⟩,
  ⟨⟨13, ⟨some 18, .l (.load (.i .i64) (.tmp 17)), none, none⟩, [17], 0⟩, none, none⟩,
  ⟨⟨14, ⟨some 19, .e (.call (.func 49) [.tmp 18, .const (.int .i64 4)]), none, none⟩, [18], 0⟩, none, none⟩,
  ⟨⟨0, ⟨some 5, .p (.fieldAddr 0 (.tmp 1)), none, none⟩, [1], 1⟩, none, none⟩,
  ⟨⟨1, ⟨some 6, .l (.load (.i .i64) (.tmp 5)), none, none⟩, [5], 1⟩, none, none⟩,
  ⟨⟨2, ⟨some 7, .p (.convI .u8 (.tmp 6)), none, none⟩, [6], 1⟩, none, none⟩,
  ⟨⟨3, ⟨some 8, .p (.fieldAddr 1 (.tmp 1)), none, none⟩, [1], 1⟩, none, none⟩,
  ⟨⟨4, ⟨some 9, .l (.load (.i .i64) (.tmp 8)), none, none⟩, [8], 1⟩, none, none⟩,
  ⟨⟨5, ⟨some 10, .p (.convI .u8 (.tmp 9)), none, none⟩, [9], 1⟩, none, none⟩,
  ⟨⟨6, ⟨some 11, .p (.fieldAddr 2 (.tmp 1)), none, none⟩, [1], 1⟩, none, none⟩,
  ⟨⟨7, ⟨some 12, .l (.load (.i .i64) (.tmp 11)), none, none⟩, [11], 1⟩, none, none⟩,
  ⟨⟨8, ⟨some 13, .p (.convI .u8 (.tmp 12)), none, none⟩, [12], 1⟩, none, none⟩,
  ⟨⟨9, ⟨some 14, .a (.buildSlice 5 3 (zerosL 3 [.int .u8 0]) [(0, 1, .tmp 7), (1, 1, .tmp 10), (2, 1, .tmp 13)]), none, none⟩, [7, 10, 13], 1⟩, some 0, none⟩,
  ⟨⟨10, ⟨some 15, .l (.convBS (.tmp 14)), none, none⟩, [14], 1⟩, none, some 0⟩,
  ⟨⟨11, ⟨some 16, .p (.bin .add (.const (.string ⟨#[71, 82, 84, 1]⟩)) (.tmp 15)), none, none⟩, [15], 1⟩, none, none⟩,
  ⟨⟨15, ⟨some 20, .p (.bin .add (.tmp 16) (.tmp 19)), none, none⟩, [16, 19], 0⟩, none, none⟩,
  ⟨⟨16, ⟨some 21, .p (.fieldAddr 4 (.tmp 1)), none, none⟩, [1], 2⟩, none, none⟩,
  ⟨⟨17, ⟨some 22, .l (.load (.s) (.tmp 21)), none, none⟩, [21], 2⟩, none, none⟩,
  ⟨⟨18, ⟨some 23, .p (.bin .add (.tmp 20) (.tmp 22)), none, none⟩, [20, 22], 0⟩, none, none⟩,
  ⟨⟨19, ⟨some 24, .p (.fieldAddr 5 (.tmp 1)), none, none⟩, [1], 2⟩, none, none⟩,
  ⟨⟨20, ⟨some 25, .l (.load (.s) (.tmp 24)), none, none⟩, [24], 2⟩, none, none⟩,
  ⟨⟨21, ⟨some 26, .p (.bin .add (.tmp 23) (.tmp 25)), none, none⟩, [23, 25], 0⟩, none, none⟩,
  ⟨⟨22, ⟨some 3, .p (.mv (.tmp 26)), none, none⟩, [26], 0⟩, none, none⟩])
  (.seq (.region [⟨some 27, .p (.mv (.tmp 3)), none, none⟩,
  ⟨some 28, .e (.call (.func 51) [.tmp 27]), none, none⟩,
  ⟨some 4, .p (.mv (.tmp 28)), none, none⟩])
  (.seq (.region [⟨some 29, .p (.mv (.tmp 3)), none, none⟩,
  ⟨some 30, .p (.mv (.tmp 4)), none, none⟩,
  ⟨some 31, .p (.convI .u8 (.tmp 30)), none, none⟩,
  ⟨some 32, .p (.mv (.tmp 4)), none, none⟩,
  ⟨some 33, .p (.bin .shr (.tmp 32) (.const (.int .u64 8))), none, none⟩,
  ⟨some 34, .p (.convI .u8 (.tmp 33)), none, none⟩,
  ⟨some 35, .p (.mv (.tmp 4)), none, none⟩,
  ⟨some 36, .p (.bin .shr (.tmp 35) (.const (.int .u64 16))), none, none⟩,
  ⟨some 37, .p (.convI .u8 (.tmp 36)), none, none⟩,
  ⟨some 38, .p (.mv (.tmp 4)), none, none⟩,
  ⟨some 39, .p (.bin .shr (.tmp 38) (.const (.int .u64 24))), none, none⟩,
  ⟨some 40, .p (.convI .u8 (.tmp 39)), none, none⟩,
  ⟨some 41, .a (.buildSlice 5 4 (zerosL 4 [.int .u8 0]) [(0, 1, .tmp 31), (1, 1, .tmp 34), (2, 1, .tmp 37), (3, 1, .tmp 40)]), none, none⟩,
  ⟨some 42, .l (.convBS (.tmp 41)), none, none⟩,
  ⟨some 43, .p (.bin .add (.tmp 29) (.tmp 42)), none, none⟩,
  ⟨some 2, .p (.mv (.tmp 43)), none, none⟩])
  (.ret))))
noncomputable def e_ref06_Text (k : Nat) (D : CallF) : Ent := entOf 26 [(0, .st [.i .i64, .i .i64, .i .i64, .i .i64, .s, .s])] [(2, .s)] (ref06_Text k D)
theorem q_ref06_Text : (Tryz.f26.body).bind (rcodeOf Tryz.prog 2 Tryz.f26.ntmps) = some (strip r_ref06_Text) := by kernel_rfl
theorem t_ref06_Text (k : Nat) (D : CallF) : curF [(0, .st [.i .i64, .i .i64, .i .i64, .i .i64, .s, .s])] (fun args h => denF (C_ref06_Text k D) k r_ref06_Text [(2, .s)] [none] args h) = ref06_Text k D := by kernel_rfl
theorem ok_ref06_Text {D : CallF} (hD : CSound Tryz.prog 2 D) (k : Nat) : EntOk Tryz.prog 2 (e_ref06_Text k D) :=
  entOf_ok2 (mkC_sound hD (EntsOk.more (ok_ref01_Must hD k) (EntsOk.more (ok_ref06_Crc hD k) (EntsOk.none)))) Tryz.func26 rfl q_ref06_Text rfl (t_ref06_Text k D)
end Gz
namespace Gz
open Go Gx Go.Proofs
set_option maxRecDepth 100000
noncomputable def C_law06_works (k : Nat) (D : CallF) : CallF := mkC D [e_shard_Crc k D]
noncomputable def law06_works (k : Nat) (D : CallF)  (h : AHeap) : Option ((Bool) × AHeap) :=
  (shard_Crc k D (⟨#[49, 50, 51, 52, 53, 54, 55, 56, 57]⟩ : ByteArray) h).bind fun r1 =>
  some ((r1.1 == 3808858755), r1.2)
def r_law06_works : RCode := .seq (.region [⟨some 0, .p (.mv (.const (.bool false))), none, none⟩])
  (.seq (.region [⟨some 1, .e (.call (.func 19) [.const (.string ⟨#[49, 50, 51, 52, 53, 54, 55, 56, 57]⟩)]), none, none⟩,
  ⟨some 2, .p (.bin .eql (.tmp 1) (.const (.int .i64 3808858755))), none, none⟩,
  ⟨some 0, .p (.mv (.tmp 2)), none, none⟩])
  (.ret))
noncomputable def e_law06_works (k : Nat) (D : CallF) : Ent := entOf 6 [] [(0, .b)] (law06_works k D)
theorem q_law06_works : (Tryz.f6.body).bind (rcodeOf Tryz.prog 2 Tryz.f6.ntmps) = some (strip r_law06_works) := by kernel_rfl
theorem t_law06_works (k : Nat) (D : CallF) : curF [] (fun args h => denF (C_law06_works k D) k r_law06_works [(0, .b)] [none] args h) = law06_works k D := by kernel_rfl
theorem ok_law06_works {D : CallF} (hD : CSound Tryz.prog 2 D) (k : Nat) : EntOk Tryz.prog 2 (e_law06_works k D) :=
  entOf_ok2 (mkC_sound hD (EntsOk.more (ok_shard_Crc hD k) (EntsOk.none))) Tryz.func6 rfl q_law06_works rfl (t_law06_works k D)
end Gz
namespace Gz
open Go Gx Go.Proofs
set_option maxRecDepth 100000
noncomputable def C_ref01_Num (_k : Nat) (D : CallF) : CallF := mkC D []
noncomputable def ref01_Num_l0b (_k : Nat) (_D : CallF) (j3 : Int → AHeap → Option ((Int) × AHeap)) (rec8 : ByteArray → Int → Int → AHeap → Option ((Int) × AHeap)) (s4 : ByteArray) (n5 : Int) (i6 : Int) (h7 : AHeap) : Option ((Int) × AHeap) :=
  (if (decide (i6 < (s4.size : Int))) = true then
  (Gx.idxS s4 i6).bind fun b9 =>
  let t10 : Int := (IntKind.wrap .i64 ((IntKind.wrap .i64 (n5 * 256)) + (IntKind.wrap .i64 b9)))
  rec8 s4 t10 (IntKind.wrap .i64 (i6 + 1)) h7
  else
  j3 n5 h7)
noncomputable def ref01_Num_l0 (k : Nat) (D : CallF) (j3 : Int → AHeap → Option ((Int) × AHeap)) : ByteArray → Int → Int → AHeap → Option ((Int) × AHeap) :=
  iterK (α := ByteArray → Int → Int → AHeap → Option ((Int) × AHeap)) (fun _ _ _ _ => none) k (ref01_Num_l0b k D j3)
noncomputable def ref01_Num (k : Nat) (D : CallF) (s_0 : ByteArray) (h : AHeap) : Option ((Int) × AHeap) :=
  joinK (fun (n1 : Int) (h2 : AHeap) =>
  some (n1, h2)) fun j3 =>
  ref01_Num_l0 k D j3 s_0 0 0 h
def r_ref01_Num : RCode := .seq (.region [⟨some 2, .p (.mv (.const (.int .i64 0))), none, none⟩])
  (.seq (.region [⟨some 3, .p (.mv (.const (.int .i64 0))), none, none⟩])
  (.seq (.join [(3, .i .i64)] (.seq (.region [⟨some 4, .p (.mv (.const (.int .i64 0))), none, none⟩])
  (.block 0 (.loop [(0, .s), (3, .i .i64), (4, .i .i64)] (.seq (.seq (.region [⟨some 5, .p (.mv (.tmp 4)), none, none⟩,
  ⟨some 6, .p (.mv (.tmp 0)), none, none⟩,
  ⟨some 7, .p (.lenS (.tmp 6)), none, none⟩,
  ⟨some 8, .p (.bin .lss (.tmp 5) (.tmp 7)), none, none⟩])
  (.cond (.tmp 8) (.skip) (.exit 0)))
  (.seq (.block 1 (.region [⟨some 11, .p (.mv (.tmp 3)), none, none⟩,
  ⟨some 12, .p (.bin .mul (.tmp 11) (.const (.int .i64 256))), none, none⟩,
  ⟨some 13, .p (.mv (.tmp 0)), none, none⟩,
  ⟨some 14, .p (.mv (.tmp 4)), none, none⟩,
  ⟨some 15, .p (.idxS (.tmp 13) (.tmp 14)), none, none⟩,
  ⟨some 16, .p (.convI .i64 (.tmp 15)), none, none⟩,
  ⟨some 17, .p (.bin .add (.tmp 12) (.tmp 16)), none, none⟩,
  ⟨some 3, .p (.mv (.tmp 17)), none, none⟩]))
  (.region [⟨some 9, .p (.mv (.tmp 4)), none, none⟩,
  ⟨some 10, .p (.bin .add (.tmp 9) (.const (.int .i64 1))), none, none⟩,
  ⟨some 4, .p (.mv (.tmp 10)), none, none⟩])))))))
  (.seq (.region [⟨some 18, .p (.mv (.tmp 3)), none, none⟩,
  ⟨some 2, .p (.mv (.tmp 18)), none, none⟩])
  (.ret))))
noncomputable def e_ref01_Num (k : Nat) (D : CallF) : Ent := entOf 110 [(0, .s)] [(2, .i .i64)] (ref01_Num k D)
theorem q_ref01_Num : (Tryz.f110.body).bind (rcodeOf Tryz.prog 2 Tryz.f110.ntmps) = some (strip r_ref01_Num) := by kernel_rfl
theorem t_ref01_Num (k : Nat) (D : CallF) : curF [(0, .s)] (fun args h => denF (C_ref01_Num k D) k r_ref01_Num [(2, .i .i64)] [none] args h) = ref01_Num k D := by kernel_rfl
theorem ok_ref01_Num {D : CallF} (hD : CSound Tryz.prog 2 D) (k : Nat) : EntOk Tryz.prog 2 (e_ref01_Num k D) :=
  entOf_ok2 (mkC_sound hD (EntsOk.none)) Tryz.func110 rfl q_ref01_Num rfl (t_ref01_Num k D)
end Gz
namespace Gz
open Go Gx Go.Proofs
set_option maxRecDepth 100000
noncomputable def C_field_New (_k : Nat) (D : CallF) : CallF := mkC D []
noncomputable def field_New (_k : Nat) (_D : CallF)  (h : AHeap) : Option (((Option Addr)) × AHeap) :=
  let h1 := AHeap.new h (.cells ([.int .u32 0] ++ [.int .i32 0] ++ [.int .u32 0] ++ List.replicate 510 (.int .u8 0) ++ List.replicate 256 (.int .i64 0)) 143 true 0)
  some ((some (⟨h.next, 0, none⟩ : Addr)), h1)
def r_field_New : RCode := .seq (.region [⟨some 0, .p (.mv (.const (.pointer none))), none, none⟩])
  (.seq (.region [⟨some 1, .p (.build ([.int .u32 0] ++ [.int .i32 0] ++ [.int .u32 0] ++ List.replicate 510 (.int .u8 0) ++ List.replicate 256 (.int .i64 0)) []), none, none⟩,
  ⟨some 2, .a (.box 143 (.tmp 1)), none, none⟩,
  ⟨some 0, .p (.mv (.tmp 2)), none, none⟩])
  (.ret))
noncomputable def e_field_New (k : Nat) (D : CallF) : Ent := entOf 41 [] [(0, .p)] (field_New k D)
theorem q_field_New : (Tryz.f41.body).bind (rcodeOf Tryz.prog 2 Tryz.f41.ntmps) = some (strip r_field_New) := by kernel_rfl
theorem t_field_New (k : Nat) (D : CallF) : curF [] (fun args h => denF (C_field_New k D) k r_field_New [(0, .p)] [none] args h) = field_New k D := by kernel_rfl
theorem ok_field_New {D : CallF} (hD : CSound Tryz.prog 2 D) (k : Nat) : EntOk Tryz.prog 2 (e_field_New k D) :=
  entOf_ok2 (mkC_sound hD (EntsOk.none)) Tryz.func41 rfl q_field_New rfl (t_field_New k D)
end Gz
namespace Gz
open Go Gx Go.Proofs
set_option maxRecDepth 100000
noncomputable def C_matrix_New (k : Nat) (D : CallF) : CallF := mkC D [e_field_New k D]
noncomputable def matrix_New (k : Nat) (D : CallF)  (h : AHeap) : Option (((Option Addr)) × AHeap) :=
  (field_New k D h).bind fun r1 =>
  let h2 := AHeap.new r1.2 (.cells [.pointer r1.1] 123 true 0)
  some ((some (⟨r1.2.next, 0, none⟩ : Addr)), h2)
def r_matrix_New : RCode := .seq (.region [⟨some 0, .p (.mv (.const (.pointer none))), none, none⟩])
  (.seq (.region [⟨some 1, .e (.call (.func 41) []), none, none⟩,
  ⟨some 2, .p (.build [.pointer none] [(0, 1, .tmp 1)]), none, none⟩,
  ⟨some 3, .a (.box 123 (.tmp 2)), none, none⟩,
  ⟨some 0, .p (.mv (.tmp 3)), none, none⟩])
  (.ret))
noncomputable def e_matrix_New (k : Nat) (D : CallF) : Ent := entOf 39 [] [(0, .p)] (matrix_New k D)
theorem q_matrix_New : (Tryz.f39.body).bind (rcodeOf Tryz.prog 2 Tryz.f39.ntmps) = some (strip r_matrix_New) := by kernel_rfl
theorem t_matrix_New (k : Nat) (D : CallF) : curF [] (fun args h => denF (C_matrix_New k D) k r_matrix_New [(0, .p)] [none] args h) = matrix_New k D := by kernel_rfl
theorem ok_matrix_New {D : CallF} (hD : CSound Tryz.prog 2 D) (k : Nat) : EntOk Tryz.prog 2 (e_matrix_New k D) :=
  entOf_ok2 (mkC_sound hD (EntsOk.more (ok_field_New hD k) (EntsOk.none))) Tryz.func39 rfl q_matrix_New rfl (t_matrix_New k D)
end Gz
namespace Gz
open Go Gx Go.Proofs
set_option maxRecDepth 100000
noncomputable def C_matrix_blank (_k : Nat) (D : CallF) : CallF := mkC D []
noncomputable def matrix_blank (_k : Nat) (_D : CallF) (rows_0 : Int) (cols_1 : Int) (h : AHeap) : Option (((Int × Int × Slc)) × AHeap) :=
  let h1 := AHeap.new h (.cells [.int .i64 0, .int .i64 0, .slice none 0 0] 84 true 0)
  (if 0 ≤ (IntKind.wrap .i64 (rows_0 * cols_1)) ∧ (IntKind.wrap .i64 (rows_0 * cols_1)) ≤ (IntKind.wrap .i64 (rows_0 * cols_1)) ∧ (IntKind.wrap .i64 (rows_0 * cols_1)) ≤ 281474976710656 ∧ 8 * (IntKind.wrap .i64 (rows_0 * cols_1)) ≤ 281474976710656 then
  let h2 := AHeap.new h1 (.cells (zerosL ((IntKind.wrap .i64 (rows_0 * cols_1))).toNat [.int .i64 0]) 3 true 0)
  (stL 3 (⟨h.next, 0, none⟩ : Addr) ([.int .i64 rows_0, .int .i64 cols_1, .slice (some ⟨h1.next, 0, some 0⟩) (((IntKind.wrap .i64 (rows_0 * cols_1))).toNat) (((IntKind.wrap .i64 (rows_0 * cols_1))).toNat)]) h2).bind fun h3 =>
  (ldA 3 (⟨h.next, 0, none⟩ : Addr) h3).bind fun l4 =>
  (decC [.i .i64, .i .i64, .l] l4).bind fun x5 =>
  some ((x5.1, x5.2.1, x5.2.2), h3)
  else none)
def r_matrix_blank : RCode := .seq (.region [⟨some 4, .a (.alloc 84 [.int .i64 0, .int .i64 0, .slice none 0 0]), none, none⟩])
  (.seq (.region [⟨some 5, .p (.mv (.tmp 0)), none, none⟩,
  ⟨some 6, .p (.mv (.tmp 1)), none, none⟩,
  ⟨some 7, .p (.mv (.tmp 0)), none, none⟩,
  ⟨some 8, .p (.mv (.tmp 1)), none, none⟩,
  ⟨some 9, .p (.bin .mul (.tmp 7) (.tmp 8)), none, none⟩,
  ⟨some 10, .a (.mkSlice 3 8 [.int .i64 0] (.tmp 9) (.tmp 9)), none, none⟩,
  ⟨some 11, .p (.build [.int .i64 0, .int .i64 0, .slice none 0 0] [(0, 1, .tmp 5), (1, 1, .tmp 6), (2, 1, .tmp 10)]), none, none⟩,
  ⟨none, .e (.store (some 3) (.tmp 4) (.tmp 11)), none, none⟩])
  (.ret))
noncomputable def e_matrix_blank (k : Nat) (D : CallF) : Ent := entOf 66 [(0, .i .i64), (1, .i .i64)] [(4, .st [.i .i64, .i .i64, .l])] (matrix_blank k D)
theorem q_matrix_blank : (Tryz.f66.body).bind (rcodeOf Tryz.prog 2 Tryz.f66.ntmps) = some (strip r_matrix_blank) := by kernel_rfl
theorem t_matrix_blank (k : Nat) (D : CallF) : curF [(0, .i .i64), (1, .i .i64)] (fun args h => denF (C_matrix_blank k D) k r_matrix_blank [(4, .st [.i .i64, .i .i64, .l])] [some (.agg 3)] args h) = matrix_blank k D := by kernel_rfl
theorem ok_matrix_blank {D : CallF} (hD : CSound Tryz.prog 2 D) (k : Nat) : EntOk Tryz.prog 2 (e_matrix_blank k D) :=
  entOf_ok2 (mkC_sound hD (EntsOk.none)) Tryz.func66 rfl q_matrix_blank rfl (t_matrix_blank k D)
end Gz
namespace Gz
open Go Gx Go.Proofs
set_option maxRecDepth 100000
noncomputable def C_matrix_M_row (_k : Nat) (D : CallF) : CallF := mkC D []
noncomputable def matrix_M_row (_k : Nat) (_D : CallF) (a_0 : Int × Int × Slc) (i_1 : Int) (h : AHeap) : Option ((Slc) × AHeap) :=
  let h1 := AHeap.new h (.cells [.int .i64 a_0.1, .int .i64 a_0.2.1, .slice a_0.2.2.a a_0.2.2.len a_0.2.2.cap] 84 true 0)
  (ldL (⟨h.next, 2, none⟩ : Addr) h1).bind fun x2 =>
  (ldI .i64 (⟨h.next, 1, none⟩ : Addr) h1).bind fun x3 =>
  (ldI .i64 (⟨h.next, 1, none⟩ : Addr) h1).bind fun x4 =>
  (ldI .i64 (⟨h.next, 1, none⟩ : Addr) h1).bind fun x5 =>
  (Gx.subL 1 x2 (some (IntKind.wrap .i64 (i_1 * x3))) (some (IntKind.wrap .i64 ((IntKind.wrap .i64 (i_1 + 1)) * x4))) (some (IntKind.wrap .i64 ((IntKind.wrap .i64 (i_1 + 1)) * x5)))).bind fun l6 =>
  some (l6, h1)
def r_matrix_M_row : RCode := .seq (.region [⟨some 2, .a (.box 84 (.tmp 0)), none, none⟩,
  ⟨some 4, .p (.mv (.const (.slice none 0 0))), none, none⟩])
  (.seq (.region [⟨some 5, .p (.fieldAddr 2 (.tmp 2)), none, none⟩,
  ⟨some 6, .l (.load (.l) (.tmp 5)), none, none⟩,
  ⟨some 7, .p (.mv (.tmp 1)), none, none⟩,
  ⟨some 8, .p (.fieldAddr 1 (.tmp 2)), none, none⟩,
  ⟨some 9, .l (.load (.i .i64) (.tmp 8)), none, none⟩,
  ⟨some 10, .p (.bin .mul (.tmp 7) (.tmp 9)), none, none⟩,
  ⟨some 11, .p (.mv (.tmp 1)), none, none⟩,
  ⟨some 12, .p (.bin .add (.tmp 11) (.const (.int .i64 1))), none, none⟩,
  ⟨some 13, .p (.fieldAddr 1 (.tmp 2)), none, none⟩,
  ⟨some 14, .l (.load (.i .i64) (.tmp 13)), none, none⟩,
  ⟨some 15, .p (.bin .mul (.tmp 12) (.tmp 14)), none, none⟩,
  ⟨some 16, .p (.mv (.tmp 1)), none, none⟩,
  ⟨some 17, .p (.bin .add (.tmp 16) (.const (.int .i64 1))), none, none⟩,
  ⟨some 18, .p (.fieldAddr 1 (.tmp 2)), none, none⟩,
  ⟨some 19, .l (.load (.i .i64) (.tmp 18)), none, none⟩,
  ⟨some 20, .p (.bin .mul (.tmp 17) (.tmp 19)), none, none⟩,
  ⟨some 21, .p (.subL 1 (.tmp 6) (some (.tmp 10)) (some (.tmp 15)) (some (.tmp 20))), none, none⟩,
  ⟨some 4, .p (.mv (.tmp 21)), none, none⟩])
  (.ret))
noncomputable def e_matrix_M_row (k : Nat) (D : CallF) : Ent := entOf 67 [(0, .st [.i .i64, .i .i64, .l]), (1, .i .i64)] [(4, .l)] (matrix_M_row k D)
theorem q_matrix_M_row : (Tryz.f67.body).bind (rcodeOf Tryz.prog 2 Tryz.f67.ntmps) = some (strip r_matrix_M_row) := by kernel_rfl
theorem t_matrix_M_row (k : Nat) (D : CallF) : curF [(0, .st [.i .i64, .i .i64, .l]), (1, .i .i64)] (fun args h => denF (C_matrix_M_row k D) k r_matrix_M_row [(4, .l)] [none] args h) = matrix_M_row k D := by kernel_rfl
theorem ok_matrix_M_row {D : CallF} (hD : CSound Tryz.prog 2 D) (k : Nat) : EntOk Tryz.prog 2 (e_matrix_M_row k D) :=
  entOf_ok2 (mkC_sound hD (EntsOk.none)) Tryz.func67 rfl q_matrix_M_row rfl (t_matrix_M_row k D)
end Gz
namespace Gz
open Go Gx Go.Proofs
set_option maxRecDepth 100000
noncomputable def C_field_is (_k : Nat) (D : CallF) : CallF := mkC D []
noncomputable def field_is_l0b (_k : Nat) (_D : CallF) (j2 : AHeap → Option ((Bool) × AHeap)) (rec7 : Slc → Int → Int → AHeap → Option ((Bool) × AHeap)) (y3 : Slc) (y4 : Int) (y5 : Int) (h6 : AHeap) : Option ((Bool) × AHeap) :=
  (if (decide (y5 < y4)) = true then
  (Gx.idxL 1 y3 y5).bind fun q8 =>
  (ldI .i64 q8 h6).bind fun x9 =>
  joinK (fun (y10 : Slc) (y11 : Int) (y12 : Int) (y13 : Bool) (h14 : AHeap) =>
  (if y13 = true then
  some (false, h14)
  else
  rec7 y10 y11 (IntKind.wrap .i64 (y12 + 1)) h14)) fun j15 =>
  (if (decide (x9 < 0)) = true then
  j15 y3 y4 y5 true h6
  else
  j15 y3 y4 y5 (decide (x9 ≥ 256)) h6)
  else
  j2 h6)
noncomputable def field_is_l0 (k : Nat) (D : CallF) (j2 : AHeap → Option ((Bool) × AHeap)) : Slc → Int → Int → AHeap → Option ((Bool) × AHeap) :=
  iterK (α := Slc → Int → Int → AHeap → Option ((Bool) × AHeap)) (fun _ _ _ _ => none) k (field_is_l0b k D j2)
noncomputable def field_is (k : Nat) (D : CallF) (l_0 : Slc) (h : AHeap) : Option ((Bool) × AHeap) :=
  joinK (fun (h1 : AHeap) =>
  some (true, h1)) fun j2 =>
  field_is_l0 k D j2 l_0 (l_0.len : Int) 0 h
def r_field_is : RCode := .seq (.region [⟨some 2, .p (.mv (.const (.bool false))), none, none⟩])
  (.seq (.join [] (.seq (.region [⟨some 5, .p (.mv (.tmp 0)), none, none⟩,
  ⟨some 6, .p (.lenL (.tmp 5)), none, none⟩,
  ⟨some 7, .p (.mv (.const (.int .i64 0))), none, none⟩])
  (.block 0 (.loop [(5, .l), (6, .i .i64), (7, .i .i64)] (.seq (.region [⟨some 8, .p (.bin .lss (.tmp 7) (.tmp 6)), none, none⟩])
  (.seq (.cond (.tmp 8) (.skip) (.exit 0))
  (.seq (.block 1 (.seq (.region [⟨some 9, .p (.idxL 1 (.tmp 5) (.tmp 7)), none, none⟩,
  ⟨some 10, .l (.load (.i .i64) (.tmp 9)), none, none⟩,
  ⟨some 4, .p (.mv (.tmp 10)), none, none⟩])
  (.seq (.join [(5, .l), (6, .i .i64), (7, .i .i64), (16, .b)] (.region [⟨some 11, .p (.mv (.tmp 4)), none, none⟩,
  ⟨some 12, .p (.bin .lss (.tmp 11) (.const (.int .i64 0))), none, none⟩,
  ⟨some 13, .p (.mv (.tmp 12)), none, none⟩,
  ⟨some 14, .p (.mv (.tmp 4)), (some (13, false)), none⟩,
  ⟨some 15, .p (.bin .geq (.tmp 14) (.const (.int .i64 256))), (some (13, false)), none⟩,
  ⟨some 16, .p (.pick (.tmp 13) (.const (.bool true)) (.tmp 15)), none, none⟩]))
  (.cond (.tmp 16) (.seq (.region [⟨some 2, .p (.mv (.const (.bool false))), none, none⟩])
  (.ret)) (.skip)))))
  (.region [⟨some 17, .p (.bin .add (.tmp 7) (.const (.int .i64 1))), none, none⟩,
  ⟨some 7, .p (.mv (.tmp 17)), none, none⟩]))))))))
  (.seq (.region [⟨some 2, .p (.mv (.const (.bool true))), none, none⟩])
  (.ret)))
noncomputable def e_field_is (k : Nat) (D : CallF) : Ent := entOf 75 [(0, .l)] [(2, .b)] (field_is k D)
theorem q_field_is : (Tryz.f75.body).bind (rcodeOf Tryz.prog 2 Tryz.f75.ntmps) = some (strip r_field_is) := by kernel_rfl
theorem t_field_is (k : Nat) (D : CallF) : curF [(0, .l)] (fun args h => denF (C_field_is k D) k r_field_is [(2, .b)] [none] args h) = field_is k D := by kernel_rfl
theorem ok_field_is {D : CallF} (hD : CSound Tryz.prog 2 D) (k : Nat) : EntOk Tryz.prog 2 (e_field_is k D) :=
  entOf_ok2 (mkC_sound hD (EntsOk.none)) Tryz.func75 rfl q_field_is rfl (t_field_is k D)
end Gz
namespace Gz
open Go Gx Go.Proofs
set_option maxRecDepth 100000
noncomputable def C_field_double (_k : Nat) (D : CallF) : CallF := mkC D []
noncomputable def field_double (_k : Nat) (_D : CallF) (a_0 : Int) (h : AHeap) : Option ((Int) × AHeap) :=
  joinK (fun (a1 : Int) (h2 : AHeap) =>
  some (a1, h2)) fun j3 =>
  (if (decide ((IntKind.wrap .i64 (a_0 * 2)) ≥ 256)) = true then
  j3 (Go.bits .xor .i64 (IntKind.wrap .i64 (a_0 * 2)) 391) h
  else
  j3 (IntKind.wrap .i64 (a_0 * 2)) h)
def r_field_double : RCode := .seq (.region [⟨some 2, .p (.mv (.const (.int .i64 0))), none, none⟩])
  (.seq (.region [⟨some 3, .p (.mv (.tmp 0)), none, none⟩,
  ⟨some 4, .p (.bin .shl (.tmp 3) (.const (.int .u64 1))), none, none⟩,
  ⟨some 0, .p (.mv (.tmp 4)), none, none⟩])
  (.seq (.join [(0, .i .i64)] (.seq (.region [⟨some 5, .p (.mv (.tmp 0)), none, none⟩,
  ⟨some 6, .p (.bin .geq (.tmp 5) (.const (.int .i64 256))), none, none⟩])
  (.cond (.tmp 6) (.region [⟨some 7, .p (.mv (.tmp 0)), none, none⟩,
  ⟨some 8, .p (.bin .xor (.tmp 7) (.const (.int .i64 391))), none, none⟩,
  ⟨some 0, .p (.mv (.tmp 8)), none, none⟩]) (.skip))))
  (.seq (.region [⟨some 9, .p (.mv (.tmp 0)), none, none⟩,
  ⟨some 2, .p (.mv (.tmp 9)), none, none⟩])
  (.ret))))
noncomputable def e_field_double (k : Nat) (D : CallF) : Ent := entOf 119 [(0, .i .i64)] [(2, .i .i64)] (field_double k D)
theorem q_field_double : (Tryz.f119.body).bind (rcodeOf Tryz.prog 2 Tryz.f119.ntmps) = some (strip r_field_double) := by kernel_rfl
theorem t_field_double (k : Nat) (D : CallF) : curF [(0, .i .i64)] (fun args h => denF (C_field_double k D) k r_field_double [(2, .i .i64)] [none] args h) = field_double k D := by kernel_rfl
theorem ok_field_double {D : CallF} (hD : CSound Tryz.prog 2 D) (k : Nat) : EntOk Tryz.prog 2 (e_field_double k D) :=
  entOf_ok2 (mkC_sound hD (EntsOk.none)) Tryz.func119 rfl q_field_double rfl (t_field_double k D)
end Gz
namespace Gz
open Go Gx Go.Proofs
set_option maxRecDepth 100000
noncomputable def C_field_Field_make (k : Nat) (D : CallF) : CallF := mkC D [e_field_double k D]
noncomputable def field_Field_make_l0b (k : Nat) (D : CallF)  (rec5 : (Option Addr) → Int → Int → AHeap → Option ((Unit) × AHeap)) (f1 : Option Addr) (x2 : Int) (y3 : Int) (h4 : AHeap) : Option ((Unit) × AHeap) :=
  (if (decide (y3 < 255)) = true then
  (f1).bind fun p6 =>
  (Gx.idxA 510 1 (⟨p6.block, p6.off + 3 + 0, none⟩ : Addr) y3).bind fun q7 =>
  (st1 q7 (.int .u8 (IntKind.wrap .u8 x2)) h4).bind fun h8 =>
  (f1).bind fun p9 =>
  (Gx.idxA 510 1 (⟨p9.block, p9.off + 3 + 0, none⟩ : Addr) (IntKind.wrap .i64 (y3 + 255))).bind fun q10 =>
  (st1 q10 (.int .u8 (IntKind.wrap .u8 x2)) h8).bind fun h11 =>
  (f1).bind fun p12 =>
  (Gx.idxA 256 1 (⟨p12.block, p12.off + 3 + 510, none⟩ : Addr) x2).bind fun q13 =>
  (st1 q13 (.int .i64 y3) h11).bind fun h14 =>
  (field_double k D x2 h14).bind fun r15 =>
  rec5 f1 r15.1 (IntKind.wrap .i64 (y3 + 1)) r15.2
  else
  some ((), h4))
noncomputable def field_Field_make_l0 (k : Nat) (D : CallF)  : (Option Addr) → Int → Int → AHeap → Option ((Unit) × AHeap) :=
  iterK (α := (Option Addr) → Int → Int → AHeap → Option ((Unit) × AHeap)) (fun _ _ _ _ => none) k (field_Field_make_l0b k D )
noncomputable def field_Field_make (k : Nat) (D : CallF) (f_0 : Option Addr) (h : AHeap) : Option ((Unit) × AHeap) :=
  field_Field_make_l0 k D f_0 1 0 h
def r_field_Field_make : RCode := .seq (.region [⟨some 2, .p (.mv (.const (.int .i64 1))), none, none⟩])
  (.seq (.region [⟨some 4, .p (.mv (.const (.int .i64 0))), none, none⟩])
  (.block 0 (.loop [(0, .p), (2, .i .i64), (4, .i .i64)] (.seq (.region [⟨some 5, .p (.bin .lss (.tmp 4) (.const (.int .i64 255))), none, none⟩])
  (.seq (.cond (.tmp 5) (.skip) (.exit 0))
  (.seq (.block 1 (.seq (.region [⟨some 6, .p (.mv (.tmp 4)), none, none⟩,
  ⟨some 3, .p (.mv (.tmp 6)), none, none⟩])
  (.seq (.draw [⟨0, ⟨some 7, .p (.mv (.tmp 0)), none, none⟩, [0], 0⟩,
  ⟨1, ⟨some 8, .p (.mv (.tmp 3)), none, none⟩, [3], 0⟩,
  ⟨5, ⟨some 12, .p (.mv (.tmp 2)), none, none⟩, [2], 0⟩,
  ⟨6, ⟨some 13, .p (.convI .u8 (.tmp 12)), none, none⟩, [12], 0⟩,
  ⟨9, ⟨some 16, .p (.nilP (.tmp 7)), none, none⟩, [7], 0⟩,
  ⟨10, ⟨some 17, .p (.fieldAddr 3 (.tmp 16)), none, none⟩, [16], 0⟩,
  ⟨11, ⟨some 18, .p (.fieldAddr 0 (.tmp 17)), none, none⟩, [17], 0⟩,
  ⟨12, ⟨some 19, .p (.idxA 510 1 (.tmp 18) (.tmp 8)), none, none⟩, [18, 8], 0⟩,
  ⟨13, ⟨none, .e (.store none (.tmp 19) (.tmp 13)), none, none⟩, [19, 13], 0⟩,
  ⟨2, ⟨some 9, .p (.mv (.tmp 0)), none, none⟩, [0], 1⟩,
  ⟨3, ⟨some 10, .p (.mv (.tmp 3)), none, none⟩, [3], 1⟩,
  ⟨4, ⟨some 11, .p (.bin .add (.tmp 10) (.const (.int .i64 255))), none, none⟩, [10], 1⟩,
  ⟨7, ⟨some 14, .p (.mv (.tmp 2)), none, none⟩, [2], 1⟩,
  ⟨8, ⟨some 15, .p (.convI .u8 (.tmp 14)), none, none⟩, [14], 1⟩,
  ⟨14, ⟨some 20, .p (.nilP (.tmp 9)), none, none⟩, [9], 1⟩,
  ⟨15, ⟨some 21, .p (.fieldAddr 3 (.tmp 20)), none, none⟩, [20], 1⟩,
  ⟨16, ⟨some 22, .p (.fieldAddr 0 (.tmp 21)), none, none⟩, [21], 1⟩,
  ⟨17, ⟨some 23, .p (.idxA 510 1 (.tmp 22) (.tmp 11)), none, none⟩, [22, 11], 0⟩,
  ⟨18, ⟨none, .e (.store none (.tmp 23) (.tmp 15)), none, none⟩, [23, 15], 0⟩])
  (.seq (.region [⟨some 24, .p (.mv (.tmp 0)), none, none⟩,
  ⟨some 25, .p (.mv (.tmp 2)), none, none⟩,
  ⟨some 26, .p (.mv (.tmp 3)), none, none⟩,
  ⟨some 27, .p (.nilP (.tmp 24)), none, none⟩,
  ⟨some 28, .p (.fieldAddr 3 (.tmp 27)), none, none⟩,
  ⟨some 29, .p (.fieldAddr 510 (.tmp 28)), none, none⟩,
  ⟨some 30, .p (.idxA 256 1 (.tmp 29) (.tmp 25)), none, none⟩,
  ⟨none, .e (.store none (.tmp 30) (.tmp 26)), none, none⟩])
  (.region [⟨some 31, .p (.mv (.tmp 2)), none, none⟩,
  ⟨some 32, .e (.call (.func 119) [.tmp 31]), none, none⟩,
  ⟨some 2, .p (.mv (.tmp 32)), none, none⟩])))))
  (.region [⟨some 33, .p (.bin .add (.tmp 4) (.const (.int .i64 1))), none, none⟩,
  ⟨some 4, .p (.mv (.tmp 33)), none, none⟩])))))))
noncomputable def e_field_Field_make (k : Nat) (D : CallF) : Ent := entOf 108 [(0, .p)] [] (field_Field_make k D)
theorem q_field_Field_make : (Tryz.f108.body).bind (rcodeOf Tryz.prog 2 Tryz.f108.ntmps) = some (strip r_field_Field_make) := by kernel_rfl
theorem t_field_Field_make (k : Nat) (D : CallF) : curF [(0, .p)] (fun args h => denF (C_field_Field_make k D) k r_field_Field_make [] [] args h) = field_Field_make k D := by kernel_rfl
theorem ok_field_Field_make {D : CallF} (hD : CSound Tryz.prog 2 D) (k : Nat) : EntOk Tryz.prog 2 (e_field_Field_make k D) :=
  entOf_ok2 (mkC_sound hD (EntsOk.more (ok_field_double hD k) (EntsOk.none))) Tryz.func108 rfl q_field_Field_make rfl (t_field_Field_make k D)
end Gz
namespace Gz
open Go Gx Go.Proofs
noncomputable def e_sync_atomic_LoadUint32 (_k : Nat) (_D : CallF) : Ent := eLoad 123 .u32
theorem ok_sync_atomic_LoadUint32 {D : CallF} (_hD : CSound Tryz.prog 2 D) (k : Nat) : EntOk Tryz.prog 2 (e_sync_atomic_LoadUint32 k D) :=
  load_ok Tryz.func123 rfl rfl rfl .u32 (by kernel_rfl)
end Gz
namespace Gz
open Go Gx Go.Proofs
set_option maxRecDepth 100000
noncomputable def C_sync_atomic_Bool_Load (k : Nat) (D : CallF) : CallF := mkC D [e_sync_atomic_LoadUint32 k D]
noncomputable def sync_atomic_Bool_Load (_k : Nat) (_D : CallF) (x_0 : Option Addr) (h : AHeap) : Option ((Bool) × AHeap) :=
  (x_0).bind fun p1 =>
  (ldI .u32 (⟨p1.block, p1.off + 0, none⟩ : Addr) h).bind fun x2 =>
  some ((x2 != 0), h)
def r_sync_atomic_Bool_Load : RCode := .seq (.region [⟨some 2, .p (.mv (.const (.bool false))), none, none⟩])
  (.seq (.region [⟨some 3, .p (.mv (.tmp 0)), none, none⟩,
  ⟨some 4, .p (.nilP (.tmp 3)), none, none⟩,
  ⟨some 5, .p (.fieldAddr 0 (.tmp 4)), none, none⟩,
  ⟨some 6, .e (.call (.func 123) [.tmp 5]), none, none⟩,
  ⟨some 7, .p (.bin .neq (.tmp 6) (.const (.int .u32 0))), none, none⟩,
  ⟨some 2, .p (.mv (.tmp 7)), none, none⟩])
  (.ret))
noncomputable def e_sync_atomic_Bool_Load (k : Nat) (D : CallF) : Ent := entOf 117 [(0, .p)] [(2, .b)] (sync_atomic_Bool_Load k D)
theorem q_sync_atomic_Bool_Load : (Tryz.f117.body).bind (rcodeOf Tryz.prog 2 Tryz.f117.ntmps) = some (strip r_sync_atomic_Bool_Load) := by kernel_rfl
theorem t_sync_atomic_Bool_Load (k : Nat) (D : CallF) : curF [(0, .p)] (fun args h => denF (C_sync_atomic_Bool_Load k D) k r_sync_atomic_Bool_Load [(2, .b)] [none] args h) = sync_atomic_Bool_Load k D := by kernel_rfl
theorem ok_sync_atomic_Bool_Load {D : CallF} (hD : CSound Tryz.prog 2 D) (k : Nat) : EntOk Tryz.prog 2 (e_sync_atomic_Bool_Load k D) :=
  entOf_ok2 (mkC_sound hD (EntsOk.more (ok_sync_atomic_LoadUint32 hD k) (EntsOk.none))) Tryz.func117 rfl q_sync_atomic_Bool_Load rfl (t_sync_atomic_Bool_Load k D)
end Gz
namespace Gz
open Go Gx Go.Proofs
noncomputable def e_internal_race_Disable (_k : Nat) (_D : CallF) : Ent := eMark0 133
theorem ok_internal_race_Disable {D : CallF} (_hD : CSound Tryz.prog 2 D) (k : Nat) : EntOk Tryz.prog 2 (e_internal_race_Disable k D) :=
  mark0_ok Tryz.func133 rfl rfl rfl .disable (by kernel_rfl)
end Gz
namespace Gz
open Go Gx Go.Proofs
noncomputable def e_sync_atomic_CompareAndSwapInt32 (_k : Nat) (_D : CallF) : Ent := eCas 134 .i32
theorem ok_sync_atomic_CompareAndSwapInt32 {D : CallF} (_hD : CSound Tryz.prog 2 D) (k : Nat) : EntOk Tryz.prog 2 (e_sync_atomic_CompareAndSwapInt32 k D) :=
  cas_ok Tryz.func134 rfl rfl rfl .i32 (by kernel_rfl)
end Gz
namespace Gz
open Go Gx Go.Proofs
noncomputable def e_internal_race_Enable (_k : Nat) (_D : CallF) : Ent := eMark0 135
theorem ok_internal_race_Enable {D : CallF} (_hD : CSound Tryz.prog 2 D) (k : Nat) : EntOk Tryz.prog 2 (e_internal_race_Enable k D) :=
  mark0_ok Tryz.func135 rfl rfl rfl .enable (by kernel_rfl)
end Gz
namespace Gz
open Go Gx Go.Proofs
noncomputable def e_internal_race_Acquire (_k : Nat) (_D : CallF) : Ent := eMark1 136
theorem ok_internal_race_Acquire {D : CallF} (_hD : CSound Tryz.prog 2 D) (k : Nat) : EntOk Tryz.prog 2 (e_internal_race_Acquire k D) :=
  mark1_ok Tryz.func136 rfl rfl rfl .acquire (by kernel_rfl)
end Gz
namespace Gz
open Go Gx Go.Proofs
noncomputable def e_sync_atomic_AddInt32 (_k : Nat) (_D : CallF) : Ent := eAdd 139 .i32
theorem ok_sync_atomic_AddInt32 {D : CallF} (_hD : CSound Tryz.prog 2 D) (k : Nat) : EntOk Tryz.prog 2 (e_sync_atomic_AddInt32 k D) :=
  add_ok Tryz.func139 rfl rfl rfl .i32 (by kernel_rfl)
end Gz
namespace Gz
open Go Gx Go.Proofs
set_option maxRecDepth 100000
noncomputable def C_internal_sync_Mutex_Lock (k : Nat) (D : CallF) : CallF := mkC D [e_internal_race_Disable k D, e_sync_atomic_CompareAndSwapInt32 k D, e_internal_race_Enable k D, e_internal_race_Acquire k D]
noncomputable def internal_sync_Mutex_Lock (_k : Nat) (_D : CallF) (m_0 : Option Addr) (h : AHeap) : Option ((Unit) × AHeap) :=
  (m_0).bind fun p1 =>
  (ldI .i32 (⟨p1.block, p1.off + 0, none⟩ : Addr) h).bind fun x2 =>
  (if x2 = 0 then
  (st1 (⟨p1.block, p1.off + 0, none⟩ : Addr) (.int .i32 1) h).bind fun h3 =>
  (m_0).bind fun p4 =>
  (AHeap.rd1 h3 p4.block p4.off).bind fun _ =>
  some ((), h3)
  else none)
def r_internal_sync_Mutex_Lock : RCode := .seq (.region [⟨some 2, .e (.call (.func 133) []), none, none⟩])
  (.seq (.seq (.region [⟨some 3, .p (.mv (.tmp 0)), none, none⟩,
  ⟨some 4, .p (.nilP (.tmp 3)), none, none⟩,
  ⟨some 5, .p (.fieldAddr 0 (.tmp 4)), none, none⟩,
  ⟨some 6, .e (.call (.func 134) [.tmp 5, .const (.int .i32 0), .const (.int .i32 1)]), none, none⟩])
  (.cond (.tmp 6) (.seq (.cond (.const (.bool true)) (.seq (.region [⟨some 7, .e (.call (.func 135) []), none, none⟩])
  (.region [⟨some 8, .p (.mv (.tmp 0)), none, none⟩,
  ⟨some 9, .l (.convUP (.tmp 8)), none, none⟩,
  ⟨some 10, .e (.call (.func 136) [.tmp 9]), none, none⟩])) (.skip))
  (.ret)) (.skip)))
  (.region [⟨some 11, .p (.mv (.tmp 0)), none, none⟩,
  ⟨some 12, .e (.call (.func 137) [.tmp 11]), none, none⟩]))
noncomputable def e_internal_sync_Mutex_Lock (k : Nat) (D : CallF) : Ent := entOf 128 [(0, .p)] [] (internal_sync_Mutex_Lock k D)
theorem q_internal_sync_Mutex_Lock : (Tryz.f128.body).bind (rcodeOf Tryz.prog 2 Tryz.f128.ntmps) = some (strip r_internal_sync_Mutex_Lock) := by kernel_rfl
theorem t_internal_sync_Mutex_Lock (k : Nat) (D : CallF) : curF [(0, .p)] (fun args h => denF (C_internal_sync_Mutex_Lock k D) k r_internal_sync_Mutex_Lock [] [] args h) = internal_sync_Mutex_Lock k D := by kernel_rfl
theorem ok_internal_sync_Mutex_Lock {D : CallF} (hD : CSound Tryz.prog 2 D) (k : Nat) : EntOk Tryz.prog 2 (e_internal_sync_Mutex_Lock k D) :=
  entOf_ok2 (mkC_sound hD (EntsOk.more (ok_internal_race_Disable hD k) (EntsOk.more (ok_sync_atomic_CompareAndSwapInt32 hD k) (EntsOk.more (ok_internal_race_Enable hD k) (EntsOk.more (ok_internal_race_Acquire hD k) (EntsOk.none)))))) Tryz.func128 rfl q_internal_sync_Mutex_Lock rfl (t_internal_sync_Mutex_Lock k D)
end Gz
namespace Gz
open Go Gx Go.Proofs
set_option maxRecDepth 100000
noncomputable def C_sync_Mutex_Lock (k : Nat) (D : CallF) : CallF := mkC D [e_internal_sync_Mutex_Lock k D]
noncomputable def sync_Mutex_Lock (k : Nat) (D : CallF) (m_0 : Option Addr) (h : AHeap) : Option ((Unit) × AHeap) :=
  (m_0).bind fun p1 =>
  (internal_sync_Mutex_Lock k D (some (⟨p1.block, p1.off + 0, none⟩ : Addr)) h).bind fun r2 =>
  some ((), r2.2)
def r_sync_Mutex_Lock : RCode := .region [⟨some 2, .p (.mv (.tmp 0)), none, none⟩,
  ⟨some 3, .p (.nilP (.tmp 2)), none, none⟩,
  ⟨some 4, .p (.fieldAddr 0 (.tmp 3)), none, none⟩,
  ⟨some 5, .e (.call (.func 128) [.tmp 4]), none, none⟩]
noncomputable def e_sync_Mutex_Lock (k : Nat) (D : CallF) : Ent := entOf 124 [(0, .p)] [] (sync_Mutex_Lock k D)
theorem q_sync_Mutex_Lock : (Tryz.f124.body).bind (rcodeOf Tryz.prog 2 Tryz.f124.ntmps) = some (strip r_sync_Mutex_Lock) := by kernel_rfl
theorem t_sync_Mutex_Lock (k : Nat) (D : CallF) : curF [(0, .p)] (fun args h => denF (C_sync_Mutex_Lock k D) k r_sync_Mutex_Lock [] [] args h) = sync_Mutex_Lock k D := by kernel_rfl
theorem ok_sync_Mutex_Lock {D : CallF} (hD : CSound Tryz.prog 2 D) (k : Nat) : EntOk Tryz.prog 2 (e_sync_Mutex_Lock k D) :=
  entOf_ok2 (mkC_sound hD (EntsOk.more (ok_internal_sync_Mutex_Lock hD k) (EntsOk.none))) Tryz.func124 rfl q_sync_Mutex_Lock rfl (t_sync_Mutex_Lock k D)
end Gz
namespace Gz
open Go Gx Go.Proofs
noncomputable def e_internal_race_ReleaseMerge (_k : Nat) (_D : CallF) : Ent := eMark1 138
theorem ok_internal_race_ReleaseMerge {D : CallF} (_hD : CSound Tryz.prog 2 D) (k : Nat) : EntOk Tryz.prog 2 (e_internal_race_ReleaseMerge k D) :=
  mark1_ok Tryz.func138 rfl rfl rfl .releaseMerge (by kernel_rfl)
end Gz
namespace Gz
open Go Gx Go.Proofs
set_option maxRecDepth 100000
noncomputable def C_internal_sync_Mutex_Unlock (k : Nat) (D : CallF) : CallF := mkC D [e_sync_atomic_AddInt32 k D, e_internal_race_Enable k D, e_internal_race_ReleaseMerge k D, e_internal_race_Disable k D]
noncomputable def internal_sync_Mutex_Unlock (_k : Nat) (D : CallF) (m_0 : Option Addr) (h : AHeap) : Option ((Unit) × AHeap) :=
  joinK (fun (m1 : Option Addr) (h2 : AHeap) =>
  (m1).bind fun p4 =>
  (ldI .i32 (⟨p4.block, p4.off + 0, none⟩ : Addr) h2).bind fun x5 =>
  (st1 (⟨p4.block, p4.off + 0, none⟩ : Addr) (.int .i32 (IntKind.wrap .i32 (x5 + (-1)))) h2).bind fun h6 =>
  joinK (fun (h7 : AHeap) =>
  some ((), h7)) fun j8 =>
  (if ((IntKind.wrap .i32 (x5 + (-1))) != 0) = true then
  D ((Unit) × AHeap) 140 [.pointer m1, .int .i32 (IntKind.wrap .i32 (x5 + (-1)))] h6 fun _ h10 =>
  j8 h10
  else
  j8 h6)) fun j3 =>
  (m_0).bind fun p11 =>
  (ldI .i32 (⟨p11.block, p11.off + 0, none⟩ : Addr) h).bind fun _x12 =>
  (m_0).bind fun p13 =>
  (AHeap.rd1 h p13.block p13.off).bind fun _ =>
  j3 m_0 h
def r_internal_sync_Mutex_Unlock : RCode := .seq (.join [(0, .p)] (.cond (.const (.bool true)) (.seq (.region [⟨some 3, .p (.mv (.tmp 0)), none, none⟩,
  ⟨some 4, .p (.nilP (.tmp 3)), none, none⟩,
  ⟨some 5, .p (.fieldAddr 0 (.tmp 4)), none, none⟩,
  ⟨some 6, .l (.load (.i .i32) (.tmp 5)), none, none⟩])
  (.seq (.region [⟨some 7, .p (.mv (.tmp 0)), none, none⟩,
  ⟨some 8, .l (.convUP (.tmp 7)), none, none⟩,
  ⟨some 9, .e (.call (.func 138) [.tmp 8]), none, none⟩])
  (.region [⟨some 10, .e (.call (.func 133) []), none, none⟩]))) (.skip)))
  (.seq (.region [⟨some 11, .p (.mv (.tmp 0)), none, none⟩,
  ⟨some 12, .p (.nilP (.tmp 11)), none, none⟩,
  ⟨some 13, .p (.fieldAddr 0 (.tmp 12)), none, none⟩,
  ⟨some 14, .e (.call (.func 139) [.tmp 13, .const (.int .i32 (-1))]), none, none⟩,
  ⟨some 2, .p (.mv (.tmp 14)), none, none⟩])
  (.seq (.join [] (.seq (.region [⟨some 15, .p (.mv (.tmp 2)), none, none⟩,
  ⟨some 16, .p (.bin .neq (.tmp 15) (.const (.int .i32 0))), none, none⟩])
  (.cond (.tmp 16) (.region [⟨some 17, .p (.mv (.tmp 0)), none, none⟩,
  ⟨some 18, .p (.mv (.tmp 2)), none, none⟩,
  ⟨some 19, .e (.call (.func 140) [.tmp 17, .tmp 18]), none, none⟩]) (.skip))))
  (.region [⟨some 20, .e (.call (.func 135) []), none, none⟩])))
noncomputable def e_internal_sync_Mutex_Unlock (k : Nat) (D : CallF) : Ent := entOf 129 [(0, .p)] [] (internal_sync_Mutex_Unlock k D)
theorem q_internal_sync_Mutex_Unlock : (Tryz.f129.body).bind (rcodeOf Tryz.prog 2 Tryz.f129.ntmps) = some (strip r_internal_sync_Mutex_Unlock) := by kernel_rfl
theorem t_internal_sync_Mutex_Unlock (k : Nat) (D : CallF) : curF [(0, .p)] (fun args h => denF (C_internal_sync_Mutex_Unlock k D) k r_internal_sync_Mutex_Unlock [] [] args h) = internal_sync_Mutex_Unlock k D := by kernel_rfl
theorem ok_internal_sync_Mutex_Unlock {D : CallF} (hD : CSound Tryz.prog 2 D) (k : Nat) : EntOk Tryz.prog 2 (e_internal_sync_Mutex_Unlock k D) :=
  entOf_ok2 (mkC_sound hD (EntsOk.more (ok_sync_atomic_AddInt32 hD k) (EntsOk.more (ok_internal_race_Enable hD k) (EntsOk.more (ok_internal_race_ReleaseMerge hD k) (EntsOk.more (ok_internal_race_Disable hD k) (EntsOk.none)))))) Tryz.func129 rfl q_internal_sync_Mutex_Unlock rfl (t_internal_sync_Mutex_Unlock k D)
end Gz
namespace Gz
open Go Gx Go.Proofs
set_option maxRecDepth 100000
noncomputable def C_sync_Mutex_Unlock (k : Nat) (D : CallF) : CallF := mkC D [e_internal_sync_Mutex_Unlock k D]
noncomputable def sync_Mutex_Unlock (k : Nat) (D : CallF) (m_0 : Option Addr) (h : AHeap) : Option ((Unit) × AHeap) :=
  (m_0).bind fun p1 =>
  (internal_sync_Mutex_Unlock k D (some (⟨p1.block, p1.off + 0, none⟩ : Addr)) h).bind fun r2 =>
  some ((), r2.2)
def r_sync_Mutex_Unlock : RCode := .region [⟨some 2, .p (.mv (.tmp 0)), none, none⟩,
  ⟨some 3, .p (.nilP (.tmp 2)), none, none⟩,
  ⟨some 4, .p (.fieldAddr 0 (.tmp 3)), none, none⟩,
  ⟨some 5, .e (.call (.func 129) [.tmp 4]), none, none⟩]
noncomputable def e_sync_Mutex_Unlock (k : Nat) (D : CallF) : Ent := entOf 125 [(0, .p)] [] (sync_Mutex_Unlock k D)
theorem q_sync_Mutex_Unlock : (Tryz.f125.body).bind (rcodeOf Tryz.prog 2 Tryz.f125.ntmps) = some (strip r_sync_Mutex_Unlock) := by kernel_rfl
theorem t_sync_Mutex_Unlock (k : Nat) (D : CallF) : curF [(0, .p)] (fun args h => denF (C_sync_Mutex_Unlock k D) k r_sync_Mutex_Unlock [] [] args h) = sync_Mutex_Unlock k D := by kernel_rfl
theorem ok_sync_Mutex_Unlock {D : CallF} (hD : CSound Tryz.prog 2 D) (k : Nat) : EntOk Tryz.prog 2 (e_sync_Mutex_Unlock k D) :=
  entOf_ok2 (mkC_sound hD (EntsOk.more (ok_internal_sync_Mutex_Unlock hD k) (EntsOk.none))) Tryz.func125 rfl q_sync_Mutex_Unlock rfl (t_sync_Mutex_Unlock k D)
theorem d_sync_Mutex_Unlock {D : CallF} (hD : CSound Tryz.prog 2 D) (k : Nat) : EntD Tryz.prog 2 (e_sync_Mutex_Unlock k D) :=
  entOf_okD (mkC_sound hD (EntsOk.more (ok_internal_sync_Mutex_Unlock hD k) (EntsOk.none))) Tryz.func125 rfl q_sync_Mutex_Unlock rfl (t_sync_Mutex_Unlock k D)
end Gz
namespace Gz
open Go Gx Go.Proofs
set_option maxRecDepth 100000
noncomputable def C_sync_atomic_b32 (_k : Nat) (D : CallF) : CallF := mkC D []
noncomputable def sync_atomic_b32 (_k : Nat) (_D : CallF) (b_0 : Bool) (h : AHeap) : Option ((Int) × AHeap) :=
  (if b_0 = true then
  some (1, h)
  else
  some (0, h))
def r_sync_atomic_b32 : RCode := .seq (.region [⟨some 2, .p (.mv (.const (.int .u32 0))), none, none⟩])
  (.seq (.seq (.region [⟨some 3, .p (.mv (.tmp 0)), none, none⟩])
  (.cond (.tmp 3) (.seq (.region [⟨some 2, .p (.mv (.const (.int .u32 1))), none, none⟩])
  (.ret)) (.skip)))
  (.seq (.region [⟨some 2, .p (.mv (.const (.int .u32 0))), none, none⟩])
  (.ret)))
noncomputable def e_sync_atomic_b32 (k : Nat) (D : CallF) : Ent := entOf 131 [(0, .b)] [(2, .i .u32)] (sync_atomic_b32 k D)
theorem q_sync_atomic_b32 : (Tryz.f131.body).bind (rcodeOf Tryz.prog 2 Tryz.f131.ntmps) = some (strip r_sync_atomic_b32) := by kernel_rfl
theorem t_sync_atomic_b32 (k : Nat) (D : CallF) : curF [(0, .b)] (fun args h => denF (C_sync_atomic_b32 k D) k r_sync_atomic_b32 [(2, .i .u32)] [none] args h) = sync_atomic_b32 k D := by kernel_rfl
theorem ok_sync_atomic_b32 {D : CallF} (hD : CSound Tryz.prog 2 D) (k : Nat) : EntOk Tryz.prog 2 (e_sync_atomic_b32 k D) :=
  entOf_ok2 (mkC_sound hD (EntsOk.none)) Tryz.func131 rfl q_sync_atomic_b32 rfl (t_sync_atomic_b32 k D)
end Gz
namespace Gz
open Go Gx Go.Proofs
noncomputable def e_sync_atomic_StoreUint32 (_k : Nat) (_D : CallF) : Ent := eStore 130 .u32
theorem ok_sync_atomic_StoreUint32 {D : CallF} (_hD : CSound Tryz.prog 2 D) (k : Nat) : EntOk Tryz.prog 2 (e_sync_atomic_StoreUint32 k D) :=
  store_ok Tryz.func130 rfl rfl rfl .u32 (by kernel_rfl)
end Gz
namespace Gz
open Go Gx Go.Proofs
set_option maxRecDepth 100000
noncomputable def C_sync_atomic_Bool_Store (k : Nat) (D : CallF) : CallF := mkC D [e_sync_atomic_b32 k D, e_sync_atomic_StoreUint32 k D]
noncomputable def sync_atomic_Bool_Store (k : Nat) (D : CallF) (x_0 : Option Addr) (val_1 : Bool) (h : AHeap) : Option ((Unit) × AHeap) :=
  (sync_atomic_b32 k D val_1 h).bind fun r1 =>
  (x_0).bind fun p2 =>
  (ldI .u32 (⟨p2.block, p2.off + 0, none⟩ : Addr) r1.2).bind fun _ =>
  (st1 (⟨p2.block, p2.off + 0, none⟩ : Addr) (.int .u32 r1.1) r1.2).bind fun h4 =>
  some ((), h4)
def r_sync_atomic_Bool_Store : RCode := .draw [⟨3, ⟨some 7, .p (.mv (.tmp 1)), none, none⟩, [1], 0⟩,
  ⟨4, ⟨some 8, .e (.call (.func 131) [.tmp 7]), none, none⟩, [7], 0⟩,
  ⟨0, ⟨some 4, .p (.mv (.tmp 0)), none, none⟩, [0], 1⟩,
  ⟨1, ⟨some 5, .p (.nilP (.tmp 4)), none, none⟩, [4], 1⟩,
  ⟨2, ⟨some 6, .p (.fieldAddr 0 (.tmp 5)), none, none⟩, [5], 1⟩,
  ⟨5, ⟨some 9, .e (.call (.func 130) [.tmp 6, .tmp 8]), none, none⟩, [6, 8], 0⟩]
noncomputable def e_sync_atomic_Bool_Store (k : Nat) (D : CallF) : Ent := entOf 126 [(0, .p), (1, .b)] [] (sync_atomic_Bool_Store k D)
theorem q_sync_atomic_Bool_Store : (Tryz.f126.body).bind (rcodeOf Tryz.prog 2 Tryz.f126.ntmps) = some (strip r_sync_atomic_Bool_Store) := by kernel_rfl
theorem t_sync_atomic_Bool_Store (k : Nat) (D : CallF) : curF [(0, .p), (1, .b)] (fun args h => denF (C_sync_atomic_Bool_Store k D) k r_sync_atomic_Bool_Store [] [] args h) = sync_atomic_Bool_Store k D := by kernel_rfl
theorem ok_sync_atomic_Bool_Store {D : CallF} (hD : CSound Tryz.prog 2 D) (k : Nat) : EntOk Tryz.prog 2 (e_sync_atomic_Bool_Store k D) :=
  entOf_ok2 (mkC_sound hD (EntsOk.more (ok_sync_atomic_b32 hD k) (EntsOk.more (ok_sync_atomic_StoreUint32 hD k) (EntsOk.none)))) Tryz.func126 rfl q_sync_atomic_Bool_Store rfl (t_sync_atomic_Bool_Store k D)
theorem d_sync_atomic_Bool_Store {D : CallF} (hD : CSound Tryz.prog 2 D) (k : Nat) : EntD Tryz.prog 2 (e_sync_atomic_Bool_Store k D) :=
  entOf_okD (mkC_sound hD (EntsOk.more (ok_sync_atomic_b32 hD k) (EntsOk.more (ok_sync_atomic_StoreUint32 hD k) (EntsOk.none)))) Tryz.func126 rfl q_sync_atomic_Bool_Store rfl (t_sync_atomic_Bool_Store k D)
end Gz
namespace Gz
open Go Gx Go.Proofs
set_option maxRecDepth 100000
noncomputable def C_sync_Once_doSlow (k : Nat) (D : CallF) : CallF := mkC D [e_sync_Mutex_Lock k D, e_sync_atomic_Bool_Load k D, e_sync_atomic_Bool_Store k D, e_sync_Mutex_Unlock k D]
noncomputable def sync_Once_doSlow (k : Nat) (D : CallF) (a_0 : Option Addr) (a_1 : Value) (h : AHeap) : Option (Unit × AHeap) :=
  (a_0).bind fun p1 =>
  (sync_Mutex_Lock k D (some (⟨p1.block, p1.off + 1, none⟩ : Addr)) h).bind fun r2 =>
  (a_0).bind fun p3 =>
  (a_0).bind fun p4 =>
  (sync_atomic_Bool_Load k D (some (⟨p4.block, p4.off + 0, none⟩ : Addr)) r2.2).bind fun r5 =>
  (if (!r5.1) = true then
  (a_0).bind fun p6 =>
  callD (C_sync_Once_doSlow k D) a_1 [] r5.2 fun _ h8 =>
  (sync_atomic_Bool_Store k D (some (⟨p6.block, p6.off + 0, none⟩ : Addr)) true h8).bind fun r9 =>
  (sync_Mutex_Unlock k D (some (⟨p3.block, p3.off + 1, none⟩ : Addr)) r9.2).bind fun r10 =>
  some ((), r10.2)
  else none)
def r_sync_Once_doSlow : OnceC := ⟨118, [⟨some 4, .p (.mv (.tmp 0)), none, none⟩, ⟨some 5, .p (.nilP (.tmp 4)), none, none⟩, ⟨some 6, .p (.fieldAddr 1 (.tmp 5)), none, none⟩, ⟨some 7, .e (.call (.func 124) [.tmp 6]), none, none⟩], [⟨some 8, .p (.mv (.tmp 0)), none, none⟩, ⟨some 9, .p (.nilP (.tmp 8)), none, none⟩, ⟨some 10, .p (.fieldAddr 1 (.tmp 9)), none, none⟩], 125, [.tmp 10], [⟨some 11, .p (.mv (.tmp 0)), none, none⟩, ⟨some 12, .p (.nilP (.tmp 11)), none, none⟩, ⟨some 13, .p (.fieldAddr 0 (.tmp 12)), none, none⟩, ⟨some 14, .e (.call (.func 117) [.tmp 13]), none, none⟩, ⟨some 15, .p (.un .not (.tmp 14)), none, none⟩], 15, [⟨some 16, .p (.mv (.tmp 0)), none, none⟩, ⟨some 17, .p (.nilP (.tmp 16)), none, none⟩, ⟨some 18, .p (.fieldAddr 0 (.tmp 17)), none, none⟩], 126, [.tmp 18, .const (.bool true)], [⟨some 19, .p (.mv (.tmp 1)), none, none⟩, ⟨some 20, .e (.call (.tmp 19) []), none, none⟩]⟩
noncomputable def e_sync_Once_doSlow (k : Nat) (D : CallF) : Ent := entOf 118 [(0, .p), (1, .v)] [] (sync_Once_doSlow k D)
theorem q_sync_Once_doSlow : (Tryz.f118.body).bind (onceOf Tryz.prog 2 Tryz.f118.ntmps r_sync_Once_doSlow.id) = some (stripOnce r_sync_Once_doSlow) := by kernel_rfl
theorem t_sync_Once_doSlow (k : Nat) (D : CallF) : curF [(0, .p), (1, .v)] (fun args h => (eOnce (C_sync_Once_doSlow k D) r_sync_Once_doSlow (e_sync_Mutex_Unlock k D) (e_sync_atomic_Bool_Store k D)).run (Unit × AHeap) args h fun v h => match v with | .tuple ⟨[]⟩ => some ((), h) | _ => none) = sync_Once_doSlow k D := by kernel_rfl
theorem ok_sync_Once_doSlow {D : CallF} (hD : CSound Tryz.prog 2 D) (k : Nat) : EntOk Tryz.prog 2 (e_sync_Once_doSlow k D) :=
  entOk_unit (once_ok (mkC_sound hD (EntsOk.more (ok_sync_Mutex_Lock hD k) (EntsOk.more (ok_sync_atomic_Bool_Load hD k) (EntsOk.more (ok_sync_atomic_Bool_Store hD k) (EntsOk.more (ok_sync_Mutex_Unlock hD k) (EntsOk.none)))))) Tryz.func118 rfl rfl (onceOf_some q_sync_Once_doSlow) (d_sync_Mutex_Unlock hD k) (d_sync_atomic_Bool_Store hD k) rfl rfl) (t_sync_Once_doSlow k D)
end Gz
namespace Gz
open Go Gx Go.Proofs
set_option maxRecDepth 100000
noncomputable def C_sync_Once_Do (k : Nat) (D : CallF) : CallF := mkC D [e_sync_atomic_Bool_Load k D, e_sync_Once_doSlow k D]
noncomputable def sync_Once_Do (k : Nat) (D : CallF) (o_0 : Option Addr) (f_1 : Value) (h : AHeap) : Option ((Unit) × AHeap) :=
  (o_0).bind fun p1 =>
  (sync_atomic_Bool_Load k D (some (⟨p1.block, p1.off + 0, none⟩ : Addr)) h).bind fun r2 =>
  (if (!r2.1) = true then
  (sync_Once_doSlow k D o_0 f_1 r2.2).bind fun r3 =>
  some ((), r3.2)
  else
  some ((), r2.2))
def r_sync_Once_Do : RCode := .seq (.region [⟨some 4, .p (.mv (.tmp 0)), none, none⟩,
  ⟨some 5, .p (.nilP (.tmp 4)), none, none⟩,
  ⟨some 6, .p (.fieldAddr 0 (.tmp 5)), none, none⟩,
  ⟨some 7, .e (.call (.func 117) [.tmp 6]), none, none⟩,
  ⟨some 8, .p (.un .not (.tmp 7)), none, none⟩])
  (.cond (.tmp 8) (.region [⟨some 9, .p (.mv (.tmp 0)), none, none⟩,
  ⟨some 10, .p (.mv (.tmp 1)), none, none⟩,
  ⟨some 11, .e (.call (.func 118) [.tmp 9, .tmp 10]), none, none⟩]) (.skip))
noncomputable def e_sync_Once_Do (k : Nat) (D : CallF) : Ent := entOf 107 [(0, .p), (1, .v)] [] (sync_Once_Do k D)
theorem q_sync_Once_Do : (Tryz.f107.body).bind (rcodeOf Tryz.prog 2 Tryz.f107.ntmps) = some (strip r_sync_Once_Do) := by kernel_rfl
theorem t_sync_Once_Do (k : Nat) (D : CallF) : curF [(0, .p), (1, .v)] (fun args h => denF (C_sync_Once_Do k D) k r_sync_Once_Do [] [] args h) = sync_Once_Do k D := by kernel_rfl
theorem ok_sync_Once_Do {D : CallF} (hD : CSound Tryz.prog 2 D) (k : Nat) : EntOk Tryz.prog 2 (e_sync_Once_Do k D) :=
  entOf_ok2 (mkC_sound hD (EntsOk.more (ok_sync_atomic_Bool_Load hD k) (EntsOk.more (ok_sync_Once_doSlow hD k) (EntsOk.none)))) Tryz.func107 rfl q_sync_Once_Do rfl (t_sync_Once_Do k D)
end Gz
namespace Gz
open Go Gx Go.Proofs
set_option maxRecDepth 100000
noncomputable def C_field_Field_tables (k : Nat) (D : CallF) : CallF := mkC D [e_sync_Once_Do k D]
noncomputable def field_Field_tables (k : Nat) (D : CallF) (f_0 : Option Addr) (h : AHeap) : Option (((Option Addr)) × AHeap) :=
  (f_0).bind fun p1 =>
  (sync_Once_Do k D (some (⟨p1.block, p1.off + 0, none⟩ : Addr)) (.func (.func 108) ⟨[.pointer f_0]⟩ ⟨[]⟩) h).bind fun r2 =>
  (f_0).bind fun p3 =>
  some ((some (⟨p3.block, p3.off + 3, none⟩ : Addr)), r2.2)
def r_field_Field_tables : RCode := .seq (.region [⟨some 2, .p (.mv (.const (.pointer none))), none, none⟩])
  (.seq (.region [⟨some 3, .p (.mv (.tmp 0)), none, none⟩,
  ⟨some 4, .p (.nilP (.tmp 3)), none, none⟩,
  ⟨some 5, .p (.fieldAddr 0 (.tmp 4)), none, none⟩,
  ⟨some 6, .p (.mv (.tmp 0)), none, none⟩,
  ⟨some 7, .p (.mkFunc 108 [.tmp 6] []), none, none⟩,
  ⟨some 8, .e (.call (.func 107) [.tmp 5, .tmp 7]), none, none⟩])
  (.seq (.region [⟨some 9, .p (.mv (.tmp 0)), none, none⟩,
  ⟨some 10, .p (.nilP (.tmp 9)), none, none⟩,
  ⟨some 11, .p (.fieldAddr 3 (.tmp 10)), none, none⟩,
  ⟨some 2, .p (.mv (.tmp 11)), none, none⟩])
  (.ret)))
noncomputable def e_field_Field_tables (k : Nat) (D : CallF) : Ent := entOf 76 [(0, .p)] [(2, .p)] (field_Field_tables k D)
theorem q_field_Field_tables : (Tryz.f76.body).bind (rcodeOf Tryz.prog 2 Tryz.f76.ntmps) = some (strip r_field_Field_tables) := by kernel_rfl
theorem t_field_Field_tables (k : Nat) (D : CallF) : curF [(0, .p)] (fun args h => denF (C_field_Field_tables k D) k r_field_Field_tables [(2, .p)] [none] args h) = field_Field_tables k D := by kernel_rfl
theorem ok_field_Field_tables {D : CallF} (hD : CSound Tryz.prog 2 D) (k : Nat) : EntOk Tryz.prog 2 (e_field_Field_tables k D) :=
  entOf_ok2 (mkC_sound hD (EntsOk.more (ok_sync_Once_Do hD k) (EntsOk.none))) Tryz.func76 rfl q_field_Field_tables rfl (t_field_Field_tables k D)
end Gz
namespace Gz
open Go Gx Go.Proofs
set_option maxRecDepth 100000
noncomputable def C_field_Field_Div (k : Nat) (D : CallF) : CallF := mkC D [e_field_is k D, e_field_Field_tables k D]
noncomputable def field_Field_Div (k : Nat) (D : CallF) (f_0 : Option Addr) (a_1 : Int) (b_2 : Int) (h : AHeap) : Option ((Int × Int) × AHeap) :=
  let h1 := AHeap.new h (.cells [.int .i64 a_1, .int .i64 b_2] 3 true 0)
  (field_is k D (⟨(some ⟨h.next, 0, some 0⟩), 2, 2⟩ : Slc) h1).bind fun r2 =>
  (if (!r2.1) = true then
  some ((0, 1), r2.2)
  else
  (if (b_2 == 0) = true then
  some ((0, 30), r2.2)
  else
  (if (a_1 == 0) = true then
  some ((0, 0), r2.2)
  else
  (field_Field_tables k D f_0 r2.2).bind fun r3 =>
  (r3.1).bind fun p4 =>
  (Gx.idxA 256 1 (⟨p4.block, p4.off + 510, none⟩ : Addr) a_1).bind fun q5 =>
  (ldI .i64 q5 r3.2).bind fun x6 =>
  (r3.1).bind fun p7 =>
  (Gx.idxA 256 1 (⟨p7.block, p7.off + 510, none⟩ : Addr) b_2).bind fun q8 =>
  (ldI .i64 q8 r3.2).bind fun x9 =>
  (r3.1).bind fun p10 =>
  (Gx.idxA 510 1 (⟨p10.block, p10.off + 0, none⟩ : Addr) (IntKind.wrap .i64 ((IntKind.wrap .i64 (x6 + 255)) - x9))).bind fun q11 =>
  (ldI .u8 q11 r3.2).bind fun x12 =>
  some (((IntKind.wrap .i64 x12), 0), r3.2))))
def r_field_Field_Div : RCode := .seq (.region [⟨some 6, .p (.mv (.const (.int .i64 0))), none, none⟩,
  ⟨some 7, .p (.mv (.const (.int .i64 0))), none, none⟩])
  (.seq (.block 0 (.seq (.region [⟨some 10, .p (.mv (.tmp 1)), none, none⟩,
  ⟨some 11, .p (.mv (.tmp 2)), none, none⟩,
  ⟨some 12, .a (.buildSlice 3 2 (zerosL 2 [.int .i64 0]) [(0, 1, .tmp 10), (1, 1, .tmp 11)]), none, none⟩,
  ⟨some 13, .e (.call (.func 75) [.tmp 12]), none, none⟩,
  ⟨some 14, .p (.un .not (.tmp 13)), none, none⟩,
  ⟨some 9, .p (.mv (.tmp 14)), none, none⟩])
  (.cond (.tmp 9) (.seq (.region [⟨some 6, .p (.mv (.const (.int .i64 0))), none, none⟩,
  ⟨some 7, .p (.mv (.const (.int .i64 1))), none, none⟩])
  (.ret)) (.seq (.region [⟨some 16, .p (.mv (.tmp 2)), none, none⟩,
  ⟨some 17, .p (.bin .eql (.tmp 16) (.const (.int .i64 0))), none, none⟩,
  ⟨some 15, .p (.mv (.tmp 17)), none, none⟩])
  (.cond (.tmp 15) (.seq (.region [⟨some 6, .p (.mv (.const (.int .i64 0))), none, none⟩,
  ⟨some 7, .p (.mv (.const (.int .i64 30))), none, none⟩])
  (.ret)) (.seq (.region [⟨some 19, .p (.mv (.tmp 1)), none, none⟩,
  ⟨some 20, .p (.bin .eql (.tmp 19) (.const (.int .i64 0))), none, none⟩,
  ⟨some 18, .p (.mv (.tmp 20)), none, none⟩])
  (.cond (.tmp 18) (.seq (.region [⟨some 6, .p (.mv (.const (.int .i64 0))), none, none⟩,
  ⟨some 7, .p (.mv (.const (.int .i64 0))), none, none⟩])
  (.ret)) (.skip))))))))
  (.seq (.region [⟨some 21, .p (.mv (.tmp 0)), none, none⟩,
  ⟨some 22, .e (.call (.func 76) [.tmp 21]), none, none⟩,
  ⟨some 8, .p (.mv (.tmp 22)), none, none⟩])
  (.seq (.draw [⟨0, ⟨some 23, .p (.mv (.tmp 8)), none, none⟩, [8], 0⟩,
  ⟨1, ⟨some 24, .p (.mv (.tmp 8)), none, none⟩, [8], 0⟩,
  ⟨2, ⟨some 25, .p (.mv (.tmp 1)), none, none⟩, [1], 0⟩,
  ⟨3, ⟨some 26, .p (.nilP (.tmp 24)), none, none⟩, [24], 0⟩,
  ⟨4, ⟨some 27, .p (.fieldAddr 510 (.tmp 26)), none, none⟩, [26], 0⟩,
  ⟨5, ⟨some 28, .p (.idxA 256 1 (.tmp 27) (.tmp 25)), none, none⟩, [27, 25], 0⟩,
  ⟨6, ⟨some 29, .l (.load (.i .i64) (.tmp 28)), none, none⟩, [28], 0⟩,
  ⟨7, ⟨some 30, .p (.bin .add (.tmp 29) (.const (.int .i64 255))), none, none⟩, [29], 0⟩,
  ⟨8, ⟨some 31, .p (.mv (.tmp 8)), none, none⟩, [8], 0⟩,
  ⟨9, ⟨some 32, .p (.mv (.tmp 2)), none, none⟩, [2], 0⟩,
  ⟨10, ⟨some 33, .p (.nilP (.tmp 31)), none, none⟩, [31], 0⟩,
  ⟨11, ⟨some 34, .p (.fieldAddr 510 (.tmp 33)), none, none⟩, [33], 0⟩,
  ⟨12, ⟨some 35, .p (.idxA 256 1 (.tmp 34) (.tmp 32)), none, none⟩, [34, 32], 0⟩,
  ⟨13, ⟨some 36, .l (.load (.i .i64) (.tmp 35)), none, none⟩, [35], 0⟩,
  ⟨14, ⟨some 37, .p (.bin .sub (.tmp 30) (.tmp 36)), none, none⟩, [30, 36], 0⟩,
  ⟨15, ⟨some 38, .p (.nilP (.tmp 23)), none, none⟩, [23], 0⟩,
  ⟨16, ⟨some 39, .p (.fieldAddr 0 (.tmp 38)), none, none⟩, [38], 0⟩,
  ⟨17, ⟨some 40, .p (.idxA 510 1 (.tmp 39) (.tmp 37)), none, none⟩, [39, 37], 0⟩,
  ⟨18, ⟨some 41, .l (.load (.i .u8) (.tmp 40)), none, none⟩, [40], 0⟩,
  ⟨19, ⟨some 42, .p (.convI .i64 (.tmp 41)), none, none⟩, [41], 0⟩,
  ⟨20, ⟨some 6, .p (.mv (.tmp 42)), none, none⟩, [42], 0⟩,
  ⟨21, ⟨some 7, .p (.mv (.const (.int .i64 0))), none, none⟩, [], 0⟩])
  (.ret))))
noncomputable def e_field_Field_Div (k : Nat) (D : CallF) : Ent := entOf 68 [(0, .p), (1, .i .i64), (2, .i .i64)] [(6, .i .i64), (7, .i .i64)] (field_Field_Div k D)
theorem q_field_Field_Div : (Tryz.f68.body).bind (rcodeOf Tryz.prog 2 Tryz.f68.ntmps) = some (strip r_field_Field_Div) := by kernel_rfl
theorem t_field_Field_Div (k : Nat) (D : CallF) : curF [(0, .p), (1, .i .i64), (2, .i .i64)] (fun args h => denF (C_field_Field_Div k D) k r_field_Field_Div [(6, .i .i64), (7, .i .i64)] [none, none] args h) = field_Field_Div k D := by kernel_rfl
theorem ok_field_Field_Div {D : CallF} (hD : CSound Tryz.prog 2 D) (k : Nat) : EntOk Tryz.prog 2 (e_field_Field_Div k D) :=
  entOf_ok2 (mkC_sound hD (EntsOk.more (ok_field_is hD k) (EntsOk.more (ok_field_Field_tables hD k) (EntsOk.none)))) Tryz.func68 rfl q_field_Field_Div rfl (t_field_Field_Div k D)
end Gz
namespace Gz
open Go Gx Go.Proofs
set_option maxRecDepth 100000
noncomputable def C_matrix_Space_Cauchy (k : Nat) (D : CallF) : CallF := mkC D [e_matrix_blank k D, e_matrix_M_row k D, e_field_Field_Div k D]
noncomputable def matrix_Space_Cauchy_l1b (k : Nat) (D : CallF) (j44 : (Option Addr) → Int → (Option Addr) → (Option Addr) → Int → Int → AHeap → Option (((Int × Int × Slc) × Int) × AHeap)) (rec55 : (Option Addr) → Int → (Option Addr) → (Option Addr) → Int → Int → Int → Int → Int → AHeap → Option (((Int × Int × Slc) × Int) × AHeap)) (s45 : Option Addr) (kv46 : Int) (y47 : Option Addr) (out48 : Option Addr) (i49 : Int) (y50 : Int) (y51 : Int) (y52 : Int) (y53 : Int) (h54 : AHeap) : Option (((Int × Int × Slc) × Int) × AHeap) :=
  (if (decide (y53 < y52)) = true then
  joinK (fun (s56 : Option Addr) (kv57 : Int) (y58 : Option Addr) (out59 : Option Addr) (i60 : Int) (y61 : Int) (y62 : Int) (y63 : Int) (y64 : Int) (h65 : AHeap) =>
  rec55 s56 kv57 y58 out59 i60 y61 y62 y63 (IntKind.wrap .i64 (y64 + 1)) h65) fun j66 =>
  joinK (fun (s67 : Option Addr) (kv68 : Int) (y69 : Option Addr) (out70 : Option Addr) (i71 : Int) (j72 : Int) (y73 : Int) (y74 : Int) (y75 : Int) (y76 : Int) (y77 : Bool) (h78 : AHeap) =>
  (if y77 = true then
  (out70).bind fun p80 =>
  (ldA 3 p80 h78).bind fun l81 =>
  (decC [.i .i64, .i .i64, .l] l81).bind fun x82 =>
  (matrix_M_row k D (x82.1, x82.2.1, x82.2.2) i71 h78).bind fun r83 =>
  (Gx.idxL 1 r83.1 j72).bind fun q84 =>
  (st1 q84 (.int .i64 1) r83.2).bind fun h85 =>
  j66 s67 kv68 y69 out70 i71 y73 y74 y75 y76 h85
  else
  (if (decide (i71 ≥ kv68)) = true then
  (out70).bind fun p86 =>
  (ldA 3 p86 h78).bind fun l87 =>
  (decC [.i .i64, .i .i64, .l] l87).bind fun x88 =>
  (matrix_M_row k D (x88.1, x88.2.1, x88.2.2) i71 h78).bind fun r89 =>
  (s67).bind fun p90 =>
  (ldP (⟨p90.block, p90.off + 0, none⟩ : Addr) r89.2).bind fun x91 =>
  guardP (SameW [h78] (fun H93 => (ldP (⟨p90.block, p90.off + 0, none⟩ : Addr) H93).bind fun y92 => some (.pointer y92)) (.pointer x91)) (
  (field_Field_Div k D x91 1 (Go.bits .xor .i64 i71 j72) r89.2).bind fun r94 =>
  (Gx.idxL 1 r89.1 j72).bind fun q95 =>
  (st1 q95 (.int .i64 r94.1.1) r94.2).bind fun h96 =>
  j66 s67 kv68 y69 out70 i71 y73 y74 y75 y76 h96)
  else
  j66 s67 kv68 y69 out70 i71 y73 y74 y75 y76 h78))) fun j79 =>
  (if (decide (i49 < kv46)) = true then
  j79 s45 kv46 y47 out48 i49 y53 y50 y51 y52 y53 (i49 == y53) h54
  else
  j79 s45 kv46 y47 out48 i49 y53 y50 y51 y52 y53 false h54)
  else
  j44 s45 kv46 y47 out48 y50 y51 h54)
noncomputable def matrix_Space_Cauchy_l1 (k : Nat) (D : CallF) (j44 : (Option Addr) → Int → (Option Addr) → (Option Addr) → Int → Int → AHeap → Option (((Int × Int × Slc) × Int) × AHeap)) : (Option Addr) → Int → (Option Addr) → (Option Addr) → Int → Int → Int → Int → Int → AHeap → Option (((Int × Int × Slc) × Int) × AHeap) :=
  iterK (α := (Option Addr) → Int → (Option Addr) → (Option Addr) → Int → Int → Int → Int → Int → AHeap → Option (((Int × Int × Slc) × Int) × AHeap)) (fun _ _ _ _ _ _ _ _ _ _ => none) k (matrix_Space_Cauchy_l1b k D j44)
noncomputable def matrix_Space_Cauchy_l0b (k : Nat) (D : CallF) (j20 : (Option Addr) → (Option Addr) → AHeap → Option (((Int × Int × Slc) × Int) × AHeap)) (rec36 : (Option Addr) → Int → (Option Addr) → (Option Addr) → Int → Int → AHeap → Option (((Int × Int × Slc) × Int) × AHeap)) (s29 : Option Addr) (kv30 : Int) (y31 : Option Addr) (out32 : Option Addr) (y33 : Int) (y34 : Int) (h35 : AHeap) : Option (((Int × Int × Slc) × Int) × AHeap) :=
  (if (decide (y34 < y33)) = true then
  joinK (fun (s37 : Option Addr) (kv38 : Int) (y39 : Option Addr) (out40 : Option Addr) (y41 : Int) (y42 : Int) (h43 : AHeap) =>
  rec36 s37 kv38 y39 out40 y41 (IntKind.wrap .i64 (y42 + 1)) h43) fun j44 =>
  matrix_Space_Cauchy_l1 k D j44 s29 kv30 y31 out32 y34 y33 y34 kv30 0 h35
  else
  j20 y31 out32 h35)
noncomputable def matrix_Space_Cauchy_l0 (k : Nat) (D : CallF) (j20 : (Option Addr) → (Option Addr) → AHeap → Option (((Int × Int × Slc) × Int) × AHeap)) : (Option Addr) → Int → (Option Addr) → (Option Addr) → Int → Int → AHeap → Option (((Int × Int × Slc) × Int) × AHeap) :=
  iterK (α := (Option Addr) → Int → (Option Addr) → (Option Addr) → Int → Int → AHeap → Option (((Int × Int × Slc) × Int) × AHeap)) (fun _ _ _ _ _ _ _ => none) k (matrix_Space_Cauchy_l0b k D j20)
noncomputable def matrix_Space_Cauchy (k : Nat) (D : CallF) (s_0 : Option Addr) (k_1 : Int) (m_2 : Int) (h : AHeap) : Option (((Int × Int × Slc) × Int) × AHeap) :=
  let h1 := AHeap.new h (.cells [.int .i64 0, .int .i64 0, .slice none 0 0] 84 true 0)
  joinK (fun (s2 : Option Addr) (kv3 : Int) (m4 : Int) (y5 : Option Addr) (y6 : Bool) (h7 : AHeap) =>
  (if y6 = true then
  (y5).bind fun p9 =>
  (stL 3 p9 ([.int .i64 0, .int .i64 0, .slice none 0 0]) h7).bind fun h10 =>
  (y5).bind fun p11 =>
  (ldA 3 p11 h10).bind fun l12 =>
  (decC [.i .i64, .i .i64, .l] l12).bind fun x13 =>
  some (((x13.1, x13.2.1, x13.2.2), 1), h10)
  else
  (matrix_blank k D (IntKind.wrap .i64 (kv3 + m4)) kv3 h7).bind fun r14 =>
  let h15 := AHeap.new r14.2 (.cells [.int .i64 0, .int .i64 0, .slice none 0 0] 84 true 0)
  (stL 3 (⟨r14.2.next, 0, none⟩ : Addr) ([.int .i64 r14.1.1, .int .i64 r14.1.2.1, .slice r14.1.2.2.a r14.1.2.2.len r14.1.2.2.cap]) h15).bind fun h16 =>
  joinK (fun (y17 : Option Addr) (out18 : Option Addr) (h19 : AHeap) =>
  (out18).bind fun p21 =>
  (ldA 3 p21 h19).bind fun l22 =>
  (decC [.i .i64, .i .i64, .l] l22).bind fun x23 =>
  (y17).bind fun p24 =>
  (stL 3 p24 ([.int .i64 x23.1, .int .i64 x23.2.1, .slice x23.2.2.a x23.2.2.len x23.2.2.cap]) h19).bind fun h25 =>
  (y17).bind fun p26 =>
  (ldA 3 p26 h25).bind fun l27 =>
  (decC [.i .i64, .i .i64, .l] l27).bind fun x28 =>
  some (((x28.1, x28.2.1, x28.2.2), 0), h25)) fun j20 =>
  matrix_Space_Cauchy_l0 k D j20 s2 kv3 y5 (some (⟨r14.2.next, 0, none⟩ : Addr)) (IntKind.wrap .i64 (kv3 + m4)) 0 h16)) fun j8 =>
  (if (decide (k_1 < 1)) = true then
  j8 s_0 k_1 m_2 (some (⟨h.next, 0, none⟩ : Addr)) true h1
  else
  (if (decide (m_2 < 0)) = true then
  j8 s_0 k_1 m_2 (some (⟨h.next, 0, none⟩ : Addr)) true h1
  else
  (if (decide (k_1 > 255)) = true then
  j8 s_0 k_1 m_2 (some (⟨h.next, 0, none⟩ : Addr)) true h1
  else
  j8 s_0 k_1 m_2 (some (⟨h.next, 0, none⟩ : Addr)) (decide (m_2 > (IntKind.wrap .i64 (255 - k_1)))) h1)))
def r_matrix_Space_Cauchy : RCode := .seq (.region [⟨some 6, .a (.alloc 84 [.int .i64 0, .int .i64 0, .slice none 0 0]), none, none⟩,
  ⟨some 7, .p (.mv (.const (.int .i64 0))), none, none⟩])
  (.seq (.seq (.join [(0, .p), (1, .i .i64), (2, .i .i64), (6, .p), (26, .b)] (.region [⟨some 11, .p (.mv (.tmp 1)), none, none⟩,
  ⟨some 12, .p (.bin .lss (.tmp 11) (.const (.int .i64 1))), none, none⟩,
  ⟨some 13, .p (.mv (.tmp 12)), none, none⟩,
  ⟨some 14, .p (.mv (.tmp 2)), (some (13, false)), none⟩,
  ⟨some 15, .p (.bin .lss (.tmp 14) (.const (.int .i64 0))), (some (13, false)), none⟩,
  ⟨some 16, .p (.pick (.tmp 13) (.const (.bool true)) (.tmp 15)), none, none⟩,
  ⟨some 17, .p (.mv (.tmp 16)), none, none⟩,
  ⟨some 18, .p (.mv (.tmp 1)), (some (17, false)), none⟩,
  ⟨some 19, .p (.bin .gtr (.tmp 18) (.const (.int .i64 255))), (some (17, false)), none⟩,
  ⟨some 20, .p (.pick (.tmp 17) (.const (.bool true)) (.tmp 19)), none, none⟩,
  ⟨some 21, .p (.mv (.tmp 20)), none, none⟩,
  ⟨some 22, .p (.mv (.tmp 2)), (some (21, false)), none⟩,
  ⟨some 23, .p (.mv (.tmp 1)), (some (21, false)), none⟩,
  ⟨some 24, .p (.bin .sub (.const (.int .i64 255)) (.tmp 23)), (some (21, false)), none⟩,
  ⟨some 25, .p (.bin .gtr (.tmp 22) (.tmp 24)), (some (21, false)), none⟩,
  ⟨some 26, .p (.pick (.tmp 21) (.const (.bool true)) (.tmp 25)), none, none⟩]))
  (.cond (.tmp 26) (.seq (.region [⟨some 27, .p (.build [.int .i64 0, .int .i64 0, .slice none 0 0] []), none, none⟩,
  ⟨none, .e (.store (some 3) (.tmp 6) (.tmp 27)), none, none⟩,
  ⟨some 7, .p (.mv (.const (.int .i64 1))), none, none⟩])
  (.ret)) (.skip)))
  (.seq (.region [⟨some 28, .p (.mv (.tmp 1)), none, none⟩,
  ⟨some 29, .p (.mv (.tmp 2)), none, none⟩,
  ⟨some 30, .p (.bin .add (.tmp 28) (.tmp 29)), none, none⟩,
  ⟨some 31, .p (.mv (.tmp 1)), none, none⟩,
  ⟨some 32, .e (.call (.func 66) [.tmp 30, .tmp 31]), none, none⟩,
  ⟨some 8, .a (.alloc 84 [.int .i64 0, .int .i64 0, .slice none 0 0]), none, none⟩,
  ⟨none, .e (.store (some 3) (.tmp 8) (.tmp 32)), none, none⟩])
  (.seq (.join [(6, .p), (8, .p)] (.seq (.region [⟨some 33, .p (.mv (.tmp 1)), none, none⟩,
  ⟨some 34, .p (.mv (.tmp 2)), none, none⟩,
  ⟨some 35, .p (.bin .add (.tmp 33) (.tmp 34)), none, none⟩,
  ⟨some 36, .p (.mv (.const (.int .i64 0))), none, none⟩])
  (.block 0 (.loop [(0, .p), (1, .i .i64), (6, .p), (8, .p), (35, .i .i64), (36, .i .i64)] (.seq (.region [⟨some 37, .p (.bin .lss (.tmp 36) (.tmp 35)), none, none⟩])
  (.seq (.cond (.tmp 37) (.skip) (.exit 0))
  (.seq (.join [(0, .p), (1, .i .i64), (6, .p), (8, .p), (35, .i .i64), (36, .i .i64)] (.block 1 (.seq (.region [⟨some 38, .p (.mv (.tmp 36)), none, none⟩,
  ⟨some 9, .p (.mv (.tmp 38)), none, none⟩])
  (.seq (.region [⟨some 39, .p (.mv (.tmp 1)), none, none⟩,
  ⟨some 40, .p (.mv (.const (.int .i64 0))), none, none⟩])
  (.block 2 (.loop [(0, .p), (1, .i .i64), (6, .p), (8, .p), (9, .i .i64), (35, .i .i64), (36, .i .i64), (39, .i .i64), (40, .i .i64)] (.seq (.region [⟨some 41, .p (.bin .lss (.tmp 40) (.tmp 39)), none, none⟩])
  (.seq (.cond (.tmp 41) (.skip) (.exit 2))
  (.seq (.join [(0, .p), (1, .i .i64), (6, .p), (8, .p), (9, .i .i64), (35, .i .i64), (36, .i .i64), (39, .i .i64), (40, .i .i64)] (.block 3 (.seq (.region [⟨some 42, .p (.mv (.tmp 40)), none, none⟩,
  ⟨some 10, .p (.mv (.tmp 42)), none, none⟩])
  (.block 4 (.seq (.join [(0, .p), (1, .i .i64), (6, .p), (8, .p), (9, .i .i64), (10, .i .i64), (35, .i .i64), (36, .i .i64), (39, .i .i64), (40, .i .i64), (43, .b)] (.region [⟨some 44, .p (.mv (.tmp 9)), none, none⟩,
  ⟨some 45, .p (.mv (.tmp 1)), none, none⟩,
  ⟨some 46, .p (.bin .lss (.tmp 44) (.tmp 45)), none, none⟩,
  ⟨some 47, .p (.mv (.tmp 46)), none, none⟩,
  ⟨some 48, .p (.mv (.tmp 9)), (some (47, true)), none⟩,
  ⟨some 49, .p (.mv (.tmp 10)), (some (47, true)), none⟩,
  ⟨some 50, .p (.bin .eql (.tmp 48) (.tmp 49)), (some (47, true)), none⟩,
  ⟨some 51, .p (.pick (.tmp 47) (.tmp 50) (.const (.bool false))), none, none⟩,
  ⟨some 43, .p (.mv (.tmp 51)), none, none⟩]))
  (.cond (.tmp 43) (.region [⟨some 52, .l (.load (.agg 3) (.tmp 8)), none, some (.st [.i .i64, .i .i64, .l])⟩,
  ⟨some 53, .p (.mv (.tmp 9)), none, none⟩,
  ⟨some 54, .e (.call (.func 67) [.tmp 52, .tmp 53]), none, none⟩,
  ⟨some 55, .p (.mv (.tmp 10)), none, none⟩,
  ⟨some 56, .p (.idxL 1 (.tmp 54) (.tmp 55)), none, none⟩,
  ⟨none, .e (.store none (.tmp 56) (.const (.int .i64 1))), none, none⟩]) (.seq (.region [⟨some 58, .p (.mv (.tmp 9)), none, none⟩,
  ⟨some 59, .p (.mv (.tmp 1)), none, none⟩,
  ⟨some 60, .p (.bin .geq (.tmp 58) (.tmp 59)), none, none⟩,
  ⟨some 57, .p (.mv (.tmp 60)), none, none⟩])
  (.cond (.tmp 57) (.draw [⟨0, ⟨some 62, .l (.load (.agg 3) (.tmp 8)), none, some (.st [.i .i64, .i .i64, .l])⟩, [8], 0⟩,
  ⟨1, ⟨some 63, .p (.mv (.tmp 9)), none, none⟩, [9], 0⟩,
  ⟨2, ⟨some 64, .e (.call (.func 67) [.tmp 62, .tmp 63]), none, none⟩, [62, 63], 0⟩,
  ⟨4, ⟨some 66, .p (.mv (.tmp 0)), none, none⟩, [0], 1⟩,
  ⟨5, ⟨some 67, .p (.nilP (.tmp 66)), none, none⟩, [66], 1⟩,
  ⟨6, ⟨some 68, .p (.fieldAddr 0 (.tmp 67)), none, none⟩, [67], 1⟩,
  ⟨7, ⟨some 69, .l (.load (.p) (.tmp 68)), none, none⟩, [68], 1⟩,
  ⟨8, ⟨some 70, .p (.mv (.tmp 9)), none, none⟩, [9], 1⟩,
  ⟨9, ⟨some 71, .p (.mv (.tmp 10)), none, none⟩, [10], 1⟩,
  ⟨10, ⟨some 72, .p (.bin .xor (.tmp 70) (.tmp 71)), none, none⟩, [70, 71], 1⟩,
  ⟨11, ⟨some 73, .e (.call (.func 68) [.tmp 69, .const (.int .i64 1), .tmp 72]), none, none⟩, [69, 72], 0⟩,
  ⟨3, ⟨some 65, .p (.mv (.tmp 10)), none, none⟩, [10], 2⟩,
  ⟨12, ⟨some 61, .p (.mv (.tmp 73)), none, none⟩, [73], 0⟩,
  ⟨13, ⟨some 74, .p (.extract (.tmp 61) 0), none, none⟩, [61], 0⟩,
  ⟨15, ⟨some 76, .p (.idxL 1 (.tmp 64) (.tmp 65)), none, none⟩, [64, 65], 0⟩,
  ⟨16, ⟨none, .e (.store none (.tmp 76) (.tmp 74)), none, none⟩, [76, 74], 0⟩,
  ⟨14, ⟨some 75, .p (.extract (.tmp 61) 1), none, none⟩, [61], 1⟩]) (.skip)))))))))
  (.region [⟨some 77, .p (.bin .add (.tmp 40) (.const (.int .i64 1))), none, none⟩,
  ⟨some 40, .p (.mv (.tmp 77)), none, none⟩]))))))))))
  (.region [⟨some 78, .p (.bin .add (.tmp 36) (.const (.int .i64 1))), none, none⟩,
  ⟨some 36, .p (.mv (.tmp 78)), none, none⟩]))))))))
  (.seq (.region [⟨some 79, .l (.load (.agg 3) (.tmp 8)), none, some (.st [.i .i64, .i .i64, .l])⟩,
  ⟨none, .e (.store (some 3) (.tmp 6) (.tmp 79)), none, none⟩,
  ⟨some 7, .p (.mv (.const (.int .i64 0))), none, none⟩])
  (.ret)))))
noncomputable def e_matrix_Space_Cauchy (k : Nat) (D : CallF) : Ent := entOf 40 [(0, .p), (1, .i .i64), (2, .i .i64)] [(6, .st [.i .i64, .i .i64, .l]), (7, .i .i64)] (matrix_Space_Cauchy k D)
theorem q_matrix_Space_Cauchy : (Tryz.f40.body).bind (rcodeOf Tryz.prog 2 Tryz.f40.ntmps) = some (strip r_matrix_Space_Cauchy) := by kernel_rfl
theorem t_matrix_Space_Cauchy (k : Nat) (D : CallF) : curF [(0, .p), (1, .i .i64), (2, .i .i64)] (fun args h => denF (C_matrix_Space_Cauchy k D) k r_matrix_Space_Cauchy [(6, .st [.i .i64, .i .i64, .l]), (7, .i .i64)] [some (.agg 3), none] args h) = matrix_Space_Cauchy k D := by kernel_rfl
theorem ok_matrix_Space_Cauchy {D : CallF} (hD : CSound Tryz.prog 2 D) (k : Nat) : EntOk Tryz.prog 2 (e_matrix_Space_Cauchy k D) :=
  entOf_ok2 (mkC_sound hD (EntsOk.more (ok_matrix_blank hD k) (EntsOk.more (ok_matrix_M_row hD k) (EntsOk.more (ok_field_Field_Div hD k) (EntsOk.none))))) Tryz.func40 rfl q_matrix_Space_Cauchy rfl (t_matrix_Space_Cauchy k D)
end Gz
namespace Gz
open Go Gx Go.Proofs
set_option maxRecDepth 100000
noncomputable def C_stripe_New (k : Nat) (D : CallF) : CallF := mkC D [e_matrix_New k D, e_matrix_Space_Cauchy k D, e_field_New k D]
noncomputable def stripe_New (k : Nat) (D : CallF) (k_0 : Int) (m_1 : Int) (h : AHeap) : Option (((Option Addr) × Int) × AHeap) :=
  (matrix_New k D h).bind fun r1 =>
  (matrix_Space_Cauchy k D r1.1 k_0 m_1 r1.2).bind fun r2 =>
  let h3 := AHeap.new r2.2 (.cells [.int .i64 0, .int .i64 0, .slice none 0 0] 84 true 0)
  (stL 3 (⟨r2.2.next, 0, none⟩ : Addr) ([.int .i64 r2.1.1.1, .int .i64 r2.1.1.2.1, .slice r2.1.1.2.2.a r2.1.1.2.2.len r2.1.1.2.2.cap]) h3).bind fun h4 =>
  (if (r2.1.2 != 0) = true then
  some ((none, r2.1.2), h4)
  else
  (field_New k D h4).bind fun r5 =>
  (ldA 3 (⟨r2.2.next, 0, none⟩ : Addr) r5.2).bind fun l6 =>
  guardP (SameW [h4] (fun H8 => (ldA 3 (⟨r2.2.next, 0, none⟩ : Addr) H8).bind fun y7 => some (.agg ⟨y7⟩)) (.agg ⟨l6⟩)) (
  (decC [.i .i64, .i .i64, .l] l6).bind fun x9 =>
  let h10 := AHeap.new r5.2 (.cells [.int .i64 k_0, .int .i64 m_1, .pointer r5.1, .pointer r1.1, .int .i64 x9.1, .int .i64 x9.2.1, .slice x9.2.2.a x9.2.2.len x9.2.2.cap] 90 true 0)
  some (((some (⟨r5.2.next, 0, none⟩ : Addr)), 0), h10)))
def r_stripe_New : RCode := .seq (.region [⟨some 4, .p (.mv (.const (.pointer none))), none, none⟩,
  ⟨some 5, .p (.mv (.const (.int .i64 0))), none, none⟩])
  (.seq (.region [⟨some 9, .e (.call (.func 39) []), none, none⟩,
  ⟨some 6, .p (.mv (.tmp 9)), none, none⟩])
  (.seq (.region [⟨some 11, .p (.mv (.tmp 6)), none, none⟩,
  ⟨some 12, .p (.mv (.tmp 0)), none, none⟩,
  ⟨some 13, .p (.mv (.tmp 1)), none, none⟩,
  ⟨some 14, .e (.call (.func 40) [.tmp 11, .tmp 12, .tmp 13]), none, none⟩,
  ⟨some 10, .p (.mv (.tmp 14)), none, none⟩,
  ⟨some 15, .p (.extract (.tmp 10) 0), none, none⟩,
  ⟨some 16, .p (.extract (.tmp 10) 1), none, none⟩,
  ⟨some 7, .a (.alloc 84 [.int .i64 0, .int .i64 0, .slice none 0 0]), none, none⟩,
  ⟨none, .e (.store (some 3) (.tmp 7) (.tmp 15)), none, none⟩,
  ⟨some 8, .p (.mv (.tmp 16)), none, none⟩])
  (.seq (.seq (.region [⟨some 17, .p (.mv (.tmp 8)), none, none⟩,
  ⟨some 18, .p (.bin .neq (.tmp 17) (.const (.int .i64 0))), none, none⟩])
  (.cond (.tmp 18) (.seq (.region [⟨some 19, .p (.mv (.tmp 8)), none, none⟩,
  ⟨some 4, .p (.mv (.const (.pointer none))), none, none⟩,
  ⟨some 5, .p (.mv (.tmp 19)), none, none⟩])
  (.ret)) (.skip)))
  (.seq (.draw [⟨2, ⟨some 22, .e (.call (.func 41) []), none, none⟩, [], 0⟩,
  ⟨0, ⟨some 20, .p (.mv (.tmp 0)), none, none⟩, [0], 1⟩,
  ⟨1, ⟨some 21, .p (.mv (.tmp 1)), none, none⟩, [1], 1⟩,
  ⟨3, ⟨some 23, .p (.mv (.tmp 6)), none, none⟩, [6], 1⟩,
  ⟨4, ⟨some 24, .l (.load (.agg 3) (.tmp 7)), none, some (.st [.i .i64, .i .i64, .l])⟩, [7], 1⟩,
  ⟨5, ⟨some 25, .p (.build [.int .i64 0, .int .i64 0, .pointer none, .pointer none, .int .i64 0, .int .i64 0, .slice none 0 0] [(0, 1, .tmp 20), (1, 1, .tmp 21), (2, 1, .tmp 22), (3, 1, .tmp 23), (4, 3, .tmp 24)]), none, none⟩, [20, 21, 22, 23, 24], 0⟩,
  ⟨6, ⟨some 26, .a (.box 90 (.tmp 25)), none, none⟩, [25], 0⟩,
  ⟨7, ⟨some 4, .p (.mv (.tmp 26)), none, none⟩, [26], 0⟩,
  ⟨8, ⟨some 5, .p (.mv (.const (.int .i64 0))), none, none⟩, [], 0⟩])
  (.ret)))))
noncomputable def e_stripe_New (k : Nat) (D : CallF) : Ent := entOf 20 [(0, .i .i64), (1, .i .i64)] [(4, .p), (5, .i .i64)] (stripe_New k D)
theorem q_stripe_New : (Tryz.f20.body).bind (rcodeOf Tryz.prog 2 Tryz.f20.ntmps) = some (strip r_stripe_New) := by kernel_rfl
theorem t_stripe_New (k : Nat) (D : CallF) : curF [(0, .i .i64), (1, .i .i64)] (fun args h => denF (C_stripe_New k D) k r_stripe_New [(4, .p), (5, .i .i64)] [none, none] args h) = stripe_New k D := by kernel_rfl
theorem ok_stripe_New {D : CallF} (hD : CSound Tryz.prog 2 D) (k : Nat) : EntOk Tryz.prog 2 (e_stripe_New k D) :=
  entOf_ok2 (mkC_sound hD (EntsOk.more (ok_matrix_New hD k) (EntsOk.more (ok_matrix_Space_Cauchy hD k) (EntsOk.more (ok_field_New hD k) (EntsOk.none))))) Tryz.func20 rfl q_stripe_New rfl (t_stripe_New k D)
end Gz
namespace Gz
open Go Gx Go.Proofs
set_option maxRecDepth 100000
noncomputable def C_stripe_Plan_Each (_k : Nat) (D : CallF) : CallF := mkC D []
noncomputable def stripe_Plan_Each (_k : Nat) (_D : CallF) (p_0 : Option Addr) (long_1 : Int) (h : AHeap) : Option ((Int × Int) × AHeap) :=
  joinK (fun (p1 : Option Addr) (long2 : Int) (y3 : Bool) (h4 : AHeap) =>
  (if y3 = true then
  some ((0, 1), h4)
  else
  (p1).bind fun p6 =>
  (ldI .i64 (⟨p6.block, p6.off + 0, none⟩ : Addr) h4).bind fun x7 =>
  (p1).bind fun p8 =>
  (ldI .i64 (⟨p8.block, p8.off + 0, none⟩ : Addr) h4).bind fun x9 =>
  (if x9 = 0 then none else
  let t10 : Int := (IntKind.wrap .i64 (Int.tdiv (IntKind.wrap .i64 ((IntKind.wrap .i64 (long2 + x7)) - 1)) x9))
  some ((t10, 0), h4)))) fun j5 =>
  (if (decide (long_1 < 0)) = true then
  j5 p_0 long_1 true h
  else
  j5 p_0 long_1 (decide (long_1 > 65536)) h)
def r_stripe_Plan_Each : RCode := .seq (.region [⟨some 4, .p (.mv (.const (.int .i64 0))), none, none⟩,
  ⟨some 5, .p (.mv (.const (.int .i64 0))), none, none⟩])
  (.seq (.seq (.join [(0, .p), (1, .i .i64), (11, .b)] (.region [⟨some 6, .p (.mv (.tmp 1)), none, none⟩,
  ⟨some 7, .p (.bin .lss (.tmp 6) (.const (.int .i64 0))), none, none⟩,
  ⟨some 8, .p (.mv (.tmp 7)), none, none⟩,
  ⟨some 9, .p (.mv (.tmp 1)), (some (8, false)), none⟩,
  ⟨some 10, .p (.bin .gtr (.tmp 9) (.const (.int .i64 65536))), (some (8, false)), none⟩,
  ⟨some 11, .p (.pick (.tmp 8) (.const (.bool true)) (.tmp 10)), none, none⟩]))
  (.cond (.tmp 11) (.seq (.region [⟨some 4, .p (.mv (.const (.int .i64 0))), none, none⟩,
  ⟨some 5, .p (.mv (.const (.int .i64 1))), none, none⟩])
  (.ret)) (.skip)))
  (.seq (.draw [⟨0, ⟨some 12, .p (.mv (.tmp 1)), none, none⟩, [1], 0⟩,
  ⟨1, ⟨some 13, .p (.mv (.tmp 0)), none, none⟩, [0], 0⟩,
  ⟨2, ⟨some 14, .p (.nilP (.tmp 13)), none, none⟩, [13], 0⟩,
  ⟨3, ⟨some 15, .p (.fieldAddr 0 (.tmp 14)), none, none⟩, [14], 0⟩,
  ⟨4, ⟨some 16, .l (.load (.i .i64) (.tmp 15)), none, none⟩, [15], 0⟩,
  ⟨5, ⟨some 17, .p (.bin .add (.tmp 12) (.tmp 16)), none, none⟩, [12, 16], 0⟩,
  ⟨6, ⟨some 18, .p (.bin .sub (.tmp 17) (.const (.int .i64 1))), none, none⟩, [17], 0⟩,
  ⟨7, ⟨some 19, .p (.mv (.tmp 0)), none, none⟩, [0], 0⟩,
  ⟨8, ⟨some 20, .p (.nilP (.tmp 19)), none, none⟩, [19], 0⟩,
  ⟨9, ⟨some 21, .p (.fieldAddr 0 (.tmp 20)), none, none⟩, [20], 0⟩,
  ⟨10, ⟨some 22, .l (.load (.i .i64) (.tmp 21)), none, none⟩, [21], 0⟩,
  ⟨11, ⟨some 23, .p (.bin .quo (.tmp 18) (.tmp 22)), none, none⟩, [18, 22], 0⟩,
  ⟨12, ⟨some 4, .p (.mv (.tmp 23)), none, none⟩, [23], 0⟩,
  ⟨13, ⟨some 5, .p (.mv (.const (.int .i64 0))), none, none⟩, [], 0⟩])
  (.ret)))
noncomputable def e_stripe_Plan_Each (k : Nat) (D : CallF) : Ent := entOf 42 [(0, .p), (1, .i .i64)] [(4, .i .i64), (5, .i .i64)] (stripe_Plan_Each k D)
theorem q_stripe_Plan_Each : (Tryz.f42.body).bind (rcodeOf Tryz.prog 2 Tryz.f42.ntmps) = some (strip r_stripe_Plan_Each) := by kernel_rfl
theorem t_stripe_Plan_Each (k : Nat) (D : CallF) : curF [(0, .p), (1, .i .i64)] (fun args h => denF (C_stripe_Plan_Each k D) k r_stripe_Plan_Each [(4, .i .i64), (5, .i .i64)] [none, none] args h) = stripe_Plan_Each k D := by kernel_rfl
theorem ok_stripe_Plan_Each {D : CallF} (hD : CSound Tryz.prog 2 D) (k : Nat) : EntOk Tryz.prog 2 (e_stripe_Plan_Each k D) :=
  entOf_ok2 (mkC_sound hD (EntsOk.none)) Tryz.func42 rfl q_stripe_Plan_Each rfl (t_stripe_Plan_Each k D)
end Gz
namespace Gz
open Go Gx Go.Proofs
set_option maxRecDepth 100000
end Gz
namespace Gz
open Go Gx Go.Proofs
set_option maxRecDepth 100000
end Gz
namespace Gz
open Go Gx Go.Proofs
set_option maxRecDepth 100000
end Gz
namespace Gz
open Go Gx Go.Proofs
set_option maxRecDepth 100000
end Gz
namespace Gz
open Go Gx Go.Proofs
set_option maxRecDepth 100000
end Gz
namespace Gz
open Go Gx Go.Proofs
set_option maxRecDepth 100000
end Gz
namespace Gz
open Go Gx Go.Proofs
set_option maxRecDepth 100000
end Gz
namespace Gz
open Go Gx Go.Proofs
set_option maxRecDepth 100000
end Gz
namespace Gz
open Go Gx Go.Proofs
set_option maxRecDepth 100000
end Gz
namespace Gz
open Go Gx Go.Proofs
set_option maxRecDepth 100000
end Gz
namespace Go.Proofs
open Go.Shelf
def Tryz.lays105_ren : Go.Shelf.Ren := ⟨fun | 105 => 43 | 212 => 69 | 99 => 70 | 165 => 71 | 166 => 72 | 170 => 73 | 169 => 74 | 263 => 102 | 264 => 103 | 206 => 104 | 240 => 105 | 241 => 106 | 276 => 115 | 277 => 116 | n => n, fun | 9 => 9 | 3 => 3 | 4 => 4 | 20 => 20 | 0 => 0 | 46 => 79 | 109 => 144 | 5 => 5 | 72 => 149 | 76 => 153 | 51 => 77 | 146 => 174 | 53 => 121 | 148 => 176 | 70 => 147 | 37 => 78 | 75 => 152 | 127 => 178 | 164 => 184 | 80 => 76 | n => n, fun | n => n⟩
theorem Tryz.lays105 : Go.Proofs.Lays.n105 Tryz.prog Tryz.lays105_ren := {
  mixed := by kernel_rfl
  f99 := Tryz.func70.trans (congrArg some (by kernel_rfl))
  f105 := Tryz.func43.trans (congrArg some (by kernel_rfl))
  f165 := Tryz.func71.trans (congrArg some (by kernel_rfl))
  f166 := Tryz.func72.trans (congrArg some (by kernel_rfl))
  f169 := Tryz.func74.trans (congrArg some (by kernel_rfl))
  f170 := Tryz.func73.trans (congrArg some (by kernel_rfl))
  f206 := Tryz.func104.trans (congrArg some (by kernel_rfl))
  f212 := Tryz.func69.trans (congrArg some (by kernel_rfl))
  f240 := Tryz.func105.trans (congrArg some (by kernel_rfl))
  f241 := Tryz.func106.trans (congrArg some (by kernel_rfl))
  f263 := Tryz.func102.trans (congrArg some (by kernel_rfl))
  f264 := Tryz.func103.trans (congrArg some (by kernel_rfl))
  f276 := Tryz.func115.trans (congrArg some (by kernel_rfl))
  f277 := Tryz.func116.trans (congrArg some (by kernel_rfl))
  t0 := Tryz.underlying0
  a0 := Tryz.isAgg0
  z0 := Tryz.sizeOf0
  v0 := Tryz.zeroValue0
  t3 := Tryz.underlying3
  a3 := Tryz.isAgg3
  z3 := Tryz.sizeOf3
  v3 := Tryz.zeroValue3
  t4 := Tryz.underlying4
  a4 := Tryz.isAgg4
  z4 := Tryz.sizeOf4
  v4 := Tryz.zeroValue4
  t5 := Tryz.underlying5
  a5 := Tryz.isAgg5
  z5 := Tryz.sizeOf5
  v5 := Tryz.zeroValue5
  t9 := Tryz.underlying9
  a9 := Tryz.isAgg9
  z9 := Tryz.sizeOf9
  v9 := Tryz.zeroValue9
  t20 := Tryz.underlying20
  a20 := Tryz.isAgg20
  z20 := Tryz.sizeOf20
  v20 := Tryz.zeroValue20
  t37 := Tryz.underlying78
  a37 := Tryz.isAgg78
  z37 := Tryz.sizeOf78
  v37 := Tryz.zeroValue78
  t46 := Tryz.underlying79
  a46 := Tryz.isAgg79
  z46 := Tryz.sizeOf79
  v46 := Tryz.zeroValue79
  t51 := Tryz.underlying77
  a51 := Tryz.isAgg77
  z51 := Tryz.sizeOf77
  v51 := Tryz.zeroValue77
  t53 := Tryz.underlying121
  a53 := Tryz.isAgg121
  z53 := Tryz.sizeOf121
  v53 := Tryz.zeroValue121
  t70 := Tryz.underlying147
  a70 := Tryz.isAgg147
  z70 := Tryz.sizeOf147
  v70 := Tryz.zeroValue147
  t72 := Tryz.underlying149
  a72 := Tryz.isAgg149
  z72 := Tryz.sizeOf149
  v72 := Tryz.zeroValue149
  t75 := Tryz.underlying152
  a75 := Tryz.isAgg152
  z75 := Tryz.sizeOf152
  v75 := Tryz.zeroValue152
  t76 := Tryz.underlying153
  a76 := Tryz.isAgg153
  z76 := Tryz.sizeOf153
  v76 := Tryz.zeroValue153
  t109 := Tryz.underlying144
  a109 := Tryz.isAgg144
  z109 := Tryz.sizeOf144
  v109 := Tryz.zeroValue144
  t127 := Tryz.underlying178
  a127 := Tryz.isAgg178
  z127 := Tryz.sizeOf178
  v127 := Tryz.zeroValue178
  t146 := Tryz.underlying174
  a146 := Tryz.isAgg174
  z146 := Tryz.sizeOf174
  v146 := Tryz.zeroValue174
  t148 := Tryz.underlying176
  a148 := Tryz.isAgg176
  z148 := Tryz.sizeOf176
  v148 := Tryz.zeroValue176
  t164 := Tryz.underlying184
  a164 := Tryz.isAgg184
  z164 := Tryz.sizeOf184
  v164 := Tryz.zeroValue184 }
theorem Tryz.Builder_Extra_105 : Builder.Extra Tryz.prog Tryz.lays105_ren := {
  sizeBuilder := by kernel_rfl
  liesBuilder := by kernel_rfl
  t5 := Tryz.underlying5
  a5 := Tryz.isAgg5
  z5 := Tryz.sizeOf5
  v5 := Tryz.zeroValue5
  infoByte := by kernel_rfl
  cellsByte := by kernel_rfl
  sizeByte := by kernel_rfl
  neB5 := by decide }
end Go.Proofs
namespace Gz
open Go Gx Go.Proofs Go.Shelf
noncomputable def e_strings_Repeat (_k : Nat) (_D : CallF) : Ent := eRepeat 43
theorem ok_strings_Repeat {D : CallF} (_hD : CSound Tryz.prog 2 D) (k : Nat) : EntOk Tryz.prog 2 (e_strings_Repeat k D) :=
  repeat_ok (c := _) Tryz.func43 rfl rfl (fun s n w h1 h2 => Any.strings_Repeat Tryz.lays105 Tryz.Builder_Extra_105 s n w h1 h2)
end Gz
namespace Gz
open Go Gx Go.Proofs
set_option maxRecDepth 100000
noncomputable def C_stripe_Plan_row (_k : Nat) (D : CallF) : CallF := mkC D []
noncomputable def stripe_Plan_row (_k : Nat) (_D : CallF) (p_0 : Option Addr) (a_1 : Int × Int × Slc) (i_2 : Int) (h : AHeap) : Option ((Slc) × AHeap) :=
  let h1 := AHeap.new h (.cells [.int .i64 a_1.1, .int .i64 a_1.2.1, .slice a_1.2.2.a a_1.2.2.len a_1.2.2.cap] 84 true 0)
  (ldL (⟨h.next, 2, none⟩ : Addr) h1).bind fun x2 =>
  (p_0).bind fun p3 =>
  (ldI .i64 (⟨p3.block, p3.off + 0, none⟩ : Addr) h1).bind fun x4 =>
  (p_0).bind fun p5 =>
  (ldI .i64 (⟨p5.block, p5.off + 0, none⟩ : Addr) h1).bind fun x6 =>
  (Gx.subL 1 x2 (some (IntKind.wrap .i64 (i_2 * x4))) (some (IntKind.wrap .i64 ((IntKind.wrap .i64 (i_2 + 1)) * x6))) none).bind fun l7 =>
  some (l7, h1)
def r_stripe_Plan_row : RCode := .seq (.region [⟨some 4, .a (.box 84 (.tmp 1)), none, none⟩,
  ⟨some 6, .p (.mv (.const (.slice none 0 0))), none, none⟩])
  (.seq (.draw [⟨0, ⟨some 7, .p (.fieldAddr 2 (.tmp 4)), none, none⟩, [4], 0⟩,
  ⟨1, ⟨some 8, .l (.load (.l) (.tmp 7)), none, none⟩, [7], 0⟩,
  ⟨2, ⟨some 9, .p (.mv (.tmp 2)), none, none⟩, [2], 0⟩,
  ⟨3, ⟨some 10, .p (.mv (.tmp 0)), none, none⟩, [0], 0⟩,
  ⟨4, ⟨some 11, .p (.nilP (.tmp 10)), none, none⟩, [10], 0⟩,
  ⟨5, ⟨some 12, .p (.fieldAddr 0 (.tmp 11)), none, none⟩, [11], 0⟩,
  ⟨6, ⟨some 13, .l (.load (.i .i64) (.tmp 12)), none, none⟩, [12], 0⟩,
  ⟨7, ⟨some 14, .p (.bin .mul (.tmp 9) (.tmp 13)), none, none⟩, [9, 13], 0⟩,
  ⟨8, ⟨some 15, .p (.mv (.tmp 2)), none, none⟩, [2], 0⟩,
  ⟨9, ⟨some 16, .p (.bin .add (.tmp 15) (.const (.int .i64 1))), none, none⟩, [15], 0⟩,
  ⟨10, ⟨some 17, .p (.mv (.tmp 0)), none, none⟩, [0], 0⟩,
  ⟨11, ⟨some 18, .p (.nilP (.tmp 17)), none, none⟩, [17], 0⟩,
  ⟨12, ⟨some 19, .p (.fieldAddr 0 (.tmp 18)), none, none⟩, [18], 0⟩,
  ⟨13, ⟨some 20, .l (.load (.i .i64) (.tmp 19)), none, none⟩, [19], 0⟩,
  ⟨14, ⟨some 21, .p (.bin .mul (.tmp 16) (.tmp 20)), none, none⟩, [16, 20], 0⟩,
  ⟨15, ⟨some 22, .p (.subL 1 (.tmp 8) (some (.tmp 14)) (some (.tmp 21)) none), none, none⟩, [8, 14, 21], 0⟩,
  ⟨16, ⟨some 6, .p (.mv (.tmp 22)), none, none⟩, [22], 0⟩])
  (.ret))
noncomputable def e_stripe_Plan_row (k : Nat) (D : CallF) : Ent := entOf 45 [(0, .p), (1, .st [.i .i64, .i .i64, .l]), (2, .i .i64)] [(6, .l)] (stripe_Plan_row k D)
theorem q_stripe_Plan_row : (Tryz.f45.body).bind (rcodeOf Tryz.prog 2 Tryz.f45.ntmps) = some (strip r_stripe_Plan_row) := by kernel_rfl
theorem t_stripe_Plan_row (k : Nat) (D : CallF) : curF [(0, .p), (1, .st [.i .i64, .i .i64, .l]), (2, .i .i64)] (fun args h => denF (C_stripe_Plan_row k D) k r_stripe_Plan_row [(6, .l)] [none] args h) = stripe_Plan_row k D := by kernel_rfl
theorem ok_stripe_Plan_row {D : CallF} (hD : CSound Tryz.prog 2 D) (k : Nat) : EntOk Tryz.prog 2 (e_stripe_Plan_row k D) :=
  entOf_ok2 (mkC_sound hD (EntsOk.none)) Tryz.func45 rfl q_stripe_Plan_row rfl (t_stripe_Plan_row k D)
end Gz
namespace Gz
open Go Gx Go.Proofs
set_option maxRecDepth 100000
noncomputable def C_field_tables_times (_k : Nat) (D : CallF) : CallF := mkC D []
noncomputable def field_tables_times (_k : Nat) (_D : CallF) (t_0 : Option Addr) (a_1 : Int) (b_2 : Int) (h : AHeap) : Option ((Int) × AHeap) :=
  joinK (fun (t1 : Option Addr) (a2 : Int) (b3 : Int) (y4 : Bool) (h5 : AHeap) =>
  (if y4 = true then
  some (0, h5)
  else
  (t1).bind fun p7 =>
  (Gx.idxA 256 1 (⟨p7.block, p7.off + 510, none⟩ : Addr) a2).bind fun q8 =>
  (ldI .i64 q8 h5).bind fun x9 =>
  (t1).bind fun p10 =>
  (Gx.idxA 256 1 (⟨p10.block, p10.off + 510, none⟩ : Addr) b3).bind fun q11 =>
  (ldI .i64 q11 h5).bind fun x12 =>
  (t1).bind fun p13 =>
  (Gx.idxA 510 1 (⟨p13.block, p13.off + 0, none⟩ : Addr) (IntKind.wrap .i64 (x9 + x12))).bind fun q14 =>
  (ldI .u8 q14 h5).bind fun x15 =>
  some ((IntKind.wrap .i64 x15), h5))) fun j6 =>
  (if (a_1 == 0) = true then
  j6 t_0 a_1 b_2 true h
  else
  j6 t_0 a_1 b_2 (b_2 == 0) h)
def r_field_tables_times : RCode := .seq (.region [⟨some 6, .p (.mv (.const (.int .i64 0))), none, none⟩])
  (.seq (.seq (.join [(0, .p), (1, .i .i64), (2, .i .i64), (12, .b)] (.region [⟨some 7, .p (.mv (.tmp 1)), none, none⟩,
  ⟨some 8, .p (.bin .eql (.tmp 7) (.const (.int .i64 0))), none, none⟩,
  ⟨some 9, .p (.mv (.tmp 8)), none, none⟩,
  ⟨some 10, .p (.mv (.tmp 2)), (some (9, false)), none⟩,
  ⟨some 11, .p (.bin .eql (.tmp 10) (.const (.int .i64 0))), (some (9, false)), none⟩,
  ⟨some 12, .p (.pick (.tmp 9) (.const (.bool true)) (.tmp 11)), none, none⟩]))
  (.cond (.tmp 12) (.seq (.region [⟨some 6, .p (.mv (.const (.int .i64 0))), none, none⟩])
  (.ret)) (.skip)))
  (.seq (.draw [⟨0, ⟨some 13, .p (.mv (.tmp 0)), none, none⟩, [0], 0⟩,
  ⟨1, ⟨some 14, .p (.mv (.tmp 0)), none, none⟩, [0], 0⟩,
  ⟨2, ⟨some 15, .p (.mv (.tmp 1)), none, none⟩, [1], 0⟩,
  ⟨3, ⟨some 16, .p (.nilP (.tmp 14)), none, none⟩, [14], 0⟩,
  ⟨4, ⟨some 17, .p (.fieldAddr 510 (.tmp 16)), none, none⟩, [16], 0⟩,
  ⟨5, ⟨some 18, .p (.idxA 256 1 (.tmp 17) (.tmp 15)), none, none⟩, [17, 15], 0⟩,
  ⟨6, ⟨some 19, .l (.load (.i .i64) (.tmp 18)), none, none⟩, [18], 0⟩,
  ⟨7, ⟨some 20, .p (.mv (.tmp 0)), none, none⟩, [0], 0⟩,
  ⟨8, ⟨some 21, .p (.mv (.tmp 2)), none, none⟩, [2], 0⟩,
  ⟨9, ⟨some 22, .p (.nilP (.tmp 20)), none, none⟩, [20], 0⟩,
  ⟨10, ⟨some 23, .p (.fieldAddr 510 (.tmp 22)), none, none⟩, [22], 0⟩,
  ⟨11, ⟨some 24, .p (.idxA 256 1 (.tmp 23) (.tmp 21)), none, none⟩, [23, 21], 0⟩,
  ⟨12, ⟨some 25, .l (.load (.i .i64) (.tmp 24)), none, none⟩, [24], 0⟩,
  ⟨13, ⟨some 26, .p (.bin .add (.tmp 19) (.tmp 25)), none, none⟩, [19, 25], 0⟩,
  ⟨14, ⟨some 27, .p (.nilP (.tmp 13)), none, none⟩, [13], 0⟩,
  ⟨15, ⟨some 28, .p (.fieldAddr 0 (.tmp 27)), none, none⟩, [27], 0⟩,
  ⟨16, ⟨some 29, .p (.idxA 510 1 (.tmp 28) (.tmp 26)), none, none⟩, [28, 26], 0⟩,
  ⟨17, ⟨some 30, .l (.load (.i .u8) (.tmp 29)), none, none⟩, [29], 0⟩,
  ⟨18, ⟨some 31, .p (.convI .i64 (.tmp 30)), none, none⟩, [30], 0⟩,
  ⟨19, ⟨some 6, .p (.mv (.tmp 31)), none, none⟩, [31], 0⟩])
  (.ret)))
noncomputable def e_field_tables_times (k : Nat) (D : CallF) : Ent := entOf 77 [(0, .p), (1, .i .i64), (2, .i .i64)] [(6, .i .i64)] (field_tables_times k D)
theorem q_field_tables_times : (Tryz.f77.body).bind (rcodeOf Tryz.prog 2 Tryz.f77.ntmps) = some (strip r_field_tables_times) := by kernel_rfl
theorem t_field_tables_times (k : Nat) (D : CallF) : curF [(0, .p), (1, .i .i64), (2, .i .i64)] (fun args h => denF (C_field_tables_times k D) k r_field_tables_times [(6, .i .i64)] [none] args h) = field_tables_times k D := by kernel_rfl
theorem ok_field_tables_times {D : CallF} (hD : CSound Tryz.prog 2 D) (k : Nat) : EntOk Tryz.prog 2 (e_field_tables_times k D) :=
  entOf_ok2 (mkC_sound hD (EntsOk.none)) Tryz.func77 rfl q_field_tables_times rfl (t_field_tables_times k D)
end Gz
namespace Gz
open Go Gx Go.Proofs
set_option maxRecDepth 100000
noncomputable def C_field_Field_Mix (k : Nat) (D : CallF) : CallF := mkC D [e_field_is k D, e_field_Field_tables k D, e_field_tables_times k D]
noncomputable def field_Field_Mix_l2b (_k : Nat) (_D : CallF) (j6 : (Option Addr) → Slc → Slc → Int → AHeap → Option ((ByteArray × Int) × AHeap)) (rec69 : (Option Addr) → Slc → Slc → Int → Slc → Int → Int → AHeap → Option ((ByteArray × Int) × AHeap)) (f61 : Option Addr) (l62 : Slc) (c63 : Slc) (long64 : Int) (y65 : Slc) (y66 : Int) (y67 : Int) (h68 : AHeap) : Option ((ByteArray × Int) × AHeap) :=
  (if (decide (y67 < y66)) = true then
  joinK (fun (f70 : Option Addr) (l71 : Slc) (c72 : Slc) (long73 : Int) (y74 : Slc) (y75 : Int) (y76 : Int) (h77 : AHeap) =>
  rec69 f70 l71 c72 long73 y74 y75 (IntKind.wrap .i64 (y76 + 1)) h77) fun j78 =>
  (Gx.idxL 1 y65 y67).bind fun q79 =>
  (ldS q79 h68).bind fun x80 =>
  (if (y67 == 0) = true then
  j78 f61 l62 c63 (x80.size : Int) y65 y66 y67 h68
  else
  (if ((x80.size : Int) != long64) = true then
  j6 f61 l62 c63 (-1) h68
  else
  j78 f61 l62 c63 long64 y65 y66 y67 h68))
  else
  j6 f61 l62 c63 long64 h68)
noncomputable def field_Field_Mix_l2 (k : Nat) (D : CallF) (j6 : (Option Addr) → Slc → Slc → Int → AHeap → Option ((ByteArray × Int) × AHeap)) : (Option Addr) → Slc → Slc → Int → Slc → Int → Int → AHeap → Option ((ByteArray × Int) × AHeap) :=
  iterK (α := (Option Addr) → Slc → Slc → Int → Slc → Int → Int → AHeap → Option ((ByteArray × Int) × AHeap)) (fun _ _ _ _ _ _ _ _ => none) k (field_Field_Mix_l2b k D j6)
noncomputable def field_Field_Mix_l1b (k : Nat) (D : CallF) (j36 : Slc → Slc → (Option Addr) → Slc → Int → Int → AHeap → Option ((ByteArray × Int) × AHeap)) (rec50 : Slc → Slc → (Option Addr) → Int → ByteArray → Slc → Int → Int → Int → Int → AHeap → Option ((ByteArray × Int) × AHeap)) (c39 : Slc) (out40 : Slc) (t41 : Option Addr) (i42 : Int) (s43 : ByteArray) (y44 : Slc) (y45 : Int) (y46 : Int) (y47 : Int) (y48 : Int) (h49 : AHeap) : Option ((ByteArray × Int) × AHeap) :=
  (if (decide (y48 < y47)) = true then
  (Gx.idxS s43 y48).bind fun b51 =>
  (Gx.idxL 1 c39 i42).bind fun q52 =>
  (ldI .i64 q52 h49).bind fun x53 =>
  (field_tables_times k D t41 (IntKind.wrap .i64 b51) x53 h49).bind fun r54 =>
  (Gx.idxL 1 out40 y48).bind fun q55 =>
  (ldI .u8 q55 r54.2).bind fun x56 =>
  guardP (SameW [h49] (fun H58 => (ldI .u8 q55 H58).bind fun y57 => some (.int .u8 y57)) (.int .u8 x56)) (
  (Gx.idxL 1 out40 y48).bind fun q59 =>
  (st1 q59 (.int .u8 (Go.bits .xor .u8 x56 (IntKind.wrap .u8 r54.1))) r54.2).bind fun h60 =>
  rec50 c39 out40 t41 i42 s43 y44 y45 y46 y47 (IntKind.wrap .i64 (y48 + 1)) h60)
  else
  j36 c39 out40 t41 y44 y45 y46 h49)
noncomputable def field_Field_Mix_l1 (k : Nat) (D : CallF) (j36 : Slc → Slc → (Option Addr) → Slc → Int → Int → AHeap → Option ((ByteArray × Int) × AHeap)) : Slc → Slc → (Option Addr) → Int → ByteArray → Slc → Int → Int → Int → Int → AHeap → Option ((ByteArray × Int) × AHeap) :=
  iterK (α := Slc → Slc → (Option Addr) → Int → ByteArray → Slc → Int → Int → Int → Int → AHeap → Option ((ByteArray × Int) × AHeap)) (fun _ _ _ _ _ _ _ _ _ _ _ => none) k (field_Field_Mix_l1b k D j36)
noncomputable def field_Field_Mix_l0b (k : Nat) (D : CallF) (j19 : Slc → AHeap → Option ((ByteArray × Int) × AHeap)) (rec28 : Slc → Slc → (Option Addr) → Slc → Int → Int → AHeap → Option ((ByteArray × Int) × AHeap)) (c21 : Slc) (out22 : Slc) (t23 : Option Addr) (y24 : Slc) (y25 : Int) (y26 : Int) (h27 : AHeap) : Option ((ByteArray × Int) × AHeap) :=
  (if (decide (y26 < y25)) = true then
  joinK (fun (c29 : Slc) (out30 : Slc) (t31 : Option Addr) (y32 : Slc) (y33 : Int) (y34 : Int) (h35 : AHeap) =>
  rec28 c29 out30 t31 y32 y33 (IntKind.wrap .i64 (y34 + 1)) h35) fun j36 =>
  (Gx.idxL 1 y24 y26).bind fun q37 =>
  (ldS q37 h27).bind fun x38 =>
  field_Field_Mix_l1 k D j36 c21 out22 t23 y26 x38 y24 y25 y26 (out22.len : Int) 0 h27
  else
  j19 out22 h27)
noncomputable def field_Field_Mix_l0 (k : Nat) (D : CallF) (j19 : Slc → AHeap → Option ((ByteArray × Int) × AHeap)) : Slc → Slc → (Option Addr) → Slc → Int → Int → AHeap → Option ((ByteArray × Int) × AHeap) :=
  iterK (α := Slc → Slc → (Option Addr) → Slc → Int → Int → AHeap → Option ((ByteArray × Int) × AHeap)) (fun _ _ _ _ _ _ _ => none) k (field_Field_Mix_l0b k D j19)
noncomputable def field_Field_Mix (k : Nat) (D : CallF) (f_0 : Option Addr) (l_1 : Slc) (c_2 : Slc) (h : AHeap) : Option ((ByteArray × Int) × AHeap) :=
  (if ((l_1.len : Int) != (c_2.len : Int)) = true then
  some (((⟨#[]⟩ : ByteArray), 4), h)
  else
  joinK (fun (f1 : Option Addr) (l2 : Slc) (c3 : Slc) (long4 : Int) (h5 : AHeap) =>
  joinK (fun (f7 : Option Addr) (l8 : Slc) (c9 : Slc) (long10 : Int) (y11 : Bool) (h12 : AHeap) =>
  (if y11 = true then
  some (((⟨#[]⟩ : ByteArray), 4), h12)
  else
  (field_is k D c9 h12).bind fun r14 =>
  (if (!r14.1) = true then
  some (((⟨#[]⟩ : ByteArray), 1), r14.2)
  else
  (if 0 ≤ (if long10 > 0 then long10 else 0) ∧ (if long10 > 0 then long10 else 0) ≤ (if long10 > 0 then long10 else 0) ∧ (if long10 > 0 then long10 else 0) ≤ 281474976710656 ∧ 1 * (if long10 > 0 then long10 else 0) ≤ 281474976710656 then
  let h15 := AHeap.new r14.2 (.cells (zerosL ((if long10 > 0 then long10 else 0)).toNat [.int .u8 0]) 5 true 0)
  (field_Field_tables k D f7 h15).bind fun r16 =>
  joinK (fun (out17 : Slc) (h18 : AHeap) =>
  (bytesOf h18 out17).bind fun s20 =>
  some ((s20, 0), h18)) fun j19 =>
  field_Field_Mix_l0 k D j19 c9 (⟨(some ⟨r14.2.next, 0, some 0⟩), ((if long10 > 0 then long10 else 0)).toNat, ((if long10 > 0 then long10 else 0)).toNat⟩ : Slc) r16.1 l8 (l8.len : Int) 0 r16.2
  else none)))) fun j13 =>
  (if (decide ((l2.len : Int) > 0)) = true then
  j13 f1 l2 c3 long4 (decide (long4 < 0)) h5
  else
  j13 f1 l2 c3 long4 false h5)) fun j6 =>
  field_Field_Mix_l2 k D j6 f_0 l_1 c_2 (-1) l_1 (l_1.len : Int) 0 h)
def r_field_Field_Mix : RCode := .seq (.region [⟨some 6, .p (.mv (.const (.string ⟨#[]⟩))), none, none⟩,
  ⟨some 7, .p (.mv (.const (.int .i64 0))), none, none⟩])
  (.scope (.seq (.seq (.region [⟨some 16, .p (.mv (.tmp 1)), none, none⟩,
  ⟨some 17, .p (.lenL (.tmp 16)), none, none⟩,
  ⟨some 18, .p (.mv (.tmp 2)), none, none⟩,
  ⟨some 19, .p (.lenL (.tmp 18)), none, none⟩,
  ⟨some 20, .p (.bin .neq (.tmp 17) (.tmp 19)), none, none⟩])
  (.cond (.tmp 20) (.seq (.region [⟨some 6, .p (.mv (.const (.string ⟨#[]⟩))), none, none⟩,
  ⟨some 7, .p (.mv (.const (.int .i64 4))), none, none⟩])
  (.ret)) (.skip)))
  (.seq (.region [⟨some 8, .p (.mv (.const (.int .i64 (-1)))), none, none⟩])
  (.seq (.skip)
  (.seq (.join [(0, .p), (1, .l), (2, .l), (8, .i .i64)] (.seq (.region [⟨some 21, .p (.mv (.tmp 1)), none, none⟩,
  ⟨some 22, .p (.lenL (.tmp 21)), none, none⟩,
  ⟨some 23, .p (.mv (.const (.int .i64 0))), none, none⟩])
  (.block 0 (.loop [(0, .p), (1, .l), (2, .l), (8, .i .i64), (21, .l), (22, .i .i64), (23, .i .i64)] (.seq (.region [⟨some 24, .p (.bin .lss (.tmp 23) (.tmp 22)), none, none⟩])
  (.seq (.cond (.tmp 24) (.skip) (.exit 0))
  (.seq (.join [(0, .p), (1, .l), (2, .l), (8, .i .i64), (21, .l), (22, .i .i64), (23, .i .i64)] (.block 1 (.seq (.region [⟨some 25, .p (.mv (.tmp 23)), none, none⟩,
  ⟨some 26, .p (.idxL 1 (.tmp 21) (.tmp 23)), none, none⟩,
  ⟨some 27, .l (.load (.s) (.tmp 26)), none, none⟩,
  ⟨some 9, .p (.mv (.tmp 25)), none, none⟩,
  ⟨some 10, .p (.mv (.tmp 27)), none, none⟩])
  (.block 2 (.seq (.region [⟨some 29, .p (.mv (.tmp 9)), none, none⟩,
  ⟨some 30, .p (.bin .eql (.tmp 29) (.const (.int .i64 0))), none, none⟩,
  ⟨some 28, .p (.mv (.tmp 30)), none, none⟩])
  (.cond (.tmp 28) (.region [⟨some 31, .p (.mv (.tmp 10)), none, none⟩,
  ⟨some 32, .p (.lenS (.tmp 31)), none, none⟩,
  ⟨some 8, .p (.mv (.tmp 32)), none, none⟩]) (.seq (.region [⟨some 34, .p (.mv (.tmp 10)), none, none⟩,
  ⟨some 35, .p (.lenS (.tmp 34)), none, none⟩,
  ⟨some 36, .p (.mv (.tmp 8)), none, none⟩,
  ⟨some 37, .p (.bin .neq (.tmp 35) (.tmp 36)), none, none⟩,
  ⟨some 33, .p (.mv (.tmp 37)), none, none⟩])
  (.cond (.tmp 33) (.seq (.region [⟨some 8, .p (.mv (.const (.int .i64 (-1)))), none, none⟩])
  (.exit 0)) (.skip)))))))))
  (.region [⟨some 38, .p (.bin .add (.tmp 23) (.const (.int .i64 1))), none, none⟩,
  ⟨some 23, .p (.mv (.tmp 38)), none, none⟩]))))))))
  (.seq (.block 3 (.seq (.join [(0, .p), (1, .l), (2, .l), (8, .i .i64), (39, .b)] (.region [⟨some 40, .p (.mv (.tmp 1)), none, none⟩,
  ⟨some 41, .p (.lenL (.tmp 40)), none, none⟩,
  ⟨some 42, .p (.bin .gtr (.tmp 41) (.const (.int .i64 0))), none, none⟩,
  ⟨some 43, .p (.mv (.tmp 42)), none, none⟩,
  ⟨some 44, .p (.mv (.tmp 8)), (some (43, true)), none⟩,
  ⟨some 45, .p (.bin .lss (.tmp 44) (.const (.int .i64 0))), (some (43, true)), none⟩,
  ⟨some 46, .p (.pick (.tmp 43) (.tmp 45) (.const (.bool false))), none, none⟩,
  ⟨some 39, .p (.mv (.tmp 46)), none, none⟩]))
  (.cond (.tmp 39) (.seq (.region [⟨some 6, .p (.mv (.const (.string ⟨#[]⟩))), none, none⟩,
  ⟨some 7, .p (.mv (.const (.int .i64 4))), none, none⟩])
  (.ret)) (.seq (.region [⟨some 48, .p (.mv (.tmp 2)), none, none⟩,
  ⟨some 49, .e (.call (.func 75) [.tmp 48]), none, none⟩,
  ⟨some 50, .p (.un .not (.tmp 49)), none, none⟩,
  ⟨some 47, .p (.mv (.tmp 50)), none, none⟩])
  (.cond (.tmp 47) (.seq (.region [⟨some 6, .p (.mv (.const (.string ⟨#[]⟩))), none, none⟩,
  ⟨some 7, .p (.mv (.const (.int .i64 1))), none, none⟩])
  (.ret)) (.skip))))))
  (.seq (.region [⟨some 51, .p (.mv (.tmp 8)), none, none⟩,
  ⟨some 52, .p (.maxI (.const (.int .i64 0)) (.tmp 51)), none, none⟩,
  ⟨some 53, .a (.mkSlice 5 1 [.int .u8 0] (.tmp 52) (.tmp 52)), none, none⟩,
  ⟨some 11, .p (.mv (.tmp 53)), none, none⟩])
  (.seq (.region [⟨some 54, .p (.mv (.tmp 0)), none, none⟩,
  ⟨some 55, .e (.call (.func 76) [.tmp 54]), none, none⟩,
  ⟨some 12, .p (.mv (.tmp 55)), none, none⟩])
  (.seq (.join [(11, .l)] (.seq (.region [⟨some 56, .p (.mv (.tmp 1)), none, none⟩,
  ⟨some 57, .p (.lenL (.tmp 56)), none, none⟩,
  ⟨some 58, .p (.mv (.const (.int .i64 0))), none, none⟩])
  (.block 4 (.loop [(2, .l), (11, .l), (12, .p), (56, .l), (57, .i .i64), (58, .i .i64)] (.seq (.region [⟨some 59, .p (.bin .lss (.tmp 58) (.tmp 57)), none, none⟩])
  (.seq (.cond (.tmp 59) (.skip) (.exit 4))
  (.seq (.join [(2, .l), (11, .l), (12, .p), (56, .l), (57, .i .i64), (58, .i .i64)] (.block 5 (.seq (.region [⟨some 60, .p (.mv (.tmp 58)), none, none⟩,
  ⟨some 61, .p (.idxL 1 (.tmp 56) (.tmp 58)), none, none⟩,
  ⟨some 62, .l (.load (.s) (.tmp 61)), none, none⟩,
  ⟨some 13, .p (.mv (.tmp 60)), none, none⟩,
  ⟨some 14, .p (.mv (.tmp 62)), none, none⟩])
  (.seq (.region [⟨some 63, .p (.mv (.tmp 11)), none, none⟩,
  ⟨some 64, .p (.lenL (.tmp 63)), none, none⟩,
  ⟨some 65, .p (.mv (.const (.int .i64 0))), none, none⟩])
  (.block 6 (.loop [(2, .l), (11, .l), (12, .p), (13, .i .i64), (14, .s), (56, .l), (57, .i .i64), (58, .i .i64), (64, .i .i64), (65, .i .i64)] (.seq (.region [⟨some 66, .p (.bin .lss (.tmp 65) (.tmp 64)), none, none⟩])
  (.seq (.cond (.tmp 66) (.skip) (.exit 6))
  (.seq (.block 7 (.seq (.region [⟨some 67, .p (.mv (.tmp 65)), none, none⟩,
  ⟨some 15, .p (.mv (.tmp 67)), none, none⟩])
  (.draw [⟨4, ⟨some 72, .p (.mv (.tmp 12)), none, none⟩, [12], 0⟩,
  ⟨5, ⟨some 73, .p (.mv (.tmp 14)), none, none⟩, [14], 0⟩,
  ⟨6, ⟨some 74, .p (.mv (.tmp 15)), none, none⟩, [15], 0⟩,
  ⟨7, ⟨some 75, .p (.idxS (.tmp 73) (.tmp 74)), none, none⟩, [73, 74], 0⟩,
  ⟨8, ⟨some 76, .p (.convI .i64 (.tmp 75)), none, none⟩, [75], 0⟩,
  ⟨9, ⟨some 77, .p (.mv (.tmp 2)), none, none⟩, [2], 0⟩,
  ⟨10, ⟨some 78, .p (.mv (.tmp 13)), none, none⟩, [13], 0⟩,
  ⟨11, ⟨some 79, .p (.idxL 1 (.tmp 77) (.tmp 78)), none, none⟩, [77, 78], 0⟩,
  ⟨12, ⟨some 80, .l (.load (.i .i64) (.tmp 79)), none, none⟩, [79], 0⟩,
  ⟨13, ⟨some 81, .e (.call (.func 77) [.tmp 72, .tmp 76, .tmp 80]), none, none⟩, [72, 76, 80], 0⟩,
  ⟨0, ⟨some 68, .p (.mv (.tmp 11)), none, none⟩, [11], 1⟩,
  ⟨1, ⟨some 69, .p (.mv (.tmp 15)), none, none⟩, [15], 1⟩,
  ⟨2, ⟨some 70, .p (.idxL 1 (.tmp 68) (.tmp 69)), none, none⟩, [68, 69], 1⟩,
  ⟨3, ⟨some 71, .l (.load (.i .u8) (.tmp 70)), none, none⟩, [70], 1⟩,
  ⟨14, ⟨some 82, .p (.convI .u8 (.tmp 81)), none, none⟩, [81], 0⟩,
  ⟨15, ⟨some 83, .p (.bin .xor (.tmp 71) (.tmp 82)), none, none⟩, [71, 82], 0⟩,
  ⟨16, ⟨some 84, .p (.idxL 1 (.tmp 68) (.tmp 69)), none, none⟩, [68, 69], 0⟩,
  ⟨17, ⟨none, .e (.store none (.tmp 84) (.tmp 83)), none, none⟩, [84, 83], 0⟩])))
  (.region [⟨some 85, .p (.bin .add (.tmp 65) (.const (.int .i64 1))), none, none⟩,
  ⟨some 65, .p (.mv (.tmp 85)), none, none⟩]))))))))))
  (.region [⟨some 86, .p (.bin .add (.tmp 58) (.const (.int .i64 1))), none, none⟩,
  ⟨some 58, .p (.mv (.tmp 86)), none, none⟩]))))))))
  (.seq (.region [⟨some 87, .p (.mv (.tmp 11)), none, none⟩,
  ⟨some 88, .l (.convBS (.tmp 87)), none, none⟩,
  ⟨some 6, .p (.mv (.tmp 88)), none, none⟩,
  ⟨some 7, .p (.mv (.const (.int .i64 0))), none, none⟩])
  (.ret)))))))))))
noncomputable def e_field_Field_Mix (k : Nat) (D : CallF) : Ent := entOf 44 [(0, .p), (1, .l), (2, .l)] [(6, .s), (7, .i .i64)] (field_Field_Mix k D)
theorem q_field_Field_Mix : (Tryz.f44.body).bind (rcodeOf Tryz.prog 2 Tryz.f44.ntmps) = some (strip r_field_Field_Mix) := by kernel_rfl
theorem t_field_Field_Mix (k : Nat) (D : CallF) : curF [(0, .p), (1, .l), (2, .l)] (fun args h => denF (C_field_Field_Mix k D) k r_field_Field_Mix [(6, .s), (7, .i .i64)] [none, none] args h) = field_Field_Mix k D := by kernel_rfl
theorem ok_field_Field_Mix {D : CallF} (hD : CSound Tryz.prog 2 D) (k : Nat) : EntOk Tryz.prog 2 (e_field_Field_Mix k D) :=
  entOf_ok2 (mkC_sound hD (EntsOk.more (ok_field_is hD k) (EntsOk.more (ok_field_Field_tables hD k) (EntsOk.more (ok_field_tables_times hD k) (EntsOk.none))))) Tryz.func44 rfl q_field_Field_Mix rfl (t_field_Field_Mix k D)
end Gz
namespace Gz
open Go Gx Go.Proofs
set_option maxRecDepth 100000
noncomputable def C_stripe_Plan_Split (k : Nat) (D : CallF) : CallF := mkC D [e_stripe_Plan_Each k D, e_strings_Repeat k D, e_stripe_Plan_row k D, e_field_Field_Mix k D]
noncomputable def stripe_Plan_Split_l1b (_k : Nat) (_D : CallF) (j14 : (Option Addr) → Slc → AHeap → Option ((Slc × Int) × AHeap)) (rec55 : (Option Addr) → ByteArray → Int → Slc → Int → Int → AHeap → Option ((Slc × Int) × AHeap)) (p48 : Option Addr) (s49 : ByteArray) (n50 : Int) (out51 : Slc) (y52 : Int) (y53 : Int) (h54 : AHeap) : Option ((Slc × Int) × AHeap) :=
  (if (decide (y53 < y52)) = true then
  (Gx.subS s49 (some (IntKind.wrap .i64 (y53 * n50))) (some (IntKind.wrap .i64 ((IntKind.wrap .i64 (y53 + 1)) * n50)))).bind fun s56 =>
  let h57 := AHeap.new h54 (.cells [.string s56] 9 true 0)
  (rdS 1 (⟨(some ⟨h54.next, 0, some 0⟩), 1, 1⟩ : Slc) h57).bind fun n59 =>
  (appendA 1 16 9 h57 out51 n59 1).bind fun r58 =>
  rec55 p48 s49 n50 r58.1 y52 (IntKind.wrap .i64 (y53 + 1)) r58.2
  else
  j14 p48 out51 h54)
noncomputable def stripe_Plan_Split_l1 (k : Nat) (D : CallF) (j14 : (Option Addr) → Slc → AHeap → Option ((Slc × Int) × AHeap)) : (Option Addr) → ByteArray → Int → Slc → Int → Int → AHeap → Option ((Slc × Int) × AHeap) :=
  iterK (α := (Option Addr) → ByteArray → Int → Slc → Int → Int → AHeap → Option ((Slc × Int) × AHeap)) (fun _ _ _ _ _ _ _ => none) k (stripe_Plan_Split_l1b k D j14)
noncomputable def stripe_Plan_Split_l0b (k : Nat) (D : CallF) (j22 : Slc → AHeap → Option ((Slc × Int) × AHeap)) (rec31 : (Option Addr) → Slc → Slc → Int → Int → AHeap → Option ((Slc × Int) × AHeap)) (p25 : Option Addr) (out26 : Slc) (pieces27 : Slc) (y28 : Int) (y29 : Int) (h30 : AHeap) : Option ((Slc × Int) × AHeap) :=
  (if (decide (y29 < y28)) = true then
  (p25).bind fun p32 =>
  (ldA 3 (⟨p32.block, p32.off + 4, none⟩ : Addr) h30).bind fun l33 =>
  (decC [.i .i64, .i .i64, .l] l33).bind fun x34 =>
  (p25).bind fun p35 =>
  (ldI .i64 (⟨p35.block, p35.off + 0, none⟩ : Addr) h30).bind fun x36 =>
  (stripe_Plan_row k D p25 (x34.1, x34.2.1, x34.2.2) (IntKind.wrap .i64 (x36 + y29)) h30).bind fun r37 =>
  (p25).bind fun p38 =>
  (ldP (⟨p38.block, p38.off + 2, none⟩ : Addr) r37.2).bind fun x39 =>
  guardP (SameW [h30] (fun H41 => (ldP (⟨p38.block, p38.off + 2, none⟩ : Addr) H41).bind fun y40 => some (.pointer y40)) (.pointer x39)) (
  (field_Field_Mix k D x39 pieces27 r37.1 r37.2).bind fun r42 =>
  let h43 := AHeap.new r42.2 (.cells [.string r42.1.1] 9 true 0)
  (rdS 1 (⟨(some ⟨r42.2.next, 0, some 0⟩), 1, 1⟩ : Slc) h43).bind fun n45 =>
  (appendA 1 16 9 h43 out26 n45 1).bind fun r44 =>
  rec31 p25 r44.1 pieces27 y28 (IntKind.wrap .i64 (y29 + 1)) r44.2)
  else
  j22 out26 h30)
noncomputable def stripe_Plan_Split_l0 (k : Nat) (D : CallF) (j22 : Slc → AHeap → Option ((Slc × Int) × AHeap)) : (Option Addr) → Slc → Slc → Int → Int → AHeap → Option ((Slc × Int) × AHeap) :=
  iterK (α := (Option Addr) → Slc → Slc → Int → Int → AHeap → Option ((Slc × Int) × AHeap)) (fun _ _ _ _ _ _ => none) k (stripe_Plan_Split_l0b k D j22)
noncomputable def stripe_Plan_Split (k : Nat) (D : CallF) (p_0 : Option Addr) (s_1 : ByteArray) (h : AHeap) : Option ((Slc × Int) × AHeap) :=
  (stripe_Plan_Each k D p_0 (s_1.size : Int) h).bind fun r1 =>
  (if (r1.1.2 != 0) = true then
  some (((⟨none, 0, 0⟩ : Slc), 2), r1.2)
  else
  (p_0).bind fun p2 =>
  (ldI .i64 (⟨p2.block, p2.off + 0, none⟩ : Addr) r1.2).bind fun x3 =>
  let t4 : Int := (IntKind.wrap .i64 ((IntKind.wrap .i64 (x3 * r1.1.1)) - (s_1.size : Int)))
  (repeatA (⟨#[0]⟩ : ByteArray) t4).bind fun s5 =>
  (if s_1.size + s5.size ≤ 9223372036854775807 then
  (p_0).bind fun p6 =>
  (ldI .i64 (⟨p6.block, p6.off + 0, none⟩ : Addr) r1.2).bind fun x7 =>
  (p_0).bind fun p8 =>
  (ldI .i64 (⟨p8.block, p8.off + 1, none⟩ : Addr) r1.2).bind fun x9 =>
  (if 0 ≤ (0 : Int) ∧ 0 ≤ (IntKind.wrap .i64 (x7 + x9)) ∧ (IntKind.wrap .i64 (x7 + x9)) ≤ 281474976710656 ∧ 16 * (IntKind.wrap .i64 (x7 + x9)) ≤ 281474976710656 then
  let h10 := AHeap.new r1.2 (.cells (zerosL ((IntKind.wrap .i64 (x7 + x9))).toNat [.string ⟨#[]⟩]) 9 true 0)
  joinK (fun (p11 : Option Addr) (out12 : Slc) (h13 : AHeap) =>
  (p11).bind fun p15 =>
  (ldI .i64 (⟨p15.block, p15.off + 0, none⟩ : Addr) h13).bind fun x16 =>
  (p11).bind fun p17 =>
  (ldI .i64 (⟨p17.block, p17.off + 0, none⟩ : Addr) h13).bind fun x18 =>
  (Gx.subL 1 out12 none (some x16) (some x18)).bind fun l19 =>
  joinK (fun (out20 : Slc) (h21 : AHeap) =>
  some ((out20, 0), h21)) fun j22 =>
  (p11).bind fun p23 =>
  (ldI .i64 (⟨p23.block, p23.off + 1, none⟩ : Addr) h13).bind fun x24 =>
  stripe_Plan_Split_l0 k D j22 p11 out12 l19 x24 0 h13) fun j14 =>
  (p_0).bind fun p46 =>
  (ldI .i64 (⟨p46.block, p46.off + 0, none⟩ : Addr) h10).bind fun x47 =>
  stripe_Plan_Split_l1 k D j14 p_0 (s_1 ++ s5) r1.1.1 (⟨(some ⟨r1.2.next, 0, some 0⟩), (0 : Int).toNat, ((IntKind.wrap .i64 (x7 + x9))).toNat⟩ : Slc) x47 0 h10
  else none)
  else none))
def r_stripe_Plan_Split : RCode := .seq (.region [⟨some 4, .p (.mv (.const (.slice none 0 0))), none, none⟩,
  ⟨some 5, .p (.mv (.const (.int .i64 0))), none, none⟩])
  (.seq (.region [⟨some 15, .p (.mv (.tmp 0)), none, none⟩,
  ⟨some 16, .p (.mv (.tmp 1)), none, none⟩,
  ⟨some 17, .p (.lenS (.tmp 16)), none, none⟩,
  ⟨some 18, .e (.call (.func 42) [.tmp 15, .tmp 17]), none, none⟩,
  ⟨some 14, .p (.mv (.tmp 18)), none, none⟩,
  ⟨some 19, .p (.extract (.tmp 14) 0), none, none⟩,
  ⟨some 20, .p (.extract (.tmp 14) 1), none, none⟩,
  ⟨some 6, .p (.mv (.tmp 19)), none, none⟩,
  ⟨some 7, .p (.mv (.tmp 20)), none, none⟩])
  (.seq (.seq (.region [⟨some 21, .p (.mv (.tmp 7)), none, none⟩,
  ⟨some 22, .p (.bin .neq (.tmp 21) (.const (.int .i64 0))), none, none⟩])
  (.cond (.tmp 22) (.seq (.region [⟨some 4, .p (.mv (.const (.slice none 0 0))), none, none⟩,
  ⟨some 5, .p (.mv (.const (.int .i64 2))), none, none⟩])
  (.ret)) (.skip)))
  (.seq (.region [⟨some 23, .p (.mv (.tmp 1)), none, none⟩,
  ⟨some 24, .p (.mv (.tmp 0)), none, none⟩,
  ⟨some 25, .p (.nilP (.tmp 24)), none, none⟩,
  ⟨some 26, .p (.fieldAddr 0 (.tmp 25)), none, none⟩,
  ⟨some 27, .l (.load (.i .i64) (.tmp 26)), none, none⟩,
  ⟨some 28, .p (.mv (.tmp 6)), none, none⟩,
  ⟨some 29, .p (.bin .mul (.tmp 27) (.tmp 28)), none, none⟩,
  ⟨some 30, .p (.mv (.tmp 1)), none, none⟩,
  ⟨some 31, .p (.lenS (.tmp 30)), none, none⟩,
  ⟨some 32, .p (.bin .sub (.tmp 29) (.tmp 31)), none, none⟩,
  ⟨some 33, .e (.call (.func 43) [.const (.string ⟨#[0]⟩), .tmp 32]), none, none⟩,
  ⟨some 34, .p (.bin .add (.tmp 23) (.tmp 33)), none, none⟩,
  ⟨some 1, .p (.mv (.tmp 34)), none, none⟩])
  (.seq (.draw [⟨0, ⟨some 35, .p (.mv (.tmp 0)), none, none⟩, [0], 0⟩,
  ⟨1, ⟨some 36, .p (.nilP (.tmp 35)), none, none⟩, [35], 0⟩,
  ⟨2, ⟨some 37, .p (.fieldAddr 0 (.tmp 36)), none, none⟩, [36], 0⟩,
  ⟨3, ⟨some 38, .l (.load (.i .i64) (.tmp 37)), none, none⟩, [37], 0⟩,
  ⟨4, ⟨some 39, .p (.mv (.tmp 0)), none, none⟩, [0], 0⟩,
  ⟨5, ⟨some 40, .p (.nilP (.tmp 39)), none, none⟩, [39], 0⟩,
  ⟨6, ⟨some 41, .p (.fieldAddr 1 (.tmp 40)), none, none⟩, [40], 0⟩,
  ⟨7, ⟨some 42, .l (.load (.i .i64) (.tmp 41)), none, none⟩, [41], 0⟩,
  ⟨8, ⟨some 43, .p (.bin .add (.tmp 38) (.tmp 42)), none, none⟩, [38, 42], 0⟩,
  ⟨9, ⟨some 44, .a (.mkSlice 9 16 [.string ⟨#[]⟩] (.const (.int .i64 0)) (.tmp 43)), none, none⟩, [43], 0⟩,
  ⟨10, ⟨some 8, .p (.mv (.tmp 44)), none, none⟩, [44], 0⟩])
  (.seq (.join [(0, .p), (8, .l)] (.seq (.region [⟨some 45, .p (.mv (.tmp 0)), none, none⟩,
  ⟨some 46, .p (.nilP (.tmp 45)), none, none⟩,
  ⟨some 47, .p (.fieldAddr 0 (.tmp 46)), none, none⟩,
  ⟨some 48, .l (.load (.i .i64) (.tmp 47)), none, none⟩,
  ⟨some 49, .p (.mv (.const (.int .i64 0))), none, none⟩])
  (.block 0 (.loop [(0, .p), (1, .s), (6, .i .i64), (8, .l), (48, .i .i64), (49, .i .i64)] (.seq (.region [⟨some 50, .p (.bin .lss (.tmp 49) (.tmp 48)), none, none⟩])
  (.seq (.cond (.tmp 50) (.skip) (.exit 0))
  (.seq (.block 1 (.seq (.region [⟨some 51, .p (.mv (.tmp 49)), none, none⟩,
  ⟨some 9, .p (.mv (.tmp 51)), none, none⟩])
  (.region [⟨some 52, .p (.mv (.tmp 8)), none, none⟩,
  ⟨some 53, .p (.mv (.tmp 1)), none, none⟩,
  ⟨some 54, .p (.mv (.tmp 9)), none, none⟩,
  ⟨some 55, .p (.mv (.tmp 6)), none, none⟩,
  ⟨some 56, .p (.bin .mul (.tmp 54) (.tmp 55)), none, none⟩,
  ⟨some 57, .p (.mv (.tmp 9)), none, none⟩,
  ⟨some 58, .p (.bin .add (.tmp 57) (.const (.int .i64 1))), none, none⟩,
  ⟨some 59, .p (.mv (.tmp 6)), none, none⟩,
  ⟨some 60, .p (.bin .mul (.tmp 58) (.tmp 59)), none, none⟩,
  ⟨some 61, .p (.subS (.tmp 53) (some (.tmp 56)) (some (.tmp 60))), none, none⟩,
  ⟨some 62, .a (.buildSlice 9 1 (zerosL 1 [.string ⟨#[]⟩]) [(0, 1, .tmp 61)]), none, none⟩,
  ⟨some 63, .e (.append 1 16 9 [.string ⟨#[]⟩] .slice (.tmp 52) (.tmp 62)), none, none⟩,
  ⟨some 8, .p (.mv (.tmp 63)), none, none⟩])))
  (.region [⟨some 64, .p (.bin .add (.tmp 49) (.const (.int .i64 1))), none, none⟩,
  ⟨some 49, .p (.mv (.tmp 64)), none, none⟩]))))))))
  (.seq (.draw [⟨0, ⟨some 65, .p (.mv (.tmp 8)), none, none⟩, [8], 0⟩,
  ⟨1, ⟨some 66, .p (.mv (.tmp 0)), none, none⟩, [0], 0⟩,
  ⟨2, ⟨some 67, .p (.nilP (.tmp 66)), none, none⟩, [66], 0⟩,
  ⟨3, ⟨some 68, .p (.fieldAddr 0 (.tmp 67)), none, none⟩, [67], 0⟩,
  ⟨4, ⟨some 69, .l (.load (.i .i64) (.tmp 68)), none, none⟩, [68], 0⟩,
  ⟨5, ⟨some 70, .p (.mv (.tmp 0)), none, none⟩, [0], 0⟩,
  ⟨6, ⟨some 71, .p (.nilP (.tmp 70)), none, none⟩, [70], 0⟩,
  ⟨7, ⟨some 72, .p (.fieldAddr 0 (.tmp 71)), none, none⟩, [71], 0⟩,
  ⟨8, ⟨some 73, .l (.load (.i .i64) (.tmp 72)), none, none⟩, [72], 0⟩,
  ⟨9, ⟨some 74, .p (.subL 1 (.tmp 65) none (some (.tmp 69)) (some (.tmp 73))), none, none⟩, [65, 69, 73], 0⟩,
  ⟨10, ⟨some 10, .p (.mv (.tmp 74)), none, none⟩, [74], 0⟩])
  (.seq (.join [(8, .l)] (.seq (.region [⟨some 75, .p (.mv (.tmp 0)), none, none⟩,
  ⟨some 76, .p (.nilP (.tmp 75)), none, none⟩,
  ⟨some 77, .p (.fieldAddr 1 (.tmp 76)), none, none⟩,
  ⟨some 78, .l (.load (.i .i64) (.tmp 77)), none, none⟩,
  ⟨some 79, .p (.mv (.const (.int .i64 0))), none, none⟩])
  (.block 2 (.loop [(0, .p), (8, .l), (10, .l), (78, .i .i64), (79, .i .i64)] (.seq (.region [⟨some 80, .p (.bin .lss (.tmp 79) (.tmp 78)), none, none⟩])
  (.seq (.cond (.tmp 80) (.skip) (.exit 2))
  (.seq (.block 3 (.seq (.region [⟨some 81, .p (.mv (.tmp 79)), none, none⟩,
  ⟨some 11, .p (.mv (.tmp 81)), none, none⟩])
  (.seq (.draw [⟨5, ⟨some 88, .p (.mv (.tmp 0)), none, none⟩, [0], 0⟩,
  ⟨6, ⟨some 89, .p (.mv (.tmp 0)), none, none⟩, [0], 0⟩,
  ⟨7, ⟨some 90, .p (.nilP (.tmp 89)), none, none⟩, [89], 0⟩,
  ⟨8, ⟨some 91, .p (.fieldAddr 4 (.tmp 90)), none, none⟩, [90], 0⟩,
  ⟨9, ⟨some 92, .l (.load (.agg 3) (.tmp 91)), none, some (.st [.i .i64, .i .i64, .l])⟩, [91], 0⟩,
  ⟨10, ⟨some 93, .p (.mv (.tmp 0)), none, none⟩, [0], 0⟩,
  ⟨11, ⟨some 94, .p (.nilP (.tmp 93)), none, none⟩, [93], 0⟩,
  ⟨12, ⟨some 95, .p (.fieldAddr 0 (.tmp 94)), none, none⟩, [94], 0⟩,
  ⟨13, ⟨some 96, .l (.load (.i .i64) (.tmp 95)), none, none⟩, [95], 0⟩,
  ⟨14, ⟨some 97, .p (.mv (.tmp 11)), none, none⟩, [11], 0⟩,
  ⟨15, ⟨some 98, .p (.bin .add (.tmp 96) (.tmp 97)), none, none⟩, [96, 97], 0⟩,
  ⟨16, ⟨some 99, .e (.call (.func 45) [.tmp 88, .tmp 92, .tmp 98]), none, none⟩, [88, 92, 98], 0⟩,
  ⟨0, ⟨some 83, .p (.mv (.tmp 0)), none, none⟩, [0], 1⟩,
  ⟨1, ⟨some 84, .p (.nilP (.tmp 83)), none, none⟩, [83], 1⟩,
  ⟨2, ⟨some 85, .p (.fieldAddr 2 (.tmp 84)), none, none⟩, [84], 1⟩,
  ⟨3, ⟨some 86, .l (.load (.p) (.tmp 85)), none, none⟩, [85], 1⟩,
  ⟨4, ⟨some 87, .p (.mv (.tmp 10)), none, none⟩, [10], 1⟩,
  ⟨17, ⟨some 100, .e (.call (.func 44) [.tmp 86, .tmp 87, .tmp 99]), none, none⟩, [86, 87, 99], 0⟩,
  ⟨18, ⟨some 82, .p (.mv (.tmp 100)), none, none⟩, [100], 0⟩,
  ⟨19, ⟨some 101, .p (.extract (.tmp 82) 0), none, none⟩, [82], 0⟩,
  ⟨20, ⟨some 102, .p (.extract (.tmp 82) 1), none, none⟩, [82], 0⟩,
  ⟨21, ⟨some 12, .p (.mv (.tmp 101)), none, none⟩, [101], 0⟩,
  ⟨22, ⟨some 13, .p (.mv (.tmp 102)), none, none⟩, [102], 0⟩])
  (.region [⟨some 103, .p (.mv (.tmp 8)), none, none⟩,
  ⟨some 104, .p (.mv (.tmp 12)), none, none⟩,
  ⟨some 105, .a (.buildSlice 9 1 (zerosL 1 [.string ⟨#[]⟩]) [(0, 1, .tmp 104)]), none, none⟩,
  ⟨some 106, .e (.append 1 16 9 [.string ⟨#[]⟩] .slice (.tmp 103) (.tmp 105)), none, none⟩,
  ⟨some 8, .p (.mv (.tmp 106)), none, none⟩]))))
  (.region [⟨some 107, .p (.bin .add (.tmp 79) (.const (.int .i64 1))), none, none⟩,
  ⟨some 79, .p (.mv (.tmp 107)), none, none⟩]))))))))
  (.seq (.region [⟨some 108, .p (.mv (.tmp 8)), none, none⟩,
  ⟨some 4, .p (.mv (.tmp 108)), none, none⟩,
  ⟨some 5, .p (.mv (.const (.int .i64 0))), none, none⟩])
  (.ret)))))))))
noncomputable def e_stripe_Plan_Split (k : Nat) (D : CallF) : Ent := entOf 21 [(0, .p), (1, .s)] [(4, .l), (5, .i .i64)] (stripe_Plan_Split k D)
theorem q_stripe_Plan_Split : (Tryz.f21.body).bind (rcodeOf Tryz.prog 2 Tryz.f21.ntmps) = some (strip r_stripe_Plan_Split) := by kernel_rfl
theorem t_stripe_Plan_Split (k : Nat) (D : CallF) : curF [(0, .p), (1, .s)] (fun args h => denF (C_stripe_Plan_Split k D) k r_stripe_Plan_Split [(4, .l), (5, .i .i64)] [none, none] args h) = stripe_Plan_Split k D := by kernel_rfl
theorem ok_stripe_Plan_Split {D : CallF} (hD : CSound Tryz.prog 2 D) (k : Nat) : EntOk Tryz.prog 2 (e_stripe_Plan_Split k D) :=
  entOf_ok2 (mkC_sound hD (EntsOk.more (ok_stripe_Plan_Each hD k) (EntsOk.more (ok_strings_Repeat hD k) (EntsOk.more (ok_stripe_Plan_row hD k) (EntsOk.more (ok_field_Field_Mix hD k) (EntsOk.none)))))) Tryz.func21 rfl q_stripe_Plan_Split rfl (t_stripe_Plan_Split k D)
end Gz
namespace Gz
open Go Gx Go.Proofs
set_option maxRecDepth 100000
noncomputable def C_shard_Make (k : Nat) (D : CallF) : CallF := mkC D [e_stripe_New k D, e_stripe_Plan_Split k D, e_sha_Sum k D, e_shard_text k D]
noncomputable def shard_Make_l0b (k : Nat) (D : CallF) (j7 : Slc → AHeap → Option ((Slc × Int) × AHeap)) (rec17 : Int → Int → ByteArray → ByteArray → Slc → Slc → Int → Int → AHeap → Option ((Slc × Int) × AHeap)) (kv8 : Int) (m9 : Int) (data10 : ByteArray) (id11 : ByteArray) (out12 : Slc) (y13 : Slc) (y14 : Int) (y15 : Int) (h16 : AHeap) : Option ((Slc × Int) × AHeap) :=
  (if (decide (y15 < y14)) = true then
  (Gx.idxL 1 y13 y15).bind fun q18 =>
  (ldS q18 h16).bind fun x19 =>
  (shard_text k D (kv8, m9, y15, (data10.size : Int), id11, x19) h16).bind fun r20 =>
  let h21 := AHeap.new r20.2 (.cells [.string r20.1] 9 true 0)
  (rdS 1 (⟨(some ⟨r20.2.next, 0, some 0⟩), 1, 1⟩ : Slc) h21).bind fun n23 =>
  (appendA 1 16 9 h21 out12 n23 1).bind fun r22 =>
  rec17 kv8 m9 data10 id11 r22.1 y13 y14 (IntKind.wrap .i64 (y15 + 1)) r22.2
  else
  j7 out12 h16)
noncomputable def shard_Make_l0 (k : Nat) (D : CallF) (j7 : Slc → AHeap → Option ((Slc × Int) × AHeap)) : Int → Int → ByteArray → ByteArray → Slc → Slc → Int → Int → AHeap → Option ((Slc × Int) × AHeap) :=
  iterK (α := Int → Int → ByteArray → ByteArray → Slc → Slc → Int → Int → AHeap → Option ((Slc × Int) × AHeap)) (fun _ _ _ _ _ _ _ _ _ => none) k (shard_Make_l0b k D j7)
noncomputable def shard_Make (k : Nat) (D : CallF) (k_0 : Int) (m_1 : Int) (data_2 : ByteArray) (h : AHeap) : Option ((Slc × Int) × AHeap) :=
  (stripe_New k D k_0 m_1 h).bind fun r1 =>
  (if (r1.1.2 != 0) = true then
  some (((⟨none, 0, 0⟩ : Slc), r1.1.2), r1.2)
  else
  (stripe_Plan_Split k D r1.1.1 data_2 r1.2).bind fun r2 =>
  (if (r2.1.2 != 0) = true then
  some (((⟨none, 0, 0⟩ : Slc), r2.1.2), r2.2)
  else
  let h3 := AHeap.new r2.2 (.cells [.string data_2] 9 true 0)
  (sha_Sum k D (⟨(some ⟨r2.2.next, 0, some 0⟩), 1, 1⟩ : Slc) h3).bind fun r4 =>
  joinK (fun (out5 : Slc) (h6 : AHeap) =>
  some ((out5, 0), h6)) fun j7 =>
  shard_Make_l0 k D j7 k_0 m_1 data_2 r4.1 (⟨none, 0, 0⟩ : Slc) r2.1.1 (r2.1.1.len : Int) 0 r4.2))
def r_shard_Make : RCode := .seq (.region [⟨some 6, .p (.mv (.const (.slice none 0 0))), none, none⟩,
  ⟨some 7, .p (.mv (.const (.int .i64 0))), none, none⟩])
  (.seq (.region [⟨some 16, .p (.mv (.tmp 0)), none, none⟩,
  ⟨some 17, .p (.mv (.tmp 1)), none, none⟩,
  ⟨some 18, .e (.call (.func 20) [.tmp 16, .tmp 17]), none, none⟩,
  ⟨some 15, .p (.mv (.tmp 18)), none, none⟩,
  ⟨some 19, .p (.extract (.tmp 15) 0), none, none⟩,
  ⟨some 20, .p (.extract (.tmp 15) 1), none, none⟩,
  ⟨some 8, .p (.mv (.tmp 19)), none, none⟩,
  ⟨some 9, .p (.mv (.tmp 20)), none, none⟩])
  (.seq (.seq (.region [⟨some 21, .p (.mv (.tmp 9)), none, none⟩,
  ⟨some 22, .p (.bin .neq (.tmp 21) (.const (.int .i64 0))), none, none⟩])
  (.cond (.tmp 22) (.seq (.region [⟨some 23, .p (.mv (.tmp 9)), none, none⟩,
  ⟨some 6, .p (.mv (.const (.slice none 0 0))), none, none⟩,
  ⟨some 7, .p (.mv (.tmp 23)), none, none⟩])
  (.ret)) (.skip)))
  (.seq (.region [⟨some 25, .p (.mv (.tmp 8)), none, none⟩,
  ⟨some 26, .p (.mv (.tmp 2)), none, none⟩,
  ⟨some 27, .e (.call (.func 21) [.tmp 25, .tmp 26]), none, none⟩,
  ⟨some 24, .p (.mv (.tmp 27)), none, none⟩,
  ⟨some 28, .p (.extract (.tmp 24) 0), none, none⟩,
  ⟨some 29, .p (.extract (.tmp 24) 1), none, none⟩,
  ⟨some 10, .p (.mv (.tmp 28)), none, none⟩,
  ⟨some 9, .p (.mv (.tmp 29)), none, none⟩])
  (.seq (.seq (.region [⟨some 30, .p (.mv (.tmp 9)), none, none⟩,
  ⟨some 31, .p (.bin .neq (.tmp 30) (.const (.int .i64 0))), none, none⟩])
  (.cond (.tmp 31) (.seq (.region [⟨some 32, .p (.mv (.tmp 9)), none, none⟩,
  ⟨some 6, .p (.mv (.const (.slice none 0 0))), none, none⟩,
  ⟨some 7, .p (.mv (.tmp 32)), none, none⟩])
  (.ret)) (.skip)))
  (.seq (.region [⟨some 33, .p (.mv (.tmp 2)), none, none⟩,
  ⟨some 34, .a (.buildSlice 9 1 (zerosL 1 [.string ⟨#[]⟩]) [(0, 1, .tmp 33)]), none, none⟩,
  ⟨some 35, .e (.call (.func 18) [.tmp 34]), none, none⟩,
  ⟨some 11, .p (.mv (.tmp 35)), none, none⟩])
  (.seq (.region [⟨some 12, .p (.mv (.const (.slice none 0 0))), none, none⟩])
  (.seq (.join [(12, .l)] (.seq (.region [⟨some 36, .p (.mv (.tmp 10)), none, none⟩,
  ⟨some 37, .p (.lenL (.tmp 36)), none, none⟩,
  ⟨some 38, .p (.mv (.const (.int .i64 0))), none, none⟩])
  (.block 0 (.loop [(0, .i .i64), (1, .i .i64), (2, .s), (11, .s), (12, .l), (36, .l), (37, .i .i64), (38, .i .i64)] (.seq (.region [⟨some 39, .p (.bin .lss (.tmp 38) (.tmp 37)), none, none⟩])
  (.seq (.cond (.tmp 39) (.skip) (.exit 0))
  (.seq (.block 1 (.seq (.region [⟨some 40, .p (.mv (.tmp 38)), none, none⟩,
  ⟨some 41, .p (.idxL 1 (.tmp 36) (.tmp 38)), none, none⟩,
  ⟨some 42, .l (.load (.s) (.tmp 41)), none, none⟩,
  ⟨some 13, .p (.mv (.tmp 40)), none, none⟩,
  ⟨some 14, .p (.mv (.tmp 42)), none, none⟩])
  (.region [⟨some 43, .p (.mv (.tmp 12)), none, none⟩,
  ⟨some 44, .p (.mv (.tmp 0)), none, none⟩,
  ⟨some 45, .p (.mv (.tmp 1)), none, none⟩,
  ⟨some 46, .p (.mv (.tmp 13)), none, none⟩,
  ⟨some 47, .p (.mv (.tmp 2)), none, none⟩,
  ⟨some 48, .p (.lenS (.tmp 47)), none, none⟩,
  ⟨some 49, .p (.mv (.tmp 11)), none, none⟩,
  ⟨some 50, .p (.mv (.tmp 14)), none, none⟩,
  ⟨some 51, .p (.build [.int .i64 0, .int .i64 0, .int .i64 0, .int .i64 0, .string ⟨#[]⟩, .string ⟨#[]⟩] [(0, 1, .tmp 44), (1, 1, .tmp 45), (2, 1, .tmp 46), (3, 1, .tmp 48), (4, 1, .tmp 49), (5, 1, .tmp 50)]), none, none⟩,
  ⟨some 52, .e (.call (.func 22) [.tmp 51]), none, none⟩,
  ⟨some 53, .a (.buildSlice 9 1 (zerosL 1 [.string ⟨#[]⟩]) [(0, 1, .tmp 52)]), none, none⟩,
  ⟨some 54, .e (.append 1 16 9 [.string ⟨#[]⟩] .slice (.tmp 43) (.tmp 53)), none, none⟩,
  ⟨some 12, .p (.mv (.tmp 54)), none, none⟩])))
  (.region [⟨some 55, .p (.bin .add (.tmp 38) (.const (.int .i64 1))), none, none⟩,
  ⟨some 38, .p (.mv (.tmp 55)), none, none⟩]))))))))
  (.seq (.region [⟨some 56, .p (.mv (.tmp 12)), none, none⟩,
  ⟨some 6, .p (.mv (.tmp 56)), none, none⟩,
  ⟨some 7, .p (.mv (.const (.int .i64 0))), none, none⟩])
  (.ret)))))))))
noncomputable def e_shard_Make (k : Nat) (D : CallF) : Ent := entOf 7 [(0, .i .i64), (1, .i .i64), (2, .s)] [(6, .l), (7, .i .i64)] (shard_Make k D)
theorem q_shard_Make : (Tryz.f7.body).bind (rcodeOf Tryz.prog 2 Tryz.f7.ntmps) = some (strip r_shard_Make) := by kernel_rfl
theorem t_shard_Make (k : Nat) (D : CallF) : curF [(0, .i .i64), (1, .i .i64), (2, .s)] (fun args h => denF (C_shard_Make k D) k r_shard_Make [(6, .l), (7, .i .i64)] [none, none] args h) = shard_Make k D := by kernel_rfl
theorem ok_shard_Make {D : CallF} (hD : CSound Tryz.prog 2 D) (k : Nat) : EntOk Tryz.prog 2 (e_shard_Make k D) :=
  entOf_ok2 (mkC_sound hD (EntsOk.more (ok_stripe_New hD k) (EntsOk.more (ok_stripe_Plan_Split hD k) (EntsOk.more (ok_sha_Sum hD k) (EntsOk.more (ok_shard_text hD k) (EntsOk.none)))))) Tryz.func7 rfl q_shard_Make rfl (t_shard_Make k D)
end Gz
namespace Gz
open Go Gx Go.Proofs
set_option maxRecDepth 100000
noncomputable def C_ref04_zero (_k : Nat) (D : CallF) : CallF := mkC D []
noncomputable def ref04_zero (_k : Nat) (_D : CallF) (rows_0 : Int) (cols_1 : Int) (h : AHeap) : Option (((Int × Int × Slc)) × AHeap) :=
  let h1 := AHeap.new h (.cells [.int .i64 0, .int .i64 0, .slice none 0 0] 97 true 0)
  (if 0 ≤ (IntKind.wrap .i64 (rows_0 * cols_1)) ∧ (IntKind.wrap .i64 (rows_0 * cols_1)) ≤ (IntKind.wrap .i64 (rows_0 * cols_1)) ∧ (IntKind.wrap .i64 (rows_0 * cols_1)) ≤ 281474976710656 ∧ 8 * (IntKind.wrap .i64 (rows_0 * cols_1)) ≤ 281474976710656 then
  let h2 := AHeap.new h1 (.cells (zerosL ((IntKind.wrap .i64 (rows_0 * cols_1))).toNat [.int .i64 0]) 3 true 0)
  (stL 3 (⟨h.next, 0, none⟩ : Addr) ([.int .i64 rows_0, .int .i64 cols_1, .slice (some ⟨h1.next, 0, some 0⟩) (((IntKind.wrap .i64 (rows_0 * cols_1))).toNat) (((IntKind.wrap .i64 (rows_0 * cols_1))).toNat)]) h2).bind fun h3 =>
  (ldA 3 (⟨h.next, 0, none⟩ : Addr) h3).bind fun l4 =>
  (decC [.i .i64, .i .i64, .l] l4).bind fun x5 =>
  some ((x5.1, x5.2.1, x5.2.2), h3)
  else none)
def r_ref04_zero : RCode := .seq (.region [⟨some 4, .a (.alloc 97 [.int .i64 0, .int .i64 0, .slice none 0 0]), none, none⟩])
  (.seq (.region [⟨some 5, .p (.mv (.tmp 0)), none, none⟩,
  ⟨some 6, .p (.mv (.tmp 1)), none, none⟩,
  ⟨some 7, .p (.mv (.tmp 0)), none, none⟩,
  ⟨some 8, .p (.mv (.tmp 1)), none, none⟩,
  ⟨some 9, .p (.bin .mul (.tmp 7) (.tmp 8)), none, none⟩,
  ⟨some 10, .a (.mkSlice 3 8 [.int .i64 0] (.tmp 9) (.tmp 9)), none, none⟩,
  ⟨some 11, .p (.build [.int .i64 0, .int .i64 0, .slice none 0 0] [(0, 1, .tmp 5), (1, 1, .tmp 6), (2, 1, .tmp 10)]), none, none⟩,
  ⟨none, .e (.store (some 3) (.tmp 4) (.tmp 11)), none, none⟩])
  (.ret))
noncomputable def e_ref04_zero (k : Nat) (D : CallF) : Ent := entOf 78 [(0, .i .i64), (1, .i .i64)] [(4, .st [.i .i64, .i .i64, .l])] (ref04_zero k D)
theorem q_ref04_zero : (Tryz.f78.body).bind (rcodeOf Tryz.prog 2 Tryz.f78.ntmps) = some (strip r_ref04_zero) := by kernel_rfl
theorem t_ref04_zero (k : Nat) (D : CallF) : curF [(0, .i .i64), (1, .i .i64)] (fun args h => denF (C_ref04_zero k D) k r_ref04_zero [(4, .st [.i .i64, .i .i64, .l])] [some (.agg 3)] args h) = ref04_zero k D := by kernel_rfl
theorem ok_ref04_zero {D : CallF} (hD : CSound Tryz.prog 2 D) (k : Nat) : EntOk Tryz.prog 2 (e_ref04_zero k D) :=
  entOf_ok2 (mkC_sound hD (EntsOk.none)) Tryz.func78 rfl q_ref04_zero rfl (t_ref04_zero k D)
end Gz
namespace Gz
open Go Gx Go.Proofs
set_option maxRecDepth 100000
noncomputable def C_ref03_Times (_k : Nat) (D : CallF) : CallF := mkC D []
noncomputable def ref03_Times_l1b (_k : Nat) (_D : CallF) (j3 : Int → AHeap → Option ((Int) × AHeap)) (rec22 : Int → Int → Int → Int → AHeap → Option ((Int) × AHeap)) (a17 : Int) (b18 : Int) (n19 : Int) (i20 : Int) (h21 : AHeap) : Option ((Int) × AHeap) :=
  (if (decide (i20 < 8)) = true then
  joinK (fun (a23 : Int) (b24 : Int) (n25 : Int) (i26 : Int) (h27 : AHeap) =>
  rec22 a23 b24 n25 (IntKind.wrap .i64 (i26 + 1)) h27) fun j28 =>
  (if 0 ≤ i20 then
  let t29 : Int := (Go.bits .and .i64 (Int.fdiv b18 (2 ^ (min (i20).toNat (IntKind.bits .i64)))) 1)
  (if (t29 == 1) = true then
  (if 0 ≤ i20 then
  let t30 : Int := (IntKind.wrap .i64 (a17 * 2 ^ (min (i20).toNat (IntKind.bits .i64))))
  j28 a17 b18 (Go.bits .xor .i64 n19 t30) i20 h21
  else none)
  else
  j28 a17 b18 n19 i20 h21)
  else none)
  else
  j3 n19 h21)
noncomputable def ref03_Times_l1 (k : Nat) (D : CallF) (j3 : Int → AHeap → Option ((Int) × AHeap)) : Int → Int → Int → Int → AHeap → Option ((Int) × AHeap) :=
  iterK (α := Int → Int → Int → Int → AHeap → Option ((Int) × AHeap)) (fun _ _ _ _ _ => none) k (ref03_Times_l1b k D j3)
noncomputable def ref03_Times_l0b (_k : Nat) (_D : CallF) (j6 : Int → AHeap → Option ((Int) × AHeap)) (rec10 : Int → Int → AHeap → Option ((Int) × AHeap)) (n7 : Int) (i8 : Int) (h9 : AHeap) : Option ((Int) × AHeap) :=
  (if (decide (i8 ≥ 8)) = true then
  joinK (fun (n11 : Int) (i12 : Int) (h13 : AHeap) =>
  rec10 n11 (IntKind.wrap .i64 (i12 - 1)) h13) fun j14 =>
  (if 0 ≤ i8 then
  let t15 : Int := (Go.bits .and .i64 (Int.fdiv n7 (2 ^ (min (i8).toNat (IntKind.bits .i64)))) 1)
  (if (t15 == 1) = true then
  (if 0 ≤ (IntKind.wrap .i64 (i8 - 8)) then
  let t16 : Int := (IntKind.wrap .i64 (391 * 2 ^ (min ((IntKind.wrap .i64 (i8 - 8))).toNat (IntKind.bits .i64))))
  j14 (Go.bits .xor .i64 n7 t16) i8 h9
  else none)
  else
  j14 n7 i8 h9)
  else none)
  else
  j6 n7 h9)
noncomputable def ref03_Times_l0 (k : Nat) (D : CallF) (j6 : Int → AHeap → Option ((Int) × AHeap)) : Int → Int → AHeap → Option ((Int) × AHeap) :=
  iterK (α := Int → Int → AHeap → Option ((Int) × AHeap)) (fun _ _ _ => none) k (ref03_Times_l0b k D j6)
noncomputable def ref03_Times (k : Nat) (D : CallF) (a_0 : Int) (b_1 : Int) (h : AHeap) : Option ((Int) × AHeap) :=
  joinK (fun (n1 : Int) (h2 : AHeap) =>
  joinK (fun (n4 : Int) (h5 : AHeap) =>
  some (n4, h5)) fun j6 =>
  ref03_Times_l0 k D j6 n1 15 h2) fun j3 =>
  ref03_Times_l1 k D j3 a_0 b_1 0 0 h
def r_ref03_Times : RCode := .seq (.region [⟨some 4, .p (.mv (.const (.int .i64 0))), none, none⟩])
  (.seq (.region [⟨some 5, .p (.mv (.const (.int .i64 0))), none, none⟩])
  (.seq (.join [(5, .i .i64)] (.seq (.region [⟨some 6, .p (.mv (.const (.int .i64 0))), none, none⟩])
  (.block 0 (.loop [(0, .i .i64), (1, .i .i64), (5, .i .i64), (6, .i .i64)] (.seq (.seq (.region [⟨some 8, .p (.mv (.tmp 6)), none, none⟩,
  ⟨some 9, .p (.bin .lss (.tmp 8) (.const (.int .i64 8))), none, none⟩])
  (.cond (.tmp 9) (.skip) (.exit 0)))
  (.seq (.join [(0, .i .i64), (1, .i .i64), (5, .i .i64), (6, .i .i64)] (.block 1 (.seq (.region [⟨some 12, .p (.mv (.tmp 1)), none, none⟩,
  ⟨some 13, .p (.mv (.tmp 6)), none, none⟩,
  ⟨some 14, .p (.bin .shr (.tmp 12) (.tmp 13)), none, none⟩,
  ⟨some 15, .p (.bin .and (.tmp 14) (.const (.int .i64 1))), none, none⟩,
  ⟨some 16, .p (.bin .eql (.tmp 15) (.const (.int .i64 1))), none, none⟩])
  (.cond (.tmp 16) (.region [⟨some 17, .p (.mv (.tmp 5)), none, none⟩,
  ⟨some 18, .p (.mv (.tmp 0)), none, none⟩,
  ⟨some 19, .p (.mv (.tmp 6)), none, none⟩,
  ⟨some 20, .p (.bin .shl (.tmp 18) (.tmp 19)), none, none⟩,
  ⟨some 21, .p (.bin .xor (.tmp 17) (.tmp 20)), none, none⟩,
  ⟨some 5, .p (.mv (.tmp 21)), none, none⟩]) (.skip)))))
  (.region [⟨some 10, .p (.mv (.tmp 6)), none, none⟩,
  ⟨some 11, .p (.bin .add (.tmp 10) (.const (.int .i64 1))), none, none⟩,
  ⟨some 6, .p (.mv (.tmp 11)), none, none⟩])))))))
  (.seq (.join [(5, .i .i64)] (.seq (.region [⟨some 7, .p (.mv (.const (.int .i64 15))), none, none⟩])
  (.block 2 (.loop [(5, .i .i64), (7, .i .i64)] (.seq (.seq (.region [⟨some 22, .p (.mv (.tmp 7)), none, none⟩,
  ⟨some 23, .p (.bin .geq (.tmp 22) (.const (.int .i64 8))), none, none⟩])
  (.cond (.tmp 23) (.skip) (.exit 2)))
  (.seq (.join [(5, .i .i64), (7, .i .i64)] (.block 3 (.seq (.region [⟨some 26, .p (.mv (.tmp 5)), none, none⟩,
  ⟨some 27, .p (.mv (.tmp 7)), none, none⟩,
  ⟨some 28, .p (.bin .shr (.tmp 26) (.tmp 27)), none, none⟩,
  ⟨some 29, .p (.bin .and (.tmp 28) (.const (.int .i64 1))), none, none⟩,
  ⟨some 30, .p (.bin .eql (.tmp 29) (.const (.int .i64 1))), none, none⟩])
  (.cond (.tmp 30) (.region [⟨some 31, .p (.mv (.tmp 5)), none, none⟩,
  ⟨some 32, .p (.mv (.tmp 7)), none, none⟩,
  ⟨some 33, .p (.bin .sub (.tmp 32) (.const (.int .i64 8))), none, none⟩,
  ⟨some 34, .p (.bin .shl (.const (.int .i64 391)) (.tmp 33)), none, none⟩,
  ⟨some 35, .p (.bin .xor (.tmp 31) (.tmp 34)), none, none⟩,
  ⟨some 5, .p (.mv (.tmp 35)), none, none⟩]) (.skip)))))
  (.region [⟨some 24, .p (.mv (.tmp 7)), none, none⟩,
  ⟨some 25, .p (.bin .sub (.tmp 24) (.const (.int .i64 1))), none, none⟩,
  ⟨some 7, .p (.mv (.tmp 25)), none, none⟩])))))))
  (.seq (.region [⟨some 36, .p (.mv (.tmp 5)), none, none⟩,
  ⟨some 4, .p (.mv (.tmp 36)), none, none⟩])
  (.ret)))))
noncomputable def e_ref03_Times (k : Nat) (D : CallF) : Ent := entOf 109 [(0, .i .i64), (1, .i .i64)] [(4, .i .i64)] (ref03_Times k D)
theorem q_ref03_Times : (Tryz.f109.body).bind (rcodeOf Tryz.prog 2 Tryz.f109.ntmps) = some (strip r_ref03_Times) := by kernel_rfl
theorem t_ref03_Times (k : Nat) (D : CallF) : curF [(0, .i .i64), (1, .i .i64)] (fun args h => denF (C_ref03_Times k D) k r_ref03_Times [(4, .i .i64)] [none] args h) = ref03_Times k D := by kernel_rfl
theorem ok_ref03_Times {D : CallF} (hD : CSound Tryz.prog 2 D) (k : Nat) : EntOk Tryz.prog 2 (e_ref03_Times k D) :=
  entOf_ok2 (mkC_sound hD (EntsOk.none)) Tryz.func109 rfl q_ref03_Times rfl (t_ref03_Times k D)
end Gz
namespace Gz
open Go Gx Go.Proofs
set_option maxRecDepth 100000
noncomputable def C_ref03_Over (k : Nat) (D : CallF) : CallF := mkC D [e_ref03_Times k D]
noncomputable def ref03_Over_l0b (k : Nat) (D : CallF) (j2 : AHeap → Option ((Int) × AHeap)) (rec7 : Int → Int → Int → AHeap → Option ((Int) × AHeap)) (a3 : Int) (b4 : Int) (q5 : Int) (h6 : AHeap) : Option ((Int) × AHeap) :=
  (if (decide (q5 < 256)) = true then
  (ref03_Times k D q5 b4 h6).bind fun r8 =>
  (if (r8.1 == a3) = true then
  some (q5, r8.2)
  else
  rec7 a3 b4 (IntKind.wrap .i64 (q5 + 1)) r8.2)
  else
  j2 h6)
noncomputable def ref03_Over_l0 (k : Nat) (D : CallF) (j2 : AHeap → Option ((Int) × AHeap)) : Int → Int → Int → AHeap → Option ((Int) × AHeap) :=
  iterK (α := Int → Int → Int → AHeap → Option ((Int) × AHeap)) (fun _ _ _ _ => none) k (ref03_Over_l0b k D j2)
noncomputable def ref03_Over (k : Nat) (D : CallF) (a_0 : Int) (b_1 : Int) (h : AHeap) : Option ((Int) × AHeap) :=
  joinK (fun (h1 : AHeap) =>
  some (0, h1)) fun j2 =>
  ref03_Over_l0 k D j2 a_0 b_1 0 h
def r_ref03_Over : RCode := .seq (.region [⟨some 4, .p (.mv (.const (.int .i64 0))), none, none⟩])
  (.seq (.join [] (.seq (.region [⟨some 5, .p (.mv (.const (.int .i64 0))), none, none⟩])
  (.block 0 (.loop [(0, .i .i64), (1, .i .i64), (5, .i .i64)] (.seq (.seq (.region [⟨some 6, .p (.mv (.tmp 5)), none, none⟩,
  ⟨some 7, .p (.bin .lss (.tmp 6) (.const (.int .i64 256))), none, none⟩])
  (.cond (.tmp 7) (.skip) (.exit 0)))
  (.seq (.block 1 (.seq (.region [⟨some 10, .p (.mv (.tmp 5)), none, none⟩,
  ⟨some 11, .p (.mv (.tmp 1)), none, none⟩,
  ⟨some 12, .e (.call (.func 109) [.tmp 10, .tmp 11]), none, none⟩,
  ⟨some 13, .p (.mv (.tmp 0)), none, none⟩,
  ⟨some 14, .p (.bin .eql (.tmp 12) (.tmp 13)), none, none⟩])
  (.cond (.tmp 14) (.seq (.region [⟨some 15, .p (.mv (.tmp 5)), none, none⟩,
  ⟨some 4, .p (.mv (.tmp 15)), none, none⟩])
  (.ret)) (.skip))))
  (.region [⟨some 8, .p (.mv (.tmp 5)), none, none⟩,
  ⟨some 9, .p (.bin .add (.tmp 8) (.const (.int .i64 1))), none, none⟩,
  ⟨some 5, .p (.mv (.tmp 9)), none, none⟩])))))))
  (.seq (.region [⟨some 4, .p (.mv (.const (.int .i64 0))), none, none⟩])
  (.ret)))
noncomputable def e_ref03_Over (k : Nat) (D : CallF) : Ent := entOf 79 [(0, .i .i64), (1, .i .i64)] [(4, .i .i64)] (ref03_Over k D)
theorem q_ref03_Over : (Tryz.f79.body).bind (rcodeOf Tryz.prog 2 Tryz.f79.ntmps) = some (strip r_ref03_Over) := by kernel_rfl
theorem t_ref03_Over (k : Nat) (D : CallF) : curF [(0, .i .i64), (1, .i .i64)] (fun args h => denF (C_ref03_Over k D) k r_ref03_Over [(4, .i .i64)] [none] args h) = ref03_Over k D := by kernel_rfl
theorem ok_ref03_Over {D : CallF} (hD : CSound Tryz.prog 2 D) (k : Nat) : EntOk Tryz.prog 2 (e_ref03_Over k D) :=
  entOf_ok2 (mkC_sound hD (EntsOk.more (ok_ref03_Times hD k) (EntsOk.none))) Tryz.func79 rfl q_ref03_Over rfl (t_ref03_Over k D)
end Gz
