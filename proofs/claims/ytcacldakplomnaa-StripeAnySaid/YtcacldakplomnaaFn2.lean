import Derived.Test.YtcacldakplomnaaProg
import Derived.Test.YtcacldakplomnaaFn1
namespace Gb
open Go Gx Go.Proofs
set_option maxRecDepth 100000
noncomputable def C_law05_StripeAny (k : Nat) (D : CallF) : CallF := mkC D [e_law05_shape k D, e_stripe_New k D, e_stripe_Plan_Split k D, e_law05_chosen k D, e_stripe_Plan_Join k D, e_stripe_Plan_Shard k D, e_law05_works k D]
noncomputable def law05_StripeAny_l0b (k : Nat) (D : CallF) (j36 : ByteArray → (Option Addr) → Slc → AHeap → Option ((Bool) × AHeap)) (rec51 : ByteArray → (Option Addr) → Slc → Slc → Int → Int → AHeap → Option ((Bool) × AHeap)) (s44 : ByteArray) (p45 : Option Addr) (l46 : Slc) (parts47 : Slc) (y48 : Int) (y49 : Int) (h50 : AHeap) : Option ((Bool) × AHeap) :=
  (if (decide (y49 < y48)) = true then
  (stripe_Plan_Shard k D p45 parts47 (s44.size : Int) y49 h50).bind fun r52 =>
  joinK (fun (s53 : ByteArray) (p54 : Option Addr) (l55 : Slc) (parts56 : Slc) (y57 : Int) (y58 : Int) (y59 : Bool) (h60 : AHeap) =>
  (if y59 = true then
  some (false, h60)
  else
  rec51 s53 p54 l55 parts56 y57 (IntKind.wrap .i64 (y58 + 1)) h60)) fun j61 =>
  (if (r52.1.2 != 0) = true then
  j61 s44 p45 l46 parts47 y48 y49 true r52.2
  else
  (Gx.idxL 1 l46 y49).bind fun q62 =>
  (ldS q62 r52.2).bind fun x63 =>
  j61 s44 p45 l46 parts47 y48 y49 (!(r52.1.1 == x63)) r52.2)
  else
  j36 s44 p45 parts47 h50)
noncomputable def law05_StripeAny_l0 (k : Nat) (D : CallF) (j36 : ByteArray → (Option Addr) → Slc → AHeap → Option ((Bool) × AHeap)) : ByteArray → (Option Addr) → Slc → Slc → Int → Int → AHeap → Option ((Bool) × AHeap) :=
  iterK (α := ByteArray → (Option Addr) → Slc → Slc → Int → Int → AHeap → Option ((Bool) × AHeap)) (fun _ _ _ _ _ _ _ => none) k (law05_StripeAny_l0b k D j36)
noncomputable def law05_StripeAny (k : Nat) (D : CallF) (n_0 : Int × Int) (s_1 : ByteArray) (order_2 : Slc) (h : AHeap) : Option ((Bool) × AHeap) :=
  let h1 := AHeap.new h (.cells [.int .i64 n_0.1, .int .i64 n_0.2] 40 true 0)
  (ldA 2 (⟨h.next, 0, none⟩ : Addr) h1).bind fun l2 =>
  (decC [.i .i64, .i .i64] l2).bind fun x3 =>
  (law05_shape k D (x3.1, x3.2) h1).bind fun r4 =>
  (stripe_New k D r4.1.1 r4.1.2 r4.2).bind fun r5 =>
  joinK (fun (s6 : ByteArray) (order7 : Slc) (kv8 : Int) (m9 : Int) (p10 : Option Addr) (y11 : Bool) (h12 : AHeap) =>
  (if y11 = true then
  some (false, h12)
  else
  (if (decide ((s6.size : Int) > 300)) = true then
  some (true, h12)
  else
  (stripe_Plan_Split k D p10 s6 h12).bind fun r14 =>
  joinK (fun (s15 : ByteArray) (order16 : Slc) (kv17 : Int) (p18 : Option Addr) (l19 : Slc) (y20 : Bool) (h21 : AHeap) =>
  (if y20 = true then
  some (false, h21)
  else
  (law05_chosen k D l19 kv17 order16 h21).bind fun r23 =>
  (stripe_Plan_Join k D p18 r23.1 (s15.size : Int) r23.2).bind fun r24 =>
  joinK (fun (s25 : ByteArray) (p26 : Option Addr) (l27 : Slc) (parts28 : Slc) (y29 : Bool) (h30 : AHeap) =>
  (if y29 = true then
  some (false, h30)
  else
  joinK (fun (s32 : ByteArray) (p33 : Option Addr) (parts34 : Slc) (h35 : AHeap) =>
  (Gx.subL 2 parts34 (some 1) none none).bind fun l37 =>
  (stripe_Plan_Join k D p33 l37 (s32.size : Int) h35).bind fun r38 =>
  (Gx.subL 2 parts34 (some 1) none none).bind fun l39 =>
  (Gx.subL 2 parts34 (some 1) none none).bind fun l40 =>
  (rdS 2 l40 r38.2).bind fun n42 =>
  (appendA 2 24 68 r38.2 l39 n42 l40.len).bind fun r41 =>
  (stripe_Plan_Join k D p33 r41.1 (s32.size : Int) r41.2).bind fun r43 =>
  (if (r38.1.2 == 50) = true then
  some ((r43.1.2 == 50), r43.2)
  else
  some (false, r43.2))) fun j36 =>
  law05_StripeAny_l0 k D j36 s25 p26 l27 parts28 (l27.len : Int) 0 h30)) fun j31 =>
  (if (r24.1.2 != 0) = true then
  j31 s15 p18 l19 r23.1 true r24.2
  else
  j31 s15 p18 l19 r23.1 (!(r24.1.1 == s15)) r24.2))) fun j22 =>
  (if (r14.1.2 != 0) = true then
  j22 s6 order7 kv8 p10 r14.1.1 true r14.2
  else
  j22 s6 order7 kv8 p10 r14.1.1 ((r14.1.1.len : Int) != (IntKind.wrap .i64 (kv8 + m9))) r14.2)))) fun j13 =>
  (if r5.1.1.isNone = true then
  j13 s_1 order_2 r4.1.1 r4.1.2 r5.1.1 true r5.2
  else
  (if (r5.1.2 != 0) = true then
  j13 s_1 order_2 r4.1.1 r4.1.2 r5.1.1 true r5.2
  else
  (law05_works k D r5.2).bind fun r64 =>
  j13 s_1 order_2 r4.1.1 r4.1.2 r5.1.1 (!r64.1) r64.2))
def r_law05_StripeAny : RCode := .seq (.region [⟨some 3, .a (.box 40 (.tmp 0)), none, none⟩,
  ⟨some 6, .p (.mv (.const (.bool false))), none, none⟩])
  (.seq (.region [⟨some 20, .l (.load (.agg 2) (.tmp 3)), none, some (.st [.i .i64, .i .i64])⟩,
  ⟨some 21, .e (.call (.func 20) [.tmp 20]), none, none⟩,
  ⟨some 19, .p (.mv (.tmp 21)), none, none⟩,
  ⟨some 22, .p (.extract (.tmp 19) 0), none, none⟩,
  ⟨some 23, .p (.extract (.tmp 19) 1), none, none⟩,
  ⟨some 7, .p (.mv (.tmp 22)), none, none⟩,
  ⟨some 8, .p (.mv (.tmp 23)), none, none⟩])
  (.seq (.region [⟨some 25, .p (.mv (.tmp 7)), none, none⟩,
  ⟨some 26, .p (.mv (.tmp 8)), none, none⟩,
  ⟨some 27, .e (.call (.func 21) [.tmp 25, .tmp 26]), none, none⟩,
  ⟨some 24, .p (.mv (.tmp 27)), none, none⟩,
  ⟨some 28, .p (.extract (.tmp 24) 0), none, none⟩,
  ⟨some 29, .p (.extract (.tmp 24) 1), none, none⟩,
  ⟨some 9, .p (.mv (.tmp 28)), none, none⟩,
  ⟨some 10, .p (.mv (.tmp 29)), none, none⟩])
  (.seq (.seq (.join [(1, .s), (2, .l), (7, .i .i64), (8, .i .i64), (9, .p), (39, .b)] (.region [⟨some 30, .p (.mv (.tmp 9)), none, none⟩,
  ⟨some 31, .p (.isNil .p false (.tmp 30)), none, none⟩,
  ⟨some 32, .p (.mv (.tmp 31)), none, none⟩,
  ⟨some 33, .p (.mv (.tmp 10)), (some (32, false)), none⟩,
  ⟨some 34, .p (.bin .neq (.tmp 33) (.const (.int .i64 0))), (some (32, false)), none⟩,
  ⟨some 35, .p (.pick (.tmp 32) (.const (.bool true)) (.tmp 34)), none, none⟩,
  ⟨some 36, .p (.mv (.tmp 35)), none, none⟩,
  ⟨some 37, .e (.call (.func 22) []), (some (36, false)), none⟩,
  ⟨some 38, .p (.un .not (.tmp 37)), (some (36, false)), none⟩,
  ⟨some 39, .p (.pick (.tmp 36) (.const (.bool true)) (.tmp 38)), none, none⟩]))
  (.cond (.tmp 39) (.seq (.region [⟨some 6, .p (.mv (.const (.bool false))), none, none⟩])
  (.ret)) (.skip)))
  (.seq (.seq (.region [⟨some 40, .p (.mv (.tmp 1)), none, none⟩,
  ⟨some 41, .p (.lenS (.tmp 40)), none, none⟩,
  ⟨some 42, .p (.bin .gtr (.tmp 41) (.const (.int .i64 300))), none, none⟩])
  (.cond (.tmp 42) (.seq (.region [⟨some 6, .p (.mv (.const (.bool true))), none, none⟩])
  (.ret)) (.skip)))
  (.seq (.region [⟨some 44, .p (.mv (.tmp 9)), none, none⟩,
  ⟨some 45, .p (.mv (.tmp 1)), none, none⟩,
  ⟨some 46, .e (.call (.func 23) [.tmp 44, .tmp 45]), none, none⟩,
  ⟨some 43, .p (.mv (.tmp 46)), none, none⟩,
  ⟨some 47, .p (.extract (.tmp 43) 0), none, none⟩,
  ⟨some 48, .p (.extract (.tmp 43) 1), none, none⟩,
  ⟨some 11, .p (.mv (.tmp 47)), none, none⟩,
  ⟨some 10, .p (.mv (.tmp 48)), none, none⟩])
  (.seq (.seq (.join [(1, .s), (2, .l), (7, .i .i64), (9, .p), (11, .l), (58, .b)] (.region [⟨some 49, .p (.mv (.tmp 10)), none, none⟩,
  ⟨some 50, .p (.bin .neq (.tmp 49) (.const (.int .i64 0))), none, none⟩,
  ⟨some 51, .p (.mv (.tmp 50)), none, none⟩,
  ⟨some 52, .p (.mv (.tmp 11)), (some (51, false)), none⟩,
  ⟨some 53, .p (.lenL (.tmp 52)), (some (51, false)), none⟩,
  ⟨some 54, .p (.mv (.tmp 7)), (some (51, false)), none⟩,
  ⟨some 55, .p (.mv (.tmp 8)), (some (51, false)), none⟩,
  ⟨some 56, .p (.bin .add (.tmp 54) (.tmp 55)), (some (51, false)), none⟩,
  ⟨some 57, .p (.bin .neq (.tmp 53) (.tmp 56)), (some (51, false)), none⟩,
  ⟨some 58, .p (.pick (.tmp 51) (.const (.bool true)) (.tmp 57)), none, none⟩]))
  (.cond (.tmp 58) (.seq (.region [⟨some 6, .p (.mv (.const (.bool false))), none, none⟩])
  (.ret)) (.skip)))
  (.seq (.region [⟨some 59, .p (.mv (.tmp 11)), none, none⟩,
  ⟨some 60, .p (.mv (.tmp 7)), none, none⟩,
  ⟨some 61, .p (.mv (.tmp 2)), none, none⟩,
  ⟨some 62, .e (.call (.func 31) [.tmp 59, .tmp 60, .tmp 61]), none, none⟩,
  ⟨some 12, .p (.mv (.tmp 62)), none, none⟩])
  (.seq (.region [⟨some 64, .p (.mv (.tmp 9)), none, none⟩,
  ⟨some 65, .p (.mv (.tmp 12)), none, none⟩,
  ⟨some 66, .p (.mv (.tmp 1)), none, none⟩,
  ⟨some 67, .p (.lenS (.tmp 66)), none, none⟩,
  ⟨some 68, .e (.call (.func 32) [.tmp 64, .tmp 65, .tmp 67]), none, none⟩,
  ⟨some 63, .p (.mv (.tmp 68)), none, none⟩,
  ⟨some 69, .p (.extract (.tmp 63) 0), none, none⟩,
  ⟨some 70, .p (.extract (.tmp 63) 1), none, none⟩,
  ⟨some 13, .p (.mv (.tmp 69)), none, none⟩,
  ⟨some 10, .p (.mv (.tmp 70)), none, none⟩])
  (.seq (.seq (.join [(1, .s), (9, .p), (11, .l), (12, .l), (77, .b)] (.region [⟨some 71, .p (.mv (.tmp 10)), none, none⟩,
  ⟨some 72, .p (.bin .neq (.tmp 71) (.const (.int .i64 0))), none, none⟩,
  ⟨some 73, .p (.mv (.tmp 72)), none, none⟩,
  ⟨some 74, .p (.mv (.tmp 13)), (some (73, false)), none⟩,
  ⟨some 75, .p (.mv (.tmp 1)), (some (73, false)), none⟩,
  ⟨some 76, .p (.bin .neq (.tmp 74) (.tmp 75)), (some (73, false)), none⟩,
  ⟨some 77, .p (.pick (.tmp 73) (.const (.bool true)) (.tmp 76)), none, none⟩]))
  (.cond (.tmp 77) (.seq (.region [⟨some 6, .p (.mv (.const (.bool false))), none, none⟩])
  (.ret)) (.skip)))
  (.seq (.join [(1, .s), (9, .p), (12, .l)] (.seq (.region [⟨some 78, .p (.mv (.tmp 11)), none, none⟩,
  ⟨some 79, .p (.lenL (.tmp 78)), none, none⟩,
  ⟨some 80, .p (.mv (.const (.int .i64 0))), none, none⟩])
  (.block 0 (.loop [(1, .s), (9, .p), (11, .l), (12, .l), (79, .i .i64), (80, .i .i64)] (.seq (.region [⟨some 81, .p (.bin .lss (.tmp 80) (.tmp 79)), none, none⟩])
  (.seq (.cond (.tmp 81) (.skip) (.exit 0))
  (.seq (.block 1 (.seq (.region [⟨some 82, .p (.mv (.tmp 80)), none, none⟩,
  ⟨some 14, .p (.mv (.tmp 82)), none, none⟩])
  (.seq (.region [⟨some 84, .p (.mv (.tmp 9)), none, none⟩,
  ⟨some 85, .p (.mv (.tmp 12)), none, none⟩,
  ⟨some 86, .p (.mv (.tmp 1)), none, none⟩,
  ⟨some 87, .p (.lenS (.tmp 86)), none, none⟩,
  ⟨some 88, .p (.mv (.tmp 14)), none, none⟩,
  ⟨some 89, .e (.call (.func 33) [.tmp 84, .tmp 85, .tmp 87, .tmp 88]), none, none⟩,
  ⟨some 83, .p (.mv (.tmp 89)), none, none⟩,
  ⟨some 90, .p (.extract (.tmp 83) 0), none, none⟩,
  ⟨some 91, .p (.extract (.tmp 83) 1), none, none⟩,
  ⟨some 15, .p (.mv (.tmp 90)), none, none⟩,
  ⟨some 16, .p (.mv (.tmp 91)), none, none⟩])
  (.seq (.join [(1, .s), (9, .p), (11, .l), (12, .l), (79, .i .i64), (80, .i .i64), (101, .b)] (.region [⟨some 92, .p (.mv (.tmp 16)), none, none⟩,
  ⟨some 93, .p (.bin .neq (.tmp 92) (.const (.int .i64 0))), none, none⟩,
  ⟨some 94, .p (.mv (.tmp 93)), none, none⟩,
  ⟨some 95, .p (.mv (.tmp 15)), (some (94, false)), none⟩,
  ⟨some 96, .p (.mv (.tmp 11)), (some (94, false)), none⟩,
  ⟨some 97, .p (.mv (.tmp 14)), (some (94, false)), none⟩,
  ⟨some 98, .p (.idxL 1 (.tmp 96) (.tmp 97)), (some (94, false)), none⟩,
  ⟨some 99, .l (.load (.s) (.tmp 98)), (some (94, false)), none⟩,
  ⟨some 100, .p (.bin .neq (.tmp 95) (.tmp 99)), (some (94, false)), none⟩,
  ⟨some 101, .p (.pick (.tmp 94) (.const (.bool true)) (.tmp 100)), none, none⟩]))
  (.cond (.tmp 101) (.seq (.region [⟨some 6, .p (.mv (.const (.bool false))), none, none⟩])
  (.ret)) (.skip))))))
  (.region [⟨some 102, .p (.bin .add (.tmp 80) (.const (.int .i64 1))), none, none⟩,
  ⟨some 80, .p (.mv (.tmp 102)), none, none⟩]))))))))
  (.seq (.region [⟨some 104, .p (.mv (.tmp 9)), none, none⟩,
  ⟨some 105, .p (.mv (.tmp 12)), none, none⟩,
  ⟨some 106, .p (.subL 2 (.tmp 105) (some (.const (.int .i64 1))) none none), none, none⟩,
  ⟨some 107, .p (.mv (.tmp 1)), none, none⟩,
  ⟨some 108, .p (.lenS (.tmp 107)), none, none⟩,
  ⟨some 109, .e (.call (.func 32) [.tmp 104, .tmp 106, .tmp 108]), none, none⟩,
  ⟨some 103, .p (.mv (.tmp 109)), none, none⟩,
  ⟨some 110, .p (.extract (.tmp 103) 0), none, none⟩,
  ⟨some 111, .p (.extract (.tmp 103) 1), none, none⟩,
  ⟨some 10, .p (.mv (.tmp 111)), none, none⟩])
  (.seq (.draw [⟨1, ⟨some 114, .p (.mv (.tmp 12)), none, none⟩, [12], 0⟩,
  ⟨2, ⟨some 115, .p (.subL 2 (.tmp 114) (some (.const (.int .i64 1))) none none), none, none⟩, [114], 0⟩,
  ⟨3, ⟨some 116, .p (.mv (.tmp 12)), none, none⟩, [12], 0⟩,
  ⟨4, ⟨some 117, .p (.subL 2 (.tmp 116) (some (.const (.int .i64 1))) none none), none, none⟩, [116], 0⟩,
  ⟨5, ⟨some 118, .e (.append 2 24 68 [.int .i64 0, .string ⟨#[]⟩] .slice (.tmp 115) (.tmp 117)), none, none⟩, [115, 117], 0⟩,
  ⟨0, ⟨some 113, .p (.mv (.tmp 9)), none, none⟩, [9], 1⟩,
  ⟨6, ⟨some 119, .p (.mv (.tmp 1)), none, none⟩, [1], 1⟩,
  ⟨7, ⟨some 120, .p (.lenS (.tmp 119)), none, none⟩, [119], 1⟩,
  ⟨8, ⟨some 121, .e (.call (.func 32) [.tmp 113, .tmp 118, .tmp 120]), none, none⟩, [113, 118, 120], 0⟩,
  ⟨9, ⟨some 112, .p (.mv (.tmp 121)), none, none⟩, [121], 0⟩,
  ⟨10, ⟨some 122, .p (.extract (.tmp 112) 0), none, none⟩, [112], 0⟩,
  ⟨11, ⟨some 123, .p (.extract (.tmp 112) 1), none, none⟩, [112], 0⟩,
  ⟨12, ⟨some 17, .p (.mv (.tmp 122)), none, none⟩, [122], 0⟩,
  ⟨13, ⟨some 18, .p (.mv (.tmp 123)), none, none⟩, [123], 0⟩])
  (.seq (.region [⟨some 124, .p (.mv (.tmp 10)), none, none⟩,
  ⟨some 125, .p (.bin .eql (.tmp 124) (.const (.int .i64 50))), none, none⟩,
  ⟨some 126, .p (.mv (.tmp 125)), none, none⟩,
  ⟨some 127, .p (.mv (.tmp 18)), (some (126, true)), none⟩,
  ⟨some 128, .p (.bin .eql (.tmp 127) (.const (.int .i64 50))), (some (126, true)), none⟩,
  ⟨some 129, .p (.pick (.tmp 126) (.tmp 128) (.const (.bool false))), none, none⟩,
  ⟨some 6, .p (.mv (.tmp 129)), none, none⟩])
  (.ret))))))))))))))
noncomputable def e_law05_StripeAny (k : Nat) (D : CallF) : Ent := entOf 7 [(0, .st [.i .i64, .i .i64]), (1, .s), (2, .l)] [(6, .b)] (law05_StripeAny k D)
theorem q_law05_StripeAny : (Try.f7.body).bind (rcodeOf Try.prog 0 Try.f7.ntmps) = some (strip r_law05_StripeAny) := by kernel_rfl
theorem t_law05_StripeAny (k : Nat) (D : CallF) : curF [(0, .st [.i .i64, .i .i64]), (1, .s), (2, .l)] (fun args h => denF (C_law05_StripeAny k D) k r_law05_StripeAny [(6, .b)] [none] args h) = law05_StripeAny k D := by kernel_rfl
theorem ok_law05_StripeAny {D : CallF} (hD : CSound Try.prog 0 D) (k : Nat) : EntOk Try.prog 0 (e_law05_StripeAny k D) :=
  entOf_ok2 (mkC_sound hD (EntsOk.more (ok_law05_shape hD k) (EntsOk.more (ok_stripe_New hD k) (EntsOk.more (ok_stripe_Plan_Split hD k) (EntsOk.more (ok_law05_chosen hD k) (EntsOk.more (ok_stripe_Plan_Join hD k) (EntsOk.more (ok_stripe_Plan_Shard hD k) (EntsOk.more (ok_law05_works hD k) (EntsOk.none))))))))) Try.func7 rfl q_law05_StripeAny rfl (t_law05_StripeAny k D)
end Gb
