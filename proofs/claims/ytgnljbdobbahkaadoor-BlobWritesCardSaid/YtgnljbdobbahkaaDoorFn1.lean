import Derived.Test.YtgnljbdobbahkaaDoorProg
import Derived.WalkKit
import Derived.Laws.Externs
import Derived.KernelRfl
import Derived.Test.YtgnljbdobbahkaaDoorGx3
namespace Ge
open Go Gx Go.Proofs
set_option maxRecDepth 100000
noncomputable def C_blob_known (_k : Nat) (D : CallF) : CallF := mkC D []
noncomputable def blob_known (_k : Nat) (_D : CallF) (kind_0 : Int) (h : AHeap) : Option ((Bool) × AHeap) :=
 (if (kind_0 == 1) = true then
 some (true, h)
 else
 some ((kind_0 == 2), h))
noncomputable def r_blob_known : RCode := an (.n) (rOf Tryd.prog 2 Tryd.f40)
noncomputable def e_blob_known (k : Nat) (D : CallF) : Ent := entOf 40 [(0, .i .i64)] [(2, .b)] (blob_known k D)
theorem q_blob_known : (Tryd.f40.body).bind (rcodeOf Tryd.prog 2 Tryd.f40.ntmps) = some (strip r_blob_known) := by kernel_rfl
theorem t_blob_known (k : Nat) (D : CallF) : curF [(0, .i .i64)] (fun args h => denF (C_blob_known k D) k r_blob_known [(2, .b)] [none] args h) = blob_known k D := by kernel_rfl
theorem ok_blob_known {D : CallF} (hD : CSound Tryd.prog 2 D) (k : Nat) : EntOk Tryd.prog 2 (e_blob_known k D) :=
 entOf_ok2 (mkC_sound hD (EntsOk.none)) Tryd.func40 rfl q_blob_known rfl (t_blob_known k D)
end Ge
namespace Ge
open Go Gx Go.Proofs
set_option maxRecDepth 100000
noncomputable def C_sha_first (_k : Nat) (D : CallF) : CallF := mkC D []
noncomputable def sha_first (_k : Nat) (_D : CallF)  (h : AHeap) : Option (((Int × Int × Int × Int × Int × Int × Int × Int)) × AHeap) :=
 let h1 := AHeap.new h (.cells [.int .u32 0, .int .u32 0, .int .u32 0, .int .u32 0, .int .u32 0, .int .u32 0, .int .u32 0, .int .u32 0] 147 true 0)
 (stL 8 (⟨h.next, 0, none⟩ : Addr) ([.int .u32 1779033703, .int .u32 3144134277, .int .u32 1013904242, .int .u32 2773480762, .int .u32 1359893119, .int .u32 2600822924, .int .u32 528734635, .int .u32 1541459225]) h1).bind fun h2 =>
 (ldA 8 (⟨h.next, 0, none⟩ : Addr) h2).bind fun l3 =>
 (decC [.i .u32, .i .u32, .i .u32, .i .u32, .i .u32, .i .u32, .i .u32, .i .u32] l3).bind fun x4 =>
 some ((x4.1, x4.2.1, x4.2.2.1, x4.2.2.2.1, x4.2.2.2.2.1, x4.2.2.2.2.2.1, x4.2.2.2.2.2.2.1, x4.2.2.2.2.2.2.2), h2)
noncomputable def r_sha_first : RCode := an (.n) (rOf Tryd.prog 2 Tryd.f88)
noncomputable def e_sha_first (k : Nat) (D : CallF) : Ent := entOf 88 [] [(0, .st [.i .u32, .i .u32, .i .u32, .i .u32, .i .u32, .i .u32, .i .u32, .i .u32])] (sha_first k D)
theorem q_sha_first : (Tryd.f88.body).bind (rcodeOf Tryd.prog 2 Tryd.f88.ntmps) = some (strip r_sha_first) := by kernel_rfl
theorem t_sha_first (k : Nat) (D : CallF) : curF [] (fun args h => denF (C_sha_first k D) k r_sha_first [(0, .st [.i .u32, .i .u32, .i .u32, .i .u32, .i .u32, .i .u32, .i .u32, .i .u32])] [some (.agg 8)] args h) = sha_first k D := by kernel_rfl
theorem ok_sha_first {D : CallF} (hD : CSound Tryd.prog 2 D) (k : Nat) : EntOk Tryd.prog 2 (e_sha_first k D) :=
 entOf_ok2 (mkC_sound hD (EntsOk.none)) Tryd.func88 rfl q_sha_first rfl (t_sha_first k D)
end Ge
namespace Ge
open Go Gx Go.Proofs
set_option maxRecDepth 100000
noncomputable def C_sha_New (k : Nat) (D : CallF) : CallF := mkC D [e_sha_first k D]
noncomputable def sha_New (k : Nat) (D : CallF)  (h : AHeap) : Option (((Option Addr)) × AHeap) :=
 (sha_first k D h).bind fun r1 =>
 let h2 := AHeap.new r1.2 (.cells [.int .u32 r1.1.1, .int .u32 r1.1.2.1, .int .u32 r1.1.2.2.1, .int .u32 r1.1.2.2.2.1, .int .u32 r1.1.2.2.2.2.1, .int .u32 r1.1.2.2.2.2.2.1, .int .u32 r1.1.2.2.2.2.2.2.1, .int .u32 r1.1.2.2.2.2.2.2.2, .slice none 0 0, .int .i64 0] 150 true 0)
 some ((some (⟨r1.2.next, 0, none⟩ : Addr)), h2)
noncomputable def r_sha_New : RCode := an (.n) (rOf Tryd.prog 2 Tryd.f52)
noncomputable def e_sha_New (k : Nat) (D : CallF) : Ent := entOf 52 [] [(0, .p)] (sha_New k D)
theorem q_sha_New : (Tryd.f52.body).bind (rcodeOf Tryd.prog 2 Tryd.f52.ntmps) = some (strip r_sha_New) := by kernel_rfl
theorem t_sha_New (k : Nat) (D : CallF) : curF [] (fun args h => denF (C_sha_New k D) k r_sha_New [(0, .p)] [none] args h) = sha_New k D := by kernel_rfl
theorem ok_sha_New {D : CallF} (hD : CSound Tryd.prog 2 D) (k : Nat) : EntOk Tryd.prog 2 (e_sha_New k D) :=
 entOf_ok2 (mkC_sound hD (EntsOk.more (ok_sha_first hD k) (EntsOk.none))) Tryd.func52 rfl q_sha_New rfl (t_sha_New k D)
end Ge
namespace Ge
open Go Gx Go.Proofs
set_option maxRecDepth 100000
noncomputable def C_sha_Hash_Fork (_k : Nat) (D : CallF) : CallF := mkC D []
noncomputable def sha_Hash_Fork (_k : Nat) (_D : CallF) (h_0 : Option Addr) (h : AHeap) : Option (((Option Addr)) × AHeap) :=
 (h_0).bind fun p1 =>
 (ldL (⟨p1.block, p1.off + 8, none⟩ : Addr) h).bind fun x2 =>
 (rdS 1 x2 h).bind fun n4 =>
 (appendA 1 1 5 h (⟨none, 0, 0⟩ : Slc) n4 x2.len).bind fun r3 =>
 (h_0).bind fun p5 =>
 (ldA 8 (⟨p5.block, p5.off + 0, none⟩ : Addr) r3.2).bind fun l6 =>
 guardP (SameW [h] (fun H8 => (ldA 8 (⟨p5.block, p5.off + 0, none⟩ : Addr) H8).bind fun y7 => some (.agg ⟨y7⟩)) (.agg ⟨l6⟩)) (
 (decC [.i .u32, .i .u32, .i .u32, .i .u32, .i .u32, .i .u32, .i .u32, .i .u32] l6).bind fun x9 =>
 (h_0).bind fun p10 =>
 (ldI .i64 (⟨p10.block, p10.off + 9, none⟩ : Addr) r3.2).bind fun x11 =>
 guardP (SameW [h] (fun H13 => (ldI .i64 (⟨p10.block, p10.off + 9, none⟩ : Addr) H13).bind fun y12 => some (.int .i64 y12)) (.int .i64 x11)) (
 let h14 := AHeap.new r3.2 (.cells [.int .u32 x9.1, .int .u32 x9.2.1, .int .u32 x9.2.2.1, .int .u32 x9.2.2.2.1, .int .u32 x9.2.2.2.2.1, .int .u32 x9.2.2.2.2.2.1, .int .u32 x9.2.2.2.2.2.2.1, .int .u32 x9.2.2.2.2.2.2.2, .slice r3.1.a r3.1.len r3.1.cap, .int .i64 x11] 150 true 0)
 some ((some (⟨r3.2.next, 0, none⟩ : Addr)), h14)))
noncomputable def r_sha_Hash_Fork : RCode := an (.s .n (.s (.r [(8, .st [.i .u32, .i .u32, .i .u32, .i .u32, .i .u32, .i .u32, .i .u32, .i .u32])]) .n)) (rOf Tryd.prog 2 Tryd.f90)
noncomputable def e_sha_Hash_Fork (k : Nat) (D : CallF) : Ent := entOf 90 [(0, .p)] [(2, .p)] (sha_Hash_Fork k D)
theorem q_sha_Hash_Fork : (Tryd.f90.body).bind (rcodeOf Tryd.prog 2 Tryd.f90.ntmps) = some (strip r_sha_Hash_Fork) := by kernel_rfl
theorem t_sha_Hash_Fork (k : Nat) (D : CallF) : curF [(0, .p)] (fun args h => denF (C_sha_Hash_Fork k D) k r_sha_Hash_Fork [(2, .p)] [none] args h) = sha_Hash_Fork k D := by kernel_rfl
theorem ok_sha_Hash_Fork {D : CallF} (hD : CSound Tryd.prog 2 D) (k : Nat) : EntOk Tryd.prog 2 (e_sha_Hash_Fork k D) :=
 entOf_ok2 (mkC_sound hD (EntsOk.none)) Tryd.func90 rfl q_sha_Hash_Fork rfl (t_sha_Hash_Fork k D)
end Ge
namespace Ge
open Go Gx Go.Proofs
set_option maxRecDepth 100000
noncomputable def C_math_bits_RotateLeft32 (_k : Nat) (D : CallF) : CallF := mkC D []
noncomputable def math_bits_RotateLeft32 (_k : Nat) (_D : CallF) (x_0 : Int) (k_1 : Int) (h : AHeap) : Option ((Int) × AHeap) :=
 (if 0 ≤ (Go.bits .and .u64 (IntKind.wrap .u64 k_1) 31) then
 let t1 : Int := (IntKind.wrap .u32 (x_0 * 2 ^ (min ((Go.bits .and .u64 (IntKind.wrap .u64 k_1) 31)).toNat (IntKind.bits .u32))))
 let t2 : Int := (IntKind.wrap .u64 (32 - (Go.bits .and .u64 (IntKind.wrap .u64 k_1) 31)))
 (if 0 ≤ t2 then
 let t3 : Int := (Go.bits .or .u32 t1 (Int.fdiv x_0 (2 ^ (min (t2).toNat (IntKind.bits .u32)))))
 some (t3, h)
 else none)
 else none)
noncomputable def r_math_bits_RotateLeft32 : RCode := an (.n) (rOf Tryd.prog 2 Tryd.f117)
noncomputable def e_math_bits_RotateLeft32 (k : Nat) (D : CallF) : Ent := entOf 117 [(0, .i .u32), (1, .i .i64)] [(4, .i .u32)] (math_bits_RotateLeft32 k D)
theorem q_math_bits_RotateLeft32 : (Tryd.f117.body).bind (rcodeOf Tryd.prog 2 Tryd.f117.ntmps) = some (strip r_math_bits_RotateLeft32) := by kernel_rfl
theorem t_math_bits_RotateLeft32 (k : Nat) (D : CallF) : curF [(0, .i .u32), (1, .i .i64)] (fun args h => denF (C_math_bits_RotateLeft32 k D) k r_math_bits_RotateLeft32 [(4, .i .u32)] [none] args h) = math_bits_RotateLeft32 k D := by kernel_rfl
theorem ok_math_bits_RotateLeft32 {D : CallF} (hD : CSound Tryd.prog 2 D) (k : Nat) : EntOk Tryd.prog 2 (e_math_bits_RotateLeft32 k D) :=
 entOf_ok2 (mkC_sound hD (EntsOk.none)) Tryd.func117 rfl q_math_bits_RotateLeft32 rfl (t_math_bits_RotateLeft32 k D)
end Ge
namespace Ge
open Go Gx Go.Proofs
set_option maxRecDepth 100000
noncomputable def C_sha_spread (k : Nat) (D : CallF) : CallF := mkC D [e_math_bits_RotateLeft32 k D]
noncomputable def sha_spread_l1b (_k : Nat) (_D : CallF) (j4 : (Option Addr) → AHeap → Option (((List Value)) × AHeap)) (rec46 : Slc → (Option Addr) → Int → AHeap → Option (((List Value)) × AHeap)) (b42 : Slc) (w43 : Option Addr) (y44 : Int) (h45 : AHeap) : Option (((List Value)) × AHeap) :=
 (if (decide (y44 < 16)) = true then
 (Gx.idxL 1 b42 (IntKind.wrap .i64 (4 * y44))).bind fun q47 =>
 (ldI .u8 q47 h45).bind fun x48 =>
 (Gx.idxL 1 b42 (IntKind.wrap .i64 ((IntKind.wrap .i64 (4 * y44)) + 1))).bind fun q49 =>
 (ldI .u8 q49 h45).bind fun x50 =>
 let t51 : Int := (Go.bits .or .u32 (IntKind.wrap .u32 ((IntKind.wrap .u32 x48) * 16777216)) (IntKind.wrap .u32 ((IntKind.wrap .u32 x50) * 65536)))
 (Gx.idxL 1 b42 (IntKind.wrap .i64 ((IntKind.wrap .i64 (4 * y44)) + 2))).bind fun q52 =>
 (ldI .u8 q52 h45).bind fun x53 =>
 let t54 : Int := (Go.bits .or .u32 t51 (IntKind.wrap .u32 ((IntKind.wrap .u32 x53) * 256)))
 (Gx.idxL 1 b42 (IntKind.wrap .i64 ((IntKind.wrap .i64 (4 * y44)) + 3))).bind fun q55 =>
 (ldI .u8 q55 h45).bind fun x56 =>
 (w43).bind fun p58 =>
 (Gx.idxA 64 1 p58 y44).bind fun q57 =>
 (st1 q57 (.int .u32 (Go.bits .or .u32 t54 (IntKind.wrap .u32 x56))) h45).bind fun h59 =>
 rec46 b42 w43 (IntKind.wrap .i64 (y44 + 1)) h59
 else
 j4 w43 h45)
noncomputable def sha_spread_l1 (k : Nat) (D : CallF) (j4 : (Option Addr) → AHeap → Option (((List Value)) × AHeap)) : Slc → (Option Addr) → Int → AHeap → Option (((List Value)) × AHeap) :=
 iterK (α := Slc → (Option Addr) → Int → AHeap → Option (((List Value)) × AHeap)) (fun _ _ _ _ => none) k (sha_spread_l1b k D j4)
noncomputable def sha_spread_l0b (k : Nat) (D : CallF) (j7 : (Option Addr) → AHeap → Option (((List Value)) × AHeap)) (rec19 : (Option Addr) → Int → AHeap → Option (((List Value)) × AHeap)) (w15 : Option Addr) (i17 : Int) (h18 : AHeap) : Option (((List Value)) × AHeap) :=
 (if (decide (i17 < 64)) = true then
 (w15).bind fun p21 =>
 (Gx.idxA 64 1 p21 (IntKind.wrap .i64 (i17 - 15))).bind fun q20 =>
 (ldI .u32 q20 h18).bind fun x22 =>
 (w15).bind fun p24 =>
 (Gx.idxA 64 1 p24 (IntKind.wrap .i64 (i17 - 2))).bind fun q23 =>
 (ldI .u32 q23 h18).bind fun x25 =>
 (math_bits_RotateLeft32 k D x22 (-7) h18).bind fun r26 =>
 (math_bits_RotateLeft32 k D x22 (-18) r26.2).bind fun r27 =>
 let t28 : Int := (Go.bits .xor .u32 (Go.bits .xor .u32 r26.1 r27.1) (Int.fdiv x22 8))
 (math_bits_RotateLeft32 k D x25 (-17) r27.2).bind fun r29 =>
 (math_bits_RotateLeft32 k D x25 (-19) r29.2).bind fun r30 =>
 let t31 : Int := (Go.bits .xor .u32 (Go.bits .xor .u32 r29.1 r30.1) (Int.fdiv x25 1024))
 (w15).bind fun p33 =>
 (Gx.idxA 64 1 p33 (IntKind.wrap .i64 (i17 - 16))).bind fun q32 =>
 (ldI .u32 q32 r30.2).bind fun x34 =>
 (w15).bind fun p36 =>
 (Gx.idxA 64 1 p36 (IntKind.wrap .i64 (i17 - 7))).bind fun q35 =>
 (ldI .u32 q35 r30.2).bind fun x37 =>
 let t38 : Int := (IntKind.wrap .u32 ((IntKind.wrap .u32 ((IntKind.wrap .u32 (x34 + t28)) + x37)) + t31))
 (w15).bind fun p40 =>
 (Gx.idxA 64 1 p40 i17).bind fun q39 =>
 (st1 q39 (.int .u32 t38) r30.2).bind fun h41 =>
 rec19 w15 (IntKind.wrap .i64 (i17 + 1)) h41
 else
 j7 w15 h18)
noncomputable def sha_spread_l0 (k : Nat) (D : CallF) (j7 : (Option Addr) → AHeap → Option (((List Value)) × AHeap)) : (Option Addr) → Int → AHeap → Option (((List Value)) × AHeap) :=
 iterK (α := (Option Addr) → Int → AHeap → Option (((List Value)) × AHeap)) (fun _ _ _ => none) k (sha_spread_l0b k D j7)
noncomputable def sha_spread (k : Nat) (D : CallF) (b_0 : Slc) (h : AHeap) : Option (((List Value)) × AHeap) :=
 let h1 := AHeap.new h (.cells (List.replicate 64 (.int .u32 0)) 174 true 0)
 joinK (fun (w2 : Option Addr) (h3 : AHeap) =>
 joinK (fun (w5 : Option Addr) (h6 : AHeap) =>
 (w5).bind fun p8 =>
 (ldA 64 p8 h6).bind fun l9 =>
 (w5).bind fun p10 =>
 (stL 64 p10 l9 h6).bind fun h11 =>
 (w5).bind fun p12 =>
 (ldA 64 p12 h11).bind fun l13 =>
 (decA 64 (.agg ⟨l13⟩)).bind fun l14 =>
 some (l14, h11)) fun j7 =>
 sha_spread_l0 k D j7 w2 16 h3) fun j4 =>
 sha_spread_l1 k D j4 b_0 (some (⟨h.next, 0, none⟩ : Addr)) 0 h1
noncomputable def r_sha_spread : RCode := an (.s .n (.s (.j [(2, .p)] (.s .n (.b (.l [(0, .l), (2, .p), (7, .i .i64)] .n)))) (.s (.j [(2, .p)] (.s .n (.b (.l [(2, .p), (4, .i .i64)] .n)))) .n))) (rOf Tryd.prog 2 Tryd.f116)
noncomputable def e_sha_spread (k : Nat) (D : CallF) : Ent := entOf 116 [(0, .l)] [(2, .agg 64)] (sha_spread k D)
theorem q_sha_spread : (Tryd.f116.body).bind (rcodeOf Tryd.prog 2 Tryd.f116.ntmps) = some (strip r_sha_spread) := by kernel_rfl
theorem t_sha_spread (k : Nat) (D : CallF) : curF [(0, .l)] (fun args h => denF (C_sha_spread k D) k r_sha_spread [(2, .agg 64)] [some (.agg 64)] args h) = sha_spread k D := by kernel_rfl
theorem ok_sha_spread {D : CallF} (hD : CSound Tryd.prog 2 D) (k : Nat) : EntOk Tryd.prog 2 (e_sha_spread k D) :=
 entOf_ok2 (mkC_sound hD (EntsOk.more (ok_math_bits_RotateLeft32 hD k) (EntsOk.none))) Tryd.func116 rfl q_sha_spread rfl (t_sha_spread k D)
end Ge
namespace Ge
open Go Gx Go.Proofs
set_option maxRecDepth 100000
noncomputable def C_sha_Hash_take (k : Nat) (D : CallF) : CallF := mkC D [e_sha_spread k D, e_math_bits_RotateLeft32 k D]
noncomputable def sha_Hash_take_l1b (k : Nat) (D : CallF) (j38 : (Option Addr) → Int → Int → Int → Int → Int → Int → Int → Int → AHeap → Option ((Unit) × AHeap)) (rec64 : (Option Addr) → (Option Addr) → Int → Int → Int → Int → Int → Int → Int → Int → Int → AHeap → Option ((Unit) × AHeap)) (hv52 : Option Addr) (w53 : Option Addr) (a54 : Int) (b55 : Int) (c56 : Int) (d57 : Int) (e58 : Int) (f59 : Int) (g60 : Int) (last61 : Int) (y62 : Int) (h63 : AHeap) : Option ((Unit) × AHeap) :=
 (if (decide (y62 < 64)) = true then
 (math_bits_RotateLeft32 k D e58 (-6) h63).bind fun r65 =>
 (math_bits_RotateLeft32 k D e58 (-11) r65.2).bind fun r66 =>
 (math_bits_RotateLeft32 k D e58 (-25) r66.2).bind fun r67 =>
 let t68 : Int := (IntKind.wrap .u32 (last61 + (Go.bits .xor .u32 (Go.bits .xor .u32 r65.1 r66.1) r67.1)))
 let t69 : Int := (Go.bits .and .u32 (Go.bits .xor .u32 (IntKind.max .u32) e58) g60)
 let t70 : Int := (IntKind.wrap .u32 (t68 + (Go.bits .xor .u32 (Go.bits .and .u32 e58 f59) t69)))
 (Gx.idxA 64 1 (⟨0, 0, none⟩ : Addr) y62).bind fun q71 =>
 (ldI .u32 q71 r67.2).bind fun x72 =>
 (w53).bind fun p74 =>
 (Gx.idxA 64 1 p74 y62).bind fun q73 =>
 (ldI .u32 q73 r67.2).bind fun x75 =>
 (math_bits_RotateLeft32 k D a54 (-2) r67.2).bind fun r76 =>
 (math_bits_RotateLeft32 k D a54 (-13) r76.2).bind fun r77 =>
 (math_bits_RotateLeft32 k D a54 (-22) r77.2).bind fun r78 =>
 let t79 : Int := (Go.bits .xor .u32 (Go.bits .and .u32 a54 b55) (Go.bits .and .u32 a54 c56))
 let t80 : Int := (IntKind.wrap .u32 ((Go.bits .xor .u32 (Go.bits .xor .u32 r76.1 r77.1) r78.1) + (Go.bits .xor .u32 t79 (Go.bits .and .u32 b55 c56))))
 let t81 : Int := (IntKind.wrap .u32 (d57 + (IntKind.wrap .u32 ((IntKind.wrap .u32 (t70 + x72)) + x75))))
 let t82 : Int := (IntKind.wrap .u32 ((IntKind.wrap .u32 ((IntKind.wrap .u32 (t70 + x72)) + x75)) + t80))
 rec64 hv52 w53 t82 a54 b55 c56 t81 e58 f59 g60 (IntKind.wrap .i64 (y62 + 1)) r78.2
 else
 j38 hv52 a54 b55 c56 d57 e58 f59 g60 last61 h63)
noncomputable def sha_Hash_take_l1 (k : Nat) (D : CallF) (j38 : (Option Addr) → Int → Int → Int → Int → Int → Int → Int → Int → AHeap → Option ((Unit) × AHeap)) : (Option Addr) → (Option Addr) → Int → Int → Int → Int → Int → Int → Int → Int → Int → AHeap → Option ((Unit) × AHeap) :=
 iterK (α := (Option Addr) → (Option Addr) → Int → Int → Int → Int → Int → Int → Int → Int → Int → AHeap → Option ((Unit) × AHeap)) (fun _ _ _ _ _ _ _ _ _ _ _ _ => none) k (sha_Hash_take_l1b k D j38)
noncomputable def sha_Hash_take_l0b (_k : Nat) (_D : CallF)  (rec43 : (Option Addr) → (Int × Int × Int × Int × Int × Int × Int × Int) → Int → AHeap → Option ((Unit) × AHeap)) (hv39 : Option Addr) (y40 : Int × Int × Int × Int × Int × Int × Int × Int) (y41 : Int) (h42 : AHeap) : Option ((Unit) × AHeap) :=
 (if (decide (y41 < 8)) = true then
 (if 0 ≤ y41 ∧ y41 < ((8 : Nat) : Int) then
 (([.int .u32 y40.1, .int .u32 y40.2.1, .int .u32 y40.2.2.1, .int .u32 y40.2.2.2.1, .int .u32 y40.2.2.2.2.1, .int .u32 y40.2.2.2.2.2.1, .int .u32 y40.2.2.2.2.2.2.1, .int .u32 y40.2.2.2.2.2.2.2])[(y41).toNat * 1]?).bind fun v44 =>
 (decI .u32 v44).bind fun x45 =>
 (hv39).bind fun p46 =>
 (Gx.idxA 8 1 (⟨p46.block, p46.off + 0, none⟩ : Addr) y41).bind fun q47 =>
 (ldI .u32 q47 h42).bind fun x48 =>
 (hv39).bind fun p49 =>
 (Gx.idxA 8 1 (⟨p49.block, p49.off + 0, none⟩ : Addr) y41).bind fun q50 =>
 (st1 q50 (.int .u32 (IntKind.wrap .u32 (x48 + x45))) h42).bind fun h51 =>
 rec43 hv39 (y40.1, y40.2.1, y40.2.2.1, y40.2.2.2.1, y40.2.2.2.2.1, y40.2.2.2.2.2.1, y40.2.2.2.2.2.2.1, y40.2.2.2.2.2.2.2) (IntKind.wrap .i64 (y41 + 1)) h51
 else none)
 else
 some ((), h42))
noncomputable def sha_Hash_take_l0 (k : Nat) (D : CallF)  : (Option Addr) → (Int × Int × Int × Int × Int × Int × Int × Int) → Int → AHeap → Option ((Unit) × AHeap) :=
 iterK (α := (Option Addr) → (Int × Int × Int × Int × Int × Int × Int × Int) → Int → AHeap → Option ((Unit) × AHeap)) (fun _ _ _ _ => none) k (sha_Hash_take_l0b k D )
noncomputable def sha_Hash_take (k : Nat) (D : CallF) (h_0 : Option Addr) (block_1 : Slc) (h : AHeap) : Option ((Unit) × AHeap) :=
 (sha_spread k D block_1 h).bind fun r1 =>
 let h2 := AHeap.new r1.2 (.cells (List.replicate 64 (.int .u32 0)) 174 true 0)
 (stL 64 (⟨r1.2.next, 0, none⟩ : Addr) r1.1 h2).bind fun h3 =>
 (h_0).bind fun p4 =>
 (ldI .u32 (⟨p4.block, p4.off + 0 + 0, none⟩ : Addr) h3).bind fun x6 =>
 (h_0).bind fun p7 =>
 (ldI .u32 (⟨p7.block, p7.off + 0 + 1, none⟩ : Addr) h3).bind fun x9 =>
 (h_0).bind fun p10 =>
 (ldI .u32 (⟨p10.block, p10.off + 0 + 2, none⟩ : Addr) h3).bind fun x12 =>
 (h_0).bind fun p13 =>
 (ldI .u32 (⟨p13.block, p13.off + 0 + 3, none⟩ : Addr) h3).bind fun x15 =>
 (h_0).bind fun p16 =>
 (ldI .u32 (⟨p16.block, p16.off + 0 + 4, none⟩ : Addr) h3).bind fun x18 =>
 (h_0).bind fun p19 =>
 (ldI .u32 (⟨p19.block, p19.off + 0 + 5, none⟩ : Addr) h3).bind fun x21 =>
 (h_0).bind fun p22 =>
 (ldI .u32 (⟨p22.block, p22.off + 0 + 6, none⟩ : Addr) h3).bind fun x24 =>
 (h_0).bind fun p25 =>
 (ldI .u32 (⟨p25.block, p25.off + 0 + 7, none⟩ : Addr) h3).bind fun x27 =>
 joinK (fun (hv28 : Option Addr) (a29 : Int) (b30 : Int) (c31 : Int) (d32 : Int) (e33 : Int) (f34 : Int) (g35 : Int) (last36 : Int) (h37 : AHeap) =>
 sha_Hash_take_l0 k D hv28 (a29, b30, c31, d32, e33, f34, g35, last36) 0 h37) fun j38 =>
 sha_Hash_take_l1 k D j38 h_0 (some (⟨r1.2.next, 0, none⟩ : Addr)) x6 x9 x12 x15 x18 x21 x24 x27 0 h3
noncomputable def r_sha_Hash_take : RCode := an (.s .n (.s .n (.s .n (.s (.j [(0, .p), (5, .i .u32), (6, .i .u32), (7, .i .u32), (8, .i .u32), (9, .i .u32), (10, .i .u32), (11, .i .u32), (12, .i .u32)] (.s .n (.b (.l [(0, .p), (4, .p), (5, .i .u32), (6, .i .u32), (7, .i .u32), (8, .i .u32), (9, .i .u32), (10, .i .u32), (11, .i .u32), (12, .i .u32), (62, .i .i64)] .n)))) (.s .n (.b (.l [(0, .p), (135, .st [.i .u32, .i .u32, .i .u32, .i .u32, .i .u32, .i .u32, .i .u32, .i .u32]), (136, .i .i64)] .n))))))) (rOf Tryd.prog 2 Tryd.f89)
noncomputable def e_sha_Hash_take (k : Nat) (D : CallF) : Ent := entOf 89 [(0, .p), (1, .l)] [] (sha_Hash_take k D)
theorem q_sha_Hash_take : (Tryd.f89.body).bind (rcodeOf Tryd.prog 2 Tryd.f89.ntmps) = some (strip r_sha_Hash_take) := by kernel_rfl
theorem t_sha_Hash_take (k : Nat) (D : CallF) : curF [(0, .p), (1, .l)] (fun args h => denF (C_sha_Hash_take k D) k r_sha_Hash_take [] [] args h) = sha_Hash_take k D := by kernel_rfl
theorem ok_sha_Hash_take {D : CallF} (hD : CSound Tryd.prog 2 D) (k : Nat) : EntOk Tryd.prog 2 (e_sha_Hash_take k D) :=
 entOf_ok2 (mkC_sound hD (EntsOk.more (ok_sha_spread hD k) (EntsOk.more (ok_math_bits_RotateLeft32 hD k) (EntsOk.none)))) Tryd.func89 rfl q_sha_Hash_take rfl (t_sha_Hash_take k D)
end Ge
namespace Ge
open Go Gx Go.Proofs
set_option maxRecDepth 100000
noncomputable def C_sha_Hash_Write (k : Nat) (D : CallF) : CallF := mkC D [e_sha_Hash_take k D]
noncomputable def sha_Hash_Write_l0b (k : Nat) (D : CallF) (j13 : (Option Addr) → Int → AHeap → Option ((Unit) × AHeap)) (rec24 : (Option Addr) → Int → AHeap → Option ((Unit) × AHeap)) (hv21 : Option Addr) (atv22 : Int) (h23 : AHeap) : Option ((Unit) × AHeap) :=
 (hv21).bind fun p25 =>
 (ldL (⟨p25.block, p25.off + 8, none⟩ : Addr) h23).bind fun x26 =>
 (if (decide ((IntKind.wrap .i64 ((x26.len : Int) - atv22)) ≥ 64)) = true then
 (hv21).bind fun p27 =>
 (ldL (⟨p27.block, p27.off + 8, none⟩ : Addr) h23).bind fun x28 =>
 (Gx.subL 1 x28 (some atv22) (some (IntKind.wrap .i64 (atv22 + 64))) none).bind fun l29 =>
 (sha_Hash_take k D hv21 l29 h23).bind fun r30 =>
 rec24 hv21 (IntKind.wrap .i64 (atv22 + 64)) r30.2
 else
 j13 hv21 atv22 h23)
noncomputable def sha_Hash_Write_l0 (k : Nat) (D : CallF) (j13 : (Option Addr) → Int → AHeap → Option ((Unit) × AHeap)) : (Option Addr) → Int → AHeap → Option ((Unit) × AHeap) :=
 iterK (α := (Option Addr) → Int → AHeap → Option ((Unit) × AHeap)) (fun _ _ _ => none) k (sha_Hash_Write_l0b k D j13)
noncomputable def sha_Hash_Write (k : Nat) (D : CallF) (h_0 : Option Addr) (s_1 : ByteArray) (h : AHeap) : Option ((Unit) × AHeap) :=
 (h_0).bind fun p1 =>
 (ldI .i64 (⟨p1.block, p1.off + 9, none⟩ : Addr) h).bind fun x2 =>
 (h_0).bind fun p3 =>
 (st1 (⟨p3.block, p3.off + 9, none⟩ : Addr) (.int .i64 (IntKind.wrap .i64 (x2 + (s_1.size : Int)))) h).bind fun h4 =>
 (h_0).bind fun p5 =>
 (ldL (⟨p5.block, p5.off + 8, none⟩ : Addr) h4).bind fun x6 =>
 (appendA 1 1 5 h4 x6 (bytesL s_1) s_1.size).bind fun r7 =>
 (h_0).bind fun p8 =>
 (st1 (⟨p8.block, p8.off + 8, none⟩ : Addr) (.slice r7.1.a r7.1.len r7.1.cap) r7.2).bind fun h9 =>
 joinK (fun (hv10 : Option Addr) (atv11 : Int) (h12 : AHeap) =>
 (hv10).bind fun p14 =>
 (ldL (⟨p14.block, p14.off + 8, none⟩ : Addr) h12).bind fun x15 =>
 (Gx.subL 1 x15 (some atv11) none none).bind fun l16 =>
 (rdS 1 l16 h12).bind fun n18 =>
 (appendA 1 1 5 h12 (⟨none, 0, 0⟩ : Slc) n18 l16.len).bind fun r17 =>
 (hv10).bind fun p19 =>
 (st1 (⟨p19.block, p19.off + 8, none⟩ : Addr) (.slice r17.1.a r17.1.len r17.1.cap) r17.2).bind fun h20 =>
 some ((), h20)) fun j13 =>
 sha_Hash_Write_l0 k D j13 h_0 0 h9
noncomputable def r_sha_Hash_Write : RCode := an (.s .n (.s .n (.s .n (.s (.j [(0, .p), (4, .i .i64)] (.b (.l [(0, .p), (4, .i .i64)] .n))) .n)))) (rOf Tryd.prog 2 Tryd.f53)
noncomputable def e_sha_Hash_Write (k : Nat) (D : CallF) : Ent := entOf 53 [(0, .p), (1, .s)] [] (sha_Hash_Write k D)
theorem q_sha_Hash_Write : (Tryd.f53.body).bind (rcodeOf Tryd.prog 2 Tryd.f53.ntmps) = some (strip r_sha_Hash_Write) := by kernel_rfl
theorem t_sha_Hash_Write (k : Nat) (D : CallF) : curF [(0, .p), (1, .s)] (fun args h => denF (C_sha_Hash_Write k D) k r_sha_Hash_Write [] [] args h) = sha_Hash_Write k D := by kernel_rfl
theorem ok_sha_Hash_Write {D : CallF} (hD : CSound Tryd.prog 2 D) (k : Nat) : EntOk Tryd.prog 2 (e_sha_Hash_Write k D) :=
 entOf_ok2 (mkC_sound hD (EntsOk.more (ok_sha_Hash_take hD k) (EntsOk.none))) Tryd.func53 rfl q_sha_Hash_Write rfl (t_sha_Hash_Write k D)
end Ge
namespace Ge
open Go Gx Go.Proofs
set_option maxRecDepth 100000
noncomputable def C_sha_Hash_Sum (k : Nat) (D : CallF) : CallF := mkC D [e_sha_Hash_Fork k D, e_sha_Hash_Write k D]
noncomputable def sha_Hash_Sum_l2b (_k : Nat) (_D : CallF) (j7 : (Option Addr) → (Option Addr) → Slc → AHeap → Option ((ByteArray) × AHeap)) (rec47 : (Option Addr) → (Option Addr) → Slc → AHeap → Option ((ByteArray) × AHeap)) (hv43 : Option Addr) (endv44 : Option Addr) (tail45 : Slc) (h46 : AHeap) : Option ((ByteArray) × AHeap) :=
 (endv44).bind fun p48 =>
 (ldL (⟨p48.block, p48.off + 8, none⟩ : Addr) h46).bind fun x49 =>
 let t50 : Int := (Int.tmod (IntKind.wrap .i64 ((x49.len : Int) + (tail45.len : Int))) 64)
 (if (t50 != 56) = true then
 let h51 := AHeap.new h46 (.cells [.int .u8 0] 5 true 0)
 (rdS 1 (⟨(some ⟨h46.next, 0, some 0⟩), 1, 1⟩ : Slc) h51).bind fun n53 =>
 (appendA 1 1 5 h51 tail45 n53 1).bind fun r52 =>
 rec47 hv43 endv44 r52.1 r52.2
 else
 j7 hv43 endv44 tail45 h46)
noncomputable def sha_Hash_Sum_l2 (k : Nat) (D : CallF) (j7 : (Option Addr) → (Option Addr) → Slc → AHeap → Option ((ByteArray) × AHeap)) : (Option Addr) → (Option Addr) → Slc → AHeap → Option ((ByteArray) × AHeap) :=
 iterK (α := (Option Addr) → (Option Addr) → Slc → AHeap → Option ((ByteArray) × AHeap)) (fun _ _ _ _ => none) k (sha_Hash_Sum_l2b k D j7)
noncomputable def sha_Hash_Sum_l1b (_k : Nat) (_D : CallF) (j13 : (Option Addr) → Slc → AHeap → Option ((ByteArray) × AHeap)) (rec38 : (Option Addr) → Slc → Int → Int → AHeap → Option ((ByteArray) × AHeap)) (endv33 : Option Addr) (tail34 : Slc) (count35 : Int) (shift36 : Int) (h37 : AHeap) : Option ((ByteArray) × AHeap) :=
 (if (decide (shift36 ≥ 0)) = true then
 (if 0 ≤ shift36 then
 let t39 : Int := (Int.fdiv count35 (2 ^ (min (shift36).toNat (IntKind.bits .u64))))
 let h40 := AHeap.new h37 (.cells [.int .u8 (IntKind.wrap .u8 t39)] 5 true 0)
 (rdS 1 (⟨(some ⟨h37.next, 0, some 0⟩), 1, 1⟩ : Slc) h40).bind fun n42 =>
 (appendA 1 1 5 h40 tail34 n42 1).bind fun r41 =>
 rec38 endv33 r41.1 count35 (IntKind.wrap .i64 (shift36 - 8)) r41.2
 else none)
 else
 j13 endv33 tail34 h37)
noncomputable def sha_Hash_Sum_l1 (k : Nat) (D : CallF) (j13 : (Option Addr) → Slc → AHeap → Option ((ByteArray) × AHeap)) : (Option Addr) → Slc → Int → Int → AHeap → Option ((ByteArray) × AHeap) :=
 iterK (α := (Option Addr) → Slc → Int → Int → AHeap → Option ((ByteArray) × AHeap)) (fun _ _ _ _ _ => none) k (sha_Hash_Sum_l1b k D j13)
noncomputable def sha_Hash_Sum_l0b (_k : Nat) (_D : CallF) (j18 : Slc → AHeap → Option ((ByteArray) × AHeap)) (rec27 : Slc → (Int × Int × Int × Int × Int × Int × Int × Int) → Int → AHeap → Option ((ByteArray) × AHeap)) (out23 : Slc) (y24 : Int × Int × Int × Int × Int × Int × Int × Int) (y25 : Int) (h26 : AHeap) : Option ((ByteArray) × AHeap) :=
 (if (decide (y25 < 8)) = true then
 (if 0 ≤ y25 ∧ y25 < ((8 : Nat) : Int) then
 (([.int .u32 y24.1, .int .u32 y24.2.1, .int .u32 y24.2.2.1, .int .u32 y24.2.2.2.1, .int .u32 y24.2.2.2.2.1, .int .u32 y24.2.2.2.2.2.1, .int .u32 y24.2.2.2.2.2.2.1, .int .u32 y24.2.2.2.2.2.2.2])[(y25).toNat * 1]?).bind fun v28 =>
 (decI .u32 v28).bind fun x29 =>
 let h30 := AHeap.new h26 (.cells [.int .u8 (IntKind.wrap .u8 (Int.fdiv x29 16777216)), .int .u8 (IntKind.wrap .u8 (Int.fdiv x29 65536)), .int .u8 (IntKind.wrap .u8 (Int.fdiv x29 256)), .int .u8 (IntKind.wrap .u8 x29)] 5 true 0)
 (rdS 1 (⟨(some ⟨h26.next, 0, some 0⟩), 4, 4⟩ : Slc) h30).bind fun n32 =>
 (appendA 1 1 5 h30 out23 n32 4).bind fun r31 =>
 rec27 r31.1 (y24.1, y24.2.1, y24.2.2.1, y24.2.2.2.1, y24.2.2.2.2.1, y24.2.2.2.2.2.1, y24.2.2.2.2.2.2.1, y24.2.2.2.2.2.2.2) (IntKind.wrap .i64 (y25 + 1)) r31.2
 else none)
 else
 j18 out23 h26)
noncomputable def sha_Hash_Sum_l0 (k : Nat) (D : CallF) (j18 : Slc → AHeap → Option ((ByteArray) × AHeap)) : Slc → (Int × Int × Int × Int × Int × Int × Int × Int) → Int → AHeap → Option ((ByteArray) × AHeap) :=
 iterK (α := Slc → (Int × Int × Int × Int × Int × Int × Int × Int) → Int → AHeap → Option ((ByteArray) × AHeap)) (fun _ _ _ _ => none) k (sha_Hash_Sum_l0b k D j18)
noncomputable def sha_Hash_Sum (k : Nat) (D : CallF) (h_0 : Option Addr) (h : AHeap) : Option ((ByteArray) × AHeap) :=
 (sha_Hash_Fork k D h_0 h).bind fun r1 =>
 let h2 := AHeap.new r1.2 (.cells [.int .u8 128] 5 true 0)
 joinK (fun (hv3 : Option Addr) (endv4 : Option Addr) (tail5 : Slc) (h6 : AHeap) =>
 (hv3).bind fun p8 =>
 (ldI .i64 (⟨p8.block, p8.off + 9, none⟩ : Addr) h6).bind fun x9 =>
 joinK (fun (endv10 : Option Addr) (tail11 : Slc) (h12 : AHeap) =>
 (bytesOf h12 tail11).bind fun s14 =>
 (sha_Hash_Write k D endv10 s14 h12).bind fun r15 =>
 joinK (fun (out16 : Slc) (h17 : AHeap) =>
 (bytesOf h17 out16).bind fun s19 =>
 some (s19, h17)) fun j18 =>
 (endv10).bind fun p20 =>
 (ldA 8 (⟨p20.block, p20.off + 0, none⟩ : Addr) r15.2).bind fun l21 =>
 (decC [.i .u32, .i .u32, .i .u32, .i .u32, .i .u32, .i .u32, .i .u32, .i .u32] l21).bind fun x22 =>
 sha_Hash_Sum_l0 k D j18 (⟨none, 0, 0⟩ : Slc) (x22.1, x22.2.1, x22.2.2.1, x22.2.2.2.1, x22.2.2.2.2.1, x22.2.2.2.2.2.1, x22.2.2.2.2.2.2.1, x22.2.2.2.2.2.2.2) 0 r15.2) fun j13 =>
 sha_Hash_Sum_l1 k D j13 endv4 tail5 (IntKind.wrap .u64 ((IntKind.wrap .u64 x9) * 8)) 56 h6) fun j7 =>
 sha_Hash_Sum_l2 k D j7 h_0 r1.1 (⟨(some ⟨r1.2.next, 0, some 0⟩), 1, 1⟩ : Slc) h2
noncomputable def r_sha_Hash_Sum : RCode := an (.s .n (.s .n (.s .n (.s (.j [(0, .p), (3, .p), (4, .l)] (.b (.l [(0, .p), (3, .p), (4, .l)] .n))) (.s .n (.s (.j [(3, .p), (4, .l)] (.s .n (.b (.l [(3, .p), (4, .l), (5, .i .u64), (6, .i .i64)] .n)))) (.s .n (.s .n (.s (.j [(7, .l)] (.s (.r [(3, .st [.i .u32, .i .u32, .i .u32, .i .u32, .i .u32, .i .u32, .i .u32, .i .u32])]) (.b (.l [(7, .l), (50, .st [.i .u32, .i .u32, .i .u32, .i .u32, .i .u32, .i .u32, .i .u32, .i .u32]), (51, .i .i64)] .n)))) .n))))))))) (rOf Tryd.prog 2 Tryd.f54)
noncomputable def e_sha_Hash_Sum (k : Nat) (D : CallF) : Ent := entOf 54 [(0, .p)] [(2, .s)] (sha_Hash_Sum k D)
theorem q_sha_Hash_Sum : (Tryd.f54.body).bind (rcodeOf Tryd.prog 2 Tryd.f54.ntmps) = some (strip r_sha_Hash_Sum) := by kernel_rfl
theorem t_sha_Hash_Sum (k : Nat) (D : CallF) : curF [(0, .p)] (fun args h => denF (C_sha_Hash_Sum k D) k r_sha_Hash_Sum [(2, .s)] [none] args h) = sha_Hash_Sum k D := by kernel_rfl
theorem ok_sha_Hash_Sum {D : CallF} (hD : CSound Tryd.prog 2 D) (k : Nat) : EntOk Tryd.prog 2 (e_sha_Hash_Sum k D) :=
 entOf_ok2 (mkC_sound hD (EntsOk.more (ok_sha_Hash_Fork hD k) (EntsOk.more (ok_sha_Hash_Write hD k) (EntsOk.none)))) Tryd.func54 rfl q_sha_Hash_Sum rfl (t_sha_Hash_Sum k D)
end Ge
namespace Ge
open Go Gx Go.Proofs
set_option maxRecDepth 100000
noncomputable def C_sha_Sum (k : Nat) (D : CallF) : CallF := mkC D [e_sha_New k D, e_sha_Hash_Sum k D, e_sha_Hash_Write k D]
noncomputable def sha_Sum_l0b (k : Nat) (D : CallF) (j4 : (Option Addr) → AHeap → Option ((ByteArray) × AHeap)) (rec11 : (Option Addr) → Slc → Int → Int → AHeap → Option ((ByteArray) × AHeap)) (hv6 : Option Addr) (y7 : Slc) (y8 : Int) (y9 : Int) (h10 : AHeap) : Option ((ByteArray) × AHeap) :=
 (if (decide (y9 < y8)) = true then
 (Gx.idxL 1 y7 y9).bind fun q12 =>
 (ldS q12 h10).bind fun x13 =>
 (sha_Hash_Write k D hv6 x13 h10).bind fun r14 =>
 rec11 hv6 y7 y8 (IntKind.wrap .i64 (y9 + 1)) r14.2
 else
 j4 hv6 h10)
noncomputable def sha_Sum_l0 (k : Nat) (D : CallF) (j4 : (Option Addr) → AHeap → Option ((ByteArray) × AHeap)) : (Option Addr) → Slc → Int → Int → AHeap → Option ((ByteArray) × AHeap) :=
 iterK (α := (Option Addr) → Slc → Int → Int → AHeap → Option ((ByteArray) × AHeap)) (fun _ _ _ _ _ => none) k (sha_Sum_l0b k D j4)
noncomputable def sha_Sum (k : Nat) (D : CallF) (pieces_0 : Slc) (h : AHeap) : Option ((ByteArray) × AHeap) :=
 (sha_New k D h).bind fun r1 =>
 joinK (fun (hv2 : Option Addr) (h3 : AHeap) =>
 (sha_Hash_Sum k D hv2 h3).bind fun r5 =>
 some (r5.1, r5.2)) fun j4 =>
 sha_Sum_l0 k D j4 r1.1 pieces_0 (pieces_0.len : Int) 0 r1.2
noncomputable def r_sha_Sum : RCode := an (.s .n (.s .n (.s (.j [(3, .p)] (.s .n (.b (.l [(3, .p), (7, .l), (8, .i .i64), (9, .i .i64)] .n)))) .n))) (rOf Tryd.prog 2 Tryd.f22)
noncomputable def e_sha_Sum (k : Nat) (D : CallF) : Ent := entOf 22 [(0, .l)] [(2, .s)] (sha_Sum k D)
theorem q_sha_Sum : (Tryd.f22.body).bind (rcodeOf Tryd.prog 2 Tryd.f22.ntmps) = some (strip r_sha_Sum) := by kernel_rfl
theorem t_sha_Sum (k : Nat) (D : CallF) : curF [(0, .l)] (fun args h => denF (C_sha_Sum k D) k r_sha_Sum [(2, .s)] [none] args h) = sha_Sum k D := by kernel_rfl
theorem ok_sha_Sum {D : CallF} (hD : CSound Tryd.prog 2 D) (k : Nat) : EntOk Tryd.prog 2 (e_sha_Sum k D) :=
 entOf_ok2 (mkC_sound hD (EntsOk.more (ok_sha_New hD k) (EntsOk.more (ok_sha_Hash_Sum hD k) (EntsOk.more (ok_sha_Hash_Write hD k) (EntsOk.none))))) Tryd.func22 rfl q_sha_Sum rfl (t_sha_Sum k D)
end Ge
namespace Ge
open Go Gx Go.Proofs
set_option maxRecDepth 100000
noncomputable def C_blob_Id (k : Nat) (D : CallF) : CallF := mkC D [e_blob_known k D, e_sha_Sum k D]
noncomputable def blob_Id (k : Nat) (D : CallF) (kind_0 : Int) (text_1 : ByteArray) (h : AHeap) : Option ((ByteArray × Int) × AHeap) :=
 (blob_known k D kind_0 h).bind fun r1 =>
 (if (!r1.1) = true then
 some (((⟨#[]⟩ : ByteArray), 1), r1.2)
 else
 newK r1.2 ((.cells [.int .u8 (IntKind.wrap .u8 kind_0)] 5 true 0)) fun h2 =>
 (bytesOf h2 (⟨(some ⟨r1.2.next, 0, some 0⟩), 1, 1⟩ : Slc)).bind fun s3 =>
 newK h2 ((.cells [.string s3, .string text_1] 9 true 0)) fun h4 =>
 (sha_Sum k D (⟨(some ⟨h2.next, 0, some 0⟩), 2, 2⟩ : Slc) h4).bind fun r5 =>
 some ((r5.1, 0), r5.2))
noncomputable def r_blob_Id : RCode := an (.n) (rOf Tryd.prog 2 Tryd.f10)
noncomputable def e_blob_Id (k : Nat) (D : CallF) : Ent := entOf 10 [(0, .i .i64), (1, .s)] [(4, .s), (5, .i .i64)] (blob_Id k D)
theorem q_blob_Id : (Tryd.f10.body).bind (rcodeOf Tryd.prog 2 Tryd.f10.ntmps) = some (strip r_blob_Id) := by kernel_rfl
theorem t_blob_Id (k : Nat) (D : CallF) : curF [(0, .i .i64), (1, .s)] (fun args h => denF (C_blob_Id k D) k r_blob_Id [(4, .s), (5, .i .i64)] [none, none] args h) = blob_Id k D := by kernel_rfl
theorem ok_blob_Id {D : CallF} (hD : CSound Tryd.prog 2 D) (k : Nat) : EntOk Tryd.prog 2 (e_blob_Id k D) :=
 entOf_ok2 (mkC_sound hD (EntsOk.more (ok_blob_known hD k) (EntsOk.more (ok_sha_Sum hD k) (EntsOk.none)))) Tryd.func10 rfl q_blob_Id rfl (t_blob_Id k D)
end Ge
namespace Ge
open Go Gx Go.Proofs
set_option maxRecDepth 100000
end Ge
namespace Ge
open Go Gx Go.Proofs
set_option maxRecDepth 100000
end Ge
namespace Ge
open Go Gx Go.Proofs
set_option maxRecDepth 100000
end Ge
namespace Ge
open Go Gx Go.Proofs
set_option maxRecDepth 100000
end Ge
namespace Ge
open Go Gx Go.Proofs
set_option maxRecDepth 100000
end Ge
namespace Ge
open Go Gx Go.Proofs
set_option maxRecDepth 100000
end Ge
namespace Ge
open Go Gx Go.Proofs
set_option maxRecDepth 100000
end Ge
namespace Ge
open Go Gx Go.Proofs
set_option maxRecDepth 100000
end Ge
namespace Ge
open Go Gx Go.Proofs
set_option maxRecDepth 100000
end Ge
namespace Ge
open Go Gx Go.Proofs
set_option maxRecDepth 100000
noncomputable def C_num_Short (_k : Nat) (D : CallF) : CallF := mkC D []
noncomputable def num_Short_l0b (_k : Nat) (_D : CallF) (j4 : Int → Slc → AHeap → Option ((ByteArray × Int) × AHeap)) (rec12 : Int → Slc → AHeap → Option ((ByteArray × Int) × AHeap)) (n9 : Int) (b10 : Slc) (h11 : AHeap) : Option ((ByteArray × Int) × AHeap) :=
 (if (decide (n9 ≥ 128)) = true then
 newK h11 ((.cells [.int .u8 (Go.bits .or .u8 (IntKind.wrap .u8 n9) 128)] 5 true 0)) fun h13 =>
 (rdS 1 (⟨(some ⟨h11.next, 0, some 0⟩), 1, 1⟩ : Slc) h13).bind fun n15 =>
 (appendA 1 1 5 h13 b10 n15 1).bind fun r14 =>
 rec12 (Int.fdiv n9 128) r14.1 r14.2
 else
 j4 n9 b10 h11)
noncomputable def num_Short_l0 (k : Nat) (D : CallF) (j4 : Int → Slc → AHeap → Option ((ByteArray × Int) × AHeap)) : Int → Slc → AHeap → Option ((ByteArray × Int) × AHeap) :=
 iterK (α := Int → Slc → AHeap → Option ((ByteArray × Int) × AHeap)) (fun _ _ _ => none) k (num_Short_l0b k D j4)
noncomputable def num_Short (k : Nat) (D : CallF) (n_0 : Int) (h : AHeap) : Option ((ByteArray × Int) × AHeap) :=
 (if (decide (n_0 < 0)) = true then
 some (((⟨#[]⟩ : ByteArray), 1), h)
 else
 joinK (fun (n1 : Int) (b2 : Slc) (h3 : AHeap) =>
 newK h3 ((.cells [.int .u8 (IntKind.wrap .u8 n1)] 5 true 0)) fun h5 =>
 (rdS 1 (⟨(some ⟨h3.next, 0, some 0⟩), 1, 1⟩ : Slc) h5).bind fun n7 =>
 (appendA 1 1 5 h5 b2 n7 1).bind fun r6 =>
 (bytesOf r6.2 r6.1).bind fun s8 =>
 some ((s8, 0), r6.2)) fun j4 =>
 num_Short_l0 k D j4 n_0 (⟨none, 0, 0⟩ : Slc) h)
noncomputable def r_num_Short : RCode := an (.s .n (.s .n (.s .n (.s (.j [(0, .i .i64), (4, .l)] (.b (.l [(0, .i .i64), (4, .l)] .n))) .n)))) (rOf Tryd.prog 2 Tryd.f43)
noncomputable def e_num_Short (k : Nat) (D : CallF) : Ent := entOf 43 [(0, .i .i64)] [(2, .s), (3, .i .i64)] (num_Short k D)
theorem q_num_Short : (Tryd.f43.body).bind (rcodeOf Tryd.prog 2 Tryd.f43.ntmps) = some (strip r_num_Short) := by kernel_rfl
theorem t_num_Short (k : Nat) (D : CallF) : curF [(0, .i .i64)] (fun args h => denF (C_num_Short k D) k r_num_Short [(2, .s), (3, .i .i64)] [none, none] args h) = num_Short k D := by kernel_rfl
theorem ok_num_Short {D : CallF} (hD : CSound Tryd.prog 2 D) (k : Nat) : EntOk Tryd.prog 2 (e_num_Short k D) :=
 entOf_ok2 (mkC_sound hD (EntsOk.none)) Tryd.func43 rfl q_num_Short rfl (t_num_Short k D)
end Ge
namespace Ge
open Go Gx Go.Proofs
set_option maxRecDepth 100000
end Ge
namespace Ge
open Go Gx Go.Proofs Go.RowKit
def ccTab : List (Nat × Nat × Nat) := [(100, 0, 2), (102, 0, 2), (105, 0, 7), (105, 3, 7)]
end Ge
namespace Ge
open Go Gx Go.Proofs
end Ge
namespace Ge
open Go Gx Go.Proofs
set_option maxRecDepth 100000
noncomputable def strings_Builder_WriteString (_k : Nat) (_D : CallF) (b_0 : Option Addr) (s_1 : ByteArray) (h : AHeap) : Option ((Int × Value) × AHeap) :=
 (b_0).bind fun p2 =>
 (ccA ccTab p2 h).bind fun h1 =>
 (b_0).bind fun p3 =>
 (ldL (⟨p3.block, p3.off + 1, none⟩ : Addr) h1).bind fun x4 =>
 (appendA 1 1 5 h1 x4 (bytesL s_1) s_1.size).bind fun r5 =>
 (b_0).bind fun p6 =>
 (st1 (⟨p6.block, p6.off + 1, none⟩ : Addr) (.slice r5.1.a r5.1.len r5.1.cap) r5.2).bind fun h7 =>
 some (((s_1.size : Int), (.nilIface)), h7)
end Ge
namespace Ge
open Go Gx Go.Proofs
set_option maxRecDepth 100000
end Ge
namespace Ge
open Go Gx Go.Proofs
set_option maxRecDepth 100000
end Ge
namespace Ge
open Go Gx Go.Proofs
set_option maxRecDepth 100000
end Ge
namespace Ge
open Go Gx Go.Proofs
set_option maxRecDepth 100000
end Ge
namespace Ge
open Go Gx Go.Proofs
set_option maxRecDepth 100000
end Ge
namespace Ge
open Go Gx Go.Proofs
set_option maxRecDepth 100000
end Ge
namespace Ge
open Go Gx Go.Proofs
set_option maxRecDepth 100000
end Ge
namespace Ge
open Go Gx Go.Proofs
set_option maxRecDepth 100000
end Ge
namespace Ge
open Go Gx Go.Proofs
set_option maxRecDepth 100000
end Ge
namespace Ge
open Go Gx Go.Proofs
end Ge
namespace Ge
open Go Gx Go.Proofs
set_option maxRecDepth 100000
end Ge
namespace Ge
open Go Gx Go.Proofs
set_option maxRecDepth 100000
end Ge
namespace Ge
open Go Gx Go.Proofs
set_option maxRecDepth 100000
end Ge
namespace Ge
open Go Gx Go.Proofs
set_option maxRecDepth 100000
end Ge
namespace Ge
open Go Gx Go.Proofs
set_option maxRecDepth 100000
noncomputable def C_ref13_Known (_k : Nat) (D : CallF) : CallF := mkC D []
noncomputable def ref13_Known (_k : Nat) (_D : CallF) (kind_0 : Int) (h : AHeap) : Option ((Bool) × AHeap) :=
 (if (kind_0 == 1) = true then
 some (true, h)
 else
 some ((kind_0 == 2), h))
noncomputable def r_ref13_Known : RCode := an (.n) (rOf Tryd.prog 2 Tryd.f41)
noncomputable def e_ref13_Known (k : Nat) (D : CallF) : Ent := entOf 41 [(0, .i .i64)] [(2, .b)] (ref13_Known k D)
theorem q_ref13_Known : (Tryd.f41.body).bind (rcodeOf Tryd.prog 2 Tryd.f41.ntmps) = some (strip r_ref13_Known) := by kernel_rfl
theorem t_ref13_Known (k : Nat) (D : CallF) : curF [(0, .i .i64)] (fun args h => denF (C_ref13_Known k D) k r_ref13_Known [(2, .b)] [none] args h) = ref13_Known k D := by kernel_rfl
theorem ok_ref13_Known {D : CallF} (hD : CSound Tryd.prog 2 D) (k : Nat) : EntOk Tryd.prog 2 (e_ref13_Known k D) :=
 entOf_ok2 (mkC_sound hD (EntsOk.none)) Tryd.func41 rfl q_ref13_Known rfl (t_ref13_Known k D)
end Ge
namespace Ge
open Go Gx Go.Proofs
set_option maxRecDepth 100000
noncomputable def C_ref01_Fixed (_k : Nat) (D : CallF) : CallF := mkC D []
noncomputable def ref01_Fixed_l0b (_k : Nat) (_D : CallF) (j9 : Slc → AHeap → Option ((ByteArray × Int) × AHeap)) (rec15 : Int → Slc → Int → AHeap → Option ((ByteArray × Int) × AHeap)) (n11 : Int) (b12 : Slc) (i13 : Int) (h14 : AHeap) : Option ((ByteArray × Int) × AHeap) :=
 (if (decide (i13 ≥ 0)) = true then
 (Gx.idxL 1 b12 i13).bind fun q16 =>
 (st1 q16 (.int .u8 (IntKind.wrap .u8 n11)) h14).bind fun h17 =>
 rec15 (IntKind.wrap .i64 (Int.tdiv n11 256)) b12 (IntKind.wrap .i64 (i13 - 1)) h17
 else
 j9 b12 h14)
noncomputable def ref01_Fixed_l0 (k : Nat) (D : CallF) (j9 : Slc → AHeap → Option ((ByteArray × Int) × AHeap)) : Int → Slc → Int → AHeap → Option ((ByteArray × Int) × AHeap) :=
 iterK (α := Int → Slc → Int → AHeap → Option ((ByteArray × Int) × AHeap)) (fun _ _ _ _ => none) k (ref01_Fixed_l0b k D j9)
noncomputable def ref01_Fixed (k : Nat) (D : CallF) (n_0 : Int) (bytes_1 : Int) (h : AHeap) : Option ((ByteArray × Int) × AHeap) :=
 joinK (fun (n1 : Int) (bytes2 : Int) (y3 : Bool) (h4 : AHeap) =>
 (if y3 = true then
 some (((⟨#[]⟩ : ByteArray), 1), h4)
 else
 (if 0 ≤ bytes2 ∧ bytes2 ≤ bytes2 ∧ bytes2 ≤ 281474976710656 ∧ 1 * bytes2 ≤ 281474976710656 then
 let h6 := AHeap.new h4 (.cells (zerosL (bytes2).toNat [.int .u8 0]) 5 true 0)
 joinK (fun (b7 : Slc) (h8 : AHeap) =>
 (bytesOf h8 b7).bind fun s10 =>
 some ((s10, 0), h8)) fun j9 =>
 ref01_Fixed_l0 k D j9 n1 (⟨(some ⟨h4.next, 0, some 0⟩), (bytes2).toNat, (bytes2).toNat⟩ : Slc) (IntKind.wrap .i64 (bytes2 - 1)) h6
 else none))) fun j5 =>
 (if (decide (bytes_1 < 1)) = true then
 j5 n_0 bytes_1 true h
 else
 (if (decide (bytes_1 > 8)) = true then
 j5 n_0 bytes_1 true h
 else
 (if (decide (n_0 < 0)) = true then
 j5 n_0 bytes_1 true h
 else
 (if (decide (bytes_1 < 8)) = true then
 (if 0 ≤ (IntKind.wrap .i64 (8 * bytes_1)) then
 let t18 : Int := (Int.fdiv n_0 (2 ^ (min ((IntKind.wrap .i64 (8 * bytes_1))).toNat (IntKind.bits .i64))))
 j5 n_0 bytes_1 (t18 != 0) h
 else none)
 else
 j5 n_0 bytes_1 false h))))
noncomputable def r_ref01_Fixed : RCode := an (.s .n (.s (.s (.j [(0, .i .i64), (1, .i .i64), (28, .b)] .n) .n) (.s .n (.s (.j [(6, .l)] (.s .n (.b (.l [(0, .i .i64), (6, .l), (7, .i .i64)] .n)))) .n)))) (rOf Tryd.prog 2 Tryd.f131)
noncomputable def e_ref01_Fixed (k : Nat) (D : CallF) : Ent := entOf 131 [(0, .i .i64), (1, .i .i64)] [(4, .s), (5, .i .i64)] (ref01_Fixed k D)
theorem q_ref01_Fixed : (Tryd.f131.body).bind (rcodeOf Tryd.prog 2 Tryd.f131.ntmps) = some (strip r_ref01_Fixed) := by kernel_rfl
theorem t_ref01_Fixed (k : Nat) (D : CallF) : curF [(0, .i .i64), (1, .i .i64)] (fun args h => denF (C_ref01_Fixed k D) k r_ref01_Fixed [(4, .s), (5, .i .i64)] [none, none] args h) = ref01_Fixed k D := by kernel_rfl
theorem ok_ref01_Fixed {D : CallF} (hD : CSound Tryd.prog 2 D) (k : Nat) : EntOk Tryd.prog 2 (e_ref01_Fixed k D) :=
 entOf_ok2 (mkC_sound hD (EntsOk.none)) Tryd.func131 rfl q_ref01_Fixed rfl (t_ref01_Fixed k D)
end Ge
namespace Ge
open Go Gx Go.Proofs
set_option maxRecDepth 100000
noncomputable def C_ref01_Must (k : Nat) (D : CallF) : CallF := mkC D [e_ref01_Fixed k D]
noncomputable def ref01_Must (k : Nat) (D : CallF) (n_0 : Int) (bytes_1 : Int) (h : AHeap) : Option ((ByteArray) × AHeap) :=
 (ref01_Fixed k D n_0 bytes_1 h).bind fun r1 =>
 some (r1.1.1, r1.2)
noncomputable def r_ref01_Must : RCode := an (.n) (rOf Tryd.prog 2 Tryd.f110)
noncomputable def e_ref01_Must (k : Nat) (D : CallF) : Ent := entOf 110 [(0, .i .i64), (1, .i .i64)] [(4, .s)] (ref01_Must k D)
theorem q_ref01_Must : (Tryd.f110.body).bind (rcodeOf Tryd.prog 2 Tryd.f110.ntmps) = some (strip r_ref01_Must) := by kernel_rfl
theorem t_ref01_Must (k : Nat) (D : CallF) : curF [(0, .i .i64), (1, .i .i64)] (fun args h => denF (C_ref01_Must k D) k r_ref01_Must [(4, .s)] [none] args h) = ref01_Must k D := by kernel_rfl
theorem ok_ref01_Must {D : CallF} (hD : CSound Tryd.prog 2 D) (k : Nat) : EntOk Tryd.prog 2 (e_ref01_Must k D) :=
 entOf_ok2 (mkC_sound hD (EntsOk.more (ok_ref01_Fixed hD k) (EntsOk.none))) Tryd.func110 rfl q_ref01_Must rfl (t_ref01_Must k D)
end Ge
namespace Ge
open Go Gx Go.Proofs
set_option maxRecDepth 100000
noncomputable def C_ref02_turn (_k : Nat) (D : CallF) : CallF := mkC D []
noncomputable def ref02_turn (_k : Nat) (_D : CallF) (x_0 : Int) (n_1 : Int) (h : AHeap) : Option ((Int) × AHeap) :=
 (if 0 ≤ n_1 then
 (if 0 ≤ (IntKind.wrap .i64 (32 - n_1)) then
 let t1 : Int := (IntKind.wrap .u32 (x_0 * 2 ^ (min ((IntKind.wrap .i64 (32 - n_1))).toNat (IntKind.bits .u32))))
 let t2 : Int := (Go.bits .or .u32 (Int.fdiv x_0 (2 ^ (min (n_1).toNat (IntKind.bits .u32)))) t1)
 some (t2, h)
 else none)
 else none)
noncomputable def r_ref02_turn : RCode := an (.n) (rOf Tryd.prog 2 Tryd.f134)
noncomputable def e_ref02_turn (k : Nat) (D : CallF) : Ent := entOf 134 [(0, .i .u32), (1, .i .i64)] [(4, .i .u32)] (ref02_turn k D)
theorem q_ref02_turn : (Tryd.f134.body).bind (rcodeOf Tryd.prog 2 Tryd.f134.ntmps) = some (strip r_ref02_turn) := by kernel_rfl
theorem t_ref02_turn (k : Nat) (D : CallF) : curF [(0, .i .u32), (1, .i .i64)] (fun args h => denF (C_ref02_turn k D) k r_ref02_turn [(4, .i .u32)] [none] args h) = ref02_turn k D := by kernel_rfl
theorem ok_ref02_turn {D : CallF} (hD : CSound Tryd.prog 2 D) (k : Nat) : EntOk Tryd.prog 2 (e_ref02_turn k D) :=
 entOf_ok2 (mkC_sound hD (EntsOk.none)) Tryd.func134 rfl q_ref02_turn rfl (t_ref02_turn k D)
end Ge
namespace Ge
open Go Gx Go.Proofs
set_option maxRecDepth 100000
noncomputable def C_ref01_Num (_k : Nat) (D : CallF) : CallF := mkC D []
noncomputable def ref01_Num_l0b (_k : Nat) (_D : CallF) (j3 : Int → AHeap → Option ((Int) × AHeap)) (rec8 : ByteArray → Int → Int → AHeap → Option ((Int) × AHeap)) (s4 : ByteArray) (n5 : Int) (i6 : Int) (h7 : AHeap) : Option ((Int) × AHeap) :=
 (if (decide (i6 < (s4.size : Int))) = true then
 (Gx.idxS s4 i6).bind fun b9 =>
 let t10 : Int := (IntKind.wrap .i64 ((IntKind.wrap .i64 (n5 * 256)) + (IntKind.wrap .i64 b9)))
 rec8 s4 t10 (IntKind.wrap .i64 (i6 + 1)) h7
 else
 j3 n5 h7)
noncomputable def ref01_Num_l0 (k : Nat) (D : CallF) (j3 : Int → AHeap → Option ((Int) × AHeap)) : ByteArray → Int → Int → AHeap → Option ((Int) × AHeap) :=
 iterK (α := ByteArray → Int → Int → AHeap → Option ((Int) × AHeap)) (fun _ _ _ _ => none) k (ref01_Num_l0b k D j3)
noncomputable def ref01_Num (k : Nat) (D : CallF) (s_0 : ByteArray) (h : AHeap) : Option ((Int) × AHeap) :=
 joinK (fun (n1 : Int) (h2 : AHeap) =>
 some (n1, h2)) fun j3 =>
 ref01_Num_l0 k D j3 s_0 0 0 h
noncomputable def r_ref01_Num : RCode := an (.s .n (.s .n (.s (.j [(3, .i .i64)] (.s .n (.b (.l [(0, .s), (3, .i .i64), (4, .i .i64)] .n)))) .n))) (rOf Tryd.prog 2 Tryd.f137)
noncomputable def e_ref01_Num (k : Nat) (D : CallF) : Ent := entOf 137 [(0, .s)] [(2, .i .i64)] (ref01_Num k D)
theorem q_ref01_Num : (Tryd.f137.body).bind (rcodeOf Tryd.prog 2 Tryd.f137.ntmps) = some (strip r_ref01_Num) := by kernel_rfl
theorem t_ref01_Num (k : Nat) (D : CallF) : curF [(0, .s)] (fun args h => denF (C_ref01_Num k D) k r_ref01_Num [(2, .i .i64)] [none] args h) = ref01_Num k D := by kernel_rfl
theorem ok_ref01_Num {D : CallF} (hD : CSound Tryd.prog 2 D) (k : Nat) : EntOk Tryd.prog 2 (e_ref01_Num k D) :=
 entOf_ok2 (mkC_sound hD (EntsOk.none)) Tryd.func137 rfl q_ref01_Num rfl (t_ref01_Num k D)
end Ge
namespace Ge
open Go Gx Go.Proofs
set_option maxRecDepth 100000
noncomputable def C_ref02_words (k : Nat) (D : CallF) : CallF := mkC D [e_ref02_turn k D, e_ref01_Num k D]
noncomputable def ref02_words_l1b (k : Nat) (D : CallF) (j6 : (Option Addr) → (Option Addr) → AHeap → Option (((List Value)) × AHeap)) (rec54 : ByteArray → (Option Addr) → (Option Addr) → Int → AHeap → Option (((List Value)) × AHeap)) (s49 : ByteArray) (y50 : Option Addr) (w51 : Option Addr) (i52 : Int) (h53 : AHeap) : Option (((List Value)) × AHeap) :=
 (if (decide (i52 < 16)) = true then
 (Gx.subS s49 (some (IntKind.wrap .i64 (4 * i52))) (some (IntKind.wrap .i64 ((IntKind.wrap .i64 (4 * i52)) + 4)))).bind fun s55 =>
 (ref01_Num k D s55 h53).bind fun r56 =>
 (w51).bind fun p58 =>
 (Gx.idxA 64 1 p58 i52).bind fun q57 =>
 (st1 q57 (.int .u32 (IntKind.wrap .u32 r56.1)) r56.2).bind fun h59 =>
 rec54 s49 y50 w51 (IntKind.wrap .i64 (i52 + 1)) h59
 else
 j6 y50 w51 h53)
noncomputable def ref02_words_l1 (k : Nat) (D : CallF) (j6 : (Option Addr) → (Option Addr) → AHeap → Option (((List Value)) × AHeap)) : ByteArray → (Option Addr) → (Option Addr) → Int → AHeap → Option (((List Value)) × AHeap) :=
 iterK (α := ByteArray → (Option Addr) → (Option Addr) → Int → AHeap → Option (((List Value)) × AHeap)) (fun _ _ _ _ _ => none) k (ref02_words_l1b k D j6)
noncomputable def ref02_words_l0b (k : Nat) (D : CallF) (j10 : (Option Addr) → (Option Addr) → AHeap → Option (((List Value)) × AHeap)) (rec22 : (Option Addr) → (Option Addr) → Int → AHeap → Option (((List Value)) × AHeap)) (y18 : Option Addr) (w19 : Option Addr) (i20 : Int) (h21 : AHeap) : Option (((List Value)) × AHeap) :=
 (if (decide (i20 < 64)) = true then
 (w19).bind fun p24 =>
 (Gx.idxA 64 1 p24 (IntKind.wrap .i64 (i20 - 15))).bind fun q23 =>
 (ldI .u32 q23 h21).bind fun x25 =>
 (w19).bind fun p27 =>
 (Gx.idxA 64 1 p27 (IntKind.wrap .i64 (i20 - 2))).bind fun q26 =>
 (ldI .u32 q26 h21).bind fun x28 =>
 (ref02_turn k D x25 7 h21).bind fun r29 =>
 (ref02_turn k D x25 18 r29.2).bind fun r30 =>
 (ref02_turn k D x28 17 r30.2).bind fun r31 =>
 (ref02_turn k D x28 19 r31.2).bind fun r32 =>
 (w19).bind fun p34 =>
 (Gx.idxA 64 1 p34 (IntKind.wrap .i64 (i20 - 16))).bind fun q33 =>
 (ldI .u32 q33 r32.2).bind fun x35 =>
 guardP (SameW [r31.2, r30.2, r29.2, h21] (fun H37 => (ldI .u32 q33 H37).bind fun y36 => some (.int .u32 y36)) (.int .u32 x35)) (
 (w19).bind fun p39 =>
 (Gx.idxA 64 1 p39 (IntKind.wrap .i64 (i20 - 7))).bind fun q38 =>
 (ldI .u32 q38 r32.2).bind fun x40 =>
 guardP (SameW [r31.2, r30.2, r29.2, h21] (fun H42 => (ldI .u32 q38 H42).bind fun y41 => some (.int .u32 y41)) (.int .u32 x40)) (
 let t43 : Int := (Go.bits .xor .u32 (Go.bits .xor .u32 r29.1 r30.1) (Int.fdiv x25 8))
 let t44 : Int := (Go.bits .xor .u32 (Go.bits .xor .u32 r31.1 r32.1) (Int.fdiv x28 1024))
 let t45 : Int := (IntKind.wrap .u32 ((IntKind.wrap .u32 ((IntKind.wrap .u32 (x35 + x40)) + t43)) + t44))
 (w19).bind fun p47 =>
 (Gx.idxA 64 1 p47 i20).bind fun q46 =>
 (st1 q46 (.int .u32 t45) r32.2).bind fun h48 =>
 rec22 y18 w19 (IntKind.wrap .i64 (i20 + 1)) h48))
 else
 j10 y18 w19 h21)
noncomputable def ref02_words_l0 (k : Nat) (D : CallF) (j10 : (Option Addr) → (Option Addr) → AHeap → Option (((List Value)) × AHeap)) : (Option Addr) → (Option Addr) → Int → AHeap → Option (((List Value)) × AHeap) :=
 iterK (α := (Option Addr) → (Option Addr) → Int → AHeap → Option (((List Value)) × AHeap)) (fun _ _ _ _ => none) k (ref02_words_l0b k D j10)
noncomputable def ref02_words (k : Nat) (D : CallF) (s_0 : ByteArray) (h : AHeap) : Option (((List Value)) × AHeap) :=
 let h1 := AHeap.new h (.cells (List.replicate 64 (.int .u32 0)) 174 true 0)
 let h2 := AHeap.new h1 (.cells (List.replicate 64 (.int .u32 0)) 174 true 0)
 joinK (fun (y3 : Option Addr) (w4 : Option Addr) (h5 : AHeap) =>
 joinK (fun (y7 : Option Addr) (w8 : Option Addr) (h9 : AHeap) =>
 (w8).bind fun p11 =>
 (ldA 64 p11 h9).bind fun l12 =>
 (y7).bind fun p13 =>
 (stL 64 p13 l12 h9).bind fun h14 =>
 (y7).bind fun p15 =>
 (ldA 64 p15 h14).bind fun l16 =>
 (decA 64 (.agg ⟨l16⟩)).bind fun l17 =>
 some (l17, h14)) fun j10 =>
 ref02_words_l0 k D j10 y3 w4 16 h5) fun j6 =>
 ref02_words_l1 k D j6 s_0 (some (⟨h.next, 0, none⟩ : Addr)) (some (⟨h1.next, 0, none⟩ : Addr)) 0 h2
noncomputable def r_ref02_words : RCode := an (.s .n (.s .n (.s (.j [(2, .p), (3, .p)] (.s .n (.b (.l [(0, .s), (2, .p), (3, .p), (4, .i .i64)] .n)))) (.s (.j [(2, .p), (3, .p)] (.s .n (.b (.l [(2, .p), (3, .p), (5, .i .i64)] .n)))) .n)))) (rOf Tryd.prog 2 Tryd.f132)
noncomputable def e_ref02_words (k : Nat) (D : CallF) : Ent := entOf 132 [(0, .s)] [(2, .agg 64)] (ref02_words k D)
theorem q_ref02_words : (Tryd.f132.body).bind (rcodeOf Tryd.prog 2 Tryd.f132.ntmps) = some (strip r_ref02_words) := by kernel_rfl
theorem t_ref02_words (k : Nat) (D : CallF) : curF [(0, .s)] (fun args h => denF (C_ref02_words k D) k r_ref02_words [(2, .agg 64)] [some (.agg 64)] args h) = ref02_words k D := by kernel_rfl
theorem ok_ref02_words {D : CallF} (hD : CSound Tryd.prog 2 D) (k : Nat) : EntOk Tryd.prog 2 (e_ref02_words k D) :=
 entOf_ok2 (mkC_sound hD (EntsOk.more (ok_ref02_turn hD k) (EntsOk.more (ok_ref01_Num hD k) (EntsOk.none)))) Tryd.func132 rfl q_ref02_words rfl (t_ref02_words k D)
end Ge
namespace Ge
open Go Gx Go.Proofs
set_option maxRecDepth 100000
noncomputable def C_ref02_constants (_k : Nat) (D : CallF) : CallF := mkC D []
noncomputable def ref02_constants (_k : Nat) (_D : CallF)  (h : AHeap) : Option (((List Value)) × AHeap) :=
 let h1 := AHeap.new h (.cells (List.replicate 64 (.int .u32 0)) 174 true 0)
 (stL 64 (⟨h.next, 0, none⟩ : Addr) ([.int .u32 1116352408, .int .u32 1899447441, .int .u32 3049323471, .int .u32 3921009573, .int .u32 961987163, .int .u32 1508970993, .int .u32 2453635748, .int .u32 2870763221, .int .u32 3624381080, .int .u32 310598401, .int .u32 607225278, .int .u32 1426881987, .int .u32 1925078388, .int .u32 2162078206, .int .u32 2614888103, .int .u32 3248222580, .int .u32 3835390401, .int .u32 4022224774, .int .u32 264347078, .int .u32 604807628, .int .u32 770255983, .int .u32 1249150122, .int .u32 1555081692, .int .u32 1996064986, .int .u32 2554220882, .int .u32 2821834349, .int .u32 2952996808, .int .u32 3210313671, .int .u32 3336571891, .int .u32 3584528711, .int .u32 113926993, .int .u32 338241895, .int .u32 666307205, .int .u32 773529912, .int .u32 1294757372, .int .u32 1396182291, .int .u32 1695183700, .int .u32 1986661051, .int .u32 2177026350, .int .u32 2456956037, .int .u32 2730485921, .int .u32 2820302411, .int .u32 3259730800, .int .u32 3345764771, .int .u32 3516065817, .int .u32 3600352804, .int .u32 4094571909, .int .u32 275423344, .int .u32 430227734, .int .u32 506948616, .int .u32 659060556, .int .u32 883997877, .int .u32 958139571, .int .u32 1322822218, .int .u32 1537002063, .int .u32 1747873779, .int .u32 1955562222, .int .u32 2024104815, .int .u32 2227730452, .int .u32 2361852424, .int .u32 2428436474, .int .u32 2756734187, .int .u32 3204031479, .int .u32 3329325298]) h1).bind fun h2 =>
 (ldA 64 (⟨h.next, 0, none⟩ : Addr) h2).bind fun l3 =>
 (decA 64 (.agg ⟨l3⟩)).bind fun l4 =>
 some (l4, h2)
noncomputable def r_ref02_constants : RCode := an (.n) (rOf Tryd.prog 2 Tryd.f133)
noncomputable def e_ref02_constants (k : Nat) (D : CallF) : Ent := entOf 133 [] [(0, .agg 64)] (ref02_constants k D)
theorem q_ref02_constants : (Tryd.f133.body).bind (rcodeOf Tryd.prog 2 Tryd.f133.ntmps) = some (strip r_ref02_constants) := by kernel_rfl
theorem t_ref02_constants (k : Nat) (D : CallF) : curF [] (fun args h => denF (C_ref02_constants k D) k r_ref02_constants [(0, .agg 64)] [some (.agg 64)] args h) = ref02_constants k D := by kernel_rfl
theorem ok_ref02_constants {D : CallF} (hD : CSound Tryd.prog 2 D) (k : Nat) : EntOk Tryd.prog 2 (e_ref02_constants k D) :=
 entOf_ok2 (mkC_sound hD (EntsOk.none)) Tryd.func133 rfl q_ref02_constants rfl (t_ref02_constants k D)
end Ge
namespace Ge
open Go Gx Go.Proofs
set_option maxRecDepth 100000
noncomputable def C_ref02_take (k : Nat) (D : CallF) : CallF := mkC D [e_ref02_words k D, e_ref02_constants k D, e_ref02_turn k D]
noncomputable def ref02_take_l1b (k : Nat) (D : CallF) (j17 : (Option Addr) → (Option Addr) → (Option Addr) → AHeap → Option (((Int × Int × Int × Int × Int × Int × Int × Int)) × AHeap)) (rec52 : (Option Addr) → (Option Addr) → (Option Addr) → (Option Addr) → (Option Addr) → Int → AHeap → Option (((Int × Int × Int × Int × Int × Int × Int × Int)) × AHeap)) (l45 : Option Addr) (y46 : Option Addr) (w47 : Option Addr) (kv48 : Option Addr) (v49 : Option Addr) (i50 : Int) (h51 : AHeap) : Option (((Int × Int × Int × Int × Int × Int × Int × Int)) × AHeap) :=
 (if (decide (i50 < 64)) = true then
 (v49).bind fun p54 =>
 (ldI .u32 (⟨p54.block, p54.off + 0, none⟩ : Addr) h51).bind fun x55 =>
 (v49).bind fun p57 =>
 (ldI .u32 (⟨p57.block, p57.off + 1, none⟩ : Addr) h51).bind fun x58 =>
 (v49).bind fun p60 =>
 (ldI .u32 (⟨p60.block, p60.off + 2, none⟩ : Addr) h51).bind fun x61 =>
 (v49).bind fun p63 =>
 (ldI .u32 (⟨p63.block, p63.off + 4, none⟩ : Addr) h51).bind fun x64 =>
 (v49).bind fun p66 =>
 (ldI .u32 (⟨p66.block, p66.off + 5, none⟩ : Addr) h51).bind fun x67 =>
 (v49).bind fun p69 =>
 (ldI .u32 (⟨p69.block, p69.off + 6, none⟩ : Addr) h51).bind fun x70 =>
 (ref02_turn k D x64 6 h51).bind fun r71 =>
 (ref02_turn k D x64 11 r71.2).bind fun r72 =>
 (ref02_turn k D x64 25 r72.2).bind fun r73 =>
 (v49).bind fun p75 =>
 (ldI .u32 (⟨p75.block, p75.off + 7, none⟩ : Addr) r73.2).bind fun x76 =>
 guardP (SameW [r72.2, r71.2, h51] (fun H78 => (ldI .u32 (⟨p75.block, p75.off + 7, none⟩ : Addr) H78).bind fun y77 => some (.int .u32 y77)) (.int .u32 x76)) (
 let t79 : Int := (IntKind.wrap .u32 (x76 + (Go.bits .xor .u32 (Go.bits .xor .u32 r71.1 r72.1) r73.1)))
 let t80 : Int := (Go.bits .xor .u32 (Go.bits .and .u32 x64 x67) (Go.bits .andNot .u32 x70 x64))
 (kv48).bind fun p82 =>
 (Gx.idxA 64 1 p82 i50).bind fun q81 =>
 (ldI .u32 q81 r73.2).bind fun x83 =>
 guardP (SameW [r72.2, r71.2, h51] (fun H85 => (ldI .u32 q81 H85).bind fun y84 => some (.int .u32 y84)) (.int .u32 x83)) (
 (w47).bind fun p87 =>
 (Gx.idxA 64 1 p87 i50).bind fun q86 =>
 (ldI .u32 q86 r73.2).bind fun x88 =>
 guardP (SameW [r72.2, r71.2, h51] (fun H90 => (ldI .u32 q86 H90).bind fun y89 => some (.int .u32 y89)) (.int .u32 x88)) (
 let t91 : Int := (IntKind.wrap .u32 ((IntKind.wrap .u32 ((IntKind.wrap .u32 (t79 + t80)) + x83)) + x88))
 (ref02_turn k D x55 2 r73.2).bind fun r92 =>
 (ref02_turn k D x55 13 r92.2).bind fun r93 =>
 (ref02_turn k D x55 22 r93.2).bind fun r94 =>
 let t95 : Int := (Go.bits .xor .u32 (Go.bits .and .u32 x55 x58) (Go.bits .and .u32 x55 x61))
 let t96 : Int := (IntKind.wrap .u32 ((Go.bits .xor .u32 (Go.bits .xor .u32 r92.1 r93.1) r94.1) + (Go.bits .xor .u32 t95 (Go.bits .and .u32 x58 x61))))
 (v49).bind fun p98 =>
 (ldI .u32 (⟨p98.block, p98.off + 3, none⟩ : Addr) r94.2).bind fun x99 =>
 (v49).bind fun p100 =>
 (stL 8 p100 ([.int .u32 (IntKind.wrap .u32 (t91 + t96)), .int .u32 x55, .int .u32 x58, .int .u32 x61, .int .u32 (IntKind.wrap .u32 (x99 + t91)), .int .u32 x64, .int .u32 x67, .int .u32 x70]) r94.2).bind fun h101 =>
 rec52 l45 y46 w47 kv48 v49 (IntKind.wrap .i64 (i50 + 1)) h101)))
 else
 j17 l45 y46 v49 h51)
noncomputable def ref02_take_l1 (k : Nat) (D : CallF) (j17 : (Option Addr) → (Option Addr) → (Option Addr) → AHeap → Option (((Int × Int × Int × Int × Int × Int × Int × Int)) × AHeap)) : (Option Addr) → (Option Addr) → (Option Addr) → (Option Addr) → (Option Addr) → Int → AHeap → Option (((Int × Int × Int × Int × Int × Int × Int × Int)) × AHeap) :=
 iterK (α := (Option Addr) → (Option Addr) → (Option Addr) → (Option Addr) → (Option Addr) → Int → AHeap → Option (((Int × Int × Int × Int × Int × Int × Int × Int)) × AHeap)) (fun _ _ _ _ _ _ _ => none) k (ref02_take_l1b k D j17)
noncomputable def ref02_take_l0b (_k : Nat) (_D : CallF) (j21 : (Option Addr) → (Option Addr) → AHeap → Option (((Int × Int × Int × Int × Int × Int × Int × Int)) × AHeap)) (rec35 : (Option Addr) → (Option Addr) → (Option Addr) → Int → AHeap → Option (((Int × Int × Int × Int × Int × Int × Int × Int)) × AHeap)) (l30 : Option Addr) (y31 : Option Addr) (v32 : Option Addr) (i33 : Int) (h34 : AHeap) : Option (((Int × Int × Int × Int × Int × Int × Int × Int)) × AHeap) :=
 (if (decide (i33 < 8)) = true then
 (l30).bind fun p37 =>
 (Gx.idxA 8 1 p37 i33).bind fun q36 =>
 (ldI .u32 q36 h34).bind fun x38 =>
 (v32).bind fun p40 =>
 (Gx.idxA 8 1 p40 i33).bind fun q39 =>
 (ldI .u32 q39 h34).bind fun x41 =>
 (l30).bind fun p43 =>
 (Gx.idxA 8 1 p43 i33).bind fun q42 =>
 (st1 q42 (.int .u32 (IntKind.wrap .u32 (x38 + x41))) h34).bind fun h44 =>
 rec35 l30 y31 v32 (IntKind.wrap .i64 (i33 + 1)) h44
 else
 j21 l30 y31 h34)
noncomputable def ref02_take_l0 (k : Nat) (D : CallF) (j21 : (Option Addr) → (Option Addr) → AHeap → Option (((Int × Int × Int × Int × Int × Int × Int × Int)) × AHeap)) : (Option Addr) → (Option Addr) → (Option Addr) → Int → AHeap → Option (((Int × Int × Int × Int × Int × Int × Int × Int)) × AHeap) :=
 iterK (α := (Option Addr) → (Option Addr) → (Option Addr) → Int → AHeap → Option (((Int × Int × Int × Int × Int × Int × Int × Int)) × AHeap)) (fun _ _ _ _ _ => none) k (ref02_take_l0b k D j21)
noncomputable def ref02_take (k : Nat) (D : CallF) (l_0 : Int × Int × Int × Int × Int × Int × Int × Int) (s_1 : ByteArray) (h : AHeap) : Option (((Int × Int × Int × Int × Int × Int × Int × Int)) × AHeap) :=
 let h1 := AHeap.new h (.cells [.int .u32 l_0.1, .int .u32 l_0.2.1, .int .u32 l_0.2.2.1, .int .u32 l_0.2.2.2.1, .int .u32 l_0.2.2.2.2.1, .int .u32 l_0.2.2.2.2.2.1, .int .u32 l_0.2.2.2.2.2.2.1, .int .u32 l_0.2.2.2.2.2.2.2] 147 true 0)
 let h2 := AHeap.new h1 (.cells [.int .u32 0, .int .u32 0, .int .u32 0, .int .u32 0, .int .u32 0, .int .u32 0, .int .u32 0, .int .u32 0] 147 true 0)
 (ref02_words k D s_1 h2).bind fun r3 =>
 let h4 := AHeap.new r3.2 (.cells (List.replicate 64 (.int .u32 0)) 174 true 0)
 (stL 64 (⟨r3.2.next, 0, none⟩ : Addr) r3.1 h4).bind fun h5 =>
 (ref02_constants k D h5).bind fun r6 =>
 let h7 := AHeap.new r6.2 (.cells (List.replicate 64 (.int .u32 0)) 174 true 0)
 (stL 64 (⟨r6.2.next, 0, none⟩ : Addr) r6.1 h7).bind fun h8 =>
 (ldA 8 (⟨h.next, 0, none⟩ : Addr) h8).bind fun l9 =>
 (decC [.i .u32, .i .u32, .i .u32, .i .u32, .i .u32, .i .u32, .i .u32, .i .u32] l9).bind fun x10 =>
 let h11 := AHeap.new h8 (.cells [.int .u32 0, .int .u32 0, .int .u32 0, .int .u32 0, .int .u32 0, .int .u32 0, .int .u32 0, .int .u32 0] 147 true 0)
 (stL 8 (⟨h8.next, 0, none⟩ : Addr) ([.int .u32 x10.1, .int .u32 x10.2.1, .int .u32 x10.2.2.1, .int .u32 x10.2.2.2.1, .int .u32 x10.2.2.2.2.1, .int .u32 x10.2.2.2.2.2.1, .int .u32 x10.2.2.2.2.2.2.1, .int .u32 x10.2.2.2.2.2.2.2]) h11).bind fun h12 =>
 joinK (fun (l13 : Option Addr) (y14 : Option Addr) (v15 : Option Addr) (h16 : AHeap) =>
 joinK (fun (l18 : Option Addr) (y19 : Option Addr) (h20 : AHeap) =>
 (l18).bind fun p22 =>
 (ldA 8 p22 h20).bind fun l23 =>
 (decC [.i .u32, .i .u32, .i .u32, .i .u32, .i .u32, .i .u32, .i .u32, .i .u32] l23).bind fun x24 =>
 (y19).bind fun p25 =>
 (stL 8 p25 ([.int .u32 x24.1, .int .u32 x24.2.1, .int .u32 x24.2.2.1, .int .u32 x24.2.2.2.1, .int .u32 x24.2.2.2.2.1, .int .u32 x24.2.2.2.2.2.1, .int .u32 x24.2.2.2.2.2.2.1, .int .u32 x24.2.2.2.2.2.2.2]) h20).bind fun h26 =>
 (y19).bind fun p27 =>
 (ldA 8 p27 h26).bind fun l28 =>
 (decC [.i .u32, .i .u32, .i .u32, .i .u32, .i .u32, .i .u32, .i .u32, .i .u32] l28).bind fun x29 =>
 some ((x29.1, x29.2.1, x29.2.2.1, x29.2.2.2.1, x29.2.2.2.2.1, x29.2.2.2.2.2.1, x29.2.2.2.2.2.2.1, x29.2.2.2.2.2.2.2), h26)) fun j21 =>
 ref02_take_l0 k D j21 l13 y14 v15 0 h16) fun j17 =>
 ref02_take_l1 k D j17 (some (⟨h.next, 0, none⟩ : Addr)) (some (⟨h1.next, 0, none⟩ : Addr)) (some (⟨r3.2.next, 0, none⟩ : Addr)) (some (⟨r6.2.next, 0, none⟩ : Addr)) (some (⟨h8.next, 0, none⟩ : Addr)) 0 h12
noncomputable def r_ref02_take : RCode := an (.s .n (.s .n (.s .n (.s (.r [(0, .st [.i .u32, .i .u32, .i .u32, .i .u32, .i .u32, .i .u32, .i .u32, .i .u32])]) (.s (.j [(2, .p), (4, .p), (7, .p)] (.s .n (.b (.l [(2, .p), (4, .p), (5, .p), (6, .p), (7, .p), (8, .i .i64)] .n)))) (.s (.j [(2, .p), (4, .p)] (.s .n (.b (.l [(2, .p), (4, .p), (7, .p), (17, .i .i64)] .n)))) (.s (.r [(0, .st [.i .u32, .i .u32, .i .u32, .i .u32, .i .u32, .i .u32, .i .u32, .i .u32])]) .n))))))) (rOf Tryd.prog 2 Tryd.f111)
noncomputable def e_ref02_take (k : Nat) (D : CallF) : Ent := entOf 111 [(0, .st [.i .u32, .i .u32, .i .u32, .i .u32, .i .u32, .i .u32, .i .u32, .i .u32]), (1, .s)] [(4, .st [.i .u32, .i .u32, .i .u32, .i .u32, .i .u32, .i .u32, .i .u32, .i .u32])] (ref02_take k D)
theorem q_ref02_take : (Tryd.f111.body).bind (rcodeOf Tryd.prog 2 Tryd.f111.ntmps) = some (strip r_ref02_take) := by kernel_rfl
theorem t_ref02_take (k : Nat) (D : CallF) : curF [(0, .st [.i .u32, .i .u32, .i .u32, .i .u32, .i .u32, .i .u32, .i .u32, .i .u32]), (1, .s)] (fun args h => denF (C_ref02_take k D) k r_ref02_take [(4, .st [.i .u32, .i .u32, .i .u32, .i .u32, .i .u32, .i .u32, .i .u32, .i .u32])] [some (.agg 8)] args h) = ref02_take k D := by kernel_rfl
theorem ok_ref02_take {D : CallF} (hD : CSound Tryd.prog 2 D) (k : Nat) : EntOk Tryd.prog 2 (e_ref02_take k D) :=
 entOf_ok2 (mkC_sound hD (EntsOk.more (ok_ref02_words hD k) (EntsOk.more (ok_ref02_constants hD k) (EntsOk.more (ok_ref02_turn hD k) (EntsOk.none))))) Tryd.func111 rfl q_ref02_take rfl (t_ref02_take k D)
end Ge
namespace Ge
open Go Gx Go.Proofs
set_option maxRecDepth 100000
noncomputable def C_ref02_Digest (k : Nat) (D : CallF) : CallF := mkC D [e_ref01_Must k D, e_ref02_take k D]
noncomputable def ref02_Digest_l2b (_k : Nat) (_D : CallF) (j4 : ByteArray → Int → AHeap → Option ((ByteArray) × AHeap)) (rec39 : ByteArray → Int → AHeap → Option ((ByteArray) × AHeap)) (s36 : ByteArray) (n37 : Int) (h38 : AHeap) : Option ((ByteArray) × AHeap) :=
 (if ((Int.tmod (s36.size : Int) 64) != 56) = true then
 (if s36.size + (⟨#[0]⟩ : ByteArray).size ≤ 9223372036854775807 then
 rec39 (s36 ++ (⟨#[0]⟩ : ByteArray)) n37 h38
 else none)
 else
 j4 s36 n37 h38)
noncomputable def ref02_Digest_l2 (k : Nat) (D : CallF) (j4 : ByteArray → Int → AHeap → Option ((ByteArray) × AHeap)) : ByteArray → Int → AHeap → Option ((ByteArray) × AHeap) :=
 iterK (α := ByteArray → Int → AHeap → Option ((ByteArray) × AHeap)) (fun _ _ _ => none) k (ref02_Digest_l2b k D j4)
noncomputable def ref02_Digest_l1b (k : Nat) (D : CallF) (j10 : (Option Addr) → AHeap → Option ((ByteArray) × AHeap)) (rec28 : ByteArray → (Option Addr) → Int → AHeap → Option ((ByteArray) × AHeap)) (s24 : ByteArray) (l25 : Option Addr) (i26 : Int) (h27 : AHeap) : Option ((ByteArray) × AHeap) :=
 (if (decide (i26 < (s24.size : Int))) = true then
 (l25).bind fun p29 =>
 (ldA 8 p29 h27).bind fun l30 =>
 (decC [.i .u32, .i .u32, .i .u32, .i .u32, .i .u32, .i .u32, .i .u32, .i .u32] l30).bind fun x31 =>
 (Gx.subS s24 (some i26) (some (IntKind.wrap .i64 (i26 + 64)))).bind fun s32 =>
 (ref02_take k D (x31.1, x31.2.1, x31.2.2.1, x31.2.2.2.1, x31.2.2.2.2.1, x31.2.2.2.2.2.1, x31.2.2.2.2.2.2.1, x31.2.2.2.2.2.2.2) s32 h27).bind fun r33 =>
 (l25).bind fun p34 =>
 (stL 8 p34 ([.int .u32 r33.1.1, .int .u32 r33.1.2.1, .int .u32 r33.1.2.2.1, .int .u32 r33.1.2.2.2.1, .int .u32 r33.1.2.2.2.2.1, .int .u32 r33.1.2.2.2.2.2.1, .int .u32 r33.1.2.2.2.2.2.2.1, .int .u32 r33.1.2.2.2.2.2.2.2]) r33.2).bind fun h35 =>
 rec28 s24 l25 (IntKind.wrap .i64 (i26 + 64)) h35
 else
 j10 l25 h27)
noncomputable def ref02_Digest_l1 (k : Nat) (D : CallF) (j10 : (Option Addr) → AHeap → Option ((ByteArray) × AHeap)) : ByteArray → (Option Addr) → Int → AHeap → Option ((ByteArray) × AHeap) :=
 iterK (α := ByteArray → (Option Addr) → Int → AHeap → Option ((ByteArray) × AHeap)) (fun _ _ _ _ => none) k (ref02_Digest_l1b k D j10)
noncomputable def ref02_Digest_l0b (k : Nat) (D : CallF) (j13 : ByteArray → AHeap → Option ((ByteArray) × AHeap)) (rec19 : (Option Addr) → ByteArray → Int → AHeap → Option ((ByteArray) × AHeap)) (l14 : Option Addr) (out15 : ByteArray) (i17 : Int) (h18 : AHeap) : Option ((ByteArray) × AHeap) :=
 (if (decide (i17 < 8)) = true then
 (l14).bind fun p21 =>
 (Gx.idxA 8 1 p21 i17).bind fun q20 =>
 (ldI .u32 q20 h18).bind fun x22 =>
 (ref01_Must k D (IntKind.wrap .i64 x22) 4 h18).bind fun r23 =>
 (if out15.size + r23.1.size ≤ 9223372036854775807 then
 rec19 l14 (out15 ++ r23.1) (IntKind.wrap .i64 (i17 + 1)) r23.2
 else none)
 else
 j13 out15 h18)
noncomputable def ref02_Digest_l0 (k : Nat) (D : CallF) (j13 : ByteArray → AHeap → Option ((ByteArray) × AHeap)) : (Option Addr) → ByteArray → Int → AHeap → Option ((ByteArray) × AHeap) :=
 iterK (α := (Option Addr) → ByteArray → Int → AHeap → Option ((ByteArray) × AHeap)) (fun _ _ _ _ => none) k (ref02_Digest_l0b k D j13)
noncomputable def ref02_Digest (k : Nat) (D : CallF) (s_0 : ByteArray) (h : AHeap) : Option ((ByteArray) × AHeap) :=
 (if s_0.size + (⟨#[128]⟩ : ByteArray).size ≤ 9223372036854775807 then
 joinK (fun (s1 : ByteArray) (n2 : Int) (h3 : AHeap) =>
 (ref01_Must k D (IntKind.wrap .i64 (n2 * 8)) 8 h3).bind fun r5 =>
 (if s1.size + r5.1.size ≤ 9223372036854775807 then
 let h6 := AHeap.new r5.2 (.cells [.int .u32 0, .int .u32 0, .int .u32 0, .int .u32 0, .int .u32 0, .int .u32 0, .int .u32 0, .int .u32 0] 147 true 0)
 (stL 8 (⟨r5.2.next, 0, none⟩ : Addr) ([.int .u32 1779033703, .int .u32 3144134277, .int .u32 1013904242, .int .u32 2773480762, .int .u32 1359893119, .int .u32 2600822924, .int .u32 528734635, .int .u32 1541459225]) h6).bind fun h7 =>
 joinK (fun (l8 : Option Addr) (h9 : AHeap) =>
 joinK (fun (out11 : ByteArray) (h12 : AHeap) =>
 some (out11, h12)) fun j13 =>
 ref02_Digest_l0 k D j13 l8 (⟨#[]⟩ : ByteArray) 0 h9) fun j10 =>
 ref02_Digest_l1 k D j10 (s1 ++ r5.1) (some (⟨r5.2.next, 0, none⟩ : Addr)) 0 h7
 else none)) fun j4 =>
 ref02_Digest_l2 k D j4 (s_0 ++ (⟨#[128]⟩ : ByteArray)) (s_0.size : Int) h
 else none)
noncomputable def r_ref02_Digest : RCode := an (.s .n (.s .n (.s .n (.s (.j [(0, .s), (3, .i .i64)] (.b (.l [(0, .s), (3, .i .i64)] .n))) (.s .n (.s .n (.s (.j [(4, .p)] (.s .n (.b (.l [(0, .s), (4, .p), (5, .i .i64)] (.s .n (.s (.b (.r [(0, .st [.i .u32, .i .u32, .i .u32, .i .u32, .i .u32, .i .u32, .i .u32, .i .u32])])) .n)))))) (.s .n (.s (.j [(6, .s)] (.s .n (.b (.l [(4, .p), (6, .s), (7, .i .i64)] .n)))) .n))))))))) (rOf Tryd.prog 2 Tryd.f79)
noncomputable def e_ref02_Digest (k : Nat) (D : CallF) : Ent := entOf 79 [(0, .s)] [(2, .s)] (ref02_Digest k D)
theorem q_ref02_Digest : (Tryd.f79.body).bind (rcodeOf Tryd.prog 2 Tryd.f79.ntmps) = some (strip r_ref02_Digest) := by kernel_rfl
theorem t_ref02_Digest (k : Nat) (D : CallF) : curF [(0, .s)] (fun args h => denF (C_ref02_Digest k D) k r_ref02_Digest [(2, .s)] [none] args h) = ref02_Digest k D := by kernel_rfl
theorem ok_ref02_Digest {D : CallF} (hD : CSound Tryd.prog 2 D) (k : Nat) : EntOk Tryd.prog 2 (e_ref02_Digest k D) :=
 entOf_ok2 (mkC_sound hD (EntsOk.more (ok_ref01_Must hD k) (EntsOk.more (ok_ref02_take hD k) (EntsOk.none)))) Tryd.func79 rfl q_ref02_Digest rfl (t_ref02_Digest k D)
end Ge
namespace Ge
open Go Gx Go.Proofs
set_option maxRecDepth 100000
noncomputable def C_ref13_Sum (k : Nat) (D : CallF) : CallF := mkC D [e_ref02_Digest k D]
noncomputable def ref13_Sum (k : Nat) (D : CallF) (kind_0 : Int) (text_1 : ByteArray) (h : AHeap) : Option ((ByteArray) × AHeap) :=
 newK h ((.cells [.int .u8 (IntKind.wrap .u8 kind_0)] 5 true 0)) fun h1 =>
 (bytesOf h1 (⟨(some ⟨h.next, 0, some 0⟩), 1, 1⟩ : Slc)).bind fun s2 =>
 (if s2.size + text_1.size ≤ 9223372036854775807 then
 (ref02_Digest k D (s2 ++ text_1) h1).bind fun r3 =>
 some (r3.1, r3.2)
 else none)
noncomputable def r_ref13_Sum : RCode := an (.n) (rOf Tryd.prog 2 Tryd.f42)
noncomputable def e_ref13_Sum (k : Nat) (D : CallF) : Ent := entOf 42 [(0, .i .i64), (1, .s)] [(4, .s)] (ref13_Sum k D)
theorem q_ref13_Sum : (Tryd.f42.body).bind (rcodeOf Tryd.prog 2 Tryd.f42.ntmps) = some (strip r_ref13_Sum) := by kernel_rfl
theorem t_ref13_Sum (k : Nat) (D : CallF) : curF [(0, .i .i64), (1, .s)] (fun args h => denF (C_ref13_Sum k D) k r_ref13_Sum [(4, .s)] [none] args h) = ref13_Sum k D := by kernel_rfl
theorem ok_ref13_Sum {D : CallF} (hD : CSound Tryd.prog 2 D) (k : Nat) : EntOk Tryd.prog 2 (e_ref13_Sum k D) :=
 entOf_ok2 (mkC_sound hD (EntsOk.more (ok_ref02_Digest hD k) (EntsOk.none))) Tryd.func42 rfl q_ref13_Sum rfl (t_ref13_Sum k D)
end Ge
namespace Ge
open Go Gx Go.Proofs
set_option maxRecDepth 100000
noncomputable def C_ref13_Id (k : Nat) (D : CallF) : CallF := mkC D [e_ref13_Known k D, e_ref13_Sum k D]
noncomputable def ref13_Id (k : Nat) (D : CallF) (kind_0 : Int) (text_1 : ByteArray) (h : AHeap) : Option ((ByteArray × Int) × AHeap) :=
 (ref13_Known k D kind_0 h).bind fun r1 =>
 (if (!r1.1) = true then
 some (((⟨#[]⟩ : ByteArray), 1), r1.2)
 else
 (ref13_Sum k D kind_0 text_1 r1.2).bind fun r2 =>
 some ((r2.1, 0), r2.2))
noncomputable def r_ref13_Id : RCode := an (.n) (rOf Tryd.prog 2 Tryd.f11)
noncomputable def e_ref13_Id (k : Nat) (D : CallF) : Ent := entOf 11 [(0, .i .i64), (1, .s)] [(4, .s), (5, .i .i64)] (ref13_Id k D)
theorem q_ref13_Id : (Tryd.f11.body).bind (rcodeOf Tryd.prog 2 Tryd.f11.ntmps) = some (strip r_ref13_Id) := by kernel_rfl
theorem t_ref13_Id (k : Nat) (D : CallF) : curF [(0, .i .i64), (1, .s)] (fun args h => denF (C_ref13_Id k D) k r_ref13_Id [(4, .s), (5, .i .i64)] [none, none] args h) = ref13_Id k D := by kernel_rfl
theorem ok_ref13_Id {D : CallF} (hD : CSound Tryd.prog 2 D) (k : Nat) : EntOk Tryd.prog 2 (e_ref13_Id k D) :=
 entOf_ok2 (mkC_sound hD (EntsOk.more (ok_ref13_Known hD k) (EntsOk.more (ok_ref13_Sum hD k) (EntsOk.none)))) Tryd.func11 rfl q_ref13_Id rfl (t_ref13_Id k D)
end Ge
namespace Ge
open Go Gx Go.Proofs
set_option maxRecDepth 100000
end Ge
namespace Ge
open Go Gx Go.Proofs
set_option maxRecDepth 100000
end Ge
namespace Ge
open Go Gx Go.Proofs
set_option maxRecDepth 100000
end Ge
namespace Ge
open Go Gx Go.Proofs
set_option maxRecDepth 100000
end Ge
namespace Ge
open Go Gx Go.Proofs
set_option maxRecDepth 100000
end Ge
namespace Ge
open Go Gx Go.Proofs
end Ge
namespace Ge
open Go Gx Go.Proofs
set_option maxRecDepth 100000
end Ge
namespace Ge
open Go Gx Go.Proofs
set_option maxRecDepth 100000
noncomputable def C_lz_writer_number (_k : Nat) (D : CallF) : CallF := mkC D []
noncomputable def lz_writer_number_l0b (_k : Nat) (_D : CallF) (j4 : (Option Addr) → Int → AHeap → Option ((Unit) × AHeap)) (rec15 : (Option Addr) → Int → AHeap → Option ((Unit) × AHeap)) (w12 : Option Addr) (n13 : Int) (h14 : AHeap) : Option ((Unit) × AHeap) :=
 (if (decide (n13 ≥ 255)) = true then
 (w12).bind fun p16 =>
 (ldL (⟨p16.block, p16.off + 0, none⟩ : Addr) h14).bind fun x17 =>
 newK h14 ((.cells [.int .u8 255] 5 true 0)) fun h18 =>
 (rdS 1 (⟨(some ⟨h14.next, 0, some 0⟩), 1, 1⟩ : Slc) h18).bind fun n20 =>
 (appendA 1 1 5 h18 x17 n20 1).bind fun r19 =>
 (w12).bind fun p21 =>
 (st1 (⟨p21.block, p21.off + 0, none⟩ : Addr) (.slice r19.1.a r19.1.len r19.1.cap) r19.2).bind fun h22 =>
 rec15 w12 (IntKind.wrap .i64 (n13 - 255)) h22
 else
 j4 w12 n13 h14)
noncomputable def lz_writer_number_l0 (k : Nat) (D : CallF) (j4 : (Option Addr) → Int → AHeap → Option ((Unit) × AHeap)) : (Option Addr) → Int → AHeap → Option ((Unit) × AHeap) :=
 iterK (α := (Option Addr) → Int → AHeap → Option ((Unit) × AHeap)) (fun _ _ _ => none) k (lz_writer_number_l0b k D j4)
noncomputable def lz_writer_number (k : Nat) (D : CallF) (w_0 : Option Addr) (n_1 : Int) (h : AHeap) : Option ((Unit) × AHeap) :=
 (if (decide (n_1 < 15)) = true then
 some ((), h)
 else
 joinK (fun (w1 : Option Addr) (n2 : Int) (h3 : AHeap) =>
 (w1).bind fun p5 =>
 (ldL (⟨p5.block, p5.off + 0, none⟩ : Addr) h3).bind fun x6 =>
 newK h3 ((.cells [.int .u8 (IntKind.wrap .u8 n2)] 5 true 0)) fun h7 =>
 (rdS 1 (⟨(some ⟨h3.next, 0, some 0⟩), 1, 1⟩ : Slc) h7).bind fun n9 =>
 (appendA 1 1 5 h7 x6 n9 1).bind fun r8 =>
 (w1).bind fun p10 =>
 (st1 (⟨p10.block, p10.off + 0, none⟩ : Addr) (.slice r8.1.a r8.1.len r8.1.cap) r8.2).bind fun h11 =>
 some ((), h11)) fun j4 =>
 lz_writer_number_l0 k D j4 w_0 (IntKind.wrap .i64 (n_1 - 15)) h)
noncomputable def r_lz_writer_number : RCode := an (.s .n (.s .n (.s (.j [(0, .p), (1, .i .i64)] (.b (.l [(0, .p), (1, .i .i64)] .n))) .n))) (rOf Tryd.prog 2 Tryd.f81)
noncomputable def e_lz_writer_number (k : Nat) (D : CallF) : Ent := entOf 81 [(0, .p), (1, .i .i64)] [] (lz_writer_number k D)
theorem q_lz_writer_number : (Tryd.f81.body).bind (rcodeOf Tryd.prog 2 Tryd.f81.ntmps) = some (strip r_lz_writer_number) := by kernel_rfl
theorem t_lz_writer_number (k : Nat) (D : CallF) : curF [(0, .p), (1, .i .i64)] (fun args h => denF (C_lz_writer_number k D) k r_lz_writer_number [] [] args h) = lz_writer_number k D := by kernel_rfl
theorem ok_lz_writer_number {D : CallF} (hD : CSound Tryd.prog 2 D) (k : Nat) : EntOk Tryd.prog 2 (e_lz_writer_number k D) :=
 entOf_ok2 (mkC_sound hD (EntsOk.none)) Tryd.func81 rfl q_lz_writer_number rfl (t_lz_writer_number k D)
end Ge
namespace Ge
open Go Gx Go.Proofs
set_option maxRecDepth 100000
noncomputable def C_lz_writer_sequence (k : Nat) (D : CallF) : CallF := mkC D [e_lz_writer_number k D]
noncomputable def lz_writer_sequence (k : Nat) (D : CallF) (w_0 : Option Addr) (literals_1 : ByteArray) (distance_2 : Int) (long_3 : Int) (h : AHeap) : Option ((Unit) × AHeap) :=
 let t1 : Int := (if 15 < (literals_1.size : Int) then 15 else (literals_1.size : Int))
 joinK (fun (w2 : Option Addr) (literals3 : ByteArray) (distance4 : Int) (long5 : Int) (token6 : Int) (h7 : AHeap) =>
 (w2).bind fun p9 =>
 (ldL (⟨p9.block, p9.off + 0, none⟩ : Addr) h7).bind fun x10 =>
 newK h7 ((.cells [.int .u8 (IntKind.wrap .u8 token6)] 5 true 0)) fun h11 =>
 (rdS 1 (⟨(some ⟨h7.next, 0, some 0⟩), 1, 1⟩ : Slc) h11).bind fun n13 =>
 (appendA 1 1 5 h11 x10 n13 1).bind fun r12 =>
 (w2).bind fun p14 =>
 (st1 (⟨p14.block, p14.off + 0, none⟩ : Addr) (.slice r12.1.a r12.1.len r12.1.cap) r12.2).bind fun h15 =>
 (lz_writer_number k D w2 (literals3.size : Int) h15).bind fun r16 =>
 (w2).bind fun p17 =>
 (ldL (⟨p17.block, p17.off + 0, none⟩ : Addr) r16.2).bind fun x18 =>
 (appendA 1 1 5 r16.2 x18 (bytesL literals3) literals3.size).bind fun r19 =>
 (w2).bind fun p20 =>
 (st1 (⟨p20.block, p20.off + 0, none⟩ : Addr) (.slice r19.1.a r19.1.len r19.1.cap) r19.2).bind fun h21 =>
 (if (decide (distance4 > 0)) = true then
 (w2).bind fun p22 =>
 (ldL (⟨p22.block, p22.off + 0, none⟩ : Addr) h21).bind fun x23 =>
 newK h21 ((.cells [.int .u8 (IntKind.wrap .u8 distance4), .int .u8 (IntKind.wrap .u8 (Int.fdiv distance4 256))] 5 true 0)) fun h24 =>
 (rdS 1 (⟨(some ⟨h21.next, 0, some 0⟩), 2, 2⟩ : Slc) h24).bind fun n26 =>
 (appendA 1 1 5 h24 x23 n26 2).bind fun r25 =>
 (w2).bind fun p27 =>
 (st1 (⟨p27.block, p27.off + 0, none⟩ : Addr) (.slice r25.1.a r25.1.len r25.1.cap) r25.2).bind fun h28 =>
 (lz_writer_number k D w2 (IntKind.wrap .i64 (long5 - 4)) h28).bind fun r29 =>
 some ((), r29.2)
 else
 some ((), h21))) fun j8 =>
 (if (decide (distance_2 > 0)) = true then
 let t30 : Int := (if 15 < (IntKind.wrap .i64 (long_3 - 4)) then 15 else (IntKind.wrap .i64 (long_3 - 4)))
 j8 w_0 literals_1 distance_2 long_3 (Go.bits .or .i64 (IntKind.wrap .i64 (t1 * 16)) t30) h
 else
 j8 w_0 literals_1 distance_2 long_3 (IntKind.wrap .i64 (t1 * 16)) h)
noncomputable def r_lz_writer_sequence : RCode := an (.s .n (.s (.j [(0, .p), (1, .s), (2, .i .i64), (3, .i .i64), (8, .i .i64)] .n) .n)) (rOf Tryd.prog 2 Tryd.f45)
noncomputable def e_lz_writer_sequence (k : Nat) (D : CallF) : Ent := entOf 45 [(0, .p), (1, .s), (2, .i .i64), (3, .i .i64)] [] (lz_writer_sequence k D)
theorem q_lz_writer_sequence : (Tryd.f45.body).bind (rcodeOf Tryd.prog 2 Tryd.f45.ntmps) = some (strip r_lz_writer_sequence) := by kernel_rfl
theorem t_lz_writer_sequence (k : Nat) (D : CallF) : curF [(0, .p), (1, .s), (2, .i .i64), (3, .i .i64)] (fun args h => denF (C_lz_writer_sequence k D) k r_lz_writer_sequence [] [] args h) = lz_writer_sequence k D := by kernel_rfl
theorem ok_lz_writer_sequence {D : CallF} (hD : CSound Tryd.prog 2 D) (k : Nat) : EntOk Tryd.prog 2 (e_lz_writer_sequence k D) :=
 entOf_ok2 (mkC_sound hD (EntsOk.more (ok_lz_writer_number hD k) (EntsOk.none))) Tryd.func45 rfl q_lz_writer_sequence rfl (t_lz_writer_sequence k D)
end Ge
namespace Ge
open Go Gx Go.Proofs
set_option maxRecDepth 100000
noncomputable def C_lz_packer_four (_k : Nat) (D : CallF) : CallF := mkC D []
noncomputable def lz_packer_four (_k : Nat) (_D : CallF) (p_0 : Option Addr) (at_1 : Int) (h : AHeap) : Option (((Int × Int × Int × Int)) × AHeap) :=
 newK h ((.cells [.int .u8 0, .int .u8 0, .int .u8 0, .int .u8 0] 82 true 0)) fun h1 =>
 (p_0).bind fun p2 =>
 (ldS (⟨p2.block, p2.off + 0, none⟩ : Addr) h1).bind fun x3 =>
 (Gx.idxS x3 at_1).bind fun b4 =>
 (p_0).bind fun p5 =>
 (ldS (⟨p5.block, p5.off + 0, none⟩ : Addr) h1).bind fun x6 =>
 (Gx.idxS x6 (IntKind.wrap .i64 (at_1 + 1))).bind fun b7 =>
 (p_0).bind fun p8 =>
 (ldS (⟨p8.block, p8.off + 0, none⟩ : Addr) h1).bind fun x9 =>
 (Gx.idxS x9 (IntKind.wrap .i64 (at_1 + 2))).bind fun b10 =>
 (p_0).bind fun p11 =>
 (ldS (⟨p11.block, p11.off + 0, none⟩ : Addr) h1).bind fun x12 =>
 (Gx.idxS x12 (IntKind.wrap .i64 (at_1 + 3))).bind fun b13 =>
 (stL 4 (⟨h.next, 0, none⟩ : Addr) ([.int .u8 b4, .int .u8 b7, .int .u8 b10, .int .u8 b13]) h1).bind fun h14 =>
 (ldA 4 (⟨h.next, 0, none⟩ : Addr) h14).bind fun l15 =>
 (decC [.i .u8, .i .u8, .i .u8, .i .u8] l15).bind fun x16 =>
 some ((x16.1, x16.2.1, x16.2.2.1, x16.2.2.2), h14)
noncomputable def r_lz_packer_four : RCode := an (.n) (rOf Tryd.prog 2 Tryd.f46)
noncomputable def e_lz_packer_four (k : Nat) (D : CallF) : Ent := entOf 46 [(0, .p), (1, .i .i64)] [(4, .st [.i .u8, .i .u8, .i .u8, .i .u8])] (lz_packer_four k D)
theorem q_lz_packer_four : (Tryd.f46.body).bind (rcodeOf Tryd.prog 2 Tryd.f46.ntmps) = some (strip r_lz_packer_four) := by kernel_rfl
theorem t_lz_packer_four (k : Nat) (D : CallF) : curF [(0, .p), (1, .i .i64)] (fun args h => denF (C_lz_packer_four k D) k r_lz_packer_four [(4, .st [.i .u8, .i .u8, .i .u8, .i .u8])] [some (.agg 4)] args h) = lz_packer_four k D := by kernel_rfl
theorem ok_lz_packer_four {D : CallF} (hD : CSound Tryd.prog 2 D) (k : Nat) : EntOk Tryd.prog 2 (e_lz_packer_four k D) :=
 entOf_ok2 (mkC_sound hD (EntsOk.none)) Tryd.func46 rfl q_lz_packer_four rfl (t_lz_packer_four k D)
end Ge
namespace Ge
open Go Gx Go.Proofs
set_option maxRecDepth 100000
noncomputable def C_lz_packer_alike (_k : Nat) (D : CallF) : CallF := mkC D []
noncomputable def lz_packer_alike_l0b (_k : Nat) (_D : CallF) (j3 : Int → AHeap → Option ((Int) × AHeap)) (rec9 : (Option Addr) → Int → Int → Int → AHeap → Option ((Int) × AHeap)) (p4 : Option Addr) (fromv5 : Int) (atv6 : Int) (n7 : Int) (h8 : AHeap) : Option ((Int) × AHeap) :=
 joinK (fun (p10 : Option Addr) (fromv11 : Int) (atv12 : Int) (n13 : Int) (y14 : Bool) (h15 : AHeap) =>
 (if y14 = true then
 rec9 p10 fromv11 atv12 (IntKind.wrap .i64 (n13 + 1)) h15
 else
 j3 n13 h15)) fun j16 =>
 (p4).bind fun p17 =>
 (ldS (⟨p17.block, p17.off + 0, none⟩ : Addr) h8).bind fun x18 =>
 (if (decide ((IntKind.wrap .i64 (atv6 + n7)) < (x18.size : Int))) = true then
 (p4).bind fun p19 =>
 (ldS (⟨p19.block, p19.off + 0, none⟩ : Addr) h8).bind fun x20 =>
 (Gx.idxS x20 (IntKind.wrap .i64 (fromv5 + n7))).bind fun b21 =>
 (p4).bind fun p22 =>
 (ldS (⟨p22.block, p22.off + 0, none⟩ : Addr) h8).bind fun x23 =>
 (Gx.idxS x23 (IntKind.wrap .i64 (atv6 + n7))).bind fun b24 =>
 j16 p4 fromv5 atv6 n7 (b21 == b24) h8
 else
 j16 p4 fromv5 atv6 n7 false h8)
noncomputable def lz_packer_alike_l0 (k : Nat) (D : CallF) (j3 : Int → AHeap → Option ((Int) × AHeap)) : (Option Addr) → Int → Int → Int → AHeap → Option ((Int) × AHeap) :=
 iterK (α := (Option Addr) → Int → Int → Int → AHeap → Option ((Int) × AHeap)) (fun _ _ _ _ _ => none) k (lz_packer_alike_l0b k D j3)
noncomputable def lz_packer_alike (k : Nat) (D : CallF) (p_0 : Option Addr) (from_1 : Int) (at_2 : Int) (h : AHeap) : Option ((Int) × AHeap) :=
 joinK (fun (n1 : Int) (h2 : AHeap) =>
 some (n1, h2)) fun j3 =>
 lz_packer_alike_l0 k D j3 p_0 from_1 at_2 0 h
noncomputable def r_lz_packer_alike : RCode := an (.s .n (.s .n (.s (.j [(7, .i .i64)] (.b (.l [(0, .p), (1, .i .i64), (2, .i .i64), (7, .i .i64)] (.s (.s (.j [(0, .p), (1, .i .i64), (2, .i .i64), (7, .i .i64), (35, .b)] .n) .n) .n)))) .n))) (rOf Tryd.prog 2 Tryd.f80)
noncomputable def e_lz_packer_alike (k : Nat) (D : CallF) : Ent := entOf 80 [(0, .p), (1, .i .i64), (2, .i .i64)] [(6, .i .i64)] (lz_packer_alike k D)
theorem q_lz_packer_alike : (Tryd.f80.body).bind (rcodeOf Tryd.prog 2 Tryd.f80.ntmps) = some (strip r_lz_packer_alike) := by kernel_rfl
theorem t_lz_packer_alike (k : Nat) (D : CallF) : curF [(0, .p), (1, .i .i64), (2, .i .i64)] (fun args h => denF (C_lz_packer_alike k D) k r_lz_packer_alike [(6, .i .i64)] [none] args h) = lz_packer_alike k D := by kernel_rfl
theorem ok_lz_packer_alike {D : CallF} (hD : CSound Tryd.prog 2 D) (k : Nat) : EntOk Tryd.prog 2 (e_lz_packer_alike k D) :=
 entOf_ok2 (mkC_sound hD (EntsOk.none)) Tryd.func80 rfl q_lz_packer_alike rfl (t_lz_packer_alike k D)
end Ge
namespace Ge
open Go Gx Go.Proofs
set_option maxRecDepth 100000
noncomputable def C_lz_packer_best (k : Nat) (D : CallF) : CallF := mkC D [e_lz_packer_four k D, e_lz_packer_alike k D]
noncomputable def lz_packer_best_l0b (k : Nat) (D : CallF) (j6 : (Option Addr) → Int → Int → Int → AHeap → Option ((Int × Int) × AHeap)) (rec32 : (Option Addr) → Int → Int → Int → Int → AHeap → Option ((Int × Int) × AHeap)) (p26 : Option Addr) (atv27 : Int) (distance28 : Int) (long29 : Int) (d30 : Int) (h31 : AHeap) : Option ((Int × Int) × AHeap) :=
 (if (decide (d30 ≤ (if atv27 < 64 then atv27 else 64))) = true then
 joinK (fun (p33 : Option Addr) (atv34 : Int) (distance35 : Int) (long36 : Int) (d37 : Int) (h38 : AHeap) =>
 rec32 p33 atv34 distance35 long36 (IntKind.wrap .i64 (d37 + 1)) h38) fun j39 =>
 (lz_packer_alike k D p26 (IntKind.wrap .i64 (atv27 - d30)) atv27 h31).bind fun r40 =>
 (if (decide (r40.1 > long29)) = true then
 j39 p26 atv27 d30 r40.1 d30 r40.2
 else
 j39 p26 atv27 distance28 long29 d30 r40.2)
 else
 j6 p26 atv27 distance28 long29 h31)
noncomputable def lz_packer_best_l0 (k : Nat) (D : CallF) (j6 : (Option Addr) → Int → Int → Int → AHeap → Option ((Int × Int) × AHeap)) : (Option Addr) → Int → Int → Int → Int → AHeap → Option ((Int × Int) × AHeap) :=
 iterK (α := (Option Addr) → Int → Int → Int → Int → AHeap → Option ((Int × Int) × AHeap)) (fun _ _ _ _ _ _ => none) k (lz_packer_best_l0b k D j6)
noncomputable def lz_packer_best (k : Nat) (D : CallF) (p_0 : Option Addr) (at_1 : Int) (h : AHeap) : Option ((Int × Int) × AHeap) :=
 joinK (fun (p1 : Option Addr) (atv2 : Int) (distance3 : Int) (long4 : Int) (h5 : AHeap) =>
 (lz_packer_four k D p1 atv2 h5).bind fun r7 =>
 (p1).bind fun p8 =>
 (ldM (⟨p8.block, p8.off + 1, none⟩ : Addr) r7.2).bind fun x9 =>
 guardP (SameW [h5] (fun H11 => (ldM (⟨p8.block, p8.off + 1, none⟩ : Addr) H11).bind fun y10 => some (.map y10)) (.map x9)) (
 (lookE (decI .i64) (.int .i64 0) r7.2 x9 (.agg ⟨[.int .u8 r7.1.1, .int .u8 r7.1.2.1, .int .u8 r7.1.2.2.1, .int .u8 r7.1.2.2.2]⟩)).bind fun p12 =>
 joinK (fun (distance13 : Int) (long14 : Int) (h15 : AHeap) =>
 some ((distance13, long14), h15)) fun j16 =>
 joinK (fun (p17 : Option Addr) (atv18 : Int) (distance19 : Int) (long20 : Int) (fromv21 : Int) (y22 : Bool) (h23 : AHeap) =>
 (if y22 = true then
 (lz_packer_alike k D p17 fromv21 atv18 h23).bind fun r25 =>
 (if (decide (r25.1 > long20)) = true then
 j16 (IntKind.wrap .i64 (atv18 - fromv21)) r25.1 r25.2
 else
 j16 distance19 long20 r25.2)
 else
 j16 distance19 long20 h23)) fun j24 =>
 (if p12.2 = true then
 j24 p1 atv2 distance3 long4 p12.1 (decide ((IntKind.wrap .i64 (atv2 - p12.1)) ≤ 65535)) r7.2
 else
 j24 p1 atv2 distance3 long4 p12.1 false r7.2))) fun j6 =>
 lz_packer_best_l0 k D j6 p_0 at_1 0 0 1 h
noncomputable def r_lz_packer_best : RCode := an (.s .n (.s (.j [(0, .p), (1, .i .i64), (4, .i .i64), (5, .i .i64)] (.s .n (.b (.l [(0, .p), (1, .i .i64), (4, .i .i64), (5, .i .i64), (6, .i .i64)] (.s .n (.s (.j [(0, .p), (1, .i .i64), (4, .i .i64), (5, .i .i64), (6, .i .i64)] .n) .n)))))) (.s .n (.s (.j [(4, .i .i64), (5, .i .i64)] (.s (.j [(0, .p), (1, .i .i64), (4, .i .i64), (5, .i .i64), (8, .i .i64), (45, .b)] .n) .n)) .n)))) (rOf Tryd.prog 2 Tryd.f44)
noncomputable def e_lz_packer_best (k : Nat) (D : CallF) : Ent := entOf 44 [(0, .p), (1, .i .i64)] [(4, .i .i64), (5, .i .i64)] (lz_packer_best k D)
theorem q_lz_packer_best : (Tryd.f44.body).bind (rcodeOf Tryd.prog 2 Tryd.f44.ntmps) = some (strip r_lz_packer_best) := by kernel_rfl
theorem t_lz_packer_best (k : Nat) (D : CallF) : curF [(0, .p), (1, .i .i64)] (fun args h => denF (C_lz_packer_best k D) k r_lz_packer_best [(4, .i .i64), (5, .i .i64)] [none, none] args h) = lz_packer_best k D := by kernel_rfl
theorem ok_lz_packer_best {D : CallF} (hD : CSound Tryd.prog 2 D) (k : Nat) : EntOk Tryd.prog 2 (e_lz_packer_best k D) :=
 entOf_ok2 (mkC_sound hD (EntsOk.more (ok_lz_packer_four hD k) (EntsOk.more (ok_lz_packer_alike hD k) (EntsOk.none)))) Tryd.func44 rfl q_lz_packer_best rfl (t_lz_packer_best k D)
end Ge
namespace Ge
open Go Gx Go.Proofs
set_option maxRecDepth 100000
noncomputable def C_lz_Pack (k : Nat) (D : CallF) : CallF := mkC D [e_lz_writer_sequence k D, e_lz_packer_best k D, e_lz_packer_four k D]
noncomputable def lz_Pack_l1b (k : Nat) (D : CallF) (rec20 : ByteArray → (Option Addr) → (Option Addr) → Int → Int → AHeap → Option ((ByteArray × Int) × AHeap)) (rec39 : ByteArray → (Option Addr) → (Option Addr) → Int → Int → Int → Int → AHeap → Option ((ByteArray × Int) × AHeap)) (s31 : ByteArray) (p32 : Option Addr) (w33 : Option Addr) (kept34 : Int) (atv35 : Int) (y36 : Int) (y37 : Int) (h38 : AHeap) : Option ((ByteArray × Int) × AHeap) :=
 (if (decide (y37 < y36)) = true then
 joinK (fun (s40 : ByteArray) (p41 : Option Addr) (w42 : Option Addr) (kept43 : Int) (atv44 : Int) (y45 : Int) (y46 : Int) (h47 : AHeap) =>
 rec39 s40 p41 w42 kept43 (IntKind.wrap .i64 (atv44 + 1)) y45 (IntKind.wrap .i64 (y46 + 1)) h47) fun j48 =>
 (if (decide ((IntKind.wrap .i64 (atv35 + 4)) ≤ (s31.size : Int))) = true then
 (lz_packer_four k D p32 atv35 h38).bind fun r49 =>
 (p32).bind fun p50 =>
 (ldM (⟨p50.block, p50.off + 1, none⟩ : Addr) r49.2).bind fun x51 =>
 guardP (SameW [h38] (fun H53 => (ldM (⟨p50.block, p50.off + 1, none⟩ : Addr) H53).bind fun y52 => some (.map y52)) (.map x51)) (
 (x51).bind fun r55 =>
 (updE r49.2 r55 (.agg ⟨[.int .u8 r49.1.1, .int .u8 r49.1.2.1, .int .u8 r49.1.2.2.1, .int .u8 r49.1.2.2.2]⟩) (.int .i64 atv35)).bind fun h54 =>
 j48 s31 p32 w33 kept34 atv35 y36 y37 h54)
 else
 j48 s31 p32 w33 kept34 atv35 y36 y37 h38)
 else
 rec20 s31 p32 w33 kept34 atv35 h38)
noncomputable def lz_Pack_l1 (k : Nat) (D : CallF) (rec20 : ByteArray → (Option Addr) → (Option Addr) → Int → Int → AHeap → Option ((ByteArray × Int) × AHeap)) : ByteArray → (Option Addr) → (Option Addr) → Int → Int → Int → Int → AHeap → Option ((ByteArray × Int) × AHeap) :=
 iterK (α := ByteArray → (Option Addr) → (Option Addr) → Int → Int → Int → Int → AHeap → Option ((ByteArray × Int) × AHeap)) (fun _ _ _ _ _ _ _ _ => none) k (lz_Pack_l1b k D rec20)
noncomputable def lz_Pack_l0b (k : Nat) (D : CallF) (j8 : ByteArray → (Option Addr) → Int → AHeap → Option ((ByteArray × Int) × AHeap)) (rec20 : ByteArray → (Option Addr) → (Option Addr) → Int → Int → AHeap → Option ((ByteArray × Int) × AHeap)) (s14 : ByteArray) (p15 : Option Addr) (w16 : Option Addr) (kept17 : Int) (atv18 : Int) (h19 : AHeap) : Option ((ByteArray × Int) × AHeap) :=
 (if (decide ((IntKind.wrap .i64 (atv18 + 4)) < (s14.size : Int))) = true then
 (lz_packer_best k D p15 atv18 h19).bind fun r21 =>
 let t22 : Int := (IntKind.wrap .i64 ((IntKind.wrap .i64 ((s14.size : Int) - 1)) - atv18))
 joinK (fun (s23 : ByteArray) (p24 : Option Addr) (w25 : Option Addr) (kept26 : Int) (atv27 : Int) (step28 : Int) (h29 : AHeap) =>
 lz_Pack_l1 k D rec20 s23 p24 w25 kept26 atv27 step28 0 h29) fun j30 =>
 (if (decide ((if t22 < r21.1.2 then t22 else r21.1.2) ≥ 4)) = true then
 (Gx.subS s14 (some kept17) (some atv18)).bind fun s56 =>
 (lz_writer_sequence k D w16 s56 r21.1.1 (if t22 < r21.1.2 then t22 else r21.1.2) r21.2).bind fun r57 =>
 let t58 : Int := (IntKind.wrap .i64 (atv18 + (if t22 < r21.1.2 then t22 else r21.1.2)))
 j30 s14 p15 w16 t58 atv18 (if t22 < r21.1.2 then t22 else r21.1.2) r57.2
 else
 j30 s14 p15 w16 kept17 atv18 1 r21.2)
 else
 j8 s14 w16 kept17 h19)
noncomputable def lz_Pack_l0 (k : Nat) (D : CallF) (j8 : ByteArray → (Option Addr) → Int → AHeap → Option ((ByteArray × Int) × AHeap)) : ByteArray → (Option Addr) → (Option Addr) → Int → Int → AHeap → Option ((ByteArray × Int) × AHeap) :=
 iterK (α := ByteArray → (Option Addr) → (Option Addr) → Int → Int → AHeap → Option ((ByteArray × Int) × AHeap)) (fun _ _ _ _ _ _ => none) k (lz_Pack_l0b k D j8)
noncomputable def lz_Pack (k : Nat) (D : CallF) (s_0 : ByteArray) (h : AHeap) : Option ((ByteArray × Int) × AHeap) :=
 (if (decide ((s_0.size : Int) > 1048576)) = true then
 some (((⟨#[]⟩ : ByteArray), 2), h)
 else
 newK h ((.map [] 0)) fun h1 =>
 newK h1 ((.cells [.string s_0, .map (some h.next)] 75 true 0)) fun h2 =>
 newK h2 ((.cells [.slice none 0 0] 78 true 0)) fun h3 =>
 joinK (fun (s4 : ByteArray) (w5 : Option Addr) (kept6 : Int) (h7 : AHeap) =>
 (Gx.subS s4 (some kept6) none).bind fun s9 =>
 (lz_writer_sequence k D w5 s9 0 0 h7).bind fun r10 =>
 (w5).bind fun p11 =>
 (ldL (⟨p11.block, p11.off + 0, none⟩ : Addr) r10.2).bind fun x12 =>
 (bytesOf r10.2 x12).bind fun s13 =>
 some ((s13, 0), r10.2)) fun j8 =>
 lz_Pack_l0 k D j8 s_0 (some (⟨h1.next, 0, none⟩ : Addr)) (some (⟨h2.next, 0, none⟩ : Addr)) 0 0 h3)
noncomputable def r_lz_Pack : RCode := an (.s .n (.s .n (.s .n (.s .n (.s .n (.s (.j [(0, .s), (5, .p), (6, .i .i64)] (.s .n (.b (.l [(0, .s), (4, .p), (5, .p), (6, .i .i64), (7, .i .i64)] (.s .n (.b (.s .n (.s .n (.s .n (.s (.j [(0, .s), (4, .p), (5, .p), (6, .i .i64), (7, .i .i64), (10, .i .i64)] .n) (.s .n (.b (.l [(0, .s), (4, .p), (5, .p), (6, .i .i64), (7, .i .i64), (52, .i .i64), (53, .i .i64)] (.s .n (.s .n (.s (.b (.s (.j [(0, .s), (4, .p), (5, .p), (6, .i .i64), (7, .i .i64), (52, .i .i64), (53, .i .i64)] .n) .n)) .n)))))))))))))))) .n)))))) (rOf Tryd.prog 2 Tryd.f14)
noncomputable def e_lz_Pack (k : Nat) (D : CallF) : Ent := entOf 14 [(0, .s)] [(2, .s), (3, .i .i64)] (lz_Pack k D)
theorem q_lz_Pack : (Tryd.f14.body).bind (rcodeOf Tryd.prog 2 Tryd.f14.ntmps) = some (strip r_lz_Pack) := by kernel_rfl
theorem t_lz_Pack (k : Nat) (D : CallF) : curF [(0, .s)] (fun args h => denF (C_lz_Pack k D) k r_lz_Pack [(2, .s), (3, .i .i64)] [none, none] args h) = lz_Pack k D := by kernel_rfl
theorem ok_lz_Pack {D : CallF} (hD : CSound Tryd.prog 2 D) (k : Nat) : EntOk Tryd.prog 2 (e_lz_Pack k D) :=
 entOf_ok2 (mkC_sound hD (EntsOk.more (ok_lz_writer_sequence hD k) (EntsOk.more (ok_lz_packer_best hD k) (EntsOk.more (ok_lz_packer_four hD k) (EntsOk.none))))) Tryd.func14 rfl q_lz_Pack rfl (t_lz_Pack k D)
end Ge
namespace Ge
open Go Gx Go.Proofs
set_option maxRecDepth 100000
noncomputable def C_blob_Encode (k : Nat) (D : CallF) : CallF := mkC D [e_blob_known k D, e_num_Short k D, e_lz_Pack k D]
noncomputable def blob_Encode (k : Nat) (D : CallF) (kind_0 : Int) (text_1 : ByteArray) (h : AHeap) : Option ((ByteArray × Int) × AHeap) :=
 (blob_known k D kind_0 h).bind fun r1 =>
 (if (!r1.1) = true then
 some (((⟨#[]⟩ : ByteArray), 1), r1.2)
 else
 (if (decide ((text_1.size : Int) > 65536)) = true then
 some (((⟨#[]⟩ : ByteArray), 2), r1.2)
 else
 (num_Short k D (text_1.size : Int) r1.2).bind fun r2 =>
 (lz_Pack k D text_1 r2.2).bind fun r3 =>
 joinK (fun (kind4 : Int) (text5 : ByteArray) (long6 : ByteArray) (block7 : ByteArray) (y8 : Bool) (h9 : AHeap) =>
 (if y8 = true then
 newK h9 ((.cells [.int .u8 (IntKind.wrap .u8 (Go.bits .or .i64 kind4 16))] 5 true 0)) fun h11 =>
 (bytesOf h11 (⟨(some ⟨h9.next, 0, some 0⟩), 1, 1⟩ : Slc)).bind fun s12 =>
 (if s12.size + long6.size ≤ 9223372036854775807 then
 (if (s12 ++ long6).size + block7.size ≤ 9223372036854775807 then
 some ((((s12 ++ long6) ++ block7), 0), h11)
 else none)
 else none)
 else
 newK h9 ((.cells [.int .u8 (IntKind.wrap .u8 kind4)] 5 true 0)) fun h13 =>
 (bytesOf h13 (⟨(some ⟨h9.next, 0, some 0⟩), 1, 1⟩ : Slc)).bind fun s14 =>
 (if s14.size + long6.size ≤ 9223372036854775807 then
 (if (s14 ++ long6).size + text5.size ≤ 9223372036854775807 then
 some ((((s14 ++ long6) ++ text5), 0), h13)
 else none)
 else none))) fun j10 =>
 (if (r3.1.2 == 0) = true then
 j10 kind_0 text_1 r2.1.1 r3.1.1 (decide ((r3.1.1.size : Int) < (text_1.size : Int))) r3.2
 else
 j10 kind_0 text_1 r2.1.1 r3.1.1 false r3.2)))
noncomputable def r_blob_Encode : RCode := an (.s .n (.s .n (.s .n (.s .n (.s (.s (.j [(0, .i .i64), (1, .s), (6, .s), (8, .s), (37, .b)] .n) .n) .n))))) (rOf Tryd.prog 2 Tryd.f12)
noncomputable def e_blob_Encode (k : Nat) (D : CallF) : Ent := entOf 12 [(0, .i .i64), (1, .s)] [(4, .s), (5, .i .i64)] (blob_Encode k D)
theorem q_blob_Encode : (Tryd.f12.body).bind (rcodeOf Tryd.prog 2 Tryd.f12.ntmps) = some (strip r_blob_Encode) := by kernel_rfl
theorem t_blob_Encode (k : Nat) (D : CallF) : curF [(0, .i .i64), (1, .s)] (fun args h => denF (C_blob_Encode k D) k r_blob_Encode [(4, .s), (5, .i .i64)] [none, none] args h) = blob_Encode k D := by kernel_rfl
theorem ok_blob_Encode {D : CallF} (hD : CSound Tryd.prog 2 D) (k : Nat) : EntOk Tryd.prog 2 (e_blob_Encode k D) :=
 entOf_ok2 (mkC_sound hD (EntsOk.more (ok_blob_known hD k) (EntsOk.more (ok_num_Short hD k) (EntsOk.more (ok_lz_Pack hD k) (EntsOk.none))))) Tryd.func12 rfl q_blob_Encode rfl (t_blob_Encode k D)
end Ge
namespace Ge
open Go Gx Go.Proofs
set_option maxRecDepth 100000
end Ge
namespace Ge
open Go Gx Go.Proofs
set_option maxRecDepth 100000
end Ge
namespace Ge
open Go Gx Go.Proofs
set_option maxRecDepth 100000
end Ge
namespace Ge
open Go Gx Go.Proofs
set_option maxRecDepth 100000
end Ge
namespace Ge
open Go Gx Go.Proofs
set_option maxRecDepth 100000
noncomputable def C_ref13_Refused (k : Nat) (D : CallF) : CallF := mkC D [e_ref13_Known k D]
noncomputable def ref13_Refused (k : Nat) (D : CallF) (kind_0 : Int) (text_1 : ByteArray) (h : AHeap) : Option ((Int) × AHeap) :=
 (ref13_Known k D kind_0 h).bind fun r1 =>
 (if (!r1.1) = true then
 some (1, r1.2)
 else
 (if (decide ((text_1.size : Int) > 65536)) = true then
 some (2, r1.2)
 else
 some (0, r1.2)))
noncomputable def r_ref13_Refused : RCode := an (.n) (rOf Tryd.prog 2 Tryd.f13)
noncomputable def e_ref13_Refused (k : Nat) (D : CallF) : Ent := entOf 13 [(0, .i .i64), (1, .s)] [(4, .i .i64)] (ref13_Refused k D)
theorem q_ref13_Refused : (Tryd.f13.body).bind (rcodeOf Tryd.prog 2 Tryd.f13.ntmps) = some (strip r_ref13_Refused) := by kernel_rfl
theorem t_ref13_Refused (k : Nat) (D : CallF) : curF [(0, .i .i64), (1, .s)] (fun args h => denF (C_ref13_Refused k D) k r_ref13_Refused [(4, .i .i64)] [none] args h) = ref13_Refused k D := by kernel_rfl
theorem ok_ref13_Refused {D : CallF} (hD : CSound Tryd.prog 2 D) (k : Nat) : EntOk Tryd.prog 2 (e_ref13_Refused k D) :=
 entOf_ok2 (mkC_sound hD (EntsOk.more (ok_ref13_Known hD k) (EntsOk.none))) Tryd.func13 rfl q_ref13_Refused rfl (t_ref13_Refused k D)
end Ge
namespace Ge
open Go Gx Go.Proofs
set_option maxRecDepth 100000
noncomputable def C_ref01_Small (_k : Nat) (D : CallF) : CallF := mkC D []
noncomputable def ref01_Small_l0b (_k : Nat) (_D : CallF) (j4 : Int → Slc → AHeap → Option ((ByteArray) × AHeap)) (rec12 : Int → Slc → AHeap → Option ((ByteArray) × AHeap)) (n9 : Int) (b10 : Slc) (h11 : AHeap) : Option ((ByteArray) × AHeap) :=
 (if (decide (n9 ≥ 128)) = true then
 let t13 : Int := (IntKind.wrap .u8 (IntKind.wrap .i64 (128 + (Int.tmod n9 128))))
 newK h11 ((.cells [.int .u8 t13] 5 true 0)) fun h14 =>
 (rdS 1 (⟨(some ⟨h11.next, 0, some 0⟩), 1, 1⟩ : Slc) h14).bind fun n16 =>
 (appendA 1 1 5 h14 b10 n16 1).bind fun r15 =>
 rec12 (IntKind.wrap .i64 (Int.tdiv n9 128)) r15.1 r15.2
 else
 j4 n9 b10 h11)
noncomputable def ref01_Small_l0 (k : Nat) (D : CallF) (j4 : Int → Slc → AHeap → Option ((ByteArray) × AHeap)) : Int → Slc → AHeap → Option ((ByteArray) × AHeap) :=
 iterK (α := Int → Slc → AHeap → Option ((ByteArray) × AHeap)) (fun _ _ _ => none) k (ref01_Small_l0b k D j4)
noncomputable def ref01_Small (k : Nat) (D : CallF) (n_0 : Int) (h : AHeap) : Option ((ByteArray) × AHeap) :=
 joinK (fun (n1 : Int) (b2 : Slc) (h3 : AHeap) =>
 newK h3 ((.cells [.int .u8 (IntKind.wrap .u8 n1)] 5 true 0)) fun h5 =>
 (rdS 1 (⟨(some ⟨h3.next, 0, some 0⟩), 1, 1⟩ : Slc) h5).bind fun n7 =>
 (appendA 1 1 5 h5 b2 n7 1).bind fun r6 =>
 (bytesOf r6.2 r6.1).bind fun s8 =>
 some (s8, r6.2)) fun j4 =>
 ref01_Small_l0 k D j4 n_0 (⟨none, 0, 0⟩ : Slc) h
noncomputable def r_ref01_Small : RCode := an (.s .n (.s .n (.s (.j [(0, .i .i64), (3, .l)] (.b (.l [(0, .i .i64), (3, .l)] .n))) .n))) (rOf Tryd.prog 2 Tryd.f82)
noncomputable def e_ref01_Small (k : Nat) (D : CallF) : Ent := entOf 82 [(0, .i .i64)] [(2, .s)] (ref01_Small k D)
theorem q_ref01_Small : (Tryd.f82.body).bind (rcodeOf Tryd.prog 2 Tryd.f82.ntmps) = some (strip r_ref01_Small) := by kernel_rfl
theorem t_ref01_Small (k : Nat) (D : CallF) : curF [(0, .i .i64)] (fun args h => denF (C_ref01_Small k D) k r_ref01_Small [(2, .s)] [none] args h) = ref01_Small k D := by kernel_rfl
theorem ok_ref01_Small {D : CallF} (hD : CSound Tryd.prog 2 D) (k : Nat) : EntOk Tryd.prog 2 (e_ref01_Small k D) :=
 entOf_ok2 (mkC_sound hD (EntsOk.none)) Tryd.func82 rfl q_ref01_Small rfl (t_ref01_Small k D)
end Ge
namespace Ge
open Go Gx Go.Proofs
set_option maxRecDepth 100000
noncomputable def C_ref01_Text (k : Nat) (D : CallF) : CallF := mkC D [e_ref01_Small k D]
noncomputable def ref01_Text (k : Nat) (D : CallF) (s_0 : ByteArray) (h : AHeap) : Option ((ByteArray) × AHeap) :=
 (ref01_Small k D (s_0.size : Int) h).bind fun r1 =>
 (if r1.1.size + s_0.size ≤ 9223372036854775807 then
 some ((r1.1 ++ s_0), r1.2)
 else none)
noncomputable def r_ref01_Text : RCode := an (.n) (rOf Tryd.prog 2 Tryd.f47)
noncomputable def e_ref01_Text (k : Nat) (D : CallF) : Ent := entOf 47 [(0, .s)] [(2, .s)] (ref01_Text k D)
theorem q_ref01_Text : (Tryd.f47.body).bind (rcodeOf Tryd.prog 2 Tryd.f47.ntmps) = some (strip r_ref01_Text) := by kernel_rfl
theorem t_ref01_Text (k : Nat) (D : CallF) : curF [(0, .s)] (fun args h => denF (C_ref01_Text k D) k r_ref01_Text [(2, .s)] [none] args h) = ref01_Text k D := by kernel_rfl
theorem ok_ref01_Text {D : CallF} (hD : CSound Tryd.prog 2 D) (k : Nat) : EntOk Tryd.prog 2 (e_ref01_Text k D) :=
 entOf_ok2 (mkC_sound hD (EntsOk.more (ok_ref01_Small hD k) (EntsOk.none))) Tryd.func47 rfl q_ref01_Text rfl (t_ref01_Text k D)
end Ge
namespace Ge
open Go Gx Go.Proofs
set_option maxRecDepth 100000
noncomputable def C_ref13_Plain (k : Nat) (D : CallF) : CallF := mkC D [e_ref01_Text k D]
noncomputable def ref13_Plain (k : Nat) (D : CallF) (kind_0 : Int) (text_1 : ByteArray) (h : AHeap) : Option ((ByteArray) × AHeap) :=
 let h1 := AHeap.resv h 1
 (ref01_Text k D text_1 h1).bind fun r2 =>
 let h3 := AHeap.set r2.2 (h.next + 0) (.cells [.int .u8 (IntKind.wrap .u8 kind_0)] 5 true 0)
 (bytesOf h3 (⟨(some ⟨(h.next + 0), 0, some 0⟩), 1, 1⟩ : Slc)).bind fun s4 =>
 guardP (OwnW (h.next + 0) h3 (fun H6 => (bytesOf H6 (⟨(some ⟨(h.next + 0), 0, some 0⟩), 1, 1⟩ : Slc)).bind fun y5 => some (.string y5)) (.string s4)) (
 (if s4.size + r2.1.size ≤ 9223372036854775807 then
 some ((s4 ++ r2.1), h3)
 else none))
noncomputable def r_ref13_Plain : RCode := an (.n) (rOf Tryd.prog 2 Tryd.f15)
noncomputable def e_ref13_Plain (k : Nat) (D : CallF) : Ent := entOf 15 [(0, .i .i64), (1, .s)] [(4, .s)] (ref13_Plain k D)
theorem q_ref13_Plain : (Tryd.f15.body).bind (rcodeOf Tryd.prog 2 Tryd.f15.ntmps) = some (strip r_ref13_Plain) := by kernel_rfl
theorem t_ref13_Plain (k : Nat) (D : CallF) : curF [(0, .i .i64), (1, .s)] (fun args h => denF (C_ref13_Plain k D) k r_ref13_Plain [(4, .s)] [none] args h) = ref13_Plain k D := by kernel_rfl
theorem ok_ref13_Plain {D : CallF} (hD : CSound Tryd.prog 2 D) (k : Nat) : EntOk Tryd.prog 2 (e_ref13_Plain k D) :=
 entOf_ok2 (mkC_sound hD (EntsOk.more (ok_ref01_Text hD k) (EntsOk.none))) Tryd.func15 rfl q_ref13_Plain rfl (t_ref13_Plain k D)
end Ge
namespace Ge
open Go Gx Go.Proofs
set_option maxRecDepth 100000
end Ge
namespace Ge
open Go Gx Go.Proofs
set_option maxRecDepth 100000
end Ge
namespace Ge
open Go Gx Go.Proofs
set_option maxRecDepth 100000
end Ge
namespace Ge
open Go Gx Go.Proofs
set_option maxRecDepth 100000
end Ge
namespace Ge
open Go Gx Go.Proofs
set_option maxRecDepth 100000
end Ge
namespace Ge
open Go Gx Go.Proofs
set_option maxRecDepth 100000
end Ge
namespace Ge
open Go Gx Go.Proofs
set_option maxRecDepth 100000
end Ge
namespace Ge
open Go Gx Go.Proofs
set_option maxRecDepth 100000
end Ge
namespace Ge
open Go Gx Go.Proofs
set_option maxRecDepth 100000
end Ge
namespace Ge
open Go Gx Go.Proofs
set_option maxRecDepth 100000
end Ge
namespace Ge
open Go Gx Go.Proofs
set_option maxRecDepth 100000
end Ge
namespace Ge
open Go Gx Go.Proofs
set_option maxRecDepth 100000
end Ge
namespace Ge
open Go Gx Go.Proofs
set_option maxRecDepth 100000
end Ge
namespace Ge
open Go Gx Go.Proofs
set_option maxRecDepth 100000
end Ge
namespace Ge
open Go Gx Go.Proofs
set_option maxRecDepth 100000
end Ge
namespace Ge
open Go Gx Go.Proofs
set_option maxRecDepth 100000
end Ge
namespace Ge
open Go Gx Go.Proofs
set_option maxRecDepth 100000
end Ge
namespace Ge
open Go Gx Go.Proofs
set_option maxRecDepth 100000
end Ge
namespace Ge
open Go Gx Go.Proofs
set_option maxRecDepth 100000
end Ge
namespace Ge
open Go Gx Go.Proofs
set_option maxRecDepth 100000
end Ge
namespace Ge
open Go Gx Go.Proofs
set_option maxRecDepth 100000
end Ge
namespace Ge
open Go Gx Go.Proofs
set_option maxRecDepth 100000
end Ge
namespace Ge
open Go Gx Go.Proofs
set_option maxRecDepth 100000
end Ge
namespace Ge
open Go Gx Go.Proofs
set_option maxRecDepth 100000
end Ge
namespace Ge
open Go Gx Go.Proofs
set_option maxRecDepth 100000
end Ge
namespace Ge
open Go Gx Go.Proofs
set_option maxRecDepth 100000
end Ge
namespace Ge
open Go Gx Go.Proofs
set_option maxRecDepth 100000
end Ge
namespace Ge
open Go Gx Go.Proofs
set_option maxRecDepth 100000
end Ge
namespace Ge
open Go Gx Go.Proofs
set_option maxRecDepth 100000
end Ge
namespace Ge
open Go Gx Go.Proofs
set_option maxRecDepth 100000
end Ge
namespace Ge
open Go Gx Go.Proofs
set_option maxRecDepth 100000
end Ge
namespace Ge
open Go Gx Go.Proofs
set_option maxRecDepth 100000
end Ge
namespace Ge
open Go Gx Go.Proofs
set_option maxRecDepth 100000
end Ge
namespace Ge
open Go Gx Go.Proofs
set_option maxRecDepth 100000
end Ge
namespace Ge
open Go Gx Go.Proofs
set_option maxRecDepth 100000
end Ge
namespace Ge
open Go Gx Go.Proofs
set_option maxRecDepth 100000
end Ge
namespace Ge
open Go Gx Go.Proofs
set_option maxRecDepth 100000
end Ge
namespace Ge
open Go Gx Go.Proofs
set_option maxRecDepth 100000
end Ge
namespace Ge
open Go Gx Go.Proofs
set_option maxRecDepth 100000
end Ge
namespace Ge
open Go Gx Go.Proofs
set_option maxRecDepth 100000
end Ge
namespace Ge
open Go Gx Go.Proofs
set_option maxRecDepth 100000
end Ge
namespace Ge
open Go Gx Go.Proofs
set_option maxRecDepth 100000
end Ge
namespace Ge
open Go Gx Go.Proofs
set_option maxRecDepth 100000
end Ge
namespace Ge
open Go Gx Go.Proofs
set_option maxRecDepth 100000
end Ge
namespace Ge
open Go Gx Go.Proofs
set_option maxRecDepth 100000
end Ge
namespace Ge
open Go Gx Go.Proofs
set_option maxRecDepth 100000
end Ge
namespace Ge
open Go Gx Go.Proofs
set_option maxRecDepth 100000
end Ge
namespace Ge
open Go Gx Go.Proofs
set_option maxRecDepth 100000
end Ge
namespace Ge
open Go Gx Go.Proofs
set_option maxRecDepth 100000
end Ge
namespace Ge
open Go Gx Go.Proofs
set_option maxRecDepth 100000
end Ge
namespace Ge
open Go Gx Go.Proofs
set_option maxRecDepth 100000
end Ge
namespace Ge
open Go Gx Go.Proofs
set_option maxRecDepth 100000
end Ge
namespace Ge
open Go Gx Go.Proofs
set_option maxRecDepth 100000
end Ge
namespace Ge
open Go Gx Go.Proofs
set_option maxRecDepth 100000
end Ge
namespace Ge
open Go Gx Go.Proofs
set_option maxRecDepth 100000
end Ge
namespace Ge
open Go Gx Go.Proofs
set_option maxRecDepth 100000
end Ge
namespace Ge
open Go Gx Go.Proofs
set_option maxRecDepth 100000
noncomputable def C_law13_works (k : Nat) (D : CallF) : CallF := mkC D [e_blob_Encode k D]
noncomputable def law13_works (k : Nat) (D : CallF)  (h : AHeap) : Option ((Bool) × AHeap) :=
 (blob_Encode k D 1 (⟨#[97, 98]⟩ : ByteArray) h).bind fun r1 =>
 (if (r1.1.2 == 0) = true then
 some ((r1.1.1 == (⟨#[1, 2, 97, 98]⟩ : ByteArray)), r1.2)
 else
 some (false, r1.2))
noncomputable def r_law13_works : RCode := an (.n) (rOf Tryd.prog 2 Tryd.f9)
noncomputable def e_law13_works (k : Nat) (D : CallF) : Ent := entOf 9 [] [(0, .b)] (law13_works k D)
theorem q_law13_works : (Tryd.f9.body).bind (rcodeOf Tryd.prog 2 Tryd.f9.ntmps) = some (strip r_law13_works) := by kernel_rfl
theorem t_law13_works (k : Nat) (D : CallF) : curF [] (fun args h => denF (C_law13_works k D) k r_law13_works [(0, .b)] [none] args h) = law13_works k D := by kernel_rfl
theorem ok_law13_works {D : CallF} (hD : CSound Tryd.prog 2 D) (k : Nat) : EntOk Tryd.prog 2 (e_law13_works k D) :=
 entOf_ok2 (mkC_sound hD (EntsOk.more (ok_blob_Encode hD k) (EntsOk.none))) Tryd.func9 rfl q_law13_works rfl (t_law13_works k D)
end Ge
namespace Ge
open Go Gx Go.Proofs
set_option maxRecDepth 100000
noncomputable def C_law13_BlobWrites (k : Nat) (D : CallF) : CallF := mkC D [e_law13_works k D, e_blob_Id k D, e_ref13_Id k D, e_blob_Encode k D, e_lz_Pack k D, e_ref13_Plain k D, e_ref13_Refused k D]
noncomputable def law13_BlobWrites (k : Nat) (D : CallF) (kind_0 : Int) (text_1 : ByteArray) (h : AHeap) : Option ((Bool) × AHeap) :=
 joinK (fun (kind1 : Int) (text2 : ByteArray) (y3 : Bool) (h4 : AHeap) =>
 (if y3 = true then
 (law13_works k D h4).bind fun r6 =>
 some (r6.1, r6.2)
 else
 (blob_Id k D kind1 text2 h4).bind fun r7 =>
 (ref13_Id k D kind1 text2 r7.2).bind fun r8 =>
 (blob_Encode k D kind1 text2 r8.2).bind fun r9 =>
 joinK (fun (kind10 : Int) (text11 : ByteArray) (s12 : ByteArray) (g13 : Int) (y14 : Bool) (h15 : AHeap) =>
 (if y14 = true then
 some (false, h15)
 else
 (if (g13 != 0) = true then
 some ((s12 == (⟨#[]⟩ : ByteArray)), h15)
 else
 (lz_Pack k D text11 h15).bind fun r17 =>
 (ref13_Plain k D kind10 text11 r17.2).bind fun r18 =>
 joinK (fun (s19 : ByteArray) (want20 : ByteArray) (h21 : AHeap) =>
 some ((s19 == want20), h21)) fun j22 =>
 (if (decide ((r17.1.1.size : Int) < (text11.size : Int))) = true then
 (ref13_Plain k D (IntKind.wrap .i64 (kind10 + 16)) text11 r18.2).bind fun r23 =>
 let t24 : Int := (IntKind.wrap .i64 ((r23.1.size : Int) - (text11.size : Int)))
 (Gx.subS r23.1 none (some t24)).bind fun s25 =>
 (if s25.size + r17.1.1.size ≤ 9223372036854775807 then
 j22 s12 (s25 ++ r17.1.1) r23.2
 else none)
 else
 j22 s12 r18.1 r18.2)))) fun j16 =>
 (if (!(r7.1.1 == r8.1.1)) = true then
 j16 kind1 text2 r9.1.1 r9.1.2 true r9.2
 else
 (if (r7.1.2 != r8.1.2) = true then
 j16 kind1 text2 r9.1.1 r9.1.2 true r9.2
 else
 (ref13_Refused k D kind1 text2 r9.2).bind fun r26 =>
 (if (r9.1.2 != r26.1) = true then
 j16 kind1 text2 r9.1.1 r9.1.2 true r26.2
 else
 (law13_works k D r26.2).bind fun r27 =>
 j16 kind1 text2 r9.1.1 r9.1.2 (!r27.1) r27.2))))) fun j5 =>
 (if (decide ((text_1.size : Int) > 3000)) = true then
 j5 kind_0 text_1 (decide ((text_1.size : Int) ≤ 65536)) h
 else
 j5 kind_0 text_1 false h)
noncomputable def r_law13_BlobWrites : RCode := an (.s .n (.s (.s (.j [(0, .i .i64), (1, .s), (21, .b)] .n) .n) (.s .n (.s .n (.s .n (.s (.s (.j [(0, .i .i64), (1, .s), (9, .s), (10, .i .i64), (59, .b)] .n) .n) (.s .n (.s .n (.s .n (.s (.j [(9, .s), (13, .s)] .n) .n)))))))))) (rOf Tryd.prog 2 Tryd.f3)
noncomputable def e_law13_BlobWrites (k : Nat) (D : CallF) : Ent := entOf 3 [(0, .i .i64), (1, .s)] [(4, .b)] (law13_BlobWrites k D)
theorem q_law13_BlobWrites : (Tryd.f3.body).bind (rcodeOf Tryd.prog 2 Tryd.f3.ntmps) = some (strip r_law13_BlobWrites) := by kernel_rfl
theorem t_law13_BlobWrites (k : Nat) (D : CallF) : curF [(0, .i .i64), (1, .s)] (fun args h => denF (C_law13_BlobWrites k D) k r_law13_BlobWrites [(4, .b)] [none] args h) = law13_BlobWrites k D := by kernel_rfl
theorem ok_law13_BlobWrites {D : CallF} (hD : CSound Tryd.prog 2 D) (k : Nat) : EntOk Tryd.prog 2 (e_law13_BlobWrites k D) :=
 entOf_ok2 (mkC_sound hD (EntsOk.more (ok_law13_works hD k) (EntsOk.more (ok_blob_Id hD k) (EntsOk.more (ok_ref13_Id hD k) (EntsOk.more (ok_blob_Encode hD k) (EntsOk.more (ok_lz_Pack hD k) (EntsOk.more (ok_ref13_Plain hD k) (EntsOk.more (ok_ref13_Refused hD k) (EntsOk.none))))))))) Tryd.func3 rfl q_law13_BlobWrites rfl (t_law13_BlobWrites k D)
end Ge
namespace Ge
open Go Gx Go.Proofs
set_option maxRecDepth 100000
end Ge
