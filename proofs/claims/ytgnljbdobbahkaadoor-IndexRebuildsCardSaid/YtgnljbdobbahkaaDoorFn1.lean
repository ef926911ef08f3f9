import Derived.Test.YtgnljbdobbahkaaDoorProg
import Derived.WalkKit
import Derived.Laws.Externs
import Derived.KernelRfl
import Derived.Test.YtgnljbdobbahkaaDoorGx3
namespace Ge
open Go Gx Go.Proofs
set_option maxRecDepth 100000
noncomputable def C_blob_known (_k : Nat) (D : CallF) : CallF := mkC D []
noncomputable def blob_known (_k : Nat) (_D : CallF) (kind_0 : Int) (h : AHeap) : Option ((Bool) × AHeap) :=
 (if (kind_0 == 1) = true then
 some (true, h)
 else
 some ((kind_0 == 2), h))
noncomputable def r_blob_known : RCode := an (.n) (rOf Tryd.prog 2 Tryd.f40)
noncomputable def e_blob_known (k : Nat) (D : CallF) : Ent := entOf 40 [(0, .i .i64)] [(2, .b)] (blob_known k D)
theorem q_blob_known : (Tryd.f40.body).bind (rcodeOf Tryd.prog 2 Tryd.f40.ntmps) = some (strip r_blob_known) := by kernel_rfl
theorem t_blob_known (k : Nat) (D : CallF) : curF [(0, .i .i64)] (fun args h => denF (C_blob_known k D) k r_blob_known [(2, .b)] [none] args h) = blob_known k D := by kernel_rfl
theorem ok_blob_known {D : CallF} (hD : CSound Tryd.prog 2 D) (k : Nat) : EntOk Tryd.prog 2 (e_blob_known k D) :=
 entOf_ok2 (mkC_sound hD (EntsOk.none)) Tryd.func40 rfl q_blob_known rfl (t_blob_known k D)
end Ge
namespace Ge
open Go Gx Go.Proofs
set_option maxRecDepth 100000
noncomputable def C_sha_first (_k : Nat) (D : CallF) : CallF := mkC D []
noncomputable def sha_first (_k : Nat) (_D : CallF)  (h : AHeap) : Option (((Int × Int × Int × Int × Int × Int × Int × Int)) × AHeap) :=
 let h1 := AHeap.new h (.cells [.int .u32 0, .int .u32 0, .int .u32 0, .int .u32 0, .int .u32 0, .int .u32 0, .int .u32 0, .int .u32 0] 147 true 0)
 (stL 8 (⟨h.next, 0, none⟩ : Addr) ([.int .u32 1779033703, .int .u32 3144134277, .int .u32 1013904242, .int .u32 2773480762, .int .u32 1359893119, .int .u32 2600822924, .int .u32 528734635, .int .u32 1541459225]) h1).bind fun h2 =>
 (ldA 8 (⟨h.next, 0, none⟩ : Addr) h2).bind fun l3 =>
 (decC [.i .u32, .i .u32, .i .u32, .i .u32, .i .u32, .i .u32, .i .u32, .i .u32] l3).bind fun x4 =>
 some ((x4.1, x4.2.1, x4.2.2.1, x4.2.2.2.1, x4.2.2.2.2.1, x4.2.2.2.2.2.1, x4.2.2.2.2.2.2.1, x4.2.2.2.2.2.2.2), h2)
noncomputable def r_sha_first : RCode := an (.n) (rOf Tryd.prog 2 Tryd.f88)
noncomputable def e_sha_first (k : Nat) (D : CallF) : Ent := entOf 88 [] [(0, .st [.i .u32, .i .u32, .i .u32, .i .u32, .i .u32, .i .u32, .i .u32, .i .u32])] (sha_first k D)
theorem q_sha_first : (Tryd.f88.body).bind (rcodeOf Tryd.prog 2 Tryd.f88.ntmps) = some (strip r_sha_first) := by kernel_rfl
theorem t_sha_first (k : Nat) (D : CallF) : curF [] (fun args h => denF (C_sha_first k D) k r_sha_first [(0, .st [.i .u32, .i .u32, .i .u32, .i .u32, .i .u32, .i .u32, .i .u32, .i .u32])] [some (.agg 8)] args h) = sha_first k D := by kernel_rfl
theorem ok_sha_first {D : CallF} (hD : CSound Tryd.prog 2 D) (k : Nat) : EntOk Tryd.prog 2 (e_sha_first k D) :=
 entOf_ok2 (mkC_sound hD (EntsOk.none)) Tryd.func88 rfl q_sha_first rfl (t_sha_first k D)
end Ge
namespace Ge
open Go Gx Go.Proofs
set_option maxRecDepth 100000
noncomputable def C_sha_New (k : Nat) (D : CallF) : CallF := mkC D [e_sha_first k D]
noncomputable def sha_New (k : Nat) (D : CallF)  (h : AHeap) : Option (((Option Addr)) × AHeap) :=
 (sha_first k D h).bind fun r1 =>
 let h2 := AHeap.new r1.2 (.cells [.int .u32 r1.1.1, .int .u32 r1.1.2.1, .int .u32 r1.1.2.2.1, .int .u32 r1.1.2.2.2.1, .int .u32 r1.1.2.2.2.2.1, .int .u32 r1.1.2.2.2.2.2.1, .int .u32 r1.1.2.2.2.2.2.2.1, .int .u32 r1.1.2.2.2.2.2.2.2, .slice none 0 0, .int .i64 0] 150 true 0)
 some ((some (⟨r1.2.next, 0, none⟩ : Addr)), h2)
noncomputable def r_sha_New : RCode := an (.n) (rOf Tryd.prog 2 Tryd.f52)
noncomputable def e_sha_New (k : Nat) (D : CallF) : Ent := entOf 52 [] [(0, .p)] (sha_New k D)
theorem q_sha_New : (Tryd.f52.body).bind (rcodeOf Tryd.prog 2 Tryd.f52.ntmps) = some (strip r_sha_New) := by kernel_rfl
theorem t_sha_New (k : Nat) (D : CallF) : curF [] (fun args h => denF (C_sha_New k D) k r_sha_New [(0, .p)] [none] args h) = sha_New k D := by kernel_rfl
theorem ok_sha_New {D : CallF} (hD : CSound Tryd.prog 2 D) (k : Nat) : EntOk Tryd.prog 2 (e_sha_New k D) :=
 entOf_ok2 (mkC_sound hD (EntsOk.more (ok_sha_first hD k) (EntsOk.none))) Tryd.func52 rfl q_sha_New rfl (t_sha_New k D)
end Ge
namespace Ge
open Go Gx Go.Proofs
set_option maxRecDepth 100000
noncomputable def C_sha_Hash_Fork (_k : Nat) (D : CallF) : CallF := mkC D []
noncomputable def sha_Hash_Fork (_k : Nat) (_D : CallF) (h_0 : Option Addr) (h : AHeap) : Option (((Option Addr)) × AHeap) :=
 (h_0).bind fun p1 =>
 (ldL (⟨p1.block, p1.off + 8, none⟩ : Addr) h).bind fun x2 =>
 (rdS 1 x2 h).bind fun n4 =>
 (appendA 1 1 5 h (⟨none, 0, 0⟩ : Slc) n4 x2.len).bind fun r3 =>
 (h_0).bind fun p5 =>
 (ldA 8 (⟨p5.block, p5.off + 0, none⟩ : Addr) r3.2).bind fun l6 =>
 guardP (SameW [h] (fun H8 => (ldA 8 (⟨p5.block, p5.off + 0, none⟩ : Addr) H8).bind fun y7 => some (.agg ⟨y7⟩)) (.agg ⟨l6⟩)) (
 (decC [.i .u32, .i .u32, .i .u32, .i .u32, .i .u32, .i .u32, .i .u32, .i .u32] l6).bind fun x9 =>
 (h_0).bind fun p10 =>
 (ldI .i64 (⟨p10.block, p10.off + 9, none⟩ : Addr) r3.2).bind fun x11 =>
 guardP (SameW [h] (fun H13 => (ldI .i64 (⟨p10.block, p10.off + 9, none⟩ : Addr) H13).bind fun y12 => some (.int .i64 y12)) (.int .i64 x11)) (
 let h14 := AHeap.new r3.2 (.cells [.int .u32 x9.1, .int .u32 x9.2.1, .int .u32 x9.2.2.1, .int .u32 x9.2.2.2.1, .int .u32 x9.2.2.2.2.1, .int .u32 x9.2.2.2.2.2.1, .int .u32 x9.2.2.2.2.2.2.1, .int .u32 x9.2.2.2.2.2.2.2, .slice r3.1.a r3.1.len r3.1.cap, .int .i64 x11] 150 true 0)
 some ((some (⟨r3.2.next, 0, none⟩ : Addr)), h14)))
noncomputable def r_sha_Hash_Fork : RCode := an (.s .n (.s (.r [(8, .st [.i .u32, .i .u32, .i .u32, .i .u32, .i .u32, .i .u32, .i .u32, .i .u32])]) .n)) (rOf Tryd.prog 2 Tryd.f90)
noncomputable def e_sha_Hash_Fork (k : Nat) (D : CallF) : Ent := entOf 90 [(0, .p)] [(2, .p)] (sha_Hash_Fork k D)
theorem q_sha_Hash_Fork : (Tryd.f90.body).bind (rcodeOf Tryd.prog 2 Tryd.f90.ntmps) = some (strip r_sha_Hash_Fork) := by kernel_rfl
theorem t_sha_Hash_Fork (k : Nat) (D : CallF) : curF [(0, .p)] (fun args h => denF (C_sha_Hash_Fork k D) k r_sha_Hash_Fork [(2, .p)] [none] args h) = sha_Hash_Fork k D := by kernel_rfl
theorem ok_sha_Hash_Fork {D : CallF} (hD : CSound Tryd.prog 2 D) (k : Nat) : EntOk Tryd.prog 2 (e_sha_Hash_Fork k D) :=
 entOf_ok2 (mkC_sound hD (EntsOk.none)) Tryd.func90 rfl q_sha_Hash_Fork rfl (t_sha_Hash_Fork k D)
end Ge
namespace Ge
open Go Gx Go.Proofs
set_option maxRecDepth 100000
noncomputable def C_math_bits_RotateLeft32 (_k : Nat) (D : CallF) : CallF := mkC D []
noncomputable def math_bits_RotateLeft32 (_k : Nat) (_D : CallF) (x_0 : Int) (k_1 : Int) (h : AHeap) : Option ((Int) × AHeap) :=
 (if 0 ≤ (Go.bits .and .u64 (IntKind.wrap .u64 k_1) 31) then
 let t1 : Int := (IntKind.wrap .u32 (x_0 * 2 ^ (min ((Go.bits .and .u64 (IntKind.wrap .u64 k_1) 31)).toNat (IntKind.bits .u32))))
 let t2 : Int := (IntKind.wrap .u64 (32 - (Go.bits .and .u64 (IntKind.wrap .u64 k_1) 31)))
 (if 0 ≤ t2 then
 let t3 : Int := (Go.bits .or .u32 t1 (Int.fdiv x_0 (2 ^ (min (t2).toNat (IntKind.bits .u32)))))
 some (t3, h)
 else none)
 else none)
noncomputable def r_math_bits_RotateLeft32 : RCode := an (.n) (rOf Tryd.prog 2 Tryd.f117)
noncomputable def e_math_bits_RotateLeft32 (k : Nat) (D : CallF) : Ent := entOf 117 [(0, .i .u32), (1, .i .i64)] [(4, .i .u32)] (math_bits_RotateLeft32 k D)
theorem q_math_bits_RotateLeft32 : (Tryd.f117.body).bind (rcodeOf Tryd.prog 2 Tryd.f117.ntmps) = some (strip r_math_bits_RotateLeft32) := by kernel_rfl
theorem t_math_bits_RotateLeft32 (k : Nat) (D : CallF) : curF [(0, .i .u32), (1, .i .i64)] (fun args h => denF (C_math_bits_RotateLeft32 k D) k r_math_bits_RotateLeft32 [(4, .i .u32)] [none] args h) = math_bits_RotateLeft32 k D := by kernel_rfl
theorem ok_math_bits_RotateLeft32 {D : CallF} (hD : CSound Tryd.prog 2 D) (k : Nat) : EntOk Tryd.prog 2 (e_math_bits_RotateLeft32 k D) :=
 entOf_ok2 (mkC_sound hD (EntsOk.none)) Tryd.func117 rfl q_math_bits_RotateLeft32 rfl (t_math_bits_RotateLeft32 k D)
end Ge
namespace Ge
open Go Gx Go.Proofs
set_option maxRecDepth 100000
noncomputable def C_sha_spread (k : Nat) (D : CallF) : CallF := mkC D [e_math_bits_RotateLeft32 k D]
noncomputable def sha_spread_l1b (_k : Nat) (_D : CallF) (j4 : (Option Addr) → AHeap → Option (((List Value)) × AHeap)) (rec46 : Slc → (Option Addr) → Int → AHeap → Option (((List Value)) × AHeap)) (b42 : Slc) (w43 : Option Addr) (y44 : Int) (h45 : AHeap) : Option (((List Value)) × AHeap) :=
 (if (decide (y44 < 16)) = true then
 (Gx.idxL 1 b42 (IntKind.wrap .i64 (4 * y44))).bind fun q47 =>
 (ldI .u8 q47 h45).bind fun x48 =>
 (Gx.idxL 1 b42 (IntKind.wrap .i64 ((IntKind.wrap .i64 (4 * y44)) + 1))).bind fun q49 =>
 (ldI .u8 q49 h45).bind fun x50 =>
 let t51 : Int := (Go.bits .or .u32 (IntKind.wrap .u32 ((IntKind.wrap .u32 x48) * 16777216)) (IntKind.wrap .u32 ((IntKind.wrap .u32 x50) * 65536)))
 (Gx.idxL 1 b42 (IntKind.wrap .i64 ((IntKind.wrap .i64 (4 * y44)) + 2))).bind fun q52 =>
 (ldI .u8 q52 h45).bind fun x53 =>
 let t54 : Int := (Go.bits .or .u32 t51 (IntKind.wrap .u32 ((IntKind.wrap .u32 x53) * 256)))
 (Gx.idxL 1 b42 (IntKind.wrap .i64 ((IntKind.wrap .i64 (4 * y44)) + 3))).bind fun q55 =>
 (ldI .u8 q55 h45).bind fun x56 =>
 (w43).bind fun p58 =>
 (Gx.idxA 64 1 p58 y44).bind fun q57 =>
 (st1 q57 (.int .u32 (Go.bits .or .u32 t54 (IntKind.wrap .u32 x56))) h45).bind fun h59 =>
 rec46 b42 w43 (IntKind.wrap .i64 (y44 + 1)) h59
 else
 j4 w43 h45)
noncomputable def sha_spread_l1 (k : Nat) (D : CallF) (j4 : (Option Addr) → AHeap → Option (((List Value)) × AHeap)) : Slc → (Option Addr) → Int → AHeap → Option (((List Value)) × AHeap) :=
 iterK (α := Slc → (Option Addr) → Int → AHeap → Option (((List Value)) × AHeap)) (fun _ _ _ _ => none) k (sha_spread_l1b k D j4)
noncomputable def sha_spread_l0b (k : Nat) (D : CallF) (j7 : (Option Addr) → AHeap → Option (((List Value)) × AHeap)) (rec19 : (Option Addr) → Int → AHeap → Option (((List Value)) × AHeap)) (w15 : Option Addr) (i17 : Int) (h18 : AHeap) : Option (((List Value)) × AHeap) :=
 (if (decide (i17 < 64)) = true then
 (w15).bind fun p21 =>
 (Gx.idxA 64 1 p21 (IntKind.wrap .i64 (i17 - 15))).bind fun q20 =>
 (ldI .u32 q20 h18).bind fun x22 =>
 (w15).bind fun p24 =>
 (Gx.idxA 64 1 p24 (IntKind.wrap .i64 (i17 - 2))).bind fun q23 =>
 (ldI .u32 q23 h18).bind fun x25 =>
 (math_bits_RotateLeft32 k D x22 (-7) h18).bind fun r26 =>
 (math_bits_RotateLeft32 k D x22 (-18) r26.2).bind fun r27 =>
 let t28 : Int := (Go.bits .xor .u32 (Go.bits .xor .u32 r26.1 r27.1) (Int.fdiv x22 8))
 (math_bits_RotateLeft32 k D x25 (-17) r27.2).bind fun r29 =>
 (math_bits_RotateLeft32 k D x25 (-19) r29.2).bind fun r30 =>
 let t31 : Int := (Go.bits .xor .u32 (Go.bits .xor .u32 r29.1 r30.1) (Int.fdiv x25 1024))
 (w15).bind fun p33 =>
 (Gx.idxA 64 1 p33 (IntKind.wrap .i64 (i17 - 16))).bind fun q32 =>
 (ldI .u32 q32 r30.2).bind fun x34 =>
 (w15).bind fun p36 =>
 (Gx.idxA 64 1 p36 (IntKind.wrap .i64 (i17 - 7))).bind fun q35 =>
 (ldI .u32 q35 r30.2).bind fun x37 =>
 let t38 : Int := (IntKind.wrap .u32 ((IntKind.wrap .u32 ((IntKind.wrap .u32 (x34 + t28)) + x37)) + t31))
 (w15).bind fun p40 =>
 (Gx.idxA 64 1 p40 i17).bind fun q39 =>
 (st1 q39 (.int .u32 t38) r30.2).bind fun h41 =>
 rec19 w15 (IntKind.wrap .i64 (i17 + 1)) h41
 else
 j7 w15 h18)
noncomputable def sha_spread_l0 (k : Nat) (D : CallF) (j7 : (Option Addr) → AHeap → Option (((List Value)) × AHeap)) : (Option Addr) → Int → AHeap → Option (((List Value)) × AHeap) :=
 iterK (α := (Option Addr) → Int → AHeap → Option (((List Value)) × AHeap)) (fun _ _ _ => none) k (sha_spread_l0b k D j7)
noncomputable def sha_spread (k : Nat) (D : CallF) (b_0 : Slc) (h : AHeap) : Option (((List Value)) × AHeap) :=
 let h1 := AHeap.new h (.cells (List.replicate 64 (.int .u32 0)) 174 true 0)
 joinK (fun (w2 : Option Addr) (h3 : AHeap) =>
 joinK (fun (w5 : Option Addr) (h6 : AHeap) =>
 (w5).bind fun p8 =>
 (ldA 64 p8 h6).bind fun l9 =>
 (w5).bind fun p10 =>
 (stL 64 p10 l9 h6).bind fun h11 =>
 (w5).bind fun p12 =>
 (ldA 64 p12 h11).bind fun l13 =>
 (decA 64 (.agg ⟨l13⟩)).bind fun l14 =>
 some (l14, h11)) fun j7 =>
 sha_spread_l0 k D j7 w2 16 h3) fun j4 =>
 sha_spread_l1 k D j4 b_0 (some (⟨h.next, 0, none⟩ : Addr)) 0 h1
noncomputable def r_sha_spread : RCode := an (.s .n (.s (.j [(2, .p)] (.s .n (.b (.l [(0, .l), (2, .p), (7, .i .i64)] .n)))) (.s (.j [(2, .p)] (.s .n (.b (.l [(2, .p), (4, .i .i64)] .n)))) .n))) (rOf Tryd.prog 2 Tryd.f116)
noncomputable def e_sha_spread (k : Nat) (D : CallF) : Ent := entOf 116 [(0, .l)] [(2, .agg 64)] (sha_spread k D)
theorem q_sha_spread : (Tryd.f116.body).bind (rcodeOf Tryd.prog 2 Tryd.f116.ntmps) = some (strip r_sha_spread) := by kernel_rfl
theorem t_sha_spread (k : Nat) (D : CallF) : curF [(0, .l)] (fun args h => denF (C_sha_spread k D) k r_sha_spread [(2, .agg 64)] [some (.agg 64)] args h) = sha_spread k D := by kernel_rfl
theorem ok_sha_spread {D : CallF} (hD : CSound Tryd.prog 2 D) (k : Nat) : EntOk Tryd.prog 2 (e_sha_spread k D) :=
 entOf_ok2 (mkC_sound hD (EntsOk.more (ok_math_bits_RotateLeft32 hD k) (EntsOk.none))) Tryd.func116 rfl q_sha_spread rfl (t_sha_spread k D)
end Ge
namespace Ge
open Go Gx Go.Proofs
set_option maxRecDepth 100000
noncomputable def C_sha_Hash_take (k : Nat) (D : CallF) : CallF := mkC D [e_sha_spread k D, e_math_bits_RotateLeft32 k D]
noncomputable def sha_Hash_take_l1b (k : Nat) (D : CallF) (j38 : (Option Addr) → Int → Int → Int → Int → Int → Int → Int → Int → AHeap → Option ((Unit) × AHeap)) (rec64 : (Option Addr) → (Option Addr) → Int → Int → Int → Int → Int → Int → Int → Int → Int → AHeap → Option ((Unit) × AHeap)) (hv52 : Option Addr) (w53 : Option Addr) (a54 : Int) (b55 : Int) (c56 : Int) (d57 : Int) (e58 : Int) (f59 : Int) (g60 : Int) (last61 : Int) (y62 : Int) (h63 : AHeap) : Option ((Unit) × AHeap) :=
 (if (decide (y62 < 64)) = true then
 (math_bits_RotateLeft32 k D e58 (-6) h63).bind fun r65 =>
 (math_bits_RotateLeft32 k D e58 (-11) r65.2).bind fun r66 =>
 (math_bits_RotateLeft32 k D e58 (-25) r66.2).bind fun r67 =>
 let t68 : Int := (IntKind.wrap .u32 (last61 + (Go.bits .xor .u32 (Go.bits .xor .u32 r65.1 r66.1) r67.1)))
 let t69 : Int := (Go.bits .and .u32 (Go.bits .xor .u32 (IntKind.max .u32) e58) g60)
 let t70 : Int := (IntKind.wrap .u32 (t68 + (Go.bits .xor .u32 (Go.bits .and .u32 e58 f59) t69)))
 (Gx.idxA 64 1 (⟨0, 0, none⟩ : Addr) y62).bind fun q71 =>
 (ldI .u32 q71 r67.2).bind fun x72 =>
 (w53).bind fun p74 =>
 (Gx.idxA 64 1 p74 y62).bind fun q73 =>
 (ldI .u32 q73 r67.2).bind fun x75 =>
 (math_bits_RotateLeft32 k D a54 (-2) r67.2).bind fun r76 =>
 (math_bits_RotateLeft32 k D a54 (-13) r76.2).bind fun r77 =>
 (math_bits_RotateLeft32 k D a54 (-22) r77.2).bind fun r78 =>
 let t79 : Int := (Go.bits .xor .u32 (Go.bits .and .u32 a54 b55) (Go.bits .and .u32 a54 c56))
 let t80 : Int := (IntKind.wrap .u32 ((Go.bits .xor .u32 (Go.bits .xor .u32 r76.1 r77.1) r78.1) + (Go.bits .xor .u32 t79 (Go.bits .and .u32 b55 c56))))
 let t81 : Int := (IntKind.wrap .u32 (d57 + (IntKind.wrap .u32 ((IntKind.wrap .u32 (t70 + x72)) + x75))))
 let t82 : Int := (IntKind.wrap .u32 ((IntKind.wrap .u32 ((IntKind.wrap .u32 (t70 + x72)) + x75)) + t80))
 rec64 hv52 w53 t82 a54 b55 c56 t81 e58 f59 g60 (IntKind.wrap .i64 (y62 + 1)) r78.2
 else
 j38 hv52 a54 b55 c56 d57 e58 f59 g60 last61 h63)
noncomputable def sha_Hash_take_l1 (k : Nat) (D : CallF) (j38 : (Option Addr) → Int → Int → Int → Int → Int → Int → Int → Int → AHeap → Option ((Unit) × AHeap)) : (Option Addr) → (Option Addr) → Int → Int → Int → Int → Int → Int → Int → Int → Int → AHeap → Option ((Unit) × AHeap) :=
 iterK (α := (Option Addr) → (Option Addr) → Int → Int → Int → Int → Int → Int → Int → Int → Int → AHeap → Option ((Unit) × AHeap)) (fun _ _ _ _ _ _ _ _ _ _ _ _ => none) k (sha_Hash_take_l1b k D j38)
noncomputable def sha_Hash_take_l0b (_k : Nat) (_D : CallF)  (rec43 : (Option Addr) → (Int × Int × Int × Int × Int × Int × Int × Int) → Int → AHeap → Option ((Unit) × AHeap)) (hv39 : Option Addr) (y40 : Int × Int × Int × Int × Int × Int × Int × Int) (y41 : Int) (h42 : AHeap) : Option ((Unit) × AHeap) :=
 (if (decide (y41 < 8)) = true then
 (if 0 ≤ y41 ∧ y41 < ((8 : Nat) : Int) then
 (([.int .u32 y40.1, .int .u32 y40.2.1, .int .u32 y40.2.2.1, .int .u32 y40.2.2.2.1, .int .u32 y40.2.2.2.2.1, .int .u32 y40.2.2.2.2.2.1, .int .u32 y40.2.2.2.2.2.2.1, .int .u32 y40.2.2.2.2.2.2.2])[(y41).toNat * 1]?).bind fun v44 =>
 (decI .u32 v44).bind fun x45 =>
 (hv39).bind fun p46 =>
 (Gx.idxA 8 1 (⟨p46.block, p46.off + 0, none⟩ : Addr) y41).bind fun q47 =>
 (ldI .u32 q47 h42).bind fun x48 =>
 (hv39).bind fun p49 =>
 (Gx.idxA 8 1 (⟨p49.block, p49.off + 0, none⟩ : Addr) y41).bind fun q50 =>
 (st1 q50 (.int .u32 (IntKind.wrap .u32 (x48 + x45))) h42).bind fun h51 =>
 rec43 hv39 (y40.1, y40.2.1, y40.2.2.1, y40.2.2.2.1, y40.2.2.2.2.1, y40.2.2.2.2.2.1, y40.2.2.2.2.2.2.1, y40.2.2.2.2.2.2.2) (IntKind.wrap .i64 (y41 + 1)) h51
 else none)
 else
 some ((), h42))
noncomputable def sha_Hash_take_l0 (k : Nat) (D : CallF)  : (Option Addr) → (Int × Int × Int × Int × Int × Int × Int × Int) → Int → AHeap → Option ((Unit) × AHeap) :=
 iterK (α := (Option Addr) → (Int × Int × Int × Int × Int × Int × Int × Int) → Int → AHeap → Option ((Unit) × AHeap)) (fun _ _ _ _ => none) k (sha_Hash_take_l0b k D )
noncomputable def sha_Hash_take (k : Nat) (D : CallF) (h_0 : Option Addr) (block_1 : Slc) (h : AHeap) : Option ((Unit) × AHeap) :=
 (sha_spread k D block_1 h).bind fun r1 =>
 let h2 := AHeap.new r1.2 (.cells (List.replicate 64 (.int .u32 0)) 174 true 0)
 (stL 64 (⟨r1.2.next, 0, none⟩ : Addr) r1.1 h2).bind fun h3 =>
 (h_0).bind fun p4 =>
 (ldI .u32 (⟨p4.block, p4.off + 0 + 0, none⟩ : Addr) h3).bind fun x6 =>
 (h_0).bind fun p7 =>
 (ldI .u32 (⟨p7.block, p7.off + 0 + 1, none⟩ : Addr) h3).bind fun x9 =>
 (h_0).bind fun p10 =>
 (ldI .u32 (⟨p10.block, p10.off + 0 + 2, none⟩ : Addr) h3).bind fun x12 =>
 (h_0).bind fun p13 =>
 (ldI .u32 (⟨p13.block, p13.off + 0 + 3, none⟩ : Addr) h3).bind fun x15 =>
 (h_0).bind fun p16 =>
 (ldI .u32 (⟨p16.block, p16.off + 0 + 4, none⟩ : Addr) h3).bind fun x18 =>
 (h_0).bind fun p19 =>
 (ldI .u32 (⟨p19.block, p19.off + 0 + 5, none⟩ : Addr) h3).bind fun x21 =>
 (h_0).bind fun p22 =>
 (ldI .u32 (⟨p22.block, p22.off + 0 + 6, none⟩ : Addr) h3).bind fun x24 =>
 (h_0).bind fun p25 =>
 (ldI .u32 (⟨p25.block, p25.off + 0 + 7, none⟩ : Addr) h3).bind fun x27 =>
 joinK (fun (hv28 : Option Addr) (a29 : Int) (b30 : Int) (c31 : Int) (d32 : Int) (e33 : Int) (f34 : Int) (g35 : Int) (last36 : Int) (h37 : AHeap) =>
 sha_Hash_take_l0 k D hv28 (a29, b30, c31, d32, e33, f34, g35, last36) 0 h37) fun j38 =>
 sha_Hash_take_l1 k D j38 h_0 (some (⟨r1.2.next, 0, none⟩ : Addr)) x6 x9 x12 x15 x18 x21 x24 x27 0 h3
noncomputable def r_sha_Hash_take : RCode := an (.s .n (.s .n (.s .n (.s (.j [(0, .p), (5, .i .u32), (6, .i .u32), (7, .i .u32), (8, .i .u32), (9, .i .u32), (10, .i .u32), (11, .i .u32), (12, .i .u32)] (.s .n (.b (.l [(0, .p), (4, .p), (5, .i .u32), (6, .i .u32), (7, .i .u32), (8, .i .u32), (9, .i .u32), (10, .i .u32), (11, .i .u32), (12, .i .u32), (62, .i .i64)] .n)))) (.s .n (.b (.l [(0, .p), (135, .st [.i .u32, .i .u32, .i .u32, .i .u32, .i .u32, .i .u32, .i .u32, .i .u32]), (136, .i .i64)] .n))))))) (rOf Tryd.prog 2 Tryd.f89)
noncomputable def e_sha_Hash_take (k : Nat) (D : CallF) : Ent := entOf 89 [(0, .p), (1, .l)] [] (sha_Hash_take k D)
theorem q_sha_Hash_take : (Tryd.f89.body).bind (rcodeOf Tryd.prog 2 Tryd.f89.ntmps) = some (strip r_sha_Hash_take) := by kernel_rfl
theorem t_sha_Hash_take (k : Nat) (D : CallF) : curF [(0, .p), (1, .l)] (fun args h => denF (C_sha_Hash_take k D) k r_sha_Hash_take [] [] args h) = sha_Hash_take k D := by kernel_rfl
theorem ok_sha_Hash_take {D : CallF} (hD : CSound Tryd.prog 2 D) (k : Nat) : EntOk Tryd.prog 2 (e_sha_Hash_take k D) :=
 entOf_ok2 (mkC_sound hD (EntsOk.more (ok_sha_spread hD k) (EntsOk.more (ok_math_bits_RotateLeft32 hD k) (EntsOk.none)))) Tryd.func89 rfl q_sha_Hash_take rfl (t_sha_Hash_take k D)
end Ge
namespace Ge
open Go Gx Go.Proofs
set_option maxRecDepth 100000
noncomputable def C_sha_Hash_Write (k : Nat) (D : CallF) : CallF := mkC D [e_sha_Hash_take k D]
noncomputable def sha_Hash_Write_l0b (k : Nat) (D : CallF) (j13 : (Option Addr) → Int → AHeap → Option ((Unit) × AHeap)) (rec24 : (Option Addr) → Int → AHeap → Option ((Unit) × AHeap)) (hv21 : Option Addr) (atv22 : Int) (h23 : AHeap) : Option ((Unit) × AHeap) :=
 (hv21).bind fun p25 =>
 (ldL (⟨p25.block, p25.off + 8, none⟩ : Addr) h23).bind fun x26 =>
 (if (decide ((IntKind.wrap .i64 ((x26.len : Int) - atv22)) ≥ 64)) = true then
 (hv21).bind fun p27 =>
 (ldL (⟨p27.block, p27.off + 8, none⟩ : Addr) h23).bind fun x28 =>
 (Gx.subL 1 x28 (some atv22) (some (IntKind.wrap .i64 (atv22 + 64))) none).bind fun l29 =>
 (sha_Hash_take k D hv21 l29 h23).bind fun r30 =>
 rec24 hv21 (IntKind.wrap .i64 (atv22 + 64)) r30.2
 else
 j13 hv21 atv22 h23)
noncomputable def sha_Hash_Write_l0 (k : Nat) (D : CallF) (j13 : (Option Addr) → Int → AHeap → Option ((Unit) × AHeap)) : (Option Addr) → Int → AHeap → Option ((Unit) × AHeap) :=
 iterK (α := (Option Addr) → Int → AHeap → Option ((Unit) × AHeap)) (fun _ _ _ => none) k (sha_Hash_Write_l0b k D j13)
noncomputable def sha_Hash_Write (k : Nat) (D : CallF) (h_0 : Option Addr) (s_1 : ByteArray) (h : AHeap) : Option ((Unit) × AHeap) :=
 (h_0).bind fun p1 =>
 (ldI .i64 (⟨p1.block, p1.off + 9, none⟩ : Addr) h).bind fun x2 =>
 (h_0).bind fun p3 =>
 (st1 (⟨p3.block, p3.off + 9, none⟩ : Addr) (.int .i64 (IntKind.wrap .i64 (x2 + (s_1.size : Int)))) h).bind fun h4 =>
 (h_0).bind fun p5 =>
 (ldL (⟨p5.block, p5.off + 8, none⟩ : Addr) h4).bind fun x6 =>
 (appendA 1 1 5 h4 x6 (bytesL s_1) s_1.size).bind fun r7 =>
 (h_0).bind fun p8 =>
 (st1 (⟨p8.block, p8.off + 8, none⟩ : Addr) (.slice r7.1.a r7.1.len r7.1.cap) r7.2).bind fun h9 =>
 joinK (fun (hv10 : Option Addr) (atv11 : Int) (h12 : AHeap) =>
 (hv10).bind fun p14 =>
 (ldL (⟨p14.block, p14.off + 8, none⟩ : Addr) h12).bind fun x15 =>
 (Gx.subL 1 x15 (some atv11) none none).bind fun l16 =>
 (rdS 1 l16 h12).bind fun n18 =>
 (appendA 1 1 5 h12 (⟨none, 0, 0⟩ : Slc) n18 l16.len).bind fun r17 =>
 (hv10).bind fun p19 =>
 (st1 (⟨p19.block, p19.off + 8, none⟩ : Addr) (.slice r17.1.a r17.1.len r17.1.cap) r17.2).bind fun h20 =>
 some ((), h20)) fun j13 =>
 sha_Hash_Write_l0 k D j13 h_0 0 h9
noncomputable def r_sha_Hash_Write : RCode := an (.s .n (.s .n (.s .n (.s (.j [(0, .p), (4, .i .i64)] (.b (.l [(0, .p), (4, .i .i64)] .n))) .n)))) (rOf Tryd.prog 2 Tryd.f53)
noncomputable def e_sha_Hash_Write (k : Nat) (D : CallF) : Ent := entOf 53 [(0, .p), (1, .s)] [] (sha_Hash_Write k D)
theorem q_sha_Hash_Write : (Tryd.f53.body).bind (rcodeOf Tryd.prog 2 Tryd.f53.ntmps) = some (strip r_sha_Hash_Write) := by kernel_rfl
theorem t_sha_Hash_Write (k : Nat) (D : CallF) : curF [(0, .p), (1, .s)] (fun args h => denF (C_sha_Hash_Write k D) k r_sha_Hash_Write [] [] args h) = sha_Hash_Write k D := by kernel_rfl
theorem ok_sha_Hash_Write {D : CallF} (hD : CSound Tryd.prog 2 D) (k : Nat) : EntOk Tryd.prog 2 (e_sha_Hash_Write k D) :=
 entOf_ok2 (mkC_sound hD (EntsOk.more (ok_sha_Hash_take hD k) (EntsOk.none))) Tryd.func53 rfl q_sha_Hash_Write rfl (t_sha_Hash_Write k D)
end Ge
namespace Ge
open Go Gx Go.Proofs
set_option maxRecDepth 100000
noncomputable def C_sha_Hash_Sum (k : Nat) (D : CallF) : CallF := mkC D [e_sha_Hash_Fork k D, e_sha_Hash_Write k D]
noncomputable def sha_Hash_Sum_l2b (_k : Nat) (_D : CallF) (j7 : (Option Addr) → (Option Addr) → Slc → AHeap → Option ((ByteArray) × AHeap)) (rec47 : (Option Addr) → (Option Addr) → Slc → AHeap → Option ((ByteArray) × AHeap)) (hv43 : Option Addr) (endv44 : Option Addr) (tail45 : Slc) (h46 : AHeap) : Option ((ByteArray) × AHeap) :=
 (endv44).bind fun p48 =>
 (ldL (⟨p48.block, p48.off + 8, none⟩ : Addr) h46).bind fun x49 =>
 let t50 : Int := (Int.tmod (IntKind.wrap .i64 ((x49.len : Int) + (tail45.len : Int))) 64)
 (if (t50 != 56) = true then
 let h51 := AHeap.new h46 (.cells [.int .u8 0] 5 true 0)
 (rdS 1 (⟨(some ⟨h46.next, 0, some 0⟩), 1, 1⟩ : Slc) h51).bind fun n53 =>
 (appendA 1 1 5 h51 tail45 n53 1).bind fun r52 =>
 rec47 hv43 endv44 r52.1 r52.2
 else
 j7 hv43 endv44 tail45 h46)
noncomputable def sha_Hash_Sum_l2 (k : Nat) (D : CallF) (j7 : (Option Addr) → (Option Addr) → Slc → AHeap → Option ((ByteArray) × AHeap)) : (Option Addr) → (Option Addr) → Slc → AHeap → Option ((ByteArray) × AHeap) :=
 iterK (α := (Option Addr) → (Option Addr) → Slc → AHeap → Option ((ByteArray) × AHeap)) (fun _ _ _ _ => none) k (sha_Hash_Sum_l2b k D j7)
noncomputable def sha_Hash_Sum_l1b (_k : Nat) (_D : CallF) (j13 : (Option Addr) → Slc → AHeap → Option ((ByteArray) × AHeap)) (rec38 : (Option Addr) → Slc → Int → Int → AHeap → Option ((ByteArray) × AHeap)) (endv33 : Option Addr) (tail34 : Slc) (count35 : Int) (shift36 : Int) (h37 : AHeap) : Option ((ByteArray) × AHeap) :=
 (if (decide (shift36 ≥ 0)) = true then
 (if 0 ≤ shift36 then
 let t39 : Int := (Int.fdiv count35 (2 ^ (min (shift36).toNat (IntKind.bits .u64))))
 let h40 := AHeap.new h37 (.cells [.int .u8 (IntKind.wrap .u8 t39)] 5 true 0)
 (rdS 1 (⟨(some ⟨h37.next, 0, some 0⟩), 1, 1⟩ : Slc) h40).bind fun n42 =>
 (appendA 1 1 5 h40 tail34 n42 1).bind fun r41 =>
 rec38 endv33 r41.1 count35 (IntKind.wrap .i64 (shift36 - 8)) r41.2
 else none)
 else
 j13 endv33 tail34 h37)
noncomputable def sha_Hash_Sum_l1 (k : Nat) (D : CallF) (j13 : (Option Addr) → Slc → AHeap → Option ((ByteArray) × AHeap)) : (Option Addr) → Slc → Int → Int → AHeap → Option ((ByteArray) × AHeap) :=
 iterK (α := (Option Addr) → Slc → Int → Int → AHeap → Option ((ByteArray) × AHeap)) (fun _ _ _ _ _ => none) k (sha_Hash_Sum_l1b k D j13)
noncomputable def sha_Hash_Sum_l0b (_k : Nat) (_D : CallF) (j18 : Slc → AHeap → Option ((ByteArray) × AHeap)) (rec27 : Slc → (Int × Int × Int × Int × Int × Int × Int × Int) → Int → AHeap → Option ((ByteArray) × AHeap)) (out23 : Slc) (y24 : Int × Int × Int × Int × Int × Int × Int × Int) (y25 : Int) (h26 : AHeap) : Option ((ByteArray) × AHeap) :=
 (if (decide (y25 < 8)) = true then
 (if 0 ≤ y25 ∧ y25 < ((8 : Nat) : Int) then
 (([.int .u32 y24.1, .int .u32 y24.2.1, .int .u32 y24.2.2.1, .int .u32 y24.2.2.2.1, .int .u32 y24.2.2.2.2.1, .int .u32 y24.2.2.2.2.2.1, .int .u32 y24.2.2.2.2.2.2.1, .int .u32 y24.2.2.2.2.2.2.2])[(y25).toNat * 1]?).bind fun v28 =>
 (decI .u32 v28).bind fun x29 =>
 let h30 := AHeap.new h26 (.cells [.int .u8 (IntKind.wrap .u8 (Int.fdiv x29 16777216)), .int .u8 (IntKind.wrap .u8 (Int.fdiv x29 65536)), .int .u8 (IntKind.wrap .u8 (Int.fdiv x29 256)), .int .u8 (IntKind.wrap .u8 x29)] 5 true 0)
 (rdS 1 (⟨(some ⟨h26.next, 0, some 0⟩), 4, 4⟩ : Slc) h30).bind fun n32 =>
 (appendA 1 1 5 h30 out23 n32 4).bind fun r31 =>
 rec27 r31.1 (y24.1, y24.2.1, y24.2.2.1, y24.2.2.2.1, y24.2.2.2.2.1, y24.2.2.2.2.2.1, y24.2.2.2.2.2.2.1, y24.2.2.2.2.2.2.2) (IntKind.wrap .i64 (y25 + 1)) r31.2
 else none)
 else
 j18 out23 h26)
noncomputable def sha_Hash_Sum_l0 (k : Nat) (D : CallF) (j18 : Slc → AHeap → Option ((ByteArray) × AHeap)) : Slc → (Int × Int × Int × Int × Int × Int × Int × Int) → Int → AHeap → Option ((ByteArray) × AHeap) :=
 iterK (α := Slc → (Int × Int × Int × Int × Int × Int × Int × Int) → Int → AHeap → Option ((ByteArray) × AHeap)) (fun _ _ _ _ => none) k (sha_Hash_Sum_l0b k D j18)
noncomputable def sha_Hash_Sum (k : Nat) (D : CallF) (h_0 : Option Addr) (h : AHeap) : Option ((ByteArray) × AHeap) :=
 (sha_Hash_Fork k D h_0 h).bind fun r1 =>
 let h2 := AHeap.new r1.2 (.cells [.int .u8 128] 5 true 0)
 joinK (fun (hv3 : Option Addr) (endv4 : Option Addr) (tail5 : Slc) (h6 : AHeap) =>
 (hv3).bind fun p8 =>
 (ldI .i64 (⟨p8.block, p8.off + 9, none⟩ : Addr) h6).bind fun x9 =>
 joinK (fun (endv10 : Option Addr) (tail11 : Slc) (h12 : AHeap) =>
 (bytesOf h12 tail11).bind fun s14 =>
 (sha_Hash_Write k D endv10 s14 h12).bind fun r15 =>
 joinK (fun (out16 : Slc) (h17 : AHeap) =>
 (bytesOf h17 out16).bind fun s19 =>
 some (s19, h17)) fun j18 =>
 (endv10).bind fun p20 =>
 (ldA 8 (⟨p20.block, p20.off + 0, none⟩ : Addr) r15.2).bind fun l21 =>
 (decC [.i .u32, .i .u32, .i .u32, .i .u32, .i .u32, .i .u32, .i .u32, .i .u32] l21).bind fun x22 =>
 sha_Hash_Sum_l0 k D j18 (⟨none, 0, 0⟩ : Slc) (x22.1, x22.2.1, x22.2.2.1, x22.2.2.2.1, x22.2.2.2.2.1, x22.2.2.2.2.2.1, x22.2.2.2.2.2.2.1, x22.2.2.2.2.2.2.2) 0 r15.2) fun j13 =>
 sha_Hash_Sum_l1 k D j13 endv4 tail5 (IntKind.wrap .u64 ((IntKind.wrap .u64 x9) * 8)) 56 h6) fun j7 =>
 sha_Hash_Sum_l2 k D j7 h_0 r1.1 (⟨(some ⟨r1.2.next, 0, some 0⟩), 1, 1⟩ : Slc) h2
noncomputable def r_sha_Hash_Sum : RCode := an (.s .n (.s .n (.s .n (.s (.j [(0, .p), (3, .p), (4, .l)] (.b (.l [(0, .p), (3, .p), (4, .l)] .n))) (.s .n (.s (.j [(3, .p), (4, .l)] (.s .n (.b (.l [(3, .p), (4, .l), (5, .i .u64), (6, .i .i64)] .n)))) (.s .n (.s .n (.s (.j [(7, .l)] (.s (.r [(3, .st [.i .u32, .i .u32, .i .u32, .i .u32, .i .u32, .i .u32, .i .u32, .i .u32])]) (.b (.l [(7, .l), (50, .st [.i .u32, .i .u32, .i .u32, .i .u32, .i .u32, .i .u32, .i .u32, .i .u32]), (51, .i .i64)] .n)))) .n))))))))) (rOf Tryd.prog 2 Tryd.f54)
noncomputable def e_sha_Hash_Sum (k : Nat) (D : CallF) : Ent := entOf 54 [(0, .p)] [(2, .s)] (sha_Hash_Sum k D)
theorem q_sha_Hash_Sum : (Tryd.f54.body).bind (rcodeOf Tryd.prog 2 Tryd.f54.ntmps) = some (strip r_sha_Hash_Sum) := by kernel_rfl
theorem t_sha_Hash_Sum (k : Nat) (D : CallF) : curF [(0, .p)] (fun args h => denF (C_sha_Hash_Sum k D) k r_sha_Hash_Sum [(2, .s)] [none] args h) = sha_Hash_Sum k D := by kernel_rfl
theorem ok_sha_Hash_Sum {D : CallF} (hD : CSound Tryd.prog 2 D) (k : Nat) : EntOk Tryd.prog 2 (e_sha_Hash_Sum k D) :=
 entOf_ok2 (mkC_sound hD (EntsOk.more (ok_sha_Hash_Fork hD k) (EntsOk.more (ok_sha_Hash_Write hD k) (EntsOk.none)))) Tryd.func54 rfl q_sha_Hash_Sum rfl (t_sha_Hash_Sum k D)
end Ge
namespace Ge
open Go Gx Go.Proofs
set_option maxRecDepth 100000
noncomputable def C_sha_Sum (k : Nat) (D : CallF) : CallF := mkC D [e_sha_New k D, e_sha_Hash_Sum k D, e_sha_Hash_Write k D]
noncomputable def sha_Sum_l0b (k : Nat) (D : CallF) (j4 : (Option Addr) → AHeap → Option ((ByteArray) × AHeap)) (rec11 : (Option Addr) → Slc → Int → Int → AHeap → Option ((ByteArray) × AHeap)) (hv6 : Option Addr) (y7 : Slc) (y8 : Int) (y9 : Int) (h10 : AHeap) : Option ((ByteArray) × AHeap) :=
 (if (decide (y9 < y8)) = true then
 (Gx.idxL 1 y7 y9).bind fun q12 =>
 (ldS q12 h10).bind fun x13 =>
 (sha_Hash_Write k D hv6 x13 h10).bind fun r14 =>
 rec11 hv6 y7 y8 (IntKind.wrap .i64 (y9 + 1)) r14.2
 else
 j4 hv6 h10)
noncomputable def sha_Sum_l0 (k : Nat) (D : CallF) (j4 : (Option Addr) → AHeap → Option ((ByteArray) × AHeap)) : (Option Addr) → Slc → Int → Int → AHeap → Option ((ByteArray) × AHeap) :=
 iterK (α := (Option Addr) → Slc → Int → Int → AHeap → Option ((ByteArray) × AHeap)) (fun _ _ _ _ _ => none) k (sha_Sum_l0b k D j4)
noncomputable def sha_Sum (k : Nat) (D : CallF) (pieces_0 : Slc) (h : AHeap) : Option ((ByteArray) × AHeap) :=
 (sha_New k D h).bind fun r1 =>
 joinK (fun (hv2 : Option Addr) (h3 : AHeap) =>
 (sha_Hash_Sum k D hv2 h3).bind fun r5 =>
 some (r5.1, r5.2)) fun j4 =>
 sha_Sum_l0 k D j4 r1.1 pieces_0 (pieces_0.len : Int) 0 r1.2
noncomputable def r_sha_Sum : RCode := an (.s .n (.s .n (.s (.j [(3, .p)] (.s .n (.b (.l [(3, .p), (7, .l), (8, .i .i64), (9, .i .i64)] .n)))) .n))) (rOf Tryd.prog 2 Tryd.f22)
noncomputable def e_sha_Sum (k : Nat) (D : CallF) : Ent := entOf 22 [(0, .l)] [(2, .s)] (sha_Sum k D)
theorem q_sha_Sum : (Tryd.f22.body).bind (rcodeOf Tryd.prog 2 Tryd.f22.ntmps) = some (strip r_sha_Sum) := by kernel_rfl
theorem t_sha_Sum (k : Nat) (D : CallF) : curF [(0, .l)] (fun args h => denF (C_sha_Sum k D) k r_sha_Sum [(2, .s)] [none] args h) = sha_Sum k D := by kernel_rfl
theorem ok_sha_Sum {D : CallF} (hD : CSound Tryd.prog 2 D) (k : Nat) : EntOk Tryd.prog 2 (e_sha_Sum k D) :=
 entOf_ok2 (mkC_sound hD (EntsOk.more (ok_sha_New hD k) (EntsOk.more (ok_sha_Hash_Sum hD k) (EntsOk.more (ok_sha_Hash_Write hD k) (EntsOk.none))))) Tryd.func22 rfl q_sha_Sum rfl (t_sha_Sum k D)
end Ge
namespace Ge
open Go Gx Go.Proofs
set_option maxRecDepth 100000
noncomputable def C_blob_Id (k : Nat) (D : CallF) : CallF := mkC D [e_blob_known k D, e_sha_Sum k D]
noncomputable def blob_Id (k : Nat) (D : CallF) (kind_0 : Int) (text_1 : ByteArray) (h : AHeap) : Option ((ByteArray × Int) × AHeap) :=
 (blob_known k D kind_0 h).bind fun r1 =>
 (if (!r1.1) = true then
 some (((⟨#[]⟩ : ByteArray), 1), r1.2)
 else
 newK r1.2 ((.cells [.int .u8 (IntKind.wrap .u8 kind_0)] 5 true 0)) fun h2 =>
 (bytesOf h2 (⟨(some ⟨r1.2.next, 0, some 0⟩), 1, 1⟩ : Slc)).bind fun s3 =>
 newK h2 ((.cells [.string s3, .string text_1] 9 true 0)) fun h4 =>
 (sha_Sum k D (⟨(some ⟨h2.next, 0, some 0⟩), 2, 2⟩ : Slc) h4).bind fun r5 =>
 some ((r5.1, 0), r5.2))
noncomputable def r_blob_Id : RCode := an (.n) (rOf Tryd.prog 2 Tryd.f10)
noncomputable def e_blob_Id (k : Nat) (D : CallF) : Ent := entOf 10 [(0, .i .i64), (1, .s)] [(4, .s), (5, .i .i64)] (blob_Id k D)
theorem q_blob_Id : (Tryd.f10.body).bind (rcodeOf Tryd.prog 2 Tryd.f10.ntmps) = some (strip r_blob_Id) := by kernel_rfl
theorem t_blob_Id (k : Nat) (D : CallF) : curF [(0, .i .i64), (1, .s)] (fun args h => denF (C_blob_Id k D) k r_blob_Id [(4, .s), (5, .i .i64)] [none, none] args h) = blob_Id k D := by kernel_rfl
theorem ok_blob_Id {D : CallF} (hD : CSound Tryd.prog 2 D) (k : Nat) : EntOk Tryd.prog 2 (e_blob_Id k D) :=
 entOf_ok2 (mkC_sound hD (EntsOk.more (ok_blob_known hD k) (EntsOk.more (ok_sha_Sum hD k) (EntsOk.none)))) Tryd.func10 rfl q_blob_Id rfl (t_blob_Id k D)
end Ge
namespace Ge
open Go Gx Go.Proofs
set_option maxRecDepth 100000
noncomputable def C_num_Reader_Fail (_k : Nat) (D : CallF) : CallF := mkC D []
noncomputable def num_Reader_Fail (_k : Nat) (_D : CallF) (r_0 : Option Addr) (e_1 : Int) (h : AHeap) : Option ((Unit) × AHeap) :=
 (r_0).bind fun p1 =>
 (ldI .i64 (⟨p1.block, p1.off + 1, none⟩ : Addr) h).bind fun x2 =>
 (if (x2 == 0) = true then
 (r_0).bind fun p3 =>
 (st1 (⟨p3.block, p3.off + 1, none⟩ : Addr) (.int .i64 e_1) h).bind fun h4 =>
 some ((), h4)
 else
 some ((), h))
noncomputable def r_num_Reader_Fail : RCode := an (.n) (rOf Tryd.prog 2 Tryd.f99)
noncomputable def e_num_Reader_Fail (k : Nat) (D : CallF) : Ent := entOf 99 [(0, .p), (1, .i .i64)] [] (num_Reader_Fail k D)
theorem q_num_Reader_Fail : (Tryd.f99.body).bind (rcodeOf Tryd.prog 2 Tryd.f99.ntmps) = some (strip r_num_Reader_Fail) := by kernel_rfl
theorem t_num_Reader_Fail (k : Nat) (D : CallF) : curF [(0, .p), (1, .i .i64)] (fun args h => denF (C_num_Reader_Fail k D) k r_num_Reader_Fail [] [] args h) = num_Reader_Fail k D := by kernel_rfl
theorem ok_num_Reader_Fail {D : CallF} (hD : CSound Tryd.prog 2 D) (k : Nat) : EntOk Tryd.prog 2 (e_num_Reader_Fail k D) :=
 entOf_ok2 (mkC_sound hD (EntsOk.none)) Tryd.func99 rfl q_num_Reader_Fail rfl (t_num_Reader_Fail k D)
end Ge
namespace Ge
open Go Gx Go.Proofs
set_option maxRecDepth 100000
noncomputable def C_num_Reader_Left (_k : Nat) (D : CallF) : CallF := mkC D []
noncomputable def num_Reader_Left (_k : Nat) (_D : CallF) (r_0 : Option Addr) (h : AHeap) : Option ((Int) × AHeap) :=
 (r_0).bind fun p1 =>
 (ldS (⟨p1.block, p1.off + 0, none⟩ : Addr) h).bind fun x2 =>
 some ((x2.size : Int), h)
noncomputable def r_num_Reader_Left : RCode := an (.n) (rOf Tryd.prog 2 Tryd.f84)
noncomputable def e_num_Reader_Left (k : Nat) (D : CallF) : Ent := entOf 84 [(0, .p)] [(2, .i .i64)] (num_Reader_Left k D)
theorem q_num_Reader_Left : (Tryd.f84.body).bind (rcodeOf Tryd.prog 2 Tryd.f84.ntmps) = some (strip r_num_Reader_Left) := by kernel_rfl
theorem t_num_Reader_Left (k : Nat) (D : CallF) : curF [(0, .p)] (fun args h => denF (C_num_Reader_Left k D) k r_num_Reader_Left [(2, .i .i64)] [none] args h) = num_Reader_Left k D := by kernel_rfl
theorem ok_num_Reader_Left {D : CallF} (hD : CSound Tryd.prog 2 D) (k : Nat) : EntOk Tryd.prog 2 (e_num_Reader_Left k D) :=
 entOf_ok2 (mkC_sound hD (EntsOk.none)) Tryd.func84 rfl q_num_Reader_Left rfl (t_num_Reader_Left k D)
end Ge
namespace Ge
open Go Gx Go.Proofs
set_option maxRecDepth 100000
noncomputable def C_num_Reader_Bytes (k : Nat) (D : CallF) : CallF := mkC D [e_num_Reader_Fail k D, e_num_Reader_Left k D]
noncomputable def num_Reader_Bytes (k : Nat) (D : CallF) (r_0 : Option Addr) (n_1 : Int) (h : AHeap) : Option ((ByteArray) × AHeap) :=
 joinK (fun (r1 : Option Addr) (n2 : Int) (h3 : AHeap) =>
 (r1).bind fun p5 =>
 (ldI .i64 (⟨p5.block, p5.off + 1, none⟩ : Addr) h3).bind fun x6 =>
 (if (x6 != 0) = true then
 some ((⟨#[]⟩ : ByteArray), h3)
 else
 (r1).bind fun p7 =>
 (ldS (⟨p7.block, p7.off + 0, none⟩ : Addr) h3).bind fun x8 =>
 (Gx.subS x8 none (some n2)).bind fun s9 =>
 (r1).bind fun p10 =>
 (ldS (⟨p10.block, p10.off + 0, none⟩ : Addr) h3).bind fun x11 =>
 (Gx.subS x11 (some n2) none).bind fun s12 =>
 (r1).bind fun p13 =>
 (st1 (⟨p13.block, p13.off + 0, none⟩ : Addr) (.string s12) h3).bind fun h14 =>
 some (s9, h14))) fun j4 =>
 (if (decide (n_1 < 0)) = true then
 (num_Reader_Fail k D r_0 1 h).bind fun r15 =>
 j4 r_0 n_1 r15.2
 else
 (num_Reader_Left k D r_0 h).bind fun r16 =>
 (if (decide (n_1 > r16.1)) = true then
 (num_Reader_Fail k D r_0 10 r16.2).bind fun r17 =>
 j4 r_0 n_1 r17.2
 else
 j4 r_0 n_1 r16.2))
noncomputable def r_num_Reader_Bytes : RCode := an (.s .n (.s (.j [(0, .p), (1, .i .i64)] .n) .n)) (rOf Tryd.prog 2 Tryd.f100)
noncomputable def e_num_Reader_Bytes (k : Nat) (D : CallF) : Ent := entOf 100 [(0, .p), (1, .i .i64)] [(4, .s)] (num_Reader_Bytes k D)
theorem q_num_Reader_Bytes : (Tryd.f100.body).bind (rcodeOf Tryd.prog 2 Tryd.f100.ntmps) = some (strip r_num_Reader_Bytes) := by kernel_rfl
theorem t_num_Reader_Bytes (k : Nat) (D : CallF) : curF [(0, .p), (1, .i .i64)] (fun args h => denF (C_num_Reader_Bytes k D) k r_num_Reader_Bytes [(4, .s)] [none] args h) = num_Reader_Bytes k D := by kernel_rfl
theorem ok_num_Reader_Bytes {D : CallF} (hD : CSound Tryd.prog 2 D) (k : Nat) : EntOk Tryd.prog 2 (e_num_Reader_Bytes k D) :=
 entOf_ok2 (mkC_sound hD (EntsOk.more (ok_num_Reader_Fail hD k) (EntsOk.more (ok_num_Reader_Left hD k) (EntsOk.none)))) Tryd.func100 rfl q_num_Reader_Bytes rfl (t_num_Reader_Bytes k D)
end Ge
namespace Ge
open Go Gx Go.Proofs
set_option maxRecDepth 100000
noncomputable def C_index_rises_string (_k : Nat) (D : CallF) : CallF := mkC D []
noncomputable def index_rises_string_l0b (k : Nat) (D : CallF) (j2 : AHeap → Option ((Bool) × AHeap)) (rec7 : Slc → Value → Int → AHeap → Option ((Bool) × AHeap)) (l3 : Slc) (less4 : Value) (i5 : Int) (h6 : AHeap) : Option ((Bool) × AHeap) :=
 (if (decide (i5 < (l3.len : Int))) = true then
 (Gx.idxL 1 l3 (IntKind.wrap .i64 (i5 - 1))).bind fun q8 =>
 (ldS q8 h6).bind fun x9 =>
 (Gx.idxL 1 l3 i5).bind fun q10 =>
 (ldS q10 h6).bind fun x11 =>
 callD (C_index_rises_string k D) less4 [.string x9, .string x11] h6 fun v12 h13 =>
 (decB v12).bind fun x14 =>
 (if (!x14) = true then
 some (false, h13)
 else
 rec7 l3 less4 (IntKind.wrap .i64 (i5 + 1)) h13)
 else
 j2 h6)
noncomputable def index_rises_string_l0 (k : Nat) (D : CallF) (j2 : AHeap → Option ((Bool) × AHeap)) : Slc → Value → Int → AHeap → Option ((Bool) × AHeap) :=
 iterK (α := Slc → Value → Int → AHeap → Option ((Bool) × AHeap)) (fun _ _ _ _ => none) k (index_rises_string_l0b k D j2)
noncomputable def index_rises_string (k : Nat) (D : CallF) (l_0 : Slc) (less_1 : Value) (h : AHeap) : Option ((Bool) × AHeap) :=
 joinK (fun (h1 : AHeap) =>
 some (true, h1)) fun j2 =>
 index_rises_string_l0 k D j2 l_0 less_1 1 h
noncomputable def r_index_rises_string : RCode := an (.s .n (.s (.j [] (.s .n (.b (.l [(0, .l), (1, .v), (5, .i .i64)] (.s .n (.s (.b (.s (.r [(10, .b)]) .n)) .n)))))) .n)) (rOf Tryd.prog 2 Tryd.f122)
noncomputable def e_index_rises_string (k : Nat) (D : CallF) : Ent := entOf 122 [(0, .l), (1, .v)] [(4, .b)] (index_rises_string k D)
theorem q_index_rises_string : (Tryd.f122.body).bind (rcodeOf Tryd.prog 2 Tryd.f122.ntmps) = some (strip r_index_rises_string) := by kernel_rfl
theorem t_index_rises_string (k : Nat) (D : CallF) : curF [(0, .l), (1, .v)] (fun args h => denF (C_index_rises_string k D) k r_index_rises_string [(4, .b)] [none] args h) = index_rises_string k D := by kernel_rfl
theorem ok_index_rises_string {D : CallF} (hD : CSound Tryd.prog 2 D) (k : Nat) : EntOk Tryd.prog 2 (e_index_rises_string k D) :=
 entOf_ok2 (mkC_sound hD (EntsOk.none)) Tryd.func122 rfl q_index_rises_string rfl (t_index_rises_string k D)
end Ge
namespace Ge
open Go Gx Go.Proofs
set_option maxRecDepth 100000
noncomputable def C_index_rises_api_Item (_k : Nat) (D : CallF) : CallF := mkC D []
noncomputable def index_rises_api_Item_l0b (k : Nat) (D : CallF) (j2 : AHeap → Option ((Bool) × AHeap)) (rec7 : Slc → Value → Int → AHeap → Option ((Bool) × AHeap)) (l3 : Slc) (less4 : Value) (i5 : Int) (h6 : AHeap) : Option ((Bool) × AHeap) :=
 (if (decide (i5 < (l3.len : Int))) = true then
 (Gx.idxL 6 l3 (IntKind.wrap .i64 (i5 - 1))).bind fun q8 =>
 (ldA 6 q8 h6).bind fun l9 =>
 (decC [.s, .s, .i .i64, .i .i64, .i .i64, .i .i64] l9).bind fun x10 =>
 (Gx.idxL 6 l3 i5).bind fun q11 =>
 (ldA 6 q11 h6).bind fun l12 =>
 (decC [.s, .s, .i .i64, .i .i64, .i .i64, .i .i64] l12).bind fun x13 =>
 callD (C_index_rises_api_Item k D) less4 [.agg ⟨[.string x10.1, .string x10.2.1, .int .i64 x10.2.2.1, .int .i64 x10.2.2.2.1, .int .i64 x10.2.2.2.2.1, .int .i64 x10.2.2.2.2.2]⟩, .agg ⟨[.string x13.1, .string x13.2.1, .int .i64 x13.2.2.1, .int .i64 x13.2.2.2.1, .int .i64 x13.2.2.2.2.1, .int .i64 x13.2.2.2.2.2]⟩] h6 fun v14 h15 =>
 (decB v14).bind fun x16 =>
 (if (!x16) = true then
 some (false, h15)
 else
 rec7 l3 less4 (IntKind.wrap .i64 (i5 + 1)) h15)
 else
 j2 h6)
noncomputable def index_rises_api_Item_l0 (k : Nat) (D : CallF) (j2 : AHeap → Option ((Bool) × AHeap)) : Slc → Value → Int → AHeap → Option ((Bool) × AHeap) :=
 iterK (α := Slc → Value → Int → AHeap → Option ((Bool) × AHeap)) (fun _ _ _ _ => none) k (index_rises_api_Item_l0b k D j2)
noncomputable def index_rises_api_Item (k : Nat) (D : CallF) (l_0 : Slc) (less_1 : Value) (h : AHeap) : Option ((Bool) × AHeap) :=
 joinK (fun (h1 : AHeap) =>
 some (true, h1)) fun j2 =>
 index_rises_api_Item_l0 k D j2 l_0 less_1 1 h
noncomputable def r_index_rises_api_Item : RCode := an (.s .n (.s (.j [] (.s .n (.b (.l [(0, .l), (1, .v), (5, .i .i64)] (.s .n (.s (.b (.s (.r [(5, .st [.s, .s, .i .i64, .i .i64, .i .i64, .i .i64]), (9, .st [.s, .s, .i .i64, .i .i64, .i .i64, .i .i64]), (10, .b)]) .n)) .n)))))) .n)) (rOf Tryd.prog 2 Tryd.f124)
noncomputable def e_index_rises_api_Item (k : Nat) (D : CallF) : Ent := entOf 124 [(0, .l), (1, .v)] [(4, .b)] (index_rises_api_Item k D)
theorem q_index_rises_api_Item : (Tryd.f124.body).bind (rcodeOf Tryd.prog 2 Tryd.f124.ntmps) = some (strip r_index_rises_api_Item) := by kernel_rfl
theorem t_index_rises_api_Item (k : Nat) (D : CallF) : curF [(0, .l), (1, .v)] (fun args h => denF (C_index_rises_api_Item k D) k r_index_rises_api_Item [(4, .b)] [none] args h) = index_rises_api_Item k D := by kernel_rfl
theorem ok_index_rises_api_Item {D : CallF} (hD : CSound Tryd.prog 2 D) (k : Nat) : EntOk Tryd.prog 2 (e_index_rises_api_Item k D) :=
 entOf_ok2 (mkC_sound hD (EntsOk.none)) Tryd.func124 rfl q_index_rises_api_Item rfl (t_index_rises_api_Item k D)
end Ge
namespace Ge
open Go Gx Go.Proofs
set_option maxRecDepth 100000
noncomputable def C_sha_IsId (_k : Nat) (D : CallF) : CallF := mkC D []
noncomputable def sha_IsId (_k : Nat) (_D : CallF) (s_0 : ByteArray) (h : AHeap) : Option ((Bool) × AHeap) :=
 some (((s_0.size : Int) == 32), h)
noncomputable def r_sha_IsId : RCode := an (.n) (rOf Tryd.prog 2 Tryd.f58)
noncomputable def e_sha_IsId (k : Nat) (D : CallF) : Ent := entOf 58 [(0, .s)] [(2, .b)] (sha_IsId k D)
theorem q_sha_IsId : (Tryd.f58.body).bind (rcodeOf Tryd.prog 2 Tryd.f58.ntmps) = some (strip r_sha_IsId) := by kernel_rfl
theorem t_sha_IsId (k : Nat) (D : CallF) : curF [(0, .s)] (fun args h => denF (C_sha_IsId k D) k r_sha_IsId [(2, .b)] [none] args h) = sha_IsId k D := by kernel_rfl
theorem ok_sha_IsId {D : CallF} (hD : CSound Tryd.prog 2 D) (k : Nat) : EntOk Tryd.prog 2 (e_sha_IsId k D) :=
 entOf_ok2 (mkC_sound hD (EntsOk.none)) Tryd.func58 rfl q_sha_IsId rfl (t_sha_IsId k D)
end Ge
namespace Ge
open Go Gx Go.Proofs
set_option maxRecDepth 100000
noncomputable def C_lookup_within (_k : Nat) (D : CallF) : CallF := mkC D []
noncomputable def lookup_within (_k : Nat) (_D : CallF) (n_0 : Int) (least_1 : Int) (h : AHeap) : Option ((Bool) × AHeap) :=
 (if (decide (n_0 ≥ least_1)) = true then
 some ((decide (n_0 ≤ 65536)), h)
 else
 some (false, h))
noncomputable def r_lookup_within : RCode := an (.n) (rOf Tryd.prog 2 Tryd.f103)
noncomputable def e_lookup_within (k : Nat) (D : CallF) : Ent := entOf 103 [(0, .i .i64), (1, .i .i64)] [(4, .b)] (lookup_within k D)
theorem q_lookup_within : (Tryd.f103.body).bind (rcodeOf Tryd.prog 2 Tryd.f103.ntmps) = some (strip r_lookup_within) := by kernel_rfl
theorem t_lookup_within (k : Nat) (D : CallF) : curF [(0, .i .i64), (1, .i .i64)] (fun args h => denF (C_lookup_within k D) k r_lookup_within [(4, .b)] [none] args h) = lookup_within k D := by kernel_rfl
theorem ok_lookup_within {D : CallF} (hD : CSound Tryd.prog 2 D) (k : Nat) : EntOk Tryd.prog 2 (e_lookup_within k D) :=
 entOf_ok2 (mkC_sound hD (EntsOk.none)) Tryd.func103 rfl q_lookup_within rfl (t_lookup_within k D)
end Ge
namespace Ge
open Go Gx Go.Proofs
set_option maxRecDepth 100000
noncomputable def C_lookup_Check (k : Nat) (D : CallF) : CallF := mkC D [e_sha_IsId k D, e_lookup_within k D]
noncomputable def lookup_Check (k : Nat) (D : CallF) (x_0 : ByteArray × ByteArray × Int × Int × Int × Int) (h : AHeap) : Option ((Int) × AHeap) :=
 newK h ((.cells [.string x_0.1, .string x_0.2.1, .int .i64 x_0.2.2.1, .int .i64 x_0.2.2.2.1, .int .i64 x_0.2.2.2.2.1, .int .i64 x_0.2.2.2.2.2] 57 true 0)) fun h1 =>
 joinK (fun (x2 : Option Addr) (kind3 : Bool) (h4 : AHeap) =>
 joinK (fun (y6 : Bool) (h7 : AHeap) =>
 (if y6 = true then
 some (1, h7)
 else
 some (0, h7))) fun j8 =>
 (x2).bind fun p9 =>
 (ldS (⟨p9.block, p9.off + 0, none⟩ : Addr) h4).bind fun x10 =>
 (sha_IsId k D x10 h4).bind fun r11 =>
 (if (!r11.1) = true then
 j8 true r11.2
 else
 (x2).bind fun p12 =>
 (ldS (⟨p12.block, p12.off + 1 + 0, none⟩ : Addr) r11.2).bind fun x13 =>
 (sha_IsId k D x13 r11.2).bind fun r14 =>
 (if (!r14.1) = true then
 j8 true r14.2
 else
 (if (!kind3) = true then
 j8 true r14.2
 else
 (x2).bind fun p15 =>
 (ldI .i64 (⟨p15.block, p15.off + 1 + 2, none⟩ : Addr) r14.2).bind fun x16 =>
 (lookup_within k D x16 0 r14.2).bind fun r17 =>
 (if (!r17.1) = true then
 j8 true r17.2
 else
 (x2).bind fun p18 =>
 (ldI .i64 (⟨p18.block, p18.off + 1 + 3, none⟩ : Addr) r17.2).bind fun x19 =>
 (lookup_within k D x19 1 r17.2).bind fun r20 =>
 (if (!r20.1) = true then
 j8 true r20.2
 else
 (x2).bind fun p21 =>
 (ldI .i64 (⟨p21.block, p21.off + 1 + 4, none⟩ : Addr) r20.2).bind fun x22 =>
 (lookup_within k D x22 0 r20.2).bind fun r23 =>
 j8 (!r23.1) r23.2)))))) fun j5 =>
 (ldI .i64 (⟨h.next, 2, none⟩ : Addr) h1).bind fun x24 =>
 (if (x24 == 1) = true then
 j5 (some (⟨h.next, 0, none⟩ : Addr)) true h1
 else
 (ldI .i64 (⟨h.next, 2, none⟩ : Addr) h1).bind fun x25 =>
 j5 (some (⟨h.next, 0, none⟩ : Addr)) (x25 == 2) h1)
noncomputable def r_lookup_Check : RCode := an (.s .n (.s (.j [(1, .p), (3, .b)] .n) (.s (.s (.j [(49, .b)] .n) .n) .n))) (rOf Tryd.prog 2 Tryd.f73)
noncomputable def e_lookup_Check (k : Nat) (D : CallF) : Ent := entOf 73 [(0, .st [.s, .s, .i .i64, .i .i64, .i .i64, .i .i64])] [(2, .i .i64)] (lookup_Check k D)
theorem q_lookup_Check : (Tryd.f73.body).bind (rcodeOf Tryd.prog 2 Tryd.f73.ntmps) = some (strip r_lookup_Check) := by kernel_rfl
theorem t_lookup_Check (k : Nat) (D : CallF) : curF [(0, .st [.s, .s, .i .i64, .i .i64, .i .i64, .i .i64])] (fun args h => denF (C_lookup_Check k D) k r_lookup_Check [(2, .i .i64)] [none] args h) = lookup_Check k D := by kernel_rfl
theorem ok_lookup_Check {D : CallF} (hD : CSound Tryd.prog 2 D) (k : Nat) : EntOk Tryd.prog 2 (e_lookup_Check k D) :=
 entOf_ok2 (mkC_sound hD (EntsOk.more (ok_sha_IsId hD k) (EntsOk.more (ok_lookup_within hD k) (EntsOk.none)))) Tryd.func73 rfl q_lookup_Check rfl (t_lookup_Check k D)
end Ge
namespace Ge
open Go Gx Go.Proofs
set_option maxRecDepth 100000
noncomputable def C_index_check (k : Nat) (D : CallF) : CallF := mkC D [e_index_rises_string k D, e_index_rises_api_Item k D, e_lookup_Check k D, e_sha_IsId k D]
noncomputable def index_check_l1b (k : Nat) (D : CallF) (j4 : (Option Addr) → AHeap → Option ((Int) × AHeap)) (rec39 : (Option Addr) → Slc → Int → Int → AHeap → Option ((Int) × AHeap)) (f34 : Option Addr) (y35 : Slc) (y36 : Int) (y37 : Int) (h38 : AHeap) : Option ((Int) × AHeap) :=
 (if (decide (y37 < y36)) = true then
 (Gx.idxL 1 y35 y37).bind fun q40 =>
 (ldS q40 h38).bind fun x41 =>
 (sha_IsId k D x41 h38).bind fun r42 =>
 (if (!r42.1) = true then
 some (1, r42.2)
 else
 rec39 f34 y35 y36 (IntKind.wrap .i64 (y37 + 1)) r42.2)
 else
 j4 f34 h38)
noncomputable def index_check_l1 (k : Nat) (D : CallF) (j4 : (Option Addr) → AHeap → Option ((Int) × AHeap)) : (Option Addr) → Slc → Int → Int → AHeap → Option ((Int) × AHeap) :=
 iterK (α := (Option Addr) → Slc → Int → Int → AHeap → Option ((Int) × AHeap)) (fun _ _ _ _ _ => none) k (index_check_l1b k D j4)
noncomputable def index_check_l0b (k : Nat) (D : CallF) (j7 : (Option Addr) → AHeap → Option ((Int) × AHeap)) (rec24 : (Option Addr) → Slc → Int → Int → AHeap → Option ((Int) × AHeap)) (f19 : Option Addr) (y20 : Slc) (y21 : Int) (y22 : Int) (h23 : AHeap) : Option ((Int) × AHeap) :=
 (if (decide (y22 < y21)) = true then
 (Gx.idxL 6 y20 y22).bind fun q25 =>
 (ldA 6 q25 h23).bind fun l26 =>
 (decC [.s, .s, .i .i64, .i .i64, .i .i64, .i .i64] l26).bind fun x27 =>
 newK h23 ((.cells [.string ⟨#[]⟩, .string ⟨#[]⟩, .int .i64 0, .int .i64 0, .int .i64 0, .int .i64 0] 57 true 0)) fun h28 =>
 (stL 6 (⟨h23.next, 0, none⟩ : Addr) ([.string x27.1, .string x27.2.1, .int .i64 x27.2.2.1, .int .i64 x27.2.2.2.1, .int .i64 x27.2.2.2.2.1, .int .i64 x27.2.2.2.2.2]) h28).bind fun h29 =>
 (ldA 6 (⟨h23.next, 0, none⟩ : Addr) h29).bind fun l30 =>
 (decC [.s, .s, .i .i64, .i .i64, .i .i64, .i .i64] l30).bind fun x31 =>
 (lookup_Check k D (x31.1, x31.2.1, x31.2.2.1, x31.2.2.2.1, x31.2.2.2.2.1, x31.2.2.2.2.2) h29).bind fun r32 =>
 (if (r32.1 != 0) = true then
 some (r32.1, r32.2)
 else
 rec24 f19 y20 y21 (IntKind.wrap .i64 (y22 + 1)) r32.2)
 else
 j7 f19 h23)
noncomputable def index_check_l0 (k : Nat) (D : CallF) (j7 : (Option Addr) → AHeap → Option ((Int) × AHeap)) : (Option Addr) → Slc → Int → Int → AHeap → Option ((Int) × AHeap) :=
 iterK (α := (Option Addr) → Slc → Int → Int → AHeap → Option ((Int) × AHeap)) (fun _ _ _ _ _ => none) k (index_check_l0b k D j7)
noncomputable def index_check (k : Nat) (D : CallF) (f_0 : Slc × Slc) (h : AHeap) : Option ((Int) × AHeap) :=
 newK h ((.cells [.slice f_0.1.a f_0.1.len f_0.1.cap, .slice f_0.2.a f_0.2.len f_0.2.cap] 122 true 0)) fun h1 =>
 joinK (fun (f2 : Option Addr) (h3 : AHeap) =>
 joinK (fun (f5 : Option Addr) (h6 : AHeap) =>
 joinK (fun (y8 : Bool) (h9 : AHeap) =>
 (if y8 = true then
 some (4, h9)
 else
 some (0, h9))) fun j10 =>
 (f5).bind fun p11 =>
 (ldL (⟨p11.block, p11.off + 0, none⟩ : Addr) h6).bind fun x12 =>
 (index_rises_string k D x12 (.func (.func 123) ⟨[]⟩ ⟨[]⟩) h6).bind fun r13 =>
 (if (!r13.1) = true then
 j10 true r13.2
 else
 (f5).bind fun p14 =>
 (ldL (⟨p14.block, p14.off + 1, none⟩ : Addr) r13.2).bind fun x15 =>
 (index_rises_api_Item k D x15 (.func (.func 125) ⟨[]⟩ ⟨[]⟩) r13.2).bind fun r16 =>
 j10 (!r16.1) r16.2)) fun j7 =>
 (f2).bind fun p17 =>
 (ldL (⟨p17.block, p17.off + 1, none⟩ : Addr) h3).bind fun x18 =>
 index_check_l0 k D j7 f2 x18 (x18.len : Int) 0 h3) fun j4 =>
 (ldL (⟨h.next, 0, none⟩ : Addr) h1).bind fun x33 =>
 index_check_l1 k D j4 (some (⟨h.next, 0, none⟩ : Addr)) x33 (x33.len : Int) 0 h1
noncomputable def r_index_check : RCode := an (.s .n (.s (.j [(1, .p)] (.s .n (.b (.l [(1, .p), (9, .l), (10, .i .i64), (11, .i .i64)] .n)))) (.s (.j [(1, .p)] (.s .n (.b (.l [(1, .p), (20, .l), (21, .i .i64), (22, .i .i64)] (.s .n (.s .n (.s (.b (.s (.r [(1, .st [.s, .s, .i .i64, .i .i64, .i .i64, .i .i64])]) (.s (.r [(0, .st [.s, .s, .i .i64, .i .i64, .i .i64, .i .i64])]) .n))) .n))))))) (.s (.s (.j [(41, .b)] .n) .n) .n)))) (rOf Tryd.prog 2 Tryd.f101)
noncomputable def e_index_check (k : Nat) (D : CallF) : Ent := entOf 101 [(0, .st [.l, .l])] [(2, .i .i64)] (index_check k D)
theorem q_index_check : (Tryd.f101.body).bind (rcodeOf Tryd.prog 2 Tryd.f101.ntmps) = some (strip r_index_check) := by kernel_rfl
theorem t_index_check (k : Nat) (D : CallF) : curF [(0, .st [.l, .l])] (fun args h => denF (C_index_check k D) k r_index_check [(2, .i .i64)] [none] args h) = index_check k D := by kernel_rfl
theorem ok_index_check {D : CallF} (hD : CSound Tryd.prog 2 D) (k : Nat) : EntOk Tryd.prog 2 (e_index_check k D) :=
 entOf_ok2 (mkC_sound hD (EntsOk.more (ok_index_rises_string hD k) (EntsOk.more (ok_index_rises_api_Item hD k) (EntsOk.more (ok_lookup_Check hD k) (EntsOk.more (ok_sha_IsId hD k) (EntsOk.none)))))) Tryd.func101 rfl q_index_check rfl (t_index_check k D)
end Ge
namespace Ge
open Go Gx Go.Proofs
set_option maxRecDepth 100000
noncomputable def C_num_Short (_k : Nat) (D : CallF) : CallF := mkC D []
noncomputable def num_Short_l0b (_k : Nat) (_D : CallF) (j4 : Int → Slc → AHeap → Option ((ByteArray × Int) × AHeap)) (rec12 : Int → Slc → AHeap → Option ((ByteArray × Int) × AHeap)) (n9 : Int) (b10 : Slc) (h11 : AHeap) : Option ((ByteArray × Int) × AHeap) :=
 (if (decide (n9 ≥ 128)) = true then
 newK h11 ((.cells [.int .u8 (Go.bits .or .u8 (IntKind.wrap .u8 n9) 128)] 5 true 0)) fun h13 =>
 (rdS 1 (⟨(some ⟨h11.next, 0, some 0⟩), 1, 1⟩ : Slc) h13).bind fun n15 =>
 (appendA 1 1 5 h13 b10 n15 1).bind fun r14 =>
 rec12 (Int.fdiv n9 128) r14.1 r14.2
 else
 j4 n9 b10 h11)
noncomputable def num_Short_l0 (k : Nat) (D : CallF) (j4 : Int → Slc → AHeap → Option ((ByteArray × Int) × AHeap)) : Int → Slc → AHeap → Option ((ByteArray × Int) × AHeap) :=
 iterK (α := Int → Slc → AHeap → Option ((ByteArray × Int) × AHeap)) (fun _ _ _ => none) k (num_Short_l0b k D j4)
noncomputable def num_Short (k : Nat) (D : CallF) (n_0 : Int) (h : AHeap) : Option ((ByteArray × Int) × AHeap) :=
 (if (decide (n_0 < 0)) = true then
 some (((⟨#[]⟩ : ByteArray), 1), h)
 else
 joinK (fun (n1 : Int) (b2 : Slc) (h3 : AHeap) =>
 newK h3 ((.cells [.int .u8 (IntKind.wrap .u8 n1)] 5 true 0)) fun h5 =>
 (rdS 1 (⟨(some ⟨h3.next, 0, some 0⟩), 1, 1⟩ : Slc) h5).bind fun n7 =>
 (appendA 1 1 5 h5 b2 n7 1).bind fun r6 =>
 (bytesOf r6.2 r6.1).bind fun s8 =>
 some ((s8, 0), r6.2)) fun j4 =>
 num_Short_l0 k D j4 n_0 (⟨none, 0, 0⟩ : Slc) h)
noncomputable def r_num_Short : RCode := an (.s .n (.s .n (.s .n (.s (.j [(0, .i .i64), (4, .l)] (.b (.l [(0, .i .i64), (4, .l)] .n))) .n)))) (rOf Tryd.prog 2 Tryd.f43)
noncomputable def e_num_Short (k : Nat) (D : CallF) : Ent := entOf 43 [(0, .i .i64)] [(2, .s), (3, .i .i64)] (num_Short k D)
theorem q_num_Short : (Tryd.f43.body).bind (rcodeOf Tryd.prog 2 Tryd.f43.ntmps) = some (strip r_num_Short) := by kernel_rfl
theorem t_num_Short (k : Nat) (D : CallF) : curF [(0, .i .i64)] (fun args h => denF (C_num_Short k D) k r_num_Short [(2, .s), (3, .i .i64)] [none, none] args h) = num_Short k D := by kernel_rfl
theorem ok_num_Short {D : CallF} (hD : CSound Tryd.prog 2 D) (k : Nat) : EntOk Tryd.prog 2 (e_num_Short k D) :=
 entOf_ok2 (mkC_sound hD (EntsOk.none)) Tryd.func43 rfl q_num_Short rfl (t_num_Short k D)
end Ge
namespace Ge
open Go Gx Go.Proofs
set_option maxRecDepth 100000
noncomputable def C_index_short (k : Nat) (D : CallF) : CallF := mkC D [e_num_Short k D]
noncomputable def index_short (k : Nat) (D : CallF) (n_0 : Int) (h : AHeap) : Option ((ByteArray) × AHeap) :=
 (num_Short k D n_0 h).bind fun r1 =>
 some (r1.1.1, r1.2)
noncomputable def r_index_short : RCode := an (.n) (rOf Tryd.prog 2 Tryd.f126)
noncomputable def e_index_short (k : Nat) (D : CallF) : Ent := entOf 126 [(0, .i .i64)] [(2, .s)] (index_short k D)
theorem q_index_short : (Tryd.f126.body).bind (rcodeOf Tryd.prog 2 Tryd.f126.ntmps) = some (strip r_index_short) := by kernel_rfl
theorem t_index_short (k : Nat) (D : CallF) : curF [(0, .i .i64)] (fun args h => denF (C_index_short k D) k r_index_short [(2, .s)] [none] args h) = index_short k D := by kernel_rfl
theorem ok_index_short {D : CallF} (hD : CSound Tryd.prog 2 D) (k : Nat) : EntOk Tryd.prog 2 (e_index_short k D) :=
 entOf_ok2 (mkC_sound hD (EntsOk.more (ok_num_Short hD k) (EntsOk.none))) Tryd.func126 rfl q_index_short rfl (t_index_short k D)
end Ge
namespace Ge
open Go Gx Go.Proofs Go.RowKit
set_option maxHeartbeats 1000000 in
set_option maxRecDepth 100000 in
theorem cc_used (b o : Nat) (w : World) (h0 : w.cell? ⟨b, o, none⟩ = some (.pointer (some ⟨b, o, none⟩))) :
  Calls Tryd.prog 95 #[.pointer (some ⟨b, o, none⟩)] w fun e w' => e = .returned (.tuple #[]) ∧ w' = w := by
 obtain ⟨j, hj⟩ : ∃ j, Tryd.prog.info? 100 = some j := ⟨_, rfl⟩
 go_enter Tryd.func95, Tryd.ntmps95
 go_wp2
 rw [Lib.run_neq_ptr_same w _ Tryd.underlying98 hj]
 go_wp2
 go_end0
 exact ⟨rfl, rfl⟩
set_option maxHeartbeats 1000000 in
set_option maxRecDepth 100000 in
theorem cc_fresh (b o : Nat) (w : World) (T : TypeId) (z : Nat) (h0 : w.cell? ⟨b, o, none⟩ = some (.pointer none)) (hsh : w.shape? b = some (T, z)) (ho : o < z)
  (hl : liesAt Tryd.prog Tryd.prog.depth T (z / Tryd.prog.cellsOf T) o 100 1 = true) (hfz : w.frozen? ⟨b, o, none⟩ = false) :
  Calls Tryd.prog 95 #[.pointer (some ⟨b, o, none⟩)] w fun e w' => e = .returned (.tuple #[]) ∧ w' = w.setCell ⟨b, o, none⟩ (.pointer (some ⟨b, o, none⟩)) := by
 obtain ⟨j, hj, hjs⟩ : ∃ j, Tryd.prog.info? 100 = some j ∧ j.size ≠ 0 := ⟨_, rfl, by decide⟩
 go_enter Tryd.func95, Tryd.ntmps95
 go_wp2
 rw [Lib.run_to_unsafe w ⟨b, o, none⟩ Tryd.underlying98 Tryd.underlying177 hj hjs hsh ho]
 simp only [Result.andThen]
 rw [Oper.upon_value]
 go_wp2
 rw [run_callFunc_extern Tryd.func120 (by kernel_rfl) (by kernel_rfl) (by kernel_rfl) (e := Extern.AbiNoEscape.same) (by kernel_rfl)]
 rw [Lib.run_noEscape]
 simp only [Result.andThen]
 rw [Oper.upon_value]
 go_wp2
 rw [Lib.run_from_unsafe w ⟨b, o, none⟩ Tryd.underlying177 Tryd.underlying98 hj hsh hl]
 simp only [Result.andThen]
 rw [Oper.upon_value]
 go_wp2
 go_end0
 exact ⟨rfl, rfl⟩
def ccTab : List (Nat × Nat × Nat) := [(100, 0, 2), (102, 0, 2), (105, 0, 7), (105, 3, 7)]
theorem ccTab0 : Tryd.prog.cellsOf 100 = 2 ∧ 0 < 2 ∧ ∀ N, liesAt Tryd.prog Tryd.prog.depth 100 (N + 1) 0 100 1 = true := ⟨by kernel_rfl, by decide, fun N => by kernel_rfl⟩
theorem ccTab1 : Tryd.prog.cellsOf 102 = 2 ∧ 0 < 2 ∧ ∀ N, liesAt Tryd.prog Tryd.prog.depth 102 (N + 1) 0 100 1 = true := ⟨by kernel_rfl, by decide, fun N => by kernel_rfl⟩
theorem ccTab2 : Tryd.prog.cellsOf 105 = 7 ∧ 0 < 7 ∧ ∀ N, liesAt Tryd.prog Tryd.prog.depth 105 (N + 1) 0 100 1 = true := ⟨by kernel_rfl, by decide, fun N => by kernel_rfl⟩
theorem ccTab3 : Tryd.prog.cellsOf 105 = 7 ∧ 0 < 7 ∧ ∀ N, liesAt Tryd.prog Tryd.prog.depth 105 (N + 1) 3 100 1 = true := ⟨by kernel_rfl, by decide, fun N => by kernel_rfl⟩
theorem ccTab_ok : ∀ x ∈ ccTab, Tryd.prog.cellsOf x.1 = x.2.2 ∧ 0 < x.2.2 ∧ ∀ N, liesAt Tryd.prog Tryd.prog.depth x.1 (N + 1) x.2.1 100 1 = true := (List.forall_mem_cons.2 ⟨ccTab0, (List.forall_mem_cons.2 ⟨ccTab1, (List.forall_mem_cons.2 ⟨ccTab2, (List.forall_mem_cons.2 ⟨ccTab3, (fun x h => by cases h)⟩)⟩)⟩)⟩)
end Ge
namespace Ge
open Go Gx Go.Proofs
noncomputable def e_strings_Builder_copyCheck (_k : Nat) (_D : CallF) : Ent := eCC 95 ccTab
theorem ok_strings_Builder_copyCheck {D : CallF} (_hD : CSound Tryd.prog 2 D) (k : Nat) : EntOk Tryd.prog 2 (e_strings_Builder_copyCheck k D) :=
 cc_ok (c0 := _) Tryd.func95 rfl rfl cc_used cc_fresh ccTab_ok
end Ge
namespace Ge
open Go Gx Go.Proofs
set_option maxRecDepth 100000
noncomputable def C_strings_Builder_WriteString (k : Nat) (D : CallF) : CallF := mkC D [e_strings_Builder_copyCheck k D]
noncomputable def strings_Builder_WriteString (_k : Nat) (_D : CallF) (b_0 : Option Addr) (s_1 : ByteArray) (h : AHeap) : Option ((Int × Value) × AHeap) :=
 (b_0).bind fun p2 =>
 (ccA ccTab p2 h).bind fun h1 =>
 (b_0).bind fun p3 =>
 (ldL (⟨p3.block, p3.off + 1, none⟩ : Addr) h1).bind fun x4 =>
 (appendA 1 1 5 h1 x4 (bytesL s_1) s_1.size).bind fun r5 =>
 (b_0).bind fun p6 =>
 (st1 (⟨p6.block, p6.off + 1, none⟩ : Addr) (.slice r5.1.a r5.1.len r5.1.cap) r5.2).bind fun h7 =>
 some (((s_1.size : Int), (.nilIface)), h7)
noncomputable def r_strings_Builder_WriteString : RCode := an (.n) (rOf Tryd.prog 2 Tryd.f63)
noncomputable def e_strings_Builder_WriteString (k : Nat) (D : CallF) : Ent := entOf 63 [(0, .p), (1, .s)] [(4, .i .i64), (5, .v)] (strings_Builder_WriteString k D)
theorem q_strings_Builder_WriteString : (Tryd.f63.body).bind (rcodeOf Tryd.prog 2 Tryd.f63.ntmps) = some (strip r_strings_Builder_WriteString) := by kernel_rfl
theorem t_strings_Builder_WriteString (k : Nat) (D : CallF) : curF [(0, .p), (1, .s)] (fun args h => denF (C_strings_Builder_WriteString k D) k r_strings_Builder_WriteString [(4, .i .i64), (5, .v)] [none, none] args h) = strings_Builder_WriteString k D := by kernel_rfl
theorem ok_strings_Builder_WriteString {D : CallF} (hD : CSound Tryd.prog 2 D) (k : Nat) : EntOk Tryd.prog 2 (e_strings_Builder_WriteString k D) :=
 entOf_ok2 (mkC_sound hD (EntsOk.more (ok_strings_Builder_copyCheck hD k) (EntsOk.none))) Tryd.func63 rfl q_strings_Builder_WriteString rfl (t_strings_Builder_WriteString k D)
end Ge
namespace Ge
open Go Gx Go.Proofs
set_option maxRecDepth 100000
noncomputable def C_strings_Builder_String (_k : Nat) (D : CallF) : CallF := mkC D []
noncomputable def strings_Builder_String (_k : Nat) (_D : CallF) (b_0 : Option Addr) (h : AHeap) : Option ((ByteArray) × AHeap) :=
 (b_0).bind fun p1 =>
 (ldL (⟨p1.block, p1.off + 1, none⟩ : Addr) h).bind fun x2 =>
 (sliceP x2).bind fun p3 =>
 (b_0).bind fun p4 =>
 (ldL (⟨p4.block, p4.off + 1, none⟩ : Addr) h).bind fun x5 =>
 (unsA 5 p3 (x5.len : Int) h).bind fun r6 =>
 some (r6.1, r6.2)
noncomputable def r_strings_Builder_String : RCode := an (.n) (rOf Tryd.prog 2 Tryd.f64)
noncomputable def e_strings_Builder_String (k : Nat) (D : CallF) : Ent := entOf 64 [(0, .p)] [(2, .s)] (strings_Builder_String k D)
theorem q_strings_Builder_String : (Tryd.f64.body).bind (rcodeOf Tryd.prog 2 Tryd.f64.ntmps) = some (strip r_strings_Builder_String) := by kernel_rfl
theorem t_strings_Builder_String (k : Nat) (D : CallF) : curF [(0, .p)] (fun args h => denF (C_strings_Builder_String k D) k r_strings_Builder_String [(2, .s)] [none] args h) = strings_Builder_String k D := by kernel_rfl
theorem ok_strings_Builder_String {D : CallF} (hD : CSound Tryd.prog 2 D) (k : Nat) : EntOk Tryd.prog 2 (e_strings_Builder_String k D) :=
 entOf_ok2 (mkC_sound hD (EntsOk.none)) Tryd.func64 rfl q_strings_Builder_String rfl (t_strings_Builder_String k D)
end Ge
namespace Ge
open Go Gx Go.Proofs
set_option maxRecDepth 100000
noncomputable def C_strings_Builder_Len (_k : Nat) (D : CallF) : CallF := mkC D []
noncomputable def strings_Builder_Len (_k : Nat) (_D : CallF) (b_0 : Option Addr) (h : AHeap) : Option ((Int) × AHeap) :=
 (b_0).bind fun p1 =>
 (ldL (⟨p1.block, p1.off + 1, none⟩ : Addr) h).bind fun x2 =>
 some ((x2.len : Int), h)
noncomputable def r_strings_Builder_Len : RCode := an (.n) (rOf Tryd.prog 2 Tryd.f62)
noncomputable def e_strings_Builder_Len (k : Nat) (D : CallF) : Ent := entOf 62 [(0, .p)] [(2, .i .i64)] (strings_Builder_Len k D)
theorem q_strings_Builder_Len : (Tryd.f62.body).bind (rcodeOf Tryd.prog 2 Tryd.f62.ntmps) = some (strip r_strings_Builder_Len) := by kernel_rfl
theorem t_strings_Builder_Len (k : Nat) (D : CallF) : curF [(0, .p)] (fun args h => denF (C_strings_Builder_Len k D) k r_strings_Builder_Len [(2, .i .i64)] [none] args h) = strings_Builder_Len k D := by kernel_rfl
theorem ok_strings_Builder_Len {D : CallF} (hD : CSound Tryd.prog 2 D) (k : Nat) : EntOk Tryd.prog 2 (e_strings_Builder_Len k D) :=
 entOf_ok2 (mkC_sound hD (EntsOk.none)) Tryd.func62 rfl q_strings_Builder_Len rfl (t_strings_Builder_Len k D)
end Ge
namespace Ge
open Go Gx Go.Proofs
set_option maxRecDepth 100000
noncomputable def C_index_line (k : Nat) (D : CallF) : CallF := mkC D [e_index_short k D]
noncomputable def index_line (k : Nat) (D : CallF) (x_0 : ByteArray × ByteArray × Int × Int × Int × Int) (h : AHeap) : Option ((ByteArray) × AHeap) :=
 newK h ((.cells [.string x_0.1, .string x_0.2.1, .int .i64 x_0.2.2.1, .int .i64 x_0.2.2.2.1, .int .i64 x_0.2.2.2.2.1, .int .i64 x_0.2.2.2.2.2] 57 true 0)) fun h1 =>
 let h2 := AHeap.resv h1 1
 (ldI .i64 (⟨h.next, 3, none⟩ : Addr) h2).bind fun x3 =>
 (index_short k D x3 h2).bind fun r4 =>
 (ldI .i64 (⟨h.next, 4, none⟩ : Addr) r4.2).bind fun x5 =>
 guardP (SameW [h2] (fun H7 => (ldI .i64 (⟨h.next, 4, none⟩ : Addr) H7).bind fun y6 => some (.int .i64 y6)) (.int .i64 x5)) (
 (index_short k D x5 r4.2).bind fun r8 =>
 (ldI .i64 (⟨h.next, 5, none⟩ : Addr) r8.2).bind fun x9 =>
 guardP (SameW [r4.2, h2] (fun H11 => (ldI .i64 (⟨h.next, 5, none⟩ : Addr) H11).bind fun y10 => some (.int .i64 y10)) (.int .i64 x9)) (
 (index_short k D x9 r8.2).bind fun r12 =>
 (ldS (⟨h.next, 0, none⟩ : Addr) r12.2).bind fun x13 =>
 guardP (SameW [r8.2, r4.2, h2] (fun H15 => (ldS (⟨h.next, 0, none⟩ : Addr) H15).bind fun y14 => some (.string y14)) (.string x13)) (
 (ldS (⟨h.next, 1, none⟩ : Addr) r12.2).bind fun x16 =>
 guardP (SameW [r8.2, r4.2, h2] (fun H18 => (ldS (⟨h.next, 1, none⟩ : Addr) H18).bind fun y17 => some (.string y17)) (.string x16)) (
 (if x13.size + x16.size ≤ 9223372036854775807 then
 (ldI .i64 (⟨h.next, 2, none⟩ : Addr) r12.2).bind fun x19 =>
 guardP (SameW [r8.2, r4.2, h2] (fun H21 => (ldI .i64 (⟨h.next, 2, none⟩ : Addr) H21).bind fun y20 => some (.int .i64 y20)) (.int .i64 x19)) (
 let h22 := AHeap.set r12.2 (h1.next + 0) (.cells [.int .u8 (IntKind.wrap .u8 x19)] 5 true 0)
 (bytesOf h22 (⟨(some ⟨(h1.next + 0), 0, some 0⟩), 1, 1⟩ : Slc)).bind fun s23 =>
 guardP (OwnW (h1.next + 0) h22 (fun H25 => (bytesOf H25 (⟨(some ⟨(h1.next + 0), 0, some 0⟩), 1, 1⟩ : Slc)).bind fun y24 => some (.string y24)) (.string s23)) (
 (if (x13 ++ x16).size + s23.size ≤ 9223372036854775807 then
 (if ((x13 ++ x16) ++ s23).size + r4.1.size ≤ 9223372036854775807 then
 (if (((x13 ++ x16) ++ s23) ++ r4.1).size + r8.1.size ≤ 9223372036854775807 then
 (if ((((x13 ++ x16) ++ s23) ++ r4.1) ++ r8.1).size + r12.1.size ≤ 9223372036854775807 then
 some ((((((x13 ++ x16) ++ s23) ++ r4.1) ++ r8.1) ++ r12.1), h22)
 else none)
 else none)
 else none)
 else none)))
 else none)))))
noncomputable def r_index_line : RCode := an (.n) (rOf Tryd.prog 2 Tryd.f127)
noncomputable def e_index_line (k : Nat) (D : CallF) : Ent := entOf 127 [(0, .st [.s, .s, .i .i64, .i .i64, .i .i64, .i .i64])] [(2, .s)] (index_line k D)
theorem q_index_line : (Tryd.f127.body).bind (rcodeOf Tryd.prog 2 Tryd.f127.ntmps) = some (strip r_index_line) := by kernel_rfl
theorem t_index_line (k : Nat) (D : CallF) : curF [(0, .st [.s, .s, .i .i64, .i .i64, .i .i64, .i .i64])] (fun args h => denF (C_index_line k D) k r_index_line [(2, .s)] [none] args h) = index_line k D := by kernel_rfl
theorem ok_index_line {D : CallF} (hD : CSound Tryd.prog 2 D) (k : Nat) : EntOk Tryd.prog 2 (e_index_line k D) :=
 entOf_ok2 (mkC_sound hD (EntsOk.more (ok_index_short hD k) (EntsOk.none))) Tryd.func127 rfl q_index_line rfl (t_index_line k D)
end Ge
namespace Ge
open Go Gx Go.Proofs
set_option maxRecDepth 100000
noncomputable def C_index_text (k : Nat) (D : CallF) : CallF := mkC D [e_index_short k D, e_strings_Builder_WriteString k D, e_strings_Builder_String k D, e_strings_Builder_Len k D, e_index_line k D]
noncomputable def index_text_l1b (k : Nat) (D : CallF) (j12 : (Option Addr) → (Option Addr) → AHeap → Option ((ByteArray × Bool) × AHeap)) (rec46 : (Option Addr) → (Option Addr) → Slc → Int → Int → AHeap → Option ((ByteArray × Bool) × AHeap)) (f40 : Option Addr) (b41 : Option Addr) (y42 : Slc) (y43 : Int) (y44 : Int) (h45 : AHeap) : Option ((ByteArray × Bool) × AHeap) :=
 (if (decide (y44 < y43)) = true then
 (Gx.idxL 1 y42 y44).bind fun q47 =>
 (ldS q47 h45).bind fun x48 =>
 (strings_Builder_WriteString k D b41 x48 h45).bind fun r49 =>
 rec46 f40 b41 y42 y43 (IntKind.wrap .i64 (y44 + 1)) r49.2
 else
 j12 f40 b41 h45)
noncomputable def index_text_l1 (k : Nat) (D : CallF) (j12 : (Option Addr) → (Option Addr) → AHeap → Option ((ByteArray × Bool) × AHeap)) : (Option Addr) → (Option Addr) → Slc → Int → Int → AHeap → Option ((ByteArray × Bool) × AHeap) :=
 iterK (α := (Option Addr) → (Option Addr) → Slc → Int → Int → AHeap → Option ((ByteArray × Bool) × AHeap)) (fun _ _ _ _ _ _ => none) k (index_text_l1b k D j12)
noncomputable def index_text_l0b (k : Nat) (D : CallF) (j19 : (Option Addr) → AHeap → Option ((ByteArray × Bool) × AHeap)) (rec29 : (Option Addr) → Slc → Int → Int → AHeap → Option ((ByteArray × Bool) × AHeap)) (b24 : Option Addr) (y25 : Slc) (y26 : Int) (y27 : Int) (h28 : AHeap) : Option ((ByteArray × Bool) × AHeap) :=
 (if (decide (y27 < y26)) = true then
 (Gx.idxL 6 y25 y27).bind fun q30 =>
 (ldA 6 q30 h28).bind fun l31 =>
 (decC [.s, .s, .i .i64, .i .i64, .i .i64, .i .i64] l31).bind fun x32 =>
 newK h28 ((.cells [.string ⟨#[]⟩, .string ⟨#[]⟩, .int .i64 0, .int .i64 0, .int .i64 0, .int .i64 0] 57 true 0)) fun h33 =>
 (stL 6 (⟨h28.next, 0, none⟩ : Addr) ([.string x32.1, .string x32.2.1, .int .i64 x32.2.2.1, .int .i64 x32.2.2.2.1, .int .i64 x32.2.2.2.2.1, .int .i64 x32.2.2.2.2.2]) h33).bind fun h34 =>
 (ldA 6 (⟨h28.next, 0, none⟩ : Addr) h34).bind fun l35 =>
 (decC [.s, .s, .i .i64, .i .i64, .i .i64, .i .i64] l35).bind fun x36 =>
 (index_line k D (x36.1, x36.2.1, x36.2.2.1, x36.2.2.2.1, x36.2.2.2.2.1, x36.2.2.2.2.2) h34).bind fun r37 =>
 (strings_Builder_WriteString k D b24 r37.1 r37.2).bind fun r38 =>
 rec29 b24 y25 y26 (IntKind.wrap .i64 (y27 + 1)) r38.2
 else
 j19 b24 h28)
noncomputable def index_text_l0 (k : Nat) (D : CallF) (j19 : (Option Addr) → AHeap → Option ((ByteArray × Bool) × AHeap)) : (Option Addr) → Slc → Int → Int → AHeap → Option ((ByteArray × Bool) × AHeap) :=
 iterK (α := (Option Addr) → Slc → Int → Int → AHeap → Option ((ByteArray × Bool) × AHeap)) (fun _ _ _ _ _ => none) k (index_text_l0b k D j19)
noncomputable def index_text (k : Nat) (D : CallF) (f_0 : Slc × Slc) (h : AHeap) : Option ((ByteArray × Bool) × AHeap) :=
 newK h ((.cells [.slice f_0.1.a f_0.1.len f_0.1.cap, .slice f_0.2.a f_0.2.len f_0.2.cap] 122 true 0)) fun h1 =>
 (ldL (⟨h.next, 0, none⟩ : Addr) h1).bind fun x2 =>
 (ldL (⟨h.next, 1, none⟩ : Addr) h1).bind fun x3 =>
 let t4 : Int := (if (x3.len : Int) > (x2.len : Int) then (x3.len : Int) else (x2.len : Int))
 (if (decide (t4 > 4096)) = true then
 some (((⟨#[]⟩ : ByteArray), false), h1)
 else
 newK h1 ((.cells [.pointer none, .slice none 0 0] 100 true 0)) fun h5 =>
 (ldL (⟨h.next, 0, none⟩ : Addr) h5).bind fun x6 =>
 (index_short k D (x6.len : Int) h5).bind fun r7 =>
 (if (⟨#[71, 82, 84, 73, 1]⟩ : ByteArray).size + r7.1.size ≤ 9223372036854775807 then
 (strings_Builder_WriteString k D (some (⟨h1.next, 0, none⟩ : Addr)) ((⟨#[71, 82, 84, 73, 1]⟩ : ByteArray) ++ r7.1) r7.2).bind fun r8 =>
 joinK (fun (f9 : Option Addr) (b10 : Option Addr) (h11 : AHeap) =>
 (f9).bind fun p13 =>
 (ldL (⟨p13.block, p13.off + 1, none⟩ : Addr) h11).bind fun x14 =>
 (index_short k D (x14.len : Int) h11).bind fun r15 =>
 (strings_Builder_WriteString k D b10 r15.1 r15.2).bind fun r16 =>
 joinK (fun (b17 : Option Addr) (h18 : AHeap) =>
 (strings_Builder_String k D b17 h18).bind fun r20 =>
 (strings_Builder_Len k D b17 r20.2).bind fun r21 =>
 some ((r20.1, (decide (r21.1 ≤ 65536))), r21.2)) fun j19 =>
 (f9).bind fun p22 =>
 (ldL (⟨p22.block, p22.off + 1, none⟩ : Addr) r16.2).bind fun x23 =>
 index_text_l0 k D j19 b10 x23 (x23.len : Int) 0 r16.2) fun j12 =>
 (ldL (⟨h.next, 0, none⟩ : Addr) r8.2).bind fun x39 =>
 index_text_l1 k D j12 (some (⟨h.next, 0, none⟩ : Addr)) (some (⟨h1.next, 0, none⟩ : Addr)) x39 (x39.len : Int) 0 r8.2
 else none))
noncomputable def r_index_text : RCode := an (.s .n (.s .n (.s .n (.s .n (.s (.j [(1, .p), (4, .p)] (.s .n (.b (.l [(1, .p), (4, .p), (24, .l), (25, .i .i64), (26, .i .i64)] .n)))) (.s .n (.s (.j [(4, .p)] (.s .n (.b (.l [(4, .p), (39, .l), (40, .i .i64), (41, .i .i64)] (.s .n (.s .n (.s (.b (.s (.r [(1, .st [.s, .s, .i .i64, .i .i64, .i .i64, .i .i64])]) (.r [(0, .st [.s, .s, .i .i64, .i .i64, .i .i64, .i .i64])]))) .n))))))) .n))))))) (rOf Tryd.prog 2 Tryd.f102)
noncomputable def e_index_text (k : Nat) (D : CallF) : Ent := entOf 102 [(0, .st [.l, .l])] [(2, .s), (3, .b)] (index_text k D)
theorem q_index_text : (Tryd.f102.body).bind (rcodeOf Tryd.prog 2 Tryd.f102.ntmps) = some (strip r_index_text) := by kernel_rfl
theorem t_index_text (k : Nat) (D : CallF) : curF [(0, .st [.l, .l])] (fun args h => denF (C_index_text k D) k r_index_text [(2, .s), (3, .b)] [none, none] args h) = index_text k D := by kernel_rfl
theorem ok_index_text {D : CallF} (hD : CSound Tryd.prog 2 D) (k : Nat) : EntOk Tryd.prog 2 (e_index_text k D) :=
 entOf_ok2 (mkC_sound hD (EntsOk.more (ok_index_short hD k) (EntsOk.more (ok_strings_Builder_WriteString hD k) (EntsOk.more (ok_strings_Builder_String hD k) (EntsOk.more (ok_strings_Builder_Len hD k) (EntsOk.more (ok_index_line hD k) (EntsOk.none))))))) Tryd.func102 rfl q_index_text rfl (t_index_text k D)
end Ge
namespace Ge
open Go Gx Go.Proofs
set_option maxRecDepth 100000
noncomputable def C_cmp_Or_int (_k : Nat) (D : CallF) : CallF := mkC D []
noncomputable def cmp_Or_int_l0b (_k : Nat) (_D : CallF) (j3 : Int → AHeap → Option ((Int) × AHeap)) (rec9 : Int → Slc → Int → Int → AHeap → Option ((Int) × AHeap)) (zero4 : Int) (y5 : Slc) (y6 : Int) (y7 : Int) (h8 : AHeap) : Option ((Int) × AHeap) :=
 (if (decide (y7 < y6)) = true then
 (Gx.idxL 1 y5 y7).bind fun q10 =>
 (ldI .i64 q10 h8).bind fun x11 =>
 (if (x11 != zero4) = true then
 some (x11, h8)
 else
 rec9 zero4 y5 y6 (IntKind.wrap .i64 (y7 + 1)) h8)
 else
 j3 zero4 h8)
noncomputable def cmp_Or_int_l0 (k : Nat) (D : CallF) (j3 : Int → AHeap → Option ((Int) × AHeap)) : Int → Slc → Int → Int → AHeap → Option ((Int) × AHeap) :=
 iterK (α := Int → Slc → Int → Int → AHeap → Option ((Int) × AHeap)) (fun _ _ _ _ _ => none) k (cmp_Or_int_l0b k D j3)
noncomputable def cmp_Or_int (k : Nat) (D : CallF) (vals_0 : Slc) (h : AHeap) : Option ((Int) × AHeap) :=
 joinK (fun (zero1 : Int) (h2 : AHeap) =>
 some (zero1, h2)) fun j3 =>
 cmp_Or_int_l0 k D j3 0 vals_0 (vals_0.len : Int) 0 h
noncomputable def r_cmp_Or_int : RCode := an (.s .n (.s .n (.s (.j [(3, .i .i64)] (.s .n (.b (.l [(3, .i .i64), (6, .l), (7, .i .i64), (8, .i .i64)] .n)))) .n))) (rOf Tryd.prog 2 Tryd.f104)
noncomputable def e_cmp_Or_int (k : Nat) (D : CallF) : Ent := entOf 104 [(0, .l)] [(2, .i .i64)] (cmp_Or_int k D)
theorem q_cmp_Or_int : (Tryd.f104.body).bind (rcodeOf Tryd.prog 2 Tryd.f104.ntmps) = some (strip r_cmp_Or_int) := by kernel_rfl
theorem t_cmp_Or_int (k : Nat) (D : CallF) : curF [(0, .l)] (fun args h => denF (C_cmp_Or_int k D) k r_cmp_Or_int [(2, .i .i64)] [none] args h) = cmp_Or_int k D := by kernel_rfl
theorem ok_cmp_Or_int {D : CallF} (hD : CSound Tryd.prog 2 D) (k : Nat) : EntOk Tryd.prog 2 (e_cmp_Or_int k D) :=
 entOf_ok2 (mkC_sound hD (EntsOk.none)) Tryd.func104 rfl q_cmp_Or_int rfl (t_cmp_Or_int k D)
end Ge
namespace Ge
open Go Gx Go.Proofs
set_option maxRecDepth 100000
noncomputable def C_cmp_isNaN_string (_k : Nat) (D : CallF) : CallF := mkC D []
noncomputable def cmp_isNaN_string (_k : Nat) (_D : CallF) (x_0 : ByteArray) (h : AHeap) : Option ((Bool) × AHeap) :=
 some ((!(x_0 == x_0)), h)
noncomputable def r_cmp_isNaN_string : RCode := an (.n) (rOf Tryd.prog 2 Tryd.f128)
noncomputable def e_cmp_isNaN_string (k : Nat) (D : CallF) : Ent := entOf 128 [(0, .s)] [(2, .b)] (cmp_isNaN_string k D)
theorem q_cmp_isNaN_string : (Tryd.f128.body).bind (rcodeOf Tryd.prog 2 Tryd.f128.ntmps) = some (strip r_cmp_isNaN_string) := by kernel_rfl
theorem t_cmp_isNaN_string (k : Nat) (D : CallF) : curF [(0, .s)] (fun args h => denF (C_cmp_isNaN_string k D) k r_cmp_isNaN_string [(2, .b)] [none] args h) = cmp_isNaN_string k D := by kernel_rfl
theorem ok_cmp_isNaN_string {D : CallF} (hD : CSound Tryd.prog 2 D) (k : Nat) : EntOk Tryd.prog 2 (e_cmp_isNaN_string k D) :=
 entOf_ok2 (mkC_sound hD (EntsOk.none)) Tryd.func128 rfl q_cmp_isNaN_string rfl (t_cmp_isNaN_string k D)
end Ge
namespace Ge
open Go Gx Go.Proofs
set_option maxRecDepth 100000
noncomputable def C_cmp_Compare_string (k : Nat) (D : CallF) : CallF := mkC D [e_cmp_isNaN_string k D]
noncomputable def cmp_Compare_string (k : Nat) (D : CallF) (x_0 : ByteArray) (y_1 : ByteArray) (h : AHeap) : Option ((Int) × AHeap) :=
 (cmp_isNaN_string k D x_0 h).bind fun r1 =>
 (cmp_isNaN_string k D y_1 r1.2).bind fun r2 =>
 (if r1.1 = true then
 (if r2.1 = true then
 some (0, r2.2)
 else
 some ((-1), r2.2))
 else
 (if r2.1 = true then
 some (1, r2.2)
 else
 (if (Op.bytesLess x_0.toList y_1.toList) = true then
 some ((-1), r2.2)
 else
 (if (!(Op.bytesLess x_0.toList y_1.toList || (x_0 == y_1))) = true then
 some (1, r2.2)
 else
 some (0, r2.2)))))
noncomputable def r_cmp_Compare_string : RCode := an (.n) (rOf Tryd.prog 2 Tryd.f105)
noncomputable def e_cmp_Compare_string (k : Nat) (D : CallF) : Ent := entOf 105 [(0, .s), (1, .s)] [(4, .i .i64)] (cmp_Compare_string k D)
theorem q_cmp_Compare_string : (Tryd.f105.body).bind (rcodeOf Tryd.prog 2 Tryd.f105.ntmps) = some (strip r_cmp_Compare_string) := by kernel_rfl
theorem t_cmp_Compare_string (k : Nat) (D : CallF) : curF [(0, .s), (1, .s)] (fun args h => denF (C_cmp_Compare_string k D) k r_cmp_Compare_string [(4, .i .i64)] [none] args h) = cmp_Compare_string k D := by kernel_rfl
theorem ok_cmp_Compare_string {D : CallF} (hD : CSound Tryd.prog 2 D) (k : Nat) : EntOk Tryd.prog 2 (e_cmp_Compare_string k D) :=
 entOf_ok2 (mkC_sound hD (EntsOk.more (ok_cmp_isNaN_string hD k) (EntsOk.none))) Tryd.func105 rfl q_cmp_Compare_string rfl (t_cmp_Compare_string k D)
end Ge
namespace Ge
open Go Gx Go.Proofs
set_option maxRecDepth 100000
noncomputable def C_cmp_isNaN_int (_k : Nat) (D : CallF) : CallF := mkC D []
noncomputable def cmp_isNaN_int (_k : Nat) (_D : CallF) (x_0 : Int) (h : AHeap) : Option ((Bool) × AHeap) :=
 some ((x_0 != x_0), h)
noncomputable def r_cmp_isNaN_int : RCode := an (.n) (rOf Tryd.prog 2 Tryd.f129)
noncomputable def e_cmp_isNaN_int (k : Nat) (D : CallF) : Ent := entOf 129 [(0, .i .i64)] [(2, .b)] (cmp_isNaN_int k D)
theorem q_cmp_isNaN_int : (Tryd.f129.body).bind (rcodeOf Tryd.prog 2 Tryd.f129.ntmps) = some (strip r_cmp_isNaN_int) := by kernel_rfl
theorem t_cmp_isNaN_int (k : Nat) (D : CallF) : curF [(0, .i .i64)] (fun args h => denF (C_cmp_isNaN_int k D) k r_cmp_isNaN_int [(2, .b)] [none] args h) = cmp_isNaN_int k D := by kernel_rfl
theorem ok_cmp_isNaN_int {D : CallF} (hD : CSound Tryd.prog 2 D) (k : Nat) : EntOk Tryd.prog 2 (e_cmp_isNaN_int k D) :=
 entOf_ok2 (mkC_sound hD (EntsOk.none)) Tryd.func129 rfl q_cmp_isNaN_int rfl (t_cmp_isNaN_int k D)
end Ge
namespace Ge
open Go Gx Go.Proofs
set_option maxRecDepth 100000
noncomputable def C_cmp_Compare_int (k : Nat) (D : CallF) : CallF := mkC D [e_cmp_isNaN_int k D]
noncomputable def cmp_Compare_int (k : Nat) (D : CallF) (x_0 : Int) (y_1 : Int) (h : AHeap) : Option ((Int) × AHeap) :=
 (cmp_isNaN_int k D x_0 h).bind fun r1 =>
 (cmp_isNaN_int k D y_1 r1.2).bind fun r2 =>
 (if r1.1 = true then
 (if r2.1 = true then
 some (0, r2.2)
 else
 some ((-1), r2.2))
 else
 (if r2.1 = true then
 some (1, r2.2)
 else
 (if (decide (x_0 < y_1)) = true then
 some ((-1), r2.2)
 else
 (if (decide (x_0 > y_1)) = true then
 some (1, r2.2)
 else
 some (0, r2.2)))))
noncomputable def r_cmp_Compare_int : RCode := an (.n) (rOf Tryd.prog 2 Tryd.f106)
noncomputable def e_cmp_Compare_int (k : Nat) (D : CallF) : Ent := entOf 106 [(0, .i .i64), (1, .i .i64)] [(4, .i .i64)] (cmp_Compare_int k D)
theorem q_cmp_Compare_int : (Tryd.f106.body).bind (rcodeOf Tryd.prog 2 Tryd.f106.ntmps) = some (strip r_cmp_Compare_int) := by kernel_rfl
theorem t_cmp_Compare_int (k : Nat) (D : CallF) : curF [(0, .i .i64), (1, .i .i64)] (fun args h => denF (C_cmp_Compare_int k D) k r_cmp_Compare_int [(4, .i .i64)] [none] args h) = cmp_Compare_int k D := by kernel_rfl
theorem ok_cmp_Compare_int {D : CallF} (hD : CSound Tryd.prog 2 D) (k : Nat) : EntOk Tryd.prog 2 (e_cmp_Compare_int k D) :=
 entOf_ok2 (mkC_sound hD (EntsOk.more (ok_cmp_isNaN_int hD k) (EntsOk.none))) Tryd.func106 rfl q_cmp_Compare_int rfl (t_cmp_Compare_int k D)
end Ge
namespace Ge
open Go Gx Go.Proofs
noncomputable def e_slices_overlaps_api_Item (_k : Nat) (_D : CallF) : Ent := eOvl 107
theorem ok_slices_overlaps_api_Item {D : CallF} (_hD : CSound Tryd.prog 2 D) (k : Nat) : EntOk Tryd.prog 2 (e_slices_overlaps_api_Item k D) :=
 ovl_ok (tS := 48) (tR := 4) (e := 57) (size := 6) Tryd.func107 rfl rfl rfl (by kernel_rfl) (by kernel_rfl) (fun w => run_sizeOf' (by kernel_rfl) w)
end Ge
namespace Ge
open Go Gx Go.Proofs
set_option maxRecDepth 100000
end Ge
namespace Ge
open Go Gx Go.Proofs
set_option maxRecDepth 100000
end Ge
namespace Ge
open Go Gx Go.Proofs
set_option maxRecDepth 100000
end Ge
namespace Ge
open Go Gx Go.Proofs
set_option maxRecDepth 100000
noncomputable def C_slices_Grow_api_Item_api_Item (_k : Nat) (D : CallF) : CallF := mkC D []
noncomputable def slices_Grow_api_Item_api_Item (_k : Nat) (_D : CallF) (s_0 : Slc) (n_1 : Int) (h : AHeap) : Option ((Slc) × AHeap) :=
 joinK (fun (s1 : Slc) (n2 : Int) (h3 : AHeap) =>
 joinK (fun (s5 : Slc) (h6 : AHeap) =>
 some (s5, h6)) fun j7 =>
 (capOf s1).bind fun c8 =>
 let t9 : Int := (IntKind.wrap .i64 (n2 - (IntKind.wrap .i64 (c8 - (s1.len : Int)))))
 (if (decide (t9 > 0)) = true then
 (capOf s1).bind fun c10 =>
 (Gx.subL 6 s1 none (some c10) none).bind fun l11 =>
 (if 0 ≤ t9 ∧ t9 ≤ 281474976710656 ∧ t9 * 64 ≤ 281474976710656 then
 (appendA 6 64 57 h3 l11 (zerosL (t9).toNat [.string ⟨#[]⟩, .string ⟨#[]⟩, .int .i64 0, .int .i64 0, .int .i64 0, .int .i64 0]) (t9).toNat).bind fun r12 =>
 (Gx.subL 6 r12.1 none (some (s1.len : Int)) none).bind fun l13 =>
 j7 l13 r12.2
 else none)
 else
 j7 s1 h3)) fun j4 =>
 (if (decide (n_1 < 0)) = true then
 none
 else
 j4 s_0 n_1 h)
noncomputable def r_slices_Grow_api_Item_api_Item : RCode := an (.s .n (.s (.j [(0, .l), (1, .i .i64)] .n) (.s (.j [(0, .l)] .n) .n))) (rOf Tryd.prog 2 Tryd.f109)
noncomputable def e_slices_Grow_api_Item_api_Item (k : Nat) (D : CallF) : Ent := entOf 109 [(0, .l), (1, .i .i64)] [(4, .l)] (slices_Grow_api_Item_api_Item k D)
theorem q_slices_Grow_api_Item_api_Item : (Tryd.f109.body).bind (rcodeOf Tryd.prog 2 Tryd.f109.ntmps) = some (strip r_slices_Grow_api_Item_api_Item) := by kernel_rfl
theorem t_slices_Grow_api_Item_api_Item (k : Nat) (D : CallF) : curF [(0, .l), (1, .i .i64)] (fun args h => denF (C_slices_Grow_api_Item_api_Item k D) k r_slices_Grow_api_Item_api_Item [(4, .l)] [none] args h) = slices_Grow_api_Item_api_Item k D := by kernel_rfl
theorem ok_slices_Grow_api_Item_api_Item {D : CallF} (hD : CSound Tryd.prog 2 D) (k : Nat) : EntOk Tryd.prog 2 (e_slices_Grow_api_Item_api_Item k D) :=
 entOf_ok2 (mkC_sound hD (EntsOk.none)) Tryd.func109 rfl q_slices_Grow_api_Item_api_Item rfl (t_slices_Grow_api_Item_api_Item k D)
end Ge
namespace Ge
open Go Gx Go.Proofs
set_option maxRecDepth 100000
end Ge
namespace Ge
open Go Gx Go.Proofs
set_option maxRecDepth 100000
end Ge
namespace Ge
open Go Gx Go.Proofs
set_option maxRecDepth 100000
end Ge
namespace Ge
open Go Gx Go.Proofs
set_option maxRecDepth 100000
end Ge
namespace Ge
open Go Gx Go.Proofs
set_option maxRecDepth 100000
end Ge
namespace Ge
open Go Gx Go.Proofs
set_option maxRecDepth 100000
end Ge
namespace Ge
open Go Gx Go.Proofs
set_option maxRecDepth 100000
end Ge
namespace Ge
open Go Gx Go.Proofs
set_option maxRecDepth 100000
end Ge
namespace Ge
open Go Gx Go.Proofs
set_option maxRecDepth 100000
end Ge
namespace Ge
open Go Gx Go.Proofs
set_option maxRecDepth 100000
end Ge
namespace Ge
open Go Gx Go.Proofs
set_option maxRecDepth 100000
end Ge
namespace Ge
open Go Gx Go.Proofs
set_option maxRecDepth 100000
end Ge
namespace Ge
open Go Gx Go.Proofs
set_option maxRecDepth 100000
end Ge
namespace Ge
open Go Gx Go.Proofs
set_option maxRecDepth 100000
end Ge
namespace Ge
open Go Gx Go.Proofs
set_option maxRecDepth 100000
end Ge
namespace Ge
open Go Gx Go.Proofs
set_option maxRecDepth 100000
noncomputable def C_internal_stringslite_HasPrefix (_k : Nat) (D : CallF) : CallF := mkC D []
noncomputable def internal_stringslite_HasPrefix (_k : Nat) (_D : CallF) (s_0 : ByteArray) (prefix_1 : ByteArray) (h : AHeap) : Option ((Bool) × AHeap) :=
 (if (decide ((s_0.size : Int) ≥ (prefix_1.size : Int))) = true then
 (Gx.subS s_0 none (some (prefix_1.size : Int))).bind fun s1 =>
 some ((s1 == prefix_1), h)
 else
 some (false, h))
noncomputable def r_internal_stringslite_HasPrefix : RCode := an (.n) (rOf Tryd.prog 2 Tryd.f118)
noncomputable def e_internal_stringslite_HasPrefix (k : Nat) (D : CallF) : Ent := entOf 118 [(0, .s), (1, .s)] [(4, .b)] (internal_stringslite_HasPrefix k D)
theorem q_internal_stringslite_HasPrefix : (Tryd.f118.body).bind (rcodeOf Tryd.prog 2 Tryd.f118.ntmps) = some (strip r_internal_stringslite_HasPrefix) := by kernel_rfl
theorem t_internal_stringslite_HasPrefix (k : Nat) (D : CallF) : curF [(0, .s), (1, .s)] (fun args h => denF (C_internal_stringslite_HasPrefix k D) k r_internal_stringslite_HasPrefix [(4, .b)] [none] args h) = internal_stringslite_HasPrefix k D := by kernel_rfl
theorem ok_internal_stringslite_HasPrefix {D : CallF} (hD : CSound Tryd.prog 2 D) (k : Nat) : EntOk Tryd.prog 2 (e_internal_stringslite_HasPrefix k D) :=
 entOf_ok2 (mkC_sound hD (EntsOk.none)) Tryd.func118 rfl q_internal_stringslite_HasPrefix rfl (t_internal_stringslite_HasPrefix k D)
end Ge
namespace Ge
open Go Gx Go.Proofs
end Ge
namespace Ge
open Go Gx Go.Proofs
set_option maxRecDepth 100000
end Ge
namespace Ge
open Go Gx Go.Proofs
set_option maxRecDepth 100000
noncomputable def C_lz_writer_number (_k : Nat) (D : CallF) : CallF := mkC D []
noncomputable def lz_writer_number_l0b (_k : Nat) (_D : CallF) (j4 : (Option Addr) → Int → AHeap → Option ((Unit) × AHeap)) (rec15 : (Option Addr) → Int → AHeap → Option ((Unit) × AHeap)) (w12 : Option Addr) (n13 : Int) (h14 : AHeap) : Option ((Unit) × AHeap) :=
 (if (decide (n13 ≥ 255)) = true then
 (w12).bind fun p16 =>
 (ldL (⟨p16.block, p16.off + 0, none⟩ : Addr) h14).bind fun x17 =>
 newK h14 ((.cells [.int .u8 255] 5 true 0)) fun h18 =>
 (rdS 1 (⟨(some ⟨h14.next, 0, some 0⟩), 1, 1⟩ : Slc) h18).bind fun n20 =>
 (appendA 1 1 5 h18 x17 n20 1).bind fun r19 =>
 (w12).bind fun p21 =>
 (st1 (⟨p21.block, p21.off + 0, none⟩ : Addr) (.slice r19.1.a r19.1.len r19.1.cap) r19.2).bind fun h22 =>
 rec15 w12 (IntKind.wrap .i64 (n13 - 255)) h22
 else
 j4 w12 n13 h14)
noncomputable def lz_writer_number_l0 (k : Nat) (D : CallF) (j4 : (Option Addr) → Int → AHeap → Option ((Unit) × AHeap)) : (Option Addr) → Int → AHeap → Option ((Unit) × AHeap) :=
 iterK (α := (Option Addr) → Int → AHeap → Option ((Unit) × AHeap)) (fun _ _ _ => none) k (lz_writer_number_l0b k D j4)
noncomputable def lz_writer_number (k : Nat) (D : CallF) (w_0 : Option Addr) (n_1 : Int) (h : AHeap) : Option ((Unit) × AHeap) :=
 (if (decide (n_1 < 15)) = true then
 some ((), h)
 else
 joinK (fun (w1 : Option Addr) (n2 : Int) (h3 : AHeap) =>
 (w1).bind fun p5 =>
 (ldL (⟨p5.block, p5.off + 0, none⟩ : Addr) h3).bind fun x6 =>
 newK h3 ((.cells [.int .u8 (IntKind.wrap .u8 n2)] 5 true 0)) fun h7 =>
 (rdS 1 (⟨(some ⟨h3.next, 0, some 0⟩), 1, 1⟩ : Slc) h7).bind fun n9 =>
 (appendA 1 1 5 h7 x6 n9 1).bind fun r8 =>
 (w1).bind fun p10 =>
 (st1 (⟨p10.block, p10.off + 0, none⟩ : Addr) (.slice r8.1.a r8.1.len r8.1.cap) r8.2).bind fun h11 =>
 some ((), h11)) fun j4 =>
 lz_writer_number_l0 k D j4 w_0 (IntKind.wrap .i64 (n_1 - 15)) h)
noncomputable def r_lz_writer_number : RCode := an (.s .n (.s .n (.s (.j [(0, .p), (1, .i .i64)] (.b (.l [(0, .p), (1, .i .i64)] .n))) .n))) (rOf Tryd.prog 2 Tryd.f81)
noncomputable def e_lz_writer_number (k : Nat) (D : CallF) : Ent := entOf 81 [(0, .p), (1, .i .i64)] [] (lz_writer_number k D)
theorem q_lz_writer_number : (Tryd.f81.body).bind (rcodeOf Tryd.prog 2 Tryd.f81.ntmps) = some (strip r_lz_writer_number) := by kernel_rfl
theorem t_lz_writer_number (k : Nat) (D : CallF) : curF [(0, .p), (1, .i .i64)] (fun args h => denF (C_lz_writer_number k D) k r_lz_writer_number [] [] args h) = lz_writer_number k D := by kernel_rfl
theorem ok_lz_writer_number {D : CallF} (hD : CSound Tryd.prog 2 D) (k : Nat) : EntOk Tryd.prog 2 (e_lz_writer_number k D) :=
 entOf_ok2 (mkC_sound hD (EntsOk.none)) Tryd.func81 rfl q_lz_writer_number rfl (t_lz_writer_number k D)
end Ge
namespace Ge
open Go Gx Go.Proofs
set_option maxRecDepth 100000
noncomputable def C_lz_writer_sequence (k : Nat) (D : CallF) : CallF := mkC D [e_lz_writer_number k D]
noncomputable def lz_writer_sequence (k : Nat) (D : CallF) (w_0 : Option Addr) (literals_1 : ByteArray) (distance_2 : Int) (long_3 : Int) (h : AHeap) : Option ((Unit) × AHeap) :=
 let t1 : Int := (if 15 < (literals_1.size : Int) then 15 else (literals_1.size : Int))
 joinK (fun (w2 : Option Addr) (literals3 : ByteArray) (distance4 : Int) (long5 : Int) (token6 : Int) (h7 : AHeap) =>
 (w2).bind fun p9 =>
 (ldL (⟨p9.block, p9.off + 0, none⟩ : Addr) h7).bind fun x10 =>
 newK h7 ((.cells [.int .u8 (IntKind.wrap .u8 token6)] 5 true 0)) fun h11 =>
 (rdS 1 (⟨(some ⟨h7.next, 0, some 0⟩), 1, 1⟩ : Slc) h11).bind fun n13 =>
 (appendA 1 1 5 h11 x10 n13 1).bind fun r12 =>
 (w2).bind fun p14 =>
 (st1 (⟨p14.block, p14.off + 0, none⟩ : Addr) (.slice r12.1.a r12.1.len r12.1.cap) r12.2).bind fun h15 =>
 (lz_writer_number k D w2 (literals3.size : Int) h15).bind fun r16 =>
 (w2).bind fun p17 =>
 (ldL (⟨p17.block, p17.off + 0, none⟩ : Addr) r16.2).bind fun x18 =>
 (appendA 1 1 5 r16.2 x18 (bytesL literals3) literals3.size).bind fun r19 =>
 (w2).bind fun p20 =>
 (st1 (⟨p20.block, p20.off + 0, none⟩ : Addr) (.slice r19.1.a r19.1.len r19.1.cap) r19.2).bind fun h21 =>
 (if (decide (distance4 > 0)) = true then
 (w2).bind fun p22 =>
 (ldL (⟨p22.block, p22.off + 0, none⟩ : Addr) h21).bind fun x23 =>
 newK h21 ((.cells [.int .u8 (IntKind.wrap .u8 distance4), .int .u8 (IntKind.wrap .u8 (Int.fdiv distance4 256))] 5 true 0)) fun h24 =>
 (rdS 1 (⟨(some ⟨h21.next, 0, some 0⟩), 2, 2⟩ : Slc) h24).bind fun n26 =>
 (appendA 1 1 5 h24 x23 n26 2).bind fun r25 =>
 (w2).bind fun p27 =>
 (st1 (⟨p27.block, p27.off + 0, none⟩ : Addr) (.slice r25.1.a r25.1.len r25.1.cap) r25.2).bind fun h28 =>
 (lz_writer_number k D w2 (IntKind.wrap .i64 (long5 - 4)) h28).bind fun r29 =>
 some ((), r29.2)
 else
 some ((), h21))) fun j8 =>
 (if (decide (distance_2 > 0)) = true then
 let t30 : Int := (if 15 < (IntKind.wrap .i64 (long_3 - 4)) then 15 else (IntKind.wrap .i64 (long_3 - 4)))
 j8 w_0 literals_1 distance_2 long_3 (Go.bits .or .i64 (IntKind.wrap .i64 (t1 * 16)) t30) h
 else
 j8 w_0 literals_1 distance_2 long_3 (IntKind.wrap .i64 (t1 * 16)) h)
noncomputable def r_lz_writer_sequence : RCode := an (.s .n (.s (.j [(0, .p), (1, .s), (2, .i .i64), (3, .i .i64), (8, .i .i64)] .n) .n)) (rOf Tryd.prog 2 Tryd.f45)
noncomputable def e_lz_writer_sequence (k : Nat) (D : CallF) : Ent := entOf 45 [(0, .p), (1, .s), (2, .i .i64), (3, .i .i64)] [] (lz_writer_sequence k D)
theorem q_lz_writer_sequence : (Tryd.f45.body).bind (rcodeOf Tryd.prog 2 Tryd.f45.ntmps) = some (strip r_lz_writer_sequence) := by kernel_rfl
theorem t_lz_writer_sequence (k : Nat) (D : CallF) : curF [(0, .p), (1, .s), (2, .i .i64), (3, .i .i64)] (fun args h => denF (C_lz_writer_sequence k D) k r_lz_writer_sequence [] [] args h) = lz_writer_sequence k D := by kernel_rfl
theorem ok_lz_writer_sequence {D : CallF} (hD : CSound Tryd.prog 2 D) (k : Nat) : EntOk Tryd.prog 2 (e_lz_writer_sequence k D) :=
 entOf_ok2 (mkC_sound hD (EntsOk.more (ok_lz_writer_number hD k) (EntsOk.none))) Tryd.func45 rfl q_lz_writer_sequence rfl (t_lz_writer_sequence k D)
end Ge
namespace Ge
open Go Gx Go.Proofs
set_option maxRecDepth 100000
noncomputable def C_lz_packer_four (_k : Nat) (D : CallF) : CallF := mkC D []
noncomputable def lz_packer_four (_k : Nat) (_D : CallF) (p_0 : Option Addr) (at_1 : Int) (h : AHeap) : Option (((Int × Int × Int × Int)) × AHeap) :=
 newK h ((.cells [.int .u8 0, .int .u8 0, .int .u8 0, .int .u8 0] 82 true 0)) fun h1 =>
 (p_0).bind fun p2 =>
 (ldS (⟨p2.block, p2.off + 0, none⟩ : Addr) h1).bind fun x3 =>
 (Gx.idxS x3 at_1).bind fun b4 =>
 (p_0).bind fun p5 =>
 (ldS (⟨p5.block, p5.off + 0, none⟩ : Addr) h1).bind fun x6 =>
 (Gx.idxS x6 (IntKind.wrap .i64 (at_1 + 1))).bind fun b7 =>
 (p_0).bind fun p8 =>
 (ldS (⟨p8.block, p8.off + 0, none⟩ : Addr) h1).bind fun x9 =>
 (Gx.idxS x9 (IntKind.wrap .i64 (at_1 + 2))).bind fun b10 =>
 (p_0).bind fun p11 =>
 (ldS (⟨p11.block, p11.off + 0, none⟩ : Addr) h1).bind fun x12 =>
 (Gx.idxS x12 (IntKind.wrap .i64 (at_1 + 3))).bind fun b13 =>
 (stL 4 (⟨h.next, 0, none⟩ : Addr) ([.int .u8 b4, .int .u8 b7, .int .u8 b10, .int .u8 b13]) h1).bind fun h14 =>
 (ldA 4 (⟨h.next, 0, none⟩ : Addr) h14).bind fun l15 =>
 (decC [.i .u8, .i .u8, .i .u8, .i .u8] l15).bind fun x16 =>
 some ((x16.1, x16.2.1, x16.2.2.1, x16.2.2.2), h14)
noncomputable def r_lz_packer_four : RCode := an (.n) (rOf Tryd.prog 2 Tryd.f46)
noncomputable def e_lz_packer_four (k : Nat) (D : CallF) : Ent := entOf 46 [(0, .p), (1, .i .i64)] [(4, .st [.i .u8, .i .u8, .i .u8, .i .u8])] (lz_packer_four k D)
theorem q_lz_packer_four : (Tryd.f46.body).bind (rcodeOf Tryd.prog 2 Tryd.f46.ntmps) = some (strip r_lz_packer_four) := by kernel_rfl
theorem t_lz_packer_four (k : Nat) (D : CallF) : curF [(0, .p), (1, .i .i64)] (fun args h => denF (C_lz_packer_four k D) k r_lz_packer_four [(4, .st [.i .u8, .i .u8, .i .u8, .i .u8])] [some (.agg 4)] args h) = lz_packer_four k D := by kernel_rfl
theorem ok_lz_packer_four {D : CallF} (hD : CSound Tryd.prog 2 D) (k : Nat) : EntOk Tryd.prog 2 (e_lz_packer_four k D) :=
 entOf_ok2 (mkC_sound hD (EntsOk.none)) Tryd.func46 rfl q_lz_packer_four rfl (t_lz_packer_four k D)
end Ge
namespace Ge
open Go Gx Go.Proofs
set_option maxRecDepth 100000
noncomputable def C_lz_packer_alike (_k : Nat) (D : CallF) : CallF := mkC D []
noncomputable def lz_packer_alike_l0b (_k : Nat) (_D : CallF) (j3 : Int → AHeap → Option ((Int) × AHeap)) (rec9 : (Option Addr) → Int → Int → Int → AHeap → Option ((Int) × AHeap)) (p4 : Option Addr) (fromv5 : Int) (atv6 : Int) (n7 : Int) (h8 : AHeap) : Option ((Int) × AHeap) :=
 joinK (fun (p10 : Option Addr) (fromv11 : Int) (atv12 : Int) (n13 : Int) (y14 : Bool) (h15 : AHeap) =>
 (if y14 = true then
 rec9 p10 fromv11 atv12 (IntKind.wrap .i64 (n13 + 1)) h15
 else
 j3 n13 h15)) fun j16 =>
 (p4).bind fun p17 =>
 (ldS (⟨p17.block, p17.off + 0, none⟩ : Addr) h8).bind fun x18 =>
 (if (decide ((IntKind.wrap .i64 (atv6 + n7)) < (x18.size : Int))) = true then
 (p4).bind fun p19 =>
 (ldS (⟨p19.block, p19.off + 0, none⟩ : Addr) h8).bind fun x20 =>
 (Gx.idxS x20 (IntKind.wrap .i64 (fromv5 + n7))).bind fun b21 =>
 (p4).bind fun p22 =>
 (ldS (⟨p22.block, p22.off + 0, none⟩ : Addr) h8).bind fun x23 =>
 (Gx.idxS x23 (IntKind.wrap .i64 (atv6 + n7))).bind fun b24 =>
 j16 p4 fromv5 atv6 n7 (b21 == b24) h8
 else
 j16 p4 fromv5 atv6 n7 false h8)
noncomputable def lz_packer_alike_l0 (k : Nat) (D : CallF) (j3 : Int → AHeap → Option ((Int) × AHeap)) : (Option Addr) → Int → Int → Int → AHeap → Option ((Int) × AHeap) :=
 iterK (α := (Option Addr) → Int → Int → Int → AHeap → Option ((Int) × AHeap)) (fun _ _ _ _ _ => none) k (lz_packer_alike_l0b k D j3)
noncomputable def lz_packer_alike (k : Nat) (D : CallF) (p_0 : Option Addr) (from_1 : Int) (at_2 : Int) (h : AHeap) : Option ((Int) × AHeap) :=
 joinK (fun (n1 : Int) (h2 : AHeap) =>
 some (n1, h2)) fun j3 =>
 lz_packer_alike_l0 k D j3 p_0 from_1 at_2 0 h
noncomputable def r_lz_packer_alike : RCode := an (.s .n (.s .n (.s (.j [(7, .i .i64)] (.b (.l [(0, .p), (1, .i .i64), (2, .i .i64), (7, .i .i64)] (.s (.s (.j [(0, .p), (1, .i .i64), (2, .i .i64), (7, .i .i64), (35, .b)] .n) .n) .n)))) .n))) (rOf Tryd.prog 2 Tryd.f80)
noncomputable def e_lz_packer_alike (k : Nat) (D : CallF) : Ent := entOf 80 [(0, .p), (1, .i .i64), (2, .i .i64)] [(6, .i .i64)] (lz_packer_alike k D)
theorem q_lz_packer_alike : (Tryd.f80.body).bind (rcodeOf Tryd.prog 2 Tryd.f80.ntmps) = some (strip r_lz_packer_alike) := by kernel_rfl
theorem t_lz_packer_alike (k : Nat) (D : CallF) : curF [(0, .p), (1, .i .i64), (2, .i .i64)] (fun args h => denF (C_lz_packer_alike k D) k r_lz_packer_alike [(6, .i .i64)] [none] args h) = lz_packer_alike k D := by kernel_rfl
theorem ok_lz_packer_alike {D : CallF} (hD : CSound Tryd.prog 2 D) (k : Nat) : EntOk Tryd.prog 2 (e_lz_packer_alike k D) :=
 entOf_ok2 (mkC_sound hD (EntsOk.none)) Tryd.func80 rfl q_lz_packer_alike rfl (t_lz_packer_alike k D)
end Ge
namespace Ge
open Go Gx Go.Proofs
set_option maxRecDepth 100000
noncomputable def C_lz_packer_best (k : Nat) (D : CallF) : CallF := mkC D [e_lz_packer_four k D, e_lz_packer_alike k D]
noncomputable def lz_packer_best_l0b (k : Nat) (D : CallF) (j6 : (Option Addr) → Int → Int → Int → AHeap → Option ((Int × Int) × AHeap)) (rec32 : (Option Addr) → Int → Int → Int → Int → AHeap → Option ((Int × Int) × AHeap)) (p26 : Option Addr) (atv27 : Int) (distance28 : Int) (long29 : Int) (d30 : Int) (h31 : AHeap) : Option ((Int × Int) × AHeap) :=
 (if (decide (d30 ≤ (if atv27 < 64 then atv27 else 64))) = true then
 joinK (fun (p33 : Option Addr) (atv34 : Int) (distance35 : Int) (long36 : Int) (d37 : Int) (h38 : AHeap) =>
 rec32 p33 atv34 distance35 long36 (IntKind.wrap .i64 (d37 + 1)) h38) fun j39 =>
 (lz_packer_alike k D p26 (IntKind.wrap .i64 (atv27 - d30)) atv27 h31).bind fun r40 =>
 (if (decide (r40.1 > long29)) = true then
 j39 p26 atv27 d30 r40.1 d30 r40.2
 else
 j39 p26 atv27 distance28 long29 d30 r40.2)
 else
 j6 p26 atv27 distance28 long29 h31)
noncomputable def lz_packer_best_l0 (k : Nat) (D : CallF) (j6 : (Option Addr) → Int → Int → Int → AHeap → Option ((Int × Int) × AHeap)) : (Option Addr) → Int → Int → Int → Int → AHeap → Option ((Int × Int) × AHeap) :=
 iterK (α := (Option Addr) → Int → Int → Int → Int → AHeap → Option ((Int × Int) × AHeap)) (fun _ _ _ _ _ _ => none) k (lz_packer_best_l0b k D j6)
noncomputable def lz_packer_best (k : Nat) (D : CallF) (p_0 : Option Addr) (at_1 : Int) (h : AHeap) : Option ((Int × Int) × AHeap) :=
 joinK (fun (p1 : Option Addr) (atv2 : Int) (distance3 : Int) (long4 : Int) (h5 : AHeap) =>
 (lz_packer_four k D p1 atv2 h5).bind fun r7 =>
 (p1).bind fun p8 =>
 (ldM (⟨p8.block, p8.off + 1, none⟩ : Addr) r7.2).bind fun x9 =>
 guardP (SameW [h5] (fun H11 => (ldM (⟨p8.block, p8.off + 1, none⟩ : Addr) H11).bind fun y10 => some (.map y10)) (.map x9)) (
 (lookE (decI .i64) (.int .i64 0) r7.2 x9 (.agg ⟨[.int .u8 r7.1.1, .int .u8 r7.1.2.1, .int .u8 r7.1.2.2.1, .int .u8 r7.1.2.2.2]⟩)).bind fun p12 =>
 joinK (fun (distance13 : Int) (long14 : Int) (h15 : AHeap) =>
 some ((distance13, long14), h15)) fun j16 =>
 joinK (fun (p17 : Option Addr) (atv18 : Int) (distance19 : Int) (long20 : Int) (fromv21 : Int) (y22 : Bool) (h23 : AHeap) =>
 (if y22 = true then
 (lz_packer_alike k D p17 fromv21 atv18 h23).bind fun r25 =>
 (if (decide (r25.1 > long20)) = true then
 j16 (IntKind.wrap .i64 (atv18 - fromv21)) r25.1 r25.2
 else
 j16 distance19 long20 r25.2)
 else
 j16 distance19 long20 h23)) fun j24 =>
 (if p12.2 = true then
 j24 p1 atv2 distance3 long4 p12.1 (decide ((IntKind.wrap .i64 (atv2 - p12.1)) ≤ 65535)) r7.2
 else
 j24 p1 atv2 distance3 long4 p12.1 false r7.2))) fun j6 =>
 lz_packer_best_l0 k D j6 p_0 at_1 0 0 1 h
noncomputable def r_lz_packer_best : RCode := an (.s .n (.s (.j [(0, .p), (1, .i .i64), (4, .i .i64), (5, .i .i64)] (.s .n (.b (.l [(0, .p), (1, .i .i64), (4, .i .i64), (5, .i .i64), (6, .i .i64)] (.s .n (.s (.j [(0, .p), (1, .i .i64), (4, .i .i64), (5, .i .i64), (6, .i .i64)] .n) .n)))))) (.s .n (.s (.j [(4, .i .i64), (5, .i .i64)] (.s (.j [(0, .p), (1, .i .i64), (4, .i .i64), (5, .i .i64), (8, .i .i64), (45, .b)] .n) .n)) .n)))) (rOf Tryd.prog 2 Tryd.f44)
noncomputable def e_lz_packer_best (k : Nat) (D : CallF) : Ent := entOf 44 [(0, .p), (1, .i .i64)] [(4, .i .i64), (5, .i .i64)] (lz_packer_best k D)
theorem q_lz_packer_best : (Tryd.f44.body).bind (rcodeOf Tryd.prog 2 Tryd.f44.ntmps) = some (strip r_lz_packer_best) := by kernel_rfl
theorem t_lz_packer_best (k : Nat) (D : CallF) : curF [(0, .p), (1, .i .i64)] (fun args h => denF (C_lz_packer_best k D) k r_lz_packer_best [(4, .i .i64), (5, .i .i64)] [none, none] args h) = lz_packer_best k D := by kernel_rfl
theorem ok_lz_packer_best {D : CallF} (hD : CSound Tryd.prog 2 D) (k : Nat) : EntOk Tryd.prog 2 (e_lz_packer_best k D) :=
 entOf_ok2 (mkC_sound hD (EntsOk.more (ok_lz_packer_four hD k) (EntsOk.more (ok_lz_packer_alike hD k) (EntsOk.none)))) Tryd.func44 rfl q_lz_packer_best rfl (t_lz_packer_best k D)
end Ge
namespace Ge
open Go Gx Go.Proofs
set_option maxRecDepth 100000
noncomputable def C_lz_Pack (k : Nat) (D : CallF) : CallF := mkC D [e_lz_writer_sequence k D, e_lz_packer_best k D, e_lz_packer_four k D]
noncomputable def lz_Pack_l1b (k : Nat) (D : CallF) (rec20 : ByteArray → (Option Addr) → (Option Addr) → Int → Int → AHeap → Option ((ByteArray × Int) × AHeap)) (rec39 : ByteArray → (Option Addr) → (Option Addr) → Int → Int → Int → Int → AHeap → Option ((ByteArray × Int) × AHeap)) (s31 : ByteArray) (p32 : Option Addr) (w33 : Option Addr) (kept34 : Int) (atv35 : Int) (y36 : Int) (y37 : Int) (h38 : AHeap) : Option ((ByteArray × Int) × AHeap) :=
 (if (decide (y37 < y36)) = true then
 joinK (fun (s40 : ByteArray) (p41 : Option Addr) (w42 : Option Addr) (kept43 : Int) (atv44 : Int) (y45 : Int) (y46 : Int) (h47 : AHeap) =>
 rec39 s40 p41 w42 kept43 (IntKind.wrap .i64 (atv44 + 1)) y45 (IntKind.wrap .i64 (y46 + 1)) h47) fun j48 =>
 (if (decide ((IntKind.wrap .i64 (atv35 + 4)) ≤ (s31.size : Int))) = true then
 (lz_packer_four k D p32 atv35 h38).bind fun r49 =>
 (p32).bind fun p50 =>
 (ldM (⟨p50.block, p50.off + 1, none⟩ : Addr) r49.2).bind fun x51 =>
 guardP (SameW [h38] (fun H53 => (ldM (⟨p50.block, p50.off + 1, none⟩ : Addr) H53).bind fun y52 => some (.map y52)) (.map x51)) (
 (x51).bind fun r55 =>
 (updE r49.2 r55 (.agg ⟨[.int .u8 r49.1.1, .int .u8 r49.1.2.1, .int .u8 r49.1.2.2.1, .int .u8 r49.1.2.2.2]⟩) (.int .i64 atv35)).bind fun h54 =>
 j48 s31 p32 w33 kept34 atv35 y36 y37 h54)
 else
 j48 s31 p32 w33 kept34 atv35 y36 y37 h38)
 else
 rec20 s31 p32 w33 kept34 atv35 h38)
noncomputable def lz_Pack_l1 (k : Nat) (D : CallF) (rec20 : ByteArray → (Option Addr) → (Option Addr) → Int → Int → AHeap → Option ((ByteArray × Int) × AHeap)) : ByteArray → (Option Addr) → (Option Addr) → Int → Int → Int → Int → AHeap → Option ((ByteArray × Int) × AHeap) :=
 iterK (α := ByteArray → (Option Addr) → (Option Addr) → Int → Int → Int → Int → AHeap → Option ((ByteArray × Int) × AHeap)) (fun _ _ _ _ _ _ _ _ => none) k (lz_Pack_l1b k D rec20)
noncomputable def lz_Pack_l0b (k : Nat) (D : CallF) (j8 : ByteArray → (Option Addr) → Int → AHeap → Option ((ByteArray × Int) × AHeap)) (rec20 : ByteArray → (Option Addr) → (Option Addr) → Int → Int → AHeap → Option ((ByteArray × Int) × AHeap)) (s14 : ByteArray) (p15 : Option Addr) (w16 : Option Addr) (kept17 : Int) (atv18 : Int) (h19 : AHeap) : Option ((ByteArray × Int) × AHeap) :=
 (if (decide ((IntKind.wrap .i64 (atv18 + 4)) < (s14.size : Int))) = true then
 (lz_packer_best k D p15 atv18 h19).bind fun r21 =>
 let t22 : Int := (IntKind.wrap .i64 ((IntKind.wrap .i64 ((s14.size : Int) - 1)) - atv18))
 joinK (fun (s23 : ByteArray) (p24 : Option Addr) (w25 : Option Addr) (kept26 : Int) (atv27 : Int) (step28 : Int) (h29 : AHeap) =>
 lz_Pack_l1 k D rec20 s23 p24 w25 kept26 atv27 step28 0 h29) fun j30 =>
 (if (decide ((if t22 < r21.1.2 then t22 else r21.1.2) ≥ 4)) = true then
 (Gx.subS s14 (some kept17) (some atv18)).bind fun s56 =>
 (lz_writer_sequence k D w16 s56 r21.1.1 (if t22 < r21.1.2 then t22 else r21.1.2) r21.2).bind fun r57 =>
 let t58 : Int := (IntKind.wrap .i64 (atv18 + (if t22 < r21.1.2 then t22 else r21.1.2)))
 j30 s14 p15 w16 t58 atv18 (if t22 < r21.1.2 then t22 else r21.1.2) r57.2
 else
 j30 s14 p15 w16 kept17 atv18 1 r21.2)
 else
 j8 s14 w16 kept17 h19)
noncomputable def lz_Pack_l0 (k : Nat) (D : CallF) (j8 : ByteArray → (Option Addr) → Int → AHeap → Option ((ByteArray × Int) × AHeap)) : ByteArray → (Option Addr) → (Option Addr) → Int → Int → AHeap → Option ((ByteArray × Int) × AHeap) :=
 iterK (α := ByteArray → (Option Addr) → (Option Addr) → Int → Int → AHeap → Option ((ByteArray × Int) × AHeap)) (fun _ _ _ _ _ _ => none) k (lz_Pack_l0b k D j8)
noncomputable def lz_Pack (k : Nat) (D : CallF) (s_0 : ByteArray) (h : AHeap) : Option ((ByteArray × Int) × AHeap) :=
 (if (decide ((s_0.size : Int) > 1048576)) = true then
 some (((⟨#[]⟩ : ByteArray), 2), h)
 else
 newK h ((.map [] 0)) fun h1 =>
 newK h1 ((.cells [.string s_0, .map (some h.next)] 75 true 0)) fun h2 =>
 newK h2 ((.cells [.slice none 0 0] 78 true 0)) fun h3 =>
 joinK (fun (s4 : ByteArray) (w5 : Option Addr) (kept6 : Int) (h7 : AHeap) =>
 (Gx.subS s4 (some kept6) none).bind fun s9 =>
 (lz_writer_sequence k D w5 s9 0 0 h7).bind fun r10 =>
 (w5).bind fun p11 =>
 (ldL (⟨p11.block, p11.off + 0, none⟩ : Addr) r10.2).bind fun x12 =>
 (bytesOf r10.2 x12).bind fun s13 =>
 some ((s13, 0), r10.2)) fun j8 =>
 lz_Pack_l0 k D j8 s_0 (some (⟨h1.next, 0, none⟩ : Addr)) (some (⟨h2.next, 0, none⟩ : Addr)) 0 0 h3)
noncomputable def r_lz_Pack : RCode := an (.s .n (.s .n (.s .n (.s .n (.s .n (.s (.j [(0, .s), (5, .p), (6, .i .i64)] (.s .n (.b (.l [(0, .s), (4, .p), (5, .p), (6, .i .i64), (7, .i .i64)] (.s .n (.b (.s .n (.s .n (.s .n (.s (.j [(0, .s), (4, .p), (5, .p), (6, .i .i64), (7, .i .i64), (10, .i .i64)] .n) (.s .n (.b (.l [(0, .s), (4, .p), (5, .p), (6, .i .i64), (7, .i .i64), (52, .i .i64), (53, .i .i64)] (.s .n (.s .n (.s (.b (.s (.j [(0, .s), (4, .p), (5, .p), (6, .i .i64), (7, .i .i64), (52, .i .i64), (53, .i .i64)] .n) .n)) .n)))))))))))))))) .n)))))) (rOf Tryd.prog 2 Tryd.f14)
noncomputable def e_lz_Pack (k : Nat) (D : CallF) : Ent := entOf 14 [(0, .s)] [(2, .s), (3, .i .i64)] (lz_Pack k D)
theorem q_lz_Pack : (Tryd.f14.body).bind (rcodeOf Tryd.prog 2 Tryd.f14.ntmps) = some (strip r_lz_Pack) := by kernel_rfl
theorem t_lz_Pack (k : Nat) (D : CallF) : curF [(0, .s)] (fun args h => denF (C_lz_Pack k D) k r_lz_Pack [(2, .s), (3, .i .i64)] [none, none] args h) = lz_Pack k D := by kernel_rfl
theorem ok_lz_Pack {D : CallF} (hD : CSound Tryd.prog 2 D) (k : Nat) : EntOk Tryd.prog 2 (e_lz_Pack k D) :=
 entOf_ok2 (mkC_sound hD (EntsOk.more (ok_lz_writer_sequence hD k) (EntsOk.more (ok_lz_packer_best hD k) (EntsOk.more (ok_lz_packer_four hD k) (EntsOk.none))))) Tryd.func14 rfl q_lz_Pack rfl (t_lz_Pack k D)
end Ge
namespace Ge
open Go Gx Go.Proofs
set_option maxRecDepth 100000
noncomputable def C_blob_Encode (k : Nat) (D : CallF) : CallF := mkC D [e_blob_known k D, e_num_Short k D, e_lz_Pack k D]
noncomputable def blob_Encode (k : Nat) (D : CallF) (kind_0 : Int) (text_1 : ByteArray) (h : AHeap) : Option ((ByteArray × Int) × AHeap) :=
 (blob_known k D kind_0 h).bind fun r1 =>
 (if (!r1.1) = true then
 some (((⟨#[]⟩ : ByteArray), 1), r1.2)
 else
 (if (decide ((text_1.size : Int) > 65536)) = true then
 some (((⟨#[]⟩ : ByteArray), 2), r1.2)
 else
 (num_Short k D (text_1.size : Int) r1.2).bind fun r2 =>
 (lz_Pack k D text_1 r2.2).bind fun r3 =>
 joinK (fun (kind4 : Int) (text5 : ByteArray) (long6 : ByteArray) (block7 : ByteArray) (y8 : Bool) (h9 : AHeap) =>
 (if y8 = true then
 newK h9 ((.cells [.int .u8 (IntKind.wrap .u8 (Go.bits .or .i64 kind4 16))] 5 true 0)) fun h11 =>
 (bytesOf h11 (⟨(some ⟨h9.next, 0, some 0⟩), 1, 1⟩ : Slc)).bind fun s12 =>
 (if s12.size + long6.size ≤ 9223372036854775807 then
 (if (s12 ++ long6).size + block7.size ≤ 9223372036854775807 then
 some ((((s12 ++ long6) ++ block7), 0), h11)
 else none)
 else none)
 else
 newK h9 ((.cells [.int .u8 (IntKind.wrap .u8 kind4)] 5 true 0)) fun h13 =>
 (bytesOf h13 (⟨(some ⟨h9.next, 0, some 0⟩), 1, 1⟩ : Slc)).bind fun s14 =>
 (if s14.size + long6.size ≤ 9223372036854775807 then
 (if (s14 ++ long6).size + text5.size ≤ 9223372036854775807 then
 some ((((s14 ++ long6) ++ text5), 0), h13)
 else none)
 else none))) fun j10 =>
 (if (r3.1.2 == 0) = true then
 j10 kind_0 text_1 r2.1.1 r3.1.1 (decide ((r3.1.1.size : Int) < (text_1.size : Int))) r3.2
 else
 j10 kind_0 text_1 r2.1.1 r3.1.1 false r3.2)))
noncomputable def r_blob_Encode : RCode := an (.s .n (.s .n (.s .n (.s .n (.s (.s (.j [(0, .i .i64), (1, .s), (6, .s), (8, .s), (37, .b)] .n) .n) .n))))) (rOf Tryd.prog 2 Tryd.f12)
noncomputable def e_blob_Encode (k : Nat) (D : CallF) : Ent := entOf 12 [(0, .i .i64), (1, .s)] [(4, .s), (5, .i .i64)] (blob_Encode k D)
theorem q_blob_Encode : (Tryd.f12.body).bind (rcodeOf Tryd.prog 2 Tryd.f12.ntmps) = some (strip r_blob_Encode) := by kernel_rfl
theorem t_blob_Encode (k : Nat) (D : CallF) : curF [(0, .i .i64), (1, .s)] (fun args h => denF (C_blob_Encode k D) k r_blob_Encode [(4, .s), (5, .i .i64)] [none, none] args h) = blob_Encode k D := by kernel_rfl
theorem ok_blob_Encode {D : CallF} (hD : CSound Tryd.prog 2 D) (k : Nat) : EntOk Tryd.prog 2 (e_blob_Encode k D) :=
 entOf_ok2 (mkC_sound hD (EntsOk.more (ok_blob_known hD k) (EntsOk.more (ok_num_Short hD k) (EntsOk.more (ok_lz_Pack hD k) (EntsOk.none))))) Tryd.func12 rfl q_blob_Encode rfl (t_blob_Encode k D)
end Ge
namespace Ge
open Go Gx Go.Proofs
set_option maxRecDepth 100000
noncomputable def C_internal_stringslite_HasSuffix (_k : Nat) (D : CallF) : CallF := mkC D []
noncomputable def internal_stringslite_HasSuffix (_k : Nat) (_D : CallF) (s_0 : ByteArray) (suffix_1 : ByteArray) (h : AHeap) : Option ((Bool) × AHeap) :=
 (if (decide ((s_0.size : Int) ≥ (suffix_1.size : Int))) = true then
 let t1 : Int := (IntKind.wrap .i64 ((s_0.size : Int) - (suffix_1.size : Int)))
 (Gx.subS s_0 (some t1) none).bind fun s2 =>
 some ((s2 == suffix_1), h)
 else
 some (false, h))
noncomputable def r_internal_stringslite_HasSuffix : RCode := an (.n) (rOf Tryd.prog 2 Tryd.f121)
noncomputable def e_internal_stringslite_HasSuffix (k : Nat) (D : CallF) : Ent := entOf 121 [(0, .s), (1, .s)] [(4, .b)] (internal_stringslite_HasSuffix k D)
theorem q_internal_stringslite_HasSuffix : (Tryd.f121.body).bind (rcodeOf Tryd.prog 2 Tryd.f121.ntmps) = some (strip r_internal_stringslite_HasSuffix) := by kernel_rfl
theorem t_internal_stringslite_HasSuffix (k : Nat) (D : CallF) : curF [(0, .s), (1, .s)] (fun args h => denF (C_internal_stringslite_HasSuffix k D) k r_internal_stringslite_HasSuffix [(4, .b)] [none] args h) = internal_stringslite_HasSuffix k D := by kernel_rfl
theorem ok_internal_stringslite_HasSuffix {D : CallF} (hD : CSound Tryd.prog 2 D) (k : Nat) : EntOk Tryd.prog 2 (e_internal_stringslite_HasSuffix k D) :=
 entOf_ok2 (mkC_sound hD (EntsOk.none)) Tryd.func121 rfl q_internal_stringslite_HasSuffix rfl (t_internal_stringslite_HasSuffix k D)
end Ge
namespace Ge
open Go Gx Go.Proofs
set_option maxRecDepth 100000
noncomputable def C_cmp_Less_string (k : Nat) (D : CallF) : CallF := mkC D [e_cmp_isNaN_string k D]
noncomputable def cmp_Less_string (k : Nat) (D : CallF) (x_0 : ByteArray) (y_1 : ByteArray) (h : AHeap) : Option ((Bool) × AHeap) :=
 (cmp_isNaN_string k D x_0 h).bind fun r1 =>
 (if r1.1 = true then
 (cmp_isNaN_string k D y_1 r1.2).bind fun r2 =>
 (if (!r2.1) = true then
 some (true, r2.2)
 else
 some ((Op.bytesLess x_0.toList y_1.toList), r2.2))
 else
 some ((Op.bytesLess x_0.toList y_1.toList), r1.2))
noncomputable def r_cmp_Less_string : RCode := an (.n) (rOf Tryd.prog 2 Tryd.f123)
noncomputable def e_cmp_Less_string (k : Nat) (D : CallF) : Ent := entOf 123 [(0, .s), (1, .s)] [(4, .b)] (cmp_Less_string k D)
theorem q_cmp_Less_string : (Tryd.f123.body).bind (rcodeOf Tryd.prog 2 Tryd.f123.ntmps) = some (strip r_cmp_Less_string) := by kernel_rfl
theorem t_cmp_Less_string (k : Nat) (D : CallF) : curF [(0, .s), (1, .s)] (fun args h => denF (C_cmp_Less_string k D) k r_cmp_Less_string [(4, .b)] [none] args h) = cmp_Less_string k D := by kernel_rfl
theorem ok_cmp_Less_string {D : CallF} (hD : CSound Tryd.prog 2 D) (k : Nat) : EntOk Tryd.prog 2 (e_cmp_Less_string k D) :=
 entOf_ok2 (mkC_sound hD (EntsOk.more (ok_cmp_isNaN_string hD k) (EntsOk.none))) Tryd.func123 rfl q_cmp_Less_string rfl (t_cmp_Less_string k D)
end Ge
namespace Ge
open Go Gx Go.Proofs
set_option maxRecDepth 100000
noncomputable def C_lookup_order (k : Nat) (D : CallF) : CallF := mkC D [e_cmp_Compare_string k D, e_cmp_Compare_int k D, e_cmp_Or_int k D]
noncomputable def lookup_order (k : Nat) (D : CallF) (x_0 : ByteArray × ByteArray × Int × Int × Int × Int) (y_1 : ByteArray × ByteArray × Int × Int × Int × Int) (h : AHeap) : Option ((Int) × AHeap) :=
 newK h ((.cells [.string x_0.1, .string x_0.2.1, .int .i64 x_0.2.2.1, .int .i64 x_0.2.2.2.1, .int .i64 x_0.2.2.2.2.1, .int .i64 x_0.2.2.2.2.2] 57 true 0)) fun h1 =>
 newK h1 ((.cells [.string y_1.1, .string y_1.2.1, .int .i64 y_1.2.2.1, .int .i64 y_1.2.2.2.1, .int .i64 y_1.2.2.2.2.1, .int .i64 y_1.2.2.2.2.2] 57 true 0)) fun h2 =>
 (ldS (⟨h.next, 0, none⟩ : Addr) h2).bind fun x3 =>
 (ldS (⟨h1.next, 0, none⟩ : Addr) h2).bind fun x4 =>
 (cmp_Compare_string k D x3 x4 h2).bind fun r5 =>
 (ldS (⟨h.next, 1, none⟩ : Addr) r5.2).bind fun x6 =>
 guardP (SameW [h2] (fun H8 => (ldS (⟨h.next, 1, none⟩ : Addr) H8).bind fun y7 => some (.string y7)) (.string x6)) (
 (ldS (⟨h1.next, 1, none⟩ : Addr) r5.2).bind fun x9 =>
 guardP (SameW [h2] (fun H11 => (ldS (⟨h1.next, 1, none⟩ : Addr) H11).bind fun y10 => some (.string y10)) (.string x9)) (
 (cmp_Compare_string k D x6 x9 r5.2).bind fun r12 =>
 (ldI .i64 (⟨h.next, 3, none⟩ : Addr) r12.2).bind fun x13 =>
 guardP (SameW [r5.2, h2] (fun H15 => (ldI .i64 (⟨h.next, 3, none⟩ : Addr) H15).bind fun y14 => some (.int .i64 y14)) (.int .i64 x13)) (
 (ldI .i64 (⟨h1.next, 3, none⟩ : Addr) r12.2).bind fun x16 =>
 guardP (SameW [r5.2, h2] (fun H18 => (ldI .i64 (⟨h1.next, 3, none⟩ : Addr) H18).bind fun y17 => some (.int .i64 y17)) (.int .i64 x16)) (
 (cmp_Compare_int k D x13 x16 r12.2).bind fun r19 =>
 (ldI .i64 (⟨h.next, 4, none⟩ : Addr) r19.2).bind fun x20 =>
 guardP (SameW [r12.2, r5.2, h2] (fun H22 => (ldI .i64 (⟨h.next, 4, none⟩ : Addr) H22).bind fun y21 => some (.int .i64 y21)) (.int .i64 x20)) (
 (ldI .i64 (⟨h1.next, 4, none⟩ : Addr) r19.2).bind fun x23 =>
 guardP (SameW [r12.2, r5.2, h2] (fun H25 => (ldI .i64 (⟨h1.next, 4, none⟩ : Addr) H25).bind fun y24 => some (.int .i64 y24)) (.int .i64 x23)) (
 (cmp_Compare_int k D x20 x23 r19.2).bind fun r26 =>
 (ldI .i64 (⟨h.next, 5, none⟩ : Addr) r26.2).bind fun x27 =>
 guardP (SameW [r19.2, r12.2, r5.2, h2] (fun H29 => (ldI .i64 (⟨h.next, 5, none⟩ : Addr) H29).bind fun y28 => some (.int .i64 y28)) (.int .i64 x27)) (
 (ldI .i64 (⟨h1.next, 5, none⟩ : Addr) r26.2).bind fun x30 =>
 guardP (SameW [r19.2, r12.2, r5.2, h2] (fun H32 => (ldI .i64 (⟨h1.next, 5, none⟩ : Addr) H32).bind fun y31 => some (.int .i64 y31)) (.int .i64 x30)) (
 (cmp_Compare_int k D x27 x30 r26.2).bind fun r33 =>
 (ldI .i64 (⟨h.next, 2, none⟩ : Addr) r33.2).bind fun x34 =>
 guardP (SameW [r26.2, r19.2, r12.2, r5.2, h2] (fun H36 => (ldI .i64 (⟨h.next, 2, none⟩ : Addr) H36).bind fun y35 => some (.int .i64 y35)) (.int .i64 x34)) (
 (ldI .i64 (⟨h1.next, 2, none⟩ : Addr) r33.2).bind fun x37 =>
 guardP (SameW [r26.2, r19.2, r12.2, r5.2, h2] (fun H39 => (ldI .i64 (⟨h1.next, 2, none⟩ : Addr) H39).bind fun y38 => some (.int .i64 y38)) (.int .i64 x37)) (
 (cmp_Compare_int k D x34 x37 r33.2).bind fun r40 =>
 newK r40.2 ((.cells [.int .i64 r5.1, .int .i64 r12.1, .int .i64 r19.1, .int .i64 r26.1, .int .i64 r33.1, .int .i64 r40.1] 3 true 0)) fun h41 =>
 (cmp_Or_int k D (⟨(some ⟨r40.2.next, 0, some 0⟩), 6, 6⟩ : Slc) h41).bind fun r42 =>
 some (r42.1, r42.2)))))))))))
noncomputable def r_lookup_order : RCode := an (.n) (rOf Tryd.prog 2 Tryd.f76)
noncomputable def e_lookup_order (k : Nat) (D : CallF) : Ent := entOf 76 [(0, .st [.s, .s, .i .i64, .i .i64, .i .i64, .i .i64]), (1, .st [.s, .s, .i .i64, .i .i64, .i .i64, .i .i64])] [(4, .i .i64)] (lookup_order k D)
theorem q_lookup_order : (Tryd.f76.body).bind (rcodeOf Tryd.prog 2 Tryd.f76.ntmps) = some (strip r_lookup_order) := by kernel_rfl
theorem t_lookup_order (k : Nat) (D : CallF) : curF [(0, .st [.s, .s, .i .i64, .i .i64, .i .i64, .i .i64]), (1, .st [.s, .s, .i .i64, .i .i64, .i .i64, .i .i64])] (fun args h => denF (C_lookup_order k D) k r_lookup_order [(4, .i .i64)] [none] args h) = lookup_order k D := by kernel_rfl
theorem ok_lookup_order {D : CallF} (hD : CSound Tryd.prog 2 D) (k : Nat) : EntOk Tryd.prog 2 (e_lookup_order k D) :=
 entOf_ok2 (mkC_sound hD (EntsOk.more (ok_cmp_Compare_string hD k) (EntsOk.more (ok_cmp_Compare_int hD k) (EntsOk.more (ok_cmp_Or_int hD k) (EntsOk.none))))) Tryd.func76 rfl q_lookup_order rfl (t_lookup_order k D)
end Ge
namespace Ge
open Go Gx Go.Proofs
set_option maxRecDepth 100000
noncomputable def C_lookup_Less (k : Nat) (D : CallF) : CallF := mkC D [e_lookup_order k D]
noncomputable def lookup_Less (k : Nat) (D : CallF) (x_0 : ByteArray × ByteArray × Int × Int × Int × Int) (y_1 : ByteArray × ByteArray × Int × Int × Int × Int) (h : AHeap) : Option ((Bool) × AHeap) :=
 newK h ((.cells [.string x_0.1, .string x_0.2.1, .int .i64 x_0.2.2.1, .int .i64 x_0.2.2.2.1, .int .i64 x_0.2.2.2.2.1, .int .i64 x_0.2.2.2.2.2] 57 true 0)) fun h1 =>
 newK h1 ((.cells [.string y_1.1, .string y_1.2.1, .int .i64 y_1.2.2.1, .int .i64 y_1.2.2.2.1, .int .i64 y_1.2.2.2.2.1, .int .i64 y_1.2.2.2.2.2] 57 true 0)) fun h2 =>
 (ldA 6 (⟨h.next, 0, none⟩ : Addr) h2).bind fun l3 =>
 (decC [.s, .s, .i .i64, .i .i64, .i .i64, .i .i64] l3).bind fun x4 =>
 (ldA 6 (⟨h1.next, 0, none⟩ : Addr) h2).bind fun l5 =>
 (decC [.s, .s, .i .i64, .i .i64, .i .i64, .i .i64] l5).bind fun x6 =>
 (lookup_order k D (x4.1, x4.2.1, x4.2.2.1, x4.2.2.2.1, x4.2.2.2.2.1, x4.2.2.2.2.2) (x6.1, x6.2.1, x6.2.2.1, x6.2.2.2.1, x6.2.2.2.2.1, x6.2.2.2.2.2) h2).bind fun r7 =>
 some ((decide (r7.1 < 0)), r7.2)
noncomputable def r_lookup_Less : RCode := an (.s .n (.s (.r [(0, .st [.s, .s, .i .i64, .i .i64, .i .i64, .i .i64]), (1, .st [.s, .s, .i .i64, .i .i64, .i .i64, .i .i64])]) .n)) (rOf Tryd.prog 2 Tryd.f125)
noncomputable def e_lookup_Less (k : Nat) (D : CallF) : Ent := entOf 125 [(0, .st [.s, .s, .i .i64, .i .i64, .i .i64, .i .i64]), (1, .st [.s, .s, .i .i64, .i .i64, .i .i64, .i .i64])] [(4, .b)] (lookup_Less k D)
theorem q_lookup_Less : (Tryd.f125.body).bind (rcodeOf Tryd.prog 2 Tryd.f125.ntmps) = some (strip r_lookup_Less) := by kernel_rfl
theorem t_lookup_Less (k : Nat) (D : CallF) : curF [(0, .st [.s, .s, .i .i64, .i .i64, .i .i64, .i .i64]), (1, .st [.s, .s, .i .i64, .i .i64, .i .i64, .i .i64])] (fun args h => denF (C_lookup_Less k D) k r_lookup_Less [(4, .b)] [none] args h) = lookup_Less k D := by kernel_rfl
theorem ok_lookup_Less {D : CallF} (hD : CSound Tryd.prog 2 D) (k : Nat) : EntOk Tryd.prog 2 (e_lookup_Less k D) :=
 entOf_ok2 (mkC_sound hD (EntsOk.more (ok_lookup_order hD k) (EntsOk.none))) Tryd.func125 rfl q_lookup_Less rfl (t_lookup_Less k D)
end Ge
namespace Ge
open Go Gx Go.Proofs
set_option maxRecDepth 100000
end Ge
namespace Ge
open Go Gx Go.Proofs
set_option maxRecDepth 100000
end Ge
namespace Ge
open Go Gx Go.Proofs
set_option maxRecDepth 100000
end Ge
namespace Ge
open Go Gx Go.Proofs
set_option maxRecDepth 100000
end Ge
namespace Ge
open Go Gx Go.Proofs
set_option maxRecDepth 100000
end Ge
namespace Ge
open Go Gx Go.Proofs
set_option maxRecDepth 100000
end Ge
namespace Ge
open Go Gx Go.Proofs
set_option maxRecDepth 100000
noncomputable def C_num_Read (_k : Nat) (D : CallF) : CallF := mkC D []
noncomputable def num_Read (_k : Nat) (_D : CallF) (s_0 : ByteArray) (h : AHeap) : Option (((Option Addr)) × AHeap) :=
 let h1 := AHeap.new h (.cells [.string s_0, .int .i64 0] 157 true 0)
 some ((some (⟨h.next, 0, none⟩ : Addr)), h1)
noncomputable def r_num_Read : RCode := an (.n) (rOf Tryd.prog 2 Tryd.f67)
noncomputable def e_num_Read (k : Nat) (D : CallF) : Ent := entOf 67 [(0, .s)] [(2, .p)] (num_Read k D)
theorem q_num_Read : (Tryd.f67.body).bind (rcodeOf Tryd.prog 2 Tryd.f67.ntmps) = some (strip r_num_Read) := by kernel_rfl
theorem t_num_Read (k : Nat) (D : CallF) : curF [(0, .s)] (fun args h => denF (C_num_Read k D) k r_num_Read [(2, .p)] [none] args h) = num_Read k D := by kernel_rfl
theorem ok_num_Read {D : CallF} (hD : CSound Tryd.prog 2 D) (k : Nat) : EntOk Tryd.prog 2 (e_num_Read k D) :=
 entOf_ok2 (mkC_sound hD (EntsOk.none)) Tryd.func67 rfl q_num_Read rfl (t_num_Read k D)
end Ge
namespace Ge
open Go Gx Go.Proofs
set_option maxRecDepth 100000
noncomputable def C_num_Reader_Fixed (k : Nat) (D : CallF) : CallF := mkC D [e_num_Reader_Bytes k D, e_num_Reader_Fail k D]
noncomputable def num_Reader_Fixed_l0b (_k : Nat) (_D : CallF) (j7 : Int → AHeap → Option ((Int) × AHeap)) (rec15 : Int → Slc → Int → Int → AHeap → Option ((Int) × AHeap)) (n10 : Int) (y11 : Slc) (y12 : Int) (y13 : Int) (h14 : AHeap) : Option ((Int) × AHeap) :=
 (if (decide (y13 < y12)) = true then
 (Gx.idxL 1 y11 y13).bind fun q16 =>
 (ldI .u8 q16 h14).bind fun x17 =>
 let t18 : Int := (Go.bits .or .i64 (IntKind.wrap .i64 (n10 * 256)) (IntKind.wrap .i64 x17))
 rec15 t18 y11 y12 (IntKind.wrap .i64 (y13 + 1)) h14
 else
 j7 n10 h14)
noncomputable def num_Reader_Fixed_l0 (k : Nat) (D : CallF) (j7 : Int → AHeap → Option ((Int) × AHeap)) : Int → Slc → Int → Int → AHeap → Option ((Int) × AHeap) :=
 iterK (α := Int → Slc → Int → Int → AHeap → Option ((Int) × AHeap)) (fun _ _ _ _ _ => none) k (num_Reader_Fixed_l0b k D j7)
noncomputable def num_Reader_Fixed (k : Nat) (D : CallF) (r_0 : Option Addr) (bytes_1 : Int) (h : AHeap) : Option ((Int) × AHeap) :=
 joinK (fun (r1 : Option Addr) (bytes2 : Int) (h3 : AHeap) =>
 joinK (fun (n5 : Int) (h6 : AHeap) =>
 some (n5, h6)) fun j7 =>
 (num_Reader_Bytes k D r1 bytes2 h3).bind fun r8 =>
 let h9 := AHeap.new r8.2 (.cells (bytesL r8.1) 5 true 18446744073709551616)
 num_Reader_Fixed_l0 k D j7 0 (⟨(some ⟨r8.2.next, 0, some 2⟩), r8.1.size, r8.1.size⟩ : Slc) (r8.1.size : Int) 0 h9) fun j4 =>
 joinK (fun (r19 : Option Addr) (bytes20 : Int) (y21 : Bool) (h22 : AHeap) =>
 (if y21 = true then
 (num_Reader_Fail k D r19 1 h22).bind fun r24 =>
 j4 r19 bytes20 r24.2
 else
 j4 r19 bytes20 h22)) fun j23 =>
 (if (decide (bytes_1 < 1)) = true then
 j23 r_0 bytes_1 true h
 else
 j23 r_0 bytes_1 (decide (bytes_1 > 7)) h)
noncomputable def r_num_Reader_Fixed : RCode := an (.s .n (.s (.j [(0, .p), (1, .i .i64)] (.s (.j [(0, .p), (1, .i .i64), (14, .b)] .n) .n)) (.s .n (.s .n (.s (.j [(6, .i .i64)] (.s (.r [(2, .s)]) (.b (.l [(6, .i .i64), (22, .l), (23, .i .i64), (24, .i .i64)] .n)))) .n))))) (rOf Tryd.prog 2 Tryd.f83)
noncomputable def e_num_Reader_Fixed (k : Nat) (D : CallF) : Ent := entOf 83 [(0, .p), (1, .i .i64)] [(4, .i .i64)] (num_Reader_Fixed k D)
theorem q_num_Reader_Fixed : (Tryd.f83.body).bind (rcodeOf Tryd.prog 2 Tryd.f83.ntmps) = some (strip r_num_Reader_Fixed) := by kernel_rfl
theorem t_num_Reader_Fixed (k : Nat) (D : CallF) : curF [(0, .p), (1, .i .i64)] (fun args h => denF (C_num_Reader_Fixed k D) k r_num_Reader_Fixed [(4, .i .i64)] [none] args h) = num_Reader_Fixed k D := by kernel_rfl
theorem ok_num_Reader_Fixed {D : CallF} (hD : CSound Tryd.prog 2 D) (k : Nat) : EntOk Tryd.prog 2 (e_num_Reader_Fixed k D) :=
 entOf_ok2 (mkC_sound hD (EntsOk.more (ok_num_Reader_Bytes hD k) (EntsOk.more (ok_num_Reader_Fail hD k) (EntsOk.none)))) Tryd.func83 rfl q_num_Reader_Fixed rfl (t_num_Reader_Fixed k D)
end Ge
namespace Ge
open Go Gx Go.Proofs
set_option maxRecDepth 100000
noncomputable def C_num_short (_k : Nat) (D : CallF) : CallF := mkC D []
noncomputable def num_short_l0b (_k : Nat) (_D : CallF) (j3 : ByteArray → AHeap → Option ((Int × Int × Int) × AHeap)) (rec9 : ByteArray → Int → Int → Int → AHeap → Option ((Int × Int × Int) × AHeap)) (s4 : ByteArray) (n5 : Int) (y6 : Int) (y7 : Int) (h8 : AHeap) : Option ((Int × Int × Int) × AHeap) :=
 (if (decide (y7 < y6)) = true then
 (Gx.idxS s4 y7).bind fun b10 =>
 (if 0 ≤ (IntKind.wrap .i64 (7 * y7)) then
 let t11 : Int := (IntKind.wrap .i64 ((Go.bits .andNot .i64 (IntKind.wrap .i64 b10) 128) * 2 ^ (min ((IntKind.wrap .i64 (7 * y7))).toNat (IntKind.bits .i64))))
 (if (decide ((IntKind.wrap .i64 b10) ≥ 128)) = true then
 rec9 s4 (Go.bits .or .i64 n5 t11) y6 (IntKind.wrap .i64 (y7 + 1)) h8
 else
 joinK (fun (n12 : Int) (i13 : Int) (y14 : Bool) (h15 : AHeap) =>
 (if y14 = true then
 some ((0, 0, 3), h15)
 else
 some ((n12, (IntKind.wrap .i64 (i13 + 1)), 0), h15))) fun j16 =>
 (if ((IntKind.wrap .i64 b10) == 0) = true then
 j16 (Go.bits .or .i64 n5 t11) y7 (decide (y7 > 0)) h8
 else
 j16 (Go.bits .or .i64 n5 t11) y7 false h8))
 else none)
 else
 j3 s4 h8)
noncomputable def num_short_l0 (k : Nat) (D : CallF) (j3 : ByteArray → AHeap → Option ((Int × Int × Int) × AHeap)) : ByteArray → Int → Int → Int → AHeap → Option ((Int × Int × Int) × AHeap) :=
 iterK (α := ByteArray → Int → Int → Int → AHeap → Option ((Int × Int × Int) × AHeap)) (fun _ _ _ _ _ => none) k (num_short_l0b k D j3)
noncomputable def num_short (k : Nat) (D : CallF) (s_0 : ByteArray) (h : AHeap) : Option ((Int × Int × Int) × AHeap) :=
 joinK (fun (s1 : ByteArray) (h2 : AHeap) =>
 (if (decide ((s1.size : Int) < 9)) = true then
 some ((0, 0, 10), h2)
 else
 some ((0, 0, 3), h2))) fun j3 =>
 num_short_l0 k D j3 s_0 0 (if 9 < (s_0.size : Int) then 9 else (s_0.size : Int)) 0 h
noncomputable def r_num_short : RCode := an (.s .n (.s (.j [(0, .s)] (.s .n (.b (.l [(0, .s), (2, .i .i64), (9, .i .i64), (10, .i .i64)] (.s .n (.s .n (.s (.b (.s .n (.s .n (.s .n (.b (.s .n (.s .n (.s (.j [(2, .i .i64), (5, .i .i64), (30, .b)] .n) .n)))))))) .n))))))) .n)) (rOf Tryd.prog 2 Tryd.f98)
noncomputable def e_num_short (k : Nat) (D : CallF) : Ent := entOf 98 [(0, .s)] [(2, .i .i64), (3, .i .i64), (4, .i .i64)] (num_short k D)
theorem q_num_short : (Tryd.f98.body).bind (rcodeOf Tryd.prog 2 Tryd.f98.ntmps) = some (strip r_num_short) := by kernel_rfl
theorem t_num_short (k : Nat) (D : CallF) : curF [(0, .s)] (fun args h => denF (C_num_short k D) k r_num_short [(2, .i .i64), (3, .i .i64), (4, .i .i64)] [none, none, none] args h) = num_short k D := by kernel_rfl
theorem ok_num_short {D : CallF} (hD : CSound Tryd.prog 2 D) (k : Nat) : EntOk Tryd.prog 2 (e_num_short k D) :=
 entOf_ok2 (mkC_sound hD (EntsOk.none)) Tryd.func98 rfl q_num_short rfl (t_num_short k D)
end Ge
namespace Ge
open Go Gx Go.Proofs
set_option maxRecDepth 100000
noncomputable def C_num_Reader_Short (k : Nat) (D : CallF) : CallF := mkC D [e_num_short k D, e_num_Reader_Fail k D]
noncomputable def num_Reader_Short (k : Nat) (D : CallF) (r_0 : Option Addr) (most_1 : Int) (h : AHeap) : Option ((Int) × AHeap) :=
 (r_0).bind fun p1 =>
 (ldS (⟨p1.block, p1.off + 0, none⟩ : Addr) h).bind fun x2 =>
 (num_short k D x2 h).bind fun r3 =>
 joinK (fun (r4 : Option Addr) (n5 : Int) (long6 : Int) (e7 : Int) (h8 : AHeap) =>
 (num_Reader_Fail k D r4 e7 h8).bind fun r10 =>
 (r4).bind fun p11 =>
 (ldI .i64 (⟨p11.block, p11.off + 1, none⟩ : Addr) r10.2).bind fun x12 =>
 (if (x12 != 0) = true then
 some (0, r10.2)
 else
 (r4).bind fun p13 =>
 (ldS (⟨p13.block, p13.off + 0, none⟩ : Addr) r10.2).bind fun x14 =>
 (Gx.subS x14 (some long6) none).bind fun s15 =>
 (r4).bind fun p16 =>
 (st1 (⟨p16.block, p16.off + 0, none⟩ : Addr) (.string s15) r10.2).bind fun h17 =>
 some (n5, h17))) fun j9 =>
 joinK (fun (r18 : Option Addr) (n19 : Int) (long20 : Int) (e21 : Int) (y22 : Bool) (h23 : AHeap) =>
 (if y22 = true then
 j9 r18 n19 long20 2 h23
 else
 j9 r18 n19 long20 e21 h23)) fun j24 =>
 (if (r3.1.2.2 == 0) = true then
 j24 r_0 r3.1.1 r3.1.2.1 r3.1.2.2 (decide (r3.1.1 > most_1)) r3.2
 else
 j24 r_0 r3.1.1 r3.1.2.1 r3.1.2.2 false r3.2)
noncomputable def r_num_Reader_Short : RCode := an (.s .n (.s .n (.s (.j [(0, .p), (5, .i .i64), (6, .i .i64), (7, .i .i64)] (.s (.j [(0, .p), (5, .i .i64), (6, .i .i64), (7, .i .i64), (23, .b)] .n) .n)) .n))) (rOf Tryd.prog 2 Tryd.f68)
noncomputable def e_num_Reader_Short (k : Nat) (D : CallF) : Ent := entOf 68 [(0, .p), (1, .i .i64)] [(4, .i .i64)] (num_Reader_Short k D)
theorem q_num_Reader_Short : (Tryd.f68.body).bind (rcodeOf Tryd.prog 2 Tryd.f68.ntmps) = some (strip r_num_Reader_Short) := by kernel_rfl
theorem t_num_Reader_Short (k : Nat) (D : CallF) : curF [(0, .p), (1, .i .i64)] (fun args h => denF (C_num_Reader_Short k D) k r_num_Reader_Short [(4, .i .i64)] [none] args h) = num_Reader_Short k D := by kernel_rfl
theorem ok_num_Reader_Short {D : CallF} (hD : CSound Tryd.prog 2 D) (k : Nat) : EntOk Tryd.prog 2 (e_num_Reader_Short k D) :=
 entOf_ok2 (mkC_sound hD (EntsOk.more (ok_num_short hD k) (EntsOk.more (ok_num_Reader_Fail hD k) (EntsOk.none)))) Tryd.func68 rfl q_num_Reader_Short rfl (t_num_Reader_Short k D)
end Ge
namespace Ge
open Go Gx Go.Proofs
set_option maxRecDepth 100000
noncomputable def C_num_Reader_Err (_k : Nat) (D : CallF) : CallF := mkC D []
noncomputable def num_Reader_Err (_k : Nat) (_D : CallF) (r_0 : Option Addr) (h : AHeap) : Option ((Int) × AHeap) :=
 (r_0).bind fun p1 =>
 (ldI .i64 (⟨p1.block, p1.off + 1, none⟩ : Addr) h).bind fun x2 =>
 some (x2, h)
noncomputable def r_num_Reader_Err : RCode := an (.n) (rOf Tryd.prog 2 Tryd.f70)
noncomputable def e_num_Reader_Err (k : Nat) (D : CallF) : Ent := entOf 70 [(0, .p)] [(2, .i .i64)] (num_Reader_Err k D)
theorem q_num_Reader_Err : (Tryd.f70.body).bind (rcodeOf Tryd.prog 2 Tryd.f70.ntmps) = some (strip r_num_Reader_Err) := by kernel_rfl
theorem t_num_Reader_Err (k : Nat) (D : CallF) : curF [(0, .p)] (fun args h => denF (C_num_Reader_Err k D) k r_num_Reader_Err [(2, .i .i64)] [none] args h) = num_Reader_Err k D := by kernel_rfl
theorem ok_num_Reader_Err {D : CallF} (hD : CSound Tryd.prog 2 D) (k : Nat) : EntOk Tryd.prog 2 (e_num_Reader_Err k D) :=
 entOf_ok2 (mkC_sound hD (EntsOk.none)) Tryd.func70 rfl q_num_Reader_Err rfl (t_num_Reader_Err k D)
end Ge
namespace Ge
open Go Gx Go.Proofs
set_option maxRecDepth 100000
end Ge
namespace Ge
open Go Gx Go.Proofs
set_option maxRecDepth 100000
end Ge
namespace Ge
open Go Gx Go.Proofs
set_option maxRecDepth 100000
end Ge
namespace Ge
open Go Gx Go.Proofs
set_option maxRecDepth 100000
end Ge
namespace Ge
open Go Gx Go.Proofs
set_option maxRecDepth 100000
end Ge
namespace Ge
open Go Gx Go.Proofs
set_option maxRecDepth 100000
end Ge
namespace Ge
open Go Gx Go.Proofs
set_option maxRecDepth 100000
end Ge
namespace Ge
open Go Gx Go.Proofs
set_option maxRecDepth 100000
end Ge
namespace Ge
open Go Gx Go.Proofs
set_option maxRecDepth 100000
end Ge
namespace Ge
open Go Gx Go.Proofs
set_option maxRecDepth 100000
end Ge
namespace Ge
open Go Gx Go.Proofs
set_option maxRecDepth 100000
end Ge
namespace Ge
open Go Gx Go.Proofs
set_option maxRecDepth 100000
end Ge
namespace Ge
open Go Gx Go.Proofs
set_option maxRecDepth 100000
noncomputable def C_strings_Builder_Reset (_k : Nat) (D : CallF) : CallF := mkC D []
noncomputable def strings_Builder_Reset (_k : Nat) (_D : CallF) (b_0 : Option Addr) (h : AHeap) : Option ((Unit) × AHeap) :=
 (b_0).bind fun p1 =>
 (st1 (⟨p1.block, p1.off + 0, none⟩ : Addr) (.pointer none) h).bind fun h2 =>
 (b_0).bind fun p3 =>
 (st1 (⟨p3.block, p3.off + 1, none⟩ : Addr) (.slice none 0 0) h2).bind fun h4 =>
 some ((), h4)
noncomputable def r_strings_Builder_Reset : RCode := an (.n) (rOf Tryd.prog 2 Tryd.f94)
noncomputable def e_strings_Builder_Reset (k : Nat) (D : CallF) : Ent := entOf 94 [(0, .p)] [] (strings_Builder_Reset k D)
theorem q_strings_Builder_Reset : (Tryd.f94.body).bind (rcodeOf Tryd.prog 2 Tryd.f94.ntmps) = some (strip r_strings_Builder_Reset) := by kernel_rfl
theorem t_strings_Builder_Reset (k : Nat) (D : CallF) : curF [(0, .p)] (fun args h => denF (C_strings_Builder_Reset k D) k r_strings_Builder_Reset [] [] args h) = strings_Builder_Reset k D := by kernel_rfl
theorem ok_strings_Builder_Reset {D : CallF} (hD : CSound Tryd.prog 2 D) (k : Nat) : EntOk Tryd.prog 2 (e_strings_Builder_Reset k D) :=
 entOf_ok2 (mkC_sound hD (EntsOk.none)) Tryd.func94 rfl q_strings_Builder_Reset rfl (t_strings_Builder_Reset k D)
end Ge
namespace Ge
open Go Gx Go.Proofs
set_option maxRecDepth 100000
noncomputable def C_pack_Builder_empty (k : Nat) (D : CallF) : CallF := mkC D [e_strings_Builder_Reset k D, e_strings_Builder_WriteString k D]
noncomputable def pack_Builder_empty (k : Nat) (D : CallF) (b_0 : Option Addr) (h : AHeap) : Option ((Unit) × AHeap) :=
 (b_0).bind fun p1 =>
 (strings_Builder_Reset k D (some (⟨p1.block, p1.off + 0 + 0, none⟩ : Addr)) h).bind fun r2 =>
 (b_0).bind fun p3 =>
 (strings_Builder_Reset k D (some (⟨p3.block, p3.off + 3, none⟩ : Addr)) r2.2).bind fun r4 =>
 newK r4.2 ((.map [] 0)) fun h5 =>
 (b_0).bind fun p6 =>
 (st1 (⟨p6.block, p6.off + 5, none⟩ : Addr) (.slice none 0 0) h5).bind fun h7 =>
 (b_0).bind fun p8 =>
 (st1 (⟨p8.block, p8.off + 6, none⟩ : Addr) (.map (some r4.2.next)) h7).bind fun h9 =>
 (b_0).bind fun p10 =>
 (strings_Builder_WriteString k D (some (⟨p10.block, p10.off + 0 + 0, none⟩ : Addr)) (⟨#[71, 82, 84, 80, 1]⟩ : ByteArray) h9).bind fun r11 =>
 some ((), r11.2)
noncomputable def r_pack_Builder_empty : RCode := an (.n) (rOf Tryd.prog 2 Tryd.f59)
noncomputable def e_pack_Builder_empty (k : Nat) (D : CallF) : Ent := entOf 59 [(0, .p)] [] (pack_Builder_empty k D)
theorem q_pack_Builder_empty : (Tryd.f59.body).bind (rcodeOf Tryd.prog 2 Tryd.f59.ntmps) = some (strip r_pack_Builder_empty) := by kernel_rfl
theorem t_pack_Builder_empty (k : Nat) (D : CallF) : curF [(0, .p)] (fun args h => denF (C_pack_Builder_empty k D) k r_pack_Builder_empty [] [] args h) = pack_Builder_empty k D := by kernel_rfl
theorem ok_pack_Builder_empty {D : CallF} (hD : CSound Tryd.prog 2 D) (k : Nat) : EntOk Tryd.prog 2 (e_pack_Builder_empty k D) :=
 entOf_ok2 (mkC_sound hD (EntsOk.more (ok_strings_Builder_Reset hD k) (EntsOk.more (ok_strings_Builder_WriteString hD k) (EntsOk.none)))) Tryd.func59 rfl q_pack_Builder_empty rfl (t_pack_Builder_empty k D)
end Ge
namespace Ge
open Go Gx Go.Proofs
set_option maxRecDepth 100000
noncomputable def C_pack_New (k : Nat) (D : CallF) : CallF := mkC D [e_pack_Builder_empty k D]
noncomputable def pack_New (k : Nat) (D : CallF) (limit_0 : Int) (h : AHeap) : Option (((Option Addr) × Int) × AHeap) :=
 joinK (fun (limit1 : Int) (y2 : Bool) (h3 : AHeap) =>
 (if y2 = true then
 some ((none, 1), h3)
 else
 newK h3 ((.cells [.pointer none, .slice none 0 0, .int .i64 limit1, .pointer none, .slice none 0 0, .slice none 0 0, .map none] 105 true 0)) fun h5 =>
 (pack_Builder_empty k D (some (⟨h3.next, 0, none⟩ : Addr)) h5).bind fun r6 =>
 some (((some (⟨h3.next, 0, none⟩ : Addr)), 0), r6.2))) fun j4 =>
 (if (decide (limit_0 < 64)) = true then
 j4 limit_0 true h
 else
 j4 limit_0 (decide (limit_0 > 65536)) h)
noncomputable def r_pack_New : RCode := an (.s .n (.s (.s (.j [(0, .i .i64), (10, .b)] .n) .n) .n)) (rOf Tryd.prog 2 Tryd.f27)
noncomputable def e_pack_New (k : Nat) (D : CallF) : Ent := entOf 27 [(0, .i .i64)] [(2, .p), (3, .i .i64)] (pack_New k D)
theorem q_pack_New : (Tryd.f27.body).bind (rcodeOf Tryd.prog 2 Tryd.f27.ntmps) = some (strip r_pack_New) := by kernel_rfl
theorem t_pack_New (k : Nat) (D : CallF) : curF [(0, .i .i64)] (fun args h => denF (C_pack_New k D) k r_pack_New [(2, .p), (3, .i .i64)] [none, none] args h) = pack_New k D := by kernel_rfl
theorem ok_pack_New {D : CallF} (hD : CSound Tryd.prog 2 D) (k : Nat) : EntOk Tryd.prog 2 (e_pack_New k D) :=
 entOf_ok2 (mkC_sound hD (EntsOk.more (ok_pack_Builder_empty hD k) (EntsOk.none))) Tryd.func27 rfl q_pack_New rfl (t_pack_New k D)
end Ge
namespace Ge
open Go Gx Go.Proofs
set_option maxRecDepth 100000
noncomputable def C_pack_short (k : Nat) (D : CallF) : CallF := mkC D [e_num_Short k D]
noncomputable def pack_short (k : Nat) (D : CallF) (n_0 : Int) (h : AHeap) : Option ((ByteArray) × AHeap) :=
 (num_Short k D n_0 h).bind fun r1 =>
 some (r1.1.1, r1.2)
noncomputable def r_pack_short : RCode := an (.n) (rOf Tryd.prog 2 Tryd.f60)
noncomputable def e_pack_short (k : Nat) (D : CallF) : Ent := entOf 60 [(0, .i .i64)] [(2, .s)] (pack_short k D)
theorem q_pack_short : (Tryd.f60.body).bind (rcodeOf Tryd.prog 2 Tryd.f60.ntmps) = some (strip r_pack_short) := by kernel_rfl
theorem t_pack_short (k : Nat) (D : CallF) : curF [(0, .i .i64)] (fun args h => denF (C_pack_short k D) k r_pack_short [(2, .s)] [none] args h) = pack_short k D := by kernel_rfl
theorem ok_pack_short {D : CallF} (hD : CSound Tryd.prog 2 D) (k : Nat) : EntOk Tryd.prog 2 (e_pack_short k D) :=
 entOf_ok2 (mkC_sound hD (EntsOk.more (ok_num_Short hD k) (EntsOk.none))) Tryd.func60 rfl q_pack_short rfl (t_pack_short k D)
end Ge
namespace Ge
open Go Gx Go.Proofs
set_option maxRecDepth 100000
noncomputable def C_pack_Builder_long (k : Nat) (D : CallF) : CallF := mkC D [e_strings_Builder_Len k D, e_pack_short k D]
noncomputable def pack_Builder_long (k : Nat) (D : CallF) (b_0 : Option Addr) (blobs_1 : Int) (more_2 : Int) (h : AHeap) : Option ((Int) × AHeap) :=
 (b_0).bind fun p1 =>
 (strings_Builder_Len k D (some (⟨p1.block, p1.off + 0 + 0, none⟩ : Addr)) h).bind fun r2 =>
 (pack_short k D blobs_1 r2.2).bind fun r3 =>
 (b_0).bind fun p4 =>
 (strings_Builder_Len k D (some (⟨p4.block, p4.off + 3, none⟩ : Addr)) r3.2).bind fun r5 =>
 let t6 : Int := (IntKind.wrap .i64 ((IntKind.wrap .i64 (r2.1 + (r3.1.size : Int))) + r5.1))
 some ((IntKind.wrap .i64 ((IntKind.wrap .i64 (t6 + more_2)) + 8)), r5.2)
noncomputable def r_pack_Builder_long : RCode := an (.n) (rOf Tryd.prog 2 Tryd.f61)
noncomputable def e_pack_Builder_long (k : Nat) (D : CallF) : Ent := entOf 61 [(0, .p), (1, .i .i64), (2, .i .i64)] [(6, .i .i64)] (pack_Builder_long k D)
theorem q_pack_Builder_long : (Tryd.f61.body).bind (rcodeOf Tryd.prog 2 Tryd.f61.ntmps) = some (strip r_pack_Builder_long) := by kernel_rfl
theorem t_pack_Builder_long (k : Nat) (D : CallF) : curF [(0, .p), (1, .i .i64), (2, .i .i64)] (fun args h => denF (C_pack_Builder_long k D) k r_pack_Builder_long [(6, .i .i64)] [none] args h) = pack_Builder_long k D := by kernel_rfl
theorem ok_pack_Builder_long {D : CallF} (hD : CSound Tryd.prog 2 D) (k : Nat) : EntOk Tryd.prog 2 (e_pack_Builder_long k D) :=
 entOf_ok2 (mkC_sound hD (EntsOk.more (ok_strings_Builder_Len hD k) (EntsOk.more (ok_pack_short hD k) (EntsOk.none)))) Tryd.func61 rfl q_pack_Builder_long rfl (t_pack_Builder_long k D)
end Ge
namespace Ge
open Go Gx Go.Proofs
set_option maxRecDepth 100000
noncomputable def C_pack_Builder_Add (k : Nat) (D : CallF) : CallF := mkC D [e_blob_Encode k D, e_blob_Id k D, e_pack_short k D, e_pack_Builder_long k D, e_strings_Builder_Len k D, e_strings_Builder_WriteString k D]
noncomputable def pack_Builder_Add (k : Nat) (D : CallF) (b_0 : Option Addr) (kind_1 : Int) (text_2 : ByteArray) (h : AHeap) : Option ((ByteArray × Int) × AHeap) :=
 (blob_Encode k D kind_1 text_2 h).bind fun r1 =>
 (if (r1.1.2 != 0) = true then
 some (((⟨#[]⟩ : ByteArray), r1.1.2), r1.2)
 else
 (blob_Id k D kind_1 text_2 r1.2).bind fun r2 =>
 (b_0).bind fun p3 =>
 (ldM (⟨p3.block, p3.off + 6, none⟩ : Addr) r2.2).bind fun x4 =>
 (lookE decS (.string ⟨#[]⟩) r2.2 x4 (.string r2.1.1)).bind fun p5 =>
 (if p5.2 = true then
 some (((⟨#[]⟩ : ByteArray), 6), r2.2)
 else
 let h6 := AHeap.resv r2.2 1
 (pack_short k D (r1.1.1.size : Int) h6).bind fun r7 =>
 (pack_short k D (text_2.size : Int) r7.2).bind fun r8 =>
 let h9 := AHeap.set r8.2 (r2.2.next + 0) (.cells [.int .u8 (IntKind.wrap .u8 kind_1)] 5 true 0)
 (bytesOf h9 (⟨(some ⟨(r2.2.next + 0), 0, some 0⟩), 1, 1⟩ : Slc)).bind fun s10 =>
 guardP (OwnW (r2.2.next + 0) h9 (fun H12 => (bytesOf H12 (⟨(some ⟨(r2.2.next + 0), 0, some 0⟩), 1, 1⟩ : Slc)).bind fun y11 => some (.string y11)) (.string s10)) (
 (if r2.1.1.size + s10.size ≤ 9223372036854775807 then
 (if (r2.1.1 ++ s10).size + r7.1.size ≤ 9223372036854775807 then
 (if ((r2.1.1 ++ s10) ++ r7.1).size + r8.1.size ≤ 9223372036854775807 then
 (b_0).bind fun p13 =>
 (ldL (⟨p13.block, p13.off + 5, none⟩ : Addr) h9).bind fun x14 =>
 let t15 : Int := (IntKind.wrap .i64 ((r1.1.1.size : Int) + ((((r2.1.1 ++ s10) ++ r7.1) ++ r8.1).size : Int)))
 (pack_Builder_long k D b_0 (IntKind.wrap .i64 ((x14.len : Int) + 1)) t15 h9).bind fun r16 =>
 joinK (fun (b17 : Option Addr) (kind18 : Int) (text19 : ByteArray) (id20 : ByteArray) (s21 : ByteArray) (line22 : ByteArray) (y23 : Bool) (h24 : AHeap) =>
 (if y23 = true then
 some (((⟨#[]⟩ : ByteArray), 2), h24)
 else
 (b17).bind fun p26 =>
 (strings_Builder_Len k D (some (⟨p26.block, p26.off + 0 + 0, none⟩ : Addr)) h24).bind fun r27 =>
 newK r27.2 ((.cells [.string ⟨#[]⟩, .int .i64 0, .int .i64 0, .int .i64 0, .int .i64 0] 55 true 0)) fun h28 =>
 (stL 5 (⟨r27.2.next, 0, none⟩ : Addr) ([.string (⟨#[]⟩ : ByteArray), .int .i64 kind18, .int .i64 r27.1, .int .i64 (s21.size : Int), .int .i64 (text19.size : Int)]) h28).bind fun h29 =>
 (ldA 5 (⟨r27.2.next, 0, none⟩ : Addr) h29).bind fun l30 =>
 (decC [.s, .i .i64, .i .i64, .i .i64, .i .i64] l30).bind fun x31 =>
 newK h29 ((.cells [.string id20, .string x31.1, .int .i64 x31.2.1, .int .i64 x31.2.2.1, .int .i64 x31.2.2.2.1, .int .i64 x31.2.2.2.2] 57 true 0)) fun h32 =>
 (b17).bind fun p33 =>
 (ldL (⟨p33.block, p33.off + 5, none⟩ : Addr) h32).bind fun x34 =>
 guardP (SameW [h29] (fun H36 => (ldL (⟨p33.block, p33.off + 5, none⟩ : Addr) H36).bind fun y35 => some (.slice y35.a y35.len y35.cap)) (.slice x34.a x34.len x34.cap)) (
 (rdS 6 (⟨(some ⟨h29.next, 0, some 0⟩), 1, 1⟩ : Slc) h32).bind fun n38 =>
 (appendA 6 64 57 h32 x34 n38 1).bind fun r37 =>
 (b17).bind fun p39 =>
 (st1 (⟨p39.block, p39.off + 5, none⟩ : Addr) (.slice r37.1.a r37.1.len r37.1.cap) r37.2).bind fun h40 =>
 (b17).bind fun p41 =>
 (ldM (⟨p41.block, p41.off + 6, none⟩ : Addr) h40).bind fun x42 =>
 (x42).bind fun r44 =>
 (updE h40 r44 (.string id20) (.string text19)).bind fun h43 =>
 (b17).bind fun p45 =>
 (strings_Builder_WriteString k D (some (⟨p45.block, p45.off + 0 + 0, none⟩ : Addr)) s21 h43).bind fun r46 =>
 (b17).bind fun p47 =>
 (strings_Builder_WriteString k D (some (⟨p47.block, p47.off + 3, none⟩ : Addr)) line22 r46.2).bind fun r48 =>
 some ((id20, 0), r48.2)))) fun j25 =>
 (b_0).bind fun p49 =>
 (ldI .i64 (⟨p49.block, p49.off + 2, none⟩ : Addr) r16.2).bind fun x50 =>
 (if (decide (r16.1 > x50)) = true then
 (b_0).bind fun p51 =>
 (ldL (⟨p51.block, p51.off + 5, none⟩ : Addr) r16.2).bind fun x52 =>
 (if (decide ((x52.len : Int) > 0)) = true then
 j25 b_0 kind_1 text_2 r2.1.1 r1.1.1 (((r2.1.1 ++ s10) ++ r7.1) ++ r8.1) true r16.2
 else
 (if (decide (r16.1 > 65536)) = true then
 j25 b_0 kind_1 text_2 r2.1.1 r1.1.1 (((r2.1.1 ++ s10) ++ r7.1) ++ r8.1) true r16.2
 else
 (b_0).bind fun p53 =>
 (ldL (⟨p53.block, p53.off + 5, none⟩ : Addr) r16.2).bind fun x54 =>
 j25 b_0 kind_1 text_2 r2.1.1 r1.1.1 (((r2.1.1 ++ s10) ++ r7.1) ++ r8.1) (decide ((x54.len : Int) ≥ 4096)) r16.2))
 else
 (if (decide (r16.1 > 65536)) = true then
 j25 b_0 kind_1 text_2 r2.1.1 r1.1.1 (((r2.1.1 ++ s10) ++ r7.1) ++ r8.1) true r16.2
 else
 (b_0).bind fun p55 =>
 (ldL (⟨p55.block, p55.off + 5, none⟩ : Addr) r16.2).bind fun x56 =>
 j25 b_0 kind_1 text_2 r2.1.1 r1.1.1 (((r2.1.1 ++ s10) ++ r7.1) ++ r8.1) (decide ((x56.len : Int) ≥ 4096)) r16.2))
 else none)
 else none)
 else none))))
noncomputable def r_pack_Builder_Add : RCode := an (.s .n (.s .n (.s .n (.s .n (.s .n (.s .n (.s .n (.s (.s (.j [(0, .p), (1, .i .i64), (2, .s), (6, .s), (8, .s), (11, .s), (91, .b)] .n) .n) (.s .n (.s (.r [(1, .st [.s, .i .i64, .i .i64, .i .i64, .i .i64])]) .n)))))))))) (rOf Tryd.prog 2 Tryd.f28)
noncomputable def e_pack_Builder_Add (k : Nat) (D : CallF) : Ent := entOf 28 [(0, .p), (1, .i .i64), (2, .s)] [(6, .s), (7, .i .i64)] (pack_Builder_Add k D)
theorem q_pack_Builder_Add : (Tryd.f28.body).bind (rcodeOf Tryd.prog 2 Tryd.f28.ntmps) = some (strip r_pack_Builder_Add) := by kernel_rfl
theorem t_pack_Builder_Add (k : Nat) (D : CallF) : curF [(0, .p), (1, .i .i64), (2, .s)] (fun args h => denF (C_pack_Builder_Add k D) k r_pack_Builder_Add [(6, .s), (7, .i .i64)] [none, none] args h) = pack_Builder_Add k D := by kernel_rfl
theorem ok_pack_Builder_Add {D : CallF} (hD : CSound Tryd.prog 2 D) (k : Nat) : EntOk Tryd.prog 2 (e_pack_Builder_Add k D) :=
 entOf_ok2 (mkC_sound hD (EntsOk.more (ok_blob_Encode hD k) (EntsOk.more (ok_blob_Id hD k) (EntsOk.more (ok_pack_short hD k) (EntsOk.more (ok_pack_Builder_long hD k) (EntsOk.more (ok_strings_Builder_Len hD k) (EntsOk.more (ok_strings_Builder_WriteString hD k) (EntsOk.none)))))))) Tryd.func28 rfl q_pack_Builder_Add rfl (t_pack_Builder_Add k D)
end Ge
namespace Ge
open Go Gx Go.Proofs
set_option maxRecDepth 100000
noncomputable def C_num_Fixed (_k : Nat) (D : CallF) : CallF := mkC D []
noncomputable def num_Fixed_l0b (_k : Nat) (_D : CallF) (j11 : Int → Int → Slc → AHeap → Option ((ByteArray × Int) × AHeap)) (rec24 : Int → Int → Slc → Int → Int → AHeap → Option ((ByteArray × Int) × AHeap)) (n18 : Int) (bytes19 : Int) (b20 : Slc) (y21 : Int) (y22 : Int) (h23 : AHeap) : Option ((ByteArray × Int) × AHeap) :=
 (if (decide (y22 < y21)) = true then
 let t25 : Int := (IntKind.wrap .i64 ((IntKind.wrap .i64 (bytes19 - 1)) - y22))
 (if 0 ≤ (IntKind.wrap .i64 (8 * y22)) then
 let t26 : Int := (Int.fdiv n18 (2 ^ (min ((IntKind.wrap .i64 (8 * y22))).toNat (IntKind.bits .i64))))
 (Gx.idxL 1 b20 t25).bind fun q27 =>
 (st1 q27 (.int .u8 (IntKind.wrap .u8 t26)) h23).bind fun h28 =>
 rec24 n18 bytes19 b20 y21 (IntKind.wrap .i64 (y22 + 1)) h28
 else none)
 else
 j11 n18 bytes19 b20 h23)
noncomputable def num_Fixed_l0 (k : Nat) (D : CallF) (j11 : Int → Int → Slc → AHeap → Option ((ByteArray × Int) × AHeap)) : Int → Int → Slc → Int → Int → AHeap → Option ((ByteArray × Int) × AHeap) :=
 iterK (α := Int → Int → Slc → Int → Int → AHeap → Option ((ByteArray × Int) × AHeap)) (fun _ _ _ _ _ _ => none) k (num_Fixed_l0b k D j11)
noncomputable def num_Fixed (k : Nat) (D : CallF) (n_0 : Int) (bytes_1 : Int) (h : AHeap) : Option ((ByteArray × Int) × AHeap) :=
 joinK (fun (n1 : Int) (bytes2 : Int) (y3 : Bool) (h4 : AHeap) =>
 (if y3 = true then
 some (((⟨#[]⟩ : ByteArray), 1), h4)
 else
 (if 0 ≤ bytes2 ∧ bytes2 ≤ bytes2 ∧ bytes2 ≤ 281474976710656 ∧ 1 * bytes2 ≤ 281474976710656 then
 let h6 := AHeap.new h4 (.cells (zerosL (bytes2).toNat [.int .u8 0]) 5 true 0)
 joinK (fun (n7 : Int) (bytes8 : Int) (b9 : Slc) (h10 : AHeap) =>
 joinK (fun (b12 : Slc) (y13 : Bool) (h14 : AHeap) =>
 (if y13 = true then
 some (((⟨#[]⟩ : ByteArray), 1), h14)
 else
 (bytesOf h14 b12).bind fun s16 =>
 some ((s16, 0), h14))) fun j15 =>
 (if (decide (bytes8 < 8)) = true then
 (if 0 ≤ (IntKind.wrap .i64 (8 * bytes8)) then
 let t17 : Int := (Int.fdiv n7 (2 ^ (min ((IntKind.wrap .i64 (8 * bytes8))).toNat (IntKind.bits .i64))))
 j15 b9 (decide (t17 > 0)) h10
 else none)
 else
 j15 b9 false h10)) fun j11 =>
 num_Fixed_l0 k D j11 n1 bytes2 (⟨(some ⟨h4.next, 0, some 0⟩), (bytes2).toNat, (bytes2).toNat⟩ : Slc) ((bytes2).toNat : Int) 0 h6
 else none))) fun j5 =>
 (if (decide (bytes_1 < 1)) = true then
 j5 n_0 bytes_1 true h
 else
 (if (decide (bytes_1 > 8)) = true then
 j5 n_0 bytes_1 true h
 else
 j5 n_0 bytes_1 (decide (n_0 < 0)) h))
noncomputable def r_num_Fixed : RCode := an (.s .n (.s (.s (.j [(0, .i .i64), (1, .i .i64), (17, .b)] .n) .n) (.s .n (.s (.j [(0, .i .i64), (1, .i .i64), (6, .l)] (.s .n (.b (.l [(0, .i .i64), (1, .i .i64), (6, .l), (21, .i .i64), (22, .i .i64)] .n)))) (.s (.s (.j [(6, .l), (45, .b)] .n) .n) .n))))) (rOf Tryd.prog 2 Tryd.f65)
noncomputable def e_num_Fixed (k : Nat) (D : CallF) : Ent := entOf 65 [(0, .i .i64), (1, .i .i64)] [(4, .s), (5, .i .i64)] (num_Fixed k D)
theorem q_num_Fixed : (Tryd.f65.body).bind (rcodeOf Tryd.prog 2 Tryd.f65.ntmps) = some (strip r_num_Fixed) := by kernel_rfl
theorem t_num_Fixed (k : Nat) (D : CallF) : curF [(0, .i .i64), (1, .i .i64)] (fun args h => denF (C_num_Fixed k D) k r_num_Fixed [(4, .s), (5, .i .i64)] [none, none] args h) = num_Fixed k D := by kernel_rfl
theorem ok_num_Fixed {D : CallF} (hD : CSound Tryd.prog 2 D) (k : Nat) : EntOk Tryd.prog 2 (e_num_Fixed k D) :=
 entOf_ok2 (mkC_sound hD (EntsOk.none)) Tryd.func65 rfl q_num_Fixed rfl (t_num_Fixed k D)
end Ge
namespace Ge
open Go Gx Go.Proofs
set_option maxRecDepth 100000
noncomputable def C_pack_Builder_Finish (k : Nat) (D : CallF) : CallF := mkC D [e_pack_short k D, e_strings_Builder_String k D, e_num_Fixed k D, e_sha_Sum k D, e_pack_Builder_empty k D]
noncomputable def pack_Builder_Finish_l0b (_k : Nat) (_D : CallF) (j20 : (Option Addr) → ByteArray → Slc → AHeap → Option ((ByteArray × Slc) × AHeap)) (rec29 : (Option Addr) → ByteArray → Slc → ByteArray → Int → Int → AHeap → Option ((ByteArray × Slc) × AHeap)) (b22 : Option Addr) (s23 : ByteArray) (items24 : Slc) (id25 : ByteArray) (y26 : Int) (y27 : Int) (h28 : AHeap) : Option ((ByteArray × Slc) × AHeap) :=
 (if (decide (y27 < y26)) = true then
 (Gx.idxL 6 items24 y27).bind fun q30 =>
 (st1 (⟨q30.block, q30.off + 1 + 0, none⟩ : Addr) (.string id25) h28).bind fun h31 =>
 rec29 b22 s23 items24 id25 y26 (IntKind.wrap .i64 (y27 + 1)) h31
 else
 j20 b22 s23 items24 h28)
noncomputable def pack_Builder_Finish_l0 (k : Nat) (D : CallF) (j20 : (Option Addr) → ByteArray → Slc → AHeap → Option ((ByteArray × Slc) × AHeap)) : (Option Addr) → ByteArray → Slc → ByteArray → Int → Int → AHeap → Option ((ByteArray × Slc) × AHeap) :=
 iterK (α := (Option Addr) → ByteArray → Slc → ByteArray → Int → Int → AHeap → Option ((ByteArray × Slc) × AHeap)) (fun _ _ _ _ _ _ _ => none) k (pack_Builder_Finish_l0b k D j20)
noncomputable def pack_Builder_Finish (k : Nat) (D : CallF) (b_0 : Option Addr) (h : AHeap) : Option ((ByteArray × Slc) × AHeap) :=
 (b_0).bind fun p1 =>
 (ldL (⟨p1.block, p1.off + 5, none⟩ : Addr) h).bind fun x2 =>
 (if ((x2.len : Int) == 0) = true then
 some (((⟨#[]⟩ : ByteArray), (⟨none, 0, 0⟩ : Slc)), h)
 else
 (b_0).bind fun p3 =>
 (ldL (⟨p3.block, p3.off + 5, none⟩ : Addr) h).bind fun x4 =>
 (pack_short k D (x4.len : Int) h).bind fun r5 =>
 (b_0).bind fun p6 =>
 (strings_Builder_String k D (some (⟨p6.block, p6.off + 3, none⟩ : Addr)) r5.2).bind fun r7 =>
 (if r5.1.size + r7.1.size ≤ 9223372036854775807 then
 (num_Fixed k D ((r5.1 ++ r7.1).size : Int) 4 r7.2).bind fun r8 =>
 (b_0).bind fun p9 =>
 (strings_Builder_String k D (some (⟨p9.block, p9.off + 0 + 0, none⟩ : Addr)) r8.2).bind fun r10 =>
 (if r10.1.size + (r5.1 ++ r7.1).size ≤ 9223372036854775807 then
 (if (r10.1 ++ (r5.1 ++ r7.1)).size + r8.1.1.size ≤ 9223372036854775807 then
 (if ((r10.1 ++ (r5.1 ++ r7.1)) ++ r8.1.1).size + (⟨#[80, 69, 78, 68]⟩ : ByteArray).size ≤ 9223372036854775807 then
 let s11 : ByteArray := (((r10.1 ++ (r5.1 ++ r7.1)) ++ r8.1.1) ++ (⟨#[80, 69, 78, 68]⟩ : ByteArray))
 newK r10.2 ((.cells [.string s11] 9 true 0)) fun h12 =>
 (sha_Sum k D (⟨(some ⟨r10.2.next, 0, some 0⟩), 1, 1⟩ : Slc) h12).bind fun r13 =>
 (b_0).bind fun p14 =>
 (ldL (⟨p14.block, p14.off + 5, none⟩ : Addr) r13.2).bind fun x15 =>
 joinK (fun (b16 : Option Addr) (s17 : ByteArray) (items18 : Slc) (h19 : AHeap) =>
 (pack_Builder_empty k D b16 h19).bind fun r21 =>
 some ((s17, items18), r21.2)) fun j20 =>
 pack_Builder_Finish_l0 k D j20 b_0 s11 x15 r13.1 (x15.len : Int) 0 r13.2
 else none)
 else none)
 else none)
 else none))
noncomputable def r_pack_Builder_Finish : RCode := an (.s .n (.s .n (.s .n (.s .n (.s .n (.s .n (.s .n (.s (.j [(0, .p), (2, .s), (3, .l)] (.s .n (.b (.l [(0, .p), (2, .s), (3, .l), (7, .s), (50, .i .i64), (51, .i .i64)] .n)))) .n)))))))) (rOf Tryd.prog 2 Tryd.f29)
noncomputable def e_pack_Builder_Finish (k : Nat) (D : CallF) : Ent := entOf 29 [(0, .p)] [(2, .s), (3, .l)] (pack_Builder_Finish k D)
theorem q_pack_Builder_Finish : (Tryd.f29.body).bind (rcodeOf Tryd.prog 2 Tryd.f29.ntmps) = some (strip r_pack_Builder_Finish) := by kernel_rfl
theorem t_pack_Builder_Finish (k : Nat) (D : CallF) : curF [(0, .p)] (fun args h => denF (C_pack_Builder_Finish k D) k r_pack_Builder_Finish [(2, .s), (3, .l)] [none, none] args h) = pack_Builder_Finish k D := by kernel_rfl
theorem ok_pack_Builder_Finish {D : CallF} (hD : CSound Tryd.prog 2 D) (k : Nat) : EntOk Tryd.prog 2 (e_pack_Builder_Finish k D) :=
 entOf_ok2 (mkC_sound hD (EntsOk.more (ok_pack_short hD k) (EntsOk.more (ok_strings_Builder_String hD k) (EntsOk.more (ok_num_Fixed hD k) (EntsOk.more (ok_sha_Sum hD k) (EntsOk.more (ok_pack_Builder_empty hD k) (EntsOk.none))))))) Tryd.func29 rfl q_pack_Builder_Finish rfl (t_pack_Builder_Finish k D)
end Ge
namespace Ge
open Go Gx Go.Proofs
set_option maxRecDepth 100000
end Ge
namespace Ge
open Go Gx Go.Proofs
set_option maxRecDepth 100000
end Ge
namespace Ge
open Go Gx Go.Proofs
set_option maxRecDepth 100000
end Ge
namespace Ge
open Go Gx Go.Proofs
set_option maxRecDepth 100000
end Ge
namespace Ge
open Go Gx Go.Proofs
set_option maxRecDepth 100000
end Ge
namespace Ge
open Go Gx Go.Proofs
set_option maxRecDepth 100000
end Ge
namespace Ge
open Go Gx Go.Proofs
set_option maxRecDepth 100000
end Ge
namespace Ge
open Go Gx Go.Proofs
set_option maxRecDepth 100000
end Ge
namespace Ge
open Go Gx Go.Proofs
set_option maxRecDepth 100000
end Ge
namespace Ge
open Go Gx Go.Proofs
set_option maxRecDepth 100000
noncomputable def C_strings_HasPrefix (k : Nat) (D : CallF) : CallF := mkC D [e_internal_stringslite_HasPrefix k D]
noncomputable def strings_HasPrefix (k : Nat) (D : CallF) (s_0 : ByteArray) (prefix_1 : ByteArray) (h : AHeap) : Option ((Bool) × AHeap) :=
 (internal_stringslite_HasPrefix k D s_0 prefix_1 h).bind fun r1 =>
 some (r1.1, r1.2)
noncomputable def r_strings_HasPrefix : RCode := an (.n) (rOf Tryd.prog 2 Tryd.f96)
noncomputable def e_strings_HasPrefix (k : Nat) (D : CallF) : Ent := entOf 96 [(0, .s), (1, .s)] [(4, .b)] (strings_HasPrefix k D)
theorem q_strings_HasPrefix : (Tryd.f96.body).bind (rcodeOf Tryd.prog 2 Tryd.f96.ntmps) = some (strip r_strings_HasPrefix) := by kernel_rfl
theorem t_strings_HasPrefix (k : Nat) (D : CallF) : curF [(0, .s), (1, .s)] (fun args h => denF (C_strings_HasPrefix k D) k r_strings_HasPrefix [(4, .b)] [none] args h) = strings_HasPrefix k D := by kernel_rfl
theorem ok_strings_HasPrefix {D : CallF} (hD : CSound Tryd.prog 2 D) (k : Nat) : EntOk Tryd.prog 2 (e_strings_HasPrefix k D) :=
 entOf_ok2 (mkC_sound hD (EntsOk.more (ok_internal_stringslite_HasPrefix hD k) (EntsOk.none))) Tryd.func96 rfl q_strings_HasPrefix rfl (t_strings_HasPrefix k D)
end Ge
namespace Ge
open Go Gx Go.Proofs
set_option maxRecDepth 100000
noncomputable def C_strings_HasSuffix (k : Nat) (D : CallF) : CallF := mkC D [e_internal_stringslite_HasSuffix k D]
noncomputable def strings_HasSuffix (k : Nat) (D : CallF) (s_0 : ByteArray) (suffix_1 : ByteArray) (h : AHeap) : Option ((Bool) × AHeap) :=
 (internal_stringslite_HasSuffix k D s_0 suffix_1 h).bind fun r1 =>
 some (r1.1, r1.2)
noncomputable def r_strings_HasSuffix : RCode := an (.n) (rOf Tryd.prog 2 Tryd.f97)
noncomputable def e_strings_HasSuffix (k : Nat) (D : CallF) : Ent := entOf 97 [(0, .s), (1, .s)] [(4, .b)] (strings_HasSuffix k D)
theorem q_strings_HasSuffix : (Tryd.f97.body).bind (rcodeOf Tryd.prog 2 Tryd.f97.ntmps) = some (strip r_strings_HasSuffix) := by kernel_rfl
theorem t_strings_HasSuffix (k : Nat) (D : CallF) : curF [(0, .s), (1, .s)] (fun args h => denF (C_strings_HasSuffix k D) k r_strings_HasSuffix [(4, .b)] [none] args h) = strings_HasSuffix k D := by kernel_rfl
theorem ok_strings_HasSuffix {D : CallF} (hD : CSound Tryd.prog 2 D) (k : Nat) : EntOk Tryd.prog 2 (e_strings_HasSuffix k D) :=
 entOf_ok2 (mkC_sound hD (EntsOk.more (ok_internal_stringslite_HasSuffix hD k) (EntsOk.none))) Tryd.func97 rfl q_strings_HasSuffix rfl (t_strings_HasSuffix k D)
end Ge
namespace Ge
open Go Gx Go.Proofs
set_option maxRecDepth 100000
noncomputable def C_pack_parts (k : Nat) (D : CallF) : CallF := mkC D [e_num_Read k D, e_num_Reader_Fixed k D, e_strings_HasPrefix k D, e_strings_HasSuffix k D]
noncomputable def pack_parts (k : Nat) (D : CallF) (s_0 : ByteArray) (h : AHeap) : Option ((Int × ByteArray × Bool) × AHeap) :=
 joinK (fun (s1 : ByteArray) (y2 : Bool) (h3 : AHeap) =>
 (if y2 = true then
 some ((0, (⟨#[]⟩ : ByteArray), false), h3)
 else
 (Gx.subS s1 none (some (IntKind.wrap .i64 ((s1.size : Int) - 8)))).bind fun s5 =>
 (Gx.subS s1 (some (s5.size : Int)) none).bind fun s6 =>
 (num_Read k D s6 h3).bind fun r7 =>
 (num_Reader_Fixed k D r7.1 4 r7.2).bind fun r8 =>
 (if (decide (r8.1 > (IntKind.wrap .i64 ((s5.size : Int) - 5)))) = true then
 some ((0, (⟨#[]⟩ : ByteArray), false), r8.2)
 else
 (Gx.subS s5 (some (IntKind.wrap .i64 ((s5.size : Int) - r8.1))) none).bind fun s9 =>
 some (((IntKind.wrap .i64 ((s5.size : Int) - r8.1)), s9, true), r8.2)))) fun j4 =>
 (if (decide ((s_0.size : Int) > 65536)) = true then
 j4 s_0 true h
 else
 (if (decide ((s_0.size : Int) < 14)) = true then
 j4 s_0 true h
 else
 (strings_HasPrefix k D s_0 (⟨#[71, 82, 84, 80, 1]⟩ : ByteArray) h).bind fun r10 =>
 (if (!r10.1) = true then
 j4 s_0 true r10.2
 else
 (strings_HasSuffix k D s_0 (⟨#[80, 69, 78, 68]⟩ : ByteArray) r10.2).bind fun r11 =>
 j4 s_0 (!r11.1) r11.2)))
noncomputable def r_pack_parts : RCode := an (.s .n (.s (.s (.j [(0, .s), (24, .b)] .n) .n) .n)) (rOf Tryd.prog 2 Tryd.f66)
noncomputable def e_pack_parts (k : Nat) (D : CallF) : Ent := entOf 66 [(0, .s)] [(2, .i .i64), (3, .s), (4, .b)] (pack_parts k D)
theorem q_pack_parts : (Tryd.f66.body).bind (rcodeOf Tryd.prog 2 Tryd.f66.ntmps) = some (strip r_pack_parts) := by kernel_rfl
theorem t_pack_parts (k : Nat) (D : CallF) : curF [(0, .s)] (fun args h => denF (C_pack_parts k D) k r_pack_parts [(2, .i .i64), (3, .s), (4, .b)] [none, none, none] args h) = pack_parts k D := by kernel_rfl
theorem ok_pack_parts {D : CallF} (hD : CSound Tryd.prog 2 D) (k : Nat) : EntOk Tryd.prog 2 (e_pack_parts k D) :=
 entOf_ok2 (mkC_sound hD (EntsOk.more (ok_num_Read hD k) (EntsOk.more (ok_num_Reader_Fixed hD k) (EntsOk.more (ok_strings_HasPrefix hD k) (EntsOk.more (ok_strings_HasSuffix hD k) (EntsOk.none)))))) Tryd.func66 rfl q_pack_parts rfl (t_pack_parts k D)
end Ge
namespace Ge
open Go Gx Go.Proofs
set_option maxRecDepth 100000
noncomputable def C_num_Reader_End (k : Nat) (D : CallF) : CallF := mkC D [e_num_Reader_Left k D, e_num_Reader_Fail k D]
noncomputable def num_Reader_End (k : Nat) (D : CallF) (r_0 : Option Addr) (h : AHeap) : Option ((Int) × AHeap) :=
 joinK (fun (r1 : Option Addr) (h2 : AHeap) =>
 (r1).bind fun p4 =>
 (ldI .i64 (⟨p4.block, p4.off + 1, none⟩ : Addr) h2).bind fun x5 =>
 some (x5, h2)) fun j3 =>
 (num_Reader_Left k D r_0 h).bind fun r6 =>
 (if (decide (r6.1 > 0)) = true then
 (num_Reader_Fail k D r_0 3 r6.2).bind fun r7 =>
 j3 r_0 r7.2
 else
 j3 r_0 r6.2)
noncomputable def r_num_Reader_End : RCode := an (.s .n (.s (.j [(0, .p)] .n) .n)) (rOf Tryd.prog 2 Tryd.f71)
noncomputable def e_num_Reader_End (k : Nat) (D : CallF) : Ent := entOf 71 [(0, .p)] [(2, .i .i64)] (num_Reader_End k D)
theorem q_num_Reader_End : (Tryd.f71.body).bind (rcodeOf Tryd.prog 2 Tryd.f71.ntmps) = some (strip r_num_Reader_End) := by kernel_rfl
theorem t_num_Reader_End (k : Nat) (D : CallF) : curF [(0, .p)] (fun args h => denF (C_num_Reader_End k D) k r_num_Reader_End [(2, .i .i64)] [none] args h) = num_Reader_End k D := by kernel_rfl
theorem ok_num_Reader_End {D : CallF} (hD : CSound Tryd.prog 2 D) (k : Nat) : EntOk Tryd.prog 2 (e_num_Reader_End k D) :=
 entOf_ok2 (mkC_sound hD (EntsOk.more (ok_num_Reader_Left hD k) (EntsOk.more (ok_num_Reader_Fail hD k) (EntsOk.none)))) Tryd.func71 rfl q_num_Reader_End rfl (t_num_Reader_End k D)
end Ge
namespace Ge
open Go Gx Go.Proofs
set_option maxRecDepth 100000
noncomputable def C_pack_item (k : Nat) (D : CallF) : CallF := mkC D [e_num_Reader_Bytes k D, e_num_Reader_Fixed k D, e_num_Reader_Short k D]
noncomputable def pack_item (k : Nat) (D : CallF) (r_0 : Option Addr) (h : AHeap) : Option (((ByteArray × ByteArray × Int × Int × Int × Int)) × AHeap) :=
 newK h ((.cells [.string ⟨#[]⟩, .string ⟨#[]⟩, .int .i64 0, .int .i64 0, .int .i64 0, .int .i64 0] 57 true 0)) fun h1 =>
 (num_Reader_Bytes k D r_0 32 h1).bind fun r2 =>
 newK r2.2 ((.cells [.string ⟨#[]⟩, .string ⟨#[]⟩, .int .i64 0, .int .i64 0, .int .i64 0, .int .i64 0] 57 true 0)) fun h3 =>
 (stL 6 (⟨r2.2.next, 0, none⟩ : Addr) ([.string r2.1, .string (⟨#[]⟩ : ByteArray), .int .i64 0, .int .i64 0, .int .i64 0, .int .i64 0]) h3).bind fun h4 =>
 (num_Reader_Fixed k D r_0 1 h4).bind fun r5 =>
 (st1 (⟨r2.2.next, 2, none⟩ : Addr) (.int .i64 r5.1) r5.2).bind fun h6 =>
 (num_Reader_Short k D r_0 65536 h6).bind fun r7 =>
 (st1 (⟨r2.2.next, 4, none⟩ : Addr) (.int .i64 r7.1) r7.2).bind fun h8 =>
 (num_Reader_Short k D r_0 65536 h8).bind fun r9 =>
 (st1 (⟨r2.2.next, 5, none⟩ : Addr) (.int .i64 r9.1) r9.2).bind fun h10 =>
 (ldA 6 (⟨r2.2.next, 0, none⟩ : Addr) h10).bind fun l11 =>
 (decC [.s, .s, .i .i64, .i .i64, .i .i64, .i .i64] l11).bind fun x12 =>
 (stL 6 (⟨h.next, 0, none⟩ : Addr) ([.string x12.1, .string x12.2.1, .int .i64 x12.2.2.1, .int .i64 x12.2.2.2.1, .int .i64 x12.2.2.2.2.1, .int .i64 x12.2.2.2.2.2]) h10).bind fun h13 =>
 (ldA 6 (⟨h.next, 0, none⟩ : Addr) h13).bind fun l14 =>
 (decC [.s, .s, .i .i64, .i .i64, .i .i64, .i .i64] l14).bind fun x15 =>
 some ((x15.1, x15.2.1, x15.2.2.1, x15.2.2.2.1, x15.2.2.2.2.1, x15.2.2.2.2.2), h13)
noncomputable def r_pack_item : RCode := an (.s .n (.s .n (.s .n (.s .n (.s .n (.s (.r [(0, .st [.s, .s, .i .i64, .i .i64, .i .i64, .i .i64])]) .n)))))) (rOf Tryd.prog 2 Tryd.f69)
noncomputable def e_pack_item (k : Nat) (D : CallF) : Ent := entOf 69 [(0, .p)] [(2, .st [.s, .s, .i .i64, .i .i64, .i .i64, .i .i64])] (pack_item k D)
theorem q_pack_item : (Tryd.f69.body).bind (rcodeOf Tryd.prog 2 Tryd.f69.ntmps) = some (strip r_pack_item) := by kernel_rfl
theorem t_pack_item (k : Nat) (D : CallF) : curF [(0, .p)] (fun args h => denF (C_pack_item k D) k r_pack_item [(2, .st [.s, .s, .i .i64, .i .i64, .i .i64, .i .i64])] [some (.agg 6)] args h) = pack_item k D := by kernel_rfl
theorem ok_pack_item {D : CallF} (hD : CSound Tryd.prog 2 D) (k : Nat) : EntOk Tryd.prog 2 (e_pack_item k D) :=
 entOf_ok2 (mkC_sound hD (EntsOk.more (ok_num_Reader_Bytes hD k) (EntsOk.more (ok_num_Reader_Fixed hD k) (EntsOk.more (ok_num_Reader_Short hD k) (EntsOk.none))))) Tryd.func69 rfl q_pack_item rfl (t_pack_item k D)
end Ge
namespace Ge
open Go Gx Go.Proofs
set_option maxRecDepth 100000
noncomputable def C_pack_Parse (k : Nat) (D : CallF) : CallF := mkC D [e_pack_parts k D, e_num_Read k D, e_num_Reader_Short k D, e_sha_Sum k D, e_num_Reader_End k D, e_pack_item k D, e_num_Reader_Err k D]
noncomputable def pack_Parse_l0b (k : Nat) (D : CallF) (j12 : Int → (Option Addr) → Int → Slc → AHeap → Option ((Slc × Int) × AHeap)) (rec27 : Int → (Option Addr) → Int → ByteArray → (Option Nat) → Slc → Int → Int → AHeap → Option ((Slc × Int) × AHeap)) (fromv18 : Int) (r19 : Option Addr) (atv20 : Int) (id21 : ByteArray) (seen22 : Option Nat) (out23 : Slc) (y24 : Int) (y25 : Int) (h26 : AHeap) : Option ((Slc × Int) × AHeap) :=
 (if (decide (y25 < y24)) = true then
 (pack_item k D r19 h26).bind fun r28 =>
 newK r28.2 ((.cells [.string ⟨#[]⟩, .string ⟨#[]⟩, .int .i64 0, .int .i64 0, .int .i64 0, .int .i64 0] 57 true 0)) fun h29 =>
 (stL 6 (⟨r28.2.next, 0, none⟩ : Addr) ([.string r28.1.1, .string r28.1.2.1, .int .i64 r28.1.2.2.1, .int .i64 r28.1.2.2.2.1, .int .i64 r28.1.2.2.2.2.1, .int .i64 r28.1.2.2.2.2.2]) h29).bind fun h30 =>
 joinK (fun (fromv31 : Int) (r32 : Option Addr) (atv33 : Int) (id34 : ByteArray) (seen35 : Option Nat) (out36 : Slc) (x37 : Option Addr) (kind38 : Bool) (y39 : Int) (y40 : Int) (h41 : AHeap) =>
 joinK (fun (fromv43 : Int) (r44 : Option Addr) (atv45 : Int) (id46 : ByteArray) (seen47 : Option Nat) (out48 : Slc) (x49 : Option Addr) (y50 : Int) (y51 : Int) (y52 : Bool) (h53 : AHeap) =>
 (if y52 = true then
 some (((⟨none, 0, 0⟩ : Slc), 140), h53)
 else
 (x49).bind fun p55 =>
 (ldS (⟨p55.block, p55.off + 0, none⟩ : Addr) h53).bind fun x56 =>
 (seen47).bind fun r58 =>
 (updE h53 r58 (.string x56) (.bool true)).bind fun h57 =>
 (x49).bind fun p59 =>
 (st1 (⟨p59.block, p59.off + 1 + 0, none⟩ : Addr) (.string id46) h57).bind fun h60 =>
 (x49).bind fun p61 =>
 (st1 (⟨p61.block, p61.off + 1 + 2, none⟩ : Addr) (.int .i64 atv45) h60).bind fun h62 =>
 (x49).bind fun p63 =>
 (ldI .i64 (⟨p63.block, p63.off + 1 + 3, none⟩ : Addr) h62).bind fun x64 =>
 (x49).bind fun p65 =>
 (ldA 6 p65 h62).bind fun l66 =>
 (decC [.s, .s, .i .i64, .i .i64, .i .i64, .i .i64] l66).bind fun x67 =>
 newK h62 ((.cells [.string x67.1, .string x67.2.1, .int .i64 x67.2.2.1, .int .i64 x67.2.2.2.1, .int .i64 x67.2.2.2.2.1, .int .i64 x67.2.2.2.2.2] 57 true 0)) fun h68 =>
 (rdS 6 (⟨(some ⟨h62.next, 0, some 0⟩), 1, 1⟩ : Slc) h68).bind fun n70 =>
 (appendA 6 64 57 h68 out48 n70 1).bind fun r69 =>
 rec27 fromv43 r44 (IntKind.wrap .i64 (atv45 + x64)) id46 seen47 r69.1 y50 (IntKind.wrap .i64 (y51 + 1)) r69.2)) fun j54 =>
 (num_Reader_Err k D r32 h41).bind fun r71 =>
 (if (r71.1 != 0) = true then
 j54 fromv31 r32 atv33 id34 seen35 out36 x37 y39 y40 true r71.2
 else
 (if (!kind38) = true then
 j54 fromv31 r32 atv33 id34 seen35 out36 x37 y39 y40 true r71.2
 else
 (x37).bind fun p72 =>
 (ldI .i64 (⟨p72.block, p72.off + 1 + 3, none⟩ : Addr) r71.2).bind fun x73 =>
 (if (decide (x73 < 1)) = true then
 j54 fromv31 r32 atv33 id34 seen35 out36 x37 y39 y40 true r71.2
 else
 (x37).bind fun p74 =>
 (ldI .i64 (⟨p74.block, p74.off + 1 + 3, none⟩ : Addr) r71.2).bind fun x75 =>
 (if (decide (x75 > (IntKind.wrap .i64 (fromv31 - atv33)))) = true then
 j54 fromv31 r32 atv33 id34 seen35 out36 x37 y39 y40 true r71.2
 else
 (x37).bind fun p76 =>
 (ldS (⟨p76.block, p76.off + 0, none⟩ : Addr) r71.2).bind fun x77 =>
 (lookE decB (.bool false) r71.2 seen35 (.string x77)).bind fun p78 =>
 j54 fromv31 r32 atv33 id34 seen35 out36 x37 y39 y40 p78.1 r71.2))))) fun j42 =>
 (ldI .i64 (⟨r28.2.next, 2, none⟩ : Addr) h30).bind fun x79 =>
 (if (x79 == 1) = true then
 j42 fromv18 r19 atv20 id21 seen22 out23 (some (⟨r28.2.next, 0, none⟩ : Addr)) true y24 y25 h30
 else
 (ldI .i64 (⟨r28.2.next, 2, none⟩ : Addr) h30).bind fun x80 =>
 j42 fromv18 r19 atv20 id21 seen22 out23 (some (⟨r28.2.next, 0, none⟩ : Addr)) (x80 == 2) y24 y25 h30)
 else
 j12 fromv18 r19 atv20 out23 h26)
noncomputable def pack_Parse_l0 (k : Nat) (D : CallF) (j12 : Int → (Option Addr) → Int → Slc → AHeap → Option ((Slc × Int) × AHeap)) : Int → (Option Addr) → Int → ByteArray → (Option Nat) → Slc → Int → Int → AHeap → Option ((Slc × Int) × AHeap) :=
 iterK (α := Int → (Option Addr) → Int → ByteArray → (Option Nat) → Slc → Int → Int → AHeap → Option ((Slc × Int) × AHeap)) (fun _ _ _ _ _ _ _ _ _ => none) k (pack_Parse_l0b k D j12)
noncomputable def pack_Parse (k : Nat) (D : CallF) (s_0 : ByteArray) (h : AHeap) : Option ((Slc × Int) × AHeap) :=
 (pack_parts k D s_0 h).bind fun r1 =>
 (if (!r1.1.2.2) = true then
 some (((⟨none, 0, 0⟩ : Slc), 140), r1.2)
 else
 (num_Read k D r1.1.2.1 r1.2).bind fun r2 =>
 (num_Reader_Short k D r2.1 4096 r2.2).bind fun r3 =>
 newK r3.2 ((.cells [.string s_0] 9 true 0)) fun h4 =>
 (sha_Sum k D (⟨(some ⟨r3.2.next, 0, some 0⟩), 1, 1⟩ : Slc) h4).bind fun r5 =>
 newK r5.2 ((.map [] 0)) fun h6 =>
 joinK (fun (fromv7 : Int) (r8 : Option Addr) (atv9 : Int) (out10 : Slc) (h11 : AHeap) =>
 joinK (fun (out13 : Slc) (y14 : Bool) (h15 : AHeap) =>
 (if y14 = true then
 some (((⟨none, 0, 0⟩ : Slc), 140), h15)
 else
 some ((out13, 0), h15))) fun j16 =>
 (num_Reader_End k D r8 h11).bind fun r17 =>
 (if (r17.1 != 0) = true then
 j16 out10 true r17.2
 else
 j16 out10 (atv9 != fromv7) r17.2)) fun j12 =>
 pack_Parse_l0 k D j12 r1.1.1 r2.1 5 r5.1 (some r5.2.next) (⟨none, 0, 0⟩ : Slc) r3.1 0 h6)
noncomputable def r_pack_Parse : RCode := an (.s .n (.s .n (.s .n (.s .n (.s .n (.s .n (.s .n (.s .n (.s .n (.s (.j [(4, .i .i64), (7, .p), (9, .i .i64), (12, .l)] (.s .n (.b (.l [(4, .i .i64), (7, .p), (9, .i .i64), (10, .s), (11, .m), (12, .l), (31, .i .i64), (32, .i .i64)] (.s .n (.s .n (.s (.b (.s .n (.s (.j [(4, .i .i64), (7, .p), (9, .i .i64), (10, .s), (11, .m), (12, .l), (13, .p), (14, .b), (31, .i .i64), (32, .i .i64)] .n) (.s (.s (.j [(4, .i .i64), (7, .p), (9, .i .i64), (10, .s), (11, .m), (12, .l), (13, .p), (31, .i .i64), (32, .i .i64), (73, .b)] .n) .n) (.s .n (.s .n (.s .n (.r [(1, .st [.s, .s, .i .i64, .i .i64, .i .i64, .i .i64])])))))))) .n))))))) (.s (.s (.j [(12, .l), (100, .b)] .n) .n) .n))))))))))) (rOf Tryd.prog 2 Tryd.f30)
noncomputable def e_pack_Parse (k : Nat) (D : CallF) : Ent := entOf 30 [(0, .s)] [(2, .l), (3, .i .i64)] (pack_Parse k D)
theorem q_pack_Parse : (Tryd.f30.body).bind (rcodeOf Tryd.prog 2 Tryd.f30.ntmps) = some (strip r_pack_Parse) := by kernel_rfl
theorem t_pack_Parse (k : Nat) (D : CallF) : curF [(0, .s)] (fun args h => denF (C_pack_Parse k D) k r_pack_Parse [(2, .l), (3, .i .i64)] [none, none] args h) = pack_Parse k D := by kernel_rfl
theorem ok_pack_Parse {D : CallF} (hD : CSound Tryd.prog 2 D) (k : Nat) : EntOk Tryd.prog 2 (e_pack_Parse k D) :=
 entOf_ok2 (mkC_sound hD (EntsOk.more (ok_pack_parts hD k) (EntsOk.more (ok_num_Read hD k) (EntsOk.more (ok_num_Reader_Short hD k) (EntsOk.more (ok_sha_Sum hD k) (EntsOk.more (ok_num_Reader_End hD k) (EntsOk.more (ok_pack_item hD k) (EntsOk.more (ok_num_Reader_Err hD k) (EntsOk.none))))))))) Tryd.func30 rfl q_pack_Parse rfl (t_pack_Parse k D)
end Ge
namespace Ge
open Go Gx Go.Proofs
set_option maxRecDepth 100000
end Ge
namespace Ge
open Go Gx Go.Proofs
set_option maxRecDepth 100000
end Ge
namespace Ge
open Go Gx Go.Proofs
set_option maxRecDepth 100000
noncomputable def C_index_Encode (k : Nat) (D : CallF) : CallF := mkC D [e_index_check k D, e_index_text k D]
noncomputable def index_Encode (k : Nat) (D : CallF) (f_0 : Slc × Slc) (h : AHeap) : Option ((ByteArray × Int) × AHeap) :=
 newK h ((.cells [.slice f_0.1.a f_0.1.len f_0.1.cap, .slice f_0.2.a f_0.2.len f_0.2.cap] 122 true 0)) fun h1 =>
 (ldA 2 (⟨h.next, 0, none⟩ : Addr) h1).bind fun l2 =>
 (decC [.l, .l] l2).bind fun x3 =>
 (index_check k D (x3.1, x3.2) h1).bind fun r4 =>
 (if (r4.1 != 0) = true then
 some (((⟨#[]⟩ : ByteArray), r4.1), r4.2)
 else
 (ldA 2 (⟨h.next, 0, none⟩ : Addr) r4.2).bind fun l5 =>
 (decC [.l, .l] l5).bind fun x6 =>
 (index_text k D (x6.1, x6.2) r4.2).bind fun r7 =>
 (if (!r7.1.2) = true then
 some (((⟨#[]⟩ : ByteArray), 2), r7.2)
 else
 some ((r7.1.1, 0), r7.2)))
noncomputable def r_index_Encode : RCode := an (.s .n (.s (.s (.r [(0, .st [.l, .l])]) .n) (.s (.r [(0, .st [.l, .l])]) .n))) (rOf Tryd.prog 2 Tryd.f72)
noncomputable def e_index_Encode (k : Nat) (D : CallF) : Ent := entOf 72 [(0, .st [.l, .l])] [(2, .s), (3, .i .i64)] (index_Encode k D)
theorem q_index_Encode : (Tryd.f72.body).bind (rcodeOf Tryd.prog 2 Tryd.f72.ntmps) = some (strip r_index_Encode) := by kernel_rfl
theorem t_index_Encode (k : Nat) (D : CallF) : curF [(0, .st [.l, .l])] (fun args h => denF (C_index_Encode k D) k r_index_Encode [(2, .s), (3, .i .i64)] [none, none] args h) = index_Encode k D := by kernel_rfl
theorem ok_index_Encode {D : CallF} (hD : CSound Tryd.prog 2 D) (k : Nat) : EntOk Tryd.prog 2 (e_index_Encode k D) :=
 entOf_ok2 (mkC_sound hD (EntsOk.more (ok_index_check hD k) (EntsOk.more (ok_index_text hD k) (EntsOk.none)))) Tryd.func72 rfl q_index_Encode rfl (t_index_Encode k D)
end Ge
namespace Ge
open Go Gx Go.Proofs
set_option maxRecDepth 100000
noncomputable def C_law16_works (k : Nat) (D : CallF) : CallF := mkC D [e_index_Encode k D]
noncomputable def law16_works (k : Nat) (D : CallF)  (h : AHeap) : Option ((Bool) × AHeap) :=
 (index_Encode k D ((⟨none, 0, 0⟩ : Slc), (⟨none, 0, 0⟩ : Slc)) h).bind fun r1 =>
 (if (r1.1.2 == 0) = true then
 some (((r1.1.1.size : Int) == 7), r1.2)
 else
 some (false, r1.2))
noncomputable def r_law16_works : RCode := an (.n) (rOf Tryd.prog 2 Tryd.f33)
noncomputable def e_law16_works (k : Nat) (D : CallF) : Ent := entOf 33 [] [(0, .b)] (law16_works k D)
theorem q_law16_works : (Tryd.f33.body).bind (rcodeOf Tryd.prog 2 Tryd.f33.ntmps) = some (strip r_law16_works) := by kernel_rfl
theorem t_law16_works (k : Nat) (D : CallF) : curF [] (fun args h => denF (C_law16_works k D) k r_law16_works [(0, .b)] [none] args h) = law16_works k D := by kernel_rfl
theorem ok_law16_works {D : CallF} (hD : CSound Tryd.prog 2 D) (k : Nat) : EntOk Tryd.prog 2 (e_law16_works k D) :=
 entOf_ok2 (mkC_sound hD (EntsOk.more (ok_index_Encode hD k) (EntsOk.none))) Tryd.func33 rfl q_law16_works rfl (t_law16_works k D)
end Ge
namespace Ge
open Go Gx Go.Proofs
set_option maxRecDepth 100000
noncomputable def C_lookup_New (_k : Nat) (D : CallF) : CallF := mkC D []
noncomputable def lookup_New (_k : Nat) (_D : CallF)  (h : AHeap) : Option (((Option Addr)) × AHeap) :=
 newK h ((.cells (List.replicate 256 (.slice none 0 0)) 125 true 0)) fun h1 =>
 some ((some (⟨h.next, 0, none⟩ : Addr)), h1)
noncomputable def r_lookup_New : RCode := an (.n) (rOf Tryd.prog 2 Tryd.f34)
noncomputable def e_lookup_New (k : Nat) (D : CallF) : Ent := entOf 34 [] [(0, .p)] (lookup_New k D)
theorem q_lookup_New : (Tryd.f34.body).bind (rcodeOf Tryd.prog 2 Tryd.f34.ntmps) = some (strip r_lookup_New) := by kernel_rfl
theorem t_lookup_New (k : Nat) (D : CallF) : curF [] (fun args h => denF (C_lookup_New k D) k r_lookup_New [(0, .p)] [none] args h) = lookup_New k D := by kernel_rfl
theorem ok_lookup_New {D : CallF} (hD : CSound Tryd.prog 2 D) (k : Nat) : EntOk Tryd.prog 2 (e_lookup_New k D) :=
 entOf_ok2 (mkC_sound hD (EntsOk.none)) Tryd.func34 rfl q_lookup_New rfl (t_lookup_New k D)
end Ge
namespace Ge
open Go Gx Go.Proofs
set_option maxRecDepth 100000
noncomputable def C_lookup_Table_list (_k : Nat) (D : CallF) : CallF := mkC D []
noncomputable def lookup_Table_list (_k : Nat) (_D : CallF) (t_0 : Option Addr) (id_1 : ByteArray) (h : AHeap) : Option (((Option Addr)) × AHeap) :=
 (if (id_1 == (⟨#[]⟩ : ByteArray)) = true then
 (t_0).bind fun p1 =>
 some ((some (⟨p1.block, p1.off + 0 + 0, none⟩ : Addr)), h)
 else
 (Gx.idxS id_1 0).bind fun b3 =>
 (t_0).bind fun p4 =>
 (Gx.idxA 256 1 (⟨p4.block, p4.off + 0, none⟩ : Addr) b3).bind fun q5 =>
 some ((some q5), h))
noncomputable def r_lookup_Table_list : RCode := an (.n) (rOf Tryd.prog 2 Tryd.f74)
noncomputable def e_lookup_Table_list (k : Nat) (D : CallF) : Ent := entOf 74 [(0, .p), (1, .s)] [(4, .p)] (lookup_Table_list k D)
theorem q_lookup_Table_list : (Tryd.f74.body).bind (rcodeOf Tryd.prog 2 Tryd.f74.ntmps) = some (strip r_lookup_Table_list) := by kernel_rfl
theorem t_lookup_Table_list (k : Nat) (D : CallF) : curF [(0, .p), (1, .s)] (fun args h => denF (C_lookup_Table_list k D) k r_lookup_Table_list [(4, .p)] [none] args h) = lookup_Table_list k D := by kernel_rfl
theorem ok_lookup_Table_list {D : CallF} (hD : CSound Tryd.prog 2 D) (k : Nat) : EntOk Tryd.prog 2 (e_lookup_Table_list k D) :=
 entOf_ok2 (mkC_sound hD (EntsOk.none)) Tryd.func74 rfl q_lookup_Table_list rfl (t_lookup_Table_list k D)
end Ge
namespace Ge
open Go Gx Go.Proofs
set_option maxRecDepth 100000
noncomputable def C_slices_BinarySearchFunc_api_Item_api_Item_api_Item (_k : Nat) (D : CallF) : CallF := mkC D []
noncomputable def slices_BinarySearchFunc_api_Item_api_Item_api_Item_l0b (k : Nat) (D : CallF) (j8 : Slc → Value → (Option Addr) → Int → Int → AHeap → Option ((Int × Bool) × AHeap)) (rec25 : Slc → Value → (Option Addr) → Int → Int → Int → AHeap → Option ((Int × Bool) × AHeap)) (x18 : Slc) (cmp19 : Value) (target20 : Option Addr) (n21 : Int) (i22 : Int) (j23 : Int) (h24 : AHeap) : Option ((Int × Bool) × AHeap) :=
 (if (decide (i22 < j23)) = true then
 let t26 : Int := (Int.fdiv (IntKind.wrap .u64 (IntKind.wrap .i64 (i22 + j23))) 2)
 (Gx.idxL 6 x18 (IntKind.wrap .i64 t26)).bind fun q27 =>
 (ldA 6 q27 h24).bind fun l28 =>
 (decC [.s, .s, .i .i64, .i .i64, .i .i64, .i .i64] l28).bind fun x29 =>
 (target20).bind fun p30 =>
 (ldA 6 p30 h24).bind fun l31 =>
 (decC [.s, .s, .i .i64, .i .i64, .i .i64, .i .i64] l31).bind fun x32 =>
 callD (C_slices_BinarySearchFunc_api_Item_api_Item_api_Item k D) cmp19 [.agg ⟨[.string x29.1, .string x29.2.1, .int .i64 x29.2.2.1, .int .i64 x29.2.2.2.1, .int .i64 x29.2.2.2.2.1, .int .i64 x29.2.2.2.2.2]⟩, .agg ⟨[.string x32.1, .string x32.2.1, .int .i64 x32.2.2.1, .int .i64 x32.2.2.2.1, .int .i64 x32.2.2.2.2.1, .int .i64 x32.2.2.2.2.2]⟩] h24 fun v33 h34 =>
 (decI .i64 v33).bind fun x35 =>
 (if (decide (x35 < 0)) = true then
 rec25 x18 cmp19 target20 n21 (IntKind.wrap .i64 ((IntKind.wrap .i64 t26) + 1)) j23 h34
 else
 rec25 x18 cmp19 target20 n21 i22 (IntKind.wrap .i64 t26) h34)
 else
 j8 x18 cmp19 target20 n21 i22 h24)
noncomputable def slices_BinarySearchFunc_api_Item_api_Item_api_Item_l0 (k : Nat) (D : CallF) (j8 : Slc → Value → (Option Addr) → Int → Int → AHeap → Option ((Int × Bool) × AHeap)) : Slc → Value → (Option Addr) → Int → Int → Int → AHeap → Option ((Int × Bool) × AHeap) :=
 iterK (α := Slc → Value → (Option Addr) → Int → Int → Int → AHeap → Option ((Int × Bool) × AHeap)) (fun _ _ _ _ _ _ _ => none) k (slices_BinarySearchFunc_api_Item_api_Item_api_Item_l0b k D j8)
noncomputable def slices_BinarySearchFunc_api_Item_api_Item_api_Item (k : Nat) (D : CallF) (x_0 : Slc) (target_1 : ByteArray × ByteArray × Int × Int × Int × Int) (cmp_2 : Value) (h : AHeap) : Option ((Int × Bool) × AHeap) :=
 newK h ((.cells [.string target_1.1, .string target_1.2.1, .int .i64 target_1.2.2.1, .int .i64 target_1.2.2.2.1, .int .i64 target_1.2.2.2.2.1, .int .i64 target_1.2.2.2.2.2] 57 true 0)) fun h1 =>
 joinK (fun (x2 : Slc) (cmp3 : Value) (target4 : Option Addr) (n5 : Int) (i6 : Int) (h7 : AHeap) =>
 (if (decide (i6 < n5)) = true then
 (Gx.idxL 6 x2 i6).bind fun q9 =>
 (ldA 6 q9 h7).bind fun l10 =>
 (decC [.s, .s, .i .i64, .i .i64, .i .i64, .i .i64] l10).bind fun x11 =>
 (target4).bind fun p12 =>
 (ldA 6 p12 h7).bind fun l13 =>
 (decC [.s, .s, .i .i64, .i .i64, .i .i64, .i .i64] l13).bind fun x14 =>
 callD (C_slices_BinarySearchFunc_api_Item_api_Item_api_Item k D) cmp3 [.agg ⟨[.string x11.1, .string x11.2.1, .int .i64 x11.2.2.1, .int .i64 x11.2.2.2.1, .int .i64 x11.2.2.2.2.1, .int .i64 x11.2.2.2.2.2]⟩, .agg ⟨[.string x14.1, .string x14.2.1, .int .i64 x14.2.2.1, .int .i64 x14.2.2.2.1, .int .i64 x14.2.2.2.2.1, .int .i64 x14.2.2.2.2.2]⟩] h7 fun v15 h16 =>
 (decI .i64 v15).bind fun x17 =>
 some ((i6, (x17 == 0)), h16)
 else
 some ((i6, false), h7))) fun j8 =>
 slices_BinarySearchFunc_api_Item_api_Item_api_Item_l0 k D j8 x_0 cmp_2 (some (⟨h.next, 0, none⟩ : Addr)) (x_0.len : Int) 0 (x_0.len : Int) h1
noncomputable def r_slices_BinarySearchFunc_api_Item_api_Item_api_Item : RCode := an (.s .n (.s .n (.s .n (.s (.j [(0, .l), (2, .v), (4, .p), (8, .i .i64), (9, .i .i64)] (.b (.l [(0, .l), (2, .v), (4, .p), (8, .i .i64), (9, .i .i64), (10, .i .i64)] (.s .n (.b (.s .n (.s (.r [(4, .st [.s, .s, .i .i64, .i .i64, .i .i64, .i .i64]), (5, .st [.s, .s, .i .i64, .i .i64, .i .i64, .i .i64]), (6, .i .i64)]) .n))))))) (.s (.r [(8, .st [.s, .s, .i .i64, .i .i64, .i .i64, .i .i64]), (9, .st [.s, .s, .i .i64, .i .i64, .i .i64, .i .i64]), (10, .i .i64)]) .n))))) (rOf Tryd.prog 2 Tryd.f75)
noncomputable def e_slices_BinarySearchFunc_api_Item_api_Item_api_Item (k : Nat) (D : CallF) : Ent := entOf 75 [(0, .l), (1, .st [.s, .s, .i .i64, .i .i64, .i .i64, .i .i64]), (2, .v)] [(6, .i .i64), (7, .b)] (slices_BinarySearchFunc_api_Item_api_Item_api_Item k D)
theorem q_slices_BinarySearchFunc_api_Item_api_Item_api_Item : (Tryd.f75.body).bind (rcodeOf Tryd.prog 2 Tryd.f75.ntmps) = some (strip r_slices_BinarySearchFunc_api_Item_api_Item_api_Item) := by kernel_rfl
theorem t_slices_BinarySearchFunc_api_Item_api_Item_api_Item (k : Nat) (D : CallF) : curF [(0, .l), (1, .st [.s, .s, .i .i64, .i .i64, .i .i64, .i .i64]), (2, .v)] (fun args h => denF (C_slices_BinarySearchFunc_api_Item_api_Item_api_Item k D) k r_slices_BinarySearchFunc_api_Item_api_Item_api_Item [(6, .i .i64), (7, .b)] [none, none] args h) = slices_BinarySearchFunc_api_Item_api_Item_api_Item k D := by kernel_rfl
theorem ok_slices_BinarySearchFunc_api_Item_api_Item_api_Item {D : CallF} (hD : CSound Tryd.prog 2 D) (k : Nat) : EntOk Tryd.prog 2 (e_slices_BinarySearchFunc_api_Item_api_Item_api_Item k D) :=
 entOf_ok2 (mkC_sound hD (EntsOk.none)) Tryd.func75 rfl q_slices_BinarySearchFunc_api_Item_api_Item_api_Item rfl (t_slices_BinarySearchFunc_api_Item_api_Item_api_Item k D)
end Ge
namespace Ge
open Go Gx Go.Proofs
set_option maxRecDepth 100000
noncomputable def C_slices_Insert_api_Item_api_Item0 (k : Nat) (D : CallF) : CallF := mkC D [e_slices_overlaps_api_Item k D]
noncomputable def slices_Insert_api_Item_api_Item0 (_k : Nat) (_D : CallF) (s_0 : Slc) (i_1 : Int) (v_2 : Slc) (h : AHeap) : Option ((Slc) × AHeap) :=
 (Gx.subL 6 s_0 (some i_1) none none).bind fun _l1 =>
 (if ((v_2.len : Int) == 0) = true then
 some (s_0, h)
 else
 (if (i_1 == (s_0.len : Int)) = true then
 (rdS 6 v_2 h).bind fun n3 =>
 (appendA 6 64 57 h s_0 n3 v_2.len).bind fun r2 =>
 some (r2.1, r2.2)
 else
 (capOf s_0).bind fun c4 =>
 (if (decide ((IntKind.wrap .i64 ((s_0.len : Int) + (v_2.len : Int))) > c4)) = true then
 (Gx.subL 6 s_0 none (some i_1) none).bind fun l5 =>
 let t6 : Int := (IntKind.wrap .i64 ((IntKind.wrap .i64 ((s_0.len : Int) + (v_2.len : Int))) - i_1))
 (if 0 ≤ t6 ∧ t6 ≤ 281474976710656 ∧ t6 * 64 ≤ 281474976710656 then
 (appendA 6 64 57 h l5 (zerosL (t6).toNat [.string ⟨#[]⟩, .string ⟨#[]⟩, .int .i64 0, .int .i64 0, .int .i64 0, .int .i64 0]) (t6).toNat).bind fun r7 =>
 (Gx.subL 6 r7.1 (some i_1) none none).bind fun l8 =>
 (rdS 6 v_2 r7.2).bind fun n10 =>
 (copyA 6 r7.2 l8 (min v_2.len l8.len) n10).bind fun h9 =>
 (Gx.subL 6 r7.1 (some (IntKind.wrap .i64 (i_1 + (v_2.len : Int)))) none none).bind fun l11 =>
 (Gx.subL 6 s_0 (some i_1) none none).bind fun l12 =>
 (rdS 6 l12 h9).bind fun n14 =>
 (copyA 6 h9 l11 (min l12.len l11.len) n14).bind fun h13 =>
 some (r7.1, h13)
 else none)
 else
 (Gx.subL 6 s_0 none (some (IntKind.wrap .i64 ((s_0.len : Int) + (v_2.len : Int)))) none).bind fun l15 =>
 (Gx.subL 6 l15 (some (IntKind.wrap .i64 (i_1 + (v_2.len : Int)))) none none).bind fun l16 =>
 (ovA v_2 l16 h).bind fun _ =>
 (Gx.subL 6 l15 (some (IntKind.wrap .i64 (i_1 + (v_2.len : Int)))) none none).bind fun l17 =>
 (Gx.subL 6 l15 (some i_1) none none).bind fun l18 =>
 (rdS 6 l18 h).bind fun n20 =>
 (copyA 6 h l17 (min l18.len l17.len) n20).bind fun h19 =>
 (Gx.subL 6 l15 (some i_1) none none).bind fun l21 =>
 (rdS 6 v_2 h19).bind fun n23 =>
 (copyA 6 h19 l21 (min v_2.len l21.len) n23).bind fun h22 =>
 some (l15, h22))))
noncomputable def r_slices_Insert_api_Item_api_Item0 : RCode := an (.n) (rOf Tryd.prog 2 Tryd.f77)
noncomputable def e_slices_Insert_api_Item_api_Item0 (k : Nat) (D : CallF) : Ent := entOf 77 [(0, .l), (1, .i .i64), (2, .l)] [(6, .l)] (slices_Insert_api_Item_api_Item0 k D)
theorem q_slices_Insert_api_Item_api_Item0 : (Tryd.f77.body).bind (rcodeOf Tryd.prog 2 Tryd.f77.ntmps) = some (strip r_slices_Insert_api_Item_api_Item0) := by kernel_rfl
theorem t_slices_Insert_api_Item_api_Item0 (k : Nat) (D : CallF) : curF [(0, .l), (1, .i .i64), (2, .l)] (fun args h => denF (C_slices_Insert_api_Item_api_Item0 k D) k r_slices_Insert_api_Item_api_Item0 [(6, .l)] [none] args h) = slices_Insert_api_Item_api_Item0 k D := by kernel_rfl
theorem ok_slices_Insert_api_Item_api_Item0 {D : CallF} (hD : CSound Tryd.prog 2 D) (k : Nat) : EntOk Tryd.prog 2 (e_slices_Insert_api_Item_api_Item0 k D) :=
 entOf_ok2 (mkC_sound hD (EntsOk.more (ok_slices_overlaps_api_Item hD k) (EntsOk.none))) Tryd.func77 rfl q_slices_Insert_api_Item_api_Item0 rfl (t_slices_Insert_api_Item_api_Item0 k D)
noncomputable def slices_Insert_api_Item_api_Item (k : Nat) (D : CallF) (s : Slc) (i : Int) (v : Slc) (h : AHeap) : Option (Slc × AHeap) := insA 6 64 57 (slices_Insert_api_Item_api_Item0 k D) s i v h
noncomputable def e_slices_Insert_api_Item_api_Item (k : Nat) (D : CallF) : Ent := entOf 77 [(0, .l), (1, .i .i64), (2, .l)] [(6, .l)] (slices_Insert_api_Item_api_Item k D)
theorem f_slices_Insert_api_Item_api_Item0 (k : Nat) (D : CallF) : slices_Insert_api_Item_api_Item0 k D = insF 6 64 57 [.string ⟨#[]⟩, .string ⟨#[]⟩, .int .i64 0, .int .i64 0, .int .i64 0, .int .i64 0] := rfl
theorem ok_slices_Insert_api_Item_api_Item {D : CallF} (hD : CSound Tryd.prog 2 D) (k : Nat) : EntOk Tryd.prog 2 (e_slices_Insert_api_Item_api_Item k D) :=
 ins_ok (ok_slices_Insert_api_Item_api_Item0 hD k) (f_slices_Insert_api_Item_api_Item0 k D) rfl rfl
end Ge
namespace Ge
open Go Gx Go.Proofs
set_option maxRecDepth 100000
noncomputable def C_lookup_Table_Add (k : Nat) (D : CallF) : CallF := mkC D [e_lookup_Table_list k D, e_slices_BinarySearchFunc_api_Item_api_Item_api_Item k D, e_slices_Insert_api_Item_api_Item k D, e_lookup_Check k D]
noncomputable def lookup_Table_Add_l1b (k : Nat) (D : CallF) (j4 : (Option Addr) → Slc → AHeap → Option ((Int) × AHeap)) (rec47 : (Option Addr) → Slc → Slc → Int → Int → AHeap → Option ((Int) × AHeap)) (t41 : Option Addr) (items42 : Slc) (y43 : Slc) (y44 : Int) (y45 : Int) (h46 : AHeap) : Option ((Int) × AHeap) :=
 (if (decide (y45 < y44)) = true then
 (Gx.idxL 6 y43 y45).bind fun q48 =>
 (ldA 6 q48 h46).bind fun l49 =>
 (decC [.s, .s, .i .i64, .i .i64, .i .i64, .i .i64] l49).bind fun x50 =>
 newK h46 ((.cells [.string ⟨#[]⟩, .string ⟨#[]⟩, .int .i64 0, .int .i64 0, .int .i64 0, .int .i64 0] 57 true 0)) fun h51 =>
 (stL 6 (⟨h46.next, 0, none⟩ : Addr) ([.string x50.1, .string x50.2.1, .int .i64 x50.2.2.1, .int .i64 x50.2.2.2.1, .int .i64 x50.2.2.2.2.1, .int .i64 x50.2.2.2.2.2]) h51).bind fun h52 =>
 (ldA 6 (⟨h46.next, 0, none⟩ : Addr) h52).bind fun l53 =>
 (decC [.s, .s, .i .i64, .i .i64, .i .i64, .i .i64] l53).bind fun x54 =>
 (lookup_Check k D (x54.1, x54.2.1, x54.2.2.1, x54.2.2.2.1, x54.2.2.2.2.1, x54.2.2.2.2.2) h52).bind fun r55 =>
 (if (r55.1 != 0) = true then
 some (r55.1, r55.2)
 else
 rec47 t41 items42 y43 y44 (IntKind.wrap .i64 (y45 + 1)) r55.2)
 else
 j4 t41 items42 h46)
noncomputable def lookup_Table_Add_l1 (k : Nat) (D : CallF) (j4 : (Option Addr) → Slc → AHeap → Option ((Int) × AHeap)) : (Option Addr) → Slc → Slc → Int → Int → AHeap → Option ((Int) × AHeap) :=
 iterK (α := (Option Addr) → Slc → Slc → Int → Int → AHeap → Option ((Int) × AHeap)) (fun _ _ _ _ _ _ => none) k (lookup_Table_Add_l1b k D j4)
noncomputable def lookup_Table_Add_l0b (k : Nat) (D : CallF) (j6 : AHeap → Option ((Int) × AHeap)) (rec12 : (Option Addr) → Slc → Int → Int → AHeap → Option ((Int) × AHeap)) (t7 : Option Addr) (y8 : Slc) (y9 : Int) (y10 : Int) (h11 : AHeap) : Option ((Int) × AHeap) :=
 (if (decide (y10 < y9)) = true then
 joinK (fun (t13 : Option Addr) (y14 : Slc) (y15 : Int) (y16 : Int) (h17 : AHeap) =>
 rec12 t13 y14 y15 (IntKind.wrap .i64 (y16 + 1)) h17) fun j18 =>
 (Gx.idxL 6 y8 y10).bind fun q19 =>
 (ldA 6 q19 h11).bind fun l20 =>
 (decC [.s, .s, .i .i64, .i .i64, .i .i64, .i .i64] l20).bind fun x21 =>
 newK h11 ((.cells [.string ⟨#[]⟩, .string ⟨#[]⟩, .int .i64 0, .int .i64 0, .int .i64 0, .int .i64 0] 57 true 0)) fun h22 =>
 (stL 6 (⟨h11.next, 0, none⟩ : Addr) ([.string x21.1, .string x21.2.1, .int .i64 x21.2.2.1, .int .i64 x21.2.2.2.1, .int .i64 x21.2.2.2.2.1, .int .i64 x21.2.2.2.2.2]) h22).bind fun h23 =>
 (ldS (⟨h11.next, 0, none⟩ : Addr) h23).bind fun x24 =>
 (lookup_Table_list k D t7 x24 h23).bind fun r25 =>
 (r25.1).bind fun p26 =>
 (ldL p26 r25.2).bind fun x27 =>
 (ldA 6 (⟨h11.next, 0, none⟩ : Addr) r25.2).bind fun l28 =>
 (decC [.s, .s, .i .i64, .i .i64, .i .i64, .i .i64] l28).bind fun x29 =>
 (slices_BinarySearchFunc_api_Item_api_Item_api_Item k D x27 (x29.1, x29.2.1, x29.2.2.1, x29.2.2.2.1, x29.2.2.2.2.1, x29.2.2.2.2.2) (.func (.func 76) ⟨[]⟩ ⟨[]⟩) r25.2).bind fun r30 =>
 (if (!r30.1.2) = true then
 (ldA 6 (⟨h11.next, 0, none⟩ : Addr) r30.2).bind fun l31 =>
 (decC [.s, .s, .i .i64, .i .i64, .i .i64, .i .i64] l31).bind fun x32 =>
 newK r30.2 ((.cells [.string x32.1, .string x32.2.1, .int .i64 x32.2.2.1, .int .i64 x32.2.2.2.1, .int .i64 x32.2.2.2.2.1, .int .i64 x32.2.2.2.2.2] 57 true 0)) fun h33 =>
 (r25.1).bind fun p34 =>
 (ldL p34 h33).bind fun x35 =>
 guardP (SameW [r30.2] (fun H37 => (ldL p34 H37).bind fun y36 => some (.slice y36.a y36.len y36.cap)) (.slice x35.a x35.len x35.cap)) (
 (slices_Insert_api_Item_api_Item k D x35 r30.1.1 (⟨(some ⟨r30.2.next, 0, some 0⟩), 1, 1⟩ : Slc) h33).bind fun r38 =>
 (r25.1).bind fun p39 =>
 (st1 p39 (.slice r38.1.a r38.1.len r38.1.cap) r38.2).bind fun h40 =>
 j18 t7 y8 y9 y10 h40)
 else
 j18 t7 y8 y9 y10 r30.2)
 else
 j6 h11)
noncomputable def lookup_Table_Add_l0 (k : Nat) (D : CallF) (j6 : AHeap → Option ((Int) × AHeap)) : (Option Addr) → Slc → Int → Int → AHeap → Option ((Int) × AHeap) :=
 iterK (α := (Option Addr) → Slc → Int → Int → AHeap → Option ((Int) × AHeap)) (fun _ _ _ _ _ => none) k (lookup_Table_Add_l0b k D j6)
noncomputable def lookup_Table_Add (k : Nat) (D : CallF) (t_0 : Option Addr) (items_1 : Slc) (h : AHeap) : Option ((Int) × AHeap) :=
 joinK (fun (t1 : Option Addr) (items2 : Slc) (h3 : AHeap) =>
 joinK (fun (h5 : AHeap) =>
 some (0, h5)) fun j6 =>
 lookup_Table_Add_l0 k D j6 t1 items2 (items2.len : Int) 0 h3) fun j4 =>
 lookup_Table_Add_l1 k D j4 t_0 items_1 items_1 (items_1.len : Int) 0 h
noncomputable def r_lookup_Table_Add : RCode := an (.s .n (.s (.j [(0, .p), (1, .l)] (.s .n (.b (.l [(0, .p), (1, .l), (13, .l), (14, .i .i64), (15, .i .i64)] (.s .n (.s .n (.s (.b (.s (.r [(1, .st [.s, .s, .i .i64, .i .i64, .i .i64, .i .i64])]) (.s (.r [(0, .st [.s, .s, .i .i64, .i .i64, .i .i64, .i .i64])]) .n))) .n))))))) (.s (.j [] (.s .n (.b (.l [(0, .p), (25, .l), (26, .i .i64), (27, .i .i64)] (.s .n (.s .n (.s (.j [(0, .p), (25, .l), (26, .i .i64), (27, .i .i64)] (.b (.s (.r [(1, .st [.s, .s, .i .i64, .i .i64, .i .i64, .i .i64])]) (.s .n (.s (.r [(3, .st [.s, .s, .i .i64, .i .i64, .i .i64, .i .i64])]) (.s .n (.s (.r [(0, .st [.s, .s, .i .i64, .i .i64, .i .i64, .i .i64])]) .n))))))) .n))))))) .n))) (rOf Tryd.prog 2 Tryd.f35)
noncomputable def e_lookup_Table_Add (k : Nat) (D : CallF) : Ent := entOf 35 [(0, .p), (1, .l)] [(4, .i .i64)] (lookup_Table_Add k D)
theorem q_lookup_Table_Add : (Tryd.f35.body).bind (rcodeOf Tryd.prog 2 Tryd.f35.ntmps) = some (strip r_lookup_Table_Add) := by kernel_rfl
theorem t_lookup_Table_Add (k : Nat) (D : CallF) : curF [(0, .p), (1, .l)] (fun args h => denF (C_lookup_Table_Add k D) k r_lookup_Table_Add [(4, .i .i64)] [none] args h) = lookup_Table_Add k D := by kernel_rfl
theorem ok_lookup_Table_Add {D : CallF} (hD : CSound Tryd.prog 2 D) (k : Nat) : EntOk Tryd.prog 2 (e_lookup_Table_Add k D) :=
 entOf_ok2 (mkC_sound hD (EntsOk.more (ok_lookup_Table_list hD k) (EntsOk.more (ok_slices_BinarySearchFunc_api_Item_api_Item_api_Item hD k) (EntsOk.more (ok_slices_Insert_api_Item_api_Item hD k) (EntsOk.more (ok_lookup_Check hD k) (EntsOk.none)))))) Tryd.func35 rfl q_lookup_Table_Add rfl (t_lookup_Table_Add k D)
end Ge
namespace Ge
open Go Gx Go.Proofs
set_option maxRecDepth 100000
noncomputable def C_index_Rebuild (k : Nat) (D : CallF) : CallF := mkC D [e_lookup_New k D, e_pack_Parse k D, e_lookup_Table_Add k D]
noncomputable def index_Rebuild_l0b (k : Nat) (D : CallF) (j5 : (Option Addr) → Slc → AHeap → Option (((Option Addr) × Slc) × AHeap)) (rec12 : (Option Addr) → Slc → Slc → Int → Int → AHeap → Option (((Option Addr) × Slc) × AHeap)) (t6 : Option Addr) (bad7 : Slc) (y8 : Slc) (y9 : Int) (y10 : Int) (h11 : AHeap) : Option (((Option Addr) × Slc) × AHeap) :=
 (if (decide (y10 < y9)) = true then
 joinK (fun (t13 : Option Addr) (bad14 : Slc) (y15 : Slc) (y16 : Int) (y17 : Int) (h18 : AHeap) =>
 rec12 t13 bad14 y15 y16 (IntKind.wrap .i64 (y17 + 1)) h18) fun j19 =>
 (Gx.idxL 1 y8 y10).bind fun q20 =>
 (ldS q20 h11).bind fun x21 =>
 (pack_Parse k D x21 h11).bind fun r22 =>
 (if (r22.1.2 != 0) = true then
 newK r22.2 ((.cells [.int .i64 y10] 3 true 0)) fun h23 =>
 (rdS 1 (⟨(some ⟨r22.2.next, 0, some 0⟩), 1, 1⟩ : Slc) h23).bind fun n25 =>
 (appendA 1 8 3 h23 bad7 n25 1).bind fun r24 =>
 j19 t6 r24.1 y8 y9 y10 r24.2
 else
 (lookup_Table_Add k D t6 r22.1.1 r22.2).bind fun r26 =>
 j19 t6 bad7 y8 y9 y10 r26.2)
 else
 j5 t6 bad7 h11)
noncomputable def index_Rebuild_l0 (k : Nat) (D : CallF) (j5 : (Option Addr) → Slc → AHeap → Option (((Option Addr) × Slc) × AHeap)) : (Option Addr) → Slc → Slc → Int → Int → AHeap → Option (((Option Addr) × Slc) × AHeap) :=
 iterK (α := (Option Addr) → Slc → Slc → Int → Int → AHeap → Option (((Option Addr) × Slc) × AHeap)) (fun _ _ _ _ _ _ => none) k (index_Rebuild_l0b k D j5)
noncomputable def index_Rebuild (k : Nat) (D : CallF) (packs_0 : Slc) (h : AHeap) : Option (((Option Addr) × Slc) × AHeap) :=
 (lookup_New k D h).bind fun r1 =>
 joinK (fun (t2 : Option Addr) (bad3 : Slc) (h4 : AHeap) =>
 some ((t2, bad3), h4)) fun j5 =>
 index_Rebuild_l0 k D j5 r1.1 (⟨none, 0, 0⟩ : Slc) packs_0 (packs_0.len : Int) 0 r1.2
noncomputable def r_index_Rebuild : RCode := an (.s .n (.s .n (.s (.j [(2, .p), (3, .l)] (.s .n (.b (.l [(2, .p), (3, .l), (9, .l), (10, .i .i64), (11, .i .i64)] (.s .n (.s .n (.s (.j [(2, .p), (3, .l), (9, .l), (10, .i .i64), (11, .i .i64)] .n) .n))))))) .n))) (rOf Tryd.prog 2 Tryd.f36)
noncomputable def e_index_Rebuild (k : Nat) (D : CallF) : Ent := entOf 36 [(0, .l)] [(2, .p), (3, .l)] (index_Rebuild k D)
theorem q_index_Rebuild : (Tryd.f36.body).bind (rcodeOf Tryd.prog 2 Tryd.f36.ntmps) = some (strip r_index_Rebuild) := by kernel_rfl
theorem t_index_Rebuild (k : Nat) (D : CallF) : curF [(0, .l)] (fun args h => denF (C_index_Rebuild k D) k r_index_Rebuild [(2, .p), (3, .l)] [none, none] args h) = index_Rebuild k D := by kernel_rfl
theorem ok_index_Rebuild {D : CallF} (hD : CSound Tryd.prog 2 D) (k : Nat) : EntOk Tryd.prog 2 (e_index_Rebuild k D) :=
 entOf_ok2 (mkC_sound hD (EntsOk.more (ok_lookup_New hD k) (EntsOk.more (ok_pack_Parse hD k) (EntsOk.more (ok_lookup_Table_Add hD k) (EntsOk.none))))) Tryd.func36 rfl q_index_Rebuild rfl (t_index_Rebuild k D)
end Ge
namespace Ge
open Go Gx Go.Proofs
set_option maxRecDepth 100000
noncomputable def C_law16_sameItems (_k : Nat) (D : CallF) : CallF := mkC D []
noncomputable def law16_sameItems_l0b (_k : Nat) (_D : CallF) (j2 : AHeap → Option ((Bool) × AHeap)) (rec7 : Slc → Slc → Int → AHeap → Option ((Bool) × AHeap)) (a3 : Slc) (b4 : Slc) (i5 : Int) (h6 : AHeap) : Option ((Bool) × AHeap) :=
 (if (decide (i5 < (a3.len : Int))) = true then
 (Gx.idxL 6 a3 i5).bind fun q8 =>
 (ldA 6 q8 h6).bind fun l9 =>
 (decC [.s, .s, .i .i64, .i .i64, .i .i64, .i .i64] l9).bind fun x10 =>
 (Gx.idxL 6 b4 i5).bind fun q11 =>
 (ldA 6 q11 h6).bind fun l12 =>
 (decC [.s, .s, .i .i64, .i .i64, .i .i64, .i .i64] l12).bind fun x13 =>
 let c14 : Bool := (!((x10.1 == x13.1) && ((x10.2.1 == x13.2.1) && ((x10.2.2.1 == x13.2.2.1) && ((x10.2.2.2.1 == x13.2.2.2.1) && ((x10.2.2.2.2.1 == x13.2.2.2.2.1) && (x10.2.2.2.2.2 == x13.2.2.2.2.2)))))))
 (if c14 = true then
 some (false, h6)
 else
 rec7 a3 b4 (IntKind.wrap .i64 (i5 + 1)) h6)
 else
 j2 h6)
noncomputable def law16_sameItems_l0 (k : Nat) (D : CallF) (j2 : AHeap → Option ((Bool) × AHeap)) : Slc → Slc → Int → AHeap → Option ((Bool) × AHeap) :=
 iterK (α := Slc → Slc → Int → AHeap → Option ((Bool) × AHeap)) (fun _ _ _ _ => none) k (law16_sameItems_l0b k D j2)
noncomputable def law16_sameItems (k : Nat) (D : CallF) (a_0 : Slc) (b_1 : Slc) (h : AHeap) : Option ((Bool) × AHeap) :=
 (if ((a_0.len : Int) != (b_1.len : Int)) = true then
 some (false, h)
 else
 joinK (fun (h1 : AHeap) =>
 some (true, h1)) fun j2 =>
 law16_sameItems_l0 k D j2 a_0 b_1 0 h)
noncomputable def r_law16_sameItems : RCode := an (.s .n (.s .n (.s (.j [] (.s .n (.b (.l [(0, .l), (1, .l), (5, .i .i64)] (.s .n (.s (.b (.s (.r [(3, .st [.s, .s, .i .i64, .i .i64, .i .i64, .i .i64]), (7, .st [.s, .s, .i .i64, .i .i64, .i .i64, .i .i64])]) .n)) .n)))))) .n))) (rOf Tryd.prog 2 Tryd.f37)
noncomputable def e_law16_sameItems (k : Nat) (D : CallF) : Ent := entOf 37 [(0, .l), (1, .l)] [(4, .b)] (law16_sameItems k D)
theorem q_law16_sameItems : (Tryd.f37.body).bind (rcodeOf Tryd.prog 2 Tryd.f37.ntmps) = some (strip r_law16_sameItems) := by kernel_rfl
theorem t_law16_sameItems (k : Nat) (D : CallF) : curF [(0, .l), (1, .l)] (fun args h => denF (C_law16_sameItems k D) k r_law16_sameItems [(4, .b)] [none] args h) = law16_sameItems k D := by kernel_rfl
theorem ok_law16_sameItems {D : CallF} (hD : CSound Tryd.prog 2 D) (k : Nat) : EntOk Tryd.prog 2 (e_law16_sameItems k D) :=
 entOf_ok2 (mkC_sound hD (EntsOk.none)) Tryd.func37 rfl q_law16_sameItems rfl (t_law16_sameItems k D)
end Ge
namespace Ge
open Go Gx Go.Proofs
set_option maxRecDepth 100000
noncomputable def C_slices_Concat_api_Item_api_Item (k : Nat) (D : CallF) : CallF := mkC D [e_slices_Grow_api_Item_api_Item k D]
noncomputable def slices_Concat_api_Item_api_Item_l1b (_k : Nat) (_D : CallF) (j4 : Slc → Int → AHeap → Option ((Slc) × AHeap)) (rec25 : Slc → Int → Slc → Int → Int → AHeap → Option ((Slc) × AHeap)) (slices19 : Slc) (size20 : Int) (y21 : Slc) (y22 : Int) (y23 : Int) (h24 : AHeap) : Option ((Slc) × AHeap) :=
 (if (decide (y23 < y22)) = true then
 joinK (fun (slices26 : Slc) (size27 : Int) (y28 : Slc) (y29 : Int) (y30 : Int) (h31 : AHeap) =>
 rec25 slices26 size27 y28 y29 (IntKind.wrap .i64 (y30 + 1)) h31) fun j32 =>
 (Gx.idxL 1 y21 y23).bind fun q33 =>
 (ldL q33 h24).bind fun x34 =>
 (if (decide ((IntKind.wrap .i64 (size20 + (x34.len : Int))) < 0)) = true then
 none
 else
 j32 slices19 (IntKind.wrap .i64 (size20 + (x34.len : Int))) y21 y22 y23 h24)
 else
 j4 slices19 size20 h24)
noncomputable def slices_Concat_api_Item_api_Item_l1 (k : Nat) (D : CallF) (j4 : Slc → Int → AHeap → Option ((Slc) × AHeap)) : Slc → Int → Slc → Int → Int → AHeap → Option ((Slc) × AHeap) :=
 iterK (α := Slc → Int → Slc → Int → Int → AHeap → Option ((Slc) × AHeap)) (fun _ _ _ _ _ _ => none) k (slices_Concat_api_Item_api_Item_l1b k D j4)
noncomputable def slices_Concat_api_Item_api_Item_l0b (_k : Nat) (_D : CallF) (j8 : Slc → AHeap → Option ((Slc) × AHeap)) (rec14 : Slc → Slc → Int → Int → AHeap → Option ((Slc) × AHeap)) (newslice9 : Slc) (y10 : Slc) (y11 : Int) (y12 : Int) (h13 : AHeap) : Option ((Slc) × AHeap) :=
 (if (decide (y12 < y11)) = true then
 (Gx.idxL 1 y10 y12).bind fun q15 =>
 (ldL q15 h13).bind fun x16 =>
 (rdS 6 x16 h13).bind fun n18 =>
 (appendA 6 64 57 h13 newslice9 n18 x16.len).bind fun r17 =>
 rec14 r17.1 y10 y11 (IntKind.wrap .i64 (y12 + 1)) r17.2
 else
 j8 newslice9 h13)
noncomputable def slices_Concat_api_Item_api_Item_l0 (k : Nat) (D : CallF) (j8 : Slc → AHeap → Option ((Slc) × AHeap)) : Slc → Slc → Int → Int → AHeap → Option ((Slc) × AHeap) :=
 iterK (α := Slc → Slc → Int → Int → AHeap → Option ((Slc) × AHeap)) (fun _ _ _ _ _ => none) k (slices_Concat_api_Item_api_Item_l0b k D j8)
noncomputable def slices_Concat_api_Item_api_Item (k : Nat) (D : CallF) (slices_0 : Slc) (h : AHeap) : Option ((Slc) × AHeap) :=
 joinK (fun (slices1 : Slc) (size2 : Int) (h3 : AHeap) =>
 (slices_Grow_api_Item_api_Item k D (⟨none, 0, 0⟩ : Slc) size2 h3).bind fun r5 =>
 joinK (fun (newslice6 : Slc) (h7 : AHeap) =>
 some (newslice6, h7)) fun j8 =>
 slices_Concat_api_Item_api_Item_l0 k D j8 r5.1 slices1 (slices1.len : Int) 0 r5.2) fun j4 =>
 slices_Concat_api_Item_api_Item_l1 k D j4 slices_0 0 slices_0 (slices_0.len : Int) 0 h
noncomputable def r_slices_Concat_api_Item_api_Item : RCode := an (.s .n (.s .n (.s (.j [(0, .l), (3, .i .i64)] (.s .n (.b (.l [(0, .l), (3, .i .i64), (9, .l), (10, .i .i64), (11, .i .i64)] (.s .n (.s .n (.s (.j [(0, .l), (3, .i .i64), (9, .l), (10, .i .i64), (11, .i .i64)] .n) .n))))))) (.s .n (.s (.j [(6, .l)] (.s .n (.b (.l [(6, .l), (25, .l), (26, .i .i64), (27, .i .i64)] .n)))) .n))))) (rOf Tryd.prog 2 Tryd.f78)
noncomputable def e_slices_Concat_api_Item_api_Item (k : Nat) (D : CallF) : Ent := entOf 78 [(0, .l)] [(2, .l)] (slices_Concat_api_Item_api_Item k D)
theorem q_slices_Concat_api_Item_api_Item : (Tryd.f78.body).bind (rcodeOf Tryd.prog 2 Tryd.f78.ntmps) = some (strip r_slices_Concat_api_Item_api_Item) := by kernel_rfl
theorem t_slices_Concat_api_Item_api_Item (k : Nat) (D : CallF) : curF [(0, .l)] (fun args h => denF (C_slices_Concat_api_Item_api_Item k D) k r_slices_Concat_api_Item_api_Item [(2, .l)] [none] args h) = slices_Concat_api_Item_api_Item k D := by kernel_rfl
theorem ok_slices_Concat_api_Item_api_Item {D : CallF} (hD : CSound Tryd.prog 2 D) (k : Nat) : EntOk Tryd.prog 2 (e_slices_Concat_api_Item_api_Item k D) :=
 entOf_ok2 (mkC_sound hD (EntsOk.more (ok_slices_Grow_api_Item_api_Item hD k) (EntsOk.none))) Tryd.func78 rfl q_slices_Concat_api_Item_api_Item rfl (t_slices_Concat_api_Item_api_Item k D)
end Ge
namespace Ge
open Go Gx Go.Proofs
set_option maxRecDepth 100000
noncomputable def C_lookup_Table_All (k : Nat) (D : CallF) : CallF := mkC D [e_slices_Concat_api_Item_api_Item k D]
noncomputable def lookup_Table_All (k : Nat) (D : CallF) (t_0 : Option Addr) (h : AHeap) : Option ((Slc) × AHeap) :=
 (t_0).bind fun p1 =>
 (Gx.subA 256 1 (⟨p1.block, p1.off + 0, none⟩ : Addr) none none none).bind fun l2 =>
 (slices_Concat_api_Item_api_Item k D l2 h).bind fun r3 =>
 some (r3.1, r3.2)
noncomputable def r_lookup_Table_All : RCode := an (.n) (rOf Tryd.prog 2 Tryd.f38)
noncomputable def e_lookup_Table_All (k : Nat) (D : CallF) : Ent := entOf 38 [(0, .p)] [(2, .l)] (lookup_Table_All k D)
theorem q_lookup_Table_All : (Tryd.f38.body).bind (rcodeOf Tryd.prog 2 Tryd.f38.ntmps) = some (strip r_lookup_Table_All) := by kernel_rfl
theorem t_lookup_Table_All (k : Nat) (D : CallF) : curF [(0, .p)] (fun args h => denF (C_lookup_Table_All k D) k r_lookup_Table_All [(2, .l)] [none] args h) = lookup_Table_All k D := by kernel_rfl
theorem ok_lookup_Table_All {D : CallF} (hD : CSound Tryd.prog 2 D) (k : Nat) : EntOk Tryd.prog 2 (e_lookup_Table_All k D) :=
 entOf_ok2 (mkC_sound hD (EntsOk.more (ok_slices_Concat_api_Item_api_Item hD k) (EntsOk.none))) Tryd.func38 rfl q_lookup_Table_All rfl (t_lookup_Table_All k D)
end Ge
namespace Ge
open Go Gx Go.Proofs
set_option maxRecDepth 100000
noncomputable def C_book_SameInts (_k : Nat) (D : CallF) : CallF := mkC D []
noncomputable def book_SameInts_l0b (_k : Nat) (_D : CallF) (j2 : AHeap → Option ((Bool) × AHeap)) (rec7 : Slc → Slc → Int → AHeap → Option ((Bool) × AHeap)) (a3 : Slc) (b4 : Slc) (i5 : Int) (h6 : AHeap) : Option ((Bool) × AHeap) :=
 (if (decide (i5 < (a3.len : Int))) = true then
 (Gx.idxL 1 a3 i5).bind fun q8 =>
 (ldI .i64 q8 h6).bind fun x9 =>
 (Gx.idxL 1 b4 i5).bind fun q10 =>
 (ldI .i64 q10 h6).bind fun x11 =>
 (if (x9 != x11) = true then
 some (false, h6)
 else
 rec7 a3 b4 (IntKind.wrap .i64 (i5 + 1)) h6)
 else
 j2 h6)
noncomputable def book_SameInts_l0 (k : Nat) (D : CallF) (j2 : AHeap → Option ((Bool) × AHeap)) : Slc → Slc → Int → AHeap → Option ((Bool) × AHeap) :=
 iterK (α := Slc → Slc → Int → AHeap → Option ((Bool) × AHeap)) (fun _ _ _ _ => none) k (book_SameInts_l0b k D j2)
noncomputable def book_SameInts (k : Nat) (D : CallF) (a_0 : Slc) (b_1 : Slc) (h : AHeap) : Option ((Bool) × AHeap) :=
 (if ((a_0.len : Int) != (b_1.len : Int)) = true then
 some (false, h)
 else
 joinK (fun (h1 : AHeap) =>
 some (true, h1)) fun j2 =>
 book_SameInts_l0 k D j2 a_0 b_1 0 h)
noncomputable def r_book_SameInts : RCode := an (.s .n (.s .n (.s (.j [] (.s .n (.b (.l [(0, .l), (1, .l), (5, .i .i64)] .n)))) .n))) (rOf Tryd.prog 2 Tryd.f39)
noncomputable def e_book_SameInts (k : Nat) (D : CallF) : Ent := entOf 39 [(0, .l), (1, .l)] [(4, .b)] (book_SameInts k D)
theorem q_book_SameInts : (Tryd.f39.body).bind (rcodeOf Tryd.prog 2 Tryd.f39.ntmps) = some (strip r_book_SameInts) := by kernel_rfl
theorem t_book_SameInts (k : Nat) (D : CallF) : curF [(0, .l), (1, .l)] (fun args h => denF (C_book_SameInts k D) k r_book_SameInts [(4, .b)] [none] args h) = book_SameInts k D := by kernel_rfl
theorem ok_book_SameInts {D : CallF} (hD : CSound Tryd.prog 2 D) (k : Nat) : EntOk Tryd.prog 2 (e_book_SameInts k D) :=
 entOf_ok2 (mkC_sound hD (EntsOk.none)) Tryd.func39 rfl q_book_SameInts rfl (t_book_SameInts k D)
end Ge
namespace Ge
open Go Gx Go.Proofs
set_option maxRecDepth 100000
end Ge
namespace Ge
open Go Gx Go.Proofs
set_option maxRecDepth 100000
end Ge
namespace Ge
open Go Gx Go.Proofs
set_option maxRecDepth 100000
end Ge
namespace Ge
open Go Gx Go.Proofs
set_option maxRecDepth 100000
end Ge
namespace Ge
open Go Gx Go.Proofs
set_option maxRecDepth 100000
end Ge
namespace Ge
open Go Gx Go.Proofs
set_option maxRecDepth 100000
end Ge
namespace Ge
open Go Gx Go.Proofs
set_option maxRecDepth 100000
noncomputable def C_law16_IndexRebuilds (k : Nat) (D : CallF) : CallF := mkC D [e_law16_works k D, e_lookup_New k D, e_index_Rebuild k D, e_pack_Parse k D, e_lookup_Table_All k D, e_law16_sameItems k D, e_book_SameInts k D, e_pack_New k D, e_pack_Builder_Finish k D, e_lookup_Table_Add k D, e_pack_Builder_Add k D]
noncomputable def law16_IndexRebuilds_l1b (k : Nat) (D : CallF) (j64 : Slc → ByteArray → Slc → (Option Addr) → Int → (Option Addr) → AHeap → Option ((Bool) × AHeap)) (rec78 : Slc → ByteArray → Slc → (Option Addr) → Int → (Option Addr) → Int → AHeap → Option ((Bool) × AHeap)) (texts70 : Slc) (junk71 : ByteArray) (packs72 : Slc) (t73 : Option Addr) (i74 : Int) (p75 : Option Addr) (kv76 : Int) (h77 : AHeap) : Option ((Bool) × AHeap) :=
 joinK (fun (texts79 : Slc) (junk80 : ByteArray) (packs81 : Slc) (t82 : Option Addr) (i83 : Int) (p84 : Option Addr) (kv85 : Int) (y86 : Bool) (h87 : AHeap) =>
 (if y86 = true then
 joinK (fun (texts89 : Slc) (junk90 : ByteArray) (packs91 : Slc) (t92 : Option Addr) (i93 : Int) (p94 : Option Addr) (kv95 : Int) (h96 : AHeap) =>
 rec78 texts89 junk90 packs91 t92 i93 p94 (IntKind.wrap .i64 (kv95 + 1)) h96) fun j97 =>
 (Gx.idxL 1 texts79 i83).bind fun q98 =>
 (ldL q98 h87).bind fun x99 =>
 (Gx.idxL 1 x99 kv85).bind fun q100 =>
 (ldS q100 h87).bind fun x101 =>
 (if (decide ((x101.size : Int) ≤ 100)) = true then
 (Gx.idxL 1 texts79 i83).bind fun q102 =>
 (ldL q102 h87).bind fun x103 =>
 (Gx.idxL 1 x103 kv85).bind fun q104 =>
 (ldS q104 h87).bind fun x105 =>
 (pack_Builder_Add k D p84 1 x105 h87).bind fun r106 =>
 j97 texts79 junk80 packs81 t82 i83 p84 kv85 r106.2
 else
 j97 texts79 junk80 packs81 t82 i83 p84 kv85 h87)
 else
 j64 texts79 junk80 packs81 t82 i83 p84 h87)) fun j88 =>
 (Gx.idxL 1 texts70 i74).bind fun q107 =>
 (ldL q107 h77).bind fun x108 =>
 (if (decide (kv76 < (x108.len : Int))) = true then
 j88 texts70 junk71 packs72 t73 i74 p75 kv76 (decide (kv76 < 10)) h77
 else
 j88 texts70 junk71 packs72 t73 i74 p75 kv76 false h77)
noncomputable def law16_IndexRebuilds_l1 (k : Nat) (D : CallF) (j64 : Slc → ByteArray → Slc → (Option Addr) → Int → (Option Addr) → AHeap → Option ((Bool) × AHeap)) : Slc → ByteArray → Slc → (Option Addr) → Int → (Option Addr) → Int → AHeap → Option ((Bool) × AHeap) :=
 iterK (α := Slc → ByteArray → Slc → (Option Addr) → Int → (Option Addr) → Int → AHeap → Option ((Bool) × AHeap)) (fun _ _ _ _ _ _ _ _ => none) k (law16_IndexRebuilds_l1b k D j64)
noncomputable def law16_IndexRebuilds_l0b (k : Nat) (D : CallF) (j12 : ByteArray → Slc → (Option Addr) → AHeap → Option ((Bool) × AHeap)) (rec31 : Slc → ByteArray → Slc → (Option Addr) → Int → AHeap → Option ((Bool) × AHeap)) (texts25 : Slc) (junk26 : ByteArray) (packs27 : Slc) (t28 : Option Addr) (i29 : Int) (h30 : AHeap) : Option ((Bool) × AHeap) :=
 joinK (fun (texts32 : Slc) (junk33 : ByteArray) (packs34 : Slc) (t35 : Option Addr) (i36 : Int) (y37 : Bool) (h38 : AHeap) =>
 (if y37 = true then
 joinK (fun (texts40 : Slc) (junk41 : ByteArray) (packs42 : Slc) (t43 : Option Addr) (i44 : Int) (h45 : AHeap) =>
 rec31 texts40 junk41 packs42 t43 (IntKind.wrap .i64 (i44 + 1)) h45) fun j46 =>
 (pack_New k D 16384 h38).bind fun r47 =>
 joinK (fun (texts48 : Slc) (junk49 : ByteArray) (packs50 : Slc) (t51 : Option Addr) (i52 : Int) (p53 : Option Addr) (y54 : Bool) (h55 : AHeap) =>
 (if y54 = true then
 some (false, h55)
 else
 joinK (fun (texts57 : Slc) (junk58 : ByteArray) (packs59 : Slc) (t60 : Option Addr) (i61 : Int) (p62 : Option Addr) (h63 : AHeap) =>
 (pack_Builder_Finish k D p62 h63).bind fun r65 =>
 (if (r65.1.1 == (⟨#[]⟩ : ByteArray)) = true then
 j46 texts57 junk58 packs59 t60 i61 r65.2
 else
 newK r65.2 ((.cells [.string r65.1.1] 9 true 0)) fun h66 =>
 (rdS 1 (⟨(some ⟨r65.2.next, 0, some 0⟩), 1, 1⟩ : Slc) h66).bind fun n68 =>
 (appendA 1 16 9 h66 packs59 n68 1).bind fun r67 =>
 (lookup_Table_Add k D t60 r65.1.2 r67.2).bind fun r69 =>
 (if (r69.1 != 0) = true then
 some (false, r69.2)
 else
 j46 texts57 junk58 r67.1 t60 i61 r69.2))) fun j64 =>
 law16_IndexRebuilds_l1 k D j64 texts48 junk49 packs50 t51 i52 p53 0 h55)) fun j56 =>
 (if r47.1.1.isNone = true then
 j56 texts32 junk33 packs34 t35 i36 r47.1.1 true r47.2
 else
 j56 texts32 junk33 packs34 t35 i36 r47.1.1 (r47.1.2 != 0) r47.2)
 else
 j12 junk33 packs34 t35 h38)) fun j39 =>
 (if (decide (i29 < (texts25.len : Int))) = true then
 j39 texts25 junk26 packs27 t28 i29 (decide (i29 < 4)) h30
 else
 j39 texts25 junk26 packs27 t28 i29 false h30)
noncomputable def law16_IndexRebuilds_l0 (k : Nat) (D : CallF) (j12 : ByteArray → Slc → (Option Addr) → AHeap → Option ((Bool) × AHeap)) : Slc → ByteArray → Slc → (Option Addr) → Int → AHeap → Option ((Bool) × AHeap) :=
 iterK (α := Slc → ByteArray → Slc → (Option Addr) → Int → AHeap → Option ((Bool) × AHeap)) (fun _ _ _ _ _ _ => none) k (law16_IndexRebuilds_l0b k D j12)
noncomputable def law16_IndexRebuilds (k : Nat) (D : CallF) (texts_0 : Slc) (junk_1 : ByteArray) (h : AHeap) : Option ((Bool) × AHeap) :=
 joinK (fun (texts1 : Slc) (junk2 : ByteArray) (y3 : Bool) (h4 : AHeap) =>
 (if y3 = true then
 (law16_works k D h4).bind fun r6 =>
 some (r6.1, r6.2)
 else
 (lookup_New k D h4).bind fun r7 =>
 (if r7.1.isNone = true then
 some (false, r7.2)
 else
 joinK (fun (junk8 : ByteArray) (packs9 : Slc) (t10 : Option Addr) (h11 : AHeap) =>
 (if (⟨#[71, 82, 84, 80]⟩ : ByteArray).size + junk8.size ≤ 9223372036854775807 then
 (if ((⟨#[71, 82, 84, 80]⟩ : ByteArray) ++ junk8).size + (⟨#[120]⟩ : ByteArray).size ≤ 9223372036854775807 then
 let s13 : ByteArray := (((⟨#[71, 82, 84, 80]⟩ : ByteArray) ++ junk8) ++ (⟨#[120]⟩ : ByteArray))
 newK h11 ((.cells [.string s13] 9 true 0)) fun h14 =>
 (rdS 1 (⟨(some ⟨h11.next, 0, some 0⟩), 1, 1⟩ : Slc) h14).bind fun n16 =>
 (appendA 1 16 9 h14 packs9 n16 1).bind fun r15 =>
 (index_Rebuild k D r15.1 r15.2).bind fun r17 =>
 (if (⟨#[71, 82, 84, 80]⟩ : ByteArray).size + junk8.size ≤ 9223372036854775807 then
 (if ((⟨#[71, 82, 84, 80]⟩ : ByteArray) ++ junk8).size + (⟨#[120]⟩ : ByteArray).size ≤ 9223372036854775807 then
 let s18 : ByteArray := (((⟨#[71, 82, 84, 80]⟩ : ByteArray) ++ junk8) ++ (⟨#[120]⟩ : ByteArray))
 (pack_Parse k D s18 r17.2).bind fun r19 =>
 (if (!r17.1.1.isNone) = true then
 (if (r19.1.2 == 0) = true then
 some (true, r19.2)
 else
 (lookup_Table_All k D r17.1.1 r19.2).bind fun r20 =>
 (lookup_Table_All k D t10 r20.2).bind fun r21 =>
 (law16_sameItems k D r20.1 r21.1 r21.2).bind fun r22 =>
 (if r22.1 = true then
 newK r22.2 ((.cells [.int .i64 (packs9.len : Int)] 3 true 0)) fun h23 =>
 (book_SameInts k D r17.1.2 (⟨(some ⟨r22.2.next, 0, some 0⟩), 1, 1⟩ : Slc) h23).bind fun r24 =>
 some (r24.1, r24.2)
 else
 some (false, r22.2)))
 else
 some (false, r19.2))
 else none)
 else none)
 else none)
 else none)) fun j12 =>
 law16_IndexRebuilds_l0 k D j12 texts1 junk2 (⟨none, 0, 0⟩ : Slc) r7.1 0 r7.2))) fun j5 =>
 (law16_works k D h).bind fun r109 =>
 (if (!r109.1) = true then
 j5 texts_0 junk_1 true r109.2
 else
 j5 texts_0 junk_1 (decide ((junk_1.size : Int) > 200)) r109.2)
noncomputable def r_law16_IndexRebuilds : RCode := an (.s .n (.s (.s (.j [(0, .l), (1, .s), (23, .b)] .n) .n) (.s .n (.s .n (.s .n (.s (.j [(1, .s), (5, .l), (6, .p)] (.s .n (.b (.l [(0, .l), (1, .s), (5, .l), (6, .p), (7, .i .i64)] (.s (.s (.j [(0, .l), (1, .s), (5, .l), (6, .p), (7, .i .i64), (35, .b)] .n) .n) (.s (.j [(0, .l), (1, .s), (5, .l), (6, .p), (7, .i .i64)] (.b (.s .n (.s (.s (.j [(0, .l), (1, .s), (5, .l), (6, .p), (7, .i .i64), (8, .p), (47, .b)] .n) .n) (.s (.j [(0, .l), (1, .s), (5, .l), (6, .p), (7, .i .i64), (8, .p)] (.s .n (.b (.l [(0, .l), (1, .s), (5, .l), (6, .p), (7, .i .i64), (8, .p), (10, .i .i64)] (.s (.s (.j [(0, .l), (1, .s), (5, .l), (6, .p), (7, .i .i64), (8, .p), (10, .i .i64), (58, .b)] .n) .n) (.s (.j [(0, .l), (1, .s), (5, .l), (6, .p), (7, .i .i64), (8, .p), (10, .i .i64)] .n) .n)))))) .n))))) .n)))))) .n)))))) (rOf Tryd.prog 2 Tryd.f8)
noncomputable def e_law16_IndexRebuilds (k : Nat) (D : CallF) : Ent := entOf 8 [(0, .l), (1, .s)] [(4, .b)] (law16_IndexRebuilds k D)
theorem q_law16_IndexRebuilds : (Tryd.f8.body).bind (rcodeOf Tryd.prog 2 Tryd.f8.ntmps) = some (strip r_law16_IndexRebuilds) := by kernel_rfl
theorem t_law16_IndexRebuilds (k : Nat) (D : CallF) : curF [(0, .l), (1, .s)] (fun args h => denF (C_law16_IndexRebuilds k D) k r_law16_IndexRebuilds [(4, .b)] [none] args h) = law16_IndexRebuilds k D := by kernel_rfl
theorem ok_law16_IndexRebuilds {D : CallF} (hD : CSound Tryd.prog 2 D) (k : Nat) : EntOk Tryd.prog 2 (e_law16_IndexRebuilds k D) :=
 entOf_ok2 (mkC_sound hD (EntsOk.more (ok_law16_works hD k) (EntsOk.more (ok_lookup_New hD k) (EntsOk.more (ok_index_Rebuild hD k) (EntsOk.more (ok_pack_Parse hD k) (EntsOk.more (ok_lookup_Table_All hD k) (EntsOk.more (ok_law16_sameItems hD k) (EntsOk.more (ok_book_SameInts hD k) (EntsOk.more (ok_pack_New hD k) (EntsOk.more (ok_pack_Builder_Finish hD k) (EntsOk.more (ok_lookup_Table_Add hD k) (EntsOk.more (ok_pack_Builder_Add hD k) (EntsOk.none))))))))))))) Tryd.func8 rfl q_law16_IndexRebuilds rfl (t_law16_IndexRebuilds k D)
end Ge
