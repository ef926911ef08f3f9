import Derived.Test.YtgnljbdobbahkaaDoorProg
import Derived.WalkKit
import Derived.Laws.Externs
import Derived.KernelRfl
import Derived.Test.YtgnljbdobbahkaaDoorGx3
namespace Ge
open Go Gx Go.Proofs
set_option maxRecDepth 100000
noncomputable def C_blob_known (_k : Nat) (D : CallF) : CallF := mkC D []
noncomputable def blob_known (_k : Nat) (_D : CallF) (kind_0 : Int) (h : AHeap) : Option ((Bool) × AHeap) :=
 (if (kind_0 == 1) = true then
 some (true, h)
 else
 some ((kind_0 == 2), h))
noncomputable def r_blob_known : RCode := an (.n) (rOf Tryd.prog 2 Tryd.f40)
noncomputable def e_blob_known (k : Nat) (D : CallF) : Ent := entOf 40 [(0, .i .i64)] [(2, .b)] (blob_known k D)
theorem q_blob_known : (Tryd.f40.body).bind (rcodeOf Tryd.prog 2 Tryd.f40.ntmps) = some (strip r_blob_known) := by kernel_rfl
theorem t_blob_known (k : Nat) (D : CallF) : curF [(0, .i .i64)] (fun args h => denF (C_blob_known k D) k r_blob_known [(2, .b)] [none] args h) = blob_known k D := by kernel_rfl
theorem ok_blob_known {D : CallF} (hD : CSound Tryd.prog 2 D) (k : Nat) : EntOk Tryd.prog 2 (e_blob_known k D) :=
 entOf_ok2 (mkC_sound hD (EntsOk.none)) Tryd.func40 rfl q_blob_known rfl (t_blob_known k D)
end Ge
namespace Ge
open Go Gx Go.Proofs
set_option maxRecDepth 100000
noncomputable def C_sha_first (_k : Nat) (D : CallF) : CallF := mkC D []
noncomputable def sha_first (_k : Nat) (_D : CallF)  (h : AHeap) : Option (((Int × Int × Int × Int × Int × Int × Int × Int)) × AHeap) :=
 let h1 := AHeap.new h (.cells [.int .u32 0, .int .u32 0, .int .u32 0, .int .u32 0, .int .u32 0, .int .u32 0, .int .u32 0, .int .u32 0] 147 true 0)
 (stL 8 (⟨h.next, 0, none⟩ : Addr) ([.int .u32 1779033703, .int .u32 3144134277, .int .u32 1013904242, .int .u32 2773480762, .int .u32 1359893119, .int .u32 2600822924, .int .u32 528734635, .int .u32 1541459225]) h1).bind fun h2 =>
 (ldA 8 (⟨h.next, 0, none⟩ : Addr) h2).bind fun l3 =>
 (decC [.i .u32, .i .u32, .i .u32, .i .u32, .i .u32, .i .u32, .i .u32, .i .u32] l3).bind fun x4 =>
 some ((x4.1, x4.2.1, x4.2.2.1, x4.2.2.2.1, x4.2.2.2.2.1, x4.2.2.2.2.2.1, x4.2.2.2.2.2.2.1, x4.2.2.2.2.2.2.2), h2)
noncomputable def r_sha_first : RCode := an (.n) (rOf Tryd.prog 2 Tryd.f88)
noncomputable def e_sha_first (k : Nat) (D : CallF) : Ent := entOf 88 [] [(0, .st [.i .u32, .i .u32, .i .u32, .i .u32, .i .u32, .i .u32, .i .u32, .i .u32])] (sha_first k D)
theorem q_sha_first : (Tryd.f88.body).bind (rcodeOf Tryd.prog 2 Tryd.f88.ntmps) = some (strip r_sha_first) := by kernel_rfl
theorem t_sha_first (k : Nat) (D : CallF) : curF [] (fun args h => denF (C_sha_first k D) k r_sha_first [(0, .st [.i .u32, .i .u32, .i .u32, .i .u32, .i .u32, .i .u32, .i .u32, .i .u32])] [some (.agg 8)] args h) = sha_first k D := by kernel_rfl
theorem ok_sha_first {D : CallF} (hD : CSound Tryd.prog 2 D) (k : Nat) : EntOk Tryd.prog 2 (e_sha_first k D) :=
 entOf_ok2 (mkC_sound hD (EntsOk.none)) Tryd.func88 rfl q_sha_first rfl (t_sha_first k D)
end Ge
namespace Ge
open Go Gx Go.Proofs
set_option maxRecDepth 100000
noncomputable def C_sha_New (k : Nat) (D : CallF) : CallF := mkC D [e_sha_first k D]
noncomputable def sha_New (k : Nat) (D : CallF)  (h : AHeap) : Option (((Option Addr)) × AHeap) :=
 (sha_first k D h).bind fun r1 =>
 let h2 := AHeap.new r1.2 (.cells [.int .u32 r1.1.1, .int .u32 r1.1.2.1, .int .u32 r1.1.2.2.1, .int .u32 r1.1.2.2.2.1, .int .u32 r1.1.2.2.2.2.1, .int .u32 r1.1.2.2.2.2.2.1, .int .u32 r1.1.2.2.2.2.2.2.1, .int .u32 r1.1.2.2.2.2.2.2.2, .slice none 0 0, .int .i64 0] 150 true 0)
 some ((some (⟨r1.2.next, 0, none⟩ : Addr)), h2)
noncomputable def r_sha_New : RCode := an (.n) (rOf Tryd.prog 2 Tryd.f52)
noncomputable def e_sha_New (k : Nat) (D : CallF) : Ent := entOf 52 [] [(0, .p)] (sha_New k D)
theorem q_sha_New : (Tryd.f52.body).bind (rcodeOf Tryd.prog 2 Tryd.f52.ntmps) = some (strip r_sha_New) := by kernel_rfl
theorem t_sha_New (k : Nat) (D : CallF) : curF [] (fun args h => denF (C_sha_New k D) k r_sha_New [(0, .p)] [none] args h) = sha_New k D := by kernel_rfl
theorem ok_sha_New {D : CallF} (hD : CSound Tryd.prog 2 D) (k : Nat) : EntOk Tryd.prog 2 (e_sha_New k D) :=
 entOf_ok2 (mkC_sound hD (EntsOk.more (ok_sha_first hD k) (EntsOk.none))) Tryd.func52 rfl q_sha_New rfl (t_sha_New k D)
end Ge
namespace Ge
open Go Gx Go.Proofs
set_option maxRecDepth 100000
noncomputable def C_sha_Hash_Fork (_k : Nat) (D : CallF) : CallF := mkC D []
noncomputable def sha_Hash_Fork (_k : Nat) (_D : CallF) (h_0 : Option Addr) (h : AHeap) : Option (((Option Addr)) × AHeap) :=
 (h_0).bind fun p1 =>
 (ldL (⟨p1.block, p1.off + 8, none⟩ : Addr) h).bind fun x2 =>
 (rdS 1 x2 h).bind fun n4 =>
 (appendA 1 1 5 h (⟨none, 0, 0⟩ : Slc) n4 x2.len).bind fun r3 =>
 (h_0).bind fun p5 =>
 (ldA 8 (⟨p5.block, p5.off + 0, none⟩ : Addr) r3.2).bind fun l6 =>
 guardP (SameW [h] (fun H8 => (ldA 8 (⟨p5.block, p5.off + 0, none⟩ : Addr) H8).bind fun y7 => some (.agg ⟨y7⟩)) (.agg ⟨l6⟩)) (
 (decC [.i .u32, .i .u32, .i .u32, .i .u32, .i .u32, .i .u32, .i .u32, .i .u32] l6).bind fun x9 =>
 (h_0).bind fun p10 =>
 (ldI .i64 (⟨p10.block, p10.off + 9, none⟩ : Addr) r3.2).bind fun x11 =>
 guardP (SameW [h] (fun H13 => (ldI .i64 (⟨p10.block, p10.off + 9, none⟩ : Addr) H13).bind fun y12 => some (.int .i64 y12)) (.int .i64 x11)) (
 let h14 := AHeap.new r3.2 (.cells [.int .u32 x9.1, .int .u32 x9.2.1, .int .u32 x9.2.2.1, .int .u32 x9.2.2.2.1, .int .u32 x9.2.2.2.2.1, .int .u32 x9.2.2.2.2.2.1, .int .u32 x9.2.2.2.2.2.2.1, .int .u32 x9.2.2.2.2.2.2.2, .slice r3.1.a r3.1.len r3.1.cap, .int .i64 x11] 150 true 0)
 some ((some (⟨r3.2.next, 0, none⟩ : Addr)), h14)))
noncomputable def r_sha_Hash_Fork : RCode := an (.s .n (.s (.r [(8, .st [.i .u32, .i .u32, .i .u32, .i .u32, .i .u32, .i .u32, .i .u32, .i .u32])]) .n)) (rOf Tryd.prog 2 Tryd.f90)
noncomputable def e_sha_Hash_Fork (k : Nat) (D : CallF) : Ent := entOf 90 [(0, .p)] [(2, .p)] (sha_Hash_Fork k D)
theorem q_sha_Hash_Fork : (Tryd.f90.body).bind (rcodeOf Tryd.prog 2 Tryd.f90.ntmps) = some (strip r_sha_Hash_Fork) := by kernel_rfl
theorem t_sha_Hash_Fork (k : Nat) (D : CallF) : curF [(0, .p)] (fun args h => denF (C_sha_Hash_Fork k D) k r_sha_Hash_Fork [(2, .p)] [none] args h) = sha_Hash_Fork k D := by kernel_rfl
theorem ok_sha_Hash_Fork {D : CallF} (hD : CSound Tryd.prog 2 D) (k : Nat) : EntOk Tryd.prog 2 (e_sha_Hash_Fork k D) :=
 entOf_ok2 (mkC_sound hD (EntsOk.none)) Tryd.func90 rfl q_sha_Hash_Fork rfl (t_sha_Hash_Fork k D)
end Ge
namespace Ge
open Go Gx Go.Proofs
set_option maxRecDepth 100000
noncomputable def C_math_bits_RotateLeft32 (_k : Nat) (D : CallF) : CallF := mkC D []
noncomputable def math_bits_RotateLeft32 (_k : Nat) (_D : CallF) (x_0 : Int) (k_1 : Int) (h : AHeap) : Option ((Int) × AHeap) :=
 (if 0 ≤ (Go.bits .and .u64 (IntKind.wrap .u64 k_1) 31) then
 let t1 : Int := (IntKind.wrap .u32 (x_0 * 2 ^ (min ((Go.bits .and .u64 (IntKind.wrap .u64 k_1) 31)).toNat (IntKind.bits .u32))))
 let t2 : Int := (IntKind.wrap .u64 (32 - (Go.bits .and .u64 (IntKind.wrap .u64 k_1) 31)))
 (if 0 ≤ t2 then
 let t3 : Int := (Go.bits .or .u32 t1 (Int.fdiv x_0 (2 ^ (min (t2).toNat (IntKind.bits .u32)))))
 some (t3, h)
 else none)
 else none)
noncomputable def r_math_bits_RotateLeft32 : RCode := an (.n) (rOf Tryd.prog 2 Tryd.f117)
noncomputable def e_math_bits_RotateLeft32 (k : Nat) (D : CallF) : Ent := entOf 117 [(0, .i .u32), (1, .i .i64)] [(4, .i .u32)] (math_bits_RotateLeft32 k D)
theorem q_math_bits_RotateLeft32 : (Tryd.f117.body).bind (rcodeOf Tryd.prog 2 Tryd.f117.ntmps) = some (strip r_math_bits_RotateLeft32) := by kernel_rfl
theorem t_math_bits_RotateLeft32 (k : Nat) (D : CallF) : curF [(0, .i .u32), (1, .i .i64)] (fun args h => denF (C_math_bits_RotateLeft32 k D) k r_math_bits_RotateLeft32 [(4, .i .u32)] [none] args h) = math_bits_RotateLeft32 k D := by kernel_rfl
theorem ok_math_bits_RotateLeft32 {D : CallF} (hD : CSound Tryd.prog 2 D) (k : Nat) : EntOk Tryd.prog 2 (e_math_bits_RotateLeft32 k D) :=
 entOf_ok2 (mkC_sound hD (EntsOk.none)) Tryd.func117 rfl q_math_bits_RotateLeft32 rfl (t_math_bits_RotateLeft32 k D)
end Ge
namespace Ge
open Go Gx Go.Proofs
set_option maxRecDepth 100000
noncomputable def C_sha_spread (k : Nat) (D : CallF) : CallF := mkC D [e_math_bits_RotateLeft32 k D]
noncomputable def sha_spread_l1b (_k : Nat) (_D : CallF) (j4 : (Option Addr) → AHeap → Option (((List Value)) × AHeap)) (rec46 : Slc → (Option Addr) → Int → AHeap → Option (((List Value)) × AHeap)) (b42 : Slc) (w43 : Option Addr) (y44 : Int) (h45 : AHeap) : Option (((List Value)) × AHeap) :=
 (if (decide (y44 < 16)) = true then
 (Gx.idxL 1 b42 (IntKind.wrap .i64 (4 * y44))).bind fun q47 =>
 (ldI .u8 q47 h45).bind fun x48 =>
 (Gx.idxL 1 b42 (IntKind.wrap .i64 ((IntKind.wrap .i64 (4 * y44)) + 1))).bind fun q49 =>
 (ldI .u8 q49 h45).bind fun x50 =>
 let t51 : Int := (Go.bits .or .u32 (IntKind.wrap .u32 ((IntKind.wrap .u32 x48) * 16777216)) (IntKind.wrap .u32 ((IntKind.wrap .u32 x50) * 65536)))
 (Gx.idxL 1 b42 (IntKind.wrap .i64 ((IntKind.wrap .i64 (4 * y44)) + 2))).bind fun q52 =>
 (ldI .u8 q52 h45).bind fun x53 =>
 let t54 : Int := (Go.bits .or .u32 t51 (IntKind.wrap .u32 ((IntKind.wrap .u32 x53) * 256)))
 (Gx.idxL 1 b42 (IntKind.wrap .i64 ((IntKind.wrap .i64 (4 * y44)) + 3))).bind fun q55 =>
 (ldI .u8 q55 h45).bind fun x56 =>
 (w43).bind fun p58 =>
 (Gx.idxA 64 1 p58 y44).bind fun q57 =>
 (st1 q57 (.int .u32 (Go.bits .or .u32 t54 (IntKind.wrap .u32 x56))) h45).bind fun h59 =>
 rec46 b42 w43 (IntKind.wrap .i64 (y44 + 1)) h59
 else
 j4 w43 h45)
noncomputable def sha_spread_l1 (k : Nat) (D : CallF) (j4 : (Option Addr) → AHeap → Option (((List Value)) × AHeap)) : Slc → (Option Addr) → Int → AHeap → Option (((List Value)) × AHeap) :=
 iterK (α := Slc → (Option Addr) → Int → AHeap → Option (((List Value)) × AHeap)) (fun _ _ _ _ => none) k (sha_spread_l1b k D j4)
noncomputable def sha_spread_l0b (k : Nat) (D : CallF) (j7 : (Option Addr) → AHeap → Option (((List Value)) × AHeap)) (rec19 : (Option Addr) → Int → AHeap → Option (((List Value)) × AHeap)) (w15 : Option Addr) (i17 : Int) (h18 : AHeap) : Option (((List Value)) × AHeap) :=
 (if (decide (i17 < 64)) = true then
 (w15).bind fun p21 =>
 (Gx.idxA 64 1 p21 (IntKind.wrap .i64 (i17 - 15))).bind fun q20 =>
 (ldI .u32 q20 h18).bind fun x22 =>
 (w15).bind fun p24 =>
 (Gx.idxA 64 1 p24 (IntKind.wrap .i64 (i17 - 2))).bind fun q23 =>
 (ldI .u32 q23 h18).bind fun x25 =>
 (math_bits_RotateLeft32 k D x22 (-7) h18).bind fun r26 =>
 (math_bits_RotateLeft32 k D x22 (-18) r26.2).bind fun r27 =>
 let t28 : Int := (Go.bits .xor .u32 (Go.bits .xor .u32 r26.1 r27.1) (Int.fdiv x22 8))
 (math_bits_RotateLeft32 k D x25 (-17) r27.2).bind fun r29 =>
 (math_bits_RotateLeft32 k D x25 (-19) r29.2).bind fun r30 =>
 let t31 : Int := (Go.bits .xor .u32 (Go.bits .xor .u32 r29.1 r30.1) (Int.fdiv x25 1024))
 (w15).bind fun p33 =>
 (Gx.idxA 64 1 p33 (IntKind.wrap .i64 (i17 - 16))).bind fun q32 =>
 (ldI .u32 q32 r30.2).bind fun x34 =>
 (w15).bind fun p36 =>
 (Gx.idxA 64 1 p36 (IntKind.wrap .i64 (i17 - 7))).bind fun q35 =>
 (ldI .u32 q35 r30.2).bind fun x37 =>
 let t38 : Int := (IntKind.wrap .u32 ((IntKind.wrap .u32 ((IntKind.wrap .u32 (x34 + t28)) + x37)) + t31))
 (w15).bind fun p40 =>
 (Gx.idxA 64 1 p40 i17).bind fun q39 =>
 (st1 q39 (.int .u32 t38) r30.2).bind fun h41 =>
 rec19 w15 (IntKind.wrap .i64 (i17 + 1)) h41
 else
 j7 w15 h18)
noncomputable def sha_spread_l0 (k : Nat) (D : CallF) (j7 : (Option Addr) → AHeap → Option (((List Value)) × AHeap)) : (Option Addr) → Int → AHeap → Option (((List Value)) × AHeap) :=
 iterK (α := (Option Addr) → Int → AHeap → Option (((List Value)) × AHeap)) (fun _ _ _ => none) k (sha_spread_l0b k D j7)
noncomputable def sha_spread (k : Nat) (D : CallF) (b_0 : Slc) (h : AHeap) : Option (((List Value)) × AHeap) :=
 let h1 := AHeap.new h (.cells (List.replicate 64 (.int .u32 0)) 174 true 0)
 joinK (fun (w2 : Option Addr) (h3 : AHeap) =>
 joinK (fun (w5 : Option Addr) (h6 : AHeap) =>
 (w5).bind fun p8 =>
 (ldA 64 p8 h6).bind fun l9 =>
 (w5).bind fun p10 =>
 (stL 64 p10 l9 h6).bind fun h11 =>
 (w5).bind fun p12 =>
 (ldA 64 p12 h11).bind fun l13 =>
 (decA 64 (.agg ⟨l13⟩)).bind fun l14 =>
 some (l14, h11)) fun j7 =>
 sha_spread_l0 k D j7 w2 16 h3) fun j4 =>
 sha_spread_l1 k D j4 b_0 (some (⟨h.next, 0, none⟩ : Addr)) 0 h1
noncomputable def r_sha_spread : RCode := an (.s .n (.s (.j [(2, .p)] (.s .n (.b (.l [(0, .l), (2, .p), (7, .i .i64)] .n)))) (.s (.j [(2, .p)] (.s .n (.b (.l [(2, .p), (4, .i .i64)] .n)))) .n))) (rOf Tryd.prog 2 Tryd.f116)
noncomputable def e_sha_spread (k : Nat) (D : CallF) : Ent := entOf 116 [(0, .l)] [(2, .agg 64)] (sha_spread k D)
theorem q_sha_spread : (Tryd.f116.body).bind (rcodeOf Tryd.prog 2 Tryd.f116.ntmps) = some (strip r_sha_spread) := by kernel_rfl
theorem t_sha_spread (k : Nat) (D : CallF) : curF [(0, .l)] (fun args h => denF (C_sha_spread k D) k r_sha_spread [(2, .agg 64)] [some (.agg 64)] args h) = sha_spread k D := by kernel_rfl
theorem ok_sha_spread {D : CallF} (hD : CSound Tryd.prog 2 D) (k : Nat) : EntOk Tryd.prog 2 (e_sha_spread k D) :=
 entOf_ok2 (mkC_sound hD (EntsOk.more (ok_math_bits_RotateLeft32 hD k) (EntsOk.none))) Tryd.func116 rfl q_sha_spread rfl (t_sha_spread k D)
end Ge
namespace Ge
open Go Gx Go.Proofs
set_option maxRecDepth 100000
noncomputable def C_sha_Hash_take (k : Nat) (D : CallF) : CallF := mkC D [e_sha_spread k D, e_math_bits_RotateLeft32 k D]
noncomputable def sha_Hash_take_l1b (k : Nat) (D : CallF) (j38 : (Option Addr) → Int → Int → Int → Int → Int → Int → Int → Int → AHeap → Option ((Unit) × AHeap)) (rec64 : (Option Addr) → (Option Addr) → Int → Int → Int → Int → Int → Int → Int → Int → Int → AHeap → Option ((Unit) × AHeap)) (hv52 : Option Addr) (w53 : Option Addr) (a54 : Int) (b55 : Int) (c56 : Int) (d57 : Int) (e58 : Int) (f59 : Int) (g60 : Int) (last61 : Int) (y62 : Int) (h63 : AHeap) : Option ((Unit) × AHeap) :=
 (if (decide (y62 < 64)) = true then
 (math_bits_RotateLeft32 k D e58 (-6) h63).bind fun r65 =>
 (math_bits_RotateLeft32 k D e58 (-11) r65.2).bind fun r66 =>
 (math_bits_RotateLeft32 k D e58 (-25) r66.2).bind fun r67 =>
 let t68 : Int := (IntKind.wrap .u32 (last61 + (Go.bits .xor .u32 (Go.bits .xor .u32 r65.1 r66.1) r67.1)))
 let t69 : Int := (Go.bits .and .u32 (Go.bits .xor .u32 (IntKind.max .u32) e58) g60)
 let t70 : Int := (IntKind.wrap .u32 (t68 + (Go.bits .xor .u32 (Go.bits .and .u32 e58 f59) t69)))
 (Gx.idxA 64 1 (⟨0, 0, none⟩ : Addr) y62).bind fun q71 =>
 (ldI .u32 q71 r67.2).bind fun x72 =>
 (w53).bind fun p74 =>
 (Gx.idxA 64 1 p74 y62).bind fun q73 =>
 (ldI .u32 q73 r67.2).bind fun x75 =>
 (math_bits_RotateLeft32 k D a54 (-2) r67.2).bind fun r76 =>
 (math_bits_RotateLeft32 k D a54 (-13) r76.2).bind fun r77 =>
 (math_bits_RotateLeft32 k D a54 (-22) r77.2).bind fun r78 =>
 let t79 : Int := (Go.bits .xor .u32 (Go.bits .and .u32 a54 b55) (Go.bits .and .u32 a54 c56))
 let t80 : Int := (IntKind.wrap .u32 ((Go.bits .xor .u32 (Go.bits .xor .u32 r76.1 r77.1) r78.1) + (Go.bits .xor .u32 t79 (Go.bits .and .u32 b55 c56))))
 let t81 : Int := (IntKind.wrap .u32 (d57 + (IntKind.wrap .u32 ((IntKind.wrap .u32 (t70 + x72)) + x75))))
 let t82 : Int := (IntKind.wrap .u32 ((IntKind.wrap .u32 ((IntKind.wrap .u32 (t70 + x72)) + x75)) + t80))
 rec64 hv52 w53 t82 a54 b55 c56 t81 e58 f59 g60 (IntKind.wrap .i64 (y62 + 1)) r78.2
 else
 j38 hv52 a54 b55 c56 d57 e58 f59 g60 last61 h63)
noncomputable def sha_Hash_take_l1 (k : Nat) (D : CallF) (j38 : (Option Addr) → Int → Int → Int → Int → Int → Int → Int → Int → AHeap → Option ((Unit) × AHeap)) : (Option Addr) → (Option Addr) → Int → Int → Int → Int → Int → Int → Int → Int → Int → AHeap → Option ((Unit) × AHeap) :=
 iterK (α := (Option Addr) → (Option Addr) → Int → Int → Int → Int → Int → Int → Int → Int → Int → AHeap → Option ((Unit) × AHeap)) (fun _ _ _ _ _ _ _ _ _ _ _ _ => none) k (sha_Hash_take_l1b k D j38)
noncomputable def sha_Hash_take_l0b (_k : Nat) (_D : CallF)  (rec43 : (Option Addr) → (Int × Int × Int × Int × Int × Int × Int × Int) → Int → AHeap → Option ((Unit) × AHeap)) (hv39 : Option Addr) (y40 : Int × Int × Int × Int × Int × Int × Int × Int) (y41 : Int) (h42 : AHeap) : Option ((Unit) × AHeap) :=
 (if (decide (y41 < 8)) = true then
 (if 0 ≤ y41 ∧ y41 < ((8 : Nat) : Int) then
 (([.int .u32 y40.1, .int .u32 y40.2.1, .int .u32 y40.2.2.1, .int .u32 y40.2.2.2.1, .int .u32 y40.2.2.2.2.1, .int .u32 y40.2.2.2.2.2.1, .int .u32 y40.2.2.2.2.2.2.1, .int .u32 y40.2.2.2.2.2.2.2])[(y41).toNat * 1]?).bind fun v44 =>
 (decI .u32 v44).bind fun x45 =>
 (hv39).bind fun p46 =>
 (Gx.idxA 8 1 (⟨p46.block, p46.off + 0, none⟩ : Addr) y41).bind fun q47 =>
 (ldI .u32 q47 h42).bind fun x48 =>
 (hv39).bind fun p49 =>
 (Gx.idxA 8 1 (⟨p49.block, p49.off + 0, none⟩ : Addr) y41).bind fun q50 =>
 (st1 q50 (.int .u32 (IntKind.wrap .u32 (x48 + x45))) h42).bind fun h51 =>
 rec43 hv39 (y40.1, y40.2.1, y40.2.2.1, y40.2.2.2.1, y40.2.2.2.2.1, y40.2.2.2.2.2.1, y40.2.2.2.2.2.2.1, y40.2.2.2.2.2.2.2) (IntKind.wrap .i64 (y41 + 1)) h51
 else none)
 else
 some ((), h42))
noncomputable def sha_Hash_take_l0 (k : Nat) (D : CallF)  : (Option Addr) → (Int × Int × Int × Int × Int × Int × Int × Int) → Int → AHeap → Option ((Unit) × AHeap) :=
 iterK (α := (Option Addr) → (Int × Int × Int × Int × Int × Int × Int × Int) → Int → AHeap → Option ((Unit) × AHeap)) (fun _ _ _ _ => none) k (sha_Hash_take_l0b k D )
noncomputable def sha_Hash_take (k : Nat) (D : CallF) (h_0 : Option Addr) (block_1 : Slc) (h : AHeap) : Option ((Unit) × AHeap) :=
 (sha_spread k D block_1 h).bind fun r1 =>
 let h2 := AHeap.new r1.2 (.cells (List.replicate 64 (.int .u32 0)) 174 true 0)
 (stL 64 (⟨r1.2.next, 0, none⟩ : Addr) r1.1 h2).bind fun h3 =>
 (h_0).bind fun p4 =>
 (ldI .u32 (⟨p4.block, p4.off + 0 + 0, none⟩ : Addr) h3).bind fun x6 =>
 (h_0).bind fun p7 =>
 (ldI .u32 (⟨p7.block, p7.off + 0 + 1, none⟩ : Addr) h3).bind fun x9 =>
 (h_0).bind fun p10 =>
 (ldI .u32 (⟨p10.block, p10.off + 0 + 2, none⟩ : Addr) h3).bind fun x12 =>
 (h_0).bind fun p13 =>
 (ldI .u32 (⟨p13.block, p13.off + 0 + 3, none⟩ : Addr) h3).bind fun x15 =>
 (h_0).bind fun p16 =>
 (ldI .u32 (⟨p16.block, p16.off + 0 + 4, none⟩ : Addr) h3).bind fun x18 =>
 (h_0).bind fun p19 =>
 (ldI .u32 (⟨p19.block, p19.off + 0 + 5, none⟩ : Addr) h3).bind fun x21 =>
 (h_0).bind fun p22 =>
 (ldI .u32 (⟨p22.block, p22.off + 0 + 6, none⟩ : Addr) h3).bind fun x24 =>
 (h_0).bind fun p25 =>
 (ldI .u32 (⟨p25.block, p25.off + 0 + 7, none⟩ : Addr) h3).bind fun x27 =>
 joinK (fun (hv28 : Option Addr) (a29 : Int) (b30 : Int) (c31 : Int) (d32 : Int) (e33 : Int) (f34 : Int) (g35 : Int) (last36 : Int) (h37 : AHeap) =>
 sha_Hash_take_l0 k D hv28 (a29, b30, c31, d32, e33, f34, g35, last36) 0 h37) fun j38 =>
 sha_Hash_take_l1 k D j38 h_0 (some (⟨r1.2.next, 0, none⟩ : Addr)) x6 x9 x12 x15 x18 x21 x24 x27 0 h3
noncomputable def r_sha_Hash_take : RCode := an (.s .n (.s .n (.s .n (.s (.j [(0, .p), (5, .i .u32), (6, .i .u32), (7, .i .u32), (8, .i .u32), (9, .i .u32), (10, .i .u32), (11, .i .u32), (12, .i .u32)] (.s .n (.b (.l [(0, .p), (4, .p), (5, .i .u32), (6, .i .u32), (7, .i .u32), (8, .i .u32), (9, .i .u32), (10, .i .u32), (11, .i .u32), (12, .i .u32), (62, .i .i64)] .n)))) (.s .n (.b (.l [(0, .p), (135, .st [.i .u32, .i .u32, .i .u32, .i .u32, .i .u32, .i .u32, .i .u32, .i .u32]), (136, .i .i64)] .n))))))) (rOf Tryd.prog 2 Tryd.f89)
noncomputable def e_sha_Hash_take (k : Nat) (D : CallF) : Ent := entOf 89 [(0, .p), (1, .l)] [] (sha_Hash_take k D)
theorem q_sha_Hash_take : (Tryd.f89.body).bind (rcodeOf Tryd.prog 2 Tryd.f89.ntmps) = some (strip r_sha_Hash_take) := by kernel_rfl
theorem t_sha_Hash_take (k : Nat) (D : CallF) : curF [(0, .p), (1, .l)] (fun args h => denF (C_sha_Hash_take k D) k r_sha_Hash_take [] [] args h) = sha_Hash_take k D := by kernel_rfl
theorem ok_sha_Hash_take {D : CallF} (hD : CSound Tryd.prog 2 D) (k : Nat) : EntOk Tryd.prog 2 (e_sha_Hash_take k D) :=
 entOf_ok2 (mkC_sound hD (EntsOk.more (ok_sha_spread hD k) (EntsOk.more (ok_math_bits_RotateLeft32 hD k) (EntsOk.none)))) Tryd.func89 rfl q_sha_Hash_take rfl (t_sha_Hash_take k D)
end Ge
namespace Ge
open Go Gx Go.Proofs
set_option maxRecDepth 100000
noncomputable def C_sha_Hash_Write (k : Nat) (D : CallF) : CallF := mkC D [e_sha_Hash_take k D]
noncomputable def sha_Hash_Write_l0b (k : Nat) (D : CallF) (j13 : (Option Addr) → Int → AHeap → Option ((Unit) × AHeap)) (rec24 : (Option Addr) → Int → AHeap → Option ((Unit) × AHeap)) (hv21 : Option Addr) (atv22 : Int) (h23 : AHeap) : Option ((Unit) × AHeap) :=
 (hv21).bind fun p25 =>
 (ldL (⟨p25.block, p25.off + 8, none⟩ : Addr) h23).bind fun x26 =>
 (if (decide ((IntKind.wrap .i64 ((x26.len : Int) - atv22)) ≥ 64)) = true then
 (hv21).bind fun p27 =>
 (ldL (⟨p27.block, p27.off + 8, none⟩ : Addr) h23).bind fun x28 =>
 (Gx.subL 1 x28 (some atv22) (some (IntKind.wrap .i64 (atv22 + 64))) none).bind fun l29 =>
 (sha_Hash_take k D hv21 l29 h23).bind fun r30 =>
 rec24 hv21 (IntKind.wrap .i64 (atv22 + 64)) r30.2
 else
 j13 hv21 atv22 h23)
noncomputable def sha_Hash_Write_l0 (k : Nat) (D : CallF) (j13 : (Option Addr) → Int → AHeap → Option ((Unit) × AHeap)) : (Option Addr) → Int → AHeap → Option ((Unit) × AHeap) :=
 iterK (α := (Option Addr) → Int → AHeap → Option ((Unit) × AHeap)) (fun _ _ _ => none) k (sha_Hash_Write_l0b k D j13)
noncomputable def sha_Hash_Write (k : Nat) (D : CallF) (h_0 : Option Addr) (s_1 : ByteArray) (h : AHeap) : Option ((Unit) × AHeap) :=
 (h_0).bind fun p1 =>
 (ldI .i64 (⟨p1.block, p1.off + 9, none⟩ : Addr) h).bind fun x2 =>
 (h_0).bind fun p3 =>
 (st1 (⟨p3.block, p3.off + 9, none⟩ : Addr) (.int .i64 (IntKind.wrap .i64 (x2 + (s_1.size : Int)))) h).bind fun h4 =>
 (h_0).bind fun p5 =>
 (ldL (⟨p5.block, p5.off + 8, none⟩ : Addr) h4).bind fun x6 =>
 (appendA 1 1 5 h4 x6 (bytesL s_1) s_1.size).bind fun r7 =>
 (h_0).bind fun p8 =>
 (st1 (⟨p8.block, p8.off + 8, none⟩ : Addr) (.slice r7.1.a r7.1.len r7.1.cap) r7.2).bind fun h9 =>
 joinK (fun (hv10 : Option Addr) (atv11 : Int) (h12 : AHeap) =>
 (hv10).bind fun p14 =>
 (ldL (⟨p14.block, p14.off + 8, none⟩ : Addr) h12).bind fun x15 =>
 (Gx.subL 1 x15 (some atv11) none none).bind fun l16 =>
 (rdS 1 l16 h12).bind fun n18 =>
 (appendA 1 1 5 h12 (⟨none, 0, 0⟩ : Slc) n18 l16.len).bind fun r17 =>
 (hv10).bind fun p19 =>
 (st1 (⟨p19.block, p19.off + 8, none⟩ : Addr) (.slice r17.1.a r17.1.len r17.1.cap) r17.2).bind fun h20 =>
 some ((), h20)) fun j13 =>
 sha_Hash_Write_l0 k D j13 h_0 0 h9
noncomputable def r_sha_Hash_Write : RCode := an (.s .n (.s .n (.s .n (.s (.j [(0, .p), (4, .i .i64)] (.b (.l [(0, .p), (4, .i .i64)] .n))) .n)))) (rOf Tryd.prog 2 Tryd.f53)
noncomputable def e_sha_Hash_Write (k : Nat) (D : CallF) : Ent := entOf 53 [(0, .p), (1, .s)] [] (sha_Hash_Write k D)
theorem q_sha_Hash_Write : (Tryd.f53.body).bind (rcodeOf Tryd.prog 2 Tryd.f53.ntmps) = some (strip r_sha_Hash_Write) := by kernel_rfl
theorem t_sha_Hash_Write (k : Nat) (D : CallF) : curF [(0, .p), (1, .s)] (fun args h => denF (C_sha_Hash_Write k D) k r_sha_Hash_Write [] [] args h) = sha_Hash_Write k D := by kernel_rfl
theorem ok_sha_Hash_Write {D : CallF} (hD : CSound Tryd.prog 2 D) (k : Nat) : EntOk Tryd.prog 2 (e_sha_Hash_Write k D) :=
 entOf_ok2 (mkC_sound hD (EntsOk.more (ok_sha_Hash_take hD k) (EntsOk.none))) Tryd.func53 rfl q_sha_Hash_Write rfl (t_sha_Hash_Write k D)
end Ge
namespace Ge
open Go Gx Go.Proofs
set_option maxRecDepth 100000
noncomputable def C_sha_Hash_Sum (k : Nat) (D : CallF) : CallF := mkC D [e_sha_Hash_Fork k D, e_sha_Hash_Write k D]
noncomputable def sha_Hash_Sum_l2b (_k : Nat) (_D : CallF) (j7 : (Option Addr) → (Option Addr) → Slc → AHeap → Option ((ByteArray) × AHeap)) (rec47 : (Option Addr) → (Option Addr) → Slc → AHeap → Option ((ByteArray) × AHeap)) (hv43 : Option Addr) (endv44 : Option Addr) (tail45 : Slc) (h46 : AHeap) : Option ((ByteArray) × AHeap) :=
 (endv44).bind fun p48 =>
 (ldL (⟨p48.block, p48.off + 8, none⟩ : Addr) h46).bind fun x49 =>
 let t50 : Int := (Int.tmod (IntKind.wrap .i64 ((x49.len : Int) + (tail45.len : Int))) 64)
 (if (t50 != 56) = true then
 let h51 := AHeap.new h46 (.cells [.int .u8 0] 5 true 0)
 (rdS 1 (⟨(some ⟨h46.next, 0, some 0⟩), 1, 1⟩ : Slc) h51).bind fun n53 =>
 (appendA 1 1 5 h51 tail45 n53 1).bind fun r52 =>
 rec47 hv43 endv44 r52.1 r52.2
 else
 j7 hv43 endv44 tail45 h46)
noncomputable def sha_Hash_Sum_l2 (k : Nat) (D : CallF) (j7 : (Option Addr) → (Option Addr) → Slc → AHeap → Option ((ByteArray) × AHeap)) : (Option Addr) → (Option Addr) → Slc → AHeap → Option ((ByteArray) × AHeap) :=
 iterK (α := (Option Addr) → (Option Addr) → Slc → AHeap → Option ((ByteArray) × AHeap)) (fun _ _ _ _ => none) k (sha_Hash_Sum_l2b k D j7)
noncomputable def sha_Hash_Sum_l1b (_k : Nat) (_D : CallF) (j13 : (Option Addr) → Slc → AHeap → Option ((ByteArray) × AHeap)) (rec38 : (Option Addr) → Slc → Int → Int → AHeap → Option ((ByteArray) × AHeap)) (endv33 : Option Addr) (tail34 : Slc) (count35 : Int) (shift36 : Int) (h37 : AHeap) : Option ((ByteArray) × AHeap) :=
 (if (decide (shift36 ≥ 0)) = true then
 (if 0 ≤ shift36 then
 let t39 : Int := (Int.fdiv count35 (2 ^ (min (shift36).toNat (IntKind.bits .u64))))
 let h40 := AHeap.new h37 (.cells [.int .u8 (IntKind.wrap .u8 t39)] 5 true 0)
 (rdS 1 (⟨(some ⟨h37.next, 0, some 0⟩), 1, 1⟩ : Slc) h40).bind fun n42 =>
 (appendA 1 1 5 h40 tail34 n42 1).bind fun r41 =>
 rec38 endv33 r41.1 count35 (IntKind.wrap .i64 (shift36 - 8)) r41.2
 else none)
 else
 j13 endv33 tail34 h37)
noncomputable def sha_Hash_Sum_l1 (k : Nat) (D : CallF) (j13 : (Option Addr) → Slc → AHeap → Option ((ByteArray) × AHeap)) : (Option Addr) → Slc → Int → Int → AHeap → Option ((ByteArray) × AHeap) :=
 iterK (α := (Option Addr) → Slc → Int → Int → AHeap → Option ((ByteArray) × AHeap)) (fun _ _ _ _ _ => none) k (sha_Hash_Sum_l1b k D j13)
noncomputable def sha_Hash_Sum_l0b (_k : Nat) (_D : CallF) (j18 : Slc → AHeap → Option ((ByteArray) × AHeap)) (rec27 : Slc → (Int × Int × Int × Int × Int × Int × Int × Int) → Int → AHeap → Option ((ByteArray) × AHeap)) (out23 : Slc) (y24 : Int × Int × Int × Int × Int × Int × Int × Int) (y25 : Int) (h26 : AHeap) : Option ((ByteArray) × AHeap) :=
 (if (decide (y25 < 8)) = true then
 (if 0 ≤ y25 ∧ y25 < ((8 : Nat) : Int) then
 (([.int .u32 y24.1, .int .u32 y24.2.1, .int .u32 y24.2.2.1, .int .u32 y24.2.2.2.1, .int .u32 y24.2.2.2.2.1, .int .u32 y24.2.2.2.2.2.1, .int .u32 y24.2.2.2.2.2.2.1, .int .u32 y24.2.2.2.2.2.2.2])[(y25).toNat * 1]?).bind fun v28 =>
 (decI .u32 v28).bind fun x29 =>
 let h30 := AHeap.new h26 (.cells [.int .u8 (IntKind.wrap .u8 (Int.fdiv x29 16777216)), .int .u8 (IntKind.wrap .u8 (Int.fdiv x29 65536)), .int .u8 (IntKind.wrap .u8 (Int.fdiv x29 256)), .int .u8 (IntKind.wrap .u8 x29)] 5 true 0)
 (rdS 1 (⟨(some ⟨h26.next, 0, some 0⟩), 4, 4⟩ : Slc) h30).bind fun n32 =>
 (appendA 1 1 5 h30 out23 n32 4).bind fun r31 =>
 rec27 r31.1 (y24.1, y24.2.1, y24.2.2.1, y24.2.2.2.1, y24.2.2.2.2.1, y24.2.2.2.2.2.1, y24.2.2.2.2.2.2.1, y24.2.2.2.2.2.2.2) (IntKind.wrap .i64 (y25 + 1)) r31.2
 else none)
 else
 j18 out23 h26)
noncomputable def sha_Hash_Sum_l0 (k : Nat) (D : CallF) (j18 : Slc → AHeap → Option ((ByteArray) × AHeap)) : Slc → (Int × Int × Int × Int × Int × Int × Int × Int) → Int → AHeap → Option ((ByteArray) × AHeap) :=
 iterK (α := Slc → (Int × Int × Int × Int × Int × Int × Int × Int) → Int → AHeap → Option ((ByteArray) × AHeap)) (fun _ _ _ _ => none) k (sha_Hash_Sum_l0b k D j18)
noncomputable def sha_Hash_Sum (k : Nat) (D : CallF) (h_0 : Option Addr) (h : AHeap) : Option ((ByteArray) × AHeap) :=
 (sha_Hash_Fork k D h_0 h).bind fun r1 =>
 let h2 := AHeap.new r1.2 (.cells [.int .u8 128] 5 true 0)
 joinK (fun (hv3 : Option Addr) (endv4 : Option Addr) (tail5 : Slc) (h6 : AHeap) =>
 (hv3).bind fun p8 =>
 (ldI .i64 (⟨p8.block, p8.off + 9, none⟩ : Addr) h6).bind fun x9 =>
 joinK (fun (endv10 : Option Addr) (tail11 : Slc) (h12 : AHeap) =>
 (bytesOf h12 tail11).bind fun s14 =>
 (sha_Hash_Write k D endv10 s14 h12).bind fun r15 =>
 joinK (fun (out16 : Slc) (h17 : AHeap) =>
 (bytesOf h17 out16).bind fun s19 =>
 some (s19, h17)) fun j18 =>
 (endv10).bind fun p20 =>
 (ldA 8 (⟨p20.block, p20.off + 0, none⟩ : Addr) r15.2).bind fun l21 =>
 (decC [.i .u32, .i .u32, .i .u32, .i .u32, .i .u32, .i .u32, .i .u32, .i .u32] l21).bind fun x22 =>
 sha_Hash_Sum_l0 k D j18 (⟨none, 0, 0⟩ : Slc) (x22.1, x22.2.1, x22.2.2.1, x22.2.2.2.1, x22.2.2.2.2.1, x22.2.2.2.2.2.1, x22.2.2.2.2.2.2.1, x22.2.2.2.2.2.2.2) 0 r15.2) fun j13 =>
 sha_Hash_Sum_l1 k D j13 endv4 tail5 (IntKind.wrap .u64 ((IntKind.wrap .u64 x9) * 8)) 56 h6) fun j7 =>
 sha_Hash_Sum_l2 k D j7 h_0 r1.1 (⟨(some ⟨r1.2.next, 0, some 0⟩), 1, 1⟩ : Slc) h2
noncomputable def r_sha_Hash_Sum : RCode := an (.s .n (.s .n (.s .n (.s (.j [(0, .p), (3, .p), (4, .l)] (.b (.l [(0, .p), (3, .p), (4, .l)] .n))) (.s .n (.s (.j [(3, .p), (4, .l)] (.s .n (.b (.l [(3, .p), (4, .l), (5, .i .u64), (6, .i .i64)] .n)))) (.s .n (.s .n (.s (.j [(7, .l)] (.s (.r [(3, .st [.i .u32, .i .u32, .i .u32, .i .u32, .i .u32, .i .u32, .i .u32, .i .u32])]) (.b (.l [(7, .l), (50, .st [.i .u32, .i .u32, .i .u32, .i .u32, .i .u32, .i .u32, .i .u32, .i .u32]), (51, .i .i64)] .n)))) .n))))))))) (rOf Tryd.prog 2 Tryd.f54)
noncomputable def e_sha_Hash_Sum (k : Nat) (D : CallF) : Ent := entOf 54 [(0, .p)] [(2, .s)] (sha_Hash_Sum k D)
theorem q_sha_Hash_Sum : (Tryd.f54.body).bind (rcodeOf Tryd.prog 2 Tryd.f54.ntmps) = some (strip r_sha_Hash_Sum) := by kernel_rfl
theorem t_sha_Hash_Sum (k : Nat) (D : CallF) : curF [(0, .p)] (fun args h => denF (C_sha_Hash_Sum k D) k r_sha_Hash_Sum [(2, .s)] [none] args h) = sha_Hash_Sum k D := by kernel_rfl
theorem ok_sha_Hash_Sum {D : CallF} (hD : CSound Tryd.prog 2 D) (k : Nat) : EntOk Tryd.prog 2 (e_sha_Hash_Sum k D) :=
 entOf_ok2 (mkC_sound hD (EntsOk.more (ok_sha_Hash_Fork hD k) (EntsOk.more (ok_sha_Hash_Write hD k) (EntsOk.none)))) Tryd.func54 rfl q_sha_Hash_Sum rfl (t_sha_Hash_Sum k D)
end Ge
namespace Ge
open Go Gx Go.Proofs
set_option maxRecDepth 100000
noncomputable def C_sha_Sum (k : Nat) (D : CallF) : CallF := mkC D [e_sha_New k D, e_sha_Hash_Sum k D, e_sha_Hash_Write k D]
noncomputable def sha_Sum_l0b (k : Nat) (D : CallF) (j4 : (Option Addr) → AHeap → Option ((ByteArray) × AHeap)) (rec11 : (Option Addr) → Slc → Int → Int → AHeap → Option ((ByteArray) × AHeap)) (hv6 : Option Addr) (y7 : Slc) (y8 : Int) (y9 : Int) (h10 : AHeap) : Option ((ByteArray) × AHeap) :=
 (if (decide (y9 < y8)) = true then
 (Gx.idxL 1 y7 y9).bind fun q12 =>
 (ldS q12 h10).bind fun x13 =>
 (sha_Hash_Write k D hv6 x13 h10).bind fun r14 =>
 rec11 hv6 y7 y8 (IntKind.wrap .i64 (y9 + 1)) r14.2
 else
 j4 hv6 h10)
noncomputable def sha_Sum_l0 (k : Nat) (D : CallF) (j4 : (Option Addr) → AHeap → Option ((ByteArray) × AHeap)) : (Option Addr) → Slc → Int → Int → AHeap → Option ((ByteArray) × AHeap) :=
 iterK (α := (Option Addr) → Slc → Int → Int → AHeap → Option ((ByteArray) × AHeap)) (fun _ _ _ _ _ => none) k (sha_Sum_l0b k D j4)
noncomputable def sha_Sum (k : Nat) (D : CallF) (pieces_0 : Slc) (h : AHeap) : Option ((ByteArray) × AHeap) :=
 (sha_New k D h).bind fun r1 =>
 joinK (fun (hv2 : Option Addr) (h3 : AHeap) =>
 (sha_Hash_Sum k D hv2 h3).bind fun r5 =>
 some (r5.1, r5.2)) fun j4 =>
 sha_Sum_l0 k D j4 r1.1 pieces_0 (pieces_0.len : Int) 0 r1.2
noncomputable def r_sha_Sum : RCode := an (.s .n (.s .n (.s (.j [(3, .p)] (.s .n (.b (.l [(3, .p), (7, .l), (8, .i .i64), (9, .i .i64)] .n)))) .n))) (rOf Tryd.prog 2 Tryd.f22)
noncomputable def e_sha_Sum (k : Nat) (D : CallF) : Ent := entOf 22 [(0, .l)] [(2, .s)] (sha_Sum k D)
theorem q_sha_Sum : (Tryd.f22.body).bind (rcodeOf Tryd.prog 2 Tryd.f22.ntmps) = some (strip r_sha_Sum) := by kernel_rfl
theorem t_sha_Sum (k : Nat) (D : CallF) : curF [(0, .l)] (fun args h => denF (C_sha_Sum k D) k r_sha_Sum [(2, .s)] [none] args h) = sha_Sum k D := by kernel_rfl
theorem ok_sha_Sum {D : CallF} (hD : CSound Tryd.prog 2 D) (k : Nat) : EntOk Tryd.prog 2 (e_sha_Sum k D) :=
 entOf_ok2 (mkC_sound hD (EntsOk.more (ok_sha_New hD k) (EntsOk.more (ok_sha_Hash_Sum hD k) (EntsOk.more (ok_sha_Hash_Write hD k) (EntsOk.none))))) Tryd.func22 rfl q_sha_Sum rfl (t_sha_Sum k D)
end Ge
namespace Ge
open Go Gx Go.Proofs
set_option maxRecDepth 100000
noncomputable def C_blob_Id (k : Nat) (D : CallF) : CallF := mkC D [e_blob_known k D, e_sha_Sum k D]
noncomputable def blob_Id (k : Nat) (D : CallF) (kind_0 : Int) (text_1 : ByteArray) (h : AHeap) : Option ((ByteArray × Int) × AHeap) :=
 (blob_known k D kind_0 h).bind fun r1 =>
 (if (!r1.1) = true then
 some (((⟨#[]⟩ : ByteArray), 1), r1.2)
 else
 newK r1.2 ((.cells [.int .u8 (IntKind.wrap .u8 kind_0)] 5 true 0)) fun h2 =>
 (bytesOf h2 (⟨(some ⟨r1.2.next, 0, some 0⟩), 1, 1⟩ : Slc)).bind fun s3 =>
 newK h2 ((.cells [.string s3, .string text_1] 9 true 0)) fun h4 =>
 (sha_Sum k D (⟨(some ⟨h2.next, 0, some 0⟩), 2, 2⟩ : Slc) h4).bind fun r5 =>
 some ((r5.1, 0), r5.2))
noncomputable def r_blob_Id : RCode := an (.n) (rOf Tryd.prog 2 Tryd.f10)
noncomputable def e_blob_Id (k : Nat) (D : CallF) : Ent := entOf 10 [(0, .i .i64), (1, .s)] [(4, .s), (5, .i .i64)] (blob_Id k D)
theorem q_blob_Id : (Tryd.f10.body).bind (rcodeOf Tryd.prog 2 Tryd.f10.ntmps) = some (strip r_blob_Id) := by kernel_rfl
theorem t_blob_Id (k : Nat) (D : CallF) : curF [(0, .i .i64), (1, .s)] (fun args h => denF (C_blob_Id k D) k r_blob_Id [(4, .s), (5, .i .i64)] [none, none] args h) = blob_Id k D := by kernel_rfl
theorem ok_blob_Id {D : CallF} (hD : CSound Tryd.prog 2 D) (k : Nat) : EntOk Tryd.prog 2 (e_blob_Id k D) :=
 entOf_ok2 (mkC_sound hD (EntsOk.more (ok_blob_known hD k) (EntsOk.more (ok_sha_Sum hD k) (EntsOk.none)))) Tryd.func10 rfl q_blob_Id rfl (t_blob_Id k D)
end Ge
namespace Ge
open Go Gx Go.Proofs
set_option maxRecDepth 100000
end Ge
namespace Ge
open Go Gx Go.Proofs
set_option maxRecDepth 100000
end Ge
namespace Ge
open Go Gx Go.Proofs
set_option maxRecDepth 100000
end Ge
namespace Ge
open Go Gx Go.Proofs
set_option maxRecDepth 100000
end Ge
namespace Ge
open Go Gx Go.Proofs
set_option maxRecDepth 100000
end Ge
namespace Ge
open Go Gx Go.Proofs
set_option maxRecDepth 100000
noncomputable def C_sha_IsId (_k : Nat) (D : CallF) : CallF := mkC D []
noncomputable def sha_IsId (_k : Nat) (_D : CallF) (s_0 : ByteArray) (h : AHeap) : Option ((Bool) × AHeap) :=
 some (((s_0.size : Int) == 32), h)
noncomputable def r_sha_IsId : RCode := an (.n) (rOf Tryd.prog 2 Tryd.f58)
noncomputable def e_sha_IsId (k : Nat) (D : CallF) : Ent := entOf 58 [(0, .s)] [(2, .b)] (sha_IsId k D)
theorem q_sha_IsId : (Tryd.f58.body).bind (rcodeOf Tryd.prog 2 Tryd.f58.ntmps) = some (strip r_sha_IsId) := by kernel_rfl
theorem t_sha_IsId (k : Nat) (D : CallF) : curF [(0, .s)] (fun args h => denF (C_sha_IsId k D) k r_sha_IsId [(2, .b)] [none] args h) = sha_IsId k D := by kernel_rfl
theorem ok_sha_IsId {D : CallF} (hD : CSound Tryd.prog 2 D) (k : Nat) : EntOk Tryd.prog 2 (e_sha_IsId k D) :=
 entOf_ok2 (mkC_sound hD (EntsOk.none)) Tryd.func58 rfl q_sha_IsId rfl (t_sha_IsId k D)
end Ge
namespace Ge
open Go Gx Go.Proofs
set_option maxRecDepth 100000
end Ge
namespace Ge
open Go Gx Go.Proofs
set_option maxRecDepth 100000
end Ge
namespace Ge
open Go Gx Go.Proofs
set_option maxRecDepth 100000
end Ge
namespace Ge
open Go Gx Go.Proofs
set_option maxRecDepth 100000
noncomputable def C_num_Short (_k : Nat) (D : CallF) : CallF := mkC D []
noncomputable def num_Short_l0b (_k : Nat) (_D : CallF) (j4 : Int → Slc → AHeap → Option ((ByteArray × Int) × AHeap)) (rec12 : Int → Slc → AHeap → Option ((ByteArray × Int) × AHeap)) (n9 : Int) (b10 : Slc) (h11 : AHeap) : Option ((ByteArray × Int) × AHeap) :=
 (if (decide (n9 ≥ 128)) = true then
 newK h11 ((.cells [.int .u8 (Go.bits .or .u8 (IntKind.wrap .u8 n9) 128)] 5 true 0)) fun h13 =>
 (rdS 1 (⟨(some ⟨h11.next, 0, some 0⟩), 1, 1⟩ : Slc) h13).bind fun n15 =>
 (appendA 1 1 5 h13 b10 n15 1).bind fun r14 =>
 rec12 (Int.fdiv n9 128) r14.1 r14.2
 else
 j4 n9 b10 h11)
noncomputable def num_Short_l0 (k : Nat) (D : CallF) (j4 : Int → Slc → AHeap → Option ((ByteArray × Int) × AHeap)) : Int → Slc → AHeap → Option ((ByteArray × Int) × AHeap) :=
 iterK (α := Int → Slc → AHeap → Option ((ByteArray × Int) × AHeap)) (fun _ _ _ => none) k (num_Short_l0b k D j4)
noncomputable def num_Short (k : Nat) (D : CallF) (n_0 : Int) (h : AHeap) : Option ((ByteArray × Int) × AHeap) :=
 (if (decide (n_0 < 0)) = true then
 some (((⟨#[]⟩ : ByteArray), 1), h)
 else
 joinK (fun (n1 : Int) (b2 : Slc) (h3 : AHeap) =>
 newK h3 ((.cells [.int .u8 (IntKind.wrap .u8 n1)] 5 true 0)) fun h5 =>
 (rdS 1 (⟨(some ⟨h3.next, 0, some 0⟩), 1, 1⟩ : Slc) h5).bind fun n7 =>
 (appendA 1 1 5 h5 b2 n7 1).bind fun r6 =>
 (bytesOf r6.2 r6.1).bind fun s8 =>
 some ((s8, 0), r6.2)) fun j4 =>
 num_Short_l0 k D j4 n_0 (⟨none, 0, 0⟩ : Slc) h)
noncomputable def r_num_Short : RCode := an (.s .n (.s .n (.s .n (.s (.j [(0, .i .i64), (4, .l)] (.b (.l [(0, .i .i64), (4, .l)] .n))) .n)))) (rOf Tryd.prog 2 Tryd.f43)
noncomputable def e_num_Short (k : Nat) (D : CallF) : Ent := entOf 43 [(0, .i .i64)] [(2, .s), (3, .i .i64)] (num_Short k D)
theorem q_num_Short : (Tryd.f43.body).bind (rcodeOf Tryd.prog 2 Tryd.f43.ntmps) = some (strip r_num_Short) := by kernel_rfl
theorem t_num_Short (k : Nat) (D : CallF) : curF [(0, .i .i64)] (fun args h => denF (C_num_Short k D) k r_num_Short [(2, .s), (3, .i .i64)] [none, none] args h) = num_Short k D := by kernel_rfl
theorem ok_num_Short {D : CallF} (hD : CSound Tryd.prog 2 D) (k : Nat) : EntOk Tryd.prog 2 (e_num_Short k D) :=
 entOf_ok2 (mkC_sound hD (EntsOk.none)) Tryd.func43 rfl q_num_Short rfl (t_num_Short k D)
end Ge
namespace Ge
open Go Gx Go.Proofs
set_option maxRecDepth 100000
end Ge
namespace Ge
open Go Gx Go.Proofs Go.RowKit
set_option maxHeartbeats 1000000 in
set_option maxRecDepth 100000 in
theorem cc_used (b o : Nat) (w : World) (h0 : w.cell? ⟨b, o, none⟩ = some (.pointer (some ⟨b, o, none⟩))) :
  Calls Tryd.prog 95 #[.pointer (some ⟨b, o, none⟩)] w fun e w' => e = .returned (.tuple #[]) ∧ w' = w := by
 obtain ⟨j, hj⟩ : ∃ j, Tryd.prog.info? 100 = some j := ⟨_, rfl⟩
 go_enter Tryd.func95, Tryd.ntmps95
 go_wp2
 rw [Lib.run_neq_ptr_same w _ Tryd.underlying98 hj]
 go_wp2
 go_end0
 exact ⟨rfl, rfl⟩
set_option maxHeartbeats 1000000 in
set_option maxRecDepth 100000 in
theorem cc_fresh (b o : Nat) (w : World) (T : TypeId) (z : Nat) (h0 : w.cell? ⟨b, o, none⟩ = some (.pointer none)) (hsh : w.shape? b = some (T, z)) (ho : o < z)
  (hl : liesAt Tryd.prog Tryd.prog.depth T (z / Tryd.prog.cellsOf T) o 100 1 = true) (hfz : w.frozen? ⟨b, o, none⟩ = false) :
  Calls Tryd.prog 95 #[.pointer (some ⟨b, o, none⟩)] w fun e w' => e = .returned (.tuple #[]) ∧ w' = w.setCell ⟨b, o, none⟩ (.pointer (some ⟨b, o, none⟩)) := by
 obtain ⟨j, hj, hjs⟩ : ∃ j, Tryd.prog.info? 100 = some j ∧ j.size ≠ 0 := ⟨_, rfl, by decide⟩
 go_enter Tryd.func95, Tryd.ntmps95
 go_wp2
 rw [Lib.run_to_unsafe w ⟨b, o, none⟩ Tryd.underlying98 Tryd.underlying177 hj hjs hsh ho]
 simp only [Result.andThen]
 rw [Oper.upon_value]
 go_wp2
 rw [run_callFunc_extern Tryd.func120 (by kernel_rfl) (by kernel_rfl) (by kernel_rfl) (e := Extern.AbiNoEscape.same) (by kernel_rfl)]
 rw [Lib.run_noEscape]
 simp only [Result.andThen]
 rw [Oper.upon_value]
 go_wp2
 rw [Lib.run_from_unsafe w ⟨b, o, none⟩ Tryd.underlying177 Tryd.underlying98 hj hsh hl]
 simp only [Result.andThen]
 rw [Oper.upon_value]
 go_wp2
 go_end0
 exact ⟨rfl, rfl⟩
def ccTab : List (Nat × Nat × Nat) := [(100, 0, 2), (102, 0, 2), (105, 0, 7), (105, 3, 7)]
theorem ccTab0 : Tryd.prog.cellsOf 100 = 2 ∧ 0 < 2 ∧ ∀ N, liesAt Tryd.prog Tryd.prog.depth 100 (N + 1) 0 100 1 = true := ⟨by kernel_rfl, by decide, fun N => by kernel_rfl⟩
theorem ccTab1 : Tryd.prog.cellsOf 102 = 2 ∧ 0 < 2 ∧ ∀ N, liesAt Tryd.prog Tryd.prog.depth 102 (N + 1) 0 100 1 = true := ⟨by kernel_rfl, by decide, fun N => by kernel_rfl⟩
theorem ccTab2 : Tryd.prog.cellsOf 105 = 7 ∧ 0 < 7 ∧ ∀ N, liesAt Tryd.prog Tryd.prog.depth 105 (N + 1) 0 100 1 = true := ⟨by kernel_rfl, by decide, fun N => by kernel_rfl⟩
theorem ccTab3 : Tryd.prog.cellsOf 105 = 7 ∧ 0 < 7 ∧ ∀ N, liesAt Tryd.prog Tryd.prog.depth 105 (N + 1) 3 100 1 = true := ⟨by kernel_rfl, by decide, fun N => by kernel_rfl⟩
theorem ccTab_ok : ∀ x ∈ ccTab, Tryd.prog.cellsOf x.1 = x.2.2 ∧ 0 < x.2.2 ∧ ∀ N, liesAt Tryd.prog Tryd.prog.depth x.1 (N + 1) x.2.1 100 1 = true := (List.forall_mem_cons.2 ⟨ccTab0, (List.forall_mem_cons.2 ⟨ccTab1, (List.forall_mem_cons.2 ⟨ccTab2, (List.forall_mem_cons.2 ⟨ccTab3, (fun x h => by cases h)⟩)⟩)⟩)⟩)
end Ge
namespace Ge
open Go Gx Go.Proofs
noncomputable def e_strings_Builder_copyCheck (_k : Nat) (_D : CallF) : Ent := eCC 95 ccTab
theorem ok_strings_Builder_copyCheck {D : CallF} (_hD : CSound Tryd.prog 2 D) (k : Nat) : EntOk Tryd.prog 2 (e_strings_Builder_copyCheck k D) :=
 cc_ok (c0 := _) Tryd.func95 rfl rfl cc_used cc_fresh ccTab_ok
end Ge
namespace Ge
open Go Gx Go.Proofs
set_option maxRecDepth 100000
noncomputable def C_strings_Builder_WriteString (k : Nat) (D : CallF) : CallF := mkC D [e_strings_Builder_copyCheck k D]
noncomputable def strings_Builder_WriteString (_k : Nat) (_D : CallF) (b_0 : Option Addr) (s_1 : ByteArray) (h : AHeap) : Option ((Int × Value) × AHeap) :=
 (b_0).bind fun p2 =>
 (ccA ccTab p2 h).bind fun h1 =>
 (b_0).bind fun p3 =>
 (ldL (⟨p3.block, p3.off + 1, none⟩ : Addr) h1).bind fun x4 =>
 (appendA 1 1 5 h1 x4 (bytesL s_1) s_1.size).bind fun r5 =>
 (b_0).bind fun p6 =>
 (st1 (⟨p6.block, p6.off + 1, none⟩ : Addr) (.slice r5.1.a r5.1.len r5.1.cap) r5.2).bind fun h7 =>
 some (((s_1.size : Int), (.nilIface)), h7)
noncomputable def r_strings_Builder_WriteString : RCode := an (.n) (rOf Tryd.prog 2 Tryd.f63)
noncomputable def e_strings_Builder_WriteString (k : Nat) (D : CallF) : Ent := entOf 63 [(0, .p), (1, .s)] [(4, .i .i64), (5, .v)] (strings_Builder_WriteString k D)
theorem q_strings_Builder_WriteString : (Tryd.f63.body).bind (rcodeOf Tryd.prog 2 Tryd.f63.ntmps) = some (strip r_strings_Builder_WriteString) := by kernel_rfl
theorem t_strings_Builder_WriteString (k : Nat) (D : CallF) : curF [(0, .p), (1, .s)] (fun args h => denF (C_strings_Builder_WriteString k D) k r_strings_Builder_WriteString [(4, .i .i64), (5, .v)] [none, none] args h) = strings_Builder_WriteString k D := by kernel_rfl
theorem ok_strings_Builder_WriteString {D : CallF} (hD : CSound Tryd.prog 2 D) (k : Nat) : EntOk Tryd.prog 2 (e_strings_Builder_WriteString k D) :=
 entOf_ok2 (mkC_sound hD (EntsOk.more (ok_strings_Builder_copyCheck hD k) (EntsOk.none))) Tryd.func63 rfl q_strings_Builder_WriteString rfl (t_strings_Builder_WriteString k D)
end Ge
namespace Ge
open Go Gx Go.Proofs
set_option maxRecDepth 100000
noncomputable def C_strings_Builder_String (_k : Nat) (D : CallF) : CallF := mkC D []
noncomputable def strings_Builder_String (_k : Nat) (_D : CallF) (b_0 : Option Addr) (h : AHeap) : Option ((ByteArray) × AHeap) :=
 (b_0).bind fun p1 =>
 (ldL (⟨p1.block, p1.off + 1, none⟩ : Addr) h).bind fun x2 =>
 (sliceP x2).bind fun p3 =>
 (b_0).bind fun p4 =>
 (ldL (⟨p4.block, p4.off + 1, none⟩ : Addr) h).bind fun x5 =>
 (unsA 5 p3 (x5.len : Int) h).bind fun r6 =>
 some (r6.1, r6.2)
noncomputable def r_strings_Builder_String : RCode := an (.n) (rOf Tryd.prog 2 Tryd.f64)
noncomputable def e_strings_Builder_String (k : Nat) (D : CallF) : Ent := entOf 64 [(0, .p)] [(2, .s)] (strings_Builder_String k D)
theorem q_strings_Builder_String : (Tryd.f64.body).bind (rcodeOf Tryd.prog 2 Tryd.f64.ntmps) = some (strip r_strings_Builder_String) := by kernel_rfl
theorem t_strings_Builder_String (k : Nat) (D : CallF) : curF [(0, .p)] (fun args h => denF (C_strings_Builder_String k D) k r_strings_Builder_String [(2, .s)] [none] args h) = strings_Builder_String k D := by kernel_rfl
theorem ok_strings_Builder_String {D : CallF} (hD : CSound Tryd.prog 2 D) (k : Nat) : EntOk Tryd.prog 2 (e_strings_Builder_String k D) :=
 entOf_ok2 (mkC_sound hD (EntsOk.none)) Tryd.func64 rfl q_strings_Builder_String rfl (t_strings_Builder_String k D)
end Ge
namespace Ge
open Go Gx Go.Proofs
set_option maxRecDepth 100000
noncomputable def C_strings_Builder_Len (_k : Nat) (D : CallF) : CallF := mkC D []
noncomputable def strings_Builder_Len (_k : Nat) (_D : CallF) (b_0 : Option Addr) (h : AHeap) : Option ((Int) × AHeap) :=
 (b_0).bind fun p1 =>
 (ldL (⟨p1.block, p1.off + 1, none⟩ : Addr) h).bind fun x2 =>
 some ((x2.len : Int), h)
noncomputable def r_strings_Builder_Len : RCode := an (.n) (rOf Tryd.prog 2 Tryd.f62)
noncomputable def e_strings_Builder_Len (k : Nat) (D : CallF) : Ent := entOf 62 [(0, .p)] [(2, .i .i64)] (strings_Builder_Len k D)
theorem q_strings_Builder_Len : (Tryd.f62.body).bind (rcodeOf Tryd.prog 2 Tryd.f62.ntmps) = some (strip r_strings_Builder_Len) := by kernel_rfl
theorem t_strings_Builder_Len (k : Nat) (D : CallF) : curF [(0, .p)] (fun args h => denF (C_strings_Builder_Len k D) k r_strings_Builder_Len [(2, .i .i64)] [none] args h) = strings_Builder_Len k D := by kernel_rfl
theorem ok_strings_Builder_Len {D : CallF} (hD : CSound Tryd.prog 2 D) (k : Nat) : EntOk Tryd.prog 2 (e_strings_Builder_Len k D) :=
 entOf_ok2 (mkC_sound hD (EntsOk.none)) Tryd.func62 rfl q_strings_Builder_Len rfl (t_strings_Builder_Len k D)
end Ge
namespace Ge
open Go Gx Go.Proofs
set_option maxRecDepth 100000
end Ge
namespace Ge
open Go Gx Go.Proofs
set_option maxRecDepth 100000
end Ge
namespace Ge
open Go Gx Go.Proofs
set_option maxRecDepth 100000
end Ge
namespace Ge
open Go Gx Go.Proofs
set_option maxRecDepth 100000
end Ge
namespace Ge
open Go Gx Go.Proofs
set_option maxRecDepth 100000
end Ge
namespace Ge
open Go Gx Go.Proofs
set_option maxRecDepth 100000
end Ge
namespace Ge
open Go Gx Go.Proofs
set_option maxRecDepth 100000
end Ge
namespace Ge
open Go Gx Go.Proofs
end Ge
namespace Ge
open Go Gx Go.Proofs
set_option maxRecDepth 100000
end Ge
namespace Ge
open Go Gx Go.Proofs
set_option maxRecDepth 100000
end Ge
namespace Ge
open Go Gx Go.Proofs
set_option maxRecDepth 100000
end Ge
namespace Ge
open Go Gx Go.Proofs
set_option maxRecDepth 100000
end Ge
namespace Ge
open Go Gx Go.Proofs
set_option maxRecDepth 100000
end Ge
namespace Ge
open Go Gx Go.Proofs
set_option maxRecDepth 100000
end Ge
namespace Ge
open Go Gx Go.Proofs
set_option maxRecDepth 100000
end Ge
namespace Ge
open Go Gx Go.Proofs
set_option maxRecDepth 100000
end Ge
namespace Ge
open Go Gx Go.Proofs
set_option maxRecDepth 100000
end Ge
namespace Ge
open Go Gx Go.Proofs
set_option maxRecDepth 100000
end Ge
namespace Ge
open Go Gx Go.Proofs
set_option maxRecDepth 100000
end Ge
namespace Ge
open Go Gx Go.Proofs
set_option maxRecDepth 100000
end Ge
namespace Ge
open Go Gx Go.Proofs
set_option maxRecDepth 100000
end Ge
namespace Ge
open Go Gx Go.Proofs
set_option maxRecDepth 100000
end Ge
namespace Ge
open Go Gx Go.Proofs
set_option maxRecDepth 100000
end Ge
namespace Ge
open Go Gx Go.Proofs
set_option maxRecDepth 100000
end Ge
namespace Ge
open Go Gx Go.Proofs
set_option maxRecDepth 100000
end Ge
namespace Ge
open Go Gx Go.Proofs
set_option maxRecDepth 100000
end Ge
namespace Ge
open Go Gx Go.Proofs
set_option maxRecDepth 100000
end Ge
namespace Ge
open Go Gx Go.Proofs
set_option maxRecDepth 100000
noncomputable def C_internal_stringslite_HasPrefix (_k : Nat) (D : CallF) : CallF := mkC D []
noncomputable def internal_stringslite_HasPrefix (_k : Nat) (_D : CallF) (s_0 : ByteArray) (prefix_1 : ByteArray) (h : AHeap) : Option ((Bool) × AHeap) :=
 (if (decide ((s_0.size : Int) ≥ (prefix_1.size : Int))) = true then
 (Gx.subS s_0 none (some (prefix_1.size : Int))).bind fun s1 =>
 some ((s1 == prefix_1), h)
 else
 some (false, h))
noncomputable def r_internal_stringslite_HasPrefix : RCode := an (.n) (rOf Tryd.prog 2 Tryd.f118)
noncomputable def e_internal_stringslite_HasPrefix (k : Nat) (D : CallF) : Ent := entOf 118 [(0, .s), (1, .s)] [(4, .b)] (internal_stringslite_HasPrefix k D)
theorem q_internal_stringslite_HasPrefix : (Tryd.f118.body).bind (rcodeOf Tryd.prog 2 Tryd.f118.ntmps) = some (strip r_internal_stringslite_HasPrefix) := by kernel_rfl
theorem t_internal_stringslite_HasPrefix (k : Nat) (D : CallF) : curF [(0, .s), (1, .s)] (fun args h => denF (C_internal_stringslite_HasPrefix k D) k r_internal_stringslite_HasPrefix [(4, .b)] [none] args h) = internal_stringslite_HasPrefix k D := by kernel_rfl
theorem ok_internal_stringslite_HasPrefix {D : CallF} (hD : CSound Tryd.prog 2 D) (k : Nat) : EntOk Tryd.prog 2 (e_internal_stringslite_HasPrefix k D) :=
 entOf_ok2 (mkC_sound hD (EntsOk.none)) Tryd.func118 rfl q_internal_stringslite_HasPrefix rfl (t_internal_stringslite_HasPrefix k D)
end Ge
namespace Ge
open Go Gx Go.Proofs
noncomputable def e_internal_bytealg_IndexByteString (_k : Nat) (_D : CallF) : Ent := eIdxB 135
theorem ok_internal_bytealg_IndexByteString {D : CallF} (_hD : CSound Tryd.prog 2 D) (k : Nat) : EntOk Tryd.prog 2 (e_internal_bytealg_IndexByteString k D) :=
 idxB_ok Tryd.func135 rfl rfl rfl (by kernel_rfl)
end Ge
namespace Ge
open Go Gx Go.Proofs
set_option maxRecDepth 100000
noncomputable def C_internal_stringslite_IndexByte (k : Nat) (D : CallF) : CallF := mkC D [e_internal_bytealg_IndexByteString k D]
noncomputable def internal_stringslite_IndexByte (_k : Nat) (_D : CallF) (s_0 : ByteArray) (c_1 : Int) (h : AHeap) : Option ((Int) × AHeap) :=
 some ((idxB s_0 c_1), h)
noncomputable def r_internal_stringslite_IndexByte : RCode := an (.n) (rOf Tryd.prog 2 Tryd.f119)
noncomputable def e_internal_stringslite_IndexByte (k : Nat) (D : CallF) : Ent := entOf 119 [(0, .s), (1, .i .u8)] [(4, .i .i64)] (internal_stringslite_IndexByte k D)
theorem q_internal_stringslite_IndexByte : (Tryd.f119.body).bind (rcodeOf Tryd.prog 2 Tryd.f119.ntmps) = some (strip r_internal_stringslite_IndexByte) := by kernel_rfl
theorem t_internal_stringslite_IndexByte (k : Nat) (D : CallF) : curF [(0, .s), (1, .i .u8)] (fun args h => denF (C_internal_stringslite_IndexByte k D) k r_internal_stringslite_IndexByte [(4, .i .i64)] [none] args h) = internal_stringslite_IndexByte k D := by kernel_rfl
theorem ok_internal_stringslite_IndexByte {D : CallF} (hD : CSound Tryd.prog 2 D) (k : Nat) : EntOk Tryd.prog 2 (e_internal_stringslite_IndexByte k D) :=
 entOf_ok2 (mkC_sound hD (EntsOk.more (ok_internal_bytealg_IndexByteString hD k) (EntsOk.none))) Tryd.func119 rfl q_internal_stringslite_IndexByte rfl (t_internal_stringslite_IndexByte k D)
end Ge
namespace Ge
open Go Gx Go.Proofs
set_option maxRecDepth 100000
noncomputable def C_lz_writer_number (_k : Nat) (D : CallF) : CallF := mkC D []
noncomputable def lz_writer_number_l0b (_k : Nat) (_D : CallF) (j4 : (Option Addr) → Int → AHeap → Option ((Unit) × AHeap)) (rec15 : (Option Addr) → Int → AHeap → Option ((Unit) × AHeap)) (w12 : Option Addr) (n13 : Int) (h14 : AHeap) : Option ((Unit) × AHeap) :=
 (if (decide (n13 ≥ 255)) = true then
 (w12).bind fun p16 =>
 (ldL (⟨p16.block, p16.off + 0, none⟩ : Addr) h14).bind fun x17 =>
 newK h14 ((.cells [.int .u8 255] 5 true 0)) fun h18 =>
 (rdS 1 (⟨(some ⟨h14.next, 0, some 0⟩), 1, 1⟩ : Slc) h18).bind fun n20 =>
 (appendA 1 1 5 h18 x17 n20 1).bind fun r19 =>
 (w12).bind fun p21 =>
 (st1 (⟨p21.block, p21.off + 0, none⟩ : Addr) (.slice r19.1.a r19.1.len r19.1.cap) r19.2).bind fun h22 =>
 rec15 w12 (IntKind.wrap .i64 (n13 - 255)) h22
 else
 j4 w12 n13 h14)
noncomputable def lz_writer_number_l0 (k : Nat) (D : CallF) (j4 : (Option Addr) → Int → AHeap → Option ((Unit) × AHeap)) : (Option Addr) → Int → AHeap → Option ((Unit) × AHeap) :=
 iterK (α := (Option Addr) → Int → AHeap → Option ((Unit) × AHeap)) (fun _ _ _ => none) k (lz_writer_number_l0b k D j4)
noncomputable def lz_writer_number (k : Nat) (D : CallF) (w_0 : Option Addr) (n_1 : Int) (h : AHeap) : Option ((Unit) × AHeap) :=
 (if (decide (n_1 < 15)) = true then
 some ((), h)
 else
 joinK (fun (w1 : Option Addr) (n2 : Int) (h3 : AHeap) =>
 (w1).bind fun p5 =>
 (ldL (⟨p5.block, p5.off + 0, none⟩ : Addr) h3).bind fun x6 =>
 newK h3 ((.cells [.int .u8 (IntKind.wrap .u8 n2)] 5 true 0)) fun h7 =>
 (rdS 1 (⟨(some ⟨h3.next, 0, some 0⟩), 1, 1⟩ : Slc) h7).bind fun n9 =>
 (appendA 1 1 5 h7 x6 n9 1).bind fun r8 =>
 (w1).bind fun p10 =>
 (st1 (⟨p10.block, p10.off + 0, none⟩ : Addr) (.slice r8.1.a r8.1.len r8.1.cap) r8.2).bind fun h11 =>
 some ((), h11)) fun j4 =>
 lz_writer_number_l0 k D j4 w_0 (IntKind.wrap .i64 (n_1 - 15)) h)
noncomputable def r_lz_writer_number : RCode := an (.s .n (.s .n (.s (.j [(0, .p), (1, .i .i64)] (.b (.l [(0, .p), (1, .i .i64)] .n))) .n))) (rOf Tryd.prog 2 Tryd.f81)
noncomputable def e_lz_writer_number (k : Nat) (D : CallF) : Ent := entOf 81 [(0, .p), (1, .i .i64)] [] (lz_writer_number k D)
theorem q_lz_writer_number : (Tryd.f81.body).bind (rcodeOf Tryd.prog 2 Tryd.f81.ntmps) = some (strip r_lz_writer_number) := by kernel_rfl
theorem t_lz_writer_number (k : Nat) (D : CallF) : curF [(0, .p), (1, .i .i64)] (fun args h => denF (C_lz_writer_number k D) k r_lz_writer_number [] [] args h) = lz_writer_number k D := by kernel_rfl
theorem ok_lz_writer_number {D : CallF} (hD : CSound Tryd.prog 2 D) (k : Nat) : EntOk Tryd.prog 2 (e_lz_writer_number k D) :=
 entOf_ok2 (mkC_sound hD (EntsOk.none)) Tryd.func81 rfl q_lz_writer_number rfl (t_lz_writer_number k D)
end Ge
namespace Ge
open Go Gx Go.Proofs
set_option maxRecDepth 100000
noncomputable def C_lz_writer_sequence (k : Nat) (D : CallF) : CallF := mkC D [e_lz_writer_number k D]
noncomputable def lz_writer_sequence (k : Nat) (D : CallF) (w_0 : Option Addr) (literals_1 : ByteArray) (distance_2 : Int) (long_3 : Int) (h : AHeap) : Option ((Unit) × AHeap) :=
 let t1 : Int := (if 15 < (literals_1.size : Int) then 15 else (literals_1.size : Int))
 joinK (fun (w2 : Option Addr) (literals3 : ByteArray) (distance4 : Int) (long5 : Int) (token6 : Int) (h7 : AHeap) =>
 (w2).bind fun p9 =>
 (ldL (⟨p9.block, p9.off + 0, none⟩ : Addr) h7).bind fun x10 =>
 newK h7 ((.cells [.int .u8 (IntKind.wrap .u8 token6)] 5 true 0)) fun h11 =>
 (rdS 1 (⟨(some ⟨h7.next, 0, some 0⟩), 1, 1⟩ : Slc) h11).bind fun n13 =>
 (appendA 1 1 5 h11 x10 n13 1).bind fun r12 =>
 (w2).bind fun p14 =>
 (st1 (⟨p14.block, p14.off + 0, none⟩ : Addr) (.slice r12.1.a r12.1.len r12.1.cap) r12.2).bind fun h15 =>
 (lz_writer_number k D w2 (literals3.size : Int) h15).bind fun r16 =>
 (w2).bind fun p17 =>
 (ldL (⟨p17.block, p17.off + 0, none⟩ : Addr) r16.2).bind fun x18 =>
 (appendA 1 1 5 r16.2 x18 (bytesL literals3) literals3.size).bind fun r19 =>
 (w2).bind fun p20 =>
 (st1 (⟨p20.block, p20.off + 0, none⟩ : Addr) (.slice r19.1.a r19.1.len r19.1.cap) r19.2).bind fun h21 =>
 (if (decide (distance4 > 0)) = true then
 (w2).bind fun p22 =>
 (ldL (⟨p22.block, p22.off + 0, none⟩ : Addr) h21).bind fun x23 =>
 newK h21 ((.cells [.int .u8 (IntKind.wrap .u8 distance4), .int .u8 (IntKind.wrap .u8 (Int.fdiv distance4 256))] 5 true 0)) fun h24 =>
 (rdS 1 (⟨(some ⟨h21.next, 0, some 0⟩), 2, 2⟩ : Slc) h24).bind fun n26 =>
 (appendA 1 1 5 h24 x23 n26 2).bind fun r25 =>
 (w2).bind fun p27 =>
 (st1 (⟨p27.block, p27.off + 0, none⟩ : Addr) (.slice r25.1.a r25.1.len r25.1.cap) r25.2).bind fun h28 =>
 (lz_writer_number k D w2 (IntKind.wrap .i64 (long5 - 4)) h28).bind fun r29 =>
 some ((), r29.2)
 else
 some ((), h21))) fun j8 =>
 (if (decide (distance_2 > 0)) = true then
 let t30 : Int := (if 15 < (IntKind.wrap .i64 (long_3 - 4)) then 15 else (IntKind.wrap .i64 (long_3 - 4)))
 j8 w_0 literals_1 distance_2 long_3 (Go.bits .or .i64 (IntKind.wrap .i64 (t1 * 16)) t30) h
 else
 j8 w_0 literals_1 distance_2 long_3 (IntKind.wrap .i64 (t1 * 16)) h)
noncomputable def r_lz_writer_sequence : RCode := an (.s .n (.s (.j [(0, .p), (1, .s), (2, .i .i64), (3, .i .i64), (8, .i .i64)] .n) .n)) (rOf Tryd.prog 2 Tryd.f45)
noncomputable def e_lz_writer_sequence (k : Nat) (D : CallF) : Ent := entOf 45 [(0, .p), (1, .s), (2, .i .i64), (3, .i .i64)] [] (lz_writer_sequence k D)
theorem q_lz_writer_sequence : (Tryd.f45.body).bind (rcodeOf Tryd.prog 2 Tryd.f45.ntmps) = some (strip r_lz_writer_sequence) := by kernel_rfl
theorem t_lz_writer_sequence (k : Nat) (D : CallF) : curF [(0, .p), (1, .s), (2, .i .i64), (3, .i .i64)] (fun args h => denF (C_lz_writer_sequence k D) k r_lz_writer_sequence [] [] args h) = lz_writer_sequence k D := by kernel_rfl
theorem ok_lz_writer_sequence {D : CallF} (hD : CSound Tryd.prog 2 D) (k : Nat) : EntOk Tryd.prog 2 (e_lz_writer_sequence k D) :=
 entOf_ok2 (mkC_sound hD (EntsOk.more (ok_lz_writer_number hD k) (EntsOk.none))) Tryd.func45 rfl q_lz_writer_sequence rfl (t_lz_writer_sequence k D)
end Ge
namespace Ge
open Go Gx Go.Proofs
set_option maxRecDepth 100000
noncomputable def C_lz_packer_four (_k : Nat) (D : CallF) : CallF := mkC D []
noncomputable def lz_packer_four (_k : Nat) (_D : CallF) (p_0 : Option Addr) (at_1 : Int) (h : AHeap) : Option (((Int × Int × Int × Int)) × AHeap) :=
 newK h ((.cells [.int .u8 0, .int .u8 0, .int .u8 0, .int .u8 0] 82 true 0)) fun h1 =>
 (p_0).bind fun p2 =>
 (ldS (⟨p2.block, p2.off + 0, none⟩ : Addr) h1).bind fun x3 =>
 (Gx.idxS x3 at_1).bind fun b4 =>
 (p_0).bind fun p5 =>
 (ldS (⟨p5.block, p5.off + 0, none⟩ : Addr) h1).bind fun x6 =>
 (Gx.idxS x6 (IntKind.wrap .i64 (at_1 + 1))).bind fun b7 =>
 (p_0).bind fun p8 =>
 (ldS (⟨p8.block, p8.off + 0, none⟩ : Addr) h1).bind fun x9 =>
 (Gx.idxS x9 (IntKind.wrap .i64 (at_1 + 2))).bind fun b10 =>
 (p_0).bind fun p11 =>
 (ldS (⟨p11.block, p11.off + 0, none⟩ : Addr) h1).bind fun x12 =>
 (Gx.idxS x12 (IntKind.wrap .i64 (at_1 + 3))).bind fun b13 =>
 (stL 4 (⟨h.next, 0, none⟩ : Addr) ([.int .u8 b4, .int .u8 b7, .int .u8 b10, .int .u8 b13]) h1).bind fun h14 =>
 (ldA 4 (⟨h.next, 0, none⟩ : Addr) h14).bind fun l15 =>
 (decC [.i .u8, .i .u8, .i .u8, .i .u8] l15).bind fun x16 =>
 some ((x16.1, x16.2.1, x16.2.2.1, x16.2.2.2), h14)
noncomputable def r_lz_packer_four : RCode := an (.n) (rOf Tryd.prog 2 Tryd.f46)
noncomputable def e_lz_packer_four (k : Nat) (D : CallF) : Ent := entOf 46 [(0, .p), (1, .i .i64)] [(4, .st [.i .u8, .i .u8, .i .u8, .i .u8])] (lz_packer_four k D)
theorem q_lz_packer_four : (Tryd.f46.body).bind (rcodeOf Tryd.prog 2 Tryd.f46.ntmps) = some (strip r_lz_packer_four) := by kernel_rfl
theorem t_lz_packer_four (k : Nat) (D : CallF) : curF [(0, .p), (1, .i .i64)] (fun args h => denF (C_lz_packer_four k D) k r_lz_packer_four [(4, .st [.i .u8, .i .u8, .i .u8, .i .u8])] [some (.agg 4)] args h) = lz_packer_four k D := by kernel_rfl
theorem ok_lz_packer_four {D : CallF} (hD : CSound Tryd.prog 2 D) (k : Nat) : EntOk Tryd.prog 2 (e_lz_packer_four k D) :=
 entOf_ok2 (mkC_sound hD (EntsOk.none)) Tryd.func46 rfl q_lz_packer_four rfl (t_lz_packer_four k D)
end Ge
namespace Ge
open Go Gx Go.Proofs
set_option maxRecDepth 100000
noncomputable def C_lz_packer_alike (_k : Nat) (D : CallF) : CallF := mkC D []
noncomputable def lz_packer_alike_l0b (_k : Nat) (_D : CallF) (j3 : Int → AHeap → Option ((Int) × AHeap)) (rec9 : (Option Addr) → Int → Int → Int → AHeap → Option ((Int) × AHeap)) (p4 : Option Addr) (fromv5 : Int) (atv6 : Int) (n7 : Int) (h8 : AHeap) : Option ((Int) × AHeap) :=
 joinK (fun (p10 : Option Addr) (fromv11 : Int) (atv12 : Int) (n13 : Int) (y14 : Bool) (h15 : AHeap) =>
 (if y14 = true then
 rec9 p10 fromv11 atv12 (IntKind.wrap .i64 (n13 + 1)) h15
 else
 j3 n13 h15)) fun j16 =>
 (p4).bind fun p17 =>
 (ldS (⟨p17.block, p17.off + 0, none⟩ : Addr) h8).bind fun x18 =>
 (if (decide ((IntKind.wrap .i64 (atv6 + n7)) < (x18.size : Int))) = true then
 (p4).bind fun p19 =>
 (ldS (⟨p19.block, p19.off + 0, none⟩ : Addr) h8).bind fun x20 =>
 (Gx.idxS x20 (IntKind.wrap .i64 (fromv5 + n7))).bind fun b21 =>
 (p4).bind fun p22 =>
 (ldS (⟨p22.block, p22.off + 0, none⟩ : Addr) h8).bind fun x23 =>
 (Gx.idxS x23 (IntKind.wrap .i64 (atv6 + n7))).bind fun b24 =>
 j16 p4 fromv5 atv6 n7 (b21 == b24) h8
 else
 j16 p4 fromv5 atv6 n7 false h8)
noncomputable def lz_packer_alike_l0 (k : Nat) (D : CallF) (j3 : Int → AHeap → Option ((Int) × AHeap)) : (Option Addr) → Int → Int → Int → AHeap → Option ((Int) × AHeap) :=
 iterK (α := (Option Addr) → Int → Int → Int → AHeap → Option ((Int) × AHeap)) (fun _ _ _ _ _ => none) k (lz_packer_alike_l0b k D j3)
noncomputable def lz_packer_alike (k : Nat) (D : CallF) (p_0 : Option Addr) (from_1 : Int) (at_2 : Int) (h : AHeap) : Option ((Int) × AHeap) :=
 joinK (fun (n1 : Int) (h2 : AHeap) =>
 some (n1, h2)) fun j3 =>
 lz_packer_alike_l0 k D j3 p_0 from_1 at_2 0 h
noncomputable def r_lz_packer_alike : RCode := an (.s .n (.s .n (.s (.j [(7, .i .i64)] (.b (.l [(0, .p), (1, .i .i64), (2, .i .i64), (7, .i .i64)] (.s (.s (.j [(0, .p), (1, .i .i64), (2, .i .i64), (7, .i .i64), (35, .b)] .n) .n) .n)))) .n))) (rOf Tryd.prog 2 Tryd.f80)
noncomputable def e_lz_packer_alike (k : Nat) (D : CallF) : Ent := entOf 80 [(0, .p), (1, .i .i64), (2, .i .i64)] [(6, .i .i64)] (lz_packer_alike k D)
theorem q_lz_packer_alike : (Tryd.f80.body).bind (rcodeOf Tryd.prog 2 Tryd.f80.ntmps) = some (strip r_lz_packer_alike) := by kernel_rfl
theorem t_lz_packer_alike (k : Nat) (D : CallF) : curF [(0, .p), (1, .i .i64), (2, .i .i64)] (fun args h => denF (C_lz_packer_alike k D) k r_lz_packer_alike [(6, .i .i64)] [none] args h) = lz_packer_alike k D := by kernel_rfl
theorem ok_lz_packer_alike {D : CallF} (hD : CSound Tryd.prog 2 D) (k : Nat) : EntOk Tryd.prog 2 (e_lz_packer_alike k D) :=
 entOf_ok2 (mkC_sound hD (EntsOk.none)) Tryd.func80 rfl q_lz_packer_alike rfl (t_lz_packer_alike k D)
end Ge
namespace Ge
open Go Gx Go.Proofs
set_option maxRecDepth 100000
noncomputable def C_lz_packer_best (k : Nat) (D : CallF) : CallF := mkC D [e_lz_packer_four k D, e_lz_packer_alike k D]
noncomputable def lz_packer_best_l0b (k : Nat) (D : CallF) (j6 : (Option Addr) → Int → Int → Int → AHeap → Option ((Int × Int) × AHeap)) (rec32 : (Option Addr) → Int → Int → Int → Int → AHeap → Option ((Int × Int) × AHeap)) (p26 : Option Addr) (atv27 : Int) (distance28 : Int) (long29 : Int) (d30 : Int) (h31 : AHeap) : Option ((Int × Int) × AHeap) :=
 (if (decide (d30 ≤ (if atv27 < 64 then atv27 else 64))) = true then
 joinK (fun (p33 : Option Addr) (atv34 : Int) (distance35 : Int) (long36 : Int) (d37 : Int) (h38 : AHeap) =>
 rec32 p33 atv34 distance35 long36 (IntKind.wrap .i64 (d37 + 1)) h38) fun j39 =>
 (lz_packer_alike k D p26 (IntKind.wrap .i64 (atv27 - d30)) atv27 h31).bind fun r40 =>
 (if (decide (r40.1 > long29)) = true then
 j39 p26 atv27 d30 r40.1 d30 r40.2
 else
 j39 p26 atv27 distance28 long29 d30 r40.2)
 else
 j6 p26 atv27 distance28 long29 h31)
noncomputable def lz_packer_best_l0 (k : Nat) (D : CallF) (j6 : (Option Addr) → Int → Int → Int → AHeap → Option ((Int × Int) × AHeap)) : (Option Addr) → Int → Int → Int → Int → AHeap → Option ((Int × Int) × AHeap) :=
 iterK (α := (Option Addr) → Int → Int → Int → Int → AHeap → Option ((Int × Int) × AHeap)) (fun _ _ _ _ _ _ => none) k (lz_packer_best_l0b k D j6)
noncomputable def lz_packer_best (k : Nat) (D : CallF) (p_0 : Option Addr) (at_1 : Int) (h : AHeap) : Option ((Int × Int) × AHeap) :=
 joinK (fun (p1 : Option Addr) (atv2 : Int) (distance3 : Int) (long4 : Int) (h5 : AHeap) =>
 (lz_packer_four k D p1 atv2 h5).bind fun r7 =>
 (p1).bind fun p8 =>
 (ldM (⟨p8.block, p8.off + 1, none⟩ : Addr) r7.2).bind fun x9 =>
 guardP (SameW [h5] (fun H11 => (ldM (⟨p8.block, p8.off + 1, none⟩ : Addr) H11).bind fun y10 => some (.map y10)) (.map x9)) (
 (lookE (decI .i64) (.int .i64 0) r7.2 x9 (.agg ⟨[.int .u8 r7.1.1, .int .u8 r7.1.2.1, .int .u8 r7.1.2.2.1, .int .u8 r7.1.2.2.2]⟩)).bind fun p12 =>
 joinK (fun (distance13 : Int) (long14 : Int) (h15 : AHeap) =>
 some ((distance13, long14), h15)) fun j16 =>
 joinK (fun (p17 : Option Addr) (atv18 : Int) (distance19 : Int) (long20 : Int) (fromv21 : Int) (y22 : Bool) (h23 : AHeap) =>
 (if y22 = true then
 (lz_packer_alike k D p17 fromv21 atv18 h23).bind fun r25 =>
 (if (decide (r25.1 > long20)) = true then
 j16 (IntKind.wrap .i64 (atv18 - fromv21)) r25.1 r25.2
 else
 j16 distance19 long20 r25.2)
 else
 j16 distance19 long20 h23)) fun j24 =>
 (if p12.2 = true then
 j24 p1 atv2 distance3 long4 p12.1 (decide ((IntKind.wrap .i64 (atv2 - p12.1)) ≤ 65535)) r7.2
 else
 j24 p1 atv2 distance3 long4 p12.1 false r7.2))) fun j6 =>
 lz_packer_best_l0 k D j6 p_0 at_1 0 0 1 h
noncomputable def r_lz_packer_best : RCode := an (.s .n (.s (.j [(0, .p), (1, .i .i64), (4, .i .i64), (5, .i .i64)] (.s .n (.b (.l [(0, .p), (1, .i .i64), (4, .i .i64), (5, .i .i64), (6, .i .i64)] (.s .n (.s (.j [(0, .p), (1, .i .i64), (4, .i .i64), (5, .i .i64), (6, .i .i64)] .n) .n)))))) (.s .n (.s (.j [(4, .i .i64), (5, .i .i64)] (.s (.j [(0, .p), (1, .i .i64), (4, .i .i64), (5, .i .i64), (8, .i .i64), (45, .b)] .n) .n)) .n)))) (rOf Tryd.prog 2 Tryd.f44)
noncomputable def e_lz_packer_best (k : Nat) (D : CallF) : Ent := entOf 44 [(0, .p), (1, .i .i64)] [(4, .i .i64), (5, .i .i64)] (lz_packer_best k D)
theorem q_lz_packer_best : (Tryd.f44.body).bind (rcodeOf Tryd.prog 2 Tryd.f44.ntmps) = some (strip r_lz_packer_best) := by kernel_rfl
theorem t_lz_packer_best (k : Nat) (D : CallF) : curF [(0, .p), (1, .i .i64)] (fun args h => denF (C_lz_packer_best k D) k r_lz_packer_best [(4, .i .i64), (5, .i .i64)] [none, none] args h) = lz_packer_best k D := by kernel_rfl
theorem ok_lz_packer_best {D : CallF} (hD : CSound Tryd.prog 2 D) (k : Nat) : EntOk Tryd.prog 2 (e_lz_packer_best k D) :=
 entOf_ok2 (mkC_sound hD (EntsOk.more (ok_lz_packer_four hD k) (EntsOk.more (ok_lz_packer_alike hD k) (EntsOk.none)))) Tryd.func44 rfl q_lz_packer_best rfl (t_lz_packer_best k D)
end Ge
namespace Ge
open Go Gx Go.Proofs
set_option maxRecDepth 100000
noncomputable def C_lz_Pack (k : Nat) (D : CallF) : CallF := mkC D [e_lz_writer_sequence k D, e_lz_packer_best k D, e_lz_packer_four k D]
noncomputable def lz_Pack_l1b (k : Nat) (D : CallF) (rec20 : ByteArray → (Option Addr) → (Option Addr) → Int → Int → AHeap → Option ((ByteArray × Int) × AHeap)) (rec39 : ByteArray → (Option Addr) → (Option Addr) → Int → Int → Int → Int → AHeap → Option ((ByteArray × Int) × AHeap)) (s31 : ByteArray) (p32 : Option Addr) (w33 : Option Addr) (kept34 : Int) (atv35 : Int) (y36 : Int) (y37 : Int) (h38 : AHeap) : Option ((ByteArray × Int) × AHeap) :=
 (if (decide (y37 < y36)) = true then
 joinK (fun (s40 : ByteArray) (p41 : Option Addr) (w42 : Option Addr) (kept43 : Int) (atv44 : Int) (y45 : Int) (y46 : Int) (h47 : AHeap) =>
 rec39 s40 p41 w42 kept43 (IntKind.wrap .i64 (atv44 + 1)) y45 (IntKind.wrap .i64 (y46 + 1)) h47) fun j48 =>
 (if (decide ((IntKind.wrap .i64 (atv35 + 4)) ≤ (s31.size : Int))) = true then
 (lz_packer_four k D p32 atv35 h38).bind fun r49 =>
 (p32).bind fun p50 =>
 (ldM (⟨p50.block, p50.off + 1, none⟩ : Addr) r49.2).bind fun x51 =>
 guardP (SameW [h38] (fun H53 => (ldM (⟨p50.block, p50.off + 1, none⟩ : Addr) H53).bind fun y52 => some (.map y52)) (.map x51)) (
 (x51).bind fun r55 =>
 (updE r49.2 r55 (.agg ⟨[.int .u8 r49.1.1, .int .u8 r49.1.2.1, .int .u8 r49.1.2.2.1, .int .u8 r49.1.2.2.2]⟩) (.int .i64 atv35)).bind fun h54 =>
 j48 s31 p32 w33 kept34 atv35 y36 y37 h54)
 else
 j48 s31 p32 w33 kept34 atv35 y36 y37 h38)
 else
 rec20 s31 p32 w33 kept34 atv35 h38)
noncomputable def lz_Pack_l1 (k : Nat) (D : CallF) (rec20 : ByteArray → (Option Addr) → (Option Addr) → Int → Int → AHeap → Option ((ByteArray × Int) × AHeap)) : ByteArray → (Option Addr) → (Option Addr) → Int → Int → Int → Int → AHeap → Option ((ByteArray × Int) × AHeap) :=
 iterK (α := ByteArray → (Option Addr) → (Option Addr) → Int → Int → Int → Int → AHeap → Option ((ByteArray × Int) × AHeap)) (fun _ _ _ _ _ _ _ _ => none) k (lz_Pack_l1b k D rec20)
noncomputable def lz_Pack_l0b (k : Nat) (D : CallF) (j8 : ByteArray → (Option Addr) → Int → AHeap → Option ((ByteArray × Int) × AHeap)) (rec20 : ByteArray → (Option Addr) → (Option Addr) → Int → Int → AHeap → Option ((ByteArray × Int) × AHeap)) (s14 : ByteArray) (p15 : Option Addr) (w16 : Option Addr) (kept17 : Int) (atv18 : Int) (h19 : AHeap) : Option ((ByteArray × Int) × AHeap) :=
 (if (decide ((IntKind.wrap .i64 (atv18 + 4)) < (s14.size : Int))) = true then
 (lz_packer_best k D p15 atv18 h19).bind fun r21 =>
 let t22 : Int := (IntKind.wrap .i64 ((IntKind.wrap .i64 ((s14.size : Int) - 1)) - atv18))
 joinK (fun (s23 : ByteArray) (p24 : Option Addr) (w25 : Option Addr) (kept26 : Int) (atv27 : Int) (step28 : Int) (h29 : AHeap) =>
 lz_Pack_l1 k D rec20 s23 p24 w25 kept26 atv27 step28 0 h29) fun j30 =>
 (if (decide ((if t22 < r21.1.2 then t22 else r21.1.2) ≥ 4)) = true then
 (Gx.subS s14 (some kept17) (some atv18)).bind fun s56 =>
 (lz_writer_sequence k D w16 s56 r21.1.1 (if t22 < r21.1.2 then t22 else r21.1.2) r21.2).bind fun r57 =>
 let t58 : Int := (IntKind.wrap .i64 (atv18 + (if t22 < r21.1.2 then t22 else r21.1.2)))
 j30 s14 p15 w16 t58 atv18 (if t22 < r21.1.2 then t22 else r21.1.2) r57.2
 else
 j30 s14 p15 w16 kept17 atv18 1 r21.2)
 else
 j8 s14 w16 kept17 h19)
noncomputable def lz_Pack_l0 (k : Nat) (D : CallF) (j8 : ByteArray → (Option Addr) → Int → AHeap → Option ((ByteArray × Int) × AHeap)) : ByteArray → (Option Addr) → (Option Addr) → Int → Int → AHeap → Option ((ByteArray × Int) × AHeap) :=
 iterK (α := ByteArray → (Option Addr) → (Option Addr) → Int → Int → AHeap → Option ((ByteArray × Int) × AHeap)) (fun _ _ _ _ _ _ => none) k (lz_Pack_l0b k D j8)
noncomputable def lz_Pack (k : Nat) (D : CallF) (s_0 : ByteArray) (h : AHeap) : Option ((ByteArray × Int) × AHeap) :=
 (if (decide ((s_0.size : Int) > 1048576)) = true then
 some (((⟨#[]⟩ : ByteArray), 2), h)
 else
 newK h ((.map [] 0)) fun h1 =>
 newK h1 ((.cells [.string s_0, .map (some h.next)] 75 true 0)) fun h2 =>
 newK h2 ((.cells [.slice none 0 0] 78 true 0)) fun h3 =>
 joinK (fun (s4 : ByteArray) (w5 : Option Addr) (kept6 : Int) (h7 : AHeap) =>
 (Gx.subS s4 (some kept6) none).bind fun s9 =>
 (lz_writer_sequence k D w5 s9 0 0 h7).bind fun r10 =>
 (w5).bind fun p11 =>
 (ldL (⟨p11.block, p11.off + 0, none⟩ : Addr) r10.2).bind fun x12 =>
 (bytesOf r10.2 x12).bind fun s13 =>
 some ((s13, 0), r10.2)) fun j8 =>
 lz_Pack_l0 k D j8 s_0 (some (⟨h1.next, 0, none⟩ : Addr)) (some (⟨h2.next, 0, none⟩ : Addr)) 0 0 h3)
noncomputable def r_lz_Pack : RCode := an (.s .n (.s .n (.s .n (.s .n (.s .n (.s (.j [(0, .s), (5, .p), (6, .i .i64)] (.s .n (.b (.l [(0, .s), (4, .p), (5, .p), (6, .i .i64), (7, .i .i64)] (.s .n (.b (.s .n (.s .n (.s .n (.s (.j [(0, .s), (4, .p), (5, .p), (6, .i .i64), (7, .i .i64), (10, .i .i64)] .n) (.s .n (.b (.l [(0, .s), (4, .p), (5, .p), (6, .i .i64), (7, .i .i64), (52, .i .i64), (53, .i .i64)] (.s .n (.s .n (.s (.b (.s (.j [(0, .s), (4, .p), (5, .p), (6, .i .i64), (7, .i .i64), (52, .i .i64), (53, .i .i64)] .n) .n)) .n)))))))))))))))) .n)))))) (rOf Tryd.prog 2 Tryd.f14)
noncomputable def e_lz_Pack (k : Nat) (D : CallF) : Ent := entOf 14 [(0, .s)] [(2, .s), (3, .i .i64)] (lz_Pack k D)
theorem q_lz_Pack : (Tryd.f14.body).bind (rcodeOf Tryd.prog 2 Tryd.f14.ntmps) = some (strip r_lz_Pack) := by kernel_rfl
theorem t_lz_Pack (k : Nat) (D : CallF) : curF [(0, .s)] (fun args h => denF (C_lz_Pack k D) k r_lz_Pack [(2, .s), (3, .i .i64)] [none, none] args h) = lz_Pack k D := by kernel_rfl
theorem ok_lz_Pack {D : CallF} (hD : CSound Tryd.prog 2 D) (k : Nat) : EntOk Tryd.prog 2 (e_lz_Pack k D) :=
 entOf_ok2 (mkC_sound hD (EntsOk.more (ok_lz_writer_sequence hD k) (EntsOk.more (ok_lz_packer_best hD k) (EntsOk.more (ok_lz_packer_four hD k) (EntsOk.none))))) Tryd.func14 rfl q_lz_Pack rfl (t_lz_Pack k D)
end Ge
namespace Ge
open Go Gx Go.Proofs
set_option maxRecDepth 100000
noncomputable def C_blob_Encode (k : Nat) (D : CallF) : CallF := mkC D [e_blob_known k D, e_num_Short k D, e_lz_Pack k D]
noncomputable def blob_Encode (k : Nat) (D : CallF) (kind_0 : Int) (text_1 : ByteArray) (h : AHeap) : Option ((ByteArray × Int) × AHeap) :=
 (blob_known k D kind_0 h).bind fun r1 =>
 (if (!r1.1) = true then
 some (((⟨#[]⟩ : ByteArray), 1), r1.2)
 else
 (if (decide ((text_1.size : Int) > 65536)) = true then
 some (((⟨#[]⟩ : ByteArray), 2), r1.2)
 else
 (num_Short k D (text_1.size : Int) r1.2).bind fun r2 =>
 (lz_Pack k D text_1 r2.2).bind fun r3 =>
 joinK (fun (kind4 : Int) (text5 : ByteArray) (long6 : ByteArray) (block7 : ByteArray) (y8 : Bool) (h9 : AHeap) =>
 (if y8 = true then
 newK h9 ((.cells [.int .u8 (IntKind.wrap .u8 (Go.bits .or .i64 kind4 16))] 5 true 0)) fun h11 =>
 (bytesOf h11 (⟨(some ⟨h9.next, 0, some 0⟩), 1, 1⟩ : Slc)).bind fun s12 =>
 (if s12.size + long6.size ≤ 9223372036854775807 then
 (if (s12 ++ long6).size + block7.size ≤ 9223372036854775807 then
 some ((((s12 ++ long6) ++ block7), 0), h11)
 else none)
 else none)
 else
 newK h9 ((.cells [.int .u8 (IntKind.wrap .u8 kind4)] 5 true 0)) fun h13 =>
 (bytesOf h13 (⟨(some ⟨h9.next, 0, some 0⟩), 1, 1⟩ : Slc)).bind fun s14 =>
 (if s14.size + long6.size ≤ 9223372036854775807 then
 (if (s14 ++ long6).size + text5.size ≤ 9223372036854775807 then
 some ((((s14 ++ long6) ++ text5), 0), h13)
 else none)
 else none))) fun j10 =>
 (if (r3.1.2 == 0) = true then
 j10 kind_0 text_1 r2.1.1 r3.1.1 (decide ((r3.1.1.size : Int) < (text_1.size : Int))) r3.2
 else
 j10 kind_0 text_1 r2.1.1 r3.1.1 false r3.2)))
noncomputable def r_blob_Encode : RCode := an (.s .n (.s .n (.s .n (.s .n (.s (.s (.j [(0, .i .i64), (1, .s), (6, .s), (8, .s), (37, .b)] .n) .n) .n))))) (rOf Tryd.prog 2 Tryd.f12)
noncomputable def e_blob_Encode (k : Nat) (D : CallF) : Ent := entOf 12 [(0, .i .i64), (1, .s)] [(4, .s), (5, .i .i64)] (blob_Encode k D)
theorem q_blob_Encode : (Tryd.f12.body).bind (rcodeOf Tryd.prog 2 Tryd.f12.ntmps) = some (strip r_blob_Encode) := by kernel_rfl
theorem t_blob_Encode (k : Nat) (D : CallF) : curF [(0, .i .i64), (1, .s)] (fun args h => denF (C_blob_Encode k D) k r_blob_Encode [(4, .s), (5, .i .i64)] [none, none] args h) = blob_Encode k D := by kernel_rfl
theorem ok_blob_Encode {D : CallF} (hD : CSound Tryd.prog 2 D) (k : Nat) : EntOk Tryd.prog 2 (e_blob_Encode k D) :=
 entOf_ok2 (mkC_sound hD (EntsOk.more (ok_blob_known hD k) (EntsOk.more (ok_num_Short hD k) (EntsOk.more (ok_lz_Pack hD k) (EntsOk.none))))) Tryd.func12 rfl q_blob_Encode rfl (t_blob_Encode k D)
end Ge
namespace Ge
open Go Gx Go.Proofs
set_option maxRecDepth 100000
end Ge
namespace Ge
open Go Gx Go.Proofs
set_option maxRecDepth 100000
end Ge
namespace Ge
open Go Gx Go.Proofs
set_option maxRecDepth 100000
end Ge
namespace Ge
open Go Gx Go.Proofs
set_option maxRecDepth 100000
end Ge
namespace Ge
open Go Gx Go.Proofs
set_option maxRecDepth 100000
end Ge
namespace Ge
open Go Gx Go.Proofs
set_option maxRecDepth 100000
end Ge
namespace Ge
open Go Gx Go.Proofs
set_option maxRecDepth 100000
end Ge
namespace Ge
open Go Gx Go.Proofs
set_option maxRecDepth 100000
end Ge
namespace Ge
open Go Gx Go.Proofs
set_option maxRecDepth 100000
end Ge
namespace Ge
open Go Gx Go.Proofs
set_option maxRecDepth 100000
end Ge
namespace Ge
open Go Gx Go.Proofs
set_option maxRecDepth 100000
end Ge
namespace Ge
open Go Gx Go.Proofs
set_option maxRecDepth 100000
end Ge
namespace Ge
open Go Gx Go.Proofs
set_option maxRecDepth 100000
end Ge
namespace Ge
open Go Gx Go.Proofs
set_option maxRecDepth 100000
end Ge
namespace Ge
open Go Gx Go.Proofs
set_option maxRecDepth 100000
end Ge
namespace Ge
open Go Gx Go.Proofs
set_option maxRecDepth 100000
end Ge
namespace Ge
open Go Gx Go.Proofs
set_option maxRecDepth 100000
end Ge
namespace Ge
open Go Gx Go.Proofs
set_option maxRecDepth 100000
end Ge
namespace Ge
open Go Gx Go.Proofs
set_option maxRecDepth 100000
end Ge
namespace Ge
open Go Gx Go.Proofs
set_option maxRecDepth 100000
end Ge
namespace Ge
open Go Gx Go.Proofs
set_option maxRecDepth 100000
end Ge
namespace Ge
open Go Gx Go.Proofs
set_option maxRecDepth 100000
end Ge
namespace Ge
open Go Gx Go.Proofs
set_option maxRecDepth 100000
end Ge
namespace Ge
open Go Gx Go.Proofs
set_option maxRecDepth 100000
end Ge
namespace Ge
open Go Gx Go.Proofs
set_option maxRecDepth 100000
end Ge
namespace Ge
open Go Gx Go.Proofs
set_option maxRecDepth 100000
end Ge
namespace Ge
open Go Gx Go.Proofs
set_option maxRecDepth 100000
noncomputable def C_book_Among (_k : Nat) (D : CallF) : CallF := mkC D []
noncomputable def book_Among (_k : Nat) (_D : CallF) (x_0 : Int) (n_1 : Int) (h : AHeap) : Option ((Int) × AHeap) :=
 (if n_1 = 0 then none else
 (if n_1 = 0 then none else
 let t1 : Int := (Int.tmod (IntKind.wrap .i64 ((Int.tmod x_0 n_1) + n_1)) n_1)
 some (t1, h)))
noncomputable def r_book_Among : RCode := an (.n) (rOf Tryd.prog 2 Tryd.f23)
noncomputable def e_book_Among (k : Nat) (D : CallF) : Ent := entOf 23 [(0, .i .i64), (1, .i .i64)] [(4, .i .i64)] (book_Among k D)
theorem q_book_Among : (Tryd.f23.body).bind (rcodeOf Tryd.prog 2 Tryd.f23.ntmps) = some (strip r_book_Among) := by kernel_rfl
theorem t_book_Among (k : Nat) (D : CallF) : curF [(0, .i .i64), (1, .i .i64)] (fun args h => denF (C_book_Among k D) k r_book_Among [(4, .i .i64)] [none] args h) = book_Among k D := by kernel_rfl
theorem ok_book_Among {D : CallF} (hD : CSound Tryd.prog 2 D) (k : Nat) : EntOk Tryd.prog 2 (e_book_Among k D) :=
 entOf_ok2 (mkC_sound hD (EntsOk.none)) Tryd.func23 rfl q_book_Among rfl (t_book_Among k D)
end Ge
namespace Ge
open Go Gx Go.Proofs
set_option maxRecDepth 100000
noncomputable def C_strings_Builder_Reset (_k : Nat) (D : CallF) : CallF := mkC D []
noncomputable def strings_Builder_Reset (_k : Nat) (_D : CallF) (b_0 : Option Addr) (h : AHeap) : Option ((Unit) × AHeap) :=
 (b_0).bind fun p1 =>
 (st1 (⟨p1.block, p1.off + 0, none⟩ : Addr) (.pointer none) h).bind fun h2 =>
 (b_0).bind fun p3 =>
 (st1 (⟨p3.block, p3.off + 1, none⟩ : Addr) (.slice none 0 0) h2).bind fun h4 =>
 some ((), h4)
noncomputable def r_strings_Builder_Reset : RCode := an (.n) (rOf Tryd.prog 2 Tryd.f94)
noncomputable def e_strings_Builder_Reset (k : Nat) (D : CallF) : Ent := entOf 94 [(0, .p)] [] (strings_Builder_Reset k D)
theorem q_strings_Builder_Reset : (Tryd.f94.body).bind (rcodeOf Tryd.prog 2 Tryd.f94.ntmps) = some (strip r_strings_Builder_Reset) := by kernel_rfl
theorem t_strings_Builder_Reset (k : Nat) (D : CallF) : curF [(0, .p)] (fun args h => denF (C_strings_Builder_Reset k D) k r_strings_Builder_Reset [] [] args h) = strings_Builder_Reset k D := by kernel_rfl
theorem ok_strings_Builder_Reset {D : CallF} (hD : CSound Tryd.prog 2 D) (k : Nat) : EntOk Tryd.prog 2 (e_strings_Builder_Reset k D) :=
 entOf_ok2 (mkC_sound hD (EntsOk.none)) Tryd.func94 rfl q_strings_Builder_Reset rfl (t_strings_Builder_Reset k D)
end Ge
namespace Ge
open Go Gx Go.Proofs
set_option maxRecDepth 100000
noncomputable def C_pack_Builder_empty (k : Nat) (D : CallF) : CallF := mkC D [e_strings_Builder_Reset k D, e_strings_Builder_WriteString k D]
noncomputable def pack_Builder_empty (k : Nat) (D : CallF) (b_0 : Option Addr) (h : AHeap) : Option ((Unit) × AHeap) :=
 (b_0).bind fun p1 =>
 (strings_Builder_Reset k D (some (⟨p1.block, p1.off + 0 + 0, none⟩ : Addr)) h).bind fun r2 =>
 (b_0).bind fun p3 =>
 (strings_Builder_Reset k D (some (⟨p3.block, p3.off + 3, none⟩ : Addr)) r2.2).bind fun r4 =>
 newK r4.2 ((.map [] 0)) fun h5 =>
 (b_0).bind fun p6 =>
 (st1 (⟨p6.block, p6.off + 5, none⟩ : Addr) (.slice none 0 0) h5).bind fun h7 =>
 (b_0).bind fun p8 =>
 (st1 (⟨p8.block, p8.off + 6, none⟩ : Addr) (.map (some r4.2.next)) h7).bind fun h9 =>
 (b_0).bind fun p10 =>
 (strings_Builder_WriteString k D (some (⟨p10.block, p10.off + 0 + 0, none⟩ : Addr)) (⟨#[71, 82, 84, 80, 1]⟩ : ByteArray) h9).bind fun r11 =>
 some ((), r11.2)
noncomputable def r_pack_Builder_empty : RCode := an (.n) (rOf Tryd.prog 2 Tryd.f59)
noncomputable def e_pack_Builder_empty (k : Nat) (D : CallF) : Ent := entOf 59 [(0, .p)] [] (pack_Builder_empty k D)
theorem q_pack_Builder_empty : (Tryd.f59.body).bind (rcodeOf Tryd.prog 2 Tryd.f59.ntmps) = some (strip r_pack_Builder_empty) := by kernel_rfl
theorem t_pack_Builder_empty (k : Nat) (D : CallF) : curF [(0, .p)] (fun args h => denF (C_pack_Builder_empty k D) k r_pack_Builder_empty [] [] args h) = pack_Builder_empty k D := by kernel_rfl
theorem ok_pack_Builder_empty {D : CallF} (hD : CSound Tryd.prog 2 D) (k : Nat) : EntOk Tryd.prog 2 (e_pack_Builder_empty k D) :=
 entOf_ok2 (mkC_sound hD (EntsOk.more (ok_strings_Builder_Reset hD k) (EntsOk.more (ok_strings_Builder_WriteString hD k) (EntsOk.none)))) Tryd.func59 rfl q_pack_Builder_empty rfl (t_pack_Builder_empty k D)
end Ge
namespace Ge
open Go Gx Go.Proofs
set_option maxRecDepth 100000
noncomputable def C_pack_New (k : Nat) (D : CallF) : CallF := mkC D [e_pack_Builder_empty k D]
noncomputable def pack_New (k : Nat) (D : CallF) (limit_0 : Int) (h : AHeap) : Option (((Option Addr) × Int) × AHeap) :=
 joinK (fun (limit1 : Int) (y2 : Bool) (h3 : AHeap) =>
 (if y2 = true then
 some ((none, 1), h3)
 else
 newK h3 ((.cells [.pointer none, .slice none 0 0, .int .i64 limit1, .pointer none, .slice none 0 0, .slice none 0 0, .map none] 105 true 0)) fun h5 =>
 (pack_Builder_empty k D (some (⟨h3.next, 0, none⟩ : Addr)) h5).bind fun r6 =>
 some (((some (⟨h3.next, 0, none⟩ : Addr)), 0), r6.2))) fun j4 =>
 (if (decide (limit_0 < 64)) = true then
 j4 limit_0 true h
 else
 j4 limit_0 (decide (limit_0 > 65536)) h)
noncomputable def r_pack_New : RCode := an (.s .n (.s (.s (.j [(0, .i .i64), (10, .b)] .n) .n) .n)) (rOf Tryd.prog 2 Tryd.f27)
noncomputable def e_pack_New (k : Nat) (D : CallF) : Ent := entOf 27 [(0, .i .i64)] [(2, .p), (3, .i .i64)] (pack_New k D)
theorem q_pack_New : (Tryd.f27.body).bind (rcodeOf Tryd.prog 2 Tryd.f27.ntmps) = some (strip r_pack_New) := by kernel_rfl
theorem t_pack_New (k : Nat) (D : CallF) : curF [(0, .i .i64)] (fun args h => denF (C_pack_New k D) k r_pack_New [(2, .p), (3, .i .i64)] [none, none] args h) = pack_New k D := by kernel_rfl
theorem ok_pack_New {D : CallF} (hD : CSound Tryd.prog 2 D) (k : Nat) : EntOk Tryd.prog 2 (e_pack_New k D) :=
 entOf_ok2 (mkC_sound hD (EntsOk.more (ok_pack_Builder_empty hD k) (EntsOk.none))) Tryd.func27 rfl q_pack_New rfl (t_pack_New k D)
end Ge
namespace Ge
open Go Gx Go.Proofs
set_option maxRecDepth 100000
noncomputable def C_pack_short (k : Nat) (D : CallF) : CallF := mkC D [e_num_Short k D]
noncomputable def pack_short (k : Nat) (D : CallF) (n_0 : Int) (h : AHeap) : Option ((ByteArray) × AHeap) :=
 (num_Short k D n_0 h).bind fun r1 =>
 some (r1.1.1, r1.2)
noncomputable def r_pack_short : RCode := an (.n) (rOf Tryd.prog 2 Tryd.f60)
noncomputable def e_pack_short (k : Nat) (D : CallF) : Ent := entOf 60 [(0, .i .i64)] [(2, .s)] (pack_short k D)
theorem q_pack_short : (Tryd.f60.body).bind (rcodeOf Tryd.prog 2 Tryd.f60.ntmps) = some (strip r_pack_short) := by kernel_rfl
theorem t_pack_short (k : Nat) (D : CallF) : curF [(0, .i .i64)] (fun args h => denF (C_pack_short k D) k r_pack_short [(2, .s)] [none] args h) = pack_short k D := by kernel_rfl
theorem ok_pack_short {D : CallF} (hD : CSound Tryd.prog 2 D) (k : Nat) : EntOk Tryd.prog 2 (e_pack_short k D) :=
 entOf_ok2 (mkC_sound hD (EntsOk.more (ok_num_Short hD k) (EntsOk.none))) Tryd.func60 rfl q_pack_short rfl (t_pack_short k D)
end Ge
namespace Ge
open Go Gx Go.Proofs
set_option maxRecDepth 100000
noncomputable def C_pack_Builder_long (k : Nat) (D : CallF) : CallF := mkC D [e_strings_Builder_Len k D, e_pack_short k D]
noncomputable def pack_Builder_long (k : Nat) (D : CallF) (b_0 : Option Addr) (blobs_1 : Int) (more_2 : Int) (h : AHeap) : Option ((Int) × AHeap) :=
 (b_0).bind fun p1 =>
 (strings_Builder_Len k D (some (⟨p1.block, p1.off + 0 + 0, none⟩ : Addr)) h).bind fun r2 =>
 (pack_short k D blobs_1 r2.2).bind fun r3 =>
 (b_0).bind fun p4 =>
 (strings_Builder_Len k D (some (⟨p4.block, p4.off + 3, none⟩ : Addr)) r3.2).bind fun r5 =>
 let t6 : Int := (IntKind.wrap .i64 ((IntKind.wrap .i64 (r2.1 + (r3.1.size : Int))) + r5.1))
 some ((IntKind.wrap .i64 ((IntKind.wrap .i64 (t6 + more_2)) + 8)), r5.2)
noncomputable def r_pack_Builder_long : RCode := an (.n) (rOf Tryd.prog 2 Tryd.f61)
noncomputable def e_pack_Builder_long (k : Nat) (D : CallF) : Ent := entOf 61 [(0, .p), (1, .i .i64), (2, .i .i64)] [(6, .i .i64)] (pack_Builder_long k D)
theorem q_pack_Builder_long : (Tryd.f61.body).bind (rcodeOf Tryd.prog 2 Tryd.f61.ntmps) = some (strip r_pack_Builder_long) := by kernel_rfl
theorem t_pack_Builder_long (k : Nat) (D : CallF) : curF [(0, .p), (1, .i .i64), (2, .i .i64)] (fun args h => denF (C_pack_Builder_long k D) k r_pack_Builder_long [(6, .i .i64)] [none] args h) = pack_Builder_long k D := by kernel_rfl
theorem ok_pack_Builder_long {D : CallF} (hD : CSound Tryd.prog 2 D) (k : Nat) : EntOk Tryd.prog 2 (e_pack_Builder_long k D) :=
 entOf_ok2 (mkC_sound hD (EntsOk.more (ok_strings_Builder_Len hD k) (EntsOk.more (ok_pack_short hD k) (EntsOk.none)))) Tryd.func61 rfl q_pack_Builder_long rfl (t_pack_Builder_long k D)
end Ge
namespace Ge
open Go Gx Go.Proofs
set_option maxRecDepth 100000
noncomputable def C_pack_Builder_Add (k : Nat) (D : CallF) : CallF := mkC D [e_blob_Encode k D, e_blob_Id k D, e_pack_short k D, e_pack_Builder_long k D, e_strings_Builder_Len k D, e_strings_Builder_WriteString k D]
noncomputable def pack_Builder_Add (k : Nat) (D : CallF) (b_0 : Option Addr) (kind_1 : Int) (text_2 : ByteArray) (h : AHeap) : Option ((ByteArray × Int) × AHeap) :=
 (blob_Encode k D kind_1 text_2 h).bind fun r1 =>
 (if (r1.1.2 != 0) = true then
 some (((⟨#[]⟩ : ByteArray), r1.1.2), r1.2)
 else
 (blob_Id k D kind_1 text_2 r1.2).bind fun r2 =>
 (b_0).bind fun p3 =>
 (ldM (⟨p3.block, p3.off + 6, none⟩ : Addr) r2.2).bind fun x4 =>
 (lookE decS (.string ⟨#[]⟩) r2.2 x4 (.string r2.1.1)).bind fun p5 =>
 (if p5.2 = true then
 some (((⟨#[]⟩ : ByteArray), 6), r2.2)
 else
 let h6 := AHeap.resv r2.2 1
 (pack_short k D (r1.1.1.size : Int) h6).bind fun r7 =>
 (pack_short k D (text_2.size : Int) r7.2).bind fun r8 =>
 let h9 := AHeap.set r8.2 (r2.2.next + 0) (.cells [.int .u8 (IntKind.wrap .u8 kind_1)] 5 true 0)
 (bytesOf h9 (⟨(some ⟨(r2.2.next + 0), 0, some 0⟩), 1, 1⟩ : Slc)).bind fun s10 =>
 guardP (OwnW (r2.2.next + 0) h9 (fun H12 => (bytesOf H12 (⟨(some ⟨(r2.2.next + 0), 0, some 0⟩), 1, 1⟩ : Slc)).bind fun y11 => some (.string y11)) (.string s10)) (
 (if r2.1.1.size + s10.size ≤ 9223372036854775807 then
 (if (r2.1.1 ++ s10).size + r7.1.size ≤ 9223372036854775807 then
 (if ((r2.1.1 ++ s10) ++ r7.1).size + r8.1.size ≤ 9223372036854775807 then
 (b_0).bind fun p13 =>
 (ldL (⟨p13.block, p13.off + 5, none⟩ : Addr) h9).bind fun x14 =>
 let t15 : Int := (IntKind.wrap .i64 ((r1.1.1.size : Int) + ((((r2.1.1 ++ s10) ++ r7.1) ++ r8.1).size : Int)))
 (pack_Builder_long k D b_0 (IntKind.wrap .i64 ((x14.len : Int) + 1)) t15 h9).bind fun r16 =>
 joinK (fun (b17 : Option Addr) (kind18 : Int) (text19 : ByteArray) (id20 : ByteArray) (s21 : ByteArray) (line22 : ByteArray) (y23 : Bool) (h24 : AHeap) =>
 (if y23 = true then
 some (((⟨#[]⟩ : ByteArray), 2), h24)
 else
 (b17).bind fun p26 =>
 (strings_Builder_Len k D (some (⟨p26.block, p26.off + 0 + 0, none⟩ : Addr)) h24).bind fun r27 =>
 newK r27.2 ((.cells [.string ⟨#[]⟩, .int .i64 0, .int .i64 0, .int .i64 0, .int .i64 0] 55 true 0)) fun h28 =>
 (stL 5 (⟨r27.2.next, 0, none⟩ : Addr) ([.string (⟨#[]⟩ : ByteArray), .int .i64 kind18, .int .i64 r27.1, .int .i64 (s21.size : Int), .int .i64 (text19.size : Int)]) h28).bind fun h29 =>
 (ldA 5 (⟨r27.2.next, 0, none⟩ : Addr) h29).bind fun l30 =>
 (decC [.s, .i .i64, .i .i64, .i .i64, .i .i64] l30).bind fun x31 =>
 newK h29 ((.cells [.string id20, .string x31.1, .int .i64 x31.2.1, .int .i64 x31.2.2.1, .int .i64 x31.2.2.2.1, .int .i64 x31.2.2.2.2] 57 true 0)) fun h32 =>
 (b17).bind fun p33 =>
 (ldL (⟨p33.block, p33.off + 5, none⟩ : Addr) h32).bind fun x34 =>
 guardP (SameW [h29] (fun H36 => (ldL (⟨p33.block, p33.off + 5, none⟩ : Addr) H36).bind fun y35 => some (.slice y35.a y35.len y35.cap)) (.slice x34.a x34.len x34.cap)) (
 (rdS 6 (⟨(some ⟨h29.next, 0, some 0⟩), 1, 1⟩ : Slc) h32).bind fun n38 =>
 (appendA 6 64 57 h32 x34 n38 1).bind fun r37 =>
 (b17).bind fun p39 =>
 (st1 (⟨p39.block, p39.off + 5, none⟩ : Addr) (.slice r37.1.a r37.1.len r37.1.cap) r37.2).bind fun h40 =>
 (b17).bind fun p41 =>
 (ldM (⟨p41.block, p41.off + 6, none⟩ : Addr) h40).bind fun x42 =>
 (x42).bind fun r44 =>
 (updE h40 r44 (.string id20) (.string text19)).bind fun h43 =>
 (b17).bind fun p45 =>
 (strings_Builder_WriteString k D (some (⟨p45.block, p45.off + 0 + 0, none⟩ : Addr)) s21 h43).bind fun r46 =>
 (b17).bind fun p47 =>
 (strings_Builder_WriteString k D (some (⟨p47.block, p47.off + 3, none⟩ : Addr)) line22 r46.2).bind fun r48 =>
 some ((id20, 0), r48.2)))) fun j25 =>
 (b_0).bind fun p49 =>
 (ldI .i64 (⟨p49.block, p49.off + 2, none⟩ : Addr) r16.2).bind fun x50 =>
 (if (decide (r16.1 > x50)) = true then
 (b_0).bind fun p51 =>
 (ldL (⟨p51.block, p51.off + 5, none⟩ : Addr) r16.2).bind fun x52 =>
 (if (decide ((x52.len : Int) > 0)) = true then
 j25 b_0 kind_1 text_2 r2.1.1 r1.1.1 (((r2.1.1 ++ s10) ++ r7.1) ++ r8.1) true r16.2
 else
 (if (decide (r16.1 > 65536)) = true then
 j25 b_0 kind_1 text_2 r2.1.1 r1.1.1 (((r2.1.1 ++ s10) ++ r7.1) ++ r8.1) true r16.2
 else
 (b_0).bind fun p53 =>
 (ldL (⟨p53.block, p53.off + 5, none⟩ : Addr) r16.2).bind fun x54 =>
 j25 b_0 kind_1 text_2 r2.1.1 r1.1.1 (((r2.1.1 ++ s10) ++ r7.1) ++ r8.1) (decide ((x54.len : Int) ≥ 4096)) r16.2))
 else
 (if (decide (r16.1 > 65536)) = true then
 j25 b_0 kind_1 text_2 r2.1.1 r1.1.1 (((r2.1.1 ++ s10) ++ r7.1) ++ r8.1) true r16.2
 else
 (b_0).bind fun p55 =>
 (ldL (⟨p55.block, p55.off + 5, none⟩ : Addr) r16.2).bind fun x56 =>
 j25 b_0 kind_1 text_2 r2.1.1 r1.1.1 (((r2.1.1 ++ s10) ++ r7.1) ++ r8.1) (decide ((x56.len : Int) ≥ 4096)) r16.2))
 else none)
 else none)
 else none))))
noncomputable def r_pack_Builder_Add : RCode := an (.s .n (.s .n (.s .n (.s .n (.s .n (.s .n (.s .n (.s (.s (.j [(0, .p), (1, .i .i64), (2, .s), (6, .s), (8, .s), (11, .s), (91, .b)] .n) .n) (.s .n (.s (.r [(1, .st [.s, .i .i64, .i .i64, .i .i64, .i .i64])]) .n)))))))))) (rOf Tryd.prog 2 Tryd.f28)
noncomputable def e_pack_Builder_Add (k : Nat) (D : CallF) : Ent := entOf 28 [(0, .p), (1, .i .i64), (2, .s)] [(6, .s), (7, .i .i64)] (pack_Builder_Add k D)
theorem q_pack_Builder_Add : (Tryd.f28.body).bind (rcodeOf Tryd.prog 2 Tryd.f28.ntmps) = some (strip r_pack_Builder_Add) := by kernel_rfl
theorem t_pack_Builder_Add (k : Nat) (D : CallF) : curF [(0, .p), (1, .i .i64), (2, .s)] (fun args h => denF (C_pack_Builder_Add k D) k r_pack_Builder_Add [(6, .s), (7, .i .i64)] [none, none] args h) = pack_Builder_Add k D := by kernel_rfl
theorem ok_pack_Builder_Add {D : CallF} (hD : CSound Tryd.prog 2 D) (k : Nat) : EntOk Tryd.prog 2 (e_pack_Builder_Add k D) :=
 entOf_ok2 (mkC_sound hD (EntsOk.more (ok_blob_Encode hD k) (EntsOk.more (ok_blob_Id hD k) (EntsOk.more (ok_pack_short hD k) (EntsOk.more (ok_pack_Builder_long hD k) (EntsOk.more (ok_strings_Builder_Len hD k) (EntsOk.more (ok_strings_Builder_WriteString hD k) (EntsOk.none)))))))) Tryd.func28 rfl q_pack_Builder_Add rfl (t_pack_Builder_Add k D)
end Ge
namespace Ge
open Go Gx Go.Proofs
set_option maxRecDepth 100000
noncomputable def C_num_Fixed (_k : Nat) (D : CallF) : CallF := mkC D []
noncomputable def num_Fixed_l0b (_k : Nat) (_D : CallF) (j11 : Int → Int → Slc → AHeap → Option ((ByteArray × Int) × AHeap)) (rec24 : Int → Int → Slc → Int → Int → AHeap → Option ((ByteArray × Int) × AHeap)) (n18 : Int) (bytes19 : Int) (b20 : Slc) (y21 : Int) (y22 : Int) (h23 : AHeap) : Option ((ByteArray × Int) × AHeap) :=
 (if (decide (y22 < y21)) = true then
 let t25 : Int := (IntKind.wrap .i64 ((IntKind.wrap .i64 (bytes19 - 1)) - y22))
 (if 0 ≤ (IntKind.wrap .i64 (8 * y22)) then
 let t26 : Int := (Int.fdiv n18 (2 ^ (min ((IntKind.wrap .i64 (8 * y22))).toNat (IntKind.bits .i64))))
 (Gx.idxL 1 b20 t25).bind fun q27 =>
 (st1 q27 (.int .u8 (IntKind.wrap .u8 t26)) h23).bind fun h28 =>
 rec24 n18 bytes19 b20 y21 (IntKind.wrap .i64 (y22 + 1)) h28
 else none)
 else
 j11 n18 bytes19 b20 h23)
noncomputable def num_Fixed_l0 (k : Nat) (D : CallF) (j11 : Int → Int → Slc → AHeap → Option ((ByteArray × Int) × AHeap)) : Int → Int → Slc → Int → Int → AHeap → Option ((ByteArray × Int) × AHeap) :=
 iterK (α := Int → Int → Slc → Int → Int → AHeap → Option ((ByteArray × Int) × AHeap)) (fun _ _ _ _ _ _ => none) k (num_Fixed_l0b k D j11)
noncomputable def num_Fixed (k : Nat) (D : CallF) (n_0 : Int) (bytes_1 : Int) (h : AHeap) : Option ((ByteArray × Int) × AHeap) :=
 joinK (fun (n1 : Int) (bytes2 : Int) (y3 : Bool) (h4 : AHeap) =>
 (if y3 = true then
 some (((⟨#[]⟩ : ByteArray), 1), h4)
 else
 (if 0 ≤ bytes2 ∧ bytes2 ≤ bytes2 ∧ bytes2 ≤ 281474976710656 ∧ 1 * bytes2 ≤ 281474976710656 then
 let h6 := AHeap.new h4 (.cells (zerosL (bytes2).toNat [.int .u8 0]) 5 true 0)
 joinK (fun (n7 : Int) (bytes8 : Int) (b9 : Slc) (h10 : AHeap) =>
 joinK (fun (b12 : Slc) (y13 : Bool) (h14 : AHeap) =>
 (if y13 = true then
 some (((⟨#[]⟩ : ByteArray), 1), h14)
 else
 (bytesOf h14 b12).bind fun s16 =>
 some ((s16, 0), h14))) fun j15 =>
 (if (decide (bytes8 < 8)) = true then
 (if 0 ≤ (IntKind.wrap .i64 (8 * bytes8)) then
 let t17 : Int := (Int.fdiv n7 (2 ^ (min ((IntKind.wrap .i64 (8 * bytes8))).toNat (IntKind.bits .i64))))
 j15 b9 (decide (t17 > 0)) h10
 else none)
 else
 j15 b9 false h10)) fun j11 =>
 num_Fixed_l0 k D j11 n1 bytes2 (⟨(some ⟨h4.next, 0, some 0⟩), (bytes2).toNat, (bytes2).toNat⟩ : Slc) ((bytes2).toNat : Int) 0 h6
 else none))) fun j5 =>
 (if (decide (bytes_1 < 1)) = true then
 j5 n_0 bytes_1 true h
 else
 (if (decide (bytes_1 > 8)) = true then
 j5 n_0 bytes_1 true h
 else
 j5 n_0 bytes_1 (decide (n_0 < 0)) h))
noncomputable def r_num_Fixed : RCode := an (.s .n (.s (.s (.j [(0, .i .i64), (1, .i .i64), (17, .b)] .n) .n) (.s .n (.s (.j [(0, .i .i64), (1, .i .i64), (6, .l)] (.s .n (.b (.l [(0, .i .i64), (1, .i .i64), (6, .l), (21, .i .i64), (22, .i .i64)] .n)))) (.s (.s (.j [(6, .l), (45, .b)] .n) .n) .n))))) (rOf Tryd.prog 2 Tryd.f65)
noncomputable def e_num_Fixed (k : Nat) (D : CallF) : Ent := entOf 65 [(0, .i .i64), (1, .i .i64)] [(4, .s), (5, .i .i64)] (num_Fixed k D)
theorem q_num_Fixed : (Tryd.f65.body).bind (rcodeOf Tryd.prog 2 Tryd.f65.ntmps) = some (strip r_num_Fixed) := by kernel_rfl
theorem t_num_Fixed (k : Nat) (D : CallF) : curF [(0, .i .i64), (1, .i .i64)] (fun args h => denF (C_num_Fixed k D) k r_num_Fixed [(4, .s), (5, .i .i64)] [none, none] args h) = num_Fixed k D := by kernel_rfl
theorem ok_num_Fixed {D : CallF} (hD : CSound Tryd.prog 2 D) (k : Nat) : EntOk Tryd.prog 2 (e_num_Fixed k D) :=
 entOf_ok2 (mkC_sound hD (EntsOk.none)) Tryd.func65 rfl q_num_Fixed rfl (t_num_Fixed k D)
end Ge
namespace Ge
open Go Gx Go.Proofs
set_option maxRecDepth 100000
noncomputable def C_pack_Builder_Finish (k : Nat) (D : CallF) : CallF := mkC D [e_pack_short k D, e_strings_Builder_String k D, e_num_Fixed k D, e_sha_Sum k D, e_pack_Builder_empty k D]
noncomputable def pack_Builder_Finish_l0b (_k : Nat) (_D : CallF) (j20 : (Option Addr) → ByteArray → Slc → AHeap → Option ((ByteArray × Slc) × AHeap)) (rec29 : (Option Addr) → ByteArray → Slc → ByteArray → Int → Int → AHeap → Option ((ByteArray × Slc) × AHeap)) (b22 : Option Addr) (s23 : ByteArray) (items24 : Slc) (id25 : ByteArray) (y26 : Int) (y27 : Int) (h28 : AHeap) : Option ((ByteArray × Slc) × AHeap) :=
 (if (decide (y27 < y26)) = true then
 (Gx.idxL 6 items24 y27).bind fun q30 =>
 (st1 (⟨q30.block, q30.off + 1 + 0, none⟩ : Addr) (.string id25) h28).bind fun h31 =>
 rec29 b22 s23 items24 id25 y26 (IntKind.wrap .i64 (y27 + 1)) h31
 else
 j20 b22 s23 items24 h28)
noncomputable def pack_Builder_Finish_l0 (k : Nat) (D : CallF) (j20 : (Option Addr) → ByteArray → Slc → AHeap → Option ((ByteArray × Slc) × AHeap)) : (Option Addr) → ByteArray → Slc → ByteArray → Int → Int → AHeap → Option ((ByteArray × Slc) × AHeap) :=
 iterK (α := (Option Addr) → ByteArray → Slc → ByteArray → Int → Int → AHeap → Option ((ByteArray × Slc) × AHeap)) (fun _ _ _ _ _ _ _ => none) k (pack_Builder_Finish_l0b k D j20)
noncomputable def pack_Builder_Finish (k : Nat) (D : CallF) (b_0 : Option Addr) (h : AHeap) : Option ((ByteArray × Slc) × AHeap) :=
 (b_0).bind fun p1 =>
 (ldL (⟨p1.block, p1.off + 5, none⟩ : Addr) h).bind fun x2 =>
 (if ((x2.len : Int) == 0) = true then
 some (((⟨#[]⟩ : ByteArray), (⟨none, 0, 0⟩ : Slc)), h)
 else
 (b_0).bind fun p3 =>
 (ldL (⟨p3.block, p3.off + 5, none⟩ : Addr) h).bind fun x4 =>
 (pack_short k D (x4.len : Int) h).bind fun r5 =>
 (b_0).bind fun p6 =>
 (strings_Builder_String k D (some (⟨p6.block, p6.off + 3, none⟩ : Addr)) r5.2).bind fun r7 =>
 (if r5.1.size + r7.1.size ≤ 9223372036854775807 then
 (num_Fixed k D ((r5.1 ++ r7.1).size : Int) 4 r7.2).bind fun r8 =>
 (b_0).bind fun p9 =>
 (strings_Builder_String k D (some (⟨p9.block, p9.off + 0 + 0, none⟩ : Addr)) r8.2).bind fun r10 =>
 (if r10.1.size + (r5.1 ++ r7.1).size ≤ 9223372036854775807 then
 (if (r10.1 ++ (r5.1 ++ r7.1)).size + r8.1.1.size ≤ 9223372036854775807 then
 (if ((r10.1 ++ (r5.1 ++ r7.1)) ++ r8.1.1).size + (⟨#[80, 69, 78, 68]⟩ : ByteArray).size ≤ 9223372036854775807 then
 let s11 : ByteArray := (((r10.1 ++ (r5.1 ++ r7.1)) ++ r8.1.1) ++ (⟨#[80, 69, 78, 68]⟩ : ByteArray))
 newK r10.2 ((.cells [.string s11] 9 true 0)) fun h12 =>
 (sha_Sum k D (⟨(some ⟨r10.2.next, 0, some 0⟩), 1, 1⟩ : Slc) h12).bind fun r13 =>
 (b_0).bind fun p14 =>
 (ldL (⟨p14.block, p14.off + 5, none⟩ : Addr) r13.2).bind fun x15 =>
 joinK (fun (b16 : Option Addr) (s17 : ByteArray) (items18 : Slc) (h19 : AHeap) =>
 (pack_Builder_empty k D b16 h19).bind fun r21 =>
 some ((s17, items18), r21.2)) fun j20 =>
 pack_Builder_Finish_l0 k D j20 b_0 s11 x15 r13.1 (x15.len : Int) 0 r13.2
 else none)
 else none)
 else none)
 else none))
noncomputable def r_pack_Builder_Finish : RCode := an (.s .n (.s .n (.s .n (.s .n (.s .n (.s .n (.s .n (.s (.j [(0, .p), (2, .s), (3, .l)] (.s .n (.b (.l [(0, .p), (2, .s), (3, .l), (7, .s), (50, .i .i64), (51, .i .i64)] .n)))) .n)))))))) (rOf Tryd.prog 2 Tryd.f29)
noncomputable def e_pack_Builder_Finish (k : Nat) (D : CallF) : Ent := entOf 29 [(0, .p)] [(2, .s), (3, .l)] (pack_Builder_Finish k D)
theorem q_pack_Builder_Finish : (Tryd.f29.body).bind (rcodeOf Tryd.prog 2 Tryd.f29.ntmps) = some (strip r_pack_Builder_Finish) := by kernel_rfl
theorem t_pack_Builder_Finish (k : Nat) (D : CallF) : curF [(0, .p)] (fun args h => denF (C_pack_Builder_Finish k D) k r_pack_Builder_Finish [(2, .s), (3, .l)] [none, none] args h) = pack_Builder_Finish k D := by kernel_rfl
theorem ok_pack_Builder_Finish {D : CallF} (hD : CSound Tryd.prog 2 D) (k : Nat) : EntOk Tryd.prog 2 (e_pack_Builder_Finish k D) :=
 entOf_ok2 (mkC_sound hD (EntsOk.more (ok_pack_short hD k) (EntsOk.more (ok_strings_Builder_String hD k) (EntsOk.more (ok_num_Fixed hD k) (EntsOk.more (ok_sha_Sum hD k) (EntsOk.more (ok_pack_Builder_empty hD k) (EntsOk.none))))))) Tryd.func29 rfl q_pack_Builder_Finish rfl (t_pack_Builder_Finish k D)
end Ge
namespace Ge
open Go Gx Go.Proofs
set_option maxRecDepth 100000
noncomputable def C_law14_works (k : Nat) (D : CallF) : CallF := mkC D [e_pack_New k D, e_pack_Builder_Add k D, e_pack_Builder_Finish k D, e_sha_Sum k D]
noncomputable def law14_works (k : Nat) (D : CallF)  (h : AHeap) : Option ((Bool) × AHeap) :=
 (pack_New k D 64 h).bind fun r1 =>
 joinK (fun (p2 : Option Addr) (y3 : Bool) (h4 : AHeap) =>
 (if y3 = true then
 some (false, h4)
 else
 (pack_Builder_Add k D p2 1 (⟨#[97, 98]⟩ : ByteArray) h4).bind fun r6 =>
 (pack_Builder_Finish k D p2 r6.2).bind fun r7 =>
 (if (r6.1.2 == 0) = true then
 (if ((r7.1.1.size : Int) == 53) = true then
 (if ((r7.1.2.len : Int) == 1) = true then
 (Gx.idxL 6 r7.1.2 0).bind fun q8 =>
 (ldI .i64 (⟨q8.block, q8.off + 1 + 2, none⟩ : Addr) r7.2).bind fun x9 =>
 (if (x9 == 5) = true then
 newK r7.2 ((.cells [.string r7.1.1] 9 true 0)) fun h10 =>
 (sha_Sum k D (⟨(some ⟨r7.2.next, 0, some 0⟩), 1, 1⟩ : Slc) h10).bind fun r11 =>
 (Gx.idxL 6 r7.1.2 0).bind fun q12 =>
 (ldS (⟨q12.block, q12.off + 1 + 0, none⟩ : Addr) r11.2).bind fun x13 =>
 guardP (SameW [h10, r7.2] (fun H15 => (ldS (⟨q12.block, q12.off + 1 + 0, none⟩ : Addr) H15).bind fun y14 => some (.string y14)) (.string x13)) (
 some ((x13 == r11.1), r11.2))
 else
 some (false, r7.2))
 else
 some (false, r7.2))
 else
 some (false, r7.2))
 else
 some (false, r7.2)))) fun j5 =>
 (if r1.1.1.isNone = true then
 j5 r1.1.1 true r1.2
 else
 j5 r1.1.1 (r1.1.2 != 0) r1.2)
noncomputable def r_law14_works : RCode := an (.s .n (.s .n (.s (.s (.j [(1, .p), (14, .b)] .n) .n) .n))) (rOf Tryd.prog 2 Tryd.f24)
noncomputable def e_law14_works (k : Nat) (D : CallF) : Ent := entOf 24 [] [(0, .b)] (law14_works k D)
theorem q_law14_works : (Tryd.f24.body).bind (rcodeOf Tryd.prog 2 Tryd.f24.ntmps) = some (strip r_law14_works) := by kernel_rfl
theorem t_law14_works (k : Nat) (D : CallF) : curF [] (fun args h => denF (C_law14_works k D) k r_law14_works [(0, .b)] [none] args h) = law14_works k D := by kernel_rfl
theorem ok_law14_works {D : CallF} (hD : CSound Tryd.prog 2 D) (k : Nat) : EntOk Tryd.prog 2 (e_law14_works k D) :=
 entOf_ok2 (mkC_sound hD (EntsOk.more (ok_pack_New hD k) (EntsOk.more (ok_pack_Builder_Add hD k) (EntsOk.more (ok_pack_Builder_Finish hD k) (EntsOk.more (ok_sha_Sum hD k) (EntsOk.none)))))) Tryd.func24 rfl q_law14_works rfl (t_law14_works k D)
end Ge
namespace Ge
open Go Gx Go.Proofs
set_option maxRecDepth 100000
noncomputable def C_strings_Builder_WriteByte (k : Nat) (D : CallF) : CallF := mkC D [e_strings_Builder_copyCheck k D]
noncomputable def strings_Builder_WriteByte (_k : Nat) (_D : CallF) (b_0 : Option Addr) (c_1 : Int) (h : AHeap) : Option ((Value) × AHeap) :=
 (b_0).bind fun p2 =>
 (ccA ccTab p2 h).bind fun h1 =>
 (b_0).bind fun p3 =>
 (ldL (⟨p3.block, p3.off + 1, none⟩ : Addr) h1).bind fun x4 =>
 newK h1 ((.cells [.int .u8 c_1] 5 true 0)) fun h5 =>
 (rdS 1 (⟨(some ⟨h1.next, 0, some 0⟩), 1, 1⟩ : Slc) h5).bind fun n7 =>
 (appendA 1 1 5 h5 x4 n7 1).bind fun r6 =>
 (b_0).bind fun p8 =>
 (st1 (⟨p8.block, p8.off + 1, none⟩ : Addr) (.slice r6.1.a r6.1.len r6.1.cap) r6.2).bind fun h9 =>
 some ((.nilIface), h9)
noncomputable def r_strings_Builder_WriteByte : RCode := an (.n) (rOf Tryd.prog 2 Tryd.f91)
noncomputable def e_strings_Builder_WriteByte (k : Nat) (D : CallF) : Ent := entOf 91 [(0, .p), (1, .i .u8)] [(4, .v)] (strings_Builder_WriteByte k D)
theorem q_strings_Builder_WriteByte : (Tryd.f91.body).bind (rcodeOf Tryd.prog 2 Tryd.f91.ntmps) = some (strip r_strings_Builder_WriteByte) := by kernel_rfl
theorem t_strings_Builder_WriteByte (k : Nat) (D : CallF) : curF [(0, .p), (1, .i .u8)] (fun args h => denF (C_strings_Builder_WriteByte k D) k r_strings_Builder_WriteByte [(4, .v)] [none] args h) = strings_Builder_WriteByte k D := by kernel_rfl
theorem ok_strings_Builder_WriteByte {D : CallF} (hD : CSound Tryd.prog 2 D) (k : Nat) : EntOk Tryd.prog 2 (e_strings_Builder_WriteByte k D) :=
 entOf_ok2 (mkC_sound hD (EntsOk.more (ok_strings_Builder_copyCheck hD k) (EntsOk.none))) Tryd.func91 rfl q_strings_Builder_WriteByte rfl (t_strings_Builder_WriteByte k D)
end Ge
namespace Ge
open Go Gx Go.Proofs
set_option maxRecDepth 100000
noncomputable def C_sha_Hex (k : Nat) (D : CallF) : CallF := mkC D [e_strings_Builder_String k D, e_strings_Builder_WriteByte k D]
noncomputable def sha_Hex_l0b (k : Nat) (D : CallF) (j4 : (Option Addr) → AHeap → Option ((ByteArray) × AHeap)) (rec12 : (Option Addr) → Slc → Int → Int → AHeap → Option ((ByteArray) × AHeap)) (b7 : Option Addr) (y8 : Slc) (y9 : Int) (y10 : Int) (h11 : AHeap) : Option ((ByteArray) × AHeap) :=
 (if (decide (y10 < y9)) = true then
 (Gx.idxL 1 y8 y10).bind fun q13 =>
 (ldI .u8 q13 h11).bind fun x14 =>
 (Gx.idxS (⟨#[48, 49, 50, 51, 52, 53, 54, 55, 56, 57, 97, 98, 99, 100, 101, 102]⟩ : ByteArray) (Int.fdiv x14 16)).bind fun b15 =>
 (strings_Builder_WriteByte k D b7 b15 h11).bind fun r16 =>
 (Gx.idxS (⟨#[48, 49, 50, 51, 52, 53, 54, 55, 56, 57, 97, 98, 99, 100, 101, 102]⟩ : ByteArray) (Go.bits .and .u8 x14 15)).bind fun b17 =>
 (strings_Builder_WriteByte k D b7 b17 r16.2).bind fun r18 =>
 rec12 b7 y8 y9 (IntKind.wrap .i64 (y10 + 1)) r18.2
 else
 j4 b7 h11)
noncomputable def sha_Hex_l0 (k : Nat) (D : CallF) (j4 : (Option Addr) → AHeap → Option ((ByteArray) × AHeap)) : (Option Addr) → Slc → Int → Int → AHeap → Option ((ByteArray) × AHeap) :=
 iterK (α := (Option Addr) → Slc → Int → Int → AHeap → Option ((ByteArray) × AHeap)) (fun _ _ _ _ _ => none) k (sha_Hex_l0b k D j4)
noncomputable def sha_Hex (k : Nat) (D : CallF) (s_0 : ByteArray) (h : AHeap) : Option ((ByteArray) × AHeap) :=
 newK h ((.cells [.pointer none, .slice none 0 0] 100 true 0)) fun h1 =>
 joinK (fun (b2 : Option Addr) (h3 : AHeap) =>
 (strings_Builder_String k D b2 h3).bind fun r5 =>
 some (r5.1, r5.2)) fun j4 =>
 newK h1 ((.cells (bytesL s_0) 5 true 18446744073709551616)) fun h6 =>
 sha_Hex_l0 k D j4 (some (⟨h.next, 0, none⟩ : Addr)) (⟨(some ⟨h1.next, 0, some 2⟩), s_0.size, s_0.size⟩ : Slc) (s_0.size : Int) 0 h6
noncomputable def r_sha_Hex : RCode := an (.s .n (.s .n (.s (.j [(3, .p)] (.s .n (.b (.l [(3, .p), (7, .l), (8, .i .i64), (9, .i .i64)] .n)))) .n))) (rOf Tryd.prog 2 Tryd.f55)
noncomputable def e_sha_Hex (k : Nat) (D : CallF) : Ent := entOf 55 [(0, .s)] [(2, .s)] (sha_Hex k D)
theorem q_sha_Hex : (Tryd.f55.body).bind (rcodeOf Tryd.prog 2 Tryd.f55.ntmps) = some (strip r_sha_Hex) := by kernel_rfl
theorem t_sha_Hex (k : Nat) (D : CallF) : curF [(0, .s)] (fun args h => denF (C_sha_Hex k D) k r_sha_Hex [(2, .s)] [none] args h) = sha_Hex k D := by kernel_rfl
theorem ok_sha_Hex {D : CallF} (hD : CSound Tryd.prog 2 D) (k : Nat) : EntOk Tryd.prog 2 (e_sha_Hex k D) :=
 entOf_ok2 (mkC_sound hD (EntsOk.more (ok_strings_Builder_String hD k) (EntsOk.more (ok_strings_Builder_WriteByte hD k) (EntsOk.none)))) Tryd.func55 rfl q_sha_Hex rfl (t_sha_Hex k D)
end Ge
namespace Ge
open Go Gx Go.Proofs
set_option maxRecDepth 100000
noncomputable def C_pack_Name (k : Nat) (D : CallF) : CallF := mkC D [e_sha_Hex k D]
noncomputable def pack_Name (k : Nat) (D : CallF) (id_0 : ByteArray) (h : AHeap) : Option ((ByteArray) × AHeap) :=
 (sha_Hex k D id_0 h).bind fun r1 =>
 (if (⟨#[112, 97, 99, 107, 47]⟩ : ByteArray).size + r1.1.size ≤ 9223372036854775807 then
 some (((⟨#[112, 97, 99, 107, 47]⟩ : ByteArray) ++ r1.1), r1.2)
 else none)
noncomputable def r_pack_Name : RCode := an (.n) (rOf Tryd.prog 2 Tryd.f25)
noncomputable def e_pack_Name (k : Nat) (D : CallF) : Ent := entOf 25 [(0, .s)] [(2, .s)] (pack_Name k D)
theorem q_pack_Name : (Tryd.f25.body).bind (rcodeOf Tryd.prog 2 Tryd.f25.ntmps) = some (strip r_pack_Name) := by kernel_rfl
theorem t_pack_Name (k : Nat) (D : CallF) : curF [(0, .s)] (fun args h => denF (C_pack_Name k D) k r_pack_Name [(2, .s)] [none] args h) = pack_Name k D := by kernel_rfl
theorem ok_pack_Name {D : CallF} (hD : CSound Tryd.prog 2 D) (k : Nat) : EntOk Tryd.prog 2 (e_pack_Name k D) :=
 entOf_ok2 (mkC_sound hD (EntsOk.more (ok_sha_Hex hD k) (EntsOk.none))) Tryd.func25 rfl q_pack_Name rfl (t_pack_Name k D)
end Ge
namespace Ge
open Go Gx Go.Proofs
set_option maxRecDepth 100000
noncomputable def C_internal_stringslite_CutPrefix (k : Nat) (D : CallF) : CallF := mkC D [e_internal_stringslite_HasPrefix k D]
noncomputable def internal_stringslite_CutPrefix (k : Nat) (D : CallF) (s_0 : ByteArray) (prefix_1 : ByteArray) (h : AHeap) : Option ((ByteArray × Bool) × AHeap) :=
 (internal_stringslite_HasPrefix k D s_0 prefix_1 h).bind fun r1 =>
 (if (!r1.1) = true then
 some ((s_0, false), r1.2)
 else
 (Gx.subS s_0 (some (prefix_1.size : Int)) none).bind fun s2 =>
 some ((s2, true), r1.2))
noncomputable def r_internal_stringslite_CutPrefix : RCode := an (.n) (rOf Tryd.prog 2 Tryd.f92)
noncomputable def e_internal_stringslite_CutPrefix (k : Nat) (D : CallF) : Ent := entOf 92 [(0, .s), (1, .s)] [(4, .s), (5, .b)] (internal_stringslite_CutPrefix k D)
theorem q_internal_stringslite_CutPrefix : (Tryd.f92.body).bind (rcodeOf Tryd.prog 2 Tryd.f92.ntmps) = some (strip r_internal_stringslite_CutPrefix) := by kernel_rfl
theorem t_internal_stringslite_CutPrefix (k : Nat) (D : CallF) : curF [(0, .s), (1, .s)] (fun args h => denF (C_internal_stringslite_CutPrefix k D) k r_internal_stringslite_CutPrefix [(4, .s), (5, .b)] [none, none] args h) = internal_stringslite_CutPrefix k D := by kernel_rfl
theorem ok_internal_stringslite_CutPrefix {D : CallF} (hD : CSound Tryd.prog 2 D) (k : Nat) : EntOk Tryd.prog 2 (e_internal_stringslite_CutPrefix k D) :=
 entOf_ok2 (mkC_sound hD (EntsOk.more (ok_internal_stringslite_HasPrefix hD k) (EntsOk.none))) Tryd.func92 rfl q_internal_stringslite_CutPrefix rfl (t_internal_stringslite_CutPrefix k D)
end Ge
namespace Ge
open Go Gx Go.Proofs
set_option maxRecDepth 100000
noncomputable def C_strings_CutPrefix (k : Nat) (D : CallF) : CallF := mkC D [e_internal_stringslite_CutPrefix k D]
noncomputable def strings_CutPrefix (k : Nat) (D : CallF) (s_0 : ByteArray) (prefix_1 : ByteArray) (h : AHeap) : Option ((ByteArray × Bool) × AHeap) :=
 (internal_stringslite_CutPrefix k D s_0 prefix_1 h).bind fun r1 =>
 some ((r1.1.1, r1.1.2), r1.2)
noncomputable def r_strings_CutPrefix : RCode := an (.n) (rOf Tryd.prog 2 Tryd.f56)
noncomputable def e_strings_CutPrefix (k : Nat) (D : CallF) : Ent := entOf 56 [(0, .s), (1, .s)] [(4, .s), (5, .b)] (strings_CutPrefix k D)
theorem q_strings_CutPrefix : (Tryd.f56.body).bind (rcodeOf Tryd.prog 2 Tryd.f56.ntmps) = some (strip r_strings_CutPrefix) := by kernel_rfl
theorem t_strings_CutPrefix (k : Nat) (D : CallF) : curF [(0, .s), (1, .s)] (fun args h => denF (C_strings_CutPrefix k D) k r_strings_CutPrefix [(4, .s), (5, .b)] [none, none] args h) = strings_CutPrefix k D := by kernel_rfl
theorem ok_strings_CutPrefix {D : CallF} (hD : CSound Tryd.prog 2 D) (k : Nat) : EntOk Tryd.prog 2 (e_strings_CutPrefix k D) :=
 entOf_ok2 (mkC_sound hD (EntsOk.more (ok_internal_stringslite_CutPrefix hD k) (EntsOk.none))) Tryd.func56 rfl q_strings_CutPrefix rfl (t_strings_CutPrefix k D)
end Ge
namespace Ge
open Go Gx Go.Proofs
set_option maxRecDepth 100000
noncomputable def C_strings_IndexByte (k : Nat) (D : CallF) : CallF := mkC D [e_internal_stringslite_IndexByte k D]
noncomputable def strings_IndexByte (k : Nat) (D : CallF) (s_0 : ByteArray) (c_1 : Int) (h : AHeap) : Option ((Int) × AHeap) :=
 (internal_stringslite_IndexByte k D s_0 c_1 h).bind fun r1 =>
 some (r1.1, r1.2)
noncomputable def r_strings_IndexByte : RCode := an (.n) (rOf Tryd.prog 2 Tryd.f93)
noncomputable def e_strings_IndexByte (k : Nat) (D : CallF) : Ent := entOf 93 [(0, .s), (1, .i .u8)] [(4, .i .i64)] (strings_IndexByte k D)
theorem q_strings_IndexByte : (Tryd.f93.body).bind (rcodeOf Tryd.prog 2 Tryd.f93.ntmps) = some (strip r_strings_IndexByte) := by kernel_rfl
theorem t_strings_IndexByte (k : Nat) (D : CallF) : curF [(0, .s), (1, .i .u8)] (fun args h => denF (C_strings_IndexByte k D) k r_strings_IndexByte [(4, .i .i64)] [none] args h) = strings_IndexByte k D := by kernel_rfl
theorem ok_strings_IndexByte {D : CallF} (hD : CSound Tryd.prog 2 D) (k : Nat) : EntOk Tryd.prog 2 (e_strings_IndexByte k D) :=
 entOf_ok2 (mkC_sound hD (EntsOk.more (ok_internal_stringslite_IndexByte hD k) (EntsOk.none))) Tryd.func93 rfl q_strings_IndexByte rfl (t_strings_IndexByte k D)
end Ge
namespace Ge
open Go Gx Go.Proofs
set_option maxRecDepth 100000
noncomputable def C_sha_Unhex (k : Nat) (D : CallF) : CallF := mkC D [e_strings_Builder_String k D, e_strings_IndexByte k D, e_strings_Builder_WriteByte k D]
noncomputable def sha_Unhex_l0b (k : Nat) (D : CallF) (j4 : (Option Addr) → AHeap → Option ((ByteArray × Int) × AHeap)) (rec11 : ByteArray → (Option Addr) → Int → AHeap → Option ((ByteArray × Int) × AHeap)) (s6 : ByteArray) (b7 : Option Addr) (i9 : Int) (h10 : AHeap) : Option ((ByteArray × Int) × AHeap) :=
 (if (decide (i9 < (s6.size : Int))) = true then
 (if ((IntKind.wrap .i64 (i9 + 1)) == (s6.size : Int)) = true then
 some (((⟨#[]⟩ : ByteArray), 3), h10)
 else
 (Gx.idxS s6 i9).bind fun b12 =>
 (strings_IndexByte k D (⟨#[48, 49, 50, 51, 52, 53, 54, 55, 56, 57, 97, 98, 99, 100, 101, 102]⟩ : ByteArray) b12 h10).bind fun r13 =>
 (Gx.idxS s6 (IntKind.wrap .i64 (i9 + 1))).bind fun b14 =>
 (strings_IndexByte k D (⟨#[48, 49, 50, 51, 52, 53, 54, 55, 56, 57, 97, 98, 99, 100, 101, 102]⟩ : ByteArray) b14 r13.2).bind fun r15 =>
 (if (decide ((if r15.1 < r13.1 then r15.1 else r13.1) < 0)) = true then
 some (((⟨#[]⟩ : ByteArray), 3), r15.2)
 else
 let t16 : Int := (IntKind.wrap .u8 (Go.bits .or .i64 (IntKind.wrap .i64 (r13.1 * 16)) r15.1))
 (strings_Builder_WriteByte k D b7 t16 r15.2).bind fun r17 =>
 rec11 s6 b7 (IntKind.wrap .i64 (i9 + 2)) r17.2))
 else
 j4 b7 h10)
noncomputable def sha_Unhex_l0 (k : Nat) (D : CallF) (j4 : (Option Addr) → AHeap → Option ((ByteArray × Int) × AHeap)) : ByteArray → (Option Addr) → Int → AHeap → Option ((ByteArray × Int) × AHeap) :=
 iterK (α := ByteArray → (Option Addr) → Int → AHeap → Option ((ByteArray × Int) × AHeap)) (fun _ _ _ _ => none) k (sha_Unhex_l0b k D j4)
noncomputable def sha_Unhex (k : Nat) (D : CallF) (s_0 : ByteArray) (h : AHeap) : Option ((ByteArray × Int) × AHeap) :=
 newK h ((.cells [.pointer none, .slice none 0 0] 100 true 0)) fun h1 =>
 joinK (fun (b2 : Option Addr) (h3 : AHeap) =>
 (strings_Builder_String k D b2 h3).bind fun r5 =>
 some ((r5.1, 0), r5.2)) fun j4 =>
 sha_Unhex_l0 k D j4 s_0 (some (⟨h.next, 0, none⟩ : Addr)) 0 h1
noncomputable def r_sha_Unhex : RCode := an (.s .n (.s .n (.s (.j [(4, .p)] (.s .n (.b (.l [(0, .s), (4, .p), (5, .i .i64)] .n)))) .n))) (rOf Tryd.prog 2 Tryd.f57)
noncomputable def e_sha_Unhex (k : Nat) (D : CallF) : Ent := entOf 57 [(0, .s)] [(2, .s), (3, .i .i64)] (sha_Unhex k D)
theorem q_sha_Unhex : (Tryd.f57.body).bind (rcodeOf Tryd.prog 2 Tryd.f57.ntmps) = some (strip r_sha_Unhex) := by kernel_rfl
theorem t_sha_Unhex (k : Nat) (D : CallF) : curF [(0, .s)] (fun args h => denF (C_sha_Unhex k D) k r_sha_Unhex [(2, .s), (3, .i .i64)] [none, none] args h) = sha_Unhex k D := by kernel_rfl
theorem ok_sha_Unhex {D : CallF} (hD : CSound Tryd.prog 2 D) (k : Nat) : EntOk Tryd.prog 2 (e_sha_Unhex k D) :=
 entOf_ok2 (mkC_sound hD (EntsOk.more (ok_strings_Builder_String hD k) (EntsOk.more (ok_strings_IndexByte hD k) (EntsOk.more (ok_strings_Builder_WriteByte hD k) (EntsOk.none))))) Tryd.func57 rfl q_sha_Unhex rfl (t_sha_Unhex k D)
end Ge
namespace Ge
open Go Gx Go.Proofs
set_option maxRecDepth 100000
noncomputable def C_pack_IdOf (k : Nat) (D : CallF) : CallF := mkC D [e_strings_CutPrefix k D, e_sha_Unhex k D, e_sha_IsId k D]
noncomputable def pack_IdOf (k : Nat) (D : CallF) (name_0 : ByteArray) (h : AHeap) : Option ((ByteArray × Int) × AHeap) :=
 (strings_CutPrefix k D name_0 (⟨#[112, 97, 99, 107, 47]⟩ : ByteArray) h).bind fun r1 =>
 (sha_Unhex k D r1.1.1 r1.2).bind fun r2 =>
 joinK (fun (id3 : ByteArray) (y4 : Bool) (h5 : AHeap) =>
 (if y4 = true then
 some (((⟨#[]⟩ : ByteArray), 5), h5)
 else
 some ((id3, 0), h5))) fun j6 =>
 (if (!r1.1.2) = true then
 j6 r2.1.1 true r2.2
 else
 (if (r2.1.2 != 0) = true then
 j6 r2.1.1 true r2.2
 else
 (sha_IsId k D r2.1.1 r2.2).bind fun r7 =>
 j6 r2.1.1 (!r7.1) r7.2))
noncomputable def r_pack_IdOf : RCode := an (.s .n (.s .n (.s .n (.s (.s (.j [(6, .s), (28, .b)] .n) .n) .n)))) (rOf Tryd.prog 2 Tryd.f26)
noncomputable def e_pack_IdOf (k : Nat) (D : CallF) : Ent := entOf 26 [(0, .s)] [(2, .s), (3, .i .i64)] (pack_IdOf k D)
theorem q_pack_IdOf : (Tryd.f26.body).bind (rcodeOf Tryd.prog 2 Tryd.f26.ntmps) = some (strip r_pack_IdOf) := by kernel_rfl
theorem t_pack_IdOf (k : Nat) (D : CallF) : curF [(0, .s)] (fun args h => denF (C_pack_IdOf k D) k r_pack_IdOf [(2, .s), (3, .i .i64)] [none, none] args h) = pack_IdOf k D := by kernel_rfl
theorem ok_pack_IdOf {D : CallF} (hD : CSound Tryd.prog 2 D) (k : Nat) : EntOk Tryd.prog 2 (e_pack_IdOf k D) :=
 entOf_ok2 (mkC_sound hD (EntsOk.more (ok_strings_CutPrefix hD k) (EntsOk.more (ok_sha_Unhex hD k) (EntsOk.more (ok_sha_IsId hD k) (EntsOk.none))))) Tryd.func26 rfl q_pack_IdOf rfl (t_pack_IdOf k D)
end Ge
namespace Ge
open Go Gx Go.Proofs
set_option maxRecDepth 100000
end Ge
namespace Ge
open Go Gx Go.Proofs
set_option maxRecDepth 100000
end Ge
namespace Ge
open Go Gx Go.Proofs
set_option maxRecDepth 100000
end Ge
namespace Ge
open Go Gx Go.Proofs
set_option maxRecDepth 100000
end Ge
namespace Ge
open Go Gx Go.Proofs
set_option maxRecDepth 100000
end Ge
namespace Ge
open Go Gx Go.Proofs
set_option maxRecDepth 100000
end Ge
namespace Ge
open Go Gx Go.Proofs
set_option maxRecDepth 100000
end Ge
namespace Ge
open Go Gx Go.Proofs
set_option maxRecDepth 100000
end Ge
namespace Ge
open Go Gx Go.Proofs
set_option maxRecDepth 100000
end Ge
namespace Ge
open Go Gx Go.Proofs
set_option maxRecDepth 100000
end Ge
namespace Ge
open Go Gx Go.Proofs
set_option maxRecDepth 100000
end Ge
namespace Ge
open Go Gx Go.Proofs
set_option maxRecDepth 100000
end Ge
namespace Ge
open Go Gx Go.Proofs
set_option maxRecDepth 100000
end Ge
namespace Ge
open Go Gx Go.Proofs
set_option maxRecDepth 100000
end Ge
namespace Ge
open Go Gx Go.Proofs
set_option maxRecDepth 100000
end Ge
namespace Ge
open Go Gx Go.Proofs
set_option maxRecDepth 100000
end Ge
namespace Ge
open Go Gx Go.Proofs
set_option maxRecDepth 100000
end Ge
namespace Ge
open Go Gx Go.Proofs
set_option maxRecDepth 100000
end Ge
namespace Ge
open Go Gx Go.Proofs
set_option maxRecDepth 100000
end Ge
namespace Ge
open Go Gx Go.Proofs
set_option maxRecDepth 100000
end Ge
namespace Ge
open Go Gx Go.Proofs
set_option maxRecDepth 100000
end Ge
namespace Ge
open Go Gx Go.Proofs
set_option maxRecDepth 100000
end Ge
namespace Ge
open Go Gx Go.Proofs
set_option maxRecDepth 100000
end Ge
namespace Ge
open Go Gx Go.Proofs
set_option maxRecDepth 100000
end Ge
namespace Ge
open Go Gx Go.Proofs
set_option maxRecDepth 100000
noncomputable def C_law14_PackNames (k : Nat) (D : CallF) : CallF := mkC D [e_law14_works k D, e_pack_Name k D, e_pack_IdOf k D, e_book_Among k D]
noncomputable def law14_PackNames (k : Nat) (D : CallF) (id_0 : ByteArray) (at_1 : Int) (c_2 : Int) (h : AHeap) : Option ((Bool) × AHeap) :=
 (law14_works k D h).bind fun r1 =>
 (if (!r1.1) = true then
 some (false, r1.2)
 else
 (if ((id_0.size : Int) != 32) = true then
 some (true, r1.2)
 else
 (pack_Name k D id_0 r1.2).bind fun r2 =>
 (pack_IdOf k D r2.1 r2.2).bind fun r3 =>
 newK r3.2 ((.cells (bytesL r2.1) 5 true 18446744073709551616)) fun h4 =>
 (book_Among k D at_1 (r2.1.size : Int) h4).bind fun r5 =>
 (Gx.idxL 1 (⟨(some ⟨r3.2.next, 0, some 2⟩), r2.1.size, r2.1.size⟩ : Slc) r5.1).bind fun q6 =>
 (st1 q6 (.int .u8 c_2) r5.2).bind fun h7 =>
 (bytesOf h7 (⟨(some ⟨r3.2.next, 0, some 2⟩), r2.1.size, r2.1.size⟩ : Slc)).bind fun s8 =>
 (pack_IdOf k D s8 h7).bind fun r9 =>
 (if r2.1.size + (⟨#[48]⟩ : ByteArray).size ≤ 9223372036854775807 then
 (pack_IdOf k D (r2.1 ++ (⟨#[48]⟩ : ByteArray)) r9.2).bind fun r10 =>
 (Gx.subS r2.1 (some 1) none).bind fun s11 =>
 (pack_IdOf k D s11 r10.2).bind fun r12 =>
 (if (r3.1.2 == 0) = true then
 (if (r3.1.1 == id_0) = true then
 (if (r9.1.2 == 0) = true then
 (pack_Name k D r9.1.1 r12.2).bind fun r13 =>
 (bytesOf r13.2 (⟨(some ⟨r3.2.next, 0, some 2⟩), r2.1.size, r2.1.size⟩ : Slc)).bind fun s14 =>
 guardP (SameW [r12.2] (fun H16 => (bytesOf H16 (⟨(some ⟨r3.2.next, 0, some 2⟩), r2.1.size, r2.1.size⟩ : Slc)).bind fun y15 => some (.string y15)) (.string s14)) (
 (if (r13.1 == s14) = true then
 (if (r10.1.2 == 5) = true then
 some ((r12.1.2 == 5), r13.2)
 else
 some (false, r13.2))
 else
 (if (r9.1.2 == 5) = true then
 (if (r9.1.1 == (⟨#[]⟩ : ByteArray)) = true then
 (if (r10.1.2 == 5) = true then
 some ((r12.1.2 == 5), r13.2)
 else
 some (false, r13.2))
 else
 some (false, r13.2))
 else
 some (false, r13.2))))
 else
 (if (r9.1.2 == 5) = true then
 (if (r9.1.1 == (⟨#[]⟩ : ByteArray)) = true then
 (if (r10.1.2 == 5) = true then
 some ((r12.1.2 == 5), r12.2)
 else
 some (false, r12.2))
 else
 some (false, r12.2))
 else
 some (false, r12.2)))
 else
 some (false, r12.2))
 else
 some (false, r12.2))
 else none)))
noncomputable def r_law14_PackNames : RCode := an (.n) (rOf Tryd.prog 2 Tryd.f6)
noncomputable def e_law14_PackNames (k : Nat) (D : CallF) : Ent := entOf 6 [(0, .s), (1, .i .i64), (2, .i .u8)] [(6, .b)] (law14_PackNames k D)
theorem q_law14_PackNames : (Tryd.f6.body).bind (rcodeOf Tryd.prog 2 Tryd.f6.ntmps) = some (strip r_law14_PackNames) := by kernel_rfl
theorem t_law14_PackNames (k : Nat) (D : CallF) : curF [(0, .s), (1, .i .i64), (2, .i .u8)] (fun args h => denF (C_law14_PackNames k D) k r_law14_PackNames [(6, .b)] [none] args h) = law14_PackNames k D := by kernel_rfl
theorem ok_law14_PackNames {D : CallF} (hD : CSound Tryd.prog 2 D) (k : Nat) : EntOk Tryd.prog 2 (e_law14_PackNames k D) :=
 entOf_ok2 (mkC_sound hD (EntsOk.more (ok_law14_works hD k) (EntsOk.more (ok_pack_Name hD k) (EntsOk.more (ok_pack_IdOf hD k) (EntsOk.more (ok_book_Among hD k) (EntsOk.none)))))) Tryd.func6 rfl q_law14_PackNames rfl (t_law14_PackNames k D)
end Ge
