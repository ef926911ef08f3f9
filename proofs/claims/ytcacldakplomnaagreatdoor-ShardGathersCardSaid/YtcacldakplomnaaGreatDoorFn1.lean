import Derived.Test.YtcacldakplomnaaGreatDoorProg
import Derived.Shelf.Strings.OnBuilder
import Derived.Shelf.Strings.Repeat
import Derived.KernelRfl
import Derived.Test.YtcacldakplomnaaGreatDoorGx3
namespace Gz
open Go Gx Go.Proofs
set_option maxRecDepth 100000
noncomputable def zlz_ (_k : Nat) (D : za_) : za_ := mkC D []
noncomputable def zdf_ (_k : Nat) (_D : za_) (j17 : Int → Slc → Int → Int → AHeap → Option ((Int) × AHeap)) (rec26 : Int → Slc → Int → Int → Int → AHeap → Option ((Int) × AHeap)) (r20 : Int) (y21 : Slc) (y22 : Int) (y23 : Int) (y24 : Int) (h25 : AHeap) : Option ((Int) × AHeap) :=
 (if (decide (y24 < 8)) = true then
 let t27 : Int := (Go.bits .and .u32 2197175160 (IntKind.wrap .u32 (0 - (Go.bits .and .u32 r20 1))))
 rec26 (Go.bits .xor .u32 (Int.fdiv r20 2) t27) y21 y22 y23 (IntKind.wrap .i64 (y24 + 1)) h25
 else
 j17 r20 y21 y22 y23 h25)
noncomputable def zGp_ (k : Nat) (D : za_) (j17 : Int → Slc → Int → Int → AHeap → Option ((Int) × AHeap)) : Int → Slc → Int → Int → Int → AHeap → Option ((Int) × AHeap) :=
 zh_ (α := Int → Slc → Int → Int → Int → AHeap → Option ((Int) × AHeap)) (fun _ _ _ _ _ _ => none) k (zdf_ k D j17)
noncomputable def zGc_ (k : Nat) (D : za_) (j3 : Int → AHeap → Option ((Int) × AHeap)) (rec11 : Int → Slc → Int → Int → AHeap → Option ((Int) × AHeap)) (r6 : Int) (y7 : Slc) (y8 : Int) (y9 : Int) (h10 : AHeap) : Option ((Int) × AHeap) :=
 (if (decide (y9 < y8)) = true then
 zn_ (fun (r12 : Int) (y13 : Slc) (y14 : Int) (y15 : Int) (h16 : AHeap) =>
 rec11 r12 y13 y14 (IntKind.wrap .i64 (y15 + 1)) h16) fun j17 =>
 (Gx.idxL 1 y7 y9).bind fun q18 =>
 (ldI .u8 q18 h10).bind fun x19 =>
 zGp_ k D j17 (Go.bits .xor .u32 r6 (IntKind.wrap .u32 x19)) y7 y8 y9 0 h10
 else
 j3 r6 h10)
noncomputable def ziq_ (k : Nat) (D : za_) (j3 : Int → AHeap → Option ((Int) × AHeap)) : Int → Slc → Int → Int → AHeap → Option ((Int) × AHeap) :=
 zh_ (α := Int → Slc → Int → Int → AHeap → Option ((Int) × AHeap)) (fun _ _ _ _ _ => none) k (zGc_ k D j3)
noncomputable def zZi_ (k : Nat) (D : za_) (s_0 : ByteArray) (h : AHeap) : Option ((Int) × AHeap) :=
 zn_ (fun (r1 : Int) (h2 : AHeap) =>
 let t4 : Int := (IntKind.wrap .i64 (Go.bits .xor .u32 (IntKind.max .u32) r1))
 some (t4, h2)) fun j3 =>
 let h5 := AHeap.new h (.cells (zR_ s_0) 5 true 0)
 ziq_ k D j3 4294967295 (⟨(some ⟨h.next, 0, some 2⟩), s_0.size, s_0.size⟩ : Slc) (s_0.size : Int) 0 h5
noncomputable def zBr_ : RCode := an (.s .n (.s .n (.s (.j [(3, .i .u32)] (.s .n (.b (.l [(3, .i .u32), (8, .l), (9, .i .i64), (10, .i .i64)] (.s .n (.s .n (.s (.j [(3, .i .u32), (8, .l), (9, .i .i64), (10, .i .i64)] (.b (.s .n (.s .n (.s .n (.b (.l [(3, .i .u32), (8, .l), (9, .i .i64), (10, .i .i64), (18, .i .i64)] .n))))))) .n))))))) .n))) (rOf Tryz.prog 2 Tryz.f19)
noncomputable def zEr_ (k : Nat) (D : za_) : Ent := zq_ 19 [(0, .s)] [(2, .i .i64)] (zZi_ k D)
theorem zEz_ : (Tryz.f19.body).bind (zd_ Tryz.prog 2 Tryz.f19.ntmps) = some (zf_ zBr_) := by kernel_rfl
theorem zkz_ (k : Nat) (D : za_) : curF [(0, .s)] (fun args h => denF (zlz_ k D) k zBr_ [(2, .i .i64)] [none] args h) = zZi_ k D := by kernel_rfl
theorem zYy_ {D : za_} (hD : zl_ Tryz.prog 2 D) (k : Nat) : zo_ Tryz.prog 2 (zEr_ k D) :=
 zj_ (zi_ hD (zc_.none)) Tryz.func19 rfl zEz_ rfl (zkz_ k D)
end Gz
namespace Gz
open Go Gx Go.Proofs
set_option maxRecDepth 100000
noncomputable def zyw_ (k : Nat) (D : za_) : za_ := mkC D [zEr_ k D]
noncomputable def zre_ (k : Nat) (D : za_)  (h : AHeap) : Option ((Bool) × AHeap) :=
 (zZi_ k D (⟨#[49, 50, 51, 52, 53, 54, 55, 56, 57]⟩ : ByteArray) h).bind fun r1 =>
 some ((r1.1 == 3808858755), r1.2)
noncomputable def zko_ : RCode := an (.n) (rOf Tryz.prog 2 Tryz.f6)
noncomputable def zuo_ (k : Nat) (D : za_) : Ent := zq_ 6 [] [(0, .b)] (zre_ k D)
theorem zhw_ : (Tryz.f6.body).bind (zd_ Tryz.prog 2 Tryz.f6.ntmps) = some (zf_ zko_) := by kernel_rfl
theorem zZv_ (k : Nat) (D : za_) : curF [] (fun args h => denF (zyw_ k D) k zko_ [(0, .b)] [none] args h) = zre_ k D := by kernel_rfl
theorem zZu_ {D : za_} (hD : zl_ Tryz.prog 2 D) (k : Nat) : zo_ Tryz.prog 2 (zuo_ k D) :=
 zj_ (zi_ hD (zc_.more (zYy_ hD k) (zc_.none))) Tryz.func6 rfl zhw_ rfl (zZv_ k D)
end Gz
namespace Gz
open Go Gx Go.Proofs
set_option maxRecDepth 100000
noncomputable def zYz_ (_k : Nat) (D : za_) : za_ := mkC D []
noncomputable def zEi_ (_k : Nat) (_D : za_)  (h : AHeap) : Option (((Option Addr)) × AHeap) :=
 let h1 := AHeap.new h (.cells ([.int .u32 0] ++ [.int .i32 0] ++ [.int .u32 0] ++ List.replicate 510 (.int .u8 0) ++ List.replicate 256 (.int .i64 0)) 143 true 0)
 some ((some (⟨h.next, 0, none⟩ : Addr)), h1)
noncomputable def zlr_ : RCode := an (.n) (rOf Tryz.prog 2 Tryz.f41)
noncomputable def zGl_ (k : Nat) (D : za_) : Ent := zq_ 41 [] [(0, .p)] (zEi_ k D)
theorem zNz_ : (Tryz.f41.body).bind (zd_ Tryz.prog 2 Tryz.f41.ntmps) = some (zf_ zlr_) := by kernel_rfl
theorem zuz_ (k : Nat) (D : za_) : curF [] (fun args h => denF (zYz_ k D) k zlr_ [(0, .p)] [none] args h) = zEi_ k D := by kernel_rfl
theorem zlq_ {D : za_} (hD : zl_ Tryz.prog 2 D) (k : Nat) : zo_ Tryz.prog 2 (zGl_ k D) :=
 zj_ (zi_ hD (zc_.none)) Tryz.func41 rfl zNz_ rfl (zuz_ k D)
end Gz
namespace Gz
open Go Gx Go.Proofs
set_option maxRecDepth 100000
noncomputable def zDy_ (k : Nat) (D : za_) : za_ := mkC D [zGl_ k D]
noncomputable def zqh_ (k : Nat) (D : za_)  (h : AHeap) : Option (((Option Addr)) × AHeap) :=
 (zEi_ k D h).bind fun r1 =>
 let h2 := AHeap.new r1.2 (.cells [.pointer r1.1] 123 true 0)
 some ((some (⟨r1.2.next, 0, none⟩ : Addr)), h2)
noncomputable def zMp_ : RCode := an (.n) (rOf Tryz.prog 2 Tryz.f39)
noncomputable def zjq_ (k : Nat) (D : za_) : Ent := zq_ 39 [] [(0, .p)] (zqh_ k D)
theorem zCy_ : (Tryz.f39.body).bind (zd_ Tryz.prog 2 Tryz.f39.ntmps) = some (zf_ zMp_) := by kernel_rfl
theorem zzy_ (k : Nat) (D : za_) : curF [] (fun args h => denF (zDy_ k D) k zMp_ [(0, .p)] [none] args h) = zqh_ k D := by kernel_rfl
theorem zlw_ {D : za_} (hD : zl_ Tryz.prog 2 D) (k : Nat) : zo_ Tryz.prog 2 (zjq_ k D) :=
 zj_ (zi_ hD (zc_.more (zlq_ hD k) (zc_.none))) Tryz.func39 rfl zCy_ rfl (zzy_ k D)
end Gz
namespace Gz
open Go Gx Go.Proofs
set_option maxRecDepth 100000
noncomputable def zDu_ (_k : Nat) (D : za_) : za_ := mkC D []
noncomputable def zAe_ (_k : Nat) (_D : za_) (rows_0 : Int) (cols_1 : Int) (h : AHeap) : Option (((Int × Int × Slc)) × AHeap) :=
 let h1 := AHeap.new h (.cells [.int .i64 0, .int .i64 0, .slice none 0 0] 84 true 0)
 (if 0 ≤ (IntKind.wrap .i64 (rows_0 * cols_1)) ∧ (IntKind.wrap .i64 (rows_0 * cols_1)) ≤ (IntKind.wrap .i64 (rows_0 * cols_1)) ∧ (IntKind.wrap .i64 (rows_0 * cols_1)) ≤ 281474976710656 ∧ 8 * (IntKind.wrap .i64 (rows_0 * cols_1)) ≤ 281474976710656 then
 let h2 := AHeap.new h1 (.cells (zw_ ((IntKind.wrap .i64 (rows_0 * cols_1))).toNat [.int .i64 0]) 3 true 0)
 (stL 3 (⟨h.next, 0, none⟩ : Addr) ([.int .i64 rows_0, .int .i64 cols_1, .slice (some ⟨h1.next, 0, some 0⟩) (((IntKind.wrap .i64 (rows_0 * cols_1))).toNat) (((IntKind.wrap .i64 (rows_0 * cols_1))).toNat)]) h2).bind fun h3 =>
 (ldA 3 (⟨h.next, 0, none⟩ : Addr) h3).bind fun l4 =>
 (decC [.i .i64, .i .i64, .l] l4).bind fun x5 =>
 some ((x5.1, x5.2.1, x5.2.2), h3)
 else none)
noncomputable def zJl_ : RCode := an (.n) (rOf Tryz.prog 2 Tryz.f66)
noncomputable def zpi_ (k : Nat) (D : za_) : Ent := zq_ 66 [(0, .i .i64), (1, .i .i64)] [(4, .st [.i .i64, .i .i64, .l])] (zAe_ k D)
theorem zmu_ : (Tryz.f66.body).bind (zd_ Tryz.prog 2 Tryz.f66.ntmps) = some (zf_ zJl_) := by kernel_rfl
theorem zlu_ (k : Nat) (D : za_) : curF [(0, .i .i64), (1, .i .i64)] (fun args h => denF (zDu_ k D) k zJl_ [(4, .st [.i .i64, .i .i64, .l])] [some (.agg 3)] args h) = zAe_ k D := by kernel_rfl
theorem zql_ {D : za_} (hD : zl_ Tryz.prog 2 D) (k : Nat) : zo_ Tryz.prog 2 (zpi_ k D) :=
 zj_ (zi_ hD (zc_.none)) Tryz.func66 rfl zmu_ rfl (zlu_ k D)
end Gz
namespace Gz
open Go Gx Go.Proofs
set_option maxRecDepth 100000
noncomputable def zWt_ (_k : Nat) (D : za_) : za_ := mkC D []
noncomputable def zD_ (_k : Nat) (_D : za_) (a_0 : Int × Int × Slc) (i_1 : Int) (h : AHeap) : Option ((Slc) × AHeap) :=
 let h1 := AHeap.new h (.cells [.int .i64 a_0.1, .int .i64 a_0.2.1, .slice a_0.2.2.a a_0.2.2.len a_0.2.2.cap] 84 true 0)
 (ldL (⟨h.next, 2, none⟩ : Addr) h1).bind fun x2 =>
 (ldI .i64 (⟨h.next, 1, none⟩ : Addr) h1).bind fun x3 =>
 (ldI .i64 (⟨h.next, 1, none⟩ : Addr) h1).bind fun x4 =>
 (ldI .i64 (⟨h.next, 1, none⟩ : Addr) h1).bind fun x5 =>
 (Gx.subL 1 x2 (some (IntKind.wrap .i64 (i_1 * x3))) (some (IntKind.wrap .i64 ((IntKind.wrap .i64 (i_1 + 1)) * x4))) (some (IntKind.wrap .i64 ((IntKind.wrap .i64 (i_1 + 1)) * x5)))).bind fun l6 =>
 some (l6, h1)
noncomputable def zhm_ : RCode := an (.n) (rOf Tryz.prog 2 Tryz.f67)
noncomputable def zhd_ (k : Nat) (D : za_) : Ent := zq_ 67 [(0, .st [.i .i64, .i .i64, .l]), (1, .i .i64)] [(4, .l)] (zD_ k D)
theorem zqu_ : (Tryz.f67.body).bind (zd_ Tryz.prog 2 Tryz.f67.ntmps) = some (zf_ zhm_) := by kernel_rfl
theorem znu_ (k : Nat) (D : za_) : curF [(0, .st [.i .i64, .i .i64, .l]), (1, .i .i64)] (fun args h => denF (zWt_ k D) k zhm_ [(4, .l)] [none] args h) = zD_ k D := by kernel_rfl
theorem zOd_ {D : za_} (hD : zl_ Tryz.prog 2 D) (k : Nat) : zo_ Tryz.prog 2 (zhd_ k D) :=
 zj_ (zi_ hD (zc_.none)) Tryz.func67 rfl zqu_ rfl (znu_ k D)
end Gz
namespace Gz
open Go Gx Go.Proofs
set_option maxRecDepth 100000
noncomputable def zcB_ (_k : Nat) (D : za_) : za_ := mkC D []
noncomputable def zWb_ (_k : Nat) (_D : za_) (j2 : AHeap → Option ((Bool) × AHeap)) (rec7 : Slc → Int → Int → AHeap → Option ((Bool) × AHeap)) (y3 : Slc) (y4 : Int) (y5 : Int) (h6 : AHeap) : Option ((Bool) × AHeap) :=
 (if (decide (y5 < y4)) = true then
 (Gx.idxL 1 y3 y5).bind fun q8 =>
 (ldI .i64 q8 h6).bind fun x9 =>
 zn_ (fun (y10 : Slc) (y11 : Int) (y12 : Int) (y13 : Bool) (h14 : AHeap) =>
 (if y13 = true then
 some (false, h14)
 else
 rec7 y10 y11 (IntKind.wrap .i64 (y12 + 1)) h14)) fun j15 =>
 (if (decide (x9 < 0)) = true then
 j15 y3 y4 y5 true h6
 else
 j15 y3 y4 y5 (decide (x9 ≥ 256)) h6)
 else
 j2 h6)
noncomputable def zwl_ (k : Nat) (D : za_) (j2 : AHeap → Option ((Bool) × AHeap)) : Slc → Int → Int → AHeap → Option ((Bool) × AHeap) :=
 zh_ (α := Slc → Int → Int → AHeap → Option ((Bool) × AHeap)) (fun _ _ _ _ => none) k (zWb_ k D j2)
noncomputable def zmc_ (k : Nat) (D : za_) (l_0 : Slc) (h : AHeap) : Option ((Bool) × AHeap) :=
 zn_ (fun (h1 : AHeap) =>
 some (true, h1)) fun j2 =>
 zwl_ k D j2 l_0 (l_0.len : Int) 0 h
noncomputable def zGt_ : RCode := an (.s .n (.s (.j [] (.s .n (.b (.l [(5, .l), (6, .i .i64), (7, .i .i64)] (.s .n (.s .n (.s (.b (.s .n (.s (.j [(5, .l), (6, .i .i64), (7, .i .i64), (16, .b)] .n) .n))) .n))))))) .n)) (rOf Tryz.prog 2 Tryz.f75)
noncomputable def zPj_ (k : Nat) (D : za_) : Ent := zq_ 75 [(0, .l)] [(2, .b)] (zmc_ k D)
theorem zFB_ : (Tryz.f75.body).bind (zd_ Tryz.prog 2 Tryz.f75.ntmps) = some (zf_ zGt_) := by kernel_rfl
theorem zfC_ (k : Nat) (D : za_) : curF [(0, .l)] (fun args h => denF (zcB_ k D) k zGt_ [(2, .b)] [none] args h) = zmc_ k D := by kernel_rfl
theorem zrl_ {D : za_} (hD : zl_ Tryz.prog 2 D) (k : Nat) : zo_ Tryz.prog 2 (zPj_ k D) :=
 zj_ (zi_ hD (zc_.none)) Tryz.func75 rfl zFB_ rfl (zfC_ k D)
end Gz
namespace Gz
open Go Gx Go.Proofs
set_option maxRecDepth 100000
noncomputable def zSt_ (_k : Nat) (D : za_) : za_ := mkC D []
noncomputable def zOf_ (_k : Nat) (_D : za_) (a_0 : Int) (h : AHeap) : Option ((Int) × AHeap) :=
 zn_ (fun (a1 : Int) (h2 : AHeap) =>
 some (a1, h2)) fun j3 =>
 (if (decide ((IntKind.wrap .i64 (a_0 * 2)) ≥ 256)) = true then
 j3 (Go.bits .xor .i64 (IntKind.wrap .i64 (a_0 * 2)) 391) h
 else
 j3 (IntKind.wrap .i64 (a_0 * 2)) h)
noncomputable def zum_ : RCode := an (.s .n (.s .n (.s (.j [(0, .i .i64)] .n) .n))) (rOf Tryz.prog 2 Tryz.f119)
noncomputable def zNl_ (k : Nat) (D : za_) : Ent := zq_ 119 [(0, .i .i64)] [(2, .i .i64)] (zOf_ k D)
theorem zVu_ : (Tryz.f119.body).bind (zd_ Tryz.prog 2 Tryz.f119.ntmps) = some (zf_ zum_) := by kernel_rfl
theorem zEu_ (k : Nat) (D : za_) : curF [(0, .i .i64)] (fun args h => denF (zSt_ k D) k zum_ [(2, .i .i64)] [none] args h) = zOf_ k D := by kernel_rfl
theorem zBs_ {D : za_} (hD : zl_ Tryz.prog 2 D) (k : Nat) : zo_ Tryz.prog 2 (zNl_ k D) :=
 zj_ (zi_ hD (zc_.none)) Tryz.func119 rfl zVu_ rfl (zEu_ k D)
end Gz
namespace Gz
open Go Gx Go.Proofs
set_option maxRecDepth 100000
noncomputable def zJp_ (k : Nat) (D : za_) : za_ := mkC D [zNl_ k D]
noncomputable def zTb_ (k : Nat) (D : za_)  (rec5 : (Option Addr) → Int → Int → AHeap → Option ((Unit) × AHeap)) (f1 : Option Addr) (x2 : Int) (y3 : Int) (h4 : AHeap) : Option ((Unit) × AHeap) :=
 (if (decide (y3 < 255)) = true then
 (f1).bind fun p6 =>
 (Gx.idxA 510 1 (⟨p6.block, p6.off + 3 + 0, none⟩ : Addr) y3).bind fun q7 =>
 (st1 q7 (.int .u8 (IntKind.wrap .u8 x2)) h4).bind fun h8 =>
 (f1).bind fun p9 =>
 (Gx.idxA 510 1 (⟨p9.block, p9.off + 3 + 0, none⟩ : Addr) (IntKind.wrap .i64 (y3 + 255))).bind fun q10 =>
 (st1 q10 (.int .u8 (IntKind.wrap .u8 x2)) h8).bind fun h11 =>
 (f1).bind fun p12 =>
 (Gx.idxA 256 1 (⟨p12.block, p12.off + 3 + 510, none⟩ : Addr) x2).bind fun q13 =>
 (st1 q13 (.int .i64 y3) h11).bind fun h14 =>
 (zOf_ k D x2 h14).bind fun r15 =>
 rec5 f1 r15.1 (IntKind.wrap .i64 (y3 + 1)) r15.2
 else
 some ((), h4))
noncomputable def zXh_ (k : Nat) (D : za_)  : (Option Addr) → Int → Int → AHeap → Option ((Unit) × AHeap) :=
 zh_ (α := (Option Addr) → Int → Int → AHeap → Option ((Unit) × AHeap)) (fun _ _ _ _ => none) k (zTb_ k D )
noncomputable def znd_ (k : Nat) (D : za_) (f_0 : Option Addr) (h : AHeap) : Option ((Unit) × AHeap) :=
 zXh_ k D f_0 1 0 h
noncomputable def zXi_ : RCode := an (.s .n (.s .n (.b (.l [(0, .p), (2, .i .i64), (4, .i .i64)] .n)))) (rOf Tryz.prog 2 Tryz.f108)
noncomputable def zGi_ (k : Nat) (D : za_) : Ent := zq_ 108 [(0, .p)] [] (znd_ k D)
theorem zcq_ : (Tryz.f108.body).bind (zd_ Tryz.prog 2 Tryz.f108.ntmps) = some (zf_ zXi_) := by kernel_rfl
theorem zbp_ (k : Nat) (D : za_) : curF [(0, .p)] (fun args h => denF (zJp_ k D) k zXi_ [] [] args h) = znd_ k D := by kernel_rfl
theorem zDo_ {D : za_} (hD : zl_ Tryz.prog 2 D) (k : Nat) : zo_ Tryz.prog 2 (zGi_ k D) :=
 zj_ (zi_ hD (zc_.more (zBs_ hD k) (zc_.none))) Tryz.func108 rfl zcq_ rfl (zbp_ k D)
end Gz
namespace Gz
open Go Gx Go.Proofs
noncomputable def zTf_ (_k : Nat) (_D : za_) : Ent := zJB_ 123 .u32
theorem zJj_ {D : za_} (_hD : zl_ Tryz.prog 2 D) (k : Nat) : zo_ Tryz.prog 2 (zTf_ k D) :=
 ziG_ Tryz.func123 rfl rfl rfl .u32 (by kernel_rfl)
end Gz
namespace Gz
open Go Gx Go.Proofs
set_option maxRecDepth 100000
noncomputable def zFk_ (k : Nat) (D : za_) : za_ := mkC D [zTf_ k D]
noncomputable def zgb_ (_k : Nat) (_D : za_) (x_0 : Option Addr) (h : AHeap) : Option ((Bool) × AHeap) :=
 (x_0).bind fun p1 =>
 (ldI .u32 (⟨p1.block, p1.off + 0, none⟩ : Addr) h).bind fun x2 =>
 some ((x2 != 0), h)
noncomputable def zrg_ : RCode := an (.n) (rOf Tryz.prog 2 Tryz.f117)
noncomputable def zJd_ (k : Nat) (D : za_) : Ent := zq_ 117 [(0, .p)] [(2, .b)] (zgb_ k D)
theorem zGk_ : (Tryz.f117.body).bind (zd_ Tryz.prog 2 Tryz.f117.ntmps) = some (zf_ zrg_) := by kernel_rfl
theorem zEk_ (k : Nat) (D : za_) : curF [(0, .p)] (fun args h => denF (zFk_ k D) k zrg_ [(2, .b)] [none] args h) = zgb_ k D := by kernel_rfl
theorem zHf_ {D : za_} (hD : zl_ Tryz.prog 2 D) (k : Nat) : zo_ Tryz.prog 2 (zJd_ k D) :=
 zj_ (zi_ hD (zc_.more (zJj_ hD k) (zc_.none))) Tryz.func117 rfl zGk_ rfl (zEk_ k D)
end Gz
namespace Gz
open Go Gx Go.Proofs
noncomputable def zId_ (_k : Nat) (_D : za_) : Ent := zut_ 133
theorem zPf_ {D : za_} (_hD : zl_ Tryz.prog 2 D) (k : Nat) : zo_ Tryz.prog 2 (zId_ k D) :=
 zFy_ Tryz.func133 rfl rfl rfl .disable (by kernel_rfl)
end Gz
namespace Gz
open Go Gx Go.Proofs
noncomputable def zbd_ (_k : Nat) (_D : za_) : Ent := eCas 134 .i32
theorem ztg_ {D : za_} (_hD : zl_ Tryz.prog 2 D) (k : Nat) : zo_ Tryz.prog 2 (zbd_ k D) :=
 zcH_ Tryz.func134 rfl rfl rfl .i32 (by kernel_rfl)
end Gz
namespace Gz
open Go Gx Go.Proofs
noncomputable def zse_ (_k : Nat) (_D : za_) : Ent := zut_ 135
theorem zqg_ {D : za_} (_hD : zl_ Tryz.prog 2 D) (k : Nat) : zo_ Tryz.prog 2 (zse_ k D) :=
 zFy_ Tryz.func135 rfl rfl rfl .enable (by kernel_rfl)
end Gz
namespace Gz
open Go Gx Go.Proofs
noncomputable def zpg_ (_k : Nat) (_D : za_) : Ent := zTs_ 136
theorem zXj_ {D : za_} (_hD : zl_ Tryz.prog 2 D) (k : Nat) : zo_ Tryz.prog 2 (zpg_ k D) :=
 zVy_ Tryz.func136 rfl rfl rfl .acquire (by kernel_rfl)
end Gz
namespace Gz
open Go Gx Go.Proofs
noncomputable def zJg_ (_k : Nat) (_D : za_) : Ent := eAdd 139 .i32
theorem zIk_ {D : za_} (_hD : zl_ Tryz.prog 2 D) (k : Nat) : zo_ Tryz.prog 2 (zJg_ k D) :=
 zgH_ Tryz.func139 rfl rfl rfl .i32 (by kernel_rfl)
end Gz
namespace Gz
open Go Gx Go.Proofs
set_option maxRecDepth 100000
noncomputable def znj_ (k : Nat) (D : za_) : za_ := mkC D [zId_ k D, zbd_ k D, zse_ k D, zpg_ k D]
noncomputable def zRb_ (_k : Nat) (_D : za_) (m_0 : Option Addr) (h : AHeap) : Option ((Unit) × AHeap) :=
 (m_0).bind fun p1 =>
 (ldI .i32 (⟨p1.block, p1.off + 0, none⟩ : Addr) h).bind fun x2 =>
 (if x2 = 0 then
 (st1 (⟨p1.block, p1.off + 0, none⟩ : Addr) (.int .i32 1) h).bind fun h3 =>
 (m_0).bind fun p4 =>
 (AHeap.rd1 h3 p4.block p4.off).bind fun _ =>
 some ((), h3)
 else none)
noncomputable def znf_ : RCode := an (.n) (rOf Tryz.prog 2 Tryz.f128)
noncomputable def zff_ (k : Nat) (D : za_) : Ent := zq_ 128 [(0, .p)] [] (zRb_ k D)
theorem zij_ : (Tryz.f128.body).bind (zd_ Tryz.prog 2 Tryz.f128.ntmps) = some (zf_ znf_) := by kernel_rfl
theorem zkj_ (k : Nat) (D : za_) : curF [(0, .p)] (fun args h => denF (znj_ k D) k znf_ [] [] args h) = zRb_ k D := by kernel_rfl
theorem zJi_ {D : za_} (hD : zl_ Tryz.prog 2 D) (k : Nat) : zo_ Tryz.prog 2 (zff_ k D) :=
 zj_ (zi_ hD (zc_.more (zPf_ hD k) (zc_.more (ztg_ hD k) (zc_.more (zqg_ hD k) (zc_.more (zXj_ hD k) (zc_.none)))))) Tryz.func128 rfl zij_ rfl (zkj_ k D)
end Gz
namespace Gz
open Go Gx Go.Proofs
set_option maxRecDepth 100000
noncomputable def zOq_ (k : Nat) (D : za_) : za_ := mkC D [zff_ k D]
noncomputable def zXd_ (k : Nat) (D : za_) (m_0 : Option Addr) (h : AHeap) : Option ((Unit) × AHeap) :=
 (m_0).bind fun p1 =>
 (zRb_ k D (some (⟨p1.block, p1.off + 0, none⟩ : Addr)) h).bind fun r2 =>
 some ((), r2.2)
noncomputable def zvj_ : RCode := an (.n) (rOf Tryz.prog 2 Tryz.f124)
noncomputable def zpj_ (k : Nat) (D : za_) : Ent := zq_ 124 [(0, .p)] [] (zXd_ k D)
theorem zWq_ : (Tryz.f124.body).bind (zd_ Tryz.prog 2 Tryz.f124.ntmps) = some (zf_ zvj_) := by kernel_rfl
theorem zPq_ (k : Nat) (D : za_) : curF [(0, .p)] (fun args h => denF (zOq_ k D) k zvj_ [] [] args h) = zXd_ k D := by kernel_rfl
theorem zhp_ {D : za_} (hD : zl_ Tryz.prog 2 D) (k : Nat) : zo_ Tryz.prog 2 (zpj_ k D) :=
 zj_ (zi_ hD (zc_.more (zJi_ hD k) (zc_.none))) Tryz.func124 rfl zWq_ rfl (zPq_ k D)
end Gz
namespace Gz
open Go Gx Go.Proofs
noncomputable def zIe_ (_k : Nat) (_D : za_) : Ent := zTs_ 138
theorem zSh_ {D : za_} (_hD : zl_ Tryz.prog 2 D) (k : Nat) : zo_ Tryz.prog 2 (zIe_ k D) :=
 zVy_ Tryz.func138 rfl rfl rfl .releaseMerge (by kernel_rfl)
end Gz
namespace Gz
open Go Gx Go.Proofs
set_option maxRecDepth 100000
noncomputable def zgi_ (k : Nat) (D : za_) : za_ := mkC D [zJg_ k D, zse_ k D, zIe_ k D, zId_ k D]
noncomputable def zGb_ (_k : Nat) (D : za_) (m_0 : Option Addr) (h : AHeap) : Option ((Unit) × AHeap) :=
 zn_ (fun (m1 : Option Addr) (h2 : AHeap) =>
 (m1).bind fun p4 =>
 (ldI .i32 (⟨p4.block, p4.off + 0, none⟩ : Addr) h2).bind fun x5 =>
 (st1 (⟨p4.block, p4.off + 0, none⟩ : Addr) (.int .i32 (IntKind.wrap .i32 (x5 + (-1)))) h2).bind fun h6 =>
 zn_ (fun (h7 : AHeap) =>
 some ((), h7)) fun j8 =>
 (if ((IntKind.wrap .i32 (x5 + (-1))) != 0) = true then
 D ((Unit) × AHeap) 140 [.pointer m1, .int .i32 (IntKind.wrap .i32 (x5 + (-1)))] h6 fun _ h10 =>
 j8 h10
 else
 j8 h6)) fun j3 =>
 (m_0).bind fun p11 =>
 (ldI .i32 (⟨p11.block, p11.off + 0, none⟩ : Addr) h).bind fun _x12 =>
 (m_0).bind fun p13 =>
 (AHeap.rd1 h p13.block p13.off).bind fun _ =>
 j3 m_0 h
noncomputable def zFe_ : RCode := an (.s (.j [(0, .p)] .n) (.s .n (.s (.j [] .n) .n))) (rOf Tryz.prog 2 Tryz.f129)
noncomputable def zze_ (k : Nat) (D : za_) : Ent := zq_ 129 [(0, .p)] [] (zGb_ k D)
theorem zji_ : (Tryz.f129.body).bind (zd_ Tryz.prog 2 Tryz.f129.ntmps) = some (zf_ zFe_) := by kernel_rfl
theorem zdi_ (k : Nat) (D : za_) : curF [(0, .p)] (fun args h => denF (zgi_ k D) k zFe_ [] [] args h) = zGb_ k D := by kernel_rfl
theorem zte_ {D : za_} (hD : zl_ Tryz.prog 2 D) (k : Nat) : zo_ Tryz.prog 2 (zze_ k D) :=
 zj_ (zi_ hD (zc_.more (zIk_ hD k) (zc_.more (zqg_ hD k) (zc_.more (zSh_ hD k) (zc_.more (zPf_ hD k) (zc_.none)))))) Tryz.func129 rfl zji_ rfl (zdi_ k D)
end Gz
namespace Gz
open Go Gx Go.Proofs
set_option maxRecDepth 100000
noncomputable def zHo_ (k : Nat) (D : za_) : za_ := mkC D [zze_ k D]
noncomputable def zQc_ (k : Nat) (D : za_) (m_0 : Option Addr) (h : AHeap) : Option ((Unit) × AHeap) :=
 (m_0).bind fun p1 =>
 (zGb_ k D (some (⟨p1.block, p1.off + 0, none⟩ : Addr)) h).bind fun r2 =>
 some ((), r2.2)
noncomputable def zbi_ : RCode := an (.n) (rOf Tryz.prog 2 Tryz.f125)
noncomputable def zFd_ (k : Nat) (D : za_) : Ent := zq_ 125 [(0, .p)] [] (zQc_ k D)
theorem zTh_ : (Tryz.f125.body).bind (zd_ Tryz.prog 2 Tryz.f125.ntmps) = some (zf_ zbi_) := by kernel_rfl
theorem zWh_ (k : Nat) (D : za_) : curF [(0, .p)] (fun args h => denF (zHo_ k D) k zbi_ [] [] args h) = zQc_ k D := by kernel_rfl
theorem zrn_ {D : za_} (hD : zl_ Tryz.prog 2 D) (k : Nat) : zo_ Tryz.prog 2 (zFd_ k D) :=
 zj_ (zi_ hD (zc_.more (zte_ hD k) (zc_.none))) Tryz.func125 rfl zTh_ rfl (zWh_ k D)
theorem zAo_ {D : za_} (hD : zl_ Tryz.prog 2 D) (k : Nat) : EntD Tryz.prog 2 (zFd_ k D) :=
 zBv_ (zi_ hD (zc_.more (zte_ hD k) (zc_.none))) Tryz.func125 rfl zTh_ rfl (zWh_ k D)
end Gz
namespace Gz
open Go Gx Go.Proofs
set_option maxRecDepth 100000
noncomputable def zdr_ (_k : Nat) (D : za_) : za_ := mkC D []
noncomputable def zzf_ (_k : Nat) (_D : za_) (b_0 : Bool) (h : AHeap) : Option ((Int) × AHeap) :=
 (if b_0 = true then
 some (1, h)
 else
 some (0, h))
noncomputable def zwj_ : RCode := an (.n) (rOf Tryz.prog 2 Tryz.f131)
noncomputable def ztj_ (k : Nat) (D : za_) : Ent := zq_ 131 [(0, .b)] [(2, .i .u32)] (zzf_ k D)
theorem zZq_ : (Tryz.f131.body).bind (zd_ Tryz.prog 2 Tryz.f131.ntmps) = some (zf_ zwj_) := by kernel_rfl
theorem zTq_ (k : Nat) (D : za_) : curF [(0, .b)] (fun args h => denF (zdr_ k D) k zwj_ [(2, .i .u32)] [none] args h) = zzf_ k D := by kernel_rfl
theorem zUi_ {D : za_} (hD : zl_ Tryz.prog 2 D) (k : Nat) : zo_ Tryz.prog 2 (ztj_ k D) :=
 zj_ (zi_ hD (zc_.none)) Tryz.func131 rfl zZq_ rfl (zTq_ k D)
end Gz
namespace Gz
open Go Gx Go.Proofs
noncomputable def zBf_ (_k : Nat) (_D : za_) : Ent := zux_ 130 .u32
theorem zhf_ {D : za_} (_hD : zl_ Tryz.prog 2 D) (k : Nat) : zo_ Tryz.prog 2 (zBf_ k D) :=
 zxE_ Tryz.func130 rfl rfl rfl .u32 (by kernel_rfl)
end Gz
namespace Gz
open Go Gx Go.Proofs
set_option maxRecDepth 100000
noncomputable def zok_ (k : Nat) (D : za_) : za_ := mkC D [ztj_ k D, zBf_ k D]
noncomputable def zAb_ (k : Nat) (D : za_) (x_0 : Option Addr) (val_1 : Bool) (h : AHeap) : Option ((Unit) × AHeap) :=
 (zzf_ k D val_1 h).bind fun r1 =>
 (x_0).bind fun p2 =>
 (ldI .u32 (⟨p2.block, p2.off + 0, none⟩ : Addr) r1.2).bind fun _ =>
 (st1 (⟨p2.block, p2.off + 0, none⟩ : Addr) (.int .u32 r1.1) r1.2).bind fun h4 =>
 some ((), h4)
noncomputable def zXf_ : RCode := an (.n) (rOf Tryz.prog 2 Tryz.f126)
noncomputable def zSb_ (k : Nat) (D : za_) : Ent := zq_ 126 [(0, .p), (1, .b)] [] (zAb_ k D)
theorem zIf_ : (Tryz.f126.body).bind (zd_ Tryz.prog 2 Tryz.f126.ntmps) = some (zf_ zXf_) := by kernel_rfl
theorem zcg_ (k : Nat) (D : za_) : curF [(0, .p), (1, .b)] (fun args h => denF (zok_ k D) k zXf_ [] [] args h) = zAb_ k D := by kernel_rfl
theorem zHj_ {D : za_} (hD : zl_ Tryz.prog 2 D) (k : Nat) : zo_ Tryz.prog 2 (zSb_ k D) :=
 zj_ (zi_ hD (zc_.more (zUi_ hD k) (zc_.more (zhf_ hD k) (zc_.none)))) Tryz.func126 rfl zIf_ rfl (zcg_ k D)
theorem zpk_ {D : za_} (hD : zl_ Tryz.prog 2 D) (k : Nat) : EntD Tryz.prog 2 (zSb_ k D) :=
 zBv_ (zi_ hD (zc_.more (zUi_ hD k) (zc_.more (zhf_ hD k) (zc_.none)))) Tryz.func126 rfl zIf_ rfl (zcg_ k D)
end Gz
namespace Gz
open Go Gx Go.Proofs
set_option maxRecDepth 100000
noncomputable def zYf_ (k : Nat) (D : za_) : za_ := mkC D [zpj_ k D, zJd_ k D, zSb_ k D, zFd_ k D]
noncomputable def zYe_ (k : Nat) (D : za_) (a_0 : Option Addr) (a_1 : Value) (h : AHeap) : Option (Unit × AHeap) :=
 (a_0).bind fun p1 =>
 (zXd_ k D (some (⟨p1.block, p1.off + 1, none⟩ : Addr)) h).bind fun r2 =>
 (a_0).bind fun p3 =>
 (a_0).bind fun p4 =>
 (zgb_ k D (some (⟨p4.block, p4.off + 0, none⟩ : Addr)) r2.2).bind fun r5 =>
 (if (!r5.1) = true then
 (a_0).bind fun p6 =>
 zBw_ (zYf_ k D) a_1 [] r5.2 fun _ h8 =>
 (zAb_ k D (some (⟨p6.block, p6.off + 0, none⟩ : Addr)) true h8).bind fun r9 =>
 (zQc_ k D (some (⟨p3.block, p3.off + 1, none⟩ : Addr)) r9.2).bind fun r10 =>
 some ((), r10.2)
 else none)
def zLf_ : OnceC := ⟨118, [⟨some 4, .p (.mv (.tmp 0)), none, none⟩, ⟨some 5, .p (.nilP (.tmp 4)), none, none⟩, ⟨some 6, .p (.fieldAddr 1 (.tmp 5)), none, none⟩, ⟨some 7, .e (.call (.func 124) [.tmp 6]), none, none⟩], [⟨some 8, .p (.mv (.tmp 0)), none, none⟩, ⟨some 9, .p (.nilP (.tmp 8)), none, none⟩, ⟨some 10, .p (.fieldAddr 1 (.tmp 9)), none, none⟩], 125, [.tmp 10], [⟨some 11, .p (.mv (.tmp 0)), none, none⟩, ⟨some 12, .p (.nilP (.tmp 11)), none, none⟩, ⟨some 13, .p (.fieldAddr 0 (.tmp 12)), none, none⟩, ⟨some 14, .e (.call (.func 117) [.tmp 13]), none, none⟩, ⟨some 15, .p (.un .not (.tmp 14)), none, none⟩], 15, [⟨some 16, .p (.mv (.tmp 0)), none, none⟩, ⟨some 17, .p (.nilP (.tmp 16)), none, none⟩, ⟨some 18, .p (.fieldAddr 0 (.tmp 17)), none, none⟩], 126, [.tmp 18, .const (.bool true)], [⟨some 19, .p (.mv (.tmp 1)), none, none⟩, ⟨some 20, .e (.call (.tmp 19) []), none, none⟩]⟩
noncomputable def zIi_ (k : Nat) (D : za_) : Ent := zq_ 118 [(0, .p), (1, .v)] [] (zYe_ k D)
theorem znp_ : (Tryz.f118.body).bind (zQw_ Tryz.prog 2 Tryz.f118.ntmps zLf_.id) = some (zbq_ zLf_) := by kernel_rfl
theorem zhq_ (k : Nat) (D : za_) : curF [(0, .p), (1, .v)] (fun args h => (zoB_ (zYf_ k D) zLf_ (zFd_ k D) (zSb_ k D)).run (Unit × AHeap) args h fun v h => match v with | .tuple ⟨[]⟩ => some ((), h) | _ => none) = zYe_ k D := by kernel_rfl
theorem zxo_ {D : za_} (hD : zl_ Tryz.prog 2 D) (k : Nat) : zo_ Tryz.prog 2 (zIi_ k D) :=
 zRA_ (zsG_ (zi_ hD (zc_.more (zhp_ hD k) (zc_.more (zHf_ hD k) (zc_.more (zHj_ hD k) (zc_.more (zrn_ hD k) (zc_.none)))))) Tryz.func118 rfl rfl (zWz_ znp_) (zAo_ hD k) (zpk_ hD k) rfl rfl) (zhq_ k D)
end Gz
namespace Gz
open Go Gx Go.Proofs
set_option maxRecDepth 100000
noncomputable def zgu_ (k : Nat) (D : za_) : za_ := mkC D [zJd_ k D, zIi_ k D]
noncomputable def zEf_ (k : Nat) (D : za_) (o_0 : Option Addr) (f_1 : Value) (h : AHeap) : Option ((Unit) × AHeap) :=
 (o_0).bind fun p1 =>
 (zgb_ k D (some (⟨p1.block, p1.off + 0, none⟩ : Addr)) h).bind fun r2 =>
 (if (!r2.1) = true then
 (zYe_ k D o_0 f_1 r2.2).bind fun r3 =>
 some ((), r3.2)
 else
 some ((), r2.2))
noncomputable def zEm_ : RCode := an (.n) (rOf Tryz.prog 2 Tryz.f107)
noncomputable def zym_ (k : Nat) (D : za_) : Ent := zq_ 107 [(0, .p), (1, .v)] [] (zEf_ k D)
theorem zcu_ : (Tryz.f107.body).bind (zd_ Tryz.prog 2 Tryz.f107.ntmps) = some (zf_ zEm_) := by kernel_rfl
theorem zou_ (k : Nat) (D : za_) : curF [(0, .p), (1, .v)] (fun args h => denF (zgu_ k D) k zEm_ [] [] args h) = zEf_ k D := by kernel_rfl
theorem znt_ {D : za_} (hD : zl_ Tryz.prog 2 D) (k : Nat) : zo_ Tryz.prog 2 (zym_ k D) :=
 zj_ (zi_ hD (zc_.more (zHf_ hD k) (zc_.more (zxo_ hD k) (zc_.none)))) Tryz.func107 rfl zcu_ rfl (zou_ k D)
end Gz
namespace Gz
open Go Gx Go.Proofs
set_option maxRecDepth 100000
noncomputable def zKn_ (k : Nat) (D : za_) : za_ := mkC D [zym_ k D]
noncomputable def zW_ (k : Nat) (D : za_) (f_0 : Option Addr) (h : AHeap) : Option (((Option Addr)) × AHeap) :=
 (f_0).bind fun p1 =>
 (zEf_ k D (some (⟨p1.block, p1.off + 0, none⟩ : Addr)) (.func (.func 108) ⟨[.pointer f_0]⟩ ⟨[]⟩) h).bind fun r2 =>
 (f_0).bind fun p3 =>
 some ((some (⟨p3.block, p3.off + 3, none⟩ : Addr)), r2.2)
noncomputable def zFh_ : RCode := an (.n) (rOf Tryz.prog 2 Tryz.f76)
noncomputable def zWc_ (k : Nat) (D : za_) : Ent := zq_ 76 [(0, .p)] [(2, .p)] (zW_ k D)
theorem zhn_ : (Tryz.f76.body).bind (zd_ Tryz.prog 2 Tryz.f76.ntmps) = some (zf_ zFh_) := by kernel_rfl
theorem zzn_ (k : Nat) (D : za_) : curF [(0, .p)] (fun args h => denF (zKn_ k D) k zFh_ [(2, .p)] [none] args h) = zW_ k D := by kernel_rfl
theorem zNe_ {D : za_} (hD : zl_ Tryz.prog 2 D) (k : Nat) : zo_ Tryz.prog 2 (zWc_ k D) :=
 zj_ (zi_ hD (zc_.more (znt_ hD k) (zc_.none))) Tryz.func76 rfl zhn_ rfl (zzn_ k D)
end Gz
namespace Gz
open Go Gx Go.Proofs
set_option maxRecDepth 100000
noncomputable def zMq_ (k : Nat) (D : za_) : za_ := mkC D [zPj_ k D, zWc_ k D]
noncomputable def zDc_ (k : Nat) (D : za_) (f_0 : Option Addr) (a_1 : Int) (b_2 : Int) (h : AHeap) : Option ((Int × Int) × AHeap) :=
 let h1 := AHeap.new h (.cells [.int .i64 a_1, .int .i64 b_2] 3 true 0)
 (zmc_ k D (⟨(some ⟨h.next, 0, some 0⟩), 2, 2⟩ : Slc) h1).bind fun r2 =>
 (if (!r2.1) = true then
 some ((0, 1), r2.2)
 else
 (if (b_2 == 0) = true then
 some ((0, 30), r2.2)
 else
 (if (a_1 == 0) = true then
 some ((0, 0), r2.2)
 else
 (zW_ k D f_0 r2.2).bind fun r3 =>
 (r3.1).bind fun p4 =>
 (Gx.idxA 256 1 (⟨p4.block, p4.off + 510, none⟩ : Addr) a_1).bind fun q5 =>
 (ldI .i64 q5 r3.2).bind fun x6 =>
 (r3.1).bind fun p7 =>
 (Gx.idxA 256 1 (⟨p7.block, p7.off + 510, none⟩ : Addr) b_2).bind fun q8 =>
 (ldI .i64 q8 r3.2).bind fun x9 =>
 (r3.1).bind fun p10 =>
 (Gx.idxA 510 1 (⟨p10.block, p10.off + 0, none⟩ : Addr) (IntKind.wrap .i64 ((IntKind.wrap .i64 (x6 + 255)) - x9))).bind fun q11 =>
 (ldI .u8 q11 r3.2).bind fun x12 =>
 some (((IntKind.wrap .i64 x12), 0), r3.2))))
noncomputable def zuj_ : RCode := an (.n) (rOf Tryz.prog 2 Tryz.f68)
noncomputable def zsg_ (k : Nat) (D : za_) : Ent := zq_ 68 [(0, .p), (1, .i .i64), (2, .i .i64)] [(6, .i .i64), (7, .i .i64)] (zDc_ k D)
theorem zRq_ : (Tryz.f68.body).bind (zd_ Tryz.prog 2 Tryz.f68.ntmps) = some (zf_ zuj_) := by kernel_rfl
theorem zer_ (k : Nat) (D : za_) : curF [(0, .p), (1, .i .i64), (2, .i .i64)] (fun args h => denF (zMq_ k D) k zuj_ [(6, .i .i64), (7, .i .i64)] [none, none] args h) = zDc_ k D := by kernel_rfl
theorem zAi_ {D : za_} (hD : zl_ Tryz.prog 2 D) (k : Nat) : zo_ Tryz.prog 2 (zsg_ k D) :=
 zj_ (zi_ hD (zc_.more (zrl_ hD k) (zc_.more (zNe_ hD k) (zc_.none)))) Tryz.func68 rfl zRq_ rfl (zer_ k D)
end Gz
namespace Gz
open Go Gx Go.Proofs
set_option maxRecDepth 100000
noncomputable def zZl_ (k : Nat) (D : za_) : za_ := mkC D [zpi_ k D, zhd_ k D, zsg_ k D]
noncomputable def zT_ (k : Nat) (D : za_) (j44 : (Option Addr) → Int → (Option Addr) → (Option Addr) → Int → Int → AHeap → Option (((Int × Int × Slc) × Int) × AHeap)) (rec55 : (Option Addr) → Int → (Option Addr) → (Option Addr) → Int → Int → Int → Int → Int → AHeap → Option (((Int × Int × Slc) × Int) × AHeap)) (s45 : Option Addr) (kv46 : Int) (y47 : Option Addr) (out48 : Option Addr) (i49 : Int) (y50 : Int) (y51 : Int) (y52 : Int) (y53 : Int) (h54 : AHeap) : Option (((Int × Int × Slc) × Int) × AHeap) :=
 (if (decide (y53 < y52)) = true then
 zn_ (fun (s56 : Option Addr) (kv57 : Int) (y58 : Option Addr) (out59 : Option Addr) (i60 : Int) (y61 : Int) (y62 : Int) (y63 : Int) (y64 : Int) (h65 : AHeap) =>
 rec55 s56 kv57 y58 out59 i60 y61 y62 y63 (IntKind.wrap .i64 (y64 + 1)) h65) fun j66 =>
 zn_ (fun (s67 : Option Addr) (kv68 : Int) (y69 : Option Addr) (out70 : Option Addr) (i71 : Int) (j72 : Int) (y73 : Int) (y74 : Int) (y75 : Int) (y76 : Int) (y77 : Bool) (h78 : AHeap) =>
 (if y77 = true then
 (out70).bind fun p80 =>
 (ldA 3 p80 h78).bind fun l81 =>
 (decC [.i .i64, .i .i64, .l] l81).bind fun x82 =>
 (zD_ k D (x82.1, x82.2.1, x82.2.2) i71 h78).bind fun r83 =>
 (Gx.idxL 1 r83.1 j72).bind fun q84 =>
 (st1 q84 (.int .i64 1) r83.2).bind fun h85 =>
 j66 s67 kv68 y69 out70 i71 y73 y74 y75 y76 h85
 else
 (if (decide (i71 ≥ kv68)) = true then
 (out70).bind fun p86 =>
 (ldA 3 p86 h78).bind fun l87 =>
 (decC [.i .i64, .i .i64, .l] l87).bind fun x88 =>
 (zD_ k D (x88.1, x88.2.1, x88.2.2) i71 h78).bind fun r89 =>
 (s67).bind fun p90 =>
 (ldP (⟨p90.block, p90.off + 0, none⟩ : Addr) r89.2).bind fun x91 =>
 zz_ (zC_ [h78] (fun H93 => (ldP (⟨p90.block, p90.off + 0, none⟩ : Addr) H93).bind fun y92 => some (.pointer y92)) (.pointer x91)) (
 (zDc_ k D x91 1 (Go.bits .xor .i64 i71 j72) r89.2).bind fun r94 =>
 (Gx.idxL 1 r89.1 j72).bind fun q95 =>
 (st1 q95 (.int .i64 r94.1.1) r94.2).bind fun h96 =>
 j66 s67 kv68 y69 out70 i71 y73 y74 y75 y76 h96)
 else
 j66 s67 kv68 y69 out70 i71 y73 y74 y75 y76 h78))) fun j79 =>
 (if (decide (i49 < kv46)) = true then
 j79 s45 kv46 y47 out48 i49 y53 y50 y51 y52 y53 (i49 == y53) h54
 else
 j79 s45 kv46 y47 out48 i49 y53 y50 y51 y52 y53 false h54)
 else
 j44 s45 kv46 y47 out48 y50 y51 h54)
noncomputable def zxg_ (k : Nat) (D : za_) (j44 : (Option Addr) → Int → (Option Addr) → (Option Addr) → Int → Int → AHeap → Option (((Int × Int × Slc) × Int) × AHeap)) : (Option Addr) → Int → (Option Addr) → (Option Addr) → Int → Int → Int → Int → Int → AHeap → Option (((Int × Int × Slc) × Int) × AHeap) :=
 zh_ (α := (Option Addr) → Int → (Option Addr) → (Option Addr) → Int → Int → Int → Int → Int → AHeap → Option (((Int × Int × Slc) × Int) × AHeap)) (fun _ _ _ _ _ _ _ _ _ _ => none) k (zT_ k D j44)
noncomputable def zsb_ (k : Nat) (D : za_) (j20 : (Option Addr) → (Option Addr) → AHeap → Option (((Int × Int × Slc) × Int) × AHeap)) (rec36 : (Option Addr) → Int → (Option Addr) → (Option Addr) → Int → Int → AHeap → Option (((Int × Int × Slc) × Int) × AHeap)) (s29 : Option Addr) (kv30 : Int) (y31 : Option Addr) (zib_ : Option Addr) (y33 : Int) (y34 : Int) (h35 : AHeap) : Option (((Int × Int × Slc) × Int) × AHeap) :=
 (if (decide (y34 < y33)) = true then
 zn_ (fun (s37 : Option Addr) (kv38 : Int) (y39 : Option Addr) (out40 : Option Addr) (y41 : Int) (y42 : Int) (h43 : AHeap) =>
 rec36 s37 kv38 y39 out40 y41 (IntKind.wrap .i64 (y42 + 1)) h43) fun j44 =>
 zxg_ k D j44 s29 kv30 y31 zib_ y34 y33 y34 kv30 0 h35
 else
 j20 y31 zib_ h35)
noncomputable def zyg_ (k : Nat) (D : za_) (j20 : (Option Addr) → (Option Addr) → AHeap → Option (((Int × Int × Slc) × Int) × AHeap)) : (Option Addr) → Int → (Option Addr) → (Option Addr) → Int → Int → AHeap → Option (((Int × Int × Slc) × Int) × AHeap) :=
 zh_ (α := (Option Addr) → Int → (Option Addr) → (Option Addr) → Int → Int → AHeap → Option (((Int × Int × Slc) × Int) × AHeap)) (fun _ _ _ _ _ _ _ => none) k (zsb_ k D j20)
noncomputable def zec_ (k : Nat) (D : za_) (s_0 : Option Addr) (k_1 : Int) (m_2 : Int) (h : AHeap) : Option (((Int × Int × Slc) × Int) × AHeap) :=
 let h1 := AHeap.new h (.cells [.int .i64 0, .int .i64 0, .slice none 0 0] 84 true 0)
 zn_ (fun (s2 : Option Addr) (kv3 : Int) (m4 : Int) (y5 : Option Addr) (y6 : Bool) (h7 : AHeap) =>
 (if y6 = true then
 (y5).bind fun p9 =>
 (stL 3 p9 ([.int .i64 0, .int .i64 0, .slice none 0 0]) h7).bind fun h10 =>
 (y5).bind fun p11 =>
 (ldA 3 p11 h10).bind fun l12 =>
 (decC [.i .i64, .i .i64, .l] l12).bind fun x13 =>
 some (((x13.1, x13.2.1, x13.2.2), 1), h10)
 else
 (zAe_ k D (IntKind.wrap .i64 (kv3 + m4)) kv3 h7).bind fun r14 =>
 let h15 := AHeap.new r14.2 (.cells [.int .i64 0, .int .i64 0, .slice none 0 0] 84 true 0)
 (stL 3 (⟨r14.2.next, 0, none⟩ : Addr) ([.int .i64 r14.1.1, .int .i64 r14.1.2.1, .slice r14.1.2.2.a r14.1.2.2.len r14.1.2.2.cap]) h15).bind fun h16 =>
 zn_ (fun (y17 : Option Addr) (out18 : Option Addr) (h19 : AHeap) =>
 (out18).bind fun p21 =>
 (ldA 3 p21 h19).bind fun l22 =>
 (decC [.i .i64, .i .i64, .l] l22).bind fun x23 =>
 (y17).bind fun p24 =>
 (stL 3 p24 ([.int .i64 x23.1, .int .i64 x23.2.1, .slice x23.2.2.a x23.2.2.len x23.2.2.cap]) h19).bind fun h25 =>
 (y17).bind fun p26 =>
 (ldA 3 p26 h25).bind fun l27 =>
 (decC [.i .i64, .i .i64, .l] l27).bind fun x28 =>
 some (((x28.1, x28.2.1, x28.2.2), 0), h25)) fun j20 =>
 zyg_ k D j20 s2 kv3 y5 (some (⟨r14.2.next, 0, none⟩ : Addr)) (IntKind.wrap .i64 (kv3 + m4)) 0 h16)) fun j8 =>
 (if (decide (k_1 < 1)) = true then
 j8 s_0 k_1 m_2 (some (⟨h.next, 0, none⟩ : Addr)) true h1
 else
 (if (decide (m_2 < 0)) = true then
 j8 s_0 k_1 m_2 (some (⟨h.next, 0, none⟩ : Addr)) true h1
 else
 (if (decide (k_1 > 255)) = true then
 j8 s_0 k_1 m_2 (some (⟨h.next, 0, none⟩ : Addr)) true h1
 else
 j8 s_0 k_1 m_2 (some (⟨h.next, 0, none⟩ : Addr)) (decide (m_2 > (IntKind.wrap .i64 (255 - k_1)))) h1)))
noncomputable def zbh_ : RCode := an (.s .n (.s (.s (.j [(0, .p), (1, .i .i64), (2, .i .i64), (6, .p), (26, .b)] .n) .n) (.s .n (.s (.j [(6, .p), (8, .p)] (.s .n (.b (.l [(0, .p), (1, .i .i64), (6, .p), (8, .p), (35, .i .i64), (36, .i .i64)] (.s .n (.s .n (.s (.j [(0, .p), (1, .i .i64), (6, .p), (8, .p), (35, .i .i64), (36, .i .i64)] (.b (.s .n (.s .n (.b (.l [(0, .p), (1, .i .i64), (6, .p), (8, .p), (9, .i .i64), (35, .i .i64), (36, .i .i64), (39, .i .i64), (40, .i .i64)] (.s .n (.s .n (.s (.j [(0, .p), (1, .i .i64), (6, .p), (8, .p), (9, .i .i64), (35, .i .i64), (36, .i .i64), (39, .i .i64), (40, .i .i64)] (.b (.s .n (.b (.s (.j [(0, .p), (1, .i .i64), (6, .p), (8, .p), (9, .i .i64), (10, .i .i64), (35, .i .i64), (36, .i .i64), (39, .i .i64), (40, .i .i64), (43, .b)] .n) (.s (.r [(0, .st [.i .i64, .i .i64, .l])]) (.s .n (.s (.r [(0, .st [.i .i64, .i .i64, .l])]) .n)))))))) .n))))))))) .n))))))) (.s (.r [(0, .st [.i .i64, .i .i64, .l])]) .n))))) (rOf Tryz.prog 2 Tryz.f40)
noncomputable def zfh_ (k : Nat) (D : za_) : Ent := zq_ 40 [(0, .p), (1, .i .i64), (2, .i .i64)] [(6, .st [.i .i64, .i .i64, .l]), (7, .i .i64)] (zec_ k D)
theorem zKl_ : (Tryz.f40.body).bind (zd_ Tryz.prog 2 Tryz.f40.ntmps) = some (zf_ zbh_) := by kernel_rfl
theorem zRl_ (k : Nat) (D : za_) : curF [(0, .p), (1, .i .i64), (2, .i .i64)] (fun args h => denF (zZl_ k D) k zbh_ [(6, .st [.i .i64, .i .i64, .l]), (7, .i .i64)] [some (.agg 3), none] args h) = zec_ k D := by kernel_rfl
theorem zxl_ {D : za_} (hD : zl_ Tryz.prog 2 D) (k : Nat) : zo_ Tryz.prog 2 (zfh_ k D) :=
 zj_ (zi_ hD (zc_.more (zql_ hD k) (zc_.more (zOd_ hD k) (zc_.more (zAi_ hD k) (zc_.none))))) Tryz.func40 rfl zKl_ rfl (zRl_ k D)
end Gz
namespace Gz
open Go Gx Go.Proofs
set_option maxRecDepth 100000
noncomputable def zRy_ (k : Nat) (D : za_) : za_ := mkC D [zjq_ k D, zfh_ k D, zGl_ k D]
noncomputable def zKh_ (k : Nat) (D : za_) (k_0 : Int) (m_1 : Int) (h : AHeap) : Option (((Option Addr) × Int) × AHeap) :=
 (zqh_ k D h).bind fun r1 =>
 (zec_ k D r1.1 k_0 m_1 r1.2).bind fun r2 =>
 let h3 := AHeap.new r2.2 (.cells [.int .i64 0, .int .i64 0, .slice none 0 0] 84 true 0)
 (stL 3 (⟨r2.2.next, 0, none⟩ : Addr) ([.int .i64 r2.1.1.1, .int .i64 r2.1.1.2.1, .slice r2.1.1.2.2.a r2.1.1.2.2.len r2.1.1.2.2.cap]) h3).bind fun h4 =>
 (if (r2.1.2 != 0) = true then
 some ((none, r2.1.2), h4)
 else
 (zEi_ k D h4).bind fun r5 =>
 (ldA 3 (⟨r2.2.next, 0, none⟩ : Addr) r5.2).bind fun l6 =>
 zz_ (zC_ [h4] (fun H8 => (ldA 3 (⟨r2.2.next, 0, none⟩ : Addr) H8).bind fun y7 => some (.agg ⟨y7⟩)) (.agg ⟨l6⟩)) (
 (decC [.i .i64, .i .i64, .l] l6).bind fun x9 =>
 let h10 := AHeap.new r5.2 (.cells [.int .i64 k_0, .int .i64 m_1, .pointer r5.1, .pointer r1.1, .int .i64 x9.1, .int .i64 x9.2.1, .slice x9.2.2.a x9.2.2.len x9.2.2.cap] 90 true 0)
 some (((some (⟨r5.2.next, 0, none⟩ : Addr)), 0), h10)))
noncomputable def zkq_ : RCode := an (.s .n (.s .n (.s .n (.s .n (.s (.r [(4, .st [.i .i64, .i .i64, .l])]) .n))))) (rOf Tryz.prog 2 Tryz.f20)
noncomputable def zrp_ (k : Nat) (D : za_) : Ent := zq_ 20 [(0, .i .i64), (1, .i .i64)] [(4, .p), (5, .i .i64)] (zKh_ k D)
theorem zJw_ : (Tryz.f20.body).bind (zd_ Tryz.prog 2 Tryz.f20.ntmps) = some (zf_ zkq_) := by kernel_rfl
theorem zry_ (k : Nat) (D : za_) : curF [(0, .i .i64), (1, .i .i64)] (fun args h => denF (zRy_ k D) k zkq_ [(4, .p), (5, .i .i64)] [none, none] args h) = zKh_ k D := by kernel_rfl
theorem zaw_ {D : za_} (hD : zl_ Tryz.prog 2 D) (k : Nat) : zo_ Tryz.prog 2 (zrp_ k D) :=
 zj_ (zi_ hD (zc_.more (zlw_ hD k) (zc_.more (zxl_ hD k) (zc_.more (zlq_ hD k) (zc_.none))))) Tryz.func20 rfl zJw_ rfl (zry_ k D)
end Gz
namespace Gz
open Go Gx Go.Proofs
set_option maxRecDepth 100000
noncomputable def zHp_ (_k : Nat) (D : za_) : za_ := mkC D []
noncomputable def zjd_ (_k : Nat) (_D : za_) (p_0 : Option Addr) (long_1 : Int) (h : AHeap) : Option ((Int × Int) × AHeap) :=
 zn_ (fun (p1 : Option Addr) (long2 : Int) (y3 : Bool) (h4 : AHeap) =>
 (if y3 = true then
 some ((0, 1), h4)
 else
 (p1).bind fun p6 =>
 (ldI .i64 (⟨p6.block, p6.off + 0, none⟩ : Addr) h4).bind fun x7 =>
 (p1).bind fun p8 =>
 (ldI .i64 (⟨p8.block, p8.off + 0, none⟩ : Addr) h4).bind fun x9 =>
 (if x9 = 0 then none else
 let t10 : Int := (IntKind.wrap .i64 (Int.tdiv (IntKind.wrap .i64 ((IntKind.wrap .i64 (long2 + x7)) - 1)) x9))
 some ((t10, 0), h4)))) fun j5 =>
 (if (decide (long_1 < 0)) = true then
 j5 p_0 long_1 true h
 else
 j5 p_0 long_1 (decide (long_1 > 65536)) h)
noncomputable def zSi_ : RCode := an (.s .n (.s (.s (.j [(0, .p), (1, .i .i64), (11, .b)] .n) .n) .n)) (rOf Tryz.prog 2 Tryz.f42)
noncomputable def zbj_ (k : Nat) (D : za_) : Ent := zq_ 42 [(0, .p), (1, .i .i64)] [(4, .i .i64), (5, .i .i64)] (zjd_ k D)
theorem zXo_ : (Tryz.f42.body).bind (zd_ Tryz.prog 2 Tryz.f42.ntmps) = some (zf_ zSi_) := by kernel_rfl
theorem zCp_ (k : Nat) (D : za_) : curF [(0, .p), (1, .i .i64)] (fun args h => denF (zHp_ k D) k zSi_ [(4, .i .i64), (5, .i .i64)] [none, none] args h) = zjd_ k D := by kernel_rfl
theorem zwo_ {D : za_} (hD : zl_ Tryz.prog 2 D) (k : Nat) : zo_ Tryz.prog 2 (zbj_ k D) :=
 zj_ (zi_ hD (zc_.none)) Tryz.func42 rfl zXo_ rfl (zCp_ k D)
end Gz
namespace Gz
open Go Gx Go.Proofs
set_option maxRecDepth 100000
end Gz
namespace Gz
open Go Gx Go.Proofs
set_option maxRecDepth 100000
end Gz
namespace Gz
open Go Gx Go.Proofs
set_option maxRecDepth 100000
end Gz
namespace Gz
open Go Gx Go.Proofs
set_option maxRecDepth 100000
end Gz
namespace Gz
open Go Gx Go.Proofs
set_option maxRecDepth 100000
end Gz
namespace Gz
open Go Gx Go.Proofs
set_option maxRecDepth 100000
end Gz
namespace Gz
open Go Gx Go.Proofs
set_option maxRecDepth 100000
end Gz
namespace Gz
open Go Gx Go.Proofs
set_option maxRecDepth 100000
end Gz
namespace Gz
open Go Gx Go.Proofs
set_option maxRecDepth 100000
end Gz
namespace Gz
open Go Gx Go.Proofs
set_option maxRecDepth 100000
end Gz
namespace Go.Proofs
open Go.Shelf
def Tryz.lays156_ren : Go.Shelf.Ren := ⟨fun | 156 => 54 | 165 => 71 | 166 => 72 | 169 => 74 | 240 => 105 | 241 => 106 | 276 => 115 | 277 => 116 | n => n, fun | 31 => 23 | 9 => 9 | 3 => 3 | 4 => 4 | 0 => 0 | 20 => 20 | 72 => 149 | 76 => 153 | 70 => 147 | 37 => 78 | 75 => 152 | 127 => 178 | 164 => 184 | 5 => 5 | 80 => 76 | n => n, fun | n => n⟩
theorem Tryz.lays156 : Go.Proofs.Lays.n156 Tryz.prog Tryz.lays156_ren := {
 mixed := by kernel_rfl
 f156 := Tryz.func54.trans (congrArg some (by kernel_rfl))
 f165 := Tryz.func71.trans (congrArg some (by kernel_rfl))
 f166 := Tryz.func72.trans (congrArg some (by kernel_rfl))
 f169 := Tryz.func74.trans (congrArg some (by kernel_rfl))
 f240 := Tryz.func105.trans (congrArg some (by kernel_rfl))
 f241 := Tryz.func106.trans (congrArg some (by kernel_rfl))
 f276 := Tryz.func115.trans (congrArg some (by kernel_rfl))
 f277 := Tryz.func116.trans (congrArg some (by kernel_rfl))
 t0 := Tryz.underlying0
 a0 := Tryz.isAgg0
 z0 := Tryz.sizeOf0
 v0 := Tryz.zeroValue0
 t3 := Tryz.underlying3
 a3 := Tryz.isAgg3
 z3 := Tryz.sizeOf3
 v3 := Tryz.zeroValue3
 t4 := Tryz.underlying4
 a4 := Tryz.isAgg4
 z4 := Tryz.sizeOf4
 v4 := Tryz.zeroValue4
 t9 := Tryz.underlying9
 a9 := Tryz.isAgg9
 z9 := Tryz.sizeOf9
 v9 := Tryz.zeroValue9
 t20 := Tryz.underlying20
 a20 := Tryz.isAgg20
 z20 := Tryz.sizeOf20
 v20 := Tryz.zeroValue20
 t31 := Tryz.underlying23
 a31 := Tryz.isAgg23
 z31 := Tryz.sizeOf23
 v31 := Tryz.zeroValue23
 t37 := Tryz.underlying78
 a37 := Tryz.isAgg78
 z37 := Tryz.sizeOf78
 v37 := Tryz.zeroValue78
 t70 := Tryz.underlying147
 a70 := Tryz.isAgg147
 z70 := Tryz.sizeOf147
 v70 := Tryz.zeroValue147
 t72 := Tryz.underlying149
 a72 := Tryz.isAgg149
 z72 := Tryz.sizeOf149
 v72 := Tryz.zeroValue149
 t75 := Tryz.underlying152
 a75 := Tryz.isAgg152
 z75 := Tryz.sizeOf152
 v75 := Tryz.zeroValue152
 t76 := Tryz.underlying153
 a76 := Tryz.isAgg153
 z76 := Tryz.sizeOf153
 v76 := Tryz.zeroValue153
 t127 := Tryz.underlying178
 a127 := Tryz.isAgg178
 z127 := Tryz.sizeOf178
 v127 := Tryz.zeroValue178
 t164 := Tryz.underlying184
 a164 := Tryz.isAgg184
 z164 := Tryz.sizeOf184
 v164 := Tryz.zeroValue184 }
theorem Tryz.Builder_Extra_156 : Builder.Extra Tryz.prog Tryz.lays156_ren := {
 sizeBuilder := by kernel_rfl
 liesBuilder := by kernel_rfl
 t5 := Tryz.underlying5
 a5 := Tryz.isAgg5
 z5 := Tryz.sizeOf5
 v5 := Tryz.zeroValue5
 infoByte := by kernel_rfl
 cellsByte := by kernel_rfl
 sizeByte := by kernel_rfl
 neB5 := by decide }
end Go.Proofs
namespace Gz
open Go Gx Go.Proofs Go.Shelf
end Gz
namespace Gz
open Go Gx Go.Proofs
set_option maxRecDepth 100000
noncomputable def zfr_ (_k : Nat) (D : za_) : za_ := mkC D []
noncomputable def zZd_ (_k : Nat) (_D : za_) (p_0 : Option Addr) (a_1 : Int × Int × Slc) (i_2 : Int) (h : AHeap) : Option ((Slc) × AHeap) :=
 let h1 := AHeap.new h (.cells [.int .i64 a_1.1, .int .i64 a_1.2.1, .slice a_1.2.2.a a_1.2.2.len a_1.2.2.cap] 84 true 0)
 (ldL (⟨h.next, 2, none⟩ : Addr) h1).bind fun x2 =>
 (p_0).bind fun p3 =>
 (ldI .i64 (⟨p3.block, p3.off + 0, none⟩ : Addr) h1).bind fun x4 =>
 (p_0).bind fun p5 =>
 (ldI .i64 (⟨p5.block, p5.off + 0, none⟩ : Addr) h1).bind fun x6 =>
 (Gx.subL 1 x2 (some (IntKind.wrap .i64 (i_2 * x4))) (some (IntKind.wrap .i64 ((IntKind.wrap .i64 (i_2 + 1)) * x6))) none).bind fun l7 =>
 some (l7, h1)
noncomputable def zqj_ : RCode := an (.n) (rOf Tryz.prog 2 Tryz.f45)
noncomputable def zFj_ (k : Nat) (D : za_) : Ent := zq_ 45 [(0, .p), (1, .st [.i .i64, .i .i64, .l]), (2, .i .i64)] [(6, .l)] (zZd_ k D)
theorem zXq_ : (Tryz.f45.body).bind (zd_ Tryz.prog 2 Tryz.f45.ntmps) = some (zf_ zqj_) := by kernel_rfl
theorem zNq_ (k : Nat) (D : za_) : curF [(0, .p), (1, .st [.i .i64, .i .i64, .l]), (2, .i .i64)] (fun args h => denF (zfr_ k D) k zqj_ [(6, .l)] [none] args h) = zZd_ k D := by kernel_rfl
theorem zxp_ {D : za_} (hD : zl_ Tryz.prog 2 D) (k : Nat) : zo_ Tryz.prog 2 (zFj_ k D) :=
 zj_ (zi_ hD (zc_.none)) Tryz.func45 rfl zXq_ rfl (zNq_ k D)
end Gz
namespace Gz
open Go Gx Go.Proofs
set_option maxRecDepth 100000
noncomputable def zYm_ (_k : Nat) (D : za_) : za_ := mkC D []
noncomputable def zMb_ (_k : Nat) (_D : za_) (t_0 : Option Addr) (a_1 : Int) (b_2 : Int) (h : AHeap) : Option ((Int) × AHeap) :=
 zn_ (fun (t1 : Option Addr) (a2 : Int) (b3 : Int) (y4 : Bool) (h5 : AHeap) =>
 (if y4 = true then
 some (0, h5)
 else
 (t1).bind fun p7 =>
 (Gx.idxA 256 1 (⟨p7.block, p7.off + 510, none⟩ : Addr) a2).bind fun q8 =>
 (ldI .i64 q8 h5).bind fun x9 =>
 (t1).bind fun p10 =>
 (Gx.idxA 256 1 (⟨p10.block, p10.off + 510, none⟩ : Addr) b3).bind fun q11 =>
 (ldI .i64 q11 h5).bind fun x12 =>
 (t1).bind fun p13 =>
 (Gx.idxA 510 1 (⟨p13.block, p13.off + 0, none⟩ : Addr) (IntKind.wrap .i64 (x9 + x12))).bind fun q14 =>
 (ldI .u8 q14 h5).bind fun x15 =>
 some ((IntKind.wrap .i64 x15), h5))) fun j6 =>
 (if (a_1 == 0) = true then
 j6 t_0 a_1 b_2 true h
 else
 j6 t_0 a_1 b_2 (b_2 == 0) h)
noncomputable def zwh_ : RCode := an (.s .n (.s (.s (.j [(0, .p), (1, .i .i64), (2, .i .i64), (12, .b)] .n) .n) .n)) (rOf Tryz.prog 2 Tryz.f77)
noncomputable def zTe_ (k : Nat) (D : za_) : Ent := zq_ 77 [(0, .p), (1, .i .i64), (2, .i .i64)] [(6, .i .i64)] (zMb_ k D)
theorem zWm_ : (Tryz.f77.body).bind (zd_ Tryz.prog 2 Tryz.f77.ntmps) = some (zf_ zwh_) := by kernel_rfl
theorem zNn_ (k : Nat) (D : za_) : curF [(0, .p), (1, .i .i64), (2, .i .i64)] (fun args h => denF (zYm_ k D) k zwh_ [(6, .i .i64)] [none] args h) = zMb_ k D := by kernel_rfl
theorem zhh_ {D : za_} (hD : zl_ Tryz.prog 2 D) (k : Nat) : zo_ Tryz.prog 2 (zTe_ k D) :=
 zj_ (zi_ hD (zc_.none)) Tryz.func77 rfl zWm_ rfl (zNn_ k D)
end Gz
namespace Gz
open Go Gx Go.Proofs
set_option maxRecDepth 100000
noncomputable def zIq_ (k : Nat) (D : za_) : za_ := mkC D [zPj_ k D, zWc_ k D, zTe_ k D]
noncomputable def zfc_ (_k : Nat) (_D : za_) (j6 : (Option Addr) → Slc → Slc → Int → AHeap → Option ((ByteArray × Int) × AHeap)) (rec69 : (Option Addr) → Slc → Slc → Int → Slc → Int → Int → AHeap → Option ((ByteArray × Int) × AHeap)) (f61 : Option Addr) (l62 : Slc) (c63 : Slc) (long64 : Int) (y65 : Slc) (y66 : Int) (y67 : Int) (h68 : AHeap) : Option ((ByteArray × Int) × AHeap) :=
 (if (decide (y67 < y66)) = true then
 zn_ (fun (f70 : Option Addr) (l71 : Slc) (c72 : Slc) (long73 : Int) (y74 : Slc) (y75 : Int) (y76 : Int) (h77 : AHeap) =>
 rec69 f70 l71 c72 long73 y74 y75 (IntKind.wrap .i64 (y76 + 1)) h77) fun j78 =>
 (Gx.idxL 1 y65 y67).bind fun q79 =>
 (ldS q79 h68).bind fun x80 =>
 (if (y67 == 0) = true then
 j78 f61 l62 c63 (x80.size : Int) y65 y66 y67 h68
 else
 (if ((x80.size : Int) != long64) = true then
 j6 f61 l62 c63 (-1) h68
 else
 j78 f61 l62 c63 long64 y65 y66 y67 h68))
 else
 j6 f61 l62 c63 long64 h68)
noncomputable def zag_ (k : Nat) (D : za_) (j6 : (Option Addr) → Slc → Slc → Int → AHeap → Option ((ByteArray × Int) × AHeap)) : (Option Addr) → Slc → Slc → Int → Slc → Int → Int → AHeap → Option ((ByteArray × Int) × AHeap) :=
 zh_ (α := (Option Addr) → Slc → Slc → Int → Slc → Int → Int → AHeap → Option ((ByteArray × Int) × AHeap)) (fun _ _ _ _ _ _ _ _ => none) k (zfc_ k D j6)
noncomputable def zjc_ (k : Nat) (D : za_) (j36 : Slc → Slc → (Option Addr) → Slc → Int → Int → AHeap → Option ((ByteArray × Int) × AHeap)) (rec50 : Slc → Slc → (Option Addr) → Int → ByteArray → Slc → Int → Int → Int → Int → AHeap → Option ((ByteArray × Int) × AHeap)) (c39 : Slc) (out40 : Slc) (t41 : Option Addr) (i42 : Int) (s43 : ByteArray) (y44 : Slc) (y45 : Int) (y46 : Int) (y47 : Int) (y48 : Int) (h49 : AHeap) : Option ((ByteArray × Int) × AHeap) :=
 (if (decide (y48 < y47)) = true then
 (Gx.idxS s43 y48).bind fun b51 =>
 (Gx.idxL 1 c39 i42).bind fun q52 =>
 (ldI .i64 q52 h49).bind fun x53 =>
 (zMb_ k D t41 (IntKind.wrap .i64 b51) x53 h49).bind fun r54 =>
 (Gx.idxL 1 out40 y48).bind fun q55 =>
 (ldI .u8 q55 r54.2).bind fun x56 =>
 zz_ (zC_ [h49] (fun H58 => (ldI .u8 q55 H58).bind fun y57 => some (.int .u8 y57)) (.int .u8 x56)) (
 (Gx.idxL 1 out40 y48).bind fun q59 =>
 (st1 q59 (.int .u8 (Go.bits .xor .u8 x56 (IntKind.wrap .u8 r54.1))) r54.2).bind fun h60 =>
 rec50 c39 out40 t41 i42 s43 y44 y45 y46 y47 (IntKind.wrap .i64 (y48 + 1)) h60)
 else
 j36 c39 out40 t41 y44 y45 y46 h49)
noncomputable def zKf_ (k : Nat) (D : za_) (j36 : Slc → Slc → (Option Addr) → Slc → Int → Int → AHeap → Option ((ByteArray × Int) × AHeap)) : Slc → Slc → (Option Addr) → Int → ByteArray → Slc → Int → Int → Int → Int → AHeap → Option ((ByteArray × Int) × AHeap) :=
 zh_ (α := Slc → Slc → (Option Addr) → Int → ByteArray → Slc → Int → Int → Int → Int → AHeap → Option ((ByteArray × Int) × AHeap)) (fun _ _ _ _ _ _ _ _ _ _ _ => none) k (zjc_ k D j36)
noncomputable def zhc_ (k : Nat) (D : za_) (j19 : Slc → AHeap → Option ((ByteArray × Int) × AHeap)) (rec28 : Slc → Slc → (Option Addr) → Slc → Int → Int → AHeap → Option ((ByteArray × Int) × AHeap)) (c21 : Slc) (out22 : Slc) (t23 : Option Addr) (y24 : Slc) (y25 : Int) (y26 : Int) (h27 : AHeap) : Option ((ByteArray × Int) × AHeap) :=
 (if (decide (y26 < y25)) = true then
 zn_ (fun (c29 : Slc) (out30 : Slc) (t31 : Option Addr) (y32 : Slc) (y33 : Int) (y34 : Int) (h35 : AHeap) =>
 rec28 c29 out30 t31 y32 y33 (IntKind.wrap .i64 (y34 + 1)) h35) fun j36 =>
 (Gx.idxL 1 y24 y26).bind fun q37 =>
 (ldS q37 h27).bind fun x38 =>
 zKf_ k D j36 c21 out22 t23 y26 x38 y24 y25 y26 (out22.len : Int) 0 h27
 else
 j19 out22 h27)
noncomputable def zSf_ (k : Nat) (D : za_) (j19 : Slc → AHeap → Option ((ByteArray × Int) × AHeap)) : Slc → Slc → (Option Addr) → Slc → Int → Int → AHeap → Option ((ByteArray × Int) × AHeap) :=
 zh_ (α := Slc → Slc → (Option Addr) → Slc → Int → Int → AHeap → Option ((ByteArray × Int) × AHeap)) (fun _ _ _ _ _ _ _ => none) k (zhc_ k D j19)
noncomputable def zle_ (k : Nat) (D : za_) (f_0 : Option Addr) (l_1 : Slc) (c_2 : Slc) (h : AHeap) : Option ((ByteArray × Int) × AHeap) :=
 (if ((l_1.len : Int) != (c_2.len : Int)) = true then
 some (((⟨#[]⟩ : ByteArray), 4), h)
 else
 zn_ (fun (f1 : Option Addr) (l2 : Slc) (c3 : Slc) (long4 : Int) (h5 : AHeap) =>
 zn_ (fun (f7 : Option Addr) (l8 : Slc) (c9 : Slc) (long10 : Int) (y11 : Bool) (h12 : AHeap) =>
 (if y11 = true then
 some (((⟨#[]⟩ : ByteArray), 4), h12)
 else
 (zmc_ k D c9 h12).bind fun r14 =>
 (if (!r14.1) = true then
 some (((⟨#[]⟩ : ByteArray), 1), r14.2)
 else
 (if 0 ≤ (if long10 > 0 then long10 else 0) ∧ (if long10 > 0 then long10 else 0) ≤ (if long10 > 0 then long10 else 0) ∧ (if long10 > 0 then long10 else 0) ≤ 281474976710656 ∧ 1 * (if long10 > 0 then long10 else 0) ≤ 281474976710656 then
 let h15 := AHeap.new r14.2 (.cells (zw_ ((if long10 > 0 then long10 else 0)).toNat [.int .u8 0]) 5 true 0)
 (zW_ k D f7 h15).bind fun r16 =>
 zn_ (fun (out17 : Slc) (h18 : AHeap) =>
 (zXb_ h18 out17).bind fun s20 =>
 some ((s20, 0), h18)) fun j19 =>
 zSf_ k D j19 c9 (⟨(some ⟨r14.2.next, 0, some 0⟩), ((if long10 > 0 then long10 else 0)).toNat, ((if long10 > 0 then long10 else 0)).toNat⟩ : Slc) r16.1 l8 (l8.len : Int) 0 r16.2
 else none)))) fun j13 =>
 (if (decide ((l2.len : Int) > 0)) = true then
 j13 f1 l2 c3 long4 (decide (long4 < 0)) h5
 else
 j13 f1 l2 c3 long4 false h5)) fun j6 =>
 zag_ k D j6 f_0 l_1 c_2 (-1) l_1 (l_1.len : Int) 0 h)
noncomputable def zGj_ : RCode := an (.s .n (.b (.s .n (.s .n (.s .n (.s (.j [(0, .p), (1, .l), (2, .l), (8, .i .i64)] (.s .n (.b (.l [(0, .p), (1, .l), (2, .l), (8, .i .i64), (21, .l), (22, .i .i64), (23, .i .i64)] (.s .n (.s .n (.s (.j [(0, .p), (1, .l), (2, .l), (8, .i .i64), (21, .l), (22, .i .i64), (23, .i .i64)] .n) .n))))))) (.s (.b (.s (.j [(0, .p), (1, .l), (2, .l), (8, .i .i64), (39, .b)] .n) .n)) (.s .n (.s .n (.s (.j [(11, .l)] (.s .n (.b (.l [(2, .l), (11, .l), (12, .p), (56, .l), (57, .i .i64), (58, .i .i64)] (.s .n (.s .n (.s (.j [(2, .l), (11, .l), (12, .p), (56, .l), (57, .i .i64), (58, .i .i64)] (.b (.s .n (.s .n (.b (.l [(2, .l), (11, .l), (12, .p), (13, .i .i64), (14, .s), (56, .l), (57, .i .i64), (58, .i .i64), (64, .i .i64), (65, .i .i64)] .n)))))) .n))))))) .n)))))))))) (rOf Tryz.prog 2 Tryz.f44)
noncomputable def zCj_ (k : Nat) (D : za_) : Ent := zq_ 44 [(0, .p), (1, .l), (2, .l)] [(6, .s), (7, .i .i64)] (zle_ k D)
theorem zcr_ : (Tryz.f44.body).bind (zd_ Tryz.prog 2 Tryz.f44.ntmps) = some (zf_ zGj_) := by kernel_rfl
theorem zgr_ (k : Nat) (D : za_) : curF [(0, .p), (1, .l), (2, .l)] (fun args h => denF (zIq_ k D) k zGj_ [(6, .s), (7, .i .i64)] [none, none] args h) = zle_ k D := by kernel_rfl
theorem zRo_ {D : za_} (hD : zl_ Tryz.prog 2 D) (k : Nat) : zo_ Tryz.prog 2 (zCj_ k D) :=
 zj_ (zi_ hD (zc_.more (zrl_ hD k) (zc_.more (zNe_ hD k) (zc_.more (zhh_ hD k) (zc_.none))))) Tryz.func44 rfl zcr_ rfl (zgr_ k D)
end Gz
namespace Gz
open Go Gx Go.Proofs
set_option maxRecDepth 100000
end Gz
namespace Gz
open Go Gx Go.Proofs
set_option maxRecDepth 100000
noncomputable def zrz_ (_k : Nat) (D : za_) : za_ := mkC D []
noncomputable def zOi_ (_k : Nat) (_D : za_)  (h : AHeap) : Option (((Int × Int × Int × Int × Int × Int × Int × Int)) × AHeap) :=
 let h1 := AHeap.new h (.cells [.int .u32 0, .int .u32 0, .int .u32 0, .int .u32 0, .int .u32 0, .int .u32 0, .int .u32 0, .int .u32 0] 104 true 0)
 (stL 8 (⟨h.next, 0, none⟩ : Addr) ([.int .u32 1779033703, .int .u32 3144134277, .int .u32 1013904242, .int .u32 2773480762, .int .u32 1359893119, .int .u32 2600822924, .int .u32 528734635, .int .u32 1541459225]) h1).bind fun h2 =>
 (ldA 8 (⟨h.next, 0, none⟩ : Addr) h2).bind fun l3 =>
 (decC [.i .u32, .i .u32, .i .u32, .i .u32, .i .u32, .i .u32, .i .u32, .i .u32] l3).bind fun x4 =>
 some ((x4.1, x4.2.1, x4.2.2.1, x4.2.2.2.1, x4.2.2.2.2.1, x4.2.2.2.2.2.1, x4.2.2.2.2.2.2.1, x4.2.2.2.2.2.2.2), h2)
noncomputable def ztr_ : RCode := an (.n) (rOf Tryz.prog 2 Tryz.f63)
noncomputable def zkr_ (k : Nat) (D : za_) : Ent := zq_ 63 [] [(0, .st [.i .u32, .i .u32, .i .u32, .i .u32, .i .u32, .i .u32, .i .u32, .i .u32])] (zOi_ k D)
theorem zLz_ : (Tryz.f63.body).bind (zd_ Tryz.prog 2 Tryz.f63.ntmps) = some (zf_ ztr_) := by kernel_rfl
theorem zFz_ (k : Nat) (D : za_) : curF [] (fun args h => denF (zrz_ k D) k ztr_ [(0, .st [.i .u32, .i .u32, .i .u32, .i .u32, .i .u32, .i .u32, .i .u32, .i .u32])] [some (.agg 8)] args h) = zOi_ k D := by kernel_rfl
theorem zMw_ {D : za_} (hD : zl_ Tryz.prog 2 D) (k : Nat) : zo_ Tryz.prog 2 (zkr_ k D) :=
 zj_ (zi_ hD (zc_.none)) Tryz.func63 rfl zLz_ rfl (zFz_ k D)
end Gz
namespace Gz
open Go Gx Go.Proofs
set_option maxRecDepth 100000
noncomputable def zmD_ (k : Nat) (D : za_) : za_ := mkC D [zkr_ k D]
noncomputable def zPl_ (k : Nat) (D : za_)  (h : AHeap) : Option (((Option Addr)) × AHeap) :=
 (zOi_ k D h).bind fun r1 =>
 let h2 := AHeap.new r1.2 (.cells [.int .u32 r1.1.1, .int .u32 r1.1.2.1, .int .u32 r1.1.2.2.1, .int .u32 r1.1.2.2.2.1, .int .u32 r1.1.2.2.2.2.1, .int .u32 r1.1.2.2.2.2.2.1, .int .u32 r1.1.2.2.2.2.2.2.1, .int .u32 r1.1.2.2.2.2.2.2.2, .slice none 0 0, .int .i64 0] 119 true 0)
 some ((some (⟨r1.2.next, 0, none⟩ : Addr)), h2)
noncomputable def zMv_ : RCode := an (.n) (rOf Tryz.prog 2 Tryz.f36)
noncomputable def zzv_ (k : Nat) (D : za_) : Ent := zq_ 36 [] [(0, .p)] (zPl_ k D)
theorem zcD_ : (Tryz.f36.body).bind (zd_ Tryz.prog 2 Tryz.f36.ntmps) = some (zf_ zMv_) := by kernel_rfl
theorem zLD_ (k : Nat) (D : za_) : curF [] (fun args h => denF (zmD_ k D) k zMv_ [(0, .p)] [none] args h) = zPl_ k D := by kernel_rfl
theorem zYA_ {D : za_} (hD : zl_ Tryz.prog 2 D) (k : Nat) : zo_ Tryz.prog 2 (zzv_ k D) :=
 zj_ (zi_ hD (zc_.more (zMw_ hD k) (zc_.none))) Tryz.func36 rfl zcD_ rfl (zLD_ k D)
end Gz
namespace Gz
open Go Gx Go.Proofs
set_option maxRecDepth 100000
noncomputable def zxk_ (_k : Nat) (D : za_) : za_ := mkC D []
noncomputable def zx_ (_k : Nat) (_D : za_) (x_0 : Int) (k_1 : Int) (h : AHeap) : Option ((Int) × AHeap) :=
 (if 0 ≤ (Go.bits .and .u64 (IntKind.wrap .u64 k_1) 31) then
 let t1 : Int := (IntKind.wrap .u32 (x_0 * 2 ^ (min ((Go.bits .and .u64 (IntKind.wrap .u64 k_1) 31)).toNat (IntKind.bits .u32))))
 let t2 : Int := (IntKind.wrap .u64 (32 - (Go.bits .and .u64 (IntKind.wrap .u64 k_1) 31)))
 (if 0 ≤ t2 then
 let t3 : Int := (Go.bits .or .u32 t1 (Int.fdiv x_0 (2 ^ (min (t2).toNat (IntKind.bits .u32)))))
 some (t3, h)
 else none)
 else none)
noncomputable def zWf_ : RCode := an (.n) (rOf Tryz.prog 2 Tryz.f101)
noncomputable def zsd_ (k : Nat) (D : za_) : Ent := zq_ 101 [(0, .i .u32), (1, .i .i64)] [(4, .i .u32)] (zx_ k D)
theorem zvk_ : (Tryz.f101.body).bind (zd_ Tryz.prog 2 Tryz.f101.ntmps) = some (zf_ zWf_) := by kernel_rfl
theorem ztk_ (k : Nat) (D : za_) : curF [(0, .i .u32), (1, .i .i64)] (fun args h => denF (zxk_ k D) k zWf_ [(4, .i .u32)] [none] args h) = zx_ k D := by kernel_rfl
theorem zAf_ {D : za_} (hD : zl_ Tryz.prog 2 D) (k : Nat) : zo_ Tryz.prog 2 (zsd_ k D) :=
 zj_ (zi_ hD (zc_.none)) Tryz.func101 rfl zvk_ rfl (ztk_ k D)
end Gz
namespace Gz
open Go Gx Go.Proofs
set_option maxRecDepth 100000
noncomputable def zay_ (k : Nat) (D : za_) : za_ := mkC D [zsd_ k D]
noncomputable def zOe_ (_k : Nat) (_D : za_) (j4 : (Option Addr) → AHeap → Option (((List Value)) × AHeap)) (rec45 : Slc → (Option Addr) → Int → AHeap → Option (((List Value)) × AHeap)) (b41 : Slc) (w42 : Option Addr) (y43 : Int) (h44 : AHeap) : Option (((List Value)) × AHeap) :=
 (if (decide (y43 < 16)) = true then
 (Gx.idxL 1 b41 (IntKind.wrap .i64 (4 * y43))).bind fun q46 =>
 (ldI .u8 q46 h44).bind fun x47 =>
 (Gx.idxL 1 b41 (IntKind.wrap .i64 ((IntKind.wrap .i64 (4 * y43)) + 1))).bind fun q48 =>
 (ldI .u8 q48 h44).bind fun x49 =>
 let t50 : Int := (Go.bits .or .u32 (IntKind.wrap .u32 ((IntKind.wrap .u32 x47) * 16777216)) (IntKind.wrap .u32 ((IntKind.wrap .u32 x49) * 65536)))
 (Gx.idxL 1 b41 (IntKind.wrap .i64 ((IntKind.wrap .i64 (4 * y43)) + 2))).bind fun q51 =>
 (ldI .u8 q51 h44).bind fun x52 =>
 let t53 : Int := (Go.bits .or .u32 t50 (IntKind.wrap .u32 ((IntKind.wrap .u32 x52) * 256)))
 (Gx.idxL 1 b41 (IntKind.wrap .i64 ((IntKind.wrap .i64 (4 * y43)) + 3))).bind fun q54 =>
 (ldI .u8 q54 h44).bind fun x55 =>
 (w42).bind fun p57 =>
 (Gx.idxA 64 1 p57 y43).bind fun q56 =>
 (st1 q56 (.int .u32 (Go.bits .or .u32 t53 (IntKind.wrap .u32 x55))) h44).bind fun h58 =>
 rec45 b41 w42 (IntKind.wrap .i64 (y43 + 1)) h58
 else
 j4 w42 h44)
noncomputable def zbo_ (k : Nat) (D : za_) (j4 : (Option Addr) → AHeap → Option (((List Value)) × AHeap)) : Slc → (Option Addr) → Int → AHeap → Option (((List Value)) × AHeap) :=
 zh_ (α := Slc → (Option Addr) → Int → AHeap → Option (((List Value)) × AHeap)) (fun _ _ _ _ => none) k (zOe_ k D j4)
noncomputable def zHe_ (k : Nat) (D : za_) (j7 : (Option Addr) → AHeap → Option (((List Value)) × AHeap)) (rec18 : (Option Addr) → Int → AHeap → Option (((List Value)) × AHeap)) (w15 : Option Addr) (i16 : Int) (h17 : AHeap) : Option (((List Value)) × AHeap) :=
 (if (decide (i16 < 64)) = true then
 (w15).bind fun p20 =>
 (Gx.idxA 64 1 p20 (IntKind.wrap .i64 (i16 - 15))).bind fun q19 =>
 (ldI .u32 q19 h17).bind fun x21 =>
 (w15).bind fun p23 =>
 (Gx.idxA 64 1 p23 (IntKind.wrap .i64 (i16 - 2))).bind fun q22 =>
 (ldI .u32 q22 h17).bind fun x24 =>
 (zx_ k D x21 (-7) h17).bind fun r25 =>
 (zx_ k D x21 (-18) r25.2).bind fun r26 =>
 let t27 : Int := (Go.bits .xor .u32 (Go.bits .xor .u32 r25.1 r26.1) (Int.fdiv x21 8))
 (zx_ k D x24 (-17) r26.2).bind fun r28 =>
 (zx_ k D x24 (-19) r28.2).bind fun r29 =>
 let t30 : Int := (Go.bits .xor .u32 (Go.bits .xor .u32 r28.1 r29.1) (Int.fdiv x24 1024))
 (w15).bind fun p32 =>
 (Gx.idxA 64 1 p32 (IntKind.wrap .i64 (i16 - 16))).bind fun q31 =>
 (ldI .u32 q31 r29.2).bind fun x33 =>
 (w15).bind fun p35 =>
 (Gx.idxA 64 1 p35 (IntKind.wrap .i64 (i16 - 7))).bind fun q34 =>
 (ldI .u32 q34 r29.2).bind fun x36 =>
 let t37 : Int := (IntKind.wrap .u32 ((IntKind.wrap .u32 ((IntKind.wrap .u32 (x33 + t27)) + x36)) + t30))
 (w15).bind fun p39 =>
 (Gx.idxA 64 1 p39 i16).bind fun q38 =>
 (st1 q38 (.int .u32 t37) r29.2).bind fun h40 =>
 rec18 w15 (IntKind.wrap .i64 (i16 + 1)) h40
 else
 j7 w15 h17)
noncomputable def zno_ (k : Nat) (D : za_) (j7 : (Option Addr) → AHeap → Option (((List Value)) × AHeap)) : (Option Addr) → Int → AHeap → Option (((List Value)) × AHeap) :=
 zh_ (α := (Option Addr) → Int → AHeap → Option (((List Value)) × AHeap)) (fun _ _ _ => none) k (zHe_ k D j7)
noncomputable def zGh_ (k : Nat) (D : za_) (b_0 : Slc) (h : AHeap) : Option (((List Value)) × AHeap) :=
 let h1 := AHeap.new h (.cells (List.replicate 64 (.int .u32 0)) 159 true 0)
 zn_ (fun (w2 : Option Addr) (h3 : AHeap) =>
 zn_ (fun (w5 : Option Addr) (h6 : AHeap) =>
 (w5).bind fun p8 =>
 (ldA 64 p8 h6).bind fun l9 =>
 (w5).bind fun p10 =>
 (stL 64 p10 l9 h6).bind fun h11 =>
 (w5).bind fun p12 =>
 (ldA 64 p12 h11).bind fun l13 =>
 (decA 64 (.agg ⟨l13⟩)).bind fun l14 =>
 some (l14, h11)) fun j7 =>
 zno_ k D j7 w2 16 h3) fun j4 =>
 zbo_ k D j4 b_0 (some (⟨h.next, 0, none⟩ : Addr)) 0 h1
noncomputable def zOo_ : RCode := an (.s .n (.s (.j [(2, .p)] (.s .n (.b (.l [(0, .l), (2, .p), (7, .i .i64)] .n)))) (.s (.j [(2, .p)] (.s .n (.b (.l [(2, .p), (4, .i .i64)] .n)))) .n))) (rOf Tryz.prog 2 Tryz.f100)
noncomputable def zUo_ (k : Nat) (D : za_) : Ent := zq_ 100 [(0, .l)] [(2, .agg 64)] (zGh_ k D)
theorem zqy_ : (Tryz.f100.body).bind (zd_ Tryz.prog 2 Tryz.f100.ntmps) = some (zf_ zOo_) := by kernel_rfl
theorem zIy_ (k : Nat) (D : za_) : curF [(0, .l)] (fun args h => denF (zay_ k D) k zOo_ [(2, .agg 64)] [some (.agg 64)] args h) = zGh_ k D := by kernel_rfl
theorem zow_ {D : za_} (hD : zl_ Tryz.prog 2 D) (k : Nat) : zo_ Tryz.prog 2 (zUo_ k D) :=
 zj_ (zi_ hD (zc_.more (zAf_ hD k) (zc_.none))) Tryz.func100 rfl zqy_ rfl (zIy_ k D)
end Gz
namespace Gz
open Go Gx Go.Proofs
set_option maxRecDepth 100000
noncomputable def zFt_ (k : Nat) (D : za_) : za_ := mkC D [zUo_ k D, zsd_ k D]
noncomputable def zNc_ (k : Nat) (D : za_) (j38 : (Option Addr) → Int → Int → Int → Int → Int → Int → Int → Int → AHeap → Option ((Unit) × AHeap)) (rec64 : (Option Addr) → (Option Addr) → Int → Int → Int → Int → Int → Int → Int → Int → Int → AHeap → Option ((Unit) × AHeap)) (hv52 : Option Addr) (w53 : Option Addr) (a54 : Int) (b55 : Int) (c56 : Int) (d57 : Int) (e58 : Int) (f59 : Int) (g60 : Int) (last61 : Int) (y62 : Int) (h63 : AHeap) : Option ((Unit) × AHeap) :=
 (if (decide (y62 < 64)) = true then
 (zx_ k D e58 (-6) h63).bind fun r65 =>
 (zx_ k D e58 (-11) r65.2).bind fun r66 =>
 (zx_ k D e58 (-25) r66.2).bind fun r67 =>
 let t68 : Int := (IntKind.wrap .u32 (last61 + (Go.bits .xor .u32 (Go.bits .xor .u32 r65.1 r66.1) r67.1)))
 let t69 : Int := (Go.bits .and .u32 (Go.bits .xor .u32 (IntKind.max .u32) e58) g60)
 let t70 : Int := (IntKind.wrap .u32 (t68 + (Go.bits .xor .u32 (Go.bits .and .u32 e58 f59) t69)))
 (Gx.idxA 64 1 (⟨0, 0, none⟩ : Addr) y62).bind fun q71 =>
 (ldI .u32 q71 r67.2).bind fun x72 =>
 (w53).bind fun p74 =>
 (Gx.idxA 64 1 p74 y62).bind fun q73 =>
 (ldI .u32 q73 r67.2).bind fun x75 =>
 (zx_ k D a54 (-2) r67.2).bind fun r76 =>
 (zx_ k D a54 (-13) r76.2).bind fun r77 =>
 (zx_ k D a54 (-22) r77.2).bind fun r78 =>
 let t79 : Int := (Go.bits .xor .u32 (Go.bits .and .u32 a54 b55) (Go.bits .and .u32 a54 c56))
 let t80 : Int := (IntKind.wrap .u32 ((Go.bits .xor .u32 (Go.bits .xor .u32 r76.1 r77.1) r78.1) + (Go.bits .xor .u32 t79 (Go.bits .and .u32 b55 c56))))
 let t81 : Int := (IntKind.wrap .u32 (d57 + (IntKind.wrap .u32 ((IntKind.wrap .u32 (t70 + x72)) + x75))))
 let t82 : Int := (IntKind.wrap .u32 ((IntKind.wrap .u32 ((IntKind.wrap .u32 (t70 + x72)) + x75)) + t80))
 rec64 hv52 w53 t82 a54 b55 c56 t81 e58 f59 g60 (IntKind.wrap .i64 (y62 + 1)) r78.2
 else
 j38 hv52 a54 b55 c56 d57 e58 f59 g60 last61 h63)
noncomputable def zuk_ (k : Nat) (D : za_) (j38 : (Option Addr) → Int → Int → Int → Int → Int → Int → Int → Int → AHeap → Option ((Unit) × AHeap)) : (Option Addr) → (Option Addr) → Int → Int → Int → Int → Int → Int → Int → Int → Int → AHeap → Option ((Unit) × AHeap) :=
 zh_ (α := (Option Addr) → (Option Addr) → Int → Int → Int → Int → Int → Int → Int → Int → Int → AHeap → Option ((Unit) × AHeap)) (fun _ _ _ _ _ _ _ _ _ _ _ _ => none) k (zNc_ k D j38)
noncomputable def zIc_ (_k : Nat) (_D : za_)  (rec43 : (Option Addr) → (Int × Int × Int × Int × Int × Int × Int × Int) → Int → AHeap → Option ((Unit) × AHeap)) (hv39 : Option Addr) (y40 : Int × Int × Int × Int × Int × Int × Int × Int) (y41 : Int) (h42 : AHeap) : Option ((Unit) × AHeap) :=
 (if (decide (y41 < 8)) = true then
 (if 0 ≤ y41 ∧ y41 < ((8 : Nat) : Int) then
 (([.int .u32 y40.1, .int .u32 y40.2.1, .int .u32 y40.2.2.1, .int .u32 y40.2.2.2.1, .int .u32 y40.2.2.2.2.1, .int .u32 y40.2.2.2.2.2.1, .int .u32 y40.2.2.2.2.2.2.1, .int .u32 y40.2.2.2.2.2.2.2])[(y41).toNat * 1]?).bind fun v44 =>
 (decI .u32 v44).bind fun x45 =>
 (hv39).bind fun p46 =>
 (Gx.idxA 8 1 (⟨p46.block, p46.off + 0, none⟩ : Addr) y41).bind fun q47 =>
 (ldI .u32 q47 h42).bind fun x48 =>
 (hv39).bind fun p49 =>
 (Gx.idxA 8 1 (⟨p49.block, p49.off + 0, none⟩ : Addr) y41).bind fun q50 =>
 (st1 q50 (.int .u32 (IntKind.wrap .u32 (x48 + x45))) h42).bind fun h51 =>
 rec43 hv39 (y40.1, y40.2.1, y40.2.2.1, y40.2.2.2.1, y40.2.2.2.2.1, y40.2.2.2.2.2.1, y40.2.2.2.2.2.2.1, y40.2.2.2.2.2.2.2) (IntKind.wrap .i64 (y41 + 1)) h51
 else none)
 else
 some ((), h42))
noncomputable def zgk_ (k : Nat) (D : za_)  : (Option Addr) → (Int × Int × Int × Int × Int × Int × Int × Int) → Int → AHeap → Option ((Unit) × AHeap) :=
 zh_ (α := (Option Addr) → (Int × Int × Int × Int × Int × Int × Int × Int) → Int → AHeap → Option ((Unit) × AHeap)) (fun _ _ _ _ => none) k (zIc_ k D )
noncomputable def zjf_ (k : Nat) (D : za_) (h_0 : Option Addr) (block_1 : Slc) (h : AHeap) : Option ((Unit) × AHeap) :=
 (zGh_ k D block_1 h).bind fun r1 =>
 let h2 := AHeap.new r1.2 (.cells (List.replicate 64 (.int .u32 0)) 159 true 0)
 (stL 64 (⟨r1.2.next, 0, none⟩ : Addr) r1.1 h2).bind fun h3 =>
 (h_0).bind fun p4 =>
 (ldI .u32 (⟨p4.block, p4.off + 0 + 0, none⟩ : Addr) h3).bind fun x6 =>
 (h_0).bind fun p7 =>
 (ldI .u32 (⟨p7.block, p7.off + 0 + 1, none⟩ : Addr) h3).bind fun x9 =>
 (h_0).bind fun p10 =>
 (ldI .u32 (⟨p10.block, p10.off + 0 + 2, none⟩ : Addr) h3).bind fun x12 =>
 (h_0).bind fun p13 =>
 (ldI .u32 (⟨p13.block, p13.off + 0 + 3, none⟩ : Addr) h3).bind fun x15 =>
 (h_0).bind fun p16 =>
 (ldI .u32 (⟨p16.block, p16.off + 0 + 4, none⟩ : Addr) h3).bind fun x18 =>
 (h_0).bind fun p19 =>
 (ldI .u32 (⟨p19.block, p19.off + 0 + 5, none⟩ : Addr) h3).bind fun x21 =>
 (h_0).bind fun p22 =>
 (ldI .u32 (⟨p22.block, p22.off + 0 + 6, none⟩ : Addr) h3).bind fun x24 =>
 (h_0).bind fun p25 =>
 (ldI .u32 (⟨p25.block, p25.off + 0 + 7, none⟩ : Addr) h3).bind fun x27 =>
 zn_ (fun (hv28 : Option Addr) (a29 : Int) (b30 : Int) (c31 : Int) (d32 : Int) (e33 : Int) (f34 : Int) (g35 : Int) (last36 : Int) (h37 : AHeap) =>
 zgk_ k D hv28 (a29, b30, c31, d32, e33, f34, g35, last36) 0 h37) fun j38 =>
 zuk_ k D j38 h_0 (some (⟨r1.2.next, 0, none⟩ : Addr)) x6 x9 x12 x15 x18 x21 x24 x27 0 h3
noncomputable def zfl_ : RCode := an (.s .n (.s .n (.s .n (.s (.j [(0, .p), (5, .i .u32), (6, .i .u32), (7, .i .u32), (8, .i .u32), (9, .i .u32), (10, .i .u32), (11, .i .u32), (12, .i .u32)] (.s .n (.b (.l [(0, .p), (4, .p), (5, .i .u32), (6, .i .u32), (7, .i .u32), (8, .i .u32), (9, .i .u32), (10, .i .u32), (11, .i .u32), (12, .i .u32), (62, .i .i64)] .n)))) (.s .n (.b (.l [(0, .p), (135, .st [.i .u32, .i .u32, .i .u32, .i .u32, .i .u32, .i .u32, .i .u32, .i .u32]), (136, .i .i64)] .n))))))) (rOf Tryz.prog 2 Tryz.f64)
noncomputable def zJk_ (k : Nat) (D : za_) : Ent := zq_ 64 [(0, .p), (1, .l)] [] (zjf_ k D)
theorem zus_ : (Tryz.f64.body).bind (zd_ Tryz.prog 2 Tryz.f64.ntmps) = some (zf_ zfl_) := by kernel_rfl
theorem zot_ (k : Nat) (D : za_) : curF [(0, .p), (1, .l)] (fun args h => denF (zFt_ k D) k zfl_ [] [] args h) = zjf_ k D := by kernel_rfl
theorem zNr_ {D : za_} (hD : zl_ Tryz.prog 2 D) (k : Nat) : zo_ Tryz.prog 2 (zJk_ k D) :=
 zj_ (zi_ hD (zc_.more (zow_ hD k) (zc_.more (zAf_ hD k) (zc_.none)))) Tryz.func64 rfl zus_ rfl (zot_ k D)
end Gz
namespace Gz
open Go Gx Go.Proofs
set_option maxRecDepth 100000
noncomputable def zLr_ (k : Nat) (D : za_) : za_ := mkC D [zJk_ k D]
noncomputable def zWd_ (k : Nat) (D : za_) (j13 : (Option Addr) → Int → AHeap → Option ((Unit) × AHeap)) (rec24 : (Option Addr) → Int → AHeap → Option ((Unit) × AHeap)) (hv21 : Option Addr) (atv22 : Int) (h23 : AHeap) : Option ((Unit) × AHeap) :=
 (hv21).bind fun p25 =>
 (ldL (⟨p25.block, p25.off + 8, none⟩ : Addr) h23).bind fun x26 =>
 (if (decide ((IntKind.wrap .i64 ((x26.len : Int) - atv22)) ≥ 64)) = true then
 (hv21).bind fun p27 =>
 (ldL (⟨p27.block, p27.off + 8, none⟩ : Addr) h23).bind fun x28 =>
 (Gx.subL 1 x28 (some atv22) (some (IntKind.wrap .i64 (atv22 + 64))) none).bind fun l29 =>
 (zjf_ k D hv21 l29 h23).bind fun r30 =>
 rec24 hv21 (IntKind.wrap .i64 (atv22 + 64)) r30.2
 else
 j13 hv21 atv22 h23)
noncomputable def zyj_ (k : Nat) (D : za_) (j13 : (Option Addr) → Int → AHeap → Option ((Unit) × AHeap)) : (Option Addr) → Int → AHeap → Option ((Unit) × AHeap) :=
 zh_ (α := (Option Addr) → Int → AHeap → Option ((Unit) × AHeap)) (fun _ _ _ => none) k (zWd_ k D j13)
noncomputable def zgd_ (k : Nat) (D : za_) (h_0 : Option Addr) (s_1 : ByteArray) (h : AHeap) : Option ((Unit) × AHeap) :=
 (h_0).bind fun p1 =>
 (ldI .i64 (⟨p1.block, p1.off + 9, none⟩ : Addr) h).bind fun x2 =>
 (h_0).bind fun p3 =>
 (st1 (⟨p3.block, p3.off + 9, none⟩ : Addr) (.int .i64 (IntKind.wrap .i64 (x2 + (s_1.size : Int)))) h).bind fun h4 =>
 (h_0).bind fun p5 =>
 (ldL (⟨p5.block, p5.off + 8, none⟩ : Addr) h4).bind fun x6 =>
 (zs_ 1 1 5 h4 x6 (zR_ s_1) s_1.size).bind fun r7 =>
 (h_0).bind fun p8 =>
 (st1 (⟨p8.block, p8.off + 8, none⟩ : Addr) (.slice r7.1.a r7.1.len r7.1.cap) r7.2).bind fun h9 =>
 zn_ (fun (hv10 : Option Addr) (atv11 : Int) (h12 : AHeap) =>
 (hv10).bind fun p14 =>
 (ldL (⟨p14.block, p14.off + 8, none⟩ : Addr) h12).bind fun x15 =>
 (Gx.subL 1 x15 (some atv11) none none).bind fun l16 =>
 (rdS 1 l16 h12).bind fun n18 =>
 (zs_ 1 1 5 h12 (⟨none, 0, 0⟩ : Slc) n18 l16.len).bind fun r17 =>
 (hv10).bind fun p19 =>
 (st1 (⟨p19.block, p19.off + 8, none⟩ : Addr) (.slice r17.1.a r17.1.len r17.1.cap) r17.2).bind fun h20 =>
 some ((), h20)) fun j13 =>
 zyj_ k D j13 h_0 0 h9
noncomputable def zhk_ : RCode := an (.s .n (.s .n (.s .n (.s (.j [(0, .p), (4, .i .i64)] (.b (.l [(0, .p), (4, .i .i64)] .n))) .n)))) (rOf Tryz.prog 2 Tryz.f37)
noncomputable def zQg_ (k : Nat) (D : za_) : Ent := zq_ 37 [(0, .p), (1, .s)] [] (zgd_ k D)
theorem zes_ : (Tryz.f37.body).bind (zd_ Tryz.prog 2 Tryz.f37.ntmps) = some (zf_ zhk_) := by kernel_rfl
theorem zYr_ (k : Nat) (D : za_) : curF [(0, .p), (1, .s)] (fun args h => denF (zLr_ k D) k zhk_ [] [] args h) = zgd_ k D := by kernel_rfl
theorem zzj_ {D : za_} (hD : zl_ Tryz.prog 2 D) (k : Nat) : zo_ Tryz.prog 2 (zQg_ k D) :=
 zj_ (zi_ hD (zc_.more (zNr_ hD k) (zc_.none))) Tryz.func37 rfl zes_ rfl (zYr_ k D)
end Gz
namespace Gz
open Go Gx Go.Proofs
set_option maxRecDepth 100000
noncomputable def zNs_ (_k : Nat) (D : za_) : za_ := mkC D []
noncomputable def zmf_ (_k : Nat) (_D : za_) (h_0 : Option Addr) (h : AHeap) : Option (((Option Addr)) × AHeap) :=
 (h_0).bind fun p1 =>
 (ldL (⟨p1.block, p1.off + 8, none⟩ : Addr) h).bind fun x2 =>
 (rdS 1 x2 h).bind fun n4 =>
 (zs_ 1 1 5 h (⟨none, 0, 0⟩ : Slc) n4 x2.len).bind fun r3 =>
 (h_0).bind fun p5 =>
 (ldA 8 (⟨p5.block, p5.off + 0, none⟩ : Addr) r3.2).bind fun l6 =>
 zz_ (zC_ [h] (fun H8 => (ldA 8 (⟨p5.block, p5.off + 0, none⟩ : Addr) H8).bind fun y7 => some (.agg ⟨y7⟩)) (.agg ⟨l6⟩)) (
 (decC [.i .u32, .i .u32, .i .u32, .i .u32, .i .u32, .i .u32, .i .u32, .i .u32] l6).bind fun x9 =>
 (h_0).bind fun p10 =>
 (ldI .i64 (⟨p10.block, p10.off + 9, none⟩ : Addr) r3.2).bind fun x11 =>
 zz_ (zC_ [h] (fun H13 => (ldI .i64 (⟨p10.block, p10.off + 9, none⟩ : Addr) H13).bind fun y12 => some (.int .i64 y12)) (.int .i64 x11)) (
 let h14 := AHeap.new r3.2 (.cells [.int .u32 x9.1, .int .u32 x9.2.1, .int .u32 x9.2.2.1, .int .u32 x9.2.2.2.1, .int .u32 x9.2.2.2.2.1, .int .u32 x9.2.2.2.2.2.1, .int .u32 x9.2.2.2.2.2.2.1, .int .u32 x9.2.2.2.2.2.2.2, .slice r3.1.a r3.1.len r3.1.cap, .int .i64 x11] 119 true 0)
 some ((some (⟨r3.2.next, 0, none⟩ : Addr)), h14)))
noncomputable def zRk_ : RCode := an (.s .n (.s (.r [(8, .st [.i .u32, .i .u32, .i .u32, .i .u32, .i .u32, .i .u32, .i .u32, .i .u32])]) .n)) (rOf Tryz.prog 2 Tryz.f65)
noncomputable def zKk_ (k : Nat) (D : za_) : Ent := zq_ 65 [(0, .p)] [(2, .p)] (zmf_ k D)
theorem ztt_ : (Tryz.f65.body).bind (zd_ Tryz.prog 2 Tryz.f65.ntmps) = some (zf_ zRk_) := by kernel_rfl
theorem zDs_ (k : Nat) (D : za_) : curF [(0, .p)] (fun args h => denF (zNs_ k D) k zRk_ [(2, .p)] [none] args h) = zmf_ k D := by kernel_rfl
theorem zTr_ {D : za_} (hD : zl_ Tryz.prog 2 D) (k : Nat) : zo_ Tryz.prog 2 (zKk_ k D) :=
 zj_ (zi_ hD (zc_.none)) Tryz.func65 rfl ztt_ rfl (zDs_ k D)
end Gz
namespace Gz
open Go Gx Go.Proofs
set_option maxRecDepth 100000
noncomputable def ziu_ (k : Nat) (D : za_) : za_ := mkC D [zKk_ k D, zQg_ k D]
noncomputable def zid_ (_k : Nat) (_D : za_) (j7 : (Option Addr) → (Option Addr) → Slc → AHeap → Option ((ByteArray) × AHeap)) (rec47 : (Option Addr) → (Option Addr) → Slc → AHeap → Option ((ByteArray) × AHeap)) (hv43 : Option Addr) (endv44 : Option Addr) (tail45 : Slc) (h46 : AHeap) : Option ((ByteArray) × AHeap) :=
 (endv44).bind fun p48 =>
 (ldL (⟨p48.block, p48.off + 8, none⟩ : Addr) h46).bind fun x49 =>
 let t50 : Int := (Int.tmod (IntKind.wrap .i64 ((x49.len : Int) + (tail45.len : Int))) 64)
 (if (t50 != 56) = true then
 let h51 := AHeap.new h46 (.cells [.int .u8 0] 5 true 0)
 (rdS 1 (⟨(some ⟨h46.next, 0, some 0⟩), 1, 1⟩ : Slc) h51).bind fun n53 =>
 (zs_ 1 1 5 h51 tail45 n53 1).bind fun r52 =>
 rec47 hv43 endv44 r52.1 r52.2
 else
 j7 hv43 endv44 tail45 h46)
noncomputable def zLk_ (k : Nat) (D : za_) (j7 : (Option Addr) → (Option Addr) → Slc → AHeap → Option ((ByteArray) × AHeap)) : (Option Addr) → (Option Addr) → Slc → AHeap → Option ((ByteArray) × AHeap) :=
 zh_ (α := (Option Addr) → (Option Addr) → Slc → AHeap → Option ((ByteArray) × AHeap)) (fun _ _ _ _ => none) k (zid_ k D j7)
noncomputable def zqd_ (_k : Nat) (_D : za_) (j13 : (Option Addr) → Slc → AHeap → Option ((ByteArray) × AHeap)) (rec38 : (Option Addr) → Slc → Int → Int → AHeap → Option ((ByteArray) × AHeap)) (endv33 : Option Addr) (tail34 : Slc) (count35 : Int) (shift36 : Int) (h37 : AHeap) : Option ((ByteArray) × AHeap) :=
 (if (decide (shift36 ≥ 0)) = true then
 (if 0 ≤ shift36 then
 let t39 : Int := (Int.fdiv count35 (2 ^ (min (shift36).toNat (IntKind.bits .u64))))
 let h40 := AHeap.new h37 (.cells [.int .u8 (IntKind.wrap .u8 t39)] 5 true 0)
 (rdS 1 (⟨(some ⟨h37.next, 0, some 0⟩), 1, 1⟩ : Slc) h40).bind fun n42 =>
 (zs_ 1 1 5 h40 tail34 n42 1).bind fun r41 =>
 rec38 endv33 r41.1 count35 (IntKind.wrap .i64 (shift36 - 8)) r41.2
 else none)
 else
 j13 endv33 tail34 h37)
noncomputable def zal_ (k : Nat) (D : za_) (j13 : (Option Addr) → Slc → AHeap → Option ((ByteArray) × AHeap)) : (Option Addr) → Slc → Int → Int → AHeap → Option ((ByteArray) × AHeap) :=
 zh_ (α := (Option Addr) → Slc → Int → Int → AHeap → Option ((ByteArray) × AHeap)) (fun _ _ _ _ _ => none) k (zqd_ k D j13)
noncomputable def zzd_ (_k : Nat) (_D : za_) (j18 : Slc → AHeap → Option ((ByteArray) × AHeap)) (rec27 : Slc → (Int × Int × Int × Int × Int × Int × Int × Int) → Int → AHeap → Option ((ByteArray) × AHeap)) (out23 : Slc) (y24 : Int × Int × Int × Int × Int × Int × Int × Int) (y25 : Int) (h26 : AHeap) : Option ((ByteArray) × AHeap) :=
 (if (decide (y25 < 8)) = true then
 (if 0 ≤ y25 ∧ y25 < ((8 : Nat) : Int) then
 (([.int .u32 y24.1, .int .u32 y24.2.1, .int .u32 y24.2.2.1, .int .u32 y24.2.2.2.1, .int .u32 y24.2.2.2.2.1, .int .u32 y24.2.2.2.2.2.1, .int .u32 y24.2.2.2.2.2.2.1, .int .u32 y24.2.2.2.2.2.2.2])[(y25).toNat * 1]?).bind fun v28 =>
 (decI .u32 v28).bind fun x29 =>
 let h30 := AHeap.new h26 (.cells [.int .u8 (IntKind.wrap .u8 (Int.fdiv x29 16777216)), .int .u8 (IntKind.wrap .u8 (Int.fdiv x29 65536)), .int .u8 (IntKind.wrap .u8 (Int.fdiv x29 256)), .int .u8 (IntKind.wrap .u8 x29)] 5 true 0)
 (rdS 1 (⟨(some ⟨h26.next, 0, some 0⟩), 4, 4⟩ : Slc) h30).bind fun n32 =>
 (zs_ 1 1 5 h30 out23 n32 4).bind fun r31 =>
 rec27 r31.1 (y24.1, y24.2.1, y24.2.2.1, y24.2.2.2.1, y24.2.2.2.2.1, y24.2.2.2.2.2.1, y24.2.2.2.2.2.2.1, y24.2.2.2.2.2.2.2) (IntKind.wrap .i64 (y25 + 1)) r31.2
 else none)
 else
 j18 out23 h26)
noncomputable def zil_ (k : Nat) (D : za_) (j18 : Slc → AHeap → Option ((ByteArray) × AHeap)) : Slc → (Int × Int × Int × Int × Int × Int × Int × Int) → Int → AHeap → Option ((ByteArray) × AHeap) :=
 zh_ (α := Slc → (Int × Int × Int × Int × Int × Int × Int × Int) → Int → AHeap → Option ((ByteArray) × AHeap)) (fun _ _ _ _ => none) k (zzd_ k D j18)
noncomputable def zMf_ (k : Nat) (D : za_) (h_0 : Option Addr) (h : AHeap) : Option ((ByteArray) × AHeap) :=
 (zmf_ k D h_0 h).bind fun r1 =>
 let h2 := AHeap.new r1.2 (.cells [.int .u8 128] 5 true 0)
 zn_ (fun (hv3 : Option Addr) (endv4 : Option Addr) (tail5 : Slc) (h6 : AHeap) =>
 (hv3).bind fun p8 =>
 (ldI .i64 (⟨p8.block, p8.off + 9, none⟩ : Addr) h6).bind fun x9 =>
 zn_ (fun (endv10 : Option Addr) (tail11 : Slc) (h12 : AHeap) =>
 (zXb_ h12 tail11).bind fun s14 =>
 (zgd_ k D endv10 s14 h12).bind fun r15 =>
 zn_ (fun (out16 : Slc) (h17 : AHeap) =>
 (zXb_ h17 out16).bind fun s19 =>
 some (s19, h17)) fun j18 =>
 (endv10).bind fun p20 =>
 (ldA 8 (⟨p20.block, p20.off + 0, none⟩ : Addr) r15.2).bind fun l21 =>
 (decC [.i .u32, .i .u32, .i .u32, .i .u32, .i .u32, .i .u32, .i .u32, .i .u32] l21).bind fun x22 =>
 zil_ k D j18 (⟨none, 0, 0⟩ : Slc) (x22.1, x22.2.1, x22.2.2.1, x22.2.2.2.1, x22.2.2.2.2.1, x22.2.2.2.2.2.1, x22.2.2.2.2.2.2.1, x22.2.2.2.2.2.2.2) 0 r15.2) fun j13 =>
 zal_ k D j13 endv4 tail5 (IntKind.wrap .u64 ((IntKind.wrap .u64 x9) * 8)) 56 h6) fun j7 =>
 zLk_ k D j7 h_0 r1.1 (⟨(some ⟨r1.2.next, 0, some 0⟩), 1, 1⟩ : Slc) h2
noncomputable def zem_ : RCode := an (.s .n (.s .n (.s .n (.s (.j [(0, .p), (3, .p), (4, .l)] (.b (.l [(0, .p), (3, .p), (4, .l)] .n))) (.s .n (.s (.j [(3, .p), (4, .l)] (.s .n (.b (.l [(3, .p), (4, .l), (5, .i .u64), (6, .i .i64)] .n)))) (.s .n (.s .n (.s (.j [(7, .l)] (.s (.r [(3, .st [.i .u32, .i .u32, .i .u32, .i .u32, .i .u32, .i .u32, .i .u32, .i .u32])]) (.b (.l [(7, .l), (50, .st [.i .u32, .i .u32, .i .u32, .i .u32, .i .u32, .i .u32, .i .u32, .i .u32]), (51, .i .i64)] .n)))) .n))))))))) (rOf Tryz.prog 2 Tryz.f38)
noncomputable def zBm_ (k : Nat) (D : za_) : Ent := zq_ 38 [(0, .p)] [(2, .s)] (zMf_ k D)
theorem zNu_ : (Tryz.f38.body).bind (zd_ Tryz.prog 2 Tryz.f38.ntmps) = some (zf_ zem_) := by kernel_rfl
theorem zdu_ (k : Nat) (D : za_) : curF [(0, .p)] (fun args h => denF (ziu_ k D) k zem_ [(2, .s)] [none] args h) = zMf_ k D := by kernel_rfl
theorem zmt_ {D : za_} (hD : zl_ Tryz.prog 2 D) (k : Nat) : zo_ Tryz.prog 2 (zBm_ k D) :=
 zj_ (zi_ hD (zc_.more (zTr_ hD k) (zc_.more (zzj_ hD k) (zc_.none)))) Tryz.func38 rfl zNu_ rfl (zdu_ k D)
end Gz
namespace Gz
open Go Gx Go.Proofs
set_option maxRecDepth 100000
noncomputable def zRC_ (k : Nat) (D : za_) : za_ := mkC D [zzv_ k D, zBm_ k D, zQg_ k D]
noncomputable def zwg_ (k : Nat) (D : za_) (j4 : (Option Addr) → AHeap → Option ((ByteArray) × AHeap)) (rec11 : (Option Addr) → Slc → Int → Int → AHeap → Option ((ByteArray) × AHeap)) (hv6 : Option Addr) (y7 : Slc) (y8 : Int) (y9 : Int) (h10 : AHeap) : Option ((ByteArray) × AHeap) :=
 (if (decide (y9 < y8)) = true then
 (Gx.idxL 1 y7 y9).bind fun q12 =>
 (ldS q12 h10).bind fun x13 =>
 (zgd_ k D hv6 x13 h10).bind fun r14 =>
 rec11 hv6 y7 y8 (IntKind.wrap .i64 (y9 + 1)) r14.2
 else
 j4 hv6 h10)
noncomputable def zwt_ (k : Nat) (D : za_) (j4 : (Option Addr) → AHeap → Option ((ByteArray) × AHeap)) : (Option Addr) → Slc → Int → Int → AHeap → Option ((ByteArray) × AHeap) :=
 zh_ (α := (Option Addr) → Slc → Int → Int → AHeap → Option ((ByteArray) × AHeap)) (fun _ _ _ _ _ => none) k (zwg_ k D j4)
noncomputable def zYl_ (k : Nat) (D : za_) (pieces_0 : Slc) (h : AHeap) : Option ((ByteArray) × AHeap) :=
 (zPl_ k D h).bind fun r1 =>
 zn_ (fun (hv2 : Option Addr) (h3 : AHeap) =>
 (zMf_ k D hv2 h3).bind fun r5 =>
 some (r5.1, r5.2)) fun j4 =>
 zwt_ k D j4 r1.1 pieces_0 (pieces_0.len : Int) 0 r1.2
noncomputable def zLv_ : RCode := an (.s .n (.s .n (.s (.j [(3, .p)] (.s .n (.b (.l [(3, .p), (7, .l), (8, .i .i64), (9, .i .i64)] .n)))) .n))) (rOf Tryz.prog 2 Tryz.f18)
noncomputable def zOv_ (k : Nat) (D : za_) : Ent := zq_ 18 [(0, .l)] [(2, .s)] (zYl_ k D)
theorem zND_ : (Tryz.f18.body).bind (zd_ Tryz.prog 2 Tryz.f18.ntmps) = some (zf_ zLv_) := by kernel_rfl
theorem zUC_ (k : Nat) (D : za_) : curF [(0, .l)] (fun args h => denF (zRC_ k D) k zLv_ [(2, .s)] [none] args h) = zYl_ k D := by kernel_rfl
theorem zeC_ {D : za_} (hD : zl_ Tryz.prog 2 D) (k : Nat) : zo_ Tryz.prog 2 (zOv_ k D) :=
 zj_ (zi_ hD (zc_.more (zYA_ hD k) (zc_.more (zmt_ hD k) (zc_.more (zzj_ hD k) (zc_.none))))) Tryz.func18 rfl zND_ rfl (zUC_ k D)
end Gz
namespace Gz
open Go Gx Go.Proofs
set_option maxRecDepth 100000
end Gz
namespace Gz
open Go Gx Go.Proofs
set_option maxRecDepth 100000
end Gz
namespace Gz
open Go Gx Go.Proofs
set_option maxRecDepth 100000
end Gz
namespace Gz
open Go Gx Go.Proofs
set_option maxRecDepth 100000
noncomputable def zLx_ (_k : Nat) (D : za_) : za_ := mkC D []
noncomputable def zaf_ (_k : Nat) (_D : za_) (rows_0 : Int) (cols_1 : Int) (h : AHeap) : Option (((Int × Int × Slc)) × AHeap) :=
 let h1 := AHeap.new h (.cells [.int .i64 0, .int .i64 0, .slice none 0 0] 97 true 0)
 (if 0 ≤ (IntKind.wrap .i64 (rows_0 * cols_1)) ∧ (IntKind.wrap .i64 (rows_0 * cols_1)) ≤ (IntKind.wrap .i64 (rows_0 * cols_1)) ∧ (IntKind.wrap .i64 (rows_0 * cols_1)) ≤ 281474976710656 ∧ 8 * (IntKind.wrap .i64 (rows_0 * cols_1)) ≤ 281474976710656 then
 let h2 := AHeap.new h1 (.cells (zw_ ((IntKind.wrap .i64 (rows_0 * cols_1))).toNat [.int .i64 0]) 3 true 0)
 (stL 3 (⟨h.next, 0, none⟩ : Addr) ([.int .i64 rows_0, .int .i64 cols_1, .slice (some ⟨h1.next, 0, some 0⟩) (((IntKind.wrap .i64 (rows_0 * cols_1))).toNat) (((IntKind.wrap .i64 (rows_0 * cols_1))).toNat)]) h2).bind fun h3 =>
 (ldA 3 (⟨h.next, 0, none⟩ : Addr) h3).bind fun l4 =>
 (decC [.i .i64, .i .i64, .l] l4).bind fun x5 =>
 some ((x5.1, x5.2.1, x5.2.2), h3)
 else none)
noncomputable def zLp_ : RCode := an (.n) (rOf Tryz.prog 2 Tryz.f78)
noncomputable def znh_ (k : Nat) (D : za_) : Ent := zq_ 78 [(0, .i .i64), (1, .i .i64)] [(4, .st [.i .i64, .i .i64, .l])] (zaf_ k D)
theorem zvy_ : (Tryz.f78.body).bind (zd_ Tryz.prog 2 Tryz.f78.ntmps) = some (zf_ zLp_) := by kernel_rfl
theorem zEy_ (k : Nat) (D : za_) : curF [(0, .i .i64), (1, .i .i64)] (fun args h => denF (zLx_ k D) k zLp_ [(4, .st [.i .i64, .i .i64, .l])] [some (.agg 3)] args h) = zaf_ k D := by kernel_rfl
theorem zmj_ {D : za_} (hD : zl_ Tryz.prog 2 D) (k : Nat) : zo_ Tryz.prog 2 (znh_ k D) :=
 zj_ (zi_ hD (zc_.none)) Tryz.func78 rfl zvy_ rfl (zEy_ k D)
end Gz
namespace Gz
open Go Gx Go.Proofs
set_option maxRecDepth 100000
noncomputable def zfw_ (_k : Nat) (D : za_) : za_ := mkC D []
noncomputable def zTd_ (_k : Nat) (_D : za_) (j3 : Int → AHeap → Option ((Int) × AHeap)) (rec22 : Int → Int → Int → Int → AHeap → Option ((Int) × AHeap)) (a17 : Int) (b18 : Int) (n19 : Int) (i20 : Int) (h21 : AHeap) : Option ((Int) × AHeap) :=
 (if (decide (i20 < 8)) = true then
 zn_ (fun (a23 : Int) (b24 : Int) (n25 : Int) (i26 : Int) (h27 : AHeap) =>
 rec22 a23 b24 n25 (IntKind.wrap .i64 (i26 + 1)) h27) fun j28 =>
 (if 0 ≤ i20 then
 let t29 : Int := (Go.bits .and .i64 (Int.fdiv b18 (2 ^ (min (i20).toNat (IntKind.bits .i64)))) 1)
 (if (t29 == 1) = true then
 (if 0 ≤ i20 then
 let t30 : Int := (IntKind.wrap .i64 (a17 * 2 ^ (min (i20).toNat (IntKind.bits .i64))))
 j28 a17 b18 (Go.bits .xor .i64 n19 t30) i20 h21
 else none)
 else
 j28 a17 b18 n19 i20 h21)
 else none)
 else
 j3 n19 h21)
noncomputable def zIm_ (k : Nat) (D : za_) (j3 : Int → AHeap → Option ((Int) × AHeap)) : Int → Int → Int → Int → AHeap → Option ((Int) × AHeap) :=
 zh_ (α := Int → Int → Int → Int → AHeap → Option ((Int) × AHeap)) (fun _ _ _ _ _ => none) k (zTd_ k D j3)
noncomputable def zde_ (_k : Nat) (_D : za_) (j6 : Int → AHeap → Option ((Int) × AHeap)) (rec10 : Int → Int → AHeap → Option ((Int) × AHeap)) (n7 : Int) (i8 : Int) (h9 : AHeap) : Option ((Int) × AHeap) :=
 (if (decide (i8 ≥ 8)) = true then
 zn_ (fun (n11 : Int) (i12 : Int) (h13 : AHeap) =>
 rec10 n11 (IntKind.wrap .i64 (i12 - 1)) h13) fun j14 =>
 (if 0 ≤ i8 then
 let t15 : Int := (Go.bits .and .i64 (Int.fdiv n7 (2 ^ (min (i8).toNat (IntKind.bits .i64)))) 1)
 (if (t15 == 1) = true then
 (if 0 ≤ (IntKind.wrap .i64 (i8 - 8)) then
 let t16 : Int := (IntKind.wrap .i64 (391 * 2 ^ (min ((IntKind.wrap .i64 (i8 - 8))).toNat (IntKind.bits .i64))))
 j14 (Go.bits .xor .i64 n7 t16) i8 h9
 else none)
 else
 j14 n7 i8 h9)
 else none)
 else
 j6 n7 h9)
noncomputable def zKe_ (k : Nat) (D : za_) (j6 : Int → AHeap → Option ((Int) × AHeap)) : Int → Int → AHeap → Option ((Int) × AHeap) :=
 zh_ (α := Int → Int → AHeap → Option ((Int) × AHeap)) (fun _ _ _ => none) k (zde_ k D j6)
noncomputable def zYc_ (k : Nat) (D : za_) (a_0 : Int) (b_1 : Int) (h : AHeap) : Option ((Int) × AHeap) :=
 zn_ (fun (n1 : Int) (h2 : AHeap) =>
 zn_ (fun (n4 : Int) (h5 : AHeap) =>
 some (n4, h5)) fun j6 =>
 zKe_ k D j6 n1 15 h2) fun j3 =>
 zIm_ k D j3 a_0 b_1 0 0 h
noncomputable def zfo_ : RCode := an (.s .n (.s .n (.s (.j [(5, .i .i64)] (.s .n (.b (.l [(0, .i .i64), (1, .i .i64), (5, .i .i64), (6, .i .i64)] (.s .n (.s (.j [(0, .i .i64), (1, .i .i64), (5, .i .i64), (6, .i .i64)] .n) .n)))))) (.s (.j [(5, .i .i64)] (.s .n (.b (.l [(5, .i .i64), (7, .i .i64)] (.s .n (.s (.j [(5, .i .i64), (7, .i .i64)] .n) .n)))))) .n)))) (rOf Tryz.prog 2 Tryz.f109)
noncomputable def zef_ (k : Nat) (D : za_) : Ent := zq_ 109 [(0, .i .i64), (1, .i .i64)] [(4, .i .i64)] (zYc_ k D)
theorem zvw_ : (Tryz.f109.body).bind (zd_ Tryz.prog 2 Tryz.f109.ntmps) = some (zf_ zfo_) := by kernel_rfl
theorem zWv_ (k : Nat) (D : za_) : curF [(0, .i .i64), (1, .i .i64)] (fun args h => denF (zfw_ k D) k zfo_ [(4, .i .i64)] [none] args h) = zYc_ k D := by kernel_rfl
theorem zng_ {D : za_} (hD : zl_ Tryz.prog 2 D) (k : Nat) : zo_ Tryz.prog 2 (zef_ k D) :=
 zj_ (zi_ hD (zc_.none)) Tryz.func109 rfl zvw_ rfl (zWv_ k D)
end Gz
namespace Gz
open Go Gx Go.Proofs
set_option maxRecDepth 100000
noncomputable def zsx_ (k : Nat) (D : za_) : za_ := mkC D [zef_ k D]
noncomputable def zMe_ (k : Nat) (D : za_) (j2 : AHeap → Option ((Int) × AHeap)) (rec7 : Int → Int → Int → AHeap → Option ((Int) × AHeap)) (a3 : Int) (b4 : Int) (q5 : Int) (h6 : AHeap) : Option ((Int) × AHeap) :=
 (if (decide (q5 < 256)) = true then
 (zYc_ k D q5 b4 h6).bind fun r8 =>
 (if (r8.1 == a3) = true then
 some (q5, r8.2)
 else
 rec7 a3 b4 (IntKind.wrap .i64 (q5 + 1)) r8.2)
 else
 j2 h6)
noncomputable def zRn_ (k : Nat) (D : za_) (j2 : AHeap → Option ((Int) × AHeap)) : Int → Int → Int → AHeap → Option ((Int) × AHeap) :=
 zh_ (α := Int → Int → Int → AHeap → Option ((Int) × AHeap)) (fun _ _ _ _ => none) k (zMe_ k D j2)
noncomputable def zkg_ (k : Nat) (D : za_) (a_0 : Int) (b_1 : Int) (h : AHeap) : Option ((Int) × AHeap) :=
 zn_ (fun (h1 : AHeap) =>
 some (0, h1)) fun j2 =>
 zRn_ k D j2 a_0 b_1 0 h
noncomputable def ztp_ : RCode := an (.s .n (.s (.j [] (.s .n (.b (.l [(0, .i .i64), (1, .i .i64), (5, .i .i64)] .n)))) .n)) (rOf Tryz.prog 2 Tryz.f79)
noncomputable def zmk_ (k : Nat) (D : za_) : Ent := zq_ 79 [(0, .i .i64), (1, .i .i64)] [(4, .i .i64)] (zkg_ k D)
theorem zdy_ : (Tryz.f79.body).bind (zd_ Tryz.prog 2 Tryz.f79.ntmps) = some (zf_ ztp_) := by kernel_rfl
theorem zuy_ (k : Nat) (D : za_) : curF [(0, .i .i64), (1, .i .i64)] (fun args h => denF (zsx_ k D) k ztp_ [(4, .i .i64)] [none] args h) = zkg_ k D := by kernel_rfl
theorem zTn_ {D : za_} (hD : zl_ Tryz.prog 2 D) (k : Nat) : zo_ Tryz.prog 2 (zmk_ k D) :=
 zj_ (zi_ hD (zc_.more (zng_ hD k) (zc_.none))) Tryz.func79 rfl zdy_ rfl (zuy_ k D)
end Gz
namespace Gz
open Go Gx Go.Proofs
set_option maxRecDepth 100000
noncomputable def zUt_ (k : Nat) (D : za_) : za_ := mkC D [znh_ k D, zmk_ k D]
noncomputable def zrd_ (k : Nat) (D : za_) (j41 : Int → Int → (Option Addr) → (Option Addr) → Int → AHeap → Option (((Int × Int × Slc) × Int) × AHeap)) (rec53 : Int → Int → (Option Addr) → (Option Addr) → Int → Int → AHeap → Option (((Int × Int × Slc) × Int) × AHeap)) (kv46 : Int) (m47 : Int) (y48 : Option Addr) (out49 : Option Addr) (j50 : Int) (i51 : Int) (h52 : AHeap) : Option (((Int × Int × Slc) × Int) × AHeap) :=
 (if (decide (i51 < m47)) = true then
 (zkg_ k D 1 (Go.bits .xor .i64 (IntKind.wrap .i64 (kv46 + i51)) j50) h52).bind fun r54 =>
 (out49).bind fun p55 =>
 (ldL (⟨p55.block, p55.off + 2, none⟩ : Addr) r54.2).bind fun x56 =>
 zz_ (zC_ [h52] (fun H58 => (ldL (⟨p55.block, p55.off + 2, none⟩ : Addr) H58).bind fun y57 => some (.slice y57.a y57.len y57.cap)) (.slice x56.a x56.len x56.cap)) (
 let t59 : Int := (IntKind.wrap .i64 ((IntKind.wrap .i64 (kv46 + i51)) * kv46))
 (Gx.idxL 1 x56 (IntKind.wrap .i64 (t59 + j50))).bind fun q60 =>
 (st1 q60 (.int .i64 r54.1) r54.2).bind fun h61 =>
 rec53 kv46 m47 y48 out49 j50 (IntKind.wrap .i64 (i51 + 1)) h61)
 else
 j41 kv46 m47 y48 out49 j50 h52)
noncomputable def zbl_ (k : Nat) (D : za_) (j41 : Int → Int → (Option Addr) → (Option Addr) → Int → AHeap → Option (((Int × Int × Slc) × Int) × AHeap)) : Int → Int → (Option Addr) → (Option Addr) → Int → Int → AHeap → Option (((Int × Int × Slc) × Int) × AHeap) :=
 zh_ (α := Int → Int → (Option Addr) → (Option Addr) → Int → Int → AHeap → Option (((Int × Int × Slc) × Int) × AHeap)) (fun _ _ _ _ _ _ _ => none) k (zrd_ k D j41)
noncomputable def zkd_ (k : Nat) (D : za_) (j19 : (Option Addr) → (Option Addr) → AHeap → Option (((Int × Int × Slc) × Int) × AHeap)) (rec34 : Int → Int → (Option Addr) → (Option Addr) → Int → AHeap → Option (((Int × Int × Slc) × Int) × AHeap)) (kv28 : Int) (m29 : Int) (y30 : Option Addr) (out31 : Option Addr) (j32 : Int) (h33 : AHeap) : Option (((Int × Int × Slc) × Int) × AHeap) :=
 (if (decide (j32 < kv28)) = true then
 zn_ (fun (kv35 : Int) (m36 : Int) (y37 : Option Addr) (out38 : Option Addr) (j39 : Int) (h40 : AHeap) =>
 rec34 kv35 m36 y37 out38 (IntKind.wrap .i64 (j39 + 1)) h40) fun j41 =>
 (out31).bind fun p42 =>
 (ldL (⟨p42.block, p42.off + 2, none⟩ : Addr) h33).bind fun x43 =>
 (Gx.idxL 1 x43 (IntKind.wrap .i64 ((IntKind.wrap .i64 (j32 * kv28)) + j32))).bind fun q44 =>
 (st1 q44 (.int .i64 1) h33).bind fun h45 =>
 zbl_ k D j41 kv28 m29 y30 out31 j32 0 h45
 else
 j19 y30 out31 h33)
noncomputable def zgl_ (k : Nat) (D : za_) (j19 : (Option Addr) → (Option Addr) → AHeap → Option (((Int × Int × Slc) × Int) × AHeap)) : Int → Int → (Option Addr) → (Option Addr) → Int → AHeap → Option (((Int × Int × Slc) × Int) × AHeap) :=
 zh_ (α := Int → Int → (Option Addr) → (Option Addr) → Int → AHeap → Option (((Int × Int × Slc) × Int) × AHeap)) (fun _ _ _ _ _ _ => none) k (zkd_ k D j19)
noncomputable def zbg_ (k : Nat) (D : za_) (k_0 : Int) (m_1 : Int) (h : AHeap) : Option (((Int × Int × Slc) × Int) × AHeap) :=
 let h1 := AHeap.new h (.cells [.int .i64 0, .int .i64 0, .slice none 0 0] 97 true 0)
 zn_ (fun (kv2 : Int) (m3 : Int) (y4 : Option Addr) (y5 : Bool) (h6 : AHeap) =>
 (if y5 = true then
 (y4).bind fun p8 =>
 (stL 3 p8 ([.int .i64 0, .int .i64 0, .slice none 0 0]) h6).bind fun h9 =>
 (y4).bind fun p10 =>
 (ldA 3 p10 h9).bind fun l11 =>
 (decC [.i .i64, .i .i64, .l] l11).bind fun x12 =>
 some (((x12.1, x12.2.1, x12.2.2), 1), h9)
 else
 (zaf_ k D (IntKind.wrap .i64 (kv2 + m3)) kv2 h6).bind fun r13 =>
 let h14 := AHeap.new r13.2 (.cells [.int .i64 0, .int .i64 0, .slice none 0 0] 97 true 0)
 (stL 3 (⟨r13.2.next, 0, none⟩ : Addr) ([.int .i64 r13.1.1, .int .i64 r13.1.2.1, .slice r13.1.2.2.a r13.1.2.2.len r13.1.2.2.cap]) h14).bind fun h15 =>
 zn_ (fun (y16 : Option Addr) (out17 : Option Addr) (h18 : AHeap) =>
 (out17).bind fun p20 =>
 (ldA 3 p20 h18).bind fun l21 =>
 (decC [.i .i64, .i .i64, .l] l21).bind fun x22 =>
 (y16).bind fun p23 =>
 (stL 3 p23 ([.int .i64 x22.1, .int .i64 x22.2.1, .slice x22.2.2.a x22.2.2.len x22.2.2.cap]) h18).bind fun h24 =>
 (y16).bind fun p25 =>
 (ldA 3 p25 h24).bind fun l26 =>
 (decC [.i .i64, .i .i64, .l] l26).bind fun x27 =>
 some (((x27.1, x27.2.1, x27.2.2), 0), h24)) fun j19 =>
 zgl_ k D j19 kv2 m3 y4 (some (⟨r13.2.next, 0, none⟩ : Addr)) 0 h15)) fun j7 =>
 (if (decide (k_0 < 1)) = true then
 j7 k_0 m_1 (some (⟨h.next, 0, none⟩ : Addr)) true h1
 else
 (if (decide (m_1 < 0)) = true then
 j7 k_0 m_1 (some (⟨h.next, 0, none⟩ : Addr)) true h1
 else
 (if (decide (k_0 > 255)) = true then
 j7 k_0 m_1 (some (⟨h.next, 0, none⟩ : Addr)) true h1
 else
 j7 k_0 m_1 (some (⟨h.next, 0, none⟩ : Addr)) (decide (m_1 > (IntKind.wrap .i64 (255 - k_0)))) h1)))
noncomputable def zNm_ : RCode := an (.s .n (.s (.s (.j [(0, .i .i64), (1, .i .i64), (4, .p), (24, .b)] .n) .n) (.s .n (.s (.j [(4, .p), (6, .p)] (.s .n (.b (.l [(0, .i .i64), (1, .i .i64), (4, .p), (6, .p), (7, .i .i64)] (.s .n (.s (.j [(0, .i .i64), (1, .i .i64), (4, .p), (6, .p), (7, .i .i64)] (.b (.s .n (.s .n (.b (.l [(0, .i .i64), (1, .i .i64), (4, .p), (6, .p), (7, .i .i64), (8, .i .i64)] .n)))))) .n)))))) (.s (.r [(0, .st [.i .i64, .i .i64, .l])]) .n))))) (rOf Tryz.prog 2 Tryz.f47)
noncomputable def znm_ (k : Nat) (D : za_) : Ent := zq_ 47 [(0, .i .i64), (1, .i .i64)] [(4, .st [.i .i64, .i .i64, .l]), (5, .i .i64)] (zbg_ k D)
theorem zau_ : (Tryz.f47.body).bind (zd_ Tryz.prog 2 Tryz.f47.ntmps) = some (zf_ zNm_) := by kernel_rfl
theorem zMt_ (k : Nat) (D : za_) : curF [(0, .i .i64), (1, .i .i64)] (fun args h => denF (zUt_ k D) k zNm_ [(4, .st [.i .i64, .i .i64, .l]), (5, .i .i64)] [some (.agg 3), none] args h) = zbg_ k D := by kernel_rfl
theorem zks_ {D : za_} (hD : zl_ Tryz.prog 2 D) (k : Nat) : zo_ Tryz.prog 2 (znm_ k D) :=
 zj_ (zi_ hD (zc_.more (zmj_ hD k) (zc_.more (zTn_ hD k) (zc_.none)))) Tryz.func47 rfl zau_ rfl (zMt_ k D)
end Gz
namespace Gz
open Go Gx Go.Proofs
set_option maxRecDepth 100000
noncomputable def zTz_ (k : Nat) (D : za_) : za_ := mkC D [znm_ k D]
noncomputable def zWi_ (k : Nat) (D : za_) (k_0 : Int) (m_1 : Int) (h : AHeap) : Option (((Option Addr) × Int) × AHeap) :=
 (zbg_ k D k_0 m_1 h).bind fun r1 =>
 let h2 := AHeap.new r1.2 (.cells [.int .i64 0, .int .i64 0, .slice none 0 0] 97 true 0)
 (stL 3 (⟨r1.2.next, 0, none⟩ : Addr) ([.int .i64 r1.1.1.1, .int .i64 r1.1.1.2.1, .slice r1.1.1.2.2.a r1.1.1.2.2.len r1.1.1.2.2.cap]) h2).bind fun h3 =>
 (if (r1.1.2 != 0) = true then
 some ((none, r1.1.2), h3)
 else
 (ldA 3 (⟨r1.2.next, 0, none⟩ : Addr) h3).bind fun l4 =>
 (decC [.i .i64, .i .i64, .l] l4).bind fun x5 =>
 let h6 := AHeap.new h3 (.cells [.int .i64 k_0, .int .i64 m_1, .int .i64 x5.1, .int .i64 x5.2.1, .slice x5.2.2.a x5.2.2.len x5.2.2.cap] 101 true 0)
 some (((some (⟨h3.next, 0, none⟩ : Addr)), 0), h6))
noncomputable def zyr_ : RCode := an (.s .n (.s .n (.s .n (.s (.r [(2, .st [.i .i64, .i .i64, .l])]) .n)))) (rOf Tryz.prog 2 Tryz.f23)
noncomputable def zwr_ (k : Nat) (D : za_) : Ent := zq_ 23 [(0, .i .i64), (1, .i .i64)] [(4, .p), (5, .i .i64)] (zWi_ k D)
theorem zez_ : (Tryz.f23.body).bind (zd_ Tryz.prog 2 Tryz.f23.ntmps) = some (zf_ zyr_) := by kernel_rfl
theorem zZz_ (k : Nat) (D : za_) : curF [(0, .i .i64), (1, .i .i64)] (fun args h => denF (zTz_ k D) k zyr_ [(4, .p), (5, .i .i64)] [none, none] args h) = zWi_ k D := by kernel_rfl
theorem zhy_ {D : za_} (hD : zl_ Tryz.prog 2 D) (k : Nat) : zo_ Tryz.prog 2 (zwr_ k D) :=
 zj_ (zi_ hD (zc_.more (zks_ hD k) (zc_.none))) Tryz.func23 rfl zez_ rfl (zZz_ k D)
end Gz
namespace Gz
open Go Gx Go.Proofs
set_option maxRecDepth 100000
noncomputable def zlx_ (_k : Nat) (D : za_) : za_ := mkC D []
noncomputable def zVe_ (_k : Nat) (_D : za_) (k_0 : Int) (long_1 : Int) (h : AHeap) : Option ((Int) × AHeap) :=
 (if k_0 = 0 then none else
 let t1 : Int := (IntKind.wrap .i64 (Int.tdiv (IntKind.wrap .i64 ((IntKind.wrap .i64 (long_1 + k_0)) - 1)) k_0))
 some (t1, h))
noncomputable def zNp_ : RCode := an (.n) (rOf Tryz.prog 2 Tryz.f56)
noncomputable def zyk_ (k : Nat) (D : za_) : Ent := zq_ 56 [(0, .i .i64), (1, .i .i64)] [(4, .i .i64)] (zVe_ k D)
theorem zYw_ : (Tryz.f56.body).bind (zd_ Tryz.prog 2 Tryz.f56.ntmps) = some (zf_ zNp_) := by kernel_rfl
theorem zjx_ (k : Nat) (D : za_) : curF [(0, .i .i64), (1, .i .i64)] (fun args h => denF (zlx_ k D) k zNp_ [(4, .i .i64)] [none] args h) = zVe_ k D := by kernel_rfl
theorem zPn_ {D : za_} (hD : zl_ Tryz.prog 2 D) (k : Nat) : zo_ Tryz.prog 2 (zyk_ k D) :=
 zj_ (zi_ hD (zc_.none)) Tryz.func56 rfl zYw_ rfl (zjx_ k D)
end Gz
namespace Gz
open Go Gx Go.Proofs
set_option maxRecDepth 100000
end Gz
namespace Gz
open Go Gx Go.Proofs
set_option maxRecDepth 100000
end Gz
namespace Gz
open Go Gx Go.Proofs
set_option maxRecDepth 100000
noncomputable def zXA_ (_k : Nat) (D : za_) : za_ := mkC D []
noncomputable def zck_ (_k : Nat) (_D : za_) (a_0 : Int) (h : AHeap) : Option ((Bool) × AHeap) :=
 (if (decide (a_0 ≥ 0)) = true then
 some ((decide (a_0 < 256)), h)
 else
 some (false, h))
noncomputable def zzt_ : RCode := an (.n) (rOf Tryz.prog 2 Tryz.f97)
noncomputable def zAt_ (k : Nat) (D : za_) : Ent := zq_ 97 [(0, .i .i64)] [(2, .b)] (zck_ k D)
theorem zkB_ : (Tryz.f97.body).bind (zd_ Tryz.prog 2 Tryz.f97.ntmps) = some (zf_ zzt_) := by kernel_rfl
theorem zMB_ (k : Nat) (D : za_) : curF [(0, .i .i64)] (fun args h => denF (zXA_ k D) k zzt_ [(2, .b)] [none] args h) = zck_ k D := by kernel_rfl
theorem zBz_ {D : za_} (hD : zl_ Tryz.prog 2 D) (k : Nat) : zo_ Tryz.prog 2 (zAt_ k D) :=
 zj_ (zi_ hD (zc_.none)) Tryz.func97 rfl zkB_ rfl (zMB_ k D)
end Gz
namespace Gz
open Go Gx Go.Proofs
set_option maxRecDepth 100000
noncomputable def zHB_ (k : Nat) (D : za_) : za_ := mkC D [zef_ k D]
noncomputable def zJf_ (k : Nat) (D : za_) (j4 : Slc → AHeap → Option ((ByteArray) × AHeap)) (rec11 : ByteArray → Int → Slc → Int → AHeap → Option ((ByteArray) × AHeap)) (s6 : ByteArray) (c7 : Int) (out8 : Slc) (i9 : Int) (h10 : AHeap) : Option ((ByteArray) × AHeap) :=
 (if (decide (i9 < (s6.size : Int))) = true then
 (Gx.idxS s6 i9).bind fun b12 =>
 (zYc_ k D (IntKind.wrap .i64 b12) c7 h10).bind fun r13 =>
 (Gx.idxL 1 out8 i9).bind fun q14 =>
 (st1 q14 (.int .u8 (IntKind.wrap .u8 r13.1)) r13.2).bind fun h15 =>
 rec11 s6 c7 out8 (IntKind.wrap .i64 (i9 + 1)) h15
 else
 j4 out8 h10)
noncomputable def zul_ (k : Nat) (D : za_) (j4 : Slc → AHeap → Option ((ByteArray) × AHeap)) : ByteArray → Int → Slc → Int → AHeap → Option ((ByteArray) × AHeap) :=
 zh_ (α := ByteArray → Int → Slc → Int → AHeap → Option ((ByteArray) × AHeap)) (fun _ _ _ _ _ => none) k (zJf_ k D j4)
noncomputable def zqk_ (k : Nat) (D : za_) (s_0 : ByteArray) (c_1 : Int) (h : AHeap) : Option ((ByteArray) × AHeap) :=
 (if 0 ≤ (s_0.size : Int) ∧ (s_0.size : Int) ≤ (s_0.size : Int) ∧ (s_0.size : Int) ≤ 281474976710656 ∧ 1 * (s_0.size : Int) ≤ 281474976710656 then
 let h1 := AHeap.new h (.cells (zw_ ((s_0.size : Int)).toNat [.int .u8 0]) 5 true 0)
 zn_ (fun (out2 : Slc) (h3 : AHeap) =>
 (zXb_ h3 out2).bind fun s5 =>
 some (s5, h3)) fun j4 =>
 zul_ k D j4 s_0 c_1 (⟨(some ⟨h.next, 0, some 0⟩), ((s_0.size : Int)).toNat, ((s_0.size : Int)).toNat⟩ : Slc) 0 h1
 else none)
noncomputable def zjs_ : RCode := an (.s .n (.s .n (.s (.j [(5, .l)] (.s .n (.b (.l [(0, .s), (1, .i .i64), (5, .l), (6, .i .i64)] .n)))) .n))) (rOf Tryz.prog 2 Tryz.f99)
noncomputable def zpt_ (k : Nat) (D : za_) : Ent := zq_ 99 [(0, .s), (1, .i .i64)] [(4, .s)] (zqk_ k D)
theorem zAB_ : (Tryz.f99.body).bind (zd_ Tryz.prog 2 Tryz.f99.ntmps) = some (zf_ zjs_) := by kernel_rfl
theorem zkC_ (k : Nat) (D : za_) : curF [(0, .s), (1, .i .i64)] (fun args h => denF (zHB_ k D) k zjs_ [(4, .s)] [none] args h) = zqk_ k D := by kernel_rfl
theorem zvz_ {D : za_} (hD : zl_ Tryz.prog 2 D) (k : Nat) : zo_ Tryz.prog 2 (zpt_ k D) :=
 zj_ (zi_ hD (zc_.more (zng_ hD k) (zc_.none))) Tryz.func99 rfl zAB_ rfl (zkC_ k D)
end Gz
namespace Gz
open Go Gx Go.Proofs
set_option maxRecDepth 100000
noncomputable def zhz_ (_k : Nat) (D : za_) : za_ := mkC D []
noncomputable def zlf_ (_k : Nat) (_D : za_) (j4 : Slc → AHeap → Option ((ByteArray × Int) × AHeap)) (rec11 : ByteArray → ByteArray → Slc → Int → AHeap → Option ((ByteArray × Int) × AHeap)) (a6 : ByteArray) (b7 : ByteArray) (out8 : Slc) (i9 : Int) (h10 : AHeap) : Option ((ByteArray × Int) × AHeap) :=
 (if (decide (i9 < (a6.size : Int))) = true then
 (Gx.idxS a6 i9).bind fun b12 =>
 (Gx.idxS b7 i9).bind fun b13 =>
 (Gx.idxL 1 out8 i9).bind fun q14 =>
 (st1 q14 (.int .u8 (Go.bits .xor .u8 b12 b13)) h10).bind fun h15 =>
 rec11 a6 b7 out8 (IntKind.wrap .i64 (i9 + 1)) h15
 else
 j4 out8 h10)
noncomputable def zCk_ (k : Nat) (D : za_) (j4 : Slc → AHeap → Option ((ByteArray × Int) × AHeap)) : ByteArray → ByteArray → Slc → Int → AHeap → Option ((ByteArray × Int) × AHeap) :=
 zh_ (α := ByteArray → ByteArray → Slc → Int → AHeap → Option ((ByteArray × Int) × AHeap)) (fun _ _ _ _ _ => none) k (zlf_ k D j4)
noncomputable def zMi_ (k : Nat) (D : za_) (a_0 : ByteArray) (b_1 : ByteArray) (h : AHeap) : Option ((ByteArray × Int) × AHeap) :=
 (if ((a_0.size : Int) != (b_1.size : Int)) = true then
 some (((⟨#[]⟩ : ByteArray), 4), h)
 else
 (if 0 ≤ (a_0.size : Int) ∧ (a_0.size : Int) ≤ (a_0.size : Int) ∧ (a_0.size : Int) ≤ 281474976710656 ∧ 1 * (a_0.size : Int) ≤ 281474976710656 then
 let h1 := AHeap.new h (.cells (zw_ ((a_0.size : Int)).toNat [.int .u8 0]) 5 true 0)
 zn_ (fun (out2 : Slc) (h3 : AHeap) =>
 (zXb_ h3 out2).bind fun s5 =>
 some ((s5, 0), h3)) fun j4 =>
 zCk_ k D j4 a_0 b_1 (⟨(some ⟨h.next, 0, some 0⟩), ((a_0.size : Int)).toNat, ((a_0.size : Int)).toNat⟩ : Slc) 0 h1
 else none))
noncomputable def zpr_ : RCode := an (.s .n (.s .n (.s .n (.s (.j [(6, .l)] (.s .n (.b (.l [(0, .s), (1, .s), (6, .l), (7, .i .i64)] .n)))) .n)))) (rOf Tryz.prog 2 Tryz.f98)
noncomputable def zFr_ (k : Nat) (D : za_) : Ent := zq_ 98 [(0, .s), (1, .s)] [(4, .s), (5, .i .i64)] (zMi_ k D)
theorem zwz_ : (Tryz.f98.body).bind (zd_ Tryz.prog 2 Tryz.f98.ntmps) = some (zf_ zpr_) := by kernel_rfl
theorem zoz_ (k : Nat) (D : za_) : curF [(0, .s), (1, .s)] (fun args h => denF (zhz_ k D) k zpr_ [(4, .s), (5, .i .i64)] [none, none] args h) = zMi_ k D := by kernel_rfl
theorem zMx_ {D : za_} (hD : zl_ Tryz.prog 2 D) (k : Nat) : zo_ Tryz.prog 2 (zFr_ k D) :=
 zj_ (zi_ hD (zc_.none)) Tryz.func98 rfl zwz_ rfl (zoz_ k D)
end Gz
namespace Gz
open Go Gx Go.Proofs
set_option maxRecDepth 100000
noncomputable def zaA_ (k : Nat) (D : za_) : za_ := mkC D [zpt_ k D, zFr_ k D, zAt_ k D]
noncomputable def zrf_ (_k : Nat) (_D : za_) (j4 : Slc → Slc → AHeap → Option ((ByteArray × Int) × AHeap)) (rec40 : Slc → Slc → Int → AHeap → Option ((ByteArray × Int) × AHeap)) (l36 : Slc) (c37 : Slc) (i38 : Int) (h39 : AHeap) : Option ((ByteArray × Int) × AHeap) :=
 (if (decide (i38 < (l36.len : Int))) = true then
 (Gx.idxL 1 l36 i38).bind fun q41 =>
 (ldS q41 h39).bind fun x42 =>
 (Gx.idxL 1 l36 0).bind fun q43 =>
 (ldS q43 h39).bind fun x44 =>
 (if ((x42.size : Int) != (x44.size : Int)) = true then
 some (((⟨#[]⟩ : ByteArray), 4), h39)
 else
 rec40 l36 c37 (IntKind.wrap .i64 (i38 + 1)) h39)
 else
 j4 l36 c37 h39)
noncomputable def zDk_ (k : Nat) (D : za_) (j4 : Slc → Slc → AHeap → Option ((ByteArray × Int) × AHeap)) : Slc → Slc → Int → AHeap → Option ((ByteArray × Int) × AHeap) :=
 zh_ (α := Slc → Slc → Int → AHeap → Option ((ByteArray × Int) × AHeap)) (fun _ _ _ _ => none) k (zrf_ k D j4)
noncomputable def zif_ (k : Nat) (D : za_) (j8 : Slc → Slc → AHeap → Option ((ByteArray × Int) × AHeap)) (rec32 : Slc → Slc → Int → AHeap → Option ((ByteArray × Int) × AHeap)) (l28 : Slc) (c29 : Slc) (i30 : Int) (h31 : AHeap) : Option ((ByteArray × Int) × AHeap) :=
 (if (decide (i30 < (c29.len : Int))) = true then
 (Gx.idxL 1 c29 i30).bind fun q33 =>
 (ldI .i64 q33 h31).bind fun x34 =>
 (zck_ k D x34 h31).bind fun r35 =>
 (if (!r35.1) = true then
 some (((⟨#[]⟩ : ByteArray), 1), r35.2)
 else
 rec32 l28 c29 (IntKind.wrap .i64 (i30 + 1)) r35.2)
 else
 j8 l28 c29 h31)
noncomputable def zfk_ (k : Nat) (D : za_) (j8 : Slc → Slc → AHeap → Option ((ByteArray × Int) × AHeap)) : Slc → Slc → Int → AHeap → Option ((ByteArray × Int) × AHeap) :=
 zh_ (α := Slc → Slc → Int → AHeap → Option ((ByteArray × Int) × AHeap)) (fun _ _ _ _ => none) k (zif_ k D j8)
noncomputable def zgf_ (k : Nat) (D : za_) (j15 : ByteArray → AHeap → Option ((ByteArray × Int) × AHeap)) (rec21 : Slc → Slc → ByteArray → Int → AHeap → Option ((ByteArray × Int) × AHeap)) (l16 : Slc) (c17 : Slc) (out18 : ByteArray) (i19 : Int) (h20 : AHeap) : Option ((ByteArray × Int) × AHeap) :=
 (if (decide (i19 < (l16.len : Int))) = true then
 (Gx.idxL 1 l16 i19).bind fun q22 =>
 (ldS q22 h20).bind fun x23 =>
 (Gx.idxL 1 c17 i19).bind fun q24 =>
 (ldI .i64 q24 h20).bind fun x25 =>
 (zqk_ k D x23 x25 h20).bind fun r26 =>
 (zMi_ k D out18 r26.1 r26.2).bind fun r27 =>
 rec21 l16 c17 r27.1.1 (IntKind.wrap .i64 (i19 + 1)) r27.2
 else
 j15 out18 h20)
noncomputable def zKo_ (k : Nat) (D : za_) (j15 : ByteArray → AHeap → Option ((ByteArray × Int) × AHeap)) : Slc → Slc → ByteArray → Int → AHeap → Option ((ByteArray × Int) × AHeap) :=
 zh_ (α := Slc → Slc → ByteArray → Int → AHeap → Option ((ByteArray × Int) × AHeap)) (fun _ _ _ _ _ => none) k (zgf_ k D j15)
noncomputable def zYi_ (k : Nat) (D : za_) (l_0 : Slc) (c_1 : Slc) (h : AHeap) : Option ((ByteArray × Int) × AHeap) :=
 (if ((l_0.len : Int) != (c_1.len : Int)) = true then
 some (((⟨#[]⟩ : ByteArray), 4), h)
 else
 zn_ (fun (l1 : Slc) (c2 : Slc) (h3 : AHeap) =>
 zn_ (fun (l5 : Slc) (c6 : Slc) (h7 : AHeap) =>
 (if ((l5.len : Int) == 0) = true then
 some (((⟨#[]⟩ : ByteArray), 0), h7)
 else
 (Gx.idxL 1 l5 0).bind fun q9 =>
 (ldS q9 h7).bind fun x10 =>
 (if 0 ≤ (x10.size : Int) ∧ (x10.size : Int) ≤ (x10.size : Int) ∧ (x10.size : Int) ≤ 281474976710656 ∧ 1 * (x10.size : Int) ≤ 281474976710656 then
 let h11 := AHeap.new h7 (.cells (zw_ ((x10.size : Int)).toNat [.int .u8 0]) 5 true 0)
 (zXb_ h11 (⟨(some ⟨h7.next, 0, some 0⟩), ((x10.size : Int)).toNat, ((x10.size : Int)).toNat⟩ : Slc)).bind fun s12 =>
 zn_ (fun (out13 : ByteArray) (h14 : AHeap) =>
 some ((out13, 0), h14)) fun j15 =>
 zKo_ k D j15 l5 c6 s12 0 h11
 else none))) fun j8 =>
 zfk_ k D j8 l1 c2 0 h3) fun j4 =>
 zDk_ k D j4 l_0 c_1 0 h)
noncomputable def zIr_ : RCode := an (.s .n (.s .n (.s (.j [(0, .l), (1, .l)] (.s .n (.b (.l [(0, .l), (1, .l), (6, .i .i64)] .n)))) (.s (.j [(0, .l), (1, .l)] (.s .n (.b (.l [(0, .l), (1, .l), (7, .i .i64)] .n)))) (.s .n (.s .n (.s (.j [(8, .s)] (.s .n (.b (.l [(0, .l), (1, .l), (8, .s), (9, .i .i64)] .n)))) .n))))))) (rOf Tryz.prog 2 Tryz.f61)
noncomputable def zKr_ (k : Nat) (D : za_) : Ent := zq_ 61 [(0, .l), (1, .l)] [(4, .s), (5, .i .i64)] (zYi_ k D)
theorem zUz_ : (Tryz.f61.body).bind (zd_ Tryz.prog 2 Tryz.f61.ntmps) = some (zf_ zIr_) := by kernel_rfl
theorem zcz_ (k : Nat) (D : za_) : curF [(0, .l), (1, .l)] (fun args h => denF (zaA_ k D) k zIr_ [(4, .s), (5, .i .i64)] [none, none] args h) = zYi_ k D := by kernel_rfl
theorem zyx_ {D : za_} (hD : zl_ Tryz.prog 2 D) (k : Nat) : zo_ Tryz.prog 2 (zKr_ k D) :=
 zj_ (zi_ hD (zc_.more (zvz_ hD k) (zc_.more (zMx_ hD k) (zc_.more (zBz_ hD k) (zc_.none))))) Tryz.func61 rfl zUz_ rfl (zcz_ k D)
end Gz
namespace Gz
open Go Gx Go.Proofs
set_option maxRecDepth 100000
end Gz
namespace Gz
open Go Gx Go.Proofs
set_option maxRecDepth 100000
end Gz
namespace Gz
open Go Gx Go.Proofs
set_option maxRecDepth 100000
noncomputable def zSv_ (_k : Nat) (D : za_) : za_ := mkC D []
noncomputable def zCc_ (_k : Nat) (_D : za_) (j9 : Slc → AHeap → Option ((ByteArray × Int) × AHeap)) (rec15 : Int → Slc → Int → AHeap → Option ((ByteArray × Int) × AHeap)) (n11 : Int) (b12 : Slc) (i13 : Int) (h14 : AHeap) : Option ((ByteArray × Int) × AHeap) :=
 (if (decide (i13 ≥ 0)) = true then
 (Gx.idxL 1 b12 i13).bind fun q16 =>
 (st1 q16 (.int .u8 (IntKind.wrap .u8 n11)) h14).bind fun h17 =>
 rec15 (IntKind.wrap .i64 (Int.tdiv n11 256)) b12 (IntKind.wrap .i64 (i13 - 1)) h17
 else
 j9 b12 h14)
noncomputable def zri_ (k : Nat) (D : za_) (j9 : Slc → AHeap → Option ((ByteArray × Int) × AHeap)) : Int → Slc → Int → AHeap → Option ((ByteArray × Int) × AHeap) :=
 zh_ (α := Int → Slc → Int → AHeap → Option ((ByteArray × Int) × AHeap)) (fun _ _ _ _ => none) k (zCc_ k D j9)
noncomputable def zBg_ (k : Nat) (D : za_) (n_0 : Int) (bytes_1 : Int) (h : AHeap) : Option ((ByteArray × Int) × AHeap) :=
 zn_ (fun (n1 : Int) (bytes2 : Int) (y3 : Bool) (h4 : AHeap) =>
 (if y3 = true then
 some (((⟨#[]⟩ : ByteArray), 1), h4)
 else
 (if 0 ≤ bytes2 ∧ bytes2 ≤ bytes2 ∧ bytes2 ≤ 281474976710656 ∧ 1 * bytes2 ≤ 281474976710656 then
 let h6 := AHeap.new h4 (.cells (zw_ (bytes2).toNat [.int .u8 0]) 5 true 0)
 zn_ (fun (b7 : Slc) (h8 : AHeap) =>
 (zXb_ h8 b7).bind fun s10 =>
 some ((s10, 0), h8)) fun j9 =>
 zri_ k D j9 n1 (⟨(some ⟨h4.next, 0, some 0⟩), (bytes2).toNat, (bytes2).toNat⟩ : Slc) (IntKind.wrap .i64 (bytes2 - 1)) h6
 else none))) fun j5 =>
 (if (decide (bytes_1 < 1)) = true then
 j5 n_0 bytes_1 true h
 else
 (if (decide (bytes_1 > 8)) = true then
 j5 n_0 bytes_1 true h
 else
 (if (decide (n_0 < 0)) = true then
 j5 n_0 bytes_1 true h
 else
 (if (decide (bytes_1 < 8)) = true then
 (if 0 ≤ (IntKind.wrap .i64 (8 * bytes_1)) then
 let t18 : Int := (Int.fdiv n_0 (2 ^ (min ((IntKind.wrap .i64 (8 * bytes_1))).toNat (IntKind.bits .i64))))
 j5 n_0 bytes_1 (t18 != 0) h
 else none)
 else
 j5 n_0 bytes_1 false h))))
noncomputable def zYn_ : RCode := an (.s .n (.s (.s (.j [(0, .i .i64), (1, .i .i64), (28, .b)] .n) .n) (.s .n (.s (.j [(6, .l)] (.s .n (.b (.l [(0, .i .i64), (6, .l), (7, .i .i64)] .n)))) .n)))) (rOf Tryz.prog 2 Tryz.f82)
noncomputable def zso_ (k : Nat) (D : za_) : Ent := zq_ 82 [(0, .i .i64), (1, .i .i64)] [(4, .s), (5, .i .i64)] (zBg_ k D)
theorem zqw_ : (Tryz.f82.body).bind (zd_ Tryz.prog 2 Tryz.f82.ntmps) = some (zf_ zYn_) := by kernel_rfl
theorem zpw_ (k : Nat) (D : za_) : curF [(0, .i .i64), (1, .i .i64)] (fun args h => denF (zSv_ k D) k zYn_ [(4, .s), (5, .i .i64)] [none, none] args h) = zBg_ k D := by kernel_rfl
theorem zIu_ {D : za_} (hD : zl_ Tryz.prog 2 D) (k : Nat) : zo_ Tryz.prog 2 (zso_ k D) :=
 zj_ (zi_ hD (zc_.none)) Tryz.func82 rfl zqw_ rfl (zpw_ k D)
end Gz
namespace Gz
open Go Gx Go.Proofs
set_option maxRecDepth 100000
noncomputable def zkx_ (k : Nat) (D : za_) : za_ := mkC D [zso_ k D]
noncomputable def zhe_ (k : Nat) (D : za_) (n_0 : Int) (bytes_1 : Int) (h : AHeap) : Option ((ByteArray) × AHeap) :=
 (zBg_ k D n_0 bytes_1 h).bind fun r1 =>
 some (r1.1.1, r1.2)
noncomputable def zfq_ : RCode := an (.n) (rOf Tryz.prog 2 Tryz.f49)
noncomputable def zTo_ (k : Nat) (D : za_) : Ent := zq_ 49 [(0, .i .i64), (1, .i .i64)] [(4, .s)] (zhe_ k D)
theorem zPw_ : (Tryz.f49.body).bind (zd_ Tryz.prog 2 Tryz.f49.ntmps) = some (zf_ zfq_) := by kernel_rfl
theorem zOy_ (k : Nat) (D : za_) : curF [(0, .i .i64), (1, .i .i64)] (fun args h => denF (zkx_ k D) k zfq_ [(4, .s)] [none] args h) = zhe_ k D := by kernel_rfl
theorem zsw_ {D : za_} (hD : zl_ Tryz.prog 2 D) (k : Nat) : zo_ Tryz.prog 2 (zTo_ k D) :=
 zj_ (zi_ hD (zc_.more (zIu_ hD k) (zc_.none))) Tryz.func49 rfl zPw_ rfl (zOy_ k D)
end Gz
namespace Gz
open Go Gx Go.Proofs
set_option maxRecDepth 100000
noncomputable def zgz_ (_k : Nat) (D : za_) : za_ := mkC D []
noncomputable def zpf_ (_k : Nat) (_D : za_) (j3 : Int → AHeap → Option ((Int) × AHeap)) (rec8 : ByteArray → Int → Int → AHeap → Option ((Int) × AHeap)) (s4 : ByteArray) (n5 : Int) (i6 : Int) (h7 : AHeap) : Option ((Int) × AHeap) :=
 (if (decide (i6 < (s4.size : Int))) = true then
 (Gx.idxS s4 i6).bind fun b9 =>
 let t10 : Int := (IntKind.wrap .i64 ((IntKind.wrap .i64 (n5 * 256)) + (IntKind.wrap .i64 b9)))
 rec8 s4 t10 (IntKind.wrap .i64 (i6 + 1)) h7
 else
 j3 n5 h7)
noncomputable def zZo_ (k : Nat) (D : za_) (j3 : Int → AHeap → Option ((Int) × AHeap)) : ByteArray → Int → Int → AHeap → Option ((Int) × AHeap) :=
 zh_ (α := ByteArray → Int → Int → AHeap → Option ((Int) × AHeap)) (fun _ _ _ _ => none) k (zpf_ k D j3)
noncomputable def zej_ (k : Nat) (D : za_) (s_0 : ByteArray) (h : AHeap) : Option ((Int) × AHeap) :=
 zn_ (fun (n1 : Int) (h2 : AHeap) =>
 some (n1, h2)) fun j3 =>
 zZo_ k D j3 s_0 0 0 h
noncomputable def zsr_ : RCode := an (.s .n (.s .n (.s (.j [(3, .i .i64)] (.s .n (.b (.l [(0, .s), (3, .i .i64), (4, .i .i64)] .n)))) .n))) (rOf Tryz.prog 2 Tryz.f110)
noncomputable def zrr_ (k : Nat) (D : za_) : Ent := zq_ 110 [(0, .s)] [(2, .i .i64)] (zej_ k D)
theorem zpz_ : (Tryz.f110.body).bind (zd_ Tryz.prog 2 Tryz.f110.ntmps) = some (zf_ zsr_) := by kernel_rfl
theorem zqz_ (k : Nat) (D : za_) : curF [(0, .s)] (fun args h => denF (zgz_ k D) k zsr_ [(2, .i .i64)] [none] args h) = zej_ k D := by kernel_rfl
theorem zKx_ {D : za_} (hD : zl_ Tryz.prog 2 D) (k : Nat) : zo_ Tryz.prog 2 (zrr_ k D) :=
 zj_ (zi_ hD (zc_.none)) Tryz.func110 rfl zpz_ rfl (zqz_ k D)
end Gz
namespace Gz
open Go Gx Go.Proofs
set_option maxRecDepth 100000
noncomputable def zXx_ (_k : Nat) (D : za_) : za_ := mkC D []
noncomputable def zob_ (_k : Nat) (_D : za_) (x_0 : Int) (n_1 : Int) (h : AHeap) : Option ((Int) × AHeap) :=
 (if 0 ≤ n_1 then
 (if 0 ≤ (IntKind.wrap .i64 (32 - n_1)) then
 let t1 : Int := (IntKind.wrap .u32 (x_0 * 2 ^ (min ((IntKind.wrap .i64 (32 - n_1))).toNat (IntKind.bits .u32))))
 let t2 : Int := (Go.bits .or .u32 (Int.fdiv x_0 (2 ^ (min (n_1).toNat (IntKind.bits .u32)))) t1)
 some (t2, h)
 else none)
 else none)
noncomputable def zSp_ : RCode := an (.n) (rOf Tryz.prog 2 Tryz.f85)
noncomputable def zik_ (k : Nat) (D : za_) : Ent := zq_ 85 [(0, .i .u32), (1, .i .i64)] [(4, .i .u32)] (zob_ k D)
theorem zXy_ : (Tryz.f85.body).bind (zd_ Tryz.prog 2 Tryz.f85.ntmps) = some (zf_ zSp_) := by kernel_rfl
theorem zfx_ (k : Nat) (D : za_) : curF [(0, .i .u32), (1, .i .i64)] (fun args h => denF (zXx_ k D) k zSp_ [(4, .i .u32)] [none] args h) = zob_ k D := by kernel_rfl
theorem zQn_ {D : za_} (hD : zl_ Tryz.prog 2 D) (k : Nat) : zo_ Tryz.prog 2 (zik_ k D) :=
 zj_ (zi_ hD (zc_.none)) Tryz.func85 rfl zXy_ rfl (zfx_ k D)
end Gz
namespace Gz
open Go Gx Go.Proofs
set_option maxRecDepth 100000
noncomputable def zrw_ (k : Nat) (D : za_) : za_ := mkC D [zik_ k D, zrr_ k D]
noncomputable def zSd_ (k : Nat) (D : za_) (j6 : (Option Addr) → (Option Addr) → AHeap → Option (((List Value)) × AHeap)) (rec54 : ByteArray → (Option Addr) → (Option Addr) → Int → AHeap → Option (((List Value)) × AHeap)) (s49 : ByteArray) (y50 : Option Addr) (w51 : Option Addr) (i52 : Int) (h53 : AHeap) : Option (((List Value)) × AHeap) :=
 (if (decide (i52 < 16)) = true then
 (Gx.subS s49 (some (IntKind.wrap .i64 (4 * i52))) (some (IntKind.wrap .i64 ((IntKind.wrap .i64 (4 * i52)) + 4)))).bind fun s55 =>
 (zej_ k D s55 h53).bind fun r56 =>
 (w51).bind fun p58 =>
 (Gx.idxA 64 1 p58 i52).bind fun q57 =>
 (st1 q57 (.int .u32 (IntKind.wrap .u32 r56.1)) r56.2).bind fun h59 =>
 rec54 s49 y50 w51 (IntKind.wrap .i64 (i52 + 1)) h59
 else
 j6 y50 w51 h53)
noncomputable def zVl_ (k : Nat) (D : za_) (j6 : (Option Addr) → (Option Addr) → AHeap → Option (((List Value)) × AHeap)) : ByteArray → (Option Addr) → (Option Addr) → Int → AHeap → Option (((List Value)) × AHeap) :=
 zh_ (α := ByteArray → (Option Addr) → (Option Addr) → Int → AHeap → Option (((List Value)) × AHeap)) (fun _ _ _ _ _ => none) k (zSd_ k D j6)
noncomputable def zee_ (k : Nat) (D : za_) (j10 : (Option Addr) → (Option Addr) → AHeap → Option (((List Value)) × AHeap)) (rec22 : (Option Addr) → (Option Addr) → Int → AHeap → Option (((List Value)) × AHeap)) (y18 : Option Addr) (w19 : Option Addr) (i20 : Int) (h21 : AHeap) : Option (((List Value)) × AHeap) :=
 (if (decide (i20 < 64)) = true then
 (w19).bind fun p24 =>
 (Gx.idxA 64 1 p24 (IntKind.wrap .i64 (i20 - 15))).bind fun q23 =>
 (ldI .u32 q23 h21).bind fun x25 =>
 (w19).bind fun p27 =>
 (Gx.idxA 64 1 p27 (IntKind.wrap .i64 (i20 - 2))).bind fun q26 =>
 (ldI .u32 q26 h21).bind fun x28 =>
 (zob_ k D x25 7 h21).bind fun r29 =>
 (zob_ k D x25 18 r29.2).bind fun r30 =>
 (zob_ k D x28 17 r30.2).bind fun r31 =>
 (zob_ k D x28 19 r31.2).bind fun r32 =>
 (w19).bind fun p34 =>
 (Gx.idxA 64 1 p34 (IntKind.wrap .i64 (i20 - 16))).bind fun q33 =>
 (ldI .u32 q33 r32.2).bind fun x35 =>
 zz_ (zC_ [r31.2, r30.2, r29.2, h21] (fun H37 => (ldI .u32 q33 H37).bind fun y36 => some (.int .u32 y36)) (.int .u32 x35)) (
 (w19).bind fun p39 =>
 (Gx.idxA 64 1 p39 (IntKind.wrap .i64 (i20 - 7))).bind fun q38 =>
 (ldI .u32 q38 r32.2).bind fun x40 =>
 zz_ (zC_ [r31.2, r30.2, r29.2, h21] (fun H42 => (ldI .u32 q38 H42).bind fun y41 => some (.int .u32 y41)) (.int .u32 x40)) (
 let t43 : Int := (Go.bits .xor .u32 (Go.bits .xor .u32 r29.1 r30.1) (Int.fdiv x25 8))
 let t44 : Int := (Go.bits .xor .u32 (Go.bits .xor .u32 r31.1 r32.1) (Int.fdiv x28 1024))
 let t45 : Int := (IntKind.wrap .u32 ((IntKind.wrap .u32 ((IntKind.wrap .u32 (x35 + x40)) + t43)) + t44))
 (w19).bind fun p47 =>
 (Gx.idxA 64 1 p47 i20).bind fun q46 =>
 (st1 q46 (.int .u32 t45) r32.2).bind fun h48 =>
 rec22 y18 w19 (IntKind.wrap .i64 (i20 + 1)) h48))
 else
 j10 y18 w19 h21)
noncomputable def zDm_ (k : Nat) (D : za_) (j10 : (Option Addr) → (Option Addr) → AHeap → Option (((List Value)) × AHeap)) : (Option Addr) → (Option Addr) → Int → AHeap → Option (((List Value)) × AHeap) :=
 zh_ (α := (Option Addr) → (Option Addr) → Int → AHeap → Option (((List Value)) × AHeap)) (fun _ _ _ _ => none) k (zee_ k D j10)
noncomputable def zDg_ (k : Nat) (D : za_) (s_0 : ByteArray) (h : AHeap) : Option (((List Value)) × AHeap) :=
 let h1 := AHeap.new h (.cells (List.replicate 64 (.int .u32 0)) 159 true 0)
 let h2 := AHeap.new h1 (.cells (List.replicate 64 (.int .u32 0)) 159 true 0)
 zn_ (fun (y3 : Option Addr) (w4 : Option Addr) (h5 : AHeap) =>
 zn_ (fun (y7 : Option Addr) (w8 : Option Addr) (h9 : AHeap) =>
 (w8).bind fun p11 =>
 (ldA 64 p11 h9).bind fun l12 =>
 (y7).bind fun p13 =>
 (stL 64 p13 l12 h9).bind fun h14 =>
 (y7).bind fun p15 =>
 (ldA 64 p15 h14).bind fun l16 =>
 (decA 64 (.agg ⟨l16⟩)).bind fun l17 =>
 some (l17, h14)) fun j10 =>
 zDm_ k D j10 y3 w4 16 h5) fun j6 =>
 zVl_ k D j6 s_0 (some (⟨h.next, 0, none⟩ : Addr)) (some (⟨h1.next, 0, none⟩ : Addr)) 0 h2
noncomputable def zco_ : RCode := an (.s .n (.s .n (.s (.j [(2, .p), (3, .p)] (.s .n (.b (.l [(0, .s), (2, .p), (3, .p), (4, .i .i64)] .n)))) (.s (.j [(2, .p), (3, .p)] (.s .n (.b (.l [(2, .p), (3, .p), (5, .i .i64)] .n)))) .n)))) (rOf Tryz.prog 2 Tryz.f83)
noncomputable def zoo_ (k : Nat) (D : za_) : Ent := zq_ 83 [(0, .s)] [(2, .agg 64)] (zDg_ k D)
theorem zQv_ : (Tryz.f83.body).bind (zd_ Tryz.prog 2 Tryz.f83.ntmps) = some (zf_ zco_) := by kernel_rfl
theorem ztw_ (k : Nat) (D : za_) : curF [(0, .s)] (fun args h => denF (zrw_ k D) k zco_ [(2, .agg 64)] [some (.agg 64)] args h) = zDg_ k D := by kernel_rfl
theorem zuu_ {D : za_} (hD : zl_ Tryz.prog 2 D) (k : Nat) : zo_ Tryz.prog 2 (zoo_ k D) :=
 zj_ (zi_ hD (zc_.more (zQn_ hD k) (zc_.more (zKx_ hD k) (zc_.none)))) Tryz.func83 rfl zQv_ rfl (ztw_ k D)
end Gz
namespace Gz
open Go Gx Go.Proofs
set_option maxRecDepth 100000
noncomputable def zSq_ (_k : Nat) (D : za_) : za_ := mkC D []
noncomputable def zke_ (_k : Nat) (_D : za_)  (h : AHeap) : Option (((List Value)) × AHeap) :=
 let h1 := AHeap.new h (.cells (List.replicate 64 (.int .u32 0)) 159 true 0)
 (stL 64 (⟨h.next, 0, none⟩ : Addr) ([.int .u32 1116352408, .int .u32 1899447441, .int .u32 3049323471, .int .u32 3921009573, .int .u32 961987163, .int .u32 1508970993, .int .u32 2453635748, .int .u32 2870763221, .int .u32 3624381080, .int .u32 310598401, .int .u32 607225278, .int .u32 1426881987, .int .u32 1925078388, .int .u32 2162078206, .int .u32 2614888103, .int .u32 3248222580, .int .u32 3835390401, .int .u32 4022224774, .int .u32 264347078, .int .u32 604807628, .int .u32 770255983, .int .u32 1249150122, .int .u32 1555081692, .int .u32 1996064986, .int .u32 2554220882, .int .u32 2821834349, .int .u32 2952996808, .int .u32 3210313671, .int .u32 3336571891, .int .u32 3584528711, .int .u32 113926993, .int .u32 338241895, .int .u32 666307205, .int .u32 773529912, .int .u32 1294757372, .int .u32 1396182291, .int .u32 1695183700, .int .u32 1986661051, .int .u32 2177026350, .int .u32 2456956037, .int .u32 2730485921, .int .u32 2820302411, .int .u32 3259730800, .int .u32 3345764771, .int .u32 3516065817, .int .u32 3600352804, .int .u32 4094571909, .int .u32 275423344, .int .u32 430227734, .int .u32 506948616, .int .u32 659060556, .int .u32 883997877, .int .u32 958139571, .int .u32 1322822218, .int .u32 1537002063, .int .u32 1747873779, .int .u32 1955562222, .int .u32 2024104815, .int .u32 2227730452, .int .u32 2361852424, .int .u32 2428436474, .int .u32 2756734187, .int .u32 3204031479, .int .u32 3329325298]) h1).bind fun h2 =>
 (ldA 64 (⟨h.next, 0, none⟩ : Addr) h2).bind fun l3 =>
 (decA 64 (.agg ⟨l3⟩)).bind fun l4 =>
 some (l4, h2)
noncomputable def zAj_ : RCode := an (.n) (rOf Tryz.prog 2 Tryz.f84)
noncomputable def zsj_ (k : Nat) (D : za_) : Ent := zq_ 84 [] [(0, .agg 64)] (zke_ k D)
theorem zir_ : (Tryz.f84.body).bind (zd_ Tryz.prog 2 Tryz.f84.ntmps) = some (zf_ zAj_) := by kernel_rfl
theorem zbr_ (k : Nat) (D : za_) : curF [] (fun args h => denF (zSq_ k D) k zAj_ [(0, .agg 64)] [some (.agg 64)] args h) = zke_ k D := by kernel_rfl
theorem zpp_ {D : za_} (hD : zl_ Tryz.prog 2 D) (k : Nat) : zo_ Tryz.prog 2 (zsj_ k D) :=
 zj_ (zi_ hD (zc_.none)) Tryz.func84 rfl zir_ rfl (zbr_ k D)
end Gz
namespace Gz
open Go Gx Go.Proofs
set_option maxRecDepth 100000
noncomputable def zax_ (k : Nat) (D : za_) : za_ := mkC D [zoo_ k D, zsj_ k D, zik_ k D]
noncomputable def zwe_ (k : Nat) (D : za_) (j17 : (Option Addr) → (Option Addr) → (Option Addr) → AHeap → Option (((Int × Int × Int × Int × Int × Int × Int × Int)) × AHeap)) (rec52 : (Option Addr) → (Option Addr) → (Option Addr) → (Option Addr) → (Option Addr) → Int → AHeap → Option (((Int × Int × Int × Int × Int × Int × Int × Int)) × AHeap)) (l45 : Option Addr) (y46 : Option Addr) (w47 : Option Addr) (kv48 : Option Addr) (v49 : Option Addr) (i50 : Int) (h51 : AHeap) : Option (((Int × Int × Int × Int × Int × Int × Int × Int)) × AHeap) :=
 (if (decide (i50 < 64)) = true then
 (v49).bind fun p54 =>
 (ldI .u32 (⟨p54.block, p54.off + 0, none⟩ : Addr) h51).bind fun x55 =>
 (v49).bind fun p57 =>
 (ldI .u32 (⟨p57.block, p57.off + 1, none⟩ : Addr) h51).bind fun x58 =>
 (v49).bind fun p60 =>
 (ldI .u32 (⟨p60.block, p60.off + 2, none⟩ : Addr) h51).bind fun x61 =>
 (v49).bind fun p63 =>
 (ldI .u32 (⟨p63.block, p63.off + 4, none⟩ : Addr) h51).bind fun x64 =>
 (v49).bind fun p66 =>
 (ldI .u32 (⟨p66.block, p66.off + 5, none⟩ : Addr) h51).bind fun x67 =>
 (v49).bind fun p69 =>
 (ldI .u32 (⟨p69.block, p69.off + 6, none⟩ : Addr) h51).bind fun x70 =>
 (zob_ k D x64 6 h51).bind fun r71 =>
 (zob_ k D x64 11 r71.2).bind fun r72 =>
 (zob_ k D x64 25 r72.2).bind fun r73 =>
 (v49).bind fun p75 =>
 (ldI .u32 (⟨p75.block, p75.off + 7, none⟩ : Addr) r73.2).bind fun x76 =>
 zz_ (zC_ [r72.2, r71.2, h51] (fun H78 => (ldI .u32 (⟨p75.block, p75.off + 7, none⟩ : Addr) H78).bind fun y77 => some (.int .u32 y77)) (.int .u32 x76)) (
 let t79 : Int := (IntKind.wrap .u32 (x76 + (Go.bits .xor .u32 (Go.bits .xor .u32 r71.1 r72.1) r73.1)))
 let t80 : Int := (Go.bits .xor .u32 (Go.bits .and .u32 x64 x67) (Go.bits .andNot .u32 x70 x64))
 (kv48).bind fun p82 =>
 (Gx.idxA 64 1 p82 i50).bind fun q81 =>
 (ldI .u32 q81 r73.2).bind fun x83 =>
 zz_ (zC_ [r72.2, r71.2, h51] (fun H85 => (ldI .u32 q81 H85).bind fun y84 => some (.int .u32 y84)) (.int .u32 x83)) (
 (w47).bind fun p87 =>
 (Gx.idxA 64 1 p87 i50).bind fun q86 =>
 (ldI .u32 q86 r73.2).bind fun x88 =>
 zz_ (zC_ [r72.2, r71.2, h51] (fun H90 => (ldI .u32 q86 H90).bind fun y89 => some (.int .u32 y89)) (.int .u32 x88)) (
 let t91 : Int := (IntKind.wrap .u32 ((IntKind.wrap .u32 ((IntKind.wrap .u32 (t79 + t80)) + x83)) + x88))
 (zob_ k D x55 2 r73.2).bind fun r92 =>
 (zob_ k D x55 13 r92.2).bind fun r93 =>
 (zob_ k D x55 22 r93.2).bind fun r94 =>
 let t95 : Int := (Go.bits .xor .u32 (Go.bits .and .u32 x55 x58) (Go.bits .and .u32 x55 x61))
 let t96 : Int := (IntKind.wrap .u32 ((Go.bits .xor .u32 (Go.bits .xor .u32 r92.1 r93.1) r94.1) + (Go.bits .xor .u32 t95 (Go.bits .and .u32 x58 x61))))
 (v49).bind fun p98 =>
 (ldI .u32 (⟨p98.block, p98.off + 3, none⟩ : Addr) r94.2).bind fun x99 =>
 (v49).bind fun p100 =>
 (stL 8 p100 ([.int .u32 (IntKind.wrap .u32 (t91 + t96)), .int .u32 x55, .int .u32 x58, .int .u32 x61, .int .u32 (IntKind.wrap .u32 (x99 + t91)), .int .u32 x64, .int .u32 x67, .int .u32 x70]) r94.2).bind fun h101 =>
 rec52 l45 y46 w47 kv48 v49 (IntKind.wrap .i64 (i50 + 1)) h101)))
 else
 j17 l45 y46 v49 h51)
noncomputable def zmo_ (k : Nat) (D : za_) (j17 : (Option Addr) → (Option Addr) → (Option Addr) → AHeap → Option (((Int × Int × Int × Int × Int × Int × Int × Int)) × AHeap)) : (Option Addr) → (Option Addr) → (Option Addr) → (Option Addr) → (Option Addr) → Int → AHeap → Option (((Int × Int × Int × Int × Int × Int × Int × Int)) × AHeap) :=
 zh_ (α := (Option Addr) → (Option Addr) → (Option Addr) → (Option Addr) → (Option Addr) → Int → AHeap → Option (((Int × Int × Int × Int × Int × Int × Int × Int)) × AHeap)) (fun _ _ _ _ _ _ _ => none) k (zwe_ k D j17)
noncomputable def zxe_ (_k : Nat) (_D : za_) (j21 : (Option Addr) → (Option Addr) → AHeap → Option (((Int × Int × Int × Int × Int × Int × Int × Int)) × AHeap)) (rec35 : (Option Addr) → (Option Addr) → (Option Addr) → Int → AHeap → Option (((Int × Int × Int × Int × Int × Int × Int × Int)) × AHeap)) (l30 : Option Addr) (y31 : Option Addr) (v32 : Option Addr) (i33 : Int) (h34 : AHeap) : Option (((Int × Int × Int × Int × Int × Int × Int × Int)) × AHeap) :=
 (if (decide (i33 < 8)) = true then
 (l30).bind fun p37 =>
 (Gx.idxA 8 1 p37 i33).bind fun q36 =>
 (ldI .u32 q36 h34).bind fun x38 =>
 (v32).bind fun p40 =>
 (Gx.idxA 8 1 p40 i33).bind fun q39 =>
 (ldI .u32 q39 h34).bind fun x41 =>
 (l30).bind fun p43 =>
 (Gx.idxA 8 1 p43 i33).bind fun q42 =>
 (st1 q42 (.int .u32 (IntKind.wrap .u32 (x38 + x41))) h34).bind fun h44 =>
 rec35 l30 y31 v32 (IntKind.wrap .i64 (i33 + 1)) h44
 else
 j21 l30 y31 h34)
noncomputable def zqo_ (k : Nat) (D : za_) (j21 : (Option Addr) → (Option Addr) → AHeap → Option (((Int × Int × Int × Int × Int × Int × Int × Int)) × AHeap)) : (Option Addr) → (Option Addr) → (Option Addr) → Int → AHeap → Option (((Int × Int × Int × Int × Int × Int × Int × Int)) × AHeap) :=
 zh_ (α := (Option Addr) → (Option Addr) → (Option Addr) → Int → AHeap → Option (((Int × Int × Int × Int × Int × Int × Int × Int)) × AHeap)) (fun _ _ _ _ _ => none) k (zxe_ k D j21)
noncomputable def zNh_ (k : Nat) (D : za_) (l_0 : Int × Int × Int × Int × Int × Int × Int × Int) (s_1 : ByteArray) (h : AHeap) : Option (((Int × Int × Int × Int × Int × Int × Int × Int)) × AHeap) :=
 let h1 := AHeap.new h (.cells [.int .u32 l_0.1, .int .u32 l_0.2.1, .int .u32 l_0.2.2.1, .int .u32 l_0.2.2.2.1, .int .u32 l_0.2.2.2.2.1, .int .u32 l_0.2.2.2.2.2.1, .int .u32 l_0.2.2.2.2.2.2.1, .int .u32 l_0.2.2.2.2.2.2.2] 104 true 0)
 let h2 := AHeap.new h1 (.cells [.int .u32 0, .int .u32 0, .int .u32 0, .int .u32 0, .int .u32 0, .int .u32 0, .int .u32 0, .int .u32 0] 104 true 0)
 (zDg_ k D s_1 h2).bind fun r3 =>
 let h4 := AHeap.new r3.2 (.cells (List.replicate 64 (.int .u32 0)) 159 true 0)
 (stL 64 (⟨r3.2.next, 0, none⟩ : Addr) r3.1 h4).bind fun h5 =>
 (zke_ k D h5).bind fun r6 =>
 let h7 := AHeap.new r6.2 (.cells (List.replicate 64 (.int .u32 0)) 159 true 0)
 (stL 64 (⟨r6.2.next, 0, none⟩ : Addr) r6.1 h7).bind fun h8 =>
 (ldA 8 (⟨h.next, 0, none⟩ : Addr) h8).bind fun l9 =>
 (decC [.i .u32, .i .u32, .i .u32, .i .u32, .i .u32, .i .u32, .i .u32, .i .u32] l9).bind fun x10 =>
 let h11 := AHeap.new h8 (.cells [.int .u32 0, .int .u32 0, .int .u32 0, .int .u32 0, .int .u32 0, .int .u32 0, .int .u32 0, .int .u32 0] 104 true 0)
 (stL 8 (⟨h8.next, 0, none⟩ : Addr) ([.int .u32 x10.1, .int .u32 x10.2.1, .int .u32 x10.2.2.1, .int .u32 x10.2.2.2.1, .int .u32 x10.2.2.2.2.1, .int .u32 x10.2.2.2.2.2.1, .int .u32 x10.2.2.2.2.2.2.1, .int .u32 x10.2.2.2.2.2.2.2]) h11).bind fun h12 =>
 zn_ (fun (l13 : Option Addr) (y14 : Option Addr) (v15 : Option Addr) (h16 : AHeap) =>
 zn_ (fun (l18 : Option Addr) (y19 : Option Addr) (h20 : AHeap) =>
 (l18).bind fun p22 =>
 (ldA 8 p22 h20).bind fun l23 =>
 (decC [.i .u32, .i .u32, .i .u32, .i .u32, .i .u32, .i .u32, .i .u32, .i .u32] l23).bind fun x24 =>
 (y19).bind fun p25 =>
 (stL 8 p25 ([.int .u32 x24.1, .int .u32 x24.2.1, .int .u32 x24.2.2.1, .int .u32 x24.2.2.2.1, .int .u32 x24.2.2.2.2.1, .int .u32 x24.2.2.2.2.2.1, .int .u32 x24.2.2.2.2.2.2.1, .int .u32 x24.2.2.2.2.2.2.2]) h20).bind fun h26 =>
 (y19).bind fun p27 =>
 (ldA 8 p27 h26).bind fun l28 =>
 (decC [.i .u32, .i .u32, .i .u32, .i .u32, .i .u32, .i .u32, .i .u32, .i .u32] l28).bind fun x29 =>
 some ((x29.1, x29.2.1, x29.2.2.1, x29.2.2.2.1, x29.2.2.2.2.1, x29.2.2.2.2.2.1, x29.2.2.2.2.2.2.1, x29.2.2.2.2.2.2.2), h26)) fun j21 =>
 zqo_ k D j21 l13 y14 v15 0 h16) fun j17 =>
 zmo_ k D j17 (some (⟨h.next, 0, none⟩ : Addr)) (some (⟨h1.next, 0, none⟩ : Addr)) (some (⟨r3.2.next, 0, none⟩ : Addr)) (some (⟨r6.2.next, 0, none⟩ : Addr)) (some (⟨h8.next, 0, none⟩ : Addr)) 0 h12
noncomputable def zmp_ : RCode := an (.s .n (.s .n (.s .n (.s (.r [(0, .st [.i .u32, .i .u32, .i .u32, .i .u32, .i .u32, .i .u32, .i .u32, .i .u32])]) (.s (.j [(2, .p), (4, .p), (7, .p)] (.s .n (.b (.l [(2, .p), (4, .p), (5, .p), (6, .p), (7, .p), (8, .i .i64)] .n)))) (.s (.j [(2, .p), (4, .p)] (.s .n (.b (.l [(2, .p), (4, .p), (7, .p), (17, .i .i64)] .n)))) (.s (.r [(0, .st [.i .u32, .i .u32, .i .u32, .i .u32, .i .u32, .i .u32, .i .u32, .i .u32])]) .n))))))) (rOf Tryz.prog 2 Tryz.f50)
noncomputable def zZp_ (k : Nat) (D : za_) : Ent := zq_ 50 [(0, .st [.i .u32, .i .u32, .i .u32, .i .u32, .i .u32, .i .u32, .i .u32, .i .u32]), (1, .s)] [(4, .st [.i .u32, .i .u32, .i .u32, .i .u32, .i .u32, .i .u32, .i .u32, .i .u32])] (zNh_ k D)
theorem zNw_ : (Tryz.f50.body).bind (zd_ Tryz.prog 2 Tryz.f50.ntmps) = some (zf_ zmp_) := by kernel_rfl
theorem zKw_ (k : Nat) (D : za_) : curF [(0, .st [.i .u32, .i .u32, .i .u32, .i .u32, .i .u32, .i .u32, .i .u32, .i .u32]), (1, .s)] (fun args h => denF (zax_ k D) k zmp_ [(4, .st [.i .u32, .i .u32, .i .u32, .i .u32, .i .u32, .i .u32, .i .u32, .i .u32])] [some (.agg 8)] args h) = zNh_ k D := by kernel_rfl
theorem zkw_ {D : za_} (hD : zl_ Tryz.prog 2 D) (k : Nat) : zo_ Tryz.prog 2 (zZp_ k D) :=
 zj_ (zi_ hD (zc_.more (zuu_ hD k) (zc_.more (zpp_ hD k) (zc_.more (zQn_ hD k) (zc_.none))))) Tryz.func50 rfl zNw_ rfl (zKw_ k D)
end Gz
namespace Gz
open Go Gx Go.Proofs
set_option maxRecDepth 100000
noncomputable def zfu_ (k : Nat) (D : za_) : za_ := mkC D [zTo_ k D, zZp_ k D]
noncomputable def ztd_ (_k : Nat) (_D : za_) (j4 : ByteArray → Int → AHeap → Option ((ByteArray) × AHeap)) (rec38 : ByteArray → Int → AHeap → Option ((ByteArray) × AHeap)) (s35 : ByteArray) (n36 : Int) (h37 : AHeap) : Option ((ByteArray) × AHeap) :=
 (if ((Int.tmod (s35.size : Int) 64) != 56) = true then
 (if s35.size + (⟨#[0]⟩ : ByteArray).size ≤ 9223372036854775807 then
 rec38 (s35 ++ (⟨#[0]⟩ : ByteArray)) n36 h37
 else none)
 else
 j4 s35 n36 h37)
noncomputable def zSk_ (k : Nat) (D : za_) (j4 : ByteArray → Int → AHeap → Option ((ByteArray) × AHeap)) : ByteArray → Int → AHeap → Option ((ByteArray) × AHeap) :=
 zh_ (α := ByteArray → Int → AHeap → Option ((ByteArray) × AHeap)) (fun _ _ _ => none) k (ztd_ k D j4)
noncomputable def zud_ (k : Nat) (D : za_) (j10 : (Option Addr) → AHeap → Option ((ByteArray) × AHeap)) (rec27 : ByteArray → (Option Addr) → Int → AHeap → Option ((ByteArray) × AHeap)) (s23 : ByteArray) (l24 : Option Addr) (i25 : Int) (h26 : AHeap) : Option ((ByteArray) × AHeap) :=
 (if (decide (i25 < (s23.size : Int))) = true then
 (l24).bind fun p28 =>
 (ldA 8 p28 h26).bind fun l29 =>
 (decC [.i .u32, .i .u32, .i .u32, .i .u32, .i .u32, .i .u32, .i .u32, .i .u32] l29).bind fun x30 =>
 (Gx.subS s23 (some i25) (some (IntKind.wrap .i64 (i25 + 64)))).bind fun s31 =>
 (zNh_ k D (x30.1, x30.2.1, x30.2.2.1, x30.2.2.2.1, x30.2.2.2.2.1, x30.2.2.2.2.2.1, x30.2.2.2.2.2.2.1, x30.2.2.2.2.2.2.2) s31 h26).bind fun r32 =>
 (l24).bind fun p33 =>
 (stL 8 p33 ([.int .u32 r32.1.1, .int .u32 r32.1.2.1, .int .u32 r32.1.2.2.1, .int .u32 r32.1.2.2.2.1, .int .u32 r32.1.2.2.2.2.1, .int .u32 r32.1.2.2.2.2.2.1, .int .u32 r32.1.2.2.2.2.2.2.1, .int .u32 r32.1.2.2.2.2.2.2.2]) r32.2).bind fun h34 =>
 rec27 s23 l24 (IntKind.wrap .i64 (i25 + 64)) h34
 else
 j10 l24 h26)
noncomputable def znl_ (k : Nat) (D : za_) (j10 : (Option Addr) → AHeap → Option ((ByteArray) × AHeap)) : ByteArray → (Option Addr) → Int → AHeap → Option ((ByteArray) × AHeap) :=
 zh_ (α := ByteArray → (Option Addr) → Int → AHeap → Option ((ByteArray) × AHeap)) (fun _ _ _ _ => none) k (zud_ k D j10)
noncomputable def zAd_ (k : Nat) (D : za_) (j13 : ByteArray → AHeap → Option ((ByteArray) × AHeap)) (rec18 : (Option Addr) → ByteArray → Int → AHeap → Option ((ByteArray) × AHeap)) (l14 : Option Addr) (out15 : ByteArray) (i16 : Int) (h17 : AHeap) : Option ((ByteArray) × AHeap) :=
 (if (decide (i16 < 8)) = true then
 (l14).bind fun p20 =>
 (Gx.idxA 8 1 p20 i16).bind fun q19 =>
 (ldI .u32 q19 h17).bind fun x21 =>
 (zhe_ k D (IntKind.wrap .i64 x21) 4 h17).bind fun r22 =>
 (if out15.size + r22.1.size ≤ 9223372036854775807 then
 rec18 l14 (out15 ++ r22.1) (IntKind.wrap .i64 (i16 + 1)) r22.2
 else none)
 else
 j13 out15 h17)
noncomputable def zdl_ (k : Nat) (D : za_) (j13 : ByteArray → AHeap → Option ((ByteArray) × AHeap)) : (Option Addr) → ByteArray → Int → AHeap → Option ((ByteArray) × AHeap) :=
 zh_ (α := (Option Addr) → ByteArray → Int → AHeap → Option ((ByteArray) × AHeap)) (fun _ _ _ _ => none) k (zAd_ k D j13)
noncomputable def zNf_ (k : Nat) (D : za_) (s_0 : ByteArray) (h : AHeap) : Option ((ByteArray) × AHeap) :=
 (if s_0.size + (⟨#[128]⟩ : ByteArray).size ≤ 9223372036854775807 then
 zn_ (fun (s1 : ByteArray) (n2 : Int) (h3 : AHeap) =>
 (zhe_ k D (IntKind.wrap .i64 (n2 * 8)) 8 h3).bind fun r5 =>
 (if s1.size + r5.1.size ≤ 9223372036854775807 then
 let h6 := AHeap.new r5.2 (.cells [.int .u32 0, .int .u32 0, .int .u32 0, .int .u32 0, .int .u32 0, .int .u32 0, .int .u32 0, .int .u32 0] 104 true 0)
 (stL 8 (⟨r5.2.next, 0, none⟩ : Addr) ([.int .u32 1779033703, .int .u32 3144134277, .int .u32 1013904242, .int .u32 2773480762, .int .u32 1359893119, .int .u32 2600822924, .int .u32 528734635, .int .u32 1541459225]) h6).bind fun h7 =>
 zn_ (fun (l8 : Option Addr) (h9 : AHeap) =>
 zn_ (fun (out11 : ByteArray) (h12 : AHeap) =>
 some (out11, h12)) fun j13 =>
 zdl_ k D j13 l8 (⟨#[]⟩ : ByteArray) 0 h9) fun j10 =>
 znl_ k D j10 (s1 ++ r5.1) (some (⟨r5.2.next, 0, none⟩ : Addr)) 0 h7
 else none)) fun j4 =>
 zSk_ k D j4 (s_0 ++ (⟨#[128]⟩ : ByteArray)) (s_0.size : Int) h
 else none)
noncomputable def zIl_ : RCode := an (.s .n (.s .n (.s .n (.s (.j [(0, .s), (3, .i .i64)] (.b (.l [(0, .s), (3, .i .i64)] .n))) (.s .n (.s .n (.s (.j [(4, .p)] (.s .n (.b (.l [(0, .s), (4, .p), (5, .i .i64)] (.s .n (.s (.b (.r [(0, .st [.i .u32, .i .u32, .i .u32, .i .u32, .i .u32, .i .u32, .i .u32, .i .u32])])) .n)))))) (.s .n (.s (.j [(6, .s)] (.s .n (.b (.l [(4, .p), (6, .s), (7, .i .i64)] .n)))) .n))))))))) (rOf Tryz.prog 2 Tryz.f25)
noncomputable def zvm_ (k : Nat) (D : za_) : Ent := zq_ 25 [(0, .s)] [(2, .s)] (zNf_ k D)
theorem zTt_ : (Tryz.f25.body).bind (zd_ Tryz.prog 2 Tryz.f25.ntmps) = some (zf_ zIl_) := by kernel_rfl
theorem zTu_ (k : Nat) (D : za_) : curF [(0, .s)] (fun args h => denF (zfu_ k D) k zIl_ [(2, .s)] [none] args h) = zNf_ k D := by kernel_rfl
theorem zDt_ {D : za_} (hD : zl_ Tryz.prog 2 D) (k : Nat) : zo_ Tryz.prog 2 (zvm_ k D) :=
 zj_ (zi_ hD (zc_.more (zsw_ hD k) (zc_.more (zkw_ hD k) (zc_.none)))) Tryz.func25 rfl zTt_ rfl (zTu_ k D)
end Gz
namespace Gz
open Go Gx Go.Proofs
set_option maxRecDepth 100000
end Gz
namespace Gz
open Go Gx Go.Proofs
set_option maxRecDepth 100000
end Gz
namespace Gz
open Go Gx Go.Proofs
set_option maxRecDepth 100000
end Gz
namespace Gz
open Go Gx Go.Proofs
set_option maxRecDepth 100000
end Gz
namespace Gz
open Go Gx Go.Proofs
set_option maxRecDepth 100000
end Gz
namespace Gz
open Go Gx Go.Proofs
set_option maxRecDepth 100000
end Gz
namespace Gz
open Go Gx Go.Proofs
set_option maxRecDepth 100000
noncomputable def zrC_ (_k : Nat) (D : za_) : za_ := mkC D []
noncomputable def zek_ (_k : Nat) (_D : za_) (x_0 : Int × Int × Int × Int × ByteArray × ByteArray) (h : AHeap) : Option (((Int × Int × Int × Int × ByteArray × ByteArray)) × AHeap) :=
 let h1 := AHeap.new h (.cells [.int .i64 x_0.1, .int .i64 x_0.2.1, .int .i64 x_0.2.2.1, .int .i64 x_0.2.2.2.1, .string x_0.2.2.2.2.1, .string x_0.2.2.2.2.2] 33 true 0)
 let h2 := AHeap.new h1 (.cells [.int .i64 0, .int .i64 0, .int .i64 0, .int .i64 0, .string ⟨#[]⟩, .string ⟨#[]⟩] 34 true 0)
 (ldI .i64 (⟨h.next, 0, none⟩ : Addr) h2).bind fun x3 =>
 (ldI .i64 (⟨h.next, 1, none⟩ : Addr) h2).bind fun x4 =>
 (ldI .i64 (⟨h.next, 2, none⟩ : Addr) h2).bind fun x5 =>
 (ldI .i64 (⟨h.next, 3, none⟩ : Addr) h2).bind fun x6 =>
 (ldS (⟨h.next, 4, none⟩ : Addr) h2).bind fun x7 =>
 (ldS (⟨h.next, 5, none⟩ : Addr) h2).bind fun x8 =>
 (stL 6 (⟨h1.next, 0, none⟩ : Addr) ([.int .i64 x3, .int .i64 x4, .int .i64 x5, .int .i64 x6, .string x7, .string x8]) h2).bind fun h9 =>
 (ldA 6 (⟨h1.next, 0, none⟩ : Addr) h9).bind fun l10 =>
 (decC [.i .i64, .i .i64, .i .i64, .i .i64, .s, .s] l10).bind fun x11 =>
 some ((x11.1, x11.2.1, x11.2.2.1, x11.2.2.2.1, x11.2.2.2.2.1, x11.2.2.2.2.2), h9)
noncomputable def zUs_ : RCode := an (.n) (rOf Tryz.prog 2 Tryz.f11)
noncomputable def zJs_ (k : Nat) (D : za_) : Ent := zq_ 11 [(0, .st [.i .i64, .i .i64, .i .i64, .i .i64, .s, .s])] [(2, .st [.i .i64, .i .i64, .i .i64, .i .i64, .s, .s])] (zek_ k D)
theorem ziC_ : (Tryz.f11.body).bind (zd_ Tryz.prog 2 Tryz.f11.ntmps) = some (zf_ zUs_) := by kernel_rfl
theorem ztC_ (k : Nat) (D : za_) : curF [(0, .st [.i .i64, .i .i64, .i .i64, .i .i64, .s, .s])] (fun args h => denF (zrC_ k D) k zUs_ [(2, .st [.i .i64, .i .i64, .i .i64, .i .i64, .s, .s])] [some (.agg 6)] args h) = zek_ k D := by kernel_rfl
theorem zbz_ {D : za_} (hD : zl_ Tryz.prog 2 D) (k : Nat) : zo_ Tryz.prog 2 (zJs_ k D) :=
 zj_ (zi_ hD (zc_.none)) Tryz.func11 rfl ziC_ rfl (ztC_ k D)
end Gz
namespace Gz
open Go Gx Go.Proofs
set_option maxRecDepth 100000
noncomputable def znB_ (_k : Nat) (D : za_) : za_ := mkC D []
noncomputable def ztn_ (_k : Nat) (_D : za_) (s_0 : ByteArray) (h : AHeap) : Option ((Bool) × AHeap) :=
 some (((s_0.size : Int) == 32), h)
noncomputable def zVs_ : RCode := an (.n) (rOf Tryz.prog 2 Tryz.f52)
noncomputable def zkt_ (k : Nat) (D : za_) : Ent := zq_ 52 [(0, .s)] [(2, .b)] (ztn_ k D)
theorem zfB_ : (Tryz.f52.body).bind (zd_ Tryz.prog 2 Tryz.f52.ntmps) = some (zf_ zVs_) := by kernel_rfl
theorem zyB_ (k : Nat) (D : za_) : curF [(0, .s)] (fun args h => denF (znB_ k D) k zVs_ [(2, .b)] [none] args h) = ztn_ k D := by kernel_rfl
theorem zXz_ {D : za_} (hD : zl_ Tryz.prog 2 D) (k : Nat) : zo_ Tryz.prog 2 (zkt_ k D) :=
 zj_ (zi_ hD (zc_.none)) Tryz.func52 rfl zfB_ rfl (zyB_ k D)
end Gz
namespace Gz
open Go Gx Go.Proofs
set_option maxRecDepth 100000
noncomputable def zRv_ (k : Nat) (D : za_) : za_ := mkC D [zkt_ k D]
noncomputable def zEg_ (k : Nat) (D : za_) (x_0 : Int × Int × Int × Int × ByteArray × ByteArray) (h : AHeap) : Option ((Int) × AHeap) :=
 let h1 := AHeap.new h (.cells [.int .i64 x_0.1, .int .i64 x_0.2.1, .int .i64 x_0.2.2.1, .int .i64 x_0.2.2.2.1, .string x_0.2.2.2.2.1, .string x_0.2.2.2.2.2] 33 true 0)
 zn_ (fun (h2 : AHeap) =>
 some (60, h2)) fun j3 =>
 zn_ (fun (x4 : Option Addr) (y5 : Bool) (h6 : AHeap) =>
 (if y5 = true then
 j3 h6
 else
 zn_ (fun (x8 : Option Addr) (y9 : Bool) (h10 : AHeap) =>
 (if y9 = true then
 j3 h10
 else
 zn_ (fun (x12 : Option Addr) (y13 : Bool) (h14 : AHeap) =>
 (if y13 = true then
 j3 h14
 else
 (x12).bind fun p16 =>
 (ldI .i64 (⟨p16.block, p16.off + 3, none⟩ : Addr) h14).bind fun x17 =>
 (x12).bind fun p18 =>
 (ldI .i64 (⟨p18.block, p18.off + 0, none⟩ : Addr) h14).bind fun x19 =>
 (x12).bind fun p20 =>
 (ldI .i64 (⟨p20.block, p20.off + 0, none⟩ : Addr) h14).bind fun x21 =>
 (if x21 = 0 then none else
 let t22 : Int := (IntKind.wrap .i64 (Int.tdiv (IntKind.wrap .i64 ((IntKind.wrap .i64 (x17 + x19)) - 1)) x21))
 (x12).bind fun p23 =>
 (ldS (⟨p23.block, p23.off + 5, none⟩ : Addr) h14).bind fun x24 =>
 (if ((x24.size : Int) != t22) = true then
 some (60, h14)
 else
 some (0, h14))))) fun j15 =>
 (x8).bind fun p25 =>
 (ldI .i64 (⟨p25.block, p25.off + 3, none⟩ : Addr) h10).bind fun x26 =>
 (if (decide (x26 < 0)) = true then
 j15 x8 true h10
 else
 (x8).bind fun p27 =>
 (ldI .i64 (⟨p27.block, p27.off + 3, none⟩ : Addr) h10).bind fun x28 =>
 (if (decide (x28 > 65536)) = true then
 j15 x8 true h10
 else
 (x8).bind fun p29 =>
 (ldS (⟨p29.block, p29.off + 4, none⟩ : Addr) h10).bind fun x30 =>
 (ztn_ k D x30 h10).bind fun r31 =>
 j15 x8 (!r31.1) r31.2)))) fun j11 =>
 (x4).bind fun p32 =>
 (ldI .i64 (⟨p32.block, p32.off + 2, none⟩ : Addr) h6).bind fun x33 =>
 (if (decide (x33 < 0)) = true then
 j11 x4 true h6
 else
 (x4).bind fun p34 =>
 (ldI .i64 (⟨p34.block, p34.off + 2, none⟩ : Addr) h6).bind fun x35 =>
 (x4).bind fun p36 =>
 (ldI .i64 (⟨p36.block, p36.off + 0, none⟩ : Addr) h6).bind fun x37 =>
 (x4).bind fun p38 =>
 (ldI .i64 (⟨p38.block, p38.off + 1, none⟩ : Addr) h6).bind fun x39 =>
 j11 x4 (decide (x35 ≥ (IntKind.wrap .i64 (x37 + x39)))) h6))) fun j7 =>
 (ldI .i64 (⟨h.next, 0, none⟩ : Addr) h1).bind fun x40 =>
 (if (decide (x40 < 1)) = true then
 j7 (some (⟨h.next, 0, none⟩ : Addr)) true h1
 else
 (ldI .i64 (⟨h.next, 1, none⟩ : Addr) h1).bind fun x41 =>
 (if (decide (x41 < 0)) = true then
 j7 (some (⟨h.next, 0, none⟩ : Addr)) true h1
 else
 (ldI .i64 (⟨h.next, 0, none⟩ : Addr) h1).bind fun x42 =>
 (if (decide (x42 > 255)) = true then
 j7 (some (⟨h.next, 0, none⟩ : Addr)) true h1
 else
 (ldI .i64 (⟨h.next, 1, none⟩ : Addr) h1).bind fun x43 =>
 (ldI .i64 (⟨h.next, 0, none⟩ : Addr) h1).bind fun x44 =>
 j7 (some (⟨h.next, 0, none⟩ : Addr)) (decide (x43 > (IntKind.wrap .i64 (255 - x44)))) h1)))
noncomputable def zgo_ : RCode := an (.s .n (.s .n (.s (.b (.s (.b (.s (.j [] (.b (.b (.b (.s (.s (.s (.j [(1, .p), (4, .b)] .n) .n) (.s (.s (.j [(1, .p), (26, .b)] .n) .n) (.s (.j [(1, .p), (40, .b)] .n) .n))) .n))))) .n)) .n)) .n))) (rOf Tryz.prog 2 Tryz.f27)
noncomputable def zXn_ (k : Nat) (D : za_) : Ent := zq_ 27 [(0, .st [.i .i64, .i .i64, .i .i64, .i .i64, .s, .s])] [(2, .i .i64)] (zEg_ k D)
theorem ziw_ : (Tryz.f27.body).bind (zd_ Tryz.prog 2 Tryz.f27.ntmps) = some (zf_ zgo_) := by kernel_rfl
theorem zxw_ (k : Nat) (D : za_) : curF [(0, .st [.i .i64, .i .i64, .i .i64, .i .i64, .s, .s])] (fun args h => denF (zRv_ k D) k zgo_ [(2, .i .i64)] [none] args h) = zEg_ k D := by kernel_rfl
theorem zhu_ {D : za_} (hD : zl_ Tryz.prog 2 D) (k : Nat) : zo_ Tryz.prog 2 (zXn_ k D) :=
 zj_ (zi_ hD (zc_.more (zXz_ hD k) (zc_.none))) Tryz.func27 rfl ziw_ rfl (zxw_ k D)
end Gz
namespace Gz
open Go Gx Go.Proofs
set_option maxRecDepth 100000
noncomputable def zXw_ (_k : Nat) (D : za_) : za_ := mkC D []
noncomputable def zdg_ (_k : Nat) (_D : za_) (x_0 : Int × Int × Int × Int × ByteArray × ByteArray) (y_1 : Int × Int × Int × Int × ByteArray × ByteArray) (h : AHeap) : Option ((Bool) × AHeap) :=
 let h1 := AHeap.new h (.cells [.int .i64 x_0.1, .int .i64 x_0.2.1, .int .i64 x_0.2.2.1, .int .i64 x_0.2.2.2.1, .string x_0.2.2.2.2.1, .string x_0.2.2.2.2.2] 33 true 0)
 let h2 := AHeap.new h1 (.cells [.int .i64 y_1.1, .int .i64 y_1.2.1, .int .i64 y_1.2.2.1, .int .i64 y_1.2.2.2.1, .string y_1.2.2.2.2.1, .string y_1.2.2.2.2.2] 33 true 0)
 (ldI .i64 (⟨h1.next, 2, none⟩ : Addr) h2).bind fun x3 =>
 (st1 (⟨h.next, 2, none⟩ : Addr) (.int .i64 x3) h2).bind fun h4 =>
 (ldS (⟨h1.next, 5, none⟩ : Addr) h4).bind fun x5 =>
 zz_ (zC_ [h2] (fun H7 => (ldS (⟨h1.next, 5, none⟩ : Addr) H7).bind fun y6 => some (.string y6)) (.string x5)) (
 (st1 (⟨h.next, 5, none⟩ : Addr) (.string x5) h4).bind fun h8 =>
 (ldA 6 (⟨h.next, 0, none⟩ : Addr) h8).bind fun l9 =>
 (decC [.i .i64, .i .i64, .i .i64, .i .i64, .s, .s] l9).bind fun x10 =>
 (ldA 6 (⟨h1.next, 0, none⟩ : Addr) h8).bind fun l11 =>
 (decC [.i .i64, .i .i64, .i .i64, .i .i64, .s, .s] l11).bind fun x12 =>
 let c13 : Bool := ((x10.1 == x12.1) && ((x10.2.1 == x12.2.1) && ((x10.2.2.1 == x12.2.2.1) && ((x10.2.2.2.1 == x12.2.2.2.1) && ((x10.2.2.2.2.1 == x12.2.2.2.2.1) && (x10.2.2.2.2.2 == x12.2.2.2.2.2))))))
 some (c13, h8))
noncomputable def zLo_ : RCode := an (.s .n (.s .n (.s (.r [(0, .st [.i .i64, .i .i64, .i .i64, .i .i64, .s, .s]), (1, .st [.i .i64, .i .i64, .i .i64, .i .i64, .s, .s])]) .n))) (rOf Tryz.prog 2 Tryz.f14)
noncomputable def znk_ (k : Nat) (D : za_) : Ent := zq_ 14 [(0, .st [.i .i64, .i .i64, .i .i64, .i .i64, .s, .s]), (1, .st [.i .i64, .i .i64, .i .i64, .i .i64, .s, .s])] [(4, .b)] (zdg_ k D)
theorem zWw_ : (Tryz.f14.body).bind (zd_ Tryz.prog 2 Tryz.f14.ntmps) = some (zf_ zLo_) := by kernel_rfl
theorem zWy_ (k : Nat) (D : za_) : curF [(0, .st [.i .i64, .i .i64, .i .i64, .i .i64, .s, .s]), (1, .st [.i .i64, .i .i64, .i .i64, .i .i64, .s, .s])] (fun args h => denF (zXw_ k D) k zLo_ [(4, .b)] [none] args h) = zdg_ k D := by kernel_rfl
theorem zlo_ {D : za_} (hD : zl_ Tryz.prog 2 D) (k : Nat) : zo_ Tryz.prog 2 (znk_ k D) :=
 zj_ (zi_ hD (zc_.none)) Tryz.func14 rfl zWw_ rfl (zWy_ k D)
end Gz
namespace Gz
open Go Gx Go.Proofs
set_option maxRecDepth 100000
noncomputable def zFo_ (_k : Nat) (D : za_) : za_ := mkC D []
noncomputable def zPc_ (_k : Nat) (_D : za_) (p_0 : Option Addr) (index_1 : Int) (h : AHeap) : Option ((Bool) × AHeap) :=
 (if (decide (index_1 ≥ 0)) = true then
 (p_0).bind fun p1 =>
 (ldI .i64 (⟨p1.block, p1.off + 0, none⟩ : Addr) h).bind fun x2 =>
 (p_0).bind fun p3 =>
 (ldI .i64 (⟨p3.block, p3.off + 1, none⟩ : Addr) h).bind fun x4 =>
 some ((decide (index_1 < (IntKind.wrap .i64 (x2 + x4)))), h)
 else
 some (false, h))
noncomputable def zai_ : RCode := an (.n) (rOf Tryz.prog 2 Tryz.f86)
noncomputable def zVh_ (k : Nat) (D : za_) : Ent := zq_ 86 [(0, .p), (1, .i .i64)] [(4, .b)] (zPc_ k D)
theorem zvo_ : (Tryz.f86.body).bind (zd_ Tryz.prog 2 Tryz.f86.ntmps) = some (zf_ zai_) := by kernel_rfl
theorem zCo_ (k : Nat) (D : za_) : curF [(0, .p), (1, .i .i64)] (fun args h => denF (zFo_ k D) k zai_ [(4, .b)] [none] args h) = zPc_ k D := by kernel_rfl
theorem zsn_ {D : za_} (hD : zl_ Tryz.prog 2 D) (k : Nat) : zo_ Tryz.prog 2 (zVh_ k D) :=
 zj_ (zi_ hD (zc_.none)) Tryz.func86 rfl zvo_ rfl (zCo_ k D)
end Gz
namespace Gz
open Go Gx Go.Proofs
set_option maxRecDepth 100000
noncomputable def zBn_ (k : Nat) (D : za_) : za_ := mkC D [zbj_ k D, zVh_ k D]
noncomputable def zN_ (k : Nat) (D : za_) (j5 : Slc → AHeap → Option ((Slc × Int) × AHeap)) (rec14 : (Option Addr) → Int → (Option Nat) → Slc → Slc → Int → Int → AHeap → Option ((Slc × Int) × AHeap)) (p6 : Option Addr) (n7 : Int) (seen8 : Option Nat) (out9 : Slc) (y10 : Slc) (y11 : Int) (y12 : Int) (h13 : AHeap) : Option ((Slc × Int) × AHeap) :=
 (if (decide (y12 < y11)) = true then
 zn_ (fun (p15 : Option Addr) (n16 : Int) (seen17 : Option Nat) (out18 : Slc) (y19 : Slc) (y20 : Int) (y21 : Int) (h22 : AHeap) =>
 rec14 p15 n16 seen17 out18 y19 y20 (IntKind.wrap .i64 (y21 + 1)) h22) fun j23 =>
 (Gx.idxL 2 y10 y12).bind fun q24 =>
 (ldA 2 q24 h13).bind fun l25 =>
 (decC [.i .i64, .s] l25).bind fun x26 =>
 let h27 := AHeap.new h13 (.cells [.int .i64 0, .string ⟨#[]⟩] 61 true 0)
 (stL 2 (⟨h13.next, 0, none⟩ : Addr) ([.int .i64 x26.1, .string x26.2]) h27).bind fun h28 =>
 (ldI .i64 (⟨h13.next, 0, none⟩ : Addr) h28).bind fun x29 =>
 (zPc_ k D p6 x29 h28).bind fun r30 =>
 (if (!r30.1) = true then
 some (((⟨none, 0, 0⟩ : Slc), 1), r30.2)
 else
 (ldS (⟨h13.next, 1, none⟩ : Addr) r30.2).bind fun x31 =>
 (if ((x31.size : Int) != n7) = true then
 some (((⟨none, 0, 0⟩ : Slc), 4), r30.2)
 else
 zn_ (fun (p32 : Option Addr) (n33 : Int) (seen34 : Option Nat) (out35 : Slc) (x36 : Option Addr) (y37 : Slc) (y38 : Int) (y39 : Int) (y40 : Bool) (h41 : AHeap) =>
 (if y40 = true then
 (x36).bind fun p43 =>
 (ldI .i64 (⟨p43.block, p43.off + 0, none⟩ : Addr) h41).bind fun x44 =>
 (seen34).bind fun r46 =>
 (updE h41 r46 (.int .i64 x44) (.bool true)).bind fun h45 =>
 (x36).bind fun p47 =>
 (ldA 2 p47 h45).bind fun l48 =>
 (decC [.i .i64, .s] l48).bind fun x49 =>
 let h50 := AHeap.new h45 (.cells [.int .i64 x49.1, .string x49.2] 61 true 0)
 (rdS 2 (⟨(some ⟨h45.next, 0, some 0⟩), 1, 1⟩ : Slc) h50).bind fun n52 =>
 (zs_ 2 24 61 h50 out35 n52 1).bind fun r51 =>
 j23 p32 n33 seen34 r51.1 y37 y38 y39 r51.2
 else
 j23 p32 n33 seen34 out35 y37 y38 y39 h41)) fun j42 =>
 (ldI .i64 (⟨h13.next, 0, none⟩ : Addr) r30.2).bind fun x53 =>
 (zQd_ decB (.bool false) r30.2 seen8 (.int .i64 x53)).bind fun p54 =>
 (if (!p54.1) = true then
 (p6).bind fun p55 =>
 (ldI .i64 (⟨p55.block, p55.off + 0, none⟩ : Addr) r30.2).bind fun x56 =>
 j42 p6 n7 seen8 out9 (some (⟨h13.next, 0, none⟩ : Addr)) y10 y11 y12 (decide ((out9.len : Int) < x56)) r30.2
 else
 j42 p6 n7 seen8 out9 (some (⟨h13.next, 0, none⟩ : Addr)) y10 y11 y12 false r30.2)))
 else
 j5 out9 h13)
noncomputable def zXg_ (k : Nat) (D : za_) (j5 : Slc → AHeap → Option ((Slc × Int) × AHeap)) : (Option Addr) → Int → (Option Nat) → Slc → Slc → Int → Int → AHeap → Option ((Slc × Int) × AHeap) :=
 zh_ (α := (Option Addr) → Int → (Option Nat) → Slc → Slc → Int → Int → AHeap → Option ((Slc × Int) × AHeap)) (fun _ _ _ _ _ _ _ _ => none) k (zN_ k D j5)
noncomputable def ztc_ (k : Nat) (D : za_) (p_0 : Option Addr) (parts_1 : Slc) (long_2 : Int) (h : AHeap) : Option ((Slc × Int) × AHeap) :=
 (zjd_ k D p_0 long_2 h).bind fun r1 =>
 (if (r1.1.2 != 0) = true then
 some (((⟨none, 0, 0⟩ : Slc), r1.1.2), r1.2)
 else
 let h2 := AHeap.new r1.2 (.map [] 0)
 zn_ (fun (out3 : Slc) (h4 : AHeap) =>
 some ((out3, 0), h4)) fun j5 =>
 zXg_ k D j5 p_0 r1.1.1 (some r1.2.next) (⟨none, 0, 0⟩ : Slc) parts_1 (parts_1.len : Int) 0 h2)
noncomputable def zkh_ : RCode := an (.s .n (.s .n (.s .n (.s .n (.s .n (.s (.j [(11, .l)] (.s .n (.b (.l [(0, .p), (8, .i .i64), (10, .m), (11, .l), (24, .l), (25, .i .i64), (26, .i .i64)] (.s .n (.s .n (.s (.j [(0, .p), (8, .i .i64), (10, .m), (11, .l), (24, .l), (25, .i .i64), (26, .i .i64)] (.b (.s (.r [(1, .st [.i .i64, .s])]) (.b (.s .n (.s .n (.s .n (.s .n (.s (.j [(0, .p), (8, .i .i64), (10, .m), (11, .l), (13, .p), (24, .l), (25, .i .i64), (26, .i .i64), (42, .b)] .n) (.s (.s .n (.r [(1, .st [.i .i64, .s])])) .n)))))))))) .n))))))) .n)))))) (rOf Tryz.prog 2 Tryz.f53)
noncomputable def zMh_ (k : Nat) (D : za_) : Ent := zq_ 53 [(0, .p), (1, .l), (2, .i .i64)] [(6, .l), (7, .i .i64)] (ztc_ k D)
theorem zbn_ : (Tryz.f53.body).bind (zd_ Tryz.prog 2 Tryz.f53.ntmps) = some (zf_ zkh_) := by kernel_rfl
theorem zRm_ (k : Nat) (D : za_) : curF [(0, .p), (1, .l), (2, .i .i64)] (fun args h => denF (zBn_ k D) k zkh_ [(6, .l), (7, .i .i64)] [none, none] args h) = ztc_ k D := by kernel_rfl
theorem zlm_ {D : za_} (hD : zl_ Tryz.prog 2 D) (k : Nat) : zo_ Tryz.prog 2 (zMh_ k D) :=
 zj_ (zi_ hD (zc_.more (zwo_ hD k) (zc_.more (zsn_ hD k) (zc_.none)))) Tryz.func53 rfl zbn_ rfl (zRm_ k D)
end Gz
namespace Gz
open Go Gx Go.Proofs
set_option maxRecDepth 100000
noncomputable def zRt_ (_k : Nat) (D : za_) : za_ := mkC D []
noncomputable def zBd_ (_k : Nat) (_D : za_) (j13 : AHeap → Option ((Int) × AHeap)) (rec20 : Slc → Int → Int → AHeap → Option ((Int) × AHeap)) (y16 : Slc) (y17 : Int) (y18 : Int) (h19 : AHeap) : Option ((Int) × AHeap) :=
 (if (decide (y18 < y17)) = true then
 (Gx.idxL 1 y16 y18).bind fun q21 =>
 (ldI .i64 q21 h19).bind fun x22 =>
 zn_ (fun (y23 : Slc) (y24 : Int) (y25 : Int) (y26 : Bool) (h27 : AHeap) =>
 (if y26 = true then
 some (1, h27)
 else
 rec20 y23 y24 (IntKind.wrap .i64 (y25 + 1)) h27)) fun j28 =>
 (if (decide (x22 < 0)) = true then
 j28 y16 y17 y18 true h19
 else
 j28 y16 y17 y18 (decide (x22 ≥ 256)) h19)
 else
 j13 h19)
noncomputable def zrh_ (k : Nat) (D : za_) (j13 : AHeap → Option ((Int) × AHeap)) : Slc → Int → Int → AHeap → Option ((Int) × AHeap) :=
 zh_ (α := Slc → Int → Int → AHeap → Option ((Int) × AHeap)) (fun _ _ _ _ => none) k (zBd_ k D j13)
noncomputable def zEe_ (k : Nat) (D : za_) (a_0 : Int × Int × Slc) (h : AHeap) : Option ((Int) × AHeap) :=
 let h1 := AHeap.new h (.cells [.int .i64 a_0.1, .int .i64 a_0.2.1, .slice a_0.2.2.a a_0.2.2.len a_0.2.2.cap] 84 true 0)
 zn_ (fun (a2 : Option Addr) (y3 : Bool) (h4 : AHeap) =>
 (if y3 = true then
 some (1, h4)
 else
 (a2).bind fun p6 =>
 (ldL (⟨p6.block, p6.off + 2, none⟩ : Addr) h4).bind fun x7 =>
 (a2).bind fun p8 =>
 (ldI .i64 (⟨p8.block, p8.off + 0, none⟩ : Addr) h4).bind fun x9 =>
 (a2).bind fun p10 =>
 (ldI .i64 (⟨p10.block, p10.off + 1, none⟩ : Addr) h4).bind fun x11 =>
 (if ((x7.len : Int) != (IntKind.wrap .i64 (x9 * x11))) = true then
 some (4, h4)
 else
 zn_ (fun (h12 : AHeap) =>
 some (0, h12)) fun j13 =>
 (a2).bind fun p14 =>
 (ldL (⟨p14.block, p14.off + 2, none⟩ : Addr) h4).bind fun x15 =>
 zrh_ k D j13 x15 (x15.len : Int) 0 h4))) fun j5 =>
 (ldI .i64 (⟨h.next, 0, none⟩ : Addr) h1).bind fun x29 =>
 (ldI .i64 (⟨h.next, 1, none⟩ : Addr) h1).bind fun x30 =>
 (if (decide ((if x30 < x29 then x30 else x29) < 1)) = true then
 j5 (some (⟨h.next, 0, none⟩ : Addr)) true h1
 else
 (ldI .i64 (⟨h.next, 0, none⟩ : Addr) h1).bind fun x31 =>
 (ldI .i64 (⟨h.next, 1, none⟩ : Addr) h1).bind fun x32 =>
 j5 (some (⟨h.next, 0, none⟩ : Addr)) (decide ((if x32 > x31 then x32 else x31) > 255)) h1)
noncomputable def zGm_ : RCode := an (.s .n (.s (.b (.s (.j [(1, .p), (5, .b)] .n) .n)) (.s (.j [] (.s .n (.b (.l [(31, .l), (32, .i .i64), (33, .i .i64)] (.s .n (.s .n (.s (.b (.s .n (.s (.j [(31, .l), (32, .i .i64), (33, .i .i64), (42, .b)] .n) .n))) .n))))))) .n))) (rOf Tryz.prog 2 Tryz.f111)
noncomputable def zni_ (k : Nat) (D : za_) : Ent := zq_ 111 [(0, .st [.i .i64, .i .i64, .l])] [(2, .i .i64)] (zEe_ k D)
theorem zAu_ : (Tryz.f111.body).bind (zd_ Tryz.prog 2 Tryz.f111.ntmps) = some (zf_ zGm_) := by kernel_rfl
theorem zZt_ (k : Nat) (D : za_) : curF [(0, .st [.i .i64, .i .i64, .l])] (fun args h => denF (zRt_ k D) k zGm_ [(2, .i .i64)] [none] args h) = zEe_ k D := by kernel_rfl
theorem zQk_ {D : za_} (hD : zl_ Tryz.prog 2 D) (k : Nat) : zo_ Tryz.prog 2 (zni_ k D) :=
 zj_ (zi_ hD (zc_.none)) Tryz.func111 rfl zAu_ rfl (zZt_ k D)
end Gz
namespace Gz
open Go Gx Go.Proofs
set_option maxRecDepth 100000
noncomputable def zYv_ (k : Nat) (D : za_) : za_ := mkC D [zni_ k D, zhd_ k D]
noncomputable def zZ_ (k : Nat) (D : za_) (j27 : (Option Addr) → (Option Addr) → AHeap → Option (((Int × Int × Slc) × Int) × AHeap)) (rec43 : (Option Addr) → (Option Addr) → (Option Addr) → Slc → Int → Int → AHeap → Option (((Int × Int × Slc) × Int) × AHeap)) (a36 : Option Addr) (y37 : Option Addr) (out38 : Option Addr) (y39 : Slc) (y40 : Int) (y41 : Int) (h42 : AHeap) : Option (((Int × Int × Slc) × Int) × AHeap) :=
 (if (decide (y41 < y40)) = true then
 (Gx.idxL 1 y39 y41).bind fun q44 =>
 (ldI .i64 q44 h42).bind fun x45 =>
 zn_ (fun (a46 : Option Addr) (y47 : Option Addr) (out48 : Option Addr) (i49 : Int) (y50 : Slc) (y51 : Int) (y52 : Int) (y53 : Bool) (h54 : AHeap) =>
 (if y53 = true then
 (y47).bind fun p56 =>
 (stL 3 p56 ([.int .i64 0, .int .i64 0, .slice none 0 0]) h54).bind fun h57 =>
 (y47).bind fun p58 =>
 (ldA 3 p58 h57).bind fun l59 =>
 (decC [.i .i64, .i .i64, .l] l59).bind fun x60 =>
 some (((x60.1, x60.2.1, x60.2.2), 1), h57)
 else
 (a46).bind fun p61 =>
 (ldA 3 p61 h54).bind fun l62 =>
 (decC [.i .i64, .i .i64, .l] l62).bind fun x63 =>
 (zD_ k D (x63.1, x63.2.1, x63.2.2) i49 h54).bind fun r64 =>
 (out48).bind fun p65 =>
 (ldL (⟨p65.block, p65.off + 2, none⟩ : Addr) r64.2).bind fun x66 =>
 zz_ (zC_ [h54] (fun H68 => (ldL (⟨p65.block, p65.off + 2, none⟩ : Addr) H68).bind fun y67 => some (.slice y67.a y67.len y67.cap)) (.slice x66.a x66.len x66.cap)) (
 (rdS 1 r64.1 r64.2).bind fun n70 =>
 (zs_ 1 8 3 r64.2 x66 n70 r64.1.len).bind fun r69 =>
 (out48).bind fun p71 =>
 (st1 (⟨p71.block, p71.off + 2, none⟩ : Addr) (.slice r69.1.a r69.1.len r69.1.cap) r69.2).bind fun h72 =>
 rec43 a46 y47 out48 y50 y51 (IntKind.wrap .i64 (y52 + 1)) h72))) fun j55 =>
 (if (decide (x45 < 0)) = true then
 j55 a36 y37 out38 x45 y39 y40 y41 true h42
 else
 (a36).bind fun p73 =>
 (ldI .i64 (⟨p73.block, p73.off + 0, none⟩ : Addr) h42).bind fun x74 =>
 j55 a36 y37 out38 x45 y39 y40 y41 (decide (x45 ≥ x74)) h42)
 else
 j27 y37 out38 h42)
noncomputable def zqi_ (k : Nat) (D : za_) (j27 : (Option Addr) → (Option Addr) → AHeap → Option (((Int × Int × Slc) × Int) × AHeap)) : (Option Addr) → (Option Addr) → (Option Addr) → Slc → Int → Int → AHeap → Option (((Int × Int × Slc) × Int) × AHeap) :=
 zh_ (α := (Option Addr) → (Option Addr) → (Option Addr) → Slc → Int → Int → AHeap → Option (((Int × Int × Slc) × Int) × AHeap)) (fun _ _ _ _ _ _ _ => none) k (zZ_ k D j27)
noncomputable def zad_ (k : Nat) (D : za_) (a_0 : Int × Int × Slc) (rows_1 : Slc) (h : AHeap) : Option (((Int × Int × Slc) × Int) × AHeap) :=
 let h1 := AHeap.new h (.cells [.int .i64 a_0.1, .int .i64 a_0.2.1, .slice a_0.2.2.a a_0.2.2.len a_0.2.2.cap] 84 true 0)
 let h2 := AHeap.new h1 (.cells [.int .i64 0, .int .i64 0, .slice none 0 0] 84 true 0)
 (ldA 3 (⟨h.next, 0, none⟩ : Addr) h2).bind fun l3 =>
 (decC [.i .i64, .i .i64, .l] l3).bind fun x4 =>
 (zEe_ k D (x4.1, x4.2.1, x4.2.2) h2).bind fun r5 =>
 (if (r5.1 != 0) = true then
 (stL 3 (⟨h1.next, 0, none⟩ : Addr) ([.int .i64 0, .int .i64 0, .slice none 0 0]) r5.2).bind fun h6 =>
 (ldA 3 (⟨h1.next, 0, none⟩ : Addr) h6).bind fun l7 =>
 (decC [.i .i64, .i .i64, .l] l7).bind fun x8 =>
 some (((x8.1, x8.2.1, x8.2.2), r5.1), h6)
 else
 zn_ (fun (rows9 : Slc) (a10 : Option Addr) (y11 : Option Addr) (y12 : Bool) (h13 : AHeap) =>
 (if y12 = true then
 (y11).bind fun p15 =>
 (stL 3 p15 ([.int .i64 0, .int .i64 0, .slice none 0 0]) h13).bind fun h16 =>
 (y11).bind fun p17 =>
 (ldA 3 p17 h16).bind fun l18 =>
 (decC [.i .i64, .i .i64, .l] l18).bind fun x19 =>
 some (((x19.1, x19.2.1, x19.2.2), 1), h16)
 else
 (a10).bind fun p20 =>
 (ldI .i64 (⟨p20.block, p20.off + 1, none⟩ : Addr) h13).bind fun x21 =>
 let h22 := AHeap.new h13 (.cells [.int .i64 0, .int .i64 0, .slice none 0 0] 84 true 0)
 (stL 3 (⟨h13.next, 0, none⟩ : Addr) ([.int .i64 (rows9.len : Int), .int .i64 x21, .slice none 0 0]) h22).bind fun h23 =>
 zn_ (fun (y24 : Option Addr) (out25 : Option Addr) (h26 : AHeap) =>
 (out25).bind fun p28 =>
 (ldA 3 p28 h26).bind fun l29 =>
 (decC [.i .i64, .i .i64, .l] l29).bind fun x30 =>
 (y24).bind fun p31 =>
 (stL 3 p31 ([.int .i64 x30.1, .int .i64 x30.2.1, .slice x30.2.2.a x30.2.2.len x30.2.2.cap]) h26).bind fun h32 =>
 (y24).bind fun p33 =>
 (ldA 3 p33 h32).bind fun l34 =>
 (decC [.i .i64, .i .i64, .l] l34).bind fun x35 =>
 some (((x35.1, x35.2.1, x35.2.2), 0), h32)) fun j27 =>
 zqi_ k D j27 a10 y11 (some (⟨h13.next, 0, none⟩ : Addr)) rows9 (rows9.len : Int) 0 h23)) fun j14 =>
 (if ((rows_1.len : Int) == 0) = true then
 j14 rows_1 (some (⟨h.next, 0, none⟩ : Addr)) (some (⟨h1.next, 0, none⟩ : Addr)) true r5.2
 else
 j14 rows_1 (some (⟨h.next, 0, none⟩ : Addr)) (some (⟨h1.next, 0, none⟩ : Addr)) (decide ((rows_1.len : Int) > 255)) r5.2))
noncomputable def zdo_ : RCode := an (.s .n (.s (.s (.r [(0, .st [.i .i64, .i .i64, .l])]) .n) (.s (.s (.j [(1, .l), (2, .p), (4, .p), (23, .b)] .n) .n) (.s .n (.s (.j [(4, .p), (7, .p)] (.s .n (.b (.l [(2, .p), (4, .p), (7, .p), (30, .l), (31, .i .i64), (32, .i .i64)] (.s .n (.s .n (.s (.b (.s .n (.s (.s (.j [(2, .p), (4, .p), (7, .p), (9, .i .i64), (30, .l), (31, .i .i64), (32, .i .i64), (43, .b)] .n) .n) (.r [(0, .st [.i .i64, .i .i64, .l])])))) .n))))))) (.s (.r [(0, .st [.i .i64, .i .i64, .l])]) .n)))))) (rOf Tryz.prog 2 Tryz.f87)
noncomputable def zpo_ (k : Nat) (D : za_) : Ent := zq_ 87 [(0, .st [.i .i64, .i .i64, .l]), (1, .l)] [(4, .st [.i .i64, .i .i64, .l]), (5, .i .i64)] (zad_ k D)
theorem zmw_ : (Tryz.f87.body).bind (zd_ Tryz.prog 2 Tryz.f87.ntmps) = some (zf_ zdo_) := by kernel_rfl
theorem zew_ (k : Nat) (D : za_) : curF [(0, .st [.i .i64, .i .i64, .l]), (1, .l)] (fun args h => denF (zYv_ k D) k zdo_ [(4, .st [.i .i64, .i .i64, .l]), (5, .i .i64)] [some (.agg 3), none] args h) = zad_ k D := by kernel_rfl
theorem zBu_ {D : za_} (hD : zl_ Tryz.prog 2 D) (k : Nat) : zo_ Tryz.prog 2 (zpo_ k D) :=
 zj_ (zi_ hD (zc_.more (zQk_ hD k) (zc_.more (zOd_ hD k) (zc_.none)))) Tryz.func87 rfl zmw_ rfl (zew_ k D)
end Gz
namespace Gz
open Go Gx Go.Proofs
set_option maxRecDepth 100000
noncomputable def zrx_ (k : Nat) (D : za_) : za_ := mkC D [zpi_ k D, zhd_ k D]
noncomputable def zye_ (k : Nat) (D : za_) (j18 : (Option Addr) → (Option Addr) → AHeap → Option (((Int × Int × Slc) × Int) × AHeap)) (rec32 : (Option Addr) → (Option Addr) → Int → Int → AHeap → Option (((Int × Int × Slc) × Int) × AHeap)) (y27 : Option Addr) (out28 : Option Addr) (y29 : Int) (y30 : Int) (h31 : AHeap) : Option (((Int × Int × Slc) × Int) × AHeap) :=
 (if (decide (y30 < y29)) = true then
 (out28).bind fun p33 =>
 (ldA 3 p33 h31).bind fun l34 =>
 (decC [.i .i64, .i .i64, .l] l34).bind fun x35 =>
 (zD_ k D (x35.1, x35.2.1, x35.2.2) y30 h31).bind fun r36 =>
 (Gx.idxL 1 r36.1 y30).bind fun q37 =>
 (st1 q37 (.int .i64 1) r36.2).bind fun h38 =>
 rec32 y27 out28 y29 (IntKind.wrap .i64 (y30 + 1)) h38
 else
 j18 y27 out28 h31)
noncomputable def zWn_ (k : Nat) (D : za_) (j18 : (Option Addr) → (Option Addr) → AHeap → Option (((Int × Int × Slc) × Int) × AHeap)) : (Option Addr) → (Option Addr) → Int → Int → AHeap → Option (((Int × Int × Slc) × Int) × AHeap) :=
 zh_ (α := (Option Addr) → (Option Addr) → Int → Int → AHeap → Option (((Int × Int × Slc) × Int) × AHeap)) (fun _ _ _ _ _ => none) k (zye_ k D j18)
noncomputable def zth_ (k : Nat) (D : za_) (n_0 : Int) (h : AHeap) : Option (((Int × Int × Slc) × Int) × AHeap) :=
 let h1 := AHeap.new h (.cells [.int .i64 0, .int .i64 0, .slice none 0 0] 84 true 0)
 zn_ (fun (n2 : Int) (y3 : Option Addr) (y4 : Bool) (h5 : AHeap) =>
 (if y4 = true then
 (y3).bind fun p7 =>
 (stL 3 p7 ([.int .i64 0, .int .i64 0, .slice none 0 0]) h5).bind fun h8 =>
 (y3).bind fun p9 =>
 (ldA 3 p9 h8).bind fun l10 =>
 (decC [.i .i64, .i .i64, .l] l10).bind fun x11 =>
 some (((x11.1, x11.2.1, x11.2.2), 1), h8)
 else
 (zAe_ k D n2 n2 h5).bind fun r12 =>
 let h13 := AHeap.new r12.2 (.cells [.int .i64 0, .int .i64 0, .slice none 0 0] 84 true 0)
 (stL 3 (⟨r12.2.next, 0, none⟩ : Addr) ([.int .i64 r12.1.1, .int .i64 r12.1.2.1, .slice r12.1.2.2.a r12.1.2.2.len r12.1.2.2.cap]) h13).bind fun h14 =>
 zn_ (fun (y15 : Option Addr) (out16 : Option Addr) (h17 : AHeap) =>
 (out16).bind fun p19 =>
 (ldA 3 p19 h17).bind fun l20 =>
 (decC [.i .i64, .i .i64, .l] l20).bind fun x21 =>
 (y15).bind fun p22 =>
 (stL 3 p22 ([.int .i64 x21.1, .int .i64 x21.2.1, .slice x21.2.2.a x21.2.2.len x21.2.2.cap]) h17).bind fun h23 =>
 (y15).bind fun p24 =>
 (ldA 3 p24 h23).bind fun l25 =>
 (decC [.i .i64, .i .i64, .l] l25).bind fun x26 =>
 some (((x26.1, x26.2.1, x26.2.2), 0), h23)) fun j18 =>
 zWn_ k D j18 y3 (some (⟨r12.2.next, 0, none⟩ : Addr)) n2 0 h14)) fun j6 =>
 (if (decide (n_0 < 1)) = true then
 j6 n_0 (some (⟨h.next, 0, none⟩ : Addr)) true h1
 else
 j6 n_0 (some (⟨h.next, 0, none⟩ : Addr)) (decide (n_0 > 255)) h1)
noncomputable def zMo_ : RCode := an (.s .n (.s (.s (.j [(0, .i .i64), (2, .p), (11, .b)] .n) .n) (.s .n (.s (.j [(2, .p), (4, .p)] (.s .n (.b (.l [(2, .p), (4, .p), (16, .i .i64), (17, .i .i64)] (.s .n (.s .n (.s (.b (.s .n (.r [(0, .st [.i .i64, .i .i64, .l])]))) .n))))))) (.s (.r [(0, .st [.i .i64, .i .i64, .l])]) .n))))) (rOf Tryz.prog 2 Tryz.f112)
noncomputable def zVp_ (k : Nat) (D : za_) : Ent := zq_ 112 [(0, .i .i64)] [(2, .st [.i .i64, .i .i64, .l]), (3, .i .i64)] (zth_ k D)
theorem zOw_ : (Tryz.f112.body).bind (zd_ Tryz.prog 2 Tryz.f112.ntmps) = some (zf_ zMo_) := by kernel_rfl
theorem zdx_ (k : Nat) (D : za_) : curF [(0, .i .i64)] (fun args h => denF (zrx_ k D) k zMo_ [(2, .st [.i .i64, .i .i64, .l]), (3, .i .i64)] [some (.agg 3), none] args h) = zth_ k D := by kernel_rfl
theorem zww_ {D : za_} (hD : zl_ Tryz.prog 2 D) (k : Nat) : zo_ Tryz.prog 2 (zVp_ k D) :=
 zj_ (zi_ hD (zc_.more (zql_ hD k) (zc_.more (zOd_ hD k) (zc_.none)))) Tryz.func112 rfl zOw_ rfl (zdx_ k D)
end Gz
namespace Gz
open Go Gx Go.Proofs
set_option maxRecDepth 100000
noncomputable def zpu_ (_k : Nat) (D : za_) : za_ := mkC D []
noncomputable def zVf_ (_k : Nat) (_D : za_) (a_0 : Int × Int × Slc) (h : AHeap) : Option (((Int × Int × Slc)) × AHeap) :=
 let h1 := AHeap.new h (.cells [.int .i64 a_0.1, .int .i64 a_0.2.1, .slice a_0.2.2.a a_0.2.2.len a_0.2.2.cap] 84 true 0)
 let h2 := AHeap.new h1 (.cells [.int .i64 0, .int .i64 0, .slice none 0 0] 84 true 0)
 (ldL (⟨h.next, 2, none⟩ : Addr) h2).bind fun x3 =>
 (rdS 1 x3 h2).bind fun n5 =>
 (zs_ 1 8 3 h2 (⟨none, 0, 0⟩ : Slc) n5 x3.len).bind fun r4 =>
 (ldI .i64 (⟨h.next, 0, none⟩ : Addr) r4.2).bind fun x6 =>
 zz_ (zC_ [h2] (fun H8 => (ldI .i64 (⟨h.next, 0, none⟩ : Addr) H8).bind fun y7 => some (.int .i64 y7)) (.int .i64 x6)) (
 (ldI .i64 (⟨h.next, 1, none⟩ : Addr) r4.2).bind fun x9 =>
 zz_ (zC_ [h2] (fun H11 => (ldI .i64 (⟨h.next, 1, none⟩ : Addr) H11).bind fun y10 => some (.int .i64 y10)) (.int .i64 x9)) (
 (stL 3 (⟨h1.next, 0, none⟩ : Addr) ([.int .i64 x6, .int .i64 x9, .slice r4.1.a r4.1.len r4.1.cap]) r4.2).bind fun h12 =>
 (ldA 3 (⟨h1.next, 0, none⟩ : Addr) h12).bind fun l13 =>
 (decC [.i .i64, .i .i64, .l] l13).bind fun x14 =>
 some ((x14.1, x14.2.1, x14.2.2), h12)))
noncomputable def zam_ : RCode := an (.n) (rOf Tryz.prog 2 Tryz.f114)
noncomputable def zCm_ (k : Nat) (D : za_) : Ent := zq_ 114 [(0, .st [.i .i64, .i .i64, .l])] [(2, .st [.i .i64, .i .i64, .l])] (zVf_ k D)
theorem zxu_ : (Tryz.f114.body).bind (zd_ Tryz.prog 2 Tryz.f114.ntmps) = some (zf_ zam_) := by kernel_rfl
theorem zOt_ (k : Nat) (D : za_) : curF [(0, .st [.i .i64, .i .i64, .l])] (fun args h => denF (zpu_ k D) k zam_ [(2, .st [.i .i64, .i .i64, .l])] [some (.agg 3)] args h) = zVf_ k D := by kernel_rfl
theorem zrt_ {D : za_} (hD : zl_ Tryz.prog 2 D) (k : Nat) : zo_ Tryz.prog 2 (zCm_ k D) :=
 zj_ (zi_ hD (zc_.none)) Tryz.func114 rfl zxu_ rfl (zOt_ k D)
end Gz
namespace Gz
open Go Gx Go.Proofs
set_option maxRecDepth 100000
noncomputable def zxt_ (k : Nat) (D : za_) : za_ := mkC D [zhd_ k D]
noncomputable def zKc_ (_k : Nat) (_D : za_)  (rec15 : Slc → Slc → Int → Int → AHeap → Option ((Unit) × AHeap)) (x10 : Slc) (y11 : Slc) (y12 : Int) (y13 : Int) (h14 : AHeap) : Option ((Unit) × AHeap) :=
 (if (decide (y13 < y12)) = true then
 (Gx.idxL 1 y11 y13).bind fun q16 =>
 (ldI .i64 q16 h14).bind fun x17 =>
 (Gx.idxL 1 x10 y13).bind fun q18 =>
 (ldI .i64 q18 h14).bind fun x19 =>
 (Gx.idxL 1 x10 y13).bind fun q20 =>
 (st1 q20 (.int .i64 x17) h14).bind fun h21 =>
 (Gx.idxL 1 y11 y13).bind fun q22 =>
 (st1 q22 (.int .i64 x19) h21).bind fun h23 =>
 rec15 x10 y11 y12 (IntKind.wrap .i64 (y13 + 1)) h23
 else
 some ((), h14))
noncomputable def zbk_ (k : Nat) (D : za_)  : Slc → Slc → Int → Int → AHeap → Option ((Unit) × AHeap) :=
 zh_ (α := Slc → Slc → Int → Int → AHeap → Option ((Unit) × AHeap)) (fun _ _ _ _ _ => none) k (zKc_ k D )
noncomputable def zKd_ (k : Nat) (D : za_) (a_0 : Int × Int × Slc) (i_1 : Int) (k_2 : Int) (h : AHeap) : Option ((Unit) × AHeap) :=
 let h1 := AHeap.new h (.cells [.int .i64 a_0.1, .int .i64 a_0.2.1, .slice a_0.2.2.a a_0.2.2.len a_0.2.2.cap] 84 true 0)
 (ldA 3 (⟨h.next, 0, none⟩ : Addr) h1).bind fun l2 =>
 (decC [.i .i64, .i .i64, .l] l2).bind fun x3 =>
 (zD_ k D (x3.1, x3.2.1, x3.2.2) i_1 h1).bind fun r4 =>
 (ldA 3 (⟨h.next, 0, none⟩ : Addr) r4.2).bind fun l5 =>
 zz_ (zC_ [h1] (fun H7 => (ldA 3 (⟨h.next, 0, none⟩ : Addr) H7).bind fun y6 => some (.agg ⟨y6⟩)) (.agg ⟨l5⟩)) (
 (decC [.i .i64, .i .i64, .l] l5).bind fun x8 =>
 (zD_ k D (x8.1, x8.2.1, x8.2.2) k_2 r4.2).bind fun r9 =>
 zbk_ k D r4.1 r9.1 (r4.1.len : Int) 0 r9.2)
noncomputable def zol_ : RCode := an (.s .n (.s (.r [(0, .st [.i .i64, .i .i64, .l]), (3, .st [.i .i64, .i .i64, .l])]) (.s .n (.b (.l [(6, .l), (7, .l), (16, .i .i64), (17, .i .i64)] .n))))) (rOf Tryz.prog 2 Tryz.f120)
noncomputable def zjl_ (k : Nat) (D : za_) : Ent := zq_ 120 [(0, .st [.i .i64, .i .i64, .l]), (1, .i .i64), (2, .i .i64)] [] (zKd_ k D)
theorem zrs_ : (Tryz.f120.body).bind (zd_ Tryz.prog 2 Tryz.f120.ntmps) = some (zf_ zol_) := by kernel_rfl
theorem zZs_ (k : Nat) (D : za_) : curF [(0, .st [.i .i64, .i .i64, .l]), (1, .i .i64), (2, .i .i64)] (fun args h => denF (zxt_ k D) k zol_ [] [] args h) = zKd_ k D := by kernel_rfl
theorem zXr_ {D : za_} (hD : zl_ Tryz.prog 2 D) (k : Nat) : zo_ Tryz.prog 2 (zjl_ k D) :=
 zj_ (zi_ hD (zc_.more (zOd_ hD k) (zc_.none))) Tryz.func120 rfl zrs_ rfl (zZs_ k D)
end Gz
namespace Gz
open Go Gx Go.Proofs
set_option maxRecDepth 100000
noncomputable def zJm_ (k : Nat) (D : za_) : za_ := mkC D [zsg_ k D]
noncomputable def ztb_ (k : Nat) (D : za_)  (rec8 : (Option Addr) → Slc → Int → Slc → Int → Int → AHeap → Option ((Unit) × AHeap)) (s1 : Option Addr) (row2 : Slc) (byv3 : Int) (y4 : Slc) (y5 : Int) (y6 : Int) (h7 : AHeap) : Option ((Unit) × AHeap) :=
 (if (decide (y6 < y5)) = true then
 (Gx.idxL 1 y4 y6).bind fun q9 =>
 (ldI .i64 q9 h7).bind fun x10 =>
 (s1).bind fun p11 =>
 (ldP (⟨p11.block, p11.off + 0, none⟩ : Addr) h7).bind fun x12 =>
 (zDc_ k D x12 x10 byv3 h7).bind fun r13 =>
 (Gx.idxL 1 row2 y6).bind fun q14 =>
 (st1 q14 (.int .i64 r13.1.1) r13.2).bind fun h15 =>
 rec8 s1 row2 byv3 y4 y5 (IntKind.wrap .i64 (y6 + 1)) h15
 else
 some ((), h7))
noncomputable def zzg_ (k : Nat) (D : za_)  : (Option Addr) → Slc → Int → Slc → Int → Int → AHeap → Option ((Unit) × AHeap) :=
 zh_ (α := (Option Addr) → Slc → Int → Slc → Int → Int → AHeap → Option ((Unit) × AHeap)) (fun _ _ _ _ _ _ _ => none) k (ztb_ k D )
noncomputable def zyb_ (k : Nat) (D : za_) (s_0 : Option Addr) (row_1 : Slc) (by_2 : Int) (h : AHeap) : Option ((Unit) × AHeap) :=
 zzg_ k D s_0 row_1 by_2 row_1 (row_1.len : Int) 0 h
noncomputable def zah_ : RCode := an (.s .n (.b (.l [(0, .p), (1, .l), (2, .i .i64), (8, .l), (9, .i .i64), (10, .i .i64)] .n))) (rOf Tryz.prog 2 Tryz.f121)
noncomputable def zVg_ (k : Nat) (D : za_) : Ent := zq_ 121 [(0, .p), (1, .l), (2, .i .i64)] [] (zyb_ k D)
theorem zjm_ : (Tryz.f121.body).bind (zd_ Tryz.prog 2 Tryz.f121.ntmps) = some (zf_ zah_) := by kernel_rfl
theorem zQl_ (k : Nat) (D : za_) : curF [(0, .p), (1, .l), (2, .i .i64)] (fun args h => denF (zJm_ k D) k zah_ [] [] args h) = zyb_ k D := by kernel_rfl
theorem zzl_ {D : za_} (hD : zl_ Tryz.prog 2 D) (k : Nat) : zo_ Tryz.prog 2 (zVg_ k D) :=
 zj_ (zi_ hD (zc_.more (zAi_ hD k) (zc_.none))) Tryz.func121 rfl zjm_ rfl (zQl_ k D)
end Gz
namespace Gz
open Go Gx Go.Proofs
set_option maxRecDepth 100000
noncomputable def zar_ (k : Nat) (D : za_) : za_ := mkC D [zPj_ k D, zWc_ k D, zTe_ k D]
noncomputable def zVd_ (k : Nat) (D : za_) (f_0 : Option Addr) (a_1 : Int) (b_2 : Int) (h : AHeap) : Option ((Int × Int) × AHeap) :=
 let h1 := AHeap.new h (.cells [.int .i64 a_1, .int .i64 b_2] 3 true 0)
 (zmc_ k D (⟨(some ⟨h.next, 0, some 0⟩), 2, 2⟩ : Slc) h1).bind fun r2 =>
 (if (!r2.1) = true then
 some ((0, 1), r2.2)
 else
 (zW_ k D f_0 r2.2).bind fun r3 =>
 (zMb_ k D r3.1 a_1 b_2 r3.2).bind fun r4 =>
 some ((r4.1, 0), r4.2))
noncomputable def zDj_ : RCode := an (.n) (rOf Tryz.prog 2 Tryz.f132)
noncomputable def zoj_ (k : Nat) (D : za_) : Ent := zq_ 132 [(0, .p), (1, .i .i64), (2, .i .i64)] [(6, .i .i64), (7, .i .i64)] (zVd_ k D)
theorem zUq_ : (Tryz.f132.body).bind (zd_ Tryz.prog 2 Tryz.f132.ntmps) = some (zf_ zDj_) := by kernel_rfl
theorem zYq_ (k : Nat) (D : za_) : curF [(0, .p), (1, .i .i64), (2, .i .i64)] (fun args h => denF (zar_ k D) k zDj_ [(6, .i .i64), (7, .i .i64)] [none, none] args h) = zVd_ k D := by kernel_rfl
theorem zaq_ {D : za_} (hD : zl_ Tryz.prog 2 D) (k : Nat) : zo_ Tryz.prog 2 (zoj_ k D) :=
 zj_ (zi_ hD (zc_.more (zrl_ hD k) (zc_.more (zNe_ hD k) (zc_.more (zhh_ hD k) (zc_.none))))) Tryz.func132 rfl zUq_ rfl (zYq_ k D)
end Gz
namespace Gz
open Go Gx Go.Proofs
set_option maxRecDepth 100000
noncomputable def zHn_ (k : Nat) (D : za_) : za_ := mkC D [zoj_ k D]
noncomputable def zvc_ (k : Nat) (D : za_) (s_0 : Option Addr) (a_1 : Int) (b_2 : Int) (h : AHeap) : Option ((Int) × AHeap) :=
 (s_0).bind fun p1 =>
 (ldP (⟨p1.block, p1.off + 0, none⟩ : Addr) h).bind fun x2 =>
 (zVd_ k D x2 a_1 b_2 h).bind fun r3 =>
 some (r3.1.1, r3.2)
noncomputable def zph_ : RCode := an (.n) (rOf Tryz.prog 2 Tryz.f127)
noncomputable def zBh_ (k : Nat) (D : za_) : Ent := zq_ 127 [(0, .p), (1, .i .i64), (2, .i .i64)] [(6, .i .i64)] (zvc_ k D)
theorem zLn_ : (Tryz.f127.body).bind (zd_ Tryz.prog 2 Tryz.f127.ntmps) = some (zf_ zph_) := by kernel_rfl
theorem zfn_ (k : Nat) (D : za_) : curF [(0, .p), (1, .i .i64), (2, .i .i64)] (fun args h => denF (zHn_ k D) k zph_ [(6, .i .i64)] [none] args h) = zvc_ k D := by kernel_rfl
theorem zzm_ {D : za_} (hD : zl_ Tryz.prog 2 D) (k : Nat) : zo_ Tryz.prog 2 (zBh_ k D) :=
 zj_ (zi_ hD (zc_.more (zaq_ hD k) (zc_.none))) Tryz.func127 rfl zLn_ rfl (zfn_ k D)
end Gz
namespace Gz
open Go Gx Go.Proofs
set_option maxRecDepth 100000
noncomputable def zdp_ (k : Nat) (D : za_) : za_ := mkC D [zBh_ k D]
noncomputable def zPb_ (k : Nat) (D : za_)  (rec8 : (Option Addr) → Slc → Int → Slc → Int → Int → AHeap → Option ((Unit) × AHeap)) (s1 : Option Addr) (to2 : Slc) (byv3 : Int) (y4 : Slc) (y5 : Int) (y6 : Int) (h7 : AHeap) : Option ((Unit) × AHeap) :=
 (if (decide (y6 < y5)) = true then
 (Gx.idxL 1 y4 y6).bind fun q9 =>
 (ldI .i64 q9 h7).bind fun x10 =>
 (zvc_ k D s1 x10 byv3 h7).bind fun r11 =>
 (Gx.idxL 1 to2 y6).bind fun q12 =>
 (ldI .i64 q12 r11.2).bind fun x13 =>
 zz_ (zC_ [h7] (fun H15 => (ldI .i64 q12 H15).bind fun y14 => some (.int .i64 y14)) (.int .i64 x13)) (
 (Gx.idxL 1 to2 y6).bind fun q16 =>
 (st1 q16 (.int .i64 (Go.bits .xor .i64 x13 r11.1)) r11.2).bind fun h17 =>
 rec8 s1 to2 byv3 y4 y5 (IntKind.wrap .i64 (y6 + 1)) h17)
 else
 some ((), h7))
noncomputable def zZh_ (k : Nat) (D : za_)  : (Option Addr) → Slc → Int → Slc → Int → Int → AHeap → Option ((Unit) × AHeap) :=
 zh_ (α := (Option Addr) → Slc → Int → Slc → Int → Int → AHeap → Option ((Unit) × AHeap)) (fun _ _ _ _ _ _ _ => none) k (zPb_ k D )
noncomputable def zoc_ (k : Nat) (D : za_) (s_0 : Option Addr) (to_1 : Slc) (from_2 : Slc) (by_3 : Int) (h : AHeap) : Option ((Unit) × AHeap) :=
 zZh_ k D s_0 to_1 by_3 from_2 (from_2.len : Int) 0 h
noncomputable def zDi_ : RCode := an (.s .n (.b (.l [(0, .p), (1, .l), (3, .i .i64), (10, .l), (11, .i .i64), (12, .i .i64)] .n))) (rOf Tryz.prog 2 Tryz.f122)
noncomputable def zCi_ (k : Nat) (D : za_) : Ent := zq_ 122 [(0, .p), (1, .l), (2, .l), (3, .i .i64)] [] (zoc_ k D)
theorem zVo_ : (Tryz.f122.body).bind (zd_ Tryz.prog 2 Tryz.f122.ntmps) = some (zf_ zDi_) := by kernel_rfl
theorem zOp_ (k : Nat) (D : za_) : curF [(0, .p), (1, .l), (2, .l), (3, .i .i64)] (fun args h => denF (zdp_ k D) k zDi_ [] [] args h) = zoc_ k D := by kernel_rfl
theorem zzo_ {D : za_} (hD : zl_ Tryz.prog 2 D) (k : Nat) : zo_ Tryz.prog 2 (zCi_ k D) :=
 zj_ (zi_ hD (zc_.more (zzm_ hD k) (zc_.none))) Tryz.func122 rfl zVo_ rfl (zOp_ k D)
end Gz
namespace Gz
open Go Gx Go.Proofs
set_option maxRecDepth 100000
noncomputable def zln_ (k : Nat) (D : za_) : za_ := mkC D [zjl_ k D, zhd_ k D, zVg_ k D, zCi_ k D]
noncomputable def zab_ (k : Nat) (D : za_) (j35 : (Option Addr) → (Option Addr) → (Option Addr) → Int → Int → Int → AHeap → Option ((Int) × AHeap)) (rec138 : (Option Addr) → (Option Addr) → (Option Addr) → Int → Int → Int → AHeap → Option ((Int) × AHeap)) (s131 : Option Addr) (a132 : Option Addr) (beside133 : Option Addr) (rank134 : Int) (j135 : Int) (lead136 : Int) (h137 : AHeap) : Option ((Int) × AHeap) :=
 zn_ (fun (s139 : Option Addr) (a140 : Option Addr) (beside141 : Option Addr) (rank142 : Int) (j143 : Int) (lead144 : Int) (y145 : Bool) (h146 : AHeap) =>
 (if y145 = true then
 rec138 s139 a140 beside141 rank142 j143 (IntKind.wrap .i64 (lead144 + 1)) h146
 else
 j35 s139 a140 beside141 rank142 j143 lead144 h146)) fun j147 =>
 (a132).bind fun p148 =>
 (ldI .i64 (⟨p148.block, p148.off + 0, none⟩ : Addr) h137).bind fun x149 =>
 (if (decide (lead136 < x149)) = true then
 (a132).bind fun p150 =>
 (ldA 3 p150 h137).bind fun l151 =>
 (decC [.i .i64, .i .i64, .l] l151).bind fun x152 =>
 (zD_ k D (x152.1, x152.2.1, x152.2.2) lead136 h137).bind fun r153 =>
 (Gx.idxL 1 r153.1 j135).bind fun q154 =>
 (ldI .i64 q154 r153.2).bind fun x155 =>
 j147 s131 a132 beside133 rank134 j135 lead136 (x155 == 0) r153.2
 else
 j147 s131 a132 beside133 rank134 j135 lead136 false h137)
noncomputable def zDe_ (k : Nat) (D : za_) (j35 : (Option Addr) → (Option Addr) → (Option Addr) → Int → Int → Int → AHeap → Option ((Int) × AHeap)) : (Option Addr) → (Option Addr) → (Option Addr) → Int → Int → Int → AHeap → Option ((Int) × AHeap) :=
 zh_ (α := (Option Addr) → (Option Addr) → (Option Addr) → Int → Int → Int → AHeap → Option ((Int) × AHeap)) (fun _ _ _ _ _ _ _ => none) k (zab_ k D j35)
noncomputable def zcb_ (k : Nat) (D : za_) (j68 : (Option Addr) → (Option Addr) → (Option Addr) → Int → Int → AHeap → Option ((Int) × AHeap)) (rec79 : (Option Addr) → (Option Addr) → (Option Addr) → Int → Int → Int → Int → AHeap → Option ((Int) × AHeap)) (s71 : Option Addr) (a72 : Option Addr) (beside73 : Option Addr) (rank74 : Int) (j75 : Int) (y76 : Int) (y77 : Int) (h78 : AHeap) : Option ((Int) × AHeap) :=
 (if (decide (y77 < y76)) = true then
 zn_ (fun (s80 : Option Addr) (a81 : Option Addr) (beside82 : Option Addr) (rank83 : Int) (j84 : Int) (y85 : Int) (y86 : Int) (h87 : AHeap) =>
 rec79 s80 a81 beside82 rank83 j84 y85 (IntKind.wrap .i64 (y86 + 1)) h87) fun j88 =>
 (a72).bind fun p89 =>
 (ldA 3 p89 h78).bind fun l90 =>
 (decC [.i .i64, .i .i64, .l] l90).bind fun x91 =>
 (zD_ k D (x91.1, x91.2.1, x91.2.2) y77 h78).bind fun r92 =>
 (Gx.idxL 1 r92.1 j75).bind fun q93 =>
 (ldI .i64 q93 r92.2).bind fun x94 =>
 zn_ (fun (s95 : Option Addr) (a96 : Option Addr) (beside97 : Option Addr) (rank98 : Int) (j99 : Int) (i100 : Int) (byv101 : Int) (y102 : Int) (y103 : Int) (y104 : Bool) (h105 : AHeap) =>
 (if y104 = true then
 (a96).bind fun p107 =>
 (ldA 3 p107 h105).bind fun l108 =>
 (decC [.i .i64, .i .i64, .l] l108).bind fun x109 =>
 (zD_ k D (x109.1, x109.2.1, x109.2.2) i100 h105).bind fun r110 =>
 (a96).bind fun p111 =>
 (ldA 3 p111 r110.2).bind fun l112 =>
 zz_ (zC_ [h105] (fun H114 => (a96).bind fun p115 => (ldA 3 p115 H114).bind fun y113 => some (.agg ⟨y113⟩)) (.agg ⟨l112⟩)) (
 (decC [.i .i64, .i .i64, .l] l112).bind fun x116 =>
 (zD_ k D (x116.1, x116.2.1, x116.2.2) rank98 r110.2).bind fun r117 =>
 (zoc_ k D s95 r110.1 r117.1 byv101 r117.2).bind fun r118 =>
 (beside97).bind fun p119 =>
 (ldA 3 p119 r118.2).bind fun l120 =>
 (decC [.i .i64, .i .i64, .l] l120).bind fun x121 =>
 (zD_ k D (x121.1, x121.2.1, x121.2.2) i100 r118.2).bind fun r122 =>
 (beside97).bind fun p123 =>
 (ldA 3 p123 r122.2).bind fun l124 =>
 zz_ (zC_ [r118.2] (fun H126 => (beside97).bind fun p127 => (ldA 3 p127 H126).bind fun y125 => some (.agg ⟨y125⟩)) (.agg ⟨l124⟩)) (
 (decC [.i .i64, .i .i64, .l] l124).bind fun x128 =>
 (zD_ k D (x128.1, x128.2.1, x128.2.2) rank98 r122.2).bind fun r129 =>
 (zoc_ k D s95 r122.1 r129.1 byv101 r129.2).bind fun r130 =>
 j88 s95 a96 beside97 rank98 j99 y102 y103 r130.2))
 else
 j88 s95 a96 beside97 rank98 j99 y102 y103 h105)) fun j106 =>
 (if (y77 != rank74) = true then
 j106 s71 a72 beside73 rank74 j75 y77 x94 y76 y77 (x94 != 0) r92.2
 else
 j106 s71 a72 beside73 rank74 j75 y77 x94 y76 y77 false r92.2)
 else
 j68 s71 a72 beside73 rank74 j75 h78)
noncomputable def zeh_ (k : Nat) (D : za_) (j68 : (Option Addr) → (Option Addr) → (Option Addr) → Int → Int → AHeap → Option ((Int) × AHeap)) : (Option Addr) → (Option Addr) → (Option Addr) → Int → Int → Int → Int → AHeap → Option ((Int) × AHeap) :=
 zh_ (α := (Option Addr) → (Option Addr) → (Option Addr) → Int → Int → Int → Int → AHeap → Option ((Int) × AHeap)) (fun _ _ _ _ _ _ _ _ => none) k (zcb_ k D j68)
noncomputable def zbb_ (k : Nat) (D : za_) (j5 : Int → AHeap → Option ((Int) × AHeap)) (rec12 : (Option Addr) → (Option Addr) → (Option Addr) → Int → Int → AHeap → Option ((Int) × AHeap)) (s6 : Option Addr) (a7 : Option Addr) (beside8 : Option Addr) (rank9 : Int) (j10 : Int) (h11 : AHeap) : Option ((Int) × AHeap) :=
 zn_ (fun (s13 : Option Addr) (a14 : Option Addr) (beside15 : Option Addr) (rank16 : Int) (j17 : Int) (y18 : Bool) (h19 : AHeap) =>
 (if y18 = true then
 zn_ (fun (s21 : Option Addr) (a22 : Option Addr) (beside23 : Option Addr) (rank24 : Int) (j25 : Int) (h26 : AHeap) =>
 rec12 s21 a22 beside23 rank24 (IntKind.wrap .i64 (j25 + 1)) h26) fun j27 =>
 zn_ (fun (s28 : Option Addr) (a29 : Option Addr) (beside30 : Option Addr) (rank31 : Int) (j32 : Int) (lead33 : Int) (h34 : AHeap) =>
 (a29).bind fun p36 =>
 (ldI .i64 (⟨p36.block, p36.off + 0, none⟩ : Addr) h34).bind fun x37 =>
 (if (lead33 == x37) = true then
 j27 s28 a29 beside30 rank31 j32 h34
 else
 (a29).bind fun p38 =>
 (ldA 3 p38 h34).bind fun l39 =>
 (decC [.i .i64, .i .i64, .l] l39).bind fun x40 =>
 (zKd_ k D (x40.1, x40.2.1, x40.2.2) lead33 rank31 h34).bind fun r41 =>
 (beside30).bind fun p42 =>
 (ldA 3 p42 r41.2).bind fun l43 =>
 (decC [.i .i64, .i .i64, .l] l43).bind fun x44 =>
 (zKd_ k D (x44.1, x44.2.1, x44.2.2) lead33 rank31 r41.2).bind fun r45 =>
 (a29).bind fun p46 =>
 (ldA 3 p46 r45.2).bind fun l47 =>
 (decC [.i .i64, .i .i64, .l] l47).bind fun x48 =>
 (zD_ k D (x48.1, x48.2.1, x48.2.2) rank31 r45.2).bind fun r49 =>
 (Gx.idxL 1 r49.1 j32).bind fun q50 =>
 (ldI .i64 q50 r49.2).bind fun x51 =>
 (a29).bind fun p52 =>
 (ldA 3 p52 r49.2).bind fun l53 =>
 (decC [.i .i64, .i .i64, .l] l53).bind fun x54 =>
 (zD_ k D (x54.1, x54.2.1, x54.2.2) rank31 r49.2).bind fun r55 =>
 (zyb_ k D s28 r55.1 x51 r55.2).bind fun r56 =>
 (beside30).bind fun p57 =>
 (ldA 3 p57 r56.2).bind fun l58 =>
 (decC [.i .i64, .i .i64, .l] l58).bind fun x59 =>
 (zD_ k D (x59.1, x59.2.1, x59.2.2) rank31 r56.2).bind fun r60 =>
 (zyb_ k D s28 r60.1 x51 r60.2).bind fun r61 =>
 zn_ (fun (s62 : Option Addr) (a63 : Option Addr) (beside64 : Option Addr) (rank65 : Int) (j66 : Int) (h67 : AHeap) =>
 j27 s62 a63 beside64 (IntKind.wrap .i64 (rank65 + 1)) j66 h67) fun j68 =>
 (a29).bind fun p69 =>
 (ldI .i64 (⟨p69.block, p69.off + 0, none⟩ : Addr) r61.2).bind fun x70 =>
 zeh_ k D j68 s28 a29 beside30 rank31 j32 x70 0 r61.2)) fun j35 =>
 zDe_ k D j35 s13 a14 beside15 rank16 j17 rank16 h19
 else
 j5 rank16 h19)) fun j20 =>
 (a7).bind fun p156 =>
 (ldI .i64 (⟨p156.block, p156.off + 1, none⟩ : Addr) h11).bind fun x157 =>
 (if (decide (j10 < x157)) = true then
 (a7).bind fun p158 =>
 (ldI .i64 (⟨p158.block, p158.off + 0, none⟩ : Addr) h11).bind fun x159 =>
 j20 s6 a7 beside8 rank9 j10 (decide (rank9 < x159)) h11
 else
 j20 s6 a7 beside8 rank9 j10 false h11)
noncomputable def zLe_ (k : Nat) (D : za_) (j5 : Int → AHeap → Option ((Int) × AHeap)) : (Option Addr) → (Option Addr) → (Option Addr) → Int → Int → AHeap → Option ((Int) × AHeap) :=
 zh_ (α := (Option Addr) → (Option Addr) → (Option Addr) → Int → Int → AHeap → Option ((Int) × AHeap)) (fun _ _ _ _ _ _ => none) k (zbb_ k D j5)
noncomputable def zyc_ (k : Nat) (D : za_) (s_0 : Option Addr) (a_1 : Int × Int × Slc) (beside_2 : Int × Int × Slc) (h : AHeap) : Option ((Int) × AHeap) :=
 let h1 := AHeap.new h (.cells [.int .i64 a_1.1, .int .i64 a_1.2.1, .slice a_1.2.2.a a_1.2.2.len a_1.2.2.cap] 84 true 0)
 let h2 := AHeap.new h1 (.cells [.int .i64 beside_2.1, .int .i64 beside_2.2.1, .slice beside_2.2.2.a beside_2.2.2.len beside_2.2.2.cap] 84 true 0)
 zn_ (fun (rank3 : Int) (h4 : AHeap) =>
 some (rank3, h4)) fun j5 =>
 zLe_ k D j5 s_0 (some (⟨h.next, 0, none⟩ : Addr)) (some (⟨h1.next, 0, none⟩ : Addr)) 0 0 h2
noncomputable def zEh_ : RCode := an (.s .n (.s .n (.s (.j [(7, .i .i64)] (.s .n (.b (.l [(0, .p), (4, .p), (5, .p), (7, .i .i64), (8, .i .i64)] (.s (.s (.j [(0, .p), (4, .p), (5, .p), (7, .i .i64), (8, .i .i64), (22, .b)] .n) .n) (.s (.j [(0, .p), (4, .p), (5, .p), (7, .i .i64), (8, .i .i64)] (.b (.s .n (.s (.j [(0, .p), (4, .p), (5, .p), (7, .i .i64), (8, .i .i64), (9, .i .i64)] (.b (.l [(0, .p), (4, .p), (5, .p), (7, .i .i64), (8, .i .i64), (9, .i .i64)] (.s (.s (.j [(0, .p), (4, .p), (5, .p), (7, .i .i64), (8, .i .i64), (9, .i .i64), (38, .b)] (.r [(5, .st [.i .i64, .i .i64, .l])])) .n) .n)))) (.s .n (.s (.r [(0, .st [.i .i64, .i .i64, .l])]) (.s (.r [(0, .st [.i .i64, .i .i64, .l])]) (.s (.r [(0, .st [.i .i64, .i .i64, .l])]) (.s (.r [(1, .st [.i .i64, .i .i64, .l])]) (.s (.r [(1, .st [.i .i64, .i .i64, .l])]) (.s (.j [(0, .p), (4, .p), (5, .p), (7, .i .i64), (8, .i .i64)] (.s .n (.b (.l [(0, .p), (4, .p), (5, .p), (7, .i .i64), (8, .i .i64), (72, .i .i64), (73, .i .i64)] (.s .n (.s .n (.s (.j [(0, .p), (4, .p), (5, .p), (7, .i .i64), (8, .i .i64), (72, .i .i64), (73, .i .i64)] (.b (.s .n (.s (.r [(0, .st [.i .i64, .i .i64, .l])]) (.s (.j [(0, .p), (4, .p), (5, .p), (7, .i .i64), (8, .i .i64), (11, .i .i64), (12, .i .i64), (72, .i .i64), (73, .i .i64), (88, .b)] .n) (.s (.s (.r [(0, .st [.i .i64, .i .i64, .l]), (3, .st [.i .i64, .i .i64, .l])]) (.r [(0, .st [.i .i64, .i .i64, .l]), (3, .st [.i .i64, .i .i64, .l])])) .n)))))) .n))))))) .n))))))))))) .n)))))) .n))) (rOf Tryz.prog 2 Tryz.f113)
noncomputable def zQh_ (k : Nat) (D : za_) : Ent := zq_ 113 [(0, .p), (1, .st [.i .i64, .i .i64, .l]), (2, .st [.i .i64, .i .i64, .l])] [(6, .i .i64)] (zyc_ k D)
theorem zFn_ : (Tryz.f113.body).bind (zd_ Tryz.prog 2 Tryz.f113.ntmps) = some (zf_ zEh_) := by kernel_rfl
theorem zvn_ (k : Nat) (D : za_) : curF [(0, .p), (1, .st [.i .i64, .i .i64, .l]), (2, .st [.i .i64, .i .i64, .l])] (fun args h => denF (zln_ k D) k zEh_ [(6, .i .i64)] [none] args h) = zyc_ k D := by kernel_rfl
theorem ztm_ {D : za_} (hD : zl_ Tryz.prog 2 D) (k : Nat) : zo_ Tryz.prog 2 (zQh_ k D) :=
 zj_ (zi_ hD (zc_.more (zXr_ hD k) (zc_.more (zOd_ hD k) (zc_.more (zzl_ hD k) (zc_.more (zzo_ hD k) (zc_.none)))))) Tryz.func113 rfl zFn_ rfl (zvn_ k D)
end Gz
namespace Gz
open Go Gx Go.Proofs
set_option maxRecDepth 100000
noncomputable def zFl_ (k : Nat) (D : za_) : za_ := mkC D [zni_ k D, zVp_ k D, zCm_ k D, zQh_ k D]
noncomputable def zX_ (k : Nat) (D : za_) (s_0 : Option Addr) (a_1 : Int × Int × Slc) (h : AHeap) : Option (((Int × Int × Slc) × Int) × AHeap) :=
 let h1 := AHeap.new h (.cells [.int .i64 a_1.1, .int .i64 a_1.2.1, .slice a_1.2.2.a a_1.2.2.len a_1.2.2.cap] 84 true 0)
 let h2 := AHeap.new h1 (.cells [.int .i64 0, .int .i64 0, .slice none 0 0] 84 true 0)
 (ldA 3 (⟨h.next, 0, none⟩ : Addr) h2).bind fun l3 =>
 (decC [.i .i64, .i .i64, .l] l3).bind fun x4 =>
 (zEe_ k D (x4.1, x4.2.1, x4.2.2) h2).bind fun r5 =>
 (if (r5.1 != 0) = true then
 (stL 3 (⟨h1.next, 0, none⟩ : Addr) ([.int .i64 0, .int .i64 0, .slice none 0 0]) r5.2).bind fun h6 =>
 (ldA 3 (⟨h1.next, 0, none⟩ : Addr) h6).bind fun l7 =>
 (decC [.i .i64, .i .i64, .l] l7).bind fun x8 =>
 some (((x8.1, x8.2.1, x8.2.2), r5.1), h6)
 else
 (ldI .i64 (⟨h.next, 0, none⟩ : Addr) r5.2).bind fun x9 =>
 (ldI .i64 (⟨h.next, 1, none⟩ : Addr) r5.2).bind fun x10 =>
 (if (x9 != x10) = true then
 (stL 3 (⟨h1.next, 0, none⟩ : Addr) ([.int .i64 0, .int .i64 0, .slice none 0 0]) r5.2).bind fun h11 =>
 (ldA 3 (⟨h1.next, 0, none⟩ : Addr) h11).bind fun l12 =>
 (decC [.i .i64, .i .i64, .l] l12).bind fun x13 =>
 some (((x13.1, x13.2.1, x13.2.2), 4), h11)
 else
 (ldI .i64 (⟨h.next, 0, none⟩ : Addr) r5.2).bind fun x14 =>
 (zth_ k D x14 r5.2).bind fun r15 =>
 let h16 := AHeap.new r15.2 (.cells [.int .i64 0, .int .i64 0, .slice none 0 0] 84 true 0)
 (stL 3 (⟨r15.2.next, 0, none⟩ : Addr) ([.int .i64 r15.1.1.1, .int .i64 r15.1.1.2.1, .slice r15.1.1.2.2.a r15.1.1.2.2.len r15.1.1.2.2.cap]) h16).bind fun h17 =>
 (ldA 3 (⟨h.next, 0, none⟩ : Addr) h17).bind fun l18 =>
 (decC [.i .i64, .i .i64, .l] l18).bind fun x19 =>
 (zVf_ k D (x19.1, x19.2.1, x19.2.2) h17).bind fun r20 =>
 (ldA 3 (⟨r15.2.next, 0, none⟩ : Addr) r20.2).bind fun l21 =>
 zz_ (zC_ [h17] (fun H23 => (ldA 3 (⟨r15.2.next, 0, none⟩ : Addr) H23).bind fun y22 => some (.agg ⟨y22⟩)) (.agg ⟨l21⟩)) (
 (decC [.i .i64, .i .i64, .l] l21).bind fun x24 =>
 (zyc_ k D s_0 (r20.1.1, r20.1.2.1, r20.1.2.2) (x24.1, x24.2.1, x24.2.2) r20.2).bind fun r25 =>
 (ldI .i64 (⟨h.next, 0, none⟩ : Addr) r25.2).bind fun x26 =>
 zz_ (zC_ [r20.2, h17] (fun H28 => (ldI .i64 (⟨h.next, 0, none⟩ : Addr) H28).bind fun y27 => some (.int .i64 y27)) (.int .i64 x26)) (
 (if (decide (r25.1 < x26)) = true then
 (stL 3 (⟨h1.next, 0, none⟩ : Addr) ([.int .i64 0, .int .i64 0, .slice none 0 0]) r25.2).bind fun h29 =>
 (ldA 3 (⟨h1.next, 0, none⟩ : Addr) h29).bind fun l30 =>
 (decC [.i .i64, .i .i64, .l] l30).bind fun x31 =>
 some (((x31.1, x31.2.1, x31.2.2), 40), h29)
 else
 (ldA 3 (⟨r15.2.next, 0, none⟩ : Addr) r25.2).bind fun l32 =>
 (decC [.i .i64, .i .i64, .l] l32).bind fun x33 =>
 (stL 3 (⟨h1.next, 0, none⟩ : Addr) ([.int .i64 x33.1, .int .i64 x33.2.1, .slice x33.2.2.a x33.2.2.len x33.2.2.cap]) r25.2).bind fun h34 =>
 (ldA 3 (⟨h1.next, 0, none⟩ : Addr) h34).bind fun l35 =>
 (decC [.i .i64, .i .i64, .l] l35).bind fun x36 =>
 some (((x36.1, x36.2.1, x36.2.2), 0), h34))))))
noncomputable def zFg_ : RCode := an (.s .n (.s (.s (.r [(0, .st [.i .i64, .i .i64, .l])]) .n) (.s .n (.s .n (.s (.s (.r [(0, .st [.i .i64, .i .i64, .l]), (3, .st [.i .i64, .i .i64, .l])]) .n) (.s (.r [(0, .st [.i .i64, .i .i64, .l])]) .n)))))) (rOf Tryz.prog 2 Tryz.f88)
noncomputable def zCg_ (k : Nat) (D : za_) : Ent := zq_ 88 [(0, .p), (1, .st [.i .i64, .i .i64, .l])] [(4, .st [.i .i64, .i .i64, .l]), (5, .i .i64)] (zX_ k D)
theorem zAl_ : (Tryz.f88.body).bind (zd_ Tryz.prog 2 Tryz.f88.ntmps) = some (zf_ zFg_) := by kernel_rfl
theorem zvl_ (k : Nat) (D : za_) : curF [(0, .p), (1, .st [.i .i64, .i .i64, .l])] (fun args h => denF (zFl_ k D) k zFg_ [(4, .st [.i .i64, .i .i64, .l]), (5, .i .i64)] [some (.agg 3), none] args h) = zX_ k D := by kernel_rfl
theorem zHk_ {D : za_} (hD : zl_ Tryz.prog 2 D) (k : Nat) : zo_ Tryz.prog 2 (zCg_ k D) :=
 zj_ (zi_ hD (zc_.more (zQk_ hD k) (zc_.more (zww_ hD k) (zc_.more (zrt_ hD k) (zc_.more (ztm_ hD k) (zc_.none)))))) Tryz.func88 rfl zAl_ rfl (zvl_ k D)
end Gz
namespace Gz
open Go Gx Go.Proofs
set_option maxRecDepth 100000
noncomputable def zen_ (k : Nat) (D : za_) : za_ := mkC D [zpo_ k D, zCg_ k D, zFj_ k D, zCj_ k D]
noncomputable def zzb_ (_k : Nat) (_D : za_) (j5 : (Option Addr) → Slc → Slc → AHeap → Option ((Slc) × AHeap)) (rec52 : (Option Addr) → Slc → Slc → Slc → Int → Int → AHeap → Option ((Slc) × AHeap)) (p45 : Option Addr) (rows46 : Slc) (data47 : Slc) (y48 : Slc) (y49 : Int) (y50 : Int) (h51 : AHeap) : Option ((Slc) × AHeap) :=
 (if (decide (y50 < y49)) = true then
 (Gx.idxL 2 y48 y50).bind fun q53 =>
 (ldA 2 q53 h51).bind fun l54 =>
 (decC [.i .i64, .s] l54).bind fun x55 =>
 let h56 := AHeap.new h51 (.cells [.int .i64 0, .string ⟨#[]⟩] 61 true 0)
 (stL 2 (⟨h51.next, 0, none⟩ : Addr) ([.int .i64 x55.1, .string x55.2]) h56).bind fun h57 =>
 let h58 := AHeap.resv h57 2
 (ldI .i64 (⟨h51.next, 0, none⟩ : Addr) h58).bind fun x59 =>
 let h60 := AHeap.set h58 (h57.next + 0) (.cells [.int .i64 x59] 3 true 0)
 (rdS 1 (⟨(some ⟨(h57.next + 0), 0, some 0⟩), 1, 1⟩ : Slc) h60).bind fun n62 =>
 (zs_ 1 8 3 h60 rows46 n62 1).bind fun r61 =>
 (ldS (⟨h51.next, 1, none⟩ : Addr) r61.2).bind fun x63 =>
 zz_ (zC_ [h60, h58] (fun H65 => (ldS (⟨h51.next, 1, none⟩ : Addr) H65).bind fun y64 => some (.string y64)) (.string x63)) (
 let h66 := AHeap.set r61.2 (h57.next + 1) (.cells [.string x63] 9 true 0)
 (rdS 1 (⟨(some ⟨(h57.next + 1), 0, some 0⟩), 1, 1⟩ : Slc) h66).bind fun n68 =>
 (zs_ 1 16 9 h66 data47 n68 1).bind fun r67 =>
 rec52 p45 r61.1 r67.1 y48 y49 (IntKind.wrap .i64 (y50 + 1)) r67.2)
 else
 j5 p45 rows46 data47 h51)
noncomputable def zUg_ (k : Nat) (D : za_) (j5 : (Option Addr) → Slc → Slc → AHeap → Option ((Slc) × AHeap)) : (Option Addr) → Slc → Slc → Slc → Int → Int → AHeap → Option ((Slc) × AHeap) :=
 zh_ (α := (Option Addr) → Slc → Slc → Slc → Int → Int → AHeap → Option ((Slc) × AHeap)) (fun _ _ _ _ _ _ _ => none) k (zzb_ k D j5)
noncomputable def zDb_ (k : Nat) (D : za_) (j22 : Slc → AHeap → Option ((Slc) × AHeap)) (rec32 : (Option Addr) → Slc → (Option Addr) → Slc → Int → Int → AHeap → Option ((Slc) × AHeap)) (p25 : Option Addr) (data26 : Slc) (back27 : Option Addr) (out28 : Slc) (y29 : Int) (y30 : Int) (h31 : AHeap) : Option ((Slc) × AHeap) :=
 (if (decide (y30 < y29)) = true then
 (back27).bind fun p33 =>
 (ldA 3 p33 h31).bind fun l34 =>
 (decC [.i .i64, .i .i64, .l] l34).bind fun x35 =>
 (zZd_ k D p25 (x35.1, x35.2.1, x35.2.2) y30 h31).bind fun r36 =>
 (p25).bind fun p37 =>
 (ldP (⟨p37.block, p37.off + 2, none⟩ : Addr) r36.2).bind fun x38 =>
 zz_ (zC_ [h31] (fun H40 => (ldP (⟨p37.block, p37.off + 2, none⟩ : Addr) H40).bind fun y39 => some (.pointer y39)) (.pointer x38)) (
 (zle_ k D x38 data26 r36.1 r36.2).bind fun r41 =>
 let h42 := AHeap.new r41.2 (.cells [.string r41.1.1] 9 true 0)
 (rdS 1 (⟨(some ⟨r41.2.next, 0, some 0⟩), 1, 1⟩ : Slc) h42).bind fun n44 =>
 (zs_ 1 16 9 h42 out28 n44 1).bind fun r43 =>
 rec32 p25 data26 back27 r43.1 y29 (IntKind.wrap .i64 (y30 + 1)) r43.2)
 else
 j22 out28 h31)
noncomputable def zZg_ (k : Nat) (D : za_) (j22 : Slc → AHeap → Option ((Slc) × AHeap)) : (Option Addr) → Slc → (Option Addr) → Slc → Int → Int → AHeap → Option ((Slc) × AHeap) :=
 zh_ (α := (Option Addr) → Slc → (Option Addr) → Slc → Int → Int → AHeap → Option ((Slc) × AHeap)) (fun _ _ _ _ _ _ _ => none) k (zDb_ k D j22)
noncomputable def zxc_ (k : Nat) (D : za_) (p_0 : Option Addr) (parts_1 : Slc) (h : AHeap) : Option ((Slc) × AHeap) :=
 zn_ (fun (p1 : Option Addr) (rows2 : Slc) (data3 : Slc) (h4 : AHeap) =>
 (p1).bind fun p6 =>
 (ldA 3 (⟨p6.block, p6.off + 4, none⟩ : Addr) h4).bind fun l7 =>
 (decC [.i .i64, .i .i64, .l] l7).bind fun x8 =>
 (zad_ k D (x8.1, x8.2.1, x8.2.2) rows2 h4).bind fun r9 =>
 let h10 := AHeap.new r9.2 (.cells [.int .i64 0, .int .i64 0, .slice none 0 0] 84 true 0)
 (stL 3 (⟨r9.2.next, 0, none⟩ : Addr) ([.int .i64 r9.1.1.1, .int .i64 r9.1.1.2.1, .slice r9.1.1.2.2.a r9.1.1.2.2.len r9.1.1.2.2.cap]) h10).bind fun h11 =>
 let h12 := AHeap.resv h11 1
 (p1).bind fun p13 =>
 (ldP (⟨p13.block, p13.off + 3, none⟩ : Addr) h12).bind fun x14 =>
 (ldA 3 (⟨r9.2.next, 0, none⟩ : Addr) h12).bind fun l15 =>
 (decC [.i .i64, .i .i64, .l] l15).bind fun x16 =>
 (zX_ k D x14 (x16.1, x16.2.1, x16.2.2) h12).bind fun r17 =>
 let h18 := AHeap.set r17.2 (h11.next + 0) (.cells [.int .i64 0, .int .i64 0, .slice none 0 0] 84 true 0)
 (stL 3 (⟨(h11.next + 0), 0, none⟩ : Addr) ([.int .i64 r17.1.1.1, .int .i64 r17.1.1.2.1, .slice r17.1.1.2.2.a r17.1.1.2.2.len r17.1.1.2.2.cap]) h18).bind fun h19 =>
 zn_ (fun (out20 : Slc) (h21 : AHeap) =>
 some (out20, h21)) fun j22 =>
 (p1).bind fun p23 =>
 (ldI .i64 (⟨p23.block, p23.off + 0, none⟩ : Addr) h19).bind fun x24 =>
 zZg_ k D j22 p1 data3 (some (⟨(h11.next + 0), 0, none⟩ : Addr)) (⟨none, 0, 0⟩ : Slc) x24 0 h19) fun j5 =>
 zUg_ k D j5 p_0 (⟨none, 0, 0⟩ : Slc) (⟨none, 0, 0⟩ : Slc) parts_1 (parts_1.len : Int) 0 h
noncomputable def zAh_ : RCode := an (.s .n (.s .n (.s .n (.s (.j [(0, .p), (5, .l), (6, .l)] (.s .n (.b (.l [(0, .p), (5, .l), (6, .l), (17, .l), (18, .i .i64), (19, .i .i64)] (.s .n (.s .n (.s (.b (.s (.r [(1, .st [.i .i64, .s])]) .n)) .n))))))) (.s (.r [(3, .st [.i .i64, .i .i64, .l])]) (.s (.r [(4, .st [.i .i64, .i .i64, .l])]) (.s .n (.s (.j [(13, .l)] (.s .n (.b (.l [(0, .p), (6, .l), (11, .p), (13, .l), (55, .i .i64), (56, .i .i64)] (.s .n (.s .n (.s (.b (.s .n (.s (.r [(1, .st [.i .i64, .i .i64, .l])]) .n))) .n))))))) .n)))))))) (rOf Tryz.prog 2 Tryz.f55)
noncomputable def zPh_ (k : Nat) (D : za_) : Ent := zq_ 55 [(0, .p), (1, .l)] [(4, .l)] (zxc_ k D)
theorem zIn_ : (Tryz.f55.body).bind (zd_ Tryz.prog 2 Tryz.f55.ntmps) = some (zf_ zAh_) := by kernel_rfl
theorem zUm_ (k : Nat) (D : za_) : curF [(0, .p), (1, .l)] (fun args h => denF (zen_ k D) k zAh_ [(4, .l)] [none] args h) = zxc_ k D := by kernel_rfl
theorem zWl_ {D : za_} (hD : zl_ Tryz.prog 2 D) (k : Nat) : zo_ Tryz.prog 2 (zPh_ k D) :=
 zj_ (zi_ hD (zc_.more (zBu_ hD k) (zc_.more (zHk_ hD k) (zc_.more (zxp_ hD k) (zc_.more (zRo_ hD k) (zc_.none)))))) Tryz.func55 rfl zIn_ rfl (zUm_ k D)
end Gz
namespace Gz
open Go Gx Go.Proofs Go.Shelf
noncomputable def zbm_ (_k : Nat) (_D : za_) : Ent := zhB_ 54
theorem zBt_ {D : za_} (_hD : zl_ Tryz.prog 2 D) (k : Nat) : zo_ Tryz.prog 2 (zbm_ k D) :=
 zGF_ (c := _) Tryz.func54 rfl rfl (fun bk o c xs sep w h1 h2 h3 h4 h5 => Any.strings_Join Tryz.lays156 Tryz.Builder_Extra_156 bk o c xs sep w h1 h2 h3 h4 h5)
end Gz
namespace Gz
open Go Gx Go.Proofs
set_option maxRecDepth 100000
noncomputable def zJo_ (k : Nat) (D : za_) : za_ := mkC D [zMh_ k D, zPh_ k D, zbm_ k D]
noncomputable def zvd_ (k : Nat) (D : za_) (p_0 : Option Addr) (parts_1 : Slc) (long_2 : Int) (h : AHeap) : Option ((ByteArray × Int) × AHeap) :=
 (ztc_ k D p_0 parts_1 long_2 h).bind fun r1 =>
 (if (r1.1.2 != 0) = true then
 some (((⟨#[]⟩ : ByteArray), r1.1.2), r1.2)
 else
 (p_0).bind fun p2 =>
 (ldI .i64 (⟨p2.block, p2.off + 0, none⟩ : Addr) r1.2).bind fun x3 =>
 (if (decide ((r1.1.1.len : Int) < x3)) = true then
 some (((⟨#[]⟩ : ByteArray), 50), r1.2)
 else
 (zxc_ k D p_0 r1.1.1 r1.2).bind fun r4 =>
 (zps_ r4.1 (⟨#[]⟩ : ByteArray) r4.2).bind fun s5 =>
 (Gx.subS s5 none (some long_2)).bind fun s6 =>
 some ((s6, 0), r4.2)))
noncomputable def zNi_ : RCode := an (.n) (rOf Tryz.prog 2 Tryz.f28)
noncomputable def zFi_ (k : Nat) (D : za_) : Ent := zq_ 28 [(0, .p), (1, .l), (2, .i .i64)] [(6, .s), (7, .i .i64)] (zvd_ k D)
theorem zWo_ : (Tryz.f28.body).bind (zd_ Tryz.prog 2 Tryz.f28.ntmps) = some (zf_ zNi_) := by kernel_rfl
theorem zWp_ (k : Nat) (D : za_) : curF [(0, .p), (1, .l), (2, .i .i64)] (fun args h => denF (zJo_ k D) k zNi_ [(6, .s), (7, .i .i64)] [none, none] args h) = zvd_ k D := by kernel_rfl
theorem zEo_ {D : za_} (hD : zl_ Tryz.prog 2 D) (k : Nat) : zo_ Tryz.prog 2 (zFi_ k D) :=
 zj_ (zi_ hD (zc_.more (zlm_ hD k) (zc_.more (zWl_ hD k) (zc_.more (zBt_ hD k) (zc_.none))))) Tryz.func28 rfl zWo_ rfl (zWp_ k D)
end Gz
namespace Gz
open Go Gx Go.Proofs
set_option maxRecDepth 100000
noncomputable def zwu_ (k : Nat) (D : za_) : za_ := mkC D [zrp_ k D, zFi_ k D, zOv_ k D, zXn_ k D, znk_ k D]
noncomputable def zxd_ (k : Nat) (D : za_) (j4 : Slc → Slc → AHeap → Option ((ByteArray × Int) × AHeap)) (rec25 : Slc → Slc → Slc → Int → Int → AHeap → Option ((ByteArray × Int) × AHeap)) (l19 : Slc) (parts20 : Slc) (y21 : Slc) (y22 : Int) (y23 : Int) (h24 : AHeap) : Option ((ByteArray × Int) × AHeap) :=
 (if (decide (y23 < y22)) = true then
 (Gx.idxL 6 y21 y23).bind fun q26 =>
 (ldA 6 q26 h24).bind fun l27 =>
 (decC [.i .i64, .i .i64, .i .i64, .i .i64, .s, .s] l27).bind fun x28 =>
 let h29 := AHeap.new h24 (.cells [.int .i64 0, .int .i64 0, .int .i64 0, .int .i64 0, .string ⟨#[]⟩, .string ⟨#[]⟩] 33 true 0)
 (stL 6 (⟨h24.next, 0, none⟩ : Addr) ([.int .i64 x28.1, .int .i64 x28.2.1, .int .i64 x28.2.2.1, .int .i64 x28.2.2.2.1, .string x28.2.2.2.2.1, .string x28.2.2.2.2.2]) h29).bind fun h30 =>
 zn_ (fun (l31 : Slc) (parts32 : Slc) (x33 : Option Addr) (y34 : Slc) (y35 : Int) (y36 : Int) (y37 : Bool) (h38 : AHeap) =>
 (if y37 = true then
 some (((⟨#[]⟩ : ByteArray), 4), h38)
 else
 (x33).bind fun p40 =>
 (ldI .i64 (⟨p40.block, p40.off + 2, none⟩ : Addr) h38).bind fun x41 =>
 (x33).bind fun p42 =>
 (ldS (⟨p42.block, p42.off + 5, none⟩ : Addr) h38).bind fun x43 =>
 let h44 := AHeap.new h38 (.cells [.int .i64 x41, .string x43] 61 true 0)
 (rdS 2 (⟨(some ⟨h38.next, 0, some 0⟩), 1, 1⟩ : Slc) h44).bind fun n46 =>
 (zs_ 2 24 61 h44 parts32 n46 1).bind fun r45 =>
 rec25 l31 r45.1 y34 y35 (IntKind.wrap .i64 (y36 + 1)) r45.2)) fun j39 =>
 (ldA 6 (⟨h24.next, 0, none⟩ : Addr) h30).bind fun l47 =>
 (decC [.i .i64, .i .i64, .i .i64, .i .i64, .s, .s] l47).bind fun x48 =>
 (zEg_ k D (x48.1, x48.2.1, x48.2.2.1, x48.2.2.2.1, x48.2.2.2.2.1, x48.2.2.2.2.2) h30).bind fun r49 =>
 (if (r49.1 != 0) = true then
 j39 l19 parts20 (some (⟨h24.next, 0, none⟩ : Addr)) y21 y22 y23 true r49.2
 else
 (Gx.idxL 6 l19 0).bind fun q50 =>
 (ldA 6 q50 r49.2).bind fun l51 =>
 (decC [.i .i64, .i .i64, .i .i64, .i .i64, .s, .s] l51).bind fun x52 =>
 (ldA 6 (⟨h24.next, 0, none⟩ : Addr) r49.2).bind fun l53 =>
 (decC [.i .i64, .i .i64, .i .i64, .i .i64, .s, .s] l53).bind fun x54 =>
 (zdg_ k D (x52.1, x52.2.1, x52.2.2.1, x52.2.2.2.1, x52.2.2.2.2.1, x52.2.2.2.2.2) (x54.1, x54.2.1, x54.2.2.1, x54.2.2.2.1, x54.2.2.2.2.1, x54.2.2.2.2.2) r49.2).bind fun r55 =>
 j39 l19 parts20 (some (⟨h24.next, 0, none⟩ : Addr)) y21 y22 y23 (!r55.1) r55.2)
 else
 j4 l19 parts20 h24)
noncomputable def zVk_ (k : Nat) (D : za_) (j4 : Slc → Slc → AHeap → Option ((ByteArray × Int) × AHeap)) : Slc → Slc → Slc → Int → Int → AHeap → Option ((ByteArray × Int) × AHeap) :=
 zh_ (α := Slc → Slc → Slc → Int → Int → AHeap → Option ((ByteArray × Int) × AHeap)) (fun _ _ _ _ _ _ => none) k (zxd_ k D j4)
noncomputable def zGf_ (k : Nat) (D : za_) (l_0 : Slc) (h : AHeap) : Option ((ByteArray × Int) × AHeap) :=
 (if ((l_0.len : Int) == 0) = true then
 some (((⟨#[]⟩ : ByteArray), 4), h)
 else
 zn_ (fun (l1 : Slc) (parts2 : Slc) (h3 : AHeap) =>
 (Gx.idxL 6 l1 0).bind fun q5 =>
 (ldI .i64 (⟨q5.block, q5.off + 0, none⟩ : Addr) h3).bind fun x6 =>
 (Gx.idxL 6 l1 0).bind fun q7 =>
 (ldI .i64 (⟨q7.block, q7.off + 1, none⟩ : Addr) h3).bind fun x8 =>
 (zKh_ k D x6 x8 h3).bind fun r9 =>
 (if (r9.1.2 != 0) = true then
 some (((⟨#[]⟩ : ByteArray), r9.1.2), r9.2)
 else
 (Gx.idxL 6 l1 0).bind fun q10 =>
 (ldI .i64 (⟨q10.block, q10.off + 3, none⟩ : Addr) r9.2).bind fun x11 =>
 (zvd_ k D r9.1.1 parts2 x11 r9.2).bind fun r12 =>
 (if (r12.1.2 != 0) = true then
 some (((⟨#[]⟩ : ByteArray), r12.1.2), r12.2)
 else
 let h13 := AHeap.new r12.2 (.cells [.string r12.1.1] 9 true 0)
 (zYl_ k D (⟨(some ⟨r12.2.next, 0, some 0⟩), 1, 1⟩ : Slc) h13).bind fun r14 =>
 (Gx.idxL 6 l1 0).bind fun q15 =>
 (ldS (⟨q15.block, q15.off + 4, none⟩ : Addr) r14.2).bind fun x16 =>
 zz_ (zC_ [h13, r12.2] (fun H18 => (ldS (⟨q15.block, q15.off + 4, none⟩ : Addr) H18).bind fun y17 => some (.string y17)) (.string x16)) (
 (if (!(r14.1 == x16)) = true then
 some (((⟨#[]⟩ : ByteArray), 60), r14.2)
 else
 some ((r12.1.1, 0), r14.2)))))) fun j4 =>
 zVk_ k D j4 l_0 (⟨none, 0, 0⟩ : Slc) l_0 (l_0.len : Int) 0 h)
noncomputable def zFm_ : RCode := an (.s .n (.s .n (.s .n (.s (.j [(0, .l), (4, .l)] (.s .n (.b (.l [(0, .l), (4, .l), (13, .l), (14, .i .i64), (15, .i .i64)] (.s .n (.s .n (.s (.b (.s (.r [(1, .st [.i .i64, .i .i64, .i .i64, .i .i64, .s, .s])]) (.s (.s (.j [(0, .l), (4, .l), (6, .p), (13, .l), (14, .i .i64), (15, .i .i64), (29, .b)] (.r [(0, .st [.i .i64, .i .i64, .i .i64, .i .i64, .s, .s]), (6, .st [.i .i64, .i .i64, .i .i64, .i .i64, .s, .s]), (7, .st [.i .i64, .i .i64, .i .i64, .i .i64, .s, .s])])) .n) .n))) .n))))))) .n)))) (rOf Tryz.prog 2 Tryz.f12)
noncomputable def zgm_ (k : Nat) (D : za_) : Ent := zq_ 12 [(0, .l)] [(2, .s), (3, .i .i64)] (zGf_ k D)
theorem zUu_ : (Tryz.f12.body).bind (zd_ Tryz.prog 2 Tryz.f12.ntmps) = some (zf_ zFm_) := by kernel_rfl
theorem zWu_ (k : Nat) (D : za_) : curF [(0, .l)] (fun args h => denF (zwu_ k D) k zFm_ [(2, .s), (3, .i .i64)] [none, none] args h) = zGf_ k D := by kernel_rfl
theorem zKs_ {D : za_} (hD : zl_ Tryz.prog 2 D) (k : Nat) : zo_ Tryz.prog 2 (zgm_ k D) :=
 zj_ (zi_ hD (zc_.more (zaw_ hD k) (zc_.more (zEo_ hD k) (zc_.more (zeC_ hD k) (zc_.more (zhu_ hD k) (zc_.more (zlo_ hD k) (zc_.none))))))) Tryz.func12 rfl zUu_ rfl (zWu_ k D)
end Gz
namespace Gz
open Go Gx Go.Proofs
set_option maxRecDepth 100000
noncomputable def zXv_ (k : Nat) (D : za_) : za_ := mkC D [zyk_ k D]
noncomputable def zHg_ (k : Nat) (D : za_) (x_0 : Int × Int × Int × Int × ByteArray × ByteArray) (h : AHeap) : Option ((Int) × AHeap) :=
 let h1 := AHeap.new h (.cells [.int .i64 x_0.1, .int .i64 x_0.2.1, .int .i64 x_0.2.2.1, .int .i64 x_0.2.2.2.1, .string x_0.2.2.2.2.1, .string x_0.2.2.2.2.2] 34 true 0)
 zn_ (fun (x2 : Option Addr) (y3 : Bool) (h4 : AHeap) =>
 (if y3 = true then
 some (60, h4)
 else
 zn_ (fun (x6 : Option Addr) (y7 : Bool) (h8 : AHeap) =>
 (if y7 = true then
 some (60, h8)
 else
 (x6).bind fun p10 =>
 (ldI .i64 (⟨p10.block, p10.off + 0, none⟩ : Addr) h8).bind fun x11 =>
 (x6).bind fun p12 =>
 (ldI .i64 (⟨p12.block, p12.off + 3, none⟩ : Addr) h8).bind fun x13 =>
 (zVe_ k D x11 x13 h8).bind fun r14 =>
 (x6).bind fun p15 =>
 (ldS (⟨p15.block, p15.off + 5, none⟩ : Addr) r14.2).bind fun x16 =>
 zz_ (zC_ [h8] (fun H18 => (ldS (⟨p15.block, p15.off + 5, none⟩ : Addr) H18).bind fun y17 => some (.string y17)) (.string x16)) (
 (if ((x16.size : Int) != r14.1) = true then
 some (60, r14.2)
 else
 some (0, r14.2))))) fun j9 =>
 (x2).bind fun p19 =>
 (ldI .i64 (⟨p19.block, p19.off + 2, none⟩ : Addr) h4).bind fun x20 =>
 (if (decide (x20 < 0)) = true then
 j9 x2 true h4
 else
 (x2).bind fun p21 =>
 (ldI .i64 (⟨p21.block, p21.off + 2, none⟩ : Addr) h4).bind fun x22 =>
 (x2).bind fun p23 =>
 (ldI .i64 (⟨p23.block, p23.off + 0, none⟩ : Addr) h4).bind fun x24 =>
 (x2).bind fun p25 =>
 (ldI .i64 (⟨p25.block, p25.off + 1, none⟩ : Addr) h4).bind fun x26 =>
 (if (decide (x22 ≥ (IntKind.wrap .i64 (x24 + x26)))) = true then
 j9 x2 true h4
 else
 (x2).bind fun p27 =>
 (ldI .i64 (⟨p27.block, p27.off + 3, none⟩ : Addr) h4).bind fun x28 =>
 (if (decide (x28 < 0)) = true then
 j9 x2 true h4
 else
 (x2).bind fun p29 =>
 (ldI .i64 (⟨p29.block, p29.off + 3, none⟩ : Addr) h4).bind fun x30 =>
 (if (decide (x30 > 65536)) = true then
 j9 x2 true h4
 else
 (x2).bind fun p31 =>
 (ldS (⟨p31.block, p31.off + 4, none⟩ : Addr) h4).bind fun x32 =>
 j9 x2 ((x32.size : Int) != 32) h4)))))) fun j5 =>
 (ldI .i64 (⟨h.next, 0, none⟩ : Addr) h1).bind fun x33 =>
 (if (decide (x33 < 1)) = true then
 j5 (some (⟨h.next, 0, none⟩ : Addr)) true h1
 else
 (ldI .i64 (⟨h.next, 1, none⟩ : Addr) h1).bind fun x34 =>
 (if (decide (x34 < 0)) = true then
 j5 (some (⟨h.next, 0, none⟩ : Addr)) true h1
 else
 (ldI .i64 (⟨h.next, 0, none⟩ : Addr) h1).bind fun x35 =>
 (if (decide (x35 > 255)) = true then
 j5 (some (⟨h.next, 0, none⟩ : Addr)) true h1
 else
 (ldI .i64 (⟨h.next, 1, none⟩ : Addr) h1).bind fun x36 =>
 (ldI .i64 (⟨h.next, 0, none⟩ : Addr) h1).bind fun x37 =>
 j5 (some (⟨h.next, 0, none⟩ : Addr)) (decide (x36 > (IntKind.wrap .i64 (255 - x37)))) h1)))
noncomputable def zeo_ : RCode := an (.s .n (.s (.s (.j [(1, .p), (23, .b)] .n) .n) (.s (.s (.j [(1, .p), (52, .b)] .n) .n) .n))) (rOf Tryz.prog 2 Tryz.f29)
noncomputable def zro_ (k : Nat) (D : za_) : Ent := zq_ 29 [(0, .st [.i .i64, .i .i64, .i .i64, .i .i64, .s, .s])] [(2, .i .i64)] (zHg_ k D)
theorem zcw_ : (Tryz.f29.body).bind (zd_ Tryz.prog 2 Tryz.f29.ntmps) = some (zf_ zeo_) := by kernel_rfl
theorem zTv_ (k : Nat) (D : za_) : curF [(0, .st [.i .i64, .i .i64, .i .i64, .i .i64, .s, .s])] (fun args h => denF (zXv_ k D) k zeo_ [(2, .i .i64)] [none] args h) = zHg_ k D := by kernel_rfl
theorem zQt_ {D : za_} (hD : zl_ Tryz.prog 2 D) (k : Nat) : zo_ Tryz.prog 2 (zro_ k D) :=
 zj_ (zi_ hD (zc_.more (zPn_ hD k) (zc_.none))) Tryz.func29 rfl zcw_ rfl (zTv_ k D)
end Gz
namespace Gz
open Go Gx Go.Proofs
set_option maxRecDepth 100000
noncomputable def zAy_ (_k : Nat) (D : za_) : za_ := mkC D []
noncomputable def zmg_ (_k : Nat) (_D : za_) (x_0 : Int × Int × Int × Int × ByteArray × ByteArray) (y_1 : Int × Int × Int × Int × ByteArray × ByteArray) (h : AHeap) : Option ((Bool) × AHeap) :=
 let h1 := AHeap.new h (.cells [.int .i64 x_0.1, .int .i64 x_0.2.1, .int .i64 x_0.2.2.1, .int .i64 x_0.2.2.2.1, .string x_0.2.2.2.2.1, .string x_0.2.2.2.2.2] 34 true 0)
 let h2 := AHeap.new h1 (.cells [.int .i64 y_1.1, .int .i64 y_1.2.1, .int .i64 y_1.2.2.1, .int .i64 y_1.2.2.2.1, .string y_1.2.2.2.2.1, .string y_1.2.2.2.2.2] 34 true 0)
 (ldI .i64 (⟨h.next, 0, none⟩ : Addr) h2).bind fun x3 =>
 (ldI .i64 (⟨h1.next, 0, none⟩ : Addr) h2).bind fun x4 =>
 (if (x3 == x4) = true then
 (ldI .i64 (⟨h.next, 1, none⟩ : Addr) h2).bind fun x5 =>
 (ldI .i64 (⟨h1.next, 1, none⟩ : Addr) h2).bind fun x6 =>
 (if (x5 == x6) = true then
 (ldI .i64 (⟨h.next, 3, none⟩ : Addr) h2).bind fun x7 =>
 (ldI .i64 (⟨h1.next, 3, none⟩ : Addr) h2).bind fun x8 =>
 (if (x7 == x8) = true then
 (ldS (⟨h.next, 4, none⟩ : Addr) h2).bind fun x9 =>
 (ldS (⟨h1.next, 4, none⟩ : Addr) h2).bind fun x10 =>
 some ((x9 == x10), h2)
 else
 some (false, h2))
 else
 some (false, h2))
 else
 some (false, h2))
noncomputable def zdq_ : RCode := an (.n) (rOf Tryz.prog 2 Tryz.f15)
noncomputable def zjk_ (k : Nat) (D : za_) : Ent := zq_ 15 [(0, .st [.i .i64, .i .i64, .i .i64, .i .i64, .s, .s]), (1, .st [.i .i64, .i .i64, .i .i64, .i .i64, .s, .s])] [(4, .b)] (zmg_ k D)
theorem zny_ : (Tryz.f15.body).bind (zd_ Tryz.prog 2 Tryz.f15.ntmps) = some (zf_ zdq_) := by kernel_rfl
theorem zjy_ (k : Nat) (D : za_) : curF [(0, .st [.i .i64, .i .i64, .i .i64, .i .i64, .s, .s]), (1, .st [.i .i64, .i .i64, .i .i64, .i .i64, .s, .s])] (fun args h => denF (zAy_ k D) k zdq_ [(4, .b)] [none] args h) = zmg_ k D := by kernel_rfl
theorem zao_ {D : za_} (hD : zl_ Tryz.prog 2 D) (k : Nat) : zo_ Tryz.prog 2 (zjk_ k D) :=
 zj_ (zi_ hD (zc_.none)) Tryz.func15 rfl zny_ rfl (zjy_ k D)
end Gz
namespace Gz
open Go Gx Go.Proofs
set_option maxRecDepth 100000
noncomputable def zQq_ (k : Nat) (D : za_) : za_ := mkC D [zyk_ k D]
noncomputable def zYd_ (k : Nat) (D : za_) (p_0 : Option Addr) (long_1 : Int) (h : AHeap) : Option ((Int × Int) × AHeap) :=
 zn_ (fun (p1 : Option Addr) (long2 : Int) (y3 : Bool) (h4 : AHeap) =>
 (if y3 = true then
 some ((0, 1), h4)
 else
 (p1).bind fun p6 =>
 (ldI .i64 (⟨p6.block, p6.off + 0, none⟩ : Addr) h4).bind fun x7 =>
 (zVe_ k D x7 long2 h4).bind fun r8 =>
 some ((r8.1, 0), r8.2))) fun j5 =>
 (if (decide (long_1 < 0)) = true then
 j5 p_0 long_1 true h
 else
 j5 p_0 long_1 (decide (long_1 > 65536)) h)
noncomputable def zBj_ : RCode := an (.s .n (.s (.s (.j [(0, .p), (1, .i .i64), (11, .b)] .n) .n) .n)) (rOf Tryz.prog 2 Tryz.f57)
noncomputable def zEj_ (k : Nat) (D : za_) : Ent := zq_ 57 [(0, .p), (1, .i .i64)] [(4, .i .i64), (5, .i .i64)] (zYd_ k D)
theorem zJq_ : (Tryz.f57.body).bind (zd_ Tryz.prog 2 Tryz.f57.ntmps) = some (zf_ zBj_) := by kernel_rfl
theorem zVq_ (k : Nat) (D : za_) : curF [(0, .p), (1, .i .i64)] (fun args h => denF (zQq_ k D) k zBj_ [(4, .i .i64), (5, .i .i64)] [none, none] args h) = zYd_ k D := by kernel_rfl
theorem zwp_ {D : za_} (hD : zl_ Tryz.prog 2 D) (k : Nat) : zo_ Tryz.prog 2 (zEj_ k D) :=
 zj_ (zi_ hD (zc_.more (zPn_ hD k) (zc_.none))) Tryz.func57 rfl zJq_ rfl (zVq_ k D)
end Gz
namespace Gz
open Go Gx Go.Proofs
set_option maxRecDepth 100000
noncomputable def zBo_ (_k : Nat) (D : za_) : za_ := mkC D []
noncomputable def zIb_ (_k : Nat) (_D : za_) (j29 : (Option Addr) → Slc → Slc → Int → Bool → AHeap → Option ((Slc) × AHeap)) (rec43 : (Option Addr) → Slc → Slc → Int → Bool → Int → AHeap → Option ((Slc) × AHeap)) (p36 : Option Addr) (l37 : Slc) (out38 : Slc) (i39 : Int) (there40 : Bool) (j41 : Int) (h42 : AHeap) : Option ((Slc) × AHeap) :=
 (if (decide (j41 < (out38.len : Int))) = true then
 zn_ (fun (p44 : Option Addr) (l45 : Slc) (out46 : Slc) (i47 : Int) (there48 : Bool) (j49 : Int) (h50 : AHeap) =>
 rec43 p44 l45 out46 i47 there48 (IntKind.wrap .i64 (j49 + 1)) h50) fun j51 =>
 (if there40 = true then
 j51 p36 l37 out38 i39 true j41 h42
 else
 (Gx.idxL 2 out38 j41).bind fun q52 =>
 (ldI .i64 (⟨q52.block, q52.off + 0, none⟩ : Addr) h42).bind fun x53 =>
 (Gx.idxL 2 l37 i39).bind fun q54 =>
 (ldI .i64 (⟨q54.block, q54.off + 0, none⟩ : Addr) h42).bind fun x55 =>
 j51 p36 l37 out38 i39 (x53 == x55) j41 h42)
 else
 j29 p36 l37 out38 i39 there40 h42)
noncomputable def zLh_ (k : Nat) (D : za_) (j29 : (Option Addr) → Slc → Slc → Int → Bool → AHeap → Option ((Slc) × AHeap)) : (Option Addr) → Slc → Slc → Int → Bool → Int → AHeap → Option ((Slc) × AHeap) :=
 zh_ (α := (Option Addr) → Slc → Slc → Int → Bool → Int → AHeap → Option ((Slc) × AHeap)) (fun _ _ _ _ _ _ _ => none) k (zIb_ k D j29)
noncomputable def zKb_ (k : Nat) (D : za_) (j3 : Slc → AHeap → Option ((Slc) × AHeap)) (rec9 : (Option Addr) → Slc → Slc → Int → AHeap → Option ((Slc) × AHeap)) (p4 : Option Addr) (l5 : Slc) (out6 : Slc) (i7 : Int) (h8 : AHeap) : Option ((Slc) × AHeap) :=
 zn_ (fun (p10 : Option Addr) (l11 : Slc) (out12 : Slc) (i13 : Int) (y14 : Bool) (h15 : AHeap) =>
 (if y14 = true then
 zn_ (fun (p17 : Option Addr) (l18 : Slc) (out19 : Slc) (i20 : Int) (h21 : AHeap) =>
 rec9 p17 l18 out19 (IntKind.wrap .i64 (i20 + 1)) h21) fun j22 =>
 zn_ (fun (p23 : Option Addr) (l24 : Slc) (out25 : Slc) (i26 : Int) (there27 : Bool) (h28 : AHeap) =>
 (if (!there27) = true then
 (Gx.idxL 2 l24 i26).bind fun q30 =>
 (ldA 2 q30 h28).bind fun l31 =>
 (decC [.i .i64, .s] l31).bind fun x32 =>
 let h33 := AHeap.new h28 (.cells [.int .i64 x32.1, .string x32.2] 65 true 0)
 (rdS 2 (⟨(some ⟨h28.next, 0, some 0⟩), 1, 1⟩ : Slc) h33).bind fun n35 =>
 (zs_ 2 24 65 h33 out25 n35 1).bind fun r34 =>
 j22 p23 l24 r34.1 i26 r34.2
 else
 j22 p23 l24 out25 i26 h28)) fun j29 =>
 zLh_ k D j29 p10 l11 out12 i13 false 0 h15
 else
 j3 out12 h15)) fun j16 =>
 (if (decide (i7 < (l5.len : Int))) = true then
 (p4).bind fun p56 =>
 (ldI .i64 (⟨p56.block, p56.off + 0, none⟩ : Addr) h8).bind fun x57 =>
 j16 p4 l5 out6 i7 (decide ((out6.len : Int) < x57)) h8
 else
 j16 p4 l5 out6 i7 false h8)
noncomputable def zlh_ (k : Nat) (D : za_) (j3 : Slc → AHeap → Option ((Slc) × AHeap)) : (Option Addr) → Slc → Slc → Int → AHeap → Option ((Slc) × AHeap) :=
 zh_ (α := (Option Addr) → Slc → Slc → Int → AHeap → Option ((Slc) × AHeap)) (fun _ _ _ _ _ => none) k (zKb_ k D j3)
noncomputable def zHc_ (k : Nat) (D : za_) (p_0 : Option Addr) (l_1 : Slc) (h : AHeap) : Option ((Slc) × AHeap) :=
 zn_ (fun (out1 : Slc) (h2 : AHeap) =>
 some (out1, h2)) fun j3 =>
 zlh_ k D j3 p_0 l_1 (⟨none, 0, 0⟩ : Slc) 0 h
noncomputable def zYh_ : RCode := an (.s .n (.s .n (.s (.j [(5, .l)] (.s .n (.b (.l [(0, .p), (1, .l), (5, .l), (6, .i .i64)] (.s (.s (.j [(0, .p), (1, .l), (5, .l), (6, .i .i64), (21, .b)] .n) .n) (.s (.j [(0, .p), (1, .l), (5, .l), (6, .i .i64)] (.b (.s .n (.s (.j [(0, .p), (1, .l), (5, .l), (6, .i .i64), (7, .b)] (.s .n (.b (.l [(0, .p), (1, .l), (5, .l), (6, .i .i64), (7, .b), (8, .i .i64)] (.s .n (.s (.j [(0, .p), (1, .l), (5, .l), (6, .i .i64), (7, .b), (8, .i .i64)] .n) .n)))))) (.s .n (.s (.r [(4, .st [.i .i64, .s])]) .n)))))) .n)))))) .n))) (rOf Tryz.prog 2 Tryz.f58)
noncomputable def zUh_ (k : Nat) (D : za_) : Ent := zq_ 58 [(0, .p), (1, .l)] [(4, .l)] (zHc_ k D)
theorem zyo_ : (Tryz.f58.body).bind (zd_ Tryz.prog 2 Tryz.f58.ntmps) = some (zf_ zYh_) := by kernel_rfl
theorem zGo_ (k : Nat) (D : za_) : curF [(0, .p), (1, .l)] (fun args h => denF (zBo_ k D) k zYh_ [(4, .l)] [none] args h) = zHc_ k D := by kernel_rfl
theorem zmn_ {D : za_} (hD : zl_ Tryz.prog 2 D) (k : Nat) : zo_ Tryz.prog 2 (zUh_ k D) :=
 zj_ (zi_ hD (zc_.none)) Tryz.func58 rfl zyo_ rfl (zGo_ k D)
end Gz
namespace Gz
open Go Gx Go.Proofs
set_option maxRecDepth 100000
noncomputable def zgw_ (_k : Nat) (D : za_) : za_ := mkC D []
noncomputable def zce_ (_k : Nat) (_D : za_) (j13 : AHeap → Option ((Int) × AHeap)) (rec17 : (Option Addr) → Int → AHeap → Option ((Int) × AHeap)) (a14 : Option Addr) (i15 : Int) (h16 : AHeap) : Option ((Int) × AHeap) :=
 (a14).bind fun p18 =>
 (ldL (⟨p18.block, p18.off + 2, none⟩ : Addr) h16).bind fun x19 =>
 (if (decide (i15 < (x19.len : Int))) = true then
 zn_ (fun (a20 : Option Addr) (i21 : Int) (y22 : Bool) (h23 : AHeap) =>
 (if y22 = true then
 some (1, h23)
 else
 rec17 a20 (IntKind.wrap .i64 (i21 + 1)) h23)) fun j24 =>
 (a14).bind fun p25 =>
 (ldL (⟨p25.block, p25.off + 2, none⟩ : Addr) h16).bind fun x26 =>
 (Gx.idxL 1 x26 i15).bind fun q27 =>
 (ldI .i64 q27 h16).bind fun x28 =>
 (if (decide (x28 < 0)) = true then
 j24 a14 i15 true h16
 else
 (a14).bind fun p29 =>
 (ldL (⟨p29.block, p29.off + 2, none⟩ : Addr) h16).bind fun x30 =>
 (Gx.idxL 1 x30 i15).bind fun q31 =>
 (ldI .i64 q31 h16).bind fun x32 =>
 j24 a14 i15 (decide (x32 > 255)) h16)
 else
 j13 h16)
noncomputable def zhi_ (k : Nat) (D : za_) (j13 : AHeap → Option ((Int) × AHeap)) : (Option Addr) → Int → AHeap → Option ((Int) × AHeap) :=
 zh_ (α := (Option Addr) → Int → AHeap → Option ((Int) × AHeap)) (fun _ _ _ => none) k (zce_ k D j13)
noncomputable def zwf_ (k : Nat) (D : za_) (a_0 : Int × Int × Slc) (h : AHeap) : Option ((Int) × AHeap) :=
 let h1 := AHeap.new h (.cells [.int .i64 a_0.1, .int .i64 a_0.2.1, .slice a_0.2.2.a a_0.2.2.len a_0.2.2.cap] 97 true 0)
 zn_ (fun (a2 : Option Addr) (y3 : Bool) (h4 : AHeap) =>
 (if y3 = true then
 some (1, h4)
 else
 (a2).bind fun p6 =>
 (ldL (⟨p6.block, p6.off + 2, none⟩ : Addr) h4).bind fun x7 =>
 (a2).bind fun p8 =>
 (ldI .i64 (⟨p8.block, p8.off + 0, none⟩ : Addr) h4).bind fun x9 =>
 (a2).bind fun p10 =>
 (ldI .i64 (⟨p10.block, p10.off + 1, none⟩ : Addr) h4).bind fun x11 =>
 (if ((x7.len : Int) != (IntKind.wrap .i64 (x9 * x11))) = true then
 some (4, h4)
 else
 zn_ (fun (h12 : AHeap) =>
 some (0, h12)) fun j13 =>
 zhi_ k D j13 a2 0 h4))) fun j5 =>
 (ldI .i64 (⟨h.next, 0, none⟩ : Addr) h1).bind fun x33 =>
 (if (decide (x33 < 1)) = true then
 j5 (some (⟨h.next, 0, none⟩ : Addr)) true h1
 else
 (ldI .i64 (⟨h.next, 0, none⟩ : Addr) h1).bind fun x34 =>
 (if (decide (x34 > 255)) = true then
 j5 (some (⟨h.next, 0, none⟩ : Addr)) true h1
 else
 (ldI .i64 (⟨h.next, 1, none⟩ : Addr) h1).bind fun x35 =>
 (if (decide (x35 < 1)) = true then
 j5 (some (⟨h.next, 0, none⟩ : Addr)) true h1
 else
 (ldI .i64 (⟨h.next, 1, none⟩ : Addr) h1).bind fun x36 =>
 j5 (some (⟨h.next, 0, none⟩ : Addr)) (decide (x36 > 255)) h1)))
noncomputable def zto_ : RCode := an (.s .n (.s (.s (.j [(1, .p), (21, .b)] .n) .n) (.s .n (.s (.j [] (.s .n (.b (.l [(1, .p), (3, .i .i64)] (.s .n (.s (.b (.s (.j [(1, .p), (3, .i .i64), (51, .b)] .n) .n)) .n)))))) .n)))) (rOf Tryz.prog 2 Tryz.f89)
noncomputable def zgj_ (k : Nat) (D : za_) : Ent := zq_ 89 [(0, .st [.i .i64, .i .i64, .l])] [(2, .i .i64)] (zwf_ k D)
theorem zbw_ : (Tryz.f89.body).bind (zd_ Tryz.prog 2 Tryz.f89.ntmps) = some (zf_ zto_) := by kernel_rfl
theorem zuw_ (k : Nat) (D : za_) : curF [(0, .st [.i .i64, .i .i64, .l])] (fun args h => denF (zgw_ k D) k zto_ [(2, .i .i64)] [none] args h) = zwf_ k D := by kernel_rfl
theorem zkm_ {D : za_} (hD : zl_ Tryz.prog 2 D) (k : Nat) : zo_ Tryz.prog 2 (zgj_ k D) :=
 zj_ (zi_ hD (zc_.none)) Tryz.func89 rfl zbw_ rfl (zuw_ k D)
end Gz
namespace Gz
open Go Gx Go.Proofs
set_option maxRecDepth 100000
noncomputable def zKy_ (_k : Nat) (D : za_) : za_ := mkC D []
noncomputable def zY_ (_k : Nat) (_D : za_) (a_0 : Int × Int × Slc) (i_1 : Int) (j_2 : Int) (h : AHeap) : Option ((Int) × AHeap) :=
 let h1 := AHeap.new h (.cells [.int .i64 a_0.1, .int .i64 a_0.2.1, .slice a_0.2.2.a a_0.2.2.len a_0.2.2.cap] 97 true 0)
 (ldL (⟨h.next, 2, none⟩ : Addr) h1).bind fun x2 =>
 (ldI .i64 (⟨h.next, 1, none⟩ : Addr) h1).bind fun x3 =>
 (Gx.idxL 1 x2 (IntKind.wrap .i64 ((IntKind.wrap .i64 (i_1 * x3)) + j_2))).bind fun q4 =>
 (ldI .i64 q4 h1).bind fun x5 =>
 some (x5, h1)
noncomputable def zEp_ : RCode := an (.n) (rOf Tryz.prog 2 Tryz.f90)
noncomputable def zyd_ (k : Nat) (D : za_) : Ent := zq_ 90 [(0, .st [.i .i64, .i .i64, .l]), (1, .i .i64), (2, .i .i64)] [(6, .i .i64)] (zY_ k D)
theorem zJx_ : (Tryz.f90.body).bind (zd_ Tryz.prog 2 Tryz.f90.ntmps) = some (zf_ zEp_) := by kernel_rfl
theorem zSy_ (k : Nat) (D : za_) : curF [(0, .st [.i .i64, .i .i64, .l]), (1, .i .i64), (2, .i .i64)] (fun args h => denF (zKy_ k D) k zEp_ [(6, .i .i64)] [none] args h) = zY_ k D := by kernel_rfl
theorem zMd_ {D : za_} (hD : zl_ Tryz.prog 2 D) (k : Nat) : zo_ Tryz.prog 2 (zyd_ k D) :=
 zj_ (zi_ hD (zc_.none)) Tryz.func90 rfl zJx_ rfl (zSy_ k D)
end Gz
namespace Gz
open Go Gx Go.Proofs
set_option maxRecDepth 100000
noncomputable def zUx_ (k : Nat) (D : za_) : za_ := mkC D [zgj_ k D, znh_ k D, zyd_ k D]
noncomputable def zed_ (_k : Nat) (_D : za_) (j24 : Slc → (Option Addr) → (Option Addr) → AHeap → Option (((Int × Int × Slc) × Int) × AHeap)) (rec87 : Slc → (Option Addr) → (Option Addr) → Int → AHeap → Option (((Int × Int × Slc) × Int) × AHeap)) (rows82 : Slc) (a83 : Option Addr) (y84 : Option Addr) (i85 : Int) (h86 : AHeap) : Option (((Int × Int × Slc) × Int) × AHeap) :=
 (if (decide (i85 < (rows82.len : Int))) = true then
 zn_ (fun (rows88 : Slc) (a89 : Option Addr) (y90 : Option Addr) (i91 : Int) (y92 : Bool) (h93 : AHeap) =>
 (if y92 = true then
 (y90).bind fun p95 =>
 (stL 3 p95 ([.int .i64 0, .int .i64 0, .slice none 0 0]) h93).bind fun h96 =>
 (y90).bind fun p97 =>
 (ldA 3 p97 h96).bind fun l98 =>
 (decC [.i .i64, .i .i64, .l] l98).bind fun x99 =>
 some (((x99.1, x99.2.1, x99.2.2), 1), h96)
 else
 rec87 rows88 a89 y90 (IntKind.wrap .i64 (i91 + 1)) h93)) fun j94 =>
 (Gx.idxL 1 rows82 i85).bind fun q100 =>
 (ldI .i64 q100 h86).bind fun x101 =>
 (if (decide (x101 < 0)) = true then
 j94 rows82 a83 y84 i85 true h86
 else
 (Gx.idxL 1 rows82 i85).bind fun q102 =>
 (ldI .i64 q102 h86).bind fun x103 =>
 (a83).bind fun p104 =>
 (ldI .i64 (⟨p104.block, p104.off + 0, none⟩ : Addr) h86).bind fun x105 =>
 j94 rows82 a83 y84 i85 (decide (x103 ≥ x105)) h86)
 else
 j24 rows82 a83 y84 h86)
noncomputable def zhj_ (k : Nat) (D : za_) (j24 : Slc → (Option Addr) → (Option Addr) → AHeap → Option (((Int × Int × Slc) × Int) × AHeap)) : Slc → (Option Addr) → (Option Addr) → Int → AHeap → Option (((Int × Int × Slc) × Int) × AHeap) :=
 zh_ (α := Slc → (Option Addr) → (Option Addr) → Int → AHeap → Option (((Int × Int × Slc) × Int) × AHeap)) (fun _ _ _ _ _ => none) k (zed_ k D j24)
noncomputable def zJe_ (k : Nat) (D : za_) (j55 : Slc → (Option Addr) → (Option Addr) → (Option Addr) → Int → AHeap → Option (((Int × Int × Slc) × Int) × AHeap)) (rec63 : Slc → (Option Addr) → (Option Addr) → (Option Addr) → Int → Int → AHeap → Option (((Int × Int × Slc) × Int) × AHeap)) (rows56 : Slc) (a57 : Option Addr) (y58 : Option Addr) (out59 : Option Addr) (i60 : Int) (j61 : Int) (h62 : AHeap) : Option (((Int × Int × Slc) × Int) × AHeap) :=
 (a57).bind fun p64 =>
 (ldI .i64 (⟨p64.block, p64.off + 1, none⟩ : Addr) h62).bind fun x65 =>
 (if (decide (j61 < x65)) = true then
 (a57).bind fun p66 =>
 (ldA 3 p66 h62).bind fun l67 =>
 (decC [.i .i64, .i .i64, .l] l67).bind fun x68 =>
 (Gx.idxL 1 rows56 i60).bind fun q69 =>
 (ldI .i64 q69 h62).bind fun x70 =>
 (zY_ k D (x68.1, x68.2.1, x68.2.2) x70 j61 h62).bind fun r71 =>
 (out59).bind fun p72 =>
 (ldL (⟨p72.block, p72.off + 2, none⟩ : Addr) r71.2).bind fun x73 =>
 zz_ (zC_ [h62] (fun H75 => (ldL (⟨p72.block, p72.off + 2, none⟩ : Addr) H75).bind fun y74 => some (.slice y74.a y74.len y74.cap)) (.slice x73.a x73.len x73.cap)) (
 (a57).bind fun p76 =>
 (ldI .i64 (⟨p76.block, p76.off + 1, none⟩ : Addr) r71.2).bind fun x77 =>
 zz_ (zC_ [h62] (fun H79 => (ldI .i64 (⟨p76.block, p76.off + 1, none⟩ : Addr) H79).bind fun y78 => some (.int .i64 y78)) (.int .i64 x77)) (
 (Gx.idxL 1 x73 (IntKind.wrap .i64 ((IntKind.wrap .i64 (i60 * x77)) + j61))).bind fun q80 =>
 (st1 q80 (.int .i64 r71.1) r71.2).bind fun h81 =>
 rec63 rows56 a57 y58 out59 i60 (IntKind.wrap .i64 (j61 + 1)) h81))
 else
 j55 rows56 a57 y58 out59 i60 h62)
noncomputable def zUn_ (k : Nat) (D : za_) (j55 : Slc → (Option Addr) → (Option Addr) → (Option Addr) → Int → AHeap → Option (((Int × Int × Slc) × Int) × AHeap)) : Slc → (Option Addr) → (Option Addr) → (Option Addr) → Int → Int → AHeap → Option (((Int × Int × Slc) × Int) × AHeap) :=
 zh_ (α := Slc → (Option Addr) → (Option Addr) → (Option Addr) → Int → Int → AHeap → Option (((Int × Int × Slc) × Int) × AHeap)) (fun _ _ _ _ _ _ _ => none) k (zJe_ k D j55)
noncomputable def zCe_ (k : Nat) (D : za_) (j33 : (Option Addr) → (Option Addr) → AHeap → Option (((Int × Int × Slc) × Int) × AHeap)) (rec48 : Slc → (Option Addr) → (Option Addr) → (Option Addr) → Int → AHeap → Option (((Int × Int × Slc) × Int) × AHeap)) (rows42 : Slc) (a43 : Option Addr) (y44 : Option Addr) (out45 : Option Addr) (i46 : Int) (h47 : AHeap) : Option (((Int × Int × Slc) × Int) × AHeap) :=
 (if (decide (i46 < (rows42.len : Int))) = true then
 zn_ (fun (rows49 : Slc) (a50 : Option Addr) (y51 : Option Addr) (out52 : Option Addr) (i53 : Int) (h54 : AHeap) =>
 rec48 rows49 a50 y51 out52 (IntKind.wrap .i64 (i53 + 1)) h54) fun j55 =>
 zUn_ k D j55 rows42 a43 y44 out45 i46 0 h47
 else
 j33 y44 out45 h47)
noncomputable def zho_ (k : Nat) (D : za_) (j33 : (Option Addr) → (Option Addr) → AHeap → Option (((Int × Int × Slc) × Int) × AHeap)) : Slc → (Option Addr) → (Option Addr) → (Option Addr) → Int → AHeap → Option (((Int × Int × Slc) × Int) × AHeap) :=
 zh_ (α := Slc → (Option Addr) → (Option Addr) → (Option Addr) → Int → AHeap → Option (((Int × Int × Slc) × Int) × AHeap)) (fun _ _ _ _ _ _ => none) k (zCe_ k D j33)
noncomputable def zfe_ (k : Nat) (D : za_) (a_0 : Int × Int × Slc) (rows_1 : Slc) (h : AHeap) : Option (((Int × Int × Slc) × Int) × AHeap) :=
 let h1 := AHeap.new h (.cells [.int .i64 a_0.1, .int .i64 a_0.2.1, .slice a_0.2.2.a a_0.2.2.len a_0.2.2.cap] 97 true 0)
 let h2 := AHeap.new h1 (.cells [.int .i64 0, .int .i64 0, .slice none 0 0] 97 true 0)
 (ldA 3 (⟨h.next, 0, none⟩ : Addr) h2).bind fun l3 =>
 (decC [.i .i64, .i .i64, .l] l3).bind fun x4 =>
 (zwf_ k D (x4.1, x4.2.1, x4.2.2) h2).bind fun r5 =>
 (if (r5.1 != 0) = true then
 (stL 3 (⟨h1.next, 0, none⟩ : Addr) ([.int .i64 0, .int .i64 0, .slice none 0 0]) r5.2).bind fun h6 =>
 (ldA 3 (⟨h1.next, 0, none⟩ : Addr) h6).bind fun l7 =>
 (decC [.i .i64, .i .i64, .l] l7).bind fun x8 =>
 some (((x8.1, x8.2.1, x8.2.2), r5.1), h6)
 else
 zn_ (fun (rows9 : Slc) (a10 : Option Addr) (y11 : Option Addr) (y12 : Bool) (h13 : AHeap) =>
 (if y12 = true then
 (y11).bind fun p15 =>
 (stL 3 p15 ([.int .i64 0, .int .i64 0, .slice none 0 0]) h13).bind fun h16 =>
 (y11).bind fun p17 =>
 (ldA 3 p17 h16).bind fun l18 =>
 (decC [.i .i64, .i .i64, .l] l18).bind fun x19 =>
 some (((x19.1, x19.2.1, x19.2.2), 1), h16)
 else
 zn_ (fun (rows20 : Slc) (a21 : Option Addr) (y22 : Option Addr) (h23 : AHeap) =>
 (a21).bind fun p25 =>
 (ldI .i64 (⟨p25.block, p25.off + 1, none⟩ : Addr) h23).bind fun x26 =>
 (zaf_ k D (rows20.len : Int) x26 h23).bind fun r27 =>
 let h28 := AHeap.new r27.2 (.cells [.int .i64 0, .int .i64 0, .slice none 0 0] 97 true 0)
 (stL 3 (⟨r27.2.next, 0, none⟩ : Addr) ([.int .i64 r27.1.1, .int .i64 r27.1.2.1, .slice r27.1.2.2.a r27.1.2.2.len r27.1.2.2.cap]) h28).bind fun h29 =>
 zn_ (fun (y30 : Option Addr) (out31 : Option Addr) (h32 : AHeap) =>
 (out31).bind fun p34 =>
 (ldA 3 p34 h32).bind fun l35 =>
 (decC [.i .i64, .i .i64, .l] l35).bind fun x36 =>
 (y30).bind fun p37 =>
 (stL 3 p37 ([.int .i64 x36.1, .int .i64 x36.2.1, .slice x36.2.2.a x36.2.2.len x36.2.2.cap]) h32).bind fun h38 =>
 (y30).bind fun p39 =>
 (ldA 3 p39 h38).bind fun l40 =>
 (decC [.i .i64, .i .i64, .l] l40).bind fun x41 =>
 some (((x41.1, x41.2.1, x41.2.2), 0), h38)) fun j33 =>
 zho_ k D j33 rows20 a21 y22 (some (⟨r27.2.next, 0, none⟩ : Addr)) 0 h29) fun j24 =>
 zhj_ k D j24 rows9 a10 y11 0 h13)) fun j14 =>
 (if (decide ((rows_1.len : Int) < 1)) = true then
 j14 rows_1 (some (⟨h.next, 0, none⟩ : Addr)) (some (⟨h1.next, 0, none⟩ : Addr)) true r5.2
 else
 j14 rows_1 (some (⟨h.next, 0, none⟩ : Addr)) (some (⟨h1.next, 0, none⟩ : Addr)) (decide ((rows_1.len : Int) > 255)) r5.2))
noncomputable def zAp_ : RCode := an (.s .n (.s (.s (.r [(0, .st [.i .i64, .i .i64, .l])]) .n) (.s (.s (.j [(1, .l), (2, .p), (4, .p), (24, .b)] .n) .n) (.s (.j [(1, .l), (2, .p), (4, .p)] (.s .n (.b (.l [(1, .l), (2, .p), (4, .p), (7, .i .i64)] (.s .n (.s (.b (.s (.j [(1, .l), (2, .p), (4, .p), (7, .i .i64), (45, .b)] .n) .n)) .n)))))) (.s .n (.s (.j [(4, .p), (8, .p)] (.s .n (.b (.l [(1, .l), (2, .p), (4, .p), (8, .p), (9, .i .i64)] (.s .n (.s (.j [(1, .l), (2, .p), (4, .p), (8, .p), (9, .i .i64)] (.b (.s .n (.b (.l [(1, .l), (2, .p), (4, .p), (8, .p), (9, .i .i64), (10, .i .i64)] (.s .n (.s (.b (.r [(0, .st [.i .i64, .i .i64, .l])])) .n))))))) .n)))))) (.s (.r [(0, .st [.i .i64, .i .i64, .l])]) .n))))))) (rOf Tryz.prog 2 Tryz.f59)
noncomputable def znq_ (k : Nat) (D : za_) : Ent := zq_ 59 [(0, .st [.i .i64, .i .i64, .l]), (1, .l)] [(4, .st [.i .i64, .i .i64, .l]), (5, .i .i64)] (zfe_ k D)
theorem zWx_ : (Tryz.f59.body).bind (zd_ Tryz.prog 2 Tryz.f59.ntmps) = some (zf_ zAp_) := by kernel_rfl
theorem zhx_ (k : Nat) (D : za_) : curF [(0, .st [.i .i64, .i .i64, .l]), (1, .l)] (fun args h => denF (zUx_ k D) k zAp_ [(4, .st [.i .i64, .i .i64, .l]), (5, .i .i64)] [some (.agg 3), none] args h) = zfe_ k D := by kernel_rfl
theorem zzw_ {D : za_} (hD : zl_ Tryz.prog 2 D) (k : Nat) : zo_ Tryz.prog 2 (znq_ k D) :=
 zj_ (zi_ hD (zc_.more (zkm_ hD k) (zc_.more (zmj_ hD k) (zc_.more (zMd_ hD k) (zc_.none))))) Tryz.func59 rfl zWx_ rfl (zhx_ k D)
end Gz
namespace Gz
open Go Gx Go.Proofs
set_option maxRecDepth 100000
noncomputable def zSu_ (_k : Nat) (D : za_) : za_ := mkC D []
noncomputable def zDf_ (_k : Nat) (_D : za_) (a_0 : Int × Int × Slc) (h : AHeap) : Option (((Int × Int × Slc)) × AHeap) :=
 let h1 := AHeap.new h (.cells [.int .i64 a_0.1, .int .i64 a_0.2.1, .slice a_0.2.2.a a_0.2.2.len a_0.2.2.cap] 97 true 0)
 let h2 := AHeap.new h1 (.cells [.int .i64 0, .int .i64 0, .slice none 0 0] 97 true 0)
 let h3 := AHeap.new h2 (.cells [] 3 true 0)
 (ldL (⟨h.next, 2, none⟩ : Addr) h3).bind fun x4 =>
 zz_ (zC_ [h2] (fun H6 => (ldL (⟨h.next, 2, none⟩ : Addr) H6).bind fun y5 => some (.slice y5.a y5.len y5.cap)) (.slice x4.a x4.len x4.cap)) (
 (rdS 1 x4 h3).bind fun n8 =>
 (zs_ 1 8 3 h3 (⟨(some ⟨h2.next, 0, some 0⟩), 0, 0⟩ : Slc) n8 x4.len).bind fun r7 =>
 (ldI .i64 (⟨h.next, 0, none⟩ : Addr) r7.2).bind fun x9 =>
 zz_ (zC_ [h3, h2] (fun H11 => (ldI .i64 (⟨h.next, 0, none⟩ : Addr) H11).bind fun y10 => some (.int .i64 y10)) (.int .i64 x9)) (
 (ldI .i64 (⟨h.next, 1, none⟩ : Addr) r7.2).bind fun x12 =>
 zz_ (zC_ [h3, h2] (fun H14 => (ldI .i64 (⟨h.next, 1, none⟩ : Addr) H14).bind fun y13 => some (.int .i64 y13)) (.int .i64 x12)) (
 (stL 3 (⟨h1.next, 0, none⟩ : Addr) ([.int .i64 x9, .int .i64 x12, .slice r7.1.a r7.1.len r7.1.cap]) r7.2).bind fun h15 =>
 (ldA 3 (⟨h1.next, 0, none⟩ : Addr) h15).bind fun l16 =>
 (decC [.i .i64, .i .i64, .l] l16).bind fun x17 =>
 some ((x17.1, x17.2.1, x17.2.2), h15))))
noncomputable def zom_ : RCode := an (.n) (rOf Tryz.prog 2 Tryz.f91)
noncomputable def zpm_ (k : Nat) (D : za_) : Ent := zq_ 91 [(0, .st [.i .i64, .i .i64, .l])] [(2, .st [.i .i64, .i .i64, .l])] (zDf_ k D)
theorem zMu_ : (Tryz.f91.body).bind (zd_ Tryz.prog 2 Tryz.f91.ntmps) = some (zf_ zom_) := by kernel_rfl
theorem ztu_ (k : Nat) (D : za_) : curF [(0, .st [.i .i64, .i .i64, .l])] (fun args h => denF (zSu_ k D) k zom_ [(2, .st [.i .i64, .i .i64, .l])] [some (.agg 3)] args h) = zDf_ k D := by kernel_rfl
theorem zdt_ {D : za_} (hD : zl_ Tryz.prog 2 D) (k : Nat) : zo_ Tryz.prog 2 (zpm_ k D) :=
 zj_ (zi_ hD (zc_.none)) Tryz.func91 rfl zMu_ rfl (ztu_ k D)
end Gz
namespace Gz
open Go Gx Go.Proofs
set_option maxRecDepth 100000
noncomputable def zSz_ (k : Nat) (D : za_) : za_ := mkC D [znh_ k D]
noncomputable def zqf_ (_k : Nat) (_D : za_) (j18 : (Option Addr) → (Option Addr) → AHeap → Option (((Int × Int × Slc) × Int) × AHeap)) (rec32 : Int → (Option Addr) → (Option Addr) → Int → AHeap → Option (((Int × Int × Slc) × Int) × AHeap)) (n27 : Int) (y28 : Option Addr) (a29 : Option Addr) (i30 : Int) (h31 : AHeap) : Option (((Int × Int × Slc) × Int) × AHeap) :=
 (if (decide (i30 < n27)) = true then
 (a29).bind fun p33 =>
 (ldL (⟨p33.block, p33.off + 2, none⟩ : Addr) h31).bind fun x34 =>
 (Gx.idxL 1 x34 (IntKind.wrap .i64 ((IntKind.wrap .i64 (i30 * n27)) + i30))).bind fun q35 =>
 (st1 q35 (.int .i64 1) h31).bind fun h36 =>
 rec32 n27 y28 a29 (IntKind.wrap .i64 (i30 + 1)) h36
 else
 j18 y28 a29 h31)
noncomputable def zjp_ (k : Nat) (D : za_) (j18 : (Option Addr) → (Option Addr) → AHeap → Option (((Int × Int × Slc) × Int) × AHeap)) : Int → (Option Addr) → (Option Addr) → Int → AHeap → Option (((Int × Int × Slc) × Int) × AHeap) :=
 zh_ (α := Int → (Option Addr) → (Option Addr) → Int → AHeap → Option (((Int × Int × Slc) × Int) × AHeap)) (fun _ _ _ _ _ => none) k (zqf_ k D j18)
noncomputable def zQi_ (k : Nat) (D : za_) (n_0 : Int) (h : AHeap) : Option (((Int × Int × Slc) × Int) × AHeap) :=
 let h1 := AHeap.new h (.cells [.int .i64 0, .int .i64 0, .slice none 0 0] 97 true 0)
 zn_ (fun (n2 : Int) (y3 : Option Addr) (y4 : Bool) (h5 : AHeap) =>
 (if y4 = true then
 (y3).bind fun p7 =>
 (stL 3 p7 ([.int .i64 0, .int .i64 0, .slice none 0 0]) h5).bind fun h8 =>
 (y3).bind fun p9 =>
 (ldA 3 p9 h8).bind fun l10 =>
 (decC [.i .i64, .i .i64, .l] l10).bind fun x11 =>
 some (((x11.1, x11.2.1, x11.2.2), 1), h8)
 else
 (zaf_ k D n2 n2 h5).bind fun r12 =>
 let h13 := AHeap.new r12.2 (.cells [.int .i64 0, .int .i64 0, .slice none 0 0] 97 true 0)
 (stL 3 (⟨r12.2.next, 0, none⟩ : Addr) ([.int .i64 r12.1.1, .int .i64 r12.1.2.1, .slice r12.1.2.2.a r12.1.2.2.len r12.1.2.2.cap]) h13).bind fun h14 =>
 zn_ (fun (y15 : Option Addr) (a16 : Option Addr) (h17 : AHeap) =>
 (a16).bind fun p19 =>
 (ldA 3 p19 h17).bind fun l20 =>
 (decC [.i .i64, .i .i64, .l] l20).bind fun x21 =>
 (y15).bind fun p22 =>
 (stL 3 p22 ([.int .i64 x21.1, .int .i64 x21.2.1, .slice x21.2.2.a x21.2.2.len x21.2.2.cap]) h17).bind fun h23 =>
 (y15).bind fun p24 =>
 (ldA 3 p24 h23).bind fun l25 =>
 (decC [.i .i64, .i .i64, .l] l25).bind fun x26 =>
 some (((x26.1, x26.2.1, x26.2.2), 0), h23)) fun j18 =>
 zjp_ k D j18 n2 y3 (some (⟨r12.2.next, 0, none⟩ : Addr)) 0 h14)) fun j6 =>
 (if (decide (n_0 < 1)) = true then
 j6 n_0 (some (⟨h.next, 0, none⟩ : Addr)) true h1
 else
 j6 n_0 (some (⟨h.next, 0, none⟩ : Addr)) (decide (n_0 > 255)) h1)
noncomputable def zvr_ : RCode := an (.s .n (.s (.s (.j [(0, .i .i64), (2, .p), (11, .b)] .n) .n) (.s .n (.s (.j [(2, .p), (4, .p)] (.s .n (.b (.l [(0, .i .i64), (2, .p), (4, .p), (5, .i .i64)] .n)))) (.s (.r [(0, .st [.i .i64, .i .i64, .l])]) .n))))) (rOf Tryz.prog 2 Tryz.f92)
noncomputable def zmr_ (k : Nat) (D : za_) : Ent := zq_ 92 [(0, .i .i64)] [(2, .st [.i .i64, .i .i64, .l]), (3, .i .i64)] (zQi_ k D)
theorem zfz_ : (Tryz.f92.body).bind (zd_ Tryz.prog 2 Tryz.f92.ntmps) = some (zf_ zvr_) := by kernel_rfl
theorem zOz_ (k : Nat) (D : za_) : curF [(0, .i .i64)] (fun args h => denF (zSz_ k D) k zvr_ [(2, .st [.i .i64, .i .i64, .l]), (3, .i .i64)] [some (.agg 3), none] args h) = zQi_ k D := by kernel_rfl
theorem zgx_ {D : za_} (hD : zl_ Tryz.prog 2 D) (k : Nat) : zo_ Tryz.prog 2 (zmr_ k D) :=
 zj_ (zi_ hD (zc_.more (zmj_ hD k) (zc_.none))) Tryz.func92 rfl zfz_ rfl (zOz_ k D)
end Gz
namespace Gz
open Go Gx Go.Proofs
set_option maxRecDepth 100000
noncomputable def zvu_ (k : Nat) (D : za_) : za_ := mkC D [zyd_ k D]
noncomputable def zlc_ (k : Nat) (D : za_) (j3 : AHeap → Option ((Int) × AHeap)) (rec8 : Int → (Option Addr) → Int → AHeap → Option ((Int) × AHeap)) (j4 : Int) (a5 : Option Addr) (i6 : Int) (h7 : AHeap) : Option ((Int) × AHeap) :=
 (a5).bind fun p9 =>
 (ldI .i64 (⟨p9.block, p9.off + 0, none⟩ : Addr) h7).bind fun x10 =>
 (if (decide (i6 < x10)) = true then
 (a5).bind fun p11 =>
 (ldA 3 p11 h7).bind fun l12 =>
 (decC [.i .i64, .i .i64, .l] l12).bind fun x13 =>
 (zY_ k D (x13.1, x13.2.1, x13.2.2) i6 j4 h7).bind fun r14 =>
 (if (r14.1 != 0) = true then
 some (i6, r14.2)
 else
 rec8 j4 a5 (IntKind.wrap .i64 (i6 + 1)) r14.2)
 else
 j3 h7)
noncomputable def zJh_ (k : Nat) (D : za_) (j3 : AHeap → Option ((Int) × AHeap)) : Int → (Option Addr) → Int → AHeap → Option ((Int) × AHeap) :=
 zh_ (α := Int → (Option Addr) → Int → AHeap → Option ((Int) × AHeap)) (fun _ _ _ _ => none) k (zlc_ k D j3)
noncomputable def zFf_ (k : Nat) (D : za_) (a_0 : Int × Int × Slc) (from_1 : Int) (j_2 : Int) (h : AHeap) : Option ((Int) × AHeap) :=
 let h1 := AHeap.new h (.cells [.int .i64 a_0.1, .int .i64 a_0.2.1, .slice a_0.2.2.a a_0.2.2.len a_0.2.2.cap] 97 true 0)
 zn_ (fun (h2 : AHeap) =>
 some ((-1), h2)) fun j3 =>
 zJh_ k D j3 j_2 (some (⟨h.next, 0, none⟩ : Addr)) from_1 h1
noncomputable def zdm_ : RCode := an (.s .n (.s (.j [] (.s .n (.b (.l [(2, .i .i64), (3, .p), (7, .i .i64)] (.s .n (.s (.b (.s (.r [(0, .st [.i .i64, .i .i64, .l])]) .n)) .n)))))) .n)) (rOf Tryz.prog 2 Tryz.f93)
noncomputable def zHm_ (k : Nat) (D : za_) : Ent := zq_ 93 [(0, .st [.i .i64, .i .i64, .l]), (1, .i .i64), (2, .i .i64)] [(6, .i .i64)] (zFf_ k D)
theorem zzu_ : (Tryz.f93.body).bind (zd_ Tryz.prog 2 Tryz.f93.ntmps) = some (zf_ zdm_) := by kernel_rfl
theorem zyu_ (k : Nat) (D : za_) : curF [(0, .st [.i .i64, .i .i64, .l]), (1, .i .i64), (2, .i .i64)] (fun args h => denF (zvu_ k D) k zdm_ [(6, .i .i64)] [none] args h) = zFf_ k D := by kernel_rfl
theorem zXs_ {D : za_} (hD : zl_ Tryz.prog 2 D) (k : Nat) : zo_ Tryz.prog 2 (zHm_ k D) :=
 zj_ (zi_ hD (zc_.more (zMd_ hD k) (zc_.none))) Tryz.func93 rfl zzu_ rfl (zyu_ k D)
end Gz
namespace Gz
open Go Gx Go.Proofs
set_option maxRecDepth 100000
noncomputable def zYt_ (k : Nat) (D : za_) : za_ := mkC D [zyd_ k D]
noncomputable def zmd_ (k : Nat) (D : za_)  (rec7 : Int → Int → (Option Addr) → Int → AHeap → Option ((Unit) × AHeap)) (i2 : Int) (kv3 : Int) (a4 : Option Addr) (j5 : Int) (h6 : AHeap) : Option ((Unit) × AHeap) :=
 (a4).bind fun p8 =>
 (ldI .i64 (⟨p8.block, p8.off + 1, none⟩ : Addr) h6).bind fun x9 =>
 (if (decide (j5 < x9)) = true then
 (a4).bind fun p10 =>
 (ldA 3 p10 h6).bind fun l11 =>
 (decC [.i .i64, .i .i64, .l] l11).bind fun x12 =>
 (zY_ k D (x12.1, x12.2.1, x12.2.2) i2 j5 h6).bind fun r13 =>
 (a4).bind fun p14 =>
 (ldA 3 p14 r13.2).bind fun l15 =>
 (decC [.i .i64, .i .i64, .l] l15).bind fun x16 =>
 (zY_ k D (x16.1, x16.2.1, x16.2.2) kv3 j5 r13.2).bind fun r17 =>
 (a4).bind fun p18 =>
 (ldL (⟨p18.block, p18.off + 2, none⟩ : Addr) r17.2).bind fun x19 =>
 zz_ (zC_ [r13.2] (fun H21 => (ldL (⟨p18.block, p18.off + 2, none⟩ : Addr) H21).bind fun y20 => some (.slice y20.a y20.len y20.cap)) (.slice x19.a x19.len x19.cap)) (
 (a4).bind fun p22 =>
 (ldI .i64 (⟨p22.block, p22.off + 1, none⟩ : Addr) r17.2).bind fun x23 =>
 zz_ (zC_ [r13.2] (fun H25 => (ldI .i64 (⟨p22.block, p22.off + 1, none⟩ : Addr) H25).bind fun y24 => some (.int .i64 y24)) (.int .i64 x23)) (
 (Gx.idxL 1 x19 (IntKind.wrap .i64 ((IntKind.wrap .i64 (i2 * x23)) + j5))).bind fun q26 =>
 (st1 q26 (.int .i64 r17.1) r17.2).bind fun h27 =>
 (a4).bind fun p28 =>
 (ldL (⟨p28.block, p28.off + 2, none⟩ : Addr) h27).bind fun x29 =>
 (a4).bind fun p30 =>
 (ldI .i64 (⟨p30.block, p30.off + 1, none⟩ : Addr) h27).bind fun x31 =>
 (Gx.idxL 1 x29 (IntKind.wrap .i64 ((IntKind.wrap .i64 (kv3 * x31)) + j5))).bind fun q32 =>
 (st1 q32 (.int .i64 r13.1) h27).bind fun h33 =>
 rec7 i2 kv3 a4 (IntKind.wrap .i64 (j5 + 1)) h33))
 else
 some ((), h6))
noncomputable def zoh_ (k : Nat) (D : za_)  : Int → Int → (Option Addr) → Int → AHeap → Option ((Unit) × AHeap) :=
 zh_ (α := Int → Int → (Option Addr) → Int → AHeap → Option ((Unit) × AHeap)) (fun _ _ _ _ _ => none) k (zmd_ k D )
noncomputable def zGe_ (k : Nat) (D : za_) (a_0 : Int × Int × Slc) (i_1 : Int) (k_2 : Int) (h : AHeap) : Option ((Unit) × AHeap) :=
 let h1 := AHeap.new h (.cells [.int .i64 a_0.1, .int .i64 a_0.2.1, .slice a_0.2.2.a a_0.2.2.len a_0.2.2.cap] 97 true 0)
 zoh_ k D i_1 k_2 (some (⟨h.next, 0, none⟩ : Addr)) 0 h1
noncomputable def zKm_ : RCode := an (.s .n (.s .n (.b (.l [(1, .i .i64), (2, .i .i64), (3, .p), (6, .i .i64)] (.s .n (.s (.b (.s (.r [(0, .st [.i .i64, .i .i64, .l])]) (.s (.r [(0, .st [.i .i64, .i .i64, .l])]) .n))) .n)))))) (rOf Tryz.prog 2 Tryz.f94)
noncomputable def zqm_ (k : Nat) (D : za_) : Ent := zq_ 94 [(0, .st [.i .i64, .i .i64, .l]), (1, .i .i64), (2, .i .i64)] [] (zGe_ k D)
theorem zJu_ : (Tryz.f94.body).bind (zd_ Tryz.prog 2 Tryz.f94.ntmps) = some (zf_ zKm_) := by kernel_rfl
theorem zLt_ (k : Nat) (D : za_) : curF [(0, .st [.i .i64, .i .i64, .l]), (1, .i .i64), (2, .i .i64)] (fun args h => denF (zYt_ k D) k zKm_ [] [] args h) = zGe_ k D := by kernel_rfl
theorem zlt_ {D : za_} (hD : zl_ Tryz.prog 2 D) (k : Nat) : zo_ Tryz.prog 2 (zqm_ k D) :=
 zj_ (zi_ hD (zc_.more (zMd_ hD k) (zc_.none))) Tryz.func94 rfl zJu_ rfl (zLt_ k D)
end Gz
namespace Gz
open Go Gx Go.Proofs
set_option maxRecDepth 100000
noncomputable def zEs_ (k : Nat) (D : za_) : za_ := mkC D [zyd_ k D, zef_ k D]
noncomputable def zLc_ (k : Nat) (D : za_)  (rec7 : Int → Int → (Option Addr) → Int → AHeap → Option ((Unit) × AHeap)) (i2 : Int) (c3 : Int) (a4 : Option Addr) (j5 : Int) (h6 : AHeap) : Option ((Unit) × AHeap) :=
 (a4).bind fun p8 =>
 (ldI .i64 (⟨p8.block, p8.off + 1, none⟩ : Addr) h6).bind fun x9 =>
 (if (decide (j5 < x9)) = true then
 (a4).bind fun p10 =>
 (ldA 3 p10 h6).bind fun l11 =>
 (decC [.i .i64, .i .i64, .l] l11).bind fun x12 =>
 (zY_ k D (x12.1, x12.2.1, x12.2.2) i2 j5 h6).bind fun r13 =>
 (zYc_ k D r13.1 c3 r13.2).bind fun r14 =>
 (a4).bind fun p15 =>
 (ldL (⟨p15.block, p15.off + 2, none⟩ : Addr) r14.2).bind fun x16 =>
 zz_ (zC_ [r13.2, h6] (fun H18 => (ldL (⟨p15.block, p15.off + 2, none⟩ : Addr) H18).bind fun y17 => some (.slice y17.a y17.len y17.cap)) (.slice x16.a x16.len x16.cap)) (
 (a4).bind fun p19 =>
 (ldI .i64 (⟨p19.block, p19.off + 1, none⟩ : Addr) r14.2).bind fun x20 =>
 zz_ (zC_ [r13.2, h6] (fun H22 => (ldI .i64 (⟨p19.block, p19.off + 1, none⟩ : Addr) H22).bind fun y21 => some (.int .i64 y21)) (.int .i64 x20)) (
 (Gx.idxL 1 x16 (IntKind.wrap .i64 ((IntKind.wrap .i64 (i2 * x20)) + j5))).bind fun q23 =>
 (st1 q23 (.int .i64 r14.1) r14.2).bind fun h24 =>
 rec7 i2 c3 a4 (IntKind.wrap .i64 (j5 + 1)) h24))
 else
 some ((), h6))
noncomputable def zOg_ (k : Nat) (D : za_)  : Int → Int → (Option Addr) → Int → AHeap → Option ((Unit) × AHeap) :=
 zh_ (α := Int → Int → (Option Addr) → Int → AHeap → Option ((Unit) × AHeap)) (fun _ _ _ _ _ => none) k (zLc_ k D )
noncomputable def zNd_ (k : Nat) (D : za_) (a_0 : Int × Int × Slc) (i_1 : Int) (c_2 : Int) (h : AHeap) : Option ((Unit) × AHeap) :=
 let h1 := AHeap.new h (.cells [.int .i64 a_0.1, .int .i64 a_0.2.1, .slice a_0.2.2.a a_0.2.2.len a_0.2.2.cap] 97 true 0)
 zOg_ k D i_1 c_2 (some (⟨h.next, 0, none⟩ : Addr)) 0 h1
noncomputable def zUk_ : RCode := an (.s .n (.s .n (.b (.l [(1, .i .i64), (2, .i .i64), (3, .p), (6, .i .i64)] (.s .n (.s (.b (.r [(0, .st [.i .i64, .i .i64, .l])])) .n)))))) (rOf Tryz.prog 2 Tryz.f95)
noncomputable def zcl_ (k : Nat) (D : za_) : Ent := zq_ 95 [(0, .st [.i .i64, .i .i64, .l]), (1, .i .i64), (2, .i .i64)] [] (zNd_ k D)
theorem zEt_ : (Tryz.f95.body).bind (zd_ Tryz.prog 2 Tryz.f95.ntmps) = some (zf_ zUk_) := by kernel_rfl
theorem zxs_ (k : Nat) (D : za_) : curF [(0, .st [.i .i64, .i .i64, .l]), (1, .i .i64), (2, .i .i64)] (fun args h => denF (zEs_ k D) k zUk_ [] [] args h) = zNd_ k D := by kernel_rfl
theorem zWr_ {D : za_} (hD : zl_ Tryz.prog 2 D) (k : Nat) : zo_ Tryz.prog 2 (zcl_ k D) :=
 zj_ (zi_ hD (zc_.more (zMd_ hD k) (zc_.more (zng_ hD k) (zc_.none)))) Tryz.func95 rfl zEt_ rfl (zxs_ k D)
end Gz
