import Derived.Test.YtcacldakplomnaaGreatDoorProg
import Derived.Test.YtcacldakplomnaaGreatDoorFn1
namespace Gz
open Go Gx Go.Proofs
set_option maxRecDepth 100000
noncomputable def zUv_ (k : Nat) (D : za_) : za_ := mkC D [zyd_ k D, zef_ k D]
noncomputable def zje_ (k : Nat) (D : za_)  (rec8 : Int → Int → Int → (Option Addr) → Int → AHeap → Option ((Unit) × AHeap)) (i2 : Int) (kv3 : Int) (c4 : Int) (a5 : Option Addr) (j6 : Int) (h7 : AHeap) : Option ((Unit) × AHeap) :=
 (a5).bind fun p9 =>
 (ldI .i64 (⟨p9.block, p9.off + 1, none⟩ : Addr) h7).bind fun x10 =>
 (if (decide (j6 < x10)) = true then
 (a5).bind fun p11 =>
 (ldA 3 p11 h7).bind fun l12 =>
 (decC [.i .i64, .i .i64, .l] l12).bind fun x13 =>
 (zY_ k D (x13.1, x13.2.1, x13.2.2) i2 j6 h7).bind fun r14 =>
 (a5).bind fun p15 =>
 (ldA 3 p15 r14.2).bind fun l16 =>
 zz_ (zC_ [h7] (fun H18 => (a5).bind fun p19 => (ldA 3 p19 H18).bind fun y17 => some (.agg ⟨y17⟩)) (.agg ⟨l16⟩)) (
 (decC [.i .i64, .i .i64, .l] l16).bind fun x20 =>
 (zY_ k D (x20.1, x20.2.1, x20.2.2) kv3 j6 r14.2).bind fun r21 =>
 (zYc_ k D r21.1 c4 r21.2).bind fun r22 =>
 (a5).bind fun p23 =>
 (ldL (⟨p23.block, p23.off + 2, none⟩ : Addr) r22.2).bind fun x24 =>
 zz_ (zC_ [r21.2, r14.2, h7] (fun H26 => (ldL (⟨p23.block, p23.off + 2, none⟩ : Addr) H26).bind fun y25 => some (.slice y25.a y25.len y25.cap)) (.slice x24.a x24.len x24.cap)) (
 (a5).bind fun p27 =>
 (ldI .i64 (⟨p27.block, p27.off + 1, none⟩ : Addr) r22.2).bind fun x28 =>
 zz_ (zC_ [r21.2, r14.2, h7] (fun H30 => (ldI .i64 (⟨p27.block, p27.off + 1, none⟩ : Addr) H30).bind fun y29 => some (.int .i64 y29)) (.int .i64 x28)) (
 (Gx.idxL 1 x24 (IntKind.wrap .i64 ((IntKind.wrap .i64 (i2 * x28)) + j6))).bind fun q31 =>
 (st1 q31 (.int .i64 (Go.bits .xor .i64 r14.1 r22.1)) r22.2).bind fun h32 =>
 rec8 i2 kv3 c4 a5 (IntKind.wrap .i64 (j6 + 1)) h32)))
 else
 some ((), h7))
noncomputable def zfi_ (k : Nat) (D : za_)  : Int → Int → Int → (Option Addr) → Int → AHeap → Option ((Unit) × AHeap) :=
 zh_ (α := Int → Int → Int → (Option Addr) → Int → AHeap → Option ((Unit) × AHeap)) (fun _ _ _ _ _ _ => none) k (zje_ k D )
noncomputable def zsf_ (k : Nat) (D : za_) (a_0 : Int × Int × Slc) (i_1 : Int) (k_2 : Int) (c_3 : Int) (h : AHeap) : Option ((Unit) × AHeap) :=
 let h1 := AHeap.new h (.cells [.int .i64 a_0.1, .int .i64 a_0.2.1, .slice a_0.2.2.a a_0.2.2.len a_0.2.2.cap] 97 true 0)
 zfi_ k D i_1 k_2 c_3 (some (⟨h.next, 0, none⟩ : Addr)) 0 h1
noncomputable def zZn_ : RCode := an (.s .n (.s .n (.b (.l [(1, .i .i64), (2, .i .i64), (3, .i .i64), (4, .p), (8, .i .i64)] (.s .n (.s (.b (.r [(0, .st [.i .i64, .i .i64, .l]), (4, .st [.i .i64, .i .i64, .l])])) .n)))))) (rOf Tryz.prog 2 Tryz.f96)
noncomputable def zSn_ (k : Nat) (D : za_) : Ent := zq_ 96 [(0, .st [.i .i64, .i .i64, .l]), (1, .i .i64), (2, .i .i64), (3, .i .i64)] [] (zsf_ k D)
theorem zdw_ : (Tryz.f96.body).bind (zd_ Tryz.prog 2 Tryz.f96.ntmps) = some (zf_ zZn_) := by kernel_rfl
theorem znw_ (k : Nat) (D : za_) : curF [(0, .st [.i .i64, .i .i64, .l]), (1, .i .i64), (2, .i .i64), (3, .i .i64)] (fun args h => denF (zUv_ k D) k zZn_ [] [] args h) = zsf_ k D := by kernel_rfl
theorem zju_ {D : za_} (hD : zl_ Tryz.prog 2 D) (k : Nat) : zo_ Tryz.prog 2 (zSn_ k D) :=
 zj_ (zi_ hD (zc_.more (zMd_ hD k) (zc_.more (zng_ hD k) (zc_.none)))) Tryz.func96 rfl zdw_ rfl (znw_ k D)
end Gz
namespace Gz
open Go Gx Go.Proofs
set_option maxRecDepth 100000
noncomputable def zCs_ (k : Nat) (D : za_) : za_ := mkC D [zgj_ k D, zpm_ k D, zmr_ k D, zHm_ k D, zqm_ k D, zyd_ k D, zmk_ k D, zcl_ k D, zSn_ k D]
noncomputable def zvb_ (k : Nat) (D : za_) (j50 : (Option Addr) → (Option Addr) → (Option Addr) → (Option Addr) → Int → AHeap → Option (((Int × Int × Slc) × Int) × AHeap)) (rec88 : (Option Addr) → (Option Addr) → (Option Addr) → (Option Addr) → Int → Int → AHeap → Option (((Int × Int × Slc) × Int) × AHeap)) (a81 : Option Addr) (y82 : Option Addr) (l83 : Option Addr) (out84 : Option Addr) (j85 : Int) (kv86 : Int) (h87 : AHeap) : Option (((Int × Int × Slc) × Int) × AHeap) :=
 (a81).bind fun p89 =>
 (ldI .i64 (⟨p89.block, p89.off + 0, none⟩ : Addr) h87).bind fun x90 =>
 (if (decide (kv86 < x90)) = true then
 zn_ (fun (a91 : Option Addr) (y92 : Option Addr) (l93 : Option Addr) (out94 : Option Addr) (j95 : Int) (kv96 : Int) (h97 : AHeap) =>
 rec88 a91 y92 l93 out94 j95 (IntKind.wrap .i64 (kv96 + 1)) h97) fun j98 =>
 zn_ (fun (a99 : Option Addr) (y100 : Option Addr) (l101 : Option Addr) (out102 : Option Addr) (j103 : Int) (kv104 : Int) (y105 : Bool) (h106 : AHeap) =>
 (if y105 = true then
 (l101).bind fun p108 =>
 (ldA 3 p108 h106).bind fun l109 =>
 (decC [.i .i64, .i .i64, .l] l109).bind fun x110 =>
 (zY_ k D (x110.1, x110.2.1, x110.2.2) kv104 j103 h106).bind fun r111 =>
 (l101).bind fun p112 =>
 (ldA 3 p112 r111.2).bind fun l113 =>
 (decC [.i .i64, .i .i64, .l] l113).bind fun x114 =>
 (zsf_ k D (x114.1, x114.2.1, x114.2.2) kv104 j103 r111.1 r111.2).bind fun r115 =>
 (out102).bind fun p116 =>
 (ldA 3 p116 r115.2).bind fun l117 =>
 (decC [.i .i64, .i .i64, .l] l117).bind fun x118 =>
 (zsf_ k D (x118.1, x118.2.1, x118.2.2) kv104 j103 r111.1 r115.2).bind fun r119 =>
 j98 a99 y100 l101 out102 j103 kv104 r119.2
 else
 j98 a99 y100 l101 out102 j103 kv104 h106)) fun j107 =>
 (if (kv86 != j85) = true then
 (l83).bind fun p120 =>
 (ldA 3 p120 h87).bind fun l121 =>
 (decC [.i .i64, .i .i64, .l] l121).bind fun x122 =>
 (zY_ k D (x122.1, x122.2.1, x122.2.2) kv86 j85 h87).bind fun r123 =>
 j107 a81 y82 l83 out84 j85 kv86 (r123.1 != 0) r123.2
 else
 j107 a81 y82 l83 out84 j85 kv86 false h87)
 else
 j50 a81 y82 l83 out84 j85 h87)
noncomputable def zzk_ (k : Nat) (D : za_) (j50 : (Option Addr) → (Option Addr) → (Option Addr) → (Option Addr) → Int → AHeap → Option (((Int × Int × Slc) × Int) × AHeap)) : (Option Addr) → (Option Addr) → (Option Addr) → (Option Addr) → Int → Int → AHeap → Option (((Int × Int × Slc) × Int) × AHeap) :=
 zh_ (α := (Option Addr) → (Option Addr) → (Option Addr) → (Option Addr) → Int → Int → AHeap → Option (((Int × Int × Slc) × Int) × AHeap)) (fun _ _ _ _ _ _ _ => none) k (zvb_ k D j50)
noncomputable def zP_ (k : Nat) (D : za_) (j26 : (Option Addr) → (Option Addr) → AHeap → Option (((Int × Int × Slc) × Int) × AHeap)) (rec41 : (Option Addr) → (Option Addr) → (Option Addr) → (Option Addr) → Int → AHeap → Option (((Int × Int × Slc) × Int) × AHeap)) (a35 : Option Addr) (y36 : Option Addr) (l37 : Option Addr) (out38 : Option Addr) (j39 : Int) (h40 : AHeap) : Option (((Int × Int × Slc) × Int) × AHeap) :=
 (a35).bind fun p42 =>
 (ldI .i64 (⟨p42.block, p42.off + 1, none⟩ : Addr) h40).bind fun x43 =>
 (if (decide (j39 < x43)) = true then
 zn_ (fun (a44 : Option Addr) (y45 : Option Addr) (l46 : Option Addr) (out47 : Option Addr) (j48 : Int) (h49 : AHeap) =>
 rec41 a44 y45 l46 out47 (IntKind.wrap .i64 (j48 + 1)) h49) fun j50 =>
 (l37).bind fun p51 =>
 (ldA 3 p51 h40).bind fun l52 =>
 (decC [.i .i64, .i .i64, .l] l52).bind fun x53 =>
 (zFf_ k D (x53.1, x53.2.1, x53.2.2) j39 j39 h40).bind fun r54 =>
 (if (decide (r54.1 < 0)) = true then
 (y36).bind fun p55 =>
 (stL 3 p55 ([.int .i64 0, .int .i64 0, .slice none 0 0]) r54.2).bind fun h56 =>
 (y36).bind fun p57 =>
 (ldA 3 p57 h56).bind fun l58 =>
 (decC [.i .i64, .i .i64, .l] l58).bind fun x59 =>
 some (((x59.1, x59.2.1, x59.2.2), 40), h56)
 else
 (l37).bind fun p60 =>
 (ldA 3 p60 r54.2).bind fun l61 =>
 (decC [.i .i64, .i .i64, .l] l61).bind fun x62 =>
 (zGe_ k D (x62.1, x62.2.1, x62.2.2) r54.1 j39 r54.2).bind fun r63 =>
 (out38).bind fun p64 =>
 (ldA 3 p64 r63.2).bind fun l65 =>
 (decC [.i .i64, .i .i64, .l] l65).bind fun x66 =>
 (zGe_ k D (x66.1, x66.2.1, x66.2.2) r54.1 j39 r63.2).bind fun r67 =>
 (l37).bind fun p68 =>
 (ldA 3 p68 r67.2).bind fun l69 =>
 (decC [.i .i64, .i .i64, .l] l69).bind fun x70 =>
 (zY_ k D (x70.1, x70.2.1, x70.2.2) j39 j39 r67.2).bind fun r71 =>
 (zkg_ k D 1 r71.1 r71.2).bind fun r72 =>
 (l37).bind fun p73 =>
 (ldA 3 p73 r72.2).bind fun l74 =>
 (decC [.i .i64, .i .i64, .l] l74).bind fun x75 =>
 (zNd_ k D (x75.1, x75.2.1, x75.2.2) j39 r72.1 r72.2).bind fun r76 =>
 (out38).bind fun p77 =>
 (ldA 3 p77 r76.2).bind fun l78 =>
 (decC [.i .i64, .i .i64, .l] l78).bind fun x79 =>
 (zNd_ k D (x79.1, x79.2.1, x79.2.2) j39 r72.1 r76.2).bind fun r80 =>
 zzk_ k D j50 a35 y36 l37 out38 j39 0 r80.2)
 else
 j26 y36 out38 h40)
noncomputable def zTg_ (k : Nat) (D : za_) (j26 : (Option Addr) → (Option Addr) → AHeap → Option (((Int × Int × Slc) × Int) × AHeap)) : (Option Addr) → (Option Addr) → (Option Addr) → (Option Addr) → Int → AHeap → Option (((Int × Int × Slc) × Int) × AHeap) :=
 zh_ (α := (Option Addr) → (Option Addr) → (Option Addr) → (Option Addr) → Int → AHeap → Option (((Int × Int × Slc) × Int) × AHeap)) (fun _ _ _ _ _ _ => none) k (zP_ k D j26)
noncomputable def zZb_ (k : Nat) (D : za_) (a_0 : Int × Int × Slc) (h : AHeap) : Option (((Int × Int × Slc) × Int) × AHeap) :=
 let h1 := AHeap.new h (.cells [.int .i64 a_0.1, .int .i64 a_0.2.1, .slice a_0.2.2.a a_0.2.2.len a_0.2.2.cap] 97 true 0)
 let h2 := AHeap.new h1 (.cells [.int .i64 0, .int .i64 0, .slice none 0 0] 97 true 0)
 (ldA 3 (⟨h.next, 0, none⟩ : Addr) h2).bind fun l3 =>
 (decC [.i .i64, .i .i64, .l] l3).bind fun x4 =>
 (zwf_ k D (x4.1, x4.2.1, x4.2.2) h2).bind fun r5 =>
 (if (r5.1 != 0) = true then
 (stL 3 (⟨h1.next, 0, none⟩ : Addr) ([.int .i64 0, .int .i64 0, .slice none 0 0]) r5.2).bind fun h6 =>
 (ldA 3 (⟨h1.next, 0, none⟩ : Addr) h6).bind fun l7 =>
 (decC [.i .i64, .i .i64, .l] l7).bind fun x8 =>
 some (((x8.1, x8.2.1, x8.2.2), r5.1), h6)
 else
 (ldI .i64 (⟨h.next, 0, none⟩ : Addr) r5.2).bind fun x9 =>
 (ldI .i64 (⟨h.next, 1, none⟩ : Addr) r5.2).bind fun x10 =>
 (if (x9 != x10) = true then
 (stL 3 (⟨h1.next, 0, none⟩ : Addr) ([.int .i64 0, .int .i64 0, .slice none 0 0]) r5.2).bind fun h11 =>
 (ldA 3 (⟨h1.next, 0, none⟩ : Addr) h11).bind fun l12 =>
 (decC [.i .i64, .i .i64, .l] l12).bind fun x13 =>
 some (((x13.1, x13.2.1, x13.2.2), 4), h11)
 else
 (ldA 3 (⟨h.next, 0, none⟩ : Addr) r5.2).bind fun l14 =>
 (decC [.i .i64, .i .i64, .l] l14).bind fun x15 =>
 (zDf_ k D (x15.1, x15.2.1, x15.2.2) r5.2).bind fun r16 =>
 let h17 := AHeap.new r16.2 (.cells [.int .i64 0, .int .i64 0, .slice none 0 0] 97 true 0)
 (stL 3 (⟨r16.2.next, 0, none⟩ : Addr) ([.int .i64 r16.1.1, .int .i64 r16.1.2.1, .slice r16.1.2.2.a r16.1.2.2.len r16.1.2.2.cap]) h17).bind fun h18 =>
 (ldI .i64 (⟨h.next, 0, none⟩ : Addr) h18).bind fun x19 =>
 (zQi_ k D x19 h18).bind fun r20 =>
 let h21 := AHeap.new r20.2 (.cells [.int .i64 0, .int .i64 0, .slice none 0 0] 97 true 0)
 (stL 3 (⟨r20.2.next, 0, none⟩ : Addr) ([.int .i64 r20.1.1.1, .int .i64 r20.1.1.2.1, .slice r20.1.1.2.2.a r20.1.1.2.2.len r20.1.1.2.2.cap]) h21).bind fun h22 =>
 zn_ (fun (y23 : Option Addr) (out24 : Option Addr) (h25 : AHeap) =>
 (out24).bind fun p27 =>
 (ldA 3 p27 h25).bind fun l28 =>
 (decC [.i .i64, .i .i64, .l] l28).bind fun x29 =>
 (y23).bind fun p30 =>
 (stL 3 p30 ([.int .i64 x29.1, .int .i64 x29.2.1, .slice x29.2.2.a x29.2.2.len x29.2.2.cap]) h25).bind fun h31 =>
 (y23).bind fun p32 =>
 (ldA 3 p32 h31).bind fun l33 =>
 (decC [.i .i64, .i .i64, .l] l33).bind fun x34 =>
 some (((x34.1, x34.2.1, x34.2.2), 0), h31)) fun j26 =>
 zTg_ k D j26 (some (⟨h.next, 0, none⟩ : Addr)) (some (⟨h1.next, 0, none⟩ : Addr)) (some (⟨r16.2.next, 0, none⟩ : Addr)) (some (⟨r20.2.next, 0, none⟩ : Addr)) 0 h22))
noncomputable def zZk_ : RCode := an (.s .n (.s (.s (.r [(0, .st [.i .i64, .i .i64, .l])]) .n) (.s .n (.s (.r [(0, .st [.i .i64, .i .i64, .l])]) (.s .n (.s (.j [(2, .p), (6, .p)] (.s .n (.b (.l [(1, .p), (2, .p), (5, .p), (6, .p), (8, .i .i64)] (.s .n (.s (.j [(1, .p), (2, .p), (5, .p), (6, .p), (8, .i .i64)] (.b (.s (.r [(0, .st [.i .i64, .i .i64, .l])]) (.s .n (.s (.r [(0, .st [.i .i64, .i .i64, .l])]) (.s (.r [(0, .st [.i .i64, .i .i64, .l])]) (.s (.r [(0, .st [.i .i64, .i .i64, .l])]) (.s (.r [(0, .st [.i .i64, .i .i64, .l])]) (.s (.r [(0, .st [.i .i64, .i .i64, .l])]) (.s .n (.b (.l [(1, .p), (2, .p), (5, .p), (6, .p), (8, .i .i64), (11, .i .i64)] (.s .n (.s (.j [(1, .p), (2, .p), (5, .p), (6, .p), (8, .i .i64), (11, .i .i64)] (.b (.s (.j [(1, .p), (2, .p), (5, .p), (6, .p), (8, .i .i64), (11, .i .i64), (82, .b)] (.r [(4, .st [.i .i64, .i .i64, .l])])) (.s (.s (.r [(0, .st [.i .i64, .i .i64, .l])]) (.s (.r [(0, .st [.i .i64, .i .i64, .l])]) (.r [(0, .st [.i .i64, .i .i64, .l])]))) .n)))) .n)))))))))))))) .n)))))) (.s (.r [(0, .st [.i .i64, .i .i64, .l])]) .n))))))) (rOf Tryz.prog 2 Tryz.f60)
noncomputable def zel_ (k : Nat) (D : za_) : Ent := zq_ 60 [(0, .st [.i .i64, .i .i64, .l])] [(2, .st [.i .i64, .i .i64, .l]), (3, .i .i64)] (zZb_ k D)
theorem zIt_ : (Tryz.f60.body).bind (zd_ Tryz.prog 2 Tryz.f60.ntmps) = some (zf_ zZk_) := by kernel_rfl
theorem zat_ (k : Nat) (D : za_) : curF [(0, .st [.i .i64, .i .i64, .l])] (fun args h => denF (zCs_ k D) k zZk_ [(2, .st [.i .i64, .i .i64, .l]), (3, .i .i64)] [some (.agg 3), none] args h) = zZb_ k D := by kernel_rfl
theorem zds_ {D : za_} (hD : zl_ Tryz.prog 2 D) (k : Nat) : zo_ Tryz.prog 2 (zel_ k D) :=
 zj_ (zi_ hD (zc_.more (zkm_ hD k) (zc_.more (zdt_ hD k) (zc_.more (zgx_ hD k) (zc_.more (zXs_ hD k) (zc_.more (zlt_ hD k) (zc_.more (zMd_ hD k) (zc_.more (zTn_ hD k) (zc_.more (zWr_ hD k) (zc_.more (zju_ hD k) (zc_.none))))))))))) Tryz.func60 rfl zIt_ rfl (zat_ k D)
end Gz
namespace Gz
open Go Gx Go.Proofs
set_option maxRecDepth 100000
noncomputable def zKq_ (k : Nat) (D : za_) : za_ := mkC D [zEj_ k D, zUh_ k D, znq_ k D, zel_ k D, zKr_ k D]
noncomputable def zic_ (_k : Nat) (_D : za_) (j6 : (Option Addr) → Slc → Int → AHeap → Option ((ByteArray × Int) × AHeap)) (rec73 : (Option Addr) → Slc → Int → Int → Int → AHeap → Option ((ByteArray × Int) × AHeap)) (p67 : Option Addr) (l68 : Slc) (long69 : Int) (n70 : Int) (i71 : Int) (h72 : AHeap) : Option ((ByteArray × Int) × AHeap) :=
 (if (decide (i71 < (l68.len : Int))) = true then
 zn_ (fun (p74 : Option Addr) (l75 : Slc) (long76 : Int) (n77 : Int) (i78 : Int) (y79 : Bool) (h80 : AHeap) =>
 (if y79 = true then
 some (((⟨#[]⟩ : ByteArray), 1), h80)
 else
 (Gx.idxL 2 l75 i78).bind fun q82 =>
 (ldS (⟨q82.block, q82.off + 1, none⟩ : Addr) h80).bind fun x83 =>
 (if ((x83.size : Int) != n77) = true then
 some (((⟨#[]⟩ : ByteArray), 4), h80)
 else
 rec73 p74 l75 long76 n77 (IntKind.wrap .i64 (i78 + 1)) h80))) fun j81 =>
 (Gx.idxL 2 l68 i71).bind fun q84 =>
 (ldI .i64 (⟨q84.block, q84.off + 0, none⟩ : Addr) h72).bind fun x85 =>
 (if (decide (x85 < 0)) = true then
 j81 p67 l68 long69 n70 i71 true h72
 else
 (Gx.idxL 2 l68 i71).bind fun q86 =>
 (ldI .i64 (⟨q86.block, q86.off + 0, none⟩ : Addr) h72).bind fun x87 =>
 (p67).bind fun p88 =>
 (ldI .i64 (⟨p88.block, p88.off + 0, none⟩ : Addr) h72).bind fun x89 =>
 (p67).bind fun p90 =>
 (ldI .i64 (⟨p90.block, p90.off + 1, none⟩ : Addr) h72).bind fun x91 =>
 j81 p67 l68 long69 n70 i71 (decide (x87 ≥ (IntKind.wrap .i64 (x89 + x91)))) h72)
 else
 j6 p67 l68 long69 h72)
noncomputable def zRi_ (k : Nat) (D : za_) (j6 : (Option Addr) → Slc → Int → AHeap → Option ((ByteArray × Int) × AHeap)) : (Option Addr) → Slc → Int → Int → Int → AHeap → Option ((ByteArray × Int) × AHeap) :=
 zh_ (α := (Option Addr) → Slc → Int → Int → Int → AHeap → Option ((ByteArray × Int) × AHeap)) (fun _ _ _ _ _ _ => none) k (zic_ k D j6)
noncomputable def zdc_ (_k : Nat) (_D : za_) (j15 : (Option Addr) → Int → Slc → Slc → AHeap → Option ((ByteArray × Int) × AHeap)) (rec56 : (Option Addr) → Slc → Int → Slc → Slc → Int → AHeap → Option ((ByteArray × Int) × AHeap)) (p49 : Option Addr) (l50 : Slc) (long51 : Int) (rows52 : Slc) (data53 : Slc) (i54 : Int) (h55 : AHeap) : Option ((ByteArray × Int) × AHeap) :=
 (if (decide (i54 < (l50.len : Int))) = true then
 (Gx.idxL 2 l50 i54).bind fun q57 =>
 (ldI .i64 (⟨q57.block, q57.off + 0, none⟩ : Addr) h55).bind fun x58 =>
 let h59 := AHeap.new h55 (.cells [.int .i64 x58] 3 true 0)
 (rdS 1 (⟨(some ⟨h55.next, 0, some 0⟩), 1, 1⟩ : Slc) h59).bind fun n61 =>
 (zs_ 1 8 3 h59 rows52 n61 1).bind fun r60 =>
 (Gx.idxL 2 l50 i54).bind fun q62 =>
 (ldS (⟨q62.block, q62.off + 1, none⟩ : Addr) r60.2).bind fun x63 =>
 let h64 := AHeap.new r60.2 (.cells [.string x63] 9 true 0)
 (rdS 1 (⟨(some ⟨r60.2.next, 0, some 0⟩), 1, 1⟩ : Slc) h64).bind fun n66 =>
 (zs_ 1 16 9 h64 data53 n66 1).bind fun r65 =>
 rec56 p49 l50 long51 r60.1 r65.1 (IntKind.wrap .i64 (i54 + 1)) r65.2
 else
 j15 p49 long51 rows52 data53 h55)
noncomputable def zcj_ (k : Nat) (D : za_) (j15 : (Option Addr) → Int → Slc → Slc → AHeap → Option ((ByteArray × Int) × AHeap)) : (Option Addr) → Slc → Int → Slc → Slc → Int → AHeap → Option ((ByteArray × Int) × AHeap) :=
 zh_ (α := (Option Addr) → Slc → Int → Slc → Slc → Int → AHeap → Option ((ByteArray × Int) × AHeap)) (fun _ _ _ _ _ _ _ => none) k (zdc_ k D j15)
noncomputable def zgc_ (k : Nat) (D : za_) (j29 : Int → ByteArray → AHeap → Option ((ByteArray × Int) × AHeap)) (rec38 : (Option Addr) → Int → Slc → (Option Addr) → ByteArray → Int → AHeap → Option ((ByteArray × Int) × AHeap)) (p31 : Option Addr) (long32 : Int) (data33 : Slc) (a34 : Option Addr) (s35 : ByteArray) (i36 : Int) (h37 : AHeap) : Option ((ByteArray × Int) × AHeap) :=
 (p31).bind fun p39 =>
 (ldI .i64 (⟨p39.block, p39.off + 0, none⟩ : Addr) h37).bind fun x40 =>
 (if (decide (i36 < x40)) = true then
 (a34).bind fun p41 =>
 (ldL (⟨p41.block, p41.off + 2, none⟩ : Addr) h37).bind fun x42 =>
 (p31).bind fun p43 =>
 (ldI .i64 (⟨p43.block, p43.off + 0, none⟩ : Addr) h37).bind fun x44 =>
 (p31).bind fun p45 =>
 (ldI .i64 (⟨p45.block, p45.off + 0, none⟩ : Addr) h37).bind fun x46 =>
 (Gx.subL 1 x42 (some (IntKind.wrap .i64 (i36 * x44))) (some (IntKind.wrap .i64 ((IntKind.wrap .i64 (i36 + 1)) * x46))) none).bind fun l47 =>
 (zYi_ k D data33 l47 h37).bind fun r48 =>
 (if s35.size + r48.1.1.size ≤ 9223372036854775807 then
 rec38 p31 long32 data33 a34 (s35 ++ r48.1.1) (IntKind.wrap .i64 (i36 + 1)) r48.2
 else none)
 else
 j29 long32 s35 h37)
noncomputable def zPi_ (k : Nat) (D : za_) (j29 : Int → ByteArray → AHeap → Option ((ByteArray × Int) × AHeap)) : (Option Addr) → Int → Slc → (Option Addr) → ByteArray → Int → AHeap → Option ((ByteArray × Int) × AHeap) :=
 zh_ (α := (Option Addr) → Int → Slc → (Option Addr) → ByteArray → Int → AHeap → Option ((ByteArray × Int) × AHeap)) (fun _ _ _ _ _ _ _ => none) k (zgc_ k D j29)
noncomputable def zme_ (k : Nat) (D : za_) (p_0 : Option Addr) (l_1 : Slc) (long_2 : Int) (h : AHeap) : Option ((ByteArray × Int) × AHeap) :=
 (zYd_ k D p_0 long_2 h).bind fun r1 =>
 (if (r1.1.2 != 0) = true then
 some (((⟨#[]⟩ : ByteArray), r1.1.2), r1.2)
 else
 zn_ (fun (p2 : Option Addr) (l3 : Slc) (long4 : Int) (h5 : AHeap) =>
 (zHc_ k D p2 l3 h5).bind fun r7 =>
 (p2).bind fun p8 =>
 (ldI .i64 (⟨p8.block, p8.off + 0, none⟩ : Addr) r7.2).bind fun x9 =>
 (if (decide ((r7.1.len : Int) < x9)) = true then
 some (((⟨#[]⟩ : ByteArray), 50), r7.2)
 else
 zn_ (fun (p10 : Option Addr) (long11 : Int) (rows12 : Slc) (data13 : Slc) (h14 : AHeap) =>
 (p10).bind fun p16 =>
 (ldA 3 (⟨p16.block, p16.off + 2, none⟩ : Addr) h14).bind fun l17 =>
 (decC [.i .i64, .i .i64, .l] l17).bind fun x18 =>
 (zfe_ k D (x18.1, x18.2.1, x18.2.2) rows12 h14).bind fun r19 =>
 let h20 := AHeap.new r19.2 (.cells [.int .i64 0, .int .i64 0, .slice none 0 0] 97 true 0)
 (stL 3 (⟨r19.2.next, 0, none⟩ : Addr) ([.int .i64 r19.1.1.1, .int .i64 r19.1.1.2.1, .slice r19.1.1.2.2.a r19.1.1.2.2.len r19.1.1.2.2.cap]) h20).bind fun h21 =>
 (ldA 3 (⟨r19.2.next, 0, none⟩ : Addr) h21).bind fun l22 =>
 (decC [.i .i64, .i .i64, .l] l22).bind fun x23 =>
 (zZb_ k D (x23.1, x23.2.1, x23.2.2) h21).bind fun r24 =>
 (stL 3 (⟨r19.2.next, 0, none⟩ : Addr) ([.int .i64 r24.1.1.1, .int .i64 r24.1.1.2.1, .slice r24.1.1.2.2.a r24.1.1.2.2.len r24.1.1.2.2.cap]) r24.2).bind fun h25 =>
 zn_ (fun (long26 : Int) (s27 : ByteArray) (h28 : AHeap) =>
 (Gx.subS s27 none (some long26)).bind fun s30 =>
 some ((s30, 0), h28)) fun j29 =>
 zPi_ k D j29 p10 long11 data13 (some (⟨r19.2.next, 0, none⟩ : Addr)) (⟨#[]⟩ : ByteArray) 0 h25) fun j15 =>
 zcj_ k D j15 p2 r7.1 long4 (⟨none, 0, 0⟩ : Slc) (⟨none, 0, 0⟩ : Slc) 0 r7.2)) fun j6 =>
 zRi_ k D j6 p_0 l_1 long_2 r1.1.1 0 r1.2)
noncomputable def zrj_ : RCode := an (.s .n (.s .n (.s .n (.s (.j [(0, .p), (1, .l), (2, .i .i64)] (.s .n (.b (.l [(0, .p), (1, .l), (2, .i .i64), (8, .i .i64), (10, .i .i64)] (.s .n (.s (.b (.s (.s (.j [(0, .p), (1, .l), (2, .i .i64), (8, .i .i64), (10, .i .i64), (57, .b)] .n) .n) .n)) .n)))))) (.s .n (.s .n (.s .n (.s .n (.s (.j [(0, .p), (2, .i .i64), (11, .l), (12, .l)] (.s .n (.b (.l [(0, .p), (1, .l), (2, .i .i64), (11, .l), (12, .l), (13, .i .i64)] .n)))) (.s (.r [(3, .st [.i .i64, .i .i64, .l])]) (.s (.r [(0, .st [.i .i64, .i .i64, .l])]) (.s .n (.s (.j [(2, .i .i64), (16, .s)] (.s .n (.b (.l [(0, .p), (2, .i .i64), (12, .l), (14, .p), (16, .s), (17, .i .i64)] .n)))) .n))))))))))))) (rOf Tryz.prog 2 Tryz.f30)
noncomputable def zxj_ (k : Nat) (D : za_) : Ent := zq_ 30 [(0, .p), (1, .l), (2, .i .i64)] [(6, .s), (7, .i .i64)] (zme_ k D)
theorem zHq_ : (Tryz.f30.body).bind (zd_ Tryz.prog 2 Tryz.f30.ntmps) = some (zf_ zrj_) := by kernel_rfl
theorem zLq_ (k : Nat) (D : za_) : curF [(0, .p), (1, .l), (2, .i .i64)] (fun args h => denF (zKq_ k D) k zrj_ [(6, .s), (7, .i .i64)] [none, none] args h) = zme_ k D := by kernel_rfl
theorem zgq_ {D : za_} (hD : zl_ Tryz.prog 2 D) (k : Nat) : zo_ Tryz.prog 2 (zxj_ k D) :=
 zj_ (zi_ hD (zc_.more (zwp_ hD k) (zc_.more (zmn_ hD k) (zc_.more (zzw_ hD k) (zc_.more (zds_ hD k) (zc_.more (zyx_ hD k) (zc_.none))))))) Tryz.func30 rfl zHq_ rfl (zLq_ k D)
end Gz
namespace Gz
open Go Gx Go.Proofs
set_option maxRecDepth 100000
noncomputable def zeu_ (k : Nat) (D : za_) : za_ := mkC D [zwr_ k D, zxj_ k D, zvm_ k D, zro_ k D, zjk_ k D]
noncomputable def zCd_ (k : Nat) (D : za_) (j4 : Slc → Slc → AHeap → Option ((ByteArray × Int) × AHeap)) (rec22 : Slc → Slc → Int → AHeap → Option ((ByteArray × Int) × AHeap)) (l18 : Slc) (parts19 : Slc) (i20 : Int) (h21 : AHeap) : Option ((ByteArray × Int) × AHeap) :=
 (if (decide (i20 < (l18.len : Int))) = true then
 zn_ (fun (l23 : Slc) (parts24 : Slc) (i25 : Int) (y26 : Bool) (h27 : AHeap) =>
 (if y26 = true then
 some (((⟨#[]⟩ : ByteArray), 4), h27)
 else
 (Gx.idxL 6 l23 i25).bind fun q29 =>
 (ldI .i64 (⟨q29.block, q29.off + 2, none⟩ : Addr) h27).bind fun x30 =>
 (Gx.idxL 6 l23 i25).bind fun q31 =>
 (ldS (⟨q31.block, q31.off + 5, none⟩ : Addr) h27).bind fun x32 =>
 let h33 := AHeap.new h27 (.cells [.int .i64 x30, .string x32] 65 true 0)
 (rdS 2 (⟨(some ⟨h27.next, 0, some 0⟩), 1, 1⟩ : Slc) h33).bind fun n35 =>
 (zs_ 2 24 65 h33 parts24 n35 1).bind fun r34 =>
 rec22 l23 r34.1 (IntKind.wrap .i64 (i25 + 1)) r34.2)) fun j28 =>
 (Gx.idxL 6 l18 i20).bind fun q36 =>
 (ldA 6 q36 h21).bind fun l37 =>
 (decC [.i .i64, .i .i64, .i .i64, .i .i64, .s, .s] l37).bind fun x38 =>
 (zHg_ k D (x38.1, x38.2.1, x38.2.2.1, x38.2.2.2.1, x38.2.2.2.2.1, x38.2.2.2.2.2) h21).bind fun r39 =>
 (if (r39.1 != 0) = true then
 j28 l18 parts19 i20 true r39.2
 else
 (Gx.idxL 6 l18 0).bind fun q40 =>
 (ldA 6 q40 r39.2).bind fun l41 =>
 (decC [.i .i64, .i .i64, .i .i64, .i .i64, .s, .s] l41).bind fun x42 =>
 (Gx.idxL 6 l18 i20).bind fun q43 =>
 (ldA 6 q43 r39.2).bind fun l44 =>
 (decC [.i .i64, .i .i64, .i .i64, .i .i64, .s, .s] l44).bind fun x45 =>
 (zmg_ k D (x42.1, x42.2.1, x42.2.2.1, x42.2.2.2.1, x42.2.2.2.2.1, x42.2.2.2.2.2) (x45.1, x45.2.1, x45.2.2.1, x45.2.2.2.1, x45.2.2.2.2.1, x45.2.2.2.2.2) r39.2).bind fun r46 =>
 j28 l18 parts19 i20 (!r46.1) r46.2)
 else
 j4 l18 parts19 h21)
noncomputable def zml_ (k : Nat) (D : za_) (j4 : Slc → Slc → AHeap → Option ((ByteArray × Int) × AHeap)) : Slc → Slc → Int → AHeap → Option ((ByteArray × Int) × AHeap) :=
 zh_ (α := Slc → Slc → Int → AHeap → Option ((ByteArray × Int) × AHeap)) (fun _ _ _ _ => none) k (zCd_ k D j4)
noncomputable def zCf_ (k : Nat) (D : za_) (l_0 : Slc) (h : AHeap) : Option ((ByteArray × Int) × AHeap) :=
 (if ((l_0.len : Int) == 0) = true then
 some (((⟨#[]⟩ : ByteArray), 4), h)
 else
 zn_ (fun (l1 : Slc) (parts2 : Slc) (h3 : AHeap) =>
 (Gx.idxL 6 l1 0).bind fun q5 =>
 (ldI .i64 (⟨q5.block, q5.off + 0, none⟩ : Addr) h3).bind fun x6 =>
 (Gx.idxL 6 l1 0).bind fun q7 =>
 (ldI .i64 (⟨q7.block, q7.off + 1, none⟩ : Addr) h3).bind fun x8 =>
 (zWi_ k D x6 x8 h3).bind fun r9 =>
 (Gx.idxL 6 l1 0).bind fun q10 =>
 (ldI .i64 (⟨q10.block, q10.off + 3, none⟩ : Addr) r9.2).bind fun x11 =>
 (zme_ k D r9.1.1 parts2 x11 r9.2).bind fun r12 =>
 (if (r12.1.2 != 0) = true then
 some (((⟨#[]⟩ : ByteArray), r12.1.2), r12.2)
 else
 (zNf_ k D r12.1.1 r12.2).bind fun r13 =>
 (Gx.idxL 6 l1 0).bind fun q14 =>
 (ldS (⟨q14.block, q14.off + 4, none⟩ : Addr) r13.2).bind fun x15 =>
 zz_ (zC_ [r12.2] (fun H17 => (ldS (⟨q14.block, q14.off + 4, none⟩ : Addr) H17).bind fun y16 => some (.string y16)) (.string x15)) (
 (if (!(r13.1 == x15)) = true then
 some (((⟨#[]⟩ : ByteArray), 60), r13.2)
 else
 some ((r12.1.1, 0), r13.2))))) fun j4 =>
 zml_ k D j4 l_0 (⟨none, 0, 0⟩ : Slc) 0 h)
noncomputable def zAm_ : RCode := an (.s .n (.s .n (.s .n (.s (.j [(0, .l), (4, .l)] (.s .n (.b (.l [(0, .l), (4, .l), (5, .i .i64)] (.s .n (.s (.b (.s (.s (.j [(0, .l), (4, .l), (5, .i .i64), (35, .b)] (.r [(3, .st [.i .i64, .i .i64, .i .i64, .i .i64, .s, .s]), (9, .st [.i .i64, .i .i64, .i .i64, .i .i64, .s, .s]), (13, .st [.i .i64, .i .i64, .i .i64, .i .i64, .s, .s])])) .n) .n)) .n)))))) .n)))) (rOf Tryz.prog 2 Tryz.f13)
noncomputable def zfm_ (k : Nat) (D : za_) : Ent := zq_ 13 [(0, .l)] [(2, .s), (3, .i .i64)] (zCf_ k D)
theorem zOu_ : (Tryz.f13.body).bind (zd_ Tryz.prog 2 Tryz.f13.ntmps) = some (zf_ zAm_) := by kernel_rfl
theorem zPu_ (k : Nat) (D : za_) : curF [(0, .l)] (fun args h => denF (zeu_ k D) k zAm_ [(2, .s), (3, .i .i64)] [none, none] args h) = zCf_ k D := by kernel_rfl
theorem zys_ {D : za_} (hD : zl_ Tryz.prog 2 D) (k : Nat) : zo_ Tryz.prog 2 (zfm_ k D) :=
 zj_ (zi_ hD (zc_.more (zhy_ hD k) (zc_.more (zgq_ hD k) (zc_.more (zDt_ hD k) (zc_.more (zQt_ hD k) (zc_.more (zao_ hD k) (zc_.none))))))) Tryz.func13 rfl zOu_ rfl (zPu_ k D)
end Gz
namespace Gz
open Go Gx Go.Proofs
set_option maxRecDepth 100000
noncomputable def zjn_ (k : Nat) (D : za_) : za_ := mkC D [zuo_ k D, zgm_ k D, zfm_ k D, znk_ k D, zjk_ k D, zJs_ k D]
noncomputable def zCb_ (k : Nat) (D : za_) (j6 : Slc → Slc → Slc → AHeap → Option ((Bool) × AHeap)) (rec67 : Slc → Slc → Slc → Int → AHeap → Option ((Bool) × AHeap)) (l62 : Slc) (own63 : Slc) (kv64 : Slc) (i65 : Int) (h66 : AHeap) : Option ((Bool) × AHeap) :=
 (if (decide (i65 < (l62.len : Int))) = true then
 zn_ (fun (l68 : Slc) (own69 : Slc) (kv70 : Slc) (i71 : Int) (y72 : Bool) (h73 : AHeap) =>
 (if y72 = true then
 (zre_ k D h73).bind fun r75 =>
 some (r75.1, r75.2)
 else
 (Gx.idxL 6 l68 i71).bind fun q76 =>
 (ldA 6 q76 h73).bind fun l77 =>
 (decC [.i .i64, .i .i64, .i .i64, .i .i64, .s, .s] l77).bind fun x78 =>
 let h79 := AHeap.new h73 (.cells [.int .i64 x78.1, .int .i64 x78.2.1, .int .i64 x78.2.2.1, .int .i64 x78.2.2.2.1, .string x78.2.2.2.2.1, .string x78.2.2.2.2.2] 33 true 0)
 (rdS 6 (⟨(some ⟨h73.next, 0, some 0⟩), 1, 1⟩ : Slc) h79).bind fun n81 =>
 (zs_ 6 64 33 h79 own69 n81 1).bind fun r80 =>
 (Gx.idxL 6 l68 i71).bind fun q82 =>
 (ldA 6 q82 r80.2).bind fun l83 =>
 (decC [.i .i64, .i .i64, .i .i64, .i .i64, .s, .s] l83).bind fun x84 =>
 (zek_ k D (x84.1, x84.2.1, x84.2.2.1, x84.2.2.2.1, x84.2.2.2.2.1, x84.2.2.2.2.2) r80.2).bind fun r85 =>
 let h86 := AHeap.new r85.2 (.cells [.int .i64 r85.1.1, .int .i64 r85.1.2.1, .int .i64 r85.1.2.2.1, .int .i64 r85.1.2.2.2.1, .string r85.1.2.2.2.2.1, .string r85.1.2.2.2.2.2] 34 true 0)
 (rdS 6 (⟨(some ⟨r85.2.next, 0, some 0⟩), 1, 1⟩ : Slc) h86).bind fun n88 =>
 (zs_ 6 64 34 h86 kv70 n88 1).bind fun r87 =>
 rec67 l68 r80.1 r87.1 (IntKind.wrap .i64 (i71 + 1)) r87.2)) fun j74 =>
 (Gx.idxL 6 l62 i65).bind fun q89 =>
 (ldI .i64 (⟨q89.block, q89.off + 0, none⟩ : Addr) h66).bind fun x90 =>
 (if (decide (x90 > 12)) = true then
 j74 l62 own63 kv64 i65 true h66
 else
 (Gx.idxL 6 l62 i65).bind fun q91 =>
 (ldI .i64 (⟨q91.block, q91.off + 1, none⟩ : Addr) h66).bind fun x92 =>
 (if (decide (x92 > 12)) = true then
 j74 l62 own63 kv64 i65 true h66
 else
 (Gx.idxL 6 l62 i65).bind fun q93 =>
 (ldI .i64 (⟨q93.block, q93.off + 3, none⟩ : Addr) h66).bind fun x94 =>
 (if (decide (x94 > 300)) = true then
 j74 l62 own63 kv64 i65 true h66
 else
 (Gx.idxL 6 l62 i65).bind fun q95 =>
 (ldS (⟨q95.block, q95.off + 5, none⟩ : Addr) h66).bind fun x96 =>
 j74 l62 own63 kv64 i65 (decide ((x96.size : Int) > 300)) h66)))
 else
 j6 l62 own63 kv64 h66)
noncomputable def zch_ (k : Nat) (D : za_) (j6 : Slc → Slc → Slc → AHeap → Option ((Bool) × AHeap)) : Slc → Slc → Slc → Int → AHeap → Option ((Bool) × AHeap) :=
 zh_ (α := Slc → Slc → Slc → Int → AHeap → Option ((Bool) × AHeap)) (fun _ _ _ _ _ => none) k (zCb_ k D j6)
noncomputable def zFb_ (k : Nat) (D : za_) (j14 : ByteArray → Int → ByteArray → Int → AHeap → Option ((Bool) × AHeap)) (rec25 : Slc → Slc → Slc → ByteArray → Int → ByteArray → Int → Int → AHeap → Option ((Bool) × AHeap)) (l16 : Slc) (own17 : Slc) (kv18 : Slc) (a19 : ByteArray) (e20 : Int) (b21 : ByteArray) (f22 : Int) (i23 : Int) (h24 : AHeap) : Option ((Bool) × AHeap) :=
 (if (decide (i23 < (l16.len : Int))) = true then
 zn_ (fun (l26 : Slc) (own27 : Slc) (kv28 : Slc) (a29 : ByteArray) (e30 : Int) (b31 : ByteArray) (f32 : Int) (i33 : Int) (y34 : Bool) (h35 : AHeap) =>
 (if y34 = true then
 some (false, h35)
 else
 rec25 l26 own27 kv28 a29 e30 b31 f32 (IntKind.wrap .i64 (i33 + 1)) h35)) fun j36 =>
 (Gx.idxL 6 own17 i23).bind fun q37 =>
 (ldA 6 q37 h24).bind fun l38 =>
 (decC [.i .i64, .i .i64, .i .i64, .i .i64, .s, .s] l38).bind fun x39 =>
 (Gx.idxL 6 l16 i23).bind fun q40 =>
 (ldA 6 q40 h24).bind fun l41 =>
 (decC [.i .i64, .i .i64, .i .i64, .i .i64, .s, .s] l41).bind fun x42 =>
 let c43 : Bool := (!((x39.1 == x42.1) && ((x39.2.1 == x42.2.1) && ((x39.2.2.1 == x42.2.2.1) && ((x39.2.2.2.1 == x42.2.2.2.1) && ((x39.2.2.2.2.1 == x42.2.2.2.2.1) && (x39.2.2.2.2.2 == x42.2.2.2.2.2)))))))
 (if c43 = true then
 j36 l16 own17 kv18 a19 e20 b21 f22 i23 true h24
 else
 (Gx.idxL 6 l16 0).bind fun q44 =>
 (ldA 6 q44 h24).bind fun l45 =>
 (decC [.i .i64, .i .i64, .i .i64, .i .i64, .s, .s] l45).bind fun x46 =>
 (Gx.idxL 6 l16 i23).bind fun q47 =>
 (ldA 6 q47 h24).bind fun l48 =>
 (decC [.i .i64, .i .i64, .i .i64, .i .i64, .s, .s] l48).bind fun x49 =>
 (zdg_ k D (x46.1, x46.2.1, x46.2.2.1, x46.2.2.2.1, x46.2.2.2.2.1, x46.2.2.2.2.2) (x49.1, x49.2.1, x49.2.2.1, x49.2.2.2.1, x49.2.2.2.2.1, x49.2.2.2.2.2) h24).bind fun r50 =>
 (Gx.idxL 6 kv18 0).bind fun q51 =>
 (ldA 6 q51 r50.2).bind fun l52 =>
 zz_ (zC_ [h24] (fun H54 => (ldA 6 q51 H54).bind fun y53 => some (.agg ⟨y53⟩)) (.agg ⟨l52⟩)) (
 (decC [.i .i64, .i .i64, .i .i64, .i .i64, .s, .s] l52).bind fun x55 =>
 (Gx.idxL 6 kv18 i23).bind fun q56 =>
 (ldA 6 q56 r50.2).bind fun l57 =>
 zz_ (zC_ [h24] (fun H59 => (ldA 6 q56 H59).bind fun y58 => some (.agg ⟨y58⟩)) (.agg ⟨l57⟩)) (
 (decC [.i .i64, .i .i64, .i .i64, .i .i64, .s, .s] l57).bind fun x60 =>
 (zmg_ k D (x55.1, x55.2.1, x55.2.2.1, x55.2.2.2.1, x55.2.2.2.2.1, x55.2.2.2.2.2) (x60.1, x60.2.1, x60.2.2.1, x60.2.2.2.1, x60.2.2.2.2.1, x60.2.2.2.2.2) r50.2).bind fun r61 =>
 j36 l16 own17 kv18 a19 e20 b21 f22 i23 (!(r50.1 == r61.1)) r61.2)))
 else
 j14 a19 e20 b21 f22 h24)
noncomputable def zih_ (k : Nat) (D : za_) (j14 : ByteArray → Int → ByteArray → Int → AHeap → Option ((Bool) × AHeap)) : Slc → Slc → Slc → ByteArray → Int → ByteArray → Int → Int → AHeap → Option ((Bool) × AHeap) :=
 zh_ (α := Slc → Slc → Slc → ByteArray → Int → ByteArray → Int → Int → AHeap → Option ((Bool) × AHeap)) (fun _ _ _ _ _ _ _ _ _ => none) k (zFb_ k D j14)
noncomputable def zJb_ (k : Nat) (D : za_) (l_0 : Slc) (h : AHeap) : Option ((Bool) × AHeap) :=
 (if (decide ((l_0.len : Int) > 12)) = true then
 (zre_ k D h).bind fun r1 =>
 some (r1.1, r1.2)
 else
 zn_ (fun (l2 : Slc) (own3 : Slc) (kv4 : Slc) (h5 : AHeap) =>
 (zGf_ k D own3 h5).bind fun r7 =>
 (zCf_ k D kv4 r7.2).bind fun r8 =>
 zn_ (fun (a9 : ByteArray) (e10 : Int) (b11 : ByteArray) (f12 : Int) (h13 : AHeap) =>
 (if (a9 == b11) = true then
 (if (e10 == f12) = true then
 (zre_ k D h13).bind fun r15 =>
 some (r15.1, r15.2)
 else
 some (false, h13))
 else
 some (false, h13))) fun j14 =>
 zih_ k D j14 l2 own3 kv4 r7.1.1 r7.1.2 r8.1.1 r8.1.2 0 r8.2) fun j6 =>
 zch_ k D j6 l_0 (⟨none, 0, 0⟩ : Slc) (⟨none, 0, 0⟩ : Slc) 0 h)
noncomputable def zRh_ : RCode := an (.s .n (.s .n (.s .n (.s .n (.s (.j [(0, .l), (3, .l), (4, .l)] (.s .n (.b (.l [(0, .l), (3, .l), (4, .l), (5, .i .i64)] (.s .n (.s (.b (.s (.s (.j [(0, .l), (3, .l), (4, .l), (5, .i .i64), (51, .b)] .n) .n) (.s (.r [(4, .st [.i .i64, .i .i64, .i .i64, .i .i64, .s, .s])]) (.r [(4, .st [.i .i64, .i .i64, .i .i64, .i .i64, .s, .s])])))) .n)))))) (.s .n (.s .n (.s (.j [(6, .s), (7, .i .i64), (8, .s), (9, .i .i64)] (.s .n (.b (.l [(0, .l), (3, .l), (4, .l), (6, .s), (7, .i .i64), (8, .s), (9, .i .i64), (10, .i .i64)] (.s .n (.s (.b (.s (.j [(0, .l), (3, .l), (4, .l), (6, .s), (7, .i .i64), (8, .s), (9, .i .i64), (10, .i .i64), (111, .b)] (.r [(3, .st [.i .i64, .i .i64, .i .i64, .i .i64, .s, .s]), (7, .st [.i .i64, .i .i64, .i .i64, .i .i64, .s, .s]), (12, .st [.i .i64, .i .i64, .i .i64, .i .i64, .s, .s]), (16, .st [.i .i64, .i .i64, .i .i64, .i .i64, .s, .s]), (20, .st [.i .i64, .i .i64, .i .i64, .i .i64, .s, .s]), (24, .st [.i .i64, .i .i64, .i .i64, .i .i64, .s, .s])])) .n)) .n)))))) .n)))))))) (rOf Tryz.prog 2 Tryz.f4)
noncomputable def zcf_ (k : Nat) (D : za_) : Ent := zq_ 4 [(0, .l)] [(2, .b)] (zJb_ k D)
theorem zQm_ : (Tryz.f4.body).bind (zd_ Tryz.prog 2 Tryz.f4.ntmps) = some (zf_ zRh_) := by kernel_rfl
theorem zDn_ (k : Nat) (D : za_) : curF [(0, .l)] (fun args h => denF (zjn_ k D) k zRh_ [(2, .b)] [none] args h) = zJb_ k D := by kernel_rfl
theorem zwm_ {D : za_} (hD : zl_ Tryz.prog 2 D) (k : Nat) : zo_ Tryz.prog 2 (zcf_ k D) :=
 zj_ (zi_ hD (zc_.more (zZu_ hD k) (zc_.more (zKs_ hD k) (zc_.more (zys_ hD k) (zc_.more (zlo_ hD k) (zc_.more (zao_ hD k) (zc_.more (zbz_ hD k) (zc_.none)))))))) Tryz.func4 rfl zQm_ rfl (zDn_ k D)
end Gz
namespace Gz
open Go Gx Go.Proofs
set_option maxRecDepth 100000
end Gz
namespace Gz
open Go Gx Go.Proofs
set_option maxRecDepth 100000
end Gz
namespace Gz
open Go Gx Go.Proofs
set_option maxRecDepth 100000
end Gz
namespace Gz
open Go Gx Go.Proofs
set_option maxRecDepth 100000
end Gz
namespace Gz
open Go Gx Go.Proofs
set_option maxRecDepth 100000
end Gz
namespace Gz
open Go Gx Go.Proofs
set_option maxRecDepth 100000
end Gz
namespace Gz
open Go Gx Go.Proofs
set_option maxRecDepth 100000
end Gz
namespace Gz
open Go Gx Go.Proofs
set_option maxRecDepth 100000
end Gz
namespace Gz
open Go Gx Go.Proofs
set_option maxRecDepth 100000
end Gz
