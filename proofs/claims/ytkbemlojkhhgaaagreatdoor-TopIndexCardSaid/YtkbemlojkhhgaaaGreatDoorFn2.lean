import Derived.Test.YtkbemlojkhhgaaaGreatDoorProg
import Derived.Test.YtkbemlojkhhgaaaGreatDoorFn1
namespace Gg
open Go Gx Go.Proofs
set_option maxRecDepth 100000
noncomputable def zBd_ (k : Nat) (D : za_) (j34 : ByteArray → Slc → Slc → Bool → (Option Addr) → Int → (Option Addr) → (Option Nat) → AHeap → Option ((Bool) × AHeap)) (rec110 : ByteArray → Slc → Slc → Bool → (Option Addr) → Int → (Option Addr) → (Option Nat) → Slc → Int → Int → AHeap → Option ((Bool) × AHeap)) (text98 : ByteArray) (l99 : Slc) (ids100 : Slc) (letv101 : Bool) (t102 : Option Addr) (e103 : Int) (m104 : Option Addr) (of105 : Option Nat) (y106 : Slc) (y107 : Int) (y108 : Int) (h109 : AHeap) : Option ((Bool) × AHeap) :=
 (if (decide (y108 < y107)) = true then
 (Gx.idxL 1 y106 y108).bind fun q111 =>
 (ldS q111 h109).bind fun x112 =>
 newK h109 ((.cells [.string x112] 9 true 0)) fun h113 =>
 (zNe_ k D (⟨(some ⟨h109.next, 0, some 0⟩), 1, 1⟩ : Slc) h113).bind fun r114 =>
 (of105).bind fun r116 =>
 (updE r114.2 r116 (.string r114.1) (.string x112)).bind fun h115 =>
 rec110 text98 l99 ids100 letv101 t102 e103 m104 of105 y106 y107 (IntKind.wrap .i64 (y108 + 1)) h115
 else
 j34 text98 l99 ids100 letv101 t102 e103 m104 of105 h109)
noncomputable def zok_ (k : Nat) (D : za_) (j34 : ByteArray → Slc → Slc → Bool → (Option Addr) → Int → (Option Addr) → (Option Nat) → AHeap → Option ((Bool) × AHeap)) : ByteArray → Slc → Slc → Bool → (Option Addr) → Int → (Option Addr) → (Option Nat) → Slc → Int → Int → AHeap → Option ((Bool) × AHeap) :=
 zi_ (α := ByteArray → Slc → Slc → Bool → (Option Addr) → Int → (Option Addr) → (Option Nat) → Slc → Int → Int → AHeap → Option ((Bool) × AHeap)) (fun _ _ _ _ _ _ _ _ _ _ _ _ => none) k (zBd_ k D j34)
noncomputable def zxd_ (k : Nat) (D : za_) (j57 : ByteArray → Bool → (Option Addr) → AHeap → Option ((Bool) × AHeap)) (rec68 : ByteArray → Bool → (Option Addr) → (Option Nat) → (Option Addr) → Slc → Int → Int → AHeap → Option ((Bool) × AHeap)) (text59 : ByteArray) (letv60 : Bool) (m61 : Option Addr) (of62 : Option Nat) (out63 : Option Addr) (y64 : Slc) (y65 : Int) (y66 : Int) (h67 : AHeap) : Option ((Bool) × AHeap) :=
 (if (decide (y66 < y65)) = true then
 (Gx.idxL 1 y64 y66).bind fun q69 =>
 (ldS q69 h67).bind fun x70 =>
 (zWe_ k D m61 x70 h67).bind fun r71 =>
 newK r71.2 ((.cells [.string ⟨#[]⟩, .int .i64 0, .int .i64 0, .int .i64 0, .int .i64 0] 50 true 0)) fun h72 =>
 (stL 5 (⟨r71.2.next, 0, none⟩ : Addr) ([.string r71.1.1.1, .int .i64 r71.1.1.2.1, .int .i64 r71.1.1.2.2.1, .int .i64 r71.1.1.2.2.2.1, .int .i64 r71.1.1.2.2.2.2]) h72).bind fun h73 =>
 (ldS (⟨r71.2.next, 0, none⟩ : Addr) h73).bind fun x74 =>
 (zuc_ decS (.string ⟨#[]⟩) h73 of62 (.string x74)).bind fun p75 =>
 (ldA 5 (⟨r71.2.next, 0, none⟩ : Addr) h73).bind fun l76 =>
 (decC [.s, .i .i64, .i .i64, .i .i64, .i .i64] l76).bind fun x77 =>
 (zKf_ k D p75.1 (x77.1, x77.2.1, x77.2.2.1, x77.2.2.2.1, x77.2.2.2.2) x70 h73).bind fun r78 =>
 zm_ (fun (text79 : ByteArray) (letv80 : Bool) (m81 : Option Addr) (of82 : Option Nat) (out83 : Option Addr) (s84 : ByteArray) (y85 : Slc) (y86 : Int) (y87 : Int) (y88 : Bool) (h89 : AHeap) =>
 (if y88 = true then
 some (letv80, h89)
 else
 (zt_ k D out83 s84 h89).bind fun r91 =>
 rec68 text79 letv80 m81 of82 out83 y85 y86 (IntKind.wrap .i64 (y87 + 1)) r91.2)) fun j90 =>
 (if (!r71.1.2) = true then
 j90 text59 letv60 m61 of62 out63 r78.1.2.1 y64 y65 y66 true r78.2
 else
 (if (r78.1.2.2 != 0) = true then
 j90 text59 letv60 m61 of62 out63 r78.1.2.1 y64 y65 y66 true r78.2
 else
 (ldA 5 (⟨r71.2.next, 0, none⟩ : Addr) r78.2).bind fun l92 =>
 (decC [.s, .i .i64, .i .i64, .i .i64, .i .i64] l92).bind fun x93 =>
 (zIe_ k D (x70, x93.1, x93.2.1, x93.2.2.1, x93.2.2.2.1, x93.2.2.2.2) r78.2).bind fun r94 =>
 j90 text59 letv60 m61 of62 out63 r78.1.2.1 y64 y65 y66 (r94.1 != 0) r94.2))
 else
 j57 text59 letv60 out63 h67)
noncomputable def zmk_ (k : Nat) (D : za_) (j57 : ByteArray → Bool → (Option Addr) → AHeap → Option ((Bool) × AHeap)) : ByteArray → Bool → (Option Addr) → (Option Nat) → (Option Addr) → Slc → Int → Int → AHeap → Option ((Bool) × AHeap) :=
 zi_ (α := ByteArray → Bool → (Option Addr) → (Option Nat) → (Option Addr) → Slc → Int → Int → AHeap → Option ((Bool) × AHeap)) (fun _ _ _ _ _ _ _ _ _ => none) k (zxd_ k D j57)
noncomputable def zEf_ (k : Nat) (D : za_) (text_0 : ByteArray) (turned_1 : Bool) (h : AHeap) : Option ((Bool) × AHeap) :=
 (zxk_ k D h).bind fun r1 =>
 (if (!r1.1) = true then
 some (false, r1.2)
 else
 (if (decide ((text_0.size : Int) > 1500)) = true then
 some (true, r1.2)
 else
 (zBk_ k D (5, 3, 50) text_0 r1.2).bind fun r2 =>
 (zIg_ k D r2.1.1 r2.2).bind fun r3 =>
 zm_ (fun (text4 : ByteArray) (turned5 : Bool) (l6 : Slc) (ids7 : Slc) (letv8 : Bool) (t9 : Option Addr) (y10 : Bool) (h11 : AHeap) =>
 (if y10 = true then
 some (letv8, h11)
 else
 (zbf_ k D t9 h11).bind fun r13 =>
 (zki_ k D ((⟨none, 0, 0⟩ : Slc), r13.1) r13.2).bind fun r14 =>
 (if (r14.1.2 != 0) = true then
 some (false, r14.2)
 else
 zm_ (fun (text15 : ByteArray) (l16 : Slc) (ids17 : Slc) (letv18 : Bool) (t19 : Option Addr) (files20 : Slc) (h21 : AHeap) =>
 (zpi_ k D files20 h21).bind fun r23 =>
 newK r23.2 ((.map [] 0)) fun h24 =>
 zm_ (fun (text25 : ByteArray) (l26 : Slc) (ids27 : Slc) (letv28 : Bool) (t29 : Option Addr) (e30 : Int) (m31 : Option Addr) (of32 : Option Nat) (h33 : AHeap) =>
 zm_ (fun (text35 : ByteArray) (ids36 : Slc) (letv37 : Bool) (t38 : Option Addr) (e39 : Int) (m40 : Option Addr) (of41 : Option Nat) (h42 : AHeap) =>
 zm_ (fun (text44 : ByteArray) (ids45 : Slc) (letv46 : Bool) (m47 : Option Addr) (of48 : Option Nat) (y49 : Bool) (h50 : AHeap) =>
 (if y49 = true then
 some (letv46, h50)
 else
 newK h50 ((.cells [.pointer none, .slice none 0 0] 48 true 0)) fun h52 =>
 zm_ (fun (text53 : ByteArray) (letv54 : Bool) (out55 : Option Addr) (h56 : AHeap) =>
 (zK_ k D out55 h56).bind fun r58 =>
 (if (r58.1 == text53) = true then
 some (true, r58.2)
 else
 some (letv54, r58.2))) fun j57 =>
 zmk_ k D j57 text44 letv46 m47 of48 (some (⟨h50.next, 0, none⟩ : Addr)) ids45 (ids45.len : Int) 0 h52)) fun j51 =>
 (if (e39 != 0) = true then
 j51 text35 ids36 letv37 m40 of41 true h42
 else
 (if m40.isNone = true then
 j51 text35 ids36 letv37 m40 of41 true h42
 else
 (zAd_ k D m40 h42).bind fun r95 =>
 (zAd_ k D t38 r95.2).bind fun r96 =>
 j51 text35 ids36 letv37 m40 of41 (r95.1 != r96.1) r96.2))) fun j43 =>
 (if letv28 = true then
 j43 text25 ids27 true t29 e30 m31 of32 h33
 else
 (zUl_ k D l26 h33).bind fun r97 =>
 j43 text25 ids27 r97.1 t29 e30 m31 of32 r97.2)) fun j34 =>
 zok_ k D j34 text15 l16 ids17 letv18 t19 r23.1.2.2 r23.1.1 (some r23.2.next) l16 (l16.len : Int) 0 h24) fun j22 =>
 (if turned5 = true then
 (rdS 1 r14.1.1 r14.2).bind fun n118 =>
 (zl_ 1 16 9 r14.2 r14.1.1 n118 r14.1.1.len).bind fun r117 =>
 j22 text4 l6 ids7 letv8 t9 r117.1 r117.2
 else
 j22 text4 l6 ids7 letv8 t9 r14.1.1 r14.2)))) fun j12 =>
 (if r3.1.1.isNone = true then
 j12 text_0 turned_1 r2.1.1 r2.1.2.1 r2.1.2.2 r3.1.1 true r3.2
 else
 j12 text_0 turned_1 r2.1.1 r2.1.2.1 r2.1.2.2 r3.1.1 (decide ((r3.1.2.len : Int) > 0)) r3.2)))
noncomputable def zTr_ : RCode := an (.s .n (.s .n (.s .n (.s .n (.s .n (.s (.s (.j [(0, .s), (1, .b), (5, .l), (6, .l), (7, .b), (8, .p), (48, .b)] .n) .n) (.s .n (.s .n (.s (.j [(0, .s), (5, .l), (6, .l), (7, .b), (8, .p), (10, .l)] .n) (.s .n (.s .n (.s (.j [(0, .s), (5, .l), (6, .l), (7, .b), (8, .p), (11, .i .i64), (12, .p), (14, .m)] (.s .n (.b (.l [(0, .s), (5, .l), (6, .l), (7, .b), (8, .p), (11, .i .i64), (12, .p), (14, .m), (70, .l), (71, .i .i64), (72, .i .i64)] .n)))) (.s (.j [(0, .s), (6, .l), (7, .b), (8, .p), (11, .i .i64), (12, .p), (14, .m)] .n) (.s (.s (.j [(0, .s), (6, .l), (7, .b), (12, .p), (14, .m), (99, .b)] .n) .n) (.s .n (.s (.j [(0, .s), (7, .b), (17, .p)] (.s .n (.b (.l [(0, .s), (7, .b), (12, .p), (14, .m), (17, .p), (101, .l), (102, .i .i64), (103, .i .i64)] (.s .n (.s .n (.s (.b (.s .n (.s .n (.s (.r [(4, .st [.s, .i .i64, .i .i64, .i .i64, .i .i64])]) (.s (.s (.j [(0, .s), (7, .b), (12, .p), (14, .m), (17, .p), (23, .s), (101, .l), (102, .i .i64), (103, .i .i64), (136, .b)] (.r [(8, .st [.s, .i .i64, .i .i64, .i .i64, .i .i64])])) .n) .n))))) .n))))))) .n)))))))))))))))) (rOf Tryz.prog 2 Tryz.f3)
noncomputable def zji_ (k : Nat) (D : za_) : Ent := zn_ 3 [(0, .s), (1, .b)] [(4, .b)] (zEf_ k D)
theorem zDr_ {D : za_} (hD : zf_ Tryz.prog 2 D) (k : Nat) : zk_ Tryz.prog 2 (zji_ k D) :=
 ze_ (k := k) (rc := zTr_) (cs := [none]) (zd_ hD (zb_.more (ziv_ hD k) (zb_.more (zhu_ hD k) (zb_.more (zYp_ hD k) (zb_.more (zen_ hD k) (zb_.more (zKr_ hD k) (zb_.more (zYr_ hD k) (zb_.more (zod_ hD k) (zb_.more (zgn_ hD k) (zb_.more (zou_ hD k) (zb_.more (zHb_ hD k) (zb_.more (zoh_ hD k) (zb_.more (zZm_ hD k) (zb_.more (zDw_ hD k) (zb_.more (zUf_ hD k) (zb_.none)))))))))))))))) Tryz.func3 rfl (by kernel_rfl) rfl (by kernel_rfl)
end Gg
