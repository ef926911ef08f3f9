import Derived.Test.YtmhahnefniiipaaGreatProg
import Derived.Test.YtmhahnefniiipaaGreatFn1
namespace Gt
open Go Gx Go.Proofs
set_option maxRecDepth 100000
noncomputable def C_law09_FanPlays (k : Nat) (D : CallF) : CallF := mkC D [e_law09_works k D, e_book_Among k D, e_law09_fault k D, e_law09_step k D, e_store_Store_Names k D, e_ref07_Store_Names k D, e_book_SameTexts k D, e_store_Store_Used k D, e_ref07_Store_Used k D, e_store_Store_Calls k D, e_store_New k D, e_ref07_New k D]
noncomputable def law09_FanPlays_l3b (k : Nat) (D : CallF) (j5 : Slc → Slc → Slc → AHeap → Option ((Bool) × AHeap)) (rec137 : Slc → Slc → Slc → Int → AHeap → Option ((Bool) × AHeap)) (acts132 : Slc) (s133 : Slc) (r134 : Slc) (i135 : Int) (h136 : AHeap) : Option ((Bool) × AHeap) :=
 (if (decide (i135 < 4)) = true then
 (store_New k D 300 h136).bind fun r138 =>
 (ref07_New k D 300 r138.2).bind fun r139 =>
 newK r139.2 ((.cells [.pointer r138.1.1] 26 true 0)) fun h140 =>
 (rdS 1 (⟨(some ⟨r139.2.next, 0, some 0⟩), 1, 1⟩ : Slc) h140).bind fun n142 =>
 (appendA 1 8 26 h140 s133 n142 1).bind fun r141 =>
 newK r141.2 ((.cells [.pointer r139.1.1] 30 true 0)) fun h143 =>
 (rdS 1 (⟨(some ⟨r141.2.next, 0, some 0⟩), 1, 1⟩ : Slc) h143).bind fun n145 =>
 (appendA 1 8 30 h143 r134 n145 1).bind fun r144 =>
 rec137 acts132 r141.1 r144.1 (IntKind.wrap .i64 (i135 + 1)) r144.2
 else
 j5 acts132 s133 r134 h136)
noncomputable def law09_FanPlays_l3 (k : Nat) (D : CallF) (j5 : Slc → Slc → Slc → AHeap → Option ((Bool) × AHeap)) : Slc → Slc → Slc → Int → AHeap → Option ((Bool) × AHeap) :=
 iterK (α := Slc → Slc → Slc → Int → AHeap → Option ((Bool) × AHeap)) (fun _ _ _ _ _ => none) k (law09_FanPlays_l3b k D j5)
noncomputable def law09_FanPlays_l2b (_k : Nat) (_D : CallF) (j48 : Slc → Slc → Slc → Int → (Option Addr) → Bool → AHeap → Option ((Bool) × AHeap)) (rec114 : Slc → Slc → Slc → Int → (Option Addr) → Bool → Int → AHeap → Option ((Bool) × AHeap)) (acts106 : Slc) (s107 : Slc) (r108 : Slc) (i109 : Int) (a110 : Option Addr) (long111 : Bool) (kv112 : Int) (h113 : AHeap) : Option ((Bool) × AHeap) :=
 (a110).bind fun p115 =>
 (ldL (⟨p115.block, p115.off + 5, none⟩ : Addr) h113).bind fun x116 =>
 (if (decide (kv112 < (x116.len : Int))) = true then
 joinK (fun (acts117 : Slc) (s118 : Slc) (r119 : Slc) (i120 : Int) (a121 : Option Addr) (long122 : Bool) (kv123 : Int) (h124 : AHeap) =>
 rec114 acts117 s118 r119 i120 a121 long122 (IntKind.wrap .i64 (kv123 + 1)) h124) fun j125 =>
 (if long111 = true then
 j125 acts106 s107 r108 i109 a110 true kv112 h113
 else
 (a110).bind fun p126 =>
 (ldL (⟨p126.block, p126.off + 5, none⟩ : Addr) h113).bind fun x127 =>
 (Gx.idxL 1 x127 kv112).bind fun q128 =>
 (ldS q128 h113).bind fun x129 =>
 j125 acts106 s107 r108 i109 a110 (decide ((x129.size : Int) > 200)) kv112 h113)
 else
 j48 acts106 s107 r108 i109 a110 long111 h113)
noncomputable def law09_FanPlays_l2 (k : Nat) (D : CallF) (j48 : Slc → Slc → Slc → Int → (Option Addr) → Bool → AHeap → Option ((Bool) × AHeap)) : Slc → Slc → Slc → Int → (Option Addr) → Bool → Int → AHeap → Option ((Bool) × AHeap) :=
 iterK (α := Slc → Slc → Slc → Int → (Option Addr) → Bool → Int → AHeap → Option ((Bool) × AHeap)) (fun _ _ _ _ _ _ _ _ => none) k (law09_FanPlays_l2b k D j48)
noncomputable def law09_FanPlays_l1b (k : Nat) (D : CallF) (j27 : Slc → Slc → Slc → Int → AHeap → Option ((Bool) × AHeap)) (rec69 : Slc → Slc → Slc → Int → Int → AHeap → Option ((Bool) × AHeap)) (acts63 : Slc) (s64 : Slc) (r65 : Slc) (i66 : Int) (kv67 : Int) (h68 : AHeap) : Option ((Bool) × AHeap) :=
 (if (decide (kv67 < 4)) = true then
 joinK (fun (acts70 : Slc) (s71 : Slc) (r72 : Slc) (i73 : Int) (kv74 : Int) (y75 : Bool) (h76 : AHeap) =>
 (if y75 = true then
 some (false, h76)
 else
 rec69 acts70 s71 r72 i73 (IntKind.wrap .i64 (kv74 + 1)) h76)) fun j77 =>
 (Gx.idxL 1 s64 kv67).bind fun q78 =>
 (ldP q78 h68).bind fun x79 =>
 (store_Store_Names k D x79 h68).bind fun r80 =>
 (Gx.idxL 1 r65 kv67).bind fun q81 =>
 (ldP q81 r80.2).bind fun x82 =>
 guardP (SameW [h68] (fun H84 => (ldP q81 H84).bind fun y83 => some (.pointer y83)) (.pointer x82)) (
 (ref07_Store_Names k D x82 (⟨#[]⟩ : ByteArray) r80.2).bind fun r85 =>
 (book_SameTexts k D r80.1 r85.1 r85.2).bind fun r86 =>
 (if (!r86.1) = true then
 j77 acts63 s64 r65 i66 kv67 true r86.2
 else
 (Gx.idxL 1 s64 kv67).bind fun q87 =>
 (ldP q87 r86.2).bind fun x88 =>
 (store_Store_Used k D x88 r86.2).bind fun r89 =>
 (Gx.idxL 1 r65 kv67).bind fun q90 =>
 (ldP q90 r89.2).bind fun x91 =>
 guardP (SameW [r86.2] (fun H93 => (ldP q90 H93).bind fun y92 => some (.pointer y92)) (.pointer x91)) (
 (ref07_Store_Used k D x91 r89.2).bind fun r94 =>
 (if (r89.1 != r94.1) = true then
 j77 acts63 s64 r65 i66 kv67 true r94.2
 else
 (Gx.idxL 1 s64 kv67).bind fun q95 =>
 (ldP q95 r94.2).bind fun x96 =>
 (store_Store_Calls k D x96 r94.2).bind fun r97 =>
 (Gx.idxL 1 r65 kv67).bind fun q98 =>
 (ldP q98 r97.2).bind fun x99 =>
 guardP (SameW [r94.2] (fun H101 => (ldP q98 H101).bind fun y100 => some (.pointer y100)) (.pointer x99)) (
 (x99).bind fun p102 =>
 (ldI .i64 (⟨p102.block, p102.off + 2, none⟩ : Addr) r97.2).bind fun x103 =>
 guardP (SameW [r94.2] (fun H105 => (ldI .i64 (⟨p102.block, p102.off + 2, none⟩ : Addr) H105).bind fun y104 => some (.int .i64 y104)) (.int .i64 x103)) (
 j77 acts63 s64 r65 i66 kv67 (r97.1 != x103) r97.2))))))
 else
 j27 acts63 s64 r65 i66 h68)
noncomputable def law09_FanPlays_l1 (k : Nat) (D : CallF) (j27 : Slc → Slc → Slc → Int → AHeap → Option ((Bool) × AHeap)) : Slc → Slc → Slc → Int → Int → AHeap → Option ((Bool) × AHeap) :=
 iterK (α := Slc → Slc → Slc → Int → Int → AHeap → Option ((Bool) × AHeap)) (fun _ _ _ _ _ _ => none) k (law09_FanPlays_l1b k D j27)
noncomputable def law09_FanPlays_l0b (k : Nat) (D : CallF) (j8 : AHeap → Option ((Bool) × AHeap)) (rec14 : Slc → Slc → Slc → Int → AHeap → Option ((Bool) × AHeap)) (acts9 : Slc) (s10 : Slc) (r11 : Slc) (i12 : Int) (h13 : AHeap) : Option ((Bool) × AHeap) :=
 joinK (fun (acts15 : Slc) (s16 : Slc) (r17 : Slc) (i18 : Int) (y19 : Bool) (h20 : AHeap) =>
 (if y19 = true then
 joinK (fun (acts22 : Slc) (s23 : Slc) (r24 : Slc) (i25 : Int) (h26 : AHeap) =>
 rec14 acts22 s23 r24 (IntKind.wrap .i64 (i25 + 1)) h26) fun j27 =>
 (Gx.idxL 6 acts15 i18).bind fun q28 =>
 (ldA 6 q28 h20).bind fun l29 =>
 (decC [.i .i64, .i .i64, .i .i64, .i .i64, .s, .l] l29).bind fun x30 =>
 newK h20 ((.cells [.int .i64 0, .int .i64 0, .int .i64 0, .int .i64 0, .string ⟨#[]⟩, .slice none 0 0] 64 true 0)) fun h31 =>
 (stL 6 (⟨h20.next, 0, none⟩ : Addr) ([.int .i64 x30.1, .int .i64 x30.2.1, .int .i64 x30.2.2.1, .int .i64 x30.2.2.2.1, .string x30.2.2.2.2.1, .slice x30.2.2.2.2.2.a x30.2.2.2.2.2.len x30.2.2.2.2.2.cap]) h31).bind fun h32 =>
 joinK (fun (acts33 : Slc) (s34 : Slc) (r35 : Slc) (i36 : Int) (a37 : Option Addr) (y38 : Bool) (h39 : AHeap) =>
 (if y38 = true then
 j27 acts33 s34 r35 i36 h39
 else
 joinK (fun (acts41 : Slc) (s42 : Slc) (r43 : Slc) (i44 : Int) (a45 : Option Addr) (long46 : Bool) (h47 : AHeap) =>
 (if long46 = true then
 j27 acts41 s42 r43 i44 h47
 else
 (a45).bind fun p49 =>
 (ldI .i64 (⟨p49.block, p49.off + 2, none⟩ : Addr) h47).bind fun x50 =>
 (book_Among k D x50 4 h47).bind fun r51 =>
 (Gx.idxL 1 s42 r51.1).bind fun q52 =>
 (ldP q52 r51.2).bind fun x53 =>
 (Gx.idxL 1 r43 r51.1).bind fun q54 =>
 (ldP q54 r51.2).bind fun x55 =>
 (a45).bind fun p56 =>
 (ldI .i64 (⟨p56.block, p56.off + 3, none⟩ : Addr) r51.2).bind fun x57 =>
 (law09_fault k D x53 x55 x57 r51.2).bind fun r58 =>
 (a45).bind fun p59 =>
 (ldA 6 p59 r58.2).bind fun l60 =>
 (decC [.i .i64, .i .i64, .i .i64, .i .i64, .s, .l] l60).bind fun x61 =>
 (law09_step k D s42 r43 (x61.1, x61.2.1, x61.2.2.1, x61.2.2.2.1, x61.2.2.2.2.1, x61.2.2.2.2.2) r58.2).bind fun r62 =>
 (if (!r62.1) = true then
 some (false, r62.2)
 else
 law09_FanPlays_l1 k D j27 acts41 s42 r43 i44 0 r62.2))) fun j48 =>
 law09_FanPlays_l2 k D j48 acts33 s34 r35 i36 a37 false 0 h39)) fun j40 =>
 (ldL (⟨h20.next, 5, none⟩ : Addr) h32).bind fun x130 =>
 (if (decide ((x130.len : Int) > 12)) = true then
 (ldL (⟨h20.next, 5, none⟩ : Addr) h32).bind fun x131 =>
 j40 acts15 s16 r17 i18 (some (⟨h20.next, 0, none⟩ : Addr)) (decide ((x131.len : Int) ≤ 255)) h32
 else
 j40 acts15 s16 r17 i18 (some (⟨h20.next, 0, none⟩ : Addr)) false h32)
 else
 j8 h20)) fun j21 =>
 (if (decide (i12 < (acts9.len : Int))) = true then
 j21 acts9 s10 r11 i12 (decide (i12 < 30)) h13
 else
 j21 acts9 s10 r11 i12 false h13)
noncomputable def law09_FanPlays_l0 (k : Nat) (D : CallF) (j8 : AHeap → Option ((Bool) × AHeap)) : Slc → Slc → Slc → Int → AHeap → Option ((Bool) × AHeap) :=
 iterK (α := Slc → Slc → Slc → Int → AHeap → Option ((Bool) × AHeap)) (fun _ _ _ _ _ => none) k (law09_FanPlays_l0b k D j8)
noncomputable def law09_FanPlays (k : Nat) (D : CallF) (acts_0 : Slc) (h : AHeap) : Option ((Bool) × AHeap) :=
 joinK (fun (acts1 : Slc) (s2 : Slc) (r3 : Slc) (h4 : AHeap) =>
 (law09_works k D h4).bind fun r6 =>
 (if (!r6.1) = true then
 some (false, r6.2)
 else
 joinK (fun (h7 : AHeap) =>
 some (true, h7)) fun j8 =>
 law09_FanPlays_l0 k D j8 acts1 s2 r3 0 r6.2)) fun j5 =>
 law09_FanPlays_l3 k D j5 acts_0 (⟨none, 0, 0⟩ : Slc) (⟨none, 0, 0⟩ : Slc) 0 h
noncomputable def r_law09_FanPlays : RCode := an (.s .n (.s .n (.s .n (.s (.j [(0, .l), (3, .l), (4, .l)] (.s .n (.b (.l [(0, .l), (3, .l), (4, .l), (5, .i .i64)] .n)))) (.s .n (.s (.j [] (.s .n (.b (.l [(0, .l), (3, .l), (4, .l), (10, .i .i64)] (.s (.s (.j [(0, .l), (3, .l), (4, .l), (10, .i .i64), (45, .b)] .n) .n) (.s (.j [(0, .l), (3, .l), (4, .l), (10, .i .i64)] (.b (.s (.r [(3, .st [.i .i64, .i .i64, .i .i64, .i .i64, .s, .l])]) (.s (.s (.j [(0, .l), (3, .l), (4, .l), (10, .i .i64), (11, .p), (61, .b)] .n) .n) (.s .n (.s (.j [(0, .l), (3, .l), (4, .l), (10, .i .i64), (11, .p), (12, .b)] (.s .n (.b (.l [(0, .l), (3, .l), (4, .l), (10, .i .i64), (11, .p), (12, .b), (13, .i .i64)] (.s .n (.s (.j [(0, .l), (3, .l), (4, .l), (10, .i .i64), (11, .p), (12, .b), (13, .i .i64)] .n) .n)))))) (.s .n (.s .n (.s .n (.s (.s (.r [(2, .st [.i .i64, .i .i64, .i .i64, .i .i64, .s, .l])]) .n) (.s .n (.b (.l [(0, .l), (3, .l), (4, .l), (10, .i .i64), (15, .i .i64)] (.s .n (.s (.b (.s (.j [(0, .l), (3, .l), (4, .l), (10, .i .i64), (15, .i .i64), (142, .b)] .n) .n)) .n))))))))))))))) .n)))))) .n)))))) (rOf Tryz.prog 0 Tryz.f4)
noncomputable def e_law09_FanPlays (k : Nat) (D : CallF) : Ent := entOf 4 [(0, .l)] [(2, .b)] (law09_FanPlays k D)
theorem q_law09_FanPlays : (Tryz.f4.body).bind (rcodeOf Tryz.prog 0 Tryz.f4.ntmps) = some (strip r_law09_FanPlays) := by kernel_rfl
theorem t_law09_FanPlays (k : Nat) (D : CallF) : curF [(0, .l)] (fun args h => denF (C_law09_FanPlays k D) k r_law09_FanPlays [(2, .b)] [none] args h) = law09_FanPlays k D := by kernel_rfl
theorem ok_law09_FanPlays {D : CallF} (hD : CSound Tryz.prog 0 D) (k : Nat) : EntOk Tryz.prog 0 (e_law09_FanPlays k D) :=
 entOf_ok2 (mkC_sound hD (EntsOk.more (ok_law09_works hD k) (EntsOk.more (ok_book_Among hD k) (EntsOk.more (ok_law09_fault hD k) (EntsOk.more (ok_law09_step hD k) (EntsOk.more (ok_store_Store_Names hD k) (EntsOk.more (ok_ref07_Store_Names hD k) (EntsOk.more (ok_book_SameTexts hD k) (EntsOk.more (ok_store_Store_Used hD k) (EntsOk.more (ok_ref07_Store_Used hD k) (EntsOk.more (ok_store_Store_Calls hD k) (EntsOk.more (ok_store_New hD k) (EntsOk.more (ok_ref07_New hD k) (EntsOk.none)))))))))))))) Tryz.func4 rfl q_law09_FanPlays rfl (t_law09_FanPlays k D)
end Gt
