import Derived.Test.YtkbemlojkhhgaaaGreatDoorProg
import Derived.WalkKit
import Derived.Laws.Externs
import Derived.KernelRfl
import Derived.Shelf.SortM.Plain
import Derived.Shelf.SortM.SortNone
import Derived.Test.YtkbemlojkhhgaaaGreatDoorGx3
namespace Gg
open Go Gx Go.Proofs
set_option maxRecDepth 100000
noncomputable def zUc_ (_k : Nat) (_D : za_) (b_0 : Option Addr) (h : AHeap) : Option ((Unit) × AHeap) :=
 (b_0).bind fun p1 =>
 (st1 (⟨p1.block, p1.off + 0, none⟩ : Addr) (.pointer none) h).bind fun h2 =>
 (b_0).bind fun p3 =>
 (st1 (⟨p3.block, p3.off + 1, none⟩ : Addr) (.slice none 0 0) h2).bind fun h4 =>
 some ((), h4)
noncomputable def zbk_ : RCode := an (.n) (rOf Tryz.prog 2 Tryz.f83)
noncomputable def zak_ (k : Nat) (D : za_) : Ent := zn_ 83 [(0, .p)] [] (zUc_ k D)
theorem zVj_ {D : za_} (hD : zf_ Tryz.prog 2 D) (k : Nat) : zk_ Tryz.prog 2 (zak_ k D) :=
 ze_ (k := k) (rc := zbk_) (cs := []) (zd_ hD (zb_.none)) Tryz.func83 rfl (by kernel_rfl) rfl (by kernel_rfl)
end Gg
namespace Gg
open Go Gx Go.Proofs Go.RowKit
set_option maxHeartbeats 1000000 in
set_option maxRecDepth 100000 in
theorem zeD_ (b o : Nat) (w : World) (h0 : w.cell? ⟨b, o, none⟩ = some (.pointer (some ⟨b, o, none⟩))) :
  Calls Tryz.prog 40 #[.pointer (some ⟨b, o, none⟩)] w fun e w' => e = .returned (.tuple #[]) ∧ w' = w := by
 obtain ⟨j, hj⟩ : ∃ j, Tryz.prog.info? 48 = some j := ⟨_, rfl⟩
 go_enter Tryz.func40, Tryz.ntmps40
 go_wp2
 rw [Lib.run_neq_ptr_same w _ Tryz.underlying45 hj]
 go_wp2
 go_end0
 exact ⟨rfl, rfl⟩
set_option maxHeartbeats 1000000 in
set_option maxRecDepth 100000 in
theorem zrB_ (b o : Nat) (w : World) (T : TypeId) (z : Nat) (h0 : w.cell? ⟨b, o, none⟩ = some (.pointer none)) (hsh : w.shape? b = some (T, z)) (ho : o < z)
  (hl : liesAt Tryz.prog Tryz.prog.depth T (z / Tryz.prog.cellsOf T) o 48 1 = true) (hfz : w.frozen? ⟨b, o, none⟩ = false) :
  Calls Tryz.prog 40 #[.pointer (some ⟨b, o, none⟩)] w fun e w' => e = .returned (.tuple #[]) ∧ w' = w.setCell ⟨b, o, none⟩ (.pointer (some ⟨b, o, none⟩)) := by
 obtain ⟨j, hj, hjs⟩ : ∃ j, Tryz.prog.info? 48 = some j ∧ j.size ≠ 0 := ⟨_, rfl, by decide⟩
 go_enter Tryz.func40, Tryz.ntmps40
 go_wp2
 rw [Lib.run_to_unsafe w ⟨b, o, none⟩ Tryz.underlying45 Tryz.underlying149 hj hjs hsh ho]
 simp only [Result.andThen]
 rw [Oper.upon_value]
 go_wp2
 rw [run_callFunc_extern Tryz.func82 (by kernel_rfl) (by kernel_rfl) (by kernel_rfl) (e := Extern.AbiNoEscape.same) (by kernel_rfl)]
 rw [Lib.run_noEscape]
 simp only [Result.andThen]
 rw [Oper.upon_value]
 go_wp2
 rw [Lib.run_from_unsafe w ⟨b, o, none⟩ Tryz.underlying149 Tryz.underlying45 hj hsh hl]
 simp only [Result.andThen]
 rw [Oper.upon_value]
 go_wp2
 go_end0
 exact ⟨rfl, rfl⟩
def zej_ : List (Nat × Nat × Nat) := [(48, 0, 2), (101, 0, 2), (103, 0, 7), (103, 3, 7)]
theorem znD_ : Tryz.prog.cellsOf 48 = 2 ∧ 0 < 2 ∧ ∀ N, liesAt Tryz.prog Tryz.prog.depth 48 (N + 1) 0 48 1 = true := ⟨by kernel_rfl, by decide, fun N => by kernel_rfl⟩
theorem zOD_ : Tryz.prog.cellsOf 101 = 2 ∧ 0 < 2 ∧ ∀ N, liesAt Tryz.prog Tryz.prog.depth 101 (N + 1) 0 48 1 = true := ⟨by kernel_rfl, by decide, fun N => by kernel_rfl⟩
theorem zyD_ : Tryz.prog.cellsOf 103 = 7 ∧ 0 < 7 ∧ ∀ N, liesAt Tryz.prog Tryz.prog.depth 103 (N + 1) 0 48 1 = true := ⟨by kernel_rfl, by decide, fun N => by kernel_rfl⟩
theorem zuD_ : Tryz.prog.cellsOf 103 = 7 ∧ 0 < 7 ∧ ∀ N, liesAt Tryz.prog Tryz.prog.depth 103 (N + 1) 3 48 1 = true := ⟨by kernel_rfl, by decide, fun N => by kernel_rfl⟩
theorem zSA_ : ∀ x ∈ zej_, Tryz.prog.cellsOf x.1 = x.2.2 ∧ 0 < x.2.2 ∧ ∀ N, liesAt Tryz.prog Tryz.prog.depth x.1 (N + 1) x.2.1 48 1 = true := (List.forall_mem_cons.2 ⟨znD_, (List.forall_mem_cons.2 ⟨zOD_, (List.forall_mem_cons.2 ⟨zyD_, (List.forall_mem_cons.2 ⟨zuD_, (fun x h => by cases h)⟩)⟩)⟩)⟩)
end Gg
namespace Gg
open Go Gx Go.Proofs
noncomputable def zOi_ (_k : Nat) (_D : za_) : Ent := eCC 40 zej_
theorem zdi_ {D : za_} (_hD : zf_ Tryz.prog 2 D) (k : Nat) : zk_ Tryz.prog 2 (zOi_ k D) :=
 zdE_ (c0 := _) Tryz.func40 rfl rfl zeD_ zrB_ zSA_
end Gg
namespace Gg
open Go Gx Go.Proofs
set_option maxRecDepth 100000
noncomputable def zt_ (_k : Nat) (_D : za_) (b_0 : Option Addr) (s_1 : ByteArray) (h : AHeap) : Option ((Int × Value) × AHeap) :=
 (b_0).bind fun p2 =>
 (ccA zej_ p2 h).bind fun h1 =>
 (b_0).bind fun p3 =>
 (ldL (⟨p3.block, p3.off + 1, none⟩ : Addr) h1).bind fun x4 =>
 (zl_ 1 1 5 h1 x4 (zM_ s_1) s_1.size).bind fun r5 =>
 (b_0).bind fun p6 =>
 (st1 (⟨p6.block, p6.off + 1, none⟩ : Addr) (.slice r5.1.a r5.1.len r5.1.cap) r5.2).bind fun h7 =>
 some (((s_1.size : Int), (.nilIface)), h7)
noncomputable def zLh_ : RCode := an (.n) (rOf Tryz.prog 2 Tryz.f16)
noncomputable def zMh_ (k : Nat) (D : za_) : Ent := zn_ 16 [(0, .p), (1, .s)] [(4, .i .i64), (5, .v)] (zt_ k D)
theorem zHb_ {D : za_} (hD : zf_ Tryz.prog 2 D) (k : Nat) : zk_ Tryz.prog 2 (zMh_ k D) :=
 ze_ (k := k) (rc := zLh_) (cs := [none, none]) (zd_ hD (zb_.more (zdi_ hD k) (zb_.none))) Tryz.func16 rfl (by kernel_rfl) rfl (by kernel_rfl)
noncomputable def zNc_ (k : Nat) (D : za_) (b_0 : Option Addr) (h : AHeap) : Option ((Unit) × AHeap) :=
 (b_0).bind fun p1 =>
 (zUc_ k D (some (⟨p1.block, p1.off + 0 + 0, none⟩ : Addr)) h).bind fun r2 =>
 (b_0).bind fun p3 =>
 (zUc_ k D (some (⟨p3.block, p3.off + 3, none⟩ : Addr)) r2.2).bind fun r4 =>
 newK r4.2 ((.map [] 0)) fun h5 =>
 (b_0).bind fun p6 =>
 (st1 (⟨p6.block, p6.off + 5, none⟩ : Addr) (.slice none 0 0) h5).bind fun h7 =>
 (b_0).bind fun p8 =>
 (st1 (⟨p8.block, p8.off + 6, none⟩ : Addr) (.map (some r4.2.next)) h7).bind fun h9 =>
 (b_0).bind fun p10 =>
 (zt_ k D (some (⟨p10.block, p10.off + 0 + 0, none⟩ : Addr)) (⟨#[71, 82, 84, 80, 1]⟩ : ByteArray) h9).bind fun r11 =>
 some ((), r11.2)
noncomputable def zxm_ : RCode := an (.n) (rOf Tryz.prog 2 Tryz.f41)
noncomputable def zcm_ (k : Nat) (D : za_) : Ent := zn_ 41 [(0, .p)] [] (zNc_ k D)
theorem zfh_ {D : za_} (hD : zf_ Tryz.prog 2 D) (k : Nat) : zk_ Tryz.prog 2 (zcm_ k D) :=
 ze_ (k := k) (rc := zxm_) (cs := []) (zd_ hD (zb_.more (zVj_ hD k) (zb_.more (zHb_ hD k) (zb_.none)))) Tryz.func41 rfl (by kernel_rfl) rfl (by kernel_rfl)
noncomputable def zLj_ (k : Nat) (D : za_) (limit_0 : Int) (h : AHeap) : Option (((Option Addr) × Int) × AHeap) :=
 zm_ (fun (limit1 : Int) (y2 : Bool) (h3 : AHeap) =>
 (if y2 = true then
 some ((none, 1), h3)
 else
 newK h3 ((.cells [.pointer none, .slice none 0 0, .int .i64 limit1, .pointer none, .slice none 0 0, .slice none 0 0, .map none] 103 true 0)) fun h5 =>
 (zNc_ k D (some (⟨h3.next, 0, none⟩ : Addr)) h5).bind fun r6 =>
 some (((some (⟨h3.next, 0, none⟩ : Addr)), 0), r6.2))) fun j4 =>
 (if (decide (limit_0 < 64)) = true then
 j4 limit_0 true h
 else
 j4 limit_0 (decide (limit_0 > 65536)) h)
noncomputable def zOy_ : RCode := an (.s .n (.s (.s (.j [(0, .i .i64), (10, .b)] .n) .n) .n)) (rOf Tryz.prog 2 Tryz.f18)
noncomputable def zxx_ (k : Nat) (D : za_) : Ent := zn_ 18 [(0, .i .i64)] [(2, .p), (3, .i .i64)] (zLj_ k D)
theorem zNp_ {D : za_} (hD : zf_ Tryz.prog 2 D) (k : Nat) : zk_ Tryz.prog 2 (zxx_ k D) :=
 ze_ (k := k) (rc := zOy_) (cs := [none, none]) (zd_ hD (zb_.more (zfh_ hD k) (zb_.none))) Tryz.func18 rfl (by kernel_rfl) rfl (by kernel_rfl)
noncomputable def zVf_ (_k : Nat) (_D : za_) (kind_0 : Int) (h : AHeap) : Option ((Bool) × AHeap) :=
 (if (kind_0 == 1) = true then
 some (true, h)
 else
 some ((kind_0 == 2), h))
noncomputable def zMu_ : RCode := an (.n) (rOf Tryz.prog 2 Tryz.f55)
noncomputable def zdv_ (k : Nat) (D : za_) : Ent := zn_ 55 [(0, .i .i64)] [(2, .b)] (zVf_ k D)
theorem zUi_ {D : za_} (hD : zf_ Tryz.prog 2 D) (k : Nat) : zk_ Tryz.prog 2 (zdv_ k D) :=
 ze_ (k := k) (rc := zMu_) (cs := [none]) (zd_ hD (zb_.none)) Tryz.func55 rfl (by kernel_rfl) rfl (by kernel_rfl)
noncomputable def zif_ (_k : Nat) (_D : za_) (j4 : Int → Slc → AHeap → Option ((ByteArray × Int) × AHeap)) (rec12 : Int → Slc → AHeap → Option ((ByteArray × Int) × AHeap)) (n9 : Int) (b10 : Slc) (h11 : AHeap) : Option ((ByteArray × Int) × AHeap) :=
 (if (decide (n9 ≥ 128)) = true then
 newK h11 ((.cells [.int .u8 (Go.bits .or .u8 (IntKind.wrap .u8 n9) 128)] 5 true 0)) fun h13 =>
 (rdS 1 (⟨(some ⟨h11.next, 0, some 0⟩), 1, 1⟩ : Slc) h13).bind fun n15 =>
 (zl_ 1 1 5 h13 b10 n15 1).bind fun r14 =>
 rec12 (Int.fdiv n9 128) r14.1 r14.2
 else
 j4 n9 b10 h11)
noncomputable def zwo_ (k : Nat) (D : za_) (j4 : Int → Slc → AHeap → Option ((ByteArray × Int) × AHeap)) : Int → Slc → AHeap → Option ((ByteArray × Int) × AHeap) :=
 zi_ (α := Int → Slc → AHeap → Option ((ByteArray × Int) × AHeap)) (fun _ _ _ => none) k (zif_ k D j4)
noncomputable def zih_ (k : Nat) (D : za_) (n_0 : Int) (h : AHeap) : Option ((ByteArray × Int) × AHeap) :=
 (if (decide (n_0 < 0)) = true then
 some (((⟨#[]⟩ : ByteArray), 1), h)
 else
 zm_ (fun (n1 : Int) (b2 : Slc) (h3 : AHeap) =>
 newK h3 ((.cells [.int .u8 (IntKind.wrap .u8 n1)] 5 true 0)) fun h5 =>
 (rdS 1 (⟨(some ⟨h3.next, 0, some 0⟩), 1, 1⟩ : Slc) h5).bind fun n7 =>
 (zl_ 1 1 5 h5 b2 n7 1).bind fun r6 =>
 (zeb_ r6.2 r6.1).bind fun s8 =>
 some ((s8, 0), r6.2)) fun j4 =>
 zwo_ k D j4 n_0 (⟨none, 0, 0⟩ : Slc) h)
noncomputable def zWv_ : RCode := an (.s .n (.s .n (.s .n (.s (.j [(0, .i .i64), (4, .l)] (.b (.l [(0, .i .i64), (4, .l)] .n))) .n)))) (rOf Tryz.prog 2 Tryz.f84)
noncomputable def zyw_ (k : Nat) (D : za_) : Ent := zn_ 84 [(0, .i .i64)] [(2, .s), (3, .i .i64)] (zih_ k D)
theorem zXj_ {D : za_} (hD : zf_ Tryz.prog 2 D) (k : Nat) : zk_ Tryz.prog 2 (zyw_ k D) :=
 ze_ (k := k) (rc := zWv_) (cs := [none, none]) (zd_ hD (zb_.none)) Tryz.func84 rfl (by kernel_rfl) rfl (by kernel_rfl)
noncomputable def zzc_ (_k : Nat) (_D : za_) (j4 : (Option Addr) → Int → AHeap → Option ((Unit) × AHeap)) (rec15 : (Option Addr) → Int → AHeap → Option ((Unit) × AHeap)) (w12 : Option Addr) (n13 : Int) (h14 : AHeap) : Option ((Unit) × AHeap) :=
 (if (decide (n13 ≥ 255)) = true then
 (w12).bind fun p16 =>
 (ldL (⟨p16.block, p16.off + 0, none⟩ : Addr) h14).bind fun x17 =>
 newK h14 ((.cells [.int .u8 255] 5 true 0)) fun h18 =>
 (rdS 1 (⟨(some ⟨h14.next, 0, some 0⟩), 1, 1⟩ : Slc) h18).bind fun n20 =>
 (zl_ 1 1 5 h18 x17 n20 1).bind fun r19 =>
 (w12).bind fun p21 =>
 (st1 (⟨p21.block, p21.off + 0, none⟩ : Addr) (.slice r19.1.a r19.1.len r19.1.cap) r19.2).bind fun h22 =>
 rec15 w12 (IntKind.wrap .i64 (n13 - 255)) h22
 else
 j4 w12 n13 h14)
noncomputable def zOh_ (k : Nat) (D : za_) (j4 : (Option Addr) → Int → AHeap → Option ((Unit) × AHeap)) : (Option Addr) → Int → AHeap → Option ((Unit) × AHeap) :=
 zi_ (α := (Option Addr) → Int → AHeap → Option ((Unit) × AHeap)) (fun _ _ _ => none) k (zzc_ k D j4)
noncomputable def zEd_ (k : Nat) (D : za_) (w_0 : Option Addr) (n_1 : Int) (h : AHeap) : Option ((Unit) × AHeap) :=
 (if (decide (n_1 < 15)) = true then
 some ((), h)
 else
 zm_ (fun (w1 : Option Addr) (n2 : Int) (h3 : AHeap) =>
 (w1).bind fun p5 =>
 (ldL (⟨p5.block, p5.off + 0, none⟩ : Addr) h3).bind fun x6 =>
 newK h3 ((.cells [.int .u8 (IntKind.wrap .u8 n2)] 5 true 0)) fun h7 =>
 (rdS 1 (⟨(some ⟨h3.next, 0, some 0⟩), 1, 1⟩ : Slc) h7).bind fun n9 =>
 (zl_ 1 1 5 h7 x6 n9 1).bind fun r8 =>
 (w1).bind fun p10 =>
 (st1 (⟨p10.block, p10.off + 0, none⟩ : Addr) (.slice r8.1.a r8.1.len r8.1.cap) r8.2).bind fun h11 =>
 some ((), h11)) fun j4 =>
 zOh_ k D j4 w_0 (IntKind.wrap .i64 (n_1 - 15)) h)
noncomputable def zno_ : RCode := an (.s .n (.s .n (.s (.j [(0, .p), (1, .i .i64)] (.b (.l [(0, .p), (1, .i .i64)] .n))) .n))) (rOf Tryz.prog 2 Tryz.f129)
noncomputable def zFn_ (k : Nat) (D : za_) : Ent := zn_ 129 [(0, .p), (1, .i .i64)] [] (zEd_ k D)
theorem zmn_ {D : za_} (hD : zf_ Tryz.prog 2 D) (k : Nat) : zk_ Tryz.prog 2 (zFn_ k D) :=
 ze_ (k := k) (rc := zno_) (cs := []) (zd_ hD (zb_.none)) Tryz.func129 rfl (by kernel_rfl) rfl (by kernel_rfl)
noncomputable def zMc_ (k : Nat) (D : za_) (w_0 : Option Addr) (literals_1 : ByteArray) (distance_2 : Int) (long_3 : Int) (h : AHeap) : Option ((Unit) × AHeap) :=
 let t1 : Int := (if 15 < (literals_1.size : Int) then 15 else (literals_1.size : Int))
 zm_ (fun (w2 : Option Addr) (literals3 : ByteArray) (distance4 : Int) (long5 : Int) (token6 : Int) (h7 : AHeap) =>
 (w2).bind fun p9 =>
 (ldL (⟨p9.block, p9.off + 0, none⟩ : Addr) h7).bind fun x10 =>
 newK h7 ((.cells [.int .u8 (IntKind.wrap .u8 token6)] 5 true 0)) fun h11 =>
 (rdS 1 (⟨(some ⟨h7.next, 0, some 0⟩), 1, 1⟩ : Slc) h11).bind fun n13 =>
 (zl_ 1 1 5 h11 x10 n13 1).bind fun r12 =>
 (w2).bind fun p14 =>
 (st1 (⟨p14.block, p14.off + 0, none⟩ : Addr) (.slice r12.1.a r12.1.len r12.1.cap) r12.2).bind fun h15 =>
 (zEd_ k D w2 (literals3.size : Int) h15).bind fun r16 =>
 (w2).bind fun p17 =>
 (ldL (⟨p17.block, p17.off + 0, none⟩ : Addr) r16.2).bind fun x18 =>
 (zl_ 1 1 5 r16.2 x18 (zM_ literals3) literals3.size).bind fun r19 =>
 (w2).bind fun p20 =>
 (st1 (⟨p20.block, p20.off + 0, none⟩ : Addr) (.slice r19.1.a r19.1.len r19.1.cap) r19.2).bind fun h21 =>
 (if (decide (distance4 > 0)) = true then
 (w2).bind fun p22 =>
 (ldL (⟨p22.block, p22.off + 0, none⟩ : Addr) h21).bind fun x23 =>
 newK h21 ((.cells [.int .u8 (IntKind.wrap .u8 distance4), .int .u8 (IntKind.wrap .u8 (Int.fdiv distance4 256))] 5 true 0)) fun h24 =>
 (rdS 1 (⟨(some ⟨h21.next, 0, some 0⟩), 2, 2⟩ : Slc) h24).bind fun n26 =>
 (zl_ 1 1 5 h24 x23 n26 2).bind fun r25 =>
 (w2).bind fun p27 =>
 (st1 (⟨p27.block, p27.off + 0, none⟩ : Addr) (.slice r25.1.a r25.1.len r25.1.cap) r25.2).bind fun h28 =>
 (zEd_ k D w2 (IntKind.wrap .i64 (long5 - 4)) h28).bind fun r29 =>
 some ((), r29.2)
 else
 some ((), h21))) fun j8 =>
 (if (decide (distance_2 > 0)) = true then
 let t30 : Int := (if 15 < (IntKind.wrap .i64 (long_3 - 4)) then 15 else (IntKind.wrap .i64 (long_3 - 4)))
 j8 w_0 literals_1 distance_2 long_3 (Go.bits .or .i64 (IntKind.wrap .i64 (t1 * 16)) t30) h
 else
 j8 w_0 literals_1 distance_2 long_3 (IntKind.wrap .i64 (t1 * 16)) h)
noncomputable def zrm_ : RCode := an (.s .n (.s (.j [(0, .p), (1, .s), (2, .i .i64), (3, .i .i64), (8, .i .i64)] .n) .n)) (rOf Tryz.prog 2 Tryz.f115)
noncomputable def zTl_ (k : Nat) (D : za_) : Ent := zn_ 115 [(0, .p), (1, .s), (2, .i .i64), (3, .i .i64)] [] (zMc_ k D)
theorem zvl_ {D : za_} (hD : zf_ Tryz.prog 2 D) (k : Nat) : zk_ Tryz.prog 2 (zTl_ k D) :=
 ze_ (k := k) (rc := zrm_) (cs := []) (zd_ hD (zb_.more (zmn_ hD k) (zb_.none))) Tryz.func115 rfl (by kernel_rfl) rfl (by kernel_rfl)
noncomputable def zCe_ (_k : Nat) (_D : za_) (p_0 : Option Addr) (at_1 : Int) (h : AHeap) : Option (((Int × Int × Int × Int)) × AHeap) :=
 newK h ((.cells [.int .u8 0, .int .u8 0, .int .u8 0, .int .u8 0] 187 true 0)) fun h1 =>
 (p_0).bind fun p2 =>
 (ldS (⟨p2.block, p2.off + 0, none⟩ : Addr) h1).bind fun x3 =>
 (Gx.idxS x3 at_1).bind fun b4 =>
 (p_0).bind fun p5 =>
 (ldS (⟨p5.block, p5.off + 0, none⟩ : Addr) h1).bind fun x6 =>
 (Gx.idxS x6 (IntKind.wrap .i64 (at_1 + 1))).bind fun b7 =>
 (p_0).bind fun p8 =>
 (ldS (⟨p8.block, p8.off + 0, none⟩ : Addr) h1).bind fun x9 =>
 (Gx.idxS x9 (IntKind.wrap .i64 (at_1 + 2))).bind fun b10 =>
 (p_0).bind fun p11 =>
 (ldS (⟨p11.block, p11.off + 0, none⟩ : Addr) h1).bind fun x12 =>
 (Gx.idxS x12 (IntKind.wrap .i64 (at_1 + 3))).bind fun b13 =>
 (stL 4 (⟨h.next, 0, none⟩ : Addr) ([.int .u8 b4, .int .u8 b7, .int .u8 b10, .int .u8 b13]) h1).bind fun h14 =>
 (ldA 4 (⟨h.next, 0, none⟩ : Addr) h14).bind fun l15 =>
 (decC [.i .u8, .i .u8, .i .u8, .i .u8] l15).bind fun x16 =>
 some ((x16.1, x16.2.1, x16.2.2.1, x16.2.2.2), h14)
noncomputable def zvq_ : RCode := an (.n) (rOf Tryz.prog 2 Tryz.f116)
noncomputable def zjq_ (k : Nat) (D : za_) : Ent := zn_ 116 [(0, .p), (1, .i .i64)] [(4, .st [.i .u8, .i .u8, .i .u8, .i .u8])] (zCe_ k D)
theorem zVi_ {D : za_} (hD : zf_ Tryz.prog 2 D) (k : Nat) : zk_ Tryz.prog 2 (zjq_ k D) :=
 ze_ (k := k) (rc := zvq_) (cs := [some (.agg 4)]) (zd_ hD (zb_.none)) Tryz.func116 rfl (by kernel_rfl) rfl (by kernel_rfl)
noncomputable def zFc_ (_k : Nat) (_D : za_) (j3 : Int → AHeap → Option ((Int) × AHeap)) (rec9 : (Option Addr) → Int → Int → Int → AHeap → Option ((Int) × AHeap)) (p4 : Option Addr) (fromv5 : Int) (atv6 : Int) (n7 : Int) (h8 : AHeap) : Option ((Int) × AHeap) :=
 zm_ (fun (p10 : Option Addr) (fromv11 : Int) (atv12 : Int) (n13 : Int) (y14 : Bool) (h15 : AHeap) =>
 (if y14 = true then
 rec9 p10 fromv11 atv12 (IntKind.wrap .i64 (n13 + 1)) h15
 else
 j3 n13 h15)) fun j16 =>
 (p4).bind fun p17 =>
 (ldS (⟨p17.block, p17.off + 0, none⟩ : Addr) h8).bind fun x18 =>
 (if (decide ((IntKind.wrap .i64 (atv6 + n7)) < (x18.size : Int))) = true then
 (p4).bind fun p19 =>
 (ldS (⟨p19.block, p19.off + 0, none⟩ : Addr) h8).bind fun x20 =>
 (Gx.idxS x20 (IntKind.wrap .i64 (fromv5 + n7))).bind fun b21 =>
 (p4).bind fun p22 =>
 (ldS (⟨p22.block, p22.off + 0, none⟩ : Addr) h8).bind fun x23 =>
 (Gx.idxS x23 (IntKind.wrap .i64 (atv6 + n7))).bind fun b24 =>
 j16 p4 fromv5 atv6 n7 (b21 == b24) h8
 else
 j16 p4 fromv5 atv6 n7 false h8)
noncomputable def zBi_ (k : Nat) (D : za_) (j3 : Int → AHeap → Option ((Int) × AHeap)) : (Option Addr) → Int → Int → Int → AHeap → Option ((Int) × AHeap) :=
 zi_ (α := (Option Addr) → Int → Int → Int → AHeap → Option ((Int) × AHeap)) (fun _ _ _ _ _ => none) k (zFc_ k D j3)
noncomputable def zTd_ (k : Nat) (D : za_) (p_0 : Option Addr) (from_1 : Int) (at_2 : Int) (h : AHeap) : Option ((Int) × AHeap) :=
 zm_ (fun (n1 : Int) (h2 : AHeap) =>
 some (n1, h2)) fun j3 =>
 zBi_ k D j3 p_0 from_1 at_2 0 h
noncomputable def zvp_ : RCode := an (.s .n (.s .n (.s (.j [(7, .i .i64)] (.b (.l [(0, .p), (1, .i .i64), (2, .i .i64), (7, .i .i64)] (.s (.s (.j [(0, .p), (1, .i .i64), (2, .i .i64), (7, .i .i64), (35, .b)] .n) .n) .n)))) .n))) (rOf Tryz.prog 2 Tryz.f128)
noncomputable def zyp_ (k : Nat) (D : za_) : Ent := zn_ 128 [(0, .p), (1, .i .i64), (2, .i .i64)] [(6, .i .i64)] (zTd_ k D)
theorem zro_ {D : za_} (hD : zf_ Tryz.prog 2 D) (k : Nat) : zk_ Tryz.prog 2 (zyp_ k D) :=
 ze_ (k := k) (rc := zvp_) (cs := [none]) (zd_ hD (zb_.none)) Tryz.func128 rfl (by kernel_rfl) rfl (by kernel_rfl)
noncomputable def zPc_ (k : Nat) (D : za_) (j6 : (Option Addr) → Int → Int → Int → AHeap → Option ((Int × Int) × AHeap)) (rec32 : (Option Addr) → Int → Int → Int → Int → AHeap → Option ((Int × Int) × AHeap)) (p26 : Option Addr) (atv27 : Int) (distance28 : Int) (long29 : Int) (d30 : Int) (h31 : AHeap) : Option ((Int × Int) × AHeap) :=
 (if (decide (d30 ≤ (if atv27 < 64 then atv27 else 64))) = true then
 zm_ (fun (p33 : Option Addr) (atv34 : Int) (distance35 : Int) (long36 : Int) (d37 : Int) (h38 : AHeap) =>
 rec32 p33 atv34 distance35 long36 (IntKind.wrap .i64 (d37 + 1)) h38) fun j39 =>
 (zTd_ k D p26 (IntKind.wrap .i64 (atv27 - d30)) atv27 h31).bind fun r40 =>
 (if (decide (r40.1 > long29)) = true then
 j39 p26 atv27 d30 r40.1 d30 r40.2
 else
 j39 p26 atv27 distance28 long29 d30 r40.2)
 else
 j6 p26 atv27 distance28 long29 h31)
noncomputable def zYi_ (k : Nat) (D : za_) (j6 : (Option Addr) → Int → Int → Int → AHeap → Option ((Int × Int) × AHeap)) : (Option Addr) → Int → Int → Int → Int → AHeap → Option ((Int × Int) × AHeap) :=
 zi_ (α := (Option Addr) → Int → Int → Int → Int → AHeap → Option ((Int × Int) × AHeap)) (fun _ _ _ _ _ _ => none) k (zPc_ k D j6)
noncomputable def zWf_ (k : Nat) (D : za_) (p_0 : Option Addr) (at_1 : Int) (h : AHeap) : Option ((Int × Int) × AHeap) :=
 zm_ (fun (p1 : Option Addr) (atv2 : Int) (distance3 : Int) (long4 : Int) (h5 : AHeap) =>
 (zCe_ k D p1 atv2 h5).bind fun r7 =>
 (p1).bind fun p8 =>
 (ldM (⟨p8.block, p8.off + 1, none⟩ : Addr) r7.2).bind fun x9 =>
 zR_ (zKb_ [h5] (fun H11 => (ldM (⟨p8.block, p8.off + 1, none⟩ : Addr) H11).bind fun y10 => some (.map y10)) (.map x9)) (
 (zuc_ (decI .i64) (.int .i64 0) r7.2 x9 (.agg ⟨[.int .u8 r7.1.1, .int .u8 r7.1.2.1, .int .u8 r7.1.2.2.1, .int .u8 r7.1.2.2.2]⟩)).bind fun p12 =>
 zm_ (fun (distance13 : Int) (long14 : Int) (h15 : AHeap) =>
 some ((distance13, long14), h15)) fun j16 =>
 zm_ (fun (p17 : Option Addr) (atv18 : Int) (distance19 : Int) (long20 : Int) (fromv21 : Int) (y22 : Bool) (h23 : AHeap) =>
 (if y22 = true then
 (zTd_ k D p17 fromv21 atv18 h23).bind fun r25 =>
 (if (decide (r25.1 > long20)) = true then
 j16 (IntKind.wrap .i64 (atv18 - fromv21)) r25.1 r25.2
 else
 j16 distance19 long20 r25.2)
 else
 j16 distance19 long20 h23)) fun j24 =>
 (if p12.2 = true then
 j24 p1 atv2 distance3 long4 p12.1 (decide ((IntKind.wrap .i64 (atv2 - p12.1)) ≤ 65535)) r7.2
 else
 j24 p1 atv2 distance3 long4 p12.1 false r7.2))) fun j6 =>
 zYi_ k D j6 p_0 at_1 0 0 1 h
noncomputable def zaq_ : RCode := an (.s .n (.s (.j [(0, .p), (1, .i .i64), (4, .i .i64), (5, .i .i64)] (.s .n (.b (.l [(0, .p), (1, .i .i64), (4, .i .i64), (5, .i .i64), (6, .i .i64)] (.s .n (.s (.j [(0, .p), (1, .i .i64), (4, .i .i64), (5, .i .i64), (6, .i .i64)] .n) .n)))))) (.s .n (.s (.j [(4, .i .i64), (5, .i .i64)] (.s (.j [(0, .p), (1, .i .i64), (4, .i .i64), (5, .i .i64), (8, .i .i64), (45, .b)] .n) .n)) .n)))) (rOf Tryz.prog 2 Tryz.f114)
noncomputable def zrq_ (k : Nat) (D : za_) : Ent := zn_ 114 [(0, .p), (1, .i .i64)] [(4, .i .i64), (5, .i .i64)] (zWf_ k D)
theorem zBp_ {D : za_} (hD : zf_ Tryz.prog 2 D) (k : Nat) : zk_ Tryz.prog 2 (zrq_ k D) :=
 ze_ (k := k) (rc := zaq_) (cs := [none, none]) (zd_ hD (zb_.more (zVi_ hD k) (zb_.more (zro_ hD k) (zb_.none)))) Tryz.func114 rfl (by kernel_rfl) rfl (by kernel_rfl)
noncomputable def znf_ (k : Nat) (D : za_) (rec20 : ByteArray → (Option Addr) → (Option Addr) → Int → Int → AHeap → Option ((ByteArray × Int) × AHeap)) (rec39 : ByteArray → (Option Addr) → (Option Addr) → Int → Int → Int → Int → AHeap → Option ((ByteArray × Int) × AHeap)) (s31 : ByteArray) (p32 : Option Addr) (w33 : Option Addr) (kept34 : Int) (atv35 : Int) (y36 : Int) (y37 : Int) (h38 : AHeap) : Option ((ByteArray × Int) × AHeap) :=
 (if (decide (y37 < y36)) = true then
 zm_ (fun (s40 : ByteArray) (p41 : Option Addr) (w42 : Option Addr) (kept43 : Int) (atv44 : Int) (y45 : Int) (y46 : Int) (h47 : AHeap) =>
 rec39 s40 p41 w42 kept43 (IntKind.wrap .i64 (atv44 + 1)) y45 (IntKind.wrap .i64 (y46 + 1)) h47) fun j48 =>
 (if (decide ((IntKind.wrap .i64 (atv35 + 4)) ≤ (s31.size : Int))) = true then
 (zCe_ k D p32 atv35 h38).bind fun r49 =>
 (p32).bind fun p50 =>
 (ldM (⟨p50.block, p50.off + 1, none⟩ : Addr) r49.2).bind fun x51 =>
 zR_ (zKb_ [h38] (fun H53 => (ldM (⟨p50.block, p50.off + 1, none⟩ : Addr) H53).bind fun y52 => some (.map y52)) (.map x51)) (
 (x51).bind fun r55 =>
 (updE r49.2 r55 (.agg ⟨[.int .u8 r49.1.1, .int .u8 r49.1.2.1, .int .u8 r49.1.2.2.1, .int .u8 r49.1.2.2.2]⟩) (.int .i64 atv35)).bind fun h54 =>
 j48 s31 p32 w33 kept34 atv35 y36 y37 h54)
 else
 j48 s31 p32 w33 kept34 atv35 y36 y37 h38)
 else
 rec20 s31 p32 w33 kept34 atv35 h38)
noncomputable def zIm_ (k : Nat) (D : za_) (rec20 : ByteArray → (Option Addr) → (Option Addr) → Int → Int → AHeap → Option ((ByteArray × Int) × AHeap)) : ByteArray → (Option Addr) → (Option Addr) → Int → Int → Int → Int → AHeap → Option ((ByteArray × Int) × AHeap) :=
 zi_ (α := ByteArray → (Option Addr) → (Option Addr) → Int → Int → Int → Int → AHeap → Option ((ByteArray × Int) × AHeap)) (fun _ _ _ _ _ _ _ _ => none) k (znf_ k D rec20)
noncomputable def zqf_ (k : Nat) (D : za_) (j8 : ByteArray → (Option Addr) → Int → AHeap → Option ((ByteArray × Int) × AHeap)) (rec20 : ByteArray → (Option Addr) → (Option Addr) → Int → Int → AHeap → Option ((ByteArray × Int) × AHeap)) (s14 : ByteArray) (p15 : Option Addr) (w16 : Option Addr) (kept17 : Int) (atv18 : Int) (h19 : AHeap) : Option ((ByteArray × Int) × AHeap) :=
 (if (decide ((IntKind.wrap .i64 (atv18 + 4)) < (s14.size : Int))) = true then
 (zWf_ k D p15 atv18 h19).bind fun r21 =>
 let t22 : Int := (IntKind.wrap .i64 ((IntKind.wrap .i64 ((s14.size : Int) - 1)) - atv18))
 zm_ (fun (s23 : ByteArray) (p24 : Option Addr) (w25 : Option Addr) (kept26 : Int) (atv27 : Int) (step28 : Int) (h29 : AHeap) =>
 zIm_ k D rec20 s23 p24 w25 kept26 atv27 step28 0 h29) fun j30 =>
 (if (decide ((if t22 < r21.1.2 then t22 else r21.1.2) ≥ 4)) = true then
 (Gx.subS s14 (some kept17) (some atv18)).bind fun s56 =>
 (zMc_ k D w16 s56 r21.1.1 (if t22 < r21.1.2 then t22 else r21.1.2) r21.2).bind fun r57 =>
 let t58 : Int := (IntKind.wrap .i64 (atv18 + (if t22 < r21.1.2 then t22 else r21.1.2)))
 j30 s14 p15 w16 t58 atv18 (if t22 < r21.1.2 then t22 else r21.1.2) r57.2
 else
 j30 s14 p15 w16 kept17 atv18 1 r21.2)
 else
 j8 s14 w16 kept17 h19)
noncomputable def zUq_ (k : Nat) (D : za_) (j8 : ByteArray → (Option Addr) → Int → AHeap → Option ((ByteArray × Int) × AHeap)) : ByteArray → (Option Addr) → (Option Addr) → Int → Int → AHeap → Option ((ByteArray × Int) × AHeap) :=
 zi_ (α := ByteArray → (Option Addr) → (Option Addr) → Int → Int → AHeap → Option ((ByteArray × Int) × AHeap)) (fun _ _ _ _ _ _ => none) k (zqf_ k D j8)
noncomputable def zqp_ (k : Nat) (D : za_) (s_0 : ByteArray) (h : AHeap) : Option ((ByteArray × Int) × AHeap) :=
 (if (decide ((s_0.size : Int) > 1048576)) = true then
 some (((⟨#[]⟩ : ByteArray), 2), h)
 else
 newK h ((.map [] 0)) fun h1 =>
 newK h1 ((.cells [.string s_0, .map (some h.next)] 180 true 0)) fun h2 =>
 newK h2 ((.cells [.slice none 0 0] 183 true 0)) fun h3 =>
 zm_ (fun (s4 : ByteArray) (w5 : Option Addr) (kept6 : Int) (h7 : AHeap) =>
 (Gx.subS s4 (some kept6) none).bind fun s9 =>
 (zMc_ k D w5 s9 0 0 h7).bind fun r10 =>
 (w5).bind fun p11 =>
 (ldL (⟨p11.block, p11.off + 0, none⟩ : Addr) r10.2).bind fun x12 =>
 (zeb_ r10.2 x12).bind fun s13 =>
 some ((s13, 0), r10.2)) fun j8 =>
 zUq_ k D j8 s_0 (some (⟨h1.next, 0, none⟩ : Addr)) (some (⟨h2.next, 0, none⟩ : Addr)) 0 0 h3)
noncomputable def zdA_ : RCode := an (.s .n (.s .n (.s .n (.s .n (.s .n (.s (.j [(0, .s), (5, .p), (6, .i .i64)] (.s .n (.b (.l [(0, .s), (4, .p), (5, .p), (6, .i .i64), (7, .i .i64)] (.s .n (.b (.s .n (.s .n (.s .n (.s (.j [(0, .s), (4, .p), (5, .p), (6, .i .i64), (7, .i .i64), (10, .i .i64)] .n) (.s .n (.b (.l [(0, .s), (4, .p), (5, .p), (6, .i .i64), (7, .i .i64), (52, .i .i64), (53, .i .i64)] (.s .n (.s .n (.s (.b (.s (.j [(0, .s), (4, .p), (5, .p), (6, .i .i64), (7, .i .i64), (52, .i .i64), (53, .i .i64)] .n) .n)) .n)))))))))))))))) .n)))))) (rOf Tryz.prog 2 Tryz.f85)
noncomputable def zRz_ (k : Nat) (D : za_) : Ent := zn_ 85 [(0, .s)] [(2, .s), (3, .i .i64)] (zqp_ k D)
theorem zvx_ {D : za_} (hD : zf_ Tryz.prog 2 D) (k : Nat) : zk_ Tryz.prog 2 (zRz_ k D) :=
 ze_ (k := k) (rc := zdA_) (cs := [none, none]) (zd_ hD (zb_.more (zvl_ hD k) (zb_.more (zBp_ hD k) (zb_.more (zVi_ hD k) (zb_.none))))) Tryz.func85 rfl (by kernel_rfl) rfl (by kernel_rfl)
noncomputable def zli_ (k : Nat) (D : za_) (kind_0 : Int) (text_1 : ByteArray) (h : AHeap) : Option ((ByteArray × Int) × AHeap) :=
 (zVf_ k D kind_0 h).bind fun r1 =>
 (if (!r1.1) = true then
 some (((⟨#[]⟩ : ByteArray), 1), r1.2)
 else
 (if (decide ((text_1.size : Int) > 65536)) = true then
 some (((⟨#[]⟩ : ByteArray), 2), r1.2)
 else
 (zih_ k D (text_1.size : Int) r1.2).bind fun r2 =>
 (zqp_ k D text_1 r2.2).bind fun r3 =>
 zm_ (fun (kind4 : Int) (text5 : ByteArray) (long6 : ByteArray) (block7 : ByteArray) (y8 : Bool) (h9 : AHeap) =>
 (if y8 = true then
 newK h9 ((.cells [.int .u8 (IntKind.wrap .u8 (Go.bits .or .i64 kind4 16))] 5 true 0)) fun h11 =>
 (zeb_ h11 (⟨(some ⟨h9.next, 0, some 0⟩), 1, 1⟩ : Slc)).bind fun s12 =>
 (if s12.size + long6.size ≤ 9223372036854775807 then
 (if (s12 ++ long6).size + block7.size ≤ 9223372036854775807 then
 some ((((s12 ++ long6) ++ block7), 0), h11)
 else none)
 else none)
 else
 newK h9 ((.cells [.int .u8 (IntKind.wrap .u8 kind4)] 5 true 0)) fun h13 =>
 (zeb_ h13 (⟨(some ⟨h9.next, 0, some 0⟩), 1, 1⟩ : Slc)).bind fun s14 =>
 (if s14.size + long6.size ≤ 9223372036854775807 then
 (if (s14 ++ long6).size + text5.size ≤ 9223372036854775807 then
 some ((((s14 ++ long6) ++ text5), 0), h13)
 else none)
 else none))) fun j10 =>
 (if (r3.1.2 == 0) = true then
 j10 kind_0 text_1 r2.1.1 r3.1.1 (decide ((r3.1.1.size : Int) < (text_1.size : Int))) r3.2
 else
 j10 kind_0 text_1 r2.1.1 r3.1.1 false r3.2)))
noncomputable def zAt_ : RCode := an (.s .n (.s .n (.s .n (.s .n (.s (.s (.j [(0, .i .i64), (1, .s), (6, .s), (8, .s), (37, .b)] .n) .n) .n))))) (rOf Tryz.prog 2 Tryz.f42)
noncomputable def zrt_ (k : Nat) (D : za_) : Ent := zn_ 42 [(0, .i .i64), (1, .s)] [(4, .s), (5, .i .i64)] (zli_ k D)
theorem zXr_ {D : za_} (hD : zf_ Tryz.prog 2 D) (k : Nat) : zk_ Tryz.prog 2 (zrt_ k D) :=
 ze_ (k := k) (rc := zAt_) (cs := [none, none]) (zd_ hD (zb_.more (zUi_ hD k) (zb_.more (zXj_ hD k) (zb_.more (zvx_ hD k) (zb_.none))))) Tryz.func42 rfl (by kernel_rfl) rfl (by kernel_rfl)
noncomputable def zsk_ (_k : Nat) (_D : za_)  (h : AHeap) : Option (((Int × Int × Int × Int × Int × Int × Int × Int)) × AHeap) :=
 let h1 := AHeap.new h (.cells [.int .u32 0, .int .u32 0, .int .u32 0, .int .u32 0, .int .u32 0, .int .u32 0, .int .u32 0, .int .u32 0] 139 true 0)
 (stL 8 (⟨h.next, 0, none⟩ : Addr) ([.int .u32 1779033703, .int .u32 3144134277, .int .u32 1013904242, .int .u32 2773480762, .int .u32 1359893119, .int .u32 2600822924, .int .u32 528734635, .int .u32 1541459225]) h1).bind fun h2 =>
 (ldA 8 (⟨h.next, 0, none⟩ : Addr) h2).bind fun l3 =>
 (decC [.i .u32, .i .u32, .i .u32, .i .u32, .i .u32, .i .u32, .i .u32, .i .u32] l3).bind fun x4 =>
 some ((x4.1, x4.2.1, x4.2.2.1, x4.2.2.2.1, x4.2.2.2.2.1, x4.2.2.2.2.2.1, x4.2.2.2.2.2.2.1, x4.2.2.2.2.2.2.2), h2)
noncomputable def zAw_ : RCode := an (.n) (rOf Tryz.prog 2 Tryz.f75)
noncomputable def zhw_ (k : Nat) (D : za_) : Ent := zn_ 75 [] [(0, .st [.i .u32, .i .u32, .i .u32, .i .u32, .i .u32, .i .u32, .i .u32, .i .u32])] (zsk_ k D)
theorem zZu_ {D : za_} (hD : zf_ Tryz.prog 2 D) (k : Nat) : zk_ Tryz.prog 2 (zhw_ k D) :=
 ze_ (k := k) (rc := zAw_) (cs := [some (.agg 8)]) (zd_ hD (zb_.none)) Tryz.func75 rfl (by kernel_rfl) rfl (by kernel_rfl)
noncomputable def zkp_ (k : Nat) (D : za_)  (h : AHeap) : Option (((Option Addr)) × AHeap) :=
 (zsk_ k D h).bind fun r1 =>
 let h2 := AHeap.new r1.2 (.cells [.int .u32 r1.1.1, .int .u32 r1.1.2.1, .int .u32 r1.1.2.2.1, .int .u32 r1.1.2.2.2.1, .int .u32 r1.1.2.2.2.2.1, .int .u32 r1.1.2.2.2.2.2.1, .int .u32 r1.1.2.2.2.2.2.2.1, .int .u32 r1.1.2.2.2.2.2.2.2, .slice none 0 0, .int .i64 0] 142 true 0)
 some ((some (⟨r1.2.next, 0, none⟩ : Addr)), h2)
noncomputable def zBA_ : RCode := an (.n) (rOf Tryz.prog 2 Tryz.f33)
noncomputable def zUy_ (k : Nat) (D : za_) : Ent := zn_ 33 [] [(0, .p)] (zkp_ k D)
theorem zlx_ {D : za_} (hD : zf_ Tryz.prog 2 D) (k : Nat) : zk_ Tryz.prog 2 (zUy_ k D) :=
 ze_ (k := k) (rc := zBA_) (cs := [none]) (zd_ hD (zb_.more (zZu_ hD k) (zb_.none))) Tryz.func33 rfl (by kernel_rfl) rfl (by kernel_rfl)
noncomputable def zMg_ (_k : Nat) (_D : za_) (h_0 : Option Addr) (h : AHeap) : Option (((Option Addr)) × AHeap) :=
 (h_0).bind fun p1 =>
 (ldL (⟨p1.block, p1.off + 8, none⟩ : Addr) h).bind fun x2 =>
 (rdS 1 x2 h).bind fun n4 =>
 (zl_ 1 1 5 h (⟨none, 0, 0⟩ : Slc) n4 x2.len).bind fun r3 =>
 (h_0).bind fun p5 =>
 (ldA 8 (⟨p5.block, p5.off + 0, none⟩ : Addr) r3.2).bind fun l6 =>
 zR_ (zKb_ [h] (fun H8 => (ldA 8 (⟨p5.block, p5.off + 0, none⟩ : Addr) H8).bind fun y7 => some (.agg ⟨y7⟩)) (.agg ⟨l6⟩)) (
 (decC [.i .u32, .i .u32, .i .u32, .i .u32, .i .u32, .i .u32, .i .u32, .i .u32] l6).bind fun x9 =>
 (h_0).bind fun p10 =>
 (ldI .i64 (⟨p10.block, p10.off + 9, none⟩ : Addr) r3.2).bind fun x11 =>
 zR_ (zKb_ [h] (fun H13 => (ldI .i64 (⟨p10.block, p10.off + 9, none⟩ : Addr) H13).bind fun y12 => some (.int .i64 y12)) (.int .i64 x11)) (
 let h14 := AHeap.new r3.2 (.cells [.int .u32 x9.1, .int .u32 x9.2.1, .int .u32 x9.2.2.1, .int .u32 x9.2.2.2.1, .int .u32 x9.2.2.2.2.1, .int .u32 x9.2.2.2.2.2.1, .int .u32 x9.2.2.2.2.2.2.1, .int .u32 x9.2.2.2.2.2.2.2, .slice r3.1.a r3.1.len r3.1.cap, .int .i64 x11] 142 true 0)
 some ((some (⟨r3.2.next, 0, none⟩ : Addr)), h14)))
noncomputable def zOq_ : RCode := an (.s .n (.s (.r [(8, .st [.i .u32, .i .u32, .i .u32, .i .u32, .i .u32, .i .u32, .i .u32, .i .u32])]) .n)) (rOf Tryz.prog 2 Tryz.f77)
noncomputable def zpr_ (k : Nat) (D : za_) : Ent := zn_ 77 [(0, .p)] [(2, .p)] (zMg_ k D)
theorem zGq_ {D : za_} (hD : zf_ Tryz.prog 2 D) (k : Nat) : zk_ Tryz.prog 2 (zpr_ k D) :=
 ze_ (k := k) (rc := zOq_) (cs := [none]) (zd_ hD (zb_.none)) Tryz.func77 rfl (by kernel_rfl) rfl (by kernel_rfl)
noncomputable def zE_ (_k : Nat) (_D : za_) (x_0 : Int) (k_1 : Int) (h : AHeap) : Option ((Int) × AHeap) :=
 (if 0 ≤ (Go.bits .and .u64 (IntKind.wrap .u64 k_1) 31) then
 let t1 : Int := (IntKind.wrap .u32 (x_0 * 2 ^ (min ((Go.bits .and .u64 (IntKind.wrap .u64 k_1) 31)).toNat (IntKind.bits .u32))))
 let t2 : Int := (IntKind.wrap .u64 (32 - (Go.bits .and .u64 (IntKind.wrap .u64 k_1) 31)))
 (if 0 ≤ t2 then
 let t3 : Int := (Go.bits .or .u32 t1 (Int.fdiv x_0 (2 ^ (min (t2).toNat (IntKind.bits .u32)))))
 some (t3, h)
 else none)
 else none)
noncomputable def zSj_ : RCode := an (.n) (rOf Tryz.prog 2 Tryz.f111)
noncomputable def zPj_ (k : Nat) (D : za_) : Ent := zn_ 111 [(0, .i .u32), (1, .i .i64)] [(4, .i .u32)] (zE_ k D)
theorem zxf_ {D : za_} (hD : zf_ Tryz.prog 2 D) (k : Nat) : zk_ Tryz.prog 2 (zPj_ k D) :=
 ze_ (k := k) (rc := zSj_) (cs := [none]) (zd_ hD (zb_.none)) Tryz.func111 rfl (by kernel_rfl) rfl (by kernel_rfl)
noncomputable def zMe_ (_k : Nat) (_D : za_) (j4 : (Option Addr) → AHeap → Option (((List Value)) × AHeap)) (rec46 : Slc → (Option Addr) → Int → AHeap → Option (((List Value)) × AHeap)) (b42 : Slc) (w43 : Option Addr) (y44 : Int) (h45 : AHeap) : Option (((List Value)) × AHeap) :=
 (if (decide (y44 < 16)) = true then
 (Gx.idxL 1 b42 (IntKind.wrap .i64 (4 * y44))).bind fun q47 =>
 (ldI .u8 q47 h45).bind fun x48 =>
 (Gx.idxL 1 b42 (IntKind.wrap .i64 ((IntKind.wrap .i64 (4 * y44)) + 1))).bind fun q49 =>
 (ldI .u8 q49 h45).bind fun x50 =>
 let t51 : Int := (Go.bits .or .u32 (IntKind.wrap .u32 ((IntKind.wrap .u32 x48) * 16777216)) (IntKind.wrap .u32 ((IntKind.wrap .u32 x50) * 65536)))
 (Gx.idxL 1 b42 (IntKind.wrap .i64 ((IntKind.wrap .i64 (4 * y44)) + 2))).bind fun q52 =>
 (ldI .u8 q52 h45).bind fun x53 =>
 let t54 : Int := (Go.bits .or .u32 t51 (IntKind.wrap .u32 ((IntKind.wrap .u32 x53) * 256)))
 (Gx.idxL 1 b42 (IntKind.wrap .i64 ((IntKind.wrap .i64 (4 * y44)) + 3))).bind fun q55 =>
 (ldI .u8 q55 h45).bind fun x56 =>
 (w43).bind fun p58 =>
 (Gx.idxA 64 1 p58 y44).bind fun q57 =>
 (st1 q57 (.int .u32 (Go.bits .or .u32 t54 (IntKind.wrap .u32 x56))) h45).bind fun h59 =>
 rec46 b42 w43 (IntKind.wrap .i64 (y44 + 1)) h59
 else
 j4 w43 h45)
noncomputable def zWm_ (k : Nat) (D : za_) (j4 : (Option Addr) → AHeap → Option (((List Value)) × AHeap)) : Slc → (Option Addr) → Int → AHeap → Option (((List Value)) × AHeap) :=
 zi_ (α := Slc → (Option Addr) → Int → AHeap → Option (((List Value)) × AHeap)) (fun _ _ _ _ => none) k (zMe_ k D j4)
noncomputable def zPe_ (k : Nat) (D : za_) (j7 : (Option Addr) → AHeap → Option (((List Value)) × AHeap)) (rec19 : (Option Addr) → Int → AHeap → Option (((List Value)) × AHeap)) (w15 : Option Addr) (i17 : Int) (h18 : AHeap) : Option (((List Value)) × AHeap) :=
 (if (decide (i17 < 64)) = true then
 (w15).bind fun p21 =>
 (Gx.idxA 64 1 p21 (IntKind.wrap .i64 (i17 - 15))).bind fun q20 =>
 (ldI .u32 q20 h18).bind fun x22 =>
 (w15).bind fun p24 =>
 (Gx.idxA 64 1 p24 (IntKind.wrap .i64 (i17 - 2))).bind fun q23 =>
 (ldI .u32 q23 h18).bind fun x25 =>
 (zE_ k D x22 (-7) h18).bind fun r26 =>
 (zE_ k D x22 (-18) r26.2).bind fun r27 =>
 let t28 : Int := (Go.bits .xor .u32 (Go.bits .xor .u32 r26.1 r27.1) (Int.fdiv x22 8))
 (zE_ k D x25 (-17) r27.2).bind fun r29 =>
 (zE_ k D x25 (-19) r29.2).bind fun r30 =>
 let t31 : Int := (Go.bits .xor .u32 (Go.bits .xor .u32 r29.1 r30.1) (Int.fdiv x25 1024))
 (w15).bind fun p33 =>
 (Gx.idxA 64 1 p33 (IntKind.wrap .i64 (i17 - 16))).bind fun q32 =>
 (ldI .u32 q32 r30.2).bind fun x34 =>
 (w15).bind fun p36 =>
 (Gx.idxA 64 1 p36 (IntKind.wrap .i64 (i17 - 7))).bind fun q35 =>
 (ldI .u32 q35 r30.2).bind fun x37 =>
 let t38 : Int := (IntKind.wrap .u32 ((IntKind.wrap .u32 ((IntKind.wrap .u32 (x34 + t28)) + x37)) + t31))
 (w15).bind fun p40 =>
 (Gx.idxA 64 1 p40 i17).bind fun q39 =>
 (st1 q39 (.int .u32 t38) r30.2).bind fun h41 =>
 rec19 w15 (IntKind.wrap .i64 (i17 + 1)) h41
 else
 j7 w15 h18)
noncomputable def zTm_ (k : Nat) (D : za_) (j7 : (Option Addr) → AHeap → Option (((List Value)) × AHeap)) : (Option Addr) → Int → AHeap → Option (((List Value)) × AHeap) :=
 zi_ (α := (Option Addr) → Int → AHeap → Option (((List Value)) × AHeap)) (fun _ _ _ => none) k (zPe_ k D j7)
noncomputable def zpj_ (k : Nat) (D : za_) (b_0 : Slc) (h : AHeap) : Option (((List Value)) × AHeap) :=
 let h1 := AHeap.new h (.cells (List.replicate 64 (.int .u32 0)) 171 true 0)
 zm_ (fun (w2 : Option Addr) (h3 : AHeap) =>
 zm_ (fun (w5 : Option Addr) (h6 : AHeap) =>
 (w5).bind fun p8 =>
 (ldA 64 p8 h6).bind fun l9 =>
 (w5).bind fun p10 =>
 (stL 64 p10 l9 h6).bind fun h11 =>
 (w5).bind fun p12 =>
 (ldA 64 p12 h11).bind fun l13 =>
 (decA 64 (.agg ⟨l13⟩)).bind fun l14 =>
 some (l14, h11)) fun j7 =>
 zTm_ k D j7 w2 16 h3) fun j4 =>
 zWm_ k D j4 b_0 (some (⟨h.next, 0, none⟩ : Addr)) 0 h1
noncomputable def zLu_ : RCode := an (.s .n (.s (.j [(2, .p)] (.s .n (.b (.l [(0, .l), (2, .p), (7, .i .i64)] .n)))) (.s (.j [(2, .p)] (.s .n (.b (.l [(2, .p), (4, .i .i64)] .n)))) .n))) (rOf Tryz.prog 2 Tryz.f110)
noncomputable def zzu_ (k : Nat) (D : za_) : Ent := zn_ 110 [(0, .l)] [(2, .agg 64)] (zpj_ k D)
theorem zut_ {D : za_} (hD : zf_ Tryz.prog 2 D) (k : Nat) : zk_ Tryz.prog 2 (zzu_ k D) :=
 ze_ (k := k) (rc := zLu_) (cs := [some (.agg 64)]) (zd_ hD (zb_.more (zxf_ hD k) (zb_.none))) Tryz.func110 rfl (by kernel_rfl) rfl (by kernel_rfl)
noncomputable def zhd_ (k : Nat) (D : za_) (j38 : (Option Addr) → Int → Int → Int → Int → Int → Int → Int → Int → AHeap → Option ((Unit) × AHeap)) (rec64 : (Option Addr) → (Option Addr) → Int → Int → Int → Int → Int → Int → Int → Int → Int → AHeap → Option ((Unit) × AHeap)) (hv52 : Option Addr) (w53 : Option Addr) (a54 : Int) (b55 : Int) (c56 : Int) (d57 : Int) (e58 : Int) (f59 : Int) (g60 : Int) (last61 : Int) (y62 : Int) (h63 : AHeap) : Option ((Unit) × AHeap) :=
 (if (decide (y62 < 64)) = true then
 (zE_ k D e58 (-6) h63).bind fun r65 =>
 (zE_ k D e58 (-11) r65.2).bind fun r66 =>
 (zE_ k D e58 (-25) r66.2).bind fun r67 =>
 let t68 : Int := (IntKind.wrap .u32 (last61 + (Go.bits .xor .u32 (Go.bits .xor .u32 r65.1 r66.1) r67.1)))
 let t69 : Int := (Go.bits .and .u32 (Go.bits .xor .u32 (IntKind.max .u32) e58) g60)
 let t70 : Int := (IntKind.wrap .u32 (t68 + (Go.bits .xor .u32 (Go.bits .and .u32 e58 f59) t69)))
 (Gx.idxA 64 1 (⟨0, 0, none⟩ : Addr) y62).bind fun q71 =>
 (ldI .u32 q71 r67.2).bind fun x72 =>
 (w53).bind fun p74 =>
 (Gx.idxA 64 1 p74 y62).bind fun q73 =>
 (ldI .u32 q73 r67.2).bind fun x75 =>
 (zE_ k D a54 (-2) r67.2).bind fun r76 =>
 (zE_ k D a54 (-13) r76.2).bind fun r77 =>
 (zE_ k D a54 (-22) r77.2).bind fun r78 =>
 let t79 : Int := (Go.bits .xor .u32 (Go.bits .and .u32 a54 b55) (Go.bits .and .u32 a54 c56))
 let t80 : Int := (IntKind.wrap .u32 ((Go.bits .xor .u32 (Go.bits .xor .u32 r76.1 r77.1) r78.1) + (Go.bits .xor .u32 t79 (Go.bits .and .u32 b55 c56))))
 let t81 : Int := (IntKind.wrap .u32 (d57 + (IntKind.wrap .u32 ((IntKind.wrap .u32 (t70 + x72)) + x75))))
 let t82 : Int := (IntKind.wrap .u32 ((IntKind.wrap .u32 ((IntKind.wrap .u32 (t70 + x72)) + x75)) + t80))
 rec64 hv52 w53 t82 a54 b55 c56 t81 e58 f59 g60 (IntKind.wrap .i64 (y62 + 1)) r78.2
 else
 j38 hv52 a54 b55 c56 d57 e58 f59 g60 last61 h63)
noncomputable def ztj_ (k : Nat) (D : za_) (j38 : (Option Addr) → Int → Int → Int → Int → Int → Int → Int → Int → AHeap → Option ((Unit) × AHeap)) : (Option Addr) → (Option Addr) → Int → Int → Int → Int → Int → Int → Int → Int → Int → AHeap → Option ((Unit) × AHeap) :=
 zi_ (α := (Option Addr) → (Option Addr) → Int → Int → Int → Int → Int → Int → Int → Int → Int → AHeap → Option ((Unit) × AHeap)) (fun _ _ _ _ _ _ _ _ _ _ _ _ => none) k (zhd_ k D j38)
noncomputable def zjd_ (_k : Nat) (_D : za_)  (rec43 : (Option Addr) → (Int × Int × Int × Int × Int × Int × Int × Int) → Int → AHeap → Option ((Unit) × AHeap)) (hv39 : Option Addr) (y40 : Int × Int × Int × Int × Int × Int × Int × Int) (y41 : Int) (h42 : AHeap) : Option ((Unit) × AHeap) :=
 (if (decide (y41 < 8)) = true then
 (if 0 ≤ y41 ∧ y41 < ((8 : Nat) : Int) then
 (([.int .u32 y40.1, .int .u32 y40.2.1, .int .u32 y40.2.2.1, .int .u32 y40.2.2.2.1, .int .u32 y40.2.2.2.2.1, .int .u32 y40.2.2.2.2.2.1, .int .u32 y40.2.2.2.2.2.2.1, .int .u32 y40.2.2.2.2.2.2.2] : List Value)[(y41).toNat * 1]?).bind fun v44 =>
 (decI .u32 v44).bind fun x45 =>
 (hv39).bind fun p46 =>
 (Gx.idxA 8 1 (⟨p46.block, p46.off + 0, none⟩ : Addr) y41).bind fun q47 =>
 (ldI .u32 q47 h42).bind fun x48 =>
 (hv39).bind fun p49 =>
 (Gx.idxA 8 1 (⟨p49.block, p49.off + 0, none⟩ : Addr) y41).bind fun q50 =>
 (st1 q50 (.int .u32 (IntKind.wrap .u32 (x48 + x45))) h42).bind fun h51 =>
 rec43 hv39 (y40.1, y40.2.1, y40.2.2.1, y40.2.2.2.1, y40.2.2.2.2.1, y40.2.2.2.2.2.1, y40.2.2.2.2.2.2.1, y40.2.2.2.2.2.2.2) (IntKind.wrap .i64 (y41 + 1)) h51
 else none)
 else
 some ((), h42))
noncomputable def zuj_ (k : Nat) (D : za_)  : (Option Addr) → (Int × Int × Int × Int × Int × Int × Int × Int) → Int → AHeap → Option ((Unit) × AHeap) :=
 zi_ (α := (Option Addr) → (Int × Int × Int × Int × Int × Int × Int × Int) → Int → AHeap → Option ((Unit) × AHeap)) (fun _ _ _ _ => none) k (zjd_ k D )
noncomputable def zDg_ (k : Nat) (D : za_) (h_0 : Option Addr) (block_1 : Slc) (h : AHeap) : Option ((Unit) × AHeap) :=
 (zpj_ k D block_1 h).bind fun r1 =>
 let h2 := AHeap.new r1.2 (.cells (List.replicate 64 (.int .u32 0)) 171 true 0)
 (stL 64 (⟨r1.2.next, 0, none⟩ : Addr) r1.1 h2).bind fun h3 =>
 (h_0).bind fun p4 =>
 (ldI .u32 (⟨p4.block, p4.off + 0 + 0, none⟩ : Addr) h3).bind fun x6 =>
 (h_0).bind fun p7 =>
 (ldI .u32 (⟨p7.block, p7.off + 0 + 1, none⟩ : Addr) h3).bind fun x9 =>
 (h_0).bind fun p10 =>
 (ldI .u32 (⟨p10.block, p10.off + 0 + 2, none⟩ : Addr) h3).bind fun x12 =>
 (h_0).bind fun p13 =>
 (ldI .u32 (⟨p13.block, p13.off + 0 + 3, none⟩ : Addr) h3).bind fun x15 =>
 (h_0).bind fun p16 =>
 (ldI .u32 (⟨p16.block, p16.off + 0 + 4, none⟩ : Addr) h3).bind fun x18 =>
 (h_0).bind fun p19 =>
 (ldI .u32 (⟨p19.block, p19.off + 0 + 5, none⟩ : Addr) h3).bind fun x21 =>
 (h_0).bind fun p22 =>
 (ldI .u32 (⟨p22.block, p22.off + 0 + 6, none⟩ : Addr) h3).bind fun x24 =>
 (h_0).bind fun p25 =>
 (ldI .u32 (⟨p25.block, p25.off + 0 + 7, none⟩ : Addr) h3).bind fun x27 =>
 zm_ (fun (hv28 : Option Addr) (a29 : Int) (b30 : Int) (c31 : Int) (d32 : Int) (e33 : Int) (f34 : Int) (g35 : Int) (last36 : Int) (h37 : AHeap) =>
 zuj_ k D hv28 (a29, b30, c31, d32, e33, f34, g35, last36) 0 h37) fun j38 =>
 ztj_ k D j38 h_0 (some (⟨r1.2.next, 0, none⟩ : Addr)) x6 x9 x12 x15 x18 x21 x24 x27 0 h3
noncomputable def zgr_ : RCode := an (.s .n (.s .n (.s .n (.s (.j [(0, .p), (5, .i .u32), (6, .i .u32), (7, .i .u32), (8, .i .u32), (9, .i .u32), (10, .i .u32), (11, .i .u32), (12, .i .u32)] (.s .n (.b (.l [(0, .p), (4, .p), (5, .i .u32), (6, .i .u32), (7, .i .u32), (8, .i .u32), (9, .i .u32), (10, .i .u32), (11, .i .u32), (12, .i .u32), (62, .i .i64)] .n)))) (.s .n (.b (.l [(0, .p), (135, .st [.i .u32, .i .u32, .i .u32, .i .u32, .i .u32, .i .u32, .i .u32, .i .u32]), (136, .i .i64)] .n))))))) (rOf Tryz.prog 2 Tryz.f76)
noncomputable def zBr_ (k : Nat) (D : za_) : Ent := zn_ 76 [(0, .p), (1, .l)] [] (zDg_ k D)
theorem zkq_ {D : za_} (hD : zf_ Tryz.prog 2 D) (k : Nat) : zk_ Tryz.prog 2 (zBr_ k D) :=
 ze_ (k := k) (rc := zgr_) (cs := []) (zd_ hD (zb_.more (zut_ hD k) (zb_.more (zxf_ hD k) (zb_.none)))) Tryz.func76 rfl (by kernel_rfl) rfl (by kernel_rfl)
noncomputable def zge_ (k : Nat) (D : za_) (j13 : (Option Addr) → Int → AHeap → Option ((Unit) × AHeap)) (rec24 : (Option Addr) → Int → AHeap → Option ((Unit) × AHeap)) (hv21 : Option Addr) (atv22 : Int) (h23 : AHeap) : Option ((Unit) × AHeap) :=
 (hv21).bind fun p25 =>
 (ldL (⟨p25.block, p25.off + 8, none⟩ : Addr) h23).bind fun x26 =>
 (if (decide ((IntKind.wrap .i64 ((x26.len : Int) - atv22)) ≥ 64)) = true then
 (hv21).bind fun p27 =>
 (ldL (⟨p27.block, p27.off + 8, none⟩ : Addr) h23).bind fun x28 =>
 (Gx.subL 1 x28 (some atv22) (some (IntKind.wrap .i64 (atv22 + 64))) none).bind fun l29 =>
 (zDg_ k D hv21 l29 h23).bind fun r30 =>
 rec24 hv21 (IntKind.wrap .i64 (atv22 + 64)) r30.2
 else
 j13 hv21 atv22 h23)
noncomputable def zbj_ (k : Nat) (D : za_) (j13 : (Option Addr) → Int → AHeap → Option ((Unit) × AHeap)) : (Option Addr) → Int → AHeap → Option ((Unit) × AHeap) :=
 zi_ (α := (Option Addr) → Int → AHeap → Option ((Unit) × AHeap)) (fun _ _ _ => none) k (zge_ k D j13)
noncomputable def zHe_ (k : Nat) (D : za_) (h_0 : Option Addr) (s_1 : ByteArray) (h : AHeap) : Option ((Unit) × AHeap) :=
 (h_0).bind fun p1 =>
 (ldI .i64 (⟨p1.block, p1.off + 9, none⟩ : Addr) h).bind fun x2 =>
 (h_0).bind fun p3 =>
 (st1 (⟨p3.block, p3.off + 9, none⟩ : Addr) (.int .i64 (IntKind.wrap .i64 (x2 + (s_1.size : Int)))) h).bind fun h4 =>
 (h_0).bind fun p5 =>
 (ldL (⟨p5.block, p5.off + 8, none⟩ : Addr) h4).bind fun x6 =>
 (zl_ 1 1 5 h4 x6 (zM_ s_1) s_1.size).bind fun r7 =>
 (h_0).bind fun p8 =>
 (st1 (⟨p8.block, p8.off + 8, none⟩ : Addr) (.slice r7.1.a r7.1.len r7.1.cap) r7.2).bind fun h9 =>
 zm_ (fun (hv10 : Option Addr) (atv11 : Int) (h12 : AHeap) =>
 (hv10).bind fun p14 =>
 (ldL (⟨p14.block, p14.off + 8, none⟩ : Addr) h12).bind fun x15 =>
 (Gx.subL 1 x15 (some atv11) none none).bind fun l16 =>
 (rdS 1 l16 h12).bind fun n18 =>
 (zl_ 1 1 5 h12 (⟨none, 0, 0⟩ : Slc) n18 l16.len).bind fun r17 =>
 (hv10).bind fun p19 =>
 (st1 (⟨p19.block, p19.off + 8, none⟩ : Addr) (.slice r17.1.a r17.1.len r17.1.cap) r17.2).bind fun h20 =>
 some ((), h20)) fun j13 =>
 zbj_ k D j13 h_0 0 h9
noncomputable def zuq_ : RCode := an (.s .n (.s .n (.s .n (.s (.j [(0, .p), (4, .i .i64)] (.b (.l [(0, .p), (4, .i .i64)] .n))) .n)))) (rOf Tryz.prog 2 Tryz.f34)
noncomputable def znq_ (k : Nat) (D : za_) : Ent := zn_ 34 [(0, .p), (1, .s)] [] (zHe_ k D)
theorem zaj_ {D : za_} (hD : zf_ Tryz.prog 2 D) (k : Nat) : zk_ Tryz.prog 2 (znq_ k D) :=
 ze_ (k := k) (rc := zuq_) (cs := []) (zd_ hD (zb_.more (zkq_ hD k) (zb_.none))) Tryz.func34 rfl (by kernel_rfl) rfl (by kernel_rfl)
noncomputable def zyd_ (_k : Nat) (_D : za_) (j7 : (Option Addr) → (Option Addr) → Slc → AHeap → Option ((ByteArray) × AHeap)) (rec47 : (Option Addr) → (Option Addr) → Slc → AHeap → Option ((ByteArray) × AHeap)) (hv43 : Option Addr) (endv44 : Option Addr) (tail45 : Slc) (h46 : AHeap) : Option ((ByteArray) × AHeap) :=
 (endv44).bind fun p48 =>
 (ldL (⟨p48.block, p48.off + 8, none⟩ : Addr) h46).bind fun x49 =>
 let t50 : Int := (Int.tmod (IntKind.wrap .i64 ((x49.len : Int) + (tail45.len : Int))) 64)
 (if (t50 != 56) = true then
 let h51 := AHeap.new h46 (.cells [.int .u8 0] 5 true 0)
 (rdS 1 (⟨(some ⟨h46.next, 0, some 0⟩), 1, 1⟩ : Slc) h51).bind fun n53 =>
 (zl_ 1 1 5 h51 tail45 n53 1).bind fun r52 =>
 rec47 hv43 endv44 r52.1 r52.2
 else
 j7 hv43 endv44 tail45 h46)
noncomputable def zLk_ (k : Nat) (D : za_) (j7 : (Option Addr) → (Option Addr) → Slc → AHeap → Option ((ByteArray) × AHeap)) : (Option Addr) → (Option Addr) → Slc → AHeap → Option ((ByteArray) × AHeap) :=
 zi_ (α := (Option Addr) → (Option Addr) → Slc → AHeap → Option ((ByteArray) × AHeap)) (fun _ _ _ _ => none) k (zyd_ k D j7)
noncomputable def zzd_ (_k : Nat) (_D : za_) (j13 : (Option Addr) → Slc → AHeap → Option ((ByteArray) × AHeap)) (rec38 : (Option Addr) → Slc → Int → Int → AHeap → Option ((ByteArray) × AHeap)) (endv33 : Option Addr) (tail34 : Slc) (count35 : Int) (shift36 : Int) (h37 : AHeap) : Option ((ByteArray) × AHeap) :=
 (if (decide (shift36 ≥ 0)) = true then
 (if 0 ≤ shift36 then
 let t39 : Int := (Int.fdiv count35 (2 ^ (min (shift36).toNat (IntKind.bits .u64))))
 let h40 := AHeap.new h37 (.cells [.int .u8 (IntKind.wrap .u8 t39)] 5 true 0)
 (rdS 1 (⟨(some ⟨h37.next, 0, some 0⟩), 1, 1⟩ : Slc) h40).bind fun n42 =>
 (zl_ 1 1 5 h40 tail34 n42 1).bind fun r41 =>
 rec38 endv33 r41.1 count35 (IntKind.wrap .i64 (shift36 - 8)) r41.2
 else none)
 else
 j13 endv33 tail34 h37)
noncomputable def zKk_ (k : Nat) (D : za_) (j13 : (Option Addr) → Slc → AHeap → Option ((ByteArray) × AHeap)) : (Option Addr) → Slc → Int → Int → AHeap → Option ((ByteArray) × AHeap) :=
 zi_ (α := (Option Addr) → Slc → Int → Int → AHeap → Option ((ByteArray) × AHeap)) (fun _ _ _ _ _ => none) k (zzd_ k D j13)
noncomputable def zFd_ (_k : Nat) (_D : za_) (j18 : Slc → AHeap → Option ((ByteArray) × AHeap)) (rec27 : Slc → (Int × Int × Int × Int × Int × Int × Int × Int) → Int → AHeap → Option ((ByteArray) × AHeap)) (out23 : Slc) (y24 : Int × Int × Int × Int × Int × Int × Int × Int) (y25 : Int) (h26 : AHeap) : Option ((ByteArray) × AHeap) :=
 (if (decide (y25 < 8)) = true then
 (if 0 ≤ y25 ∧ y25 < ((8 : Nat) : Int) then
 (([.int .u32 y24.1, .int .u32 y24.2.1, .int .u32 y24.2.2.1, .int .u32 y24.2.2.2.1, .int .u32 y24.2.2.2.2.1, .int .u32 y24.2.2.2.2.2.1, .int .u32 y24.2.2.2.2.2.2.1, .int .u32 y24.2.2.2.2.2.2.2] : List Value)[(y25).toNat * 1]?).bind fun v28 =>
 (decI .u32 v28).bind fun x29 =>
 let h30 := AHeap.new h26 (.cells [.int .u8 (IntKind.wrap .u8 (Int.fdiv x29 16777216)), .int .u8 (IntKind.wrap .u8 (Int.fdiv x29 65536)), .int .u8 (IntKind.wrap .u8 (Int.fdiv x29 256)), .int .u8 (IntKind.wrap .u8 x29)] 5 true 0)
 (rdS 1 (⟨(some ⟨h26.next, 0, some 0⟩), 4, 4⟩ : Slc) h30).bind fun n32 =>
 (zl_ 1 1 5 h30 out23 n32 4).bind fun r31 =>
 rec27 r31.1 (y24.1, y24.2.1, y24.2.2.1, y24.2.2.2.1, y24.2.2.2.2.1, y24.2.2.2.2.2.1, y24.2.2.2.2.2.2.1, y24.2.2.2.2.2.2.2) (IntKind.wrap .i64 (y25 + 1)) r31.2
 else none)
 else
 j18 out23 h26)
noncomputable def zjk_ (k : Nat) (D : za_) (j18 : Slc → AHeap → Option ((ByteArray) × AHeap)) : Slc → (Int × Int × Int × Int × Int × Int × Int × Int) → Int → AHeap → Option ((ByteArray) × AHeap) :=
 zi_ (α := Slc → (Int × Int × Int × Int × Int × Int × Int × Int) → Int → AHeap → Option ((ByteArray) × AHeap)) (fun _ _ _ _ => none) k (zFd_ k D j18)
noncomputable def zth_ (k : Nat) (D : za_) (h_0 : Option Addr) (h : AHeap) : Option ((ByteArray) × AHeap) :=
 (zMg_ k D h_0 h).bind fun r1 =>
 let h2 := AHeap.new r1.2 (.cells [.int .u8 128] 5 true 0)
 zm_ (fun (hv3 : Option Addr) (endv4 : Option Addr) (tail5 : Slc) (h6 : AHeap) =>
 (hv3).bind fun p8 =>
 (ldI .i64 (⟨p8.block, p8.off + 9, none⟩ : Addr) h6).bind fun x9 =>
 zm_ (fun (endv10 : Option Addr) (tail11 : Slc) (h12 : AHeap) =>
 (zeb_ h12 tail11).bind fun s14 =>
 (zHe_ k D endv10 s14 h12).bind fun r15 =>
 zm_ (fun (out16 : Slc) (h17 : AHeap) =>
 (zeb_ h17 out16).bind fun s19 =>
 some (s19, h17)) fun j18 =>
 (endv10).bind fun p20 =>
 (ldA 8 (⟨p20.block, p20.off + 0, none⟩ : Addr) r15.2).bind fun l21 =>
 (decC [.i .u32, .i .u32, .i .u32, .i .u32, .i .u32, .i .u32, .i .u32, .i .u32] l21).bind fun x22 =>
 zjk_ k D j18 (⟨none, 0, 0⟩ : Slc) (x22.1, x22.2.1, x22.2.2.1, x22.2.2.2.1, x22.2.2.2.2.1, x22.2.2.2.2.2.1, x22.2.2.2.2.2.2.1, x22.2.2.2.2.2.2.2) 0 r15.2) fun j13 =>
 zKk_ k D j13 endv4 tail5 (IntKind.wrap .u64 ((IntKind.wrap .u64 x9) * 8)) 56 h6) fun j7 =>
 zLk_ k D j7 h_0 r1.1 (⟨(some ⟨r1.2.next, 0, some 0⟩), 1, 1⟩ : Slc) h2
noncomputable def zbs_ : RCode := an (.s .n (.s .n (.s .n (.s (.j [(0, .p), (3, .p), (4, .l)] (.b (.l [(0, .p), (3, .p), (4, .l)] .n))) (.s .n (.s (.j [(3, .p), (4, .l)] (.s .n (.b (.l [(3, .p), (4, .l), (5, .i .u64), (6, .i .i64)] .n)))) (.s .n (.s .n (.s (.j [(7, .l)] (.s (.r [(3, .st [.i .u32, .i .u32, .i .u32, .i .u32, .i .u32, .i .u32, .i .u32, .i .u32])]) (.b (.l [(7, .l), (50, .st [.i .u32, .i .u32, .i .u32, .i .u32, .i .u32, .i .u32, .i .u32, .i .u32]), (51, .i .i64)] .n)))) .n))))))))) (rOf Tryz.prog 2 Tryz.f35)
noncomputable def zMr_ (k : Nat) (D : za_) : Ent := zn_ 35 [(0, .p)] [(2, .s)] (zth_ k D)
theorem znr_ {D : za_} (hD : zf_ Tryz.prog 2 D) (k : Nat) : zk_ Tryz.prog 2 (zMr_ k D) :=
 ze_ (k := k) (rc := zbs_) (cs := [none]) (zd_ hD (zb_.more (zGq_ hD k) (zb_.more (zaj_ hD k) (zb_.none)))) Tryz.func35 rfl (by kernel_rfl) rfl (by kernel_rfl)
noncomputable def zzg_ (k : Nat) (D : za_) (j4 : (Option Addr) → AHeap → Option ((ByteArray) × AHeap)) (rec11 : (Option Addr) → Slc → Int → Int → AHeap → Option ((ByteArray) × AHeap)) (hv6 : Option Addr) (y7 : Slc) (y8 : Int) (y9 : Int) (h10 : AHeap) : Option ((ByteArray) × AHeap) :=
 (if (decide (y9 < y8)) = true then
 (Gx.idxL 1 y7 y9).bind fun q12 =>
 (ldS q12 h10).bind fun x13 =>
 (zHe_ k D hv6 x13 h10).bind fun r14 =>
 rec11 hv6 y7 y8 (IntKind.wrap .i64 (y9 + 1)) r14.2
 else
 j4 hv6 h10)
noncomputable def zKq_ (k : Nat) (D : za_) (j4 : (Option Addr) → AHeap → Option ((ByteArray) × AHeap)) : (Option Addr) → Slc → Int → Int → AHeap → Option ((ByteArray) × AHeap) :=
 zi_ (α := (Option Addr) → Slc → Int → Int → AHeap → Option ((ByteArray) × AHeap)) (fun _ _ _ _ _ => none) k (zzg_ k D j4)
noncomputable def zNe_ (k : Nat) (D : za_) (pieces_0 : Slc) (h : AHeap) : Option ((ByteArray) × AHeap) :=
 (zkp_ k D h).bind fun r1 =>
 zm_ (fun (hv2 : Option Addr) (h3 : AHeap) =>
 (zth_ k D hv2 h3).bind fun r5 =>
 some (r5.1, r5.2)) fun j4 =>
 zKq_ k D j4 r1.1 pieces_0 (pieces_0.len : Int) 0 r1.2
noncomputable def zQz_ : RCode := an (.s .n (.s .n (.s (.j [(3, .p)] (.s .n (.b (.l [(3, .p), (7, .l), (8, .i .i64), (9, .i .i64)] .n)))) .n))) (rOf Tryz.prog 2 Tryz.f10)
noncomputable def zCz_ (k : Nat) (D : za_) : Ent := zn_ 10 [(0, .l)] [(2, .s)] (zNe_ k D)
theorem zUf_ {D : za_} (hD : zf_ Tryz.prog 2 D) (k : Nat) : zk_ Tryz.prog 2 (zCz_ k D) :=
 ze_ (k := k) (rc := zQz_) (cs := [none]) (zd_ hD (zb_.more (zlx_ hD k) (zb_.more (znr_ hD k) (zb_.more (zaj_ hD k) (zb_.none))))) Tryz.func10 rfl (by kernel_rfl) rfl (by kernel_rfl)
noncomputable def zrj_ (k : Nat) (D : za_) (kind_0 : Int) (text_1 : ByteArray) (h : AHeap) : Option ((ByteArray × Int) × AHeap) :=
 (zVf_ k D kind_0 h).bind fun r1 =>
 (if (!r1.1) = true then
 some (((⟨#[]⟩ : ByteArray), 1), r1.2)
 else
 newK r1.2 ((.cells [.int .u8 (IntKind.wrap .u8 kind_0)] 5 true 0)) fun h2 =>
 (zeb_ h2 (⟨(some ⟨r1.2.next, 0, some 0⟩), 1, 1⟩ : Slc)).bind fun s3 =>
 newK h2 ((.cells [.string s3, .string text_1] 9 true 0)) fun h4 =>
 (zNe_ k D (⟨(some ⟨h2.next, 0, some 0⟩), 2, 2⟩ : Slc) h4).bind fun r5 =>
 some ((r5.1, 0), r5.2))
noncomputable def zvA_ : RCode := an (.n) (rOf Tryz.prog 2 Tryz.f23)
noncomputable def zhA_ (k : Nat) (D : za_) : Ent := zn_ 23 [(0, .i .i64), (1, .s)] [(4, .s), (5, .i .i64)] (zrj_ k D)
theorem zJm_ {D : za_} (hD : zf_ Tryz.prog 2 D) (k : Nat) : zk_ Tryz.prog 2 (zhA_ k D) :=
 ze_ (k := k) (rc := zvA_) (cs := [none, none]) (zd_ hD (zb_.more (zUi_ hD k) (zb_.more (zUf_ hD k) (zb_.none)))) Tryz.func23 rfl (by kernel_rfl) rfl (by kernel_rfl)
noncomputable def zTe_ (k : Nat) (D : za_) (n_0 : Int) (h : AHeap) : Option ((ByteArray) × AHeap) :=
 (zih_ k D n_0 h).bind fun r1 =>
 some (r1.1.1, r1.2)
noncomputable def zSu_ : RCode := an (.n) (rOf Tryz.prog 2 Tryz.f43)
noncomputable def zVu_ (k : Nat) (D : za_) : Ent := zn_ 43 [(0, .i .i64)] [(2, .s)] (zTe_ k D)
theorem zTi_ {D : za_} (hD : zf_ Tryz.prog 2 D) (k : Nat) : zk_ Tryz.prog 2 (zVu_ k D) :=
 ze_ (k := k) (rc := zSu_) (cs := [none]) (zd_ hD (zb_.more (zXj_ hD k) (zb_.none))) Tryz.func43 rfl (by kernel_rfl) rfl (by kernel_rfl)
noncomputable def zO_ (_k : Nat) (_D : za_) (b_0 : Option Addr) (h : AHeap) : Option ((Int) × AHeap) :=
 (b_0).bind fun p1 =>
 (ldL (⟨p1.block, p1.off + 1, none⟩ : Addr) h).bind fun x2 =>
 some ((x2.len : Int), h)
noncomputable def zGl_ : RCode := an (.n) (rOf Tryz.prog 2 Tryz.f45)
noncomputable def zwl_ (k : Nat) (D : za_) : Ent := zn_ 45 [(0, .p)] [(2, .i .i64)] (zO_ k D)
theorem zke_ {D : za_} (hD : zf_ Tryz.prog 2 D) (k : Nat) : zk_ Tryz.prog 2 (zwl_ k D) :=
 ze_ (k := k) (rc := zGl_) (cs := [none]) (zd_ hD (zb_.none)) Tryz.func45 rfl (by kernel_rfl) rfl (by kernel_rfl)
noncomputable def zve_ (k : Nat) (D : za_) (b_0 : Option Addr) (blobs_1 : Int) (more_2 : Int) (h : AHeap) : Option ((Int) × AHeap) :=
 (b_0).bind fun p1 =>
 (zO_ k D (some (⟨p1.block, p1.off + 0 + 0, none⟩ : Addr)) h).bind fun r2 =>
 (zTe_ k D blobs_1 r2.2).bind fun r3 =>
 (b_0).bind fun p4 =>
 (zO_ k D (some (⟨p4.block, p4.off + 3, none⟩ : Addr)) r3.2).bind fun r5 =>
 let t6 : Int := (IntKind.wrap .i64 ((IntKind.wrap .i64 (r2.1 + (r3.1.size : Int))) + r5.1))
 some ((IntKind.wrap .i64 ((IntKind.wrap .i64 (t6 + more_2)) + 8)), r5.2)
noncomputable def zhn_ : RCode := an (.n) (rOf Tryz.prog 2 Tryz.f44)
noncomputable def zdn_ (k : Nat) (D : za_) : Ent := zn_ 44 [(0, .p), (1, .i .i64), (2, .i .i64)] [(6, .i .i64)] (zve_ k D)
theorem zQl_ {D : za_} (hD : zf_ Tryz.prog 2 D) (k : Nat) : zk_ Tryz.prog 2 (zdn_ k D) :=
 ze_ (k := k) (rc := zhn_) (cs := [none]) (zd_ hD (zb_.more (zke_ hD k) (zb_.more (zTi_ hD k) (zb_.none)))) Tryz.func44 rfl (by kernel_rfl) rfl (by kernel_rfl)
noncomputable def zHc_ (k : Nat) (D : za_) (b_0 : Option Addr) (kind_1 : Int) (text_2 : ByteArray) (h : AHeap) : Option ((ByteArray × Int) × AHeap) :=
 (zli_ k D kind_1 text_2 h).bind fun r1 =>
 (if (r1.1.2 != 0) = true then
 some (((⟨#[]⟩ : ByteArray), r1.1.2), r1.2)
 else
 (zrj_ k D kind_1 text_2 r1.2).bind fun r2 =>
 (b_0).bind fun p3 =>
 (ldM (⟨p3.block, p3.off + 6, none⟩ : Addr) r2.2).bind fun x4 =>
 (zuc_ decS (.string ⟨#[]⟩) r2.2 x4 (.string r2.1.1)).bind fun p5 =>
 (if p5.2 = true then
 some (((⟨#[]⟩ : ByteArray), 6), r2.2)
 else
 let h6 := AHeap.resv r2.2 1
 (zTe_ k D (r1.1.1.size : Int) h6).bind fun r7 =>
 (zTe_ k D (text_2.size : Int) r7.2).bind fun r8 =>
 let h9 := AHeap.set r8.2 (r2.2.next + 0) (.cells [.int .u8 (IntKind.wrap .u8 kind_1)] 5 true 0)
 (zeb_ h9 (⟨(some ⟨(r2.2.next + 0), 0, some 0⟩), 1, 1⟩ : Slc)).bind fun s10 =>
 zR_ (OwnW (r2.2.next + 0) h9 (fun H12 => (zeb_ H12 (⟨(some ⟨(r2.2.next + 0), 0, some 0⟩), 1, 1⟩ : Slc)).bind fun y11 => some (.string y11)) (.string s10)) (
 (if r2.1.1.size + s10.size ≤ 9223372036854775807 then
 (if (r2.1.1 ++ s10).size + r7.1.size ≤ 9223372036854775807 then
 (if ((r2.1.1 ++ s10) ++ r7.1).size + r8.1.size ≤ 9223372036854775807 then
 (b_0).bind fun p13 =>
 (ldL (⟨p13.block, p13.off + 5, none⟩ : Addr) h9).bind fun x14 =>
 let t15 : Int := (IntKind.wrap .i64 ((r1.1.1.size : Int) + ((((r2.1.1 ++ s10) ++ r7.1) ++ r8.1).size : Int)))
 (zve_ k D b_0 (IntKind.wrap .i64 ((x14.len : Int) + 1)) t15 h9).bind fun r16 =>
 zm_ (fun (b17 : Option Addr) (kind18 : Int) (text19 : ByteArray) (id20 : ByteArray) (s21 : ByteArray) (line22 : ByteArray) (y23 : Bool) (h24 : AHeap) =>
 (if y23 = true then
 some (((⟨#[]⟩ : ByteArray), 2), h24)
 else
 (b17).bind fun p26 =>
 (zO_ k D (some (⟨p26.block, p26.off + 0 + 0, none⟩ : Addr)) h24).bind fun r27 =>
 newK r27.2 ((.cells [.string ⟨#[]⟩, .int .i64 0, .int .i64 0, .int .i64 0, .int .i64 0] 50 true 0)) fun h28 =>
 (stL 5 (⟨r27.2.next, 0, none⟩ : Addr) ([.string (⟨#[]⟩ : ByteArray), .int .i64 kind18, .int .i64 r27.1, .int .i64 (s21.size : Int), .int .i64 (text19.size : Int)]) h28).bind fun h29 =>
 (ldA 5 (⟨r27.2.next, 0, none⟩ : Addr) h29).bind fun l30 =>
 (decC [.s, .i .i64, .i .i64, .i .i64, .i .i64] l30).bind fun x31 =>
 newK h29 ((.cells [.string id20, .string x31.1, .int .i64 x31.2.1, .int .i64 x31.2.2.1, .int .i64 x31.2.2.2.1, .int .i64 x31.2.2.2.2] 57 true 0)) fun h32 =>
 (b17).bind fun p33 =>
 (ldL (⟨p33.block, p33.off + 5, none⟩ : Addr) h32).bind fun x34 =>
 zR_ (zKb_ [h29] (fun H36 => (ldL (⟨p33.block, p33.off + 5, none⟩ : Addr) H36).bind fun y35 => some (.slice y35.a y35.len y35.cap)) (.slice x34.a x34.len x34.cap)) (
 (rdS 6 (⟨(some ⟨h29.next, 0, some 0⟩), 1, 1⟩ : Slc) h32).bind fun n38 =>
 (zl_ 6 64 57 h32 x34 n38 1).bind fun r37 =>
 (b17).bind fun p39 =>
 (st1 (⟨p39.block, p39.off + 5, none⟩ : Addr) (.slice r37.1.a r37.1.len r37.1.cap) r37.2).bind fun h40 =>
 (b17).bind fun p41 =>
 (ldM (⟨p41.block, p41.off + 6, none⟩ : Addr) h40).bind fun x42 =>
 (x42).bind fun r44 =>
 (updE h40 r44 (.string id20) (.string text19)).bind fun h43 =>
 (b17).bind fun p45 =>
 (zt_ k D (some (⟨p45.block, p45.off + 0 + 0, none⟩ : Addr)) s21 h43).bind fun r46 =>
 (b17).bind fun p47 =>
 (zt_ k D (some (⟨p47.block, p47.off + 3, none⟩ : Addr)) line22 r46.2).bind fun r48 =>
 some ((id20, 0), r48.2)))) fun j25 =>
 (b_0).bind fun p49 =>
 (ldI .i64 (⟨p49.block, p49.off + 2, none⟩ : Addr) r16.2).bind fun x50 =>
 (if (decide (r16.1 > x50)) = true then
 (b_0).bind fun p51 =>
 (ldL (⟨p51.block, p51.off + 5, none⟩ : Addr) r16.2).bind fun x52 =>
 (if (decide ((x52.len : Int) > 0)) = true then
 j25 b_0 kind_1 text_2 r2.1.1 r1.1.1 (((r2.1.1 ++ s10) ++ r7.1) ++ r8.1) true r16.2
 else
 (if (decide (r16.1 > 65536)) = true then
 j25 b_0 kind_1 text_2 r2.1.1 r1.1.1 (((r2.1.1 ++ s10) ++ r7.1) ++ r8.1) true r16.2
 else
 (b_0).bind fun p53 =>
 (ldL (⟨p53.block, p53.off + 5, none⟩ : Addr) r16.2).bind fun x54 =>
 j25 b_0 kind_1 text_2 r2.1.1 r1.1.1 (((r2.1.1 ++ s10) ++ r7.1) ++ r8.1) (decide ((x54.len : Int) ≥ 4096)) r16.2))
 else
 (if (decide (r16.1 > 65536)) = true then
 j25 b_0 kind_1 text_2 r2.1.1 r1.1.1 (((r2.1.1 ++ s10) ++ r7.1) ++ r8.1) true r16.2
 else
 (b_0).bind fun p55 =>
 (ldL (⟨p55.block, p55.off + 5, none⟩ : Addr) r16.2).bind fun x56 =>
 j25 b_0 kind_1 text_2 r2.1.1 r1.1.1 (((r2.1.1 ++ s10) ++ r7.1) ++ r8.1) (decide ((x56.len : Int) ≥ 4096)) r16.2))
 else none)
 else none)
 else none))))
noncomputable def zPo_ : RCode := an (.s .n (.s .n (.s .n (.s .n (.s .n (.s .n (.s .n (.s (.s (.j [(0, .p), (1, .i .i64), (2, .s), (6, .s), (8, .s), (11, .s), (91, .b)] .n) .n) (.s .n (.s (.r [(1, .st [.s, .i .i64, .i .i64, .i .i64, .i .i64])]) .n)))))))))) (rOf Tryz.prog 2 Tryz.f19)
noncomputable def zTn_ (k : Nat) (D : za_) : Ent := zn_ 19 [(0, .p), (1, .i .i64), (2, .s)] [(6, .s), (7, .i .i64)] (zHc_ k D)
theorem zNh_ {D : za_} (hD : zf_ Tryz.prog 2 D) (k : Nat) : zk_ Tryz.prog 2 (zTn_ k D) :=
 ze_ (k := k) (rc := zPo_) (cs := [none, none]) (zd_ hD (zb_.more (zXr_ hD k) (zb_.more (zJm_ hD k) (zb_.more (zTi_ hD k) (zb_.more (zQl_ hD k) (zb_.more (zke_ hD k) (zb_.more (zHb_ hD k) (zb_.none)))))))) Tryz.func19 rfl (by kernel_rfl) rfl (by kernel_rfl)
noncomputable def zK_ (_k : Nat) (_D : za_) (b_0 : Option Addr) (h : AHeap) : Option ((ByteArray) × AHeap) :=
 (b_0).bind fun p1 =>
 (ldL (⟨p1.block, p1.off + 1, none⟩ : Addr) h).bind fun x2 =>
 (zYj_ x2).bind fun p3 =>
 (b_0).bind fun p4 =>
 (ldL (⟨p4.block, p4.off + 1, none⟩ : Addr) h).bind fun x5 =>
 (unsA 5 p3 (x5.len : Int) h).bind fun r6 =>
 some (r6.1, r6.2)
noncomputable def zHj_ : RCode := an (.n) (rOf Tryz.prog 2 Tryz.f17)
noncomputable def zAj_ (k : Nat) (D : za_) : Ent := zn_ 17 [(0, .p)] [(2, .s)] (zK_ k D)
theorem zod_ {D : za_} (hD : zf_ Tryz.prog 2 D) (k : Nat) : zk_ Tryz.prog 2 (zAj_ k D) :=
 ze_ (k := k) (rc := zHj_) (cs := [none]) (zd_ hD (zb_.none)) Tryz.func17 rfl (by kernel_rfl) rfl (by kernel_rfl)
noncomputable def zef_ (_k : Nat) (_D : za_) (j11 : Int → Int → Slc → AHeap → Option ((ByteArray × Int) × AHeap)) (rec24 : Int → Int → Slc → Int → Int → AHeap → Option ((ByteArray × Int) × AHeap)) (n18 : Int) (bytes19 : Int) (b20 : Slc) (y21 : Int) (y22 : Int) (h23 : AHeap) : Option ((ByteArray × Int) × AHeap) :=
 (if (decide (y22 < y21)) = true then
 let t25 : Int := (IntKind.wrap .i64 ((IntKind.wrap .i64 (bytes19 - 1)) - y22))
 (if 0 ≤ (IntKind.wrap .i64 (8 * y22)) then
 let t26 : Int := (Int.fdiv n18 (2 ^ (min ((IntKind.wrap .i64 (8 * y22))).toNat (IntKind.bits .i64))))
 (Gx.idxL 1 b20 t25).bind fun q27 =>
 (st1 q27 (.int .u8 (IntKind.wrap .u8 t26)) h23).bind fun h28 =>
 rec24 n18 bytes19 b20 y21 (IntKind.wrap .i64 (y22 + 1)) h28
 else none)
 else
 j11 n18 bytes19 b20 h23)
noncomputable def zJn_ (k : Nat) (D : za_) (j11 : Int → Int → Slc → AHeap → Option ((ByteArray × Int) × AHeap)) : Int → Int → Slc → Int → Int → AHeap → Option ((ByteArray × Int) × AHeap) :=
 zi_ (α := Int → Int → Slc → Int → Int → AHeap → Option ((ByteArray × Int) × AHeap)) (fun _ _ _ _ _ _ => none) k (zef_ k D j11)
noncomputable def zik_ (k : Nat) (D : za_) (n_0 : Int) (bytes_1 : Int) (h : AHeap) : Option ((ByteArray × Int) × AHeap) :=
 zm_ (fun (n1 : Int) (bytes2 : Int) (y3 : Bool) (h4 : AHeap) =>
 (if y3 = true then
 some (((⟨#[]⟩ : ByteArray), 1), h4)
 else
 (if 0 ≤ bytes2 ∧ bytes2 ≤ bytes2 ∧ bytes2 ≤ 281474976710656 ∧ 1 * bytes2 ≤ 281474976710656 then
 let h6 := AHeap.new h4 (.cells (zu_ (bytes2).toNat [.int .u8 0]) 5 true 0)
 zm_ (fun (n7 : Int) (bytes8 : Int) (b9 : Slc) (h10 : AHeap) =>
 zm_ (fun (b12 : Slc) (y13 : Bool) (h14 : AHeap) =>
 (if y13 = true then
 some (((⟨#[]⟩ : ByteArray), 1), h14)
 else
 (zeb_ h14 b12).bind fun s16 =>
 some ((s16, 0), h14))) fun j15 =>
 (if (decide (bytes8 < 8)) = true then
 (if 0 ≤ (IntKind.wrap .i64 (8 * bytes8)) then
 let t17 : Int := (Int.fdiv n7 (2 ^ (min ((IntKind.wrap .i64 (8 * bytes8))).toNat (IntKind.bits .i64))))
 j15 b9 (decide (t17 > 0)) h10
 else none)
 else
 j15 b9 false h10)) fun j11 =>
 zJn_ k D j11 n1 bytes2 (⟨(some ⟨h4.next, 0, some 0⟩), (bytes2).toNat, (bytes2).toNat⟩ : Slc) ((bytes2).toNat : Int) 0 h6
 else none))) fun j5 =>
 (if (decide (bytes_1 < 1)) = true then
 j5 n_0 bytes_1 true h
 else
 (if (decide (bytes_1 > 8)) = true then
 j5 n_0 bytes_1 true h
 else
 j5 n_0 bytes_1 (decide (n_0 < 0)) h))
noncomputable def zvw_ : RCode := an (.s .n (.s (.s (.j [(0, .i .i64), (1, .i .i64), (17, .b)] .n) .n) (.s .n (.s (.j [(0, .i .i64), (1, .i .i64), (6, .l)] (.s .n (.b (.l [(0, .i .i64), (1, .i .i64), (6, .l), (21, .i .i64), (22, .i .i64)] .n)))) (.s (.s (.j [(6, .l), (45, .b)] .n) .n) .n))))) (rOf Tryz.prog 2 Tryz.f46)
noncomputable def zMw_ (k : Nat) (D : za_) : Ent := zn_ 46 [(0, .i .i64), (1, .i .i64)] [(4, .s), (5, .i .i64)] (zik_ k D)
theorem zEu_ {D : za_} (hD : zf_ Tryz.prog 2 D) (k : Nat) : zk_ Tryz.prog 2 (zMw_ k D) :=
 ze_ (k := k) (rc := zvw_) (cs := [none, none]) (zd_ hD (zb_.none)) Tryz.func46 rfl (by kernel_rfl) rfl (by kernel_rfl)
noncomputable def zac_ (_k : Nat) (_D : za_) (j20 : (Option Addr) → ByteArray → Slc → AHeap → Option ((ByteArray × Slc) × AHeap)) (rec29 : (Option Addr) → ByteArray → Slc → ByteArray → Int → Int → AHeap → Option ((ByteArray × Slc) × AHeap)) (b22 : Option Addr) (s23 : ByteArray) (items24 : Slc) (id25 : ByteArray) (y26 : Int) (y27 : Int) (h28 : AHeap) : Option ((ByteArray × Slc) × AHeap) :=
 (if (decide (y27 < y26)) = true then
 (Gx.idxL 6 items24 y27).bind fun q30 =>
 (st1 (⟨q30.block, q30.off + 1 + 0, none⟩ : Addr) (.string id25) h28).bind fun h31 =>
 rec29 b22 s23 items24 id25 y26 (IntKind.wrap .i64 (y27 + 1)) h31
 else
 j20 b22 s23 items24 h28)
noncomputable def zog_ (k : Nat) (D : za_) (j20 : (Option Addr) → ByteArray → Slc → AHeap → Option ((ByteArray × Slc) × AHeap)) : (Option Addr) → ByteArray → Slc → ByteArray → Int → Int → AHeap → Option ((ByteArray × Slc) × AHeap) :=
 zi_ (α := (Option Addr) → ByteArray → Slc → ByteArray → Int → Int → AHeap → Option ((ByteArray × Slc) × AHeap)) (fun _ _ _ _ _ _ _ => none) k (zac_ k D j20)
noncomputable def zec_ (k : Nat) (D : za_) (b_0 : Option Addr) (h : AHeap) : Option ((ByteArray × Slc) × AHeap) :=
 (b_0).bind fun p1 =>
 (ldL (⟨p1.block, p1.off + 5, none⟩ : Addr) h).bind fun x2 =>
 (if ((x2.len : Int) == 0) = true then
 some (((⟨#[]⟩ : ByteArray), (⟨none, 0, 0⟩ : Slc)), h)
 else
 (b_0).bind fun p3 =>
 (ldL (⟨p3.block, p3.off + 5, none⟩ : Addr) h).bind fun x4 =>
 (zTe_ k D (x4.len : Int) h).bind fun r5 =>
 (b_0).bind fun p6 =>
 (zK_ k D (some (⟨p6.block, p6.off + 3, none⟩ : Addr)) r5.2).bind fun r7 =>
 (if r5.1.size + r7.1.size ≤ 9223372036854775807 then
 (zik_ k D ((r5.1 ++ r7.1).size : Int) 4 r7.2).bind fun r8 =>
 (b_0).bind fun p9 =>
 (zK_ k D (some (⟨p9.block, p9.off + 0 + 0, none⟩ : Addr)) r8.2).bind fun r10 =>
 (if r10.1.size + (r5.1 ++ r7.1).size ≤ 9223372036854775807 then
 (if (r10.1 ++ (r5.1 ++ r7.1)).size + r8.1.1.size ≤ 9223372036854775807 then
 (if ((r10.1 ++ (r5.1 ++ r7.1)) ++ r8.1.1).size + (⟨#[80, 69, 78, 68]⟩ : ByteArray).size ≤ 9223372036854775807 then
 let s11 : ByteArray := (((r10.1 ++ (r5.1 ++ r7.1)) ++ r8.1.1) ++ (⟨#[80, 69, 78, 68]⟩ : ByteArray))
 newK r10.2 ((.cells [.string s11] 9 true 0)) fun h12 =>
 (zNe_ k D (⟨(some ⟨r10.2.next, 0, some 0⟩), 1, 1⟩ : Slc) h12).bind fun r13 =>
 (b_0).bind fun p14 =>
 (ldL (⟨p14.block, p14.off + 5, none⟩ : Addr) r13.2).bind fun x15 =>
 zm_ (fun (b16 : Option Addr) (s17 : ByteArray) (items18 : Slc) (h19 : AHeap) =>
 (zNc_ k D b16 h19).bind fun r21 =>
 some ((s17, items18), r21.2)) fun j20 =>
 zog_ k D j20 b_0 s11 x15 r13.1 (x15.len : Int) 0 r13.2
 else none)
 else none)
 else none)
 else none))
noncomputable def zzl_ : RCode := an (.s .n (.s .n (.s .n (.s .n (.s .n (.s .n (.s .n (.s (.j [(0, .p), (2, .s), (3, .l)] (.s .n (.b (.l [(0, .p), (2, .s), (3, .l), (7, .s), (50, .i .i64), (51, .i .i64)] .n)))) .n)))))))) (rOf Tryz.prog 2 Tryz.f20)
noncomputable def zCl_ (k : Nat) (D : za_) : Ent := zn_ 20 [(0, .p)] [(2, .s), (3, .l)] (zec_ k D)
theorem zlg_ {D : za_} (hD : zf_ Tryz.prog 2 D) (k : Nat) : zk_ Tryz.prog 2 (zCl_ k D) :=
 ze_ (k := k) (rc := zzl_) (cs := [none, none]) (zd_ hD (zb_.more (zTi_ hD k) (zb_.more (zod_ hD k) (zb_.more (zEu_ hD k) (zb_.more (zUf_ hD k) (zb_.more (zfh_ hD k) (zb_.none))))))) Tryz.func20 rfl (by kernel_rfl) rfl (by kernel_rfl)
noncomputable def zDf_ (_k : Nat) (_D : za_) (s_0 : ByteArray) (h : AHeap) : Option (((Option Addr)) × AHeap) :=
 let h1 := AHeap.new h (.cells [.string s_0, .int .i64 0] 154 true 0)
 some ((some (⟨h.next, 0, none⟩ : Addr)), h1)
noncomputable def zGx_ : RCode := an (.n) (rOf Tryz.prog 2 Tryz.f48)
noncomputable def zwx_ (k : Nat) (D : za_) : Ent := zn_ 48 [(0, .s)] [(2, .p)] (zDf_ k D)
theorem zui_ {D : za_} (hD : zf_ Tryz.prog 2 D) (k : Nat) : zk_ Tryz.prog 2 (zwx_ k D) :=
 ze_ (k := k) (rc := zGx_) (cs := [none]) (zd_ hD (zb_.none)) Tryz.func48 rfl (by kernel_rfl) rfl (by kernel_rfl)
noncomputable def zob_ (_k : Nat) (_D : za_) (r_0 : Option Addr) (e_1 : Int) (h : AHeap) : Option ((Unit) × AHeap) :=
 (r_0).bind fun p1 =>
 (ldI .i64 (⟨p1.block, p1.off + 1, none⟩ : Addr) h).bind fun x2 =>
 (if (x2 == 0) = true then
 (r_0).bind fun p3 =>
 (st1 (⟨p3.block, p3.off + 1, none⟩ : Addr) (.int .i64 e_1) h).bind fun h4 =>
 some ((), h4)
 else
 some ((), h))
noncomputable def ztp_ : RCode := an (.n) (rOf Tryz.prog 2 Tryz.f90)
noncomputable def zup_ (k : Nat) (D : za_) : Ent := zn_ 90 [(0, .p), (1, .i .i64)] [] (zob_ k D)
theorem zZd_ {D : za_} (hD : zf_ Tryz.prog 2 D) (k : Nat) : zk_ Tryz.prog 2 (zup_ k D) :=
 ze_ (k := k) (rc := ztp_) (cs := []) (zd_ hD (zb_.none)) Tryz.func90 rfl (by kernel_rfl) rfl (by kernel_rfl)
noncomputable def zcc_ (_k : Nat) (_D : za_) (r_0 : Option Addr) (h : AHeap) : Option ((Int) × AHeap) :=
 (r_0).bind fun p1 =>
 (ldS (⟨p1.block, p1.off + 0, none⟩ : Addr) h).bind fun x2 =>
 some ((x2.size : Int), h)
noncomputable def zrp_ : RCode := an (.n) (rOf Tryz.prog 2 Tryz.f91)
noncomputable def zCp_ (k : Nat) (D : za_) : Ent := zn_ 91 [(0, .p)] [(2, .i .i64)] (zcc_ k D)
theorem zMf_ {D : za_} (hD : zf_ Tryz.prog 2 D) (k : Nat) : zk_ Tryz.prog 2 (zCp_ k D) :=
 ze_ (k := k) (rc := zrp_) (cs := [none]) (zd_ hD (zb_.none)) Tryz.func91 rfl (by kernel_rfl) rfl (by kernel_rfl)
noncomputable def zjb_ (k : Nat) (D : za_) (r_0 : Option Addr) (n_1 : Int) (h : AHeap) : Option ((ByteArray) × AHeap) :=
 zm_ (fun (r1 : Option Addr) (n2 : Int) (h3 : AHeap) =>
 (r1).bind fun p5 =>
 (ldI .i64 (⟨p5.block, p5.off + 1, none⟩ : Addr) h3).bind fun x6 =>
 (if (x6 != 0) = true then
 some ((⟨#[]⟩ : ByteArray), h3)
 else
 (r1).bind fun p7 =>
 (ldS (⟨p7.block, p7.off + 0, none⟩ : Addr) h3).bind fun x8 =>
 (Gx.subS x8 none (some n2)).bind fun s9 =>
 (r1).bind fun p10 =>
 (ldS (⟨p10.block, p10.off + 0, none⟩ : Addr) h3).bind fun x11 =>
 (Gx.subS x11 (some n2) none).bind fun s12 =>
 (r1).bind fun p13 =>
 (st1 (⟨p13.block, p13.off + 0, none⟩ : Addr) (.string s12) h3).bind fun h14 =>
 some (s9, h14))) fun j4 =>
 (if (decide (n_1 < 0)) = true then
 (zob_ k D r_0 1 h).bind fun r15 =>
 j4 r_0 n_1 r15.2
 else
 (zcc_ k D r_0 h).bind fun r16 =>
 (if (decide (n_1 > r16.1)) = true then
 (zob_ k D r_0 10 r16.2).bind fun r17 =>
 j4 r_0 n_1 r17.2
 else
 j4 r_0 n_1 r16.2))
noncomputable def zxn_ : RCode := an (.s .n (.s (.j [(0, .p), (1, .i .i64)] .n) .n)) (rOf Tryz.prog 2 Tryz.f70)
noncomputable def zbo_ (k : Nat) (D : za_) : Ent := zn_ 70 [(0, .p), (1, .i .i64)] [(4, .s)] (zjb_ k D)
theorem zOd_ {D : za_} (hD : zf_ Tryz.prog 2 D) (k : Nat) : zk_ Tryz.prog 2 (zbo_ k D) :=
 ze_ (k := k) (rc := zxn_) (cs := [none]) (zd_ hD (zb_.more (zZd_ hD k) (zb_.more (zMf_ hD k) (zb_.none)))) Tryz.func70 rfl (by kernel_rfl) rfl (by kernel_rfl)
noncomputable def zP_ (_k : Nat) (_D : za_) (j7 : Int → AHeap → Option ((Int) × AHeap)) (rec15 : Int → Slc → Int → Int → AHeap → Option ((Int) × AHeap)) (n10 : Int) (y11 : Slc) (y12 : Int) (y13 : Int) (h14 : AHeap) : Option ((Int) × AHeap) :=
 (if (decide (y13 < y12)) = true then
 (Gx.idxL 1 y11 y13).bind fun q16 =>
 (ldI .u8 q16 h14).bind fun x17 =>
 let t18 : Int := (Go.bits .or .i64 (IntKind.wrap .i64 (n10 * 256)) (IntKind.wrap .i64 x17))
 rec15 t18 y11 y12 (IntKind.wrap .i64 (y13 + 1)) h14
 else
 j7 n10 h14)
noncomputable def zsf_ (k : Nat) (D : za_) (j7 : Int → AHeap → Option ((Int) × AHeap)) : Int → Slc → Int → Int → AHeap → Option ((Int) × AHeap) :=
 zi_ (α := Int → Slc → Int → Int → AHeap → Option ((Int) × AHeap)) (fun _ _ _ _ _ => none) k (zP_ k D j7)
noncomputable def zub_ (k : Nat) (D : za_) (r_0 : Option Addr) (bytes_1 : Int) (h : AHeap) : Option ((Int) × AHeap) :=
 zm_ (fun (r1 : Option Addr) (bytes2 : Int) (h3 : AHeap) =>
 zm_ (fun (n5 : Int) (h6 : AHeap) =>
 some (n5, h6)) fun j7 =>
 (zjb_ k D r1 bytes2 h3).bind fun r8 =>
 let h9 := AHeap.new r8.2 (.cells (zM_ r8.1) 5 true 18446744073709551616)
 zsf_ k D j7 0 (⟨(some ⟨r8.2.next, 0, some 2⟩), r8.1.size, r8.1.size⟩ : Slc) (r8.1.size : Int) 0 h9) fun j4 =>
 zm_ (fun (r19 : Option Addr) (bytes20 : Int) (y21 : Bool) (h22 : AHeap) =>
 (if y21 = true then
 (zob_ k D r19 1 h22).bind fun r24 =>
 j4 r19 bytes20 r24.2
 else
 j4 r19 bytes20 h22)) fun j23 =>
 (if (decide (bytes_1 < 1)) = true then
 j23 r_0 bytes_1 true h
 else
 j23 r_0 bytes_1 (decide (bytes_1 > 7)) h)
noncomputable def zco_ : RCode := an (.s .n (.s (.j [(0, .p), (1, .i .i64)] (.s (.j [(0, .p), (1, .i .i64), (14, .b)] .n) .n)) (.s .n (.s .n (.s (.j [(6, .i .i64)] (.s (.r [(2, .s)]) (.b (.l [(6, .i .i64), (22, .l), (23, .i .i64), (24, .i .i64)] .n)))) .n))))) (rOf Tryz.prog 2 Tryz.f88)
noncomputable def zto_ (k : Nat) (D : za_) : Ent := zn_ 88 [(0, .p), (1, .i .i64)] [(4, .i .i64)] (zub_ k D)
theorem zHd_ {D : za_} (hD : zf_ Tryz.prog 2 D) (k : Nat) : zk_ Tryz.prog 2 (zto_ k D) :=
 ze_ (k := k) (rc := zco_) (cs := [none]) (zd_ hD (zb_.more (zOd_ hD k) (zb_.more (zZd_ hD k) (zb_.none)))) Tryz.func88 rfl (by kernel_rfl) rfl (by kernel_rfl)
noncomputable def zhb_ (_k : Nat) (_D : za_) (s_0 : ByteArray) (prefix_1 : ByteArray) (h : AHeap) : Option ((Bool) × AHeap) :=
 (if (decide ((s_0.size : Int) ≥ (prefix_1.size : Int))) = true then
 (Gx.subS s_0 none (some (prefix_1.size : Int))).bind fun s1 =>
 some ((s1 == prefix_1), h)
 else
 some (false, h))
noncomputable def zQg_ : RCode := an (.n) (rOf Tryz.prog 2 Tryz.f117)
noncomputable def zVg_ (k : Nat) (D : za_) : Ent := zn_ 117 [(0, .s), (1, .s)] [(4, .b)] (zhb_ k D)
theorem ztd_ {D : za_} (hD : zf_ Tryz.prog 2 D) (k : Nat) : zk_ Tryz.prog 2 (zVg_ k D) :=
 ze_ (k := k) (rc := zQg_) (cs := [none]) (zd_ hD (zb_.none)) Tryz.func117 rfl (by kernel_rfl) rfl (by kernel_rfl)
noncomputable def zwe_ (k : Nat) (D : za_) (s_0 : ByteArray) (prefix_1 : ByteArray) (h : AHeap) : Option ((Bool) × AHeap) :=
 (zhb_ k D s_0 prefix_1 h).bind fun r1 =>
 some (r1.1, r1.2)
noncomputable def zon_ : RCode := an (.n) (rOf Tryz.prog 2 Tryz.f86)
noncomputable def zan_ (k : Nat) (D : za_) : Ent := zn_ 86 [(0, .s), (1, .s)] [(4, .b)] (zwe_ k D)
theorem zRl_ {D : za_} (hD : zf_ Tryz.prog 2 D) (k : Nat) : zk_ Tryz.prog 2 (zan_ k D) :=
 ze_ (k := k) (rc := zon_) (cs := [none]) (zd_ hD (zb_.more (ztd_ hD k) (zb_.none))) Tryz.func86 rfl (by kernel_rfl) rfl (by kernel_rfl)
noncomputable def zBc_ (_k : Nat) (_D : za_) (s_0 : ByteArray) (suffix_1 : ByteArray) (h : AHeap) : Option ((Bool) × AHeap) :=
 (if (decide ((s_0.size : Int) ≥ (suffix_1.size : Int))) = true then
 let t1 : Int := (IntKind.wrap .i64 ((s_0.size : Int) - (suffix_1.size : Int)))
 (Gx.subS s_0 (some t1) none).bind fun s2 =>
 some ((s2 == suffix_1), h)
 else
 some (false, h))
noncomputable def zOg_ : RCode := an (.n) (rOf Tryz.prog 2 Tryz.f118)
noncomputable def zSg_ (k : Nat) (D : za_) : Ent := zn_ 118 [(0, .s), (1, .s)] [(4, .b)] (zBc_ k D)
theorem ztg_ {D : za_} (hD : zf_ Tryz.prog 2 D) (k : Nat) : zk_ Tryz.prog 2 (zSg_ k D) :=
 ze_ (k := k) (rc := zOg_) (cs := [none]) (zd_ hD (zb_.none)) Tryz.func118 rfl (by kernel_rfl) rfl (by kernel_rfl)
noncomputable def zxe_ (k : Nat) (D : za_) (s_0 : ByteArray) (suffix_1 : ByteArray) (h : AHeap) : Option ((Bool) × AHeap) :=
 (zBc_ k D s_0 suffix_1 h).bind fun r1 =>
 some (r1.1, r1.2)
noncomputable def zln_ : RCode := an (.n) (rOf Tryz.prog 2 Tryz.f87)
noncomputable def zjn_ (k : Nat) (D : za_) : Ent := zn_ 87 [(0, .s), (1, .s)] [(4, .b)] (zxe_ k D)
theorem zOl_ {D : za_} (hD : zf_ Tryz.prog 2 D) (k : Nat) : zk_ Tryz.prog 2 (zjn_ k D) :=
 ze_ (k := k) (rc := zln_) (cs := [none]) (zd_ hD (zb_.more (ztg_ hD k) (zb_.none))) Tryz.func87 rfl (by kernel_rfl) rfl (by kernel_rfl)
noncomputable def zdj_ (k : Nat) (D : za_) (s_0 : ByteArray) (h : AHeap) : Option ((Int × ByteArray × Bool) × AHeap) :=
 zm_ (fun (s1 : ByteArray) (y2 : Bool) (h3 : AHeap) =>
 (if y2 = true then
 some ((0, (⟨#[]⟩ : ByteArray), false), h3)
 else
 (Gx.subS s1 none (some (IntKind.wrap .i64 ((s1.size : Int) - 8)))).bind fun s5 =>
 (Gx.subS s1 (some (s5.size : Int)) none).bind fun s6 =>
 (zDf_ k D s6 h3).bind fun r7 =>
 (zub_ k D r7.1 4 r7.2).bind fun r8 =>
 (if (decide (r8.1 > (IntKind.wrap .i64 ((s5.size : Int) - 5)))) = true then
 some ((0, (⟨#[]⟩ : ByteArray), false), r8.2)
 else
 (Gx.subS s5 (some (IntKind.wrap .i64 ((s5.size : Int) - r8.1))) none).bind fun s9 =>
 some (((IntKind.wrap .i64 ((s5.size : Int) - r8.1)), s9, true), r8.2)))) fun j4 =>
 (if (decide ((s_0.size : Int) > 65536)) = true then
 j4 s_0 true h
 else
 (if (decide ((s_0.size : Int) < 14)) = true then
 j4 s_0 true h
 else
 (zwe_ k D s_0 (⟨#[71, 82, 84, 80, 1]⟩ : ByteArray) h).bind fun r10 =>
 (if (!r10.1) = true then
 j4 s_0 true r10.2
 else
 (zxe_ k D s_0 (⟨#[80, 69, 78, 68]⟩ : ByteArray) r10.2).bind fun r11 =>
 j4 s_0 (!r11.1) r11.2)))
noncomputable def ziu_ : RCode := an (.s .n (.s (.s (.j [(0, .s), (24, .b)] .n) .n) .n)) (rOf Tryz.prog 2 Tryz.f47)
noncomputable def zru_ (k : Nat) (D : za_) : Ent := zn_ 47 [(0, .s)] [(2, .i .i64), (3, .s), (4, .b)] (zdj_ k D)
theorem zht_ {D : za_} (hD : zf_ Tryz.prog 2 D) (k : Nat) : zk_ Tryz.prog 2 (zru_ k D) :=
 ze_ (k := k) (rc := ziu_) (cs := [none, none, none]) (zd_ hD (zb_.more (zui_ hD k) (zb_.more (zHd_ hD k) (zb_.more (zRl_ hD k) (zb_.more (zOl_ hD k) (zb_.none)))))) Tryz.func47 rfl (by kernel_rfl) rfl (by kernel_rfl)
noncomputable def zhf_ (_k : Nat) (_D : za_) (j3 : ByteArray → AHeap → Option ((Int × Int × Int) × AHeap)) (rec9 : ByteArray → Int → Int → Int → AHeap → Option ((Int × Int × Int) × AHeap)) (s4 : ByteArray) (n5 : Int) (y6 : Int) (y7 : Int) (h8 : AHeap) : Option ((Int × Int × Int) × AHeap) :=
 (if (decide (y7 < y6)) = true then
 (Gx.idxS s4 y7).bind fun b10 =>
 (if 0 ≤ (IntKind.wrap .i64 (7 * y7)) then
 let t11 : Int := (IntKind.wrap .i64 ((Go.bits .andNot .i64 (IntKind.wrap .i64 b10) 128) * 2 ^ (min ((IntKind.wrap .i64 (7 * y7))).toNat (IntKind.bits .i64))))
 (if (decide ((IntKind.wrap .i64 b10) ≥ 128)) = true then
 rec9 s4 (Go.bits .or .i64 n5 t11) y6 (IntKind.wrap .i64 (y7 + 1)) h8
 else
 zm_ (fun (n12 : Int) (i13 : Int) (y14 : Bool) (h15 : AHeap) =>
 (if y14 = true then
 some ((0, 0, 3), h15)
 else
 some ((n12, (IntKind.wrap .i64 (i13 + 1)), 0), h15))) fun j16 =>
 (if ((IntKind.wrap .i64 b10) == 0) = true then
 j16 (Go.bits .or .i64 n5 t11) y7 (decide (y7 > 0)) h8
 else
 j16 (Go.bits .or .i64 n5 t11) y7 false h8))
 else none)
 else
 j3 s4 h8)
noncomputable def zOj_ (k : Nat) (D : za_) (j3 : ByteArray → AHeap → Option ((Int × Int × Int) × AHeap)) : ByteArray → Int → Int → Int → AHeap → Option ((Int × Int × Int) × AHeap) :=
 zi_ (α := ByteArray → Int → Int → Int → AHeap → Option ((Int × Int × Int) × AHeap)) (fun _ _ _ _ _ => none) k (zhf_ k D j3)
noncomputable def zuk_ (k : Nat) (D : za_) (s_0 : ByteArray) (h : AHeap) : Option ((Int × Int × Int) × AHeap) :=
 zm_ (fun (s1 : ByteArray) (h2 : AHeap) =>
 (if (decide ((s1.size : Int) < 9)) = true then
 some ((0, 0, 10), h2)
 else
 some ((0, 0, 3), h2))) fun j3 =>
 zOj_ k D j3 s_0 0 (if 9 < (s_0.size : Int) then 9 else (s_0.size : Int)) 0 h
noncomputable def zQv_ : RCode := an (.s .n (.s (.j [(0, .s)] (.s .n (.b (.l [(0, .s), (2, .i .i64), (9, .i .i64), (10, .i .i64)] (.s .n (.s .n (.s (.b (.s .n (.s .n (.s .n (.b (.s .n (.s .n (.s (.j [(2, .i .i64), (5, .i .i64), (30, .b)] .n) .n)))))))) .n))))))) .n)) (rOf Tryz.prog 2 Tryz.f89)
noncomputable def zJw_ (k : Nat) (D : za_) : Ent := zn_ 89 [(0, .s)] [(2, .i .i64), (3, .i .i64), (4, .i .i64)] (zuk_ k D)
theorem zav_ {D : za_} (hD : zf_ Tryz.prog 2 D) (k : Nat) : zk_ Tryz.prog 2 (zJw_ k D) :=
 ze_ (k := k) (rc := zQv_) (cs := [none, none, none]) (zd_ hD (zb_.none)) Tryz.func89 rfl (by kernel_rfl) rfl (by kernel_rfl)
noncomputable def zV_ (k : Nat) (D : za_) (r_0 : Option Addr) (most_1 : Int) (h : AHeap) : Option ((Int) × AHeap) :=
 (r_0).bind fun p1 =>
 (ldS (⟨p1.block, p1.off + 0, none⟩ : Addr) h).bind fun x2 =>
 (zuk_ k D x2 h).bind fun r3 =>
 zm_ (fun (r4 : Option Addr) (n5 : Int) (long6 : Int) (e7 : Int) (h8 : AHeap) =>
 (zob_ k D r4 e7 h8).bind fun r10 =>
 (r4).bind fun p11 =>
 (ldI .i64 (⟨p11.block, p11.off + 1, none⟩ : Addr) r10.2).bind fun x12 =>
 (if (x12 != 0) = true then
 some (0, r10.2)
 else
 (r4).bind fun p13 =>
 (ldS (⟨p13.block, p13.off + 0, none⟩ : Addr) r10.2).bind fun x14 =>
 (Gx.subS x14 (some long6) none).bind fun s15 =>
 (r4).bind fun p16 =>
 (st1 (⟨p16.block, p16.off + 0, none⟩ : Addr) (.string s15) r10.2).bind fun h17 =>
 some (n5, h17))) fun j9 =>
 zm_ (fun (r18 : Option Addr) (n19 : Int) (long20 : Int) (e21 : Int) (y22 : Bool) (h23 : AHeap) =>
 (if y22 = true then
 j9 r18 n19 long20 2 h23
 else
 j9 r18 n19 long20 e21 h23)) fun j24 =>
 (if (r3.1.2.2 == 0) = true then
 j24 r_0 r3.1.1 r3.1.2.1 r3.1.2.2 (decide (r3.1.1 > most_1)) r3.2
 else
 j24 r_0 r3.1.1 r3.1.2.1 r3.1.2.2 false r3.2)
noncomputable def zeo_ : RCode := an (.s .n (.s .n (.s (.j [(0, .p), (5, .i .i64), (6, .i .i64), (7, .i .i64)] (.s (.j [(0, .p), (5, .i .i64), (6, .i .i64), (7, .i .i64), (23, .b)] .n) .n)) .n))) (rOf Tryz.prog 2 Tryz.f49)
noncomputable def zCf_ (k : Nat) (D : za_) : Ent := zn_ 49 [(0, .p), (1, .i .i64)] [(4, .i .i64)] (zV_ k D)
theorem zdc_ {D : za_} (hD : zf_ Tryz.prog 2 D) (k : Nat) : zk_ Tryz.prog 2 (zCf_ k D) :=
 ze_ (k := k) (rc := zeo_) (cs := [none]) (zd_ hD (zb_.more (zav_ hD k) (zb_.more (zZd_ hD k) (zb_.none)))) Tryz.func49 rfl (by kernel_rfl) rfl (by kernel_rfl)
noncomputable def zAe_ (k : Nat) (D : za_) (r_0 : Option Addr) (h : AHeap) : Option ((Int) × AHeap) :=
 zm_ (fun (r1 : Option Addr) (h2 : AHeap) =>
 (r1).bind fun p4 =>
 (ldI .i64 (⟨p4.block, p4.off + 1, none⟩ : Addr) h2).bind fun x5 =>
 some (x5, h2)) fun j3 =>
 (zcc_ k D r_0 h).bind fun r6 =>
 (if (decide (r6.1 > 0)) = true then
 (zob_ k D r_0 3 r6.2).bind fun r7 =>
 j3 r_0 r7.2
 else
 j3 r_0 r6.2)
noncomputable def zcq_ : RCode := an (.s .n (.s (.j [(0, .p)] .n) .n)) (rOf Tryz.prog 2 Tryz.f52)
noncomputable def zmq_ (k : Nat) (D : za_) : Ent := zn_ 52 [(0, .p)] [(2, .i .i64)] (zAe_ k D)
theorem zXi_ {D : za_} (hD : zf_ Tryz.prog 2 D) (k : Nat) : zk_ Tryz.prog 2 (zmq_ k D) :=
 ze_ (k := k) (rc := zcq_) (cs := [none]) (zd_ hD (zb_.more (zMf_ hD k) (zb_.more (zZd_ hD k) (zb_.none)))) Tryz.func52 rfl (by kernel_rfl) rfl (by kernel_rfl)
noncomputable def zzk_ (k : Nat) (D : za_) (r_0 : Option Addr) (h : AHeap) : Option (((ByteArray × ByteArray × Int × Int × Int × Int)) × AHeap) :=
 newK h ((.cells [.string ⟨#[]⟩, .string ⟨#[]⟩, .int .i64 0, .int .i64 0, .int .i64 0, .int .i64 0] 57 true 0)) fun h1 =>
 (zjb_ k D r_0 32 h1).bind fun r2 =>
 newK r2.2 ((.cells [.string ⟨#[]⟩, .string ⟨#[]⟩, .int .i64 0, .int .i64 0, .int .i64 0, .int .i64 0] 57 true 0)) fun h3 =>
 (stL 6 (⟨r2.2.next, 0, none⟩ : Addr) ([.string r2.1, .string (⟨#[]⟩ : ByteArray), .int .i64 0, .int .i64 0, .int .i64 0, .int .i64 0]) h3).bind fun h4 =>
 (zub_ k D r_0 1 h4).bind fun r5 =>
 (st1 (⟨r2.2.next, 2, none⟩ : Addr) (.int .i64 r5.1) r5.2).bind fun h6 =>
 (zV_ k D r_0 65536 h6).bind fun r7 =>
 (st1 (⟨r2.2.next, 4, none⟩ : Addr) (.int .i64 r7.1) r7.2).bind fun h8 =>
 (zV_ k D r_0 65536 h8).bind fun r9 =>
 (st1 (⟨r2.2.next, 5, none⟩ : Addr) (.int .i64 r9.1) r9.2).bind fun h10 =>
 (ldA 6 (⟨r2.2.next, 0, none⟩ : Addr) h10).bind fun l11 =>
 (decC [.s, .s, .i .i64, .i .i64, .i .i64, .i .i64] l11).bind fun x12 =>
 (stL 6 (⟨h.next, 0, none⟩ : Addr) ([.string x12.1, .string x12.2.1, .int .i64 x12.2.2.1, .int .i64 x12.2.2.2.1, .int .i64 x12.2.2.2.2.1, .int .i64 x12.2.2.2.2.2]) h10).bind fun h13 =>
 (ldA 6 (⟨h.next, 0, none⟩ : Addr) h13).bind fun l14 =>
 (decC [.s, .s, .i .i64, .i .i64, .i .i64, .i .i64] l14).bind fun x15 =>
 some ((x15.1, x15.2.1, x15.2.2.1, x15.2.2.2.1, x15.2.2.2.2.1, x15.2.2.2.2.2), h13)
noncomputable def zew_ : RCode := an (.s .n (.s .n (.s .n (.s .n (.s .n (.s (.r [(0, .st [.s, .s, .i .i64, .i .i64, .i .i64, .i .i64])]) .n)))))) (rOf Tryz.prog 2 Tryz.f50)
noncomputable def zXv_ (k : Nat) (D : za_) : Ent := zn_ 50 [(0, .p)] [(2, .st [.s, .s, .i .i64, .i .i64, .i .i64, .i .i64])] (zzk_ k D)
theorem zMv_ {D : za_} (hD : zf_ Tryz.prog 2 D) (k : Nat) : zk_ Tryz.prog 2 (zXv_ k D) :=
 ze_ (k := k) (rc := zew_) (cs := [some (.agg 6)]) (zd_ hD (zb_.more (zOd_ hD k) (zb_.more (zHd_ hD k) (zb_.more (zdc_ hD k) (zb_.none))))) Tryz.func50 rfl (by kernel_rfl) rfl (by kernel_rfl)
noncomputable def zVb_ (_k : Nat) (_D : za_) (r_0 : Option Addr) (h : AHeap) : Option ((Int) × AHeap) :=
 (r_0).bind fun p1 =>
 (ldI .i64 (⟨p1.block, p1.off + 1, none⟩ : Addr) h).bind fun x2 =>
 some (x2, h)
noncomputable def zDq_ : RCode := an (.n) (rOf Tryz.prog 2 Tryz.f51)
noncomputable def zNg_ (k : Nat) (D : za_) : Ent := zn_ 51 [(0, .p)] [(2, .i .i64)] (zVb_ k D)
theorem zqe_ {D : za_} (hD : zf_ Tryz.prog 2 D) (k : Nat) : zk_ Tryz.prog 2 (zNg_ k D) :=
 ze_ (k := k) (rc := zDq_) (cs := [none]) (zd_ hD (zb_.none)) Tryz.func51 rfl (by kernel_rfl) rfl (by kernel_rfl)
noncomputable def zye_ (k : Nat) (D : za_) (j12 : Int → (Option Addr) → Int → Slc → AHeap → Option ((Slc × Int) × AHeap)) (rec27 : Int → (Option Addr) → Int → ByteArray → (Option Nat) → Slc → Int → Int → AHeap → Option ((Slc × Int) × AHeap)) (fromv18 : Int) (r19 : Option Addr) (atv20 : Int) (id21 : ByteArray) (seen22 : Option Nat) (out23 : Slc) (y24 : Int) (y25 : Int) (h26 : AHeap) : Option ((Slc × Int) × AHeap) :=
 (if (decide (y25 < y24)) = true then
 (zzk_ k D r19 h26).bind fun r28 =>
 newK r28.2 ((.cells [.string ⟨#[]⟩, .string ⟨#[]⟩, .int .i64 0, .int .i64 0, .int .i64 0, .int .i64 0] 57 true 0)) fun h29 =>
 (stL 6 (⟨r28.2.next, 0, none⟩ : Addr) ([.string r28.1.1, .string r28.1.2.1, .int .i64 r28.1.2.2.1, .int .i64 r28.1.2.2.2.1, .int .i64 r28.1.2.2.2.2.1, .int .i64 r28.1.2.2.2.2.2]) h29).bind fun h30 =>
 zm_ (fun (fromv31 : Int) (r32 : Option Addr) (atv33 : Int) (id34 : ByteArray) (seen35 : Option Nat) (out36 : Slc) (x37 : Option Addr) (kind38 : Bool) (y39 : Int) (y40 : Int) (h41 : AHeap) =>
 zm_ (fun (fromv43 : Int) (r44 : Option Addr) (atv45 : Int) (id46 : ByteArray) (seen47 : Option Nat) (out48 : Slc) (x49 : Option Addr) (y50 : Int) (y51 : Int) (y52 : Bool) (h53 : AHeap) =>
 (if y52 = true then
 some (((⟨none, 0, 0⟩ : Slc), 140), h53)
 else
 (x49).bind fun p55 =>
 (ldS (⟨p55.block, p55.off + 0, none⟩ : Addr) h53).bind fun x56 =>
 (seen47).bind fun r58 =>
 (updE h53 r58 (.string x56) (.bool true)).bind fun h57 =>
 (x49).bind fun p59 =>
 (st1 (⟨p59.block, p59.off + 1 + 0, none⟩ : Addr) (.string id46) h57).bind fun h60 =>
 (x49).bind fun p61 =>
 (st1 (⟨p61.block, p61.off + 1 + 2, none⟩ : Addr) (.int .i64 atv45) h60).bind fun h62 =>
 (x49).bind fun p63 =>
 (ldI .i64 (⟨p63.block, p63.off + 1 + 3, none⟩ : Addr) h62).bind fun x64 =>
 (x49).bind fun p65 =>
 (ldA 6 p65 h62).bind fun l66 =>
 (decC [.s, .s, .i .i64, .i .i64, .i .i64, .i .i64] l66).bind fun x67 =>
 newK h62 ((.cells [.string x67.1, .string x67.2.1, .int .i64 x67.2.2.1, .int .i64 x67.2.2.2.1, .int .i64 x67.2.2.2.2.1, .int .i64 x67.2.2.2.2.2] 57 true 0)) fun h68 =>
 (rdS 6 (⟨(some ⟨h62.next, 0, some 0⟩), 1, 1⟩ : Slc) h68).bind fun n70 =>
 (zl_ 6 64 57 h68 out48 n70 1).bind fun r69 =>
 rec27 fromv43 r44 (IntKind.wrap .i64 (atv45 + x64)) id46 seen47 r69.1 y50 (IntKind.wrap .i64 (y51 + 1)) r69.2)) fun j54 =>
 (zVb_ k D r32 h41).bind fun r71 =>
 (if (r71.1 != 0) = true then
 j54 fromv31 r32 atv33 id34 seen35 out36 x37 y39 y40 true r71.2
 else
 (if (!kind38) = true then
 j54 fromv31 r32 atv33 id34 seen35 out36 x37 y39 y40 true r71.2
 else
 (x37).bind fun p72 =>
 (ldI .i64 (⟨p72.block, p72.off + 1 + 3, none⟩ : Addr) r71.2).bind fun x73 =>
 (if (decide (x73 < 1)) = true then
 j54 fromv31 r32 atv33 id34 seen35 out36 x37 y39 y40 true r71.2
 else
 (x37).bind fun p74 =>
 (ldI .i64 (⟨p74.block, p74.off + 1 + 3, none⟩ : Addr) r71.2).bind fun x75 =>
 (if (decide (x75 > (IntKind.wrap .i64 (fromv31 - atv33)))) = true then
 j54 fromv31 r32 atv33 id34 seen35 out36 x37 y39 y40 true r71.2
 else
 (x37).bind fun p76 =>
 (ldS (⟨p76.block, p76.off + 0, none⟩ : Addr) r71.2).bind fun x77 =>
 (zuc_ decB (.bool false) r71.2 seen35 (.string x77)).bind fun p78 =>
 j54 fromv31 r32 atv33 id34 seen35 out36 x37 y39 y40 p78.1 r71.2))))) fun j42 =>
 (ldI .i64 (⟨r28.2.next, 2, none⟩ : Addr) h30).bind fun x79 =>
 (if (x79 == 1) = true then
 j42 fromv18 r19 atv20 id21 seen22 out23 (some (⟨r28.2.next, 0, none⟩ : Addr)) true y24 y25 h30
 else
 (ldI .i64 (⟨r28.2.next, 2, none⟩ : Addr) h30).bind fun x80 =>
 j42 fromv18 r19 atv20 id21 seen22 out23 (some (⟨r28.2.next, 0, none⟩ : Addr)) (x80 == 2) y24 y25 h30)
 else
 j12 fromv18 r19 atv20 out23 h26)
noncomputable def zUm_ (k : Nat) (D : za_) (j12 : Int → (Option Addr) → Int → Slc → AHeap → Option ((Slc × Int) × AHeap)) : Int → (Option Addr) → Int → ByteArray → (Option Nat) → Slc → Int → Int → AHeap → Option ((Slc × Int) × AHeap) :=
 zi_ (α := Int → (Option Addr) → Int → ByteArray → (Option Nat) → Slc → Int → Int → AHeap → Option ((Slc × Int) × AHeap)) (fun _ _ _ _ _ _ _ _ _ => none) k (zye_ k D j12)
noncomputable def zAh_ (k : Nat) (D : za_) (s_0 : ByteArray) (h : AHeap) : Option ((Slc × Int) × AHeap) :=
 (zdj_ k D s_0 h).bind fun r1 =>
 (if (!r1.1.2.2) = true then
 some (((⟨none, 0, 0⟩ : Slc), 140), r1.2)
 else
 (zDf_ k D r1.1.2.1 r1.2).bind fun r2 =>
 (zV_ k D r2.1 4096 r2.2).bind fun r3 =>
 newK r3.2 ((.cells [.string s_0] 9 true 0)) fun h4 =>
 (zNe_ k D (⟨(some ⟨r3.2.next, 0, some 0⟩), 1, 1⟩ : Slc) h4).bind fun r5 =>
 newK r5.2 ((.map [] 0)) fun h6 =>
 zm_ (fun (fromv7 : Int) (r8 : Option Addr) (atv9 : Int) (out10 : Slc) (h11 : AHeap) =>
 zm_ (fun (out13 : Slc) (y14 : Bool) (h15 : AHeap) =>
 (if y14 = true then
 some (((⟨none, 0, 0⟩ : Slc), 140), h15)
 else
 some ((out13, 0), h15))) fun j16 =>
 (zAe_ k D r8 h11).bind fun r17 =>
 (if (r17.1 != 0) = true then
 j16 out10 true r17.2
 else
 j16 out10 (atv9 != fromv7) r17.2)) fun j12 =>
 zUm_ k D j12 r1.1.1 r2.1 5 r5.1 (some r5.2.next) (⟨none, 0, 0⟩ : Slc) r3.1 0 h6)
noncomputable def zBv_ : RCode := an (.s .n (.s .n (.s .n (.s .n (.s .n (.s .n (.s .n (.s .n (.s .n (.s (.j [(4, .i .i64), (7, .p), (9, .i .i64), (12, .l)] (.s .n (.b (.l [(4, .i .i64), (7, .p), (9, .i .i64), (10, .s), (11, .m), (12, .l), (31, .i .i64), (32, .i .i64)] (.s .n (.s .n (.s (.b (.s .n (.s (.j [(4, .i .i64), (7, .p), (9, .i .i64), (10, .s), (11, .m), (12, .l), (13, .p), (14, .b), (31, .i .i64), (32, .i .i64)] .n) (.s (.s (.j [(4, .i .i64), (7, .p), (9, .i .i64), (10, .s), (11, .m), (12, .l), (13, .p), (31, .i .i64), (32, .i .i64), (73, .b)] .n) .n) (.s .n (.s .n (.s .n (.r [(1, .st [.s, .s, .i .i64, .i .i64, .i .i64, .i .i64])])))))))) .n))))))) (.s (.s (.j [(12, .l), (100, .b)] .n) .n) .n))))))))))) (rOf Tryz.prog 2 Tryz.f21)
noncomputable def zvv_ (k : Nat) (D : za_) : Ent := zn_ 21 [(0, .s)] [(2, .l), (3, .i .i64)] (zAh_ k D)
theorem zNm_ {D : za_} (hD : zf_ Tryz.prog 2 D) (k : Nat) : zk_ Tryz.prog 2 (zvv_ k D) :=
 ze_ (k := k) (rc := zBv_) (cs := [none, none]) (zd_ hD (zb_.more (zht_ hD k) (zb_.more (zui_ hD k) (zb_.more (zdc_ hD k) (zb_.more (zUf_ hD k) (zb_.more (zXi_ hD k) (zb_.more (zMv_ hD k) (zb_.more (zqe_ hD k) (zb_.none))))))))) Tryz.func21 rfl (by kernel_rfl) rfl (by kernel_rfl)
noncomputable def zxk_ (k : Nat) (D : za_)  (h : AHeap) : Option ((Bool) × AHeap) :=
 (zLj_ k D 100 h).bind fun r1 =>
 zm_ (fun (b2 : Option Addr) (y3 : Bool) (h4 : AHeap) =>
 (if y3 = true then
 some (false, h4)
 else
 (zHc_ k D b2 1 (⟨#[120]⟩ : ByteArray) h4).bind fun r6 =>
 (zec_ k D b2 r6.2).bind fun r7 =>
 (zAh_ k D r7.1.1 r7.2).bind fun r8 =>
 (if (r8.1.2 == 0) = true then
 (if ((r7.1.2.len : Int) == 1) = true then
 (if ((r8.1.1.len : Int) == 1) = true then
 (Gx.idxL 6 r7.1.2 0).bind fun q9 =>
 (ldA 6 q9 r8.2).bind fun l10 =>
 (decC [.s, .s, .i .i64, .i .i64, .i .i64, .i .i64] l10).bind fun x11 =>
 (Gx.idxL 6 r8.1.1 0).bind fun q12 =>
 (ldA 6 q12 r8.2).bind fun l13 =>
 (decC [.s, .s, .i .i64, .i .i64, .i .i64, .i .i64] l13).bind fun x14 =>
 let c15 : Bool := ((x11.1 == x14.1) && ((x11.2.1 == x14.2.1) && ((x11.2.2.1 == x14.2.2.1) && ((x11.2.2.2.1 == x14.2.2.2.1) && ((x11.2.2.2.2.1 == x14.2.2.2.2.1) && (x11.2.2.2.2.2 == x14.2.2.2.2.2))))))
 some (c15, r8.2)
 else
 some (false, r8.2))
 else
 some (false, r8.2))
 else
 some (false, r8.2)))) fun j5 =>
 (if r1.1.1.isNone = true then
 j5 r1.1.1 true r1.2
 else
 j5 r1.1.1 (r1.1.2 != 0) r1.2)
noncomputable def znw_ : RCode := an (.s .n (.s .n (.s (.s (.j [(1, .p), (15, .b)] .n) .n) (.s .n (.s .n (.s .n (.s (.r [(15, .st [.s, .s, .i .i64, .i .i64, .i .i64, .i .i64]), (18, .st [.s, .s, .i .i64, .i .i64, .i .i64, .i .i64])]) .n))))))) (rOf Tryz.prog 2 Tryz.f4)
noncomputable def zlw_ (k : Nat) (D : za_) : Ent := zn_ 4 [] [(0, .b)] (zxk_ k D)
theorem ziv_ {D : za_} (hD : zf_ Tryz.prog 2 D) (k : Nat) : zk_ Tryz.prog 2 (zlw_ k D) :=
 ze_ (k := k) (rc := znw_) (cs := [none]) (zd_ hD (zb_.more (zNp_ hD k) (zb_.more (zNh_ hD k) (zb_.more (zlg_ hD k) (zb_.more (zNm_ hD k) (zb_.none)))))) Tryz.func4 rfl (by kernel_rfl) rfl (by kernel_rfl)
noncomputable def zje_ (_k : Nat) (_D : za_) (j4 : Int → AHeap → Option ((Int) × AHeap)) (rec11 : Int → (Int × Int × Int × Int) → Int → AHeap → Option ((Int) × AHeap)) (x7 : Int) (y8 : Int × Int × Int × Int) (y9 : Int) (h10 : AHeap) : Option ((Int) × AHeap) :=
 (if (decide (y9 < 2)) = true then
 (if 0 ≤ y9 ∧ y9 < ((2 : Nat) : Int) then
 (if (y9).toNat * 2 + 2 ≤ ([.int .i64 y8.1, .int .u64 y8.2.1, .int .i64 y8.2.2.1, .int .u64 y8.2.2.2] : List Value).length then
 (decC [.i .i64, .i .u64] ((([.int .i64 y8.1, .int .u64 y8.2.1, .int .i64 y8.2.2.1, .int .u64 y8.2.2.2] : List Value).drop ((y9).toNat * 2)).take 2)).bind fun x12 =>
 newK h10 ((.cells [.int .i64 0, .int .u64 0] 203 true 0)) fun h13 =>
 (stL 2 (⟨h10.next, 0, none⟩ : Addr) ([.int .i64 x12.1, .int .u64 x12.2]) h13).bind fun h14 =>
 (ldI .i64 (⟨h10.next, 0, none⟩ : Addr) h14).bind fun x15 =>
 (if 0 ≤ x15 then
 let t16 : Int := (Go.bits .xor .u64 x7 (Int.fdiv x7 (2 ^ (min (x15).toNat (IntKind.bits .u64)))))
 (ldI .u64 (⟨h10.next, 1, none⟩ : Addr) h14).bind fun x17 =>
 rec11 (IntKind.wrap .u64 (t16 * x17)) (y8.1, y8.2.1, y8.2.2.1, y8.2.2.2) (IntKind.wrap .i64 (y9 + 1)) h14
 else none)
 else none)
 else none)
 else
 j4 x7 h10)
noncomputable def zur_ (k : Nat) (D : za_) (j4 : Int → AHeap → Option ((Int) × AHeap)) : Int → (Int × Int × Int × Int) → Int → AHeap → Option ((Int) × AHeap) :=
 zi_ (α := Int → (Int × Int × Int × Int) → Int → AHeap → Option ((Int) × AHeap)) (fun _ _ _ _ => none) k (zje_ k D j4)
noncomputable def zip_ (k : Nat) (D : za_) (b_0 : Int) (h : AHeap) : Option ((Int) × AHeap) :=
 let t1 : Int := (IntKind.wrap .u64 ((IntKind.wrap .u64 ((IntKind.wrap .u64 b_0) + 1)) * 11400714819323198485))
 zm_ (fun (x2 : Int) (h3 : AHeap) =>
 some (x2, h3)) fun j4 =>
 (ldA 4 (⟨1, 0, none⟩ : Addr) h).bind fun l5 =>
 (decC [.i .i64, .i .u64, .i .i64, .i .u64] l5).bind fun x6 =>
 zur_ k D j4 t1 (x6.1, x6.2.1, x6.2.2.1, x6.2.2.2) 0 h
noncomputable def zbA_ : RCode := an (.s .n (.s .n (.s (.j [(3, .i .u64)] (.s (.r [(0, .st [.i .i64, .i .u64, .i .i64, .i .u64])]) (.b (.l [(3, .i .u64), (10, .st [.i .i64, .i .u64, .i .i64, .i .u64]), (11, .i .i64)] (.s .n (.s .n (.s (.b (.s (.r [(0, .st [.i .i64, .i .u64])]) .n)) .n))))))) .n))) (rOf Tryz.prog 2 Tryz.f119)
noncomputable def zVz_ (k : Nat) (D : za_) : Ent := zn_ 119 [(0, .i .u8)] [(2, .i .u64)] (zip_ k D)
theorem zBy_ {D : za_} (hD : zf_ Tryz.prog 2 D) (k : Nat) : zk_ Tryz.prog 2 (zVz_ k D) :=
 ze_ (k := k) (rc := zbA_) (cs := [none]) (zd_ hD (zb_.none)) Tryz.func119 rfl (by kernel_rfl) rfl (by kernel_rfl)
noncomputable def zwb_ (k : Nat) (D : za_) (j7 : ByteArray → AHeap → Option ((Int) × AHeap)) (rec14 : ByteArray → (Option Addr) → Int → Int → AHeap → Option ((Int) × AHeap)) (s9 : ByteArray) (x10 : Option Addr) (hv11 : Int) (i12 : Int) (h13 : AHeap) : Option ((Int) × AHeap) :=
 (if (decide (i12 < (s9.size : Int))) = true then
 (Gx.idxS s9 i12).bind fun b15 =>
 (zip_ k D b15 h13).bind fun r16 =>
 (x10).bind fun p17 =>
 (ldI .i64 (⟨p17.block, p17.off + 1, none⟩ : Addr) r16.2).bind fun x18 =>
 (if 0 ≤ (IntKind.wrap .i64 (64 - x18)) then
 let t19 : Int := (Int.fdiv (IntKind.wrap .u64 ((IntKind.wrap .u64 (hv11 * 2)) + r16.1)) (2 ^ (min ((IntKind.wrap .i64 (64 - x18))).toNat (IntKind.bits .u64))))
 (if (t19 == 0) = true then
 some ((IntKind.wrap .i64 (i12 + 1)), r16.2)
 else
 rec14 s9 x10 (IntKind.wrap .u64 ((IntKind.wrap .u64 (hv11 * 2)) + r16.1)) (IntKind.wrap .i64 (i12 + 1)) r16.2)
 else none)
 else
 j7 s9 h13)
noncomputable def zRh_ (k : Nat) (D : za_) (j7 : ByteArray → AHeap → Option ((Int) × AHeap)) : ByteArray → (Option Addr) → Int → Int → AHeap → Option ((Int) × AHeap) :=
 zi_ (α := ByteArray → (Option Addr) → Int → Int → AHeap → Option ((Int) × AHeap)) (fun _ _ _ _ _ => none) k (zwb_ k D j7)
noncomputable def zSe_ (k : Nat) (D : za_) (x_0 : Int × Int × Int) (s_1 : ByteArray) (h : AHeap) : Option ((Int) × AHeap) :=
 newK h ((.cells [.int .i64 x_0.1, .int .i64 x_0.2.1, .int .i64 x_0.2.2] 27 true 0)) fun h1 =>
 (ldI .i64 (⟨h.next, 0, none⟩ : Addr) h1).bind fun x2 =>
 (if (decide ((s_1.size : Int) ≤ x2)) = true then
 some ((s_1.size : Int), h1)
 else
 (ldI .i64 (⟨h.next, 2, none⟩ : Addr) h1).bind fun x3 =>
 (Gx.subS s_1 none (some (if x3 < (s_1.size : Int) then x3 else (s_1.size : Int)))).bind fun s4 =>
 zm_ (fun (s5 : ByteArray) (h6 : AHeap) =>
 some ((s5.size : Int), h6)) fun j7 =>
 (ldI .i64 (⟨h.next, 0, none⟩ : Addr) h1).bind fun x8 =>
 zRh_ k D j7 s4 (some (⟨h.next, 0, none⟩ : Addr)) 0 (IntKind.wrap .i64 (x8 - 1)) h1)
noncomputable def zun_ : RCode := an (.s .n (.s .n (.s .n (.s .n (.s (.j [(1, .s)] (.s .n (.b (.l [(1, .s), (2, .p), (5, .i .u64), (6, .i .i64)] .n)))) .n))))) (rOf Tryz.prog 2 Tryz.f93)
noncomputable def zHi_ (k : Nat) (D : za_) : Ent := zn_ 93 [(0, .st [.i .i64, .i .i64, .i .i64]), (1, .s)] [(4, .i .i64)] (zSe_ k D)
theorem zbn_ {D : za_} (hD : zf_ Tryz.prog 2 D) (k : Nat) : zk_ Tryz.prog 2 (zHi_ k D) :=
 ze_ (k := k) (rc := zun_) (cs := [none]) (zd_ hD (zb_.more (zBy_ hD k) (zb_.none))) Tryz.func93 rfl (by kernel_rfl) rfl (by kernel_rfl)
noncomputable def zgh_ (k : Nat) (D : za_) : za_ := mkC D [zHi_ k D]
noncomputable def zfb_ (k : Nat) (D : za_)  (rec5 : Value → (Option Addr) → (Option Addr) → AHeap → Option ((Unit) × AHeap)) (yield1 : Value) (y2 : Option Addr) (y3 : Option Addr) (h4 : AHeap) : Option ((Unit) × AHeap) :=
 (y2).bind fun p6 =>
 (ldS p6 h4).bind fun x7 =>
 (if (!(x7 == (⟨#[]⟩ : ByteArray))) = true then
 (y3).bind fun p8 =>
 (ldA 3 p8 h4).bind fun l9 =>
 (decC [.i .i64, .i .i64, .i .i64] l9).bind fun x10 =>
 (y2).bind fun p11 =>
 (ldS p11 h4).bind fun x12 =>
 (zSe_ k D (x10.1, x10.2.1, x10.2.2) x12 h4).bind fun r13 =>
 (y2).bind fun p14 =>
 (ldS p14 r13.2).bind fun x15 =>
 (Gx.subS x15 none (some r13.1)).bind fun s16 =>
 zVc_ (zgh_ k D) yield1 [.string s16] r13.2 fun v17 h18 =>
 (decB v17).bind fun x19 =>
 (if (!x19) = true then
 some ((), h18)
 else
 (y2).bind fun p20 =>
 (ldS p20 h18).bind fun x21 =>
 (Gx.subS x21 (some r13.1) none).bind fun s22 =>
 (y2).bind fun p23 =>
 (st1 p23 (.string s22) h18).bind fun h24 =>
 rec5 yield1 y2 y3 h24)
 else
 some ((), h4))
noncomputable def zng_ (k : Nat) (D : za_)  : Value → (Option Addr) → (Option Addr) → AHeap → Option ((Unit) × AHeap) :=
 zi_ (α := Value → (Option Addr) → (Option Addr) → AHeap → Option ((Unit) × AHeap)) (fun _ _ _ _ => none) k (zfb_ k D )
noncomputable def zvf_ (k : Nat) (D : za_) (yield_0 : Value) (a_1 : Option Addr) (a_2 : Option Addr) (h : AHeap) : Option ((Unit) × AHeap) :=
 zng_ k D yield_0 a_1 a_2 h
noncomputable def zbl_ : RCode := an (.b (.l [(0, .v), (1, .p), (2, .p)] (.s .n (.b (.s (.r [(0, .st [.i .i64, .i .i64, .i .i64])]) (.s (.s (.r [(4, .b)]) .n) .n)))))) (rOf Tryz.prog 2 Tryz.f92)
noncomputable def zKe_ (k : Nat) (D : za_) : Ent := zn_ 92 [(0, .v), (1, .p), (2, .p)] [] (zvf_ k D)
theorem zwg_ {D : za_} (hD : zf_ Tryz.prog 2 D) (k : Nat) : zk_ Tryz.prog 2 (zKe_ k D) :=
 ze_ (k := k) (rc := zbl_) (cs := []) (zd_ hD (zb_.more (zbn_ hD k) (zb_.none))) Tryz.func92 rfl (by kernel_rfl) rfl (by kernel_rfl)
noncomputable def zgj_ (_k : Nat) (_D : za_) (x_0 : Int × Int × Int) (h : AHeap) : Option ((Int) × AHeap) :=
 newK h ((.cells [.int .i64 x_0.1, .int .i64 x_0.2.1, .int .i64 x_0.2.2] 27 true 0)) fun h1 =>
 zm_ (fun (ok2 : Bool) (h3 : AHeap) =>
 (if (!ok2) = true then
 some (1, h3)
 else
 some (0, h3))) fun j4 =>
 (ldI .i64 (⟨h.next, 0, none⟩ : Addr) h1).bind fun x5 =>
 (if (decide (x5 ≥ 1)) = true then
 (ldI .i64 (⟨h.next, 0, none⟩ : Addr) h1).bind fun x6 =>
 (if (decide (x6 ≤ 4096)) = true then
 (ldI .i64 (⟨h.next, 1, none⟩ : Addr) h1).bind fun x7 =>
 (if (decide (x7 ≥ 1)) = true then
 (ldI .i64 (⟨h.next, 1, none⟩ : Addr) h1).bind fun x8 =>
 (if (decide (x8 ≤ 16)) = true then
 (ldI .i64 (⟨h.next, 2, none⟩ : Addr) h1).bind fun x9 =>
 (ldI .i64 (⟨h.next, 0, none⟩ : Addr) h1).bind fun x10 =>
 (if (decide (x9 ≥ x10)) = true then
 (ldI .i64 (⟨h.next, 2, none⟩ : Addr) h1).bind fun x11 =>
 j4 (decide (x11 ≤ 16384)) h1
 else
 j4 false h1)
 else
 j4 false h1)
 else
 j4 false h1)
 else
 j4 false h1)
 else
 j4 false h1)
noncomputable def zeu_ : RCode := an (.s .n (.s (.j [(3, .b)] .n) .n)) (rOf Tryz.prog 2 Tryz.f53)
noncomputable def zxo_ (k : Nat) (D : za_) : Ent := zn_ 53 [(0, .st [.i .i64, .i .i64, .i .i64])] [(2, .i .i64)] (zgj_ k D)
theorem zzt_ {D : za_} (hD : zf_ Tryz.prog 2 D) (k : Nat) : zk_ Tryz.prog 2 (zxo_ k D) :=
 ze_ (k := k) (rc := zeu_) (cs := [none]) (zd_ hD (zb_.none)) Tryz.func53 rfl (by kernel_rfl) rfl (by kernel_rfl)
noncomputable def zeg_ (_k : Nat) (_D : za_) (x_0 : Int × Int × Int) (s_1 : ByteArray) (h : AHeap) : Option ((Value) × AHeap) :=
 newK h ((.cells [.int .i64 x_0.1, .int .i64 x_0.2.1, .int .i64 x_0.2.2] 27 true 0)) fun h1 =>
 newK h1 ((.cells [.string s_1] 9 true 0)) fun h2 =>
 some ((.func (.func 92) ⟨[]⟩ ⟨[.pointer (some (⟨h1.next, 0, none⟩ : Addr)), .pointer (some (⟨h.next, 0, none⟩ : Addr))]⟩), h2)
noncomputable def zkn_ : RCode := an (.n) (rOf Tryz.prog 2 Tryz.f54)
noncomputable def zPh_ (k : Nat) (D : za_) : Ent := zn_ 54 [(0, .st [.i .i64, .i .i64, .i .i64]), (1, .s)] [(4, .v)] (zeg_ k D)
theorem zlm_ {D : za_} (hD : zf_ Tryz.prog 2 D) (k : Nat) : zk_ Tryz.prog 2 (zPh_ k D) :=
 ze_ (k := k) (rc := zkn_) (cs := [none]) (zd_ hD (zb_.none)) Tryz.func54 rfl (by kernel_rfl) rfl (by kernel_rfl)
noncomputable def zff_ (k : Nat) (D : za_) : za_ := mkC D [zKe_ k D, zxo_ k D, zPh_ k D]
noncomputable def zdf_ (k : Nat) (D : za_) : za_ := mkC D [zKe_ k D]
noncomputable def zCg_ : XCode := xan (.s (.c .n) (.s (.c (.s (.r [(0, .st [.i .i64, .i .i64, .i .i64])]) .n)) (.s (.c .n) (.s (.c .n) (.s (.j [(7, .p)] (.s (.c (.r [(0, .st [.i .i64, .i .i64, .i .i64])])) (.b (.f [92] [(7, .p)] [(20, .s)] .n .n)))) (.c .n)))))) (xOf Tryz.prog 2 Tryz.f22)
noncomputable def zU_ : RfC := rfc zCg_
noncomputable def zyg_ (k : Nat) (D : za_) (x_0 : Int × Int × Int) (s_1 : ByteArray) (h : AHeap) : Option ((Slc × Int) × AHeap) :=
 newK h ((.cells [.int .i64 x_0.1, .int .i64 x_0.2.1, .int .i64 x_0.2.2] 27 true 0)) fun h1 =>
 (ldA 3 (⟨h.next, 0, none⟩ : Addr) h1).bind fun l2 =>
 (decC [.i .i64, .i .i64, .i .i64] l2).bind fun x3 =>
 (zgj_ k D (x3.1, x3.2.1, x3.2.2) h1).bind fun r4 =>
 (if (r4.1 != 0) = true then
 some (((⟨none, 0, 0⟩ : Slc), r4.1), r4.2)
 else
 (if (decide ((s_1.size : Int) > 1048576)) = true then
 some (((⟨none, 0, 0⟩ : Slc), 2), r4.2)
 else
 newK r4.2 ((.cells [.slice none 0 0] 23 true 0)) fun h5 =>
 zm_ (fun (out6 : Option Addr) (h7 : AHeap) =>
 (out6).bind fun p9 =>
 (ldL p9 h7).bind fun x10 =>
 some ((x10, 0), h7)) fun j8 =>
 (ldA 3 (⟨h.next, 0, none⟩ : Addr) h5).bind fun l11 =>
 (decC [.i .i64, .i .i64, .i .i64] l11).bind fun x12 =>
 (zeg_ k D (x12.1, x12.2.1, x12.2.2) s_1 h5).bind fun r13 =>
 rfS (zdf_ k) (zff_ k D) [92] zU_ [(7, .pointer (some (⟨r4.2.next, 0, none⟩ : Addr)))] (fun b14 _ as16 h17 K18 =>
 appA [(20, .s)] as16 (fun (y19 : ByteArray) (h20 : AHeap) =>
 rfB b14 h20 fun h21 =>
 (ldL (⟨r4.2.next, 0, none⟩ : Addr) h21).bind fun x22 =>
 newK h21 ((.cells [.string y19] 9 true 0)) fun h23 =>
 (rdS 1 (⟨(some ⟨h21.next, 0, some 0⟩), 1, 1⟩ : Slc) h23).bind fun n25 =>
 (zl_ 1 16 9 h23 x22 n25 1).bind fun r24 =>
 (st1 (⟨r4.2.next, 0, none⟩ : Addr) (.slice r24.1.a r24.1.len r24.1.cap) r24.2).bind fun h26 =>
 rfE b14 none h26 K18) h17) r13.1 r13.2 fun p27 h28 =>
 rfJ p27 (j8 (some (⟨r4.2.next, 0, none⟩ : Addr)) h28) (some (((⟨none, 0, 0⟩ : Slc), 0), h28)) fun i29 =>
 (bif Nat.beq i29 0 then
 j8 (some (⟨r4.2.next, 0, none⟩ : Addr)) h28
 else
 none)))
noncomputable def zdt_ (k : Nat) (D : za_) : Ent := zn_ 22 [(0, .st [.i .i64, .i .i64, .i .i64]), (1, .s)] [(4, .l), (5, .i .i64)] (zyg_ k D)
theorem zmt_ : (Tryz.f22.body).bind (zfc_ Tryz.prog 2 Tryz.f22.ntmps) = some (zDc_ zCg_) := by kernel_rfl
theorem zit_ : xok Tryz.prog Tryz.f22.ntmps zCg_ = true := by kernel_rfl
theorem zwt_ (k : Nat) (D : za_) : curF [(0, .st [.i .i64, .i .i64, .i .i64]), (1, .s)] (fun args h => zDt_ (zdf_ k) (zff_ k D) k zCg_ [(4, .l), (5, .i .i64)] [none, none] args h) = zyg_ k D := by kernel_rfl
theorem zWr_ {D : za_} (hD : zf_ Tryz.prog 2 D) (k : Nat) : zk_ Tryz.prog 2 (zdt_ k D) :=
 zeA_ (E := zdf_ k) (fun _ hD => zd_ hD (zb_.more (zwg_ hD k) (zb_.none))) (zd_ hD (zb_.more (zwg_ hD k) (zb_.more (zzt_ hD k) (zb_.more (zlm_ hD k) (zb_.none))))) Tryz.func22 rfl zmt_ zit_ rfl (zwt_ k D)
noncomputable def zgf_ (k : Nat) (D : za_) (j20 : Slc → Slc → Bool → (Option Addr) → AHeap → Option ((Slc × Slc × Bool) × AHeap)) (rec39 : Slc → Slc → Bool → (Option Addr) → (Option Nat) → Slc → Int → Int → AHeap → Option ((Slc × Slc × Bool) × AHeap)) (out30 : Slc) (ids31 : Slc) (letv32 : Bool) (b33 : Option Addr) (seen34 : Option Nat) (y35 : Slc) (y36 : Int) (y37 : Int) (h38 : AHeap) : Option ((Slc × Slc × Bool) × AHeap) :=
 (if (decide (y37 < y36)) = true then
 zm_ (fun (out40 : Slc) (ids41 : Slc) (letv42 : Bool) (b43 : Option Addr) (seen44 : Option Nat) (y45 : Slc) (y46 : Int) (y47 : Int) (h48 : AHeap) =>
 rec39 out40 ids41 letv42 b43 seen44 y45 y46 (IntKind.wrap .i64 (y47 + 1)) h48) fun j49 =>
 (Gx.idxL 1 y35 y37).bind fun q50 =>
 (ldS q50 h38).bind fun x51 =>
 (zrj_ k D 1 x51 h38).bind fun r52 =>
 newK r52.2 ((.cells [.string r52.1.1] 9 true 0)) fun h53 =>
 (rdS 1 (⟨(some ⟨r52.2.next, 0, some 0⟩), 1, 1⟩ : Slc) h53).bind fun n55 =>
 (zl_ 1 16 9 h53 ids31 n55 1).bind fun r54 =>
 (zuc_ decS (.string ⟨#[]⟩) r54.2 seen34 (.string r52.1.1)).bind fun p56 =>
 (if p56.2 = true then
 (if letv32 = true then
 j49 out30 r54.1 true b33 seen34 y35 y36 y37 r54.2
 else
 j49 out30 r54.1 (!(p56.1 == x51)) b33 seen34 y35 y36 y37 r54.2)
 else
 (seen34).bind fun r58 =>
 (updE r54.2 r58 (.string r52.1.1) (.string x51)).bind fun h57 =>
 (zHc_ k D b33 1 x51 h57).bind fun r59 =>
 zm_ (fun (out60 : Slc) (ids61 : Slc) (letv62 : Bool) (b63 : Option Addr) (seen64 : Option Nat) (e65 : Int) (y66 : Slc) (y67 : Int) (y68 : Int) (h69 : AHeap) =>
 (if (e65 != 0) = true then
 some (((⟨none, 0, 0⟩ : Slc), (⟨none, 0, 0⟩ : Slc), letv62), h69)
 else
 j49 out60 ids61 letv62 b63 seen64 y66 y67 y68 h69)) fun j70 =>
 (if (r59.1.2 == 2) = true then
 (zec_ k D b33 r59.2).bind fun r71 =>
 newK r71.2 ((.cells [.string r71.1.1] 9 true 0)) fun h72 =>
 (rdS 1 (⟨(some ⟨r71.2.next, 0, some 0⟩), 1, 1⟩ : Slc) h72).bind fun n74 =>
 (zl_ 1 16 9 h72 out30 n74 1).bind fun r73 =>
 (zHc_ k D b33 1 x51 r73.2).bind fun r75 =>
 j70 r73.1 r54.1 letv32 b33 seen34 r75.1.2 y35 y36 y37 r75.2
 else
 j70 out30 r54.1 letv32 b33 seen34 r59.1.2 y35 y36 y37 r59.2))
 else
 j20 out30 ids31 letv32 b33 h38)
noncomputable def zRo_ (k : Nat) (D : za_) (j20 : Slc → Slc → Bool → (Option Addr) → AHeap → Option ((Slc × Slc × Bool) × AHeap)) : Slc → Slc → Bool → (Option Addr) → (Option Nat) → Slc → Int → Int → AHeap → Option ((Slc × Slc × Bool) × AHeap) :=
 zi_ (α := Slc → Slc → Bool → (Option Addr) → (Option Nat) → Slc → Int → Int → AHeap → Option ((Slc × Slc × Bool) × AHeap)) (fun _ _ _ _ _ _ _ _ _ => none) k (zgf_ k D j20)
noncomputable def zBk_ (k : Nat) (D : za_) (x_0 : Int × Int × Int) (text_1 : ByteArray) (h : AHeap) : Option ((Slc × Slc × Bool) × AHeap) :=
 newK h ((.cells [.int .i64 x_0.1, .int .i64 x_0.2.1, .int .i64 x_0.2.2] 27 true 0)) fun h1 =>
 (zLj_ k D 300 h1).bind fun r2 =>
 (ldA 3 (⟨h.next, 0, none⟩ : Addr) r2.2).bind fun l3 =>
 (decC [.i .i64, .i .i64, .i .i64] l3).bind fun x4 =>
 (zyg_ k D (x4.1, x4.2.1, x4.2.2) text_1 r2.2).bind fun r5 =>
 zm_ (fun (out6 : Slc) (ids7 : Slc) (letv8 : Bool) (b9 : Option Addr) (l10 : Slc) (y11 : Bool) (h12 : AHeap) =>
 (if y11 = true then
 some (((⟨none, 0, 0⟩ : Slc), (⟨none, 0, 0⟩ : Slc), false), h12)
 else
 newK h12 ((.map [] 0)) fun h14 =>
 zm_ (fun (out15 : Slc) (ids16 : Slc) (letv17 : Bool) (b18 : Option Addr) (h19 : AHeap) =>
 zm_ (fun (out21 : Slc) (ids22 : Slc) (letv23 : Bool) (h24 : AHeap) =>
 some ((out21, ids22, letv23), h24)) fun j25 =>
 (zec_ k D b18 h19).bind fun r26 =>
 (if (!(r26.1.1 == (⟨#[]⟩ : ByteArray))) = true then
 newK r26.2 ((.cells [.string r26.1.1] 9 true 0)) fun h27 =>
 (rdS 1 (⟨(some ⟨r26.2.next, 0, some 0⟩), 1, 1⟩ : Slc) h27).bind fun n29 =>
 (zl_ 1 16 9 h27 out15 n29 1).bind fun r28 =>
 j25 r28.1 ids16 letv17 r28.2
 else
 j25 out15 ids16 letv17 r26.2)) fun j20 =>
 zRo_ k D j20 out6 ids7 letv8 b9 (some h12.next) l10 (l10.len : Int) 0 h14)) fun j13 =>
 (if r2.1.1.isNone = true then
 j13 (⟨none, 0, 0⟩ : Slc) (⟨none, 0, 0⟩ : Slc) false r2.1.1 r5.1.1 true r5.2
 else
 (if (r2.1.2 != 0) = true then
 j13 (⟨none, 0, 0⟩ : Slc) (⟨none, 0, 0⟩ : Slc) false r2.1.1 r5.1.1 true r5.2
 else
 j13 (⟨none, 0, 0⟩ : Slc) (⟨none, 0, 0⟩ : Slc) false r2.1.1 r5.1.1 (r5.1.2 != 0) r5.2))
noncomputable def zbw_ : RCode := an (.s .n (.s .n (.s (.r [(0, .st [.i .i64, .i .i64, .i .i64])]) (.s (.s (.j [(4, .l), (5, .l), (6, .b), (7, .p), (9, .l), (43, .b)] .n) .n) (.s .n (.s (.j [(4, .l), (5, .l), (6, .b), (7, .p)] (.s .n (.b (.l [(4, .l), (5, .l), (6, .b), (7, .p), (11, .m), (45, .l), (46, .i .i64), (47, .i .i64)] (.s .n (.s .n (.s (.j [(4, .l), (5, .l), (6, .b), (7, .p), (11, .m), (45, .l), (46, .i .i64), (47, .i .i64)] (.b (.s .n (.s .n (.s .n (.s .n (.s .n (.s .n (.s (.j [(4, .l), (5, .l), (6, .b), (7, .p), (11, .m), (19, .i .i64), (45, .l), (46, .i .i64), (47, .i .i64)] .n) .n))))))))) .n))))))) (.s (.j [(4, .l), (5, .l), (6, .b)] .n) .n))))))) (rOf Tryz.prog 2 Tryz.f5)
noncomputable def zYv_ (k : Nat) (D : za_) : Ent := zn_ 5 [(0, .st [.i .i64, .i .i64, .i .i64]), (1, .s)] [(4, .l), (5, .l), (6, .b)] (zBk_ k D)
theorem zhu_ {D : za_} (hD : zf_ Tryz.prog 2 D) (k : Nat) : zk_ Tryz.prog 2 (zYv_ k D) :=
 ze_ (k := k) (rc := zbw_) (cs := [none, none, none]) (zd_ hD (zb_.more (zNp_ hD k) (zb_.more (zWr_ hD k) (zb_.more (zlg_ hD k) (zb_.more (zJm_ hD k) (zb_.more (zNh_ hD k) (zb_.none))))))) Tryz.func5 rfl (by kernel_rfl) rfl (by kernel_rfl)
noncomputable def zrh_ (_k : Nat) (_D : za_)  (h : AHeap) : Option (((Option Addr)) × AHeap) :=
 newK h ((.cells (List.replicate 256 (.slice none 0 0)) 84 true 0)) fun h1 =>
 some ((some (⟨h.next, 0, none⟩ : Addr)), h1)
noncomputable def zjv_ : RCode := an (.n) (rOf Tryz.prog 2 Tryz.f24)
noncomputable def ztu_ (k : Nat) (D : za_) : Ent := zn_ 24 [] [(0, .p)] (zrh_ k D)
theorem zVm_ {D : za_} (hD : zf_ Tryz.prog 2 D) (k : Nat) : zk_ Tryz.prog 2 (ztu_ k D) :=
 ze_ (k := k) (rc := zjv_) (cs := [none]) (zd_ hD (zb_.none)) Tryz.func24 rfl (by kernel_rfl) rfl (by kernel_rfl)
noncomputable def zid_ (_k : Nat) (_D : za_) (t_0 : Option Addr) (id_1 : ByteArray) (h : AHeap) : Option (((Option Addr)) × AHeap) :=
 (if (id_1 == (⟨#[]⟩ : ByteArray)) = true then
 (t_0).bind fun p1 =>
 some ((some (⟨p1.block, p1.off + 0 + 0, none⟩ : Addr)), h)
 else
 (Gx.idxS id_1 0).bind fun b3 =>
 (t_0).bind fun p4 =>
 (Gx.idxA 256 1 (⟨p4.block, p4.off + 0, none⟩ : Addr) b3).bind fun q5 =>
 some ((some q5), h))
noncomputable def zin_ : RCode := an (.n) (rOf Tryz.prog 2 Tryz.f56)
noncomputable def zfn_ (k : Nat) (D : za_) : Ent := zn_ 56 [(0, .p), (1, .s)] [(4, .p)] (zid_ k D)
theorem zFh_ {D : za_} (hD : zf_ Tryz.prog 2 D) (k : Nat) : zk_ Tryz.prog 2 (zfn_ k D) :=
 ze_ (k := k) (rc := zin_) (cs := [none]) (zd_ hD (zb_.none)) Tryz.func56 rfl (by kernel_rfl) rfl (by kernel_rfl)
noncomputable def zBb_ (_k : Nat) (D : za_) : za_ := mkC D []
noncomputable def zs_ (k : Nat) (D : za_) (j8 : Slc → Value → (Option Addr) → Int → Int → AHeap → Option ((Int × Bool) × AHeap)) (rec25 : Slc → Value → (Option Addr) → Int → Int → Int → AHeap → Option ((Int × Bool) × AHeap)) (x18 : Slc) (cmp19 : Value) (target20 : Option Addr) (n21 : Int) (i22 : Int) (j23 : Int) (h24 : AHeap) : Option ((Int × Bool) × AHeap) :=
 (if (decide (i22 < j23)) = true then
 let t26 : Int := (Int.fdiv (IntKind.wrap .u64 (IntKind.wrap .i64 (i22 + j23))) 2)
 (Gx.idxL 6 x18 (IntKind.wrap .i64 t26)).bind fun q27 =>
 (ldA 6 q27 h24).bind fun l28 =>
 (decC [.s, .s, .i .i64, .i .i64, .i .i64, .i .i64] l28).bind fun x29 =>
 (target20).bind fun p30 =>
 (ldA 6 p30 h24).bind fun l31 =>
 (decC [.s, .s, .i .i64, .i .i64, .i .i64, .i .i64] l31).bind fun x32 =>
 zVc_ (zBb_ k D) cmp19 [.agg ⟨[.string x29.1, .string x29.2.1, .int .i64 x29.2.2.1, .int .i64 x29.2.2.2.1, .int .i64 x29.2.2.2.2.1, .int .i64 x29.2.2.2.2.2]⟩, .agg ⟨[.string x32.1, .string x32.2.1, .int .i64 x32.2.2.1, .int .i64 x32.2.2.2.1, .int .i64 x32.2.2.2.2.1, .int .i64 x32.2.2.2.2.2]⟩] h24 fun v33 h34 =>
 (decI .i64 v33).bind fun x35 =>
 (if (decide (x35 < 0)) = true then
 rec25 x18 cmp19 target20 n21 (IntKind.wrap .i64 ((IntKind.wrap .i64 t26) + 1)) j23 h34
 else
 rec25 x18 cmp19 target20 n21 i22 (IntKind.wrap .i64 t26) h34)
 else
 j8 x18 cmp19 target20 n21 i22 h24)
noncomputable def zyb_ (k : Nat) (D : za_) (j8 : Slc → Value → (Option Addr) → Int → Int → AHeap → Option ((Int × Bool) × AHeap)) : Slc → Value → (Option Addr) → Int → Int → Int → AHeap → Option ((Int × Bool) × AHeap) :=
 zi_ (α := Slc → Value → (Option Addr) → Int → Int → Int → AHeap → Option ((Int × Bool) × AHeap)) (fun _ _ _ _ _ _ _ => none) k (zs_ k D j8)
noncomputable def zJ_ (k : Nat) (D : za_) (x_0 : Slc) (target_1 : ByteArray × ByteArray × Int × Int × Int × Int) (cmp_2 : Value) (h : AHeap) : Option ((Int × Bool) × AHeap) :=
 newK h ((.cells [.string target_1.1, .string target_1.2.1, .int .i64 target_1.2.2.1, .int .i64 target_1.2.2.2.1, .int .i64 target_1.2.2.2.2.1, .int .i64 target_1.2.2.2.2.2] 57 true 0)) fun h1 =>
 zm_ (fun (x2 : Slc) (cmp3 : Value) (target4 : Option Addr) (n5 : Int) (i6 : Int) (h7 : AHeap) =>
 (if (decide (i6 < n5)) = true then
 (Gx.idxL 6 x2 i6).bind fun q9 =>
 (ldA 6 q9 h7).bind fun l10 =>
 (decC [.s, .s, .i .i64, .i .i64, .i .i64, .i .i64] l10).bind fun x11 =>
 (target4).bind fun p12 =>
 (ldA 6 p12 h7).bind fun l13 =>
 (decC [.s, .s, .i .i64, .i .i64, .i .i64, .i .i64] l13).bind fun x14 =>
 zVc_ (zBb_ k D) cmp3 [.agg ⟨[.string x11.1, .string x11.2.1, .int .i64 x11.2.2.1, .int .i64 x11.2.2.2.1, .int .i64 x11.2.2.2.2.1, .int .i64 x11.2.2.2.2.2]⟩, .agg ⟨[.string x14.1, .string x14.2.1, .int .i64 x14.2.2.1, .int .i64 x14.2.2.2.1, .int .i64 x14.2.2.2.2.1, .int .i64 x14.2.2.2.2.2]⟩] h7 fun v15 h16 =>
 (decI .i64 v15).bind fun x17 =>
 some ((i6, (x17 == 0)), h16)
 else
 some ((i6, false), h7))) fun j8 =>
 zyb_ k D j8 x_0 cmp_2 (some (⟨h.next, 0, none⟩ : Addr)) (x_0.len : Int) 0 (x_0.len : Int) h1
noncomputable def zXc_ : RCode := an (.s .n (.s .n (.s .n (.s (.j [(0, .l), (2, .v), (4, .p), (8, .i .i64), (9, .i .i64)] (.b (.l [(0, .l), (2, .v), (4, .p), (8, .i .i64), (9, .i .i64), (10, .i .i64)] (.s .n (.b (.s .n (.s (.r [(4, .st [.s, .s, .i .i64, .i .i64, .i .i64, .i .i64]), (5, .st [.s, .s, .i .i64, .i .i64, .i .i64, .i .i64]), (6, .i .i64)]) .n))))))) (.s (.r [(8, .st [.s, .s, .i .i64, .i .i64, .i .i64, .i .i64]), (9, .st [.s, .s, .i .i64, .i .i64, .i .i64, .i .i64]), (10, .i .i64)]) .n))))) (rOf Tryz.prog 2 Tryz.f57)
noncomputable def zYc_ (k : Nat) (D : za_) : Ent := zn_ 57 [(0, .l), (1, .st [.s, .s, .i .i64, .i .i64, .i .i64, .i .i64]), (2, .v)] [(6, .i .i64), (7, .b)] (zJ_ k D)
theorem zTc_ {D : za_} (hD : zf_ Tryz.prog 2 D) (k : Nat) : zk_ Tryz.prog 2 (zYc_ k D) :=
 ze_ (k := k) (rc := zXc_) (cs := [none, none]) (zd_ hD (zb_.none)) Tryz.func57 rfl (by kernel_rfl) rfl (by kernel_rfl)
end Gg
namespace Gg
open Go Gx Go.Proofs
noncomputable def zRi_ (_k : Nat) (_D : za_) : Ent := eOvl 96
theorem zDi_ {D : za_} (_hD : zf_ Tryz.prog 2 D) (k : Nat) : zk_ Tryz.prog 2 (zRi_ k D) :=
 ztD_ (tS := 35) (tR := 4) (e := 57) (size := 6) Tryz.func96 rfl rfl rfl (by kernel_rfl) (by kernel_rfl) (fun w => run_sizeOf' (by kernel_rfl) w)
end Gg
namespace Gg
open Go Gx Go.Proofs
set_option maxRecDepth 100000
noncomputable def zrb_ (_k : Nat) (_D : za_) (s_0 : Slc) (i_1 : Int) (v_2 : Slc) (h : AHeap) : Option ((Slc) × AHeap) :=
 (Gx.subL 6 s_0 (some i_1) none none).bind fun _l1 =>
 (if ((v_2.len : Int) == 0) = true then
 some (s_0, h)
 else
 (if (i_1 == (s_0.len : Int)) = true then
 (rdS 6 v_2 h).bind fun n3 =>
 (zl_ 6 64 57 h s_0 n3 v_2.len).bind fun r2 =>
 some (r2.1, r2.2)
 else
 (zpk_ s_0).bind fun c4 =>
 (if (decide ((IntKind.wrap .i64 ((s_0.len : Int) + (v_2.len : Int))) > c4)) = true then
 (Gx.subL 6 s_0 none (some i_1) none).bind fun l5 =>
 let t6 : Int := (IntKind.wrap .i64 ((IntKind.wrap .i64 ((s_0.len : Int) + (v_2.len : Int))) - i_1))
 (if 0 ≤ t6 ∧ t6 ≤ 281474976710656 ∧ t6 * 64 ≤ 281474976710656 then
 (zl_ 6 64 57 h l5 (zu_ (t6).toNat [.string ⟨#[]⟩, .string ⟨#[]⟩, .int .i64 0, .int .i64 0, .int .i64 0, .int .i64 0]) (t6).toNat).bind fun r7 =>
 (Gx.subL 6 r7.1 (some i_1) none none).bind fun l8 =>
 (rdS 6 v_2 r7.2).bind fun n10 =>
 (zNb_ 6 r7.2 l8 (min v_2.len l8.len) n10).bind fun h9 =>
 (Gx.subL 6 r7.1 (some (IntKind.wrap .i64 (i_1 + (v_2.len : Int)))) none none).bind fun l11 =>
 (Gx.subL 6 s_0 (some i_1) none none).bind fun l12 =>
 (rdS 6 l12 h9).bind fun n14 =>
 (zNb_ 6 h9 l11 (min l12.len l11.len) n14).bind fun h13 =>
 some (r7.1, h13)
 else none)
 else
 (Gx.subL 6 s_0 none (some (IntKind.wrap .i64 ((s_0.len : Int) + (v_2.len : Int)))) none).bind fun l15 =>
 (Gx.subL 6 l15 (some (IntKind.wrap .i64 (i_1 + (v_2.len : Int)))) none none).bind fun l16 =>
 (ovA v_2 l16 h).bind fun _ =>
 (Gx.subL 6 l15 (some (IntKind.wrap .i64 (i_1 + (v_2.len : Int)))) none none).bind fun l17 =>
 (Gx.subL 6 l15 (some i_1) none none).bind fun l18 =>
 (rdS 6 l18 h).bind fun n20 =>
 (zNb_ 6 h l17 (min l18.len l17.len) n20).bind fun h19 =>
 (Gx.subL 6 l15 (some i_1) none none).bind fun l21 =>
 (rdS 6 v_2 h19).bind fun n23 =>
 (zNb_ 6 h19 l21 (min v_2.len l21.len) n23).bind fun h22 =>
 some (l15, h22))))
noncomputable def zfg_ : RCode := an (.n) (rOf Tryz.prog 2 Tryz.f59)
noncomputable def zhg_ (k : Nat) (D : za_) : Ent := zn_ 59 [(0, .l), (1, .i .i64), (2, .l)] [(6, .l)] (zrb_ k D)
theorem zTf_ {D : za_} (hD : zf_ Tryz.prog 2 D) (k : Nat) : zk_ Tryz.prog 2 (zhg_ k D) :=
 ze_ (k := k) (rc := zfg_) (cs := [none]) (zd_ hD (zb_.more (zDi_ hD k) (zb_.none))) Tryz.func59 rfl (by kernel_rfl) rfl (by kernel_rfl)
noncomputable def zDb_ (k : Nat) (D : za_) (s : Slc) (i : Int) (v : Slc) (h : AHeap) : Option (Slc × AHeap) := insA 6 64 57 (zrb_ k D) s i v h
noncomputable def zBg_ (k : Nat) (D : za_) : Ent := zn_ 59 [(0, .l), (1, .i .i64), (2, .l)] [(6, .l)] (zDb_ k D)
theorem zdd_ (k : Nat) (D : za_) : zrb_ k D = insF 6 64 57 [.string ⟨#[]⟩, .string ⟨#[]⟩, .int .i64 0, .int .i64 0, .int .i64 0, .int .i64 0] := rfl
theorem zgg_ {D : za_} (hD : zf_ Tryz.prog 2 D) (k : Nat) : zk_ Tryz.prog 2 (zBg_ k D) :=
 zPD_ (zTf_ hD k) (zdd_ k D) rfl rfl
noncomputable def zci_ (_k : Nat) (_D : za_) (s_0 : ByteArray) (h : AHeap) : Option ((Bool) × AHeap) :=
 some (((s_0.size : Int) == 32), h)
noncomputable def zzy_ : RCode := an (.n) (rOf Tryz.prog 2 Tryz.f38)
noncomputable def zqy_ (k : Nat) (D : za_) : Ent := zn_ 38 [(0, .s)] [(2, .b)] (zci_ k D)
theorem zMp_ {D : za_} (hD : zf_ Tryz.prog 2 D) (k : Nat) : zk_ Tryz.prog 2 (zqy_ k D) :=
 ze_ (k := k) (rc := zzy_) (cs := [none]) (zd_ hD (zb_.none)) Tryz.func38 rfl (by kernel_rfl) rfl (by kernel_rfl)
noncomputable def zRd_ (_k : Nat) (_D : za_) (n_0 : Int) (least_1 : Int) (h : AHeap) : Option ((Bool) × AHeap) :=
 (if (decide (n_0 ≥ least_1)) = true then
 some ((decide (n_0 ≤ 65536)), h)
 else
 some (false, h))
noncomputable def zor_ : RCode := an (.n) (rOf Tryz.prog 2 Tryz.f39)
noncomputable def zTq_ (k : Nat) (D : za_) : Ent := zn_ 39 [(0, .i .i64), (1, .i .i64)] [(4, .b)] (zRd_ k D)
theorem zEq_ {D : za_} (hD : zf_ Tryz.prog 2 D) (k : Nat) : zk_ Tryz.prog 2 (zTq_ k D) :=
 ze_ (k := k) (rc := zor_) (cs := [none]) (zd_ hD (zb_.none)) Tryz.func39 rfl (by kernel_rfl) rfl (by kernel_rfl)
noncomputable def zIe_ (k : Nat) (D : za_) (x_0 : ByteArray × ByteArray × Int × Int × Int × Int) (h : AHeap) : Option ((Int) × AHeap) :=
 newK h ((.cells [.string x_0.1, .string x_0.2.1, .int .i64 x_0.2.2.1, .int .i64 x_0.2.2.2.1, .int .i64 x_0.2.2.2.2.1, .int .i64 x_0.2.2.2.2.2] 57 true 0)) fun h1 =>
 zm_ (fun (x2 : Option Addr) (kind3 : Bool) (h4 : AHeap) =>
 zm_ (fun (y6 : Bool) (h7 : AHeap) =>
 (if y6 = true then
 some (1, h7)
 else
 some (0, h7))) fun j8 =>
 (x2).bind fun p9 =>
 (ldS (⟨p9.block, p9.off + 0, none⟩ : Addr) h4).bind fun x10 =>
 (zci_ k D x10 h4).bind fun r11 =>
 (if (!r11.1) = true then
 j8 true r11.2
 else
 (x2).bind fun p12 =>
 (ldS (⟨p12.block, p12.off + 1 + 0, none⟩ : Addr) r11.2).bind fun x13 =>
 (zci_ k D x13 r11.2).bind fun r14 =>
 (if (!r14.1) = true then
 j8 true r14.2
 else
 (if (!kind3) = true then
 j8 true r14.2
 else
 (x2).bind fun p15 =>
 (ldI .i64 (⟨p15.block, p15.off + 1 + 2, none⟩ : Addr) r14.2).bind fun x16 =>
 (zRd_ k D x16 0 r14.2).bind fun r17 =>
 (if (!r17.1) = true then
 j8 true r17.2
 else
 (x2).bind fun p18 =>
 (ldI .i64 (⟨p18.block, p18.off + 1 + 3, none⟩ : Addr) r17.2).bind fun x19 =>
 (zRd_ k D x19 1 r17.2).bind fun r20 =>
 (if (!r20.1) = true then
 j8 true r20.2
 else
 (x2).bind fun p21 =>
 (ldI .i64 (⟨p21.block, p21.off + 1 + 4, none⟩ : Addr) r20.2).bind fun x22 =>
 (zRd_ k D x22 0 r20.2).bind fun r23 =>
 j8 (!r23.1) r23.2)))))) fun j5 =>
 (ldI .i64 (⟨h.next, 2, none⟩ : Addr) h1).bind fun x24 =>
 (if (x24 == 1) = true then
 j5 (some (⟨h.next, 0, none⟩ : Addr)) true h1
 else
 (ldI .i64 (⟨h.next, 2, none⟩ : Addr) h1).bind fun x25 =>
 j5 (some (⟨h.next, 0, none⟩ : Addr)) (x25 == 2) h1)
noncomputable def zJr_ : RCode := an (.s .n (.s (.j [(1, .p), (3, .b)] .n) (.s (.s (.j [(49, .b)] .n) .n) .n))) (rOf Tryz.prog 2 Tryz.f15)
noncomputable def zds_ (k : Nat) (D : za_) : Ent := zn_ 15 [(0, .st [.s, .s, .i .i64, .i .i64, .i .i64, .i .i64])] [(2, .i .i64)] (zIe_ k D)
theorem zoh_ {D : za_} (hD : zf_ Tryz.prog 2 D) (k : Nat) : zk_ Tryz.prog 2 (zds_ k D) :=
 ze_ (k := k) (rc := zJr_) (cs := [none]) (zd_ hD (zb_.more (zMp_ hD k) (zb_.more (zEq_ hD k) (zb_.none)))) Tryz.func15 rfl (by kernel_rfl) rfl (by kernel_rfl)
noncomputable def zxb_ (k : Nat) (D : za_) (j4 : (Option Addr) → Slc → AHeap → Option ((Int) × AHeap)) (rec47 : (Option Addr) → Slc → Slc → Int → Int → AHeap → Option ((Int) × AHeap)) (t41 : Option Addr) (items42 : Slc) (y43 : Slc) (y44 : Int) (y45 : Int) (h46 : AHeap) : Option ((Int) × AHeap) :=
 (if (decide (y45 < y44)) = true then
 (Gx.idxL 6 y43 y45).bind fun q48 =>
 (ldA 6 q48 h46).bind fun l49 =>
 (decC [.s, .s, .i .i64, .i .i64, .i .i64, .i .i64] l49).bind fun x50 =>
 newK h46 ((.cells [.string ⟨#[]⟩, .string ⟨#[]⟩, .int .i64 0, .int .i64 0, .int .i64 0, .int .i64 0] 57 true 0)) fun h51 =>
 (stL 6 (⟨h46.next, 0, none⟩ : Addr) ([.string x50.1, .string x50.2.1, .int .i64 x50.2.2.1, .int .i64 x50.2.2.2.1, .int .i64 x50.2.2.2.2.1, .int .i64 x50.2.2.2.2.2]) h51).bind fun h52 =>
 (ldA 6 (⟨h46.next, 0, none⟩ : Addr) h52).bind fun l53 =>
 (decC [.s, .s, .i .i64, .i .i64, .i .i64, .i .i64] l53).bind fun x54 =>
 (zIe_ k D (x54.1, x54.2.1, x54.2.2.1, x54.2.2.2.1, x54.2.2.2.2.1, x54.2.2.2.2.2) h52).bind fun r55 =>
 (if (r55.1 != 0) = true then
 some (r55.1, r55.2)
 else
 rec47 t41 items42 y43 y44 (IntKind.wrap .i64 (y45 + 1)) r55.2)
 else
 j4 t41 items42 h46)
noncomputable def zrf_ (k : Nat) (D : za_) (j4 : (Option Addr) → Slc → AHeap → Option ((Int) × AHeap)) : (Option Addr) → Slc → Slc → Int → Int → AHeap → Option ((Int) × AHeap) :=
 zi_ (α := (Option Addr) → Slc → Slc → Int → Int → AHeap → Option ((Int) × AHeap)) (fun _ _ _ _ _ _ => none) k (zxb_ k D j4)
noncomputable def zsb_ (k : Nat) (D : za_) (j6 : AHeap → Option ((Int) × AHeap)) (rec12 : (Option Addr) → Slc → Int → Int → AHeap → Option ((Int) × AHeap)) (t7 : Option Addr) (y8 : Slc) (y9 : Int) (y10 : Int) (h11 : AHeap) : Option ((Int) × AHeap) :=
 (if (decide (y10 < y9)) = true then
 zm_ (fun (t13 : Option Addr) (y14 : Slc) (y15 : Int) (y16 : Int) (h17 : AHeap) =>
 rec12 t13 y14 y15 (IntKind.wrap .i64 (y16 + 1)) h17) fun j18 =>
 (Gx.idxL 6 y8 y10).bind fun q19 =>
 (ldA 6 q19 h11).bind fun l20 =>
 (decC [.s, .s, .i .i64, .i .i64, .i .i64, .i .i64] l20).bind fun x21 =>
 newK h11 ((.cells [.string ⟨#[]⟩, .string ⟨#[]⟩, .int .i64 0, .int .i64 0, .int .i64 0, .int .i64 0] 57 true 0)) fun h22 =>
 (stL 6 (⟨h11.next, 0, none⟩ : Addr) ([.string x21.1, .string x21.2.1, .int .i64 x21.2.2.1, .int .i64 x21.2.2.2.1, .int .i64 x21.2.2.2.2.1, .int .i64 x21.2.2.2.2.2]) h22).bind fun h23 =>
 (ldS (⟨h11.next, 0, none⟩ : Addr) h23).bind fun x24 =>
 (zid_ k D t7 x24 h23).bind fun r25 =>
 (r25.1).bind fun p26 =>
 (ldL p26 r25.2).bind fun x27 =>
 (ldA 6 (⟨h11.next, 0, none⟩ : Addr) r25.2).bind fun l28 =>
 (decC [.s, .s, .i .i64, .i .i64, .i .i64, .i .i64] l28).bind fun x29 =>
 (zJ_ k D x27 (x29.1, x29.2.1, x29.2.2.1, x29.2.2.2.1, x29.2.2.2.2.1, x29.2.2.2.2.2) (.func (.func 58) ⟨[]⟩ ⟨[]⟩) r25.2).bind fun r30 =>
 (if (!r30.1.2) = true then
 (ldA 6 (⟨h11.next, 0, none⟩ : Addr) r30.2).bind fun l31 =>
 (decC [.s, .s, .i .i64, .i .i64, .i .i64, .i .i64] l31).bind fun x32 =>
 newK r30.2 ((.cells [.string x32.1, .string x32.2.1, .int .i64 x32.2.2.1, .int .i64 x32.2.2.2.1, .int .i64 x32.2.2.2.2.1, .int .i64 x32.2.2.2.2.2] 57 true 0)) fun h33 =>
 (r25.1).bind fun p34 =>
 (ldL p34 h33).bind fun x35 =>
 zR_ (zKb_ [r30.2] (fun H37 => (ldL p34 H37).bind fun y36 => some (.slice y36.a y36.len y36.cap)) (.slice x35.a x35.len x35.cap)) (
 (zDb_ k D x35 r30.1.1 (⟨(some ⟨r30.2.next, 0, some 0⟩), 1, 1⟩ : Slc) h33).bind fun r38 =>
 (r25.1).bind fun p39 =>
 (st1 p39 (.slice r38.1.a r38.1.len r38.1.cap) r38.2).bind fun h40 =>
 j18 t7 y8 y9 y10 h40)
 else
 j18 t7 y8 y9 y10 r30.2)
 else
 j6 h11)
noncomputable def ztf_ (k : Nat) (D : za_) (j6 : AHeap → Option ((Int) × AHeap)) : (Option Addr) → Slc → Int → Int → AHeap → Option ((Int) × AHeap) :=
 zi_ (α := (Option Addr) → Slc → Int → Int → AHeap → Option ((Int) × AHeap)) (fun _ _ _ _ _ => none) k (zsb_ k D j6)
noncomputable def zQb_ (k : Nat) (D : za_) (t_0 : Option Addr) (items_1 : Slc) (h : AHeap) : Option ((Int) × AHeap) :=
 zm_ (fun (t1 : Option Addr) (items2 : Slc) (h3 : AHeap) =>
 zm_ (fun (h5 : AHeap) =>
 some (0, h5)) fun j6 =>
 ztf_ k D j6 t1 items2 (items2.len : Int) 0 h3) fun j4 =>
 zrf_ k D j4 t_0 items_1 items_1 (items_1.len : Int) 0 h
noncomputable def zjo_ : RCode := an (.s .n (.s (.j [(0, .p), (1, .l)] (.s .n (.b (.l [(0, .p), (1, .l), (13, .l), (14, .i .i64), (15, .i .i64)] (.s .n (.s .n (.s (.b (.s (.r [(1, .st [.s, .s, .i .i64, .i .i64, .i .i64, .i .i64])]) (.s (.r [(0, .st [.s, .s, .i .i64, .i .i64, .i .i64, .i .i64])]) .n))) .n))))))) (.s (.j [] (.s .n (.b (.l [(0, .p), (25, .l), (26, .i .i64), (27, .i .i64)] (.s .n (.s .n (.s (.j [(0, .p), (25, .l), (26, .i .i64), (27, .i .i64)] (.b (.s (.r [(1, .st [.s, .s, .i .i64, .i .i64, .i .i64, .i .i64])]) (.s .n (.s (.r [(3, .st [.s, .s, .i .i64, .i .i64, .i .i64, .i .i64])]) (.s .n (.s (.r [(0, .st [.s, .s, .i .i64, .i .i64, .i .i64, .i .i64])]) .n))))))) .n))))))) .n))) (rOf Tryz.prog 2 Tryz.f25)
noncomputable def ztn_ (k : Nat) (D : za_) : Ent := zn_ 25 [(0, .p), (1, .l)] [(4, .i .i64)] (zQb_ k D)
theorem zSh_ {D : za_} (hD : zf_ Tryz.prog 2 D) (k : Nat) : zk_ Tryz.prog 2 (ztn_ k D) :=
 ze_ (k := k) (rc := zjo_) (cs := [none]) (zd_ hD (zb_.more (zFh_ hD k) (zb_.more (zTc_ hD k) (zb_.more (zgg_ hD k) (zb_.more (zoh_ hD k) (zb_.none)))))) Tryz.func25 rfl (by kernel_rfl) rfl (by kernel_rfl)
noncomputable def zad_ (k : Nat) (D : za_) (j5 : (Option Addr) → Slc → AHeap → Option (((Option Addr) × Slc) × AHeap)) (rec12 : (Option Addr) → Slc → Slc → Int → Int → AHeap → Option (((Option Addr) × Slc) × AHeap)) (t6 : Option Addr) (bad7 : Slc) (y8 : Slc) (y9 : Int) (y10 : Int) (h11 : AHeap) : Option (((Option Addr) × Slc) × AHeap) :=
 (if (decide (y10 < y9)) = true then
 zm_ (fun (t13 : Option Addr) (bad14 : Slc) (y15 : Slc) (y16 : Int) (y17 : Int) (h18 : AHeap) =>
 rec12 t13 bad14 y15 y16 (IntKind.wrap .i64 (y17 + 1)) h18) fun j19 =>
 (Gx.idxL 1 y8 y10).bind fun q20 =>
 (ldS q20 h11).bind fun x21 =>
 (zAh_ k D x21 h11).bind fun r22 =>
 (if (r22.1.2 != 0) = true then
 newK r22.2 ((.cells [.int .i64 y10] 3 true 0)) fun h23 =>
 (rdS 1 (⟨(some ⟨r22.2.next, 0, some 0⟩), 1, 1⟩ : Slc) h23).bind fun n25 =>
 (zl_ 1 8 3 h23 bad7 n25 1).bind fun r24 =>
 j19 t6 r24.1 y8 y9 y10 r24.2
 else
 (zQb_ k D t6 r22.1.1 r22.2).bind fun r26 =>
 j19 t6 bad7 y8 y9 y10 r26.2)
 else
 j5 t6 bad7 h11)
noncomputable def zNj_ (k : Nat) (D : za_) (j5 : (Option Addr) → Slc → AHeap → Option (((Option Addr) × Slc) × AHeap)) : (Option Addr) → Slc → Slc → Int → Int → AHeap → Option (((Option Addr) × Slc) × AHeap) :=
 zi_ (α := (Option Addr) → Slc → Slc → Int → Int → AHeap → Option (((Option Addr) × Slc) × AHeap)) (fun _ _ _ _ _ _ => none) k (zad_ k D j5)
noncomputable def zIg_ (k : Nat) (D : za_) (packs_0 : Slc) (h : AHeap) : Option (((Option Addr) × Slc) × AHeap) :=
 (zrh_ k D h).bind fun r1 =>
 zm_ (fun (t2 : Option Addr) (bad3 : Slc) (h4 : AHeap) =>
 some ((t2, bad3), h4)) fun j5 =>
 zNj_ k D j5 r1.1 (⟨none, 0, 0⟩ : Slc) packs_0 (packs_0.len : Int) 0 r1.2
noncomputable def zfr_ : RCode := an (.s .n (.s .n (.s (.j [(2, .p), (3, .l)] (.s .n (.b (.l [(2, .p), (3, .l), (9, .l), (10, .i .i64), (11, .i .i64)] (.s .n (.s .n (.s (.j [(2, .p), (3, .l), (9, .l), (10, .i .i64), (11, .i .i64)] .n) .n))))))) .n))) (rOf Tryz.prog 2 Tryz.f6)
noncomputable def zcr_ (k : Nat) (D : za_) : Ent := zn_ 6 [(0, .l)] [(2, .p), (3, .l)] (zIg_ k D)
theorem zYp_ {D : za_} (hD : zf_ Tryz.prog 2 D) (k : Nat) : zk_ Tryz.prog 2 (zcr_ k D) :=
 ze_ (k := k) (rc := zfr_) (cs := [none, none]) (zd_ hD (zb_.more (zVm_ hD k) (zb_.more (zNm_ hD k) (zb_.more (zSh_ hD k) (zb_.none))))) Tryz.func6 rfl (by kernel_rfl) rfl (by kernel_rfl)
noncomputable def zom_ (_k : Nat) (D : za_) : za_ := mkC D []
noncomputable def zic_ (k : Nat) (D : za_) (j2 : AHeap → Option ((Bool) × AHeap)) (rec7 : Slc → Value → Int → AHeap → Option ((Bool) × AHeap)) (l3 : Slc) (less4 : Value) (i5 : Int) (h6 : AHeap) : Option ((Bool) × AHeap) :=
 (if (decide (i5 < (l3.len : Int))) = true then
 (Gx.idxL 1 l3 (IntKind.wrap .i64 (i5 - 1))).bind fun q8 =>
 (ldS q8 h6).bind fun x9 =>
 (Gx.idxL 1 l3 i5).bind fun q10 =>
 (ldS q10 h6).bind fun x11 =>
 zVc_ (zom_ k D) less4 [.string x9, .string x11] h6 fun v12 h13 =>
 (decB v12).bind fun x14 =>
 (if (!x14) = true then
 some (false, h13)
 else
 rec7 l3 less4 (IntKind.wrap .i64 (i5 + 1)) h13)
 else
 j2 h6)
noncomputable def zbh_ (k : Nat) (D : za_) (j2 : AHeap → Option ((Bool) × AHeap)) : Slc → Value → Int → AHeap → Option ((Bool) × AHeap) :=
 zi_ (α := Slc → Value → Int → AHeap → Option ((Bool) × AHeap)) (fun _ _ _ _ => none) k (zic_ k D j2)
noncomputable def zXd_ (k : Nat) (D : za_) (l_0 : Slc) (less_1 : Value) (h : AHeap) : Option ((Bool) × AHeap) :=
 zm_ (fun (h1 : AHeap) =>
 some (true, h1)) fun j2 =>
 zbh_ k D j2 l_0 less_1 1 h
noncomputable def zim_ : RCode := an (.s .n (.s (.j [] (.s .n (.b (.l [(0, .l), (1, .v), (5, .i .i64)] (.s .n (.s (.b (.s (.r [(10, .b)]) .n)) .n)))))) .n)) (rOf Tryz.prog 2 Tryz.f60)
noncomputable def zDm_ (k : Nat) (D : za_) : Ent := zn_ 60 [(0, .l), (1, .v)] [(4, .b)] (zXd_ k D)
theorem zgl_ {D : za_} (hD : zf_ Tryz.prog 2 D) (k : Nat) : zk_ Tryz.prog 2 (zDm_ k D) :=
 ze_ (k := k) (rc := zim_) (cs := [none]) (zd_ hD (zb_.none)) Tryz.func60 rfl (by kernel_rfl) rfl (by kernel_rfl)
noncomputable def zYk_ (_k : Nat) (D : za_) : za_ := mkC D []
noncomputable def zTb_ (k : Nat) (D : za_) (j2 : AHeap → Option ((Bool) × AHeap)) (rec7 : Slc → Value → Int → AHeap → Option ((Bool) × AHeap)) (l3 : Slc) (less4 : Value) (i5 : Int) (h6 : AHeap) : Option ((Bool) × AHeap) :=
 (if (decide (i5 < (l3.len : Int))) = true then
 (Gx.idxL 6 l3 (IntKind.wrap .i64 (i5 - 1))).bind fun q8 =>
 (ldA 6 q8 h6).bind fun l9 =>
 (decC [.s, .s, .i .i64, .i .i64, .i .i64, .i .i64] l9).bind fun x10 =>
 (Gx.idxL 6 l3 i5).bind fun q11 =>
 (ldA 6 q11 h6).bind fun l12 =>
 (decC [.s, .s, .i .i64, .i .i64, .i .i64, .i .i64] l12).bind fun x13 =>
 zVc_ (zYk_ k D) less4 [.agg ⟨[.string x10.1, .string x10.2.1, .int .i64 x10.2.2.1, .int .i64 x10.2.2.2.1, .int .i64 x10.2.2.2.2.1, .int .i64 x10.2.2.2.2.2]⟩, .agg ⟨[.string x13.1, .string x13.2.1, .int .i64 x13.2.2.1, .int .i64 x13.2.2.2.1, .int .i64 x13.2.2.2.2.1, .int .i64 x13.2.2.2.2.2]⟩] h6 fun v14 h15 =>
 (decB v14).bind fun x16 =>
 (if (!x16) = true then
 some (false, h15)
 else
 rec7 l3 less4 (IntKind.wrap .i64 (i5 + 1)) h15)
 else
 j2 h6)
noncomputable def zdg_ (k : Nat) (D : za_) (j2 : AHeap → Option ((Bool) × AHeap)) : Slc → Value → Int → AHeap → Option ((Bool) × AHeap) :=
 zi_ (α := Slc → Value → Int → AHeap → Option ((Bool) × AHeap)) (fun _ _ _ _ => none) k (zTb_ k D j2)
noncomputable def zpd_ (k : Nat) (D : za_) (l_0 : Slc) (less_1 : Value) (h : AHeap) : Option ((Bool) × AHeap) :=
 zm_ (fun (h1 : AHeap) =>
 some (true, h1)) fun j2 =>
 zdg_ k D j2 l_0 less_1 1 h
noncomputable def zal_ : RCode := an (.s .n (.s (.j [] (.s .n (.b (.l [(0, .l), (1, .v), (5, .i .i64)] (.s .n (.s (.b (.s (.r [(5, .st [.s, .s, .i .i64, .i .i64, .i .i64, .i .i64]), (9, .st [.s, .s, .i .i64, .i .i64, .i .i64, .i .i64]), (10, .b)]) .n)) .n)))))) .n)) (rOf Tryz.prog 2 Tryz.f62)
noncomputable def zPk_ (k : Nat) (D : za_) : Ent := zn_ 62 [(0, .l), (1, .v)] [(4, .b)] (zpd_ k D)
theorem zdk_ {D : za_} (hD : zf_ Tryz.prog 2 D) (k : Nat) : zk_ Tryz.prog 2 (zPk_ k D) :=
 ze_ (k := k) (rc := zal_) (cs := [none]) (zd_ hD (zb_.none)) Tryz.func62 rfl (by kernel_rfl) rfl (by kernel_rfl)
noncomputable def zce_ (k : Nat) (D : za_) (j4 : (Option Addr) → AHeap → Option ((Int) × AHeap)) (rec39 : (Option Addr) → Slc → Int → Int → AHeap → Option ((Int) × AHeap)) (f34 : Option Addr) (y35 : Slc) (y36 : Int) (y37 : Int) (h38 : AHeap) : Option ((Int) × AHeap) :=
 (if (decide (y37 < y36)) = true then
 (Gx.idxL 1 y35 y37).bind fun q40 =>
 (ldS q40 h38).bind fun x41 =>
 (zci_ k D x41 h38).bind fun r42 =>
 (if (!r42.1) = true then
 some (1, r42.2)
 else
 rec39 f34 y35 y36 (IntKind.wrap .i64 (y37 + 1)) r42.2)
 else
 j4 f34 h38)
noncomputable def zql_ (k : Nat) (D : za_) (j4 : (Option Addr) → AHeap → Option ((Int) × AHeap)) : (Option Addr) → Slc → Int → Int → AHeap → Option ((Int) × AHeap) :=
 zi_ (α := (Option Addr) → Slc → Int → Int → AHeap → Option ((Int) × AHeap)) (fun _ _ _ _ _ => none) k (zce_ k D j4)
noncomputable def zae_ (k : Nat) (D : za_) (j7 : (Option Addr) → AHeap → Option ((Int) × AHeap)) (rec24 : (Option Addr) → Slc → Int → Int → AHeap → Option ((Int) × AHeap)) (f19 : Option Addr) (y20 : Slc) (y21 : Int) (y22 : Int) (h23 : AHeap) : Option ((Int) × AHeap) :=
 (if (decide (y22 < y21)) = true then
 (Gx.idxL 6 y20 y22).bind fun q25 =>
 (ldA 6 q25 h23).bind fun l26 =>
 (decC [.s, .s, .i .i64, .i .i64, .i .i64, .i .i64] l26).bind fun x27 =>
 newK h23 ((.cells [.string ⟨#[]⟩, .string ⟨#[]⟩, .int .i64 0, .int .i64 0, .int .i64 0, .int .i64 0] 57 true 0)) fun h28 =>
 (stL 6 (⟨h23.next, 0, none⟩ : Addr) ([.string x27.1, .string x27.2.1, .int .i64 x27.2.2.1, .int .i64 x27.2.2.2.1, .int .i64 x27.2.2.2.2.1, .int .i64 x27.2.2.2.2.2]) h28).bind fun h29 =>
 (ldA 6 (⟨h23.next, 0, none⟩ : Addr) h29).bind fun l30 =>
 (decC [.s, .s, .i .i64, .i .i64, .i .i64, .i .i64] l30).bind fun x31 =>
 (zIe_ k D (x31.1, x31.2.1, x31.2.2.1, x31.2.2.2.1, x31.2.2.2.2.1, x31.2.2.2.2.2) h29).bind fun r32 =>
 (if (r32.1 != 0) = true then
 some (r32.1, r32.2)
 else
 rec24 f19 y20 y21 (IntKind.wrap .i64 (y22 + 1)) r32.2)
 else
 j7 f19 h23)
noncomputable def zrl_ (k : Nat) (D : za_) (j7 : (Option Addr) → AHeap → Option ((Int) × AHeap)) : (Option Addr) → Slc → Int → Int → AHeap → Option ((Int) × AHeap) :=
 zi_ (α := (Option Addr) → Slc → Int → Int → AHeap → Option ((Int) × AHeap)) (fun _ _ _ _ _ => none) k (zae_ k D j7)
noncomputable def zvg_ (k : Nat) (D : za_) (f_0 : Slc × Slc) (h : AHeap) : Option ((Int) × AHeap) :=
 newK h ((.cells [.slice f_0.1.a f_0.1.len f_0.1.cap, .slice f_0.2.a f_0.2.len f_0.2.cap] 38 true 0)) fun h1 =>
 zm_ (fun (f2 : Option Addr) (h3 : AHeap) =>
 zm_ (fun (f5 : Option Addr) (h6 : AHeap) =>
 zm_ (fun (y8 : Bool) (h9 : AHeap) =>
 (if y8 = true then
 some (4, h9)
 else
 some (0, h9))) fun j10 =>
 (f5).bind fun p11 =>
 (ldL (⟨p11.block, p11.off + 0, none⟩ : Addr) h6).bind fun x12 =>
 (zXd_ k D x12 (.func (.func 61) ⟨[]⟩ ⟨[]⟩) h6).bind fun r13 =>
 (if (!r13.1) = true then
 j10 true r13.2
 else
 (f5).bind fun p14 =>
 (ldL (⟨p14.block, p14.off + 1, none⟩ : Addr) r13.2).bind fun x15 =>
 (zpd_ k D x15 (.func (.func 63) ⟨[]⟩ ⟨[]⟩) r13.2).bind fun r16 =>
 j10 (!r16.1) r16.2)) fun j7 =>
 (f2).bind fun p17 =>
 (ldL (⟨p17.block, p17.off + 1, none⟩ : Addr) h3).bind fun x18 =>
 zrl_ k D j7 f2 x18 (x18.len : Int) 0 h3) fun j4 =>
 (ldL (⟨h.next, 0, none⟩ : Addr) h1).bind fun x33 =>
 zql_ k D j4 (some (⟨h.next, 0, none⟩ : Addr)) x33 (x33.len : Int) 0 h1
noncomputable def zqt_ : RCode := an (.s .n (.s (.j [(1, .p)] (.s .n (.b (.l [(1, .p), (9, .l), (10, .i .i64), (11, .i .i64)] .n)))) (.s (.j [(1, .p)] (.s .n (.b (.l [(1, .p), (20, .l), (21, .i .i64), (22, .i .i64)] (.s .n (.s .n (.s (.b (.s (.r [(1, .st [.s, .s, .i .i64, .i .i64, .i .i64, .i .i64])]) (.s (.r [(0, .st [.s, .s, .i .i64, .i .i64, .i .i64, .i .i64])]) .n))) .n))))))) (.s (.s (.j [(41, .b)] .n) .n) .n)))) (rOf Tryz.prog 2 Tryz.f26)
noncomputable def zxt_ (k : Nat) (D : za_) : Ent := zn_ 26 [(0, .st [.l, .l])] [(2, .i .i64)] (zvg_ k D)
theorem zel_ {D : za_} (hD : zf_ Tryz.prog 2 D) (k : Nat) : zk_ Tryz.prog 2 (zxt_ k D) :=
 ze_ (k := k) (rc := zqt_) (cs := [none]) (zd_ hD (zb_.more (zgl_ hD k) (zb_.more (zdk_ hD k) (zb_.more (zoh_ hD k) (zb_.more (zMp_ hD k) (zb_.none)))))) Tryz.func26 rfl (by kernel_rfl) rfl (by kernel_rfl)
noncomputable def zvd_ (k : Nat) (D : za_) (n_0 : Int) (h : AHeap) : Option ((ByteArray) × AHeap) :=
 (zih_ k D n_0 h).bind fun r1 =>
 some (r1.1.1, r1.2)
noncomputable def znt_ : RCode := an (.n) (rOf Tryz.prog 2 Tryz.f64)
noncomputable def zbt_ (k : Nat) (D : za_) : Ent := zn_ 64 [(0, .i .i64)] [(2, .s)] (zvd_ k D)
theorem zDl_ {D : za_} (hD : zf_ Tryz.prog 2 D) (k : Nat) : zk_ Tryz.prog 2 (zbt_ k D) :=
 ze_ (k := k) (rc := znt_) (cs := [none]) (zd_ hD (zb_.more (zXj_ hD k) (zb_.none))) Tryz.func64 rfl (by kernel_rfl) rfl (by kernel_rfl)
noncomputable def znj_ (k : Nat) (D : za_) (x_0 : ByteArray × ByteArray × Int × Int × Int × Int) (h : AHeap) : Option ((ByteArray) × AHeap) :=
 newK h ((.cells [.string x_0.1, .string x_0.2.1, .int .i64 x_0.2.2.1, .int .i64 x_0.2.2.2.1, .int .i64 x_0.2.2.2.2.1, .int .i64 x_0.2.2.2.2.2] 57 true 0)) fun h1 =>
 let h2 := AHeap.resv h1 1
 (ldI .i64 (⟨h.next, 3, none⟩ : Addr) h2).bind fun x3 =>
 (zvd_ k D x3 h2).bind fun r4 =>
 (ldI .i64 (⟨h.next, 4, none⟩ : Addr) r4.2).bind fun x5 =>
 zR_ (zKb_ [h2] (fun H7 => (ldI .i64 (⟨h.next, 4, none⟩ : Addr) H7).bind fun y6 => some (.int .i64 y6)) (.int .i64 x5)) (
 (zvd_ k D x5 r4.2).bind fun r8 =>
 (ldI .i64 (⟨h.next, 5, none⟩ : Addr) r8.2).bind fun x9 =>
 zR_ (zKb_ [r4.2, h2] (fun H11 => (ldI .i64 (⟨h.next, 5, none⟩ : Addr) H11).bind fun y10 => some (.int .i64 y10)) (.int .i64 x9)) (
 (zvd_ k D x9 r8.2).bind fun r12 =>
 (ldS (⟨h.next, 0, none⟩ : Addr) r12.2).bind fun x13 =>
 zR_ (zKb_ [r8.2, r4.2, h2] (fun H15 => (ldS (⟨h.next, 0, none⟩ : Addr) H15).bind fun y14 => some (.string y14)) (.string x13)) (
 (ldS (⟨h.next, 1, none⟩ : Addr) r12.2).bind fun x16 =>
 zR_ (zKb_ [r8.2, r4.2, h2] (fun H18 => (ldS (⟨h.next, 1, none⟩ : Addr) H18).bind fun y17 => some (.string y17)) (.string x16)) (
 (if x13.size + x16.size ≤ 9223372036854775807 then
 (ldI .i64 (⟨h.next, 2, none⟩ : Addr) r12.2).bind fun x19 =>
 zR_ (zKb_ [r8.2, r4.2, h2] (fun H21 => (ldI .i64 (⟨h.next, 2, none⟩ : Addr) H21).bind fun y20 => some (.int .i64 y20)) (.int .i64 x19)) (
 let h22 := AHeap.set r12.2 (h1.next + 0) (.cells [.int .u8 (IntKind.wrap .u8 x19)] 5 true 0)
 (zeb_ h22 (⟨(some ⟨(h1.next + 0), 0, some 0⟩), 1, 1⟩ : Slc)).bind fun s23 =>
 zR_ (OwnW (h1.next + 0) h22 (fun H25 => (zeb_ H25 (⟨(some ⟨(h1.next + 0), 0, some 0⟩), 1, 1⟩ : Slc)).bind fun y24 => some (.string y24)) (.string s23)) (
 (if (x13 ++ x16).size + s23.size ≤ 9223372036854775807 then
 (if ((x13 ++ x16) ++ s23).size + r4.1.size ≤ 9223372036854775807 then
 (if (((x13 ++ x16) ++ s23) ++ r4.1).size + r8.1.size ≤ 9223372036854775807 then
 (if ((((x13 ++ x16) ++ s23) ++ r4.1) ++ r8.1).size + r12.1.size ≤ 9223372036854775807 then
 some ((((((x13 ++ x16) ++ s23) ++ r4.1) ++ r8.1) ++ r12.1), h22)
 else none)
 else none)
 else none)
 else none)))
 else none)))))
noncomputable def zUu_ : RCode := an (.n) (rOf Tryz.prog 2 Tryz.f65)
noncomputable def zOt_ (k : Nat) (D : za_) : Ent := zn_ 65 [(0, .st [.s, .s, .i .i64, .i .i64, .i .i64, .i .i64])] [(2, .s)] (znj_ k D)
theorem zyt_ {D : za_} (hD : zf_ Tryz.prog 2 D) (k : Nat) : zk_ Tryz.prog 2 (zOt_ k D) :=
 ze_ (k := k) (rc := zUu_) (cs := [none]) (zd_ hD (zb_.more (zDl_ hD k) (zb_.none))) Tryz.func65 rfl (by kernel_rfl) rfl (by kernel_rfl)
noncomputable def zFe_ (k : Nat) (D : za_) (j12 : (Option Addr) → (Option Addr) → AHeap → Option ((ByteArray × Bool) × AHeap)) (rec46 : (Option Addr) → (Option Addr) → Slc → Int → Int → AHeap → Option ((ByteArray × Bool) × AHeap)) (f40 : Option Addr) (b41 : Option Addr) (y42 : Slc) (y43 : Int) (y44 : Int) (h45 : AHeap) : Option ((ByteArray × Bool) × AHeap) :=
 (if (decide (y44 < y43)) = true then
 (Gx.idxL 1 y42 y44).bind fun q47 =>
 (ldS q47 h45).bind fun x48 =>
 (zt_ k D b41 x48 h45).bind fun r49 =>
 rec46 f40 b41 y42 y43 (IntKind.wrap .i64 (y44 + 1)) r49.2
 else
 j12 f40 b41 h45)
noncomputable def zQm_ (k : Nat) (D : za_) (j12 : (Option Addr) → (Option Addr) → AHeap → Option ((ByteArray × Bool) × AHeap)) : (Option Addr) → (Option Addr) → Slc → Int → Int → AHeap → Option ((ByteArray × Bool) × AHeap) :=
 zi_ (α := (Option Addr) → (Option Addr) → Slc → Int → Int → AHeap → Option ((ByteArray × Bool) × AHeap)) (fun _ _ _ _ _ _ => none) k (zFe_ k D j12)
noncomputable def zLe_ (k : Nat) (D : za_) (j19 : (Option Addr) → AHeap → Option ((ByteArray × Bool) × AHeap)) (rec29 : (Option Addr) → Slc → Int → Int → AHeap → Option ((ByteArray × Bool) × AHeap)) (b24 : Option Addr) (y25 : Slc) (y26 : Int) (y27 : Int) (h28 : AHeap) : Option ((ByteArray × Bool) × AHeap) :=
 (if (decide (y27 < y26)) = true then
 (Gx.idxL 6 y25 y27).bind fun q30 =>
 (ldA 6 q30 h28).bind fun l31 =>
 (decC [.s, .s, .i .i64, .i .i64, .i .i64, .i .i64] l31).bind fun x32 =>
 newK h28 ((.cells [.string ⟨#[]⟩, .string ⟨#[]⟩, .int .i64 0, .int .i64 0, .int .i64 0, .int .i64 0] 57 true 0)) fun h33 =>
 (stL 6 (⟨h28.next, 0, none⟩ : Addr) ([.string x32.1, .string x32.2.1, .int .i64 x32.2.2.1, .int .i64 x32.2.2.2.1, .int .i64 x32.2.2.2.2.1, .int .i64 x32.2.2.2.2.2]) h33).bind fun h34 =>
 (ldA 6 (⟨h28.next, 0, none⟩ : Addr) h34).bind fun l35 =>
 (decC [.s, .s, .i .i64, .i .i64, .i .i64, .i .i64] l35).bind fun x36 =>
 (znj_ k D (x36.1, x36.2.1, x36.2.2.1, x36.2.2.2.1, x36.2.2.2.2.1, x36.2.2.2.2.2) h34).bind fun r37 =>
 (zt_ k D b24 r37.1 r37.2).bind fun r38 =>
 rec29 b24 y25 y26 (IntKind.wrap .i64 (y27 + 1)) r38.2
 else
 j19 b24 h28)
noncomputable def zXm_ (k : Nat) (D : za_) (j19 : (Option Addr) → AHeap → Option ((ByteArray × Bool) × AHeap)) : (Option Addr) → Slc → Int → Int → AHeap → Option ((ByteArray × Bool) × AHeap) :=
 zi_ (α := (Option Addr) → Slc → Int → Int → AHeap → Option ((ByteArray × Bool) × AHeap)) (fun _ _ _ _ _ => none) k (zLe_ k D j19)
noncomputable def zVe_ (k : Nat) (D : za_) (f_0 : Slc × Slc) (h : AHeap) : Option ((ByteArray × Bool) × AHeap) :=
 newK h ((.cells [.slice f_0.1.a f_0.1.len f_0.1.cap, .slice f_0.2.a f_0.2.len f_0.2.cap] 38 true 0)) fun h1 =>
 (ldL (⟨h.next, 0, none⟩ : Addr) h1).bind fun x2 =>
 (ldL (⟨h.next, 1, none⟩ : Addr) h1).bind fun x3 =>
 let t4 : Int := (if (x3.len : Int) > (x2.len : Int) then (x3.len : Int) else (x2.len : Int))
 (if (decide (t4 > 4096)) = true then
 some (((⟨#[]⟩ : ByteArray), false), h1)
 else
 newK h1 ((.cells [.pointer none, .slice none 0 0] 48 true 0)) fun h5 =>
 (ldL (⟨h.next, 0, none⟩ : Addr) h5).bind fun x6 =>
 (zvd_ k D (x6.len : Int) h5).bind fun r7 =>
 (if (⟨#[71, 82, 84, 73, 1]⟩ : ByteArray).size + r7.1.size ≤ 9223372036854775807 then
 (zt_ k D (some (⟨h1.next, 0, none⟩ : Addr)) ((⟨#[71, 82, 84, 73, 1]⟩ : ByteArray) ++ r7.1) r7.2).bind fun r8 =>
 zm_ (fun (f9 : Option Addr) (b10 : Option Addr) (h11 : AHeap) =>
 (f9).bind fun p13 =>
 (ldL (⟨p13.block, p13.off + 1, none⟩ : Addr) h11).bind fun x14 =>
 (zvd_ k D (x14.len : Int) h11).bind fun r15 =>
 (zt_ k D b10 r15.1 r15.2).bind fun r16 =>
 zm_ (fun (b17 : Option Addr) (h18 : AHeap) =>
 (zK_ k D b17 h18).bind fun r20 =>
 (zO_ k D b17 r20.2).bind fun r21 =>
 some ((r20.1, (decide (r21.1 ≤ 65536))), r21.2)) fun j19 =>
 (f9).bind fun p22 =>
 (ldL (⟨p22.block, p22.off + 1, none⟩ : Addr) r16.2).bind fun x23 =>
 zXm_ k D j19 b10 x23 (x23.len : Int) 0 r16.2) fun j12 =>
 (ldL (⟨h.next, 0, none⟩ : Addr) r8.2).bind fun x39 =>
 zQm_ k D j12 (some (⟨h.next, 0, none⟩ : Addr)) (some (⟨h1.next, 0, none⟩ : Addr)) x39 (x39.len : Int) 0 r8.2
 else none))
noncomputable def zmv_ : RCode := an (.s .n (.s .n (.s .n (.s .n (.s (.j [(1, .p), (4, .p)] (.s .n (.b (.l [(1, .p), (4, .p), (24, .l), (25, .i .i64), (26, .i .i64)] .n)))) (.s .n (.s (.j [(4, .p)] (.s .n (.b (.l [(4, .p), (39, .l), (40, .i .i64), (41, .i .i64)] (.s .n (.s .n (.s (.b (.s (.r [(1, .st [.s, .s, .i .i64, .i .i64, .i .i64, .i .i64])]) (.r [(0, .st [.s, .s, .i .i64, .i .i64, .i .i64, .i .i64])]))) .n))))))) .n))))))) (rOf Tryz.prog 2 Tryz.f27)
noncomputable def zOu_ (k : Nat) (D : za_) : Ent := zn_ 27 [(0, .st [.l, .l])] [(2, .s), (3, .b)] (zVe_ k D)
theorem zst_ {D : za_} (hD : zf_ Tryz.prog 2 D) (k : Nat) : zk_ Tryz.prog 2 (zOu_ k D) :=
 ze_ (k := k) (rc := zmv_) (cs := [none, none]) (zd_ hD (zb_.more (zDl_ hD k) (zb_.more (zHb_ hD k) (zb_.more (zod_ hD k) (zb_.more (zke_ hD k) (zb_.more (zyt_ hD k) (zb_.none))))))) Tryz.func27 rfl (by kernel_rfl) rfl (by kernel_rfl)
noncomputable def zkb_ (_k : Nat) (_D : za_) (s_0 : Slc) (h : AHeap) : Option ((Slc) × AHeap) :=
 (Gx.subL 6 s_0 none (some (s_0.len : Int)) (some (s_0.len : Int))).bind fun l1 =>
 some (l1, h)
noncomputable def zjh_ : RCode := an (.n) (rOf Tryz.prog 2 Tryz.f28)
noncomputable def zkh_ (k : Nat) (D : za_) : Ent := zn_ 28 [(0, .l)] [(2, .l)] (zkb_ k D)
theorem zRg_ {D : za_} (hD : zf_ Tryz.prog 2 D) (k : Nat) : zk_ Tryz.prog 2 (zkh_ k D) :=
 ze_ (k := k) (rc := zjh_) (cs := [none]) (zd_ hD (zb_.none)) Tryz.func28 rfl (by kernel_rfl) rfl (by kernel_rfl)
noncomputable def zYd_ (k : Nat) (D : za_) (j13 : Slc → (Option Addr) → AHeap → Option ((Slc × Int) × AHeap)) (rec28 : Slc → (Option Addr) → Slc → Int → Int → AHeap → Option ((Slc × Int) × AHeap)) (out22 : Slc) (part23 : Option Addr) (y24 : Slc) (y25 : Int) (y26 : Int) (h27 : AHeap) : Option ((Slc × Int) × AHeap) :=
 (if (decide (y26 < y25)) = true then
 (Gx.idxL 6 y24 y26).bind fun q29 =>
 (ldA 6 q29 h27).bind fun l30 =>
 (decC [.s, .s, .i .i64, .i .i64, .i .i64, .i .i64] l30).bind fun x31 =>
 newK h27 ((.cells [.string ⟨#[]⟩, .string ⟨#[]⟩, .int .i64 0, .int .i64 0, .int .i64 0, .int .i64 0] 57 true 0)) fun h32 =>
 (stL 6 (⟨h27.next, 0, none⟩ : Addr) ([.string x31.1, .string x31.2.1, .int .i64 x31.2.2.1, .int .i64 x31.2.2.2.1, .int .i64 x31.2.2.2.2.1, .int .i64 x31.2.2.2.2.2]) h32).bind fun h33 =>
 let h34 := AHeap.resv h33 2
 (part23).bind fun p35 =>
 (ldL (⟨p35.block, p35.off + 1, none⟩ : Addr) h34).bind fun x36 =>
 (zkb_ k D x36 h34).bind fun r37 =>
 (ldA 6 (⟨h27.next, 0, none⟩ : Addr) r37.2).bind fun l38 =>
 zR_ (zKb_ [h34] (fun H40 => (ldA 6 (⟨h27.next, 0, none⟩ : Addr) H40).bind fun y39 => some (.agg ⟨y39⟩)) (.agg ⟨l38⟩)) (
 (decC [.s, .s, .i .i64, .i .i64, .i .i64, .i .i64] l38).bind fun x41 =>
 let h42 := AHeap.set r37.2 (h33.next + 0) (.cells [.string x41.1, .string x41.2.1, .int .i64 x41.2.2.1, .int .i64 x41.2.2.2.1, .int .i64 x41.2.2.2.2.1, .int .i64 x41.2.2.2.2.2] 57 true 0)
 (rdS 6 (⟨(some ⟨(h33.next + 0), 0, some 0⟩), 1, 1⟩ : Slc) h42).bind fun n44 =>
 (zl_ 6 64 57 h42 r37.1 n44 1).bind fun r43 =>
 (part23).bind fun p45 =>
 (ldL (⟨p45.block, p45.off + 0, none⟩ : Addr) r43.2).bind fun x46 =>
 zR_ (zKb_ [h42, r37.2, h34] (fun H48 => (ldL (⟨p45.block, p45.off + 0, none⟩ : Addr) H48).bind fun y47 => some (.slice y47.a y47.len y47.cap)) (.slice x46.a x46.len x46.cap)) (
 let h49 := AHeap.set r43.2 (h33.next + 1) (.cells [.slice none 0 0, .slice none 0 0] 38 true 0)
 (stL 2 (⟨(h33.next + 1), 0, none⟩ : Addr) ([.slice x46.a x46.len x46.cap, .slice r43.1.a r43.1.len r43.1.cap]) h49).bind fun h50 =>
 zm_ (fun (out51 : Slc) (part52 : Option Addr) (more53 : Option Addr) (y54 : Slc) (y55 : Int) (y56 : Int) (h57 : AHeap) =>
 (more53).bind fun p59 =>
 (ldA 2 p59 h57).bind fun l60 =>
 (decC [.l, .l] l60).bind fun x61 =>
 (part52).bind fun p62 =>
 (stL 2 p62 ([.slice x61.1.a x61.1.len x61.1.cap, .slice x61.2.a x61.2.len x61.2.cap]) h57).bind fun h63 =>
 rec28 out51 part52 y54 y55 (IntKind.wrap .i64 (y56 + 1)) h63) fun j58 =>
 (ldA 2 (⟨(h33.next + 1), 0, none⟩ : Addr) h50).bind fun l64 =>
 (decC [.l, .l] l64).bind fun x65 =>
 (zVe_ k D (x65.1, x65.2) h50).bind fun r66 =>
 (if (!r66.1.2) = true then
 (part23).bind fun p67 =>
 (ldA 2 p67 r66.2).bind fun l68 =>
 (decC [.l, .l] l68).bind fun x69 =>
 (zVe_ k D (x69.1, x69.2) r66.2).bind fun r70 =>
 newK r70.2 ((.cells [.string r70.1.1] 9 true 0)) fun h71 =>
 (rdS 1 (⟨(some ⟨r70.2.next, 0, some 0⟩), 1, 1⟩ : Slc) h71).bind fun n73 =>
 (zl_ 1 16 9 h71 out22 n73 1).bind fun r72 =>
 (ldA 6 (⟨h27.next, 0, none⟩ : Addr) r72.2).bind fun l74 =>
 (decC [.s, .s, .i .i64, .i .i64, .i .i64, .i .i64] l74).bind fun x75 =>
 newK r72.2 ((.cells [.string x75.1, .string x75.2.1, .int .i64 x75.2.2.1, .int .i64 x75.2.2.2.1, .int .i64 x75.2.2.2.2.1, .int .i64 x75.2.2.2.2.2] 57 true 0)) fun h76 =>
 (stL 2 (⟨(h33.next + 1), 0, none⟩ : Addr) ([.slice none 0 0, .slice (some ⟨r72.2.next, 0, some 0⟩) 1 1]) h76).bind fun h77 =>
 j58 r72.1 part23 (some (⟨(h33.next + 1), 0, none⟩ : Addr)) y24 y25 y26 h77
 else
 j58 out22 part23 (some (⟨(h33.next + 1), 0, none⟩ : Addr)) y24 y25 y26 r66.2)))
 else
 j13 out22 part23 h27)
noncomputable def zdl_ (k : Nat) (D : za_) (j13 : Slc → (Option Addr) → AHeap → Option ((Slc × Int) × AHeap)) : Slc → (Option Addr) → Slc → Int → Int → AHeap → Option ((Slc × Int) × AHeap) :=
 zi_ (α := Slc → (Option Addr) → Slc → Int → Int → AHeap → Option ((Slc × Int) × AHeap)) (fun _ _ _ _ _ _ => none) k (zYd_ k D j13)
noncomputable def zki_ (k : Nat) (D : za_) (f_0 : Slc × Slc) (h : AHeap) : Option ((Slc × Int) × AHeap) :=
 newK h ((.cells [.slice f_0.1.a f_0.1.len f_0.1.cap, .slice f_0.2.a f_0.2.len f_0.2.cap] 38 true 0)) fun h1 =>
 (ldA 2 (⟨h.next, 0, none⟩ : Addr) h1).bind fun l2 =>
 (decC [.l, .l] l2).bind fun x3 =>
 (zvg_ k D (x3.1, x3.2) h1).bind fun r4 =>
 (if (r4.1 != 0) = true then
 some (((⟨none, 0, 0⟩ : Slc), r4.1), r4.2)
 else
 (ldL (⟨h.next, 0, none⟩ : Addr) r4.2).bind fun x5 =>
 (zVe_ k D (x5, (⟨none, 0, 0⟩ : Slc)) r4.2).bind fun r6 =>
 (if (!r6.1.2) = true then
 some (((⟨none, 0, 0⟩ : Slc), 2), r6.2)
 else
 (ldL (⟨h.next, 0, none⟩ : Addr) r6.2).bind fun x7 =>
 newK r6.2 ((.cells [.slice none 0 0, .slice none 0 0] 38 true 0)) fun h8 =>
 (stL 2 (⟨r6.2.next, 0, none⟩ : Addr) ([.slice x7.a x7.len x7.cap, .slice none 0 0]) h8).bind fun h9 =>
 zm_ (fun (out10 : Slc) (part11 : Option Addr) (h12 : AHeap) =>
 (part11).bind fun p14 =>
 (ldA 2 p14 h12).bind fun l15 =>
 (decC [.l, .l] l15).bind fun x16 =>
 (zVe_ k D (x16.1, x16.2) h12).bind fun r17 =>
 newK r17.2 ((.cells [.string r17.1.1] 9 true 0)) fun h18 =>
 (rdS 1 (⟨(some ⟨r17.2.next, 0, some 0⟩), 1, 1⟩ : Slc) h18).bind fun n20 =>
 (zl_ 1 16 9 h18 out10 n20 1).bind fun r19 =>
 some ((r19.1, 0), r19.2)) fun j13 =>
 (ldL (⟨h.next, 1, none⟩ : Addr) h9).bind fun x21 =>
 zdl_ k D j13 (⟨none, 0, 0⟩ : Slc) (some (⟨r6.2.next, 0, none⟩ : Addr)) x21 (x21.len : Int) 0 h9))
noncomputable def zct_ : RCode := an (.s .n (.s (.s (.r [(0, .st [.l, .l])]) .n) (.s .n (.s .n (.s .n (.s (.j [(7, .l), (8, .p)] (.s .n (.b (.l [(7, .l), (8, .p), (36, .l), (37, .i .i64), (38, .i .i64)] (.s .n (.s .n (.s (.b (.s (.r [(1, .st [.s, .s, .i .i64, .i .i64, .i .i64, .i .i64])]) (.s (.r [(3, .st [.s, .s, .i .i64, .i .i64, .i .i64, .i .i64])]) (.s (.j [(7, .l), (8, .p), (11, .p), (36, .l), (37, .i .i64), (38, .i .i64)] (.s (.r [(0, .st [.l, .l])]) (.s .n (.s (.s (.r [(0, .st [.l, .l])]) (.s .n (.r [(0, .st [.s, .s, .i .i64, .i .i64, .i .i64, .i .i64])]))) .n)))) (.r [(0, .st [.l, .l])]))))) .n))))))) (.s (.r [(0, .st [.l, .l])]) .n))))))) (rOf Tryz.prog 2 Tryz.f7)
noncomputable def ztt_ (k : Nat) (D : za_) : Ent := zn_ 7 [(0, .st [.l, .l])] [(2, .l), (3, .i .i64)] (zki_ k D)
theorem zKr_ {D : za_} (hD : zf_ Tryz.prog 2 D) (k : Nat) : zk_ Tryz.prog 2 (ztt_ k D) :=
 ze_ (k := k) (rc := zct_) (cs := [none, none]) (zd_ hD (zb_.more (zel_ hD k) (zb_.more (zst_ hD k) (zb_.more (zRg_ hD k) (zb_.none))))) Tryz.func7 rfl (by kernel_rfl) rfl (by kernel_rfl)
noncomputable def zOb_ (_k : Nat) (_D : za_) (s_0 : Slc) (n_1 : Int) (h : AHeap) : Option ((Slc) × AHeap) :=
 zm_ (fun (s1 : Slc) (n2 : Int) (h3 : AHeap) =>
 zm_ (fun (s5 : Slc) (h6 : AHeap) =>
 some (s5, h6)) fun j7 =>
 (zpk_ s1).bind fun c8 =>
 let t9 : Int := (IntKind.wrap .i64 (n2 - (IntKind.wrap .i64 (c8 - (s1.len : Int)))))
 (if (decide (t9 > 0)) = true then
 (zpk_ s1).bind fun c10 =>
 (Gx.subL 6 s1 none (some c10) none).bind fun l11 =>
 (if 0 ≤ t9 ∧ t9 ≤ 281474976710656 ∧ t9 * 64 ≤ 281474976710656 then
 (zl_ 6 64 57 h3 l11 (zu_ (t9).toNat [.string ⟨#[]⟩, .string ⟨#[]⟩, .int .i64 0, .int .i64 0, .int .i64 0, .int .i64 0]) (t9).toNat).bind fun r12 =>
 (Gx.subL 6 r12.1 none (some (s1.len : Int)) none).bind fun l13 =>
 j7 l13 r12.2
 else none)
 else
 j7 s1 h3)) fun j4 =>
 (if (decide (n_1 < 0)) = true then
 none
 else
 j4 s_0 n_1 h)
noncomputable def zmh_ : RCode := an (.s .n (.s (.j [(0, .l), (1, .i .i64)] .n) (.s (.j [(0, .l)] .n) .n))) (rOf Tryz.prog 2 Tryz.f66)
noncomputable def znh_ (k : Nat) (D : za_) : Ent := zn_ 66 [(0, .l), (1, .i .i64)] [(4, .l)] (zOb_ k D)
theorem zPg_ {D : za_} (hD : zf_ Tryz.prog 2 D) (k : Nat) : zk_ Tryz.prog 2 (znh_ k D) :=
 ze_ (k := k) (rc := zmh_) (cs := [none]) (zd_ hD (zb_.none)) Tryz.func66 rfl (by kernel_rfl) rfl (by kernel_rfl)
noncomputable def zT_ (_k : Nat) (_D : za_) (j4 : Slc → Int → AHeap → Option ((Slc) × AHeap)) (rec25 : Slc → Int → Slc → Int → Int → AHeap → Option ((Slc) × AHeap)) (slices19 : Slc) (size20 : Int) (y21 : Slc) (y22 : Int) (y23 : Int) (h24 : AHeap) : Option ((Slc) × AHeap) :=
 (if (decide (y23 < y22)) = true then
 zm_ (fun (slices26 : Slc) (size27 : Int) (y28 : Slc) (y29 : Int) (y30 : Int) (h31 : AHeap) =>
 rec25 slices26 size27 y28 y29 (IntKind.wrap .i64 (y30 + 1)) h31) fun j32 =>
 (Gx.idxL 1 y21 y23).bind fun q33 =>
 (ldL q33 h24).bind fun x34 =>
 (if (decide ((IntKind.wrap .i64 (size20 + (x34.len : Int))) < 0)) = true then
 none
 else
 j32 slices19 (IntKind.wrap .i64 (size20 + (x34.len : Int))) y21 y22 y23 h24)
 else
 j4 slices19 size20 h24)
noncomputable def zcd_ (k : Nat) (D : za_) (j4 : Slc → Int → AHeap → Option ((Slc) × AHeap)) : Slc → Int → Slc → Int → Int → AHeap → Option ((Slc) × AHeap) :=
 zi_ (α := Slc → Int → Slc → Int → Int → AHeap → Option ((Slc) × AHeap)) (fun _ _ _ _ _ _ => none) k (zT_ k D j4)
noncomputable def zC_ (_k : Nat) (_D : za_) (j8 : Slc → AHeap → Option ((Slc) × AHeap)) (rec14 : Slc → Slc → Int → Int → AHeap → Option ((Slc) × AHeap)) (newslice9 : Slc) (y10 : Slc) (y11 : Int) (y12 : Int) (h13 : AHeap) : Option ((Slc) × AHeap) :=
 (if (decide (y12 < y11)) = true then
 (Gx.idxL 1 y10 y12).bind fun q15 =>
 (ldL q15 h13).bind fun x16 =>
 (rdS 6 x16 h13).bind fun n18 =>
 (zl_ 6 64 57 h13 newslice9 n18 x16.len).bind fun r17 =>
 rec14 r17.1 y10 y11 (IntKind.wrap .i64 (y12 + 1)) r17.2
 else
 j8 newslice9 h13)
noncomputable def zgd_ (k : Nat) (D : za_) (j8 : Slc → AHeap → Option ((Slc) × AHeap)) : Slc → Slc → Int → Int → AHeap → Option ((Slc) × AHeap) :=
 zi_ (α := Slc → Slc → Int → Int → AHeap → Option ((Slc) × AHeap)) (fun _ _ _ _ _ => none) k (zC_ k D j8)
noncomputable def zEb_ (k : Nat) (D : za_) (slices_0 : Slc) (h : AHeap) : Option ((Slc) × AHeap) :=
 zm_ (fun (slices1 : Slc) (size2 : Int) (h3 : AHeap) =>
 (zOb_ k D (⟨none, 0, 0⟩ : Slc) size2 h3).bind fun r5 =>
 zm_ (fun (newslice6 : Slc) (h7 : AHeap) =>
 some (newslice6, h7)) fun j8 =>
 zgd_ k D j8 r5.1 slices1 (slices1.len : Int) 0 r5.2) fun j4 =>
 zcd_ k D j4 slices_0 0 slices_0 (slices_0.len : Int) 0 h
noncomputable def zAg_ : RCode := an (.s .n (.s .n (.s (.j [(0, .l), (3, .i .i64)] (.s .n (.b (.l [(0, .l), (3, .i .i64), (9, .l), (10, .i .i64), (11, .i .i64)] (.s .n (.s .n (.s (.j [(0, .l), (3, .i .i64), (9, .l), (10, .i .i64), (11, .i .i64)] .n) .n))))))) (.s .n (.s (.j [(6, .l)] (.s .n (.b (.l [(6, .l), (25, .l), (26, .i .i64), (27, .i .i64)] .n)))) .n))))) (rOf Tryz.prog 2 Tryz.f29)
noncomputable def zkg_ (k : Nat) (D : za_) : Ent := zn_ 29 [(0, .l)] [(2, .l)] (zEb_ k D)
theorem zig_ {D : za_} (hD : zf_ Tryz.prog 2 D) (k : Nat) : zk_ Tryz.prog 2 (zkg_ k D) :=
 ze_ (k := k) (rc := zAg_) (cs := [none]) (zd_ hD (zb_.more (zPg_ hD k) (zb_.none))) Tryz.func29 rfl (by kernel_rfl) rfl (by kernel_rfl)
noncomputable def zbf_ (k : Nat) (D : za_) (t_0 : Option Addr) (h : AHeap) : Option ((Slc) × AHeap) :=
 (t_0).bind fun p1 =>
 (Gx.subA 256 1 (⟨p1.block, p1.off + 0, none⟩ : Addr) none none none).bind fun l2 =>
 (zEb_ k D l2 h).bind fun r3 =>
 some (r3.1, r3.2)
noncomputable def zCo_ : RCode := an (.n) (rOf Tryz.prog 2 Tryz.f8)
noncomputable def zTo_ (k : Nat) (D : za_) : Ent := zn_ 8 [(0, .p)] [(2, .l)] (zbf_ k D)
theorem zen_ {D : za_} (hD : zf_ Tryz.prog 2 D) (k : Nat) : zk_ Tryz.prog 2 (zTo_ k D) :=
 ze_ (k := k) (rc := zCo_) (cs := [none]) (zd_ hD (zb_.more (zig_ hD k) (zb_.none))) Tryz.func8 rfl (by kernel_rfl) rfl (by kernel_rfl)
end Gg
namespace Go.Proofs
open Go.Shelf Go.RowKit Go.Sort
def Tryz.sortA_ren : Go.Shelf.Ren := ⟨fun | 6 => 31 | 8 => 74 | 9 => 73 | 19 => 108 | 20 => 109 | 21 => 100 | 22 => 101 | 23 => 102 | 24 => 103 | 25 => 104 | 26 => 105 | 27 => 61 | 28 => 106 | 29 => 107 | 36 => 122 | 31 => 123 | 32 => 124 | 37 => 125 | 38 => 126 | 39 => 98 | 41 => 131 | n => n, fun | 27 => 23 | 29 => 9 | 3 => 3 | 32 => 137 | 26 => 23 | 0 => 0 | 44 => 138 | 46 => 144 | 4 => 4 | 36 => 164 | 35 => 163 | 41 => 121 | 5 => 5 | 9 => 9 | 53 => 190 | 57 => 194 | 63 => 206 | 64 => 184 | n => n, fun | n => n⟩
theorem Tryz.sortA : Go.Proofs.SlLaysM.n6 Tryz.prog Tryz.sortA_ren := {
 mixed := by kernel_rfl
 f6 := ⟨Tryz.f31.name, by decide, Tryz.func31.trans (congrArg some (by kernel_rfl))⟩
 f8 := Tryz.func74.trans (congrArg some (by kernel_rfl))
 f9 := ⟨Tryz.f73.name, by decide, Tryz.func73.trans (congrArg some (by kernel_rfl))⟩
 f19 := Tryz.func108.trans (congrArg some (by kernel_rfl))
 f20 := Tryz.func109.trans (congrArg some (by kernel_rfl))
 f21 := ⟨Tryz.f100.name, by decide, Tryz.func100.trans (congrArg some (by kernel_rfl))⟩
 f22 := ⟨Tryz.f101.name, by decide, Tryz.func101.trans (congrArg some (by kernel_rfl))⟩
 f23 := ⟨Tryz.f102.name, by decide, Tryz.func102.trans (congrArg some (by kernel_rfl))⟩
 f24 := ⟨Tryz.f103.name, by decide, Tryz.func103.trans (congrArg some (by kernel_rfl))⟩
 f25 := ⟨Tryz.f104.name, by decide, Tryz.func104.trans (congrArg some (by kernel_rfl))⟩
 f26 := ⟨Tryz.f105.name, by decide, Tryz.func105.trans (congrArg some (by kernel_rfl))⟩
 f27 := ⟨Tryz.f61.name, by decide, Tryz.func61.trans (congrArg some (by kernel_rfl))⟩
 f28 := ⟨Tryz.f106.name, by decide, Tryz.func106.trans (congrArg some (by kernel_rfl))⟩
 f29 := ⟨Tryz.f107.name, by decide, Tryz.func107.trans (congrArg some (by kernel_rfl))⟩
 f31 := Tryz.func123.trans (congrArg some (by kernel_rfl))
 f32 := Tryz.func124.trans (congrArg some (by kernel_rfl))
 f36 := ⟨Tryz.f122.name, by decide, Tryz.func122.trans (congrArg some (by kernel_rfl))⟩
 f37 := ⟨Tryz.f125.name, by decide, Tryz.func125.trans (congrArg some (by kernel_rfl))⟩
 f38 := ⟨Tryz.f126.name, by decide, Tryz.func126.trans (congrArg some (by kernel_rfl))⟩
 f39 := ⟨Tryz.f98.name, by decide, Tryz.func98.trans (congrArg some (by kernel_rfl))⟩
 f41 := ⟨Tryz.f131.name, by decide, Tryz.func131.trans (congrArg some (by kernel_rfl))⟩
 t0 := Tryz.underlying0
 a0 := Tryz.isAgg0
 z0 := Tryz.sizeOf0
 v0 := Tryz.zeroValue0
 t3 := Tryz.underlying3
 a3 := Tryz.isAgg3
 z3 := Tryz.sizeOf3
 v3 := Tryz.zeroValue3
 t4 := Tryz.underlying4
 a4 := Tryz.isAgg4
 z4 := Tryz.sizeOf4
 v4 := Tryz.zeroValue4
 t5 := Tryz.underlying5
 a5 := Tryz.isAgg5
 z5 := Tryz.sizeOf5
 v5 := Tryz.zeroValue5
 t9 := Tryz.underlying9
 a9 := Tryz.isAgg9
 z9 := Tryz.sizeOf9
 v9 := Tryz.zeroValue9
 t26 := Tryz.underlying23
 a26 := Tryz.isAgg23
 z26 := Tryz.sizeOf23
 v26 := Tryz.zeroValue23
 t27 := Tryz.underlying23
 a27 := Tryz.isAgg23
 z27 := Tryz.sizeOf23
 v27 := Tryz.zeroValue23
 t29 := Tryz.underlying9
 a29 := Tryz.isAgg9
 z29 := Tryz.sizeOf9
 v29 := Tryz.zeroValue9
 t32 := Tryz.underlying137
 a32 := Tryz.isAgg137
 z32 := Tryz.sizeOf137
 v32 := Tryz.zeroValue137
 t35 := Tryz.underlying163
 a35 := Tryz.isAgg163
 z35 := Tryz.sizeOf163
 v35 := Tryz.zeroValue163
 t36 := Tryz.underlying164
 a36 := Tryz.isAgg164
 z36 := Tryz.sizeOf164
 v36 := Tryz.zeroValue164
 t41 := Tryz.underlying121
 a41 := Tryz.isAgg121
 z41 := Tryz.sizeOf121
 v41 := Tryz.zeroValue121
 t44 := Tryz.underlying138
 a44 := Tryz.isAgg138
 z44 := Tryz.sizeOf138
 v44 := Tryz.zeroValue138
 t46 := Tryz.underlying144
 a46 := Tryz.isAgg144
 z46 := Tryz.sizeOf144
 v46 := Tryz.zeroValue144
 t53 := Tryz.underlying190
 a53 := Tryz.isAgg190
 z53 := Tryz.sizeOf190
 v53 := Tryz.zeroValue190
 t57 := Tryz.underlying194
 a57 := Tryz.isAgg194
 z57 := Tryz.sizeOf194
 v57 := Tryz.zeroValue194
 t63 := Tryz.underlying206
 a63 := Tryz.isAgg206
 z63 := Tryz.sizeOf206
 v63 := Tryz.zeroValue206
 t64 := Tryz.underlying184
 a64 := Tryz.isAgg184
 z64 := Tryz.sizeOf184
 v64 := Tryz.zeroValue184 }
theorem Tryz.sortC : Gx.SortC Tryz.prog 31 := ⟨fun blk off cap ss W hH hblk hsz => AnyM.slices_Sort_string Tryz.sortA blk off cap ss W hH hblk hsz, fun p cap W => AnyM.slices_Sort_string_none Tryz.sortA p cap W⟩
end Go.Proofs
namespace Gg
open Go Gx Go.Proofs
noncomputable def zzi_ (_k : Nat) (_D : za_) : Ent := zDx_ 31
theorem zgi_ {D : za_} (_hD : zf_ Tryz.prog 2 D) (k : Nat) : zk_ Tryz.prog 2 (zzi_ k D) :=
 zcD_ (c := _) Tryz.func31 rfl rfl Tryz.sortC
end Gg
namespace Gg
open Go Gx Go.Proofs
set_option maxRecDepth 100000
noncomputable def zcb_ (_k : Nat) (_D : za_) (j20 : Slc → Int → AHeap → Option ((Slc) × AHeap)) (rec29 : Slc → Int → Slc → Int → AHeap → Option ((Slc) × AHeap)) (s24 : Slc) (kv25 : Int) (s226 : Slc) (k227 : Int) (h28 : AHeap) : Option ((Slc) × AHeap) :=
 (if (decide (k227 < (s226.len : Int))) = true then
 zm_ (fun (s30 : Slc) (kv31 : Int) (s232 : Slc) (k233 : Int) (h34 : AHeap) =>
 rec29 s30 kv31 s232 (IntKind.wrap .i64 (k233 + 1)) h34) fun j35 =>
 (Gx.idxL 1 s226 k227).bind fun q36 =>
 (ldS q36 h28).bind fun x37 =>
 (Gx.idxL 1 s226 (IntKind.wrap .i64 (k227 - 1))).bind fun q38 =>
 (ldS q38 h28).bind fun x39 =>
 (if (!(x37 == x39)) = true then
 (Gx.idxL 1 s226 k227).bind fun q40 =>
 (ldS q40 h28).bind fun x41 =>
 (Gx.idxL 1 s24 kv25).bind fun q42 =>
 (st1 q42 (.string x41) h28).bind fun h43 =>
 j35 s24 (IntKind.wrap .i64 (kv25 + 1)) s226 k227 h43
 else
 j35 s24 kv25 s226 k227 h28)
 else
 j20 s24 kv25 h28)
noncomputable def zPd_ (k : Nat) (D : za_) (j20 : Slc → Int → AHeap → Option ((Slc) × AHeap)) : Slc → Int → Slc → Int → AHeap → Option ((Slc) × AHeap) :=
 zi_ (α := Slc → Int → Slc → Int → AHeap → Option ((Slc) × AHeap)) (fun _ _ _ _ _ => none) k (zcb_ k D j20)
noncomputable def zbb_ (k : Nat) (D : za_) (j3 : Slc → AHeap → Option ((Slc) × AHeap)) (rec7 : Slc → Int → AHeap → Option ((Slc) × AHeap)) (s4 : Slc) (kv5 : Int) (h6 : AHeap) : Option ((Slc) × AHeap) :=
 (if (decide (kv5 < (s4.len : Int))) = true then
 zm_ (fun (s8 : Slc) (kv9 : Int) (h10 : AHeap) =>
 rec7 s8 (IntKind.wrap .i64 (kv9 + 1)) h10) fun j11 =>
 (Gx.idxL 1 s4 kv5).bind fun q12 =>
 (ldS q12 h6).bind fun x13 =>
 (Gx.idxL 1 s4 (IntKind.wrap .i64 (kv5 - 1))).bind fun q14 =>
 (ldS q14 h6).bind fun x15 =>
 (if (x13 == x15) = true then
 (Gx.subL 1 s4 (some kv5) none none).bind fun l16 =>
 zm_ (fun (s17 : Slc) (kv18 : Int) (h19 : AHeap) =>
 (Gx.subL 1 s17 (some kv18) none none).bind fun l21 =>
 (clrL [.string ⟨#[]⟩] l21 h19).bind fun h22 =>
 (Gx.subL 1 s17 none (some kv18) none).bind fun l23 =>
 some (l23, h22)) fun j20 =>
 zPd_ k D j20 s4 kv5 l16 1 h6
 else
 j11 s4 kv5 h6)
 else
 j3 s4 h6)
noncomputable def zQd_ (k : Nat) (D : za_) (j3 : Slc → AHeap → Option ((Slc) × AHeap)) : Slc → Int → AHeap → Option ((Slc) × AHeap) :=
 zi_ (α := Slc → Int → AHeap → Option ((Slc) × AHeap)) (fun _ _ _ => none) k (zbb_ k D j3)
noncomputable def zUb_ (k : Nat) (D : za_) (s_0 : Slc) (h : AHeap) : Option ((Slc) × AHeap) :=
 (if (decide ((s_0.len : Int) < 2)) = true then
 some (s_0, h)
 else
 zm_ (fun (s1 : Slc) (h2 : AHeap) =>
 some (s1, h2)) fun j3 =>
 zQd_ k D j3 s_0 1 h)
noncomputable def zEh_ : RCode := an (.s .n (.s .n (.s (.j [(0, .l)] (.s .n (.b (.l [(0, .l), (3, .i .i64)] (.s .n (.s (.j [(0, .l), (3, .i .i64)] (.b (.s .n (.s (.s .n (.s (.j [(0, .l), (3, .i .i64)] (.s .n (.b (.l [(0, .l), (3, .i .i64), (4, .l), (5, .i .i64)] (.s .n (.s (.j [(0, .l), (3, .i .i64), (4, .l), (5, .i .i64)] .n) .n)))))) .n)) .n)))) .n)))))) .n))) (rOf Tryz.prog 2 Tryz.f32)
noncomputable def zph_ (k : Nat) (D : za_) : Ent := zn_ 32 [(0, .l)] [(2, .l)] (zUb_ k D)
theorem zlh_ {D : za_} (hD : zf_ Tryz.prog 2 D) (k : Nat) : zk_ Tryz.prog 2 (zph_ k D) :=
 ze_ (k := k) (rc := zEh_) (cs := [none]) (zd_ hD (zb_.none)) Tryz.func32 rfl (by kernel_rfl) rfl (by kernel_rfl)
noncomputable def zxc_ (k : Nat) (D : za_) (s_0 : ByteArray) (prefix_1 : ByteArray) (h : AHeap) : Option ((ByteArray × Bool) × AHeap) :=
 (zhb_ k D s_0 prefix_1 h).bind fun r1 =>
 (if (!r1.1) = true then
 some ((s_0, false), r1.2)
 else
 (Gx.subS s_0 (some (prefix_1.size : Int)) none).bind fun s2 =>
 some ((s2, true), r1.2))
noncomputable def zUg_ : RCode := an (.n) (rOf Tryz.prog 2 Tryz.f99)
noncomputable def zXg_ (k : Nat) (D : za_) : Ent := zn_ 99 [(0, .s), (1, .s)] [(4, .s), (5, .b)] (zxc_ k D)
theorem zug_ {D : za_} (hD : zf_ Tryz.prog 2 D) (k : Nat) : zk_ Tryz.prog 2 (zXg_ k D) :=
 ze_ (k := k) (rc := zUg_) (cs := [none, none]) (zd_ hD (zb_.more (ztd_ hD k) (zb_.none))) Tryz.func99 rfl (by kernel_rfl) rfl (by kernel_rfl)
noncomputable def zoe_ (k : Nat) (D : za_) (s_0 : ByteArray) (prefix_1 : ByteArray) (h : AHeap) : Option ((ByteArray × Bool) × AHeap) :=
 (zxc_ k D s_0 prefix_1 h).bind fun r1 =>
 some ((r1.1.1, r1.1.2), r1.2)
noncomputable def zcn_ : RCode := an (.n) (rOf Tryz.prog 2 Tryz.f67)
noncomputable def znn_ (k : Nat) (D : za_) : Ent := zn_ 67 [(0, .s), (1, .s)] [(4, .s), (5, .b)] (zoe_ k D)
theorem zkm_ {D : za_} (hD : zf_ Tryz.prog 2 D) (k : Nat) : zk_ Tryz.prog 2 (znn_ k D) :=
 ze_ (k := k) (rc := zcn_) (cs := [none, none]) (zd_ hD (zb_.more (zug_ hD k) (zb_.none))) Tryz.func67 rfl (by kernel_rfl) rfl (by kernel_rfl)
noncomputable def zqn_ (k : Nat) (D : za_) : za_ := mkC D [zCf_ k D, zNg_ k D]
noncomputable def zlb_ (k : Nat) (D : za_) (j3 : Slc → AHeap → Option ((Slc) × AHeap)) (rec11 : (Option Addr) → Value → Slc → Int → Int → AHeap → Option ((Slc) × AHeap)) (r5 : Option Addr) (one6 : Value) (out7 : Slc) (y8 : Int) (y9 : Int) (h10 : AHeap) : Option ((Slc) × AHeap) :=
 (if (decide (y9 < y8)) = true then
 zVc_ (zqn_ k D) one6 [.pointer r5] h10 fun v12 h13 =>
 (decS v12).bind fun x14 =>
 (zVb_ k D r5 h13).bind fun r15 =>
 (if (r15.1 != 0) = true then
 some ((⟨none, 0, 0⟩ : Slc), r15.2)
 else
 newK r15.2 ((.cells [.string x14] 9 true 0)) fun h16 =>
 (rdS 1 (⟨(some ⟨r15.2.next, 0, some 0⟩), 1, 1⟩ : Slc) h16).bind fun n18 =>
 (zl_ 1 16 9 h16 out7 n18 1).bind fun r17 =>
 rec11 r5 one6 r17.1 y8 (IntKind.wrap .i64 (y9 + 1)) r17.2)
 else
 j3 out7 h10)
noncomputable def zyh_ (k : Nat) (D : za_) (j3 : Slc → AHeap → Option ((Slc) × AHeap)) : (Option Addr) → Value → Slc → Int → Int → AHeap → Option ((Slc) × AHeap) :=
 zi_ (α := (Option Addr) → Value → Slc → Int → Int → AHeap → Option ((Slc) × AHeap)) (fun _ _ _ _ _ _ => none) k (zlb_ k D j3)
noncomputable def zte_ (k : Nat) (D : za_) (r_0 : Option Addr) (one_1 : Value) (h : AHeap) : Option ((Slc) × AHeap) :=
 zm_ (fun (out1 : Slc) (h2 : AHeap) =>
 some (out1, h2)) fun j3 =>
 (zV_ k D r_0 4096 h).bind fun r4 =>
 zyh_ k D j3 r_0 one_1 (⟨none, 0, 0⟩ : Slc) r4.1 0 r4.2
noncomputable def zsn_ : RCode := an (.s .n (.s .n (.s (.j [(5, .l)] (.s .n (.b (.l [(0, .p), (1, .v), (5, .l), (8, .i .i64), (9, .i .i64)] (.s .n (.s .n (.s (.b (.s (.r [(2, .s)]) .n)) .n))))))) .n))) (rOf Tryz.prog 2 Tryz.f68)
noncomputable def zrn_ (k : Nat) (D : za_) : Ent := zn_ 68 [(0, .p), (1, .v)] [(4, .l)] (zte_ k D)
theorem zYl_ {D : za_} (hD : zf_ Tryz.prog 2 D) (k : Nat) : zk_ Tryz.prog 2 (zrn_ k D) :=
 ze_ (k := k) (rc := zsn_) (cs := [none]) (zd_ hD (zb_.more (zdc_ hD k) (zb_.more (zqe_ hD k) (zb_.none)))) Tryz.func68 rfl (by kernel_rfl) rfl (by kernel_rfl)
noncomputable def zjl_ (k : Nat) (D : za_) : za_ := mkC D [zCf_ k D, zNg_ k D]
noncomputable def zgb_ (k : Nat) (D : za_) (j3 : Slc → AHeap → Option ((Slc) × AHeap)) (rec11 : (Option Addr) → Value → Slc → Int → Int → AHeap → Option ((Slc) × AHeap)) (r5 : Option Addr) (one6 : Value) (out7 : Slc) (y8 : Int) (y9 : Int) (h10 : AHeap) : Option ((Slc) × AHeap) :=
 (if (decide (y9 < y8)) = true then
 zVc_ (zjl_ k D) one6 [.pointer r5] h10 fun v12 h13 =>
 (match v12 with
 | .agg c14 => (decC [.s, .s, .i .i64, .i .i64, .i .i64, .i .i64] c14.toList).bind fun x15 =>
 newK h13 ((.cells [.string ⟨#[]⟩, .string ⟨#[]⟩, .int .i64 0, .int .i64 0, .int .i64 0, .int .i64 0] 57 true 0)) fun h16 =>
 (stL 6 (⟨h13.next, 0, none⟩ : Addr) ([.string x15.1, .string x15.2.1, .int .i64 x15.2.2.1, .int .i64 x15.2.2.2.1, .int .i64 x15.2.2.2.2.1, .int .i64 x15.2.2.2.2.2]) h16).bind fun h17 =>
 (zVb_ k D r5 h17).bind fun r18 =>
 (if (r18.1 != 0) = true then
 some ((⟨none, 0, 0⟩ : Slc), r18.2)
 else
 (ldA 6 (⟨h13.next, 0, none⟩ : Addr) r18.2).bind fun l19 =>
 (decC [.s, .s, .i .i64, .i .i64, .i .i64, .i .i64] l19).bind fun x20 =>
 newK r18.2 ((.cells [.string x20.1, .string x20.2.1, .int .i64 x20.2.2.1, .int .i64 x20.2.2.2.1, .int .i64 x20.2.2.2.2.1, .int .i64 x20.2.2.2.2.2] 57 true 0)) fun h21 =>
 (rdS 6 (⟨(some ⟨r18.2.next, 0, some 0⟩), 1, 1⟩ : Slc) h21).bind fun n23 =>
 (zl_ 6 64 57 h21 out7 n23 1).bind fun r22 =>
 rec11 r5 one6 r22.1 y8 (IntKind.wrap .i64 (y9 + 1)) r22.2)
 | _ => none)
 else
 j3 out7 h10)
noncomputable def zsg_ (k : Nat) (D : za_) (j3 : Slc → AHeap → Option ((Slc) × AHeap)) : (Option Addr) → Value → Slc → Int → Int → AHeap → Option ((Slc) × AHeap) :=
 zi_ (α := (Option Addr) → Value → Slc → Int → Int → AHeap → Option ((Slc) × AHeap)) (fun _ _ _ _ _ _ => none) k (zgb_ k D j3)
noncomputable def zNd_ (k : Nat) (D : za_) (r_0 : Option Addr) (one_1 : Value) (h : AHeap) : Option ((Slc) × AHeap) :=
 zm_ (fun (out1 : Slc) (h2 : AHeap) =>
 some (out1, h2)) fun j3 =>
 (zV_ k D r_0 4096 h).bind fun r4 =>
 zsg_ k D j3 r_0 one_1 (⟨none, 0, 0⟩ : Slc) r4.1 0 r4.2
noncomputable def zol_ : RCode := an (.s .n (.s .n (.s (.j [(5, .l)] (.s .n (.b (.l [(0, .p), (1, .v), (5, .l), (8, .i .i64), (9, .i .i64)] (.s .n (.s .n (.s (.b (.s (.r [(2, .st [.s, .s, .i .i64, .i .i64, .i .i64, .i .i64])]) (.s .n (.r [(1, .st [.s, .s, .i .i64, .i .i64, .i .i64, .i .i64])])))) .n))))))) .n))) (rOf Tryz.prog 2 Tryz.f71)
noncomputable def zkl_ (k : Nat) (D : za_) : Ent := zn_ 71 [(0, .p), (1, .v)] [(4, .l)] (zNd_ k D)
theorem zZk_ {D : za_} (hD : zf_ Tryz.prog 2 D) (k : Nat) : zk_ Tryz.prog 2 (zkl_ k D) :=
 ze_ (k := k) (rc := zol_) (cs := [none]) (zd_ hD (zb_.more (zdc_ hD k) (zb_.more (zqe_ hD k) (zb_.none)))) Tryz.func71 rfl (by kernel_rfl) rfl (by kernel_rfl)
noncomputable def zJh_ (k : Nat) (D : za_) (s_0 : ByteArray) (h : AHeap) : Option (((Slc × Slc) × Int) × AHeap) :=
 newK h ((.cells [.slice none 0 0, .slice none 0 0] 38 true 0)) fun h1 =>
 (zoe_ k D s_0 (⟨#[71, 82, 84, 73, 1]⟩ : ByteArray) h1).bind fun r2 =>
 zm_ (fun (y3 : Option Addr) (rest4 : ByteArray) (y5 : Bool) (h6 : AHeap) =>
 (if y5 = true then
 (y3).bind fun p8 =>
 (stL 2 p8 ([.slice none 0 0, .slice none 0 0]) h6).bind fun h9 =>
 (y3).bind fun p10 =>
 (ldA 2 p10 h9).bind fun l11 =>
 (decC [.l, .l] l11).bind fun x12 =>
 some (((x12.1, x12.2), 160), h9)
 else
 (zDf_ k D rest4 h6).bind fun r13 =>
 newK r13.2 ((.cells [.slice none 0 0, .slice none 0 0] 38 true 0)) fun h14 =>
 (zte_ k D r13.1 (.func (.func 69) ⟨[]⟩ ⟨[]⟩) h14).bind fun r15 =>
 (st1 (⟨r13.2.next, 0, none⟩ : Addr) (.slice r15.1.a r15.1.len r15.1.cap) r15.2).bind fun h16 =>
 (zNd_ k D r13.1 (.func (.func 72) ⟨[]⟩ ⟨[]⟩) h16).bind fun r17 =>
 (st1 (⟨r13.2.next, 1, none⟩ : Addr) (.slice r17.1.a r17.1.len r17.1.cap) r17.2).bind fun h18 =>
 zm_ (fun (y19 : Option Addr) (f20 : Option Addr) (y21 : Bool) (h22 : AHeap) =>
 (if y21 = true then
 (y19).bind fun p24 =>
 (stL 2 p24 ([.slice none 0 0, .slice none 0 0]) h22).bind fun h25 =>
 (y19).bind fun p26 =>
 (ldA 2 p26 h25).bind fun l27 =>
 (decC [.l, .l] l27).bind fun x28 =>
 some (((x28.1, x28.2), 160), h25)
 else
 (f20).bind fun p29 =>
 (ldA 2 p29 h22).bind fun l30 =>
 (decC [.l, .l] l30).bind fun x31 =>
 (y19).bind fun p32 =>
 (stL 2 p32 ([.slice x31.1.a x31.1.len x31.1.cap, .slice x31.2.a x31.2.len x31.2.cap]) h22).bind fun h33 =>
 (y19).bind fun p34 =>
 (ldA 2 p34 h33).bind fun l35 =>
 (decC [.l, .l] l35).bind fun x36 =>
 some (((x36.1, x36.2), 0), h33))) fun j23 =>
 (zAe_ k D r13.1 h18).bind fun r37 =>
 (if (r37.1 != 0) = true then
 j23 y3 (some (⟨r13.2.next, 0, none⟩ : Addr)) true r37.2
 else
 (ldA 2 (⟨r13.2.next, 0, none⟩ : Addr) r37.2).bind fun l38 =>
 (decC [.l, .l] l38).bind fun x39 =>
 (zvg_ k D (x39.1, x39.2) r37.2).bind fun r40 =>
 j23 y3 (some (⟨r13.2.next, 0, none⟩ : Addr)) (r40.1 != 0) r40.2))) fun j7 =>
 (if (!r2.1.2) = true then
 j7 (some (⟨h.next, 0, none⟩ : Addr)) r2.1.1 true r2.2
 else
 j7 (some (⟨h.next, 0, none⟩ : Addr)) r2.1.1 (decide ((s_0.size : Int) > 65536)) r2.2)
noncomputable def zcs_ : RCode := an (.s .n (.s .n (.s (.s (.j [(2, .p), (4, .s), (19, .b)] .n) .n) (.s .n (.s .n (.s .n (.s .n (.s (.s (.j [(2, .p), (7, .p), (36, .b)] (.r [(4, .st [.l, .l])])) .n) (.s (.r [(0, .st [.l, .l])]) .n))))))))) (rOf Tryz.prog 2 Tryz.f30)
noncomputable def zks_ (k : Nat) (D : za_) : Ent := zn_ 30 [(0, .s)] [(2, .st [.l, .l]), (3, .i .i64)] (zJh_ k D)
theorem zjr_ {D : za_} (hD : zf_ Tryz.prog 2 D) (k : Nat) : zk_ Tryz.prog 2 (zks_ k D) :=
 ze_ (k := k) (rc := zcs_) (cs := [some (.agg 2), none]) (zd_ hD (zb_.more (zkm_ hD k) (zb_.more (zui_ hD k) (zb_.more (zYl_ hD k) (zb_.more (zZk_ hD k) (zb_.more (zXi_ hD k) (zb_.more (zel_ hD k) (zb_.none)))))))) Tryz.func30 rfl (by kernel_rfl) rfl (by kernel_rfl)
noncomputable def zGh_ (_k : Nat) (_D : za_) (j65 : Slc → Slc → (Option Nat) → Slc → Slc → Int → Int → AHeap → Option (((Option Addr) × Slc × Int) × AHeap)) (rec88 : Slc → Slc → (Option Nat) → Slc → Slc → Int → Int → Slc → Int → Int → AHeap → Option (((Option Addr) × Slc × Int) × AHeap)) (files77 : Slc) (counted78 : Slc) (over79 : Option Nat) (l80 : Slc) (y81 : Slc) (y82 : Int) (y83 : Int) (y84 : Slc) (y85 : Int) (y86 : Int) (h87 : AHeap) : Option (((Option Addr) × Slc × Int) × AHeap) :=
 (if (decide (y86 < y85)) = true then
 (Gx.idxL 1 y84 y86).bind fun q89 =>
 (ldS q89 h87).bind fun x90 =>
 (over79).bind fun r92 =>
 (updE h87 r92 (.string x90) (.bool true)).bind fun h91 =>
 rec88 files77 counted78 over79 l80 y81 y82 y83 y84 y85 (IntKind.wrap .i64 (y86 + 1)) h91
 else
 j65 files77 counted78 over79 l80 y81 y82 y83 h87)
noncomputable def ztl_ (k : Nat) (D : za_) (j65 : Slc → Slc → (Option Nat) → Slc → Slc → Int → Int → AHeap → Option (((Option Addr) × Slc × Int) × AHeap)) : Slc → Slc → (Option Nat) → Slc → Slc → Int → Int → Slc → Int → Int → AHeap → Option (((Option Addr) × Slc × Int) × AHeap) :=
 zi_ (α := Slc → Slc → (Option Nat) → Slc → Slc → Int → Int → Slc → Int → Int → AHeap → Option (((Option Addr) × Slc × Int) × AHeap)) (fun _ _ _ _ _ _ _ _ _ _ _ => none) k (zGh_ k D j65)
noncomputable def zee_ (k : Nat) (D : za_) (j7 : Slc → Slc → (Option Nat) → Slc → AHeap → Option (((Option Addr) × Slc × Int) × AHeap)) (rec56 : Slc → Slc → (Option Nat) → Slc → Slc → Int → Int → AHeap → Option (((Option Addr) × Slc × Int) × AHeap)) (files48 : Slc) (counted49 : Slc) (over50 : Option Nat) (l51 : Slc) (y52 : Slc) (y53 : Int) (y54 : Int) (h55 : AHeap) : Option (((Option Addr) × Slc × Int) × AHeap) :=
 (if (decide (y54 < y53)) = true then
 zm_ (fun (files57 : Slc) (counted58 : Slc) (over59 : Option Nat) (l60 : Slc) (y61 : Slc) (y62 : Int) (y63 : Int) (h64 : AHeap) =>
 rec56 files57 counted58 over59 l60 y61 y62 (IntKind.wrap .i64 (y63 + 1)) h64) fun j65 =>
 (Gx.idxL 1 y52 y54).bind fun q66 =>
 (ldS q66 h55).bind fun x67 =>
 (zJh_ k D x67 h55).bind fun r68 =>
 newK r68.2 ((.cells [.slice none 0 0, .slice none 0 0] 38 true 0)) fun h69 =>
 (stL 2 (⟨r68.2.next, 0, none⟩ : Addr) ([.slice r68.1.1.1.a r68.1.1.1.len r68.1.1.1.cap, .slice r68.1.1.2.a r68.1.1.2.len r68.1.1.2.cap]) h69).bind fun h70 =>
 (if (r68.1.2 != 0) = true then
 some ((none, (⟨none, 0, 0⟩ : Slc), r68.1.2), h70)
 else
 (ldA 2 (⟨r68.2.next, 0, none⟩ : Addr) h70).bind fun l71 =>
 (decC [.l, .l] l71).bind fun x72 =>
 newK h70 ((.cells [.slice x72.1.a x72.1.len x72.1.cap, .slice x72.2.a x72.2.len x72.2.cap] 38 true 0)) fun h73 =>
 (rdS 2 (⟨(some ⟨h70.next, 0, some 0⟩), 1, 1⟩ : Slc) h73).bind fun n75 =>
 (zl_ 2 48 38 h73 l51 n75 1).bind fun r74 =>
 (ldL (⟨r68.2.next, 0, none⟩ : Addr) r74.2).bind fun x76 =>
 ztl_ k D j65 files48 counted49 over50 r74.1 y52 y53 y54 x76 (x76.len : Int) 0 r74.2)
 else
 j7 files48 counted49 over50 l51 h55)
noncomputable def zcl_ (k : Nat) (D : za_) (j7 : Slc → Slc → (Option Nat) → Slc → AHeap → Option (((Option Addr) × Slc × Int) × AHeap)) : Slc → Slc → (Option Nat) → Slc → Slc → Int → Int → AHeap → Option (((Option Addr) × Slc × Int) × AHeap) :=
 zi_ (α := Slc → Slc → (Option Nat) → Slc → Slc → Int → Int → AHeap → Option (((Option Addr) × Slc × Int) × AHeap)) (fun _ _ _ _ _ _ _ _ => none) k (zee_ k D j7)
noncomputable def zde_ (k : Nat) (D : za_) (j12 : (Option Addr) → Slc → AHeap → Option (((Option Addr) × Slc × Int) × AHeap)) (rec23 : Slc → (Option Addr) → Slc → (Option Nat) → Slc → Int → Int → AHeap → Option (((Option Addr) × Slc × Int) × AHeap)) (files15 : Slc) (t16 : Option Addr) (counted17 : Slc) (over18 : Option Nat) (y19 : Slc) (y20 : Int) (y21 : Int) (h22 : AHeap) : Option (((Option Addr) × Slc × Int) × AHeap) :=
 (if (decide (y21 < y20)) = true then
 zm_ (fun (files24 : Slc) (t25 : Option Addr) (counted26 : Slc) (over27 : Option Nat) (y28 : Slc) (y29 : Int) (y30 : Int) (h31 : AHeap) =>
 rec23 files24 t25 counted26 over27 y28 y29 (IntKind.wrap .i64 (y30 + 1)) h31) fun j32 =>
 (Gx.idxL 2 y19 y21).bind fun q33 =>
 (ldA 2 q33 h22).bind fun l34 =>
 (decC [.l, .l] l34).bind fun x35 =>
 newK h22 ((.cells [.slice none 0 0, .slice none 0 0] 38 true 0)) fun h36 =>
 (stL 2 (⟨h22.next, 0, none⟩ : Addr) ([.slice x35.1.a x35.1.len x35.1.cap, .slice x35.2.a x35.2.len x35.2.cap]) h36).bind fun h37 =>
 (Gx.idxL 1 files15 y21).bind fun q38 =>
 (ldS q38 h37).bind fun x39 =>
 newK h37 ((.cells [.string x39] 9 true 0)) fun h40 =>
 (zNe_ k D (⟨(some ⟨h37.next, 0, some 0⟩), 1, 1⟩ : Slc) h40).bind fun r41 =>
 (zuc_ decB (.bool false) r41.2 over18 (.string r41.1)).bind fun p42 =>
 (if p42.1 = true then
 j32 files15 t16 counted17 over18 y19 y20 y21 r41.2
 else
 (ldL (⟨h22.next, 1, none⟩ : Addr) r41.2).bind fun x43 =>
 (zQb_ k D t16 x43 r41.2).bind fun r44 =>
 newK r44.2 ((.cells [.string r41.1] 9 true 0)) fun h45 =>
 (rdS 1 (⟨(some ⟨r44.2.next, 0, some 0⟩), 1, 1⟩ : Slc) h45).bind fun n47 =>
 (zl_ 1 16 9 h45 counted17 n47 1).bind fun r46 =>
 j32 files15 t16 r46.1 over18 y19 y20 y21 r46.2)
 else
 j12 t16 counted17 h22)
noncomputable def zil_ (k : Nat) (D : za_) (j12 : (Option Addr) → Slc → AHeap → Option (((Option Addr) × Slc × Int) × AHeap)) : Slc → (Option Addr) → Slc → (Option Nat) → Slc → Int → Int → AHeap → Option (((Option Addr) × Slc × Int) × AHeap) :=
 zi_ (α := Slc → (Option Addr) → Slc → (Option Nat) → Slc → Int → Int → AHeap → Option (((Option Addr) × Slc × Int) × AHeap)) (fun _ _ _ _ _ _ _ _ => none) k (zde_ k D j12)
noncomputable def zpi_ (k : Nat) (D : za_) (files_0 : Slc) (h : AHeap) : Option (((Option Addr) × Slc × Int) × AHeap) :=
 newK h ((.map [] 0)) fun h1 =>
 zm_ (fun (files2 : Slc) (counted3 : Slc) (over4 : Option Nat) (l5 : Slc) (h6 : AHeap) =>
 (zrh_ k D h6).bind fun r8 =>
 zm_ (fun (t9 : Option Addr) (counted10 : Slc) (h11 : AHeap) =>
 (zLt_ counted10 h11).bind fun h13 =>
 (zUb_ k D counted10 h13).bind fun r14 =>
 some ((t9, r14.1, 0), r14.2)) fun j12 =>
 zil_ k D j12 files2 r8.1 counted3 over4 l5 (l5.len : Int) 0 r8.2) fun j7 =>
 zcl_ k D j7 files_0 (⟨none, 0, 0⟩ : Slc) (some h.next) (⟨none, 0, 0⟩ : Slc) files_0 (files_0.len : Int) 0 h1
noncomputable def zgt_ : RCode := an (.s .n (.s .n (.s .n (.s (.j [(0, .l), (3, .l), (5, .m), (6, .l)] (.s .n (.b (.l [(0, .l), (3, .l), (5, .m), (6, .l), (17, .l), (18, .i .i64), (19, .i .i64)] (.s .n (.s .n (.s (.j [(0, .l), (3, .l), (5, .m), (6, .l), (17, .l), (18, .i .i64), (19, .i .i64)] (.b (.s .n (.s .n (.s .n (.s (.r [(1, .st [.l, .l])]) (.s .n (.b (.l [(0, .l), (3, .l), (5, .m), (6, .l), (17, .l), (18, .i .i64), (19, .i .i64), (36, .l), (37, .i .i64), (38, .i .i64)] .n))))))))) .n))))))) (.s .n (.s (.j [(2, .p), (3, .l)] (.s .n (.b (.l [(0, .l), (2, .p), (3, .l), (5, .m), (47, .l), (48, .i .i64), (49, .i .i64)] (.s .n (.s .n (.s (.j [(0, .l), (2, .p), (3, .l), (5, .m), (47, .l), (48, .i .i64), (49, .i .i64)] (.b (.s (.r [(2, .st [.l, .l])]) .n))) .n))))))) .n)))))) (rOf Tryz.prog 2 Tryz.f9)
noncomputable def zlt_ (k : Nat) (D : za_) : Ent := zn_ 9 [(0, .l)] [(2, .p), (3, .l), (4, .i .i64)] (zpi_ k D)
theorem zYr_ {D : za_} (hD : zf_ Tryz.prog 2 D) (k : Nat) : zk_ Tryz.prog 2 (zlt_ k D) :=
 ze_ (k := k) (rc := zgt_) (cs := [none, none, none]) (zd_ hD (zb_.more (zVm_ hD k) (zb_.more (zgi_ hD k) (zb_.more (zlh_ hD k) (zb_.more (zUf_ hD k) (zb_.more (zSh_ hD k) (zb_.more (zjr_ hD k) (zb_.none)))))))) Tryz.func9 rfl (by kernel_rfl) rfl (by kernel_rfl)
noncomputable def zAf_ (k : Nat) (D : za_) (j12 : Slc → Int → Int → AHeap → Option ((Bool) × AHeap)) (rec20 : Slc → Int → Int → Int → Int → Int → AHeap → Option ((Bool) × AHeap)) (l13 : Slc) (i14 : Int) (y15 : Int) (y16 : Int) (y17 : Int) (y18 : Int) (h19 : AHeap) : Option ((Bool) × AHeap) :=
 (if (decide (y18 < y17)) = true then
 zm_ (fun (l21 : Slc) (i22 : Int) (y23 : Int) (y24 : Int) (y25 : Int) (y26 : Int) (y27 : Bool) (h28 : AHeap) =>
 (if y27 = true then
 some (true, h28)
 else
 rec20 l21 i22 y23 y24 y25 (IntKind.wrap .i64 (y26 + 1)) h28)) fun j29 =>
 let h30 := AHeap.resv h19 2
 (Gx.idxL 1 l13 i14).bind fun q31 =>
 (ldS q31 h30).bind fun x32 =>
 (Gx.idxL 1 l13 y18).bind fun q33 =>
 (ldS q33 h30).bind fun x34 =>
 (if (!(x32 == x34)) = true then
 (Gx.idxL 1 l13 i14).bind fun q35 =>
 (ldS q35 h30).bind fun x36 =>
 let h37 := AHeap.set h30 (h19.next + 0) (.cells [.string x36] 9 true 0)
 (zNe_ k D (⟨(some ⟨(h19.next + 0), 0, some 0⟩), 1, 1⟩ : Slc) h37).bind fun r38 =>
 (Gx.idxL 1 l13 y18).bind fun q39 =>
 (ldS q39 r38.2).bind fun x40 =>
 zR_ (zKb_ [h37, h30] (fun H42 => (ldS q39 H42).bind fun y41 => some (.string y41)) (.string x40)) (
 let h43 := AHeap.set r38.2 (h19.next + 1) (.cells [.string x40] 9 true 0)
 (zNe_ k D (⟨(some ⟨(h19.next + 1), 0, some 0⟩), 1, 1⟩ : Slc) h43).bind fun r44 =>
 j29 l13 i14 y15 y16 y17 y18 (r38.1 == r44.1) r44.2)
 else
 j29 l13 i14 y15 y16 y17 y18 false h30)
 else
 j12 l13 y15 y16 h19)
noncomputable def zLp_ (k : Nat) (D : za_) (j12 : Slc → Int → Int → AHeap → Option ((Bool) × AHeap)) : Slc → Int → Int → Int → Int → Int → AHeap → Option ((Bool) × AHeap) :=
 zi_ (α := Slc → Int → Int → Int → Int → Int → AHeap → Option ((Bool) × AHeap)) (fun _ _ _ _ _ _ _ => none) k (zAf_ k D j12)
noncomputable def zHf_ (k : Nat) (D : za_) (j2 : AHeap → Option ((Bool) × AHeap)) (rec7 : Slc → Int → Int → AHeap → Option ((Bool) × AHeap)) (l3 : Slc) (y4 : Int) (y5 : Int) (h6 : AHeap) : Option ((Bool) × AHeap) :=
 (if (decide (y5 < y4)) = true then
 zm_ (fun (l8 : Slc) (y9 : Int) (y10 : Int) (h11 : AHeap) =>
 rec7 l8 y9 (IntKind.wrap .i64 (y10 + 1)) h11) fun j12 =>
 zLp_ k D j12 l3 y5 y4 y5 y5 0 h6
 else
 j2 h6)
noncomputable def zUp_ (k : Nat) (D : za_) (j2 : AHeap → Option ((Bool) × AHeap)) : Slc → Int → Int → AHeap → Option ((Bool) × AHeap) :=
 zi_ (α := Slc → Int → Int → AHeap → Option ((Bool) × AHeap)) (fun _ _ _ _ => none) k (zHf_ k D j2)
noncomputable def zUl_ (k : Nat) (D : za_) (l_0 : Slc) (h : AHeap) : Option ((Bool) × AHeap) :=
 zm_ (fun (h1 : AHeap) =>
 some (false, h1)) fun j2 =>
 zUp_ k D j2 l_0 (l_0.len : Int) 0 h
noncomputable def zQx_ : RCode := an (.s .n (.s (.j [] (.s .n (.b (.l [(0, .l), (6, .i .i64), (7, .i .i64)] (.s .n (.s .n (.s (.j [(0, .l), (6, .i .i64), (7, .i .i64)] (.b (.s .n (.s .n (.b (.l [(0, .l), (3, .i .i64), (6, .i .i64), (7, .i .i64), (10, .i .i64), (11, .i .i64)] (.s .n (.s .n (.s (.b (.s .n (.s (.j [(0, .l), (3, .i .i64), (6, .i .i64), (7, .i .i64), (10, .i .i64), (11, .i .i64), (37, .b)] .n) .n))) .n))))))))) .n))))))) .n)) (rOf Tryz.prog 2 Tryz.f11)
noncomputable def zHx_ (k : Nat) (D : za_) : Ent := zn_ 11 [(0, .l)] [(2, .b)] (zUl_ k D)
theorem zDw_ {D : za_} (hD : zf_ Tryz.prog 2 D) (k : Nat) : zk_ Tryz.prog 2 (zHx_ k D) :=
 ze_ (k := k) (rc := zQx_) (cs := [none]) (zd_ hD (zb_.more (zUf_ hD k) (zb_.none))) Tryz.func11 rfl (by kernel_rfl) rfl (by kernel_rfl)
noncomputable def zyc_ (_k : Nat) (_D : za_) (j3 : Int → AHeap → Option ((Int) × AHeap)) (rec10 : Int → (List Value) → Int → AHeap → Option ((Int) × AHeap)) (n6 : Int) (y7 : List Value) (y8 : Int) (h9 : AHeap) : Option ((Int) × AHeap) :=
 (if (decide (y8 < 256)) = true then
 (if 0 ≤ y8 ∧ y8 < ((256 : Nat) : Int) then
 (y7[(y8).toNat * 1]?).bind fun v11 =>
 (decL v11).bind fun x12 =>
 (decA 256 (.agg ⟨y7⟩)).bind fun l13 =>
 rec10 (IntKind.wrap .i64 (n6 + (x12.len : Int))) l13 (IntKind.wrap .i64 (y8 + 1)) h9
 else none)
 else
 j3 n6 h9)
noncomputable def zUh_ (k : Nat) (D : za_) (j3 : Int → AHeap → Option ((Int) × AHeap)) : Int → (List Value) → Int → AHeap → Option ((Int) × AHeap) :=
 zi_ (α := Int → (List Value) → Int → AHeap → Option ((Int) × AHeap)) (fun _ _ _ _ => none) k (zyc_ k D j3)
noncomputable def zAd_ (k : Nat) (D : za_) (t_0 : Option Addr) (h : AHeap) : Option ((Int) × AHeap) :=
 zm_ (fun (n1 : Int) (h2 : AHeap) =>
 some (n1, h2)) fun j3 =>
 (t_0).bind fun p4 =>
 (ldA 256 (⟨p4.block, p4.off + 0, none⟩ : Addr) h).bind fun l5 =>
 (decA 256 (.agg ⟨l5⟩)).bind fun l14 =>
 zUh_ k D j3 0 l14 0 h
noncomputable def zko_ : RCode := an (.s .n (.s .n (.s (.j [(3, .i .i64)] (.s .n (.b (.l [(3, .i .i64), (9, .agg 256), (10, .i .i64)] .n)))) .n))) (rOf Tryz.prog 2 Tryz.f12)
noncomputable def zyn_ (k : Nat) (D : za_) : Ent := zn_ 12 [(0, .p)] [(2, .i .i64)] (zAd_ k D)
theorem zZm_ {D : za_} (hD : zf_ Tryz.prog 2 D) (k : Nat) : zk_ Tryz.prog 2 (zyn_ k D) :=
 ze_ (k := k) (rc := zko_) (cs := [none]) (zd_ hD (zb_.none)) Tryz.func12 rfl (by kernel_rfl) rfl (by kernel_rfl)
noncomputable def zIb_ (_k : Nat) (D : za_) : za_ := mkC D []
noncomputable def zD_ (k : Nat) (D : za_) (j7 : Slc → ByteArray → Value → Int → Int → AHeap → Option ((Int × Bool) × AHeap)) (rec21 : Slc → ByteArray → Value → Int → Int → Int → AHeap → Option ((Int × Bool) × AHeap)) (x14 : Slc) (target15 : ByteArray) (cmp16 : Value) (n17 : Int) (i18 : Int) (j19 : Int) (h20 : AHeap) : Option ((Int × Bool) × AHeap) :=
 (if (decide (i18 < j19)) = true then
 let t22 : Int := (Int.fdiv (IntKind.wrap .u64 (IntKind.wrap .i64 (i18 + j19))) 2)
 (Gx.idxL 6 x14 (IntKind.wrap .i64 t22)).bind fun q23 =>
 (ldA 6 q23 h20).bind fun l24 =>
 (decC [.s, .s, .i .i64, .i .i64, .i .i64, .i .i64] l24).bind fun x25 =>
 zVc_ (zIb_ k D) cmp16 [.agg ⟨[.string x25.1, .string x25.2.1, .int .i64 x25.2.2.1, .int .i64 x25.2.2.2.1, .int .i64 x25.2.2.2.2.1, .int .i64 x25.2.2.2.2.2]⟩, .string target15] h20 fun v26 h27 =>
 (decI .i64 v26).bind fun x28 =>
 (if (decide (x28 < 0)) = true then
 rec21 x14 target15 cmp16 n17 (IntKind.wrap .i64 ((IntKind.wrap .i64 t22) + 1)) j19 h27
 else
 rec21 x14 target15 cmp16 n17 i18 (IntKind.wrap .i64 t22) h27)
 else
 j7 x14 target15 cmp16 n17 i18 h20)
noncomputable def zGb_ (k : Nat) (D : za_) (j7 : Slc → ByteArray → Value → Int → Int → AHeap → Option ((Int × Bool) × AHeap)) : Slc → ByteArray → Value → Int → Int → Int → AHeap → Option ((Int × Bool) × AHeap) :=
 zi_ (α := Slc → ByteArray → Value → Int → Int → Int → AHeap → Option ((Int × Bool) × AHeap)) (fun _ _ _ _ _ _ _ => none) k (zD_ k D j7)
noncomputable def zL_ (k : Nat) (D : za_) (x_0 : Slc) (target_1 : ByteArray) (cmp_2 : Value) (h : AHeap) : Option ((Int × Bool) × AHeap) :=
 zm_ (fun (x1 : Slc) (target2 : ByteArray) (cmp3 : Value) (n4 : Int) (i5 : Int) (h6 : AHeap) =>
 (if (decide (i5 < n4)) = true then
 (Gx.idxL 6 x1 i5).bind fun q8 =>
 (ldA 6 q8 h6).bind fun l9 =>
 (decC [.s, .s, .i .i64, .i .i64, .i .i64, .i .i64] l9).bind fun x10 =>
 zVc_ (zIb_ k D) cmp3 [.agg ⟨[.string x10.1, .string x10.2.1, .int .i64 x10.2.2.1, .int .i64 x10.2.2.2.1, .int .i64 x10.2.2.2.2.1, .int .i64 x10.2.2.2.2.2]⟩, .string target2] h6 fun v11 h12 =>
 (decI .i64 v11).bind fun x13 =>
 some ((i5, (x13 == 0)), h12)
 else
 some ((i5, false), h6))) fun j7 =>
 zGb_ k D j7 x_0 target_1 cmp_2 (x_0.len : Int) 0 (x_0.len : Int) h
noncomputable def zkd_ : RCode := an (.s .n (.s .n (.s .n (.s (.j [(0, .l), (1, .s), (2, .v), (8, .i .i64), (9, .i .i64)] (.b (.l [(0, .l), (1, .s), (2, .v), (8, .i .i64), (9, .i .i64), (10, .i .i64)] (.s .n (.b (.s .n (.s (.r [(4, .st [.s, .s, .i .i64, .i .i64, .i .i64, .i .i64]), (6, .i .i64)]) .n))))))) (.s (.r [(9, .st [.s, .s, .i .i64, .i .i64, .i .i64, .i .i64]), (11, .i .i64)]) .n))))) (rOf Tryz.prog 2 Tryz.f78)
noncomputable def zmd_ (k : Nat) (D : za_) : Ent := zn_ 78 [(0, .l), (1, .s), (2, .v)] [(6, .i .i64), (7, .b)] (zL_ k D)
theorem zed_ {D : za_} (hD : zf_ Tryz.prog 2 D) (k : Nat) : zk_ Tryz.prog 2 (zmd_ k D) :=
 ze_ (k := k) (rc := zkd_) (cs := [none, none]) (zd_ hD (zb_.none)) Tryz.func78 rfl (by kernel_rfl) rfl (by kernel_rfl)
noncomputable def zZb_ (_k : Nat) (_D : za_) (j7 : Slc → AHeap → Option ((Slc) × AHeap)) (rec13 : ByteArray → Slc → Slc → Int → AHeap → Option ((Slc) × AHeap)) (id8 : ByteArray) (out9 : Slc) (l10 : Slc) (atv11 : Int) (h12 : AHeap) : Option ((Slc) × AHeap) :=
 zm_ (fun (id14 : ByteArray) (out15 : Slc) (l16 : Slc) (atv17 : Int) (y18 : Bool) (h19 : AHeap) =>
 (if y18 = true then
 (Gx.idxL 6 l16 atv17).bind fun q21 =>
 (ldA 5 (⟨q21.block, q21.off + 1, none⟩ : Addr) h19).bind fun l22 =>
 (decC [.s, .i .i64, .i .i64, .i .i64, .i .i64] l22).bind fun x23 =>
 newK h19 ((.cells [.string x23.1, .int .i64 x23.2.1, .int .i64 x23.2.2.1, .int .i64 x23.2.2.2.1, .int .i64 x23.2.2.2.2] 50 true 0)) fun h24 =>
 (rdS 5 (⟨(some ⟨h19.next, 0, some 0⟩), 1, 1⟩ : Slc) h24).bind fun n26 =>
 (zl_ 5 48 50 h24 out15 n26 1).bind fun r25 =>
 rec13 id14 r25.1 l16 (IntKind.wrap .i64 (atv17 + 1)) r25.2
 else
 j7 out15 h19)) fun j20 =>
 (if (decide (atv11 < (l10.len : Int))) = true then
 (Gx.idxL 6 l10 atv11).bind fun q27 =>
 (ldS (⟨q27.block, q27.off + 0, none⟩ : Addr) h12).bind fun x28 =>
 j20 id8 out9 l10 atv11 (x28 == id8) h12
 else
 j20 id8 out9 l10 atv11 false h12)
noncomputable def zpg_ (k : Nat) (D : za_) (j7 : Slc → AHeap → Option ((Slc) × AHeap)) : ByteArray → Slc → Slc → Int → AHeap → Option ((Slc) × AHeap) :=
 zi_ (α := ByteArray → Slc → Slc → Int → AHeap → Option ((Slc) × AHeap)) (fun _ _ _ _ _ => none) k (zZb_ k D j7)
noncomputable def zLd_ (k : Nat) (D : za_) (t_0 : Option Addr) (id_1 : ByteArray) (h : AHeap) : Option ((Slc) × AHeap) :=
 (zid_ k D t_0 id_1 h).bind fun r1 =>
 (r1.1).bind fun p2 =>
 (ldL p2 r1.2).bind fun x3 =>
 (zL_ k D x3 id_1 (.func (.func 79) ⟨[]⟩ ⟨[]⟩) r1.2).bind fun r4 =>
 zm_ (fun (out5 : Slc) (h6 : AHeap) =>
 some (out5, h6)) fun j7 =>
 zpg_ k D j7 id_1 (⟨none, 0, 0⟩ : Slc) x3 r4.1.1 r4.2
noncomputable def zul_ : RCode := an (.s .n (.s .n (.s .n (.s .n (.s (.j [(5, .l)] (.b (.l [(1, .s), (5, .l), (6, .l), (7, .i .i64)] (.s (.s (.j [(1, .s), (5, .l), (6, .l), (7, .i .i64), (32, .b)] .n) .n) (.s (.b (.r [(5, .st [.s, .i .i64, .i .i64, .i .i64, .i .i64])])) .n))))) .n))))) (rOf Tryz.prog 2 Tryz.f36)
noncomputable def zpl_ (k : Nat) (D : za_) : Ent := zn_ 36 [(0, .p), (1, .s)] [(4, .l)] (zLd_ k D)
theorem zXk_ {D : za_} (hD : zf_ Tryz.prog 2 D) (k : Nat) : zk_ Tryz.prog 2 (zpl_ k D) :=
 ze_ (k := k) (rc := zul_) (cs := [none]) (zd_ hD (zb_.more (zFh_ hD k) (zb_.more (zed_ hD k) (zb_.none)))) Tryz.func36 rfl (by kernel_rfl) rfl (by kernel_rfl)
noncomputable def zWe_ (k : Nat) (D : za_) (t_0 : Option Addr) (id_1 : ByteArray) (h : AHeap) : Option (((ByteArray × Int × Int × Int × Int) × Bool) × AHeap) :=
 newK h ((.cells [.string ⟨#[]⟩, .int .i64 0, .int .i64 0, .int .i64 0, .int .i64 0] 50 true 0)) fun h1 =>
 (zLd_ k D t_0 id_1 h1).bind fun r2 =>
 (if ((r2.1.len : Int) == 0) = true then
 (stL 5 (⟨h.next, 0, none⟩ : Addr) ([.string (⟨#[]⟩ : ByteArray), .int .i64 0, .int .i64 0, .int .i64 0, .int .i64 0]) r2.2).bind fun h3 =>
 (ldA 5 (⟨h.next, 0, none⟩ : Addr) h3).bind fun l4 =>
 (decC [.s, .i .i64, .i .i64, .i .i64, .i .i64] l4).bind fun x5 =>
 some (((x5.1, x5.2.1, x5.2.2.1, x5.2.2.2.1, x5.2.2.2.2), false), h3)
 else
 (Gx.idxL 5 r2.1 0).bind fun q6 =>
 (ldA 5 q6 r2.2).bind fun l7 =>
 (decC [.s, .i .i64, .i .i64, .i .i64, .i .i64] l7).bind fun x8 =>
 (stL 5 (⟨h.next, 0, none⟩ : Addr) ([.string x8.1, .int .i64 x8.2.1, .int .i64 x8.2.2.1, .int .i64 x8.2.2.2.1, .int .i64 x8.2.2.2.2]) r2.2).bind fun h9 =>
 (ldA 5 (⟨h.next, 0, none⟩ : Addr) h9).bind fun l10 =>
 (decC [.s, .i .i64, .i .i64, .i .i64, .i .i64] l10).bind fun x11 =>
 some (((x11.1, x11.2.1, x11.2.2.1, x11.2.2.2.1, x11.2.2.2.2), true), h9))
noncomputable def zYn_ : RCode := an (.s .n (.s .n (.s .n (.s (.r [(2, .st [.s, .i .i64, .i .i64, .i .i64, .i .i64])]) .n)))) (rOf Tryz.prog 2 Tryz.f13)
noncomputable def zMo_ (k : Nat) (D : za_) : Ent := zn_ 13 [(0, .p), (1, .s)] [(4, .st [.s, .i .i64, .i .i64, .i .i64, .i .i64]), (5, .b)] (zWe_ k D)
theorem zgn_ {D : za_} (hD : zf_ Tryz.prog 2 D) (k : Nat) : zk_ Tryz.prog 2 (zMo_ k D) :=
 ze_ (k := k) (rc := zYn_) (cs := [some (.agg 5), none]) (zd_ hD (zb_.more (zXk_ hD k) (zb_.none))) Tryz.func13 rfl (by kernel_rfl) rfl (by kernel_rfl)
noncomputable def zkk_ (k : Nat) (D : za_) (s_0 : ByteArray) (h : AHeap) : Option ((Int × Int × ByteArray × Int) × AHeap) :=
 (zDf_ k D s_0 h).bind fun r1 =>
 (zub_ k D r1.1 1 r1.2).bind fun r2 =>
 (zV_ k D r1.1 65536 r2.2).bind fun r3 =>
 zm_ (fun (s4 : ByteArray) (kind5 : Int) (size6 : Int) (r7 : Option Addr) (y8 : Bool) (h9 : AHeap) =>
 (if y8 = true then
 some ((0, 0, (⟨#[]⟩ : ByteArray), 130), h9)
 else
 (zcc_ k D r7 h9).bind fun r11 =>
 (Gx.subS s4 (some (IntKind.wrap .i64 ((s4.size : Int) - r11.1))) none).bind fun s12 =>
 some ((kind5, size6, s12, 0), r11.2))) fun j10 =>
 (zVb_ k D r1.1 r3.2).bind fun r13 =>
 (if (r13.1 != 0) = true then
 j10 s_0 r2.1 r3.1 r1.1 true r13.2
 else
 (zVf_ k D (Go.bits .andNot .i64 r2.1 16) r13.2).bind fun r14 =>
 j10 s_0 r2.1 r3.1 r1.1 (!r14.1) r14.2)
noncomputable def zgw_ : RCode := an (.s .n (.s .n (.s .n (.s .n (.s (.s (.j [(0, .s), (2, .i .i64), (3, .i .i64), (6, .p), (21, .b)] .n) .n) .n))))) (rOf Tryz.prog 2 Tryz.f112)
noncomputable def zrw_ (k : Nat) (D : za_) : Ent := zn_ 112 [(0, .s)] [(2, .i .i64), (3, .i .i64), (4, .s), (5, .i .i64)] (zkk_ k D)
theorem zZt_ {D : za_} (hD : zf_ Tryz.prog 2 D) (k : Nat) : zk_ Tryz.prog 2 (zrw_ k D) :=
 ze_ (k := k) (rc := zgw_) (cs := [none, none, none, none]) (zd_ hD (zb_.more (zui_ hD k) (zb_.more (zHd_ hD k) (zb_.more (zdc_ hD k) (zb_.more (zMf_ hD k) (zb_.more (zqe_ hD k) (zb_.more (zUi_ hD k) (zb_.none)))))))) Tryz.func112 rfl (by kernel_rfl) rfl (by kernel_rfl)
noncomputable def zGc_ (_k : Nat) (_D : za_) (r_0 : Option Addr) (h : AHeap) : Option ((Int) × AHeap) :=
 (r_0).bind fun p1 =>
 (ldI .i64 (⟨p1.block, p1.off + 1, none⟩ : Addr) h).bind fun x2 =>
 (r_0).bind fun p3 =>
 (ldS (⟨p3.block, p3.off + 0, none⟩ : Addr) h).bind fun x4 =>
 (if (decide (x2 ≥ (x4.size : Int))) = true then
 (r_0).bind fun p5 =>
 (st1 (⟨p5.block, p5.off + 2, none⟩ : Addr) (.bool true) h).bind fun h6 =>
 some (0, h6)
 else
 (r_0).bind fun p7 =>
 (ldI .i64 (⟨p7.block, p7.off + 1, none⟩ : Addr) h).bind fun x8 =>
 (r_0).bind fun p9 =>
 (st1 (⟨p9.block, p9.off + 1, none⟩ : Addr) (.int .i64 (IntKind.wrap .i64 (x8 + 1))) h).bind fun h10 =>
 (r_0).bind fun p11 =>
 (ldS (⟨p11.block, p11.off + 0, none⟩ : Addr) h10).bind fun x12 =>
 (r_0).bind fun p13 =>
 (ldI .i64 (⟨p13.block, p13.off + 1, none⟩ : Addr) h10).bind fun x14 =>
 (Gx.idxS x12 (IntKind.wrap .i64 (x14 - 1))).bind fun b15 =>
 some ((IntKind.wrap .i64 b15), h10))
noncomputable def zXp_ : RCode := an (.n) (rOf Tryz.prog 2 Tryz.f132)
noncomputable def zxq_ (k : Nat) (D : za_) : Ent := zn_ 132 [(0, .p)] [(2, .i .i64)] (zGc_ k D)
theorem zWi_ {D : za_} (hD : zf_ Tryz.prog 2 D) (k : Nat) : zk_ Tryz.prog 2 (zxq_ k D) :=
 ze_ (k := k) (rc := zXp_) (cs := [none]) (zd_ hD (zb_.none)) Tryz.func132 rfl (by kernel_rfl) rfl (by kernel_rfl)
noncomputable def ztb_ (k : Nat) (D : za_)  (rec4 : (Option Addr) → Int → AHeap → Option ((Int) × AHeap)) (r1 : Option Addr) (n2 : Int) (h3 : AHeap) : Option ((Int) × AHeap) :=
 (zGc_ k D r1 h3).bind fun r5 =>
 zm_ (fun (r6 : Option Addr) (n7 : Int) (y8 : Bool) (h9 : AHeap) =>
 (if y8 = true then
 some (n7, h9)
 else
 rec4 r6 n7 h9)) fun j10 =>
 (if (decide (r5.1 < 255)) = true then
 j10 r1 (IntKind.wrap .i64 (n2 + r5.1)) true r5.2
 else
 (r1).bind fun p11 =>
 (ldB (⟨p11.block, p11.off + 2, none⟩ : Addr) r5.2).bind fun x12 =>
 j10 r1 (IntKind.wrap .i64 (n2 + r5.1)) x12 r5.2)
noncomputable def zuf_ (k : Nat) (D : za_)  : (Option Addr) → Int → AHeap → Option ((Int) × AHeap) :=
 zi_ (α := (Option Addr) → Int → AHeap → Option ((Int) × AHeap)) (fun _ _ _ => none) k (ztb_ k D )
noncomputable def zkc_ (k : Nat) (D : za_) (r_0 : Option Addr) (n_1 : Int) (h : AHeap) : Option ((Int) × AHeap) :=
 (if (decide (n_1 < 15)) = true then
 some (n_1, h)
 else
 zuf_ k D r_0 n_1 h)
noncomputable def zpo_ : RCode := an (.s .n (.s .n (.b (.l [(0, .p), (1, .i .i64)] (.b (.s .n (.s .n (.s (.j [(0, .p), (1, .i .i64), (21, .b)] .n) .n)))))))) (rOf Tryz.prog 2 Tryz.f134)
noncomputable def zFo_ (k : Nat) (D : za_) : Ent := zn_ 134 [(0, .p), (1, .i .i64)] [(4, .i .i64)] (zkc_ k D)
theorem zpn_ {D : za_} (hD : zf_ Tryz.prog 2 D) (k : Nat) : zk_ Tryz.prog 2 (zFo_ k D) :=
 ze_ (k := k) (rc := zpo_) (cs := [none]) (zd_ hD (zb_.more (zWi_ hD k) (zb_.none))) Tryz.func134 rfl (by kernel_rfl) rfl (by kernel_rfl)
noncomputable def zqc_ (_k : Nat) (_D : za_) (r_0 : Option Addr) (n_1 : Int) (h : AHeap) : Option ((ByteArray) × AHeap) :=
 zm_ (fun (r1 : Option Addr) (n2 : Int) (y3 : Bool) (h4 : AHeap) =>
 (if y3 = true then
 (r1).bind fun p6 =>
 (st1 (⟨p6.block, p6.off + 2, none⟩ : Addr) (.bool true) h4).bind fun h7 =>
 some ((⟨#[]⟩ : ByteArray), h7)
 else
 (r1).bind fun p8 =>
 (ldI .i64 (⟨p8.block, p8.off + 1, none⟩ : Addr) h4).bind fun x9 =>
 (r1).bind fun p10 =>
 (st1 (⟨p10.block, p10.off + 1, none⟩ : Addr) (.int .i64 (IntKind.wrap .i64 (x9 + n2))) h4).bind fun h11 =>
 (r1).bind fun p12 =>
 (ldS (⟨p12.block, p12.off + 0, none⟩ : Addr) h11).bind fun x13 =>
 (r1).bind fun p14 =>
 (ldI .i64 (⟨p14.block, p14.off + 1, none⟩ : Addr) h11).bind fun x15 =>
 (r1).bind fun p16 =>
 (ldI .i64 (⟨p16.block, p16.off + 1, none⟩ : Addr) h11).bind fun x17 =>
 (Gx.subS x13 (some (IntKind.wrap .i64 (x15 - n2))) (some x17)).bind fun s18 =>
 some (s18, h11))) fun j5 =>
 (r_0).bind fun p19 =>
 (ldB (⟨p19.block, p19.off + 2, none⟩ : Addr) h).bind fun x20 =>
 (if x20 = true then
 j5 r_0 n_1 true h
 else
 (r_0).bind fun p21 =>
 (ldS (⟨p21.block, p21.off + 0, none⟩ : Addr) h).bind fun x22 =>
 (r_0).bind fun p23 =>
 (ldI .i64 (⟨p23.block, p23.off + 1, none⟩ : Addr) h).bind fun x24 =>
 j5 r_0 n_1 (decide (n_1 > (IntKind.wrap .i64 ((x22.size : Int) - x24)))) h)
noncomputable def zGm_ : RCode := an (.s .n (.s (.s (.j [(0, .p), (1, .i .i64), (22, .b)] .n) .n) .n)) (rOf Tryz.prog 2 Tryz.f133)
noncomputable def zmm_ (k : Nat) (D : za_) : Ent := zn_ 133 [(0, .p), (1, .i .i64)] [(4, .s)] (zqc_ k D)
theorem zxl_ {D : za_} (hD : zf_ Tryz.prog 2 D) (k : Nat) : zk_ Tryz.prog 2 (zmm_ k D) :=
 ze_ (k := k) (rc := zGm_) (cs := [none]) (zd_ hD (zb_.none)) Tryz.func133 rfl (by kernel_rfl) rfl (by kernel_rfl)
noncomputable def zBf_ (k : Nat) (D : za_)  (rec7 : ByteArray → Slc → Int → (Option Addr) → AHeap → Option ((Slc × Int × Bool) × AHeap)) (s2 : ByteArray) (l3 : Slc) (long4 : Int) (r5 : Option Addr) (h6 : AHeap) : Option ((Slc × Int × Bool) × AHeap) :=
 (zGc_ k D r5 h6).bind fun r8 =>
 (zkc_ k D r5 (Int.fdiv r8.1 16) r8.2).bind fun r9 =>
 (zqc_ k D r5 r9.1 r9.2).bind fun r10 =>
 newK r10.2 ((.cells [.string ⟨#[]⟩, .int .i64 0, .int .i64 0] 200 true 0)) fun h11 =>
 (stL 3 (⟨r10.2.next, 0, none⟩ : Addr) ([.string r10.1, .int .i64 0, .int .i64 0]) h11).bind fun h12 =>
 (ldS (⟨r10.2.next, 0, none⟩ : Addr) h12).bind fun x13 =>
 let t14 : Int := (if 1048577 < (IntKind.wrap .i64 (long4 + (x13.size : Int))) then 1048577 else (IntKind.wrap .i64 (long4 + (x13.size : Int))))
 (r5).bind fun p15 =>
 (ldB (⟨p15.block, p15.off + 2, none⟩ : Addr) h12).bind fun x16 =>
 (if x16 = true then
 some (((⟨none, 0, 0⟩ : Slc), 0, false), h12)
 else
 (r5).bind fun p17 =>
 (ldI .i64 (⟨p17.block, p17.off + 1, none⟩ : Addr) h12).bind fun x18 =>
 (if (x18 == (s2.size : Int)) = true then
 (ldA 3 (⟨r10.2.next, 0, none⟩ : Addr) h12).bind fun l19 =>
 (decC [.s, .i .i64, .i .i64] l19).bind fun x20 =>
 newK h12 ((.cells [.string x20.1, .int .i64 x20.2.1, .int .i64 x20.2.2] 200 true 0)) fun h21 =>
 (rdS 3 (⟨(some ⟨h12.next, 0, some 0⟩), 1, 1⟩ : Slc) h21).bind fun n23 =>
 (zl_ 3 32 200 h21 l3 n23 1).bind fun r22 =>
 some ((r22.1, t14, ((Go.bits .and .i64 r8.1 15) == 0)), r22.2)
 else
 (zGc_ k D r5 h12).bind fun r24 =>
 (zGc_ k D r5 r24.2).bind fun r25 =>
 (st1 (⟨r10.2.next, 1, none⟩ : Addr) (.int .i64 (Go.bits .or .i64 r24.1 (IntKind.wrap .i64 (r25.1 * 256)))) r25.2).bind fun h26 =>
 (zkc_ k D r5 (Go.bits .and .i64 r8.1 15) h26).bind fun r27 =>
 (st1 (⟨r10.2.next, 2, none⟩ : Addr) (.int .i64 (IntKind.wrap .i64 (r27.1 + 4))) r27.2).bind fun h28 =>
 zm_ (fun (s29 : ByteArray) (l30 : Slc) (long31 : Int) (r32 : Option Addr) (x33 : Option Addr) (y34 : Bool) (h35 : AHeap) =>
 (if y34 = true then
 some (((⟨none, 0, 0⟩ : Slc), 0, false), h35)
 else
 (x33).bind fun p37 =>
 (ldI .i64 (⟨p37.block, p37.off + 2, none⟩ : Addr) h35).bind fun x38 =>
 let t39 : Int := (if 1048577 < (IntKind.wrap .i64 (long31 + x38)) then 1048577 else (IntKind.wrap .i64 (long31 + x38)))
 (x33).bind fun p40 =>
 (ldA 3 p40 h35).bind fun l41 =>
 (decC [.s, .i .i64, .i .i64] l41).bind fun x42 =>
 newK h35 ((.cells [.string x42.1, .int .i64 x42.2.1, .int .i64 x42.2.2] 200 true 0)) fun h43 =>
 (rdS 3 (⟨(some ⟨h35.next, 0, some 0⟩), 1, 1⟩ : Slc) h43).bind fun n45 =>
 (zl_ 3 32 200 h43 l30 n45 1).bind fun r44 =>
 rec7 s29 r44.1 t39 r32 r44.2)) fun j36 =>
 (r5).bind fun p46 =>
 (ldB (⟨p46.block, p46.off + 2, none⟩ : Addr) h28).bind fun x47 =>
 (if x47 = true then
 j36 s2 l3 t14 r5 (some (⟨r10.2.next, 0, none⟩ : Addr)) true h28
 else
 (ldI .i64 (⟨r10.2.next, 1, none⟩ : Addr) h28).bind fun x48 =>
 (if (x48 == 0) = true then
 j36 s2 l3 t14 r5 (some (⟨r10.2.next, 0, none⟩ : Addr)) true h28
 else
 (ldI .i64 (⟨r10.2.next, 1, none⟩ : Addr) h28).bind fun x49 =>
 j36 s2 l3 t14 r5 (some (⟨r10.2.next, 0, none⟩ : Addr)) (decide (x49 > t14)) h28))))
noncomputable def zSp_ (k : Nat) (D : za_)  : ByteArray → Slc → Int → (Option Addr) → AHeap → Option ((Slc × Int × Bool) × AHeap) :=
 zi_ (α := ByteArray → Slc → Int → (Option Addr) → AHeap → Option ((Slc × Int × Bool) × AHeap)) (fun _ _ _ _ _ => none) k (zBf_ k D )
noncomputable def zPl_ (k : Nat) (D : za_) (s_0 : ByteArray) (h : AHeap) : Option ((Slc × Int × Bool) × AHeap) :=
 newK h ((.cells [.string s_0, .int .i64 0, .bool false] 210 true 0)) fun h1 =>
 zSp_ k D s_0 (⟨none, 0, 0⟩ : Slc) 0 (some (⟨h.next, 0, none⟩ : Addr)) h1
noncomputable def zoy_ : RCode := an (.s .n (.s .n (.b (.l [(0, .s), (2, .l), (3, .i .i64), (5, .p)] (.b (.s .n (.s .n (.s .n (.s .n (.s (.s .n (.s (.s (.r [(1, .st [.s, .i .i64, .i .i64])]) .n) .n)) (.s .n (.s .n (.s (.s (.j [(0, .s), (2, .l), (3, .i .i64), (5, .p), (7, .p), (72, .b)] .n) .n) (.s .n (.r [(1, .st [.s, .i .i64, .i .i64])]))))))))))))))) (rOf Tryz.prog 2 Tryz.f127)
noncomputable def zHy_ (k : Nat) (D : za_) : Ent := zn_ 127 [(0, .s)] [(2, .l), (3, .i .i64), (4, .b)] (zPl_ k D)
theorem zPw_ {D : za_} (hD : zf_ Tryz.prog 2 D) (k : Nat) : zk_ Tryz.prog 2 (zHy_ k D) :=
 ze_ (k := k) (rc := zoy_) (cs := [none, none, none]) (zd_ hD (zb_.more (zWi_ hD k) (zb_.more (zpn_ hD k) (zb_.more (zxl_ hD k) (zb_.none))))) Tryz.func127 rfl (by kernel_rfl) rfl (by kernel_rfl)
noncomputable def zGg_ (_k : Nat) (_D : za_) (j30 : Slc → Int → Slc → Int → Int → AHeap → Option ((ByteArray × Int) × AHeap)) (rec49 : Slc → Int → (Option Addr) → Int → Slc → Int → Int → AHeap → Option ((ByteArray × Int) × AHeap)) (out41 : Slc) (atv42 : Int) (x43 : Option Addr) (left44 : Int) (y45 : Slc) (y46 : Int) (y47 : Int) (h48 : AHeap) : Option ((ByteArray × Int) × AHeap) :=
 (if (decide (left44 > 0)) = true then
 (x43).bind fun p50 =>
 (ldI .i64 (⟨p50.block, p50.off + 1, none⟩ : Addr) h48).bind fun x51 =>
 let t52 : Int := (IntKind.wrap .i64 (atv42 + (if x51 < left44 then x51 else left44)))
 (Gx.subL 1 out41 (some atv42) (some t52) none).bind fun l53 =>
 (x43).bind fun p54 =>
 (ldI .i64 (⟨p54.block, p54.off + 1, none⟩ : Addr) h48).bind fun x55 =>
 (Gx.subL 1 out41 (some (IntKind.wrap .i64 (atv42 - x55))) (some atv42) none).bind fun l56 =>
 (rdS 1 l56 h48).bind fun n58 =>
 (zNb_ 1 h48 l53 (min l56.len l53.len) n58).bind fun h57 =>
 let t59 : Int := (IntKind.wrap .i64 (atv42 + ((min l56.len l53.len : Nat) : Int)))
 let t60 : Int := (IntKind.wrap .i64 (left44 - ((min l56.len l53.len : Nat) : Int)))
 rec49 out41 t59 x43 t60 y45 y46 y47 h57
 else
 j30 out41 atv42 y45 y46 y47 h48)
noncomputable def zKn_ (k : Nat) (D : za_) (j30 : Slc → Int → Slc → Int → Int → AHeap → Option ((ByteArray × Int) × AHeap)) : Slc → Int → (Option Addr) → Int → Slc → Int → Int → AHeap → Option ((ByteArray × Int) × AHeap) :=
 zi_ (α := Slc → Int → (Option Addr) → Int → Slc → Int → Int → AHeap → Option ((ByteArray × Int) × AHeap)) (fun _ _ _ _ _ _ _ _ => none) k (zGg_ k D j30)
noncomputable def zlf_ (k : Nat) (D : za_) (j15 : Slc → AHeap → Option ((ByteArray × Int) × AHeap)) (rec23 : Slc → Int → Slc → Int → Int → AHeap → Option ((ByteArray × Int) × AHeap)) (out17 : Slc) (atv18 : Int) (y19 : Slc) (y20 : Int) (y21 : Int) (h22 : AHeap) : Option ((ByteArray × Int) × AHeap) :=
 (if (decide (y21 < y20)) = true then
 zm_ (fun (out24 : Slc) (atv25 : Int) (y26 : Slc) (y27 : Int) (y28 : Int) (h29 : AHeap) =>
 rec23 out24 atv25 y26 y27 (IntKind.wrap .i64 (y28 + 1)) h29) fun j30 =>
 (Gx.idxL 3 y19 y21).bind fun q31 =>
 (ldA 3 q31 h22).bind fun l32 =>
 (decC [.s, .i .i64, .i .i64] l32).bind fun x33 =>
 newK h22 ((.cells [.string ⟨#[]⟩, .int .i64 0, .int .i64 0] 200 true 0)) fun h34 =>
 (stL 3 (⟨h22.next, 0, none⟩ : Addr) ([.string x33.1, .int .i64 x33.2.1, .int .i64 x33.2.2]) h34).bind fun h35 =>
 (Gx.subL 1 out17 (some atv18) none none).bind fun l36 =>
 (ldS (⟨h22.next, 0, none⟩ : Addr) h35).bind fun x37 =>
 (zNb_ 1 h35 l36 (min x37.size l36.len) (zM_ x37)).bind fun h38 =>
 let t39 : Int := (IntKind.wrap .i64 (atv18 + ((min x37.size l36.len : Nat) : Int)))
 (ldI .i64 (⟨h22.next, 2, none⟩ : Addr) h38).bind fun x40 =>
 zKn_ k D j30 out17 t39 (some (⟨h22.next, 0, none⟩ : Addr)) x40 y19 y20 y21 h38
 else
 j15 out17 h22)
noncomputable def zuo_ (k : Nat) (D : za_) (j15 : Slc → AHeap → Option ((ByteArray × Int) × AHeap)) : Slc → Int → Slc → Int → Int → AHeap → Option ((ByteArray × Int) × AHeap) :=
 zi_ (α := Slc → Int → Slc → Int → Int → AHeap → Option ((ByteArray × Int) × AHeap)) (fun _ _ _ _ _ _ => none) k (zlf_ k D j15)
noncomputable def zHk_ (k : Nat) (D : za_) (s_0 : ByteArray) (long_1 : Int) (h : AHeap) : Option ((ByteArray × Int) × AHeap) :=
 zm_ (fun (s1 : ByteArray) (long2 : Int) (y3 : Bool) (h4 : AHeap) =>
 (if y3 = true then
 some (((⟨#[]⟩ : ByteArray), 1), h4)
 else
 (zPl_ k D s1 h4).bind fun r6 =>
 zm_ (fun (long7 : Int) (l8 : Slc) (y9 : Bool) (h10 : AHeap) =>
 (if y9 = true then
 some (((⟨#[]⟩ : ByteArray), 120), h10)
 else
 (if 0 ≤ long7 ∧ long7 ≤ long7 ∧ long7 ≤ 281474976710656 ∧ 1 * long7 ≤ 281474976710656 then
 newK h10 ((.cells (zu_ (long7).toNat [.int .u8 0]) 5 true 0)) fun h12 =>
 zm_ (fun (out13 : Slc) (h14 : AHeap) =>
 (zeb_ h14 out13).bind fun s16 =>
 some ((s16, 0), h14)) fun j15 =>
 zuo_ k D j15 (⟨(some ⟨h10.next, 0, some 0⟩), (long7).toNat, (long7).toNat⟩ : Slc) 0 l8 (l8.len : Int) 0 h12
 else none))) fun j11 =>
 (if (!r6.1.2.2) = true then
 j11 long2 r6.1.1 true r6.2
 else
 j11 long2 r6.1.1 (r6.1.2.1 != long2) r6.2))) fun j5 =>
 (if (decide (long_1 < 0)) = true then
 j5 s_0 long_1 true h
 else
 j5 s_0 long_1 (decide (long_1 > 1048576)) h)
noncomputable def zfw_ : RCode := an (.s .n (.s (.s (.j [(0, .s), (1, .i .i64), (20, .b)] .n) .n) (.s .n (.s (.s (.j [(1, .i .i64), (6, .l), (33, .b)] .n) .n) (.s .n (.s .n (.s (.j [(9, .l)] (.s .n (.b (.l [(9, .l), (10, .i .i64), (36, .l), (37, .i .i64), (38, .i .i64)] (.s .n (.s .n (.s (.j [(9, .l), (10, .i .i64), (36, .l), (37, .i .i64), (38, .i .i64)] (.b (.s (.r [(1, .st [.s, .i .i64, .i .i64])]) (.s .n (.s .n (.b (.l [(9, .l), (10, .i .i64), (12, .p), (13, .i .i64), (36, .l), (37, .i .i64), (38, .i .i64)] .n))))))) .n))))))) .n))))))) (rOf Tryz.prog 2 Tryz.f113)
noncomputable def zaw_ (k : Nat) (D : za_) : Ent := zn_ 113 [(0, .s), (1, .i .i64)] [(4, .s), (5, .i .i64)] (zHk_ k D)
theorem zdu_ {D : za_} (hD : zf_ Tryz.prog 2 D) (k : Nat) : zk_ Tryz.prog 2 (zaw_ k D) :=
 ze_ (k := k) (rc := zfw_) (cs := [none, none]) (zd_ hD (zb_.more (zPw_ hD k) (zb_.none))) Tryz.func113 rfl (by kernel_rfl) rfl (by kernel_rfl)
noncomputable def zqi_ (k : Nat) (D : za_) (s_0 : ByteArray) (h : AHeap) : Option ((Int × ByteArray × Int) × AHeap) :=
 (zkk_ k D s_0 h).bind fun r1 =>
 zm_ (fun (kind2 : Int) (text3 : ByteArray) (e4 : Int) (size5 : Int) (h6 : AHeap) =>
 zm_ (fun (kind8 : Int) (text9 : ByteArray) (y10 : Bool) (h11 : AHeap) =>
 (if y10 = true then
 some ((0, (⟨#[]⟩ : ByteArray), 130), h11)
 else
 some (((Go.bits .andNot .i64 kind8 16), text9, 0), h11))) fun j12 =>
 (if (e4 != 0) = true then
 j12 kind2 text3 true h6
 else
 j12 kind2 text3 ((text3.size : Int) != size5) h6)) fun j7 =>
 (if (r1.1.2.2.2 != 0) = true then
 some ((0, (⟨#[]⟩ : ByteArray), r1.1.2.2.2), r1.2)
 else
 (if ((Go.bits .and .i64 r1.1.1 16) == 0) = true then
 j7 r1.1.1 r1.1.2.2.1 r1.1.2.2.2 r1.1.2.1 r1.2
 else
 (zHk_ k D r1.1.2.2.1 r1.1.2.1 r1.2).bind fun r13 =>
 j7 r1.1.1 r13.1.1 r13.1.2 r1.1.2.1 r13.2))
noncomputable def zot_ : RCode := an (.s .n (.s .n (.s (.j [(2, .i .i64), (3, .s), (4, .i .i64), (5, .i .i64)] .n) (.s (.s (.j [(2, .i .i64), (3, .s), (36, .b)] .n) .n) .n)))) (rOf Tryz.prog 2 Tryz.f81)
noncomputable def zft_ (k : Nat) (D : za_) : Ent := zn_ 81 [(0, .s)] [(2, .i .i64), (3, .s), (4, .i .i64)] (zqi_ k D)
theorem zfs_ {D : za_} (hD : zf_ Tryz.prog 2 D) (k : Nat) : zk_ Tryz.prog 2 (zft_ k D) :=
 ze_ (k := k) (rc := zot_) (cs := [none, none, none]) (zd_ hD (zb_.more (zZt_ hD k) (zb_.more (zdu_ hD k) (zb_.none)))) Tryz.func81 rfl (by kernel_rfl) rfl (by kernel_rfl)
noncomputable def zqk_ (k : Nat) (D : za_) (s_0 : ByteArray) (id_1 : ByteArray) (h : AHeap) : Option ((Int × ByteArray × Int) × AHeap) :=
 (zqi_ k D s_0 h).bind fun r1 =>
 (if (r1.1.2.2 != 0) = true then
 some ((0, (⟨#[]⟩ : ByteArray), r1.1.2.2), r1.2)
 else
 (zrj_ k D r1.1.1 r1.1.2.1 r1.2).bind fun r2 =>
 (if (!(r2.1.1 == id_1)) = true then
 some ((0, (⟨#[]⟩ : ByteArray), 130), r2.2)
 else
 some ((r1.1.1, r1.1.2.1, 0), r2.2)))
noncomputable def zow_ : RCode := an (.n) (rOf Tryz.prog 2 Tryz.f37)
noncomputable def zIw_ (k : Nat) (D : za_) : Ent := zn_ 37 [(0, .s), (1, .s)] [(4, .i .i64), (5, .s), (6, .i .i64)] (zqk_ k D)
theorem zqu_ {D : za_} (hD : zf_ Tryz.prog 2 D) (k : Nat) : zk_ Tryz.prog 2 (zIw_ k D) :=
 ze_ (k := k) (rc := zow_) (cs := [none, none, none]) (zd_ hD (zb_.more (zfs_ hD k) (zb_.more (zJm_ hD k) (zb_.none)))) Tryz.func37 rfl (by kernel_rfl) rfl (by kernel_rfl)
noncomputable def zKf_ (k : Nat) (D : za_) (s_0 : ByteArray) (at_1 : ByteArray × Int × Int × Int × Int) (id_2 : ByteArray) (h : AHeap) : Option ((Int × ByteArray × Int) × AHeap) :=
 newK h ((.cells [.string at_1.1, .int .i64 at_1.2.1, .int .i64 at_1.2.2.1, .int .i64 at_1.2.2.2.1, .int .i64 at_1.2.2.2.2] 50 true 0)) fun h1 =>
 zm_ (fun (s2 : ByteArray) (id3 : ByteArray) (atv4 : Option Addr) (y5 : Bool) (h6 : AHeap) =>
 (if y5 = true then
 some ((0, (⟨#[]⟩ : ByteArray), 5), h6)
 else
 (atv4).bind fun p8 =>
 (ldI .i64 (⟨p8.block, p8.off + 2, none⟩ : Addr) h6).bind fun x9 =>
 (atv4).bind fun p10 =>
 (ldI .i64 (⟨p10.block, p10.off + 2, none⟩ : Addr) h6).bind fun x11 =>
 (atv4).bind fun p12 =>
 (ldI .i64 (⟨p12.block, p12.off + 3, none⟩ : Addr) h6).bind fun x13 =>
 (Gx.subS s2 (some x9) (some (IntKind.wrap .i64 (x11 + x13)))).bind fun s14 =>
 (zqk_ k D s14 id3 h6).bind fun r15 =>
 (if (r15.1.2.2 != 0) = true then
 some ((0, (⟨#[]⟩ : ByteArray), r15.1.2.2), r15.2)
 else
 zm_ (fun (kind16 : Int) (text17 : ByteArray) (y18 : Bool) (h19 : AHeap) =>
 (if y18 = true then
 some ((0, (⟨#[]⟩ : ByteArray), 140), h19)
 else
 some ((kind16, text17, 0), h19))) fun j20 =>
 (atv4).bind fun p21 =>
 (ldI .i64 (⟨p21.block, p21.off + 1, none⟩ : Addr) r15.2).bind fun x22 =>
 (if (r15.1.1 != x22) = true then
 j20 r15.1.1 r15.1.2.1 true r15.2
 else
 (atv4).bind fun p23 =>
 (ldI .i64 (⟨p23.block, p23.off + 4, none⟩ : Addr) r15.2).bind fun x24 =>
 j20 r15.1.1 r15.1.2.1 ((r15.1.2.1.size : Int) != x24) r15.2)))) fun j7 =>
 (ldI .i64 (⟨h.next, 2, none⟩ : Addr) h1).bind fun x25 =>
 (if (decide (x25 < 0)) = true then
 j7 s_0 id_2 (some (⟨h.next, 0, none⟩ : Addr)) true h1
 else
 (ldI .i64 (⟨h.next, 3, none⟩ : Addr) h1).bind fun x26 =>
 (if (decide (x26 < 0)) = true then
 j7 s_0 id_2 (some (⟨h.next, 0, none⟩ : Addr)) true h1
 else
 (ldI .i64 (⟨h.next, 2, none⟩ : Addr) h1).bind fun x27 =>
 (if (decide (x27 > (s_0.size : Int))) = true then
 j7 s_0 id_2 (some (⟨h.next, 0, none⟩ : Addr)) true h1
 else
 (ldI .i64 (⟨h.next, 3, none⟩ : Addr) h1).bind fun x28 =>
 (ldI .i64 (⟨h.next, 2, none⟩ : Addr) h1).bind fun x29 =>
 j7 s_0 id_2 (some (⟨h.next, 0, none⟩ : Addr)) (decide (x28 > (IntKind.wrap .i64 ((s_0.size : Int) - x29)))) h1)))
noncomputable def zUv_ : RCode := an (.s .n (.s (.s (.j [(0, .s), (2, .s), (4, .p), (33, .b)] .n) .n) (.s .n (.s (.b (.s .n (.s .n (.s (.j [(6, .i .i64), (7, .s), (53, .b)] .n) .n)))) .n)))) (rOf Tryz.prog 2 Tryz.f14)
noncomputable def zcw_ (k : Nat) (D : za_) : Ent := zn_ 14 [(0, .s), (1, .st [.s, .i .i64, .i .i64, .i .i64, .i .i64]), (2, .s)] [(6, .i .i64), (7, .s), (8, .i .i64)] (zKf_ k D)
theorem zou_ {D : za_} (hD : zf_ Tryz.prog 2 D) (k : Nat) : zk_ Tryz.prog 2 (zcw_ k D) :=
 ze_ (k := k) (rc := zUv_) (cs := [none, none, none]) (zd_ hD (zb_.more (zqu_ hD k) (zb_.none))) Tryz.func14 rfl (by kernel_rfl) rfl (by kernel_rfl)
noncomputable def zjc_ (_k : Nat) (_D : za_) (x_0 : ByteArray) (h : AHeap) : Option ((Bool) × AHeap) :=
 some ((!(x_0 == x_0)), h)
noncomputable def zKo_ : RCode := an (.n) (rOf Tryz.prog 2 Tryz.f98)
noncomputable def zJo_ (k : Nat) (D : za_) : Ent := zn_ 98 [(0, .s)] [(2, .b)] (zjc_ k D)
theorem zTh_ {D : za_} (hD : zf_ Tryz.prog 2 D) (k : Nat) : zk_ Tryz.prog 2 (zJo_ k D) :=
 ze_ (k := k) (rc := zKo_) (cs := [none]) (zd_ hD (zb_.none)) Tryz.func98 rfl (by kernel_rfl) rfl (by kernel_rfl)
noncomputable def zrc_ (k : Nat) (D : za_) (x_0 : ByteArray) (y_1 : ByteArray) (h : AHeap) : Option ((Int) × AHeap) :=
 (zjc_ k D x_0 h).bind fun r1 =>
 (zjc_ k D y_1 r1.2).bind fun r2 =>
 (if r1.1 = true then
 (if r2.1 = true then
 some (0, r2.2)
 else
 some ((-1), r2.2))
 else
 (if r2.1 = true then
 some (1, r2.2)
 else
 (if (Op.bytesLess x_0.toList y_1.toList) = true then
 some ((-1), r2.2)
 else
 (if (!(Op.bytesLess x_0.toList y_1.toList || (x_0 == y_1))) = true then
 some (1, r2.2)
 else
 some (0, r2.2)))))
noncomputable def znm_ : RCode := an (.n) (rOf Tryz.prog 2 Tryz.f80)
noncomputable def zXl_ (k : Nat) (D : za_) : Ent := zn_ 80 [(0, .s), (1, .s)] [(4, .i .i64)] (zrc_ k D)
theorem zdh_ {D : za_} (hD : zf_ Tryz.prog 2 D) (k : Nat) : zk_ Tryz.prog 2 (zXl_ k D) :=
 ze_ (k := k) (rc := znm_) (cs := [none]) (zd_ hD (zb_.more (zTh_ hD k) (zb_.none))) Tryz.func80 rfl (by kernel_rfl) rfl (by kernel_rfl)
noncomputable def zJg_ (_k : Nat) (_D : za_) (x_0 : Int) (h : AHeap) : Option ((Bool) × AHeap) :=
 some ((x_0 != x_0), h)
noncomputable def zar_ : RCode := an (.n) (rOf Tryz.prog 2 Tryz.f120)
noncomputable def ztr_ (k : Nat) (D : za_) : Ent := zn_ 120 [(0, .i .i64)] [(2, .b)] (zJg_ k D)
theorem ziq_ {D : za_} (hD : zf_ Tryz.prog 2 D) (k : Nat) : zk_ Tryz.prog 2 (ztr_ k D) :=
 ze_ (k := k) (rc := zar_) (cs := [none]) (zd_ hD (zb_.none)) Tryz.func120 rfl (by kernel_rfl) rfl (by kernel_rfl)
noncomputable def zvc_ (k : Nat) (D : za_) (x_0 : Int) (y_1 : Int) (h : AHeap) : Option ((Int) × AHeap) :=
 (zJg_ k D x_0 h).bind fun r1 =>
 (zJg_ k D y_1 r1.2).bind fun r2 =>
 (if r1.1 = true then
 (if r2.1 = true then
 some (0, r2.2)
 else
 some ((-1), r2.2))
 else
 (if r2.1 = true then
 some (1, r2.2)
 else
 (if (decide (x_0 < y_1)) = true then
 some ((-1), r2.2)
 else
 (if (decide (x_0 > y_1)) = true then
 some (1, r2.2)
 else
 some (0, r2.2)))))
noncomputable def zsp_ : RCode := an (.n) (rOf Tryz.prog 2 Tryz.f95)
noncomputable def zxp_ (k : Nat) (D : za_) : Ent := zn_ 95 [(0, .i .i64), (1, .i .i64)] [(4, .i .i64)] (zvc_ k D)
theorem zUn_ {D : za_} (hD : zf_ Tryz.prog 2 D) (k : Nat) : zk_ Tryz.prog 2 (zxp_ k D) :=
 ze_ (k := k) (rc := zsp_) (cs := [none]) (zd_ hD (zb_.more (ziq_ hD k) (zb_.none))) Tryz.func95 rfl (by kernel_rfl) rfl (by kernel_rfl)
noncomputable def zBe_ (_k : Nat) (_D : za_) (j3 : Int → AHeap → Option ((Int) × AHeap)) (rec9 : Int → Slc → Int → Int → AHeap → Option ((Int) × AHeap)) (zero4 : Int) (y5 : Slc) (y6 : Int) (y7 : Int) (h8 : AHeap) : Option ((Int) × AHeap) :=
 (if (decide (y7 < y6)) = true then
 (Gx.idxL 1 y5 y7).bind fun q10 =>
 (ldI .i64 q10 h8).bind fun x11 =>
 (if (x11 != zero4) = true then
 some (x11, h8)
 else
 rec9 zero4 y5 y6 (IntKind.wrap .i64 (y7 + 1)) h8)
 else
 j3 zero4 h8)
noncomputable def zPm_ (k : Nat) (D : za_) (j3 : Int → AHeap → Option ((Int) × AHeap)) : Int → Slc → Int → Int → AHeap → Option ((Int) × AHeap) :=
 zi_ (α := Int → Slc → Int → Int → AHeap → Option ((Int) × AHeap)) (fun _ _ _ _ _ => none) k (zBe_ k D j3)
noncomputable def zij_ (k : Nat) (D : za_) (vals_0 : Slc) (h : AHeap) : Option ((Int) × AHeap) :=
 zm_ (fun (zero1 : Int) (h2 : AHeap) =>
 some (zero1, h2)) fun j3 =>
 zPm_ k D j3 0 vals_0 (vals_0.len : Int) 0 h
noncomputable def zkv_ : RCode := an (.s .n (.s .n (.s (.j [(3, .i .i64)] (.s .n (.b (.l [(3, .i .i64), (6, .l), (7, .i .i64), (8, .i .i64)] .n)))) .n))) (rOf Tryz.prog 2 Tryz.f94)
noncomputable def zsu_ (k : Nat) (D : za_) : Ent := zn_ 94 [(0, .l)] [(2, .i .i64)] (zij_ k D)
theorem zpt_ {D : za_} (hD : zf_ Tryz.prog 2 D) (k : Nat) : zk_ Tryz.prog 2 (zsu_ k D) :=
 ze_ (k := k) (rc := zkv_) (cs := [none]) (zd_ hD (zb_.none)) Tryz.func94 rfl (by kernel_rfl) rfl (by kernel_rfl)
noncomputable def zJf_ (k : Nat) (D : za_) (x_0 : ByteArray × ByteArray × Int × Int × Int × Int) (y_1 : ByteArray × ByteArray × Int × Int × Int × Int) (h : AHeap) : Option ((Int) × AHeap) :=
 newK h ((.cells [.string x_0.1, .string x_0.2.1, .int .i64 x_0.2.2.1, .int .i64 x_0.2.2.2.1, .int .i64 x_0.2.2.2.2.1, .int .i64 x_0.2.2.2.2.2] 57 true 0)) fun h1 =>
 newK h1 ((.cells [.string y_1.1, .string y_1.2.1, .int .i64 y_1.2.2.1, .int .i64 y_1.2.2.2.1, .int .i64 y_1.2.2.2.2.1, .int .i64 y_1.2.2.2.2.2] 57 true 0)) fun h2 =>
 (ldS (⟨h.next, 0, none⟩ : Addr) h2).bind fun x3 =>
 (ldS (⟨h1.next, 0, none⟩ : Addr) h2).bind fun x4 =>
 (zrc_ k D x3 x4 h2).bind fun r5 =>
 (ldS (⟨h.next, 1, none⟩ : Addr) r5.2).bind fun x6 =>
 zR_ (zKb_ [h2] (fun H8 => (ldS (⟨h.next, 1, none⟩ : Addr) H8).bind fun y7 => some (.string y7)) (.string x6)) (
 (ldS (⟨h1.next, 1, none⟩ : Addr) r5.2).bind fun x9 =>
 zR_ (zKb_ [h2] (fun H11 => (ldS (⟨h1.next, 1, none⟩ : Addr) H11).bind fun y10 => some (.string y10)) (.string x9)) (
 (zrc_ k D x6 x9 r5.2).bind fun r12 =>
 (ldI .i64 (⟨h.next, 3, none⟩ : Addr) r12.2).bind fun x13 =>
 zR_ (zKb_ [r5.2, h2] (fun H15 => (ldI .i64 (⟨h.next, 3, none⟩ : Addr) H15).bind fun y14 => some (.int .i64 y14)) (.int .i64 x13)) (
 (ldI .i64 (⟨h1.next, 3, none⟩ : Addr) r12.2).bind fun x16 =>
 zR_ (zKb_ [r5.2, h2] (fun H18 => (ldI .i64 (⟨h1.next, 3, none⟩ : Addr) H18).bind fun y17 => some (.int .i64 y17)) (.int .i64 x16)) (
 (zvc_ k D x13 x16 r12.2).bind fun r19 =>
 (ldI .i64 (⟨h.next, 4, none⟩ : Addr) r19.2).bind fun x20 =>
 zR_ (zKb_ [r12.2, r5.2, h2] (fun H22 => (ldI .i64 (⟨h.next, 4, none⟩ : Addr) H22).bind fun y21 => some (.int .i64 y21)) (.int .i64 x20)) (
 (ldI .i64 (⟨h1.next, 4, none⟩ : Addr) r19.2).bind fun x23 =>
 zR_ (zKb_ [r12.2, r5.2, h2] (fun H25 => (ldI .i64 (⟨h1.next, 4, none⟩ : Addr) H25).bind fun y24 => some (.int .i64 y24)) (.int .i64 x23)) (
 (zvc_ k D x20 x23 r19.2).bind fun r26 =>
 (ldI .i64 (⟨h.next, 5, none⟩ : Addr) r26.2).bind fun x27 =>
 zR_ (zKb_ [r19.2, r12.2, r5.2, h2] (fun H29 => (ldI .i64 (⟨h.next, 5, none⟩ : Addr) H29).bind fun y28 => some (.int .i64 y28)) (.int .i64 x27)) (
 (ldI .i64 (⟨h1.next, 5, none⟩ : Addr) r26.2).bind fun x30 =>
 zR_ (zKb_ [r19.2, r12.2, r5.2, h2] (fun H32 => (ldI .i64 (⟨h1.next, 5, none⟩ : Addr) H32).bind fun y31 => some (.int .i64 y31)) (.int .i64 x30)) (
 (zvc_ k D x27 x30 r26.2).bind fun r33 =>
 (ldI .i64 (⟨h.next, 2, none⟩ : Addr) r33.2).bind fun x34 =>
 zR_ (zKb_ [r26.2, r19.2, r12.2, r5.2, h2] (fun H36 => (ldI .i64 (⟨h.next, 2, none⟩ : Addr) H36).bind fun y35 => some (.int .i64 y35)) (.int .i64 x34)) (
 (ldI .i64 (⟨h1.next, 2, none⟩ : Addr) r33.2).bind fun x37 =>
 zR_ (zKb_ [r26.2, r19.2, r12.2, r5.2, h2] (fun H39 => (ldI .i64 (⟨h1.next, 2, none⟩ : Addr) H39).bind fun y38 => some (.int .i64 y38)) (.int .i64 x37)) (
 (zvc_ k D x34 x37 r33.2).bind fun r40 =>
 newK r40.2 ((.cells [.int .i64 r5.1, .int .i64 r12.1, .int .i64 r19.1, .int .i64 r26.1, .int .i64 r33.1, .int .i64 r40.1] 3 true 0)) fun h41 =>
 (zij_ k D (⟨(some ⟨r40.2.next, 0, some 0⟩), 6, 6⟩ : Slc) h41).bind fun r42 =>
 some (r42.1, r42.2)))))))))))
noncomputable def zLr_ : RCode := an (.n) (rOf Tryz.prog 2 Tryz.f58)
noncomputable def zFl_ (k : Nat) (D : za_) : Ent := zn_ 58 [(0, .st [.s, .s, .i .i64, .i .i64, .i .i64, .i .i64]), (1, .st [.s, .s, .i .i64, .i .i64, .i .i64, .i .i64])] [(4, .i .i64)] (zJf_ k D)
theorem zDk_ {D : za_} (hD : zf_ Tryz.prog 2 D) (k : Nat) : zk_ Tryz.prog 2 (zFl_ k D) :=
 ze_ (k := k) (rc := zLr_) (cs := [none]) (zd_ hD (zb_.more (zdh_ hD k) (zb_.more (zUn_ hD k) (zb_.more (zpt_ hD k) (zb_.none))))) Tryz.func58 rfl (by kernel_rfl) rfl (by kernel_rfl)
noncomputable def zwf_ (k : Nat) (D : za_) (x_0 : ByteArray) (y_1 : ByteArray) (h : AHeap) : Option ((Bool) × AHeap) :=
 (zjc_ k D x_0 h).bind fun r1 =>
 (if r1.1 = true then
 (zjc_ k D y_1 r1.2).bind fun r2 =>
 (if (!r2.1) = true then
 some (true, r2.2)
 else
 some ((Op.bytesLess x_0.toList y_1.toList), r2.2))
 else
 some ((Op.bytesLess x_0.toList y_1.toList), r1.2))
noncomputable def zwp_ : RCode := an (.n) (rOf Tryz.prog 2 Tryz.f61)
noncomputable def zZi_ (k : Nat) (D : za_) : Ent := zn_ 61 [(0, .s), (1, .s)] [(4, .b)] (zwf_ k D)
theorem zzo_ {D : za_} (hD : zf_ Tryz.prog 2 D) (k : Nat) : zk_ Tryz.prog 2 (zZi_ k D) :=
 ze_ (k := k) (rc := zwp_) (cs := [none]) (zd_ hD (zb_.more (zTh_ hD k) (zb_.none))) Tryz.func61 rfl (by kernel_rfl) rfl (by kernel_rfl)
noncomputable def zri_ (k : Nat) (D : za_) (x_0 : ByteArray × ByteArray × Int × Int × Int × Int) (y_1 : ByteArray × ByteArray × Int × Int × Int × Int) (h : AHeap) : Option ((Bool) × AHeap) :=
 newK h ((.cells [.string x_0.1, .string x_0.2.1, .int .i64 x_0.2.2.1, .int .i64 x_0.2.2.2.1, .int .i64 x_0.2.2.2.2.1, .int .i64 x_0.2.2.2.2.2] 57 true 0)) fun h1 =>
 newK h1 ((.cells [.string y_1.1, .string y_1.2.1, .int .i64 y_1.2.2.1, .int .i64 y_1.2.2.2.1, .int .i64 y_1.2.2.2.2.1, .int .i64 y_1.2.2.2.2.2] 57 true 0)) fun h2 =>
 (ldA 6 (⟨h.next, 0, none⟩ : Addr) h2).bind fun l3 =>
 (decC [.s, .s, .i .i64, .i .i64, .i .i64, .i .i64] l3).bind fun x4 =>
 (ldA 6 (⟨h1.next, 0, none⟩ : Addr) h2).bind fun l5 =>
 (decC [.s, .s, .i .i64, .i .i64, .i .i64, .i .i64] l5).bind fun x6 =>
 (zJf_ k D (x4.1, x4.2.1, x4.2.2.1, x4.2.2.2.1, x4.2.2.2.2.1, x4.2.2.2.2.2) (x6.1, x6.2.1, x6.2.2.1, x6.2.2.2.1, x6.2.2.2.2.1, x6.2.2.2.2.2) h2).bind fun r7 =>
 some ((decide (r7.1 < 0)), r7.2)
noncomputable def zvt_ : RCode := an (.s .n (.s (.r [(0, .st [.s, .s, .i .i64, .i .i64, .i .i64, .i .i64]), (1, .st [.s, .s, .i .i64, .i .i64, .i .i64, .i .i64])]) .n)) (rOf Tryz.prog 2 Tryz.f63)
noncomputable def zMm_ (k : Nat) (D : za_) : Ent := zn_ 63 [(0, .st [.s, .s, .i .i64, .i .i64, .i .i64, .i .i64]), (1, .st [.s, .s, .i .i64, .i .i64, .i .i64, .i .i64])] [(4, .b)] (zri_ k D)
theorem zhs_ {D : za_} (hD : zf_ Tryz.prog 2 D) (k : Nat) : zk_ Tryz.prog 2 (zMm_ k D) :=
 ze_ (k := k) (rc := zvt_) (cs := [none]) (zd_ hD (zb_.more (zDk_ hD k) (zb_.none))) Tryz.func63 rfl (by kernel_rfl) rfl (by kernel_rfl)
noncomputable def zVh_ (k : Nat) (D : za_) (r_0 : Option Addr) (h : AHeap) : Option ((ByteArray) × AHeap) :=
 (zjb_ k D r_0 32 h).bind fun r1 =>
 some (r1.1, r1.2)
noncomputable def zZp_ : RCode := an (.n) (rOf Tryz.prog 2 Tryz.f69)
noncomputable def zyj_ (k : Nat) (D : za_) : Ent := zn_ 69 [(0, .p)] [(2, .s)] (zVh_ k D)
theorem zAp_ {D : za_} (hD : zf_ Tryz.prog 2 D) (k : Nat) : zk_ Tryz.prog 2 (zyj_ k D) :=
 ze_ (k := k) (rc := zZp_) (cs := [none]) (zd_ hD (zb_.more (zOd_ hD k) (zb_.none))) Tryz.func69 rfl (by kernel_rfl) rfl (by kernel_rfl)
noncomputable def zfj_ (k : Nat) (D : za_) (r_0 : Option Addr) (h : AHeap) : Option (((ByteArray × ByteArray × Int × Int × Int × Int)) × AHeap) :=
 newK h ((.cells [.string ⟨#[]⟩, .string ⟨#[]⟩, .int .i64 0, .int .i64 0, .int .i64 0, .int .i64 0] 57 true 0)) fun h1 =>
 (zjb_ k D r_0 32 h1).bind fun r2 =>
 newK r2.2 ((.cells [.string ⟨#[]⟩, .string ⟨#[]⟩, .int .i64 0, .int .i64 0, .int .i64 0, .int .i64 0] 57 true 0)) fun h3 =>
 (stL 6 (⟨r2.2.next, 0, none⟩ : Addr) ([.string r2.1, .string (⟨#[]⟩ : ByteArray), .int .i64 0, .int .i64 0, .int .i64 0, .int .i64 0]) h3).bind fun h4 =>
 (zjb_ k D r_0 32 h4).bind fun r5 =>
 (st1 (⟨r2.2.next, 1, none⟩ : Addr) (.string r5.1) r5.2).bind fun h6 =>
 (zub_ k D r_0 1 h6).bind fun r7 =>
 (st1 (⟨r2.2.next, 2, none⟩ : Addr) (.int .i64 r7.1) r7.2).bind fun h8 =>
 (zV_ k D r_0 65536 h8).bind fun r9 =>
 (st1 (⟨r2.2.next, 3, none⟩ : Addr) (.int .i64 r9.1) r9.2).bind fun h10 =>
 (zV_ k D r_0 65536 h10).bind fun r11 =>
 (st1 (⟨r2.2.next, 4, none⟩ : Addr) (.int .i64 r11.1) r11.2).bind fun h12 =>
 (zV_ k D r_0 65536 h12).bind fun r13 =>
 (st1 (⟨r2.2.next, 5, none⟩ : Addr) (.int .i64 r13.1) r13.2).bind fun h14 =>
 (ldA 6 (⟨r2.2.next, 0, none⟩ : Addr) h14).bind fun l15 =>
 (decC [.s, .s, .i .i64, .i .i64, .i .i64, .i .i64] l15).bind fun x16 =>
 (stL 6 (⟨h.next, 0, none⟩ : Addr) ([.string x16.1, .string x16.2.1, .int .i64 x16.2.2.1, .int .i64 x16.2.2.2.1, .int .i64 x16.2.2.2.2.1, .int .i64 x16.2.2.2.2.2]) h14).bind fun h17 =>
 (ldA 6 (⟨h.next, 0, none⟩ : Addr) h17).bind fun l18 =>
 (decC [.s, .s, .i .i64, .i .i64, .i .i64, .i .i64] l18).bind fun x19 =>
 some ((x19.1, x19.2.1, x19.2.2.1, x19.2.2.2.1, x19.2.2.2.2.1, x19.2.2.2.2.2), h17)
noncomputable def zHu_ : RCode := an (.s .n (.s .n (.s .n (.s .n (.s .n (.s .n (.s .n (.s (.r [(0, .st [.s, .s, .i .i64, .i .i64, .i .i64, .i .i64])]) .n)))))))) (rOf Tryz.prog 2 Tryz.f72)
noncomputable def zNo_ (k : Nat) (D : za_) : Ent := zn_ 72 [(0, .p)] [(2, .st [.s, .s, .i .i64, .i .i64, .i .i64, .i .i64])] (zfj_ k D)
theorem zBt_ {D : za_} (hD : zf_ Tryz.prog 2 D) (k : Nat) : zk_ Tryz.prog 2 (zNo_ k D) :=
 ze_ (k := k) (rc := zHu_) (cs := [some (.agg 6)]) (zd_ hD (zb_.more (zOd_ hD k) (zb_.more (zHd_ hD k) (zb_.more (zdc_ hD k) (zb_.none))))) Tryz.func72 rfl (by kernel_rfl) rfl (by kernel_rfl)
noncomputable def zze_ (k : Nat) (D : za_) (x_0 : ByteArray × ByteArray × Int × Int × Int × Int) (id_1 : ByteArray) (h : AHeap) : Option ((Int) × AHeap) :=
 newK h ((.cells [.string x_0.1, .string x_0.2.1, .int .i64 x_0.2.2.1, .int .i64 x_0.2.2.2.1, .int .i64 x_0.2.2.2.2.1, .int .i64 x_0.2.2.2.2.2] 57 true 0)) fun h1 =>
 (ldS (⟨h.next, 0, none⟩ : Addr) h1).bind fun x2 =>
 (zrc_ k D x2 id_1 h1).bind fun r3 =>
 some (r3.1, r3.2)
noncomputable def zck_ : RCode := an (.n) (rOf Tryz.prog 2 Tryz.f79)
noncomputable def zcg_ (k : Nat) (D : za_) : Ent := zn_ 79 [(0, .st [.s, .s, .i .i64, .i .i64, .i .i64, .i .i64]), (1, .s)] [(4, .i .i64)] (zze_ k D)
theorem zvj_ {D : za_} (hD : zf_ Tryz.prog 2 D) (k : Nat) : zk_ Tryz.prog 2 (zcg_ k D) :=
 ze_ (k := k) (rc := zck_) (cs := [none]) (zd_ hD (zb_.more (zdh_ hD k) (zb_.none))) Tryz.func79 rfl (by kernel_rfl) rfl (by kernel_rfl)
end Gg
