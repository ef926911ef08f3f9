import Derived.Test.YtmhahnefniiipaaProg
import Derived.Shelf.SlIter.Nil
import Derived.Shelf.SortM.Plain
import Derived.Shelf.SortM.SortNone
import Derived.Shelf.SlMaps.Clone
import Derived.KernelRfl
import Derived.Test.YtmhahnefniiipaaGx3
namespace Gs
open Go Gx Go.Proofs
noncomputable def e_sync_atomic_AddInt64 (_k : Nat) (_D : CallF) : Ent := eAdd 98 .i64
theorem ok_sync_atomic_AddInt64 {D : CallF} (_hD : CSound Try.prog 0 D) (k : Nat) : EntOk Try.prog 0 (e_sync_atomic_AddInt64 k D) :=
 add_ok Try.func98 rfl rfl rfl .i64 (by kernel_rfl)
end Gs
namespace Gs
open Go Gx Go.Proofs
set_option maxRecDepth 100000
noncomputable def C_sync_atomic_Int64_Add (k : Nat) (D : CallF) : CallF := mkC D [e_sync_atomic_AddInt64 k D]
noncomputable def sync_atomic_Int64_Add (_k : Nat) (_D : CallF) (x_0 : Option Addr) (delta_1 : Int) (h : AHeap) : Option ((Int) × AHeap) :=
 (x_0).bind fun p1 =>
 (ldI .i64 (⟨p1.block, p1.off + 0, none⟩ : Addr) h).bind fun x2 =>
 (st1 (⟨p1.block, p1.off + 0, none⟩ : Addr) (.int .i64 (IntKind.wrap .i64 (x2 + delta_1))) h).bind fun h3 =>
 some ((IntKind.wrap .i64 (x2 + delta_1)), h3)
noncomputable def r_sync_atomic_Int64_Add : RCode := an (.n) (rOf Try.prog 0 Try.f50)
noncomputable def e_sync_atomic_Int64_Add (k : Nat) (D : CallF) : Ent := entOf 50 [(0, .p), (1, .i .i64)] [(4, .i .i64)] (sync_atomic_Int64_Add k D)
theorem q_sync_atomic_Int64_Add : (Try.f50.body).bind (rcodeOf Try.prog 0 Try.f50.ntmps) = some (strip r_sync_atomic_Int64_Add) := by kernel_rfl
theorem t_sync_atomic_Int64_Add (k : Nat) (D : CallF) : curF [(0, .p), (1, .i .i64)] (fun args h => denF (C_sync_atomic_Int64_Add k D) k r_sync_atomic_Int64_Add [(4, .i .i64)] [none] args h) = sync_atomic_Int64_Add k D := by kernel_rfl
theorem ok_sync_atomic_Int64_Add {D : CallF} (hD : CSound Try.prog 0 D) (k : Nat) : EntOk Try.prog 0 (e_sync_atomic_Int64_Add k D) :=
 entOf_ok2 (mkC_sound hD (EntsOk.more (ok_sync_atomic_AddInt64 hD k) (EntsOk.none))) Try.func50 rfl q_sync_atomic_Int64_Add rfl (t_sync_atomic_Int64_Add k D)
end Gs
namespace Gs
open Go Gx Go.Proofs
set_option maxRecDepth 100000
noncomputable def C_store_may (_k : Nat) (D : CallF) : CallF := mkC D []
noncomputable def store_may_l0b (_k : Nat) (_D : CallF) (j3 : ByteArray → AHeap → Option ((Bool) × AHeap)) (rec10 : ByteArray → Slc → Int → Int → AHeap → Option ((Bool) × AHeap)) (name5 : ByteArray) (y6 : Slc) (y7 : Int) (y8 : Int) (h9 : AHeap) : Option ((Bool) × AHeap) :=
 (if (decide (y8 < y7)) = true then
 (Gx.idxL 1 y6 y8).bind fun q11 =>
 (ldI .u8 q11 h9).bind fun x12 =>
 joinK (fun (name13 : ByteArray) (y14 : Slc) (y15 : Int) (y16 : Int) (y17 : Bool) (h18 : AHeap) =>
 (if y17 = true then
 some (false, h18)
 else
 rec10 name13 y14 y15 (IntKind.wrap .i64 (y16 + 1)) h18)) fun j19 =>
 (if (decide (x12 ≤ 32)) = true then
 j19 name5 y6 y7 y8 true h9
 else
 j19 name5 y6 y7 y8 (decide (x12 ≥ 127)) h9)
 else
 j3 name5 h9)
noncomputable def store_may_l0 (k : Nat) (D : CallF) (j3 : ByteArray → AHeap → Option ((Bool) × AHeap)) : ByteArray → Slc → Int → Int → AHeap → Option ((Bool) × AHeap) :=
 iterK (α := ByteArray → Slc → Int → Int → AHeap → Option ((Bool) × AHeap)) (fun _ _ _ _ _ => none) k (store_may_l0b k D j3)
noncomputable def store_may (k : Nat) (D : CallF) (name_0 : ByteArray) (h : AHeap) : Option ((Bool) × AHeap) :=
 joinK (fun (name1 : ByteArray) (h2 : AHeap) =>
 (if (!(name1 == (⟨#[]⟩ : ByteArray))) = true then
 some ((decide ((name1.size : Int) ≤ 96)), h2)
 else
 some (false, h2))) fun j3 =>
 let h4 := AHeap.new h (.cells (bytesL name_0) 5 true 0)
 store_may_l0 k D j3 name_0 (⟨(some ⟨h.next, 0, some 2⟩), name_0.size, name_0.size⟩ : Slc) (name_0.size : Int) 0 h4
noncomputable def r_store_may : RCode := an (.s .n (.s (.j [(0, .s)] (.s .n (.b (.l [(0, .s), (6, .l), (7, .i .i64), (8, .i .i64)] (.s .n (.s .n (.s (.b (.s .n (.s (.j [(0, .s), (6, .l), (7, .i .i64), (8, .i .i64), (17, .b)] .n) .n))) .n))))))) .n)) (rOf Try.prog 0 Try.f127)
noncomputable def e_store_may (k : Nat) (D : CallF) : Ent := entOf 127 [(0, .s)] [(2, .b)] (store_may k D)
theorem q_store_may : (Try.f127.body).bind (rcodeOf Try.prog 0 Try.f127.ntmps) = some (strip r_store_may) := by kernel_rfl
theorem t_store_may (k : Nat) (D : CallF) : curF [(0, .s)] (fun args h => denF (C_store_may k D) k r_store_may [(2, .b)] [none] args h) = store_may k D := by kernel_rfl
theorem ok_store_may {D : CallF} (hD : CSound Try.prog 0 D) (k : Nat) : EntOk Try.prog 0 (e_store_may k D) :=
 entOf_ok2 (mkC_sound hD (EntsOk.none)) Try.func127 rfl q_store_may rfl (t_store_may k D)
end Gs
namespace Gs
open Go Gx Go.Proofs
set_option maxRecDepth 100000
noncomputable def C_store_fits (k : Nat) (D : CallF) : CallF := mkC D [e_store_may k D]
noncomputable def store_fits (k : Nat) (D : CallF) (name_0 : ByteArray) (data_1 : ByteArray) (h : AHeap) : Option ((Int) × AHeap) :=
 (store_may k D name_0 h).bind fun r1 =>
 (if (!r1.1) = true then
 some (3, r1.2)
 else
 (if (decide ((data_1.size : Int) > 131072)) = true then
 some (2, r1.2)
 else
 some (0, r1.2)))
noncomputable def r_store_fits : RCode := an (.n) (rOf Try.prog 0 Try.f99)
noncomputable def e_store_fits (k : Nat) (D : CallF) : Ent := entOf 99 [(0, .s), (1, .s)] [(4, .i .i64)] (store_fits k D)
theorem q_store_fits : (Try.f99.body).bind (rcodeOf Try.prog 0 Try.f99.ntmps) = some (strip r_store_fits) := by kernel_rfl
theorem t_store_fits (k : Nat) (D : CallF) : curF [(0, .s), (1, .s)] (fun args h => denF (C_store_fits k D) k r_store_fits [(4, .i .i64)] [none] args h) = store_fits k D := by kernel_rfl
theorem ok_store_fits {D : CallF} (hD : CSound Try.prog 0 D) (k : Nat) : EntOk Try.prog 0 (e_store_fits k D) :=
 entOf_ok2 (mkC_sound hD (EntsOk.more (ok_store_may hD k) (EntsOk.none))) Try.func99 rfl q_store_fits rfl (t_store_fits k D)
end Gs
namespace Gs
open Go Gx Go.Proofs
set_option maxRecDepth 100000
noncomputable def C_store_Store_room (_k : Nat) (D : CallF) : CallF := mkC D []
noncomputable def store_Store_room (_k : Nat) (_D : CallF) (s_0 : Option Addr) (name_1 : ByteArray) (h : AHeap) : Option ((Int) × AHeap) :=
 (s_0).bind fun p1 =>
 (ldM (⟨p1.block, p1.off + 4, none⟩ : Addr) h).bind fun x2 =>
 (lookE decS (.string ⟨#[]⟩) h x2 (.string name_1)).bind fun p3 =>
 (if p3.2 = true then
 let t4 : Int := (IntKind.wrap .i64 ((name_1.size : Int) + (p3.1.size : Int)))
 some (t4, h)
 else
 some (0, h))
noncomputable def r_store_Store_room : RCode := an (.n) (rOf Try.prog 0 Try.f100)
noncomputable def e_store_Store_room (k : Nat) (D : CallF) : Ent := entOf 100 [(0, .p), (1, .s)] [(4, .i .i64)] (store_Store_room k D)
theorem q_store_Store_room : (Try.f100.body).bind (rcodeOf Try.prog 0 Try.f100.ntmps) = some (strip r_store_Store_room) := by kernel_rfl
theorem t_store_Store_room (k : Nat) (D : CallF) : curF [(0, .p), (1, .s)] (fun args h => denF (C_store_Store_room k D) k r_store_Store_room [(4, .i .i64)] [none] args h) = store_Store_room k D := by kernel_rfl
theorem ok_store_Store_room {D : CallF} (hD : CSound Try.prog 0 D) (k : Nat) : EntOk Try.prog 0 (e_store_Store_room k D) :=
 entOf_ok2 (mkC_sound hD (EntsOk.none)) Try.func100 rfl q_store_Store_room rfl (t_store_Store_room k D)
end Gs
namespace Gs
open Go Gx Go.Proofs
set_option maxRecDepth 100000
noncomputable def C_store_Store_lay (k : Nat) (D : CallF) : CallF := mkC D [e_store_Store_room k D]
noncomputable def store_Store_lay (k : Nat) (D : CallF) (s_0 : Option Addr) (name_1 : ByteArray) (data_2 : ByteArray) (h : AHeap) : Option ((Unit) × AHeap) :=
 (store_Store_room k D s_0 name_1 h).bind fun r1 =>
 (s_0).bind fun p2 =>
 (ldI .i64 (⟨p2.block, p2.off + 1, none⟩ : Addr) r1.2).bind fun x3 =>
 guardP (SameW [h] (fun H5 => (ldI .i64 (⟨p2.block, p2.off + 1, none⟩ : Addr) H5).bind fun y4 => some (.int .i64 y4)) (.int .i64 x3)) (
 let t6 : Int := (IntKind.wrap .i64 ((name_1.size : Int) + (data_2.size : Int)))
 (s_0).bind fun p7 =>
 (st1 (⟨p7.block, p7.off + 1, none⟩ : Addr) (.int .i64 (IntKind.wrap .i64 (x3 + (IntKind.wrap .i64 (t6 - r1.1))))) r1.2).bind fun h8 =>
 (s_0).bind fun p9 =>
 (ldM (⟨p9.block, p9.off + 4, none⟩ : Addr) h8).bind fun x10 =>
 (x10).bind fun r12 =>
 (updE h8 r12 (.string name_1) (.string data_2)).bind fun h11 =>
 some ((), h11))
noncomputable def r_store_Store_lay : RCode := an (.n) (rOf Try.prog 0 Try.f101)
noncomputable def e_store_Store_lay (k : Nat) (D : CallF) : Ent := entOf 101 [(0, .p), (1, .s), (2, .s)] [] (store_Store_lay k D)
theorem q_store_Store_lay : (Try.f101.body).bind (rcodeOf Try.prog 0 Try.f101.ntmps) = some (strip r_store_Store_lay) := by kernel_rfl
theorem t_store_Store_lay (k : Nat) (D : CallF) : curF [(0, .p), (1, .s), (2, .s)] (fun args h => denF (C_store_Store_lay k D) k r_store_Store_lay [] [] args h) = store_Store_lay k D := by kernel_rfl
theorem ok_store_Store_lay {D : CallF} (hD : CSound Try.prog 0 D) (k : Nat) : EntOk Try.prog 0 (e_store_Store_lay k D) :=
 entOf_ok2 (mkC_sound hD (EntsOk.more (ok_store_Store_room hD k) (EntsOk.none))) Try.func101 rfl q_store_Store_lay rfl (t_store_Store_lay k D)
end Gs
namespace Gs
open Go Gx Go.Proofs
set_option maxRecDepth 100000
noncomputable def C_store_Store_put (k : Nat) (D : CallF) : CallF := mkC D [e_store_fits k D, e_store_Store_room k D, e_store_Store_lay k D]
noncomputable def store_Store_put (k : Nat) (D : CallF) (s_0 : Option Addr) (name_1 : ByteArray) (data_2 : ByteArray) (h : AHeap) : Option ((Int) × AHeap) :=
 (store_fits k D name_1 data_2 h).bind fun r1 =>
 (if (r1.1 != 0) = true then
 some (r1.1, r1.2)
 else
 (store_Store_room k D s_0 name_1 r1.2).bind fun r2 =>
 (s_0).bind fun p3 =>
 (ldI .i64 (⟨p3.block, p3.off + 1, none⟩ : Addr) r2.2).bind fun x4 =>
 guardP (SameW [r1.2] (fun H6 => (ldI .i64 (⟨p3.block, p3.off + 1, none⟩ : Addr) H6).bind fun y5 => some (.int .i64 y5)) (.int .i64 x4)) (
 let t7 : Int := (IntKind.wrap .i64 ((IntKind.wrap .i64 (x4 - r2.1)) + (name_1.size : Int)))
 (s_0).bind fun p8 =>
 (ldI .i64 (⟨p8.block, p8.off + 0, none⟩ : Addr) r2.2).bind fun x9 =>
 guardP (SameW [r1.2] (fun H11 => (ldI .i64 (⟨p8.block, p8.off + 0, none⟩ : Addr) H11).bind fun y10 => some (.int .i64 y10)) (.int .i64 x9)) (
 (if (decide ((IntKind.wrap .i64 (t7 + (data_2.size : Int))) > x9)) = true then
 some (71, r2.2)
 else
 (store_Store_lay k D s_0 name_1 data_2 r2.2).bind fun r12 =>
 some (0, r12.2)))))
noncomputable def r_store_Store_put : RCode := an (.n) (rOf Try.prog 0 Try.f51)
noncomputable def e_store_Store_put (k : Nat) (D : CallF) : Ent := entOf 51 [(0, .p), (1, .s), (2, .s)] [(6, .i .i64)] (store_Store_put k D)
theorem q_store_Store_put : (Try.f51.body).bind (rcodeOf Try.prog 0 Try.f51.ntmps) = some (strip r_store_Store_put) := by kernel_rfl
theorem t_store_Store_put (k : Nat) (D : CallF) : curF [(0, .p), (1, .s), (2, .s)] (fun args h => denF (C_store_Store_put k D) k r_store_Store_put [(6, .i .i64)] [none] args h) = store_Store_put k D := by kernel_rfl
theorem ok_store_Store_put {D : CallF} (hD : CSound Try.prog 0 D) (k : Nat) : EntOk Try.prog 0 (e_store_Store_put k D) :=
 entOf_ok2 (mkC_sound hD (EntsOk.more (ok_store_fits hD k) (EntsOk.more (ok_store_Store_room hD k) (EntsOk.more (ok_store_Store_lay hD k) (EntsOk.none))))) Try.func51 rfl q_store_Store_put rfl (t_store_Store_put k D)
end Gs
namespace Gs
open Go Gx Go.Proofs
set_option maxRecDepth 100000
noncomputable def C_maps_Keys_map_string_string_string_string (_k : Nat) (D : CallF) : CallF := mkC D []
noncomputable def maps_Keys_map_string_string_string_string (_k : Nat) (_D : CallF) (m_0 : Option Nat) (h : AHeap) : Option ((Value) × AHeap) :=
 let h1 := AHeap.new h (.cells [.map m_0] 99 true 0)
 some ((.func (.func 105) ⟨[]⟩ ⟨[.pointer (some (⟨h.next, 0, none⟩ : Addr))]⟩), h1)
noncomputable def r_maps_Keys_map_string_string_string_string : RCode := an (.n) (rOf Try.prog 0 Try.f55)
noncomputable def e_maps_Keys_map_string_string_string_string (k : Nat) (D : CallF) : Ent := entOf 55 [(0, .m)] [(2, .v)] (maps_Keys_map_string_string_string_string k D)
theorem q_maps_Keys_map_string_string_string_string : (Try.f55.body).bind (rcodeOf Try.prog 0 Try.f55.ntmps) = some (strip r_maps_Keys_map_string_string_string_string) := by kernel_rfl
theorem t_maps_Keys_map_string_string_string_string (k : Nat) (D : CallF) : curF [(0, .m)] (fun args h => denF (C_maps_Keys_map_string_string_string_string k D) k r_maps_Keys_map_string_string_string_string [(2, .v)] [none] args h) = maps_Keys_map_string_string_string_string k D := by kernel_rfl
theorem ok_maps_Keys_map_string_string_string_string {D : CallF} (hD : CSound Try.prog 0 D) (k : Nat) : EntOk Try.prog 0 (e_maps_Keys_map_string_string_string_string k D) :=
 entOf_ok2 (mkC_sound hD (EntsOk.none)) Try.func55 rfl q_maps_Keys_map_string_string_string_string rfl (t_maps_Keys_map_string_string_string_string k D)
end Gs
namespace Go.Proofs
open Go.Shelf Go.RowKit Go.Maps Go.Sort
def Try.keysA_ren : Go.Shelf.Ren := ⟨fun | 7 => 55 | 10 => 105 | n => n, fun | 23 => 99 | 26 => 9 | 3 => 9 | 28 => 112 | 0 => 0 | 27 => 111 | 33 => 157 | 4 => 4 | n => n, fun | n => n⟩
theorem Try.keysA : Go.Proofs.SlLaysZ.n7 Try.prog Try.keysA_ren := {
 mixed := by kernel_rfl
 f7 := ⟨Try.f55.name, by decide, Try.func55.trans (congrArg some (by kernel_rfl))⟩
 f10 := ⟨Try.f105.name, by decide, Try.func105.trans (congrArg some (by kernel_rfl))⟩
 t0 := Try.underlying0
 a0 := Try.isAgg0
 z0 := Try.sizeOf0
 v0 := Try.zeroValue0
 t4 := Try.underlying4
 a4 := Try.isAgg4
 z4 := Try.sizeOf4
 v4 := Try.zeroValue4
 t23 := Try.underlying99
 a23 := Try.isAgg99
 z23 := Try.sizeOf99
 v23 := Try.zeroValue99
 t26 := Try.underlying9
 a26 := Try.isAgg9
 z26 := Try.sizeOf9
 v26 := Try.zeroValue9
 t27 := Try.underlying111
 a27 := Try.isAgg111
 z27 := Try.sizeOf111
 v27 := Try.zeroValue111
 t28 := Try.underlying112
 a28 := Try.isAgg112
 z28 := Try.sizeOf112
 v28 := Try.zeroValue112
 t33 := Try.underlying157
 a33 := Try.isAgg157
 z33 := Try.sizeOf157
 v33 := Try.zeroValue157 }
def Try.sortedA_ren : Go.Shelf.Ren := ⟨fun | 6 => 54 | 8 => 103 | 9 => 104 | 11 => 129 | 13 => 131 | 12 => 130 | 23 => 145 | 24 => 146 | 14 => 136 | 15 => 137 | 16 => 138 | 17 => 139 | 18 => 140 | 19 => 141 | 20 => 142 | 21 => 143 | 22 => 144 | 25 => 147 | 26 => 148 | 27 => 149 | 28 => 150 | 29 => 151 | 30 => 152 | 31 => 153 | n => n, fun | 26 => 9 | 28 => 112 | 24 => 22 | 0 => 0 | 3 => 3 | 37 => 173 | 48 => 186 | 50 => 188 | 4 => 4 | 40 => 180 | 39 => 179 | 45 => 121 | 5 => 5 | 9 => 9 | 51 => 189 | 55 => 193 | 57 => 195 | 58 => 196 | 33 => 157 | n => n, fun | n => n⟩
theorem Try.sortedA : Go.Proofs.SlLaysZ.n6 Try.prog Try.sortedA_ren := {
 mixed := by kernel_rfl
 f6 := ⟨Try.f54.name, by decide, Try.func54.trans (congrArg some (by kernel_rfl))⟩
 f8 := ⟨Try.f103.name, by decide, Try.func103.trans (congrArg some (by kernel_rfl))⟩
 f11 := ⟨Try.f129.name, by decide, Try.func129.trans (congrArg some (by kernel_rfl))⟩
 t0 := Try.underlying0
 a0 := Try.isAgg0
 z0 := Try.sizeOf0
 v0 := Try.zeroValue0
 t24 := Try.underlying22
 a24 := Try.isAgg22
 z24 := Try.sizeOf22
 v24 := Try.zeroValue22
 t26 := Try.underlying9
 a26 := Try.isAgg9
 z26 := Try.sizeOf9
 v26 := Try.zeroValue9
 t28 := Try.underlying112
 a28 := Try.isAgg112
 z28 := Try.sizeOf112
 v28 := Try.zeroValue112
 i26 := by kernel_rfl }
def Try.sortA_ren : Go.Shelf.Ren := ⟨fun | 6 => 104 | 8 => 131 | 9 => 130 | 19 => 145 | 20 => 146 | 21 => 136 | 22 => 137 | 23 => 138 | 24 => 139 | 25 => 140 | 26 => 141 | 27 => 142 | 28 => 143 | 29 => 144 | 36 => 147 | 31 => 148 | 32 => 149 | 37 => 150 | 38 => 151 | 39 => 152 | 41 => 153 | n => n, fun | 27 => 22 | 29 => 9 | 3 => 3 | 32 => 173 | 26 => 22 | 0 => 0 | 44 => 186 | 46 => 188 | 4 => 4 | 36 => 180 | 35 => 179 | 41 => 121 | 5 => 5 | 9 => 9 | 53 => 189 | 57 => 193 | 63 => 195 | 64 => 196 | n => n, fun | n => n⟩
theorem Try.sortA : Go.Proofs.SlLaysM.n6 Try.prog Try.sortA_ren := {
 mixed := by kernel_rfl
 f6 := ⟨Try.f104.name, by decide, Try.func104.trans (congrArg some (by kernel_rfl))⟩
 f8 := Try.func131.trans (congrArg some (by kernel_rfl))
 f9 := ⟨Try.f130.name, by decide, Try.func130.trans (congrArg some (by kernel_rfl))⟩
 f19 := Try.func145.trans (congrArg some (by kernel_rfl))
 f20 := Try.func146.trans (congrArg some (by kernel_rfl))
 f21 := ⟨Try.f136.name, by decide, Try.func136.trans (congrArg some (by kernel_rfl))⟩
 f22 := ⟨Try.f137.name, by decide, Try.func137.trans (congrArg some (by kernel_rfl))⟩
 f23 := ⟨Try.f138.name, by decide, Try.func138.trans (congrArg some (by kernel_rfl))⟩
 f24 := ⟨Try.f139.name, by decide, Try.func139.trans (congrArg some (by kernel_rfl))⟩
 f25 := ⟨Try.f140.name, by decide, Try.func140.trans (congrArg some (by kernel_rfl))⟩
 f26 := ⟨Try.f141.name, by decide, Try.func141.trans (congrArg some (by kernel_rfl))⟩
 f27 := ⟨Try.f142.name, by decide, Try.func142.trans (congrArg some (by kernel_rfl))⟩
 f28 := ⟨Try.f143.name, by decide, Try.func143.trans (congrArg some (by kernel_rfl))⟩
 f29 := ⟨Try.f144.name, by decide, Try.func144.trans (congrArg some (by kernel_rfl))⟩
 f31 := Try.func148.trans (congrArg some (by kernel_rfl))
 f32 := Try.func149.trans (congrArg some (by kernel_rfl))
 f36 := ⟨Try.f147.name, by decide, Try.func147.trans (congrArg some (by kernel_rfl))⟩
 f37 := ⟨Try.f150.name, by decide, Try.func150.trans (congrArg some (by kernel_rfl))⟩
 f38 := ⟨Try.f151.name, by decide, Try.func151.trans (congrArg some (by kernel_rfl))⟩
 f39 := ⟨Try.f152.name, by decide, Try.func152.trans (congrArg some (by kernel_rfl))⟩
 f41 := ⟨Try.f153.name, by decide, Try.func153.trans (congrArg some (by kernel_rfl))⟩
 t0 := Try.underlying0
 a0 := Try.isAgg0
 z0 := Try.sizeOf0
 v0 := Try.zeroValue0
 t3 := Try.underlying3
 a3 := Try.isAgg3
 z3 := Try.sizeOf3
 v3 := Try.zeroValue3
 t4 := Try.underlying4
 a4 := Try.isAgg4
 z4 := Try.sizeOf4
 v4 := Try.zeroValue4
 t5 := Try.underlying5
 a5 := Try.isAgg5
 z5 := Try.sizeOf5
 v5 := Try.zeroValue5
 t9 := Try.underlying9
 a9 := Try.isAgg9
 z9 := Try.sizeOf9
 v9 := Try.zeroValue9
 t26 := Try.underlying22
 a26 := Try.isAgg22
 z26 := Try.sizeOf22
 v26 := Try.zeroValue22
 t27 := Try.underlying22
 a27 := Try.isAgg22
 z27 := Try.sizeOf22
 v27 := Try.zeroValue22
 t29 := Try.underlying9
 a29 := Try.isAgg9
 z29 := Try.sizeOf9
 v29 := Try.zeroValue9
 t32 := Try.underlying173
 a32 := Try.isAgg173
 z32 := Try.sizeOf173
 v32 := Try.zeroValue173
 t35 := Try.underlying179
 a35 := Try.isAgg179
 z35 := Try.sizeOf179
 v35 := Try.zeroValue179
 t36 := Try.underlying180
 a36 := Try.isAgg180
 z36 := Try.sizeOf180
 v36 := Try.zeroValue180
 t41 := Try.underlying121
 a41 := Try.isAgg121
 z41 := Try.sizeOf121
 v41 := Try.zeroValue121
 t44 := Try.underlying186
 a44 := Try.isAgg186
 z44 := Try.sizeOf186
 v44 := Try.zeroValue186
 t46 := Try.underlying188
 a46 := Try.isAgg188
 z46 := Try.sizeOf188
 v46 := Try.zeroValue188
 t53 := Try.underlying189
 a53 := Try.isAgg189
 z53 := Try.sizeOf189
 v53 := Try.zeroValue189
 t57 := Try.underlying193
 a57 := Try.isAgg193
 z57 := Try.sizeOf193
 v57 := Try.zeroValue193
 t63 := Try.underlying195
 a63 := Try.isAgg195
 z63 := Try.sizeOf195
 v63 := Try.zeroValue195
 t64 := Try.underlying196
 a64 := Try.isAgg196
 z64 := Try.sizeOf196
 v64 := Try.zeroValue196 }
theorem Try.sortsA (m : Nat) : AnyZ.SortsIn Try.prog Try.sortedA_ren Fence.wide m :=
 ⟨fun blk off cap ss W hH hblk hsz => callsIn_wide.2 (AnyM.slices_Sort_string Try.sortA blk off cap ss W hH hblk hsz),
  fun p cap W => callsIn_wide.2 (AnyM.slices_Sort_string_none Try.sortA p cap W)⟩
theorem Try.sortedC : Gx.SortedC Try.prog 54 105 9 :=
 Gx.sortedC_of Try.keysA Try.sortedA (Try.sortsA) (enters_of Try.func104 (by kernel_rfl) rfl) (enters_of Try.func105 (by kernel_rfl) rfl)
end Go.Proofs
namespace Gs
open Go Gx Go.Proofs
noncomputable def e_slices_Sorted_string (_k : Nat) (_D : CallF) : Ent := eSorted 54 105 9
theorem ok_slices_Sorted_string {D : CallF} (_hD : CSound Try.prog 0 D) (k : Nat) : EntOk Try.prog 0 (e_slices_Sorted_string k D) :=
 sorted_ok (c := _) Try.func54 rfl rfl Try.sortedC
end Gs
namespace Gs
open Go Gx Go.Proofs
set_option maxRecDepth 100000
noncomputable def C_store_Store_Names (k : Nat) (D : CallF) : CallF := mkC D [e_maps_Keys_map_string_string_string_string k D, e_slices_Sorted_string k D]
noncomputable def store_Store_Names (k : Nat) (D : CallF) (s_0 : Option Addr) (h : AHeap) : Option ((Slc) × AHeap) :=
 (s_0).bind fun p1 =>
 (ldM (⟨p1.block, p1.off + 4, none⟩ : Addr) h).bind fun x2 =>
 (maps_Keys_map_string_string_string_string k D x2 h).bind fun r3 =>
 (sortedA 105 9 [r3.1] r3.2).bind fun r4 =>
 some (r4.1, r4.2)
noncomputable def r_store_Store_Names : RCode := an (.n) (rOf Try.prog 0 Try.f15)
noncomputable def e_store_Store_Names (k : Nat) (D : CallF) : Ent := entOf 15 [(0, .p)] [(2, .l)] (store_Store_Names k D)
theorem q_store_Store_Names : (Try.f15.body).bind (rcodeOf Try.prog 0 Try.f15.ntmps) = some (strip r_store_Store_Names) := by kernel_rfl
theorem t_store_Store_Names (k : Nat) (D : CallF) : curF [(0, .p)] (fun args h => denF (C_store_Store_Names k D) k r_store_Store_Names [(2, .l)] [none] args h) = store_Store_Names k D := by kernel_rfl
theorem ok_store_Store_Names {D : CallF} (hD : CSound Try.prog 0 D) (k : Nat) : EntOk Try.prog 0 (e_store_Store_Names k D) :=
 entOf_ok2 (mkC_sound hD (EntsOk.more (ok_maps_Keys_map_string_string_string_string hD k) (EntsOk.more (ok_slices_Sorted_string hD k) (EntsOk.none)))) Try.func15 rfl q_store_Store_Names rfl (t_store_Store_Names k D)
end Gs
namespace Gs
open Go Gx Go.Proofs
set_option maxRecDepth 100000
noncomputable def C_internal_stringslite_HasPrefix (_k : Nat) (D : CallF) : CallF := mkC D []
noncomputable def internal_stringslite_HasPrefix (_k : Nat) (_D : CallF) (s_0 : ByteArray) (prefix_1 : ByteArray) (h : AHeap) : Option ((Bool) × AHeap) :=
 (if (decide ((s_0.size : Int) ≥ (prefix_1.size : Int))) = true then
 (Gx.subS s_0 none (some (prefix_1.size : Int))).bind fun s1 =>
 some ((s1 == prefix_1), h)
 else
 some (false, h))
noncomputable def r_internal_stringslite_HasPrefix : RCode := an (.n) (rOf Try.prog 0 Try.f128)
noncomputable def e_internal_stringslite_HasPrefix (k : Nat) (D : CallF) : Ent := entOf 128 [(0, .s), (1, .s)] [(4, .b)] (internal_stringslite_HasPrefix k D)
theorem q_internal_stringslite_HasPrefix : (Try.f128.body).bind (rcodeOf Try.prog 0 Try.f128.ntmps) = some (strip r_internal_stringslite_HasPrefix) := by kernel_rfl
theorem t_internal_stringslite_HasPrefix (k : Nat) (D : CallF) : curF [(0, .s), (1, .s)] (fun args h => denF (C_internal_stringslite_HasPrefix k D) k r_internal_stringslite_HasPrefix [(4, .b)] [none] args h) = internal_stringslite_HasPrefix k D := by kernel_rfl
theorem ok_internal_stringslite_HasPrefix {D : CallF} (hD : CSound Try.prog 0 D) (k : Nat) : EntOk Try.prog 0 (e_internal_stringslite_HasPrefix k D) :=
 entOf_ok2 (mkC_sound hD (EntsOk.none)) Try.func128 rfl q_internal_stringslite_HasPrefix rfl (t_internal_stringslite_HasPrefix k D)
end Gs
namespace Gs
open Go Gx Go.Proofs
set_option maxRecDepth 100000
noncomputable def C_strings_HasPrefix (k : Nat) (D : CallF) : CallF := mkC D [e_internal_stringslite_HasPrefix k D]
noncomputable def strings_HasPrefix (k : Nat) (D : CallF) (s_0 : ByteArray) (prefix_1 : ByteArray) (h : AHeap) : Option ((Bool) × AHeap) :=
 (internal_stringslite_HasPrefix k D s_0 prefix_1 h).bind fun r1 =>
 some (r1.1, r1.2)
noncomputable def r_strings_HasPrefix : RCode := an (.n) (rOf Try.prog 0 Try.f102)
noncomputable def e_strings_HasPrefix (k : Nat) (D : CallF) : Ent := entOf 102 [(0, .s), (1, .s)] [(4, .b)] (strings_HasPrefix k D)
theorem q_strings_HasPrefix : (Try.f102.body).bind (rcodeOf Try.prog 0 Try.f102.ntmps) = some (strip r_strings_HasPrefix) := by kernel_rfl
theorem t_strings_HasPrefix (k : Nat) (D : CallF) : curF [(0, .s), (1, .s)] (fun args h => denF (C_strings_HasPrefix k D) k r_strings_HasPrefix [(4, .b)] [none] args h) = strings_HasPrefix k D := by kernel_rfl
theorem ok_strings_HasPrefix {D : CallF} (hD : CSound Try.prog 0 D) (k : Nat) : EntOk Try.prog 0 (e_strings_HasPrefix k D) :=
 entOf_ok2 (mkC_sound hD (EntsOk.more (ok_internal_stringslite_HasPrefix hD k) (EntsOk.none))) Try.func102 rfl q_strings_HasPrefix rfl (t_strings_HasPrefix k D)
end Gs
namespace Gs
open Go Gx Go.Proofs
set_option maxRecDepth 100000
noncomputable def C_store_Store_list (k : Nat) (D : CallF) : CallF := mkC D [e_store_Store_Names k D, e_strings_HasPrefix k D]
noncomputable def store_Store_list_l0b (k : Nat) (D : CallF) (j3 : Slc → AHeap → Option ((Slc) × AHeap)) (rec11 : ByteArray → Slc → Slc → Int → Int → AHeap → Option ((Slc) × AHeap)) (begin5 : ByteArray) (out6 : Slc) (y7 : Slc) (y8 : Int) (y9 : Int) (h10 : AHeap) : Option ((Slc) × AHeap) :=
 (if (decide (y9 < y8)) = true then
 joinK (fun (begin12 : ByteArray) (out13 : Slc) (y14 : Slc) (y15 : Int) (y16 : Int) (h17 : AHeap) =>
 rec11 begin12 out13 y14 y15 (IntKind.wrap .i64 (y16 + 1)) h17) fun j18 =>
 (Gx.idxL 1 y7 y9).bind fun q19 =>
 (ldS q19 h10).bind fun x20 =>
 (strings_HasPrefix k D x20 begin5 h10).bind fun r21 =>
 (if r21.1 = true then
 let h22 := AHeap.new r21.2 (.cells [.string x20] 9 true 0)
 (rdS 1 (⟨(some ⟨r21.2.next, 0, some 0⟩), 1, 1⟩ : Slc) h22).bind fun n24 =>
 (appendA 1 16 9 h22 out6 n24 1).bind fun r23 =>
 j18 begin5 r23.1 y7 y8 y9 r23.2
 else
 j18 begin5 out6 y7 y8 y9 r21.2)
 else
 j3 out6 h10)
noncomputable def store_Store_list_l0 (k : Nat) (D : CallF) (j3 : Slc → AHeap → Option ((Slc) × AHeap)) : ByteArray → Slc → Slc → Int → Int → AHeap → Option ((Slc) × AHeap) :=
 iterK (α := ByteArray → Slc → Slc → Int → Int → AHeap → Option ((Slc) × AHeap)) (fun _ _ _ _ _ _ => none) k (store_Store_list_l0b k D j3)
noncomputable def store_Store_list (k : Nat) (D : CallF) (s_0 : Option Addr) (begin_1 : ByteArray) (h : AHeap) : Option ((Slc) × AHeap) :=
 joinK (fun (out1 : Slc) (h2 : AHeap) =>
 some (out1, h2)) fun j3 =>
 (store_Store_Names k D s_0 h).bind fun r4 =>
 store_Store_list_l0 k D j3 begin_1 (⟨none, 0, 0⟩ : Slc) r4.1 (r4.1.len : Int) 0 r4.2
noncomputable def r_store_Store_list : RCode := an (.s .n (.s .n (.s (.j [(5, .l)] (.s .n (.b (.l [(1, .s), (5, .l), (9, .l), (10, .i .i64), (11, .i .i64)] (.s .n (.s .n (.s (.j [(1, .s), (5, .l), (9, .l), (10, .i .i64), (11, .i .i64)] .n) .n))))))) .n))) (rOf Try.prog 0 Try.f52)
noncomputable def e_store_Store_list (k : Nat) (D : CallF) : Ent := entOf 52 [(0, .p), (1, .s)] [(4, .l)] (store_Store_list k D)
theorem q_store_Store_list : (Try.f52.body).bind (rcodeOf Try.prog 0 Try.f52.ntmps) = some (strip r_store_Store_list) := by kernel_rfl
theorem t_store_Store_list (k : Nat) (D : CallF) : curF [(0, .p), (1, .s)] (fun args h => denF (C_store_Store_list k D) k r_store_Store_list [(4, .l)] [none] args h) = store_Store_list k D := by kernel_rfl
theorem ok_store_Store_list {D : CallF} (hD : CSound Try.prog 0 D) (k : Nat) : EntOk Try.prog 0 (e_store_Store_list k D) :=
 entOf_ok2 (mkC_sound hD (EntsOk.more (ok_store_Store_Names hD k) (EntsOk.more (ok_strings_HasPrefix hD k) (EntsOk.none)))) Try.func52 rfl q_store_Store_list rfl (t_store_Store_list k D)
end Gs
namespace Gs
open Go Gx Go.Proofs
set_option maxRecDepth 100000
noncomputable def C_store_Store_del (k : Nat) (D : CallF) : CallF := mkC D [e_store_Store_room k D]
noncomputable def store_Store_del (k : Nat) (D : CallF) (s_0 : Option Addr) (name_1 : ByteArray) (h : AHeap) : Option ((Int) × AHeap) :=
 (s_0).bind fun p1 =>
 (ldM (⟨p1.block, p1.off + 4, none⟩ : Addr) h).bind fun x2 =>
 (lookE decS (.string ⟨#[]⟩) h x2 (.string name_1)).bind fun p3 =>
 (if (!p3.2) = true then
 some (5, h)
 else
 (store_Store_room k D s_0 name_1 h).bind fun r4 =>
 (s_0).bind fun p5 =>
 (ldI .i64 (⟨p5.block, p5.off + 1, none⟩ : Addr) r4.2).bind fun x6 =>
 guardP (SameW [h] (fun H8 => (ldI .i64 (⟨p5.block, p5.off + 1, none⟩ : Addr) H8).bind fun y7 => some (.int .i64 y7)) (.int .i64 x6)) (
 (s_0).bind fun p9 =>
 (st1 (⟨p9.block, p9.off + 1, none⟩ : Addr) (.int .i64 (IntKind.wrap .i64 (x6 - r4.1))) r4.2).bind fun h10 =>
 (s_0).bind fun p11 =>
 (ldM (⟨p11.block, p11.off + 4, none⟩ : Addr) h10).bind fun x12 =>
 (delM h10 x12 (.string name_1)).bind fun h13 =>
 some (0, h13)))
noncomputable def r_store_Store_del : RCode := an (.n) (rOf Try.prog 0 Try.f53)
noncomputable def e_store_Store_del (k : Nat) (D : CallF) : Ent := entOf 53 [(0, .p), (1, .s)] [(4, .i .i64)] (store_Store_del k D)
theorem q_store_Store_del : (Try.f53.body).bind (rcodeOf Try.prog 0 Try.f53.ntmps) = some (strip r_store_Store_del) := by kernel_rfl
theorem t_store_Store_del (k : Nat) (D : CallF) : curF [(0, .p), (1, .s)] (fun args h => denF (C_store_Store_del k D) k r_store_Store_del [(4, .i .i64)] [none] args h) = store_Store_del k D := by kernel_rfl
theorem ok_store_Store_del {D : CallF} (hD : CSound Try.prog 0 D) (k : Nat) : EntOk Try.prog 0 (e_store_Store_del k D) :=
 entOf_ok2 (mkC_sound hD (EntsOk.more (ok_store_Store_room hD k) (EntsOk.none))) Try.func53 rfl q_store_Store_del rfl (t_store_Store_del k D)
end Gs
namespace Gs
open Go Gx Go.Proofs
set_option maxRecDepth 100000
noncomputable def C_store_Store_Do (k : Nat) (D : CallF) : CallF := mkC D [e_sync_atomic_Int64_Add k D, e_store_Store_put k D, e_store_Store_list k D, e_store_Store_del k D]
noncomputable def store_Store_Do (k : Nat) (D : CallF) (s_0 : Option Addr) (r_1 : Int × Int × ByteArray × ByteArray) (h : AHeap) : Option (((Int × ByteArray × Slc)) × AHeap) :=
 let h1 := AHeap.new h (.cells [.int .i64 r_1.1, .int .i64 r_1.2.1, .string r_1.2.2.1, .string r_1.2.2.2] 32 true 0)
 let h2 := AHeap.new h1 (.cells [.int .i64 0, .string ⟨#[]⟩, .slice none 0 0] 29 true 0)
 (s_0).bind fun p3 =>
 (sync_atomic_Int64_Add k D (some (⟨p3.block, p3.off + 5, none⟩ : Addr)) 1 h2).bind fun r4 =>
 (s_0).bind fun p5 =>
 (ldB (⟨p5.block, p5.off + 3, none⟩ : Addr) r4.2).bind fun x6 =>
 (if x6 = true then
 (stL 3 (⟨h1.next, 0, none⟩ : Addr) ([.int .i64 70, .string (⟨#[]⟩ : ByteArray), .slice none 0 0]) r4.2).bind fun h7 =>
 (ldA 3 (⟨h1.next, 0, none⟩ : Addr) h7).bind fun l8 =>
 (decC [.i .i64, .s, .l] l8).bind fun x9 =>
 some ((x9.1, x9.2.1, x9.2.2), h7)
 else
 (s_0).bind fun p10 =>
 (ldI .i64 (⟨p10.block, p10.off + 2, none⟩ : Addr) r4.2).bind fun x11 =>
 (if (decide (x11 > 0)) = true then
 (s_0).bind fun p12 =>
 (ldI .i64 (⟨p12.block, p12.off + 2, none⟩ : Addr) r4.2).bind fun x13 =>
 (s_0).bind fun p14 =>
 (st1 (⟨p14.block, p14.off + 2, none⟩ : Addr) (.int .i64 (IntKind.wrap .i64 (x13 - 1))) r4.2).bind fun h15 =>
 (stL 3 (⟨h1.next, 0, none⟩ : Addr) ([.int .i64 72, .string (⟨#[]⟩ : ByteArray), .slice none 0 0]) h15).bind fun h16 =>
 (ldA 3 (⟨h1.next, 0, none⟩ : Addr) h16).bind fun l17 =>
 (decC [.i .i64, .s, .l] l17).bind fun x18 =>
 some ((x18.1, x18.2.1, x18.2.2), h16)
 else
 (ldI .i64 (⟨h.next, 1, none⟩ : Addr) r4.2).bind fun x19 =>
 (if (x19 == 1) = true then
 (ldS (⟨h.next, 2, none⟩ : Addr) r4.2).bind fun x20 =>
 (ldS (⟨h.next, 3, none⟩ : Addr) r4.2).bind fun x21 =>
 (store_Store_put k D s_0 x20 x21 r4.2).bind fun r22 =>
 (stL 3 (⟨h1.next, 0, none⟩ : Addr) ([.int .i64 r22.1, .string (⟨#[]⟩ : ByteArray), .slice none 0 0]) r22.2).bind fun h23 =>
 (ldA 3 (⟨h1.next, 0, none⟩ : Addr) h23).bind fun l24 =>
 (decC [.i .i64, .s, .l] l24).bind fun x25 =>
 some ((x25.1, x25.2.1, x25.2.2), h23)
 else
 (if (x19 == 2) = true then
 (s_0).bind fun p26 =>
 (ldM (⟨p26.block, p26.off + 4, none⟩ : Addr) r4.2).bind fun x27 =>
 (ldS (⟨h.next, 2, none⟩ : Addr) r4.2).bind fun x28 =>
 (lookE decS (.string ⟨#[]⟩) r4.2 x27 (.string x28)).bind fun p29 =>
 (if (!p29.2) = true then
 (stL 3 (⟨h1.next, 0, none⟩ : Addr) ([.int .i64 5, .string (⟨#[]⟩ : ByteArray), .slice none 0 0]) r4.2).bind fun h30 =>
 (ldA 3 (⟨h1.next, 0, none⟩ : Addr) h30).bind fun l31 =>
 (decC [.i .i64, .s, .l] l31).bind fun x32 =>
 some ((x32.1, x32.2.1, x32.2.2), h30)
 else
 (stL 3 (⟨h1.next, 0, none⟩ : Addr) ([.int .i64 0, .string p29.1, .slice none 0 0]) r4.2).bind fun h33 =>
 (ldA 3 (⟨h1.next, 0, none⟩ : Addr) h33).bind fun l34 =>
 (decC [.i .i64, .s, .l] l34).bind fun x35 =>
 some ((x35.1, x35.2.1, x35.2.2), h33))
 else
 (if (x19 == 3) = true then
 (ldS (⟨h.next, 2, none⟩ : Addr) r4.2).bind fun x36 =>
 (store_Store_list k D s_0 x36 r4.2).bind fun r37 =>
 (stL 3 (⟨h1.next, 0, none⟩ : Addr) ([.int .i64 0, .string (⟨#[]⟩ : ByteArray), .slice r37.1.a r37.1.len r37.1.cap]) r37.2).bind fun h38 =>
 (ldA 3 (⟨h1.next, 0, none⟩ : Addr) h38).bind fun l39 =>
 (decC [.i .i64, .s, .l] l39).bind fun x40 =>
 some ((x40.1, x40.2.1, x40.2.2), h38)
 else
 (if (x19 == 4) = true then
 (ldS (⟨h.next, 2, none⟩ : Addr) r4.2).bind fun x41 =>
 (store_Store_del k D s_0 x41 r4.2).bind fun r42 =>
 (stL 3 (⟨h1.next, 0, none⟩ : Addr) ([.int .i64 r42.1, .string (⟨#[]⟩ : ByteArray), .slice none 0 0]) r42.2).bind fun h43 =>
 (ldA 3 (⟨h1.next, 0, none⟩ : Addr) h43).bind fun l44 =>
 (decC [.i .i64, .s, .l] l44).bind fun x45 =>
 some ((x45.1, x45.2.1, x45.2.2), h43)
 else
 (stL 3 (⟨h1.next, 0, none⟩ : Addr) ([.int .i64 3, .string (⟨#[]⟩ : ByteArray), .slice none 0 0]) r4.2).bind fun h46 =>
 (ldA 3 (⟨h1.next, 0, none⟩ : Addr) h46).bind fun l47 =>
 (decC [.i .i64, .s, .l] l47).bind fun x48 =>
 some ((x48.1, x48.2.1, x48.2.2), h46)))))))
noncomputable def r_store_Store_Do : RCode := an (.n) (rOf Try.prog 0 Try.f13)
noncomputable def e_store_Store_Do (k : Nat) (D : CallF) : Ent := entOf 13 [(0, .p), (1, .st [.i .i64, .i .i64, .s, .s])] [(4, .st [.i .i64, .s, .l])] (store_Store_Do k D)
theorem q_store_Store_Do : (Try.f13.body).bind (rcodeOf Try.prog 0 Try.f13.ntmps) = some (strip r_store_Store_Do) := by kernel_rfl
theorem t_store_Store_Do (k : Nat) (D : CallF) : curF [(0, .p), (1, .st [.i .i64, .i .i64, .s, .s])] (fun args h => denF (C_store_Store_Do k D) k r_store_Store_Do [(4, .st [.i .i64, .s, .l])] [some (.agg 3)] args h) = store_Store_Do k D := by kernel_rfl
theorem ok_store_Store_Do {D : CallF} (hD : CSound Try.prog 0 D) (k : Nat) : EntOk Try.prog 0 (e_store_Store_Do k D) :=
 entOf_ok2 (mkC_sound hD (EntsOk.more (ok_sync_atomic_Int64_Add hD k) (EntsOk.more (ok_store_Store_put hD k) (EntsOk.more (ok_store_Store_list hD k) (EntsOk.more (ok_store_Store_del hD k) (EntsOk.none)))))) Try.func13 rfl q_store_Store_Do rfl (t_store_Store_Do k D)
end Gs
namespace Gs
open Go Gx Go.Proofs
set_option maxRecDepth 100000
end Gs
namespace Gs
open Go Gx Go.Proofs
set_option maxRecDepth 100000
end Gs
namespace Gs
open Go Gx Go.Proofs
end Gs
namespace Gs
open Go Gx Go.Proofs
set_option maxRecDepth 100000
end Gs
namespace Gs
open Go Gx Go.Proofs
set_option maxRecDepth 100000
end Gs
namespace Gs
open Go Gx Go.Proofs
set_option maxRecDepth 100000
end Gs
namespace Gs
open Go Gx Go.Proofs
set_option maxRecDepth 100000
end Gs
namespace Gs
open Go Gx Go.Proofs
set_option maxRecDepth 100000
end Gs
namespace Gs
open Go Gx Go.Proofs
set_option maxRecDepth 100000
end Gs
namespace Gs
open Go Gx Go.Proofs
set_option maxRecDepth 100000
end Gs
namespace Gs
open Go Gx Go.Proofs
end Gs
namespace Gs
open Go Gx Go.Proofs
end Gs
namespace Gs
open Go Gx Go.Proofs
set_option maxRecDepth 100000
end Gs
namespace Gs
open Go Gx Go.Proofs
set_option maxRecDepth 100000
end Gs
namespace Gs
open Go Gx Go.Proofs
set_option maxRecDepth 100000
noncomputable def C_store_New (_k : Nat) (D : CallF) : CallF := mkC D []
noncomputable def store_New (_k : Nat) (_D : CallF) (quota_0 : Int) (h : AHeap) : Option (((Option Addr) × Int) × AHeap) :=
 joinK (fun (quota1 : Int) (y2 : Bool) (h3 : AHeap) =>
 (if y2 = true then
 some ((none, 1), h3)
 else
 let h5 := AHeap.new h3 (.map [] 0)
 let h6 := AHeap.new h5 (.cells [.int .i64 quota1, .int .i64 0, .int .i64 0, .bool false, .map (some h3.next), .int .i64 0] 106 true 0)
 some (((some (⟨h5.next, 0, none⟩ : Addr)), 0), h6))) fun j4 =>
 (if (decide (quota_0 < 0)) = true then
 j4 quota_0 true h
 else
 j4 quota_0 (decide (quota_0 > 1073741824)) h)
noncomputable def r_store_New : RCode := an (.s .n (.s (.s (.j [(0, .i .i64), (9, .b)] .n) .n) .n)) (rOf Try.prog 0 Try.f11)
noncomputable def e_store_New (k : Nat) (D : CallF) : Ent := entOf 11 [(0, .i .i64)] [(2, .p), (3, .i .i64)] (store_New k D)
theorem q_store_New : (Try.f11.body).bind (rcodeOf Try.prog 0 Try.f11.ntmps) = some (strip r_store_New) := by kernel_rfl
theorem t_store_New (k : Nat) (D : CallF) : curF [(0, .i .i64)] (fun args h => denF (C_store_New k D) k r_store_New [(2, .p), (3, .i .i64)] [none, none] args h) = store_New k D := by kernel_rfl
theorem ok_store_New {D : CallF} (hD : CSound Try.prog 0 D) (k : Nat) : EntOk Try.prog 0 (e_store_New k D) :=
 entOf_ok2 (mkC_sound hD (EntsOk.none)) Try.func11 rfl q_store_New rfl (t_store_New k D)
end Gs
namespace Gs
open Go Gx Go.Proofs
set_option maxRecDepth 100000
end Gs
namespace Gs
open Go Gx Go.Proofs
set_option maxRecDepth 100000
noncomputable def C_book_SameTexts (_k : Nat) (D : CallF) : CallF := mkC D []
noncomputable def book_SameTexts_l0b (_k : Nat) (_D : CallF) (j2 : AHeap → Option ((Bool) × AHeap)) (rec7 : Slc → Slc → Int → AHeap → Option ((Bool) × AHeap)) (a3 : Slc) (b4 : Slc) (i5 : Int) (h6 : AHeap) : Option ((Bool) × AHeap) :=
 (if (decide (i5 < (a3.len : Int))) = true then
 (Gx.idxL 1 a3 i5).bind fun q8 =>
 (ldS q8 h6).bind fun x9 =>
 (Gx.idxL 1 b4 i5).bind fun q10 =>
 (ldS q10 h6).bind fun x11 =>
 (if (!(x9 == x11)) = true then
 some (false, h6)
 else
 rec7 a3 b4 (IntKind.wrap .i64 (i5 + 1)) h6)
 else
 j2 h6)
noncomputable def book_SameTexts_l0 (k : Nat) (D : CallF) (j2 : AHeap → Option ((Bool) × AHeap)) : Slc → Slc → Int → AHeap → Option ((Bool) × AHeap) :=
 iterK (α := Slc → Slc → Int → AHeap → Option ((Bool) × AHeap)) (fun _ _ _ _ => none) k (book_SameTexts_l0b k D j2)
noncomputable def book_SameTexts (k : Nat) (D : CallF) (a_0 : Slc) (b_1 : Slc) (h : AHeap) : Option ((Bool) × AHeap) :=
 (if ((a_0.len : Int) != (b_1.len : Int)) = true then
 some (false, h)
 else
 joinK (fun (h1 : AHeap) =>
 some (true, h1)) fun j2 =>
 book_SameTexts_l0 k D j2 a_0 b_1 0 h)
noncomputable def r_book_SameTexts : RCode := an (.s .n (.s .n (.s (.j [] (.s .n (.b (.l [(0, .l), (1, .l), (5, .i .i64)] .n)))) .n))) (rOf Try.prog 0 Try.f14)
noncomputable def e_book_SameTexts (k : Nat) (D : CallF) : Ent := entOf 14 [(0, .l), (1, .l)] [(4, .b)] (book_SameTexts k D)
theorem q_book_SameTexts : (Try.f14.body).bind (rcodeOf Try.prog 0 Try.f14.ntmps) = some (strip r_book_SameTexts) := by kernel_rfl
theorem t_book_SameTexts (k : Nat) (D : CallF) : curF [(0, .l), (1, .l)] (fun args h => denF (C_book_SameTexts k D) k r_book_SameTexts [(4, .b)] [none] args h) = book_SameTexts k D := by kernel_rfl
theorem ok_book_SameTexts {D : CallF} (hD : CSound Try.prog 0 D) (k : Nat) : EntOk Try.prog 0 (e_book_SameTexts k D) :=
 entOf_ok2 (mkC_sound hD (EntsOk.none)) Try.func14 rfl q_book_SameTexts rfl (t_book_SameTexts k D)
end Gs
namespace Gs
open Go Gx Go.Proofs
set_option maxRecDepth 100000
end Gs
namespace Gs
open Go Gx Go.Proofs
set_option maxRecDepth 100000
end Gs
namespace Gs
open Go Gx Go.Proofs
set_option maxRecDepth 100000
end Gs
namespace Gs
open Go Gx Go.Proofs
set_option maxRecDepth 100000
end Gs
namespace Gs
open Go Gx Go.Proofs
set_option maxRecDepth 100000
end Gs
namespace Gs
open Go Gx Go.Proofs
set_option maxRecDepth 100000
end Gs
namespace Gs
open Go Gx Go.Proofs
set_option maxRecDepth 100000
end Gs
namespace Gs
open Go Gx Go.Proofs
set_option maxRecDepth 100000
end Gs
namespace Gs
open Go Gx Go.Proofs
set_option maxRecDepth 100000
end Gs
namespace Gs
open Go Gx Go.Proofs
set_option maxRecDepth 100000
end Gs
namespace Gs
open Go Gx Go.Proofs
set_option maxRecDepth 100000
end Gs
namespace Gs
open Go Gx Go.Proofs
set_option maxRecDepth 100000
end Gs
namespace Gs
open Go Gx Go.Proofs
set_option maxRecDepth 100000
end Gs
namespace Gs
open Go Gx Go.Proofs
set_option maxRecDepth 100000
end Gs
namespace Gs
open Go Gx Go.Proofs
set_option maxRecDepth 100000
end Gs
namespace Gs
open Go Gx Go.Proofs
set_option maxRecDepth 100000
noncomputable def C_slices_Clone_api_Req_api_Req (_k : Nat) (D : CallF) : CallF := mkC D []
noncomputable def slices_Clone_api_Req_api_Req (_k : Nat) (_D : CallF) (s_0 : Slc) (h : AHeap) : Option ((Slc) × AHeap) :=
 (if s_0.a.isNone = true then
 some ((⟨none, 0, 0⟩ : Slc), h)
 else
 let h1 := AHeap.new h (.cells [] 32 true 0)
 (rdS 4 s_0 h1).bind fun n3 =>
 (appendA 4 48 32 h1 (⟨(some ⟨h.next, 0, some 0⟩), 0, 0⟩ : Slc) n3 s_0.len).bind fun r2 =>
 some (r2.1, r2.2))
noncomputable def r_slices_Clone_api_Req_api_Req : RCode := an (.n) (rOf Try.prog 0 Try.f113)
noncomputable def e_slices_Clone_api_Req_api_Req (k : Nat) (D : CallF) : Ent := entOf 113 [(0, .l)] [(2, .l)] (slices_Clone_api_Req_api_Req k D)
theorem q_slices_Clone_api_Req_api_Req : (Try.f113.body).bind (rcodeOf Try.prog 0 Try.f113.ntmps) = some (strip r_slices_Clone_api_Req_api_Req) := by kernel_rfl
theorem t_slices_Clone_api_Req_api_Req (k : Nat) (D : CallF) : curF [(0, .l)] (fun args h => denF (C_slices_Clone_api_Req_api_Req k D) k r_slices_Clone_api_Req_api_Req [(2, .l)] [none] args h) = slices_Clone_api_Req_api_Req k D := by kernel_rfl
theorem ok_slices_Clone_api_Req_api_Req {D : CallF} (hD : CSound Try.prog 0 D) (k : Nat) : EntOk Try.prog 0 (e_slices_Clone_api_Req_api_Req k D) :=
 entOf_ok2 (mkC_sound hD (EntsOk.none)) Try.func113 rfl q_slices_Clone_api_Req_api_Req rfl (t_slices_Clone_api_Req_api_Req k D)
end Gs
namespace Gs
open Go Gx Go.Proofs
set_option maxRecDepth 100000
noncomputable def C_port_IO_All (k : Nat) (D : CallF) : CallF := mkC D [e_slices_Clone_api_Req_api_Req k D]
noncomputable def port_IO_All (k : Nat) (D : CallF) (io_0 : Option Addr) (l_1 : Slc) (then_2 : Value) (h : AHeap) : Option ((Unit) × AHeap) :=
 let h1 := AHeap.new h (.cells [.pointer io_0] 80 true 0)
 let h2 := AHeap.new h1 (.cells [.slice l_1.a l_1.len l_1.cap] 51 true 0)
 let h3 := AHeap.new h2 (.cells then_2.cells.toList 128 true 0)
 (ldL (⟨h1.next, 0, none⟩ : Addr) h3).bind fun x4 =>
 (slices_Clone_api_Req_api_Req k D x4 h3).bind fun r5 =>
 (st1 (⟨h1.next, 0, none⟩ : Addr) (.slice r5.1.a r5.1.len r5.1.cap) r5.2).bind fun h6 =>
 (ldL (⟨h1.next, 0, none⟩ : Addr) h6).bind fun x7 =>
 (if 0 ≤ (0 : Int) ∧ 0 ≤ (x7.len : Int) ∧ (x7.len : Int) ≤ 281474976710656 ∧ 48 * (x7.len : Int) ≤ 281474976710656 then
 let h8 := AHeap.new h6 (.cells (zerosL ((x7.len : Int)).toNat [.int .i64 0, .string ⟨#[]⟩, .slice none 0 0]) 29 true 0)
 let h9 := AHeap.new h8 (.cells [.slice none 0 0] 52 true 0)
 (st1 (⟨h8.next, 0, none⟩ : Addr) (.slice (some ⟨h6.next, 0, some 0⟩) ((0 : Int).toNat) (((x7.len : Int)).toNat)) h9).bind fun h10 =>
 let h11 := AHeap.new h10 (.cells [.nilFunc] 1 true 0)
 (st1 (⟨h10.next, 0, none⟩ : Addr) (.func (.func 114) ⟨[]⟩ ⟨[.pointer (some (⟨h8.next, 0, none⟩ : Addr)), .pointer (some (⟨h1.next, 0, none⟩ : Addr)), .pointer (some (⟨h2.next, 0, none⟩ : Addr)), .pointer (some (⟨h.next, 0, none⟩ : Addr)), .pointer (some (⟨h10.next, 0, none⟩ : Addr))]⟩) h11).bind fun h12 =>
 (ldV (⟨h10.next, 0, none⟩ : Addr) h12).bind fun x13 =>
 callD (C_port_IO_All k D) x13 [] h12 fun _ h15 =>
 some ((), h15)
 else none)
noncomputable def r_port_IO_All : RCode := an (.n) (rOf Try.prog 0 Try.f72)
noncomputable def e_port_IO_All (k : Nat) (D : CallF) : Ent := entOf 72 [(0, .p), (1, .l), (2, .v)] [] (port_IO_All k D)
theorem q_port_IO_All : (Try.f72.body).bind (rcodeOf Try.prog 0 Try.f72.ntmps) = some (strip r_port_IO_All) := by kernel_rfl
theorem t_port_IO_All (k : Nat) (D : CallF) : curF [(0, .p), (1, .l), (2, .v)] (fun args h => denF (C_port_IO_All k D) k r_port_IO_All [] [] args h) = port_IO_All k D := by kernel_rfl
theorem ok_port_IO_All {D : CallF} (hD : CSound Try.prog 0 D) (k : Nat) : EntOk Try.prog 0 (e_port_IO_All k D) :=
 entOf_ok2 (mkC_sound hD (EntsOk.more (ok_slices_Clone_api_Req_api_Req hD k) (EntsOk.none))) Try.func72 rfl q_port_IO_All rfl (t_port_IO_All k D)
end Gs
namespace Gs
open Go Gx Go.Proofs
set_option maxRecDepth 100000
noncomputable def C_port_List_1 (k : Nat) (D : CallF) : CallF := mkC D [e_port_IO_All k D]
noncomputable def port_List_1 (k : Nat) (D : CallF) (io_0 : Option Addr) (a_1 : Option Addr) (h : AHeap) : Option ((Unit) × AHeap) :=
 let h1 := AHeap.new h (.cells [.pointer io_0] 80 true 0)
 (ldP (⟨h.next, 0, none⟩ : Addr) h1).bind fun x2 =>
 (a_1).bind fun p3 =>
 (ldL p3 h1).bind fun x4 =>
 (port_IO_All k D x2 x4 (.func (.func 73) ⟨[]⟩ ⟨[.pointer (some (⟨h.next, 0, none⟩ : Addr))]⟩) h1).bind fun r5 =>
 some ((), r5.2)
noncomputable def r_port_List_1 : RCode := an (.n) (rOf Try.prog 0 Try.f71)
noncomputable def e_port_List_1 (k : Nat) (D : CallF) : Ent := entOf 71 [(0, .p), (1, .p)] [] (port_List_1 k D)
theorem q_port_List_1 : (Try.f71.body).bind (rcodeOf Try.prog 0 Try.f71.ntmps) = some (strip r_port_List_1) := by kernel_rfl
theorem t_port_List_1 (k : Nat) (D : CallF) : curF [(0, .p), (1, .p)] (fun args h => denF (C_port_List_1 k D) k r_port_List_1 [] [] args h) = port_List_1 k D := by kernel_rfl
theorem ok_port_List_1 {D : CallF} (hD : CSound Try.prog 0 D) (k : Nat) : EntOk Try.prog 0 (e_port_List_1 k D) :=
 entOf_ok2 (mkC_sound hD (EntsOk.more (ok_port_IO_All hD k) (EntsOk.none))) Try.func71 rfl q_port_List_1 rfl (t_port_List_1 k D)
end Gs
namespace Gs
open Go Gx Go.Proofs
set_option maxRecDepth 100000
noncomputable def C_port_IO_End (_k : Nat) (D : CallF) : CallF := mkC D []
noncomputable def port_IO_End (_k : Nat) (_D : CallF) (io_0 : Option Addr) (r_1 : Int × ByteArray × Int × Slc × Slc × Slc × Slc) (h : AHeap) : Option ((Unit) × AHeap) :=
 let h1 := AHeap.new h (.cells [.int .i64 r_1.1, .string r_1.2.1, .int .i64 r_1.2.2.1, .slice r_1.2.2.2.1.a r_1.2.2.2.1.len r_1.2.2.2.1.cap, .slice r_1.2.2.2.2.1.a r_1.2.2.2.2.1.len r_1.2.2.2.2.1.cap, .slice r_1.2.2.2.2.2.1.a r_1.2.2.2.2.2.1.len r_1.2.2.2.2.2.1.cap, .slice r_1.2.2.2.2.2.2.a r_1.2.2.2.2.2.2.len r_1.2.2.2.2.2.2.cap] 60 true 0)
 (io_0).bind fun p2 =>
 (ldB (⟨p2.block, p2.off + 5, none⟩ : Addr) h1).bind fun x3 =>
 (if (!x3) = true then
 (io_0).bind fun p4 =>
 (st1 (⟨p4.block, p4.off + 5, none⟩ : Addr) (.bool true) h1).bind fun h5 =>
 (ldA 7 (⟨h.next, 0, none⟩ : Addr) h5).bind fun l6 =>
 guardP (SameW [h1] (fun H8 => (ldA 7 (⟨h.next, 0, none⟩ : Addr) H8).bind fun y7 => some (.agg ⟨y7⟩)) (.agg ⟨l6⟩)) (
 (decC [.i .i64, .s, .i .i64, .l, .l, .l, .l] l6).bind fun x9 =>
 (io_0).bind fun p10 =>
 (stL 7 (⟨p10.block, p10.off + 6, none⟩ : Addr) ([.int .i64 x9.1, .string x9.2.1, .int .i64 x9.2.2.1, .slice x9.2.2.2.1.a x9.2.2.2.1.len x9.2.2.2.1.cap, .slice x9.2.2.2.2.1.a x9.2.2.2.2.1.len x9.2.2.2.2.1.cap, .slice x9.2.2.2.2.2.1.a x9.2.2.2.2.2.1.len x9.2.2.2.2.2.1.cap, .slice x9.2.2.2.2.2.2.a x9.2.2.2.2.2.2.len x9.2.2.2.2.2.2.cap]) h5).bind fun h11 =>
 (io_0).bind fun p12 =>
 (st1 (⟨p12.block, p12.off + 4, none⟩ : Addr) (.nilFunc) h11).bind fun h13 =>
 some ((), h13))
 else
 some ((), h1))
noncomputable def r_port_IO_End : RCode := an (.s .n (.s .n (.s (.r [(5, .st [.i .i64, .s, .i .i64, .l, .l, .l, .l])]) .n))) (rOf Try.prog 0 Try.f74)
noncomputable def e_port_IO_End (k : Nat) (D : CallF) : Ent := entOf 74 [(0, .p), (1, .st [.i .i64, .s, .i .i64, .l, .l, .l, .l])] [] (port_IO_End k D)
theorem q_port_IO_End : (Try.f74.body).bind (rcodeOf Try.prog 0 Try.f74.ntmps) = some (strip r_port_IO_End) := by kernel_rfl
theorem t_port_IO_End (k : Nat) (D : CallF) : curF [(0, .p), (1, .st [.i .i64, .s, .i .i64, .l, .l, .l, .l])] (fun args h => denF (C_port_IO_End k D) k r_port_IO_End [] [] args h) = port_IO_End k D := by kernel_rfl
theorem ok_port_IO_End {D : CallF} (hD : CSound Try.prog 0 D) (k : Nat) : EntOk Try.prog 0 (e_port_IO_End k D) :=
 entOf_ok2 (mkC_sound hD (EntsOk.none)) Try.func74 rfl q_port_IO_End rfl (t_port_IO_End k D)
end Gs
namespace Gs
open Go Gx Go.Proofs
set_option maxRecDepth 100000
noncomputable def C_port_List_1_1 (k : Nat) (D : CallF) : CallF := mkC D [e_port_IO_End k D]
noncomputable def port_List_1_1_l0b (_k : Nat) (_D : CallF) (j5 : (Option Addr) → (Option Addr) → AHeap → Option ((Unit) × AHeap)) (rec18 : (Option Addr) → (Option Addr) → Slc → Int → Int → AHeap → Option ((Unit) × AHeap)) (y12 : Option Addr) (r13 : Option Addr) (y14 : Slc) (y15 : Int) (y16 : Int) (h17 : AHeap) : Option ((Unit) × AHeap) :=
 (if (decide (y16 < y15)) = true then
 (Gx.idxL 3 y14 y16).bind fun q19 =>
 (ldA 3 q19 h17).bind fun l20 =>
 (decC [.i .i64, .s, .l] l20).bind fun x21 =>
 let h22 := AHeap.new h17 (.cells [.int .i64 0, .string ⟨#[]⟩, .slice none 0 0] 29 true 0)
 (stL 3 (⟨h17.next, 0, none⟩ : Addr) ([.int .i64 x21.1, .string x21.2.1, .slice x21.2.2.a x21.2.2.len x21.2.2.cap]) h22).bind fun h23 =>
 joinK (fun (y24 : Option Addr) (r25 : Option Addr) (x26 : Option Addr) (y27 : Slc) (y28 : Int) (y29 : Int) (h30 : AHeap) =>
 (r25).bind fun p32 =>
 (ldL (⟨p32.block, p32.off + 4, none⟩ : Addr) h30).bind fun x33 =>
 (x26).bind fun p34 =>
 (ldS (⟨p34.block, p34.off + 1, none⟩ : Addr) h30).bind fun x35 =>
 let h36 := AHeap.new h30 (.cells [.string x35] 9 true 0)
 (rdS 1 (⟨(some ⟨h30.next, 0, some 0⟩), 1, 1⟩ : Slc) h36).bind fun n38 =>
 (appendA 1 16 9 h36 x33 n38 1).bind fun r37 =>
 (r25).bind fun p39 =>
 (st1 (⟨p39.block, p39.off + 4, none⟩ : Addr) (.slice r37.1.a r37.1.len r37.1.cap) r37.2).bind fun h40 =>
 (r25).bind fun p41 =>
 (ldL (⟨p41.block, p41.off + 3, none⟩ : Addr) h40).bind fun x42 =>
 (x26).bind fun p43 =>
 (ldL (⟨p43.block, p43.off + 2, none⟩ : Addr) h40).bind fun x44 =>
 (rdS 1 x44 h40).bind fun n46 =>
 (appendA 1 16 9 h40 x42 n46 x44.len).bind fun r45 =>
 (r25).bind fun p47 =>
 (st1 (⟨p47.block, p47.off + 3, none⟩ : Addr) (.slice r45.1.a r45.1.len r45.1.cap) r45.2).bind fun h48 =>
 rec18 y24 r25 y27 y28 (IntKind.wrap .i64 (y29 + 1)) h48) fun j31 =>
 (ldI .i64 (⟨h17.next, 0, none⟩ : Addr) h23).bind fun x49 =>
 (if (x49 == 0) = true then
 (r13).bind fun p50 =>
 (ldI .i64 (⟨p50.block, p50.off + 2, none⟩ : Addr) h23).bind fun x51 =>
 (r13).bind fun p52 =>
 (st1 (⟨p52.block, p52.off + 2, none⟩ : Addr) (.int .i64 (IntKind.wrap .i64 (x51 + 1))) h23).bind fun h53 =>
 j31 y12 r13 (some (⟨h17.next, 0, none⟩ : Addr)) y14 y15 y16 h53
 else
 (r13).bind fun p54 =>
 (ldI .i64 (⟨p54.block, p54.off + 0, none⟩ : Addr) h23).bind fun x55 =>
 (if (x55 == 0) = true then
 (ldI .i64 (⟨h17.next, 0, none⟩ : Addr) h23).bind fun x56 =>
 (r13).bind fun p57 =>
 (st1 (⟨p57.block, p57.off + 0, none⟩ : Addr) (.int .i64 x56) h23).bind fun h58 =>
 j31 y12 r13 (some (⟨h17.next, 0, none⟩ : Addr)) y14 y15 y16 h58
 else
 j31 y12 r13 (some (⟨h17.next, 0, none⟩ : Addr)) y14 y15 y16 h23))
 else
 j5 y12 r13 h17)
noncomputable def port_List_1_1_l0 (k : Nat) (D : CallF) (j5 : (Option Addr) → (Option Addr) → AHeap → Option ((Unit) × AHeap)) : (Option Addr) → (Option Addr) → Slc → Int → Int → AHeap → Option ((Unit) × AHeap) :=
 iterK (α := (Option Addr) → (Option Addr) → Slc → Int → Int → AHeap → Option ((Unit) × AHeap)) (fun _ _ _ _ _ _ => none) k (port_List_1_1_l0b k D j5)
noncomputable def port_List_1_1 (k : Nat) (D : CallF) (answers_0 : Slc) (a_1 : Option Addr) (h : AHeap) : Option ((Unit) × AHeap) :=
 let h1 := AHeap.new h (.cells [.int .i64 0, .string ⟨#[]⟩, .int .i64 0, .slice none 0 0, .slice none 0 0, .slice none 0 0, .slice none 0 0] 60 true 0)
 joinK (fun (y2 : Option Addr) (r3 : Option Addr) (h4 : AHeap) =>
 (y2).bind fun p6 =>
 (ldP p6 h4).bind fun x7 =>
 (r3).bind fun p8 =>
 (ldA 7 p8 h4).bind fun l9 =>
 (decC [.i .i64, .s, .i .i64, .l, .l, .l, .l] l9).bind fun x10 =>
 (port_IO_End k D x7 (x10.1, x10.2.1, x10.2.2.1, x10.2.2.2.1, x10.2.2.2.2.1, x10.2.2.2.2.2.1, x10.2.2.2.2.2.2) h4).bind fun r11 =>
 some ((), r11.2)) fun j5 =>
 port_List_1_1_l0 k D j5 a_1 (some (⟨h.next, 0, none⟩ : Addr)) answers_0 (answers_0.len : Int) 0 h1
noncomputable def r_port_List_1_1 : RCode := an (.s .n (.s (.j [(1, .p), (3, .p)] (.s .n (.b (.l [(1, .p), (3, .p), (6, .l), (7, .i .i64), (8, .i .i64)] (.s .n (.s .n (.s (.b (.s (.r [(1, .st [.i .i64, .s, .l])]) (.s (.j [(1, .p), (3, .p), (5, .p), (6, .l), (7, .i .i64), (8, .i .i64)] .n) .n))) .n))))))) (.r [(1, .st [.i .i64, .s, .i .i64, .l, .l, .l, .l])]))) (rOf Try.prog 0 Try.f73)
noncomputable def e_port_List_1_1 (k : Nat) (D : CallF) : Ent := entOf 73 [(0, .l), (1, .p)] [] (port_List_1_1 k D)
theorem q_port_List_1_1 : (Try.f73.body).bind (rcodeOf Try.prog 0 Try.f73.ntmps) = some (strip r_port_List_1_1) := by kernel_rfl
theorem t_port_List_1_1 (k : Nat) (D : CallF) : curF [(0, .l), (1, .p)] (fun args h => denF (C_port_List_1_1 k D) k r_port_List_1_1 [] [] args h) = port_List_1_1 k D := by kernel_rfl
theorem ok_port_List_1_1 {D : CallF} (hD : CSound Try.prog 0 D) (k : Nat) : EntOk Try.prog 0 (e_port_List_1_1 k D) :=
 entOf_ok2 (mkC_sound hD (EntsOk.more (ok_port_IO_End hD k) (EntsOk.none))) Try.func73 rfl q_port_List_1_1 rfl (t_port_List_1_1 k D)
end Gs
namespace Gs
open Go Gx Go.Proofs
set_option maxRecDepth 100000
noncomputable def C_port_IO_Ask (_k : Nat) (D : CallF) : CallF := mkC D []
noncomputable def port_IO_Ask (_k : Nat) (_D : CallF) (io_0 : Option Addr) (r_1 : Int × Int × ByteArray × ByteArray) (then_2 : Value) (h : AHeap) : Option ((Unit) × AHeap) :=
 let h1 := AHeap.new h (.cells [.int .i64 r_1.1, .int .i64 r_1.2.1, .string r_1.2.2.1, .string r_1.2.2.2] 32 true 0)
 (io_0).bind fun p2 =>
 (ldB (⟨p2.block, p2.off + 5, none⟩ : Addr) h1).bind fun x3 =>
 (if (!x3) = true then
 (ldA 4 (⟨h.next, 0, none⟩ : Addr) h1).bind fun l4 =>
 (decC [.i .i64, .i .i64, .s, .s] l4).bind fun x5 =>
 (io_0).bind fun p6 =>
 (stL 4 (⟨p6.block, p6.off + 0, none⟩ : Addr) ([.int .i64 x5.1, .int .i64 x5.2.1, .string x5.2.2.1, .string x5.2.2.2]) h1).bind fun h7 =>
 (io_0).bind fun p8 =>
 (st1 (⟨p8.block, p8.off + 4, none⟩ : Addr) (then_2) h7).bind fun h9 =>
 some ((), h9)
 else
 some ((), h1))
noncomputable def r_port_IO_Ask : RCode := an (.s .n (.s .n (.s (.r [(2, .st [.i .i64, .i .i64, .s, .s])]) .n))) (rOf Try.prog 0 Try.f115)
noncomputable def e_port_IO_Ask (k : Nat) (D : CallF) : Ent := entOf 115 [(0, .p), (1, .st [.i .i64, .i .i64, .s, .s]), (2, .v)] [] (port_IO_Ask k D)
theorem q_port_IO_Ask : (Try.f115.body).bind (rcodeOf Try.prog 0 Try.f115.ntmps) = some (strip r_port_IO_Ask) := by kernel_rfl
theorem t_port_IO_Ask (k : Nat) (D : CallF) : curF [(0, .p), (1, .st [.i .i64, .i .i64, .s, .s]), (2, .v)] (fun args h => denF (C_port_IO_Ask k D) k r_port_IO_Ask [] [] args h) = port_IO_Ask k D := by kernel_rfl
theorem ok_port_IO_Ask {D : CallF} (hD : CSound Try.prog 0 D) (k : Nat) : EntOk Try.prog 0 (e_port_IO_Ask k D) :=
 entOf_ok2 (mkC_sound hD (EntsOk.none)) Try.func115 rfl q_port_IO_Ask rfl (t_port_IO_Ask k D)
end Gs
namespace Gs
open Go Gx Go.Proofs
set_option maxRecDepth 100000
noncomputable def C_port_IO_All_1 (k : Nat) (D : CallF) : CallF := mkC D [e_port_IO_Ask k D]
noncomputable def port_IO_All_1 (k : Nat) (D : CallF) (a_0 : Option Addr) (a_1 : Option Addr) (a_2 : Option Addr) (a_3 : Option Addr) (a_4 : Option Addr) (h : AHeap) : Option ((Unit) × AHeap) :=
 (a_0).bind fun p1 =>
 (ldL p1 h).bind fun x2 =>
 (a_1).bind fun p3 =>
 (ldL p3 h).bind fun x4 =>
 (if ((x2.len : Int) == (x4.len : Int)) = true then
 (a_2).bind fun p5 =>
 (ldV p5 h).bind fun x6 =>
 (a_0).bind fun p7 =>
 (ldL p7 h).bind fun x8 =>
 callD (C_port_IO_All_1 k D) x6 [.slice x8.a x8.len x8.cap] h fun _ h10 =>
 some ((), h10)
 else
 (a_3).bind fun p11 =>
 (ldP p11 h).bind fun x12 =>
 (a_1).bind fun p13 =>
 (ldL p13 h).bind fun x14 =>
 (a_0).bind fun p15 =>
 (ldL p15 h).bind fun x16 =>
 (Gx.idxL 4 x14 (x16.len : Int)).bind fun q17 =>
 (ldA 4 q17 h).bind fun l18 =>
 (decC [.i .i64, .i .i64, .s, .s] l18).bind fun x19 =>
 (port_IO_Ask k D x12 (x19.1, x19.2.1, x19.2.2.1, x19.2.2.2) (.func (.func 116) ⟨[]⟩ ⟨[.pointer a_0, .pointer a_4]⟩) h).bind fun r20 =>
 some ((), r20.2))
noncomputable def r_port_IO_All_1 : RCode := an (.s .n (.r [(5, .st [.i .i64, .i .i64, .s, .s])])) (rOf Try.prog 0 Try.f114)
noncomputable def e_port_IO_All_1 (k : Nat) (D : CallF) : Ent := entOf 114 [(0, .p), (1, .p), (2, .p), (3, .p), (4, .p)] [] (port_IO_All_1 k D)
theorem q_port_IO_All_1 : (Try.f114.body).bind (rcodeOf Try.prog 0 Try.f114.ntmps) = some (strip r_port_IO_All_1) := by kernel_rfl
theorem t_port_IO_All_1 (k : Nat) (D : CallF) : curF [(0, .p), (1, .p), (2, .p), (3, .p), (4, .p)] (fun args h => denF (C_port_IO_All_1 k D) k r_port_IO_All_1 [] [] args h) = port_IO_All_1 k D := by kernel_rfl
theorem ok_port_IO_All_1 {D : CallF} (hD : CSound Try.prog 0 D) (k : Nat) : EntOk Try.prog 0 (e_port_IO_All_1 k D) :=
 entOf_ok2 (mkC_sound hD (EntsOk.more (ok_port_IO_Ask hD k) (EntsOk.none))) Try.func114 rfl q_port_IO_All_1 rfl (t_port_IO_All_1 k D)
end Gs
namespace Gs
open Go Gx Go.Proofs
set_option maxRecDepth 100000
noncomputable def C_port_IO_All_1_1 (_k : Nat) (D : CallF) : CallF := mkC D []
noncomputable def port_IO_All_1_1 (k : Nat) (D : CallF) (r_0 : Int × ByteArray × Slc) (a_1 : Option Addr) (a_2 : Option Addr) (h : AHeap) : Option ((Unit) × AHeap) :=
 let h1 := AHeap.new h (.cells [.int .i64 r_0.1, .string r_0.2.1, .slice r_0.2.2.a r_0.2.2.len r_0.2.2.cap] 29 true 0)
 (a_1).bind fun p2 =>
 (ldL p2 h1).bind fun x3 =>
 (ldA 3 (⟨h.next, 0, none⟩ : Addr) h1).bind fun l4 =>
 (decC [.i .i64, .s, .l] l4).bind fun x5 =>
 let h6 := AHeap.new h1 (.cells [.int .i64 x5.1, .string x5.2.1, .slice x5.2.2.a x5.2.2.len x5.2.2.cap] 29 true 0)
 (rdS 3 (⟨(some ⟨h1.next, 0, some 0⟩), 1, 1⟩ : Slc) h6).bind fun n8 =>
 (appendA 3 48 29 h6 x3 n8 1).bind fun r7 =>
 (a_1).bind fun p9 =>
 (st1 p9 (.slice r7.1.a r7.1.len r7.1.cap) r7.2).bind fun h10 =>
 (a_2).bind fun p11 =>
 (ldV p11 h10).bind fun x12 =>
 callD (C_port_IO_All_1_1 k D) x12 [] h10 fun _ h14 =>
 some ((), h14)
noncomputable def r_port_IO_All_1_1 : RCode := an (.s .n (.s (.r [(1, .st [.i .i64, .s, .l])]) .n)) (rOf Try.prog 0 Try.f116)
noncomputable def e_port_IO_All_1_1 (k : Nat) (D : CallF) : Ent := entOf 116 [(0, .st [.i .i64, .s, .l]), (1, .p), (2, .p)] [] (port_IO_All_1_1 k D)
theorem q_port_IO_All_1_1 : (Try.f116.body).bind (rcodeOf Try.prog 0 Try.f116.ntmps) = some (strip r_port_IO_All_1_1) := by kernel_rfl
theorem t_port_IO_All_1_1 (k : Nat) (D : CallF) : curF [(0, .st [.i .i64, .s, .l]), (1, .p), (2, .p)] (fun args h => denF (C_port_IO_All_1_1 k D) k r_port_IO_All_1_1 [] [] args h) = port_IO_All_1_1 k D := by kernel_rfl
theorem ok_port_IO_All_1_1 {D : CallF} (hD : CSound Try.prog 0 D) (k : Nat) : EntOk Try.prog 0 (e_port_IO_All_1_1 k D) :=
 entOf_ok2 (mkC_sound hD (EntsOk.none)) Try.func116 rfl q_port_IO_All_1_1 rfl (t_port_IO_All_1_1 k D)
end Gs
namespace Gs
open Go Gx Go.Proofs
set_option maxRecDepth 100000
noncomputable def C_port_Job_settle (_k : Nat) (D : CallF) : CallF := mkC D []
noncomputable def port_Job_settle (_k : Nat) (_D : CallF) (j_0 : Option Addr) (h : AHeap) : Option ((Unit) × AHeap) :=
 (j_0).bind fun p1 =>
 (ldP (⟨p1.block, p1.off + 0, none⟩ : Addr) h).bind fun x2 =>
 (x2).bind fun p3 =>
 (ldV (⟨p3.block, p3.off + 4, none⟩ : Addr) h).bind fun x4 =>
 (Gx.isNil .f x4).bind fun r5 =>
 (if r5 = true then
 (j_0).bind fun p6 =>
 (ldP (⟨p6.block, p6.off + 0, none⟩ : Addr) h).bind fun x7 =>
 (x7).bind fun p8 =>
 (st1 (⟨p8.block, p8.off + 5, none⟩ : Addr) (.bool true) h).bind fun h9 =>
 some ((), h9)
 else
 some ((), h))
noncomputable def r_port_Job_settle : RCode := an (.n) (rOf Try.prog 0 Try.f79)
noncomputable def e_port_Job_settle (k : Nat) (D : CallF) : Ent := entOf 79 [(0, .p)] [] (port_Job_settle k D)
theorem q_port_Job_settle : (Try.f79.body).bind (rcodeOf Try.prog 0 Try.f79.ntmps) = some (strip r_port_Job_settle) := by kernel_rfl
theorem t_port_Job_settle (k : Nat) (D : CallF) : curF [(0, .p)] (fun args h => denF (C_port_Job_settle k D) k r_port_Job_settle [] [] args h) = port_Job_settle k D := by kernel_rfl
theorem ok_port_Job_settle {D : CallF} (hD : CSound Try.prog 0 D) (k : Nat) : EntOk Try.prog 0 (e_port_Job_settle k D) :=
 entOf_ok2 (mkC_sound hD (EntsOk.none)) Try.func79 rfl q_port_Job_settle rfl (t_port_Job_settle k D)
end Gs
namespace Gs
open Go Gx Go.Proofs
set_option maxRecDepth 100000
noncomputable def C_port_Start (k : Nat) (D : CallF) : CallF := mkC D [e_port_Job_settle k D]
noncomputable def port_Start (k : Nat) (D : CallF) (run_0 : Value) (h : AHeap) : Option (((Option Addr)) × AHeap) :=
 let h1 := AHeap.new h (.cells [.int .i64 0, .int .i64 0, .string (⟨#[]⟩ : ByteArray), .string (⟨#[]⟩ : ByteArray), .nilFunc, .bool false, .int .i64 0, .string (⟨#[]⟩ : ByteArray), .int .i64 0, .slice none 0 0, .slice none 0 0, .slice none 0 0, .slice none 0 0, .int .i64 0] 130 true 0)
 let h2 := AHeap.new h1 (.cells [.pointer (some (⟨h.next, 0, none⟩ : Addr))] 132 true 0)
 joinK (fun (j3 : Option Addr) (h4 : AHeap) =>
 (port_Job_settle k D j3 h4).bind fun r6 =>
 some (j3, r6.2)) fun j5 =>
 (Gx.isNil .f run_0).bind fun r7 =>
 (if (!r7) = true then
 (ldP (⟨h1.next, 0, none⟩ : Addr) h2).bind fun x8 =>
 callD (C_port_Start k D) run_0 [.pointer x8] h2 fun _ h10 =>
 j5 (some (⟨h1.next, 0, none⟩ : Addr)) h10
 else
 j5 (some (⟨h1.next, 0, none⟩ : Addr)) h2)
noncomputable def r_port_Start : RCode := an (.s .n (.s .n (.s (.j [(3, .p)] .n) .n))) (rOf Try.prog 0 Try.f37)
noncomputable def e_port_Start (k : Nat) (D : CallF) : Ent := entOf 37 [(0, .v)] [(2, .p)] (port_Start k D)
theorem q_port_Start : (Try.f37.body).bind (rcodeOf Try.prog 0 Try.f37.ntmps) = some (strip r_port_Start) := by kernel_rfl
theorem t_port_Start (k : Nat) (D : CallF) : curF [(0, .v)] (fun args h => denF (C_port_Start k D) k r_port_Start [(2, .p)] [none] args h) = port_Start k D := by kernel_rfl
theorem ok_port_Start {D : CallF} (hD : CSound Try.prog 0 D) (k : Nat) : EntOk Try.prog 0 (e_port_Start k D) :=
 entOf_ok2 (mkC_sound hD (EntsOk.more (ok_port_Job_settle hD k) (EntsOk.none))) Try.func37 rfl q_port_Start rfl (t_port_Start k D)
end Gs
namespace Gs
open Go Gx Go.Proofs
set_option maxRecDepth 100000
noncomputable def C_port_List (k : Nat) (D : CallF) : CallF := mkC D [e_port_Start k D]
noncomputable def port_List (k : Nat) (D : CallF) (l_0 : Slc) (h : AHeap) : Option (((Option Addr)) × AHeap) :=
 let h1 := AHeap.new h (.cells [.slice l_0.a l_0.len l_0.cap] 51 true 0)
 (port_Start k D (.func (.func 71) ⟨[]⟩ ⟨[.pointer (some (⟨h.next, 0, none⟩ : Addr))]⟩) h1).bind fun r2 =>
 some (r2.1, r2.2)
noncomputable def r_port_List : RCode := an (.n) (rOf Try.prog 0 Try.f26)
noncomputable def e_port_List (k : Nat) (D : CallF) : Ent := entOf 26 [(0, .l)] [(2, .p)] (port_List k D)
theorem q_port_List : (Try.f26.body).bind (rcodeOf Try.prog 0 Try.f26.ntmps) = some (strip r_port_List) := by kernel_rfl
theorem t_port_List (k : Nat) (D : CallF) : curF [(0, .l)] (fun args h => denF (C_port_List k D) k r_port_List [(2, .p)] [none] args h) = port_List k D := by kernel_rfl
theorem ok_port_List {D : CallF} (hD : CSound Try.prog 0 D) (k : Nat) : EntOk Try.prog 0 (e_port_List k D) :=
 entOf_ok2 (mkC_sound hD (EntsOk.more (ok_port_Start hD k) (EntsOk.none))) Try.func26 rfl q_port_List rfl (t_port_List k D)
end Gs
namespace Gs
open Go Gx Go.Proofs
set_option maxRecDepth 100000
noncomputable def C_slices_Clone_string_string (_k : Nat) (D : CallF) : CallF := mkC D []
noncomputable def slices_Clone_string_string (_k : Nat) (_D : CallF) (s_0 : Slc) (h : AHeap) : Option ((Slc) × AHeap) :=
 (if s_0.a.isNone = true then
 some ((⟨none, 0, 0⟩ : Slc), h)
 else
 let h1 := AHeap.new h (.cells [] 9 true 0)
 (rdS 1 s_0 h1).bind fun n3 =>
 (appendA 1 16 9 h1 (⟨(some ⟨h.next, 0, some 0⟩), 0, 0⟩ : Slc) n3 s_0.len).bind fun r2 =>
 some (r2.1, r2.2))
noncomputable def r_slices_Clone_string_string : RCode := an (.n) (rOf Try.prog 0 Try.f75)
noncomputable def e_slices_Clone_string_string (k : Nat) (D : CallF) : Ent := entOf 75 [(0, .l)] [(2, .l)] (slices_Clone_string_string k D)
theorem q_slices_Clone_string_string : (Try.f75.body).bind (rcodeOf Try.prog 0 Try.f75.ntmps) = some (strip r_slices_Clone_string_string) := by kernel_rfl
theorem t_slices_Clone_string_string (k : Nat) (D : CallF) : curF [(0, .l)] (fun args h => denF (C_slices_Clone_string_string k D) k r_slices_Clone_string_string [(2, .l)] [none] args h) = slices_Clone_string_string k D := by kernel_rfl
theorem ok_slices_Clone_string_string {D : CallF} (hD : CSound Try.prog 0 D) (k : Nat) : EntOk Try.prog 0 (e_slices_Clone_string_string k D) :=
 entOf_ok2 (mkC_sound hD (EntsOk.none)) Try.func75 rfl q_slices_Clone_string_string rfl (t_slices_Clone_string_string k D)
end Gs
namespace Gs
open Go Gx Go.Proofs
set_option maxRecDepth 100000
noncomputable def C_port_Job_Give (k : Nat) (D : CallF) : CallF := mkC D [e_slices_Clone_string_string k D, e_port_Job_settle k D]
noncomputable def port_Job_Give (k : Nat) (D : CallF) (j_0 : Option Addr) (r_1 : Int × ByteArray × Slc) (h : AHeap) : Option ((Int) × AHeap) :=
 let h1 := AHeap.new h (.cells [.int .i64 r_1.1, .string r_1.2.1, .slice r_1.2.2.a r_1.2.2.len r_1.2.2.cap] 29 true 0)
 (j_0).bind fun p2 =>
 (ldP (⟨p2.block, p2.off + 0, none⟩ : Addr) h1).bind fun x3 =>
 (x3).bind fun p4 =>
 (ldB (⟨p4.block, p4.off + 5, none⟩ : Addr) h1).bind fun x5 =>
 (if x5 = true then
 some (310, h1)
 else
 (j_0).bind fun p6 =>
 (ldP (⟨p6.block, p6.off + 0, none⟩ : Addr) h1).bind fun x7 =>
 (x7).bind fun p8 =>
 (ldV (⟨p8.block, p8.off + 4, none⟩ : Addr) h1).bind fun x9 =>
 (j_0).bind fun p10 =>
 (ldP (⟨p10.block, p10.off + 0, none⟩ : Addr) h1).bind fun x11 =>
 (x11).bind fun p12 =>
 (st1 (⟨p12.block, p12.off + 4, none⟩ : Addr) (.nilFunc) h1).bind fun h13 =>
 (j_0).bind fun p14 =>
 (ldP (⟨p14.block, p14.off + 0, none⟩ : Addr) h13).bind fun x15 =>
 (x15).bind fun p16 =>
 (ldI .i64 (⟨p16.block, p16.off + 13, none⟩ : Addr) h13).bind fun x17 =>
 (x15).bind fun p18 =>
 (st1 (⟨p18.block, p18.off + 13, none⟩ : Addr) (.int .i64 (IntKind.wrap .i64 (x17 + 1))) h13).bind fun h19 =>
 (ldL (⟨h.next, 2, none⟩ : Addr) h19).bind fun x20 =>
 (slices_Clone_string_string k D x20 h19).bind fun r21 =>
 (st1 (⟨h.next, 2, none⟩ : Addr) (.slice r21.1.a r21.1.len r21.1.cap) r21.2).bind fun h22 =>
 (ldA 3 (⟨h.next, 0, none⟩ : Addr) h22).bind fun l23 =>
 (decC [.i .i64, .s, .l] l23).bind fun x24 =>
 callD (C_port_Job_Give k D) x9 [.agg ⟨[.int .i64 x24.1, .string x24.2.1, .slice x24.2.2.a x24.2.2.len x24.2.2.cap]⟩] h22 fun _ h26 =>
 (port_Job_settle k D j_0 h26).bind fun r27 =>
 some (0, r27.2))
noncomputable def r_port_Job_Give : RCode := an (.s .n (.s .n (.s .n (.s .n (.s .n (.s .n (.s (.r [(1, .st [.i .i64, .s, .l])]) .n))))))) (rOf Try.prog 0 Try.f33)
noncomputable def e_port_Job_Give (k : Nat) (D : CallF) : Ent := entOf 33 [(0, .p), (1, .st [.i .i64, .s, .l])] [(4, .i .i64)] (port_Job_Give k D)
theorem q_port_Job_Give : (Try.f33.body).bind (rcodeOf Try.prog 0 Try.f33.ntmps) = some (strip r_port_Job_Give) := by kernel_rfl
theorem t_port_Job_Give (k : Nat) (D : CallF) : curF [(0, .p), (1, .st [.i .i64, .s, .l])] (fun args h => denF (C_port_Job_Give k D) k r_port_Job_Give [(4, .i .i64)] [none] args h) = port_Job_Give k D := by kernel_rfl
theorem ok_port_Job_Give {D : CallF} (hD : CSound Try.prog 0 D) (k : Nat) : EntOk Try.prog 0 (e_port_Job_Give k D) :=
 entOf_ok2 (mkC_sound hD (EntsOk.more (ok_slices_Clone_string_string hD k) (EntsOk.more (ok_port_Job_settle hD k) (EntsOk.none)))) Try.func33 rfl q_port_Job_Give rfl (t_port_Job_Give k D)
end Gs
namespace Gs
open Go Gx Go.Proofs
set_option maxRecDepth 100000
noncomputable def C_slices_Clone_api_Entry_api_Entry (_k : Nat) (D : CallF) : CallF := mkC D []
noncomputable def slices_Clone_api_Entry_api_Entry (_k : Nat) (_D : CallF) (s_0 : Slc) (h : AHeap) : Option ((Slc) × AHeap) :=
 (if s_0.a.isNone = true then
 some ((⟨none, 0, 0⟩ : Slc), h)
 else
 let h1 := AHeap.new h (.cells [] 136 true 0)
 (rdS 6 s_0 h1).bind fun n3 =>
 (appendA 6 64 136 h1 (⟨(some ⟨h.next, 0, some 0⟩), 0, 0⟩ : Slc) n3 s_0.len).bind fun r2 =>
 some (r2.1, r2.2))
noncomputable def r_slices_Clone_api_Entry_api_Entry : RCode := an (.n) (rOf Try.prog 0 Try.f76)
noncomputable def e_slices_Clone_api_Entry_api_Entry (k : Nat) (D : CallF) : Ent := entOf 76 [(0, .l)] [(2, .l)] (slices_Clone_api_Entry_api_Entry k D)
theorem q_slices_Clone_api_Entry_api_Entry : (Try.f76.body).bind (rcodeOf Try.prog 0 Try.f76.ntmps) = some (strip r_slices_Clone_api_Entry_api_Entry) := by kernel_rfl
theorem t_slices_Clone_api_Entry_api_Entry (k : Nat) (D : CallF) : curF [(0, .l)] (fun args h => denF (C_slices_Clone_api_Entry_api_Entry k D) k r_slices_Clone_api_Entry_api_Entry [(2, .l)] [none] args h) = slices_Clone_api_Entry_api_Entry k D := by kernel_rfl
theorem ok_slices_Clone_api_Entry_api_Entry {D : CallF} (hD : CSound Try.prog 0 D) (k : Nat) : EntOk Try.prog 0 (e_slices_Clone_api_Entry_api_Entry k D) :=
 entOf_ok2 (mkC_sound hD (EntsOk.none)) Try.func76 rfl q_slices_Clone_api_Entry_api_Entry rfl (t_slices_Clone_api_Entry_api_Entry k D)
end Gs
namespace Gs
open Go Gx Go.Proofs
set_option maxRecDepth 100000
noncomputable def C_slices_Clone_api_Snap_api_Snap (_k : Nat) (D : CallF) : CallF := mkC D []
noncomputable def slices_Clone_api_Snap_api_Snap (_k : Nat) (_D : CallF) (s_0 : Slc) (h : AHeap) : Option ((Slc) × AHeap) :=
 (if s_0.a.isNone = true then
 some ((⟨none, 0, 0⟩ : Slc), h)
 else
 let h1 := AHeap.new h (.cells [] 139 true 0)
 (rdS 6 s_0 h1).bind fun n3 =>
 (appendA 6 104 139 h1 (⟨(some ⟨h.next, 0, some 0⟩), 0, 0⟩ : Slc) n3 s_0.len).bind fun r2 =>
 some (r2.1, r2.2))
noncomputable def r_slices_Clone_api_Snap_api_Snap : RCode := an (.n) (rOf Try.prog 0 Try.f77)
noncomputable def e_slices_Clone_api_Snap_api_Snap (k : Nat) (D : CallF) : Ent := entOf 77 [(0, .l)] [(2, .l)] (slices_Clone_api_Snap_api_Snap k D)
theorem q_slices_Clone_api_Snap_api_Snap : (Try.f77.body).bind (rcodeOf Try.prog 0 Try.f77.ntmps) = some (strip r_slices_Clone_api_Snap_api_Snap) := by kernel_rfl
theorem t_slices_Clone_api_Snap_api_Snap (k : Nat) (D : CallF) : curF [(0, .l)] (fun args h => denF (C_slices_Clone_api_Snap_api_Snap k D) k r_slices_Clone_api_Snap_api_Snap [(2, .l)] [none] args h) = slices_Clone_api_Snap_api_Snap k D := by kernel_rfl
theorem ok_slices_Clone_api_Snap_api_Snap {D : CallF} (hD : CSound Try.prog 0 D) (k : Nat) : EntOk Try.prog 0 (e_slices_Clone_api_Snap_api_Snap k D) :=
 entOf_ok2 (mkC_sound hD (EntsOk.none)) Try.func77 rfl q_slices_Clone_api_Snap_api_Snap rfl (t_slices_Clone_api_Snap_api_Snap k D)
end Gs
namespace Gs
open Go Gx Go.Proofs
set_option maxRecDepth 100000
noncomputable def C_port_Job_Result (k : Nat) (D : CallF) : CallF := mkC D [e_slices_Clone_string_string k D, e_slices_Clone_api_Entry_api_Entry k D, e_slices_Clone_api_Snap_api_Snap k D]
noncomputable def port_Job_Result (k : Nat) (D : CallF) (j_0 : Option Addr) (h : AHeap) : Option (((Int × ByteArray × Int × Slc × Slc × Slc × Slc)) × AHeap) :=
 let h1 := AHeap.new h (.cells [.int .i64 0, .string ⟨#[]⟩, .int .i64 0, .slice none 0 0, .slice none 0 0, .slice none 0 0, .slice none 0 0] 60 true 0)
 (j_0).bind fun p2 =>
 (ldP (⟨p2.block, p2.off + 0, none⟩ : Addr) h1).bind fun x3 =>
 (x3).bind fun p4 =>
 (ldA 7 (⟨p4.block, p4.off + 6, none⟩ : Addr) h1).bind fun l5 =>
 (decC [.i .i64, .s, .i .i64, .l, .l, .l, .l] l5).bind fun x6 =>
 let h7 := AHeap.new h1 (.cells [.int .i64 0, .string ⟨#[]⟩, .int .i64 0, .slice none 0 0, .slice none 0 0, .slice none 0 0, .slice none 0 0] 60 true 0)
 (stL 7 (⟨h1.next, 0, none⟩ : Addr) ([.int .i64 x6.1, .string x6.2.1, .int .i64 x6.2.2.1, .slice x6.2.2.2.1.a x6.2.2.2.1.len x6.2.2.2.1.cap, .slice x6.2.2.2.2.1.a x6.2.2.2.2.1.len x6.2.2.2.2.1.cap, .slice x6.2.2.2.2.2.1.a x6.2.2.2.2.2.1.len x6.2.2.2.2.2.1.cap, .slice x6.2.2.2.2.2.2.a x6.2.2.2.2.2.2.len x6.2.2.2.2.2.2.cap]) h7).bind fun h8 =>
 (ldL (⟨h1.next, 3, none⟩ : Addr) h8).bind fun x9 =>
 (slices_Clone_string_string k D x9 h8).bind fun r10 =>
 (ldL (⟨h1.next, 4, none⟩ : Addr) r10.2).bind fun x11 =>
 guardP (SameW [h8] (fun H13 => (ldL (⟨h1.next, 4, none⟩ : Addr) H13).bind fun y12 => some (.slice y12.a y12.len y12.cap)) (.slice x11.a x11.len x11.cap)) (
 (slices_Clone_string_string k D x11 r10.2).bind fun r14 =>
 (st1 (⟨h1.next, 3, none⟩ : Addr) (.slice r10.1.a r10.1.len r10.1.cap) r14.2).bind fun h15 =>
 (st1 (⟨h1.next, 4, none⟩ : Addr) (.slice r14.1.a r14.1.len r14.1.cap) h15).bind fun h16 =>
 (ldL (⟨h1.next, 5, none⟩ : Addr) h16).bind fun x17 =>
 (slices_Clone_api_Entry_api_Entry k D x17 h16).bind fun r18 =>
 (ldL (⟨h1.next, 6, none⟩ : Addr) r18.2).bind fun x19 =>
 guardP (SameW [h16] (fun H21 => (ldL (⟨h1.next, 6, none⟩ : Addr) H21).bind fun y20 => some (.slice y20.a y20.len y20.cap)) (.slice x19.a x19.len x19.cap)) (
 (slices_Clone_api_Snap_api_Snap k D x19 r18.2).bind fun r22 =>
 (st1 (⟨h1.next, 5, none⟩ : Addr) (.slice r18.1.a r18.1.len r18.1.cap) r22.2).bind fun h23 =>
 (st1 (⟨h1.next, 6, none⟩ : Addr) (.slice r22.1.a r22.1.len r22.1.cap) h23).bind fun h24 =>
 (ldA 7 (⟨h1.next, 0, none⟩ : Addr) h24).bind fun l25 =>
 (decC [.i .i64, .s, .i .i64, .l, .l, .l, .l] l25).bind fun x26 =>
 (stL 7 (⟨h.next, 0, none⟩ : Addr) ([.int .i64 x26.1, .string x26.2.1, .int .i64 x26.2.2.1, .slice x26.2.2.2.1.a x26.2.2.2.1.len x26.2.2.2.1.cap, .slice x26.2.2.2.2.1.a x26.2.2.2.2.1.len x26.2.2.2.2.1.cap, .slice x26.2.2.2.2.2.1.a x26.2.2.2.2.2.1.len x26.2.2.2.2.2.1.cap, .slice x26.2.2.2.2.2.2.a x26.2.2.2.2.2.2.len x26.2.2.2.2.2.2.cap]) h24).bind fun h27 =>
 (ldA 7 (⟨h.next, 0, none⟩ : Addr) h27).bind fun l28 =>
 (decC [.i .i64, .s, .i .i64, .l, .l, .l, .l] l28).bind fun x29 =>
 some ((x29.1, x29.2.1, x29.2.2.1, x29.2.2.2.1, x29.2.2.2.2.1, x29.2.2.2.2.2.1, x29.2.2.2.2.2.2), h27)))
noncomputable def r_port_Job_Result : RCode := an (.s .n (.s (.r [(6, .st [.i .i64, .s, .i .i64, .l, .l, .l, .l])]) (.s .n (.s .n (.s (.r [(0, .st [.i .i64, .s, .i .i64, .l, .l, .l, .l])]) .n))))) (rOf Try.prog 0 Try.f31)
noncomputable def e_port_Job_Result (k : Nat) (D : CallF) : Ent := entOf 31 [(0, .p)] [(2, .st [.i .i64, .s, .i .i64, .l, .l, .l, .l])] (port_Job_Result k D)
theorem q_port_Job_Result : (Try.f31.body).bind (rcodeOf Try.prog 0 Try.f31.ntmps) = some (strip r_port_Job_Result) := by kernel_rfl
theorem t_port_Job_Result (k : Nat) (D : CallF) : curF [(0, .p)] (fun args h => denF (C_port_Job_Result k D) k r_port_Job_Result [(2, .st [.i .i64, .s, .i .i64, .l, .l, .l, .l])] [some (.agg 7)] args h) = port_Job_Result k D := by kernel_rfl
theorem ok_port_Job_Result {D : CallF} (hD : CSound Try.prog 0 D) (k : Nat) : EntOk Try.prog 0 (e_port_Job_Result k D) :=
 entOf_ok2 (mkC_sound hD (EntsOk.more (ok_slices_Clone_string_string hD k) (EntsOk.more (ok_slices_Clone_api_Entry_api_Entry hD k) (EntsOk.more (ok_slices_Clone_api_Snap_api_Snap hD k) (EntsOk.none))))) Try.func31 rfl q_port_Job_Result rfl (t_port_Job_Result k D)
end Gs
namespace Gs
open Go Gx Go.Proofs
set_option maxRecDepth 100000
noncomputable def C_port_Job_Next (_k : Nat) (D : CallF) : CallF := mkC D []
noncomputable def port_Job_Next (_k : Nat) (_D : CallF) (j_0 : Option Addr) (h : AHeap) : Option (((Int × Int × ByteArray × ByteArray) × Bool) × AHeap) :=
 let h1 := AHeap.new h (.cells [.int .i64 0, .int .i64 0, .string ⟨#[]⟩, .string ⟨#[]⟩] 32 true 0)
 (j_0).bind fun p2 =>
 (ldP (⟨p2.block, p2.off + 0, none⟩ : Addr) h1).bind fun x3 =>
 (x3).bind fun p4 =>
 (ldB (⟨p4.block, p4.off + 5, none⟩ : Addr) h1).bind fun x5 =>
 (if x5 = true then
 (stL 4 (⟨h.next, 0, none⟩ : Addr) ([.int .i64 0, .int .i64 0, .string (⟨#[]⟩ : ByteArray), .string (⟨#[]⟩ : ByteArray)]) h1).bind fun h6 =>
 (ldA 4 (⟨h.next, 0, none⟩ : Addr) h6).bind fun l7 =>
 (decC [.i .i64, .i .i64, .s, .s] l7).bind fun x8 =>
 some (((x8.1, x8.2.1, x8.2.2.1, x8.2.2.2), false), h6)
 else
 (j_0).bind fun p9 =>
 (ldP (⟨p9.block, p9.off + 0, none⟩ : Addr) h1).bind fun x10 =>
 (x10).bind fun p11 =>
 (ldA 4 (⟨p11.block, p11.off + 0, none⟩ : Addr) h1).bind fun l12 =>
 (decC [.i .i64, .i .i64, .s, .s] l12).bind fun x13 =>
 (stL 4 (⟨h.next, 0, none⟩ : Addr) ([.int .i64 x13.1, .int .i64 x13.2.1, .string x13.2.2.1, .string x13.2.2.2]) h1).bind fun h14 =>
 (ldA 4 (⟨h.next, 0, none⟩ : Addr) h14).bind fun l15 =>
 (decC [.i .i64, .i .i64, .s, .s] l15).bind fun x16 =>
 some (((x16.1, x16.2.1, x16.2.2.1, x16.2.2.2), true), h14))
noncomputable def r_port_Job_Next : RCode := an (.s .n (.s .n (.s (.r [(6, .st [.i .i64, .i .i64, .s, .s])]) .n))) (rOf Try.prog 0 Try.f27)
noncomputable def e_port_Job_Next (k : Nat) (D : CallF) : Ent := entOf 27 [(0, .p)] [(2, .st [.i .i64, .i .i64, .s, .s]), (3, .b)] (port_Job_Next k D)
theorem q_port_Job_Next : (Try.f27.body).bind (rcodeOf Try.prog 0 Try.f27.ntmps) = some (strip r_port_Job_Next) := by kernel_rfl
theorem t_port_Job_Next (k : Nat) (D : CallF) : curF [(0, .p)] (fun args h => denF (C_port_Job_Next k D) k r_port_Job_Next [(2, .st [.i .i64, .i .i64, .s, .s]), (3, .b)] [some (.agg 4), none] args h) = port_Job_Next k D := by kernel_rfl
theorem ok_port_Job_Next {D : CallF} (hD : CSound Try.prog 0 D) (k : Nat) : EntOk Try.prog 0 (e_port_Job_Next k D) :=
 entOf_ok2 (mkC_sound hD (EntsOk.none)) Try.func27 rfl q_port_Job_Next rfl (t_port_Job_Next k D)
end Gs
namespace Gs
open Go Gx Go.Proofs
set_option maxRecDepth 100000
noncomputable def C_port_Job_Over (_k : Nat) (D : CallF) : CallF := mkC D []
noncomputable def port_Job_Over (_k : Nat) (_D : CallF) (j_0 : Option Addr) (h : AHeap) : Option ((Bool) × AHeap) :=
 (j_0).bind fun p1 =>
 (ldP (⟨p1.block, p1.off + 0, none⟩ : Addr) h).bind fun x2 =>
 (x2).bind fun p3 =>
 (ldB (⟨p3.block, p3.off + 5, none⟩ : Addr) h).bind fun x4 =>
 some (x4, h)
noncomputable def r_port_Job_Over : RCode := an (.n) (rOf Try.prog 0 Try.f28)
noncomputable def e_port_Job_Over (k : Nat) (D : CallF) : Ent := entOf 28 [(0, .p)] [(2, .b)] (port_Job_Over k D)
theorem q_port_Job_Over : (Try.f28.body).bind (rcodeOf Try.prog 0 Try.f28.ntmps) = some (strip r_port_Job_Over) := by kernel_rfl
theorem t_port_Job_Over (k : Nat) (D : CallF) : curF [(0, .p)] (fun args h => denF (C_port_Job_Over k D) k r_port_Job_Over [(2, .b)] [none] args h) = port_Job_Over k D := by kernel_rfl
theorem ok_port_Job_Over {D : CallF} (hD : CSound Try.prog 0 D) (k : Nat) : EntOk Try.prog 0 (e_port_Job_Over k D) :=
 entOf_ok2 (mkC_sound hD (EntsOk.none)) Try.func28 rfl q_port_Job_Over rfl (t_port_Job_Over k D)
end Gs
namespace Gs
open Go Gx Go.Proofs
set_option maxRecDepth 100000
noncomputable def C_port_Job_Steps (_k : Nat) (D : CallF) : CallF := mkC D []
noncomputable def port_Job_Steps (_k : Nat) (_D : CallF) (j_0 : Option Addr) (h : AHeap) : Option ((Int) × AHeap) :=
 (j_0).bind fun p1 =>
 (ldP (⟨p1.block, p1.off + 0, none⟩ : Addr) h).bind fun x2 =>
 (x2).bind fun p3 =>
 (ldI .i64 (⟨p3.block, p3.off + 13, none⟩ : Addr) h).bind fun x4 =>
 some (x4, h)
noncomputable def r_port_Job_Steps : RCode := an (.n) (rOf Try.prog 0 Try.f29)
noncomputable def e_port_Job_Steps (k : Nat) (D : CallF) : Ent := entOf 29 [(0, .p)] [(2, .i .i64)] (port_Job_Steps k D)
theorem q_port_Job_Steps : (Try.f29.body).bind (rcodeOf Try.prog 0 Try.f29.ntmps) = some (strip r_port_Job_Steps) := by kernel_rfl
theorem t_port_Job_Steps (k : Nat) (D : CallF) : curF [(0, .p)] (fun args h => denF (C_port_Job_Steps k D) k r_port_Job_Steps [(2, .i .i64)] [none] args h) = port_Job_Steps k D := by kernel_rfl
theorem ok_port_Job_Steps {D : CallF} (hD : CSound Try.prog 0 D) (k : Nat) : EntOk Try.prog 0 (e_port_Job_Steps k D) :=
 entOf_ok2 (mkC_sound hD (EntsOk.none)) Try.func29 rfl q_port_Job_Steps rfl (t_port_Job_Steps k D)
end Gs
namespace Gs
open Go Gx Go.Proofs
set_option maxRecDepth 100000
end Gs
namespace Gs
open Go Gx Go.Proofs
set_option maxRecDepth 100000
end Gs
namespace Gs
open Go Gx Go.Proofs
set_option maxRecDepth 100000
end Gs
namespace Gs
open Go Gx Go.Proofs
set_option maxRecDepth 100000
end Gs
namespace Gs
open Go Gx Go.Proofs
set_option maxRecDepth 100000
noncomputable def C_port_Answer (k : Nat) (D : CallF) : CallF := mkC D [e_store_Store_Do k D]
noncomputable def port_Answer (k : Nat) (D : CallF) (stores_0 : Slc) (r_1 : Int × Int × ByteArray × ByteArray) (h : AHeap) : Option (((Int × ByteArray × Slc)) × AHeap) :=
 let h1 := AHeap.new h (.cells [.int .i64 r_1.1, .int .i64 r_1.2.1, .string r_1.2.2.1, .string r_1.2.2.2] 32 true 0)
 let h2 := AHeap.new h1 (.cells [.int .i64 0, .string ⟨#[]⟩, .slice none 0 0] 29 true 0)
 joinK (fun (stores3 : Slc) (r4 : Option Addr) (y5 : Option Addr) (y6 : Bool) (h7 : AHeap) =>
 (if y6 = true then
 (y5).bind fun p9 =>
 (stL 3 p9 ([.int .i64 1, .string (⟨#[]⟩ : ByteArray), .slice none 0 0]) h7).bind fun h10 =>
 (y5).bind fun p11 =>
 (ldA 3 p11 h10).bind fun l12 =>
 (decC [.i .i64, .s, .l] l12).bind fun x13 =>
 some ((x13.1, x13.2.1, x13.2.2), h10)
 else
 (r4).bind fun p14 =>
 (ldI .i64 (⟨p14.block, p14.off + 0, none⟩ : Addr) h7).bind fun x15 =>
 (Gx.idxL 1 stores3 x15).bind fun q16 =>
 (ldP q16 h7).bind fun x17 =>
 (r4).bind fun p18 =>
 (ldA 4 p18 h7).bind fun l19 =>
 (decC [.i .i64, .i .i64, .s, .s] l19).bind fun x20 =>
 (store_Store_Do k D x17 (x20.1, x20.2.1, x20.2.2.1, x20.2.2.2) h7).bind fun r21 =>
 (y5).bind fun p22 =>
 (stL 3 p22 ([.int .i64 r21.1.1, .string r21.1.2.1, .slice r21.1.2.2.a r21.1.2.2.len r21.1.2.2.cap]) r21.2).bind fun h23 =>
 (y5).bind fun p24 =>
 (ldA 3 p24 h23).bind fun l25 =>
 (decC [.i .i64, .s, .l] l25).bind fun x26 =>
 some ((x26.1, x26.2.1, x26.2.2), h23))) fun j8 =>
 (ldI .i64 (⟨h.next, 0, none⟩ : Addr) h2).bind fun x27 =>
 (if (decide (x27 < 0)) = true then
 j8 stores_0 (some (⟨h.next, 0, none⟩ : Addr)) (some (⟨h1.next, 0, none⟩ : Addr)) true h2
 else
 (ldI .i64 (⟨h.next, 0, none⟩ : Addr) h2).bind fun x28 =>
 (if (decide (x28 ≥ (stores_0.len : Int))) = true then
 j8 stores_0 (some (⟨h.next, 0, none⟩ : Addr)) (some (⟨h1.next, 0, none⟩ : Addr)) true h2
 else
 (ldI .i64 (⟨h.next, 0, none⟩ : Addr) h2).bind fun x29 =>
 (Gx.idxL 1 stores_0 x29).bind fun q30 =>
 (ldP q30 h2).bind fun x31 =>
 j8 stores_0 (some (⟨h.next, 0, none⟩ : Addr)) (some (⟨h1.next, 0, none⟩ : Addr)) x31.isNone h2))
noncomputable def r_port_Answer : RCode := an (.s .n (.s (.s (.j [(0, .l), (3, .p), (4, .p), (22, .b)] .n) .n) (.s (.r [(5, .st [.i .i64, .i .i64, .s, .s])]) .n))) (rOf Try.prog 0 Try.f80)
noncomputable def e_port_Answer (k : Nat) (D : CallF) : Ent := entOf 80 [(0, .l), (1, .st [.i .i64, .i .i64, .s, .s])] [(4, .st [.i .i64, .s, .l])] (port_Answer k D)
theorem q_port_Answer : (Try.f80.body).bind (rcodeOf Try.prog 0 Try.f80.ntmps) = some (strip r_port_Answer) := by kernel_rfl
theorem t_port_Answer (k : Nat) (D : CallF) : curF [(0, .l), (1, .st [.i .i64, .i .i64, .s, .s])] (fun args h => denF (C_port_Answer k D) k r_port_Answer [(4, .st [.i .i64, .s, .l])] [some (.agg 3)] args h) = port_Answer k D := by kernel_rfl
theorem ok_port_Answer {D : CallF} (hD : CSound Try.prog 0 D) (k : Nat) : EntOk Try.prog 0 (e_port_Answer k D) :=
 entOf_ok2 (mkC_sound hD (EntsOk.more (ok_store_Store_Do hD k) (EntsOk.none))) Try.func80 rfl q_port_Answer rfl (t_port_Answer k D)
end Gs
namespace Gs
open Go Gx Go.Proofs
set_option maxRecDepth 100000
noncomputable def C_port_Run (k : Nat) (D : CallF) : CallF := mkC D [e_port_Job_Over k D, e_port_Job_Next k D, e_port_Answer k D, e_port_Job_Give k D]
noncomputable def port_Run_l0b (k : Nat) (D : CallF) (j4 : (Option Addr) → Int → AHeap → Option ((Int × Int) × AHeap)) (rec11 : (Option Addr) → Slc → Int → Int → AHeap → Option ((Int × Int) × AHeap)) (j6 : Option Addr) (stores7 : Slc) (most8 : Int) (steps9 : Int) (h10 : AHeap) : Option ((Int × Int) × AHeap) :=
 (if (decide (steps9 < most8)) = true then
 (port_Job_Next k D j6 h10).bind fun r12 =>
 let h13 := AHeap.new r12.2 (.cells [.int .i64 0, .int .i64 0, .string ⟨#[]⟩, .string ⟨#[]⟩] 32 true 0)
 (stL 4 (⟨r12.2.next, 0, none⟩ : Addr) ([.int .i64 r12.1.1.1, .int .i64 r12.1.1.2.1, .string r12.1.1.2.2.1, .string r12.1.1.2.2.2]) h13).bind fun h14 =>
 (if (!r12.1.2) = true then
 some ((steps9, 0), h14)
 else
 (ldA 4 (⟨r12.2.next, 0, none⟩ : Addr) h14).bind fun l15 =>
 (decC [.i .i64, .i .i64, .s, .s] l15).bind fun x16 =>
 (port_Answer k D stores7 (x16.1, x16.2.1, x16.2.2.1, x16.2.2.2) h14).bind fun r17 =>
 (port_Job_Give k D j6 (r17.1.1, r17.1.2.1, r17.1.2.2) r17.2).bind fun r18 =>
 rec11 j6 stores7 most8 (IntKind.wrap .i64 (steps9 + 1)) r18.2)
 else
 j4 j6 steps9 h10)
noncomputable def port_Run_l0 (k : Nat) (D : CallF) (j4 : (Option Addr) → Int → AHeap → Option ((Int × Int) × AHeap)) : (Option Addr) → Slc → Int → Int → AHeap → Option ((Int × Int) × AHeap) :=
 iterK (α := (Option Addr) → Slc → Int → Int → AHeap → Option ((Int × Int) × AHeap)) (fun _ _ _ _ _ => none) k (port_Run_l0b k D j4)
noncomputable def port_Run (k : Nat) (D : CallF) (j_0 : Option Addr) (stores_1 : Slc) (most_2 : Int) (h : AHeap) : Option ((Int × Int) × AHeap) :=
 (if j_0.isNone = true then
 some ((0, 4), h)
 else
 (if (decide (most_2 < 0)) = true then
 some ((0, 1), h)
 else
 joinK (fun (j1 : Option Addr) (steps2 : Int) (h3 : AHeap) =>
 (port_Job_Over k D j1 h3).bind fun r5 =>
 (if (!r5.1) = true then
 some ((steps2, 2), r5.2)
 else
 some ((steps2, 0), r5.2))) fun j4 =>
 port_Run_l0 k D j4 j_0 stores_1 most_2 0 h))
noncomputable def r_port_Run : RCode := an (.s .n (.s .n (.s (.j [(0, .p), (6, .i .i64)] (.b (.l [(0, .p), (1, .l), (2, .i .i64), (6, .i .i64)] (.s .n (.s (.b (.s .n (.s .n (.r [(2, .st [.i .i64, .i .i64, .s, .s])])))) .n))))) .n))) (rOf Try.prog 0 Try.f36)
noncomputable def e_port_Run (k : Nat) (D : CallF) : Ent := entOf 36 [(0, .p), (1, .l), (2, .i .i64)] [(6, .i .i64), (7, .i .i64)] (port_Run k D)
theorem q_port_Run : (Try.f36.body).bind (rcodeOf Try.prog 0 Try.f36.ntmps) = some (strip r_port_Run) := by kernel_rfl
theorem t_port_Run (k : Nat) (D : CallF) : curF [(0, .p), (1, .l), (2, .i .i64)] (fun args h => denF (C_port_Run k D) k r_port_Run [(6, .i .i64), (7, .i .i64)] [none, none] args h) = port_Run k D := by kernel_rfl
theorem ok_port_Run {D : CallF} (hD : CSound Try.prog 0 D) (k : Nat) : EntOk Try.prog 0 (e_port_Run k D) :=
 entOf_ok2 (mkC_sound hD (EntsOk.more (ok_port_Job_Over hD k) (EntsOk.more (ok_port_Job_Next hD k) (EntsOk.more (ok_port_Answer hD k) (EntsOk.more (ok_port_Job_Give hD k) (EntsOk.none)))))) Try.func36 rfl q_port_Run rfl (t_port_Run k D)
end Gs
namespace Gs
open Go Gx Go.Proofs
set_option maxRecDepth 100000
noncomputable def C_law08_works (k : Nat) (D : CallF) : CallF := mkC D [e_store_New k D, e_port_List k D, e_port_Run k D, e_port_Job_Result k D, e_book_SameTexts k D]
noncomputable def law08_works (k : Nat) (D : CallF)  (h : AHeap) : Option ((Bool) × AHeap) :=
 (store_New k D 100 h).bind fun r1 =>
 joinK (fun (s2 : Option Addr) (y3 : Bool) (h4 : AHeap) =>
 (if y3 = true then
 some (false, h4)
 else
 let h6 := AHeap.new h4 (.cells [.int .i64 0, .int .i64 1, .string (⟨#[97]⟩ : ByteArray), .string (⟨#[98]⟩ : ByteArray), .int .i64 0, .int .i64 2, .string (⟨#[97]⟩ : ByteArray), .string (⟨#[]⟩ : ByteArray)] 32 true 0)
 (port_List k D (⟨(some ⟨h4.next, 0, some 0⟩), 2, 2⟩ : Slc) h6).bind fun r7 =>
 (if r7.1.isNone = true then
 some (false, r7.2)
 else
 let h8 := AHeap.new r7.2 (.cells [.pointer s2] 23 true 0)
 (port_Run k D r7.1 (⟨(some ⟨r7.2.next, 0, some 0⟩), 1, 1⟩ : Slc) 9 h8).bind fun r9 =>
 (port_Job_Result k D r7.1 r9.2).bind fun r10 =>
 let h11 := AHeap.new r10.2 (.cells [.int .i64 0, .string ⟨#[]⟩, .int .i64 0, .slice none 0 0, .slice none 0 0, .slice none 0 0, .slice none 0 0] 60 true 0)
 (stL 7 (⟨r10.2.next, 0, none⟩ : Addr) ([.int .i64 r10.1.1, .string r10.1.2.1, .int .i64 r10.1.2.2.1, .slice r10.1.2.2.2.1.a r10.1.2.2.2.1.len r10.1.2.2.2.1.cap, .slice r10.1.2.2.2.2.1.a r10.1.2.2.2.2.1.len r10.1.2.2.2.2.1.cap, .slice r10.1.2.2.2.2.2.1.a r10.1.2.2.2.2.2.1.len r10.1.2.2.2.2.2.1.cap, .slice r10.1.2.2.2.2.2.2.a r10.1.2.2.2.2.2.2.len r10.1.2.2.2.2.2.2.cap]) h11).bind fun h12 =>
 (if (r9.1.1 == 2) = true then
 (if (r9.1.2 == 0) = true then
 (ldI .i64 (⟨r10.2.next, 2, none⟩ : Addr) h12).bind fun x13 =>
 (if (x13 == 2) = true then
 (ldL (⟨r10.2.next, 4, none⟩ : Addr) h12).bind fun x14 =>
 let h15 := AHeap.new h12 (.cells [.string (⟨#[]⟩ : ByteArray), .string (⟨#[98]⟩ : ByteArray)] 9 true 0)
 (book_SameTexts k D x14 (⟨(some ⟨h12.next, 0, some 0⟩), 2, 2⟩ : Slc) h15).bind fun r16 =>
 some (r16.1, r16.2)
 else
 some (false, h12))
 else
 some (false, h12))
 else
 some (false, h12))))) fun j5 =>
 (if r1.1.1.isNone = true then
 j5 r1.1.1 true r1.2
 else
 j5 r1.1.1 (r1.1.2 != 0) r1.2)
noncomputable def r_law08_works : RCode := an (.s .n (.s .n (.s (.s (.j [(1, .p), (15, .b)] .n) .n) .n))) (rOf Try.prog 0 Try.f25)
noncomputable def e_law08_works (k : Nat) (D : CallF) : Ent := entOf 25 [] [(0, .b)] (law08_works k D)
theorem q_law08_works : (Try.f25.body).bind (rcodeOf Try.prog 0 Try.f25.ntmps) = some (strip r_law08_works) := by kernel_rfl
theorem t_law08_works (k : Nat) (D : CallF) : curF [] (fun args h => denF (C_law08_works k D) k r_law08_works [(0, .b)] [none] args h) = law08_works k D := by kernel_rfl
theorem ok_law08_works {D : CallF} (hD : CSound Try.prog 0 D) (k : Nat) : EntOk Try.prog 0 (e_law08_works k D) :=
 entOf_ok2 (mkC_sound hD (EntsOk.more (ok_store_New hD k) (EntsOk.more (ok_port_List hD k) (EntsOk.more (ok_port_Run hD k) (EntsOk.more (ok_port_Job_Result hD k) (EntsOk.more (ok_book_SameTexts hD k) (EntsOk.none))))))) Try.func25 rfl q_law08_works rfl (t_law08_works k D)
end Gs
namespace Gs
open Go Gx Go.Proofs
set_option maxRecDepth 100000
noncomputable def C_law08_small (_k : Nat) (D : CallF) : CallF := mkC D []
noncomputable def law08_small_l0b (_k : Nat) (_D : CallF) (j3 : Slc → AHeap → Option ((Bool) × AHeap)) (rec7 : Slc → Int → AHeap → Option ((Bool) × AHeap)) (l4 : Slc) (i5 : Int) (h6 : AHeap) : Option ((Bool) × AHeap) :=
 (if (decide (i5 < (l4.len : Int))) = true then
 joinK (fun (l8 : Slc) (i9 : Int) (y10 : Bool) (h11 : AHeap) =>
 (if y10 = true then
 some (false, h11)
 else
 rec7 l8 (IntKind.wrap .i64 (i9 + 1)) h11)) fun j12 =>
 (Gx.idxL 4 l4 i5).bind fun q13 =>
 (ldS (⟨q13.block, q13.off + 3, none⟩ : Addr) h6).bind fun x14 =>
 (if (decide ((x14.size : Int) > 1000)) = true then
 (Gx.idxL 4 l4 i5).bind fun q15 =>
 (ldS (⟨q15.block, q15.off + 3, none⟩ : Addr) h6).bind fun x16 =>
 j12 l4 i5 (decide ((x16.size : Int) ≤ 131072)) h6
 else
 j12 l4 i5 false h6)
 else
 j3 l4 h6)
noncomputable def law08_small_l0 (k : Nat) (D : CallF) (j3 : Slc → AHeap → Option ((Bool) × AHeap)) : Slc → Int → AHeap → Option ((Bool) × AHeap) :=
 iterK (α := Slc → Int → AHeap → Option ((Bool) × AHeap)) (fun _ _ _ => none) k (law08_small_l0b k D j3)
noncomputable def law08_small (k : Nat) (D : CallF) (l_0 : Slc) (h : AHeap) : Option ((Bool) × AHeap) :=
 joinK (fun (l1 : Slc) (h2 : AHeap) =>
 some ((decide ((l1.len : Int) ≤ 60)), h2)) fun j3 =>
 law08_small_l0 k D j3 l_0 0 h
noncomputable def r_law08_small : RCode := an (.s .n (.s (.j [(0, .l)] (.s .n (.b (.l [(0, .l), (3, .i .i64)] (.s .n (.s (.b (.s (.j [(0, .l), (3, .i .i64), (25, .b)] .n) .n)) .n)))))) .n)) (rOf Try.prog 0 Try.f24)
noncomputable def e_law08_small (k : Nat) (D : CallF) : Ent := entOf 24 [(0, .l)] [(2, .b)] (law08_small k D)
theorem q_law08_small : (Try.f24.body).bind (rcodeOf Try.prog 0 Try.f24.ntmps) = some (strip r_law08_small) := by kernel_rfl
theorem t_law08_small (k : Nat) (D : CallF) : curF [(0, .l)] (fun args h => denF (C_law08_small k D) k r_law08_small [(2, .b)] [none] args h) = law08_small k D := by kernel_rfl
theorem ok_law08_small {D : CallF} (hD : CSound Try.prog 0 D) (k : Nat) : EntOk Try.prog 0 (e_law08_small k D) :=
 entOf_ok2 (mkC_sound hD (EntsOk.none)) Try.func24 rfl q_law08_small rfl (t_law08_small k D)
end Gs
namespace Gs
open Go Gx Go.Proofs
set_option maxRecDepth 100000
noncomputable def C_law08_sameResult (k : Nat) (D : CallF) : CallF := mkC D [e_book_SameTexts k D]
noncomputable def law08_sameResult (k : Nat) (D : CallF) (a_0 : Int × ByteArray × Int × Slc × Slc × Slc × Slc) (b_1 : Int × ByteArray × Int × Slc × Slc × Slc × Slc) (h : AHeap) : Option ((Bool) × AHeap) :=
 let h1 := AHeap.new h (.cells [.int .i64 a_0.1, .string a_0.2.1, .int .i64 a_0.2.2.1, .slice a_0.2.2.2.1.a a_0.2.2.2.1.len a_0.2.2.2.1.cap, .slice a_0.2.2.2.2.1.a a_0.2.2.2.2.1.len a_0.2.2.2.2.1.cap, .slice a_0.2.2.2.2.2.1.a a_0.2.2.2.2.2.1.len a_0.2.2.2.2.2.1.cap, .slice a_0.2.2.2.2.2.2.a a_0.2.2.2.2.2.2.len a_0.2.2.2.2.2.2.cap] 60 true 0)
 let h2 := AHeap.new h1 (.cells [.int .i64 b_1.1, .string b_1.2.1, .int .i64 b_1.2.2.1, .slice b_1.2.2.2.1.a b_1.2.2.2.1.len b_1.2.2.2.1.cap, .slice b_1.2.2.2.2.1.a b_1.2.2.2.2.1.len b_1.2.2.2.2.1.cap, .slice b_1.2.2.2.2.2.1.a b_1.2.2.2.2.2.1.len b_1.2.2.2.2.2.1.cap, .slice b_1.2.2.2.2.2.2.a b_1.2.2.2.2.2.2.len b_1.2.2.2.2.2.2.cap] 60 true 0)
 (ldI .i64 (⟨h.next, 0, none⟩ : Addr) h2).bind fun x3 =>
 (ldI .i64 (⟨h1.next, 0, none⟩ : Addr) h2).bind fun x4 =>
 (if (x3 == x4) = true then
 (ldS (⟨h.next, 1, none⟩ : Addr) h2).bind fun x5 =>
 (ldS (⟨h1.next, 1, none⟩ : Addr) h2).bind fun x6 =>
 (if (x5 == x6) = true then
 (ldI .i64 (⟨h.next, 2, none⟩ : Addr) h2).bind fun x7 =>
 (ldI .i64 (⟨h1.next, 2, none⟩ : Addr) h2).bind fun x8 =>
 (if (x7 == x8) = true then
 (ldL (⟨h.next, 3, none⟩ : Addr) h2).bind fun x9 =>
 (ldL (⟨h1.next, 3, none⟩ : Addr) h2).bind fun x10 =>
 (book_SameTexts k D x9 x10 h2).bind fun r11 =>
 (if r11.1 = true then
 (ldL (⟨h.next, 4, none⟩ : Addr) r11.2).bind fun x12 =>
 (ldL (⟨h1.next, 4, none⟩ : Addr) r11.2).bind fun x13 =>
 (book_SameTexts k D x12 x13 r11.2).bind fun r14 =>
 (if r14.1 = true then
 (ldL (⟨h.next, 5, none⟩ : Addr) r14.2).bind fun x15 =>
 (ldL (⟨h1.next, 5, none⟩ : Addr) r14.2).bind fun x16 =>
 (if ((x15.len : Int) == (x16.len : Int)) = true then
 (ldL (⟨h.next, 6, none⟩ : Addr) r14.2).bind fun x17 =>
 (ldL (⟨h1.next, 6, none⟩ : Addr) r14.2).bind fun x18 =>
 some (((x17.len : Int) == (x18.len : Int)), r14.2)
 else
 some (false, r14.2))
 else
 some (false, r14.2))
 else
 some (false, r11.2))
 else
 some (false, h2))
 else
 some (false, h2))
 else
 some (false, h2))
noncomputable def r_law08_sameResult : RCode := an (.n) (rOf Try.prog 0 Try.f30)
noncomputable def e_law08_sameResult (k : Nat) (D : CallF) : Ent := entOf 30 [(0, .st [.i .i64, .s, .i .i64, .l, .l, .l, .l]), (1, .st [.i .i64, .s, .i .i64, .l, .l, .l, .l])] [(4, .b)] (law08_sameResult k D)
theorem q_law08_sameResult : (Try.f30.body).bind (rcodeOf Try.prog 0 Try.f30.ntmps) = some (strip r_law08_sameResult) := by kernel_rfl
theorem t_law08_sameResult (k : Nat) (D : CallF) : curF [(0, .st [.i .i64, .s, .i .i64, .l, .l, .l, .l]), (1, .st [.i .i64, .s, .i .i64, .l, .l, .l, .l])] (fun args h => denF (C_law08_sameResult k D) k r_law08_sameResult [(4, .b)] [none] args h) = law08_sameResult k D := by kernel_rfl
theorem ok_law08_sameResult {D : CallF} (hD : CSound Try.prog 0 D) (k : Nat) : EntOk Try.prog 0 (e_law08_sameResult k D) :=
 entOf_ok2 (mkC_sound hD (EntsOk.more (ok_book_SameTexts hD k) (EntsOk.none))) Try.func30 rfl q_law08_sameResult rfl (t_law08_sameResult k D)
end Gs
namespace Gs
open Go Gx Go.Proofs
set_option maxRecDepth 100000
noncomputable def C_ref08_List_Over (_k : Nat) (D : CallF) : CallF := mkC D []
noncomputable def ref08_List_Over (_k : Nat) (_D : CallF) (j_0 : Option Addr) (h : AHeap) : Option ((Bool) × AHeap) :=
 (j_0).bind fun p1 =>
 (ldI .i64 (⟨p1.block, p1.off + 1, none⟩ : Addr) h).bind fun x2 =>
 (j_0).bind fun p3 =>
 (ldL (⟨p3.block, p3.off + 0, none⟩ : Addr) h).bind fun x4 =>
 some ((decide (x2 ≥ (x4.len : Int))), h)
noncomputable def r_ref08_List_Over : RCode := an (.n) (rOf Try.prog 0 Try.f78)
noncomputable def e_ref08_List_Over (k : Nat) (D : CallF) : Ent := entOf 78 [(0, .p)] [(2, .b)] (ref08_List_Over k D)
theorem q_ref08_List_Over : (Try.f78.body).bind (rcodeOf Try.prog 0 Try.f78.ntmps) = some (strip r_ref08_List_Over) := by kernel_rfl
theorem t_ref08_List_Over (k : Nat) (D : CallF) : curF [(0, .p)] (fun args h => denF (C_ref08_List_Over k D) k r_ref08_List_Over [(2, .b)] [none] args h) = ref08_List_Over k D := by kernel_rfl
theorem ok_ref08_List_Over {D : CallF} (hD : CSound Try.prog 0 D) (k : Nat) : EntOk Try.prog 0 (e_ref08_List_Over k D) :=
 entOf_ok2 (mkC_sound hD (EntsOk.none)) Try.func78 rfl q_ref08_List_Over rfl (t_ref08_List_Over k D)
end Gs
namespace Gs
open Go Gx Go.Proofs
set_option maxRecDepth 100000
noncomputable def C_ref08_List_Result (k : Nat) (D : CallF) : CallF := mkC D [e_ref08_List_Over k D]
noncomputable def ref08_List_Result (k : Nat) (D : CallF) (j_0 : Option Addr) (h : AHeap) : Option (((Int × ByteArray × Int × Slc × Slc × Slc × Slc)) × AHeap) :=
 let h1 := AHeap.new h (.cells [.int .i64 0, .string ⟨#[]⟩, .int .i64 0, .slice none 0 0, .slice none 0 0, .slice none 0 0, .slice none 0 0] 60 true 0)
 (ref08_List_Over k D j_0 h1).bind fun r2 =>
 (if (!r2.1) = true then
 (stL 7 (⟨h.next, 0, none⟩ : Addr) ([.int .i64 0, .string (⟨#[]⟩ : ByteArray), .int .i64 0, .slice none 0 0, .slice none 0 0, .slice none 0 0, .slice none 0 0]) r2.2).bind fun h3 =>
 (ldA 7 (⟨h.next, 0, none⟩ : Addr) h3).bind fun l4 =>
 (decC [.i .i64, .s, .i .i64, .l, .l, .l, .l] l4).bind fun x5 =>
 some ((x5.1, x5.2.1, x5.2.2.1, x5.2.2.2.1, x5.2.2.2.2.1, x5.2.2.2.2.2.1, x5.2.2.2.2.2.2), h3)
 else
 (j_0).bind fun p6 =>
 (ldA 7 (⟨p6.block, p6.off + 2, none⟩ : Addr) r2.2).bind fun l7 =>
 (decC [.i .i64, .s, .i .i64, .l, .l, .l, .l] l7).bind fun x8 =>
 (stL 7 (⟨h.next, 0, none⟩ : Addr) ([.int .i64 x8.1, .string x8.2.1, .int .i64 x8.2.2.1, .slice x8.2.2.2.1.a x8.2.2.2.1.len x8.2.2.2.1.cap, .slice x8.2.2.2.2.1.a x8.2.2.2.2.1.len x8.2.2.2.2.1.cap, .slice x8.2.2.2.2.2.1.a x8.2.2.2.2.2.1.len x8.2.2.2.2.2.1.cap, .slice x8.2.2.2.2.2.2.a x8.2.2.2.2.2.2.len x8.2.2.2.2.2.2.cap]) r2.2).bind fun h9 =>
 (ldA 7 (⟨h.next, 0, none⟩ : Addr) h9).bind fun l10 =>
 (decC [.i .i64, .s, .i .i64, .l, .l, .l, .l] l10).bind fun x11 =>
 some ((x11.1, x11.2.1, x11.2.2.1, x11.2.2.2.1, x11.2.2.2.2.1, x11.2.2.2.2.2.1, x11.2.2.2.2.2.2), h9))
noncomputable def r_ref08_List_Result : RCode := an (.s .n (.s .n (.s (.r [(3, .st [.i .i64, .s, .i .i64, .l, .l, .l, .l])]) .n))) (rOf Try.prog 0 Try.f32)
noncomputable def e_ref08_List_Result (k : Nat) (D : CallF) : Ent := entOf 32 [(0, .p)] [(2, .st [.i .i64, .s, .i .i64, .l, .l, .l, .l])] (ref08_List_Result k D)
theorem q_ref08_List_Result : (Try.f32.body).bind (rcodeOf Try.prog 0 Try.f32.ntmps) = some (strip r_ref08_List_Result) := by kernel_rfl
theorem t_ref08_List_Result (k : Nat) (D : CallF) : curF [(0, .p)] (fun args h => denF (C_ref08_List_Result k D) k r_ref08_List_Result [(2, .st [.i .i64, .s, .i .i64, .l, .l, .l, .l])] [some (.agg 7)] args h) = ref08_List_Result k D := by kernel_rfl
theorem ok_ref08_List_Result {D : CallF} (hD : CSound Try.prog 0 D) (k : Nat) : EntOk Try.prog 0 (e_ref08_List_Result k D) :=
 entOf_ok2 (mkC_sound hD (EntsOk.more (ok_ref08_List_Over hD k) (EntsOk.none))) Try.func32 rfl q_ref08_List_Result rfl (t_ref08_List_Result k D)
end Gs
namespace Gs
open Go Gx Go.Proofs
set_option maxRecDepth 100000
noncomputable def C_ref08_List_Give (_k : Nat) (D : CallF) : CallF := mkC D []
noncomputable def ref08_List_Give (_k : Nat) (_D : CallF) (j_0 : Option Addr) (x_1 : Int × ByteArray × Slc) (h : AHeap) : Option ((Unit) × AHeap) :=
 let h1 := AHeap.new h (.cells [.int .i64 x_1.1, .string x_1.2.1, .slice x_1.2.2.a x_1.2.2.len x_1.2.2.cap] 29 true 0)
 (j_0).bind fun p2 =>
 (ldI .i64 (⟨p2.block, p2.off + 1, none⟩ : Addr) h1).bind fun x3 =>
 (j_0).bind fun p4 =>
 (st1 (⟨p4.block, p4.off + 1, none⟩ : Addr) (.int .i64 (IntKind.wrap .i64 (x3 + 1))) h1).bind fun h5 =>
 joinK (fun (j6 : Option Addr) (x7 : Option Addr) (h8 : AHeap) =>
 joinK (fun (j10 : Option Addr) (x11 : Option Addr) (h12 : AHeap) =>
 let h14 := AHeap.resv h12 2
 let h15 := AHeap.set h14 (h12.next + 0) (.cells [] 9 true 0)
 (j10).bind fun p16 =>
 (ldL (⟨p16.block, p16.off + 2 + 4, none⟩ : Addr) h15).bind fun x17 =>
 guardP (SameW [h14] (fun H19 => (ldL (⟨p16.block, p16.off + 2 + 4, none⟩ : Addr) H19).bind fun y18 => some (.slice y18.a y18.len y18.cap)) (.slice x17.a x17.len x17.cap)) (
 (rdS 1 x17 h15).bind fun n21 =>
 (appendA 1 16 9 h15 (⟨(some ⟨(h12.next + 0), 0, some 0⟩), 0, 0⟩ : Slc) n21 x17.len).bind fun r20 =>
 (x11).bind fun p22 =>
 (ldS (⟨p22.block, p22.off + 1, none⟩ : Addr) r20.2).bind fun x23 =>
 guardP (SameW [h15, h14] (fun H25 => (ldS (⟨p22.block, p22.off + 1, none⟩ : Addr) H25).bind fun y24 => some (.string y24)) (.string x23)) (
 let h26 := AHeap.set r20.2 (h12.next + 1) (.cells [.string x23] 9 true 0)
 (rdS 1 (⟨(some ⟨(h12.next + 1), 0, some 0⟩), 1, 1⟩ : Slc) h26).bind fun n28 =>
 (appendA 1 16 9 h26 r20.1 n28 1).bind fun r27 =>
 (j10).bind fun p29 =>
 (st1 (⟨p29.block, p29.off + 2 + 4, none⟩ : Addr) (.slice r27.1.a r27.1.len r27.1.cap) r27.2).bind fun h30 =>
 let h31 := AHeap.new h30 (.cells [] 9 true 0)
 (j10).bind fun p32 =>
 (ldL (⟨p32.block, p32.off + 2 + 3, none⟩ : Addr) h31).bind fun x33 =>
 guardP (SameW [h30] (fun H35 => (ldL (⟨p32.block, p32.off + 2 + 3, none⟩ : Addr) H35).bind fun y34 => some (.slice y34.a y34.len y34.cap)) (.slice x33.a x33.len x33.cap)) (
 (rdS 1 x33 h31).bind fun n37 =>
 (appendA 1 16 9 h31 (⟨(some ⟨h30.next, 0, some 0⟩), 0, 0⟩ : Slc) n37 x33.len).bind fun r36 =>
 (x11).bind fun p38 =>
 (ldL (⟨p38.block, p38.off + 2, none⟩ : Addr) r36.2).bind fun x39 =>
 guardP (SameW [h31, h30] (fun H41 => (ldL (⟨p38.block, p38.off + 2, none⟩ : Addr) H41).bind fun y40 => some (.slice y40.a y40.len y40.cap)) (.slice x39.a x39.len x39.cap)) (
 (rdS 1 x39 r36.2).bind fun n43 =>
 (appendA 1 16 9 r36.2 r36.1 n43 x39.len).bind fun r42 =>
 (j10).bind fun p44 =>
 (st1 (⟨p44.block, p44.off + 2 + 3, none⟩ : Addr) (.slice r42.1.a r42.1.len r42.1.cap) r42.2).bind fun h45 =>
 some ((), h45)))))) fun j13 =>
 joinK (fun (j46 : Option Addr) (x47 : Option Addr) (y48 : Bool) (h49 : AHeap) =>
 (if y48 = true then
 (x47).bind fun p51 =>
 (ldI .i64 (⟨p51.block, p51.off + 0, none⟩ : Addr) h49).bind fun x52 =>
 (j46).bind fun p53 =>
 (st1 (⟨p53.block, p53.off + 2 + 0, none⟩ : Addr) (.int .i64 x52) h49).bind fun h54 =>
 j13 j46 x47 h54
 else
 j13 j46 x47 h49)) fun j50 =>
 (x7).bind fun p55 =>
 (ldI .i64 (⟨p55.block, p55.off + 0, none⟩ : Addr) h8).bind fun x56 =>
 (if (x56 != 0) = true then
 (j6).bind fun p57 =>
 (ldI .i64 (⟨p57.block, p57.off + 2 + 0, none⟩ : Addr) h8).bind fun x58 =>
 j50 j6 x7 (x58 == 0) h8
 else
 j50 j6 x7 false h8)) fun j9 =>
 (ldI .i64 (⟨h.next, 0, none⟩ : Addr) h5).bind fun x59 =>
 (if (x59 == 0) = true then
 (j_0).bind fun p60 =>
 (ldI .i64 (⟨p60.block, p60.off + 2 + 2, none⟩ : Addr) h5).bind fun x61 =>
 (j_0).bind fun p62 =>
 (st1 (⟨p62.block, p62.off + 2 + 2, none⟩ : Addr) (.int .i64 (IntKind.wrap .i64 (x61 + 1))) h5).bind fun h63 =>
 j9 j_0 (some (⟨h.next, 0, none⟩ : Addr)) h63
 else
 j9 j_0 (some (⟨h.next, 0, none⟩ : Addr)) h5)
noncomputable def r_ref08_List_Give : RCode := an (.s .n (.s .n (.s (.j [(0, .p), (3, .p)] .n) (.s (.j [(0, .p), (3, .p)] (.s (.j [(0, .p), (3, .p), (33, .b)] .n) .n)) .n)))) (rOf Try.prog 0 Try.f34)
noncomputable def e_ref08_List_Give (k : Nat) (D : CallF) : Ent := entOf 34 [(0, .p), (1, .st [.i .i64, .s, .l])] [] (ref08_List_Give k D)
theorem q_ref08_List_Give : (Try.f34.body).bind (rcodeOf Try.prog 0 Try.f34.ntmps) = some (strip r_ref08_List_Give) := by kernel_rfl
theorem t_ref08_List_Give (k : Nat) (D : CallF) : curF [(0, .p), (1, .st [.i .i64, .s, .l])] (fun args h => denF (C_ref08_List_Give k D) k r_ref08_List_Give [] [] args h) = ref08_List_Give k D := by kernel_rfl
theorem ok_ref08_List_Give {D : CallF} (hD : CSound Try.prog 0 D) (k : Nat) : EntOk Try.prog 0 (e_ref08_List_Give k D) :=
 entOf_ok2 (mkC_sound hD (EntsOk.none)) Try.func34 rfl q_ref08_List_Give rfl (t_ref08_List_Give k D)
end Gs
namespace Gs
open Go Gx Go.Proofs
set_option maxRecDepth 100000
noncomputable def C_law08_PortLists (k : Nat) (D : CallF) : CallF := mkC D [e_law08_works k D, e_port_List k D, e_port_Job_Next k D, e_port_Job_Over k D, e_port_Job_Steps k D, e_port_Job_Result k D, e_ref08_List_Result k D, e_law08_sameResult k D, e_port_Job_Give k D, e_ref08_List_Give k D, e_law08_small k D]
noncomputable def law08_PortLists_l1b (_k : Nat) (_D : CallF) (j24 : Slc → Slc → (Option Addr) → (Option Addr) → AHeap → Option ((Bool) × AHeap)) (rec97 : Slc → Slc → Slc → (Option Addr) → (Option Addr) → Int → AHeap → Option ((Bool) × AHeap)) (l90 : Slc) (answers91 : Slc) (own92 : Slc) (j93 : Option Addr) (kv94 : Option Addr) (i95 : Int) (h96 : AHeap) : Option ((Bool) × AHeap) :=
 (if (decide (i95 < (l90.len : Int))) = true then
 (Gx.idxL 4 own92 i95).bind fun q98 =>
 (stL 4 q98 ([.int .i64 0, .int .i64 0, .string (⟨#[115, 112, 111, 105, 108, 116]⟩ : ByteArray), .string (⟨#[]⟩ : ByteArray)]) h96).bind fun h99 =>
 rec97 l90 answers91 own92 j93 kv94 (IntKind.wrap .i64 (i95 + 1)) h99
 else
 j24 l90 answers91 j93 kv94 h96)
noncomputable def law08_PortLists_l1 (k : Nat) (D : CallF) (j24 : Slc → Slc → (Option Addr) → (Option Addr) → AHeap → Option ((Bool) × AHeap)) : Slc → Slc → Slc → (Option Addr) → (Option Addr) → Int → AHeap → Option ((Bool) × AHeap) :=
 iterK (α := Slc → Slc → Slc → (Option Addr) → (Option Addr) → Int → AHeap → Option ((Bool) × AHeap)) (fun _ _ _ _ _ _ _ => none) k (law08_PortLists_l1b k D j24)
noncomputable def law08_PortLists_l0b (k : Nat) (D : CallF) (j29 : Slc → (Option Addr) → (Option Addr) → AHeap → Option ((Bool) × AHeap)) (rec46 : Slc → Slc → (Option Addr) → (Option Addr) → Int → AHeap → Option ((Bool) × AHeap)) (l40 : Slc) (answers41 : Slc) (j42 : Option Addr) (kv43 : Option Addr) (i44 : Int) (h45 : AHeap) : Option ((Bool) × AHeap) :=
 (if (decide (i44 < (l40.len : Int))) = true then
 (port_Job_Next k D j42 h45).bind fun r47 =>
 let h48 := AHeap.new r47.2 (.cells [.int .i64 0, .int .i64 0, .string ⟨#[]⟩, .string ⟨#[]⟩] 32 true 0)
 (stL 4 (⟨r47.2.next, 0, none⟩ : Addr) ([.int .i64 r47.1.1.1, .int .i64 r47.1.1.2.1, .string r47.1.1.2.2.1, .string r47.1.1.2.2.2]) h48).bind fun h49 =>
 joinK (fun (l50 : Slc) (answers51 : Slc) (j52 : Option Addr) (kv53 : Option Addr) (i54 : Int) (y55 : Bool) (h56 : AHeap) =>
 (if y55 = true then
 some (false, h56)
 else
 let h58 := AHeap.new h56 (.cells [.int .i64 0, .string ⟨#[]⟩, .slice none 0 0] 29 true 0)
 joinK (fun (l59 : Slc) (answers60 : Slc) (j61 : Option Addr) (kv62 : Option Addr) (i63 : Int) (x64 : Option Addr) (h65 : AHeap) =>
 (x64).bind fun p67 =>
 (ldA 3 p67 h65).bind fun l68 =>
 (decC [.i .i64, .s, .l] l68).bind fun x69 =>
 (port_Job_Give k D j61 (x69.1, x69.2.1, x69.2.2) h65).bind fun r70 =>
 (if (r70.1 != 0) = true then
 some (false, r70.2)
 else
 (x64).bind fun p71 =>
 (ldA 3 p71 r70.2).bind fun l72 =>
 (decC [.i .i64, .s, .l] l72).bind fun x73 =>
 (ref08_List_Give k D kv62 (x73.1, x73.2.1, x73.2.2) r70.2).bind fun r74 =>
 rec46 l59 answers60 j61 kv62 (IntKind.wrap .i64 (i63 + 1)) r74.2)) fun j66 =>
 (if (decide ((answers51.len : Int) > 0)) = true then
 (if (answers51.len : Int) = 0 then none else
 (Gx.idxL 3 answers51 (Int.tmod i54 (answers51.len : Int))).bind fun q75 =>
 (ldA 3 q75 h58).bind fun l76 =>
 (decC [.i .i64, .s, .l] l76).bind fun x77 =>
 (stL 3 (⟨h56.next, 0, none⟩ : Addr) ([.int .i64 x77.1, .string x77.2.1, .slice x77.2.2.a x77.2.2.len x77.2.2.cap]) h58).bind fun h78 =>
 j66 l50 answers51 j52 kv53 i54 (some (⟨h56.next, 0, none⟩ : Addr)) h78)
 else
 j66 l50 answers51 j52 kv53 i54 (some (⟨h56.next, 0, none⟩ : Addr)) h58))) fun j57 =>
 (ldA 4 (⟨r47.2.next, 0, none⟩ : Addr) h49).bind fun l79 =>
 (decC [.i .i64, .i .i64, .s, .s] l79).bind fun x80 =>
 (Gx.idxL 4 l40 i44).bind fun q81 =>
 (ldA 4 q81 h49).bind fun l82 =>
 (decC [.i .i64, .i .i64, .s, .s] l82).bind fun x83 =>
 let c84 : Bool := (!((x80.1 == x83.1) && ((x80.2.1 == x83.2.1) && ((x80.2.2.1 == x83.2.2.1) && (x80.2.2.2 == x83.2.2.2)))))
 (if c84 = true then
 j57 l40 answers41 j42 kv43 i44 true h49
 else
 (if (!r47.1.2) = true then
 j57 l40 answers41 j42 kv43 i44 true h49
 else
 (port_Job_Over k D j42 h49).bind fun r85 =>
 (if r85.1 = true then
 j57 l40 answers41 j42 kv43 i44 true r85.2
 else
 (port_Job_Steps k D j42 r85.2).bind fun r86 =>
 (if (r86.1 != i44) = true then
 j57 l40 answers41 j42 kv43 i44 true r86.2
 else
 (port_Job_Result k D j42 r86.2).bind fun r87 =>
 (ref08_List_Result k D kv43 r87.2).bind fun r88 =>
 (law08_sameResult k D (r87.1.1, r87.1.2.1, r87.1.2.2.1, r87.1.2.2.2.1, r87.1.2.2.2.2.1, r87.1.2.2.2.2.2.1, r87.1.2.2.2.2.2.2) (r88.1.1, r88.1.2.1, r88.1.2.2.1, r88.1.2.2.2.1, r88.1.2.2.2.2.1, r88.1.2.2.2.2.2.1, r88.1.2.2.2.2.2.2) r88.2).bind fun r89 =>
 j57 l40 answers41 j42 kv43 i44 (!r89.1) r89.2))))
 else
 j29 l40 j42 kv43 h45)
noncomputable def law08_PortLists_l0 (k : Nat) (D : CallF) (j29 : Slc → (Option Addr) → (Option Addr) → AHeap → Option ((Bool) × AHeap)) : Slc → Slc → (Option Addr) → (Option Addr) → Int → AHeap → Option ((Bool) × AHeap) :=
 iterK (α := Slc → Slc → (Option Addr) → (Option Addr) → Int → AHeap → Option ((Bool) × AHeap)) (fun _ _ _ _ _ _ => none) k (law08_PortLists_l0b k D j29)
noncomputable def law08_PortLists (k : Nat) (D : CallF) (l_0 : Slc) (answers_1 : Slc) (h : AHeap) : Option ((Bool) × AHeap) :=
 joinK (fun (l1 : Slc) (answers2 : Slc) (y3 : Bool) (h4 : AHeap) =>
 (if y3 = true then
 (law08_works k D h4).bind fun r6 =>
 some (r6.1, r6.2)
 else
 let h7 := AHeap.new h4 (.cells [] 32 true 0)
 (rdS 4 l1 h7).bind fun n9 =>
 (appendA 4 48 32 h7 (⟨(some ⟨h4.next, 0, some 0⟩), 0, 0⟩ : Slc) n9 l1.len).bind fun r8 =>
 (port_List k D r8.1 r8.2).bind fun r10 =>
 joinK (fun (l11 : Slc) (answers12 : Slc) (own13 : Slc) (j14 : Option Addr) (y15 : Bool) (h16 : AHeap) =>
 (if y15 = true then
 some (false, h16)
 else
 let h18 := AHeap.new h16 (.cells [.slice l11.a l11.len l11.cap, .int .i64 0, .int .i64 0, .string (⟨#[]⟩ : ByteArray), .int .i64 0, .slice none 0 0, .slice none 0 0, .slice none 0 0, .slice none 0 0] 62 true 0)
 joinK (fun (l19 : Slc) (answers20 : Slc) (j21 : Option Addr) (kv22 : Option Addr) (h23 : AHeap) =>
 joinK (fun (l25 : Slc) (j26 : Option Addr) (kv27 : Option Addr) (h28 : AHeap) =>
 (port_Job_Next k D j26 h28).bind fun r30 =>
 let h31 := AHeap.new r30.2 (.cells [.int .i64 0, .int .i64 0, .string ⟨#[]⟩, .string ⟨#[]⟩] 32 true 0)
 (stL 4 (⟨r30.2.next, 0, none⟩ : Addr) ([.int .i64 r30.1.1.1, .int .i64 r30.1.1.2.1, .string r30.1.1.2.2.1, .string r30.1.1.2.2.2]) h31).bind fun h32 =>
 (if (!r30.1.2) = true then
 (port_Job_Over k D j26 h32).bind fun r33 =>
 (if r33.1 = true then
 (port_Job_Steps k D j26 r33.2).bind fun r34 =>
 (if (r34.1 == (l25.len : Int)) = true then
 (port_Job_Result k D j26 r34.2).bind fun r35 =>
 (ref08_List_Result k D kv27 r35.2).bind fun r36 =>
 (law08_sameResult k D (r35.1.1, r35.1.2.1, r35.1.2.2.1, r35.1.2.2.2.1, r35.1.2.2.2.2.1, r35.1.2.2.2.2.2.1, r35.1.2.2.2.2.2.2) (r36.1.1, r36.1.2.1, r36.1.2.2.1, r36.1.2.2.2.1, r36.1.2.2.2.2.1, r36.1.2.2.2.2.2.1, r36.1.2.2.2.2.2.2) r36.2).bind fun r37 =>
 (if r37.1 = true then
 (port_Job_Give k D j26 (0, (⟨#[]⟩ : ByteArray), (⟨none, 0, 0⟩ : Slc)) r37.2).bind fun r38 =>
 (if (r38.1 == 310) = true then
 (port_Job_Steps k D j26 r38.2).bind fun r39 =>
 some ((r39.1 == (l25.len : Int)), r39.2)
 else
 some (false, r38.2))
 else
 some (false, r37.2))
 else
 some (false, r34.2))
 else
 some (false, r33.2))
 else
 some (false, h32))) fun j29 =>
 law08_PortLists_l0 k D j29 l19 answers20 j21 kv22 0 h23) fun j24 =>
 law08_PortLists_l1 k D j24 l11 answers12 own13 j14 (some (⟨h16.next, 0, none⟩ : Addr)) 0 h18)) fun j17 =>
 (if r10.1.isNone = true then
 j17 l1 answers2 r8.1 r10.1 true r10.2
 else
 j17 l1 answers2 r8.1 r10.1 false r10.2))) fun j5 =>
 (law08_small k D l_0 h).bind fun r100 =>
 (if (!r100.1) = true then
 j5 l_0 answers_1 true r100.2
 else
 (law08_works k D r100.2).bind fun r101 =>
 j5 l_0 answers_1 (!r101.1) r101.2)
noncomputable def r_law08_PortLists : RCode := an (.s .n (.s (.s (.j [(0, .l), (1, .l), (21, .b)] .n) .n) (.s .n (.s .n (.s (.s (.j [(0, .l), (1, .l), (5, .l), (6, .p), (31, .b)] .n) .n) (.s .n (.s (.j [(0, .l), (1, .l), (6, .p), (7, .p)] (.s .n (.b (.l [(0, .l), (1, .l), (5, .l), (6, .p), (7, .p), (8, .i .i64)] .n)))) (.s (.j [(0, .l), (6, .p), (7, .p)] (.s .n (.b (.l [(0, .l), (1, .l), (6, .p), (7, .p), (9, .i .i64)] (.s .n (.s (.b (.s .n (.s (.s (.j [(0, .l), (1, .l), (6, .p), (7, .p), (9, .i .i64), (83, .b)] (.r [(0, .st [.i .i64, .i .i64, .s, .s]), (4, .st [.i .i64, .i .i64, .s, .s])])) .n) (.s .n (.s (.j [(0, .l), (1, .l), (6, .p), (7, .p), (9, .i .i64), (12, .p)] (.s .n (.s (.r [(6, .st [.i .i64, .s, .l])]) .n))) (.s (.s (.r [(1, .st [.i .i64, .s, .l])]) .n) (.r [(1, .st [.i .i64, .s, .l])]))))))) .n)))))) .n)))))))) (rOf Try.prog 0 Try.f5)
noncomputable def e_law08_PortLists (k : Nat) (D : CallF) : Ent := entOf 5 [(0, .l), (1, .l)] [(4, .b)] (law08_PortLists k D)
theorem q_law08_PortLists : (Try.f5.body).bind (rcodeOf Try.prog 0 Try.f5.ntmps) = some (strip r_law08_PortLists) := by kernel_rfl
theorem t_law08_PortLists (k : Nat) (D : CallF) : curF [(0, .l), (1, .l)] (fun args h => denF (C_law08_PortLists k D) k r_law08_PortLists [(4, .b)] [none] args h) = law08_PortLists k D := by kernel_rfl
theorem ok_law08_PortLists {D : CallF} (hD : CSound Try.prog 0 D) (k : Nat) : EntOk Try.prog 0 (e_law08_PortLists k D) :=
 entOf_ok2 (mkC_sound hD (EntsOk.more (ok_law08_works hD k) (EntsOk.more (ok_port_List hD k) (EntsOk.more (ok_port_Job_Next hD k) (EntsOk.more (ok_port_Job_Over hD k) (EntsOk.more (ok_port_Job_Steps hD k) (EntsOk.more (ok_port_Job_Result hD k) (EntsOk.more (ok_ref08_List_Result hD k) (EntsOk.more (ok_law08_sameResult hD k) (EntsOk.more (ok_port_Job_Give hD k) (EntsOk.more (ok_ref08_List_Give hD k) (EntsOk.more (ok_law08_small hD k) (EntsOk.none))))))))))))) Try.func5 rfl q_law08_PortLists rfl (t_law08_PortLists k D)
end Gs
