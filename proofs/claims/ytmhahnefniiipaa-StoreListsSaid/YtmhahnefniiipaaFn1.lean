import Derived.Test.YtmhahnefniiipaaProg
import Derived.Shelf.SlIter.Nil
import Derived.Shelf.SortM.Plain
import Derived.Shelf.SortM.SortNone
import Derived.Shelf.SlMaps.Clone
import Derived.KernelRfl
import Derived.Test.YtmhahnefniiipaaGx3
namespace Gs
open Go Gx Go.Proofs
noncomputable def e_sync_atomic_AddInt64 (_k : Nat) (_D : CallF) : Ent := eAdd 98 .i64
theorem ok_sync_atomic_AddInt64 {D : CallF} (_hD : CSound Try.prog 0 D) (k : Nat) : EntOk Try.prog 0 (e_sync_atomic_AddInt64 k D) :=
 add_ok Try.func98 rfl rfl rfl .i64 (by kernel_rfl)
end Gs
namespace Gs
open Go Gx Go.Proofs
set_option maxRecDepth 100000
noncomputable def C_sync_atomic_Int64_Add (k : Nat) (D : CallF) : CallF := mkC D [e_sync_atomic_AddInt64 k D]
noncomputable def sync_atomic_Int64_Add (_k : Nat) (_D : CallF) (x_0 : Option Addr) (delta_1 : Int) (h : AHeap) : Option ((Int) × AHeap) :=
 (x_0).bind fun p1 =>
 (ldI .i64 (⟨p1.block, p1.off + 0, none⟩ : Addr) h).bind fun x2 =>
 (st1 (⟨p1.block, p1.off + 0, none⟩ : Addr) (.int .i64 (IntKind.wrap .i64 (x2 + delta_1))) h).bind fun h3 =>
 some ((IntKind.wrap .i64 (x2 + delta_1)), h3)
noncomputable def r_sync_atomic_Int64_Add : RCode := an (.n) (rOf Try.prog 0 Try.f50)
noncomputable def e_sync_atomic_Int64_Add (k : Nat) (D : CallF) : Ent := entOf 50 [(0, .p), (1, .i .i64)] [(4, .i .i64)] (sync_atomic_Int64_Add k D)
theorem q_sync_atomic_Int64_Add : (Try.f50.body).bind (rcodeOf Try.prog 0 Try.f50.ntmps) = some (strip r_sync_atomic_Int64_Add) := by kernel_rfl
theorem t_sync_atomic_Int64_Add (k : Nat) (D : CallF) : curF [(0, .p), (1, .i .i64)] (fun args h => denF (C_sync_atomic_Int64_Add k D) k r_sync_atomic_Int64_Add [(4, .i .i64)] [none] args h) = sync_atomic_Int64_Add k D := by kernel_rfl
theorem ok_sync_atomic_Int64_Add {D : CallF} (hD : CSound Try.prog 0 D) (k : Nat) : EntOk Try.prog 0 (e_sync_atomic_Int64_Add k D) :=
 entOf_ok2 (mkC_sound hD (EntsOk.more (ok_sync_atomic_AddInt64 hD k) (EntsOk.none))) Try.func50 rfl q_sync_atomic_Int64_Add rfl (t_sync_atomic_Int64_Add k D)
end Gs
namespace Gs
open Go Gx Go.Proofs
set_option maxRecDepth 100000
noncomputable def C_store_may (_k : Nat) (D : CallF) : CallF := mkC D []
noncomputable def store_may_l0b (_k : Nat) (_D : CallF) (j3 : ByteArray → AHeap → Option ((Bool) × AHeap)) (rec10 : ByteArray → Slc → Int → Int → AHeap → Option ((Bool) × AHeap)) (name5 : ByteArray) (y6 : Slc) (y7 : Int) (y8 : Int) (h9 : AHeap) : Option ((Bool) × AHeap) :=
 (if (decide (y8 < y7)) = true then
 (Gx.idxL 1 y6 y8).bind fun q11 =>
 (ldI .u8 q11 h9).bind fun x12 =>
 joinK (fun (name13 : ByteArray) (y14 : Slc) (y15 : Int) (y16 : Int) (y17 : Bool) (h18 : AHeap) =>
 (if y17 = true then
 some (false, h18)
 else
 rec10 name13 y14 y15 (IntKind.wrap .i64 (y16 + 1)) h18)) fun j19 =>
 (if (decide (x12 ≤ 32)) = true then
 j19 name5 y6 y7 y8 true h9
 else
 j19 name5 y6 y7 y8 (decide (x12 ≥ 127)) h9)
 else
 j3 name5 h9)
noncomputable def store_may_l0 (k : Nat) (D : CallF) (j3 : ByteArray → AHeap → Option ((Bool) × AHeap)) : ByteArray → Slc → Int → Int → AHeap → Option ((Bool) × AHeap) :=
 iterK (α := ByteArray → Slc → Int → Int → AHeap → Option ((Bool) × AHeap)) (fun _ _ _ _ _ => none) k (store_may_l0b k D j3)
noncomputable def store_may (k : Nat) (D : CallF) (name_0 : ByteArray) (h : AHeap) : Option ((Bool) × AHeap) :=
 joinK (fun (name1 : ByteArray) (h2 : AHeap) =>
 (if (!(name1 == (⟨#[]⟩ : ByteArray))) = true then
 some ((decide ((name1.size : Int) ≤ 96)), h2)
 else
 some (false, h2))) fun j3 =>
 let h4 := AHeap.new h (.cells (bytesL name_0) 5 true 0)
 store_may_l0 k D j3 name_0 (⟨(some ⟨h.next, 0, some 2⟩), name_0.size, name_0.size⟩ : Slc) (name_0.size : Int) 0 h4
noncomputable def r_store_may : RCode := an (.s .n (.s (.j [(0, .s)] (.s .n (.b (.l [(0, .s), (6, .l), (7, .i .i64), (8, .i .i64)] (.s .n (.s .n (.s (.b (.s .n (.s (.j [(0, .s), (6, .l), (7, .i .i64), (8, .i .i64), (17, .b)] .n) .n))) .n))))))) .n)) (rOf Try.prog 0 Try.f127)
noncomputable def e_store_may (k : Nat) (D : CallF) : Ent := entOf 127 [(0, .s)] [(2, .b)] (store_may k D)
theorem q_store_may : (Try.f127.body).bind (rcodeOf Try.prog 0 Try.f127.ntmps) = some (strip r_store_may) := by kernel_rfl
theorem t_store_may (k : Nat) (D : CallF) : curF [(0, .s)] (fun args h => denF (C_store_may k D) k r_store_may [(2, .b)] [none] args h) = store_may k D := by kernel_rfl
theorem ok_store_may {D : CallF} (hD : CSound Try.prog 0 D) (k : Nat) : EntOk Try.prog 0 (e_store_may k D) :=
 entOf_ok2 (mkC_sound hD (EntsOk.none)) Try.func127 rfl q_store_may rfl (t_store_may k D)
end Gs
namespace Gs
open Go Gx Go.Proofs
set_option maxRecDepth 100000
noncomputable def C_store_fits (k : Nat) (D : CallF) : CallF := mkC D [e_store_may k D]
noncomputable def store_fits (k : Nat) (D : CallF) (name_0 : ByteArray) (data_1 : ByteArray) (h : AHeap) : Option ((Int) × AHeap) :=
 (store_may k D name_0 h).bind fun r1 =>
 (if (!r1.1) = true then
 some (3, r1.2)
 else
 (if (decide ((data_1.size : Int) > 131072)) = true then
 some (2, r1.2)
 else
 some (0, r1.2)))
noncomputable def r_store_fits : RCode := an (.n) (rOf Try.prog 0 Try.f99)
noncomputable def e_store_fits (k : Nat) (D : CallF) : Ent := entOf 99 [(0, .s), (1, .s)] [(4, .i .i64)] (store_fits k D)
theorem q_store_fits : (Try.f99.body).bind (rcodeOf Try.prog 0 Try.f99.ntmps) = some (strip r_store_fits) := by kernel_rfl
theorem t_store_fits (k : Nat) (D : CallF) : curF [(0, .s), (1, .s)] (fun args h => denF (C_store_fits k D) k r_store_fits [(4, .i .i64)] [none] args h) = store_fits k D := by kernel_rfl
theorem ok_store_fits {D : CallF} (hD : CSound Try.prog 0 D) (k : Nat) : EntOk Try.prog 0 (e_store_fits k D) :=
 entOf_ok2 (mkC_sound hD (EntsOk.more (ok_store_may hD k) (EntsOk.none))) Try.func99 rfl q_store_fits rfl (t_store_fits k D)
end Gs
namespace Gs
open Go Gx Go.Proofs
set_option maxRecDepth 100000
noncomputable def C_store_Store_room (_k : Nat) (D : CallF) : CallF := mkC D []
noncomputable def store_Store_room (_k : Nat) (_D : CallF) (s_0 : Option Addr) (name_1 : ByteArray) (h : AHeap) : Option ((Int) × AHeap) :=
 (s_0).bind fun p1 =>
 (ldM (⟨p1.block, p1.off + 4, none⟩ : Addr) h).bind fun x2 =>
 (lookE decS (.string ⟨#[]⟩) h x2 (.string name_1)).bind fun p3 =>
 (if p3.2 = true then
 let t4 : Int := (IntKind.wrap .i64 ((name_1.size : Int) + (p3.1.size : Int)))
 some (t4, h)
 else
 some (0, h))
noncomputable def r_store_Store_room : RCode := an (.n) (rOf Try.prog 0 Try.f100)
noncomputable def e_store_Store_room (k : Nat) (D : CallF) : Ent := entOf 100 [(0, .p), (1, .s)] [(4, .i .i64)] (store_Store_room k D)
theorem q_store_Store_room : (Try.f100.body).bind (rcodeOf Try.prog 0 Try.f100.ntmps) = some (strip r_store_Store_room) := by kernel_rfl
theorem t_store_Store_room (k : Nat) (D : CallF) : curF [(0, .p), (1, .s)] (fun args h => denF (C_store_Store_room k D) k r_store_Store_room [(4, .i .i64)] [none] args h) = store_Store_room k D := by kernel_rfl
theorem ok_store_Store_room {D : CallF} (hD : CSound Try.prog 0 D) (k : Nat) : EntOk Try.prog 0 (e_store_Store_room k D) :=
 entOf_ok2 (mkC_sound hD (EntsOk.none)) Try.func100 rfl q_store_Store_room rfl (t_store_Store_room k D)
end Gs
namespace Gs
open Go Gx Go.Proofs
set_option maxRecDepth 100000
noncomputable def C_store_Store_lay (k : Nat) (D : CallF) : CallF := mkC D [e_store_Store_room k D]
noncomputable def store_Store_lay (k : Nat) (D : CallF) (s_0 : Option Addr) (name_1 : ByteArray) (data_2 : ByteArray) (h : AHeap) : Option ((Unit) × AHeap) :=
 (store_Store_room k D s_0 name_1 h).bind fun r1 =>
 (s_0).bind fun p2 =>
 (ldI .i64 (⟨p2.block, p2.off + 1, none⟩ : Addr) r1.2).bind fun x3 =>
 guardP (SameW [h] (fun H5 => (ldI .i64 (⟨p2.block, p2.off + 1, none⟩ : Addr) H5).bind fun y4 => some (.int .i64 y4)) (.int .i64 x3)) (
 let t6 : Int := (IntKind.wrap .i64 ((name_1.size : Int) + (data_2.size : Int)))
 (s_0).bind fun p7 =>
 (st1 (⟨p7.block, p7.off + 1, none⟩ : Addr) (.int .i64 (IntKind.wrap .i64 (x3 + (IntKind.wrap .i64 (t6 - r1.1))))) r1.2).bind fun h8 =>
 (s_0).bind fun p9 =>
 (ldM (⟨p9.block, p9.off + 4, none⟩ : Addr) h8).bind fun x10 =>
 (x10).bind fun r12 =>
 (updE h8 r12 (.string name_1) (.string data_2)).bind fun h11 =>
 some ((), h11))
noncomputable def r_store_Store_lay : RCode := an (.n) (rOf Try.prog 0 Try.f101)
noncomputable def e_store_Store_lay (k : Nat) (D : CallF) : Ent := entOf 101 [(0, .p), (1, .s), (2, .s)] [] (store_Store_lay k D)
theorem q_store_Store_lay : (Try.f101.body).bind (rcodeOf Try.prog 0 Try.f101.ntmps) = some (strip r_store_Store_lay) := by kernel_rfl
theorem t_store_Store_lay (k : Nat) (D : CallF) : curF [(0, .p), (1, .s), (2, .s)] (fun args h => denF (C_store_Store_lay k D) k r_store_Store_lay [] [] args h) = store_Store_lay k D := by kernel_rfl
theorem ok_store_Store_lay {D : CallF} (hD : CSound Try.prog 0 D) (k : Nat) : EntOk Try.prog 0 (e_store_Store_lay k D) :=
 entOf_ok2 (mkC_sound hD (EntsOk.more (ok_store_Store_room hD k) (EntsOk.none))) Try.func101 rfl q_store_Store_lay rfl (t_store_Store_lay k D)
end Gs
namespace Gs
open Go Gx Go.Proofs
set_option maxRecDepth 100000
noncomputable def C_store_Store_put (k : Nat) (D : CallF) : CallF := mkC D [e_store_fits k D, e_store_Store_room k D, e_store_Store_lay k D]
noncomputable def store_Store_put (k : Nat) (D : CallF) (s_0 : Option Addr) (name_1 : ByteArray) (data_2 : ByteArray) (h : AHeap) : Option ((Int) × AHeap) :=
 (store_fits k D name_1 data_2 h).bind fun r1 =>
 (if (r1.1 != 0) = true then
 some (r1.1, r1.2)
 else
 (store_Store_room k D s_0 name_1 r1.2).bind fun r2 =>
 (s_0).bind fun p3 =>
 (ldI .i64 (⟨p3.block, p3.off + 1, none⟩ : Addr) r2.2).bind fun x4 =>
 guardP (SameW [r1.2] (fun H6 => (ldI .i64 (⟨p3.block, p3.off + 1, none⟩ : Addr) H6).bind fun y5 => some (.int .i64 y5)) (.int .i64 x4)) (
 let t7 : Int := (IntKind.wrap .i64 ((IntKind.wrap .i64 (x4 - r2.1)) + (name_1.size : Int)))
 (s_0).bind fun p8 =>
 (ldI .i64 (⟨p8.block, p8.off + 0, none⟩ : Addr) r2.2).bind fun x9 =>
 guardP (SameW [r1.2] (fun H11 => (ldI .i64 (⟨p8.block, p8.off + 0, none⟩ : Addr) H11).bind fun y10 => some (.int .i64 y10)) (.int .i64 x9)) (
 (if (decide ((IntKind.wrap .i64 (t7 + (data_2.size : Int))) > x9)) = true then
 some (71, r2.2)
 else
 (store_Store_lay k D s_0 name_1 data_2 r2.2).bind fun r12 =>
 some (0, r12.2)))))
noncomputable def r_store_Store_put : RCode := an (.n) (rOf Try.prog 0 Try.f51)
noncomputable def e_store_Store_put (k : Nat) (D : CallF) : Ent := entOf 51 [(0, .p), (1, .s), (2, .s)] [(6, .i .i64)] (store_Store_put k D)
theorem q_store_Store_put : (Try.f51.body).bind (rcodeOf Try.prog 0 Try.f51.ntmps) = some (strip r_store_Store_put) := by kernel_rfl
theorem t_store_Store_put (k : Nat) (D : CallF) : curF [(0, .p), (1, .s), (2, .s)] (fun args h => denF (C_store_Store_put k D) k r_store_Store_put [(6, .i .i64)] [none] args h) = store_Store_put k D := by kernel_rfl
theorem ok_store_Store_put {D : CallF} (hD : CSound Try.prog 0 D) (k : Nat) : EntOk Try.prog 0 (e_store_Store_put k D) :=
 entOf_ok2 (mkC_sound hD (EntsOk.more (ok_store_fits hD k) (EntsOk.more (ok_store_Store_room hD k) (EntsOk.more (ok_store_Store_lay hD k) (EntsOk.none))))) Try.func51 rfl q_store_Store_put rfl (t_store_Store_put k D)
end Gs
namespace Gs
open Go Gx Go.Proofs
set_option maxRecDepth 100000
noncomputable def C_maps_Keys_map_string_string_string_string (_k : Nat) (D : CallF) : CallF := mkC D []
noncomputable def maps_Keys_map_string_string_string_string (_k : Nat) (_D : CallF) (m_0 : Option Nat) (h : AHeap) : Option ((Value) × AHeap) :=
 let h1 := AHeap.new h (.cells [.map m_0] 99 true 0)
 some ((.func (.func 105) ⟨[]⟩ ⟨[.pointer (some (⟨h.next, 0, none⟩ : Addr))]⟩), h1)
noncomputable def r_maps_Keys_map_string_string_string_string : RCode := an (.n) (rOf Try.prog 0 Try.f55)
noncomputable def e_maps_Keys_map_string_string_string_string (k : Nat) (D : CallF) : Ent := entOf 55 [(0, .m)] [(2, .v)] (maps_Keys_map_string_string_string_string k D)
theorem q_maps_Keys_map_string_string_string_string : (Try.f55.body).bind (rcodeOf Try.prog 0 Try.f55.ntmps) = some (strip r_maps_Keys_map_string_string_string_string) := by kernel_rfl
theorem t_maps_Keys_map_string_string_string_string (k : Nat) (D : CallF) : curF [(0, .m)] (fun args h => denF (C_maps_Keys_map_string_string_string_string k D) k r_maps_Keys_map_string_string_string_string [(2, .v)] [none] args h) = maps_Keys_map_string_string_string_string k D := by kernel_rfl
theorem ok_maps_Keys_map_string_string_string_string {D : CallF} (hD : CSound Try.prog 0 D) (k : Nat) : EntOk Try.prog 0 (e_maps_Keys_map_string_string_string_string k D) :=
 entOf_ok2 (mkC_sound hD (EntsOk.none)) Try.func55 rfl q_maps_Keys_map_string_string_string_string rfl (t_maps_Keys_map_string_string_string_string k D)
end Gs
namespace Go.Proofs
open Go.Shelf Go.RowKit Go.Maps Go.Sort
def Try.keysA_ren : Go.Shelf.Ren := ⟨fun | 7 => 55 | 10 => 105 | n => n, fun | 23 => 99 | 26 => 9 | 3 => 9 | 28 => 112 | 0 => 0 | 27 => 111 | 33 => 157 | 4 => 4 | n => n, fun | n => n⟩
theorem Try.keysA : Go.Proofs.SlLaysZ.n7 Try.prog Try.keysA_ren := {
 mixed := by kernel_rfl
 f7 := ⟨Try.f55.name, by decide, Try.func55.trans (congrArg some (by kernel_rfl))⟩
 f10 := ⟨Try.f105.name, by decide, Try.func105.trans (congrArg some (by kernel_rfl))⟩
 t0 := Try.underlying0
 a0 := Try.isAgg0
 z0 := Try.sizeOf0
 v0 := Try.zeroValue0
 t4 := Try.underlying4
 a4 := Try.isAgg4
 z4 := Try.sizeOf4
 v4 := Try.zeroValue4
 t23 := Try.underlying99
 a23 := Try.isAgg99
 z23 := Try.sizeOf99
 v23 := Try.zeroValue99
 t26 := Try.underlying9
 a26 := Try.isAgg9
 z26 := Try.sizeOf9
 v26 := Try.zeroValue9
 t27 := Try.underlying111
 a27 := Try.isAgg111
 z27 := Try.sizeOf111
 v27 := Try.zeroValue111
 t28 := Try.underlying112
 a28 := Try.isAgg112
 z28 := Try.sizeOf112
 v28 := Try.zeroValue112
 t33 := Try.underlying157
 a33 := Try.isAgg157
 z33 := Try.sizeOf157
 v33 := Try.zeroValue157 }
def Try.sortedA_ren : Go.Shelf.Ren := ⟨fun | 6 => 54 | 8 => 103 | 9 => 104 | 11 => 129 | 13 => 131 | 12 => 130 | 23 => 145 | 24 => 146 | 14 => 136 | 15 => 137 | 16 => 138 | 17 => 139 | 18 => 140 | 19 => 141 | 20 => 142 | 21 => 143 | 22 => 144 | 25 => 147 | 26 => 148 | 27 => 149 | 28 => 150 | 29 => 151 | 30 => 152 | 31 => 153 | n => n, fun | 26 => 9 | 28 => 112 | 24 => 22 | 0 => 0 | 3 => 3 | 37 => 173 | 48 => 186 | 50 => 188 | 4 => 4 | 40 => 180 | 39 => 179 | 45 => 121 | 5 => 5 | 9 => 9 | 51 => 189 | 55 => 193 | 57 => 195 | 58 => 196 | 33 => 157 | n => n, fun | n => n⟩
theorem Try.sortedA : Go.Proofs.SlLaysZ.n6 Try.prog Try.sortedA_ren := {
 mixed := by kernel_rfl
 f6 := ⟨Try.f54.name, by decide, Try.func54.trans (congrArg some (by kernel_rfl))⟩
 f8 := ⟨Try.f103.name, by decide, Try.func103.trans (congrArg some (by kernel_rfl))⟩
 f11 := ⟨Try.f129.name, by decide, Try.func129.trans (congrArg some (by kernel_rfl))⟩
 t0 := Try.underlying0
 a0 := Try.isAgg0
 z0 := Try.sizeOf0
 v0 := Try.zeroValue0
 t24 := Try.underlying22
 a24 := Try.isAgg22
 z24 := Try.sizeOf22
 v24 := Try.zeroValue22
 t26 := Try.underlying9
 a26 := Try.isAgg9
 z26 := Try.sizeOf9
 v26 := Try.zeroValue9
 t28 := Try.underlying112
 a28 := Try.isAgg112
 z28 := Try.sizeOf112
 v28 := Try.zeroValue112
 i26 := by kernel_rfl }
def Try.sortA_ren : Go.Shelf.Ren := ⟨fun | 6 => 104 | 8 => 131 | 9 => 130 | 19 => 145 | 20 => 146 | 21 => 136 | 22 => 137 | 23 => 138 | 24 => 139 | 25 => 140 | 26 => 141 | 27 => 142 | 28 => 143 | 29 => 144 | 36 => 147 | 31 => 148 | 32 => 149 | 37 => 150 | 38 => 151 | 39 => 152 | 41 => 153 | n => n, fun | 27 => 22 | 29 => 9 | 3 => 3 | 32 => 173 | 26 => 22 | 0 => 0 | 44 => 186 | 46 => 188 | 4 => 4 | 36 => 180 | 35 => 179 | 41 => 121 | 5 => 5 | 9 => 9 | 53 => 189 | 57 => 193 | 63 => 195 | 64 => 196 | n => n, fun | n => n⟩
theorem Try.sortA : Go.Proofs.SlLaysM.n6 Try.prog Try.sortA_ren := {
 mixed := by kernel_rfl
 f6 := ⟨Try.f104.name, by decide, Try.func104.trans (congrArg some (by kernel_rfl))⟩
 f8 := Try.func131.trans (congrArg some (by kernel_rfl))
 f9 := ⟨Try.f130.name, by decide, Try.func130.trans (congrArg some (by kernel_rfl))⟩
 f19 := Try.func145.trans (congrArg some (by kernel_rfl))
 f20 := Try.func146.trans (congrArg some (by kernel_rfl))
 f21 := ⟨Try.f136.name, by decide, Try.func136.trans (congrArg some (by kernel_rfl))⟩
 f22 := ⟨Try.f137.name, by decide, Try.func137.trans (congrArg some (by kernel_rfl))⟩
 f23 := ⟨Try.f138.name, by decide, Try.func138.trans (congrArg some (by kernel_rfl))⟩
 f24 := ⟨Try.f139.name, by decide, Try.func139.trans (congrArg some (by kernel_rfl))⟩
 f25 := ⟨Try.f140.name, by decide, Try.func140.trans (congrArg some (by kernel_rfl))⟩
 f26 := ⟨Try.f141.name, by decide, Try.func141.trans (congrArg some (by kernel_rfl))⟩
 f27 := ⟨Try.f142.name, by decide, Try.func142.trans (congrArg some (by kernel_rfl))⟩
 f28 := ⟨Try.f143.name, by decide, Try.func143.trans (congrArg some (by kernel_rfl))⟩
 f29 := ⟨Try.f144.name, by decide, Try.func144.trans (congrArg some (by kernel_rfl))⟩
 f31 := Try.func148.trans (congrArg some (by kernel_rfl))
 f32 := Try.func149.trans (congrArg some (by kernel_rfl))
 f36 := ⟨Try.f147.name, by decide, Try.func147.trans (congrArg some (by kernel_rfl))⟩
 f37 := ⟨Try.f150.name, by decide, Try.func150.trans (congrArg some (by kernel_rfl))⟩
 f38 := ⟨Try.f151.name, by decide, Try.func151.trans (congrArg some (by kernel_rfl))⟩
 f39 := ⟨Try.f152.name, by decide, Try.func152.trans (congrArg some (by kernel_rfl))⟩
 f41 := ⟨Try.f153.name, by decide, Try.func153.trans (congrArg some (by kernel_rfl))⟩
 t0 := Try.underlying0
 a0 := Try.isAgg0
 z0 := Try.sizeOf0
 v0 := Try.zeroValue0
 t3 := Try.underlying3
 a3 := Try.isAgg3
 z3 := Try.sizeOf3
 v3 := Try.zeroValue3
 t4 := Try.underlying4
 a4 := Try.isAgg4
 z4 := Try.sizeOf4
 v4 := Try.zeroValue4
 t5 := Try.underlying5
 a5 := Try.isAgg5
 z5 := Try.sizeOf5
 v5 := Try.zeroValue5
 t9 := Try.underlying9
 a9 := Try.isAgg9
 z9 := Try.sizeOf9
 v9 := Try.zeroValue9
 t26 := Try.underlying22
 a26 := Try.isAgg22
 z26 := Try.sizeOf22
 v26 := Try.zeroValue22
 t27 := Try.underlying22
 a27 := Try.isAgg22
 z27 := Try.sizeOf22
 v27 := Try.zeroValue22
 t29 := Try.underlying9
 a29 := Try.isAgg9
 z29 := Try.sizeOf9
 v29 := Try.zeroValue9
 t32 := Try.underlying173
 a32 := Try.isAgg173
 z32 := Try.sizeOf173
 v32 := Try.zeroValue173
 t35 := Try.underlying179
 a35 := Try.isAgg179
 z35 := Try.sizeOf179
 v35 := Try.zeroValue179
 t36 := Try.underlying180
 a36 := Try.isAgg180
 z36 := Try.sizeOf180
 v36 := Try.zeroValue180
 t41 := Try.underlying121
 a41 := Try.isAgg121
 z41 := Try.sizeOf121
 v41 := Try.zeroValue121
 t44 := Try.underlying186
 a44 := Try.isAgg186
 z44 := Try.sizeOf186
 v44 := Try.zeroValue186
 t46 := Try.underlying188
 a46 := Try.isAgg188
 z46 := Try.sizeOf188
 v46 := Try.zeroValue188
 t53 := Try.underlying189
 a53 := Try.isAgg189
 z53 := Try.sizeOf189
 v53 := Try.zeroValue189
 t57 := Try.underlying193
 a57 := Try.isAgg193
 z57 := Try.sizeOf193
 v57 := Try.zeroValue193
 t63 := Try.underlying195
 a63 := Try.isAgg195
 z63 := Try.sizeOf195
 v63 := Try.zeroValue195
 t64 := Try.underlying196
 a64 := Try.isAgg196
 z64 := Try.sizeOf196
 v64 := Try.zeroValue196 }
theorem Try.sortsA (m : Nat) : AnyZ.SortsIn Try.prog Try.sortedA_ren Fence.wide m :=
 ⟨fun blk off cap ss W hH hblk hsz => callsIn_wide.2 (AnyM.slices_Sort_string Try.sortA blk off cap ss W hH hblk hsz),
  fun p cap W => callsIn_wide.2 (AnyM.slices_Sort_string_none Try.sortA p cap W)⟩
theorem Try.sortedC : Gx.SortedC Try.prog 54 105 9 :=
 Gx.sortedC_of Try.keysA Try.sortedA (Try.sortsA) (enters_of Try.func104 (by kernel_rfl) rfl) (enters_of Try.func105 (by kernel_rfl) rfl)
end Go.Proofs
namespace Gs
open Go Gx Go.Proofs
noncomputable def e_slices_Sorted_string (_k : Nat) (_D : CallF) : Ent := eSorted 54 105 9
theorem ok_slices_Sorted_string {D : CallF} (_hD : CSound Try.prog 0 D) (k : Nat) : EntOk Try.prog 0 (e_slices_Sorted_string k D) :=
 sorted_ok (c := _) Try.func54 rfl rfl Try.sortedC
end Gs
namespace Gs
open Go Gx Go.Proofs
set_option maxRecDepth 100000
noncomputable def C_store_Store_Names (k : Nat) (D : CallF) : CallF := mkC D [e_maps_Keys_map_string_string_string_string k D, e_slices_Sorted_string k D]
noncomputable def store_Store_Names (k : Nat) (D : CallF) (s_0 : Option Addr) (h : AHeap) : Option ((Slc) × AHeap) :=
 (s_0).bind fun p1 =>
 (ldM (⟨p1.block, p1.off + 4, none⟩ : Addr) h).bind fun x2 =>
 (maps_Keys_map_string_string_string_string k D x2 h).bind fun r3 =>
 (sortedA 105 9 [r3.1] r3.2).bind fun r4 =>
 some (r4.1, r4.2)
noncomputable def r_store_Store_Names : RCode := an (.n) (rOf Try.prog 0 Try.f15)
noncomputable def e_store_Store_Names (k : Nat) (D : CallF) : Ent := entOf 15 [(0, .p)] [(2, .l)] (store_Store_Names k D)
theorem q_store_Store_Names : (Try.f15.body).bind (rcodeOf Try.prog 0 Try.f15.ntmps) = some (strip r_store_Store_Names) := by kernel_rfl
theorem t_store_Store_Names (k : Nat) (D : CallF) : curF [(0, .p)] (fun args h => denF (C_store_Store_Names k D) k r_store_Store_Names [(2, .l)] [none] args h) = store_Store_Names k D := by kernel_rfl
theorem ok_store_Store_Names {D : CallF} (hD : CSound Try.prog 0 D) (k : Nat) : EntOk Try.prog 0 (e_store_Store_Names k D) :=
 entOf_ok2 (mkC_sound hD (EntsOk.more (ok_maps_Keys_map_string_string_string_string hD k) (EntsOk.more (ok_slices_Sorted_string hD k) (EntsOk.none)))) Try.func15 rfl q_store_Store_Names rfl (t_store_Store_Names k D)
end Gs
namespace Gs
open Go Gx Go.Proofs
set_option maxRecDepth 100000
noncomputable def C_internal_stringslite_HasPrefix (_k : Nat) (D : CallF) : CallF := mkC D []
noncomputable def internal_stringslite_HasPrefix (_k : Nat) (_D : CallF) (s_0 : ByteArray) (prefix_1 : ByteArray) (h : AHeap) : Option ((Bool) × AHeap) :=
 (if (decide ((s_0.size : Int) ≥ (prefix_1.size : Int))) = true then
 (Gx.subS s_0 none (some (prefix_1.size : Int))).bind fun s1 =>
 some ((s1 == prefix_1), h)
 else
 some (false, h))
noncomputable def r_internal_stringslite_HasPrefix : RCode := an (.n) (rOf Try.prog 0 Try.f128)
noncomputable def e_internal_stringslite_HasPrefix (k : Nat) (D : CallF) : Ent := entOf 128 [(0, .s), (1, .s)] [(4, .b)] (internal_stringslite_HasPrefix k D)
theorem q_internal_stringslite_HasPrefix : (Try.f128.body).bind (rcodeOf Try.prog 0 Try.f128.ntmps) = some (strip r_internal_stringslite_HasPrefix) := by kernel_rfl
theorem t_internal_stringslite_HasPrefix (k : Nat) (D : CallF) : curF [(0, .s), (1, .s)] (fun args h => denF (C_internal_stringslite_HasPrefix k D) k r_internal_stringslite_HasPrefix [(4, .b)] [none] args h) = internal_stringslite_HasPrefix k D := by kernel_rfl
theorem ok_internal_stringslite_HasPrefix {D : CallF} (hD : CSound Try.prog 0 D) (k : Nat) : EntOk Try.prog 0 (e_internal_stringslite_HasPrefix k D) :=
 entOf_ok2 (mkC_sound hD (EntsOk.none)) Try.func128 rfl q_internal_stringslite_HasPrefix rfl (t_internal_stringslite_HasPrefix k D)
end Gs
namespace Gs
open Go Gx Go.Proofs
set_option maxRecDepth 100000
noncomputable def C_strings_HasPrefix (k : Nat) (D : CallF) : CallF := mkC D [e_internal_stringslite_HasPrefix k D]
noncomputable def strings_HasPrefix (k : Nat) (D : CallF) (s_0 : ByteArray) (prefix_1 : ByteArray) (h : AHeap) : Option ((Bool) × AHeap) :=
 (internal_stringslite_HasPrefix k D s_0 prefix_1 h).bind fun r1 =>
 some (r1.1, r1.2)
noncomputable def r_strings_HasPrefix : RCode := an (.n) (rOf Try.prog 0 Try.f102)
noncomputable def e_strings_HasPrefix (k : Nat) (D : CallF) : Ent := entOf 102 [(0, .s), (1, .s)] [(4, .b)] (strings_HasPrefix k D)
theorem q_strings_HasPrefix : (Try.f102.body).bind (rcodeOf Try.prog 0 Try.f102.ntmps) = some (strip r_strings_HasPrefix) := by kernel_rfl
theorem t_strings_HasPrefix (k : Nat) (D : CallF) : curF [(0, .s), (1, .s)] (fun args h => denF (C_strings_HasPrefix k D) k r_strings_HasPrefix [(4, .b)] [none] args h) = strings_HasPrefix k D := by kernel_rfl
theorem ok_strings_HasPrefix {D : CallF} (hD : CSound Try.prog 0 D) (k : Nat) : EntOk Try.prog 0 (e_strings_HasPrefix k D) :=
 entOf_ok2 (mkC_sound hD (EntsOk.more (ok_internal_stringslite_HasPrefix hD k) (EntsOk.none))) Try.func102 rfl q_strings_HasPrefix rfl (t_strings_HasPrefix k D)
end Gs
namespace Gs
open Go Gx Go.Proofs
set_option maxRecDepth 100000
noncomputable def C_store_Store_list (k : Nat) (D : CallF) : CallF := mkC D [e_store_Store_Names k D, e_strings_HasPrefix k D]
noncomputable def store_Store_list_l0b (k : Nat) (D : CallF) (j3 : Slc → AHeap → Option ((Slc) × AHeap)) (rec11 : ByteArray → Slc → Slc → Int → Int → AHeap → Option ((Slc) × AHeap)) (begin5 : ByteArray) (out6 : Slc) (y7 : Slc) (y8 : Int) (y9 : Int) (h10 : AHeap) : Option ((Slc) × AHeap) :=
 (if (decide (y9 < y8)) = true then
 joinK (fun (begin12 : ByteArray) (out13 : Slc) (y14 : Slc) (y15 : Int) (y16 : Int) (h17 : AHeap) =>
 rec11 begin12 out13 y14 y15 (IntKind.wrap .i64 (y16 + 1)) h17) fun j18 =>
 (Gx.idxL 1 y7 y9).bind fun q19 =>
 (ldS q19 h10).bind fun x20 =>
 (strings_HasPrefix k D x20 begin5 h10).bind fun r21 =>
 (if r21.1 = true then
 let h22 := AHeap.new r21.2 (.cells [.string x20] 9 true 0)
 (rdS 1 (⟨(some ⟨r21.2.next, 0, some 0⟩), 1, 1⟩ : Slc) h22).bind fun n24 =>
 (appendA 1 16 9 h22 out6 n24 1).bind fun r23 =>
 j18 begin5 r23.1 y7 y8 y9 r23.2
 else
 j18 begin5 out6 y7 y8 y9 r21.2)
 else
 j3 out6 h10)
noncomputable def store_Store_list_l0 (k : Nat) (D : CallF) (j3 : Slc → AHeap → Option ((Slc) × AHeap)) : ByteArray → Slc → Slc → Int → Int → AHeap → Option ((Slc) × AHeap) :=
 iterK (α := ByteArray → Slc → Slc → Int → Int → AHeap → Option ((Slc) × AHeap)) (fun _ _ _ _ _ _ => none) k (store_Store_list_l0b k D j3)
noncomputable def store_Store_list (k : Nat) (D : CallF) (s_0 : Option Addr) (begin_1 : ByteArray) (h : AHeap) : Option ((Slc) × AHeap) :=
 joinK (fun (out1 : Slc) (h2 : AHeap) =>
 some (out1, h2)) fun j3 =>
 (store_Store_Names k D s_0 h).bind fun r4 =>
 store_Store_list_l0 k D j3 begin_1 (⟨none, 0, 0⟩ : Slc) r4.1 (r4.1.len : Int) 0 r4.2
noncomputable def r_store_Store_list : RCode := an (.s .n (.s .n (.s (.j [(5, .l)] (.s .n (.b (.l [(1, .s), (5, .l), (9, .l), (10, .i .i64), (11, .i .i64)] (.s .n (.s .n (.s (.j [(1, .s), (5, .l), (9, .l), (10, .i .i64), (11, .i .i64)] .n) .n))))))) .n))) (rOf Try.prog 0 Try.f52)
noncomputable def e_store_Store_list (k : Nat) (D : CallF) : Ent := entOf 52 [(0, .p), (1, .s)] [(4, .l)] (store_Store_list k D)
theorem q_store_Store_list : (Try.f52.body).bind (rcodeOf Try.prog 0 Try.f52.ntmps) = some (strip r_store_Store_list) := by kernel_rfl
theorem t_store_Store_list (k : Nat) (D : CallF) : curF [(0, .p), (1, .s)] (fun args h => denF (C_store_Store_list k D) k r_store_Store_list [(4, .l)] [none] args h) = store_Store_list k D := by kernel_rfl
theorem ok_store_Store_list {D : CallF} (hD : CSound Try.prog 0 D) (k : Nat) : EntOk Try.prog 0 (e_store_Store_list k D) :=
 entOf_ok2 (mkC_sound hD (EntsOk.more (ok_store_Store_Names hD k) (EntsOk.more (ok_strings_HasPrefix hD k) (EntsOk.none)))) Try.func52 rfl q_store_Store_list rfl (t_store_Store_list k D)
end Gs
namespace Gs
open Go Gx Go.Proofs
set_option maxRecDepth 100000
noncomputable def C_store_Store_del (k : Nat) (D : CallF) : CallF := mkC D [e_store_Store_room k D]
noncomputable def store_Store_del (k : Nat) (D : CallF) (s_0 : Option Addr) (name_1 : ByteArray) (h : AHeap) : Option ((Int) × AHeap) :=
 (s_0).bind fun p1 =>
 (ldM (⟨p1.block, p1.off + 4, none⟩ : Addr) h).bind fun x2 =>
 (lookE decS (.string ⟨#[]⟩) h x2 (.string name_1)).bind fun p3 =>
 (if (!p3.2) = true then
 some (5, h)
 else
 (store_Store_room k D s_0 name_1 h).bind fun r4 =>
 (s_0).bind fun p5 =>
 (ldI .i64 (⟨p5.block, p5.off + 1, none⟩ : Addr) r4.2).bind fun x6 =>
 guardP (SameW [h] (fun H8 => (ldI .i64 (⟨p5.block, p5.off + 1, none⟩ : Addr) H8).bind fun y7 => some (.int .i64 y7)) (.int .i64 x6)) (
 (s_0).bind fun p9 =>
 (st1 (⟨p9.block, p9.off + 1, none⟩ : Addr) (.int .i64 (IntKind.wrap .i64 (x6 - r4.1))) r4.2).bind fun h10 =>
 (s_0).bind fun p11 =>
 (ldM (⟨p11.block, p11.off + 4, none⟩ : Addr) h10).bind fun x12 =>
 (delM h10 x12 (.string name_1)).bind fun h13 =>
 some (0, h13)))
noncomputable def r_store_Store_del : RCode := an (.n) (rOf Try.prog 0 Try.f53)
noncomputable def e_store_Store_del (k : Nat) (D : CallF) : Ent := entOf 53 [(0, .p), (1, .s)] [(4, .i .i64)] (store_Store_del k D)
theorem q_store_Store_del : (Try.f53.body).bind (rcodeOf Try.prog 0 Try.f53.ntmps) = some (strip r_store_Store_del) := by kernel_rfl
theorem t_store_Store_del (k : Nat) (D : CallF) : curF [(0, .p), (1, .s)] (fun args h => denF (C_store_Store_del k D) k r_store_Store_del [(4, .i .i64)] [none] args h) = store_Store_del k D := by kernel_rfl
theorem ok_store_Store_del {D : CallF} (hD : CSound Try.prog 0 D) (k : Nat) : EntOk Try.prog 0 (e_store_Store_del k D) :=
 entOf_ok2 (mkC_sound hD (EntsOk.more (ok_store_Store_room hD k) (EntsOk.none))) Try.func53 rfl q_store_Store_del rfl (t_store_Store_del k D)
end Gs
namespace Gs
open Go Gx Go.Proofs
set_option maxRecDepth 100000
noncomputable def C_store_Store_Do (k : Nat) (D : CallF) : CallF := mkC D [e_sync_atomic_Int64_Add k D, e_store_Store_put k D, e_store_Store_list k D, e_store_Store_del k D]
noncomputable def store_Store_Do (k : Nat) (D : CallF) (s_0 : Option Addr) (r_1 : Int × Int × ByteArray × ByteArray) (h : AHeap) : Option (((Int × ByteArray × Slc)) × AHeap) :=
 let h1 := AHeap.new h (.cells [.int .i64 r_1.1, .int .i64 r_1.2.1, .string r_1.2.2.1, .string r_1.2.2.2] 32 true 0)
 let h2 := AHeap.new h1 (.cells [.int .i64 0, .string ⟨#[]⟩, .slice none 0 0] 29 true 0)
 (s_0).bind fun p3 =>
 (sync_atomic_Int64_Add k D (some (⟨p3.block, p3.off + 5, none⟩ : Addr)) 1 h2).bind fun r4 =>
 (s_0).bind fun p5 =>
 (ldB (⟨p5.block, p5.off + 3, none⟩ : Addr) r4.2).bind fun x6 =>
 (if x6 = true then
 (stL 3 (⟨h1.next, 0, none⟩ : Addr) ([.int .i64 70, .string (⟨#[]⟩ : ByteArray), .slice none 0 0]) r4.2).bind fun h7 =>
 (ldA 3 (⟨h1.next, 0, none⟩ : Addr) h7).bind fun l8 =>
 (decC [.i .i64, .s, .l] l8).bind fun x9 =>
 some ((x9.1, x9.2.1, x9.2.2), h7)
 else
 (s_0).bind fun p10 =>
 (ldI .i64 (⟨p10.block, p10.off + 2, none⟩ : Addr) r4.2).bind fun x11 =>
 (if (decide (x11 > 0)) = true then
 (s_0).bind fun p12 =>
 (ldI .i64 (⟨p12.block, p12.off + 2, none⟩ : Addr) r4.2).bind fun x13 =>
 (s_0).bind fun p14 =>
 (st1 (⟨p14.block, p14.off + 2, none⟩ : Addr) (.int .i64 (IntKind.wrap .i64 (x13 - 1))) r4.2).bind fun h15 =>
 (stL 3 (⟨h1.next, 0, none⟩ : Addr) ([.int .i64 72, .string (⟨#[]⟩ : ByteArray), .slice none 0 0]) h15).bind fun h16 =>
 (ldA 3 (⟨h1.next, 0, none⟩ : Addr) h16).bind fun l17 =>
 (decC [.i .i64, .s, .l] l17).bind fun x18 =>
 some ((x18.1, x18.2.1, x18.2.2), h16)
 else
 (ldI .i64 (⟨h.next, 1, none⟩ : Addr) r4.2).bind fun x19 =>
 (if (x19 == 1) = true then
 (ldS (⟨h.next, 2, none⟩ : Addr) r4.2).bind fun x20 =>
 (ldS (⟨h.next, 3, none⟩ : Addr) r4.2).bind fun x21 =>
 (store_Store_put k D s_0 x20 x21 r4.2).bind fun r22 =>
 (stL 3 (⟨h1.next, 0, none⟩ : Addr) ([.int .i64 r22.1, .string (⟨#[]⟩ : ByteArray), .slice none 0 0]) r22.2).bind fun h23 =>
 (ldA 3 (⟨h1.next, 0, none⟩ : Addr) h23).bind fun l24 =>
 (decC [.i .i64, .s, .l] l24).bind fun x25 =>
 some ((x25.1, x25.2.1, x25.2.2), h23)
 else
 (if (x19 == 2) = true then
 (s_0).bind fun p26 =>
 (ldM (⟨p26.block, p26.off + 4, none⟩ : Addr) r4.2).bind fun x27 =>
 (ldS (⟨h.next, 2, none⟩ : Addr) r4.2).bind fun x28 =>
 (lookE decS (.string ⟨#[]⟩) r4.2 x27 (.string x28)).bind fun p29 =>
 (if (!p29.2) = true then
 (stL 3 (⟨h1.next, 0, none⟩ : Addr) ([.int .i64 5, .string (⟨#[]⟩ : ByteArray), .slice none 0 0]) r4.2).bind fun h30 =>
 (ldA 3 (⟨h1.next, 0, none⟩ : Addr) h30).bind fun l31 =>
 (decC [.i .i64, .s, .l] l31).bind fun x32 =>
 some ((x32.1, x32.2.1, x32.2.2), h30)
 else
 (stL 3 (⟨h1.next, 0, none⟩ : Addr) ([.int .i64 0, .string p29.1, .slice none 0 0]) r4.2).bind fun h33 =>
 (ldA 3 (⟨h1.next, 0, none⟩ : Addr) h33).bind fun l34 =>
 (decC [.i .i64, .s, .l] l34).bind fun x35 =>
 some ((x35.1, x35.2.1, x35.2.2), h33))
 else
 (if (x19 == 3) = true then
 (ldS (⟨h.next, 2, none⟩ : Addr) r4.2).bind fun x36 =>
 (store_Store_list k D s_0 x36 r4.2).bind fun r37 =>
 (stL 3 (⟨h1.next, 0, none⟩ : Addr) ([.int .i64 0, .string (⟨#[]⟩ : ByteArray), .slice r37.1.a r37.1.len r37.1.cap]) r37.2).bind fun h38 =>
 (ldA 3 (⟨h1.next, 0, none⟩ : Addr) h38).bind fun l39 =>
 (decC [.i .i64, .s, .l] l39).bind fun x40 =>
 some ((x40.1, x40.2.1, x40.2.2), h38)
 else
 (if (x19 == 4) = true then
 (ldS (⟨h.next, 2, none⟩ : Addr) r4.2).bind fun x41 =>
 (store_Store_del k D s_0 x41 r4.2).bind fun r42 =>
 (stL 3 (⟨h1.next, 0, none⟩ : Addr) ([.int .i64 r42.1, .string (⟨#[]⟩ : ByteArray), .slice none 0 0]) r42.2).bind fun h43 =>
 (ldA 3 (⟨h1.next, 0, none⟩ : Addr) h43).bind fun l44 =>
 (decC [.i .i64, .s, .l] l44).bind fun x45 =>
 some ((x45.1, x45.2.1, x45.2.2), h43)
 else
 (stL 3 (⟨h1.next, 0, none⟩ : Addr) ([.int .i64 3, .string (⟨#[]⟩ : ByteArray), .slice none 0 0]) r4.2).bind fun h46 =>
 (ldA 3 (⟨h1.next, 0, none⟩ : Addr) h46).bind fun l47 =>
 (decC [.i .i64, .s, .l] l47).bind fun x48 =>
 some ((x48.1, x48.2.1, x48.2.2), h46)))))))
noncomputable def r_store_Store_Do : RCode := an (.n) (rOf Try.prog 0 Try.f13)
noncomputable def e_store_Store_Do (k : Nat) (D : CallF) : Ent := entOf 13 [(0, .p), (1, .st [.i .i64, .i .i64, .s, .s])] [(4, .st [.i .i64, .s, .l])] (store_Store_Do k D)
theorem q_store_Store_Do : (Try.f13.body).bind (rcodeOf Try.prog 0 Try.f13.ntmps) = some (strip r_store_Store_Do) := by kernel_rfl
theorem t_store_Store_Do (k : Nat) (D : CallF) : curF [(0, .p), (1, .st [.i .i64, .i .i64, .s, .s])] (fun args h => denF (C_store_Store_Do k D) k r_store_Store_Do [(4, .st [.i .i64, .s, .l])] [some (.agg 3)] args h) = store_Store_Do k D := by kernel_rfl
theorem ok_store_Store_Do {D : CallF} (hD : CSound Try.prog 0 D) (k : Nat) : EntOk Try.prog 0 (e_store_Store_Do k D) :=
 entOf_ok2 (mkC_sound hD (EntsOk.more (ok_sync_atomic_Int64_Add hD k) (EntsOk.more (ok_store_Store_put hD k) (EntsOk.more (ok_store_Store_list hD k) (EntsOk.more (ok_store_Store_del hD k) (EntsOk.none)))))) Try.func13 rfl q_store_Store_Do rfl (t_store_Store_Do k D)
end Gs
namespace Gs
open Go Gx Go.Proofs
set_option maxRecDepth 100000
noncomputable def C_store_Store_Get (_k : Nat) (D : CallF) : CallF := mkC D []
noncomputable def store_Store_Get (_k : Nat) (_D : CallF) (s_0 : Option Addr) (name_1 : ByteArray) (h : AHeap) : Option ((ByteArray × Bool) × AHeap) :=
 (s_0).bind fun p1 =>
 (ldM (⟨p1.block, p1.off + 4, none⟩ : Addr) h).bind fun x2 =>
 (lookE decS (.string ⟨#[]⟩) h x2 (.string name_1)).bind fun p3 =>
 some ((p3.1, p3.2), h)
noncomputable def r_store_Store_Get : RCode := an (.n) (rOf Try.prog 0 Try.f16)
noncomputable def e_store_Store_Get (k : Nat) (D : CallF) : Ent := entOf 16 [(0, .p), (1, .s)] [(4, .s), (5, .b)] (store_Store_Get k D)
theorem q_store_Store_Get : (Try.f16.body).bind (rcodeOf Try.prog 0 Try.f16.ntmps) = some (strip r_store_Store_Get) := by kernel_rfl
theorem t_store_Store_Get (k : Nat) (D : CallF) : curF [(0, .p), (1, .s)] (fun args h => denF (C_store_Store_Get k D) k r_store_Store_Get [(4, .s), (5, .b)] [none, none] args h) = store_Store_Get k D := by kernel_rfl
theorem ok_store_Store_Get {D : CallF} (hD : CSound Try.prog 0 D) (k : Nat) : EntOk Try.prog 0 (e_store_Store_Get k D) :=
 entOf_ok2 (mkC_sound hD (EntsOk.none)) Try.func16 rfl q_store_Store_Get rfl (t_store_Store_Get k D)
end Gs
namespace Gs
open Go Gx Go.Proofs
set_option maxRecDepth 100000
end Gs
namespace Gs
open Go Gx Go.Proofs
end Gs
namespace Gs
open Go Gx Go.Proofs
set_option maxRecDepth 100000
end Gs
namespace Gs
open Go Gx Go.Proofs
set_option maxRecDepth 100000
end Gs
namespace Gs
open Go Gx Go.Proofs
set_option maxRecDepth 100000
end Gs
namespace Gs
open Go Gx Go.Proofs
set_option maxRecDepth 100000
end Gs
namespace Gs
open Go Gx Go.Proofs
set_option maxRecDepth 100000
end Gs
namespace Gs
open Go Gx Go.Proofs
set_option maxRecDepth 100000
end Gs
namespace Gs
open Go Gx Go.Proofs
set_option maxRecDepth 100000
end Gs
namespace Gs
open Go Gx Go.Proofs
end Gs
namespace Gs
open Go Gx Go.Proofs
end Gs
namespace Gs
open Go Gx Go.Proofs
set_option maxRecDepth 100000
end Gs
namespace Gs
open Go Gx Go.Proofs
set_option maxRecDepth 100000
end Gs
namespace Gs
open Go Gx Go.Proofs
set_option maxRecDepth 100000
noncomputable def C_store_New (_k : Nat) (D : CallF) : CallF := mkC D []
noncomputable def store_New (_k : Nat) (_D : CallF) (quota_0 : Int) (h : AHeap) : Option (((Option Addr) × Int) × AHeap) :=
 joinK (fun (quota1 : Int) (y2 : Bool) (h3 : AHeap) =>
 (if y2 = true then
 some ((none, 1), h3)
 else
 let h5 := AHeap.new h3 (.map [] 0)
 let h6 := AHeap.new h5 (.cells [.int .i64 quota1, .int .i64 0, .int .i64 0, .bool false, .map (some h3.next), .int .i64 0] 106 true 0)
 some (((some (⟨h5.next, 0, none⟩ : Addr)), 0), h6))) fun j4 =>
 (if (decide (quota_0 < 0)) = true then
 j4 quota_0 true h
 else
 j4 quota_0 (decide (quota_0 > 1073741824)) h)
noncomputable def r_store_New : RCode := an (.s .n (.s (.s (.j [(0, .i .i64), (9, .b)] .n) .n) .n)) (rOf Try.prog 0 Try.f11)
noncomputable def e_store_New (k : Nat) (D : CallF) : Ent := entOf 11 [(0, .i .i64)] [(2, .p), (3, .i .i64)] (store_New k D)
theorem q_store_New : (Try.f11.body).bind (rcodeOf Try.prog 0 Try.f11.ntmps) = some (strip r_store_New) := by kernel_rfl
theorem t_store_New (k : Nat) (D : CallF) : curF [(0, .i .i64)] (fun args h => denF (C_store_New k D) k r_store_New [(2, .p), (3, .i .i64)] [none, none] args h) = store_New k D := by kernel_rfl
theorem ok_store_New {D : CallF} (hD : CSound Try.prog 0 D) (k : Nat) : EntOk Try.prog 0 (e_store_New k D) :=
 entOf_ok2 (mkC_sound hD (EntsOk.none)) Try.func11 rfl q_store_New rfl (t_store_New k D)
end Gs
namespace Gs
open Go Gx Go.Proofs
set_option maxRecDepth 100000
noncomputable def C_law07_works (k : Nat) (D : CallF) : CallF := mkC D [e_store_New k D, e_store_Store_Do k D]
noncomputable def law07_works (k : Nat) (D : CallF)  (h : AHeap) : Option ((Bool) × AHeap) :=
 (store_New k D 4 h).bind fun r1 =>
 joinK (fun (s2 : Option Addr) (y3 : Bool) (h4 : AHeap) =>
 (if y3 = true then
 some (false, h4)
 else
 (store_Store_Do k D s2 (0, 1, (⟨#[97]⟩ : ByteArray), (⟨#[98, 99, 100]⟩ : ByteArray)) h4).bind fun r6 =>
 let h7 := AHeap.new r6.2 (.cells [.int .i64 0, .string ⟨#[]⟩, .slice none 0 0] 29 true 0)
 (stL 3 (⟨r6.2.next, 0, none⟩ : Addr) ([.int .i64 r6.1.1, .string r6.1.2.1, .slice r6.1.2.2.a r6.1.2.2.len r6.1.2.2.cap]) h7).bind fun h8 =>
 (store_Store_Do k D s2 (0, 1, (⟨#[97]⟩ : ByteArray), (⟨#[98, 99, 100, 101]⟩ : ByteArray)) h8).bind fun r9 =>
 let h10 := AHeap.new r9.2 (.cells [.int .i64 0, .string ⟨#[]⟩, .slice none 0 0] 29 true 0)
 (stL 3 (⟨r9.2.next, 0, none⟩ : Addr) ([.int .i64 r9.1.1, .string r9.1.2.1, .slice r9.1.2.2.a r9.1.2.2.len r9.1.2.2.cap]) h10).bind fun h11 =>
 (store_Store_Do k D s2 (0, 2, (⟨#[97]⟩ : ByteArray), (⟨#[]⟩ : ByteArray)) h11).bind fun r12 =>
 let h13 := AHeap.new r12.2 (.cells [.int .i64 0, .string ⟨#[]⟩, .slice none 0 0] 29 true 0)
 (stL 3 (⟨r12.2.next, 0, none⟩ : Addr) ([.int .i64 r12.1.1, .string r12.1.2.1, .slice r12.1.2.2.a r12.1.2.2.len r12.1.2.2.cap]) h13).bind fun h14 =>
 (ldI .i64 (⟨r6.2.next, 0, none⟩ : Addr) h14).bind fun x15 =>
 (if (x15 == 0) = true then
 (ldI .i64 (⟨r9.2.next, 0, none⟩ : Addr) h14).bind fun x16 =>
 (if (x16 == 71) = true then
 (ldI .i64 (⟨r12.2.next, 0, none⟩ : Addr) h14).bind fun x17 =>
 (if (x17 == 0) = true then
 (ldS (⟨r12.2.next, 1, none⟩ : Addr) h14).bind fun x18 =>
 some ((x18 == (⟨#[98, 99, 100]⟩ : ByteArray)), h14)
 else
 some (false, h14))
 else
 some (false, h14))
 else
 some (false, h14)))) fun j5 =>
 (if r1.1.1.isNone = true then
 j5 r1.1.1 true r1.2
 else
 j5 r1.1.1 (r1.1.2 != 0) r1.2)
noncomputable def r_law07_works : RCode := an (.s .n (.s .n (.s (.s (.j [(1, .p), (15, .b)] .n) .n) .n))) (rOf Try.prog 0 Try.f12)
noncomputable def e_law07_works (k : Nat) (D : CallF) : Ent := entOf 12 [] [(0, .b)] (law07_works k D)
theorem q_law07_works : (Try.f12.body).bind (rcodeOf Try.prog 0 Try.f12.ntmps) = some (strip r_law07_works) := by kernel_rfl
theorem t_law07_works (k : Nat) (D : CallF) : curF [] (fun args h => denF (C_law07_works k D) k r_law07_works [(0, .b)] [none] args h) = law07_works k D := by kernel_rfl
theorem ok_law07_works {D : CallF} (hD : CSound Try.prog 0 D) (k : Nat) : EntOk Try.prog 0 (e_law07_works k D) :=
 entOf_ok2 (mkC_sound hD (EntsOk.more (ok_store_New hD k) (EntsOk.more (ok_store_Store_Do hD k) (EntsOk.none)))) Try.func12 rfl q_law07_works rfl (t_law07_works k D)
end Gs
namespace Gs
open Go Gx Go.Proofs
set_option maxRecDepth 100000
noncomputable def C_book_SameTexts (_k : Nat) (D : CallF) : CallF := mkC D []
noncomputable def book_SameTexts_l0b (_k : Nat) (_D : CallF) (j2 : AHeap → Option ((Bool) × AHeap)) (rec7 : Slc → Slc → Int → AHeap → Option ((Bool) × AHeap)) (a3 : Slc) (b4 : Slc) (i5 : Int) (h6 : AHeap) : Option ((Bool) × AHeap) :=
 (if (decide (i5 < (a3.len : Int))) = true then
 (Gx.idxL 1 a3 i5).bind fun q8 =>
 (ldS q8 h6).bind fun x9 =>
 (Gx.idxL 1 b4 i5).bind fun q10 =>
 (ldS q10 h6).bind fun x11 =>
 (if (!(x9 == x11)) = true then
 some (false, h6)
 else
 rec7 a3 b4 (IntKind.wrap .i64 (i5 + 1)) h6)
 else
 j2 h6)
noncomputable def book_SameTexts_l0 (k : Nat) (D : CallF) (j2 : AHeap → Option ((Bool) × AHeap)) : Slc → Slc → Int → AHeap → Option ((Bool) × AHeap) :=
 iterK (α := Slc → Slc → Int → AHeap → Option ((Bool) × AHeap)) (fun _ _ _ _ => none) k (book_SameTexts_l0b k D j2)
noncomputable def book_SameTexts (k : Nat) (D : CallF) (a_0 : Slc) (b_1 : Slc) (h : AHeap) : Option ((Bool) × AHeap) :=
 (if ((a_0.len : Int) != (b_1.len : Int)) = true then
 some (false, h)
 else
 joinK (fun (h1 : AHeap) =>
 some (true, h1)) fun j2 =>
 book_SameTexts_l0 k D j2 a_0 b_1 0 h)
noncomputable def r_book_SameTexts : RCode := an (.s .n (.s .n (.s (.j [] (.s .n (.b (.l [(0, .l), (1, .l), (5, .i .i64)] .n)))) .n))) (rOf Try.prog 0 Try.f14)
noncomputable def e_book_SameTexts (k : Nat) (D : CallF) : Ent := entOf 14 [(0, .l), (1, .l)] [(4, .b)] (book_SameTexts k D)
theorem q_book_SameTexts : (Try.f14.body).bind (rcodeOf Try.prog 0 Try.f14.ntmps) = some (strip r_book_SameTexts) := by kernel_rfl
theorem t_book_SameTexts (k : Nat) (D : CallF) : curF [(0, .l), (1, .l)] (fun args h => denF (C_book_SameTexts k D) k r_book_SameTexts [(4, .b)] [none] args h) = book_SameTexts k D := by kernel_rfl
theorem ok_book_SameTexts {D : CallF} (hD : CSound Try.prog 0 D) (k : Nat) : EntOk Try.prog 0 (e_book_SameTexts k D) :=
 entOf_ok2 (mkC_sound hD (EntsOk.none)) Try.func14 rfl q_book_SameTexts rfl (t_book_SameTexts k D)
end Gs
namespace Gs
open Go Gx Go.Proofs
set_option maxRecDepth 100000
noncomputable def C_law07_StoreLists (k : Nat) (D : CallF) : CallF := mkC D [e_store_New k D, e_store_Store_Do k D, e_store_Store_Get k D, e_store_Store_Names k D, e_book_SameTexts k D, e_law07_works k D]
noncomputable def law07_StoreLists_l1b (k : Nat) (D : CallF) (j12 : ByteArray → (Option Addr) → Int → AHeap → Option ((Bool) × AHeap)) (rec75 : Slc → ByteArray → (Option Addr) → Int → Int → AHeap → Option ((Bool) × AHeap)) (names69 : Slc) (begin70 : ByteArray) (s71 : Option Addr) (there72 : Int) (i73 : Int) (h74 : AHeap) : Option ((Bool) × AHeap) :=
 joinK (fun (names76 : Slc) (begin77 : ByteArray) (s78 : Option Addr) (there79 : Int) (i80 : Int) (y81 : Bool) (h82 : AHeap) =>
 (if y81 = true then
 joinK (fun (names84 : Slc) (begin85 : ByteArray) (s86 : Option Addr) (there87 : Int) (i88 : Int) (h89 : AHeap) =>
 rec75 names84 begin85 s86 there87 (IntKind.wrap .i64 (i88 + 1)) h89) fun j90 =>
 (Gx.idxL 1 names76 i80).bind fun q91 =>
 (ldS q91 h82).bind fun x92 =>
 (store_Store_Do k D s78 (0, 1, x92, (⟨#[]⟩ : ByteArray)) h82).bind fun r93 =>
 let h94 := AHeap.new r93.2 (.cells [.int .i64 0, .string ⟨#[]⟩, .slice none 0 0] 29 true 0)
 (stL 3 (⟨r93.2.next, 0, none⟩ : Addr) ([.int .i64 r93.1.1, .string r93.1.2.1, .slice r93.1.2.2.a r93.1.2.2.len r93.1.2.2.cap]) h94).bind fun h95 =>
 joinK (fun (names96 : Slc) (begin97 : ByteArray) (s98 : Option Addr) (there99 : Int) (i100 : Int) (y101 : Bool) (h102 : AHeap) =>
 (if y101 = true then
 j90 names96 begin97 s98 (IntKind.wrap .i64 (there99 + 1)) i100 h102
 else
 j90 names96 begin97 s98 there99 i100 h102)) fun j103 =>
 (ldI .i64 (⟨r93.2.next, 0, none⟩ : Addr) h95).bind fun x104 =>
 (if (x104 == 0) = true then
 (Gx.idxL 1 names76 i80).bind fun q105 =>
 (ldS q105 h95).bind fun x106 =>
 (if (decide ((x106.size : Int) ≥ (begin77.size : Int))) = true then
 (Gx.idxL 1 names76 i80).bind fun q107 =>
 (ldS q107 h95).bind fun x108 =>
 (Gx.subS x108 none (some (begin77.size : Int))).bind fun s109 =>
 j103 names76 begin77 s78 there79 i80 (s109 == begin77) h95
 else
 j103 names76 begin77 s78 there79 i80 false h95)
 else
 j103 names76 begin77 s78 there79 i80 false h95)
 else
 j12 begin77 s78 there79 h82)) fun j83 =>
 (if (decide (i73 < (names69.len : Int))) = true then
 j83 names69 begin70 s71 there72 i73 (decide (i73 < 40)) h74
 else
 j83 names69 begin70 s71 there72 i73 false h74)
noncomputable def law07_StoreLists_l1 (k : Nat) (D : CallF) (j12 : ByteArray → (Option Addr) → Int → AHeap → Option ((Bool) × AHeap)) : Slc → ByteArray → (Option Addr) → Int → Int → AHeap → Option ((Bool) × AHeap) :=
 iterK (α := Slc → ByteArray → (Option Addr) → Int → Int → AHeap → Option ((Bool) × AHeap)) (fun _ _ _ _ _ _ => none) k (law07_StoreLists_l1b k D j12)
noncomputable def law07_StoreLists_l0b (k : Nat) (D : CallF) (j29 : Int → (Option Addr) → AHeap → Option ((Bool) × AHeap)) (rec42 : ByteArray → (Option Addr) → Int → (Option Addr) → Slc → Int → Int → AHeap → Option ((Bool) × AHeap)) (begin34 : ByteArray) (s35 : Option Addr) (there36 : Int) (r37 : Option Addr) (y38 : Slc) (y39 : Int) (y40 : Int) (h41 : AHeap) : Option ((Bool) × AHeap) :=
 (if (decide (y40 < y39)) = true then
 (Gx.idxL 1 y38 y40).bind fun q43 =>
 (ldS q43 h41).bind fun x44 =>
 joinK (fun (begin45 : ByteArray) (s46 : Option Addr) (there47 : Int) (r48 : Option Addr) (n49 : ByteArray) (y50 : Slc) (y51 : Int) (y52 : Int) (y53 : Bool) (h54 : AHeap) =>
 (if y53 = true then
 some (false, h54)
 else
 (store_Store_Get k D s46 n49 h54).bind fun r56 =>
 (if (!r56.1.2) = true then
 some (false, r56.2)
 else
 rec42 begin45 s46 there47 r48 y50 y51 (IntKind.wrap .i64 (y52 + 1)) r56.2))) fun j55 =>
 (if (decide ((x44.size : Int) < (begin34.size : Int))) = true then
 j55 begin34 s35 there36 r37 x44 y38 y39 y40 true h41
 else
 (Gx.subS x44 none (some (begin34.size : Int))).bind fun s57 =>
 (if (!(s57 == begin34)) = true then
 j55 begin34 s35 there36 r37 x44 y38 y39 y40 true h41
 else
 (if (decide (y40 > 0)) = true then
 (r37).bind fun p58 =>
 (ldL (⟨p58.block, p58.off + 2, none⟩ : Addr) h41).bind fun x59 =>
 (Gx.idxL 1 x59 (IntKind.wrap .i64 (y40 - 1))).bind fun q60 =>
 (ldS q60 h41).bind fun x61 =>
 j55 begin34 s35 there36 r37 x44 y38 y39 y40 (Op.bytesLess x44.toList x61.toList || (x44 == x61)) h41
 else
 j55 begin34 s35 there36 r37 x44 y38 y39 y40 false h41)))
 else
 j29 there36 r37 h41)
noncomputable def law07_StoreLists_l0 (k : Nat) (D : CallF) (j29 : Int → (Option Addr) → AHeap → Option ((Bool) × AHeap)) : ByteArray → (Option Addr) → Int → (Option Addr) → Slc → Int → Int → AHeap → Option ((Bool) × AHeap) :=
 iterK (α := ByteArray → (Option Addr) → Int → (Option Addr) → Slc → Int → Int → AHeap → Option ((Bool) × AHeap)) (fun _ _ _ _ _ _ _ _ => none) k (law07_StoreLists_l0b k D j29)
noncomputable def law07_StoreLists (k : Nat) (D : CallF) (names_0 : Slc) (begin_1 : ByteArray) (h : AHeap) : Option ((Bool) × AHeap) :=
 (store_New k D 1048576 h).bind fun r1 =>
 joinK (fun (names2 : Slc) (begin3 : ByteArray) (s4 : Option Addr) (y5 : Bool) (h6 : AHeap) =>
 (if y5 = true then
 some (false, h6)
 else
 joinK (fun (begin8 : ByteArray) (s9 : Option Addr) (there10 : Int) (h11 : AHeap) =>
 (store_Store_Do k D s9 (0, 3, begin8, (⟨#[]⟩ : ByteArray)) h11).bind fun r13 =>
 let h14 := AHeap.new r13.2 (.cells [.int .i64 0, .string ⟨#[]⟩, .slice none 0 0] 29 true 0)
 (stL 3 (⟨r13.2.next, 0, none⟩ : Addr) ([.int .i64 r13.1.1, .string r13.1.2.1, .slice r13.1.2.2.a r13.1.2.2.len r13.1.2.2.cap]) h14).bind fun h15 =>
 (store_Store_Do k D s9 (0, 3, (⟨#[]⟩ : ByteArray), (⟨#[]⟩ : ByteArray)) h15).bind fun r16 =>
 let h17 := AHeap.new r16.2 (.cells [.int .i64 0, .string ⟨#[]⟩, .slice none 0 0] 29 true 0)
 (stL 3 (⟨r16.2.next, 0, none⟩ : Addr) ([.int .i64 r16.1.1, .string r16.1.2.1, .slice r16.1.2.2.a r16.1.2.2.len r16.1.2.2.cap]) h17).bind fun h18 =>
 joinK (fun (begin19 : ByteArray) (s20 : Option Addr) (there21 : Int) (r22 : Option Addr) (y23 : Bool) (h24 : AHeap) =>
 (if y23 = true then
 some (false, h24)
 else
 joinK (fun (there26 : Int) (r27 : Option Addr) (h28 : AHeap) =>
 (r27).bind fun p30 =>
 (ldL (⟨p30.block, p30.off + 2, none⟩ : Addr) h28).bind fun x31 =>
 some (((decide (there26 > 0)) == (decide ((x31.len : Int) > 0))), h28)) fun j29 =>
 (r22).bind fun p32 =>
 (ldL (⟨p32.block, p32.off + 2, none⟩ : Addr) h24).bind fun x33 =>
 law07_StoreLists_l0 k D j29 begin19 s20 there21 r22 x33 (x33.len : Int) 0 h24)) fun j25 =>
 (ldI .i64 (⟨r13.2.next, 0, none⟩ : Addr) h18).bind fun x62 =>
 (if (x62 != 0) = true then
 j25 begin8 s9 there10 (some (⟨r13.2.next, 0, none⟩ : Addr)) true h18
 else
 (store_Store_Names k D s9 h18).bind fun r63 =>
 (ldL (⟨r16.2.next, 2, none⟩ : Addr) r63.2).bind fun x64 =>
 guardP (SameW [h18] (fun H66 => (ldL (⟨r16.2.next, 2, none⟩ : Addr) H66).bind fun y65 => some (.slice y65.a y65.len y65.cap)) (.slice x64.a x64.len x64.cap)) (
 (book_SameTexts k D x64 r63.1 r63.2).bind fun r67 =>
 (if (!r67.1) = true then
 j25 begin8 s9 there10 (some (⟨r13.2.next, 0, none⟩ : Addr)) true r67.2
 else
 (ldL (⟨r13.2.next, 2, none⟩ : Addr) r67.2).bind fun x68 =>
 j25 begin8 s9 there10 (some (⟨r13.2.next, 0, none⟩ : Addr)) (decide ((x68.len : Int) > there10)) r67.2)))) fun j12 =>
 law07_StoreLists_l1 k D j12 names2 begin3 s4 0 0 h6)) fun j7 =>
 (if r1.1.1.isNone = true then
 j7 names_0 begin_1 r1.1.1 true r1.2
 else
 (if (r1.1.2 != 0) = true then
 j7 names_0 begin_1 r1.1.1 true r1.2
 else
 (law07_works k D r1.2).bind fun r110 =>
 j7 names_0 begin_1 r1.1.1 (!r110.1) r110.2))
noncomputable def r_law07_StoreLists : RCode := an (.s .n (.s .n (.s (.s (.j [(0, .l), (1, .s), (5, .p), (29, .b)] .n) .n) (.s .n (.s (.j [(1, .s), (5, .p), (7, .i .i64)] (.s .n (.b (.l [(0, .l), (1, .s), (5, .p), (7, .i .i64), (8, .i .i64)] (.s (.s (.j [(0, .l), (1, .s), (5, .p), (7, .i .i64), (8, .i .i64), (37, .b)] .n) .n) (.s (.j [(0, .l), (1, .s), (5, .p), (7, .i .i64), (8, .i .i64)] (.b (.s .n (.s (.j [(0, .l), (1, .s), (5, .p), (7, .i .i64), (8, .i .i64), (70, .b)] .n) .n)))) .n)))))) (.s .n (.s .n (.s (.s (.j [(1, .s), (5, .p), (7, .i .i64), (10, .p), (97, .b)] .n) .n) (.s (.j [(7, .i .i64), (10, .p)] (.s .n (.b (.l [(1, .s), (5, .p), (7, .i .i64), (10, .p), (99, .l), (100, .i .i64), (101, .i .i64)] (.s .n (.s .n (.s (.b (.s .n (.s (.s (.j [(1, .s), (5, .p), (7, .i .i64), (10, .p), (13, .s), (99, .l), (100, .i .i64), (101, .i .i64), (132, .b)] .n) .n) .n))) .n))))))) .n))))))))) (rOf Try.prog 0 Try.f3)
noncomputable def e_law07_StoreLists (k : Nat) (D : CallF) : Ent := entOf 3 [(0, .l), (1, .s)] [(4, .b)] (law07_StoreLists k D)
theorem q_law07_StoreLists : (Try.f3.body).bind (rcodeOf Try.prog 0 Try.f3.ntmps) = some (strip r_law07_StoreLists) := by kernel_rfl
theorem t_law07_StoreLists (k : Nat) (D : CallF) : curF [(0, .l), (1, .s)] (fun args h => denF (C_law07_StoreLists k D) k r_law07_StoreLists [(4, .b)] [none] args h) = law07_StoreLists k D := by kernel_rfl
theorem ok_law07_StoreLists {D : CallF} (hD : CSound Try.prog 0 D) (k : Nat) : EntOk Try.prog 0 (e_law07_StoreLists k D) :=
 entOf_ok2 (mkC_sound hD (EntsOk.more (ok_store_New hD k) (EntsOk.more (ok_store_Store_Do hD k) (EntsOk.more (ok_store_Store_Get hD k) (EntsOk.more (ok_store_Store_Names hD k) (EntsOk.more (ok_book_SameTexts hD k) (EntsOk.more (ok_law07_works hD k) (EntsOk.none)))))))) Try.func3 rfl q_law07_StoreLists rfl (t_law07_StoreLists k D)
end Gs
