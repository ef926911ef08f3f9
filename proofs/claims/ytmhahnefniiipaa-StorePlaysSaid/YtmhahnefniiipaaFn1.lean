import Derived.Test.YtmhahnefniiipaaProg
import Derived.Shelf.SlIter.Nil
import Derived.Shelf.SortM.Plain
import Derived.Shelf.SortM.SortNone
import Derived.Shelf.SlMaps.Clone
import Derived.KernelRfl
import Derived.Test.YtmhahnefniiipaaGx3
namespace Gs
open Go Gx Go.Proofs
noncomputable def e_sync_atomic_AddInt64 (_k : Nat) (_D : CallF) : Ent := eAdd 98 .i64
theorem ok_sync_atomic_AddInt64 {D : CallF} (_hD : CSound Try.prog 0 D) (k : Nat) : EntOk Try.prog 0 (e_sync_atomic_AddInt64 k D) :=
 add_ok Try.func98 rfl rfl rfl .i64 (by kernel_rfl)
end Gs
namespace Gs
open Go Gx Go.Proofs
set_option maxRecDepth 100000
noncomputable def C_sync_atomic_Int64_Add (k : Nat) (D : CallF) : CallF := mkC D [e_sync_atomic_AddInt64 k D]
noncomputable def sync_atomic_Int64_Add (_k : Nat) (_D : CallF) (x_0 : Option Addr) (delta_1 : Int) (h : AHeap) : Option ((Int) × AHeap) :=
 (x_0).bind fun p1 =>
 (ldI .i64 (⟨p1.block, p1.off + 0, none⟩ : Addr) h).bind fun x2 =>
 (st1 (⟨p1.block, p1.off + 0, none⟩ : Addr) (.int .i64 (IntKind.wrap .i64 (x2 + delta_1))) h).bind fun h3 =>
 some ((IntKind.wrap .i64 (x2 + delta_1)), h3)
noncomputable def r_sync_atomic_Int64_Add : RCode := an (.n) (rOf Try.prog 0 Try.f50)
noncomputable def e_sync_atomic_Int64_Add (k : Nat) (D : CallF) : Ent := entOf 50 [(0, .p), (1, .i .i64)] [(4, .i .i64)] (sync_atomic_Int64_Add k D)
theorem q_sync_atomic_Int64_Add : (Try.f50.body).bind (rcodeOf Try.prog 0 Try.f50.ntmps) = some (strip r_sync_atomic_Int64_Add) := by kernel_rfl
theorem t_sync_atomic_Int64_Add (k : Nat) (D : CallF) : curF [(0, .p), (1, .i .i64)] (fun args h => denF (C_sync_atomic_Int64_Add k D) k r_sync_atomic_Int64_Add [(4, .i .i64)] [none] args h) = sync_atomic_Int64_Add k D := by kernel_rfl
theorem ok_sync_atomic_Int64_Add {D : CallF} (hD : CSound Try.prog 0 D) (k : Nat) : EntOk Try.prog 0 (e_sync_atomic_Int64_Add k D) :=
 entOf_ok2 (mkC_sound hD (EntsOk.more (ok_sync_atomic_AddInt64 hD k) (EntsOk.none))) Try.func50 rfl q_sync_atomic_Int64_Add rfl (t_sync_atomic_Int64_Add k D)
end Gs
namespace Gs
open Go Gx Go.Proofs
set_option maxRecDepth 100000
noncomputable def C_store_may (_k : Nat) (D : CallF) : CallF := mkC D []
noncomputable def store_may_l0b (_k : Nat) (_D : CallF) (j3 : ByteArray → AHeap → Option ((Bool) × AHeap)) (rec10 : ByteArray → Slc → Int → Int → AHeap → Option ((Bool) × AHeap)) (name5 : ByteArray) (y6 : Slc) (y7 : Int) (y8 : Int) (h9 : AHeap) : Option ((Bool) × AHeap) :=
 (if (decide (y8 < y7)) = true then
 (Gx.idxL 1 y6 y8).bind fun q11 =>
 (ldI .u8 q11 h9).bind fun x12 =>
 joinK (fun (name13 : ByteArray) (y14 : Slc) (y15 : Int) (y16 : Int) (y17 : Bool) (h18 : AHeap) =>
 (if y17 = true then
 some (false, h18)
 else
 rec10 name13 y14 y15 (IntKind.wrap .i64 (y16 + 1)) h18)) fun j19 =>
 (if (decide (x12 ≤ 32)) = true then
 j19 name5 y6 y7 y8 true h9
 else
 j19 name5 y6 y7 y8 (decide (x12 ≥ 127)) h9)
 else
 j3 name5 h9)
noncomputable def store_may_l0 (k : Nat) (D : CallF) (j3 : ByteArray → AHeap → Option ((Bool) × AHeap)) : ByteArray → Slc → Int → Int → AHeap → Option ((Bool) × AHeap) :=
 iterK (α := ByteArray → Slc → Int → Int → AHeap → Option ((Bool) × AHeap)) (fun _ _ _ _ _ => none) k (store_may_l0b k D j3)
noncomputable def store_may (k : Nat) (D : CallF) (name_0 : ByteArray) (h : AHeap) : Option ((Bool) × AHeap) :=
 joinK (fun (name1 : ByteArray) (h2 : AHeap) =>
 (if (!(name1 == (⟨#[]⟩ : ByteArray))) = true then
 some ((decide ((name1.size : Int) ≤ 96)), h2)
 else
 some (false, h2))) fun j3 =>
 let h4 := AHeap.new h (.cells (bytesL name_0) 5 true 0)
 store_may_l0 k D j3 name_0 (⟨(some ⟨h.next, 0, some 2⟩), name_0.size, name_0.size⟩ : Slc) (name_0.size : Int) 0 h4
noncomputable def r_store_may : RCode := an (.s .n (.s (.j [(0, .s)] (.s .n (.b (.l [(0, .s), (6, .l), (7, .i .i64), (8, .i .i64)] (.s .n (.s .n (.s (.b (.s .n (.s (.j [(0, .s), (6, .l), (7, .i .i64), (8, .i .i64), (17, .b)] .n) .n))) .n))))))) .n)) (rOf Try.prog 0 Try.f127)
noncomputable def e_store_may (k : Nat) (D : CallF) : Ent := entOf 127 [(0, .s)] [(2, .b)] (store_may k D)
theorem q_store_may : (Try.f127.body).bind (rcodeOf Try.prog 0 Try.f127.ntmps) = some (strip r_store_may) := by kernel_rfl
theorem t_store_may (k : Nat) (D : CallF) : curF [(0, .s)] (fun args h => denF (C_store_may k D) k r_store_may [(2, .b)] [none] args h) = store_may k D := by kernel_rfl
theorem ok_store_may {D : CallF} (hD : CSound Try.prog 0 D) (k : Nat) : EntOk Try.prog 0 (e_store_may k D) :=
 entOf_ok2 (mkC_sound hD (EntsOk.none)) Try.func127 rfl q_store_may rfl (t_store_may k D)
end Gs
namespace Gs
open Go Gx Go.Proofs
set_option maxRecDepth 100000
noncomputable def C_store_fits (k : Nat) (D : CallF) : CallF := mkC D [e_store_may k D]
noncomputable def store_fits (k : Nat) (D : CallF) (name_0 : ByteArray) (data_1 : ByteArray) (h : AHeap) : Option ((Int) × AHeap) :=
 (store_may k D name_0 h).bind fun r1 =>
 (if (!r1.1) = true then
 some (3, r1.2)
 else
 (if (decide ((data_1.size : Int) > 131072)) = true then
 some (2, r1.2)
 else
 some (0, r1.2)))
noncomputable def r_store_fits : RCode := an (.n) (rOf Try.prog 0 Try.f99)
noncomputable def e_store_fits (k : Nat) (D : CallF) : Ent := entOf 99 [(0, .s), (1, .s)] [(4, .i .i64)] (store_fits k D)
theorem q_store_fits : (Try.f99.body).bind (rcodeOf Try.prog 0 Try.f99.ntmps) = some (strip r_store_fits) := by kernel_rfl
theorem t_store_fits (k : Nat) (D : CallF) : curF [(0, .s), (1, .s)] (fun args h => denF (C_store_fits k D) k r_store_fits [(4, .i .i64)] [none] args h) = store_fits k D := by kernel_rfl
theorem ok_store_fits {D : CallF} (hD : CSound Try.prog 0 D) (k : Nat) : EntOk Try.prog 0 (e_store_fits k D) :=
 entOf_ok2 (mkC_sound hD (EntsOk.more (ok_store_may hD k) (EntsOk.none))) Try.func99 rfl q_store_fits rfl (t_store_fits k D)
end Gs
namespace Gs
open Go Gx Go.Proofs
set_option maxRecDepth 100000
noncomputable def C_store_Store_room (_k : Nat) (D : CallF) : CallF := mkC D []
noncomputable def store_Store_room (_k : Nat) (_D : CallF) (s_0 : Option Addr) (name_1 : ByteArray) (h : AHeap) : Option ((Int) × AHeap) :=
 (s_0).bind fun p1 =>
 (ldM (⟨p1.block, p1.off + 4, none⟩ : Addr) h).bind fun x2 =>
 (lookE decS (.string ⟨#[]⟩) h x2 (.string name_1)).bind fun p3 =>
 (if p3.2 = true then
 let t4 : Int := (IntKind.wrap .i64 ((name_1.size : Int) + (p3.1.size : Int)))
 some (t4, h)
 else
 some (0, h))
noncomputable def r_store_Store_room : RCode := an (.n) (rOf Try.prog 0 Try.f100)
noncomputable def e_store_Store_room (k : Nat) (D : CallF) : Ent := entOf 100 [(0, .p), (1, .s)] [(4, .i .i64)] (store_Store_room k D)
theorem q_store_Store_room : (Try.f100.body).bind (rcodeOf Try.prog 0 Try.f100.ntmps) = some (strip r_store_Store_room) := by kernel_rfl
theorem t_store_Store_room (k : Nat) (D : CallF) : curF [(0, .p), (1, .s)] (fun args h => denF (C_store_Store_room k D) k r_store_Store_room [(4, .i .i64)] [none] args h) = store_Store_room k D := by kernel_rfl
theorem ok_store_Store_room {D : CallF} (hD : CSound Try.prog 0 D) (k : Nat) : EntOk Try.prog 0 (e_store_Store_room k D) :=
 entOf_ok2 (mkC_sound hD (EntsOk.none)) Try.func100 rfl q_store_Store_room rfl (t_store_Store_room k D)
end Gs
namespace Gs
open Go Gx Go.Proofs
set_option maxRecDepth 100000
noncomputable def C_store_Store_lay (k : Nat) (D : CallF) : CallF := mkC D [e_store_Store_room k D]
noncomputable def store_Store_lay (k : Nat) (D : CallF) (s_0 : Option Addr) (name_1 : ByteArray) (data_2 : ByteArray) (h : AHeap) : Option ((Unit) × AHeap) :=
 (store_Store_room k D s_0 name_1 h).bind fun r1 =>
 (s_0).bind fun p2 =>
 (ldI .i64 (⟨p2.block, p2.off + 1, none⟩ : Addr) r1.2).bind fun x3 =>
 guardP (SameW [h] (fun H5 => (ldI .i64 (⟨p2.block, p2.off + 1, none⟩ : Addr) H5).bind fun y4 => some (.int .i64 y4)) (.int .i64 x3)) (
 let t6 : Int := (IntKind.wrap .i64 ((name_1.size : Int) + (data_2.size : Int)))
 (s_0).bind fun p7 =>
 (st1 (⟨p7.block, p7.off + 1, none⟩ : Addr) (.int .i64 (IntKind.wrap .i64 (x3 + (IntKind.wrap .i64 (t6 - r1.1))))) r1.2).bind fun h8 =>
 (s_0).bind fun p9 =>
 (ldM (⟨p9.block, p9.off + 4, none⟩ : Addr) h8).bind fun x10 =>
 (x10).bind fun r12 =>
 (updE h8 r12 (.string name_1) (.string data_2)).bind fun h11 =>
 some ((), h11))
noncomputable def r_store_Store_lay : RCode := an (.n) (rOf Try.prog 0 Try.f101)
noncomputable def e_store_Store_lay (k : Nat) (D : CallF) : Ent := entOf 101 [(0, .p), (1, .s), (2, .s)] [] (store_Store_lay k D)
theorem q_store_Store_lay : (Try.f101.body).bind (rcodeOf Try.prog 0 Try.f101.ntmps) = some (strip r_store_Store_lay) := by kernel_rfl
theorem t_store_Store_lay (k : Nat) (D : CallF) : curF [(0, .p), (1, .s), (2, .s)] (fun args h => denF (C_store_Store_lay k D) k r_store_Store_lay [] [] args h) = store_Store_lay k D := by kernel_rfl
theorem ok_store_Store_lay {D : CallF} (hD : CSound Try.prog 0 D) (k : Nat) : EntOk Try.prog 0 (e_store_Store_lay k D) :=
 entOf_ok2 (mkC_sound hD (EntsOk.more (ok_store_Store_room hD k) (EntsOk.none))) Try.func101 rfl q_store_Store_lay rfl (t_store_Store_lay k D)
end Gs
namespace Gs
open Go Gx Go.Proofs
set_option maxRecDepth 100000
noncomputable def C_store_Store_put (k : Nat) (D : CallF) : CallF := mkC D [e_store_fits k D, e_store_Store_room k D, e_store_Store_lay k D]
noncomputable def store_Store_put (k : Nat) (D : CallF) (s_0 : Option Addr) (name_1 : ByteArray) (data_2 : ByteArray) (h : AHeap) : Option ((Int) × AHeap) :=
 (store_fits k D name_1 data_2 h).bind fun r1 =>
 (if (r1.1 != 0) = true then
 some (r1.1, r1.2)
 else
 (store_Store_room k D s_0 name_1 r1.2).bind fun r2 =>
 (s_0).bind fun p3 =>
 (ldI .i64 (⟨p3.block, p3.off + 1, none⟩ : Addr) r2.2).bind fun x4 =>
 guardP (SameW [r1.2] (fun H6 => (ldI .i64 (⟨p3.block, p3.off + 1, none⟩ : Addr) H6).bind fun y5 => some (.int .i64 y5)) (.int .i64 x4)) (
 let t7 : Int := (IntKind.wrap .i64 ((IntKind.wrap .i64 (x4 - r2.1)) + (name_1.size : Int)))
 (s_0).bind fun p8 =>
 (ldI .i64 (⟨p8.block, p8.off + 0, none⟩ : Addr) r2.2).bind fun x9 =>
 guardP (SameW [r1.2] (fun H11 => (ldI .i64 (⟨p8.block, p8.off + 0, none⟩ : Addr) H11).bind fun y10 => some (.int .i64 y10)) (.int .i64 x9)) (
 (if (decide ((IntKind.wrap .i64 (t7 + (data_2.size : Int))) > x9)) = true then
 some (71, r2.2)
 else
 (store_Store_lay k D s_0 name_1 data_2 r2.2).bind fun r12 =>
 some (0, r12.2)))))
noncomputable def r_store_Store_put : RCode := an (.n) (rOf Try.prog 0 Try.f51)
noncomputable def e_store_Store_put (k : Nat) (D : CallF) : Ent := entOf 51 [(0, .p), (1, .s), (2, .s)] [(6, .i .i64)] (store_Store_put k D)
theorem q_store_Store_put : (Try.f51.body).bind (rcodeOf Try.prog 0 Try.f51.ntmps) = some (strip r_store_Store_put) := by kernel_rfl
theorem t_store_Store_put (k : Nat) (D : CallF) : curF [(0, .p), (1, .s), (2, .s)] (fun args h => denF (C_store_Store_put k D) k r_store_Store_put [(6, .i .i64)] [none] args h) = store_Store_put k D := by kernel_rfl
theorem ok_store_Store_put {D : CallF} (hD : CSound Try.prog 0 D) (k : Nat) : EntOk Try.prog 0 (e_store_Store_put k D) :=
 entOf_ok2 (mkC_sound hD (EntsOk.more (ok_store_fits hD k) (EntsOk.more (ok_store_Store_room hD k) (EntsOk.more (ok_store_Store_lay hD k) (EntsOk.none))))) Try.func51 rfl q_store_Store_put rfl (t_store_Store_put k D)
end Gs
namespace Gs
open Go Gx Go.Proofs
set_option maxRecDepth 100000
noncomputable def C_maps_Keys_map_string_string_string_string (_k : Nat) (D : CallF) : CallF := mkC D []
noncomputable def maps_Keys_map_string_string_string_string (_k : Nat) (_D : CallF) (m_0 : Option Nat) (h : AHeap) : Option ((Value) × AHeap) :=
 let h1 := AHeap.new h (.cells [.map m_0] 99 true 0)
 some ((.func (.func 105) ⟨[]⟩ ⟨[.pointer (some (⟨h.next, 0, none⟩ : Addr))]⟩), h1)
noncomputable def r_maps_Keys_map_string_string_string_string : RCode := an (.n) (rOf Try.prog 0 Try.f55)
noncomputable def e_maps_Keys_map_string_string_string_string (k : Nat) (D : CallF) : Ent := entOf 55 [(0, .m)] [(2, .v)] (maps_Keys_map_string_string_string_string k D)
theorem q_maps_Keys_map_string_string_string_string : (Try.f55.body).bind (rcodeOf Try.prog 0 Try.f55.ntmps) = some (strip r_maps_Keys_map_string_string_string_string) := by kernel_rfl
theorem t_maps_Keys_map_string_string_string_string (k : Nat) (D : CallF) : curF [(0, .m)] (fun args h => denF (C_maps_Keys_map_string_string_string_string k D) k r_maps_Keys_map_string_string_string_string [(2, .v)] [none] args h) = maps_Keys_map_string_string_string_string k D := by kernel_rfl
theorem ok_maps_Keys_map_string_string_string_string {D : CallF} (hD : CSound Try.prog 0 D) (k : Nat) : EntOk Try.prog 0 (e_maps_Keys_map_string_string_string_string k D) :=
 entOf_ok2 (mkC_sound hD (EntsOk.none)) Try.func55 rfl q_maps_Keys_map_string_string_string_string rfl (t_maps_Keys_map_string_string_string_string k D)
end Gs
namespace Go.Proofs
open Go.Shelf Go.RowKit Go.Maps Go.Sort
def Try.keysA_ren : Go.Shelf.Ren := ⟨fun | 7 => 55 | 10 => 105 | n => n, fun | 23 => 99 | 26 => 9 | 3 => 9 | 28 => 112 | 0 => 0 | 27 => 111 | 33 => 157 | 4 => 4 | n => n, fun | n => n⟩
theorem Try.keysA : Go.Proofs.SlLaysZ.n7 Try.prog Try.keysA_ren := {
 mixed := by kernel_rfl
 f7 := ⟨Try.f55.name, by decide, Try.func55.trans (congrArg some (by kernel_rfl))⟩
 f10 := ⟨Try.f105.name, by decide, Try.func105.trans (congrArg some (by kernel_rfl))⟩
 t0 := Try.underlying0
 a0 := Try.isAgg0
 z0 := Try.sizeOf0
 v0 := Try.zeroValue0
 t4 := Try.underlying4
 a4 := Try.isAgg4
 z4 := Try.sizeOf4
 v4 := Try.zeroValue4
 t23 := Try.underlying99
 a23 := Try.isAgg99
 z23 := Try.sizeOf99
 v23 := Try.zeroValue99
 t26 := Try.underlying9
 a26 := Try.isAgg9
 z26 := Try.sizeOf9
 v26 := Try.zeroValue9
 t27 := Try.underlying111
 a27 := Try.isAgg111
 z27 := Try.sizeOf111
 v27 := Try.zeroValue111
 t28 := Try.underlying112
 a28 := Try.isAgg112
 z28 := Try.sizeOf112
 v28 := Try.zeroValue112
 t33 := Try.underlying157
 a33 := Try.isAgg157
 z33 := Try.sizeOf157
 v33 := Try.zeroValue157 }
def Try.sortedA_ren : Go.Shelf.Ren := ⟨fun | 6 => 54 | 8 => 103 | 9 => 104 | 11 => 129 | 13 => 131 | 12 => 130 | 23 => 145 | 24 => 146 | 14 => 136 | 15 => 137 | 16 => 138 | 17 => 139 | 18 => 140 | 19 => 141 | 20 => 142 | 21 => 143 | 22 => 144 | 25 => 147 | 26 => 148 | 27 => 149 | 28 => 150 | 29 => 151 | 30 => 152 | 31 => 153 | n => n, fun | 26 => 9 | 28 => 112 | 24 => 22 | 0 => 0 | 3 => 3 | 37 => 173 | 48 => 186 | 50 => 188 | 4 => 4 | 40 => 180 | 39 => 179 | 45 => 121 | 5 => 5 | 9 => 9 | 51 => 189 | 55 => 193 | 57 => 195 | 58 => 196 | 33 => 157 | n => n, fun | n => n⟩
theorem Try.sortedA : Go.Proofs.SlLaysZ.n6 Try.prog Try.sortedA_ren := {
 mixed := by kernel_rfl
 f6 := ⟨Try.f54.name, by decide, Try.func54.trans (congrArg some (by kernel_rfl))⟩
 f8 := ⟨Try.f103.name, by decide, Try.func103.trans (congrArg some (by kernel_rfl))⟩
 f11 := ⟨Try.f129.name, by decide, Try.func129.trans (congrArg some (by kernel_rfl))⟩
 t0 := Try.underlying0
 a0 := Try.isAgg0
 z0 := Try.sizeOf0
 v0 := Try.zeroValue0
 t24 := Try.underlying22
 a24 := Try.isAgg22
 z24 := Try.sizeOf22
 v24 := Try.zeroValue22
 t26 := Try.underlying9
 a26 := Try.isAgg9
 z26 := Try.sizeOf9
 v26 := Try.zeroValue9
 t28 := Try.underlying112
 a28 := Try.isAgg112
 z28 := Try.sizeOf112
 v28 := Try.zeroValue112
 i26 := by kernel_rfl }
def Try.sortA_ren : Go.Shelf.Ren := ⟨fun | 6 => 104 | 8 => 131 | 9 => 130 | 19 => 145 | 20 => 146 | 21 => 136 | 22 => 137 | 23 => 138 | 24 => 139 | 25 => 140 | 26 => 141 | 27 => 142 | 28 => 143 | 29 => 144 | 36 => 147 | 31 => 148 | 32 => 149 | 37 => 150 | 38 => 151 | 39 => 152 | 41 => 153 | n => n, fun | 27 => 22 | 29 => 9 | 3 => 3 | 32 => 173 | 26 => 22 | 0 => 0 | 44 => 186 | 46 => 188 | 4 => 4 | 36 => 180 | 35 => 179 | 41 => 121 | 5 => 5 | 9 => 9 | 53 => 189 | 57 => 193 | 63 => 195 | 64 => 196 | n => n, fun | n => n⟩
theorem Try.sortA : Go.Proofs.SlLaysM.n6 Try.prog Try.sortA_ren := {
 mixed := by kernel_rfl
 f6 := ⟨Try.f104.name, by decide, Try.func104.trans (congrArg some (by kernel_rfl))⟩
 f8 := Try.func131.trans (congrArg some (by kernel_rfl))
 f9 := ⟨Try.f130.name, by decide, Try.func130.trans (congrArg some (by kernel_rfl))⟩
 f19 := Try.func145.trans (congrArg some (by kernel_rfl))
 f20 := Try.func146.trans (congrArg some (by kernel_rfl))
 f21 := ⟨Try.f136.name, by decide, Try.func136.trans (congrArg some (by kernel_rfl))⟩
 f22 := ⟨Try.f137.name, by decide, Try.func137.trans (congrArg some (by kernel_rfl))⟩
 f23 := ⟨Try.f138.name, by decide, Try.func138.trans (congrArg some (by kernel_rfl))⟩
 f24 := ⟨Try.f139.name, by decide, Try.func139.trans (congrArg some (by kernel_rfl))⟩
 f25 := ⟨Try.f140.name, by decide, Try.func140.trans (congrArg some (by kernel_rfl))⟩
 f26 := ⟨Try.f141.name, by decide, Try.func141.trans (congrArg some (by kernel_rfl))⟩
 f27 := ⟨Try.f142.name, by decide, Try.func142.trans (congrArg some (by kernel_rfl))⟩
 f28 := ⟨Try.f143.name, by decide, Try.func143.trans (congrArg some (by kernel_rfl))⟩
 f29 := ⟨Try.f144.name, by decide, Try.func144.trans (congrArg some (by kernel_rfl))⟩
 f31 := Try.func148.trans (congrArg some (by kernel_rfl))
 f32 := Try.func149.trans (congrArg some (by kernel_rfl))
 f36 := ⟨Try.f147.name, by decide, Try.func147.trans (congrArg some (by kernel_rfl))⟩
 f37 := ⟨Try.f150.name, by decide, Try.func150.trans (congrArg some (by kernel_rfl))⟩
 f38 := ⟨Try.f151.name, by decide, Try.func151.trans (congrArg some (by kernel_rfl))⟩
 f39 := ⟨Try.f152.name, by decide, Try.func152.trans (congrArg some (by kernel_rfl))⟩
 f41 := ⟨Try.f153.name, by decide, Try.func153.trans (congrArg some (by kernel_rfl))⟩
 t0 := Try.underlying0
 a0 := Try.isAgg0
 z0 := Try.sizeOf0
 v0 := Try.zeroValue0
 t3 := Try.underlying3
 a3 := Try.isAgg3
 z3 := Try.sizeOf3
 v3 := Try.zeroValue3
 t4 := Try.underlying4
 a4 := Try.isAgg4
 z4 := Try.sizeOf4
 v4 := Try.zeroValue4
 t5 := Try.underlying5
 a5 := Try.isAgg5
 z5 := Try.sizeOf5
 v5 := Try.zeroValue5
 t9 := Try.underlying9
 a9 := Try.isAgg9
 z9 := Try.sizeOf9
 v9 := Try.zeroValue9
 t26 := Try.underlying22
 a26 := Try.isAgg22
 z26 := Try.sizeOf22
 v26 := Try.zeroValue22
 t27 := Try.underlying22
 a27 := Try.isAgg22
 z27 := Try.sizeOf22
 v27 := Try.zeroValue22
 t29 := Try.underlying9
 a29 := Try.isAgg9
 z29 := Try.sizeOf9
 v29 := Try.zeroValue9
 t32 := Try.underlying173
 a32 := Try.isAgg173
 z32 := Try.sizeOf173
 v32 := Try.zeroValue173
 t35 := Try.underlying179
 a35 := Try.isAgg179
 z35 := Try.sizeOf179
 v35 := Try.zeroValue179
 t36 := Try.underlying180
 a36 := Try.isAgg180
 z36 := Try.sizeOf180
 v36 := Try.zeroValue180
 t41 := Try.underlying121
 a41 := Try.isAgg121
 z41 := Try.sizeOf121
 v41 := Try.zeroValue121
 t44 := Try.underlying186
 a44 := Try.isAgg186
 z44 := Try.sizeOf186
 v44 := Try.zeroValue186
 t46 := Try.underlying188
 a46 := Try.isAgg188
 z46 := Try.sizeOf188
 v46 := Try.zeroValue188
 t53 := Try.underlying189
 a53 := Try.isAgg189
 z53 := Try.sizeOf189
 v53 := Try.zeroValue189
 t57 := Try.underlying193
 a57 := Try.isAgg193
 z57 := Try.sizeOf193
 v57 := Try.zeroValue193
 t63 := Try.underlying195
 a63 := Try.isAgg195
 z63 := Try.sizeOf195
 v63 := Try.zeroValue195
 t64 := Try.underlying196
 a64 := Try.isAgg196
 z64 := Try.sizeOf196
 v64 := Try.zeroValue196 }
def Try.cloneA_ren : Go.Shelf.Ren := ⟨fun | 5 => 110 | 7 => 133 | n => n, fun | 23 => 99 | 25 => 9 | 3 => 9 | 4 => 4 | 20 => 20 | n => n, fun | n => n⟩
theorem Try.cloneA : Go.Proofs.SlLaysW.n5 Try.prog Try.cloneA_ren := {
 mixed := by kernel_rfl
 f5 := ⟨Try.f110.name, by decide, Try.func110.trans (congrArg some (by kernel_rfl))⟩
 f7 := Try.func133.trans (congrArg some (by kernel_rfl))
 t4 := Try.underlying4
 a4 := Try.isAgg4
 z4 := Try.sizeOf4
 v4 := Try.zeroValue4
 t20 := Try.underlying20
 a20 := Try.isAgg20
 z20 := Try.sizeOf20
 v20 := Try.zeroValue20
 t23 := Try.underlying99
 a23 := Try.isAgg99
 z23 := Try.sizeOf99
 v23 := Try.zeroValue99 }
theorem Try.sortsA (m : Nat) : AnyZ.SortsIn Try.prog Try.sortedA_ren Fence.wide m :=
 ⟨fun blk off cap ss W hH hblk hsz => callsIn_wide.2 (AnyM.slices_Sort_string Try.sortA blk off cap ss W hH hblk hsz),
  fun p cap W => callsIn_wide.2 (AnyM.slices_Sort_string_none Try.sortA p cap W)⟩
theorem Try.sortedC : Gx.SortedC Try.prog 54 105 9 :=
 Gx.sortedC_of Try.keysA Try.sortedA (Try.sortsA) (enters_of Try.func104 (by kernel_rfl) rfl) (enters_of Try.func105 (by kernel_rfl) rfl)
theorem Try.cloneC (b : Nat) (es : Array MapEntry) (clock : Nat) (w : World) (hb : w.heap[b]? = some (.map es clock)) : Calls Try.prog 110 #[.map (some b)] w fun e w' => e = .returned (.map (some w.heap.size)) ∧ w' = w.alloc (.map es clock) :=
 AnyW.maps_Clone Try.cloneA b es clock w hb
end Go.Proofs
namespace Gs
open Go Gx Go.Proofs
noncomputable def e_slices_Sorted_string (_k : Nat) (_D : CallF) : Ent := eSorted 54 105 9
theorem ok_slices_Sorted_string {D : CallF} (_hD : CSound Try.prog 0 D) (k : Nat) : EntOk Try.prog 0 (e_slices_Sorted_string k D) :=
 sorted_ok (c := _) Try.func54 rfl rfl Try.sortedC
end Gs
namespace Gs
open Go Gx Go.Proofs
set_option maxRecDepth 100000
noncomputable def C_store_Store_Names (k : Nat) (D : CallF) : CallF := mkC D [e_maps_Keys_map_string_string_string_string k D, e_slices_Sorted_string k D]
noncomputable def store_Store_Names (k : Nat) (D : CallF) (s_0 : Option Addr) (h : AHeap) : Option ((Slc) × AHeap) :=
 (s_0).bind fun p1 =>
 (ldM (⟨p1.block, p1.off + 4, none⟩ : Addr) h).bind fun x2 =>
 (maps_Keys_map_string_string_string_string k D x2 h).bind fun r3 =>
 (sortedA 105 9 [r3.1] r3.2).bind fun r4 =>
 some (r4.1, r4.2)
noncomputable def r_store_Store_Names : RCode := an (.n) (rOf Try.prog 0 Try.f15)
noncomputable def e_store_Store_Names (k : Nat) (D : CallF) : Ent := entOf 15 [(0, .p)] [(2, .l)] (store_Store_Names k D)
theorem q_store_Store_Names : (Try.f15.body).bind (rcodeOf Try.prog 0 Try.f15.ntmps) = some (strip r_store_Store_Names) := by kernel_rfl
theorem t_store_Store_Names (k : Nat) (D : CallF) : curF [(0, .p)] (fun args h => denF (C_store_Store_Names k D) k r_store_Store_Names [(2, .l)] [none] args h) = store_Store_Names k D := by kernel_rfl
theorem ok_store_Store_Names {D : CallF} (hD : CSound Try.prog 0 D) (k : Nat) : EntOk Try.prog 0 (e_store_Store_Names k D) :=
 entOf_ok2 (mkC_sound hD (EntsOk.more (ok_maps_Keys_map_string_string_string_string hD k) (EntsOk.more (ok_slices_Sorted_string hD k) (EntsOk.none)))) Try.func15 rfl q_store_Store_Names rfl (t_store_Store_Names k D)
end Gs
namespace Gs
open Go Gx Go.Proofs
set_option maxRecDepth 100000
noncomputable def C_internal_stringslite_HasPrefix (_k : Nat) (D : CallF) : CallF := mkC D []
noncomputable def internal_stringslite_HasPrefix (_k : Nat) (_D : CallF) (s_0 : ByteArray) (prefix_1 : ByteArray) (h : AHeap) : Option ((Bool) × AHeap) :=
 (if (decide ((s_0.size : Int) ≥ (prefix_1.size : Int))) = true then
 (Gx.subS s_0 none (some (prefix_1.size : Int))).bind fun s1 =>
 some ((s1 == prefix_1), h)
 else
 some (false, h))
noncomputable def r_internal_stringslite_HasPrefix : RCode := an (.n) (rOf Try.prog 0 Try.f128)
noncomputable def e_internal_stringslite_HasPrefix (k : Nat) (D : CallF) : Ent := entOf 128 [(0, .s), (1, .s)] [(4, .b)] (internal_stringslite_HasPrefix k D)
theorem q_internal_stringslite_HasPrefix : (Try.f128.body).bind (rcodeOf Try.prog 0 Try.f128.ntmps) = some (strip r_internal_stringslite_HasPrefix) := by kernel_rfl
theorem t_internal_stringslite_HasPrefix (k : Nat) (D : CallF) : curF [(0, .s), (1, .s)] (fun args h => denF (C_internal_stringslite_HasPrefix k D) k r_internal_stringslite_HasPrefix [(4, .b)] [none] args h) = internal_stringslite_HasPrefix k D := by kernel_rfl
theorem ok_internal_stringslite_HasPrefix {D : CallF} (hD : CSound Try.prog 0 D) (k : Nat) : EntOk Try.prog 0 (e_internal_stringslite_HasPrefix k D) :=
 entOf_ok2 (mkC_sound hD (EntsOk.none)) Try.func128 rfl q_internal_stringslite_HasPrefix rfl (t_internal_stringslite_HasPrefix k D)
end Gs
namespace Gs
open Go Gx Go.Proofs
set_option maxRecDepth 100000
noncomputable def C_strings_HasPrefix (k : Nat) (D : CallF) : CallF := mkC D [e_internal_stringslite_HasPrefix k D]
noncomputable def strings_HasPrefix (k : Nat) (D : CallF) (s_0 : ByteArray) (prefix_1 : ByteArray) (h : AHeap) : Option ((Bool) × AHeap) :=
 (internal_stringslite_HasPrefix k D s_0 prefix_1 h).bind fun r1 =>
 some (r1.1, r1.2)
noncomputable def r_strings_HasPrefix : RCode := an (.n) (rOf Try.prog 0 Try.f102)
noncomputable def e_strings_HasPrefix (k : Nat) (D : CallF) : Ent := entOf 102 [(0, .s), (1, .s)] [(4, .b)] (strings_HasPrefix k D)
theorem q_strings_HasPrefix : (Try.f102.body).bind (rcodeOf Try.prog 0 Try.f102.ntmps) = some (strip r_strings_HasPrefix) := by kernel_rfl
theorem t_strings_HasPrefix (k : Nat) (D : CallF) : curF [(0, .s), (1, .s)] (fun args h => denF (C_strings_HasPrefix k D) k r_strings_HasPrefix [(4, .b)] [none] args h) = strings_HasPrefix k D := by kernel_rfl
theorem ok_strings_HasPrefix {D : CallF} (hD : CSound Try.prog 0 D) (k : Nat) : EntOk Try.prog 0 (e_strings_HasPrefix k D) :=
 entOf_ok2 (mkC_sound hD (EntsOk.more (ok_internal_stringslite_HasPrefix hD k) (EntsOk.none))) Try.func102 rfl q_strings_HasPrefix rfl (t_strings_HasPrefix k D)
end Gs
namespace Gs
open Go Gx Go.Proofs
set_option maxRecDepth 100000
noncomputable def C_store_Store_list (k : Nat) (D : CallF) : CallF := mkC D [e_store_Store_Names k D, e_strings_HasPrefix k D]
noncomputable def store_Store_list_l0b (k : Nat) (D : CallF) (j3 : Slc → AHeap → Option ((Slc) × AHeap)) (rec11 : ByteArray → Slc → Slc → Int → Int → AHeap → Option ((Slc) × AHeap)) (begin5 : ByteArray) (out6 : Slc) (y7 : Slc) (y8 : Int) (y9 : Int) (h10 : AHeap) : Option ((Slc) × AHeap) :=
 (if (decide (y9 < y8)) = true then
 joinK (fun (begin12 : ByteArray) (out13 : Slc) (y14 : Slc) (y15 : Int) (y16 : Int) (h17 : AHeap) =>
 rec11 begin12 out13 y14 y15 (IntKind.wrap .i64 (y16 + 1)) h17) fun j18 =>
 (Gx.idxL 1 y7 y9).bind fun q19 =>
 (ldS q19 h10).bind fun x20 =>
 (strings_HasPrefix k D x20 begin5 h10).bind fun r21 =>
 (if r21.1 = true then
 let h22 := AHeap.new r21.2 (.cells [.string x20] 9 true 0)
 (rdS 1 (⟨(some ⟨r21.2.next, 0, some 0⟩), 1, 1⟩ : Slc) h22).bind fun n24 =>
 (appendA 1 16 9 h22 out6 n24 1).bind fun r23 =>
 j18 begin5 r23.1 y7 y8 y9 r23.2
 else
 j18 begin5 out6 y7 y8 y9 r21.2)
 else
 j3 out6 h10)
noncomputable def store_Store_list_l0 (k : Nat) (D : CallF) (j3 : Slc → AHeap → Option ((Slc) × AHeap)) : ByteArray → Slc → Slc → Int → Int → AHeap → Option ((Slc) × AHeap) :=
 iterK (α := ByteArray → Slc → Slc → Int → Int → AHeap → Option ((Slc) × AHeap)) (fun _ _ _ _ _ _ => none) k (store_Store_list_l0b k D j3)
noncomputable def store_Store_list (k : Nat) (D : CallF) (s_0 : Option Addr) (begin_1 : ByteArray) (h : AHeap) : Option ((Slc) × AHeap) :=
 joinK (fun (out1 : Slc) (h2 : AHeap) =>
 some (out1, h2)) fun j3 =>
 (store_Store_Names k D s_0 h).bind fun r4 =>
 store_Store_list_l0 k D j3 begin_1 (⟨none, 0, 0⟩ : Slc) r4.1 (r4.1.len : Int) 0 r4.2
noncomputable def r_store_Store_list : RCode := an (.s .n (.s .n (.s (.j [(5, .l)] (.s .n (.b (.l [(1, .s), (5, .l), (9, .l), (10, .i .i64), (11, .i .i64)] (.s .n (.s .n (.s (.j [(1, .s), (5, .l), (9, .l), (10, .i .i64), (11, .i .i64)] .n) .n))))))) .n))) (rOf Try.prog 0 Try.f52)
noncomputable def e_store_Store_list (k : Nat) (D : CallF) : Ent := entOf 52 [(0, .p), (1, .s)] [(4, .l)] (store_Store_list k D)
theorem q_store_Store_list : (Try.f52.body).bind (rcodeOf Try.prog 0 Try.f52.ntmps) = some (strip r_store_Store_list) := by kernel_rfl
theorem t_store_Store_list (k : Nat) (D : CallF) : curF [(0, .p), (1, .s)] (fun args h => denF (C_store_Store_list k D) k r_store_Store_list [(4, .l)] [none] args h) = store_Store_list k D := by kernel_rfl
theorem ok_store_Store_list {D : CallF} (hD : CSound Try.prog 0 D) (k : Nat) : EntOk Try.prog 0 (e_store_Store_list k D) :=
 entOf_ok2 (mkC_sound hD (EntsOk.more (ok_store_Store_Names hD k) (EntsOk.more (ok_strings_HasPrefix hD k) (EntsOk.none)))) Try.func52 rfl q_store_Store_list rfl (t_store_Store_list k D)
end Gs
namespace Gs
open Go Gx Go.Proofs
set_option maxRecDepth 100000
noncomputable def C_store_Store_del (k : Nat) (D : CallF) : CallF := mkC D [e_store_Store_room k D]
noncomputable def store_Store_del (k : Nat) (D : CallF) (s_0 : Option Addr) (name_1 : ByteArray) (h : AHeap) : Option ((Int) × AHeap) :=
 (s_0).bind fun p1 =>
 (ldM (⟨p1.block, p1.off + 4, none⟩ : Addr) h).bind fun x2 =>
 (lookE decS (.string ⟨#[]⟩) h x2 (.string name_1)).bind fun p3 =>
 (if (!p3.2) = true then
 some (5, h)
 else
 (store_Store_room k D s_0 name_1 h).bind fun r4 =>
 (s_0).bind fun p5 =>
 (ldI .i64 (⟨p5.block, p5.off + 1, none⟩ : Addr) r4.2).bind fun x6 =>
 guardP (SameW [h] (fun H8 => (ldI .i64 (⟨p5.block, p5.off + 1, none⟩ : Addr) H8).bind fun y7 => some (.int .i64 y7)) (.int .i64 x6)) (
 (s_0).bind fun p9 =>
 (st1 (⟨p9.block, p9.off + 1, none⟩ : Addr) (.int .i64 (IntKind.wrap .i64 (x6 - r4.1))) r4.2).bind fun h10 =>
 (s_0).bind fun p11 =>
 (ldM (⟨p11.block, p11.off + 4, none⟩ : Addr) h10).bind fun x12 =>
 (delM h10 x12 (.string name_1)).bind fun h13 =>
 some (0, h13)))
noncomputable def r_store_Store_del : RCode := an (.n) (rOf Try.prog 0 Try.f53)
noncomputable def e_store_Store_del (k : Nat) (D : CallF) : Ent := entOf 53 [(0, .p), (1, .s)] [(4, .i .i64)] (store_Store_del k D)
theorem q_store_Store_del : (Try.f53.body).bind (rcodeOf Try.prog 0 Try.f53.ntmps) = some (strip r_store_Store_del) := by kernel_rfl
theorem t_store_Store_del (k : Nat) (D : CallF) : curF [(0, .p), (1, .s)] (fun args h => denF (C_store_Store_del k D) k r_store_Store_del [(4, .i .i64)] [none] args h) = store_Store_del k D := by kernel_rfl
theorem ok_store_Store_del {D : CallF} (hD : CSound Try.prog 0 D) (k : Nat) : EntOk Try.prog 0 (e_store_Store_del k D) :=
 entOf_ok2 (mkC_sound hD (EntsOk.more (ok_store_Store_room hD k) (EntsOk.none))) Try.func53 rfl q_store_Store_del rfl (t_store_Store_del k D)
end Gs
namespace Gs
open Go Gx Go.Proofs
set_option maxRecDepth 100000
noncomputable def C_store_Store_Do (k : Nat) (D : CallF) : CallF := mkC D [e_sync_atomic_Int64_Add k D, e_store_Store_put k D, e_store_Store_list k D, e_store_Store_del k D]
noncomputable def store_Store_Do (k : Nat) (D : CallF) (s_0 : Option Addr) (r_1 : Int × Int × ByteArray × ByteArray) (h : AHeap) : Option (((Int × ByteArray × Slc)) × AHeap) :=
 let h1 := AHeap.new h (.cells [.int .i64 r_1.1, .int .i64 r_1.2.1, .string r_1.2.2.1, .string r_1.2.2.2] 32 true 0)
 let h2 := AHeap.new h1 (.cells [.int .i64 0, .string ⟨#[]⟩, .slice none 0 0] 29 true 0)
 (s_0).bind fun p3 =>
 (sync_atomic_Int64_Add k D (some (⟨p3.block, p3.off + 5, none⟩ : Addr)) 1 h2).bind fun r4 =>
 (s_0).bind fun p5 =>
 (ldB (⟨p5.block, p5.off + 3, none⟩ : Addr) r4.2).bind fun x6 =>
 (if x6 = true then
 (stL 3 (⟨h1.next, 0, none⟩ : Addr) ([.int .i64 70, .string (⟨#[]⟩ : ByteArray), .slice none 0 0]) r4.2).bind fun h7 =>
 (ldA 3 (⟨h1.next, 0, none⟩ : Addr) h7).bind fun l8 =>
 (decC [.i .i64, .s, .l] l8).bind fun x9 =>
 some ((x9.1, x9.2.1, x9.2.2), h7)
 else
 (s_0).bind fun p10 =>
 (ldI .i64 (⟨p10.block, p10.off + 2, none⟩ : Addr) r4.2).bind fun x11 =>
 (if (decide (x11 > 0)) = true then
 (s_0).bind fun p12 =>
 (ldI .i64 (⟨p12.block, p12.off + 2, none⟩ : Addr) r4.2).bind fun x13 =>
 (s_0).bind fun p14 =>
 (st1 (⟨p14.block, p14.off + 2, none⟩ : Addr) (.int .i64 (IntKind.wrap .i64 (x13 - 1))) r4.2).bind fun h15 =>
 (stL 3 (⟨h1.next, 0, none⟩ : Addr) ([.int .i64 72, .string (⟨#[]⟩ : ByteArray), .slice none 0 0]) h15).bind fun h16 =>
 (ldA 3 (⟨h1.next, 0, none⟩ : Addr) h16).bind fun l17 =>
 (decC [.i .i64, .s, .l] l17).bind fun x18 =>
 some ((x18.1, x18.2.1, x18.2.2), h16)
 else
 (ldI .i64 (⟨h.next, 1, none⟩ : Addr) r4.2).bind fun x19 =>
 (if (x19 == 1) = true then
 (ldS (⟨h.next, 2, none⟩ : Addr) r4.2).bind fun x20 =>
 (ldS (⟨h.next, 3, none⟩ : Addr) r4.2).bind fun x21 =>
 (store_Store_put k D s_0 x20 x21 r4.2).bind fun r22 =>
 (stL 3 (⟨h1.next, 0, none⟩ : Addr) ([.int .i64 r22.1, .string (⟨#[]⟩ : ByteArray), .slice none 0 0]) r22.2).bind fun h23 =>
 (ldA 3 (⟨h1.next, 0, none⟩ : Addr) h23).bind fun l24 =>
 (decC [.i .i64, .s, .l] l24).bind fun x25 =>
 some ((x25.1, x25.2.1, x25.2.2), h23)
 else
 (if (x19 == 2) = true then
 (s_0).bind fun p26 =>
 (ldM (⟨p26.block, p26.off + 4, none⟩ : Addr) r4.2).bind fun x27 =>
 (ldS (⟨h.next, 2, none⟩ : Addr) r4.2).bind fun x28 =>
 (lookE decS (.string ⟨#[]⟩) r4.2 x27 (.string x28)).bind fun p29 =>
 (if (!p29.2) = true then
 (stL 3 (⟨h1.next, 0, none⟩ : Addr) ([.int .i64 5, .string (⟨#[]⟩ : ByteArray), .slice none 0 0]) r4.2).bind fun h30 =>
 (ldA 3 (⟨h1.next, 0, none⟩ : Addr) h30).bind fun l31 =>
 (decC [.i .i64, .s, .l] l31).bind fun x32 =>
 some ((x32.1, x32.2.1, x32.2.2), h30)
 else
 (stL 3 (⟨h1.next, 0, none⟩ : Addr) ([.int .i64 0, .string p29.1, .slice none 0 0]) r4.2).bind fun h33 =>
 (ldA 3 (⟨h1.next, 0, none⟩ : Addr) h33).bind fun l34 =>
 (decC [.i .i64, .s, .l] l34).bind fun x35 =>
 some ((x35.1, x35.2.1, x35.2.2), h33))
 else
 (if (x19 == 3) = true then
 (ldS (⟨h.next, 2, none⟩ : Addr) r4.2).bind fun x36 =>
 (store_Store_list k D s_0 x36 r4.2).bind fun r37 =>
 (stL 3 (⟨h1.next, 0, none⟩ : Addr) ([.int .i64 0, .string (⟨#[]⟩ : ByteArray), .slice r37.1.a r37.1.len r37.1.cap]) r37.2).bind fun h38 =>
 (ldA 3 (⟨h1.next, 0, none⟩ : Addr) h38).bind fun l39 =>
 (decC [.i .i64, .s, .l] l39).bind fun x40 =>
 some ((x40.1, x40.2.1, x40.2.2), h38)
 else
 (if (x19 == 4) = true then
 (ldS (⟨h.next, 2, none⟩ : Addr) r4.2).bind fun x41 =>
 (store_Store_del k D s_0 x41 r4.2).bind fun r42 =>
 (stL 3 (⟨h1.next, 0, none⟩ : Addr) ([.int .i64 r42.1, .string (⟨#[]⟩ : ByteArray), .slice none 0 0]) r42.2).bind fun h43 =>
 (ldA 3 (⟨h1.next, 0, none⟩ : Addr) h43).bind fun l44 =>
 (decC [.i .i64, .s, .l] l44).bind fun x45 =>
 some ((x45.1, x45.2.1, x45.2.2), h43)
 else
 (stL 3 (⟨h1.next, 0, none⟩ : Addr) ([.int .i64 3, .string (⟨#[]⟩ : ByteArray), .slice none 0 0]) r4.2).bind fun h46 =>
 (ldA 3 (⟨h1.next, 0, none⟩ : Addr) h46).bind fun l47 =>
 (decC [.i .i64, .s, .l] l47).bind fun x48 =>
 some ((x48.1, x48.2.1, x48.2.2), h46)))))))
noncomputable def r_store_Store_Do : RCode := an (.n) (rOf Try.prog 0 Try.f13)
noncomputable def e_store_Store_Do (k : Nat) (D : CallF) : Ent := entOf 13 [(0, .p), (1, .st [.i .i64, .i .i64, .s, .s])] [(4, .st [.i .i64, .s, .l])] (store_Store_Do k D)
theorem q_store_Store_Do : (Try.f13.body).bind (rcodeOf Try.prog 0 Try.f13.ntmps) = some (strip r_store_Store_Do) := by kernel_rfl
theorem t_store_Store_Do (k : Nat) (D : CallF) : curF [(0, .p), (1, .st [.i .i64, .i .i64, .s, .s])] (fun args h => denF (C_store_Store_Do k D) k r_store_Store_Do [(4, .st [.i .i64, .s, .l])] [some (.agg 3)] args h) = store_Store_Do k D := by kernel_rfl
theorem ok_store_Store_Do {D : CallF} (hD : CSound Try.prog 0 D) (k : Nat) : EntOk Try.prog 0 (e_store_Store_Do k D) :=
 entOf_ok2 (mkC_sound hD (EntsOk.more (ok_sync_atomic_Int64_Add hD k) (EntsOk.more (ok_store_Store_put hD k) (EntsOk.more (ok_store_Store_list hD k) (EntsOk.more (ok_store_Store_del hD k) (EntsOk.none)))))) Try.func13 rfl q_store_Store_Do rfl (t_store_Store_Do k D)
end Gs
namespace Gs
open Go Gx Go.Proofs
set_option maxRecDepth 100000
noncomputable def C_store_Store_Get (_k : Nat) (D : CallF) : CallF := mkC D []
noncomputable def store_Store_Get (_k : Nat) (_D : CallF) (s_0 : Option Addr) (name_1 : ByteArray) (h : AHeap) : Option ((ByteArray × Bool) × AHeap) :=
 (s_0).bind fun p1 =>
 (ldM (⟨p1.block, p1.off + 4, none⟩ : Addr) h).bind fun x2 =>
 (lookE decS (.string ⟨#[]⟩) h x2 (.string name_1)).bind fun p3 =>
 some ((p3.1, p3.2), h)
noncomputable def r_store_Store_Get : RCode := an (.n) (rOf Try.prog 0 Try.f16)
noncomputable def e_store_Store_Get (k : Nat) (D : CallF) : Ent := entOf 16 [(0, .p), (1, .s)] [(4, .s), (5, .b)] (store_Store_Get k D)
theorem q_store_Store_Get : (Try.f16.body).bind (rcodeOf Try.prog 0 Try.f16.ntmps) = some (strip r_store_Store_Get) := by kernel_rfl
theorem t_store_Store_Get (k : Nat) (D : CallF) : curF [(0, .p), (1, .s)] (fun args h => denF (C_store_Store_Get k D) k r_store_Store_Get [(4, .s), (5, .b)] [none, none] args h) = store_Store_Get k D := by kernel_rfl
theorem ok_store_Store_Get {D : CallF} (hD : CSound Try.prog 0 D) (k : Nat) : EntOk Try.prog 0 (e_store_Store_Get k D) :=
 entOf_ok2 (mkC_sound hD (EntsOk.none)) Try.func16 rfl q_store_Store_Get rfl (t_store_Store_Get k D)
end Gs
namespace Gs
open Go Gx Go.Proofs
set_option maxRecDepth 100000
noncomputable def C_store_Store_Used (_k : Nat) (D : CallF) : CallF := mkC D []
noncomputable def store_Store_Used (_k : Nat) (_D : CallF) (s_0 : Option Addr) (h : AHeap) : Option ((Int) × AHeap) :=
 (s_0).bind fun p1 =>
 (ldI .i64 (⟨p1.block, p1.off + 1, none⟩ : Addr) h).bind fun x2 =>
 some (x2, h)
noncomputable def r_store_Store_Used : RCode := an (.n) (rOf Try.prog 0 Try.f20)
noncomputable def e_store_Store_Used (k : Nat) (D : CallF) : Ent := entOf 20 [(0, .p)] [(2, .i .i64)] (store_Store_Used k D)
theorem q_store_Store_Used : (Try.f20.body).bind (rcodeOf Try.prog 0 Try.f20.ntmps) = some (strip r_store_Store_Used) := by kernel_rfl
theorem t_store_Store_Used (k : Nat) (D : CallF) : curF [(0, .p)] (fun args h => denF (C_store_Store_Used k D) k r_store_Store_Used [(2, .i .i64)] [none] args h) = store_Store_Used k D := by kernel_rfl
theorem ok_store_Store_Used {D : CallF} (hD : CSound Try.prog 0 D) (k : Nat) : EntOk Try.prog 0 (e_store_Store_Used k D) :=
 entOf_ok2 (mkC_sound hD (EntsOk.none)) Try.func20 rfl q_store_Store_Used rfl (t_store_Store_Used k D)
end Gs
namespace Gs
open Go Gx Go.Proofs
noncomputable def e_sync_atomic_LoadInt64 (_k : Nat) (_D : CallF) : Ent := eLoad 112 .i64
theorem ok_sync_atomic_LoadInt64 {D : CallF} (_hD : CSound Try.prog 0 D) (k : Nat) : EntOk Try.prog 0 (e_sync_atomic_LoadInt64 k D) :=
 load_ok Try.func112 rfl rfl rfl .i64 (by kernel_rfl)
end Gs
namespace Gs
open Go Gx Go.Proofs
set_option maxRecDepth 100000
noncomputable def C_sync_atomic_Int64_Load (k : Nat) (D : CallF) : CallF := mkC D [e_sync_atomic_LoadInt64 k D]
noncomputable def sync_atomic_Int64_Load (_k : Nat) (_D : CallF) (x_0 : Option Addr) (h : AHeap) : Option ((Int) × AHeap) :=
 (x_0).bind fun p1 =>
 (ldI .i64 (⟨p1.block, p1.off + 0, none⟩ : Addr) h).bind fun x2 =>
 some (x2, h)
noncomputable def r_sync_atomic_Int64_Load : RCode := an (.n) (rOf Try.prog 0 Try.f70)
noncomputable def e_sync_atomic_Int64_Load (k : Nat) (D : CallF) : Ent := entOf 70 [(0, .p)] [(2, .i .i64)] (sync_atomic_Int64_Load k D)
theorem q_sync_atomic_Int64_Load : (Try.f70.body).bind (rcodeOf Try.prog 0 Try.f70.ntmps) = some (strip r_sync_atomic_Int64_Load) := by kernel_rfl
theorem t_sync_atomic_Int64_Load (k : Nat) (D : CallF) : curF [(0, .p)] (fun args h => denF (C_sync_atomic_Int64_Load k D) k r_sync_atomic_Int64_Load [(2, .i .i64)] [none] args h) = sync_atomic_Int64_Load k D := by kernel_rfl
theorem ok_sync_atomic_Int64_Load {D : CallF} (hD : CSound Try.prog 0 D) (k : Nat) : EntOk Try.prog 0 (e_sync_atomic_Int64_Load k D) :=
 entOf_ok2 (mkC_sound hD (EntsOk.more (ok_sync_atomic_LoadInt64 hD k) (EntsOk.none))) Try.func70 rfl q_sync_atomic_Int64_Load rfl (t_sync_atomic_Int64_Load k D)
end Gs
namespace Gs
open Go Gx Go.Proofs
set_option maxRecDepth 100000
noncomputable def C_store_Store_Calls (k : Nat) (D : CallF) : CallF := mkC D [e_sync_atomic_Int64_Load k D]
noncomputable def store_Store_Calls (k : Nat) (D : CallF) (s_0 : Option Addr) (h : AHeap) : Option ((Int) × AHeap) :=
 (s_0).bind fun p1 =>
 (sync_atomic_Int64_Load k D (some (⟨p1.block, p1.off + 5, none⟩ : Addr)) h).bind fun r2 =>
 some (r2.1, r2.2)
noncomputable def r_store_Store_Calls : RCode := an (.n) (rOf Try.prog 0 Try.f22)
noncomputable def e_store_Store_Calls (k : Nat) (D : CallF) : Ent := entOf 22 [(0, .p)] [(2, .i .i64)] (store_Store_Calls k D)
theorem q_store_Store_Calls : (Try.f22.body).bind (rcodeOf Try.prog 0 Try.f22.ntmps) = some (strip r_store_Store_Calls) := by kernel_rfl
theorem t_store_Store_Calls (k : Nat) (D : CallF) : curF [(0, .p)] (fun args h => denF (C_store_Store_Calls k D) k r_store_Store_Calls [(2, .i .i64)] [none] args h) = store_Store_Calls k D := by kernel_rfl
theorem ok_store_Store_Calls {D : CallF} (hD : CSound Try.prog 0 D) (k : Nat) : EntOk Try.prog 0 (e_store_Store_Calls k D) :=
 entOf_ok2 (mkC_sound hD (EntsOk.more (ok_sync_atomic_Int64_Load hD k) (EntsOk.none))) Try.func22 rfl q_store_Store_Calls rfl (t_store_Store_Calls k D)
end Gs
namespace Gs
open Go Gx Go.Proofs
set_option maxRecDepth 100000
noncomputable def C_store_Store_Fail (_k : Nat) (D : CallF) : CallF := mkC D []
noncomputable def store_Store_Fail (_k : Nat) (_D : CallF) (s_0 : Option Addr) (n_1 : Int) (h : AHeap) : Option ((Int) × AHeap) :=
 joinK (fun (s1 : Option Addr) (n2 : Int) (y3 : Bool) (h4 : AHeap) =>
 (if y3 = true then
 some (1, h4)
 else
 (s1).bind fun p6 =>
 (st1 (⟨p6.block, p6.off + 2, none⟩ : Addr) (.int .i64 n2) h4).bind fun h7 =>
 some (0, h7))) fun j5 =>
 (if (decide (n_1 < 0)) = true then
 j5 s_0 n_1 true h
 else
 j5 s_0 n_1 (decide (n_1 > 1048576)) h)
noncomputable def r_store_Store_Fail : RCode := an (.s .n (.s (.s (.j [(0, .p), (1, .i .i64), (10, .b)] .n) .n) .n)) (rOf Try.prog 0 Try.f60)
noncomputable def e_store_Store_Fail (k : Nat) (D : CallF) : Ent := entOf 60 [(0, .p), (1, .i .i64)] [(4, .i .i64)] (store_Store_Fail k D)
theorem q_store_Store_Fail : (Try.f60.body).bind (rcodeOf Try.prog 0 Try.f60.ntmps) = some (strip r_store_Store_Fail) := by kernel_rfl
theorem t_store_Store_Fail (k : Nat) (D : CallF) : curF [(0, .p), (1, .i .i64)] (fun args h => denF (C_store_Store_Fail k D) k r_store_Store_Fail [(4, .i .i64)] [none] args h) = store_Store_Fail k D := by kernel_rfl
theorem ok_store_Store_Fail {D : CallF} (hD : CSound Try.prog 0 D) (k : Nat) : EntOk Try.prog 0 (e_store_Store_Fail k D) :=
 entOf_ok2 (mkC_sound hD (EntsOk.none)) Try.func60 rfl q_store_Store_Fail rfl (t_store_Store_Fail k D)
end Gs
namespace Gs
open Go Gx Go.Proofs
set_option maxRecDepth 100000
noncomputable def C_store_Store_Down (_k : Nat) (D : CallF) : CallF := mkC D []
noncomputable def store_Store_Down (_k : Nat) (_D : CallF) (s_0 : Option Addr) (down_1 : Bool) (h : AHeap) : Option ((Unit) × AHeap) :=
 (s_0).bind fun p1 =>
 (st1 (⟨p1.block, p1.off + 3, none⟩ : Addr) (.bool down_1) h).bind fun h2 =>
 some ((), h2)
noncomputable def r_store_Store_Down : RCode := an (.n) (rOf Try.prog 0 Try.f62)
noncomputable def e_store_Store_Down (k : Nat) (D : CallF) : Ent := entOf 62 [(0, .p), (1, .b)] [] (store_Store_Down k D)
theorem q_store_Store_Down : (Try.f62.body).bind (rcodeOf Try.prog 0 Try.f62.ntmps) = some (strip r_store_Store_Down) := by kernel_rfl
theorem t_store_Store_Down (k : Nat) (D : CallF) : curF [(0, .p), (1, .b)] (fun args h => denF (C_store_Store_Down k D) k r_store_Store_Down [] [] args h) = store_Store_Down k D := by kernel_rfl
theorem ok_store_Store_Down {D : CallF} (hD : CSound Try.prog 0 D) (k : Nat) : EntOk Try.prog 0 (e_store_Store_Down k D) :=
 entOf_ok2 (mkC_sound hD (EntsOk.none)) Try.func62 rfl q_store_Store_Down rfl (t_store_Store_Down k D)
end Gs
namespace Gs
open Go Gx Go.Proofs
set_option maxRecDepth 100000
noncomputable def C_store_Store_Wipe (_k : Nat) (D : CallF) : CallF := mkC D []
noncomputable def store_Store_Wipe (_k : Nat) (_D : CallF) (s_0 : Option Addr) (h : AHeap) : Option ((Unit) × AHeap) :=
 (s_0).bind fun p1 =>
 (ldM (⟨p1.block, p1.off + 4, none⟩ : Addr) h).bind fun x2 =>
 (clrM h x2).bind fun h3 =>
 (s_0).bind fun p4 =>
 (st1 (⟨p4.block, p4.off + 1, none⟩ : Addr) (.int .i64 0) h3).bind fun h5 =>
 some ((), h5)
noncomputable def r_store_Store_Wipe : RCode := an (.n) (rOf Try.prog 0 Try.f63)
noncomputable def e_store_Store_Wipe (k : Nat) (D : CallF) : Ent := entOf 63 [(0, .p)] [] (store_Store_Wipe k D)
theorem q_store_Store_Wipe : (Try.f63.body).bind (rcodeOf Try.prog 0 Try.f63.ntmps) = some (strip r_store_Store_Wipe) := by kernel_rfl
theorem t_store_Store_Wipe (k : Nat) (D : CallF) : curF [(0, .p)] (fun args h => denF (C_store_Store_Wipe k D) k r_store_Store_Wipe [] [] args h) = store_Store_Wipe k D := by kernel_rfl
theorem ok_store_Store_Wipe {D : CallF} (hD : CSound Try.prog 0 D) (k : Nat) : EntOk Try.prog 0 (e_store_Store_Wipe k D) :=
 entOf_ok2 (mkC_sound hD (EntsOk.none)) Try.func63 rfl q_store_Store_Wipe rfl (t_store_Store_Wipe k D)
end Gs
namespace Gs
open Go Gx Go.Proofs
set_option maxRecDepth 100000
noncomputable def C_store_Store_Set (k : Nat) (D : CallF) : CallF := mkC D [e_store_fits k D, e_store_Store_lay k D]
noncomputable def store_Store_Set (k : Nat) (D : CallF) (s_0 : Option Addr) (name_1 : ByteArray) (data_2 : ByteArray) (h : AHeap) : Option ((Int) × AHeap) :=
 (store_fits k D name_1 data_2 h).bind fun r1 =>
 joinK (fun (e2 : Int) (h3 : AHeap) =>
 some (e2, h3)) fun j4 =>
 (if (r1.1 == 0) = true then
 (store_Store_lay k D s_0 name_1 data_2 r1.2).bind fun r5 =>
 j4 r1.1 r5.2
 else
 j4 r1.1 r1.2)
noncomputable def r_store_Store_Set : RCode := an (.s .n (.s .n (.s (.j [(7, .i .i64)] .n) .n))) (rOf Try.prog 0 Try.f64)
noncomputable def e_store_Store_Set (k : Nat) (D : CallF) : Ent := entOf 64 [(0, .p), (1, .s), (2, .s)] [(6, .i .i64)] (store_Store_Set k D)
theorem q_store_Store_Set : (Try.f64.body).bind (rcodeOf Try.prog 0 Try.f64.ntmps) = some (strip r_store_Store_Set) := by kernel_rfl
theorem t_store_Store_Set (k : Nat) (D : CallF) : curF [(0, .p), (1, .s), (2, .s)] (fun args h => denF (C_store_Store_Set k D) k r_store_Store_Set [(6, .i .i64)] [none] args h) = store_Store_Set k D := by kernel_rfl
theorem ok_store_Store_Set {D : CallF} (hD : CSound Try.prog 0 D) (k : Nat) : EntOk Try.prog 0 (e_store_Store_Set k D) :=
 entOf_ok2 (mkC_sound hD (EntsOk.more (ok_store_fits hD k) (EntsOk.more (ok_store_Store_lay hD k) (EntsOk.none)))) Try.func64 rfl q_store_Store_Set rfl (t_store_Store_Set k D)
end Gs
namespace Gs
open Go Gx Go.Proofs
set_option maxRecDepth 100000
noncomputable def C_store_Store_Torn (k : Nat) (D : CallF) : CallF := mkC D [e_store_fits k D, e_store_Store_lay k D]
noncomputable def store_Store_Torn (k : Nat) (D : CallF) (s_0 : Option Addr) (r_1 : Int × Int × ByteArray × ByteArray) (keep_2 : Int) (h : AHeap) : Option ((Int) × AHeap) :=
 let h1 := AHeap.new h (.cells [.int .i64 r_1.1, .int .i64 r_1.2.1, .string r_1.2.2.1, .string r_1.2.2.2] 32 true 0)
 (ldI .i64 (⟨h.next, 1, none⟩ : Addr) h1).bind fun x2 =>
 (if (x2 != 1) = true then
 some (3, h1)
 else
 (ldS (⟨h.next, 2, none⟩ : Addr) h1).bind fun x3 =>
 (ldS (⟨h.next, 3, none⟩ : Addr) h1).bind fun x4 =>
 (store_fits k D x3 x4 h1).bind fun r5 =>
 joinK (fun (e6 : Int) (h7 : AHeap) =>
 some (e6, h7)) fun j8 =>
 joinK (fun (s9 : Option Addr) (keep10 : Int) (r11 : Option Addr) (e12 : Int) (y13 : Bool) (h14 : AHeap) =>
 (if y13 = true then
 (r11).bind fun p16 =>
 (ldS (⟨p16.block, p16.off + 2, none⟩ : Addr) h14).bind fun x17 =>
 (r11).bind fun p18 =>
 (ldS (⟨p18.block, p18.off + 3, none⟩ : Addr) h14).bind fun x19 =>
 (r11).bind fun p20 =>
 (ldS (⟨p20.block, p20.off + 3, none⟩ : Addr) h14).bind fun x21 =>
 let t22 : Int := (if (x21.size : Int) < keep10 then (x21.size : Int) else keep10)
 (Gx.subS x19 none (some t22)).bind fun s23 =>
 (store_Store_lay k D s9 x17 s23 h14).bind fun r24 =>
 j8 e12 r24.2
 else
 j8 e12 h14)) fun j15 =>
 (if (r5.1 == 0) = true then
 j15 s_0 keep_2 (some (⟨h.next, 0, none⟩ : Addr)) r5.1 (decide (keep_2 ≥ 0)) r5.2
 else
 j15 s_0 keep_2 (some (⟨h.next, 0, none⟩ : Addr)) r5.1 false r5.2))
noncomputable def r_store_Store_Torn : RCode := an (.s .n (.s .n (.s .n (.s (.j [(7, .i .i64)] (.s (.j [(0, .p), (2, .i .i64), (4, .p), (7, .i .i64), (21, .b)] .n) .n)) .n)))) (rOf Try.prog 0 Try.f66)
noncomputable def e_store_Store_Torn (k : Nat) (D : CallF) : Ent := entOf 66 [(0, .p), (1, .st [.i .i64, .i .i64, .s, .s]), (2, .i .i64)] [(6, .i .i64)] (store_Store_Torn k D)
theorem q_store_Store_Torn : (Try.f66.body).bind (rcodeOf Try.prog 0 Try.f66.ntmps) = some (strip r_store_Store_Torn) := by kernel_rfl
theorem t_store_Store_Torn (k : Nat) (D : CallF) : curF [(0, .p), (1, .st [.i .i64, .i .i64, .s, .s]), (2, .i .i64)] (fun args h => denF (C_store_Store_Torn k D) k r_store_Store_Torn [(6, .i .i64)] [none] args h) = store_Store_Torn k D := by kernel_rfl
theorem ok_store_Store_Torn {D : CallF} (hD : CSound Try.prog 0 D) (k : Nat) : EntOk Try.prog 0 (e_store_Store_Torn k D) :=
 entOf_ok2 (mkC_sound hD (EntsOk.more (ok_store_fits hD k) (EntsOk.more (ok_store_Store_lay hD k) (EntsOk.none)))) Try.func66 rfl q_store_Store_Torn rfl (t_store_Store_Torn k D)
end Gs
namespace Gs
open Go Gx Go.Proofs
noncomputable def e_maps_Clone_map_string_string_string_string (_k : Nat) (_D : CallF) : Ent := eMClone 110
theorem ok_maps_Clone_map_string_string_string_string {D : CallF} (_hD : CSound Try.prog 0 D) (k : Nat) : EntOk Try.prog 0 (e_maps_Clone_map_string_string_string_string k D) :=
 mclone_ok (c := _) Try.func110 rfl rfl Try.cloneC
end Gs
namespace Gs
open Go Gx Go.Proofs
noncomputable def e_sync_atomic_StoreInt64 (_k : Nat) (_D : CallF) : Ent := eStore 134 .i64
theorem ok_sync_atomic_StoreInt64 {D : CallF} (_hD : CSound Try.prog 0 D) (k : Nat) : EntOk Try.prog 0 (e_sync_atomic_StoreInt64 k D) :=
 store_ok Try.func134 rfl rfl rfl .i64 (by kernel_rfl)
end Gs
namespace Gs
open Go Gx Go.Proofs
set_option maxRecDepth 100000
noncomputable def C_sync_atomic_Int64_Store (k : Nat) (D : CallF) : CallF := mkC D [e_sync_atomic_StoreInt64 k D]
noncomputable def sync_atomic_Int64_Store (_k : Nat) (_D : CallF) (x_0 : Option Addr) (val_1 : Int) (h : AHeap) : Option ((Unit) × AHeap) :=
 (x_0).bind fun p1 =>
 (ldI .i64 (⟨p1.block, p1.off + 0, none⟩ : Addr) h).bind fun _ =>
 (st1 (⟨p1.block, p1.off + 0, none⟩ : Addr) (.int .i64 val_1) h).bind fun h3 =>
 some ((), h3)
noncomputable def r_sync_atomic_Int64_Store : RCode := an (.n) (rOf Try.prog 0 Try.f111)
noncomputable def e_sync_atomic_Int64_Store (k : Nat) (D : CallF) : Ent := entOf 111 [(0, .p), (1, .i .i64)] [] (sync_atomic_Int64_Store k D)
theorem q_sync_atomic_Int64_Store : (Try.f111.body).bind (rcodeOf Try.prog 0 Try.f111.ntmps) = some (strip r_sync_atomic_Int64_Store) := by kernel_rfl
theorem t_sync_atomic_Int64_Store (k : Nat) (D : CallF) : curF [(0, .p), (1, .i .i64)] (fun args h => denF (C_sync_atomic_Int64_Store k D) k r_sync_atomic_Int64_Store [] [] args h) = sync_atomic_Int64_Store k D := by kernel_rfl
theorem ok_sync_atomic_Int64_Store {D : CallF} (hD : CSound Try.prog 0 D) (k : Nat) : EntOk Try.prog 0 (e_sync_atomic_Int64_Store k D) :=
 entOf_ok2 (mkC_sound hD (EntsOk.more (ok_sync_atomic_StoreInt64 hD k) (EntsOk.none))) Try.func111 rfl q_sync_atomic_Int64_Store rfl (t_sync_atomic_Int64_Store k D)
end Gs
namespace Gs
open Go Gx Go.Proofs
set_option maxRecDepth 100000
noncomputable def C_store_Store_Fork (k : Nat) (D : CallF) : CallF := mkC D [e_maps_Clone_map_string_string_string_string k D, e_sync_atomic_Int64_Load k D, e_sync_atomic_Int64_Store k D]
noncomputable def store_Store_Fork (k : Nat) (D : CallF) (s_0 : Option Addr) (h : AHeap) : Option (((Option Addr)) × AHeap) :=
 (s_0).bind fun p1 =>
 (ldM (⟨p1.block, p1.off + 4, none⟩ : Addr) h).bind fun x2 =>
 (mcloneA [.map x2] h).bind fun r3 =>
 (s_0).bind fun p4 =>
 (ldI .i64 (⟨p4.block, p4.off + 0, none⟩ : Addr) r3.2).bind fun x5 =>
 guardP (SameW [h] (fun H7 => (ldI .i64 (⟨p4.block, p4.off + 0, none⟩ : Addr) H7).bind fun y6 => some (.int .i64 y6)) (.int .i64 x5)) (
 (s_0).bind fun p8 =>
 (ldI .i64 (⟨p8.block, p8.off + 1, none⟩ : Addr) r3.2).bind fun x9 =>
 guardP (SameW [h] (fun H11 => (ldI .i64 (⟨p8.block, p8.off + 1, none⟩ : Addr) H11).bind fun y10 => some (.int .i64 y10)) (.int .i64 x9)) (
 (s_0).bind fun p12 =>
 (ldI .i64 (⟨p12.block, p12.off + 2, none⟩ : Addr) r3.2).bind fun x13 =>
 guardP (SameW [h] (fun H15 => (ldI .i64 (⟨p12.block, p12.off + 2, none⟩ : Addr) H15).bind fun y14 => some (.int .i64 y14)) (.int .i64 x13)) (
 (s_0).bind fun p16 =>
 (ldB (⟨p16.block, p16.off + 3, none⟩ : Addr) r3.2).bind fun x17 =>
 guardP (SameW [h] (fun H19 => (ldB (⟨p16.block, p16.off + 3, none⟩ : Addr) H19).bind fun y18 => some (.bool y18)) (.bool x17)) (
 let h20 := AHeap.new r3.2 (.cells [.int .i64 x5, .int .i64 x9, .int .i64 x13, .bool x17, .map r3.1, .int .i64 0] 106 true 0)
 (s_0).bind fun p21 =>
 (sync_atomic_Int64_Load k D (some (⟨p21.block, p21.off + 5, none⟩ : Addr)) h20).bind fun r22 =>
 (sync_atomic_Int64_Store k D (some (⟨r3.2.next, 5, none⟩ : Addr)) r22.1 r22.2).bind fun r23 =>
 some ((some (⟨r3.2.next, 0, none⟩ : Addr)), r23.2)))))
noncomputable def r_store_Store_Fork : RCode := an (.n) (rOf Try.prog 0 Try.f68)
noncomputable def e_store_Store_Fork (k : Nat) (D : CallF) : Ent := entOf 68 [(0, .p)] [(2, .p)] (store_Store_Fork k D)
theorem q_store_Store_Fork : (Try.f68.body).bind (rcodeOf Try.prog 0 Try.f68.ntmps) = some (strip r_store_Store_Fork) := by kernel_rfl
theorem t_store_Store_Fork (k : Nat) (D : CallF) : curF [(0, .p)] (fun args h => denF (C_store_Store_Fork k D) k r_store_Store_Fork [(2, .p)] [none] args h) = store_Store_Fork k D := by kernel_rfl
theorem ok_store_Store_Fork {D : CallF} (hD : CSound Try.prog 0 D) (k : Nat) : EntOk Try.prog 0 (e_store_Store_Fork k D) :=
 entOf_ok2 (mkC_sound hD (EntsOk.more (ok_maps_Clone_map_string_string_string_string hD k) (EntsOk.more (ok_sync_atomic_Int64_Load hD k) (EntsOk.more (ok_sync_atomic_Int64_Store hD k) (EntsOk.none))))) Try.func68 rfl q_store_Store_Fork rfl (t_store_Store_Fork k D)
end Gs
namespace Gs
open Go Gx Go.Proofs
set_option maxRecDepth 100000
noncomputable def C_store_New (_k : Nat) (D : CallF) : CallF := mkC D []
noncomputable def store_New (_k : Nat) (_D : CallF) (quota_0 : Int) (h : AHeap) : Option (((Option Addr) × Int) × AHeap) :=
 joinK (fun (quota1 : Int) (y2 : Bool) (h3 : AHeap) =>
 (if y2 = true then
 some ((none, 1), h3)
 else
 let h5 := AHeap.new h3 (.map [] 0)
 let h6 := AHeap.new h5 (.cells [.int .i64 quota1, .int .i64 0, .int .i64 0, .bool false, .map (some h3.next), .int .i64 0] 106 true 0)
 some (((some (⟨h5.next, 0, none⟩ : Addr)), 0), h6))) fun j4 =>
 (if (decide (quota_0 < 0)) = true then
 j4 quota_0 true h
 else
 j4 quota_0 (decide (quota_0 > 1073741824)) h)
noncomputable def r_store_New : RCode := an (.s .n (.s (.s (.j [(0, .i .i64), (9, .b)] .n) .n) .n)) (rOf Try.prog 0 Try.f11)
noncomputable def e_store_New (k : Nat) (D : CallF) : Ent := entOf 11 [(0, .i .i64)] [(2, .p), (3, .i .i64)] (store_New k D)
theorem q_store_New : (Try.f11.body).bind (rcodeOf Try.prog 0 Try.f11.ntmps) = some (strip r_store_New) := by kernel_rfl
theorem t_store_New (k : Nat) (D : CallF) : curF [(0, .i .i64)] (fun args h => denF (C_store_New k D) k r_store_New [(2, .p), (3, .i .i64)] [none, none] args h) = store_New k D := by kernel_rfl
theorem ok_store_New {D : CallF} (hD : CSound Try.prog 0 D) (k : Nat) : EntOk Try.prog 0 (e_store_New k D) :=
 entOf_ok2 (mkC_sound hD (EntsOk.none)) Try.func11 rfl q_store_New rfl (t_store_New k D)
end Gs
namespace Gs
open Go Gx Go.Proofs
set_option maxRecDepth 100000
noncomputable def C_law07_works (k : Nat) (D : CallF) : CallF := mkC D [e_store_New k D, e_store_Store_Do k D]
noncomputable def law07_works (k : Nat) (D : CallF)  (h : AHeap) : Option ((Bool) × AHeap) :=
 (store_New k D 4 h).bind fun r1 =>
 joinK (fun (s2 : Option Addr) (y3 : Bool) (h4 : AHeap) =>
 (if y3 = true then
 some (false, h4)
 else
 (store_Store_Do k D s2 (0, 1, (⟨#[97]⟩ : ByteArray), (⟨#[98, 99, 100]⟩ : ByteArray)) h4).bind fun r6 =>
 let h7 := AHeap.new r6.2 (.cells [.int .i64 0, .string ⟨#[]⟩, .slice none 0 0] 29 true 0)
 (stL 3 (⟨r6.2.next, 0, none⟩ : Addr) ([.int .i64 r6.1.1, .string r6.1.2.1, .slice r6.1.2.2.a r6.1.2.2.len r6.1.2.2.cap]) h7).bind fun h8 =>
 (store_Store_Do k D s2 (0, 1, (⟨#[97]⟩ : ByteArray), (⟨#[98, 99, 100, 101]⟩ : ByteArray)) h8).bind fun r9 =>
 let h10 := AHeap.new r9.2 (.cells [.int .i64 0, .string ⟨#[]⟩, .slice none 0 0] 29 true 0)
 (stL 3 (⟨r9.2.next, 0, none⟩ : Addr) ([.int .i64 r9.1.1, .string r9.1.2.1, .slice r9.1.2.2.a r9.1.2.2.len r9.1.2.2.cap]) h10).bind fun h11 =>
 (store_Store_Do k D s2 (0, 2, (⟨#[97]⟩ : ByteArray), (⟨#[]⟩ : ByteArray)) h11).bind fun r12 =>
 let h13 := AHeap.new r12.2 (.cells [.int .i64 0, .string ⟨#[]⟩, .slice none 0 0] 29 true 0)
 (stL 3 (⟨r12.2.next, 0, none⟩ : Addr) ([.int .i64 r12.1.1, .string r12.1.2.1, .slice r12.1.2.2.a r12.1.2.2.len r12.1.2.2.cap]) h13).bind fun h14 =>
 (ldI .i64 (⟨r6.2.next, 0, none⟩ : Addr) h14).bind fun x15 =>
 (if (x15 == 0) = true then
 (ldI .i64 (⟨r9.2.next, 0, none⟩ : Addr) h14).bind fun x16 =>
 (if (x16 == 71) = true then
 (ldI .i64 (⟨r12.2.next, 0, none⟩ : Addr) h14).bind fun x17 =>
 (if (x17 == 0) = true then
 (ldS (⟨r12.2.next, 1, none⟩ : Addr) h14).bind fun x18 =>
 some ((x18 == (⟨#[98, 99, 100]⟩ : ByteArray)), h14)
 else
 some (false, h14))
 else
 some (false, h14))
 else
 some (false, h14)))) fun j5 =>
 (if r1.1.1.isNone = true then
 j5 r1.1.1 true r1.2
 else
 j5 r1.1.1 (r1.1.2 != 0) r1.2)
noncomputable def r_law07_works : RCode := an (.s .n (.s .n (.s (.s (.j [(1, .p), (15, .b)] .n) .n) .n))) (rOf Try.prog 0 Try.f12)
noncomputable def e_law07_works (k : Nat) (D : CallF) : Ent := entOf 12 [] [(0, .b)] (law07_works k D)
theorem q_law07_works : (Try.f12.body).bind (rcodeOf Try.prog 0 Try.f12.ntmps) = some (strip r_law07_works) := by kernel_rfl
theorem t_law07_works (k : Nat) (D : CallF) : curF [] (fun args h => denF (C_law07_works k D) k r_law07_works [(0, .b)] [none] args h) = law07_works k D := by kernel_rfl
theorem ok_law07_works {D : CallF} (hD : CSound Try.prog 0 D) (k : Nat) : EntOk Try.prog 0 (e_law07_works k D) :=
 entOf_ok2 (mkC_sound hD (EntsOk.more (ok_store_New hD k) (EntsOk.more (ok_store_Store_Do hD k) (EntsOk.none)))) Try.func12 rfl q_law07_works rfl (t_law07_works k D)
end Gs
namespace Gs
open Go Gx Go.Proofs
set_option maxRecDepth 100000
noncomputable def C_book_SameTexts (_k : Nat) (D : CallF) : CallF := mkC D []
noncomputable def book_SameTexts_l0b (_k : Nat) (_D : CallF) (j2 : AHeap → Option ((Bool) × AHeap)) (rec7 : Slc → Slc → Int → AHeap → Option ((Bool) × AHeap)) (a3 : Slc) (b4 : Slc) (i5 : Int) (h6 : AHeap) : Option ((Bool) × AHeap) :=
 (if (decide (i5 < (a3.len : Int))) = true then
 (Gx.idxL 1 a3 i5).bind fun q8 =>
 (ldS q8 h6).bind fun x9 =>
 (Gx.idxL 1 b4 i5).bind fun q10 =>
 (ldS q10 h6).bind fun x11 =>
 (if (!(x9 == x11)) = true then
 some (false, h6)
 else
 rec7 a3 b4 (IntKind.wrap .i64 (i5 + 1)) h6)
 else
 j2 h6)
noncomputable def book_SameTexts_l0 (k : Nat) (D : CallF) (j2 : AHeap → Option ((Bool) × AHeap)) : Slc → Slc → Int → AHeap → Option ((Bool) × AHeap) :=
 iterK (α := Slc → Slc → Int → AHeap → Option ((Bool) × AHeap)) (fun _ _ _ _ => none) k (book_SameTexts_l0b k D j2)
noncomputable def book_SameTexts (k : Nat) (D : CallF) (a_0 : Slc) (b_1 : Slc) (h : AHeap) : Option ((Bool) × AHeap) :=
 (if ((a_0.len : Int) != (b_1.len : Int)) = true then
 some (false, h)
 else
 joinK (fun (h1 : AHeap) =>
 some (true, h1)) fun j2 =>
 book_SameTexts_l0 k D j2 a_0 b_1 0 h)
noncomputable def r_book_SameTexts : RCode := an (.s .n (.s .n (.s (.j [] (.s .n (.b (.l [(0, .l), (1, .l), (5, .i .i64)] .n)))) .n))) (rOf Try.prog 0 Try.f14)
noncomputable def e_book_SameTexts (k : Nat) (D : CallF) : Ent := entOf 14 [(0, .l), (1, .l)] [(4, .b)] (book_SameTexts k D)
theorem q_book_SameTexts : (Try.f14.body).bind (rcodeOf Try.prog 0 Try.f14.ntmps) = some (strip r_book_SameTexts) := by kernel_rfl
theorem t_book_SameTexts (k : Nat) (D : CallF) : curF [(0, .l), (1, .l)] (fun args h => denF (C_book_SameTexts k D) k r_book_SameTexts [(4, .b)] [none] args h) = book_SameTexts k D := by kernel_rfl
theorem ok_book_SameTexts {D : CallF} (hD : CSound Try.prog 0 D) (k : Nat) : EntOk Try.prog 0 (e_book_SameTexts k D) :=
 entOf_ok2 (mkC_sound hD (EntsOk.none)) Try.func14 rfl q_book_SameTexts rfl (t_book_SameTexts k D)
end Gs
namespace Gs
open Go Gx Go.Proofs
set_option maxRecDepth 100000
end Gs
namespace Gs
open Go Gx Go.Proofs
set_option maxRecDepth 100000
noncomputable def C_ref07_New (_k : Nat) (D : CallF) : CallF := mkC D []
noncomputable def ref07_New (_k : Nat) (_D : CallF) (quota_0 : Int) (h : AHeap) : Option (((Option Addr) × Int) × AHeap) :=
 joinK (fun (quota1 : Int) (y2 : Bool) (h3 : AHeap) =>
 (if y2 = true then
 some ((none, 1), h3)
 else
 let h5 := AHeap.new h3 (.cells [.int .i64 quota1, .int .i64 0, .int .i64 0, .bool false, .slice none 0 0] 48 true 0)
 some (((some (⟨h3.next, 0, none⟩ : Addr)), 0), h5))) fun j4 =>
 (if (decide (quota_0 < 0)) = true then
 j4 quota_0 true h
 else
 j4 quota_0 (decide (quota_0 > 1073741824)) h)
noncomputable def r_ref07_New : RCode := an (.s .n (.s (.s (.j [(0, .i .i64), (9, .b)] .n) .n) .n)) (rOf Try.prog 0 Try.f17)
noncomputable def e_ref07_New (k : Nat) (D : CallF) : Ent := entOf 17 [(0, .i .i64)] [(2, .p), (3, .i .i64)] (ref07_New k D)
theorem q_ref07_New : (Try.f17.body).bind (rcodeOf Try.prog 0 Try.f17.ntmps) = some (strip r_ref07_New) := by kernel_rfl
theorem t_ref07_New (k : Nat) (D : CallF) : curF [(0, .i .i64)] (fun args h => denF (C_ref07_New k D) k r_ref07_New [(2, .p), (3, .i .i64)] [none, none] args h) = ref07_New k D := by kernel_rfl
theorem ok_ref07_New {D : CallF} (hD : CSound Try.prog 0 D) (k : Nat) : EntOk Try.prog 0 (e_ref07_New k D) :=
 entOf_ok2 (mkC_sound hD (EntsOk.none)) Try.func17 rfl q_ref07_New rfl (t_ref07_New k D)
end Gs
namespace Gs
open Go Gx Go.Proofs
set_option maxRecDepth 100000
noncomputable def C_ref07_Store_find (_k : Nat) (D : CallF) : CallF := mkC D []
noncomputable def ref07_Store_find_l0b (_k : Nat) (_D : CallF) (j5 : (Option Addr) → ByteArray → Int → AHeap → Option ((Int × Bool) × AHeap)) (rec16 : (Option Addr) → ByteArray → Int → AHeap → Option ((Int × Bool) × AHeap)) (s12 : Option Addr) (n13 : ByteArray) (i14 : Int) (h15 : AHeap) : Option ((Int × Bool) × AHeap) :=
 joinK (fun (s17 : Option Addr) (n18 : ByteArray) (i19 : Int) (y20 : Bool) (h21 : AHeap) =>
 (if y20 = true then
 rec16 s17 n18 (IntKind.wrap .i64 (i19 + 1)) h21
 else
 j5 s17 n18 i19 h21)) fun j22 =>
 (s12).bind fun p23 =>
 (ldL (⟨p23.block, p23.off + 4, none⟩ : Addr) h15).bind fun x24 =>
 (if (decide (i14 < (x24.len : Int))) = true then
 (s12).bind fun p25 =>
 (ldL (⟨p25.block, p25.off + 4, none⟩ : Addr) h15).bind fun x26 =>
 (Gx.idxL 2 x26 i14).bind fun q27 =>
 (ldS (⟨q27.block, q27.off + 0, none⟩ : Addr) h15).bind fun x28 =>
 j22 s12 n13 i14 (Op.bytesLess x28.toList n13.toList) h15
 else
 j22 s12 n13 i14 false h15)
noncomputable def ref07_Store_find_l0 (k : Nat) (D : CallF) (j5 : (Option Addr) → ByteArray → Int → AHeap → Option ((Int × Bool) × AHeap)) : (Option Addr) → ByteArray → Int → AHeap → Option ((Int × Bool) × AHeap) :=
 iterK (α := (Option Addr) → ByteArray → Int → AHeap → Option ((Int × Bool) × AHeap)) (fun _ _ _ _ => none) k (ref07_Store_find_l0b k D j5)
noncomputable def ref07_Store_find (k : Nat) (D : CallF) (s_0 : Option Addr) (n_1 : ByteArray) (h : AHeap) : Option ((Int × Bool) × AHeap) :=
 joinK (fun (s1 : Option Addr) (n2 : ByteArray) (i3 : Int) (h4 : AHeap) =>
 (s1).bind fun p6 =>
 (ldL (⟨p6.block, p6.off + 4, none⟩ : Addr) h4).bind fun x7 =>
 (if (decide (i3 < (x7.len : Int))) = true then
 (s1).bind fun p8 =>
 (ldL (⟨p8.block, p8.off + 4, none⟩ : Addr) h4).bind fun x9 =>
 (Gx.idxL 2 x9 i3).bind fun q10 =>
 (ldS (⟨q10.block, q10.off + 0, none⟩ : Addr) h4).bind fun x11 =>
 some ((i3, (x11 == n2)), h4)
 else
 some ((i3, false), h4))) fun j5 =>
 ref07_Store_find_l0 k D j5 s_0 n_1 0 h
noncomputable def r_ref07_Store_find : RCode := an (.s .n (.s .n (.s (.j [(0, .p), (1, .s), (6, .i .i64)] (.b (.l [(0, .p), (1, .s), (6, .i .i64)] (.s (.s (.j [(0, .p), (1, .s), (6, .i .i64), (25, .b)] .n) .n) .n)))) .n))) (rOf Try.prog 0 Try.f69)
noncomputable def e_ref07_Store_find (k : Nat) (D : CallF) : Ent := entOf 69 [(0, .p), (1, .s)] [(4, .i .i64), (5, .b)] (ref07_Store_find k D)
theorem q_ref07_Store_find : (Try.f69.body).bind (rcodeOf Try.prog 0 Try.f69.ntmps) = some (strip r_ref07_Store_find) := by kernel_rfl
theorem t_ref07_Store_find (k : Nat) (D : CallF) : curF [(0, .p), (1, .s)] (fun args h => denF (C_ref07_Store_find k D) k r_ref07_Store_find [(4, .i .i64), (5, .b)] [none, none] args h) = ref07_Store_find k D := by kernel_rfl
theorem ok_ref07_Store_find {D : CallF} (hD : CSound Try.prog 0 D) (k : Nat) : EntOk Try.prog 0 (e_ref07_Store_find k D) :=
 entOf_ok2 (mkC_sound hD (EntsOk.none)) Try.func69 rfl q_ref07_Store_find rfl (t_ref07_Store_find k D)
end Gs
namespace Gs
open Go Gx Go.Proofs
set_option maxRecDepth 100000
noncomputable def C_ref07_Name (_k : Nat) (D : CallF) : CallF := mkC D []
noncomputable def ref07_Name_l0b (_k : Nat) (_D : CallF) (j6 : AHeap → Option ((Bool) × AHeap)) (rec10 : ByteArray → Int → AHeap → Option ((Bool) × AHeap)) (n7 : ByteArray) (i8 : Int) (h9 : AHeap) : Option ((Bool) × AHeap) :=
 (if (decide (i8 < (n7.size : Int))) = true then
 joinK (fun (n11 : ByteArray) (i12 : Int) (y13 : Bool) (h14 : AHeap) =>
 (if y13 = true then
 some (false, h14)
 else
 rec10 n11 (IntKind.wrap .i64 (i12 + 1)) h14)) fun j15 =>
 (Gx.idxS n7 i8).bind fun b16 =>
 (if (decide (b16 ≤ 32)) = true then
 j15 n7 i8 true h9
 else
 (Gx.idxS n7 i8).bind fun b17 =>
 j15 n7 i8 (decide (b17 ≥ 127)) h9)
 else
 j6 h9)
noncomputable def ref07_Name_l0 (k : Nat) (D : CallF) (j6 : AHeap → Option ((Bool) × AHeap)) : ByteArray → Int → AHeap → Option ((Bool) × AHeap) :=
 iterK (α := ByteArray → Int → AHeap → Option ((Bool) × AHeap)) (fun _ _ _ => none) k (ref07_Name_l0b k D j6)
noncomputable def ref07_Name (k : Nat) (D : CallF) (n_0 : ByteArray) (h : AHeap) : Option ((Bool) × AHeap) :=
 joinK (fun (n1 : ByteArray) (y2 : Bool) (h3 : AHeap) =>
 (if y2 = true then
 some (false, h3)
 else
 joinK (fun (h5 : AHeap) =>
 some (true, h5)) fun j6 =>
 ref07_Name_l0 k D j6 n1 0 h3)) fun j4 =>
 (if (n_0 == (⟨#[]⟩ : ByteArray)) = true then
 j4 n_0 true h
 else
 j4 n_0 (decide ((n_0.size : Int) > 96)) h)
noncomputable def r_ref07_Name : RCode := an (.s .n (.s (.s (.j [(0, .s), (10, .b)] .n) .n) (.s (.j [] (.s .n (.b (.l [(0, .s), (3, .i .i64)] (.s .n (.s (.b (.s (.j [(0, .s), (3, .i .i64), (26, .b)] .n) .n)) .n)))))) .n))) (rOf Try.prog 0 Try.f108)
noncomputable def e_ref07_Name (k : Nat) (D : CallF) : Ent := entOf 108 [(0, .s)] [(2, .b)] (ref07_Name k D)
theorem q_ref07_Name : (Try.f108.body).bind (rcodeOf Try.prog 0 Try.f108.ntmps) = some (strip r_ref07_Name) := by kernel_rfl
theorem t_ref07_Name (k : Nat) (D : CallF) : curF [(0, .s)] (fun args h => denF (C_ref07_Name k D) k r_ref07_Name [(2, .b)] [none] args h) = ref07_Name k D := by kernel_rfl
theorem ok_ref07_Name {D : CallF} (hD : CSound Try.prog 0 D) (k : Nat) : EntOk Try.prog 0 (e_ref07_Name k D) :=
 entOf_ok2 (mkC_sound hD (EntsOk.none)) Try.func108 rfl q_ref07_Name rfl (t_ref07_Name k D)
end Gs
namespace Gs
open Go Gx Go.Proofs
set_option maxRecDepth 100000
noncomputable def C_ref07_Store_Fork (_k : Nat) (D : CallF) : CallF := mkC D []
noncomputable def ref07_Store_Fork (_k : Nat) (_D : CallF) (s_0 : Option Addr) (h : AHeap) : Option (((Option Addr)) × AHeap) :=
 (s_0).bind fun p1 =>
 (ldA 5 p1 h).bind fun l2 =>
 (decC [.i .i64, .i .i64, .i .i64, .b, .l] l2).bind fun x3 =>
 let h4 := AHeap.new h (.cells [.int .i64 0, .int .i64 0, .int .i64 0, .bool false, .slice none 0 0] 48 true 0)
 (stL 5 (⟨h.next, 0, none⟩ : Addr) ([.int .i64 x3.1, .int .i64 x3.2.1, .int .i64 x3.2.2.1, .bool x3.2.2.2.1, .slice x3.2.2.2.2.a x3.2.2.2.2.len x3.2.2.2.2.cap]) h4).bind fun h5 =>
 let h6 := AHeap.new h5 (.cells [] 124 true 0)
 (s_0).bind fun p7 =>
 (ldL (⟨p7.block, p7.off + 4, none⟩ : Addr) h6).bind fun x8 =>
 (rdS 2 x8 h6).bind fun n10 =>
 (appendA 2 32 124 h6 (⟨(some ⟨h5.next, 0, some 0⟩), 0, 0⟩ : Slc) n10 x8.len).bind fun r9 =>
 (st1 (⟨h.next, 4, none⟩ : Addr) (.slice r9.1.a r9.1.len r9.1.cap) r9.2).bind fun h11 =>
 some ((some (⟨h.next, 0, none⟩ : Addr)), h11)
noncomputable def r_ref07_Store_Fork : RCode := an (.s .n (.s (.r [(2, .st [.i .i64, .i .i64, .i .i64, .b, .l])]) .n)) (rOf Try.prog 0 Try.f132)
noncomputable def e_ref07_Store_Fork (k : Nat) (D : CallF) : Ent := entOf 132 [(0, .p)] [(2, .p)] (ref07_Store_Fork k D)
theorem q_ref07_Store_Fork : (Try.f132.body).bind (rcodeOf Try.prog 0 Try.f132.ntmps) = some (strip r_ref07_Store_Fork) := by kernel_rfl
theorem t_ref07_Store_Fork (k : Nat) (D : CallF) : curF [(0, .p)] (fun args h => denF (C_ref07_Store_Fork k D) k r_ref07_Store_Fork [(2, .p)] [none] args h) = ref07_Store_Fork k D := by kernel_rfl
theorem ok_ref07_Store_Fork {D : CallF} (hD : CSound Try.prog 0 D) (k : Nat) : EntOk Try.prog 0 (e_ref07_Store_Fork k D) :=
 entOf_ok2 (mkC_sound hD (EntsOk.none)) Try.func132 rfl q_ref07_Store_Fork rfl (t_ref07_Store_Fork k D)
end Gs
namespace Gs
open Go Gx Go.Proofs
set_option maxRecDepth 100000
noncomputable def C_ref07_Store_remove (_k : Nat) (D : CallF) : CallF := mkC D []
noncomputable def ref07_Store_remove (_k : Nat) (_D : CallF) (s_0 : Option Addr) (i_1 : Int) (h : AHeap) : Option ((Unit) × AHeap) :=
 let h1 := AHeap.new h (.cells [] 124 true 0)
 (s_0).bind fun p2 =>
 (ldL (⟨p2.block, p2.off + 4, none⟩ : Addr) h1).bind fun x3 =>
 guardP (SameW [h] (fun H5 => (ldL (⟨p2.block, p2.off + 4, none⟩ : Addr) H5).bind fun y4 => some (.slice y4.a y4.len y4.cap)) (.slice x3.a x3.len x3.cap)) (
 (Gx.subL 2 x3 none (some i_1) none).bind fun l6 =>
 (rdS 2 l6 h1).bind fun n8 =>
 (appendA 2 32 124 h1 (⟨(some ⟨h.next, 0, some 0⟩), 0, 0⟩ : Slc) n8 l6.len).bind fun r7 =>
 (s_0).bind fun p9 =>
 (ldL (⟨p9.block, p9.off + 4, none⟩ : Addr) r7.2).bind fun x10 =>
 guardP (SameW [h1, h] (fun H12 => (ldL (⟨p9.block, p9.off + 4, none⟩ : Addr) H12).bind fun y11 => some (.slice y11.a y11.len y11.cap)) (.slice x10.a x10.len x10.cap)) (
 (Gx.subL 2 x10 (some (IntKind.wrap .i64 (i_1 + 1))) none none).bind fun l13 =>
 (rdS 2 l13 r7.2).bind fun n15 =>
 (appendA 2 32 124 r7.2 r7.1 n15 l13.len).bind fun r14 =>
 (s_0).bind fun p16 =>
 (st1 (⟨p16.block, p16.off + 4, none⟩ : Addr) (.slice r14.1.a r14.1.len r14.1.cap) r14.2).bind fun h17 =>
 some ((), h17)))
noncomputable def r_ref07_Store_remove : RCode := an (.n) (rOf Try.prog 0 Try.f107)
noncomputable def e_ref07_Store_remove (k : Nat) (D : CallF) : Ent := entOf 107 [(0, .p), (1, .i .i64)] [] (ref07_Store_remove k D)
theorem q_ref07_Store_remove : (Try.f107.body).bind (rcodeOf Try.prog 0 Try.f107.ntmps) = some (strip r_ref07_Store_remove) := by kernel_rfl
theorem t_ref07_Store_remove (k : Nat) (D : CallF) : curF [(0, .p), (1, .i .i64)] (fun args h => denF (C_ref07_Store_remove k D) k r_ref07_Store_remove [] [] args h) = ref07_Store_remove k D := by kernel_rfl
theorem ok_ref07_Store_remove {D : CallF} (hD : CSound Try.prog 0 D) (k : Nat) : EntOk Try.prog 0 (e_ref07_Store_remove k D) :=
 entOf_ok2 (mkC_sound hD (EntsOk.none)) Try.func107 rfl q_ref07_Store_remove rfl (t_ref07_Store_remove k D)
end Gs
namespace Gs
open Go Gx Go.Proofs
set_option maxRecDepth 100000
noncomputable def C_ref07_Store_lay (k : Nat) (D : CallF) : CallF := mkC D [e_ref07_Store_find k D, e_ref07_Store_remove k D]
noncomputable def ref07_Store_lay (k : Nat) (D : CallF) (s_0 : Option Addr) (n_1 : ByteArray) (data_2 : ByteArray) (h : AHeap) : Option ((Unit) × AHeap) :=
 (ref07_Store_find k D s_0 n_1 h).bind fun r1 =>
 joinK (fun (s2 : Option Addr) (n3 : ByteArray) (data4 : ByteArray) (i5 : Int) (h6 : AHeap) =>
 (s2).bind fun p8 =>
 (ldL (⟨p8.block, p8.off + 4, none⟩ : Addr) h6).bind fun x9 =>
 (Gx.subL 2 x9 none (some i5) none).bind fun l10 =>
 (rdS 2 l10 h6).bind fun n12 =>
 (appendA 2 32 124 h6 (⟨none, 0, 0⟩ : Slc) n12 l10.len).bind fun r11 =>
 let h13 := AHeap.new r11.2 (.cells [.string n3, .string data4] 124 true 0)
 (rdS 2 (⟨(some ⟨r11.2.next, 0, some 0⟩), 1, 1⟩ : Slc) h13).bind fun n15 =>
 (appendA 2 32 124 h13 r11.1 n15 1).bind fun r14 =>
 (s2).bind fun p16 =>
 (ldL (⟨p16.block, p16.off + 4, none⟩ : Addr) r14.2).bind fun x17 =>
 (Gx.subL 2 x17 (some i5) none none).bind fun l18 =>
 (rdS 2 l18 r14.2).bind fun n20 =>
 (appendA 2 32 124 r14.2 r14.1 n20 l18.len).bind fun r19 =>
 (s2).bind fun p21 =>
 (st1 (⟨p21.block, p21.off + 4, none⟩ : Addr) (.slice r19.1.a r19.1.len r19.1.cap) r19.2).bind fun h22 =>
 some ((), h22)) fun j7 =>
 (if r1.1.2 = true then
 (ref07_Store_remove k D s_0 r1.1.1 r1.2).bind fun r23 =>
 j7 s_0 n_1 data_2 r1.1.1 r23.2
 else
 j7 s_0 n_1 data_2 r1.1.1 r1.2)
noncomputable def r_ref07_Store_lay : RCode := an (.s .n (.s (.j [(0, .p), (1, .s), (2, .s), (6, .i .i64)] .n) .n)) (rOf Try.prog 0 Try.f109)
noncomputable def e_ref07_Store_lay (k : Nat) (D : CallF) : Ent := entOf 109 [(0, .p), (1, .s), (2, .s)] [] (ref07_Store_lay k D)
theorem q_ref07_Store_lay : (Try.f109.body).bind (rcodeOf Try.prog 0 Try.f109.ntmps) = some (strip r_ref07_Store_lay) := by kernel_rfl
theorem t_ref07_Store_lay (k : Nat) (D : CallF) : curF [(0, .p), (1, .s), (2, .s)] (fun args h => denF (C_ref07_Store_lay k D) k r_ref07_Store_lay [] [] args h) = ref07_Store_lay k D := by kernel_rfl
theorem ok_ref07_Store_lay {D : CallF} (hD : CSound Try.prog 0 D) (k : Nat) : EntOk Try.prog 0 (e_ref07_Store_lay k D) :=
 entOf_ok2 (mkC_sound hD (EntsOk.more (ok_ref07_Store_find hD k) (EntsOk.more (ok_ref07_Store_remove hD k) (EntsOk.none)))) Try.func109 rfl q_ref07_Store_lay rfl (t_ref07_Store_lay k D)
end Gs
namespace Gs
open Go Gx Go.Proofs
set_option maxRecDepth 100000
noncomputable def C_ref07_Store_Used (_k : Nat) (D : CallF) : CallF := mkC D []
noncomputable def ref07_Store_Used_l0b (_k : Nat) (_D : CallF) (j3 : Int → AHeap → Option ((Int) × AHeap)) (rec8 : (Option Addr) → Int → Int → AHeap → Option ((Int) × AHeap)) (s4 : Option Addr) (n5 : Int) (i6 : Int) (h7 : AHeap) : Option ((Int) × AHeap) :=
 (s4).bind fun p9 =>
 (ldL (⟨p9.block, p9.off + 4, none⟩ : Addr) h7).bind fun x10 =>
 (if (decide (i6 < (x10.len : Int))) = true then
 (s4).bind fun p11 =>
 (ldL (⟨p11.block, p11.off + 4, none⟩ : Addr) h7).bind fun x12 =>
 (Gx.idxL 2 x12 i6).bind fun q13 =>
 (ldS (⟨q13.block, q13.off + 0, none⟩ : Addr) h7).bind fun x14 =>
 (s4).bind fun p15 =>
 (ldL (⟨p15.block, p15.off + 4, none⟩ : Addr) h7).bind fun x16 =>
 (Gx.idxL 2 x16 i6).bind fun q17 =>
 (ldS (⟨q17.block, q17.off + 1, none⟩ : Addr) h7).bind fun x18 =>
 let t19 : Int := (IntKind.wrap .i64 (n5 + (IntKind.wrap .i64 ((x14.size : Int) + (x18.size : Int)))))
 rec8 s4 t19 (IntKind.wrap .i64 (i6 + 1)) h7
 else
 j3 n5 h7)
noncomputable def ref07_Store_Used_l0 (k : Nat) (D : CallF) (j3 : Int → AHeap → Option ((Int) × AHeap)) : (Option Addr) → Int → Int → AHeap → Option ((Int) × AHeap) :=
 iterK (α := (Option Addr) → Int → Int → AHeap → Option ((Int) × AHeap)) (fun _ _ _ _ => none) k (ref07_Store_Used_l0b k D j3)
noncomputable def ref07_Store_Used (k : Nat) (D : CallF) (s_0 : Option Addr) (h : AHeap) : Option ((Int) × AHeap) :=
 joinK (fun (n1 : Int) (h2 : AHeap) =>
 some (n1, h2)) fun j3 =>
 ref07_Store_Used_l0 k D j3 s_0 0 0 h
noncomputable def r_ref07_Store_Used : RCode := an (.s .n (.s .n (.s (.j [(3, .i .i64)] (.s .n (.b (.l [(0, .p), (3, .i .i64), (4, .i .i64)] .n)))) .n))) (rOf Try.prog 0 Try.f21)
noncomputable def e_ref07_Store_Used (k : Nat) (D : CallF) : Ent := entOf 21 [(0, .p)] [(2, .i .i64)] (ref07_Store_Used k D)
theorem q_ref07_Store_Used : (Try.f21.body).bind (rcodeOf Try.prog 0 Try.f21.ntmps) = some (strip r_ref07_Store_Used) := by kernel_rfl
theorem t_ref07_Store_Used (k : Nat) (D : CallF) : curF [(0, .p)] (fun args h => denF (C_ref07_Store_Used k D) k r_ref07_Store_Used [(2, .i .i64)] [none] args h) = ref07_Store_Used k D := by kernel_rfl
theorem ok_ref07_Store_Used {D : CallF} (hD : CSound Try.prog 0 D) (k : Nat) : EntOk Try.prog 0 (e_ref07_Store_Used k D) :=
 entOf_ok2 (mkC_sound hD (EntsOk.none)) Try.func21 rfl q_ref07_Store_Used rfl (t_ref07_Store_Used k D)
end Gs
namespace Gs
open Go Gx Go.Proofs
set_option maxRecDepth 100000
noncomputable def C_ref07_Store_put (k : Nat) (D : CallF) : CallF := mkC D [e_ref07_Name k D, e_ref07_Store_Fork k D, e_ref07_Store_lay k D, e_ref07_Store_Used k D]
noncomputable def ref07_Store_put (k : Nat) (D : CallF) (s_0 : Option Addr) (r_1 : Int × Int × ByteArray × ByteArray) (h : AHeap) : Option ((Int) × AHeap) :=
 let h1 := AHeap.new h (.cells [.int .i64 r_1.1, .int .i64 r_1.2.1, .string r_1.2.2.1, .string r_1.2.2.2] 32 true 0)
 (ldS (⟨h.next, 2, none⟩ : Addr) h1).bind fun x2 =>
 (ref07_Name k D x2 h1).bind fun r3 =>
 (if (!r3.1) = true then
 some (3, r3.2)
 else
 (ldS (⟨h.next, 3, none⟩ : Addr) r3.2).bind fun x4 =>
 (if (decide ((x4.size : Int) > 131072)) = true then
 some (2, r3.2)
 else
 (ref07_Store_Fork k D s_0 r3.2).bind fun r5 =>
 (ldS (⟨h.next, 2, none⟩ : Addr) r5.2).bind fun x6 =>
 (ldS (⟨h.next, 3, none⟩ : Addr) r5.2).bind fun x7 =>
 (ref07_Store_lay k D r5.1 x6 x7 r5.2).bind fun r8 =>
 (ref07_Store_Used k D r5.1 r8.2).bind fun r9 =>
 (s_0).bind fun p10 =>
 (ldI .i64 (⟨p10.block, p10.off + 0, none⟩ : Addr) r9.2).bind fun x11 =>
 guardP (SameW [r8.2] (fun H13 => (ldI .i64 (⟨p10.block, p10.off + 0, none⟩ : Addr) H13).bind fun y12 => some (.int .i64 y12)) (.int .i64 x11)) (
 (if (decide (r9.1 > x11)) = true then
 some (71, r9.2)
 else
 (r5.1).bind fun p14 =>
 (ldL (⟨p14.block, p14.off + 4, none⟩ : Addr) r9.2).bind fun x15 =>
 (s_0).bind fun p16 =>
 (st1 (⟨p16.block, p16.off + 4, none⟩ : Addr) (.slice x15.a x15.len x15.cap) r9.2).bind fun h17 =>
 some (0, h17)))))
noncomputable def r_ref07_Store_put : RCode := an (.n) (rOf Try.prog 0 Try.f106)
noncomputable def e_ref07_Store_put (k : Nat) (D : CallF) : Ent := entOf 106 [(0, .p), (1, .st [.i .i64, .i .i64, .s, .s])] [(4, .i .i64)] (ref07_Store_put k D)
theorem q_ref07_Store_put : (Try.f106.body).bind (rcodeOf Try.prog 0 Try.f106.ntmps) = some (strip r_ref07_Store_put) := by kernel_rfl
theorem t_ref07_Store_put (k : Nat) (D : CallF) : curF [(0, .p), (1, .st [.i .i64, .i .i64, .s, .s])] (fun args h => denF (C_ref07_Store_put k D) k r_ref07_Store_put [(4, .i .i64)] [none] args h) = ref07_Store_put k D := by kernel_rfl
theorem ok_ref07_Store_put {D : CallF} (hD : CSound Try.prog 0 D) (k : Nat) : EntOk Try.prog 0 (e_ref07_Store_put k D) :=
 entOf_ok2 (mkC_sound hD (EntsOk.more (ok_ref07_Name hD k) (EntsOk.more (ok_ref07_Store_Fork hD k) (EntsOk.more (ok_ref07_Store_lay hD k) (EntsOk.more (ok_ref07_Store_Used hD k) (EntsOk.none)))))) Try.func106 rfl q_ref07_Store_put rfl (t_ref07_Store_put k D)
end Gs
namespace Gs
open Go Gx Go.Proofs
set_option maxRecDepth 100000
noncomputable def C_ref07_Store_Names (_k : Nat) (D : CallF) : CallF := mkC D []
noncomputable def ref07_Store_Names_l0b (_k : Nat) (_D : CallF) (j3 : Slc → AHeap → Option ((Slc) × AHeap)) (rec9 : (Option Addr) → ByteArray → Slc → Int → AHeap → Option ((Slc) × AHeap)) (s4 : Option Addr) (begin5 : ByteArray) (out6 : Slc) (i7 : Int) (h8 : AHeap) : Option ((Slc) × AHeap) :=
 (s4).bind fun p10 =>
 (ldL (⟨p10.block, p10.off + 4, none⟩ : Addr) h8).bind fun x11 =>
 (if (decide (i7 < (x11.len : Int))) = true then
 joinK (fun (s12 : Option Addr) (begin13 : ByteArray) (out14 : Slc) (i15 : Int) (h16 : AHeap) =>
 rec9 s12 begin13 out14 (IntKind.wrap .i64 (i15 + 1)) h16) fun j17 =>
 (s4).bind fun p18 =>
 (ldL (⟨p18.block, p18.off + 4, none⟩ : Addr) h8).bind fun x19 =>
 (Gx.idxL 2 x19 i7).bind fun q20 =>
 (ldS (⟨q20.block, q20.off + 0, none⟩ : Addr) h8).bind fun x21 =>
 joinK (fun (s22 : Option Addr) (begin23 : ByteArray) (out24 : Slc) (i25 : Int) (n26 : ByteArray) (y27 : Bool) (h28 : AHeap) =>
 (if y27 = true then
 let h30 := AHeap.new h28 (.cells [.string n26] 9 true 0)
 (rdS 1 (⟨(some ⟨h28.next, 0, some 0⟩), 1, 1⟩ : Slc) h30).bind fun n32 =>
 (appendA 1 16 9 h30 out24 n32 1).bind fun r31 =>
 j17 s22 begin23 r31.1 i25 r31.2
 else
 j17 s22 begin23 out24 i25 h28)) fun j29 =>
 (if (decide ((x21.size : Int) ≥ (begin5.size : Int))) = true then
 (Gx.subS x21 none (some (begin5.size : Int))).bind fun s33 =>
 j29 s4 begin5 out6 i7 x21 (s33 == begin5) h8
 else
 j29 s4 begin5 out6 i7 x21 false h8)
 else
 j3 out6 h8)
noncomputable def ref07_Store_Names_l0 (k : Nat) (D : CallF) (j3 : Slc → AHeap → Option ((Slc) × AHeap)) : (Option Addr) → ByteArray → Slc → Int → AHeap → Option ((Slc) × AHeap) :=
 iterK (α := (Option Addr) → ByteArray → Slc → Int → AHeap → Option ((Slc) × AHeap)) (fun _ _ _ _ _ => none) k (ref07_Store_Names_l0b k D j3)
noncomputable def ref07_Store_Names (k : Nat) (D : CallF) (s_0 : Option Addr) (begin_1 : ByteArray) (h : AHeap) : Option ((Slc) × AHeap) :=
 joinK (fun (out1 : Slc) (h2 : AHeap) =>
 some (out1, h2)) fun j3 =>
 ref07_Store_Names_l0 k D j3 s_0 begin_1 (⟨none, 0, 0⟩ : Slc) 0 h
noncomputable def r_ref07_Store_Names : RCode := an (.s .n (.s .n (.s (.j [(5, .l)] (.s .n (.b (.l [(0, .p), (1, .s), (5, .l), (6, .i .i64)] (.s .n (.s (.j [(0, .p), (1, .s), (5, .l), (6, .i .i64)] (.b (.s .n (.s (.j [(0, .p), (1, .s), (5, .l), (6, .i .i64), (7, .s), (37, .b)] .n) .n)))) .n)))))) .n))) (rOf Try.prog 0 Try.f23)
noncomputable def e_ref07_Store_Names (k : Nat) (D : CallF) : Ent := entOf 23 [(0, .p), (1, .s)] [(4, .l)] (ref07_Store_Names k D)
theorem q_ref07_Store_Names : (Try.f23.body).bind (rcodeOf Try.prog 0 Try.f23.ntmps) = some (strip r_ref07_Store_Names) := by kernel_rfl
theorem t_ref07_Store_Names (k : Nat) (D : CallF) : curF [(0, .p), (1, .s)] (fun args h => denF (C_ref07_Store_Names k D) k r_ref07_Store_Names [(4, .l)] [none] args h) = ref07_Store_Names k D := by kernel_rfl
theorem ok_ref07_Store_Names {D : CallF} (hD : CSound Try.prog 0 D) (k : Nat) : EntOk Try.prog 0 (e_ref07_Store_Names k D) :=
 entOf_ok2 (mkC_sound hD (EntsOk.none)) Try.func23 rfl q_ref07_Store_Names rfl (t_ref07_Store_Names k D)
end Gs
namespace Gs
open Go Gx Go.Proofs
set_option maxRecDepth 100000
noncomputable def C_ref07_Store_Do (k : Nat) (D : CallF) : CallF := mkC D [e_ref07_Store_find k D, e_ref07_Store_put k D, e_ref07_Store_Names k D, e_ref07_Store_remove k D]
noncomputable def ref07_Store_Do (k : Nat) (D : CallF) (s_0 : Option Addr) (r_1 : Int × Int × ByteArray × ByteArray) (h : AHeap) : Option (((Int × ByteArray × Slc)) × AHeap) :=
 let h1 := AHeap.new h (.cells [.int .i64 r_1.1, .int .i64 r_1.2.1, .string r_1.2.2.1, .string r_1.2.2.2] 32 true 0)
 let h2 := AHeap.new h1 (.cells [.int .i64 0, .string ⟨#[]⟩, .slice none 0 0] 29 true 0)
 (s_0).bind fun p3 =>
 (ldI .i64 (⟨p3.block, p3.off + 2, none⟩ : Addr) h2).bind fun x4 =>
 (s_0).bind fun p5 =>
 (st1 (⟨p5.block, p5.off + 2, none⟩ : Addr) (.int .i64 (IntKind.wrap .i64 (x4 + 1))) h2).bind fun h6 =>
 (s_0).bind fun p7 =>
 (ldB (⟨p7.block, p7.off + 3, none⟩ : Addr) h6).bind fun x8 =>
 (if x8 = true then
 (stL 3 (⟨h1.next, 0, none⟩ : Addr) ([.int .i64 70, .string (⟨#[]⟩ : ByteArray), .slice none 0 0]) h6).bind fun h9 =>
 (ldA 3 (⟨h1.next, 0, none⟩ : Addr) h9).bind fun l10 =>
 (decC [.i .i64, .s, .l] l10).bind fun x11 =>
 some ((x11.1, x11.2.1, x11.2.2), h9)
 else
 (s_0).bind fun p12 =>
 (ldI .i64 (⟨p12.block, p12.off + 1, none⟩ : Addr) h6).bind fun x13 =>
 (if (decide (x13 > 0)) = true then
 (s_0).bind fun p14 =>
 (ldI .i64 (⟨p14.block, p14.off + 1, none⟩ : Addr) h6).bind fun x15 =>
 (s_0).bind fun p16 =>
 (st1 (⟨p16.block, p16.off + 1, none⟩ : Addr) (.int .i64 (IntKind.wrap .i64 (x15 - 1))) h6).bind fun h17 =>
 (stL 3 (⟨h1.next, 0, none⟩ : Addr) ([.int .i64 72, .string (⟨#[]⟩ : ByteArray), .slice none 0 0]) h17).bind fun h18 =>
 (ldA 3 (⟨h1.next, 0, none⟩ : Addr) h18).bind fun l19 =>
 (decC [.i .i64, .s, .l] l19).bind fun x20 =>
 some ((x20.1, x20.2.1, x20.2.2), h18)
 else
 (ldS (⟨h.next, 2, none⟩ : Addr) h6).bind fun x21 =>
 (ref07_Store_find k D s_0 x21 h6).bind fun r22 =>
 joinK (fun (y23 : Option Addr) (h24 : AHeap) =>
 (y23).bind fun p26 =>
 (stL 3 p26 ([.int .i64 5, .string (⟨#[]⟩ : ByteArray), .slice none 0 0]) h24).bind fun h27 =>
 (y23).bind fun p28 =>
 (ldA 3 p28 h27).bind fun l29 =>
 (decC [.i .i64, .s, .l] l29).bind fun x30 =>
 some ((x30.1, x30.2.1, x30.2.2), h27)) fun j25 =>
 (ldI .i64 (⟨h.next, 1, none⟩ : Addr) r22.2).bind fun x31 =>
 (if (x31 == 1) = true then
 (ldA 4 (⟨h.next, 0, none⟩ : Addr) r22.2).bind fun l32 =>
 (decC [.i .i64, .i .i64, .s, .s] l32).bind fun x33 =>
 (ref07_Store_put k D s_0 (x33.1, x33.2.1, x33.2.2.1, x33.2.2.2) r22.2).bind fun r34 =>
 (stL 3 (⟨h1.next, 0, none⟩ : Addr) ([.int .i64 r34.1, .string (⟨#[]⟩ : ByteArray), .slice none 0 0]) r34.2).bind fun h35 =>
 (ldA 3 (⟨h1.next, 0, none⟩ : Addr) h35).bind fun l36 =>
 (decC [.i .i64, .s, .l] l36).bind fun x37 =>
 some ((x37.1, x37.2.1, x37.2.2), h35)
 else
 (if (x31 == 3) = true then
 (ldS (⟨h.next, 2, none⟩ : Addr) r22.2).bind fun x38 =>
 (ref07_Store_Names k D s_0 x38 r22.2).bind fun r39 =>
 (stL 3 (⟨h1.next, 0, none⟩ : Addr) ([.int .i64 0, .string (⟨#[]⟩ : ByteArray), .slice r39.1.a r39.1.len r39.1.cap]) r39.2).bind fun h40 =>
 (ldA 3 (⟨h1.next, 0, none⟩ : Addr) h40).bind fun l41 =>
 (decC [.i .i64, .s, .l] l41).bind fun x42 =>
 some ((x42.1, x42.2.1, x42.2.2), h40)
 else
 (if (x31 == 2) = true then
 (if r22.1.2 = true then
 (s_0).bind fun p43 =>
 (ldL (⟨p43.block, p43.off + 4, none⟩ : Addr) r22.2).bind fun x44 =>
 (Gx.idxL 2 x44 r22.1.1).bind fun q45 =>
 (ldS (⟨q45.block, q45.off + 1, none⟩ : Addr) r22.2).bind fun x46 =>
 (stL 3 (⟨h1.next, 0, none⟩ : Addr) ([.int .i64 0, .string x46, .slice none 0 0]) r22.2).bind fun h47 =>
 (ldA 3 (⟨h1.next, 0, none⟩ : Addr) h47).bind fun l48 =>
 (decC [.i .i64, .s, .l] l48).bind fun x49 =>
 some ((x49.1, x49.2.1, x49.2.2), h47)
 else
 j25 (some (⟨h1.next, 0, none⟩ : Addr)) r22.2)
 else
 (if (x31 == 4) = true then
 (if r22.1.2 = true then
 (ref07_Store_remove k D s_0 r22.1.1 r22.2).bind fun r50 =>
 (stL 3 (⟨h1.next, 0, none⟩ : Addr) ([.int .i64 0, .string (⟨#[]⟩ : ByteArray), .slice none 0 0]) r50.2).bind fun h51 =>
 (ldA 3 (⟨h1.next, 0, none⟩ : Addr) h51).bind fun l52 =>
 (decC [.i .i64, .s, .l] l52).bind fun x53 =>
 some ((x53.1, x53.2.1, x53.2.2), h51)
 else
 j25 (some (⟨h1.next, 0, none⟩ : Addr)) r22.2)
 else
 (stL 3 (⟨h1.next, 0, none⟩ : Addr) ([.int .i64 3, .string (⟨#[]⟩ : ByteArray), .slice none 0 0]) r22.2).bind fun h54 =>
 (ldA 3 (⟨h1.next, 0, none⟩ : Addr) h54).bind fun l55 =>
 (decC [.i .i64, .s, .l] l55).bind fun x56 =>
 some ((x56.1, x56.2.1, x56.2.2), h54)))))))
noncomputable def r_ref07_Store_Do : RCode := an (.s .n (.s .n (.s .n (.s .n (.s .n (.s (.j [(4, .p)] (.s .n (.b (.s .n (.s (.s (.r [(1, .st [.i .i64, .i .i64, .s, .s])]) .n) .n))))) .n)))))) (rOf Try.prog 0 Try.f58)
noncomputable def e_ref07_Store_Do (k : Nat) (D : CallF) : Ent := entOf 58 [(0, .p), (1, .st [.i .i64, .i .i64, .s, .s])] [(4, .st [.i .i64, .s, .l])] (ref07_Store_Do k D)
theorem q_ref07_Store_Do : (Try.f58.body).bind (rcodeOf Try.prog 0 Try.f58.ntmps) = some (strip r_ref07_Store_Do) := by kernel_rfl
theorem t_ref07_Store_Do (k : Nat) (D : CallF) : curF [(0, .p), (1, .st [.i .i64, .i .i64, .s, .s])] (fun args h => denF (C_ref07_Store_Do k D) k r_ref07_Store_Do [(4, .st [.i .i64, .s, .l])] [some (.agg 3)] args h) = ref07_Store_Do k D := by kernel_rfl
theorem ok_ref07_Store_Do {D : CallF} (hD : CSound Try.prog 0 D) (k : Nat) : EntOk Try.prog 0 (e_ref07_Store_Do k D) :=
 entOf_ok2 (mkC_sound hD (EntsOk.more (ok_ref07_Store_find hD k) (EntsOk.more (ok_ref07_Store_put hD k) (EntsOk.more (ok_ref07_Store_Names hD k) (EntsOk.more (ok_ref07_Store_remove hD k) (EntsOk.none)))))) Try.func58 rfl q_ref07_Store_Do rfl (t_ref07_Store_Do k D)
end Gs
namespace Gs
open Go Gx Go.Proofs
set_option maxRecDepth 100000
noncomputable def C_ref07_Store_Get (k : Nat) (D : CallF) : CallF := mkC D [e_ref07_Store_find k D]
noncomputable def ref07_Store_Get (k : Nat) (D : CallF) (s_0 : Option Addr) (n_1 : ByteArray) (h : AHeap) : Option ((ByteArray × Bool) × AHeap) :=
 (ref07_Store_find k D s_0 n_1 h).bind fun r1 =>
 (if (!r1.1.2) = true then
 some (((⟨#[]⟩ : ByteArray), false), r1.2)
 else
 (s_0).bind fun p2 =>
 (ldL (⟨p2.block, p2.off + 4, none⟩ : Addr) r1.2).bind fun x3 =>
 (Gx.idxL 2 x3 r1.1.1).bind fun q4 =>
 (ldS (⟨q4.block, q4.off + 1, none⟩ : Addr) r1.2).bind fun x5 =>
 some ((x5, true), r1.2))
noncomputable def r_ref07_Store_Get : RCode := an (.n) (rOf Try.prog 0 Try.f19)
noncomputable def e_ref07_Store_Get (k : Nat) (D : CallF) : Ent := entOf 19 [(0, .p), (1, .s)] [(4, .s), (5, .b)] (ref07_Store_Get k D)
theorem q_ref07_Store_Get : (Try.f19.body).bind (rcodeOf Try.prog 0 Try.f19.ntmps) = some (strip r_ref07_Store_Get) := by kernel_rfl
theorem t_ref07_Store_Get (k : Nat) (D : CallF) : curF [(0, .p), (1, .s)] (fun args h => denF (C_ref07_Store_Get k D) k r_ref07_Store_Get [(4, .s), (5, .b)] [none, none] args h) = ref07_Store_Get k D := by kernel_rfl
theorem ok_ref07_Store_Get {D : CallF} (hD : CSound Try.prog 0 D) (k : Nat) : EntOk Try.prog 0 (e_ref07_Store_Get k D) :=
 entOf_ok2 (mkC_sound hD (EntsOk.more (ok_ref07_Store_find hD k) (EntsOk.none))) Try.func19 rfl q_ref07_Store_Get rfl (t_ref07_Store_Get k D)
end Gs
namespace Gs
open Go Gx Go.Proofs
set_option maxRecDepth 100000
noncomputable def C_ref07_Store_Fail (_k : Nat) (D : CallF) : CallF := mkC D []
noncomputable def ref07_Store_Fail (_k : Nat) (_D : CallF) (s_0 : Option Addr) (n_1 : Int) (h : AHeap) : Option ((Int) × AHeap) :=
 joinK (fun (s1 : Option Addr) (n2 : Int) (y3 : Bool) (h4 : AHeap) =>
 (if y3 = true then
 some (1, h4)
 else
 (s1).bind fun p6 =>
 (st1 (⟨p6.block, p6.off + 1, none⟩ : Addr) (.int .i64 n2) h4).bind fun h7 =>
 some (0, h7))) fun j5 =>
 (if (decide (n_1 < 0)) = true then
 j5 s_0 n_1 true h
 else
 j5 s_0 n_1 (decide (n_1 > 1048576)) h)
noncomputable def r_ref07_Store_Fail : RCode := an (.s .n (.s (.s (.j [(0, .p), (1, .i .i64), (10, .b)] .n) .n) .n)) (rOf Try.prog 0 Try.f61)
noncomputable def e_ref07_Store_Fail (k : Nat) (D : CallF) : Ent := entOf 61 [(0, .p), (1, .i .i64)] [(4, .i .i64)] (ref07_Store_Fail k D)
theorem q_ref07_Store_Fail : (Try.f61.body).bind (rcodeOf Try.prog 0 Try.f61.ntmps) = some (strip r_ref07_Store_Fail) := by kernel_rfl
theorem t_ref07_Store_Fail (k : Nat) (D : CallF) : curF [(0, .p), (1, .i .i64)] (fun args h => denF (C_ref07_Store_Fail k D) k r_ref07_Store_Fail [(4, .i .i64)] [none] args h) = ref07_Store_Fail k D := by kernel_rfl
theorem ok_ref07_Store_Fail {D : CallF} (hD : CSound Try.prog 0 D) (k : Nat) : EntOk Try.prog 0 (e_ref07_Store_Fail k D) :=
 entOf_ok2 (mkC_sound hD (EntsOk.none)) Try.func61 rfl q_ref07_Store_Fail rfl (t_ref07_Store_Fail k D)
end Gs
namespace Gs
open Go Gx Go.Proofs
set_option maxRecDepth 100000
noncomputable def C_ref07_Store_Set (k : Nat) (D : CallF) : CallF := mkC D [e_ref07_Name k D, e_ref07_Store_lay k D]
noncomputable def ref07_Store_Set (k : Nat) (D : CallF) (s_0 : Option Addr) (n_1 : ByteArray) (data_2 : ByteArray) (h : AHeap) : Option ((Int) × AHeap) :=
 (ref07_Name k D n_1 h).bind fun r1 =>
 (if (!r1.1) = true then
 some (3, r1.2)
 else
 (if (decide ((data_2.size : Int) > 131072)) = true then
 some (2, r1.2)
 else
 (ref07_Store_lay k D s_0 n_1 data_2 r1.2).bind fun r2 =>
 some (0, r2.2)))
noncomputable def r_ref07_Store_Set : RCode := an (.n) (rOf Try.prog 0 Try.f65)
noncomputable def e_ref07_Store_Set (k : Nat) (D : CallF) : Ent := entOf 65 [(0, .p), (1, .s), (2, .s)] [(6, .i .i64)] (ref07_Store_Set k D)
theorem q_ref07_Store_Set : (Try.f65.body).bind (rcodeOf Try.prog 0 Try.f65.ntmps) = some (strip r_ref07_Store_Set) := by kernel_rfl
theorem t_ref07_Store_Set (k : Nat) (D : CallF) : curF [(0, .p), (1, .s), (2, .s)] (fun args h => denF (C_ref07_Store_Set k D) k r_ref07_Store_Set [(6, .i .i64)] [none] args h) = ref07_Store_Set k D := by kernel_rfl
theorem ok_ref07_Store_Set {D : CallF} (hD : CSound Try.prog 0 D) (k : Nat) : EntOk Try.prog 0 (e_ref07_Store_Set k D) :=
 entOf_ok2 (mkC_sound hD (EntsOk.more (ok_ref07_Name hD k) (EntsOk.more (ok_ref07_Store_lay hD k) (EntsOk.none)))) Try.func65 rfl q_ref07_Store_Set rfl (t_ref07_Store_Set k D)
end Gs
namespace Gs
open Go Gx Go.Proofs
set_option maxRecDepth 100000
noncomputable def C_ref07_Store_Torn (k : Nat) (D : CallF) : CallF := mkC D [e_ref07_Store_lay k D, e_ref07_Name k D]
noncomputable def ref07_Store_Torn (k : Nat) (D : CallF) (s_0 : Option Addr) (r_1 : Int × Int × ByteArray × ByteArray) (keep_2 : Int) (h : AHeap) : Option ((Int) × AHeap) :=
 let h1 := AHeap.new h (.cells [.int .i64 r_1.1, .int .i64 r_1.2.1, .string r_1.2.2.1, .string r_1.2.2.2] 32 true 0)
 joinK (fun (s2 : Option Addr) (keep3 : Int) (r4 : Option Addr) (y5 : Bool) (h6 : AHeap) =>
 (if y5 = true then
 some (3, h6)
 else
 (r4).bind fun p8 =>
 (ldS (⟨p8.block, p8.off + 3, none⟩ : Addr) h6).bind fun x9 =>
 (if (decide ((x9.size : Int) > 131072)) = true then
 some (2, h6)
 else
 joinK (fun (h10 : AHeap) =>
 some (0, h10)) fun j11 =>
 (if (decide (keep3 ≥ 0)) = true then
 (r4).bind fun p12 =>
 (ldS (⟨p12.block, p12.off + 2, none⟩ : Addr) h6).bind fun x13 =>
 (r4).bind fun p14 =>
 (ldS (⟨p14.block, p14.off + 3, none⟩ : Addr) h6).bind fun x15 =>
 (r4).bind fun p16 =>
 (ldS (⟨p16.block, p16.off + 3, none⟩ : Addr) h6).bind fun x17 =>
 let t18 : Int := (if (x17.size : Int) < keep3 then (x17.size : Int) else keep3)
 (Gx.subS x15 none (some t18)).bind fun s19 =>
 (ref07_Store_lay k D s2 x13 s19 h6).bind fun r20 =>
 j11 r20.2
 else
 j11 h6)))) fun j7 =>
 (ldI .i64 (⟨h.next, 1, none⟩ : Addr) h1).bind fun x21 =>
 (if (x21 != 1) = true then
 j7 s_0 keep_2 (some (⟨h.next, 0, none⟩ : Addr)) true h1
 else
 (ldS (⟨h.next, 2, none⟩ : Addr) h1).bind fun x22 =>
 (ref07_Name k D x22 h1).bind fun r23 =>
 j7 s_0 keep_2 (some (⟨h.next, 0, none⟩ : Addr)) (!r23.1) r23.2)
noncomputable def r_ref07_Store_Torn : RCode := an (.s .n (.s (.s (.j [(0, .p), (2, .i .i64), (4, .p), (15, .b)] .n) .n) (.s .n (.s (.j [] .n) .n)))) (rOf Try.prog 0 Try.f67)
noncomputable def e_ref07_Store_Torn (k : Nat) (D : CallF) : Ent := entOf 67 [(0, .p), (1, .st [.i .i64, .i .i64, .s, .s]), (2, .i .i64)] [(6, .i .i64)] (ref07_Store_Torn k D)
theorem q_ref07_Store_Torn : (Try.f67.body).bind (rcodeOf Try.prog 0 Try.f67.ntmps) = some (strip r_ref07_Store_Torn) := by kernel_rfl
theorem t_ref07_Store_Torn (k : Nat) (D : CallF) : curF [(0, .p), (1, .st [.i .i64, .i .i64, .s, .s]), (2, .i .i64)] (fun args h => denF (C_ref07_Store_Torn k D) k r_ref07_Store_Torn [(6, .i .i64)] [none] args h) = ref07_Store_Torn k D := by kernel_rfl
theorem ok_ref07_Store_Torn {D : CallF} (hD : CSound Try.prog 0 D) (k : Nat) : EntOk Try.prog 0 (e_ref07_Store_Torn k D) :=
 entOf_ok2 (mkC_sound hD (EntsOk.more (ok_ref07_Store_lay hD k) (EntsOk.more (ok_ref07_Name hD k) (EntsOk.none)))) Try.func67 rfl q_ref07_Store_Torn rfl (t_ref07_Store_Torn k D)
end Gs
namespace Gs
open Go Gx Go.Proofs
set_option maxRecDepth 100000
noncomputable def C_book_Among (_k : Nat) (D : CallF) : CallF := mkC D []
noncomputable def book_Among (_k : Nat) (_D : CallF) (x_0 : Int) (n_1 : Int) (h : AHeap) : Option ((Int) × AHeap) :=
 (if n_1 = 0 then none else
 (if n_1 = 0 then none else
 let t1 : Int := (Int.tmod (IntKind.wrap .i64 ((Int.tmod x_0 n_1) + n_1)) n_1)
 some (t1, h)))
noncomputable def r_book_Among : RCode := an (.n) (rOf Try.prog 0 Try.f56)
noncomputable def e_book_Among (k : Nat) (D : CallF) : Ent := entOf 56 [(0, .i .i64), (1, .i .i64)] [(4, .i .i64)] (book_Among k D)
theorem q_book_Among : (Try.f56.body).bind (rcodeOf Try.prog 0 Try.f56.ntmps) = some (strip r_book_Among) := by kernel_rfl
theorem t_book_Among (k : Nat) (D : CallF) : curF [(0, .i .i64), (1, .i .i64)] (fun args h => denF (C_book_Among k D) k r_book_Among [(4, .i .i64)] [none] args h) = book_Among k D := by kernel_rfl
theorem ok_book_Among {D : CallF} (hD : CSound Try.prog 0 D) (k : Nat) : EntOk Try.prog 0 (e_book_Among k D) :=
 entOf_ok2 (mkC_sound hD (EntsOk.none)) Try.func56 rfl q_book_Among rfl (t_book_Among k D)
end Gs
namespace Gs
open Go Gx Go.Proofs
set_option maxRecDepth 100000
noncomputable def C_law07_sameResp (k : Nat) (D : CallF) : CallF := mkC D [e_book_SameTexts k D]
noncomputable def law07_sameResp (k : Nat) (D : CallF) (a_0 : Int × ByteArray × Slc) (b_1 : Int × ByteArray × Slc) (h : AHeap) : Option ((Bool) × AHeap) :=
 let h1 := AHeap.new h (.cells [.int .i64 a_0.1, .string a_0.2.1, .slice a_0.2.2.a a_0.2.2.len a_0.2.2.cap] 29 true 0)
 let h2 := AHeap.new h1 (.cells [.int .i64 b_1.1, .string b_1.2.1, .slice b_1.2.2.a b_1.2.2.len b_1.2.2.cap] 29 true 0)
 (ldI .i64 (⟨h.next, 0, none⟩ : Addr) h2).bind fun x3 =>
 (ldI .i64 (⟨h1.next, 0, none⟩ : Addr) h2).bind fun x4 =>
 (if (x3 == x4) = true then
 (ldS (⟨h.next, 1, none⟩ : Addr) h2).bind fun x5 =>
 (ldS (⟨h1.next, 1, none⟩ : Addr) h2).bind fun x6 =>
 (if (x5 == x6) = true then
 (ldL (⟨h.next, 2, none⟩ : Addr) h2).bind fun x7 =>
 (ldL (⟨h1.next, 2, none⟩ : Addr) h2).bind fun x8 =>
 (book_SameTexts k D x7 x8 h2).bind fun r9 =>
 some (r9.1, r9.2)
 else
 some (false, h2))
 else
 some (false, h2))
noncomputable def r_law07_sameResp : RCode := an (.n) (rOf Try.prog 0 Try.f57)
noncomputable def e_law07_sameResp (k : Nat) (D : CallF) : Ent := entOf 57 [(0, .st [.i .i64, .s, .l]), (1, .st [.i .i64, .s, .l])] [(4, .b)] (law07_sameResp k D)
theorem q_law07_sameResp : (Try.f57.body).bind (rcodeOf Try.prog 0 Try.f57.ntmps) = some (strip r_law07_sameResp) := by kernel_rfl
theorem t_law07_sameResp (k : Nat) (D : CallF) : curF [(0, .st [.i .i64, .s, .l]), (1, .st [.i .i64, .s, .l])] (fun args h => denF (C_law07_sameResp k D) k r_law07_sameResp [(4, .b)] [none] args h) = law07_sameResp k D := by kernel_rfl
theorem ok_law07_sameResp {D : CallF} (hD : CSound Try.prog 0 D) (k : Nat) : EntOk Try.prog 0 (e_law07_sameResp k D) :=
 entOf_ok2 (mkC_sound hD (EntsOk.more (ok_book_SameTexts hD k) (EntsOk.none))) Try.func57 rfl q_law07_sameResp rfl (t_law07_sameResp k D)
end Gs
namespace Gs
open Go Gx Go.Proofs
set_option maxRecDepth 100000
noncomputable def C_book_SpoilTexts (_k : Nat) (D : CallF) : CallF := mkC D []
noncomputable def book_SpoilTexts_l0b (_k : Nat) (_D : CallF)  (rec4 : Slc → Int → AHeap → Option ((Unit) × AHeap)) (l1 : Slc) (i2 : Int) (h3 : AHeap) : Option ((Unit) × AHeap) :=
 (if (decide (i2 < (l1.len : Int))) = true then
 (Gx.idxL 1 l1 i2).bind fun q5 =>
 (st1 q5 (.string (⟨#[115, 112, 111, 105, 108, 116]⟩ : ByteArray)) h3).bind fun h6 =>
 rec4 l1 (IntKind.wrap .i64 (i2 + 1)) h6
 else
 some ((), h3))
noncomputable def book_SpoilTexts_l0 (k : Nat) (D : CallF)  : Slc → Int → AHeap → Option ((Unit) × AHeap) :=
 iterK (α := Slc → Int → AHeap → Option ((Unit) × AHeap)) (fun _ _ _ => none) k (book_SpoilTexts_l0b k D )
noncomputable def book_SpoilTexts (k : Nat) (D : CallF) (l_0 : Slc) (h : AHeap) : Option ((Unit) × AHeap) :=
 book_SpoilTexts_l0 k D l_0 0 h
noncomputable def r_book_SpoilTexts : RCode := an (.s .n (.b (.l [(0, .l), (2, .i .i64)] .n))) (rOf Try.prog 0 Try.f59)
noncomputable def e_book_SpoilTexts (k : Nat) (D : CallF) : Ent := entOf 59 [(0, .l)] [] (book_SpoilTexts k D)
theorem q_book_SpoilTexts : (Try.f59.body).bind (rcodeOf Try.prog 0 Try.f59.ntmps) = some (strip r_book_SpoilTexts) := by kernel_rfl
theorem t_book_SpoilTexts (k : Nat) (D : CallF) : curF [(0, .l)] (fun args h => denF (C_book_SpoilTexts k D) k r_book_SpoilTexts [] [] args h) = book_SpoilTexts k D := by kernel_rfl
theorem ok_book_SpoilTexts {D : CallF} (hD : CSound Try.prog 0 D) (k : Nat) : EntOk Try.prog 0 (e_book_SpoilTexts k D) :=
 entOf_ok2 (mkC_sound hD (EntsOk.none)) Try.func59 rfl q_book_SpoilTexts rfl (t_book_SpoilTexts k D)
end Gs
namespace Gs
open Go Gx Go.Proofs
set_option maxRecDepth 100000
noncomputable def C_law07_step (k : Nat) (D : CallF) : CallF := mkC D [e_book_Among k D, e_store_Store_Do k D, e_ref07_Store_Do k D, e_law07_sameResp k D, e_book_SpoilTexts k D, e_store_Store_Fail k D, e_ref07_Store_Fail k D, e_store_Store_Down k D, e_store_Store_Wipe k D, e_store_Store_Set k D, e_ref07_Store_Set k D, e_store_Store_Torn k D, e_ref07_Store_Torn k D, e_store_Store_Fork k D]
noncomputable def law07_step (k : Nat) (D : CallF) (s_0 : Option Addr) (r_1 : Option Addr) (a_2 : Int × Int × Int × Int × ByteArray × ByteArray) (h : AHeap) : Option ((Bool) × AHeap) :=
 let h1 := AHeap.new h (.cells [.int .i64 a_2.1, .int .i64 a_2.2.1, .int .i64 a_2.2.2.1, .int .i64 a_2.2.2.2.1, .string a_2.2.2.2.2.1, .string a_2.2.2.2.2.2] 43 true 0)
 (ldI .i64 (⟨h.next, 0, none⟩ : Addr) h1).bind fun x2 =>
 (book_Among k D x2 7 h1).bind fun r3 =>
 (if (r3.1 == 0) = true then
 (ldA 4 (⟨h.next, 2, none⟩ : Addr) r3.2).bind fun l4 =>
 (decC [.i .i64, .i .i64, .s, .s] l4).bind fun x5 =>
 (store_Store_Do k D s_0 (x5.1, x5.2.1, x5.2.2.1, x5.2.2.2) r3.2).bind fun r6 =>
 let h7 := AHeap.new r6.2 (.cells [.int .i64 0, .string ⟨#[]⟩, .slice none 0 0] 29 true 0)
 (stL 3 (⟨r6.2.next, 0, none⟩ : Addr) ([.int .i64 r6.1.1, .string r6.1.2.1, .slice r6.1.2.2.a r6.1.2.2.len r6.1.2.2.cap]) h7).bind fun h8 =>
 (ldA 4 (⟨h.next, 2, none⟩ : Addr) h8).bind fun l9 =>
 (decC [.i .i64, .i .i64, .s, .s] l9).bind fun x10 =>
 (ref07_Store_Do k D r_1 (x10.1, x10.2.1, x10.2.2.1, x10.2.2.2) h8).bind fun r11 =>
 (ldA 3 (⟨r6.2.next, 0, none⟩ : Addr) r11.2).bind fun l12 =>
 guardP (SameW [h8] (fun H14 => (ldA 3 (⟨r6.2.next, 0, none⟩ : Addr) H14).bind fun y13 => some (.agg ⟨y13⟩)) (.agg ⟨l12⟩)) (
 (decC [.i .i64, .s, .l] l12).bind fun x15 =>
 (law07_sameResp k D (x15.1, x15.2.1, x15.2.2) (r11.1.1, r11.1.2.1, r11.1.2.2) r11.2).bind fun r16 =>
 (ldL (⟨r6.2.next, 2, none⟩ : Addr) r16.2).bind fun x17 =>
 (book_SpoilTexts k D x17 r16.2).bind fun r18 =>
 some (r16.1, r18.2))
 else
 (if (r3.1 == 1) = true then
 (ldI .i64 (⟨h.next, 1, none⟩ : Addr) r3.2).bind fun x19 =>
 (store_Store_Fail k D s_0 x19 r3.2).bind fun r20 =>
 (ldI .i64 (⟨h.next, 1, none⟩ : Addr) r20.2).bind fun x21 =>
 guardP (SameW [r3.2] (fun H23 => (ldI .i64 (⟨h.next, 1, none⟩ : Addr) H23).bind fun y22 => some (.int .i64 y22)) (.int .i64 x21)) (
 (ref07_Store_Fail k D r_1 x21 r20.2).bind fun r24 =>
 some ((r20.1 == r24.1), r24.2))
 else
 (if (r3.1 == 2) = true then
 (ldI .i64 (⟨h.next, 1, none⟩ : Addr) r3.2).bind fun x25 =>
 (store_Store_Down k D s_0 ((Int.tmod x25 2) != 0) r3.2).bind fun r26 =>
 (ldI .i64 (⟨h.next, 1, none⟩ : Addr) r26.2).bind fun x27 =>
 (r_1).bind fun p28 =>
 (st1 (⟨p28.block, p28.off + 3, none⟩ : Addr) (.bool ((Int.tmod x27 2) != 0)) r26.2).bind fun h29 =>
 some (true, h29)
 else
 (if (r3.1 == 3) = true then
 (store_Store_Wipe k D s_0 r3.2).bind fun r30 =>
 (r_1).bind fun p31 =>
 (st1 (⟨p31.block, p31.off + 4, none⟩ : Addr) (.slice none 0 0) r30.2).bind fun h32 =>
 some (true, h32)
 else
 (if (r3.1 == 4) = true then
 (ldS (⟨h.next, 4, none⟩ : Addr) r3.2).bind fun x33 =>
 (ldS (⟨h.next, 5, none⟩ : Addr) r3.2).bind fun x34 =>
 (store_Store_Set k D s_0 x33 x34 r3.2).bind fun r35 =>
 (ldS (⟨h.next, 4, none⟩ : Addr) r35.2).bind fun x36 =>
 guardP (SameW [r3.2] (fun H38 => (ldS (⟨h.next, 4, none⟩ : Addr) H38).bind fun y37 => some (.string y37)) (.string x36)) (
 (ldS (⟨h.next, 5, none⟩ : Addr) r35.2).bind fun x39 =>
 guardP (SameW [r3.2] (fun H41 => (ldS (⟨h.next, 5, none⟩ : Addr) H41).bind fun y40 => some (.string y40)) (.string x39)) (
 (ref07_Store_Set k D r_1 x36 x39 r35.2).bind fun r42 =>
 some ((r35.1 == r42.1), r42.2)))
 else
 (if (r3.1 == 5) = true then
 (ldA 4 (⟨h.next, 2, none⟩ : Addr) r3.2).bind fun l43 =>
 (decC [.i .i64, .i .i64, .s, .s] l43).bind fun x44 =>
 (ldI .i64 (⟨h.next, 1, none⟩ : Addr) r3.2).bind fun x45 =>
 (store_Store_Torn k D s_0 (x44.1, x44.2.1, x44.2.2.1, x44.2.2.2) x45 r3.2).bind fun r46 =>
 (ldA 4 (⟨h.next, 2, none⟩ : Addr) r46.2).bind fun l47 =>
 guardP (SameW [r3.2] (fun H49 => (ldA 4 (⟨h.next, 2, none⟩ : Addr) H49).bind fun y48 => some (.agg ⟨y48⟩)) (.agg ⟨l47⟩)) (
 (decC [.i .i64, .i .i64, .s, .s] l47).bind fun x50 =>
 (ldI .i64 (⟨h.next, 1, none⟩ : Addr) r46.2).bind fun x51 =>
 guardP (SameW [r3.2] (fun H53 => (ldI .i64 (⟨h.next, 1, none⟩ : Addr) H53).bind fun y52 => some (.int .i64 y52)) (.int .i64 x51)) (
 (ref07_Store_Torn k D r_1 (x50.1, x50.2.1, x50.2.2.1, x50.2.2.2) x51 r46.2).bind fun r54 =>
 some ((r46.1 == r54.1), r54.2)))
 else
 (store_Store_Fork k D s_0 r3.2).bind fun r55 =>
 (if r55.1.isNone = true then
 some (false, r55.2)
 else
 (store_Store_Wipe k D r55.1 r55.2).bind fun r56 =>
 (store_Store_Fail k D r55.1 3 r56.2).bind fun r57 =>
 (store_Store_Set k D r55.1 (⟨#[111, 119, 110]⟩ : ByteArray) (⟨#[120]⟩ : ByteArray) r57.2).bind fun r58 =>
 (store_Store_Do k D r55.1 (0, 3, (⟨#[]⟩ : ByteArray), (⟨#[]⟩ : ByteArray)) r58.2).bind fun r59 =>
 some (true, r59.2))))))))
noncomputable def r_law07_step : RCode := an (.s .n (.s (.s .n (.b (.s .n (.s (.s (.r [(2, .st [.i .i64, .i .i64, .s, .s])]) (.s (.r [(2, .st [.i .i64, .i .i64, .s, .s]), (4, .st [.i .i64, .s, .l])]) .n)) (.s .n (.s .n (.s .n (.s .n (.s .n (.s .n (.s .n (.s .n (.s .n (.s (.s (.r [(2, .st [.i .i64, .i .i64, .s, .s]), (8, .st [.i .i64, .i .i64, .s, .s])]) .n) .n)))))))))))))) .n)) (rOf Try.prog 0 Try.f18)
noncomputable def e_law07_step (k : Nat) (D : CallF) : Ent := entOf 18 [(0, .p), (1, .p), (2, .st [.i .i64, .i .i64, .i .i64, .i .i64, .s, .s])] [(6, .b)] (law07_step k D)
theorem q_law07_step : (Try.f18.body).bind (rcodeOf Try.prog 0 Try.f18.ntmps) = some (strip r_law07_step) := by kernel_rfl
theorem t_law07_step (k : Nat) (D : CallF) : curF [(0, .p), (1, .p), (2, .st [.i .i64, .i .i64, .i .i64, .i .i64, .s, .s])] (fun args h => denF (C_law07_step k D) k r_law07_step [(6, .b)] [none] args h) = law07_step k D := by kernel_rfl
theorem ok_law07_step {D : CallF} (hD : CSound Try.prog 0 D) (k : Nat) : EntOk Try.prog 0 (e_law07_step k D) :=
 entOf_ok2 (mkC_sound hD (EntsOk.more (ok_book_Among hD k) (EntsOk.more (ok_store_Store_Do hD k) (EntsOk.more (ok_ref07_Store_Do hD k) (EntsOk.more (ok_law07_sameResp hD k) (EntsOk.more (ok_book_SpoilTexts hD k) (EntsOk.more (ok_store_Store_Fail hD k) (EntsOk.more (ok_ref07_Store_Fail hD k) (EntsOk.more (ok_store_Store_Down hD k) (EntsOk.more (ok_store_Store_Wipe hD k) (EntsOk.more (ok_store_Store_Set hD k) (EntsOk.more (ok_ref07_Store_Set hD k) (EntsOk.more (ok_store_Store_Torn hD k) (EntsOk.more (ok_ref07_Store_Torn hD k) (EntsOk.more (ok_store_Store_Fork hD k) (EntsOk.none)))))))))))))))) Try.func18 rfl q_law07_step rfl (t_law07_step k D)
end Gs
namespace Gs
open Go Gx Go.Proofs
set_option maxRecDepth 100000
noncomputable def C_law07_StorePlays (k : Nat) (D : CallF) : CallF := mkC D [e_store_New k D, e_ref07_New k D, e_law07_step k D, e_store_Store_Get k D, e_ref07_Store_Get k D, e_store_Store_Used k D, e_ref07_Store_Used k D, e_store_Store_Calls k D, e_store_Store_Names k D, e_ref07_Store_Names k D, e_book_SameTexts k D, e_law07_works k D]
noncomputable def law07_StorePlays_l0b (k : Nat) (D : CallF) (j10 : AHeap → Option ((Bool) × AHeap)) (rec16 : Slc → (Option Addr) → (Option Addr) → Int → AHeap → Option ((Bool) × AHeap)) (acts11 : Slc) (s12 : Option Addr) (r13 : Option Addr) (i14 : Int) (h15 : AHeap) : Option ((Bool) × AHeap) :=
 joinK (fun (acts17 : Slc) (s18 : Option Addr) (r19 : Option Addr) (i20 : Int) (y21 : Bool) (h22 : AHeap) =>
 (if y21 = true then
 joinK (fun (acts24 : Slc) (s25 : Option Addr) (r26 : Option Addr) (i27 : Int) (h28 : AHeap) =>
 rec16 acts24 s25 r26 (IntKind.wrap .i64 (i27 + 1)) h28) fun j29 =>
 joinK (fun (acts30 : Slc) (s31 : Option Addr) (r32 : Option Addr) (i33 : Int) (y34 : Bool) (h35 : AHeap) =>
 (if y34 = true then
 j29 acts30 s31 r32 i33 h35
 else
 (Gx.idxL 6 acts30 i33).bind fun q37 =>
 (ldA 6 q37 h35).bind fun l38 =>
 (decC [.i .i64, .i .i64, .i .i64, .i .i64, .s, .s] l38).bind fun x39 =>
 (law07_step k D s31 r32 (x39.1, x39.2.1, x39.2.2.1, x39.2.2.2.1, x39.2.2.2.2.1, x39.2.2.2.2.2) h35).bind fun r40 =>
 (if (!r40.1) = true then
 some (false, r40.2)
 else
 (Gx.idxL 6 acts30 i33).bind fun q41 =>
 (ldS (⟨q41.block, q41.off + 2 + 2, none⟩ : Addr) r40.2).bind fun x42 =>
 (store_Store_Get k D s31 x42 r40.2).bind fun r43 =>
 (Gx.idxL 6 acts30 i33).bind fun q44 =>
 (ldS (⟨q44.block, q44.off + 2 + 2, none⟩ : Addr) r43.2).bind fun x45 =>
 (ref07_Store_Get k D r32 x45 r43.2).bind fun r46 =>
 joinK (fun (acts47 : Slc) (s48 : Option Addr) (r49 : Option Addr) (i50 : Int) (y51 : Bool) (h52 : AHeap) =>
 (if y51 = true then
 some (false, h52)
 else
 j29 acts47 s48 r49 i50 h52)) fun j53 =>
 (if (!(r43.1.1 == r46.1.1)) = true then
 j53 acts30 s31 r32 i33 true r46.2
 else
 (if (!(r43.1.2 == r46.1.2)) = true then
 j53 acts30 s31 r32 i33 true r46.2
 else
 (store_Store_Used k D s31 r46.2).bind fun r54 =>
 (ref07_Store_Used k D r32 r54.2).bind fun r55 =>
 (if (r54.1 != r55.1) = true then
 j53 acts30 s31 r32 i33 true r55.2
 else
 (store_Store_Calls k D s31 r55.2).bind fun r56 =>
 (r32).bind fun p57 =>
 (ldI .i64 (⟨p57.block, p57.off + 2, none⟩ : Addr) r56.2).bind fun x58 =>
 guardP (SameW [r55.2] (fun H60 => (ldI .i64 (⟨p57.block, p57.off + 2, none⟩ : Addr) H60).bind fun y59 => some (.int .i64 y59)) (.int .i64 x58)) (
 (if (r56.1 != x58) = true then
 j53 acts30 s31 r32 i33 true r56.2
 else
 (store_Store_Names k D s31 r56.2).bind fun r61 =>
 (ref07_Store_Names k D r32 (⟨#[]⟩ : ByteArray) r61.2).bind fun r62 =>
 (book_SameTexts k D r61.1 r62.1 r62.2).bind fun r63 =>
 j53 acts30 s31 r32 i33 (!r63.1) r63.2)))))))) fun j36 =>
 (Gx.idxL 6 acts17 i20).bind fun q64 =>
 (ldS (⟨q64.block, q64.off + 2 + 3, none⟩ : Addr) h22).bind fun x65 =>
 (if (decide ((x65.size : Int) > 1000)) = true then
 (Gx.idxL 6 acts17 i20).bind fun q66 =>
 (ldS (⟨q66.block, q66.off + 2 + 3, none⟩ : Addr) h22).bind fun x67 =>
 j36 acts17 s18 r19 i20 (decide ((x67.size : Int) ≤ 131072)) h22
 else
 j36 acts17 s18 r19 i20 false h22)
 else
 j10 h22)) fun j23 =>
 (if (!r13.isNone) = true then
 (if (decide (i14 < (acts11.len : Int))) = true then
 j23 acts11 s12 r13 i14 (decide (i14 < 80)) h15
 else
 j23 acts11 s12 r13 i14 false h15)
 else
 j23 acts11 s12 r13 i14 false h15)
noncomputable def law07_StorePlays_l0 (k : Nat) (D : CallF) (j10 : AHeap → Option ((Bool) × AHeap)) : Slc → (Option Addr) → (Option Addr) → Int → AHeap → Option ((Bool) × AHeap) :=
 iterK (α := Slc → (Option Addr) → (Option Addr) → Int → AHeap → Option ((Bool) × AHeap)) (fun _ _ _ _ _ => none) k (law07_StorePlays_l0b k D j10)
noncomputable def law07_StorePlays (k : Nat) (D : CallF) (quota_0 : Int) (acts_1 : Slc) (h : AHeap) : Option ((Bool) × AHeap) :=
 (store_New k D quota_0 h).bind fun r1 =>
 (ref07_New k D quota_0 r1.2).bind fun r2 =>
 joinK (fun (acts3 : Slc) (s4 : Option Addr) (r5 : Option Addr) (y6 : Bool) (h7 : AHeap) =>
 (if y6 = true then
 some (false, h7)
 else
 joinK (fun (h9 : AHeap) =>
 some (true, h9)) fun j10 =>
 law07_StorePlays_l0 k D j10 acts3 s4 r5 0 h7)) fun j8 =>
 (if (r1.1.2 != r2.1.2) = true then
 j8 acts_1 r1.1.1 r2.1.1 true r2.2
 else
 (if (!(r1.1.1.isNone == r2.1.1.isNone)) = true then
 j8 acts_1 r1.1.1 r2.1.1 true r2.2
 else
 (law07_works k D r2.2).bind fun r68 =>
 j8 acts_1 r1.1.1 r2.1.1 (!r68.1) r68.2))
noncomputable def r_law07_StorePlays : RCode := an (.s .n (.s .n (.s .n (.s .n (.s (.s (.j [(1, .l), (5, .p), (7, .p), (42, .b)] .n) .n) (.s (.j [] (.s .n (.b (.l [(1, .l), (5, .p), (7, .p), (10, .i .i64)] (.s (.s (.j [(1, .l), (5, .p), (7, .p), (10, .i .i64), (54, .b)] .n) .n) (.s (.j [(1, .l), (5, .p), (7, .p), (10, .i .i64)] (.b (.s (.s (.j [(1, .l), (5, .p), (7, .p), (10, .i .i64), (74, .b)] .n) .n) (.s (.s (.r [(5, .st [.i .i64, .i .i64, .i .i64, .i .i64, .s, .s])]) .n) (.s .n (.s .n (.s (.j [(1, .l), (5, .p), (7, .p), (10, .i .i64), (136, .b)] .n) .n))))))) .n)))))) .n)))))) (rOf Try.prog 0 Try.f4)
noncomputable def e_law07_StorePlays (k : Nat) (D : CallF) : Ent := entOf 4 [(0, .i .i64), (1, .l)] [(4, .b)] (law07_StorePlays k D)
theorem q_law07_StorePlays : (Try.f4.body).bind (rcodeOf Try.prog 0 Try.f4.ntmps) = some (strip r_law07_StorePlays) := by kernel_rfl
theorem t_law07_StorePlays (k : Nat) (D : CallF) : curF [(0, .i .i64), (1, .l)] (fun args h => denF (C_law07_StorePlays k D) k r_law07_StorePlays [(4, .b)] [none] args h) = law07_StorePlays k D := by kernel_rfl
theorem ok_law07_StorePlays {D : CallF} (hD : CSound Try.prog 0 D) (k : Nat) : EntOk Try.prog 0 (e_law07_StorePlays k D) :=
 entOf_ok2 (mkC_sound hD (EntsOk.more (ok_store_New hD k) (EntsOk.more (ok_ref07_New hD k) (EntsOk.more (ok_law07_step hD k) (EntsOk.more (ok_store_Store_Get hD k) (EntsOk.more (ok_ref07_Store_Get hD k) (EntsOk.more (ok_store_Store_Used hD k) (EntsOk.more (ok_ref07_Store_Used hD k) (EntsOk.more (ok_store_Store_Calls hD k) (EntsOk.more (ok_store_Store_Names hD k) (EntsOk.more (ok_ref07_Store_Names hD k) (EntsOk.more (ok_book_SameTexts hD k) (EntsOk.more (ok_law07_works hD k) (EntsOk.none)))))))))))))) Try.func4 rfl q_law07_StorePlays rfl (t_law07_StorePlays k D)
end Gs
