import Derived.Test.YtkmfdiabghpejaaDoorProg
import Derived.Shelf.SlIter.Nil
import Derived.Shelf.SortM.Plain
import Derived.Shelf.SortM.SortNone
import Derived.KernelRfl
import Derived.Shelf.Strconv.Itoa3
import Derived.Test.YtkmfdiabghpejaaDoorGx3
namespace Gk
open Go Gx Go.Proofs
set_option maxRecDepth 100000
noncomputable def C_book_Among (_k : Nat) (D : CallF) : CallF := mkC D []
noncomputable def book_Among (_k : Nat) (_D : CallF) (x_0 : Int) (n_1 : Int) (h : AHeap) : Option ((Int) × AHeap) :=
 (if n_1 = 0 then none else
 (if n_1 = 0 then none else
 let t1 : Int := (Int.tmod (IntKind.wrap .i64 ((Int.tmod x_0 n_1) + n_1)) n_1)
 some (t1, h)))
noncomputable def r_book_Among : RCode := an (.n) (rOf Tryd.prog 0 Tryd.f5)
noncomputable def e_book_Among (k : Nat) (D : CallF) : Ent := entOf 5 [(0, .i .i64), (1, .i .i64)] [(4, .i .i64)] (book_Among k D)
theorem q_book_Among : (Tryd.f5.body).bind (rcodeOf Tryd.prog 0 Tryd.f5.ntmps) = some (strip r_book_Among) := by kernel_rfl
theorem t_book_Among (k : Nat) (D : CallF) : curF [(0, .i .i64), (1, .i .i64)] (fun args h => denF (C_book_Among k D) k r_book_Among [(4, .i .i64)] [none] args h) = book_Among k D := by kernel_rfl
theorem ok_book_Among {D : CallF} (hD : CSound Tryd.prog 0 D) (k : Nat) : EntOk Tryd.prog 0 (e_book_Among k D) :=
 entOf_ok2 (mkC_sound hD (EntsOk.none)) Tryd.func5 rfl q_book_Among rfl (t_book_Among k D)
end Gk
namespace Gk
open Go Gx Go.Proofs
set_option maxRecDepth 100000
noncomputable def C_store_New (_k : Nat) (D : CallF) : CallF := mkC D []
noncomputable def store_New (_k : Nat) (_D : CallF) (quota_0 : Int) (h : AHeap) : Option (((Option Addr) × Int) × AHeap) :=
 joinK (fun (quota1 : Int) (y2 : Bool) (h3 : AHeap) =>
 (if y2 = true then
 some ((none, 1), h3)
 else
 let h5 := AHeap.new h3 (.map [] 0)
 let h6 := AHeap.new h5 (.cells [.int .i64 quota1, .int .i64 0, .int .i64 0, .bool false, .map (some h3.next), .int .i64 0] 59 true 0)
 some (((some (⟨h5.next, 0, none⟩ : Addr)), 0), h6))) fun j4 =>
 (if (decide (quota_0 < 0)) = true then
 j4 quota_0 true h
 else
 j4 quota_0 (decide (quota_0 > 1073741824)) h)
noncomputable def r_store_New : RCode := an (.s .n (.s (.s (.j [(0, .i .i64), (9, .b)] .n) .n) .n)) (rOf Tryd.prog 0 Tryd.f6)
noncomputable def e_store_New (k : Nat) (D : CallF) : Ent := entOf 6 [(0, .i .i64)] [(2, .p), (3, .i .i64)] (store_New k D)
theorem q_store_New : (Tryd.f6.body).bind (rcodeOf Tryd.prog 0 Tryd.f6.ntmps) = some (strip r_store_New) := by kernel_rfl
theorem t_store_New (k : Nat) (D : CallF) : curF [(0, .i .i64)] (fun args h => denF (C_store_New k D) k r_store_New [(2, .p), (3, .i .i64)] [none, none] args h) = store_New k D := by kernel_rfl
theorem ok_store_New {D : CallF} (hD : CSound Tryd.prog 0 D) (k : Nat) : EntOk Tryd.prog 0 (e_store_New k D) :=
 entOf_ok2 (mkC_sound hD (EntsOk.none)) Tryd.func6 rfl q_store_New rfl (t_store_New k D)
end Gk
namespace Gk
open Go Gx Go.Proofs
set_option maxRecDepth 100000
noncomputable def C_store_Store_Used (_k : Nat) (D : CallF) : CallF := mkC D []
noncomputable def store_Store_Used (_k : Nat) (_D : CallF) (s_0 : Option Addr) (h : AHeap) : Option ((Int) × AHeap) :=
 (s_0).bind fun p1 =>
 (ldI .i64 (⟨p1.block, p1.off + 1, none⟩ : Addr) h).bind fun x2 =>
 some (x2, h)
noncomputable def r_store_Store_Used : RCode := an (.n) (rOf Tryd.prog 0 Tryd.f11)
noncomputable def e_store_Store_Used (k : Nat) (D : CallF) : Ent := entOf 11 [(0, .p)] [(2, .i .i64)] (store_Store_Used k D)
theorem q_store_Store_Used : (Tryd.f11.body).bind (rcodeOf Tryd.prog 0 Tryd.f11.ntmps) = some (strip r_store_Store_Used) := by kernel_rfl
theorem t_store_Store_Used (k : Nat) (D : CallF) : curF [(0, .p)] (fun args h => denF (C_store_Store_Used k D) k r_store_Store_Used [(2, .i .i64)] [none] args h) = store_Store_Used k D := by kernel_rfl
theorem ok_store_Store_Used {D : CallF} (hD : CSound Tryd.prog 0 D) (k : Nat) : EntOk Tryd.prog 0 (e_store_Store_Used k D) :=
 entOf_ok2 (mkC_sound hD (EntsOk.none)) Tryd.func11 rfl q_store_Store_Used rfl (t_store_Store_Used k D)
end Gk
namespace Gk
open Go Gx Go.Proofs
set_option maxRecDepth 100000
noncomputable def C_maps_Keys_map_string_string_string_string (_k : Nat) (D : CallF) : CallF := mkC D []
noncomputable def maps_Keys_map_string_string_string_string (_k : Nat) (_D : CallF) (m_0 : Option Nat) (h : AHeap) : Option ((Value) × AHeap) :=
 let h1 := AHeap.new h (.cells [.map m_0] 29 true 0)
 some ((.func (.func 38) ⟨[]⟩ ⟨[.pointer (some (⟨h.next, 0, none⟩ : Addr))]⟩), h1)
noncomputable def r_maps_Keys_map_string_string_string_string : RCode := an (.n) (rOf Tryd.prog 0 Tryd.f24)
noncomputable def e_maps_Keys_map_string_string_string_string (k : Nat) (D : CallF) : Ent := entOf 24 [(0, .m)] [(2, .v)] (maps_Keys_map_string_string_string_string k D)
theorem q_maps_Keys_map_string_string_string_string : (Tryd.f24.body).bind (rcodeOf Tryd.prog 0 Tryd.f24.ntmps) = some (strip r_maps_Keys_map_string_string_string_string) := by kernel_rfl
theorem t_maps_Keys_map_string_string_string_string (k : Nat) (D : CallF) : curF [(0, .m)] (fun args h => denF (C_maps_Keys_map_string_string_string_string k D) k r_maps_Keys_map_string_string_string_string [(2, .v)] [none] args h) = maps_Keys_map_string_string_string_string k D := by kernel_rfl
theorem ok_maps_Keys_map_string_string_string_string {D : CallF} (hD : CSound Tryd.prog 0 D) (k : Nat) : EntOk Tryd.prog 0 (e_maps_Keys_map_string_string_string_string k D) :=
 entOf_ok2 (mkC_sound hD (EntsOk.none)) Tryd.func24 rfl q_maps_Keys_map_string_string_string_string rfl (t_maps_Keys_map_string_string_string_string k D)
end Gk
namespace Go.Proofs
open Go.Shelf Go.RowKit Go.Maps Go.Sort
def Tryd.keysA_ren : Go.Shelf.Ren := ⟨fun | 7 => 24 | 10 => 38 | n => n, fun | 23 => 29 | 26 => 9 | 3 => 9 | 28 => 66 | 0 => 0 | 27 => 65 | 33 => 75 | 4 => 4 | n => n, fun | n => n⟩
theorem Tryd.keysA : Go.Proofs.SlLaysZ.n7 Tryd.prog Tryd.keysA_ren := {
 mixed := by kernel_rfl
 f7 := ⟨Tryd.f24.name, by decide, Tryd.func24.trans (congrArg some (by kernel_rfl))⟩
 f10 := ⟨Tryd.f38.name, by decide, Tryd.func38.trans (congrArg some (by kernel_rfl))⟩
 t0 := Tryd.underlying0
 a0 := Tryd.isAgg0
 z0 := Tryd.sizeOf0
 v0 := Tryd.zeroValue0
 t4 := Tryd.underlying4
 a4 := Tryd.isAgg4
 z4 := Tryd.sizeOf4
 v4 := Tryd.zeroValue4
 t23 := Tryd.underlying29
 a23 := Tryd.isAgg29
 z23 := Tryd.sizeOf29
 v23 := Tryd.zeroValue29
 t26 := Tryd.underlying9
 a26 := Tryd.isAgg9
 z26 := Tryd.sizeOf9
 v26 := Tryd.zeroValue9
 t27 := Tryd.underlying65
 a27 := Tryd.isAgg65
 z27 := Tryd.sizeOf65
 v27 := Tryd.zeroValue65
 t28 := Tryd.underlying66
 a28 := Tryd.isAgg66
 z28 := Tryd.sizeOf66
 v28 := Tryd.zeroValue66
 t33 := Tryd.underlying75
 a33 := Tryd.isAgg75
 z33 := Tryd.sizeOf75
 v33 := Tryd.zeroValue75 }
def Tryd.sortedA_ren : Go.Shelf.Ren := ⟨fun | 6 => 23 | 8 => 36 | 9 => 37 | 11 => 50 | 13 => 52 | 12 => 51 | 23 => 72 | 24 => 59 | 14 => 63 | 15 => 64 | 16 => 65 | 17 => 66 | 18 => 67 | 19 => 68 | 20 => 69 | 21 => 70 | 22 => 71 | 25 => 78 | 26 => 79 | 27 => 80 | 28 => 81 | 29 => 82 | 30 => 83 | 31 => 86 | n => n, fun | 26 => 9 | 28 => 66 | 24 => 35 | 0 => 0 | 3 => 3 | 37 => 96 | 48 => 106 | 50 => 87 | 4 => 4 | 40 => 111 | 39 => 110 | 45 => 115 | 5 => 5 | 9 => 9 | 51 => 124 | 55 => 128 | 57 => 137 | 58 => 138 | 33 => 75 | n => n, fun | n => n⟩
theorem Tryd.sortedA : Go.Proofs.SlLaysZ.n6 Tryd.prog Tryd.sortedA_ren := {
 mixed := by kernel_rfl
 f6 := ⟨Tryd.f23.name, by decide, Tryd.func23.trans (congrArg some (by kernel_rfl))⟩
 f8 := ⟨Tryd.f36.name, by decide, Tryd.func36.trans (congrArg some (by kernel_rfl))⟩
 f11 := ⟨Tryd.f50.name, by decide, Tryd.func50.trans (congrArg some (by kernel_rfl))⟩
 t0 := Tryd.underlying0
 a0 := Tryd.isAgg0
 z0 := Tryd.sizeOf0
 v0 := Tryd.zeroValue0
 t24 := Tryd.underlying35
 a24 := Tryd.isAgg35
 z24 := Tryd.sizeOf35
 v24 := Tryd.zeroValue35
 t26 := Tryd.underlying9
 a26 := Tryd.isAgg9
 z26 := Tryd.sizeOf9
 v26 := Tryd.zeroValue9
 t28 := Tryd.underlying66
 a28 := Tryd.isAgg66
 z28 := Tryd.sizeOf66
 v28 := Tryd.zeroValue66
 i26 := by kernel_rfl }
def Tryd.sortA_ren : Go.Shelf.Ren := ⟨fun | 6 => 37 | 8 => 52 | 9 => 51 | 19 => 72 | 20 => 59 | 21 => 63 | 22 => 64 | 23 => 65 | 24 => 66 | 25 => 67 | 26 => 68 | 27 => 69 | 28 => 70 | 29 => 71 | 36 => 78 | 31 => 79 | 32 => 80 | 37 => 81 | 38 => 82 | 39 => 83 | 41 => 86 | n => n, fun | 27 => 35 | 29 => 9 | 3 => 3 | 32 => 96 | 26 => 35 | 0 => 0 | 44 => 106 | 46 => 87 | 4 => 4 | 36 => 111 | 35 => 110 | 41 => 115 | 5 => 5 | 9 => 9 | 53 => 124 | 57 => 128 | 63 => 137 | 64 => 138 | n => n, fun | n => n⟩
theorem Tryd.sortA : Go.Proofs.SlLaysM.n6 Tryd.prog Tryd.sortA_ren := {
 mixed := by kernel_rfl
 f6 := ⟨Tryd.f37.name, by decide, Tryd.func37.trans (congrArg some (by kernel_rfl))⟩
 f8 := Tryd.func52.trans (congrArg some (by kernel_rfl))
 f9 := ⟨Tryd.f51.name, by decide, Tryd.func51.trans (congrArg some (by kernel_rfl))⟩
 f19 := Tryd.func72.trans (congrArg some (by kernel_rfl))
 f20 := Tryd.func59.trans (congrArg some (by kernel_rfl))
 f21 := ⟨Tryd.f63.name, by decide, Tryd.func63.trans (congrArg some (by kernel_rfl))⟩
 f22 := ⟨Tryd.f64.name, by decide, Tryd.func64.trans (congrArg some (by kernel_rfl))⟩
 f23 := ⟨Tryd.f65.name, by decide, Tryd.func65.trans (congrArg some (by kernel_rfl))⟩
 f24 := ⟨Tryd.f66.name, by decide, Tryd.func66.trans (congrArg some (by kernel_rfl))⟩
 f25 := ⟨Tryd.f67.name, by decide, Tryd.func67.trans (congrArg some (by kernel_rfl))⟩
 f26 := ⟨Tryd.f68.name, by decide, Tryd.func68.trans (congrArg some (by kernel_rfl))⟩
 f27 := ⟨Tryd.f69.name, by decide, Tryd.func69.trans (congrArg some (by kernel_rfl))⟩
 f28 := ⟨Tryd.f70.name, by decide, Tryd.func70.trans (congrArg some (by kernel_rfl))⟩
 f29 := ⟨Tryd.f71.name, by decide, Tryd.func71.trans (congrArg some (by kernel_rfl))⟩
 f31 := Tryd.func79.trans (congrArg some (by kernel_rfl))
 f32 := Tryd.func80.trans (congrArg some (by kernel_rfl))
 f36 := ⟨Tryd.f78.name, by decide, Tryd.func78.trans (congrArg some (by kernel_rfl))⟩
 f37 := ⟨Tryd.f81.name, by decide, Tryd.func81.trans (congrArg some (by kernel_rfl))⟩
 f38 := ⟨Tryd.f82.name, by decide, Tryd.func82.trans (congrArg some (by kernel_rfl))⟩
 f39 := ⟨Tryd.f83.name, by decide, Tryd.func83.trans (congrArg some (by kernel_rfl))⟩
 f41 := ⟨Tryd.f86.name, by decide, Tryd.func86.trans (congrArg some (by kernel_rfl))⟩
 t0 := Tryd.underlying0
 a0 := Tryd.isAgg0
 z0 := Tryd.sizeOf0
 v0 := Tryd.zeroValue0
 t3 := Tryd.underlying3
 a3 := Tryd.isAgg3
 z3 := Tryd.sizeOf3
 v3 := Tryd.zeroValue3
 t4 := Tryd.underlying4
 a4 := Tryd.isAgg4
 z4 := Tryd.sizeOf4
 v4 := Tryd.zeroValue4
 t5 := Tryd.underlying5
 a5 := Tryd.isAgg5
 z5 := Tryd.sizeOf5
 v5 := Tryd.zeroValue5
 t9 := Tryd.underlying9
 a9 := Tryd.isAgg9
 z9 := Tryd.sizeOf9
 v9 := Tryd.zeroValue9
 t26 := Tryd.underlying35
 a26 := Tryd.isAgg35
 z26 := Tryd.sizeOf35
 v26 := Tryd.zeroValue35
 t27 := Tryd.underlying35
 a27 := Tryd.isAgg35
 z27 := Tryd.sizeOf35
 v27 := Tryd.zeroValue35
 t29 := Tryd.underlying9
 a29 := Tryd.isAgg9
 z29 := Tryd.sizeOf9
 v29 := Tryd.zeroValue9
 t32 := Tryd.underlying96
 a32 := Tryd.isAgg96
 z32 := Tryd.sizeOf96
 v32 := Tryd.zeroValue96
 t35 := Tryd.underlying110
 a35 := Tryd.isAgg110
 z35 := Tryd.sizeOf110
 v35 := Tryd.zeroValue110
 t36 := Tryd.underlying111
 a36 := Tryd.isAgg111
 z36 := Tryd.sizeOf111
 v36 := Tryd.zeroValue111
 t41 := Tryd.underlying115
 a41 := Tryd.isAgg115
 z41 := Tryd.sizeOf115
 v41 := Tryd.zeroValue115
 t44 := Tryd.underlying106
 a44 := Tryd.isAgg106
 z44 := Tryd.sizeOf106
 v44 := Tryd.zeroValue106
 t46 := Tryd.underlying87
 a46 := Tryd.isAgg87
 z46 := Tryd.sizeOf87
 v46 := Tryd.zeroValue87
 t53 := Tryd.underlying124
 a53 := Tryd.isAgg124
 z53 := Tryd.sizeOf124
 v53 := Tryd.zeroValue124
 t57 := Tryd.underlying128
 a57 := Tryd.isAgg128
 z57 := Tryd.sizeOf128
 v57 := Tryd.zeroValue128
 t63 := Tryd.underlying137
 a63 := Tryd.isAgg137
 z63 := Tryd.sizeOf137
 v63 := Tryd.zeroValue137
 t64 := Tryd.underlying138
 a64 := Tryd.isAgg138
 z64 := Tryd.sizeOf138
 v64 := Tryd.zeroValue138 }
theorem Tryd.sortsA (m : Nat) : AnyZ.SortsIn Tryd.prog Tryd.sortedA_ren Fence.wide m :=
 ⟨fun blk off cap ss W hH hblk hsz => callsIn_wide.2 (AnyM.slices_Sort_string Tryd.sortA blk off cap ss W hH hblk hsz),
  fun p cap W => callsIn_wide.2 (AnyM.slices_Sort_string_none Tryd.sortA p cap W)⟩
theorem Tryd.sortedC : Gx.SortedC Tryd.prog 23 38 9 :=
 Gx.sortedC_of Tryd.keysA Tryd.sortedA (Tryd.sortsA) (enters_of Tryd.func37 (by kernel_rfl) rfl) (enters_of Tryd.func38 (by kernel_rfl) rfl)
end Go.Proofs
namespace Gk
open Go Gx Go.Proofs
noncomputable def e_slices_Sorted_string (_k : Nat) (_D : CallF) : Ent := eSorted 23 38 9
theorem ok_slices_Sorted_string {D : CallF} (_hD : CSound Tryd.prog 0 D) (k : Nat) : EntOk Tryd.prog 0 (e_slices_Sorted_string k D) :=
 sorted_ok (c := _) Tryd.func23 rfl rfl Tryd.sortedC
end Gk
namespace Gk
open Go Gx Go.Proofs
set_option maxRecDepth 100000
noncomputable def C_store_Store_Names (k : Nat) (D : CallF) : CallF := mkC D [e_maps_Keys_map_string_string_string_string k D, e_slices_Sorted_string k D]
noncomputable def store_Store_Names (k : Nat) (D : CallF) (s_0 : Option Addr) (h : AHeap) : Option ((Slc) × AHeap) :=
 (s_0).bind fun p1 =>
 (ldM (⟨p1.block, p1.off + 4, none⟩ : Addr) h).bind fun x2 =>
 (maps_Keys_map_string_string_string_string k D x2 h).bind fun r3 =>
 (sortedA 38 9 [r3.1] r3.2).bind fun r4 =>
 some (r4.1, r4.2)
noncomputable def r_store_Store_Names : RCode := an (.n) (rOf Tryd.prog 0 Tryd.f12)
noncomputable def e_store_Store_Names (k : Nat) (D : CallF) : Ent := entOf 12 [(0, .p)] [(2, .l)] (store_Store_Names k D)
theorem q_store_Store_Names : (Tryd.f12.body).bind (rcodeOf Tryd.prog 0 Tryd.f12.ntmps) = some (strip r_store_Store_Names) := by kernel_rfl
theorem t_store_Store_Names (k : Nat) (D : CallF) : curF [(0, .p)] (fun args h => denF (C_store_Store_Names k D) k r_store_Store_Names [(2, .l)] [none] args h) = store_Store_Names k D := by kernel_rfl
theorem ok_store_Store_Names {D : CallF} (hD : CSound Tryd.prog 0 D) (k : Nat) : EntOk Tryd.prog 0 (e_store_Store_Names k D) :=
 entOf_ok2 (mkC_sound hD (EntsOk.more (ok_maps_Keys_map_string_string_string_string hD k) (EntsOk.more (ok_slices_Sorted_string hD k) (EntsOk.none)))) Tryd.func12 rfl q_store_Store_Names rfl (t_store_Store_Names k D)
end Gk
namespace Go.Proofs
open Go.Shelf
def Tryd.lays171_ren : Go.Shelf.Ren := ⟨fun | 171 => 8 | 243 => 18 | 246 => 30 | 283 => 44 | 284 => 45 | 285 => 46 | 286 => 47 | 129 => 59 | 317 => 58 | 318 => 60 | 319 => 61 | 320 => 62 | 337 => 76 | 338 => 77 | n => n, fun | 3 => 3 | 9 => 9 | 2 => 2 | 4 => 4 | 171 => 86 | 0 => 0 | 53 => 87 | 37 => 90 | 5 => 5 | 173 => 91 | 212 => 105 | 51 => 106 | 20 => 20 | 213 => 107 | 46 => 96 | 232 => 135 | 233 => 136 | n => n, fun | 17 => 0 | 18 => 3 | 19 => 4 | n => n⟩
theorem Tryd.lays171 : Go.Proofs.Lays.n171 Tryd.prog Tryd.lays171_ren := {
 mixed := by kernel_rfl
 f129 := Tryd.func59.trans (congrArg some (by kernel_rfl))
 f171 := Tryd.func8.trans (congrArg some (by kernel_rfl))
 f243 := Tryd.func18.trans (congrArg some (by kernel_rfl))
 f246 := Tryd.func30.trans (congrArg some (by kernel_rfl))
 f283 := Tryd.func44.trans (congrArg some (by kernel_rfl))
 f284 := Tryd.func45.trans (congrArg some (by kernel_rfl))
 f285 := Tryd.func46.trans (congrArg some (by kernel_rfl))
 f286 := Tryd.func47.trans (congrArg some (by kernel_rfl))
 f317 := Tryd.func58.trans (congrArg some (by kernel_rfl))
 f318 := Tryd.func60.trans (congrArg some (by kernel_rfl))
 f319 := Tryd.func61.trans (congrArg some (by kernel_rfl))
 f320 := Tryd.func62.trans (congrArg some (by kernel_rfl))
 f337 := Tryd.func76.trans (congrArg some (by kernel_rfl))
 f338 := Tryd.func77.trans (congrArg some (by kernel_rfl))
 t0 := Tryd.underlying0
 a0 := Tryd.isAgg0
 z0 := Tryd.sizeOf0
 v0 := Tryd.zeroValue0
 t2 := Tryd.underlying2
 a2 := Tryd.isAgg2
 z2 := Tryd.sizeOf2
 v2 := Tryd.zeroValue2
 t3 := Tryd.underlying3
 a3 := Tryd.isAgg3
 z3 := Tryd.sizeOf3
 v3 := Tryd.zeroValue3
 t4 := Tryd.underlying4
 a4 := Tryd.isAgg4
 z4 := Tryd.sizeOf4
 v4 := Tryd.zeroValue4
 t5 := Tryd.underlying5
 a5 := Tryd.isAgg5
 z5 := Tryd.sizeOf5
 v5 := Tryd.zeroValue5
 t9 := Tryd.underlying9
 a9 := Tryd.isAgg9
 z9 := Tryd.sizeOf9
 v9 := Tryd.zeroValue9
 t20 := Tryd.underlying20
 a20 := Tryd.isAgg20
 z20 := Tryd.sizeOf20
 v20 := Tryd.zeroValue20
 t37 := Tryd.underlying90
 a37 := Tryd.isAgg90
 z37 := Tryd.sizeOf90
 v37 := Tryd.zeroValue90
 t46 := Tryd.underlying96
 a46 := Tryd.isAgg96
 z46 := Tryd.sizeOf96
 v46 := Tryd.zeroValue96
 t51 := Tryd.underlying106
 a51 := Tryd.isAgg106
 z51 := Tryd.sizeOf106
 v51 := Tryd.zeroValue106
 t53 := Tryd.underlying87
 a53 := Tryd.isAgg87
 z53 := Tryd.sizeOf87
 v53 := Tryd.zeroValue87
 t171 := Tryd.underlying86
 a171 := Tryd.isAgg86
 z171 := Tryd.sizeOf86
 v171 := Tryd.zeroValue86
 t173 := Tryd.underlying91
 a173 := Tryd.isAgg91
 z173 := Tryd.sizeOf91
 v173 := Tryd.zeroValue91
 t212 := Tryd.underlying105
 a212 := Tryd.isAgg105
 z212 := Tryd.sizeOf105
 v212 := Tryd.zeroValue105
 t213 := Tryd.underlying107
 a213 := Tryd.isAgg107
 z213 := Tryd.sizeOf107
 t232 := Tryd.underlying135
 a232 := Tryd.isAgg135
 z232 := Tryd.sizeOf135
 v232 := Tryd.zeroValue135
 t233 := Tryd.underlying136
 a233 := Tryd.isAgg136
 z233 := Tryd.sizeOf136
 v233 := Tryd.zeroValue136
 g17 := by kernel_rfl
 g18 := by kernel_rfl
 g19 := by kernel_rfl }
theorem Tryd.itoaC (i : Nat) (w : World) (hi : i < 100) : Calls Tryd.prog 8 #[.int .i64 (i : Int)] w fun e w' => e = .returned (.string ⟨(Lib.decDigits i).toArray⟩) ∧ w' = w := Any.strconv_Itoa_small Tryd.lays171 i hi w
end Go.Proofs
namespace Gk
open Go Gx Go.Proofs
noncomputable def e_strconv_Itoa (_k : Nat) (_D : CallF) : Ent := eItoa 8
theorem ok_strconv_Itoa {D : CallF} (_hD : CSound Tryd.prog 0 D) (k : Nat) : EntOk Tryd.prog 0 (e_strconv_Itoa k D) :=
 itoa_ok (c := _) Tryd.func8 rfl rfl (fun i w hi => Tryd.itoaC i w hi)
end Gk
namespace Gk
open Go Gx Go.Proofs
noncomputable def e_sync_atomic_AddInt64 (_k : Nat) (_D : CallF) : Ent := eAdd 31 .i64
theorem ok_sync_atomic_AddInt64 {D : CallF} (_hD : CSound Tryd.prog 0 D) (k : Nat) : EntOk Tryd.prog 0 (e_sync_atomic_AddInt64 k D) :=
 add_ok Tryd.func31 rfl rfl rfl .i64 (by kernel_rfl)
end Gk
namespace Gk
open Go Gx Go.Proofs
set_option maxRecDepth 100000
noncomputable def C_sync_atomic_Int64_Add (k : Nat) (D : CallF) : CallF := mkC D [e_sync_atomic_AddInt64 k D]
noncomputable def sync_atomic_Int64_Add (_k : Nat) (_D : CallF) (x_0 : Option Addr) (delta_1 : Int) (h : AHeap) : Option ((Int) × AHeap) :=
 (x_0).bind fun p1 =>
 (ldI .i64 (⟨p1.block, p1.off + 0, none⟩ : Addr) h).bind fun x2 =>
 (st1 (⟨p1.block, p1.off + 0, none⟩ : Addr) (.int .i64 (IntKind.wrap .i64 (x2 + delta_1))) h).bind fun h3 =>
 some ((IntKind.wrap .i64 (x2 + delta_1)), h3)
noncomputable def r_sync_atomic_Int64_Add : RCode := an (.n) (rOf Tryd.prog 0 Tryd.f19)
noncomputable def e_sync_atomic_Int64_Add (k : Nat) (D : CallF) : Ent := entOf 19 [(0, .p), (1, .i .i64)] [(4, .i .i64)] (sync_atomic_Int64_Add k D)
theorem q_sync_atomic_Int64_Add : (Tryd.f19.body).bind (rcodeOf Tryd.prog 0 Tryd.f19.ntmps) = some (strip r_sync_atomic_Int64_Add) := by kernel_rfl
theorem t_sync_atomic_Int64_Add (k : Nat) (D : CallF) : curF [(0, .p), (1, .i .i64)] (fun args h => denF (C_sync_atomic_Int64_Add k D) k r_sync_atomic_Int64_Add [(4, .i .i64)] [none] args h) = sync_atomic_Int64_Add k D := by kernel_rfl
theorem ok_sync_atomic_Int64_Add {D : CallF} (hD : CSound Tryd.prog 0 D) (k : Nat) : EntOk Tryd.prog 0 (e_sync_atomic_Int64_Add k D) :=
 entOf_ok2 (mkC_sound hD (EntsOk.more (ok_sync_atomic_AddInt64 hD k) (EntsOk.none))) Tryd.func19 rfl q_sync_atomic_Int64_Add rfl (t_sync_atomic_Int64_Add k D)
end Gk
namespace Gk
open Go Gx Go.Proofs
set_option maxRecDepth 100000
noncomputable def C_store_may (_k : Nat) (D : CallF) : CallF := mkC D []
noncomputable def store_may_l0b (_k : Nat) (_D : CallF) (j3 : ByteArray → AHeap → Option ((Bool) × AHeap)) (rec10 : ByteArray → Slc → Int → Int → AHeap → Option ((Bool) × AHeap)) (name5 : ByteArray) (y6 : Slc) (y7 : Int) (y8 : Int) (h9 : AHeap) : Option ((Bool) × AHeap) :=
 (if (decide (y8 < y7)) = true then
 (Gx.idxL 1 y6 y8).bind fun q11 =>
 (ldI .u8 q11 h9).bind fun x12 =>
 joinK (fun (name13 : ByteArray) (y14 : Slc) (y15 : Int) (y16 : Int) (y17 : Bool) (h18 : AHeap) =>
 (if y17 = true then
 some (false, h18)
 else
 rec10 name13 y14 y15 (IntKind.wrap .i64 (y16 + 1)) h18)) fun j19 =>
 (if (decide (x12 ≤ 32)) = true then
 j19 name5 y6 y7 y8 true h9
 else
 j19 name5 y6 y7 y8 (decide (x12 ≥ 127)) h9)
 else
 j3 name5 h9)
noncomputable def store_may_l0 (k : Nat) (D : CallF) (j3 : ByteArray → AHeap → Option ((Bool) × AHeap)) : ByteArray → Slc → Int → Int → AHeap → Option ((Bool) × AHeap) :=
 iterK (α := ByteArray → Slc → Int → Int → AHeap → Option ((Bool) × AHeap)) (fun _ _ _ _ _ => none) k (store_may_l0b k D j3)
noncomputable def store_may (k : Nat) (D : CallF) (name_0 : ByteArray) (h : AHeap) : Option ((Bool) × AHeap) :=
 joinK (fun (name1 : ByteArray) (h2 : AHeap) =>
 (if (!(name1 == (⟨#[]⟩ : ByteArray))) = true then
 some ((decide ((name1.size : Int) ≤ 96)), h2)
 else
 some (false, h2))) fun j3 =>
 let h4 := AHeap.new h (.cells (bytesL name_0) 5 true 18446744073709551616)
 store_may_l0 k D j3 name_0 (⟨(some ⟨h.next, 0, some 2⟩), name_0.size, name_0.size⟩ : Slc) (name_0.size : Int) 0 h4
noncomputable def r_store_may : RCode := an (.s .n (.s (.j [(0, .s)] (.s .n (.b (.l [(0, .s), (6, .l), (7, .i .i64), (8, .i .i64)] (.s .n (.s .n (.s (.b (.s .n (.s (.j [(0, .s), (6, .l), (7, .i .i64), (8, .i .i64), (17, .b)] .n) .n))) .n))))))) .n)) (rOf Tryd.prog 0 Tryd.f48)
noncomputable def e_store_may (k : Nat) (D : CallF) : Ent := entOf 48 [(0, .s)] [(2, .b)] (store_may k D)
theorem q_store_may : (Tryd.f48.body).bind (rcodeOf Tryd.prog 0 Tryd.f48.ntmps) = some (strip r_store_may) := by kernel_rfl
theorem t_store_may (k : Nat) (D : CallF) : curF [(0, .s)] (fun args h => denF (C_store_may k D) k r_store_may [(2, .b)] [none] args h) = store_may k D := by kernel_rfl
theorem ok_store_may {D : CallF} (hD : CSound Tryd.prog 0 D) (k : Nat) : EntOk Tryd.prog 0 (e_store_may k D) :=
 entOf_ok2 (mkC_sound hD (EntsOk.none)) Tryd.func48 rfl q_store_may rfl (t_store_may k D)
end Gk
namespace Gk
open Go Gx Go.Proofs
set_option maxRecDepth 100000
noncomputable def C_store_fits (k : Nat) (D : CallF) : CallF := mkC D [e_store_may k D]
noncomputable def store_fits (k : Nat) (D : CallF) (name_0 : ByteArray) (data_1 : ByteArray) (h : AHeap) : Option ((Int) × AHeap) :=
 (store_may k D name_0 h).bind fun r1 =>
 (if (!r1.1) = true then
 some (3, r1.2)
 else
 (if (decide ((data_1.size : Int) > 131072)) = true then
 some (2, r1.2)
 else
 some (0, r1.2)))
noncomputable def r_store_fits : RCode := an (.n) (rOf Tryd.prog 0 Tryd.f32)
noncomputable def e_store_fits (k : Nat) (D : CallF) : Ent := entOf 32 [(0, .s), (1, .s)] [(4, .i .i64)] (store_fits k D)
theorem q_store_fits : (Tryd.f32.body).bind (rcodeOf Tryd.prog 0 Tryd.f32.ntmps) = some (strip r_store_fits) := by kernel_rfl
theorem t_store_fits (k : Nat) (D : CallF) : curF [(0, .s), (1, .s)] (fun args h => denF (C_store_fits k D) k r_store_fits [(4, .i .i64)] [none] args h) = store_fits k D := by kernel_rfl
theorem ok_store_fits {D : CallF} (hD : CSound Tryd.prog 0 D) (k : Nat) : EntOk Tryd.prog 0 (e_store_fits k D) :=
 entOf_ok2 (mkC_sound hD (EntsOk.more (ok_store_may hD k) (EntsOk.none))) Tryd.func32 rfl q_store_fits rfl (t_store_fits k D)
end Gk
namespace Gk
open Go Gx Go.Proofs
set_option maxRecDepth 100000
noncomputable def C_store_Store_room (_k : Nat) (D : CallF) : CallF := mkC D []
noncomputable def store_Store_room (_k : Nat) (_D : CallF) (s_0 : Option Addr) (name_1 : ByteArray) (h : AHeap) : Option ((Int) × AHeap) :=
 (s_0).bind fun p1 =>
 (ldM (⟨p1.block, p1.off + 4, none⟩ : Addr) h).bind fun x2 =>
 (lookE decS (.string ⟨#[]⟩) h x2 (.string name_1)).bind fun p3 =>
 (if p3.2 = true then
 let t4 : Int := (IntKind.wrap .i64 ((name_1.size : Int) + (p3.1.size : Int)))
 some (t4, h)
 else
 some (0, h))
noncomputable def r_store_Store_room : RCode := an (.n) (rOf Tryd.prog 0 Tryd.f33)
noncomputable def e_store_Store_room (k : Nat) (D : CallF) : Ent := entOf 33 [(0, .p), (1, .s)] [(4, .i .i64)] (store_Store_room k D)
theorem q_store_Store_room : (Tryd.f33.body).bind (rcodeOf Tryd.prog 0 Tryd.f33.ntmps) = some (strip r_store_Store_room) := by kernel_rfl
theorem t_store_Store_room (k : Nat) (D : CallF) : curF [(0, .p), (1, .s)] (fun args h => denF (C_store_Store_room k D) k r_store_Store_room [(4, .i .i64)] [none] args h) = store_Store_room k D := by kernel_rfl
theorem ok_store_Store_room {D : CallF} (hD : CSound Tryd.prog 0 D) (k : Nat) : EntOk Tryd.prog 0 (e_store_Store_room k D) :=
 entOf_ok2 (mkC_sound hD (EntsOk.none)) Tryd.func33 rfl q_store_Store_room rfl (t_store_Store_room k D)
end Gk
namespace Gk
open Go Gx Go.Proofs
set_option maxRecDepth 100000
noncomputable def C_store_Store_lay (k : Nat) (D : CallF) : CallF := mkC D [e_store_Store_room k D]
noncomputable def store_Store_lay (k : Nat) (D : CallF) (s_0 : Option Addr) (name_1 : ByteArray) (data_2 : ByteArray) (h : AHeap) : Option ((Unit) × AHeap) :=
 (store_Store_room k D s_0 name_1 h).bind fun r1 =>
 (s_0).bind fun p2 =>
 (ldI .i64 (⟨p2.block, p2.off + 1, none⟩ : Addr) r1.2).bind fun x3 =>
 guardP (SameW [h] (fun H5 => (ldI .i64 (⟨p2.block, p2.off + 1, none⟩ : Addr) H5).bind fun y4 => some (.int .i64 y4)) (.int .i64 x3)) (
 let t6 : Int := (IntKind.wrap .i64 ((name_1.size : Int) + (data_2.size : Int)))
 (s_0).bind fun p7 =>
 (st1 (⟨p7.block, p7.off + 1, none⟩ : Addr) (.int .i64 (IntKind.wrap .i64 (x3 + (IntKind.wrap .i64 (t6 - r1.1))))) r1.2).bind fun h8 =>
 (s_0).bind fun p9 =>
 (ldM (⟨p9.block, p9.off + 4, none⟩ : Addr) h8).bind fun x10 =>
 (x10).bind fun r12 =>
 (updE h8 r12 (.string name_1) (.string data_2)).bind fun h11 =>
 some ((), h11))
noncomputable def r_store_Store_lay : RCode := an (.n) (rOf Tryd.prog 0 Tryd.f34)
noncomputable def e_store_Store_lay (k : Nat) (D : CallF) : Ent := entOf 34 [(0, .p), (1, .s), (2, .s)] [] (store_Store_lay k D)
theorem q_store_Store_lay : (Tryd.f34.body).bind (rcodeOf Tryd.prog 0 Tryd.f34.ntmps) = some (strip r_store_Store_lay) := by kernel_rfl
theorem t_store_Store_lay (k : Nat) (D : CallF) : curF [(0, .p), (1, .s), (2, .s)] (fun args h => denF (C_store_Store_lay k D) k r_store_Store_lay [] [] args h) = store_Store_lay k D := by kernel_rfl
theorem ok_store_Store_lay {D : CallF} (hD : CSound Tryd.prog 0 D) (k : Nat) : EntOk Tryd.prog 0 (e_store_Store_lay k D) :=
 entOf_ok2 (mkC_sound hD (EntsOk.more (ok_store_Store_room hD k) (EntsOk.none))) Tryd.func34 rfl q_store_Store_lay rfl (t_store_Store_lay k D)
end Gk
namespace Gk
open Go Gx Go.Proofs
set_option maxRecDepth 100000
noncomputable def C_store_Store_put (k : Nat) (D : CallF) : CallF := mkC D [e_store_fits k D, e_store_Store_room k D, e_store_Store_lay k D]
noncomputable def store_Store_put (k : Nat) (D : CallF) (s_0 : Option Addr) (name_1 : ByteArray) (data_2 : ByteArray) (h : AHeap) : Option ((Int) × AHeap) :=
 (store_fits k D name_1 data_2 h).bind fun r1 =>
 (if (r1.1 != 0) = true then
 some (r1.1, r1.2)
 else
 (store_Store_room k D s_0 name_1 r1.2).bind fun r2 =>
 (s_0).bind fun p3 =>
 (ldI .i64 (⟨p3.block, p3.off + 1, none⟩ : Addr) r2.2).bind fun x4 =>
 guardP (SameW [r1.2] (fun H6 => (ldI .i64 (⟨p3.block, p3.off + 1, none⟩ : Addr) H6).bind fun y5 => some (.int .i64 y5)) (.int .i64 x4)) (
 let t7 : Int := (IntKind.wrap .i64 ((IntKind.wrap .i64 (x4 - r2.1)) + (name_1.size : Int)))
 (s_0).bind fun p8 =>
 (ldI .i64 (⟨p8.block, p8.off + 0, none⟩ : Addr) r2.2).bind fun x9 =>
 guardP (SameW [r1.2] (fun H11 => (ldI .i64 (⟨p8.block, p8.off + 0, none⟩ : Addr) H11).bind fun y10 => some (.int .i64 y10)) (.int .i64 x9)) (
 (if (decide ((IntKind.wrap .i64 (t7 + (data_2.size : Int))) > x9)) = true then
 some (71, r2.2)
 else
 (store_Store_lay k D s_0 name_1 data_2 r2.2).bind fun r12 =>
 some (0, r12.2)))))
noncomputable def r_store_Store_put : RCode := an (.n) (rOf Tryd.prog 0 Tryd.f20)
noncomputable def e_store_Store_put (k : Nat) (D : CallF) : Ent := entOf 20 [(0, .p), (1, .s), (2, .s)] [(6, .i .i64)] (store_Store_put k D)
theorem q_store_Store_put : (Tryd.f20.body).bind (rcodeOf Tryd.prog 0 Tryd.f20.ntmps) = some (strip r_store_Store_put) := by kernel_rfl
theorem t_store_Store_put (k : Nat) (D : CallF) : curF [(0, .p), (1, .s), (2, .s)] (fun args h => denF (C_store_Store_put k D) k r_store_Store_put [(6, .i .i64)] [none] args h) = store_Store_put k D := by kernel_rfl
theorem ok_store_Store_put {D : CallF} (hD : CSound Tryd.prog 0 D) (k : Nat) : EntOk Tryd.prog 0 (e_store_Store_put k D) :=
 entOf_ok2 (mkC_sound hD (EntsOk.more (ok_store_fits hD k) (EntsOk.more (ok_store_Store_room hD k) (EntsOk.more (ok_store_Store_lay hD k) (EntsOk.none))))) Tryd.func20 rfl q_store_Store_put rfl (t_store_Store_put k D)
end Gk
namespace Gk
open Go Gx Go.Proofs
set_option maxRecDepth 100000
noncomputable def C_internal_stringslite_HasPrefix (_k : Nat) (D : CallF) : CallF := mkC D []
noncomputable def internal_stringslite_HasPrefix (_k : Nat) (_D : CallF) (s_0 : ByteArray) (prefix_1 : ByteArray) (h : AHeap) : Option ((Bool) × AHeap) :=
 (if (decide ((s_0.size : Int) ≥ (prefix_1.size : Int))) = true then
 (Gx.subS s_0 none (some (prefix_1.size : Int))).bind fun s1 =>
 some ((s1 == prefix_1), h)
 else
 some (false, h))
noncomputable def r_internal_stringslite_HasPrefix : RCode := an (.n) (rOf Tryd.prog 0 Tryd.f49)
noncomputable def e_internal_stringslite_HasPrefix (k : Nat) (D : CallF) : Ent := entOf 49 [(0, .s), (1, .s)] [(4, .b)] (internal_stringslite_HasPrefix k D)
theorem q_internal_stringslite_HasPrefix : (Tryd.f49.body).bind (rcodeOf Tryd.prog 0 Tryd.f49.ntmps) = some (strip r_internal_stringslite_HasPrefix) := by kernel_rfl
theorem t_internal_stringslite_HasPrefix (k : Nat) (D : CallF) : curF [(0, .s), (1, .s)] (fun args h => denF (C_internal_stringslite_HasPrefix k D) k r_internal_stringslite_HasPrefix [(4, .b)] [none] args h) = internal_stringslite_HasPrefix k D := by kernel_rfl
theorem ok_internal_stringslite_HasPrefix {D : CallF} (hD : CSound Tryd.prog 0 D) (k : Nat) : EntOk Tryd.prog 0 (e_internal_stringslite_HasPrefix k D) :=
 entOf_ok2 (mkC_sound hD (EntsOk.none)) Tryd.func49 rfl q_internal_stringslite_HasPrefix rfl (t_internal_stringslite_HasPrefix k D)
end Gk
namespace Gk
open Go Gx Go.Proofs
set_option maxRecDepth 100000
noncomputable def C_strings_HasPrefix (k : Nat) (D : CallF) : CallF := mkC D [e_internal_stringslite_HasPrefix k D]
noncomputable def strings_HasPrefix (k : Nat) (D : CallF) (s_0 : ByteArray) (prefix_1 : ByteArray) (h : AHeap) : Option ((Bool) × AHeap) :=
 (internal_stringslite_HasPrefix k D s_0 prefix_1 h).bind fun r1 =>
 some (r1.1, r1.2)
noncomputable def r_strings_HasPrefix : RCode := an (.n) (rOf Tryd.prog 0 Tryd.f35)
noncomputable def e_strings_HasPrefix (k : Nat) (D : CallF) : Ent := entOf 35 [(0, .s), (1, .s)] [(4, .b)] (strings_HasPrefix k D)
theorem q_strings_HasPrefix : (Tryd.f35.body).bind (rcodeOf Tryd.prog 0 Tryd.f35.ntmps) = some (strip r_strings_HasPrefix) := by kernel_rfl
theorem t_strings_HasPrefix (k : Nat) (D : CallF) : curF [(0, .s), (1, .s)] (fun args h => denF (C_strings_HasPrefix k D) k r_strings_HasPrefix [(4, .b)] [none] args h) = strings_HasPrefix k D := by kernel_rfl
theorem ok_strings_HasPrefix {D : CallF} (hD : CSound Tryd.prog 0 D) (k : Nat) : EntOk Tryd.prog 0 (e_strings_HasPrefix k D) :=
 entOf_ok2 (mkC_sound hD (EntsOk.more (ok_internal_stringslite_HasPrefix hD k) (EntsOk.none))) Tryd.func35 rfl q_strings_HasPrefix rfl (t_strings_HasPrefix k D)
end Gk
namespace Gk
open Go Gx Go.Proofs
set_option maxRecDepth 100000
noncomputable def C_store_Store_list (k : Nat) (D : CallF) : CallF := mkC D [e_store_Store_Names k D, e_strings_HasPrefix k D]
noncomputable def store_Store_list_l0b (k : Nat) (D : CallF) (j3 : Slc → AHeap → Option ((Slc) × AHeap)) (rec11 : ByteArray → Slc → Slc → Int → Int → AHeap → Option ((Slc) × AHeap)) (begin5 : ByteArray) (out6 : Slc) (y7 : Slc) (y8 : Int) (y9 : Int) (h10 : AHeap) : Option ((Slc) × AHeap) :=
 (if (decide (y9 < y8)) = true then
 joinK (fun (begin12 : ByteArray) (out13 : Slc) (y14 : Slc) (y15 : Int) (y16 : Int) (h17 : AHeap) =>
 rec11 begin12 out13 y14 y15 (IntKind.wrap .i64 (y16 + 1)) h17) fun j18 =>
 (Gx.idxL 1 y7 y9).bind fun q19 =>
 (ldS q19 h10).bind fun x20 =>
 (strings_HasPrefix k D x20 begin5 h10).bind fun r21 =>
 (if r21.1 = true then
 let h22 := AHeap.new r21.2 (.cells [.string x20] 9 true 0)
 (rdS 1 (⟨(some ⟨r21.2.next, 0, some 0⟩), 1, 1⟩ : Slc) h22).bind fun n24 =>
 (appendA 1 16 9 h22 out6 n24 1).bind fun r23 =>
 j18 begin5 r23.1 y7 y8 y9 r23.2
 else
 j18 begin5 out6 y7 y8 y9 r21.2)
 else
 j3 out6 h10)
noncomputable def store_Store_list_l0 (k : Nat) (D : CallF) (j3 : Slc → AHeap → Option ((Slc) × AHeap)) : ByteArray → Slc → Slc → Int → Int → AHeap → Option ((Slc) × AHeap) :=
 iterK (α := ByteArray → Slc → Slc → Int → Int → AHeap → Option ((Slc) × AHeap)) (fun _ _ _ _ _ _ => none) k (store_Store_list_l0b k D j3)
noncomputable def store_Store_list (k : Nat) (D : CallF) (s_0 : Option Addr) (begin_1 : ByteArray) (h : AHeap) : Option ((Slc) × AHeap) :=
 joinK (fun (out1 : Slc) (h2 : AHeap) =>
 some (out1, h2)) fun j3 =>
 (store_Store_Names k D s_0 h).bind fun r4 =>
 store_Store_list_l0 k D j3 begin_1 (⟨none, 0, 0⟩ : Slc) r4.1 (r4.1.len : Int) 0 r4.2
noncomputable def r_store_Store_list : RCode := an (.s .n (.s .n (.s (.j [(5, .l)] (.s .n (.b (.l [(1, .s), (5, .l), (9, .l), (10, .i .i64), (11, .i .i64)] (.s .n (.s .n (.s (.j [(1, .s), (5, .l), (9, .l), (10, .i .i64), (11, .i .i64)] .n) .n))))))) .n))) (rOf Tryd.prog 0 Tryd.f21)
noncomputable def e_store_Store_list (k : Nat) (D : CallF) : Ent := entOf 21 [(0, .p), (1, .s)] [(4, .l)] (store_Store_list k D)
theorem q_store_Store_list : (Tryd.f21.body).bind (rcodeOf Tryd.prog 0 Tryd.f21.ntmps) = some (strip r_store_Store_list) := by kernel_rfl
theorem t_store_Store_list (k : Nat) (D : CallF) : curF [(0, .p), (1, .s)] (fun args h => denF (C_store_Store_list k D) k r_store_Store_list [(4, .l)] [none] args h) = store_Store_list k D := by kernel_rfl
theorem ok_store_Store_list {D : CallF} (hD : CSound Tryd.prog 0 D) (k : Nat) : EntOk Tryd.prog 0 (e_store_Store_list k D) :=
 entOf_ok2 (mkC_sound hD (EntsOk.more (ok_store_Store_Names hD k) (EntsOk.more (ok_strings_HasPrefix hD k) (EntsOk.none)))) Tryd.func21 rfl q_store_Store_list rfl (t_store_Store_list k D)
end Gk
namespace Gk
open Go Gx Go.Proofs
set_option maxRecDepth 100000
noncomputable def C_store_Store_del (k : Nat) (D : CallF) : CallF := mkC D [e_store_Store_room k D]
noncomputable def store_Store_del (k : Nat) (D : CallF) (s_0 : Option Addr) (name_1 : ByteArray) (h : AHeap) : Option ((Int) × AHeap) :=
 (s_0).bind fun p1 =>
 (ldM (⟨p1.block, p1.off + 4, none⟩ : Addr) h).bind fun x2 =>
 (lookE decS (.string ⟨#[]⟩) h x2 (.string name_1)).bind fun p3 =>
 (if (!p3.2) = true then
 some (5, h)
 else
 (store_Store_room k D s_0 name_1 h).bind fun r4 =>
 (s_0).bind fun p5 =>
 (ldI .i64 (⟨p5.block, p5.off + 1, none⟩ : Addr) r4.2).bind fun x6 =>
 guardP (SameW [h] (fun H8 => (ldI .i64 (⟨p5.block, p5.off + 1, none⟩ : Addr) H8).bind fun y7 => some (.int .i64 y7)) (.int .i64 x6)) (
 (s_0).bind fun p9 =>
 (st1 (⟨p9.block, p9.off + 1, none⟩ : Addr) (.int .i64 (IntKind.wrap .i64 (x6 - r4.1))) r4.2).bind fun h10 =>
 (s_0).bind fun p11 =>
 (ldM (⟨p11.block, p11.off + 4, none⟩ : Addr) h10).bind fun x12 =>
 (delM h10 x12 (.string name_1)).bind fun h13 =>
 some (0, h13)))
noncomputable def r_store_Store_del : RCode := an (.n) (rOf Tryd.prog 0 Tryd.f22)
noncomputable def e_store_Store_del (k : Nat) (D : CallF) : Ent := entOf 22 [(0, .p), (1, .s)] [(4, .i .i64)] (store_Store_del k D)
theorem q_store_Store_del : (Tryd.f22.body).bind (rcodeOf Tryd.prog 0 Tryd.f22.ntmps) = some (strip r_store_Store_del) := by kernel_rfl
theorem t_store_Store_del (k : Nat) (D : CallF) : curF [(0, .p), (1, .s)] (fun args h => denF (C_store_Store_del k D) k r_store_Store_del [(4, .i .i64)] [none] args h) = store_Store_del k D := by kernel_rfl
theorem ok_store_Store_del {D : CallF} (hD : CSound Tryd.prog 0 D) (k : Nat) : EntOk Tryd.prog 0 (e_store_Store_del k D) :=
 entOf_ok2 (mkC_sound hD (EntsOk.more (ok_store_Store_room hD k) (EntsOk.none))) Tryd.func22 rfl q_store_Store_del rfl (t_store_Store_del k D)
end Gk
namespace Gk
open Go Gx Go.Proofs
set_option maxRecDepth 100000
noncomputable def C_store_Store_Do (k : Nat) (D : CallF) : CallF := mkC D [e_sync_atomic_Int64_Add k D, e_store_Store_put k D, e_store_Store_list k D, e_store_Store_del k D]
noncomputable def store_Store_Do (k : Nat) (D : CallF) (s_0 : Option Addr) (r_1 : Int × Int × ByteArray × ByteArray) (h : AHeap) : Option (((Int × ByteArray × Slc)) × AHeap) :=
 let h1 := AHeap.new h (.cells [.int .i64 r_1.1, .int .i64 r_1.2.1, .string r_1.2.2.1, .string r_1.2.2.2] 41 true 0)
 let h2 := AHeap.new h1 (.cells [.int .i64 0, .string ⟨#[]⟩, .slice none 0 0] 37 true 0)
 (s_0).bind fun p3 =>
 (sync_atomic_Int64_Add k D (some (⟨p3.block, p3.off + 5, none⟩ : Addr)) 1 h2).bind fun r4 =>
 (s_0).bind fun p5 =>
 (ldB (⟨p5.block, p5.off + 3, none⟩ : Addr) r4.2).bind fun x6 =>
 (if x6 = true then
 (stL 3 (⟨h1.next, 0, none⟩ : Addr) ([.int .i64 70, .string (⟨#[]⟩ : ByteArray), .slice none 0 0]) r4.2).bind fun h7 =>
 (ldA 3 (⟨h1.next, 0, none⟩ : Addr) h7).bind fun l8 =>
 (decC [.i .i64, .s, .l] l8).bind fun x9 =>
 some ((x9.1, x9.2.1, x9.2.2), h7)
 else
 (s_0).bind fun p10 =>
 (ldI .i64 (⟨p10.block, p10.off + 2, none⟩ : Addr) r4.2).bind fun x11 =>
 (if (decide (x11 > 0)) = true then
 (s_0).bind fun p12 =>
 (ldI .i64 (⟨p12.block, p12.off + 2, none⟩ : Addr) r4.2).bind fun x13 =>
 (s_0).bind fun p14 =>
 (st1 (⟨p14.block, p14.off + 2, none⟩ : Addr) (.int .i64 (IntKind.wrap .i64 (x13 - 1))) r4.2).bind fun h15 =>
 (stL 3 (⟨h1.next, 0, none⟩ : Addr) ([.int .i64 72, .string (⟨#[]⟩ : ByteArray), .slice none 0 0]) h15).bind fun h16 =>
 (ldA 3 (⟨h1.next, 0, none⟩ : Addr) h16).bind fun l17 =>
 (decC [.i .i64, .s, .l] l17).bind fun x18 =>
 some ((x18.1, x18.2.1, x18.2.2), h16)
 else
 (ldI .i64 (⟨h.next, 1, none⟩ : Addr) r4.2).bind fun x19 =>
 (if (x19 == 1) = true then
 (ldS (⟨h.next, 2, none⟩ : Addr) r4.2).bind fun x20 =>
 (ldS (⟨h.next, 3, none⟩ : Addr) r4.2).bind fun x21 =>
 (store_Store_put k D s_0 x20 x21 r4.2).bind fun r22 =>
 (stL 3 (⟨h1.next, 0, none⟩ : Addr) ([.int .i64 r22.1, .string (⟨#[]⟩ : ByteArray), .slice none 0 0]) r22.2).bind fun h23 =>
 (ldA 3 (⟨h1.next, 0, none⟩ : Addr) h23).bind fun l24 =>
 (decC [.i .i64, .s, .l] l24).bind fun x25 =>
 some ((x25.1, x25.2.1, x25.2.2), h23)
 else
 (if (x19 == 2) = true then
 (s_0).bind fun p26 =>
 (ldM (⟨p26.block, p26.off + 4, none⟩ : Addr) r4.2).bind fun x27 =>
 (ldS (⟨h.next, 2, none⟩ : Addr) r4.2).bind fun x28 =>
 (lookE decS (.string ⟨#[]⟩) r4.2 x27 (.string x28)).bind fun p29 =>
 (if (!p29.2) = true then
 (stL 3 (⟨h1.next, 0, none⟩ : Addr) ([.int .i64 5, .string (⟨#[]⟩ : ByteArray), .slice none 0 0]) r4.2).bind fun h30 =>
 (ldA 3 (⟨h1.next, 0, none⟩ : Addr) h30).bind fun l31 =>
 (decC [.i .i64, .s, .l] l31).bind fun x32 =>
 some ((x32.1, x32.2.1, x32.2.2), h30)
 else
 (stL 3 (⟨h1.next, 0, none⟩ : Addr) ([.int .i64 0, .string p29.1, .slice none 0 0]) r4.2).bind fun h33 =>
 (ldA 3 (⟨h1.next, 0, none⟩ : Addr) h33).bind fun l34 =>
 (decC [.i .i64, .s, .l] l34).bind fun x35 =>
 some ((x35.1, x35.2.1, x35.2.2), h33))
 else
 (if (x19 == 3) = true then
 (ldS (⟨h.next, 2, none⟩ : Addr) r4.2).bind fun x36 =>
 (store_Store_list k D s_0 x36 r4.2).bind fun r37 =>
 (stL 3 (⟨h1.next, 0, none⟩ : Addr) ([.int .i64 0, .string (⟨#[]⟩ : ByteArray), .slice r37.1.a r37.1.len r37.1.cap]) r37.2).bind fun h38 =>
 (ldA 3 (⟨h1.next, 0, none⟩ : Addr) h38).bind fun l39 =>
 (decC [.i .i64, .s, .l] l39).bind fun x40 =>
 some ((x40.1, x40.2.1, x40.2.2), h38)
 else
 (if (x19 == 4) = true then
 (ldS (⟨h.next, 2, none⟩ : Addr) r4.2).bind fun x41 =>
 (store_Store_del k D s_0 x41 r4.2).bind fun r42 =>
 (stL 3 (⟨h1.next, 0, none⟩ : Addr) ([.int .i64 r42.1, .string (⟨#[]⟩ : ByteArray), .slice none 0 0]) r42.2).bind fun h43 =>
 (ldA 3 (⟨h1.next, 0, none⟩ : Addr) h43).bind fun l44 =>
 (decC [.i .i64, .s, .l] l44).bind fun x45 =>
 some ((x45.1, x45.2.1, x45.2.2), h43)
 else
 (stL 3 (⟨h1.next, 0, none⟩ : Addr) ([.int .i64 3, .string (⟨#[]⟩ : ByteArray), .slice none 0 0]) r4.2).bind fun h46 =>
 (ldA 3 (⟨h1.next, 0, none⟩ : Addr) h46).bind fun l47 =>
 (decC [.i .i64, .s, .l] l47).bind fun x48 =>
 some ((x48.1, x48.2.1, x48.2.2), h46)))))))
noncomputable def r_store_Store_Do : RCode := an (.n) (rOf Tryd.prog 0 Tryd.f10)
noncomputable def e_store_Store_Do (k : Nat) (D : CallF) : Ent := entOf 10 [(0, .p), (1, .st [.i .i64, .i .i64, .s, .s])] [(4, .st [.i .i64, .s, .l])] (store_Store_Do k D)
theorem q_store_Store_Do : (Tryd.f10.body).bind (rcodeOf Tryd.prog 0 Tryd.f10.ntmps) = some (strip r_store_Store_Do) := by kernel_rfl
theorem t_store_Store_Do (k : Nat) (D : CallF) : curF [(0, .p), (1, .st [.i .i64, .i .i64, .s, .s])] (fun args h => denF (C_store_Store_Do k D) k r_store_Store_Do [(4, .st [.i .i64, .s, .l])] [some (.agg 3)] args h) = store_Store_Do k D := by kernel_rfl
theorem ok_store_Store_Do {D : CallF} (hD : CSound Tryd.prog 0 D) (k : Nat) : EntOk Tryd.prog 0 (e_store_Store_Do k D) :=
 entOf_ok2 (mkC_sound hD (EntsOk.more (ok_sync_atomic_Int64_Add hD k) (EntsOk.more (ok_store_Store_put hD k) (EntsOk.more (ok_store_Store_list hD k) (EntsOk.more (ok_store_Store_del hD k) (EntsOk.none)))))) Tryd.func10 rfl q_store_Store_Do rfl (t_store_Store_Do k D)
end Gk
namespace Gk
open Go Gx Go.Proofs
set_option maxRecDepth 100000
noncomputable def C_store_Store_Fail (_k : Nat) (D : CallF) : CallF := mkC D []
noncomputable def store_Store_Fail (_k : Nat) (_D : CallF) (s_0 : Option Addr) (n_1 : Int) (h : AHeap) : Option ((Int) × AHeap) :=
 joinK (fun (s1 : Option Addr) (n2 : Int) (y3 : Bool) (h4 : AHeap) =>
 (if y3 = true then
 some (1, h4)
 else
 (s1).bind fun p6 =>
 (st1 (⟨p6.block, p6.off + 2, none⟩ : Addr) (.int .i64 n2) h4).bind fun h7 =>
 some (0, h7))) fun j5 =>
 (if (decide (n_1 < 0)) = true then
 j5 s_0 n_1 true h
 else
 j5 s_0 n_1 (decide (n_1 > 1048576)) h)
noncomputable def r_store_Store_Fail : RCode := an (.s .n (.s (.s (.j [(0, .p), (1, .i .i64), (10, .b)] .n) .n) .n)) (rOf Tryd.prog 0 Tryd.f9)
noncomputable def e_store_Store_Fail (k : Nat) (D : CallF) : Ent := entOf 9 [(0, .p), (1, .i .i64)] [(4, .i .i64)] (store_Store_Fail k D)
theorem q_store_Store_Fail : (Tryd.f9.body).bind (rcodeOf Tryd.prog 0 Tryd.f9.ntmps) = some (strip r_store_Store_Fail) := by kernel_rfl
theorem t_store_Store_Fail (k : Nat) (D : CallF) : curF [(0, .p), (1, .i .i64)] (fun args h => denF (C_store_Store_Fail k D) k r_store_Store_Fail [(4, .i .i64)] [none] args h) = store_Store_Fail k D := by kernel_rfl
theorem ok_store_Store_Fail {D : CallF} (hD : CSound Tryd.prog 0 D) (k : Nat) : EntOk Tryd.prog 0 (e_store_Store_Fail k D) :=
 entOf_ok2 (mkC_sound hD (EntsOk.none)) Tryd.func9 rfl q_store_Store_Fail rfl (t_store_Store_Fail k D)
end Gk
namespace Gk
open Go Gx Go.Proofs
set_option maxRecDepth 100000
noncomputable def C_law07_works (k : Nat) (D : CallF) : CallF := mkC D [e_store_New k D, e_store_Store_Do k D]
noncomputable def law07_works (k : Nat) (D : CallF)  (h : AHeap) : Option ((Bool) × AHeap) :=
 (store_New k D 4 h).bind fun r1 =>
 joinK (fun (s2 : Option Addr) (y3 : Bool) (h4 : AHeap) =>
 (if y3 = true then
 some (false, h4)
 else
 (store_Store_Do k D s2 (0, 1, (⟨#[97]⟩ : ByteArray), (⟨#[98, 99, 100]⟩ : ByteArray)) h4).bind fun r6 =>
 let h7 := AHeap.new r6.2 (.cells [.int .i64 0, .string ⟨#[]⟩, .slice none 0 0] 37 true 0)
 (stL 3 (⟨r6.2.next, 0, none⟩ : Addr) ([.int .i64 r6.1.1, .string r6.1.2.1, .slice r6.1.2.2.a r6.1.2.2.len r6.1.2.2.cap]) h7).bind fun h8 =>
 (store_Store_Do k D s2 (0, 1, (⟨#[97]⟩ : ByteArray), (⟨#[98, 99, 100, 101]⟩ : ByteArray)) h8).bind fun r9 =>
 let h10 := AHeap.new r9.2 (.cells [.int .i64 0, .string ⟨#[]⟩, .slice none 0 0] 37 true 0)
 (stL 3 (⟨r9.2.next, 0, none⟩ : Addr) ([.int .i64 r9.1.1, .string r9.1.2.1, .slice r9.1.2.2.a r9.1.2.2.len r9.1.2.2.cap]) h10).bind fun h11 =>
 (store_Store_Do k D s2 (0, 2, (⟨#[97]⟩ : ByteArray), (⟨#[]⟩ : ByteArray)) h11).bind fun r12 =>
 let h13 := AHeap.new r12.2 (.cells [.int .i64 0, .string ⟨#[]⟩, .slice none 0 0] 37 true 0)
 (stL 3 (⟨r12.2.next, 0, none⟩ : Addr) ([.int .i64 r12.1.1, .string r12.1.2.1, .slice r12.1.2.2.a r12.1.2.2.len r12.1.2.2.cap]) h13).bind fun h14 =>
 (ldI .i64 (⟨r6.2.next, 0, none⟩ : Addr) h14).bind fun x15 =>
 (if (x15 == 0) = true then
 (ldI .i64 (⟨r9.2.next, 0, none⟩ : Addr) h14).bind fun x16 =>
 (if (x16 == 71) = true then
 (ldI .i64 (⟨r12.2.next, 0, none⟩ : Addr) h14).bind fun x17 =>
 (if (x17 == 0) = true then
 (ldS (⟨r12.2.next, 1, none⟩ : Addr) h14).bind fun x18 =>
 some ((x18 == (⟨#[98, 99, 100]⟩ : ByteArray)), h14)
 else
 some (false, h14))
 else
 some (false, h14))
 else
 some (false, h14)))) fun j5 =>
 (if r1.1.1.isNone = true then
 j5 r1.1.1 true r1.2
 else
 j5 r1.1.1 (r1.1.2 != 0) r1.2)
noncomputable def r_law07_works : RCode := an (.s .n (.s .n (.s (.s (.j [(1, .p), (15, .b)] .n) .n) .n))) (rOf Tryd.prog 0 Tryd.f7)
noncomputable def e_law07_works (k : Nat) (D : CallF) : Ent := entOf 7 [] [(0, .b)] (law07_works k D)
theorem q_law07_works : (Tryd.f7.body).bind (rcodeOf Tryd.prog 0 Tryd.f7.ntmps) = some (strip r_law07_works) := by kernel_rfl
theorem t_law07_works (k : Nat) (D : CallF) : curF [] (fun args h => denF (C_law07_works k D) k r_law07_works [(0, .b)] [none] args h) = law07_works k D := by kernel_rfl
theorem ok_law07_works {D : CallF} (hD : CSound Tryd.prog 0 D) (k : Nat) : EntOk Tryd.prog 0 (e_law07_works k D) :=
 entOf_ok2 (mkC_sound hD (EntsOk.more (ok_store_New hD k) (EntsOk.more (ok_store_Store_Do hD k) (EntsOk.none)))) Tryd.func7 rfl q_law07_works rfl (t_law07_works k D)
end Gk
namespace Gk
open Go Gx Go.Proofs
set_option maxRecDepth 100000
noncomputable def C_law07_StoreKeeps (k : Nat) (D : CallF) : CallF := mkC D [e_book_Among k D, e_store_New k D, e_store_Store_Used k D, e_store_Store_Names k D, e_strconv_Itoa k D, e_store_Store_Do k D, e_store_Store_Fail k D, e_law07_works k D]
noncomputable def law07_StoreKeeps_l0b (k : Nat) (D : CallF) (j14 : (Option Addr) → (Option Nat) → Int → AHeap → Option ((Bool) × AHeap)) (rec25 : Int → Slc → (Option Addr) → (Option Nat) → Int → Int → AHeap → Option ((Bool) × AHeap)) (quota18 : Int) (l19 : Slc) (s20 : Option Addr) (m21 : Option Nat) (used22 : Int) (i23 : Int) (h24 : AHeap) : Option ((Bool) × AHeap) :=
 joinK (fun (quota26 : Int) (l27 : Slc) (s28 : Option Addr) (m29 : Option Nat) (used30 : Int) (i31 : Int) (y32 : Bool) (h33 : AHeap) =>
 (if y32 = true then
 joinK (fun (quota35 : Int) (l36 : Slc) (s37 : Option Addr) (m38 : Option Nat) (used39 : Int) (i40 : Int) (h41 : AHeap) =>
 rec25 quota35 l36 s37 m38 used39 (IntKind.wrap .i64 (i40 + 1)) h41) fun j42 =>
 (Gx.idxL 4 l27 i31).bind fun q43 =>
 (ldA 4 q43 h33).bind fun l44 =>
 (decC [.i .i64, .i .i64, .s, .b] l44).bind fun x45 =>
 newK h33 ((.cells [.int .i64 0, .int .i64 0, .string ⟨#[]⟩, .bool false] 31 true 0)) fun h46 =>
 (stL 4 (⟨h33.next, 0, none⟩ : Addr) ([.int .i64 x45.1, .int .i64 x45.2.1, .string x45.2.2.1, .bool x45.2.2.2]) h46).bind fun h47 =>
 (ldI .i64 (⟨h33.next, 1, none⟩ : Addr) h47).bind fun x48 =>
 (book_Among k D x48 9 h47).bind fun r49 =>
 (itoaS r49.1).bind fun s50 =>
 (if (⟨#[110]⟩ : ByteArray).size + s50.size ≤ 9223372036854775807 then
 (ldS (⟨h33.next, 2, none⟩ : Addr) r49.2).bind fun x51 =>
 (if (decide ((x51.size : Int) > 100)) = true then
 j42 quota26 l27 s28 m29 used30 i31 r49.2
 else
 joinK (fun (quota52 : Int) (l53 : Slc) (s54 : Option Addr) (m55 : Option Nat) (used56 : Int) (i57 : Int) (x58 : Option Addr) (name59 : ByteArray) (h60 : AHeap) =>
 (lookE decS (.string ⟨#[]⟩) h60 m55 (.string name59)).bind fun p62 =>
 let h63 := AHeap.resv h60 2
 (x58).bind fun p64 =>
 (ldI .i64 (⟨p64.block, p64.off + 0, none⟩ : Addr) h63).bind fun x65 =>
 (book_Among k D x65 4 h63).bind fun r66 =>
 let h67 := AHeap.set r66.2 (h60.next + 0) (.cells [.int .i64 1, .int .i64 2, .int .i64 4, .int .i64 3] 3 true 0)
 (Gx.idxL 1 (⟨(some ⟨(h60.next + 0), 0, some 0⟩), 4, 4⟩ : Slc) r66.1).bind fun q68 =>
 (ldI .i64 q68 h67).bind fun x69 =>
 guardP (OwnW (h60.next + 0) h67 (fun H71 => (ldI .i64 q68 H71).bind fun y70 => some (.int .i64 y70)) (.int .i64 x69)) (
 (x58).bind fun p72 =>
 (ldS (⟨p72.block, p72.off + 2, none⟩ : Addr) h67).bind fun x73 =>
 guardP (SameW [r66.2, h63] (fun H75 => (ldS (⟨p72.block, p72.off + 2, none⟩ : Addr) H75).bind fun y74 => some (.string y74)) (.string x73)) (
 (store_Store_Do k D s54 (0, x69, name59, x73) h67).bind fun r76 =>
 let h77 := AHeap.set r76.2 (h60.next + 1) (.cells [.int .i64 0, .string ⟨#[]⟩, .slice none 0 0] 37 true 0)
 (stL 3 (⟨(h60.next + 1), 0, none⟩ : Addr) ([.int .i64 r76.1.1, .string r76.1.2.1, .slice r76.1.2.2.a r76.1.2.2.len r76.1.2.2.cap]) h77).bind fun h78 =>
 (x58).bind fun p79 =>
 (ldB (⟨p79.block, p79.off + 3, none⟩ : Addr) h78).bind fun x80 =>
 (if x80 = true then
 (ldI .i64 (⟨(h60.next + 1), 0, none⟩ : Addr) h78).bind fun x81 =>
 (if (x81 != 72) = true then
 some (false, h78)
 else
 j42 quota52 l53 s54 m55 used56 i57 h78)
 else
 (x58).bind fun p82 =>
 (ldI .i64 (⟨p82.block, p82.off + 0, none⟩ : Addr) h78).bind fun x83 =>
 (book_Among k D x83 4 h78).bind fun r84 =>
 (if (r84.1 == 0) = true then
 (x58).bind fun p85 =>
 (ldS (⟨p85.block, p85.off + 2, none⟩ : Addr) r84.2).bind fun x86 =>
 joinK (fun (quota87 : Int) (l88 : Slc) (s89 : Option Addr) (m90 : Option Nat) (used91 : Int) (i92 : Int) (x93 : Option Addr) (name94 : ByteArray) (r95 : Option Addr) (more96 : Int) (h97 : AHeap) =>
 joinK (fun (quota99 : Int) (l100 : Slc) (s101 : Option Addr) (m102 : Option Nat) (used103 : Int) (i104 : Int) (x105 : Option Addr) (name106 : ByteArray) (r107 : Option Addr) (more108 : Int) (y109 : Bool) (h110 : AHeap) =>
 (if y109 = true then
 some (false, h110)
 else
 (r107).bind fun p112 =>
 (ldI .i64 (⟨p112.block, p112.off + 0, none⟩ : Addr) h110).bind fun x113 =>
 (if (x113 == 0) = true then
 (x105).bind fun p114 =>
 (ldS (⟨p114.block, p114.off + 2, none⟩ : Addr) h110).bind fun x115 =>
 (m102).bind fun r117 =>
 (updE h110 r117 (.string name106) (.string x115)).bind fun h116 =>
 j42 quota99 l100 s101 m102 (IntKind.wrap .i64 (used103 + more108)) i104 h116
 else
 j42 quota99 l100 s101 m102 used103 i104 h110))) fun j111 =>
 (r95).bind fun p118 =>
 (ldI .i64 (⟨p118.block, p118.off + 0, none⟩ : Addr) h97).bind fun x119 =>
 (if (!((x119 == 71) == (decide ((IntKind.wrap .i64 (used91 + more96)) > quota87)))) = true then
 j111 quota87 l88 s89 m90 used91 i92 x93 name94 r95 more96 true h97
 else
 (r95).bind fun p120 =>
 (ldI .i64 (⟨p120.block, p120.off + 0, none⟩ : Addr) h97).bind fun x121 =>
 (if (x121 != 0) = true then
 (r95).bind fun p122 =>
 (ldI .i64 (⟨p122.block, p122.off + 0, none⟩ : Addr) h97).bind fun x123 =>
 j111 quota87 l88 s89 m90 used91 i92 x93 name94 r95 more96 (x123 != 71) h97
 else
 j111 quota87 l88 s89 m90 used91 i92 x93 name94 r95 more96 false h97))) fun j98 =>
 (if p62.2 = true then
 (x58).bind fun p124 =>
 (ldS (⟨p124.block, p124.off + 2, none⟩ : Addr) r84.2).bind fun x125 =>
 j98 quota52 l53 s54 m55 used56 i57 x58 name59 (some (⟨(h60.next + 1), 0, none⟩ : Addr)) (IntKind.wrap .i64 ((x125.size : Int) - (p62.1.size : Int))) r84.2
 else
 j98 quota52 l53 s54 m55 used56 i57 x58 name59 (some (⟨(h60.next + 1), 0, none⟩ : Addr)) (IntKind.wrap .i64 ((name59.size : Int) + (x86.size : Int))) r84.2)
 else
 (if (r84.1 == 1) = true then
 joinK (fun (quota126 : Int) (l127 : Slc) (s128 : Option Addr) (m129 : Option Nat) (used130 : Int) (i131 : Int) (y132 : Bool) (h133 : AHeap) =>
 (if y132 = true then
 some (false, h133)
 else
 j42 quota126 l127 s128 m129 used130 i131 h133)) fun j134 =>
 (ldI .i64 (⟨(h60.next + 1), 0, none⟩ : Addr) r84.2).bind fun x135 =>
 (if (!((x135 == 0) == p62.2)) = true then
 j134 quota52 l53 s54 m55 used56 i57 true r84.2
 else
 (ldS (⟨(h60.next + 1), 1, none⟩ : Addr) r84.2).bind fun x136 =>
 j134 quota52 l53 s54 m55 used56 i57 (!(x136 == p62.1)) r84.2)
 else
 (if (r84.1 == 2) = true then
 (ldI .i64 (⟨(h60.next + 1), 0, none⟩ : Addr) r84.2).bind fun x137 =>
 (if (!((x137 == 0) == p62.2)) = true then
 some (false, r84.2)
 else
 (if p62.2 = true then
 let t138 : Int := (IntKind.wrap .i64 ((name59.size : Int) + (p62.1.size : Int)))
 (delM r84.2 m55 (.string name59)).bind fun h139 =>
 j42 quota52 l53 s54 m55 (IntKind.wrap .i64 (used56 - t138)) i57 h139
 else
 j42 quota52 l53 s54 m55 used56 i57 r84.2))
 else
 joinK (fun (quota140 : Int) (l141 : Slc) (s142 : Option Addr) (m143 : Option Nat) (used144 : Int) (i145 : Int) (y146 : Bool) (h147 : AHeap) =>
 (if y146 = true then
 some (false, h147)
 else
 j42 quota140 l141 s142 m143 used144 i145 h147)) fun j148 =>
 (ldL (⟨(h60.next + 1), 2, none⟩ : Addr) r84.2).bind fun x149 =>
 (if (!(((x149.len : Int) == 1) == p62.2)) = true then
 j148 quota52 l53 s54 m55 used56 i57 true r84.2
 else
 (ldI .i64 (⟨(h60.next + 1), 0, none⟩ : Addr) r84.2).bind fun x150 =>
 j148 quota52 l53 s54 m55 used56 i57 (x150 != 0) r84.2)))))))) fun j61 =>
 (ldB (⟨h33.next, 3, none⟩ : Addr) r49.2).bind fun x151 =>
 (if x151 = true then
 (store_Store_Fail k D s28 1 r49.2).bind fun r152 =>
 j61 quota26 l27 s28 m29 used30 i31 (some (⟨h33.next, 0, none⟩ : Addr)) ((⟨#[110]⟩ : ByteArray) ++ s50) r152.2
 else
 j61 quota26 l27 s28 m29 used30 i31 (some (⟨h33.next, 0, none⟩ : Addr)) ((⟨#[110]⟩ : ByteArray) ++ s50) r49.2))
 else none)
 else
 j14 s28 m29 used30 h33)) fun j34 =>
 (if (decide (i23 < (l19.len : Int))) = true then
 j34 quota18 l19 s20 m21 used22 i23 (decide (i23 < 50)) h24
 else
 j34 quota18 l19 s20 m21 used22 i23 false h24)
noncomputable def law07_StoreKeeps_l0 (k : Nat) (D : CallF) (j14 : (Option Addr) → (Option Nat) → Int → AHeap → Option ((Bool) × AHeap)) : Int → Slc → (Option Addr) → (Option Nat) → Int → Int → AHeap → Option ((Bool) × AHeap) :=
 iterK (α := Int → Slc → (Option Addr) → (Option Nat) → Int → Int → AHeap → Option ((Bool) × AHeap)) (fun _ _ _ _ _ _ _ => none) k (law07_StoreKeeps_l0b k D j14)
noncomputable def law07_StoreKeeps (k : Nat) (D : CallF) (quota_0 : Int) (l_1 : Slc) (h : AHeap) : Option ((Bool) × AHeap) :=
 (book_Among k D quota_0 500 h).bind fun r1 =>
 (store_New k D r1.1 r1.2).bind fun r2 =>
 joinK (fun (quota3 : Int) (l4 : Slc) (s5 : Option Addr) (y6 : Bool) (h7 : AHeap) =>
 (if y6 = true then
 some (false, h7)
 else
 newK h7 ((.map [] 0)) fun h9 =>
 joinK (fun (s10 : Option Addr) (m11 : Option Nat) (used12 : Int) (h13 : AHeap) =>
 (store_Store_Used k D s10 h13).bind fun r15 =>
 (if (r15.1 == used12) = true then
 (store_Store_Names k D s10 r15.2).bind fun r16 =>
 (lenMap r16.2 m11).bind fun n17 =>
 some (((r16.1.len : Int) == (n17 : Int)), r16.2)
 else
 some (false, r15.2))) fun j14 =>
 law07_StoreKeeps_l0 k D j14 quota3 l4 s5 (some h7.next) 0 0 h9)) fun j8 =>
 (if r2.1.1.isNone = true then
 j8 r1.1 l_1 r2.1.1 true r2.2
 else
 (if (r2.1.2 != 0) = true then
 j8 r1.1 l_1 r2.1.1 true r2.2
 else
 (law07_works k D r2.2).bind fun r153 =>
 j8 r1.1 l_1 r2.1.1 (!r153.1) r153.2))
noncomputable def r_law07_StoreKeeps : RCode := an (.s .n (.s .n (.s .n (.s (.s (.j [(0, .i .i64), (1, .l), (5, .p), (32, .b)] .n) .n) (.s .n (.s .n (.s (.j [(5, .p), (7, .m), (8, .i .i64)] (.s .n (.b (.l [(0, .i .i64), (1, .l), (5, .p), (7, .m), (8, .i .i64), (9, .i .i64)] (.s (.s (.j [(0, .i .i64), (1, .l), (5, .p), (7, .m), (8, .i .i64), (9, .i .i64), (41, .b)] .n) .n) (.s (.j [(0, .i .i64), (1, .l), (5, .p), (7, .m), (8, .i .i64), (9, .i .i64)] (.b (.s (.r [(3, .st [.i .i64, .i .i64, .s, .b])]) (.s .n (.s .n (.s (.j [(0, .i .i64), (1, .l), (5, .p), (7, .m), (8, .i .i64), (9, .i .i64), (10, .p), (11, .s)] .n) (.s .n (.s .n (.s .n (.s .n (.b (.s .n (.s (.s .n (.s (.j [(0, .i .i64), (1, .l), (5, .p), (7, .m), (8, .i .i64), (9, .i .i64), (10, .p), (11, .s), (14, .p), (15, .i .i64)] .n) (.s (.s (.j [(0, .i .i64), (1, .l), (5, .p), (7, .m), (8, .i .i64), (9, .i .i64), (10, .p), (11, .s), (14, .p), (15, .i .i64), (131, .b)] .n) .n) .n))) (.s .n (.s (.s (.j [(0, .i .i64), (1, .l), (5, .p), (7, .m), (8, .i .i64), (9, .i .i64), (154, .b)] .n) .n) (.s .n (.s .n (.s (.j [(0, .i .i64), (1, .l), (5, .p), (7, .m), (8, .i .i64), (9, .i .i64), (97, .b)] .n) .n)))))))))))))))))) .n)))))) .n))))))) (rOf Tryd.prog 0 Tryd.f3)
noncomputable def e_law07_StoreKeeps (k : Nat) (D : CallF) : Ent := entOf 3 [(0, .i .i64), (1, .l)] [(4, .b)] (law07_StoreKeeps k D)
theorem q_law07_StoreKeeps : (Tryd.f3.body).bind (rcodeOf Tryd.prog 0 Tryd.f3.ntmps) = some (strip r_law07_StoreKeeps) := by kernel_rfl
theorem t_law07_StoreKeeps (k : Nat) (D : CallF) : curF [(0, .i .i64), (1, .l)] (fun args h => denF (C_law07_StoreKeeps k D) k r_law07_StoreKeeps [(4, .b)] [none] args h) = law07_StoreKeeps k D := by kernel_rfl
theorem ok_law07_StoreKeeps {D : CallF} (hD : CSound Tryd.prog 0 D) (k : Nat) : EntOk Tryd.prog 0 (e_law07_StoreKeeps k D) :=
 entOf_ok2 (mkC_sound hD (EntsOk.more (ok_book_Among hD k) (EntsOk.more (ok_store_New hD k) (EntsOk.more (ok_store_Store_Used hD k) (EntsOk.more (ok_store_Store_Names hD k) (EntsOk.more (ok_strconv_Itoa hD k) (EntsOk.more (ok_store_Store_Do hD k) (EntsOk.more (ok_store_Store_Fail hD k) (EntsOk.more (ok_law07_works hD k) (EntsOk.none)))))))))) Tryd.func3 rfl q_law07_StoreKeeps rfl (t_law07_StoreKeeps k D)
end Gk
