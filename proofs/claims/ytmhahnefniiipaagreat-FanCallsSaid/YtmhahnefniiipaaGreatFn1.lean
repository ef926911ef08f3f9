import Derived.Test.YtmhahnefniiipaaGreatProg
import Derived.Shelf.SlIter.Nil
import Derived.Shelf.SortM.Plain
import Derived.Shelf.SortM.SortNone
import Derived.KernelRfl
import Derived.Test.YtmhahnefniiipaaGreatGx3
namespace Gt
open Go Gx Go.Proofs
set_option maxRecDepth 100000
noncomputable def C_store_New (_k : Nat) (D : CallF) : CallF := mkC D []
noncomputable def store_New (_k : Nat) (_D : CallF) (quota_0 : Int) (h : AHeap) : Option (((Option Addr) × Int) × AHeap) :=
 joinK (fun (quota1 : Int) (y2 : Bool) (h3 : AHeap) =>
 (if y2 = true then
 some ((none, 1), h3)
 else
 let h5 := AHeap.new h3 (.map [] 0)
 let h6 := AHeap.new h5 (.cells [.int .i64 quota1, .int .i64 0, .int .i64 0, .bool false, .map (some h3.next), .int .i64 0] 83 true 0)
 some (((some (⟨h5.next, 0, none⟩ : Addr)), 0), h6))) fun j4 =>
 (if (decide (quota_0 < 0)) = true then
 j4 quota_0 true h
 else
 j4 quota_0 (decide (quota_0 > 1073741824)) h)
noncomputable def r_store_New : RCode := an (.s .n (.s (.s (.j [(0, .i .i64), (9, .b)] .n) .n) .n)) (rOf Tryz.prog 0 Tryz.f6)
noncomputable def e_store_New (k : Nat) (D : CallF) : Ent := entOf 6 [(0, .i .i64)] [(2, .p), (3, .i .i64)] (store_New k D)
theorem q_store_New : (Tryz.f6.body).bind (rcodeOf Tryz.prog 0 Tryz.f6.ntmps) = some (strip r_store_New) := by kernel_rfl
theorem t_store_New (k : Nat) (D : CallF) : curF [(0, .i .i64)] (fun args h => denF (C_store_New k D) k r_store_New [(2, .p), (3, .i .i64)] [none, none] args h) = store_New k D := by kernel_rfl
theorem ok_store_New {D : CallF} (hD : CSound Tryz.prog 0 D) (k : Nat) : EntOk Tryz.prog 0 (e_store_New k D) :=
 entOf_ok2 (mkC_sound hD (EntsOk.none)) Tryz.func6 rfl q_store_New rfl (t_store_New k D)
end Gt
namespace Gt
open Go Gx Go.Proofs
set_option maxRecDepth 100000
noncomputable def C_law09_yard (k : Nat) (D : CallF) : CallF := mkC D [e_store_New k D]
noncomputable def law09_yard_l0b (k : Nat) (D : CallF) (j3 : Slc → AHeap → Option ((Slc) × AHeap)) (rec8 : Slc → Int → Int → AHeap → Option ((Slc) × AHeap)) (out4 : Slc) (y5 : Int) (y6 : Int) (h7 : AHeap) : Option ((Slc) × AHeap) :=
 (if (decide (y6 < y5)) = true then
 (store_New k D 1048576 h7).bind fun r9 =>
 (if (r9.1.2 != 0) = true then
 some ((⟨none, 0, 0⟩ : Slc), r9.2)
 else
 newK r9.2 ((.cells [.pointer r9.1.1] 26 true 0)) fun h10 =>
 (rdS 1 (⟨(some ⟨r9.2.next, 0, some 0⟩), 1, 1⟩ : Slc) h10).bind fun n12 =>
 (appendA 1 8 26 h10 out4 n12 1).bind fun r11 =>
 rec8 r11.1 y5 (IntKind.wrap .i64 (y6 + 1)) r11.2)
 else
 j3 out4 h7)
noncomputable def law09_yard_l0 (k : Nat) (D : CallF) (j3 : Slc → AHeap → Option ((Slc) × AHeap)) : Slc → Int → Int → AHeap → Option ((Slc) × AHeap) :=
 iterK (α := Slc → Int → Int → AHeap → Option ((Slc) × AHeap)) (fun _ _ _ _ => none) k (law09_yard_l0b k D j3)
noncomputable def law09_yard (k : Nat) (D : CallF) (n_0 : Int) (h : AHeap) : Option ((Slc) × AHeap) :=
 joinK (fun (out1 : Slc) (h2 : AHeap) =>
 some (out1, h2)) fun j3 =>
 law09_yard_l0 k D j3 (⟨none, 0, 0⟩ : Slc) n_0 0 h
noncomputable def r_law09_yard : RCode := an (.s .n (.s .n (.s (.j [(3, .l)] (.s .n (.b (.l [(3, .l), (6, .i .i64), (7, .i .i64)] .n)))) .n))) (rOf Tryz.prog 0 Tryz.f26)
noncomputable def e_law09_yard (k : Nat) (D : CallF) : Ent := entOf 26 [(0, .i .i64)] [(2, .l)] (law09_yard k D)
theorem q_law09_yard : (Tryz.f26.body).bind (rcodeOf Tryz.prog 0 Tryz.f26.ntmps) = some (strip r_law09_yard) := by kernel_rfl
theorem t_law09_yard (k : Nat) (D : CallF) : curF [(0, .i .i64)] (fun args h => denF (C_law09_yard k D) k r_law09_yard [(2, .l)] [none] args h) = law09_yard k D := by kernel_rfl
theorem ok_law09_yard {D : CallF} (hD : CSound Tryz.prog 0 D) (k : Nat) : EntOk Tryz.prog 0 (e_law09_yard k D) :=
 entOf_ok2 (mkC_sound hD (EntsOk.more (ok_store_New hD k) (EntsOk.none))) Tryz.func26 rfl q_law09_yard rfl (t_law09_yard k D)
end Gt
namespace Gt
open Go Gx Go.Proofs
set_option maxRecDepth 100000
noncomputable def C_slices_Clone_string_string (_k : Nat) (D : CallF) : CallF := mkC D []
noncomputable def slices_Clone_string_string (_k : Nat) (_D : CallF) (s_0 : Slc) (h : AHeap) : Option ((Slc) × AHeap) :=
 (if s_0.a.isNone = true then
 some ((⟨none, 0, 0⟩ : Slc), h)
 else
 let h1 := AHeap.new h (.cells [] 9 true 0)
 (rdS 1 s_0 h1).bind fun n3 =>
 (appendA 1 16 9 h1 (⟨(some ⟨h.next, 0, some 0⟩), 0, 0⟩ : Slc) n3 s_0.len).bind fun r2 =>
 some (r2.1, r2.2))
noncomputable def r_slices_Clone_string_string : RCode := an (.n) (rOf Tryz.prog 0 Tryz.f53)
noncomputable def e_slices_Clone_string_string (k : Nat) (D : CallF) : Ent := entOf 53 [(0, .l)] [(2, .l)] (slices_Clone_string_string k D)
theorem q_slices_Clone_string_string : (Tryz.f53.body).bind (rcodeOf Tryz.prog 0 Tryz.f53.ntmps) = some (strip r_slices_Clone_string_string) := by kernel_rfl
theorem t_slices_Clone_string_string (k : Nat) (D : CallF) : curF [(0, .l)] (fun args h => denF (C_slices_Clone_string_string k D) k r_slices_Clone_string_string [(2, .l)] [none] args h) = slices_Clone_string_string k D := by kernel_rfl
theorem ok_slices_Clone_string_string {D : CallF} (hD : CSound Tryz.prog 0 D) (k : Nat) : EntOk Tryz.prog 0 (e_slices_Clone_string_string k D) :=
 entOf_ok2 (mkC_sound hD (EntsOk.none)) Tryz.func53 rfl q_slices_Clone_string_string rfl (t_slices_Clone_string_string k D)
end Gt
namespace Gt
open Go Gx Go.Proofs
set_option maxRecDepth 100000
noncomputable def C_port_Job_settle (_k : Nat) (D : CallF) : CallF := mkC D []
noncomputable def port_Job_settle (_k : Nat) (_D : CallF) (j_0 : Option Addr) (h : AHeap) : Option ((Unit) × AHeap) :=
 (j_0).bind fun p1 =>
 (ldP (⟨p1.block, p1.off + 0, none⟩ : Addr) h).bind fun x2 =>
 (x2).bind fun p3 =>
 (ldV (⟨p3.block, p3.off + 4, none⟩ : Addr) h).bind fun x4 =>
 (Gx.isNil .f x4).bind fun r5 =>
 (if r5 = true then
 (j_0).bind fun p6 =>
 (ldP (⟨p6.block, p6.off + 0, none⟩ : Addr) h).bind fun x7 =>
 (x7).bind fun p8 =>
 (st1 (⟨p8.block, p8.off + 5, none⟩ : Addr) (.bool true) h).bind fun h9 =>
 some ((), h9)
 else
 some ((), h))
noncomputable def r_port_Job_settle : RCode := an (.n) (rOf Tryz.prog 0 Tryz.f31)
noncomputable def e_port_Job_settle (k : Nat) (D : CallF) : Ent := entOf 31 [(0, .p)] [] (port_Job_settle k D)
theorem q_port_Job_settle : (Tryz.f31.body).bind (rcodeOf Tryz.prog 0 Tryz.f31.ntmps) = some (strip r_port_Job_settle) := by kernel_rfl
theorem t_port_Job_settle (k : Nat) (D : CallF) : curF [(0, .p)] (fun args h => denF (C_port_Job_settle k D) k r_port_Job_settle [] [] args h) = port_Job_settle k D := by kernel_rfl
theorem ok_port_Job_settle {D : CallF} (hD : CSound Tryz.prog 0 D) (k : Nat) : EntOk Tryz.prog 0 (e_port_Job_settle k D) :=
 entOf_ok2 (mkC_sound hD (EntsOk.none)) Tryz.func31 rfl q_port_Job_settle rfl (t_port_Job_settle k D)
end Gt
namespace Gt
open Go Gx Go.Proofs
set_option maxRecDepth 100000
noncomputable def C_port_Start (k : Nat) (D : CallF) : CallF := mkC D [e_port_Job_settle k D]
noncomputable def port_Start (k : Nat) (D : CallF) (run_0 : Value) (h : AHeap) : Option (((Option Addr)) × AHeap) :=
 let h1 := AHeap.new h (.cells [.int .i64 0, .int .i64 0, .string (⟨#[]⟩ : ByteArray), .string (⟨#[]⟩ : ByteArray), .nilFunc, .bool false, .int .i64 0, .string (⟨#[]⟩ : ByteArray), .int .i64 0, .slice none 0 0, .slice none 0 0, .slice none 0 0, .slice none 0 0, .int .i64 0] 89 true 0)
 let h2 := AHeap.new h1 (.cells [.pointer (some (⟨h.next, 0, none⟩ : Addr))] 91 true 0)
 joinK (fun (j3 : Option Addr) (h4 : AHeap) =>
 (port_Job_settle k D j3 h4).bind fun r6 =>
 some (j3, r6.2)) fun j5 =>
 (Gx.isNil .f run_0).bind fun r7 =>
 (if (!r7) = true then
 (ldP (⟨h1.next, 0, none⟩ : Addr) h2).bind fun x8 =>
 callD (C_port_Start k D) run_0 [.pointer x8] h2 fun _ h10 =>
 j5 (some (⟨h1.next, 0, none⟩ : Addr)) h10
 else
 j5 (some (⟨h1.next, 0, none⟩ : Addr)) h2)
noncomputable def r_port_Start : RCode := an (.s .n (.s .n (.s (.j [(3, .p)] .n) .n))) (rOf Tryz.prog 0 Tryz.f9)
noncomputable def e_port_Start (k : Nat) (D : CallF) : Ent := entOf 9 [(0, .v)] [(2, .p)] (port_Start k D)
theorem q_port_Start : (Tryz.f9.body).bind (rcodeOf Tryz.prog 0 Tryz.f9.ntmps) = some (strip r_port_Start) := by kernel_rfl
theorem t_port_Start (k : Nat) (D : CallF) : curF [(0, .v)] (fun args h => denF (C_port_Start k D) k r_port_Start [(2, .p)] [none] args h) = port_Start k D := by kernel_rfl
theorem ok_port_Start {D : CallF} (hD : CSound Tryz.prog 0 D) (k : Nat) : EntOk Tryz.prog 0 (e_port_Start k D) :=
 entOf_ok2 (mkC_sound hD (EntsOk.more (ok_port_Job_settle hD k) (EntsOk.none))) Tryz.func9 rfl q_port_Start rfl (t_port_Start k D)
end Gt
namespace Gt
open Go Gx Go.Proofs
set_option maxRecDepth 100000
noncomputable def C_fan_job (k : Nat) (D : CallF) : CallF := mkC D [e_port_Start k D]
noncomputable def fan_job (k : Nat) (D : CallF) (n_0 : Int) (run_1 : Value) (h : AHeap) : Option (((Option Addr)) × AHeap) :=
 newK h ((.cells [.int .i64 n_0] 3 true 0)) fun h1 =>
 newK h1 ((.cells run_1.cells.toList 47 true 0)) fun h2 =>
 (port_Start k D (.func (.func 89) ⟨[]⟩ ⟨[.pointer (some (⟨h.next, 0, none⟩ : Addr)), .pointer (some (⟨h1.next, 0, none⟩ : Addr))]⟩) h2).bind fun r3 =>
 some (r3.1, r3.2)
noncomputable def r_fan_job : RCode := an (.n) (rOf Tryz.prog 0 Tryz.f54)
noncomputable def e_fan_job (k : Nat) (D : CallF) : Ent := entOf 54 [(0, .i .i64), (1, .v)] [(4, .p)] (fan_job k D)
theorem q_fan_job : (Tryz.f54.body).bind (rcodeOf Tryz.prog 0 Tryz.f54.ntmps) = some (strip r_fan_job) := by kernel_rfl
theorem t_fan_job (k : Nat) (D : CallF) : curF [(0, .i .i64), (1, .v)] (fun args h => denF (C_fan_job k D) k r_fan_job [(4, .p)] [none] args h) = fan_job k D := by kernel_rfl
theorem ok_fan_job {D : CallF} (hD : CSound Tryz.prog 0 D) (k : Nat) : EntOk Tryz.prog 0 (e_fan_job k D) :=
 entOf_ok2 (mkC_sound hD (EntsOk.more (ok_port_Start hD k) (EntsOk.none))) Tryz.func54 rfl q_fan_job rfl (t_fan_job k D)
end Gt
namespace Gt
open Go Gx Go.Proofs
set_option maxRecDepth 100000
noncomputable def C_fan_PutJob (k : Nat) (D : CallF) : CallF := mkC D [e_slices_Clone_string_string k D, e_fan_job k D]
noncomputable def fan_PutJob (k : Nat) (D : CallF) (name_0 : ByteArray) (data_1 : Slc) (h : AHeap) : Option (((Option Addr)) × AHeap) :=
 newK h ((.cells [.string name_0] 9 true 0)) fun h1 =>
 newK h1 ((.cells [.slice data_1.a data_1.len data_1.cap] 22 true 0)) fun h2 =>
 (ldL (⟨h1.next, 0, none⟩ : Addr) h2).bind fun x3 =>
 (slices_Clone_string_string k D x3 h2).bind fun r4 =>
 (st1 (⟨h1.next, 0, none⟩ : Addr) (.slice r4.1.a r4.1.len r4.1.cap) r4.2).bind fun h5 =>
 (ldL (⟨h1.next, 0, none⟩ : Addr) h5).bind fun x6 =>
 (fan_job k D (x6.len : Int) (.func (.func 55) ⟨[]⟩ ⟨[.pointer (some (⟨h.next, 0, none⟩ : Addr)), .pointer (some (⟨h1.next, 0, none⟩ : Addr))]⟩) h5).bind fun r7 =>
 some (r7.1, r7.2)
noncomputable def r_fan_PutJob : RCode := an (.n) (rOf Tryz.prog 0 Tryz.f27)
noncomputable def e_fan_PutJob (k : Nat) (D : CallF) : Ent := entOf 27 [(0, .s), (1, .l)] [(4, .p)] (fan_PutJob k D)
theorem q_fan_PutJob : (Tryz.f27.body).bind (rcodeOf Tryz.prog 0 Tryz.f27.ntmps) = some (strip r_fan_PutJob) := by kernel_rfl
theorem t_fan_PutJob (k : Nat) (D : CallF) : curF [(0, .s), (1, .l)] (fun args h => denF (C_fan_PutJob k D) k r_fan_PutJob [(4, .p)] [none] args h) = fan_PutJob k D := by kernel_rfl
theorem ok_fan_PutJob {D : CallF} (hD : CSound Tryz.prog 0 D) (k : Nat) : EntOk Tryz.prog 0 (e_fan_PutJob k D) :=
 entOf_ok2 (mkC_sound hD (EntsOk.more (ok_slices_Clone_string_string hD k) (EntsOk.more (ok_fan_job hD k) (EntsOk.none)))) Tryz.func27 rfl q_fan_PutJob rfl (t_fan_PutJob k D)
end Gt
namespace Gt
open Go Gx Go.Proofs
set_option maxRecDepth 100000
noncomputable def C_port_Job_Over (_k : Nat) (D : CallF) : CallF := mkC D []
noncomputable def port_Job_Over (_k : Nat) (_D : CallF) (j_0 : Option Addr) (h : AHeap) : Option ((Bool) × AHeap) :=
 (j_0).bind fun p1 =>
 (ldP (⟨p1.block, p1.off + 0, none⟩ : Addr) h).bind fun x2 =>
 (x2).bind fun p3 =>
 (ldB (⟨p3.block, p3.off + 5, none⟩ : Addr) h).bind fun x4 =>
 some (x4, h)
noncomputable def r_port_Job_Over : RCode := an (.n) (rOf Tryz.prog 0 Tryz.f63)
noncomputable def e_port_Job_Over (k : Nat) (D : CallF) : Ent := entOf 63 [(0, .p)] [(2, .b)] (port_Job_Over k D)
theorem q_port_Job_Over : (Tryz.f63.body).bind (rcodeOf Tryz.prog 0 Tryz.f63.ntmps) = some (strip r_port_Job_Over) := by kernel_rfl
theorem t_port_Job_Over (k : Nat) (D : CallF) : curF [(0, .p)] (fun args h => denF (C_port_Job_Over k D) k r_port_Job_Over [(2, .b)] [none] args h) = port_Job_Over k D := by kernel_rfl
theorem ok_port_Job_Over {D : CallF} (hD : CSound Tryz.prog 0 D) (k : Nat) : EntOk Tryz.prog 0 (e_port_Job_Over k D) :=
 entOf_ok2 (mkC_sound hD (EntsOk.none)) Tryz.func63 rfl q_port_Job_Over rfl (t_port_Job_Over k D)
end Gt
namespace Gt
open Go Gx Go.Proofs
set_option maxRecDepth 100000
noncomputable def C_port_Job_Next (_k : Nat) (D : CallF) : CallF := mkC D []
noncomputable def port_Job_Next (_k : Nat) (_D : CallF) (j_0 : Option Addr) (h : AHeap) : Option (((Int × Int × ByteArray × ByteArray) × Bool) × AHeap) :=
 let h1 := AHeap.new h (.cells [.int .i64 0, .int .i64 0, .string ⟨#[]⟩, .string ⟨#[]⟩] 51 true 0)
 (j_0).bind fun p2 =>
 (ldP (⟨p2.block, p2.off + 0, none⟩ : Addr) h1).bind fun x3 =>
 (x3).bind fun p4 =>
 (ldB (⟨p4.block, p4.off + 5, none⟩ : Addr) h1).bind fun x5 =>
 (if x5 = true then
 (stL 4 (⟨h.next, 0, none⟩ : Addr) ([.int .i64 0, .int .i64 0, .string (⟨#[]⟩ : ByteArray), .string (⟨#[]⟩ : ByteArray)]) h1).bind fun h6 =>
 (ldA 4 (⟨h.next, 0, none⟩ : Addr) h6).bind fun l7 =>
 (decC [.i .i64, .i .i64, .s, .s] l7).bind fun x8 =>
 some (((x8.1, x8.2.1, x8.2.2.1, x8.2.2.2), false), h6)
 else
 (j_0).bind fun p9 =>
 (ldP (⟨p9.block, p9.off + 0, none⟩ : Addr) h1).bind fun x10 =>
 (x10).bind fun p11 =>
 (ldA 4 (⟨p11.block, p11.off + 0, none⟩ : Addr) h1).bind fun l12 =>
 (decC [.i .i64, .i .i64, .s, .s] l12).bind fun x13 =>
 (stL 4 (⟨h.next, 0, none⟩ : Addr) ([.int .i64 x13.1, .int .i64 x13.2.1, .string x13.2.2.1, .string x13.2.2.2]) h1).bind fun h14 =>
 (ldA 4 (⟨h.next, 0, none⟩ : Addr) h14).bind fun l15 =>
 (decC [.i .i64, .i .i64, .s, .s] l15).bind fun x16 =>
 some (((x16.1, x16.2.1, x16.2.2.1, x16.2.2.2), true), h14))
noncomputable def r_port_Job_Next : RCode := an (.s .n (.s .n (.s (.r [(6, .st [.i .i64, .i .i64, .s, .s])]) .n))) (rOf Tryz.prog 0 Tryz.f60)
noncomputable def e_port_Job_Next (k : Nat) (D : CallF) : Ent := entOf 60 [(0, .p)] [(2, .st [.i .i64, .i .i64, .s, .s]), (3, .b)] (port_Job_Next k D)
theorem q_port_Job_Next : (Tryz.f60.body).bind (rcodeOf Tryz.prog 0 Tryz.f60.ntmps) = some (strip r_port_Job_Next) := by kernel_rfl
theorem t_port_Job_Next (k : Nat) (D : CallF) : curF [(0, .p)] (fun args h => denF (C_port_Job_Next k D) k r_port_Job_Next [(2, .st [.i .i64, .i .i64, .s, .s]), (3, .b)] [some (.agg 4), none] args h) = port_Job_Next k D := by kernel_rfl
theorem ok_port_Job_Next {D : CallF} (hD : CSound Tryz.prog 0 D) (k : Nat) : EntOk Tryz.prog 0 (e_port_Job_Next k D) :=
 entOf_ok2 (mkC_sound hD (EntsOk.none)) Tryz.func60 rfl q_port_Job_Next rfl (t_port_Job_Next k D)
end Gt
namespace Gt
open Go Gx Go.Proofs
noncomputable def e_sync_atomic_AddInt64 (_k : Nat) (_D : CallF) : Ent := eAdd 128 .i64
theorem ok_sync_atomic_AddInt64 {D : CallF} (_hD : CSound Tryz.prog 0 D) (k : Nat) : EntOk Tryz.prog 0 (e_sync_atomic_AddInt64 k D) :=
 add_ok Tryz.func128 rfl rfl rfl .i64 (by kernel_rfl)
end Gt
namespace Gt
open Go Gx Go.Proofs
set_option maxRecDepth 100000
noncomputable def C_sync_atomic_Int64_Add (k : Nat) (D : CallF) : CallF := mkC D [e_sync_atomic_AddInt64 k D]
noncomputable def sync_atomic_Int64_Add (_k : Nat) (_D : CallF) (x_0 : Option Addr) (delta_1 : Int) (h : AHeap) : Option ((Int) × AHeap) :=
 (x_0).bind fun p1 =>
 (ldI .i64 (⟨p1.block, p1.off + 0, none⟩ : Addr) h).bind fun x2 =>
 (st1 (⟨p1.block, p1.off + 0, none⟩ : Addr) (.int .i64 (IntKind.wrap .i64 (x2 + delta_1))) h).bind fun h3 =>
 some ((IntKind.wrap .i64 (x2 + delta_1)), h3)
noncomputable def r_sync_atomic_Int64_Add : RCode := an (.n) (rOf Tryz.prog 0 Tryz.f108)
noncomputable def e_sync_atomic_Int64_Add (k : Nat) (D : CallF) : Ent := entOf 108 [(0, .p), (1, .i .i64)] [(4, .i .i64)] (sync_atomic_Int64_Add k D)
theorem q_sync_atomic_Int64_Add : (Tryz.f108.body).bind (rcodeOf Tryz.prog 0 Tryz.f108.ntmps) = some (strip r_sync_atomic_Int64_Add) := by kernel_rfl
theorem t_sync_atomic_Int64_Add (k : Nat) (D : CallF) : curF [(0, .p), (1, .i .i64)] (fun args h => denF (C_sync_atomic_Int64_Add k D) k r_sync_atomic_Int64_Add [(4, .i .i64)] [none] args h) = sync_atomic_Int64_Add k D := by kernel_rfl
theorem ok_sync_atomic_Int64_Add {D : CallF} (hD : CSound Tryz.prog 0 D) (k : Nat) : EntOk Tryz.prog 0 (e_sync_atomic_Int64_Add k D) :=
 entOf_ok2 (mkC_sound hD (EntsOk.more (ok_sync_atomic_AddInt64 hD k) (EntsOk.none))) Tryz.func108 rfl q_sync_atomic_Int64_Add rfl (t_sync_atomic_Int64_Add k D)
end Gt
namespace Gt
open Go Gx Go.Proofs
set_option maxRecDepth 100000
noncomputable def C_store_may (_k : Nat) (D : CallF) : CallF := mkC D []
noncomputable def store_may_l0b (_k : Nat) (_D : CallF) (j3 : ByteArray → AHeap → Option ((Bool) × AHeap)) (rec10 : ByteArray → Slc → Int → Int → AHeap → Option ((Bool) × AHeap)) (name5 : ByteArray) (y6 : Slc) (y7 : Int) (y8 : Int) (h9 : AHeap) : Option ((Bool) × AHeap) :=
 (if (decide (y8 < y7)) = true then
 (Gx.idxL 1 y6 y8).bind fun q11 =>
 (ldI .u8 q11 h9).bind fun x12 =>
 joinK (fun (name13 : ByteArray) (y14 : Slc) (y15 : Int) (y16 : Int) (y17 : Bool) (h18 : AHeap) =>
 (if y17 = true then
 some (false, h18)
 else
 rec10 name13 y14 y15 (IntKind.wrap .i64 (y16 + 1)) h18)) fun j19 =>
 (if (decide (x12 ≤ 32)) = true then
 j19 name5 y6 y7 y8 true h9
 else
 j19 name5 y6 y7 y8 (decide (x12 ≥ 127)) h9)
 else
 j3 name5 h9)
noncomputable def store_may_l0 (k : Nat) (D : CallF) (j3 : ByteArray → AHeap → Option ((Bool) × AHeap)) : ByteArray → Slc → Int → Int → AHeap → Option ((Bool) × AHeap) :=
 iterK (α := ByteArray → Slc → Int → Int → AHeap → Option ((Bool) × AHeap)) (fun _ _ _ _ _ => none) k (store_may_l0b k D j3)
noncomputable def store_may (k : Nat) (D : CallF) (name_0 : ByteArray) (h : AHeap) : Option ((Bool) × AHeap) :=
 joinK (fun (name1 : ByteArray) (h2 : AHeap) =>
 (if (!(name1 == (⟨#[]⟩ : ByteArray))) = true then
 some ((decide ((name1.size : Int) ≤ 96)), h2)
 else
 some (false, h2))) fun j3 =>
 let h4 := AHeap.new h (.cells (bytesL name_0) 5 true 0)
 store_may_l0 k D j3 name_0 (⟨(some ⟨h.next, 0, some 2⟩), name_0.size, name_0.size⟩ : Slc) (name_0.size : Int) 0 h4
noncomputable def r_store_may : RCode := an (.s .n (.s (.j [(0, .s)] (.s .n (.b (.l [(0, .s), (6, .l), (7, .i .i64), (8, .i .i64)] (.s .n (.s .n (.s (.b (.s .n (.s (.j [(0, .s), (6, .l), (7, .i .i64), (8, .i .i64), (17, .b)] .n) .n))) .n))))))) .n)) (rOf Tryz.prog 0 Tryz.f139)
noncomputable def e_store_may (k : Nat) (D : CallF) : Ent := entOf 139 [(0, .s)] [(2, .b)] (store_may k D)
theorem q_store_may : (Tryz.f139.body).bind (rcodeOf Tryz.prog 0 Tryz.f139.ntmps) = some (strip r_store_may) := by kernel_rfl
theorem t_store_may (k : Nat) (D : CallF) : curF [(0, .s)] (fun args h => denF (C_store_may k D) k r_store_may [(2, .b)] [none] args h) = store_may k D := by kernel_rfl
theorem ok_store_may {D : CallF} (hD : CSound Tryz.prog 0 D) (k : Nat) : EntOk Tryz.prog 0 (e_store_may k D) :=
 entOf_ok2 (mkC_sound hD (EntsOk.none)) Tryz.func139 rfl q_store_may rfl (t_store_may k D)
end Gt
namespace Gt
open Go Gx Go.Proofs
set_option maxRecDepth 100000
noncomputable def C_store_fits (k : Nat) (D : CallF) : CallF := mkC D [e_store_may k D]
noncomputable def store_fits (k : Nat) (D : CallF) (name_0 : ByteArray) (data_1 : ByteArray) (h : AHeap) : Option ((Int) × AHeap) :=
 (store_may k D name_0 h).bind fun r1 =>
 (if (!r1.1) = true then
 some (3, r1.2)
 else
 (if (decide ((data_1.size : Int) > 131072)) = true then
 some (2, r1.2)
 else
 some (0, r1.2)))
noncomputable def r_store_fits : RCode := an (.n) (rOf Tryz.prog 0 Tryz.f129)
noncomputable def e_store_fits (k : Nat) (D : CallF) : Ent := entOf 129 [(0, .s), (1, .s)] [(4, .i .i64)] (store_fits k D)
theorem q_store_fits : (Tryz.f129.body).bind (rcodeOf Tryz.prog 0 Tryz.f129.ntmps) = some (strip r_store_fits) := by kernel_rfl
theorem t_store_fits (k : Nat) (D : CallF) : curF [(0, .s), (1, .s)] (fun args h => denF (C_store_fits k D) k r_store_fits [(4, .i .i64)] [none] args h) = store_fits k D := by kernel_rfl
theorem ok_store_fits {D : CallF} (hD : CSound Tryz.prog 0 D) (k : Nat) : EntOk Tryz.prog 0 (e_store_fits k D) :=
 entOf_ok2 (mkC_sound hD (EntsOk.more (ok_store_may hD k) (EntsOk.none))) Tryz.func129 rfl q_store_fits rfl (t_store_fits k D)
end Gt
namespace Gt
open Go Gx Go.Proofs
set_option maxRecDepth 100000
noncomputable def C_store_Store_room (_k : Nat) (D : CallF) : CallF := mkC D []
noncomputable def store_Store_room (_k : Nat) (_D : CallF) (s_0 : Option Addr) (name_1 : ByteArray) (h : AHeap) : Option ((Int) × AHeap) :=
 (s_0).bind fun p1 =>
 (ldM (⟨p1.block, p1.off + 4, none⟩ : Addr) h).bind fun x2 =>
 (lookE decS (.string ⟨#[]⟩) h x2 (.string name_1)).bind fun p3 =>
 (if p3.2 = true then
 let t4 : Int := (IntKind.wrap .i64 ((name_1.size : Int) + (p3.1.size : Int)))
 some (t4, h)
 else
 some (0, h))
noncomputable def r_store_Store_room : RCode := an (.n) (rOf Tryz.prog 0 Tryz.f130)
noncomputable def e_store_Store_room (k : Nat) (D : CallF) : Ent := entOf 130 [(0, .p), (1, .s)] [(4, .i .i64)] (store_Store_room k D)
theorem q_store_Store_room : (Tryz.f130.body).bind (rcodeOf Tryz.prog 0 Tryz.f130.ntmps) = some (strip r_store_Store_room) := by kernel_rfl
theorem t_store_Store_room (k : Nat) (D : CallF) : curF [(0, .p), (1, .s)] (fun args h => denF (C_store_Store_room k D) k r_store_Store_room [(4, .i .i64)] [none] args h) = store_Store_room k D := by kernel_rfl
theorem ok_store_Store_room {D : CallF} (hD : CSound Tryz.prog 0 D) (k : Nat) : EntOk Tryz.prog 0 (e_store_Store_room k D) :=
 entOf_ok2 (mkC_sound hD (EntsOk.none)) Tryz.func130 rfl q_store_Store_room rfl (t_store_Store_room k D)
end Gt
namespace Gt
open Go Gx Go.Proofs
set_option maxRecDepth 100000
noncomputable def C_store_Store_lay (k : Nat) (D : CallF) : CallF := mkC D [e_store_Store_room k D]
noncomputable def store_Store_lay (k : Nat) (D : CallF) (s_0 : Option Addr) (name_1 : ByteArray) (data_2 : ByteArray) (h : AHeap) : Option ((Unit) × AHeap) :=
 (store_Store_room k D s_0 name_1 h).bind fun r1 =>
 (s_0).bind fun p2 =>
 (ldI .i64 (⟨p2.block, p2.off + 1, none⟩ : Addr) r1.2).bind fun x3 =>
 guardP (SameW [h] (fun H5 => (ldI .i64 (⟨p2.block, p2.off + 1, none⟩ : Addr) H5).bind fun y4 => some (.int .i64 y4)) (.int .i64 x3)) (
 let t6 : Int := (IntKind.wrap .i64 ((name_1.size : Int) + (data_2.size : Int)))
 (s_0).bind fun p7 =>
 (st1 (⟨p7.block, p7.off + 1, none⟩ : Addr) (.int .i64 (IntKind.wrap .i64 (x3 + (IntKind.wrap .i64 (t6 - r1.1))))) r1.2).bind fun h8 =>
 (s_0).bind fun p9 =>
 (ldM (⟨p9.block, p9.off + 4, none⟩ : Addr) h8).bind fun x10 =>
 (x10).bind fun r12 =>
 (updE h8 r12 (.string name_1) (.string data_2)).bind fun h11 =>
 some ((), h11))
noncomputable def r_store_Store_lay : RCode := an (.n) (rOf Tryz.prog 0 Tryz.f131)
noncomputable def e_store_Store_lay (k : Nat) (D : CallF) : Ent := entOf 131 [(0, .p), (1, .s), (2, .s)] [] (store_Store_lay k D)
theorem q_store_Store_lay : (Tryz.f131.body).bind (rcodeOf Tryz.prog 0 Tryz.f131.ntmps) = some (strip r_store_Store_lay) := by kernel_rfl
theorem t_store_Store_lay (k : Nat) (D : CallF) : curF [(0, .p), (1, .s), (2, .s)] (fun args h => denF (C_store_Store_lay k D) k r_store_Store_lay [] [] args h) = store_Store_lay k D := by kernel_rfl
theorem ok_store_Store_lay {D : CallF} (hD : CSound Tryz.prog 0 D) (k : Nat) : EntOk Tryz.prog 0 (e_store_Store_lay k D) :=
 entOf_ok2 (mkC_sound hD (EntsOk.more (ok_store_Store_room hD k) (EntsOk.none))) Tryz.func131 rfl q_store_Store_lay rfl (t_store_Store_lay k D)
end Gt
namespace Gt
open Go Gx Go.Proofs
set_option maxRecDepth 100000
noncomputable def C_store_Store_put (k : Nat) (D : CallF) : CallF := mkC D [e_store_fits k D, e_store_Store_room k D, e_store_Store_lay k D]
noncomputable def store_Store_put (k : Nat) (D : CallF) (s_0 : Option Addr) (name_1 : ByteArray) (data_2 : ByteArray) (h : AHeap) : Option ((Int) × AHeap) :=
 (store_fits k D name_1 data_2 h).bind fun r1 =>
 (if (r1.1 != 0) = true then
 some (r1.1, r1.2)
 else
 (store_Store_room k D s_0 name_1 r1.2).bind fun r2 =>
 (s_0).bind fun p3 =>
 (ldI .i64 (⟨p3.block, p3.off + 1, none⟩ : Addr) r2.2).bind fun x4 =>
 guardP (SameW [r1.2] (fun H6 => (ldI .i64 (⟨p3.block, p3.off + 1, none⟩ : Addr) H6).bind fun y5 => some (.int .i64 y5)) (.int .i64 x4)) (
 let t7 : Int := (IntKind.wrap .i64 ((IntKind.wrap .i64 (x4 - r2.1)) + (name_1.size : Int)))
 (s_0).bind fun p8 =>
 (ldI .i64 (⟨p8.block, p8.off + 0, none⟩ : Addr) r2.2).bind fun x9 =>
 guardP (SameW [r1.2] (fun H11 => (ldI .i64 (⟨p8.block, p8.off + 0, none⟩ : Addr) H11).bind fun y10 => some (.int .i64 y10)) (.int .i64 x9)) (
 (if (decide ((IntKind.wrap .i64 (t7 + (data_2.size : Int))) > x9)) = true then
 some (71, r2.2)
 else
 (store_Store_lay k D s_0 name_1 data_2 r2.2).bind fun r12 =>
 some (0, r12.2)))))
noncomputable def r_store_Store_put : RCode := an (.n) (rOf Tryz.prog 0 Tryz.f109)
noncomputable def e_store_Store_put (k : Nat) (D : CallF) : Ent := entOf 109 [(0, .p), (1, .s), (2, .s)] [(6, .i .i64)] (store_Store_put k D)
theorem q_store_Store_put : (Tryz.f109.body).bind (rcodeOf Tryz.prog 0 Tryz.f109.ntmps) = some (strip r_store_Store_put) := by kernel_rfl
theorem t_store_Store_put (k : Nat) (D : CallF) : curF [(0, .p), (1, .s), (2, .s)] (fun args h => denF (C_store_Store_put k D) k r_store_Store_put [(6, .i .i64)] [none] args h) = store_Store_put k D := by kernel_rfl
theorem ok_store_Store_put {D : CallF} (hD : CSound Tryz.prog 0 D) (k : Nat) : EntOk Tryz.prog 0 (e_store_Store_put k D) :=
 entOf_ok2 (mkC_sound hD (EntsOk.more (ok_store_fits hD k) (EntsOk.more (ok_store_Store_room hD k) (EntsOk.more (ok_store_Store_lay hD k) (EntsOk.none))))) Tryz.func109 rfl q_store_Store_put rfl (t_store_Store_put k D)
end Gt
namespace Gt
open Go Gx Go.Proofs
set_option maxRecDepth 100000
noncomputable def C_maps_Keys_map_string_string_string_string (_k : Nat) (D : CallF) : CallF := mkC D []
noncomputable def maps_Keys_map_string_string_string_string (_k : Nat) (_D : CallF) (m_0 : Option Nat) (h : AHeap) : Option ((Value) × AHeap) :=
 let h1 := AHeap.new h (.cells [.map m_0] 76 true 0)
 some ((.func (.func 87) ⟨[]⟩ ⟨[.pointer (some (⟨h.next, 0, none⟩ : Addr))]⟩), h1)
noncomputable def r_maps_Keys_map_string_string_string_string : RCode := an (.n) (rOf Tryz.prog 0 Tryz.f51)
noncomputable def e_maps_Keys_map_string_string_string_string (k : Nat) (D : CallF) : Ent := entOf 51 [(0, .m)] [(2, .v)] (maps_Keys_map_string_string_string_string k D)
theorem q_maps_Keys_map_string_string_string_string : (Tryz.f51.body).bind (rcodeOf Tryz.prog 0 Tryz.f51.ntmps) = some (strip r_maps_Keys_map_string_string_string_string) := by kernel_rfl
theorem t_maps_Keys_map_string_string_string_string (k : Nat) (D : CallF) : curF [(0, .m)] (fun args h => denF (C_maps_Keys_map_string_string_string_string k D) k r_maps_Keys_map_string_string_string_string [(2, .v)] [none] args h) = maps_Keys_map_string_string_string_string k D := by kernel_rfl
theorem ok_maps_Keys_map_string_string_string_string {D : CallF} (hD : CSound Tryz.prog 0 D) (k : Nat) : EntOk Tryz.prog 0 (e_maps_Keys_map_string_string_string_string k D) :=
 entOf_ok2 (mkC_sound hD (EntsOk.none)) Tryz.func51 rfl q_maps_Keys_map_string_string_string_string rfl (t_maps_Keys_map_string_string_string_string k D)
end Gt
namespace Go.Proofs
open Go.Shelf Go.RowKit Go.Maps Go.Sort
def Tryz.keysA_ren : Go.Shelf.Ren := ⟨fun | 7 => 51 | 10 => 87 | n => n, fun | 23 => 76 | 26 => 9 | 3 => 9 | 28 => 107 | 0 => 0 | 27 => 106 | 33 => 135 | 4 => 4 | n => n, fun | n => n⟩
theorem Tryz.keysA : Go.Proofs.SlLaysZ.n7 Tryz.prog Tryz.keysA_ren := {
 mixed := by kernel_rfl
 f7 := ⟨Tryz.f51.name, by decide, Tryz.func51.trans (congrArg some (by kernel_rfl))⟩
 f10 := ⟨Tryz.f87.name, by decide, Tryz.func87.trans (congrArg some (by kernel_rfl))⟩
 t0 := Tryz.underlying0
 a0 := Tryz.isAgg0
 z0 := Tryz.sizeOf0
 v0 := Tryz.zeroValue0
 t4 := Tryz.underlying4
 a4 := Tryz.isAgg4
 z4 := Tryz.sizeOf4
 v4 := Tryz.zeroValue4
 t23 := Tryz.underlying76
 a23 := Tryz.isAgg76
 z23 := Tryz.sizeOf76
 v23 := Tryz.zeroValue76
 t26 := Tryz.underlying9
 a26 := Tryz.isAgg9
 z26 := Tryz.sizeOf9
 v26 := Tryz.zeroValue9
 t27 := Tryz.underlying106
 a27 := Tryz.isAgg106
 z27 := Tryz.sizeOf106
 v27 := Tryz.zeroValue106
 t28 := Tryz.underlying107
 a28 := Tryz.isAgg107
 z28 := Tryz.sizeOf107
 v28 := Tryz.zeroValue107
 t33 := Tryz.underlying135
 a33 := Tryz.isAgg135
 z33 := Tryz.sizeOf135
 v33 := Tryz.zeroValue135 }
def Tryz.sortedA_ren : Go.Shelf.Ren := ⟨fun | 6 => 50 | 8 => 85 | 9 => 86 | 11 => 104 | 13 => 106 | 12 => 105 | 23 => 126 | 24 => 127 | 14 => 117 | 15 => 118 | 16 => 119 | 17 => 120 | 18 => 121 | 19 => 122 | 20 => 123 | 21 => 124 | 22 => 125 | 25 => 133 | 26 => 134 | 27 => 135 | 28 => 136 | 29 => 137 | 30 => 138 | 31 => 141 | n => n, fun | 26 => 9 | 28 => 107 | 24 => 22 | 0 => 0 | 3 => 3 | 37 => 151 | 48 => 168 | 50 => 170 | 4 => 4 | 40 => 161 | 39 => 160 | 45 => 142 | 5 => 5 | 9 => 9 | 51 => 173 | 55 => 177 | 57 => 179 | 58 => 180 | 33 => 135 | n => n, fun | n => n⟩
theorem Tryz.sortedA : Go.Proofs.SlLaysZ.n6 Tryz.prog Tryz.sortedA_ren := {
 mixed := by kernel_rfl
 f6 := ⟨Tryz.f50.name, by decide, Tryz.func50.trans (congrArg some (by kernel_rfl))⟩
 f8 := ⟨Tryz.f85.name, by decide, Tryz.func85.trans (congrArg some (by kernel_rfl))⟩
 f11 := ⟨Tryz.f104.name, by decide, Tryz.func104.trans (congrArg some (by kernel_rfl))⟩
 t0 := Tryz.underlying0
 a0 := Tryz.isAgg0
 z0 := Tryz.sizeOf0
 v0 := Tryz.zeroValue0
 t24 := Tryz.underlying22
 a24 := Tryz.isAgg22
 z24 := Tryz.sizeOf22
 v24 := Tryz.zeroValue22
 t26 := Tryz.underlying9
 a26 := Tryz.isAgg9
 z26 := Tryz.sizeOf9
 v26 := Tryz.zeroValue9
 t28 := Tryz.underlying107
 a28 := Tryz.isAgg107
 z28 := Tryz.sizeOf107
 v28 := Tryz.zeroValue107
 i26 := by kernel_rfl }
def Tryz.sortA_ren : Go.Shelf.Ren := ⟨fun | 6 => 86 | 8 => 106 | 9 => 105 | 19 => 126 | 20 => 127 | 21 => 117 | 22 => 118 | 23 => 119 | 24 => 120 | 25 => 121 | 26 => 122 | 27 => 123 | 28 => 124 | 29 => 125 | 36 => 133 | 31 => 134 | 32 => 135 | 37 => 136 | 38 => 137 | 39 => 138 | 41 => 141 | n => n, fun | 27 => 22 | 29 => 9 | 3 => 3 | 32 => 151 | 26 => 22 | 0 => 0 | 44 => 168 | 46 => 170 | 4 => 4 | 36 => 161 | 35 => 160 | 41 => 142 | 5 => 5 | 9 => 9 | 53 => 173 | 57 => 177 | 63 => 179 | 64 => 180 | n => n, fun | n => n⟩
theorem Tryz.sortA : Go.Proofs.SlLaysM.n6 Tryz.prog Tryz.sortA_ren := {
 mixed := by kernel_rfl
 f6 := ⟨Tryz.f86.name, by decide, Tryz.func86.trans (congrArg some (by kernel_rfl))⟩
 f8 := Tryz.func106.trans (congrArg some (by kernel_rfl))
 f9 := ⟨Tryz.f105.name, by decide, Tryz.func105.trans (congrArg some (by kernel_rfl))⟩
 f19 := Tryz.func126.trans (congrArg some (by kernel_rfl))
 f20 := Tryz.func127.trans (congrArg some (by kernel_rfl))
 f21 := ⟨Tryz.f117.name, by decide, Tryz.func117.trans (congrArg some (by kernel_rfl))⟩
 f22 := ⟨Tryz.f118.name, by decide, Tryz.func118.trans (congrArg some (by kernel_rfl))⟩
 f23 := ⟨Tryz.f119.name, by decide, Tryz.func119.trans (congrArg some (by kernel_rfl))⟩
 f24 := ⟨Tryz.f120.name, by decide, Tryz.func120.trans (congrArg some (by kernel_rfl))⟩
 f25 := ⟨Tryz.f121.name, by decide, Tryz.func121.trans (congrArg some (by kernel_rfl))⟩
 f26 := ⟨Tryz.f122.name, by decide, Tryz.func122.trans (congrArg some (by kernel_rfl))⟩
 f27 := ⟨Tryz.f123.name, by decide, Tryz.func123.trans (congrArg some (by kernel_rfl))⟩
 f28 := ⟨Tryz.f124.name, by decide, Tryz.func124.trans (congrArg some (by kernel_rfl))⟩
 f29 := ⟨Tryz.f125.name, by decide, Tryz.func125.trans (congrArg some (by kernel_rfl))⟩
 f31 := Tryz.func134.trans (congrArg some (by kernel_rfl))
 f32 := Tryz.func135.trans (congrArg some (by kernel_rfl))
 f36 := ⟨Tryz.f133.name, by decide, Tryz.func133.trans (congrArg some (by kernel_rfl))⟩
 f37 := ⟨Tryz.f136.name, by decide, Tryz.func136.trans (congrArg some (by kernel_rfl))⟩
 f38 := ⟨Tryz.f137.name, by decide, Tryz.func137.trans (congrArg some (by kernel_rfl))⟩
 f39 := ⟨Tryz.f138.name, by decide, Tryz.func138.trans (congrArg some (by kernel_rfl))⟩
 f41 := ⟨Tryz.f141.name, by decide, Tryz.func141.trans (congrArg some (by kernel_rfl))⟩
 t0 := Tryz.underlying0
 a0 := Tryz.isAgg0
 z0 := Tryz.sizeOf0
 v0 := Tryz.zeroValue0
 t3 := Tryz.underlying3
 a3 := Tryz.isAgg3
 z3 := Tryz.sizeOf3
 v3 := Tryz.zeroValue3
 t4 := Tryz.underlying4
 a4 := Tryz.isAgg4
 z4 := Tryz.sizeOf4
 v4 := Tryz.zeroValue4
 t5 := Tryz.underlying5
 a5 := Tryz.isAgg5
 z5 := Tryz.sizeOf5
 v5 := Tryz.zeroValue5
 t9 := Tryz.underlying9
 a9 := Tryz.isAgg9
 z9 := Tryz.sizeOf9
 v9 := Tryz.zeroValue9
 t26 := Tryz.underlying22
 a26 := Tryz.isAgg22
 z26 := Tryz.sizeOf22
 v26 := Tryz.zeroValue22
 t27 := Tryz.underlying22
 a27 := Tryz.isAgg22
 z27 := Tryz.sizeOf22
 v27 := Tryz.zeroValue22
 t29 := Tryz.underlying9
 a29 := Tryz.isAgg9
 z29 := Tryz.sizeOf9
 v29 := Tryz.zeroValue9
 t32 := Tryz.underlying151
 a32 := Tryz.isAgg151
 z32 := Tryz.sizeOf151
 v32 := Tryz.zeroValue151
 t35 := Tryz.underlying160
 a35 := Tryz.isAgg160
 z35 := Tryz.sizeOf160
 v35 := Tryz.zeroValue160
 t36 := Tryz.underlying161
 a36 := Tryz.isAgg161
 z36 := Tryz.sizeOf161
 v36 := Tryz.zeroValue161
 t41 := Tryz.underlying142
 a41 := Tryz.isAgg142
 z41 := Tryz.sizeOf142
 v41 := Tryz.zeroValue142
 t44 := Tryz.underlying168
 a44 := Tryz.isAgg168
 z44 := Tryz.sizeOf168
 v44 := Tryz.zeroValue168
 t46 := Tryz.underlying170
 a46 := Tryz.isAgg170
 z46 := Tryz.sizeOf170
 v46 := Tryz.zeroValue170
 t53 := Tryz.underlying173
 a53 := Tryz.isAgg173
 z53 := Tryz.sizeOf173
 v53 := Tryz.zeroValue173
 t57 := Tryz.underlying177
 a57 := Tryz.isAgg177
 z57 := Tryz.sizeOf177
 v57 := Tryz.zeroValue177
 t63 := Tryz.underlying179
 a63 := Tryz.isAgg179
 z63 := Tryz.sizeOf179
 v63 := Tryz.zeroValue179
 t64 := Tryz.underlying180
 a64 := Tryz.isAgg180
 z64 := Tryz.sizeOf180
 v64 := Tryz.zeroValue180 }
def Tryz.keysB_ren : Go.Shelf.Ren := ⟨fun | 7 => 103 | 10 => 116 | n => n, fun | 23 => 146 | 26 => 9 | 3 => 4 | 28 => 107 | 0 => 0 | 27 => 106 | 33 => 135 | 4 => 4 | n => n, fun | n => n⟩
theorem Tryz.keysB : Go.Proofs.SlLaysZ.n7 Tryz.prog Tryz.keysB_ren := {
 mixed := by kernel_rfl
 f7 := ⟨Tryz.f103.name, by decide, Tryz.func103.trans (congrArg some (by kernel_rfl))⟩
 f10 := ⟨Tryz.f116.name, by decide, Tryz.func116.trans (congrArg some (by kernel_rfl))⟩
 t0 := Tryz.underlying0
 a0 := Tryz.isAgg0
 z0 := Tryz.sizeOf0
 v0 := Tryz.zeroValue0
 t4 := Tryz.underlying4
 a4 := Tryz.isAgg4
 z4 := Tryz.sizeOf4
 v4 := Tryz.zeroValue4
 t23 := Tryz.underlying146
 a23 := Tryz.isAgg146
 z23 := Tryz.sizeOf146
 v23 := Tryz.zeroValue146
 t26 := Tryz.underlying9
 a26 := Tryz.isAgg9
 z26 := Tryz.sizeOf9
 v26 := Tryz.zeroValue9
 t27 := Tryz.underlying106
 a27 := Tryz.isAgg106
 z27 := Tryz.sizeOf106
 v27 := Tryz.zeroValue106
 t28 := Tryz.underlying107
 a28 := Tryz.isAgg107
 z28 := Tryz.sizeOf107
 v28 := Tryz.zeroValue107
 t33 := Tryz.underlying135
 a33 := Tryz.isAgg135
 z33 := Tryz.sizeOf135
 v33 := Tryz.zeroValue135 }
theorem Tryz.sortsA (m : Nat) : AnyZ.SortsIn Tryz.prog Tryz.sortedA_ren Fence.wide m :=
 ⟨fun blk off cap ss W hH hblk hsz => callsIn_wide.2 (AnyM.slices_Sort_string Tryz.sortA blk off cap ss W hH hblk hsz),
  fun p cap W => callsIn_wide.2 (AnyM.slices_Sort_string_none Tryz.sortA p cap W)⟩
theorem Tryz.sortedC : Gx.SortedC Tryz.prog 50 87 9 :=
 Gx.sortedC_of Tryz.keysA Tryz.sortedA (Tryz.sortsA) (enters_of Tryz.func86 (by kernel_rfl) rfl) (enters_of Tryz.func87 (by kernel_rfl) rfl)
theorem Tryz.sortedC2 : Gx.SortedC Tryz.prog 50 116 9 :=
 Gx.sortedC_of Tryz.keysB Tryz.sortedA (Tryz.sortsA) (enters_of Tryz.func86 (by kernel_rfl) rfl) (enters_of Tryz.func116 (by kernel_rfl) rfl)
end Go.Proofs
namespace Gt
open Go Gx Go.Proofs
noncomputable def e_slices_Sorted_string (_k : Nat) (_D : CallF) : Ent := eSorted 50 87 9
theorem ok_slices_Sorted_string {D : CallF} (_hD : CSound Tryz.prog 0 D) (k : Nat) : EntOk Tryz.prog 0 (e_slices_Sorted_string k D) :=
 sorted_ok (c := _) Tryz.func50 rfl rfl Tryz.sortedC
noncomputable def e_slices_Sorted_string2 (_k : Nat) (_D : CallF) : Ent := eSorted 50 116 9
theorem ok_slices_Sorted_string2 {D : CallF} (_hD : CSound Tryz.prog 0 D) (k : Nat) : EntOk Tryz.prog 0 (e_slices_Sorted_string2 k D) :=
 sorted_ok (c := _) Tryz.func50 rfl rfl Tryz.sortedC2
end Gt
namespace Gt
open Go Gx Go.Proofs
set_option maxRecDepth 100000
noncomputable def C_store_Store_Names (k : Nat) (D : CallF) : CallF := mkC D [e_maps_Keys_map_string_string_string_string k D, e_slices_Sorted_string k D]
noncomputable def store_Store_Names (k : Nat) (D : CallF) (s_0 : Option Addr) (h : AHeap) : Option ((Slc) × AHeap) :=
 (s_0).bind fun p1 =>
 (ldM (⟨p1.block, p1.off + 4, none⟩ : Addr) h).bind fun x2 =>
 (maps_Keys_map_string_string_string_string k D x2 h).bind fun r3 =>
 (sortedA 87 9 [r3.1] r3.2).bind fun r4 =>
 some (r4.1, r4.2)
noncomputable def r_store_Store_Names : RCode := an (.n) (rOf Tryz.prog 0 Tryz.f23)
noncomputable def e_store_Store_Names (k : Nat) (D : CallF) : Ent := entOf 23 [(0, .p)] [(2, .l)] (store_Store_Names k D)
theorem q_store_Store_Names : (Tryz.f23.body).bind (rcodeOf Tryz.prog 0 Tryz.f23.ntmps) = some (strip r_store_Store_Names) := by kernel_rfl
theorem t_store_Store_Names (k : Nat) (D : CallF) : curF [(0, .p)] (fun args h => denF (C_store_Store_Names k D) k r_store_Store_Names [(2, .l)] [none] args h) = store_Store_Names k D := by kernel_rfl
theorem ok_store_Store_Names {D : CallF} (hD : CSound Tryz.prog 0 D) (k : Nat) : EntOk Tryz.prog 0 (e_store_Store_Names k D) :=
 entOf_ok2 (mkC_sound hD (EntsOk.more (ok_maps_Keys_map_string_string_string_string hD k) (EntsOk.more (ok_slices_Sorted_string hD k) (EntsOk.none)))) Tryz.func23 rfl q_store_Store_Names rfl (t_store_Store_Names k D)
end Gt
namespace Gt
open Go Gx Go.Proofs
set_option maxRecDepth 100000
noncomputable def C_internal_stringslite_HasPrefix (_k : Nat) (D : CallF) : CallF := mkC D []
noncomputable def internal_stringslite_HasPrefix (_k : Nat) (_D : CallF) (s_0 : ByteArray) (prefix_1 : ByteArray) (h : AHeap) : Option ((Bool) × AHeap) :=
 (if (decide ((s_0.size : Int) ≥ (prefix_1.size : Int))) = true then
 (Gx.subS s_0 none (some (prefix_1.size : Int))).bind fun s1 =>
 some ((s1 == prefix_1), h)
 else
 some (false, h))
noncomputable def r_internal_stringslite_HasPrefix : RCode := an (.n) (rOf Tryz.prog 0 Tryz.f140)
noncomputable def e_internal_stringslite_HasPrefix (k : Nat) (D : CallF) : Ent := entOf 140 [(0, .s), (1, .s)] [(4, .b)] (internal_stringslite_HasPrefix k D)
theorem q_internal_stringslite_HasPrefix : (Tryz.f140.body).bind (rcodeOf Tryz.prog 0 Tryz.f140.ntmps) = some (strip r_internal_stringslite_HasPrefix) := by kernel_rfl
theorem t_internal_stringslite_HasPrefix (k : Nat) (D : CallF) : curF [(0, .s), (1, .s)] (fun args h => denF (C_internal_stringslite_HasPrefix k D) k r_internal_stringslite_HasPrefix [(4, .b)] [none] args h) = internal_stringslite_HasPrefix k D := by kernel_rfl
theorem ok_internal_stringslite_HasPrefix {D : CallF} (hD : CSound Tryz.prog 0 D) (k : Nat) : EntOk Tryz.prog 0 (e_internal_stringslite_HasPrefix k D) :=
 entOf_ok2 (mkC_sound hD (EntsOk.none)) Tryz.func140 rfl q_internal_stringslite_HasPrefix rfl (t_internal_stringslite_HasPrefix k D)
end Gt
namespace Gt
open Go Gx Go.Proofs
set_option maxRecDepth 100000
noncomputable def C_strings_HasPrefix (k : Nat) (D : CallF) : CallF := mkC D [e_internal_stringslite_HasPrefix k D]
noncomputable def strings_HasPrefix (k : Nat) (D : CallF) (s_0 : ByteArray) (prefix_1 : ByteArray) (h : AHeap) : Option ((Bool) × AHeap) :=
 (internal_stringslite_HasPrefix k D s_0 prefix_1 h).bind fun r1 =>
 some (r1.1, r1.2)
noncomputable def r_strings_HasPrefix : RCode := an (.n) (rOf Tryz.prog 0 Tryz.f132)
noncomputable def e_strings_HasPrefix (k : Nat) (D : CallF) : Ent := entOf 132 [(0, .s), (1, .s)] [(4, .b)] (strings_HasPrefix k D)
theorem q_strings_HasPrefix : (Tryz.f132.body).bind (rcodeOf Tryz.prog 0 Tryz.f132.ntmps) = some (strip r_strings_HasPrefix) := by kernel_rfl
theorem t_strings_HasPrefix (k : Nat) (D : CallF) : curF [(0, .s), (1, .s)] (fun args h => denF (C_strings_HasPrefix k D) k r_strings_HasPrefix [(4, .b)] [none] args h) = strings_HasPrefix k D := by kernel_rfl
theorem ok_strings_HasPrefix {D : CallF} (hD : CSound Tryz.prog 0 D) (k : Nat) : EntOk Tryz.prog 0 (e_strings_HasPrefix k D) :=
 entOf_ok2 (mkC_sound hD (EntsOk.more (ok_internal_stringslite_HasPrefix hD k) (EntsOk.none))) Tryz.func132 rfl q_strings_HasPrefix rfl (t_strings_HasPrefix k D)
end Gt
namespace Gt
open Go Gx Go.Proofs
set_option maxRecDepth 100000
noncomputable def C_store_Store_list (k : Nat) (D : CallF) : CallF := mkC D [e_store_Store_Names k D, e_strings_HasPrefix k D]
noncomputable def store_Store_list_l0b (k : Nat) (D : CallF) (j3 : Slc → AHeap → Option ((Slc) × AHeap)) (rec11 : ByteArray → Slc → Slc → Int → Int → AHeap → Option ((Slc) × AHeap)) (begin5 : ByteArray) (out6 : Slc) (y7 : Slc) (y8 : Int) (y9 : Int) (h10 : AHeap) : Option ((Slc) × AHeap) :=
 (if (decide (y9 < y8)) = true then
 joinK (fun (begin12 : ByteArray) (out13 : Slc) (y14 : Slc) (y15 : Int) (y16 : Int) (h17 : AHeap) =>
 rec11 begin12 out13 y14 y15 (IntKind.wrap .i64 (y16 + 1)) h17) fun j18 =>
 (Gx.idxL 1 y7 y9).bind fun q19 =>
 (ldS q19 h10).bind fun x20 =>
 (strings_HasPrefix k D x20 begin5 h10).bind fun r21 =>
 (if r21.1 = true then
 let h22 := AHeap.new r21.2 (.cells [.string x20] 9 true 0)
 (rdS 1 (⟨(some ⟨r21.2.next, 0, some 0⟩), 1, 1⟩ : Slc) h22).bind fun n24 =>
 (appendA 1 16 9 h22 out6 n24 1).bind fun r23 =>
 j18 begin5 r23.1 y7 y8 y9 r23.2
 else
 j18 begin5 out6 y7 y8 y9 r21.2)
 else
 j3 out6 h10)
noncomputable def store_Store_list_l0 (k : Nat) (D : CallF) (j3 : Slc → AHeap → Option ((Slc) × AHeap)) : ByteArray → Slc → Slc → Int → Int → AHeap → Option ((Slc) × AHeap) :=
 iterK (α := ByteArray → Slc → Slc → Int → Int → AHeap → Option ((Slc) × AHeap)) (fun _ _ _ _ _ _ => none) k (store_Store_list_l0b k D j3)
noncomputable def store_Store_list (k : Nat) (D : CallF) (s_0 : Option Addr) (begin_1 : ByteArray) (h : AHeap) : Option ((Slc) × AHeap) :=
 joinK (fun (out1 : Slc) (h2 : AHeap) =>
 some (out1, h2)) fun j3 =>
 (store_Store_Names k D s_0 h).bind fun r4 =>
 store_Store_list_l0 k D j3 begin_1 (⟨none, 0, 0⟩ : Slc) r4.1 (r4.1.len : Int) 0 r4.2
noncomputable def r_store_Store_list : RCode := an (.s .n (.s .n (.s (.j [(5, .l)] (.s .n (.b (.l [(1, .s), (5, .l), (9, .l), (10, .i .i64), (11, .i .i64)] (.s .n (.s .n (.s (.j [(1, .s), (5, .l), (9, .l), (10, .i .i64), (11, .i .i64)] .n) .n))))))) .n))) (rOf Tryz.prog 0 Tryz.f110)
noncomputable def e_store_Store_list (k : Nat) (D : CallF) : Ent := entOf 110 [(0, .p), (1, .s)] [(4, .l)] (store_Store_list k D)
theorem q_store_Store_list : (Tryz.f110.body).bind (rcodeOf Tryz.prog 0 Tryz.f110.ntmps) = some (strip r_store_Store_list) := by kernel_rfl
theorem t_store_Store_list (k : Nat) (D : CallF) : curF [(0, .p), (1, .s)] (fun args h => denF (C_store_Store_list k D) k r_store_Store_list [(4, .l)] [none] args h) = store_Store_list k D := by kernel_rfl
theorem ok_store_Store_list {D : CallF} (hD : CSound Tryz.prog 0 D) (k : Nat) : EntOk Tryz.prog 0 (e_store_Store_list k D) :=
 entOf_ok2 (mkC_sound hD (EntsOk.more (ok_store_Store_Names hD k) (EntsOk.more (ok_strings_HasPrefix hD k) (EntsOk.none)))) Tryz.func110 rfl q_store_Store_list rfl (t_store_Store_list k D)
end Gt
namespace Gt
open Go Gx Go.Proofs
set_option maxRecDepth 100000
noncomputable def C_store_Store_del (k : Nat) (D : CallF) : CallF := mkC D [e_store_Store_room k D]
noncomputable def store_Store_del (k : Nat) (D : CallF) (s_0 : Option Addr) (name_1 : ByteArray) (h : AHeap) : Option ((Int) × AHeap) :=
 (s_0).bind fun p1 =>
 (ldM (⟨p1.block, p1.off + 4, none⟩ : Addr) h).bind fun x2 =>
 (lookE decS (.string ⟨#[]⟩) h x2 (.string name_1)).bind fun p3 =>
 (if (!p3.2) = true then
 some (5, h)
 else
 (store_Store_room k D s_0 name_1 h).bind fun r4 =>
 (s_0).bind fun p5 =>
 (ldI .i64 (⟨p5.block, p5.off + 1, none⟩ : Addr) r4.2).bind fun x6 =>
 guardP (SameW [h] (fun H8 => (ldI .i64 (⟨p5.block, p5.off + 1, none⟩ : Addr) H8).bind fun y7 => some (.int .i64 y7)) (.int .i64 x6)) (
 (s_0).bind fun p9 =>
 (st1 (⟨p9.block, p9.off + 1, none⟩ : Addr) (.int .i64 (IntKind.wrap .i64 (x6 - r4.1))) r4.2).bind fun h10 =>
 (s_0).bind fun p11 =>
 (ldM (⟨p11.block, p11.off + 4, none⟩ : Addr) h10).bind fun x12 =>
 (delM h10 x12 (.string name_1)).bind fun h13 =>
 some (0, h13)))
noncomputable def r_store_Store_del : RCode := an (.n) (rOf Tryz.prog 0 Tryz.f111)
noncomputable def e_store_Store_del (k : Nat) (D : CallF) : Ent := entOf 111 [(0, .p), (1, .s)] [(4, .i .i64)] (store_Store_del k D)
theorem q_store_Store_del : (Tryz.f111.body).bind (rcodeOf Tryz.prog 0 Tryz.f111.ntmps) = some (strip r_store_Store_del) := by kernel_rfl
theorem t_store_Store_del (k : Nat) (D : CallF) : curF [(0, .p), (1, .s)] (fun args h => denF (C_store_Store_del k D) k r_store_Store_del [(4, .i .i64)] [none] args h) = store_Store_del k D := by kernel_rfl
theorem ok_store_Store_del {D : CallF} (hD : CSound Tryz.prog 0 D) (k : Nat) : EntOk Tryz.prog 0 (e_store_Store_del k D) :=
 entOf_ok2 (mkC_sound hD (EntsOk.more (ok_store_Store_room hD k) (EntsOk.none))) Tryz.func111 rfl q_store_Store_del rfl (t_store_Store_del k D)
end Gt
namespace Gt
open Go Gx Go.Proofs
set_option maxRecDepth 100000
noncomputable def C_store_Store_Do (k : Nat) (D : CallF) : CallF := mkC D [e_sync_atomic_Int64_Add k D, e_store_Store_put k D, e_store_Store_list k D, e_store_Store_del k D]
noncomputable def store_Store_Do (k : Nat) (D : CallF) (s_0 : Option Addr) (r_1 : Int × Int × ByteArray × ByteArray) (h : AHeap) : Option (((Int × ByteArray × Slc)) × AHeap) :=
 let h1 := AHeap.new h (.cells [.int .i64 r_1.1, .int .i64 r_1.2.1, .string r_1.2.2.1, .string r_1.2.2.2] 51 true 0)
 let h2 := AHeap.new h1 (.cells [.int .i64 0, .string ⟨#[]⟩, .slice none 0 0] 59 true 0)
 (s_0).bind fun p3 =>
 (sync_atomic_Int64_Add k D (some (⟨p3.block, p3.off + 5, none⟩ : Addr)) 1 h2).bind fun r4 =>
 (s_0).bind fun p5 =>
 (ldB (⟨p5.block, p5.off + 3, none⟩ : Addr) r4.2).bind fun x6 =>
 (if x6 = true then
 (stL 3 (⟨h1.next, 0, none⟩ : Addr) ([.int .i64 70, .string (⟨#[]⟩ : ByteArray), .slice none 0 0]) r4.2).bind fun h7 =>
 (ldA 3 (⟨h1.next, 0, none⟩ : Addr) h7).bind fun l8 =>
 (decC [.i .i64, .s, .l] l8).bind fun x9 =>
 some ((x9.1, x9.2.1, x9.2.2), h7)
 else
 (s_0).bind fun p10 =>
 (ldI .i64 (⟨p10.block, p10.off + 2, none⟩ : Addr) r4.2).bind fun x11 =>
 (if (decide (x11 > 0)) = true then
 (s_0).bind fun p12 =>
 (ldI .i64 (⟨p12.block, p12.off + 2, none⟩ : Addr) r4.2).bind fun x13 =>
 (s_0).bind fun p14 =>
 (st1 (⟨p14.block, p14.off + 2, none⟩ : Addr) (.int .i64 (IntKind.wrap .i64 (x13 - 1))) r4.2).bind fun h15 =>
 (stL 3 (⟨h1.next, 0, none⟩ : Addr) ([.int .i64 72, .string (⟨#[]⟩ : ByteArray), .slice none 0 0]) h15).bind fun h16 =>
 (ldA 3 (⟨h1.next, 0, none⟩ : Addr) h16).bind fun l17 =>
 (decC [.i .i64, .s, .l] l17).bind fun x18 =>
 some ((x18.1, x18.2.1, x18.2.2), h16)
 else
 (ldI .i64 (⟨h.next, 1, none⟩ : Addr) r4.2).bind fun x19 =>
 (if (x19 == 1) = true then
 (ldS (⟨h.next, 2, none⟩ : Addr) r4.2).bind fun x20 =>
 (ldS (⟨h.next, 3, none⟩ : Addr) r4.2).bind fun x21 =>
 (store_Store_put k D s_0 x20 x21 r4.2).bind fun r22 =>
 (stL 3 (⟨h1.next, 0, none⟩ : Addr) ([.int .i64 r22.1, .string (⟨#[]⟩ : ByteArray), .slice none 0 0]) r22.2).bind fun h23 =>
 (ldA 3 (⟨h1.next, 0, none⟩ : Addr) h23).bind fun l24 =>
 (decC [.i .i64, .s, .l] l24).bind fun x25 =>
 some ((x25.1, x25.2.1, x25.2.2), h23)
 else
 (if (x19 == 2) = true then
 (s_0).bind fun p26 =>
 (ldM (⟨p26.block, p26.off + 4, none⟩ : Addr) r4.2).bind fun x27 =>
 (ldS (⟨h.next, 2, none⟩ : Addr) r4.2).bind fun x28 =>
 (lookE decS (.string ⟨#[]⟩) r4.2 x27 (.string x28)).bind fun p29 =>
 (if (!p29.2) = true then
 (stL 3 (⟨h1.next, 0, none⟩ : Addr) ([.int .i64 5, .string (⟨#[]⟩ : ByteArray), .slice none 0 0]) r4.2).bind fun h30 =>
 (ldA 3 (⟨h1.next, 0, none⟩ : Addr) h30).bind fun l31 =>
 (decC [.i .i64, .s, .l] l31).bind fun x32 =>
 some ((x32.1, x32.2.1, x32.2.2), h30)
 else
 (stL 3 (⟨h1.next, 0, none⟩ : Addr) ([.int .i64 0, .string p29.1, .slice none 0 0]) r4.2).bind fun h33 =>
 (ldA 3 (⟨h1.next, 0, none⟩ : Addr) h33).bind fun l34 =>
 (decC [.i .i64, .s, .l] l34).bind fun x35 =>
 some ((x35.1, x35.2.1, x35.2.2), h33))
 else
 (if (x19 == 3) = true then
 (ldS (⟨h.next, 2, none⟩ : Addr) r4.2).bind fun x36 =>
 (store_Store_list k D s_0 x36 r4.2).bind fun r37 =>
 (stL 3 (⟨h1.next, 0, none⟩ : Addr) ([.int .i64 0, .string (⟨#[]⟩ : ByteArray), .slice r37.1.a r37.1.len r37.1.cap]) r37.2).bind fun h38 =>
 (ldA 3 (⟨h1.next, 0, none⟩ : Addr) h38).bind fun l39 =>
 (decC [.i .i64, .s, .l] l39).bind fun x40 =>
 some ((x40.1, x40.2.1, x40.2.2), h38)
 else
 (if (x19 == 4) = true then
 (ldS (⟨h.next, 2, none⟩ : Addr) r4.2).bind fun x41 =>
 (store_Store_del k D s_0 x41 r4.2).bind fun r42 =>
 (stL 3 (⟨h1.next, 0, none⟩ : Addr) ([.int .i64 r42.1, .string (⟨#[]⟩ : ByteArray), .slice none 0 0]) r42.2).bind fun h43 =>
 (ldA 3 (⟨h1.next, 0, none⟩ : Addr) h43).bind fun l44 =>
 (decC [.i .i64, .s, .l] l44).bind fun x45 =>
 some ((x45.1, x45.2.1, x45.2.2), h43)
 else
 (stL 3 (⟨h1.next, 0, none⟩ : Addr) ([.int .i64 3, .string (⟨#[]⟩ : ByteArray), .slice none 0 0]) r4.2).bind fun h46 =>
 (ldA 3 (⟨h1.next, 0, none⟩ : Addr) h46).bind fun l47 =>
 (decC [.i .i64, .s, .l] l47).bind fun x48 =>
 some ((x48.1, x48.2.1, x48.2.2), h46)))))))
noncomputable def r_store_Store_Do : RCode := an (.n) (rOf Tryz.prog 0 Tryz.f92)
noncomputable def e_store_Store_Do (k : Nat) (D : CallF) : Ent := entOf 92 [(0, .p), (1, .st [.i .i64, .i .i64, .s, .s])] [(4, .st [.i .i64, .s, .l])] (store_Store_Do k D)
theorem q_store_Store_Do : (Tryz.f92.body).bind (rcodeOf Tryz.prog 0 Tryz.f92.ntmps) = some (strip r_store_Store_Do) := by kernel_rfl
theorem t_store_Store_Do (k : Nat) (D : CallF) : curF [(0, .p), (1, .st [.i .i64, .i .i64, .s, .s])] (fun args h => denF (C_store_Store_Do k D) k r_store_Store_Do [(4, .st [.i .i64, .s, .l])] [some (.agg 3)] args h) = store_Store_Do k D := by kernel_rfl
theorem ok_store_Store_Do {D : CallF} (hD : CSound Tryz.prog 0 D) (k : Nat) : EntOk Tryz.prog 0 (e_store_Store_Do k D) :=
 entOf_ok2 (mkC_sound hD (EntsOk.more (ok_sync_atomic_Int64_Add hD k) (EntsOk.more (ok_store_Store_put hD k) (EntsOk.more (ok_store_Store_list hD k) (EntsOk.more (ok_store_Store_del hD k) (EntsOk.none)))))) Tryz.func92 rfl q_store_Store_Do rfl (t_store_Store_Do k D)
end Gt
namespace Gt
open Go Gx Go.Proofs
set_option maxRecDepth 100000
noncomputable def C_port_Answer (k : Nat) (D : CallF) : CallF := mkC D [e_store_Store_Do k D]
noncomputable def port_Answer (k : Nat) (D : CallF) (stores_0 : Slc) (r_1 : Int × Int × ByteArray × ByteArray) (h : AHeap) : Option (((Int × ByteArray × Slc)) × AHeap) :=
 let h1 := AHeap.new h (.cells [.int .i64 r_1.1, .int .i64 r_1.2.1, .string r_1.2.2.1, .string r_1.2.2.2] 51 true 0)
 let h2 := AHeap.new h1 (.cells [.int .i64 0, .string ⟨#[]⟩, .slice none 0 0] 59 true 0)
 joinK (fun (stores3 : Slc) (r4 : Option Addr) (y5 : Option Addr) (y6 : Bool) (h7 : AHeap) =>
 (if y6 = true then
 (y5).bind fun p9 =>
 (stL 3 p9 ([.int .i64 1, .string (⟨#[]⟩ : ByteArray), .slice none 0 0]) h7).bind fun h10 =>
 (y5).bind fun p11 =>
 (ldA 3 p11 h10).bind fun l12 =>
 (decC [.i .i64, .s, .l] l12).bind fun x13 =>
 some ((x13.1, x13.2.1, x13.2.2), h10)
 else
 (r4).bind fun p14 =>
 (ldI .i64 (⟨p14.block, p14.off + 0, none⟩ : Addr) h7).bind fun x15 =>
 (Gx.idxL 1 stores3 x15).bind fun q16 =>
 (ldP q16 h7).bind fun x17 =>
 (r4).bind fun p18 =>
 (ldA 4 p18 h7).bind fun l19 =>
 (decC [.i .i64, .i .i64, .s, .s] l19).bind fun x20 =>
 (store_Store_Do k D x17 (x20.1, x20.2.1, x20.2.2.1, x20.2.2.2) h7).bind fun r21 =>
 (y5).bind fun p22 =>
 (stL 3 p22 ([.int .i64 r21.1.1, .string r21.1.2.1, .slice r21.1.2.2.a r21.1.2.2.len r21.1.2.2.cap]) r21.2).bind fun h23 =>
 (y5).bind fun p24 =>
 (ldA 3 p24 h23).bind fun l25 =>
 (decC [.i .i64, .s, .l] l25).bind fun x26 =>
 some ((x26.1, x26.2.1, x26.2.2), h23))) fun j8 =>
 (ldI .i64 (⟨h.next, 0, none⟩ : Addr) h2).bind fun x27 =>
 (if (decide (x27 < 0)) = true then
 j8 stores_0 (some (⟨h.next, 0, none⟩ : Addr)) (some (⟨h1.next, 0, none⟩ : Addr)) true h2
 else
 (ldI .i64 (⟨h.next, 0, none⟩ : Addr) h2).bind fun x28 =>
 (if (decide (x28 ≥ (stores_0.len : Int))) = true then
 j8 stores_0 (some (⟨h.next, 0, none⟩ : Addr)) (some (⟨h1.next, 0, none⟩ : Addr)) true h2
 else
 (ldI .i64 (⟨h.next, 0, none⟩ : Addr) h2).bind fun x29 =>
 (Gx.idxL 1 stores_0 x29).bind fun q30 =>
 (ldP q30 h2).bind fun x31 =>
 j8 stores_0 (some (⟨h.next, 0, none⟩ : Addr)) (some (⟨h1.next, 0, none⟩ : Addr)) x31.isNone h2))
noncomputable def r_port_Answer : RCode := an (.s .n (.s (.s (.j [(0, .l), (3, .p), (4, .p), (22, .b)] .n) .n) (.s (.r [(5, .st [.i .i64, .i .i64, .s, .s])]) .n))) (rOf Tryz.prog 0 Tryz.f62)
noncomputable def e_port_Answer (k : Nat) (D : CallF) : Ent := entOf 62 [(0, .l), (1, .st [.i .i64, .i .i64, .s, .s])] [(4, .st [.i .i64, .s, .l])] (port_Answer k D)
theorem q_port_Answer : (Tryz.f62.body).bind (rcodeOf Tryz.prog 0 Tryz.f62.ntmps) = some (strip r_port_Answer) := by kernel_rfl
theorem t_port_Answer (k : Nat) (D : CallF) : curF [(0, .l), (1, .st [.i .i64, .i .i64, .s, .s])] (fun args h => denF (C_port_Answer k D) k r_port_Answer [(4, .st [.i .i64, .s, .l])] [some (.agg 3)] args h) = port_Answer k D := by kernel_rfl
theorem ok_port_Answer {D : CallF} (hD : CSound Tryz.prog 0 D) (k : Nat) : EntOk Tryz.prog 0 (e_port_Answer k D) :=
 entOf_ok2 (mkC_sound hD (EntsOk.more (ok_store_Store_Do hD k) (EntsOk.none))) Tryz.func62 rfl q_port_Answer rfl (t_port_Answer k D)
end Gt
namespace Gt
open Go Gx Go.Proofs
set_option maxRecDepth 100000
noncomputable def C_port_Job_Give (k : Nat) (D : CallF) : CallF := mkC D [e_slices_Clone_string_string k D, e_port_Job_settle k D]
noncomputable def port_Job_Give (k : Nat) (D : CallF) (j_0 : Option Addr) (r_1 : Int × ByteArray × Slc) (h : AHeap) : Option ((Int) × AHeap) :=
 let h1 := AHeap.new h (.cells [.int .i64 r_1.1, .string r_1.2.1, .slice r_1.2.2.a r_1.2.2.len r_1.2.2.cap] 59 true 0)
 (j_0).bind fun p2 =>
 (ldP (⟨p2.block, p2.off + 0, none⟩ : Addr) h1).bind fun x3 =>
 (x3).bind fun p4 =>
 (ldB (⟨p4.block, p4.off + 5, none⟩ : Addr) h1).bind fun x5 =>
 (if x5 = true then
 some (310, h1)
 else
 (j_0).bind fun p6 =>
 (ldP (⟨p6.block, p6.off + 0, none⟩ : Addr) h1).bind fun x7 =>
 (x7).bind fun p8 =>
 (ldV (⟨p8.block, p8.off + 4, none⟩ : Addr) h1).bind fun x9 =>
 (j_0).bind fun p10 =>
 (ldP (⟨p10.block, p10.off + 0, none⟩ : Addr) h1).bind fun x11 =>
 (x11).bind fun p12 =>
 (st1 (⟨p12.block, p12.off + 4, none⟩ : Addr) (.nilFunc) h1).bind fun h13 =>
 (j_0).bind fun p14 =>
 (ldP (⟨p14.block, p14.off + 0, none⟩ : Addr) h13).bind fun x15 =>
 (x15).bind fun p16 =>
 (ldI .i64 (⟨p16.block, p16.off + 13, none⟩ : Addr) h13).bind fun x17 =>
 (x15).bind fun p18 =>
 (st1 (⟨p18.block, p18.off + 13, none⟩ : Addr) (.int .i64 (IntKind.wrap .i64 (x17 + 1))) h13).bind fun h19 =>
 (ldL (⟨h.next, 2, none⟩ : Addr) h19).bind fun x20 =>
 (slices_Clone_string_string k D x20 h19).bind fun r21 =>
 (st1 (⟨h.next, 2, none⟩ : Addr) (.slice r21.1.a r21.1.len r21.1.cap) r21.2).bind fun h22 =>
 (ldA 3 (⟨h.next, 0, none⟩ : Addr) h22).bind fun l23 =>
 (decC [.i .i64, .s, .l] l23).bind fun x24 =>
 callD (C_port_Job_Give k D) x9 [.agg ⟨[.int .i64 x24.1, .string x24.2.1, .slice x24.2.2.a x24.2.2.len x24.2.2.cap]⟩] h22 fun _ h26 =>
 (port_Job_settle k D j_0 h26).bind fun r27 =>
 some (0, r27.2))
noncomputable def r_port_Job_Give : RCode := an (.s .n (.s .n (.s .n (.s .n (.s .n (.s .n (.s (.r [(1, .st [.i .i64, .s, .l])]) .n))))))) (rOf Tryz.prog 0 Tryz.f61)
noncomputable def e_port_Job_Give (k : Nat) (D : CallF) : Ent := entOf 61 [(0, .p), (1, .st [.i .i64, .s, .l])] [(4, .i .i64)] (port_Job_Give k D)
theorem q_port_Job_Give : (Tryz.f61.body).bind (rcodeOf Tryz.prog 0 Tryz.f61.ntmps) = some (strip r_port_Job_Give) := by kernel_rfl
theorem t_port_Job_Give (k : Nat) (D : CallF) : curF [(0, .p), (1, .st [.i .i64, .s, .l])] (fun args h => denF (C_port_Job_Give k D) k r_port_Job_Give [(4, .i .i64)] [none] args h) = port_Job_Give k D := by kernel_rfl
theorem ok_port_Job_Give {D : CallF} (hD : CSound Tryz.prog 0 D) (k : Nat) : EntOk Tryz.prog 0 (e_port_Job_Give k D) :=
 entOf_ok2 (mkC_sound hD (EntsOk.more (ok_slices_Clone_string_string hD k) (EntsOk.more (ok_port_Job_settle hD k) (EntsOk.none)))) Tryz.func61 rfl q_port_Job_Give rfl (t_port_Job_Give k D)
end Gt
namespace Gt
open Go Gx Go.Proofs
set_option maxRecDepth 100000
noncomputable def C_port_Run (k : Nat) (D : CallF) : CallF := mkC D [e_port_Job_Over k D, e_port_Job_Next k D, e_port_Answer k D, e_port_Job_Give k D]
noncomputable def port_Run_l0b (k : Nat) (D : CallF) (j4 : (Option Addr) → Int → AHeap → Option ((Int × Int) × AHeap)) (rec11 : (Option Addr) → Slc → Int → Int → AHeap → Option ((Int × Int) × AHeap)) (j6 : Option Addr) (stores7 : Slc) (most8 : Int) (steps9 : Int) (h10 : AHeap) : Option ((Int × Int) × AHeap) :=
 (if (decide (steps9 < most8)) = true then
 (port_Job_Next k D j6 h10).bind fun r12 =>
 let h13 := AHeap.new r12.2 (.cells [.int .i64 0, .int .i64 0, .string ⟨#[]⟩, .string ⟨#[]⟩] 51 true 0)
 (stL 4 (⟨r12.2.next, 0, none⟩ : Addr) ([.int .i64 r12.1.1.1, .int .i64 r12.1.1.2.1, .string r12.1.1.2.2.1, .string r12.1.1.2.2.2]) h13).bind fun h14 =>
 (if (!r12.1.2) = true then
 some ((steps9, 0), h14)
 else
 (ldA 4 (⟨r12.2.next, 0, none⟩ : Addr) h14).bind fun l15 =>
 (decC [.i .i64, .i .i64, .s, .s] l15).bind fun x16 =>
 (port_Answer k D stores7 (x16.1, x16.2.1, x16.2.2.1, x16.2.2.2) h14).bind fun r17 =>
 (port_Job_Give k D j6 (r17.1.1, r17.1.2.1, r17.1.2.2) r17.2).bind fun r18 =>
 rec11 j6 stores7 most8 (IntKind.wrap .i64 (steps9 + 1)) r18.2)
 else
 j4 j6 steps9 h10)
noncomputable def port_Run_l0 (k : Nat) (D : CallF) (j4 : (Option Addr) → Int → AHeap → Option ((Int × Int) × AHeap)) : (Option Addr) → Slc → Int → Int → AHeap → Option ((Int × Int) × AHeap) :=
 iterK (α := (Option Addr) → Slc → Int → Int → AHeap → Option ((Int × Int) × AHeap)) (fun _ _ _ _ _ => none) k (port_Run_l0b k D j4)
noncomputable def port_Run (k : Nat) (D : CallF) (j_0 : Option Addr) (stores_1 : Slc) (most_2 : Int) (h : AHeap) : Option ((Int × Int) × AHeap) :=
 (if j_0.isNone = true then
 some ((0, 4), h)
 else
 (if (decide (most_2 < 0)) = true then
 some ((0, 1), h)
 else
 joinK (fun (j1 : Option Addr) (steps2 : Int) (h3 : AHeap) =>
 (port_Job_Over k D j1 h3).bind fun r5 =>
 (if (!r5.1) = true then
 some ((steps2, 2), r5.2)
 else
 some ((steps2, 0), r5.2))) fun j4 =>
 port_Run_l0 k D j4 j_0 stores_1 most_2 0 h))
noncomputable def r_port_Run : RCode := an (.s .n (.s .n (.s (.j [(0, .p), (6, .i .i64)] (.b (.l [(0, .p), (1, .l), (2, .i .i64), (6, .i .i64)] (.s .n (.s (.b (.s .n (.s .n (.r [(2, .st [.i .i64, .i .i64, .s, .s])])))) .n))))) .n))) (rOf Tryz.prog 0 Tryz.f29)
noncomputable def e_port_Run (k : Nat) (D : CallF) : Ent := entOf 29 [(0, .p), (1, .l), (2, .i .i64)] [(6, .i .i64), (7, .i .i64)] (port_Run k D)
theorem q_port_Run : (Tryz.f29.body).bind (rcodeOf Tryz.prog 0 Tryz.f29.ntmps) = some (strip r_port_Run) := by kernel_rfl
theorem t_port_Run (k : Nat) (D : CallF) : curF [(0, .p), (1, .l), (2, .i .i64)] (fun args h => denF (C_port_Run k D) k r_port_Run [(6, .i .i64), (7, .i .i64)] [none, none] args h) = port_Run k D := by kernel_rfl
theorem ok_port_Run {D : CallF} (hD : CSound Tryz.prog 0 D) (k : Nat) : EntOk Tryz.prog 0 (e_port_Run k D) :=
 entOf_ok2 (mkC_sound hD (EntsOk.more (ok_port_Job_Over hD k) (EntsOk.more (ok_port_Job_Next hD k) (EntsOk.more (ok_port_Answer hD k) (EntsOk.more (ok_port_Job_Give hD k) (EntsOk.none)))))) Tryz.func29 rfl q_port_Run rfl (t_port_Run k D)
end Gt
namespace Gt
open Go Gx Go.Proofs
set_option maxRecDepth 100000
noncomputable def C_slices_Clone_api_Entry_api_Entry (_k : Nat) (D : CallF) : CallF := mkC D []
noncomputable def slices_Clone_api_Entry_api_Entry (_k : Nat) (_D : CallF) (s_0 : Slc) (h : AHeap) : Option ((Slc) × AHeap) :=
 (if s_0.a.isNone = true then
 some ((⟨none, 0, 0⟩ : Slc), h)
 else
 let h1 := AHeap.new h (.cells [] 120 true 0)
 (rdS 6 s_0 h1).bind fun n3 =>
 (appendA 6 64 120 h1 (⟨(some ⟨h.next, 0, some 0⟩), 0, 0⟩ : Slc) n3 s_0.len).bind fun r2 =>
 some (r2.1, r2.2))
noncomputable def r_slices_Clone_api_Entry_api_Entry : RCode := an (.n) (rOf Tryz.prog 0 Tryz.f64)
noncomputable def e_slices_Clone_api_Entry_api_Entry (k : Nat) (D : CallF) : Ent := entOf 64 [(0, .l)] [(2, .l)] (slices_Clone_api_Entry_api_Entry k D)
theorem q_slices_Clone_api_Entry_api_Entry : (Tryz.f64.body).bind (rcodeOf Tryz.prog 0 Tryz.f64.ntmps) = some (strip r_slices_Clone_api_Entry_api_Entry) := by kernel_rfl
theorem t_slices_Clone_api_Entry_api_Entry (k : Nat) (D : CallF) : curF [(0, .l)] (fun args h => denF (C_slices_Clone_api_Entry_api_Entry k D) k r_slices_Clone_api_Entry_api_Entry [(2, .l)] [none] args h) = slices_Clone_api_Entry_api_Entry k D := by kernel_rfl
theorem ok_slices_Clone_api_Entry_api_Entry {D : CallF} (hD : CSound Tryz.prog 0 D) (k : Nat) : EntOk Tryz.prog 0 (e_slices_Clone_api_Entry_api_Entry k D) :=
 entOf_ok2 (mkC_sound hD (EntsOk.none)) Tryz.func64 rfl q_slices_Clone_api_Entry_api_Entry rfl (t_slices_Clone_api_Entry_api_Entry k D)
end Gt
namespace Gt
open Go Gx Go.Proofs
set_option maxRecDepth 100000
noncomputable def C_slices_Clone_api_Snap_api_Snap (_k : Nat) (D : CallF) : CallF := mkC D []
noncomputable def slices_Clone_api_Snap_api_Snap (_k : Nat) (_D : CallF) (s_0 : Slc) (h : AHeap) : Option ((Slc) × AHeap) :=
 (if s_0.a.isNone = true then
 some ((⟨none, 0, 0⟩ : Slc), h)
 else
 let h1 := AHeap.new h (.cells [] 123 true 0)
 (rdS 6 s_0 h1).bind fun n3 =>
 (appendA 6 104 123 h1 (⟨(some ⟨h.next, 0, some 0⟩), 0, 0⟩ : Slc) n3 s_0.len).bind fun r2 =>
 some (r2.1, r2.2))
noncomputable def r_slices_Clone_api_Snap_api_Snap : RCode := an (.n) (rOf Tryz.prog 0 Tryz.f65)
noncomputable def e_slices_Clone_api_Snap_api_Snap (k : Nat) (D : CallF) : Ent := entOf 65 [(0, .l)] [(2, .l)] (slices_Clone_api_Snap_api_Snap k D)
theorem q_slices_Clone_api_Snap_api_Snap : (Tryz.f65.body).bind (rcodeOf Tryz.prog 0 Tryz.f65.ntmps) = some (strip r_slices_Clone_api_Snap_api_Snap) := by kernel_rfl
theorem t_slices_Clone_api_Snap_api_Snap (k : Nat) (D : CallF) : curF [(0, .l)] (fun args h => denF (C_slices_Clone_api_Snap_api_Snap k D) k r_slices_Clone_api_Snap_api_Snap [(2, .l)] [none] args h) = slices_Clone_api_Snap_api_Snap k D := by kernel_rfl
theorem ok_slices_Clone_api_Snap_api_Snap {D : CallF} (hD : CSound Tryz.prog 0 D) (k : Nat) : EntOk Tryz.prog 0 (e_slices_Clone_api_Snap_api_Snap k D) :=
 entOf_ok2 (mkC_sound hD (EntsOk.none)) Tryz.func65 rfl q_slices_Clone_api_Snap_api_Snap rfl (t_slices_Clone_api_Snap_api_Snap k D)
end Gt
namespace Gt
open Go Gx Go.Proofs
set_option maxRecDepth 100000
noncomputable def C_port_Job_Result (k : Nat) (D : CallF) : CallF := mkC D [e_slices_Clone_string_string k D, e_slices_Clone_api_Entry_api_Entry k D, e_slices_Clone_api_Snap_api_Snap k D]
noncomputable def port_Job_Result (k : Nat) (D : CallF) (j_0 : Option Addr) (h : AHeap) : Option (((Int × ByteArray × Int × Slc × Slc × Slc × Slc)) × AHeap) :=
 let h1 := AHeap.new h (.cells [.int .i64 0, .string ⟨#[]⟩, .int .i64 0, .slice none 0 0, .slice none 0 0, .slice none 0 0, .slice none 0 0] 42 true 0)
 (j_0).bind fun p2 =>
 (ldP (⟨p2.block, p2.off + 0, none⟩ : Addr) h1).bind fun x3 =>
 (x3).bind fun p4 =>
 (ldA 7 (⟨p4.block, p4.off + 6, none⟩ : Addr) h1).bind fun l5 =>
 (decC [.i .i64, .s, .i .i64, .l, .l, .l, .l] l5).bind fun x6 =>
 let h7 := AHeap.new h1 (.cells [.int .i64 0, .string ⟨#[]⟩, .int .i64 0, .slice none 0 0, .slice none 0 0, .slice none 0 0, .slice none 0 0] 42 true 0)
 (stL 7 (⟨h1.next, 0, none⟩ : Addr) ([.int .i64 x6.1, .string x6.2.1, .int .i64 x6.2.2.1, .slice x6.2.2.2.1.a x6.2.2.2.1.len x6.2.2.2.1.cap, .slice x6.2.2.2.2.1.a x6.2.2.2.2.1.len x6.2.2.2.2.1.cap, .slice x6.2.2.2.2.2.1.a x6.2.2.2.2.2.1.len x6.2.2.2.2.2.1.cap, .slice x6.2.2.2.2.2.2.a x6.2.2.2.2.2.2.len x6.2.2.2.2.2.2.cap]) h7).bind fun h8 =>
 (ldL (⟨h1.next, 3, none⟩ : Addr) h8).bind fun x9 =>
 (slices_Clone_string_string k D x9 h8).bind fun r10 =>
 (ldL (⟨h1.next, 4, none⟩ : Addr) r10.2).bind fun x11 =>
 guardP (SameW [h8] (fun H13 => (ldL (⟨h1.next, 4, none⟩ : Addr) H13).bind fun y12 => some (.slice y12.a y12.len y12.cap)) (.slice x11.a x11.len x11.cap)) (
 (slices_Clone_string_string k D x11 r10.2).bind fun r14 =>
 (st1 (⟨h1.next, 3, none⟩ : Addr) (.slice r10.1.a r10.1.len r10.1.cap) r14.2).bind fun h15 =>
 (st1 (⟨h1.next, 4, none⟩ : Addr) (.slice r14.1.a r14.1.len r14.1.cap) h15).bind fun h16 =>
 (ldL (⟨h1.next, 5, none⟩ : Addr) h16).bind fun x17 =>
 (slices_Clone_api_Entry_api_Entry k D x17 h16).bind fun r18 =>
 (ldL (⟨h1.next, 6, none⟩ : Addr) r18.2).bind fun x19 =>
 guardP (SameW [h16] (fun H21 => (ldL (⟨h1.next, 6, none⟩ : Addr) H21).bind fun y20 => some (.slice y20.a y20.len y20.cap)) (.slice x19.a x19.len x19.cap)) (
 (slices_Clone_api_Snap_api_Snap k D x19 r18.2).bind fun r22 =>
 (st1 (⟨h1.next, 5, none⟩ : Addr) (.slice r18.1.a r18.1.len r18.1.cap) r22.2).bind fun h23 =>
 (st1 (⟨h1.next, 6, none⟩ : Addr) (.slice r22.1.a r22.1.len r22.1.cap) h23).bind fun h24 =>
 (ldA 7 (⟨h1.next, 0, none⟩ : Addr) h24).bind fun l25 =>
 (decC [.i .i64, .s, .i .i64, .l, .l, .l, .l] l25).bind fun x26 =>
 (stL 7 (⟨h.next, 0, none⟩ : Addr) ([.int .i64 x26.1, .string x26.2.1, .int .i64 x26.2.2.1, .slice x26.2.2.2.1.a x26.2.2.2.1.len x26.2.2.2.1.cap, .slice x26.2.2.2.2.1.a x26.2.2.2.2.1.len x26.2.2.2.2.1.cap, .slice x26.2.2.2.2.2.1.a x26.2.2.2.2.2.1.len x26.2.2.2.2.2.1.cap, .slice x26.2.2.2.2.2.2.a x26.2.2.2.2.2.2.len x26.2.2.2.2.2.2.cap]) h24).bind fun h27 =>
 (ldA 7 (⟨h.next, 0, none⟩ : Addr) h27).bind fun l28 =>
 (decC [.i .i64, .s, .i .i64, .l, .l, .l, .l] l28).bind fun x29 =>
 some ((x29.1, x29.2.1, x29.2.2.1, x29.2.2.2.1, x29.2.2.2.2.1, x29.2.2.2.2.2.1, x29.2.2.2.2.2.2), h27)))
noncomputable def r_port_Job_Result : RCode := an (.s .n (.s (.r [(6, .st [.i .i64, .s, .i .i64, .l, .l, .l, .l])]) (.s .n (.s .n (.s (.r [(0, .st [.i .i64, .s, .i .i64, .l, .l, .l, .l])]) .n))))) (rOf Tryz.prog 0 Tryz.f30)
noncomputable def e_port_Job_Result (k : Nat) (D : CallF) : Ent := entOf 30 [(0, .p)] [(2, .st [.i .i64, .s, .i .i64, .l, .l, .l, .l])] (port_Job_Result k D)
theorem q_port_Job_Result : (Tryz.f30.body).bind (rcodeOf Tryz.prog 0 Tryz.f30.ntmps) = some (strip r_port_Job_Result) := by kernel_rfl
theorem t_port_Job_Result (k : Nat) (D : CallF) : curF [(0, .p)] (fun args h => denF (C_port_Job_Result k D) k r_port_Job_Result [(2, .st [.i .i64, .s, .i .i64, .l, .l, .l, .l])] [some (.agg 7)] args h) = port_Job_Result k D := by kernel_rfl
theorem ok_port_Job_Result {D : CallF} (hD : CSound Tryz.prog 0 D) (k : Nat) : EntOk Tryz.prog 0 (e_port_Job_Result k D) :=
 entOf_ok2 (mkC_sound hD (EntsOk.more (ok_slices_Clone_string_string hD k) (EntsOk.more (ok_slices_Clone_api_Entry_api_Entry hD k) (EntsOk.more (ok_slices_Clone_api_Snap_api_Snap hD k) (EntsOk.none))))) Tryz.func30 rfl q_port_Job_Result rfl (t_port_Job_Result k D)
end Gt
namespace Gt
open Go Gx Go.Proofs
set_option maxRecDepth 100000
noncomputable def C_law09_run (k : Nat) (D : CallF) : CallF := mkC D [e_port_Run k D, e_port_Job_Result k D]
noncomputable def law09_run (k : Nat) (D : CallF) (j_0 : Option Addr) (s_1 : Slc) (h : AHeap) : Option (((Int × ByteArray × Int × Slc × Slc × Slc × Slc) × Bool) × AHeap) :=
 newK h ((.cells [.int .i64 0, .string ⟨#[]⟩, .int .i64 0, .slice none 0 0, .slice none 0 0, .slice none 0 0, .slice none 0 0] 42 true 0)) fun h1 =>
 (if j_0.isNone = true then
 (stL 7 (⟨h.next, 0, none⟩ : Addr) ([.int .i64 0, .string (⟨#[]⟩ : ByteArray), .int .i64 0, .slice none 0 0, .slice none 0 0, .slice none 0 0, .slice none 0 0]) h1).bind fun h2 =>
 (ldA 7 (⟨h.next, 0, none⟩ : Addr) h2).bind fun l3 =>
 (decC [.i .i64, .s, .i .i64, .l, .l, .l, .l] l3).bind fun x4 =>
 some (((x4.1, x4.2.1, x4.2.2.1, x4.2.2.2.1, x4.2.2.2.2.1, x4.2.2.2.2.2.1, x4.2.2.2.2.2.2), false), h2)
 else
 (port_Run k D j_0 s_1 300 h1).bind fun r5 =>
 (port_Job_Result k D j_0 r5.2).bind fun r6 =>
 (stL 7 (⟨h.next, 0, none⟩ : Addr) ([.int .i64 r6.1.1, .string r6.1.2.1, .int .i64 r6.1.2.2.1, .slice r6.1.2.2.2.1.a r6.1.2.2.2.1.len r6.1.2.2.2.1.cap, .slice r6.1.2.2.2.2.1.a r6.1.2.2.2.2.1.len r6.1.2.2.2.2.1.cap, .slice r6.1.2.2.2.2.2.1.a r6.1.2.2.2.2.2.1.len r6.1.2.2.2.2.2.1.cap, .slice r6.1.2.2.2.2.2.2.a r6.1.2.2.2.2.2.2.len r6.1.2.2.2.2.2.2.cap]) r6.2).bind fun h7 =>
 (ldA 7 (⟨h.next, 0, none⟩ : Addr) h7).bind fun l8 =>
 (decC [.i .i64, .s, .i .i64, .l, .l, .l, .l] l8).bind fun x9 =>
 some (((x9.1, x9.2.1, x9.2.2.1, x9.2.2.2.1, x9.2.2.2.2.1, x9.2.2.2.2.2.1, x9.2.2.2.2.2.2), (r5.1.2 == 0)), h7))
noncomputable def r_law09_run : RCode := an (.n) (rOf Tryz.prog 0 Tryz.f8)
noncomputable def e_law09_run (k : Nat) (D : CallF) : Ent := entOf 8 [(0, .p), (1, .l)] [(4, .st [.i .i64, .s, .i .i64, .l, .l, .l, .l]), (5, .b)] (law09_run k D)
theorem q_law09_run : (Tryz.f8.body).bind (rcodeOf Tryz.prog 0 Tryz.f8.ntmps) = some (strip r_law09_run) := by kernel_rfl
theorem t_law09_run (k : Nat) (D : CallF) : curF [(0, .p), (1, .l)] (fun args h => denF (C_law09_run k D) k r_law09_run [(4, .st [.i .i64, .s, .i .i64, .l, .l, .l, .l]), (5, .b)] [some (.agg 7), none] args h) = law09_run k D := by kernel_rfl
theorem ok_law09_run {D : CallF} (hD : CSound Tryz.prog 0 D) (k : Nat) : EntOk Tryz.prog 0 (e_law09_run k D) :=
 entOf_ok2 (mkC_sound hD (EntsOk.more (ok_port_Run hD k) (EntsOk.more (ok_port_Job_Result hD k) (EntsOk.none)))) Tryz.func8 rfl q_law09_run rfl (t_law09_run k D)
end Gt
namespace Gt
open Go Gx Go.Proofs
set_option maxRecDepth 100000
noncomputable def C_port_Job_Steps (_k : Nat) (D : CallF) : CallF := mkC D []
noncomputable def port_Job_Steps (_k : Nat) (_D : CallF) (j_0 : Option Addr) (h : AHeap) : Option ((Int) × AHeap) :=
 (j_0).bind fun p1 =>
 (ldP (⟨p1.block, p1.off + 0, none⟩ : Addr) h).bind fun x2 =>
 (x2).bind fun p3 =>
 (ldI .i64 (⟨p3.block, p3.off + 13, none⟩ : Addr) h).bind fun x4 =>
 some (x4, h)
noncomputable def r_port_Job_Steps : RCode := an (.n) (rOf Tryz.prog 0 Tryz.f28)
noncomputable def e_port_Job_Steps (k : Nat) (D : CallF) : Ent := entOf 28 [(0, .p)] [(2, .i .i64)] (port_Job_Steps k D)
theorem q_port_Job_Steps : (Tryz.f28.body).bind (rcodeOf Tryz.prog 0 Tryz.f28.ntmps) = some (strip r_port_Job_Steps) := by kernel_rfl
theorem t_port_Job_Steps (k : Nat) (D : CallF) : curF [(0, .p)] (fun args h => denF (C_port_Job_Steps k D) k r_port_Job_Steps [(2, .i .i64)] [none] args h) = port_Job_Steps k D := by kernel_rfl
theorem ok_port_Job_Steps {D : CallF} (hD : CSound Tryz.prog 0 D) (k : Nat) : EntOk Tryz.prog 0 (e_port_Job_Steps k D) :=
 entOf_ok2 (mkC_sound hD (EntsOk.none)) Tryz.func28 rfl q_port_Job_Steps rfl (t_port_Job_Steps k D)
end Gt
namespace Gt
open Go Gx Go.Proofs
set_option maxRecDepth 100000
noncomputable def C_law09_works (k : Nat) (D : CallF) : CallF := mkC D [e_law09_yard k D, e_fan_PutJob k D, e_law09_run k D, e_port_Job_Steps k D]
noncomputable def law09_works (k : Nat) (D : CallF)  (h : AHeap) : Option ((Bool) × AHeap) :=
 (law09_yard k D 2 h).bind fun r1 =>
 (if r1.1.a.isNone = true then
 some (false, r1.2)
 else
 newK r1.2 ((.cells [.string (⟨#[120]⟩ : ByteArray), .string (⟨#[121]⟩ : ByteArray)] 9 true 0)) fun h2 =>
 (fan_PutJob k D (⟨#[97]⟩ : ByteArray) (⟨(some ⟨r1.2.next, 0, some 0⟩), 2, 2⟩ : Slc) h2).bind fun r3 =>
 (law09_run k D r3.1 r1.1 r3.2).bind fun r4 =>
 newK r4.2 ((.cells [.int .i64 0, .string ⟨#[]⟩, .int .i64 0, .slice none 0 0, .slice none 0 0, .slice none 0 0, .slice none 0 0] 42 true 0)) fun h5 =>
 (stL 7 (⟨r4.2.next, 0, none⟩ : Addr) ([.int .i64 r4.1.1.1, .string r4.1.1.2.1, .int .i64 r4.1.1.2.2.1, .slice r4.1.1.2.2.2.1.a r4.1.1.2.2.2.1.len r4.1.1.2.2.2.1.cap, .slice r4.1.1.2.2.2.2.1.a r4.1.1.2.2.2.2.1.len r4.1.1.2.2.2.2.1.cap, .slice r4.1.1.2.2.2.2.2.1.a r4.1.1.2.2.2.2.2.1.len r4.1.1.2.2.2.2.2.1.cap, .slice r4.1.1.2.2.2.2.2.2.a r4.1.1.2.2.2.2.2.2.len r4.1.1.2.2.2.2.2.2.cap]) h5).bind fun h6 =>
 (if r4.1.2 = true then
 (port_Job_Steps k D r3.1 h6).bind fun r7 =>
 (if (r7.1 == 2) = true then
 (ldI .i64 (⟨r4.2.next, 2, none⟩ : Addr) r7.2).bind fun x8 =>
 (if (x8 == 2) = true then
 (ldI .i64 (⟨r4.2.next, 0, none⟩ : Addr) r7.2).bind fun x9 =>
 some ((x9 == 0), r7.2)
 else
 some (false, r7.2))
 else
 some (false, r7.2))
 else
 some (false, h6)))
noncomputable def r_law09_works : RCode := an (.n) (rOf Tryz.prog 0 Tryz.f5)
noncomputable def e_law09_works (k : Nat) (D : CallF) : Ent := entOf 5 [] [(0, .b)] (law09_works k D)
theorem q_law09_works : (Tryz.f5.body).bind (rcodeOf Tryz.prog 0 Tryz.f5.ntmps) = some (strip r_law09_works) := by kernel_rfl
theorem t_law09_works (k : Nat) (D : CallF) : curF [] (fun args h => denF (C_law09_works k D) k r_law09_works [(0, .b)] [none] args h) = law09_works k D := by kernel_rfl
theorem ok_law09_works {D : CallF} (hD : CSound Tryz.prog 0 D) (k : Nat) : EntOk Tryz.prog 0 (e_law09_works k D) :=
 entOf_ok2 (mkC_sound hD (EntsOk.more (ok_law09_yard hD k) (EntsOk.more (ok_fan_PutJob hD k) (EntsOk.more (ok_law09_run hD k) (EntsOk.more (ok_port_Job_Steps hD k) (EntsOk.none)))))) Tryz.func5 rfl q_law09_works rfl (t_law09_works k D)
end Gt
namespace Gt
open Go Gx Go.Proofs
set_option maxRecDepth 100000
noncomputable def C_ref07_New (_k : Nat) (D : CallF) : CallF := mkC D []
noncomputable def ref07_New (_k : Nat) (_D : CallF) (quota_0 : Int) (h : AHeap) : Option (((Option Addr) × Int) × AHeap) :=
 joinK (fun (quota1 : Int) (y2 : Bool) (h3 : AHeap) =>
 (if y2 = true then
 some ((none, 1), h3)
 else
 let h5 := AHeap.new h3 (.cells [.int .i64 quota1, .int .i64 0, .int .i64 0, .bool false, .slice none 0 0] 72 true 0)
 some (((some (⟨h3.next, 0, none⟩ : Addr)), 0), h5))) fun j4 =>
 (if (decide (quota_0 < 0)) = true then
 j4 quota_0 true h
 else
 j4 quota_0 (decide (quota_0 > 1073741824)) h)
noncomputable def r_ref07_New : RCode := an (.s .n (.s (.s (.j [(0, .i .i64), (9, .b)] .n) .n) .n)) (rOf Tryz.prog 0 Tryz.f7)
noncomputable def e_ref07_New (k : Nat) (D : CallF) : Ent := entOf 7 [(0, .i .i64)] [(2, .p), (3, .i .i64)] (ref07_New k D)
theorem q_ref07_New : (Tryz.f7.body).bind (rcodeOf Tryz.prog 0 Tryz.f7.ntmps) = some (strip r_ref07_New) := by kernel_rfl
theorem t_ref07_New (k : Nat) (D : CallF) : curF [(0, .i .i64)] (fun args h => denF (C_ref07_New k D) k r_ref07_New [(2, .p), (3, .i .i64)] [none, none] args h) = ref07_New k D := by kernel_rfl
theorem ok_ref07_New {D : CallF} (hD : CSound Tryz.prog 0 D) (k : Nat) : EntOk Tryz.prog 0 (e_ref07_New k D) :=
 entOf_ok2 (mkC_sound hD (EntsOk.none)) Tryz.func7 rfl q_ref07_New rfl (t_ref07_New k D)
end Gt
namespace Gt
open Go Gx Go.Proofs
set_option maxRecDepth 100000
noncomputable def C_fan_may (_k : Nat) (D : CallF) : CallF := mkC D []
noncomputable def fan_may (_k : Nat) (_D : CallF) (n_0 : Int) (h : AHeap) : Option ((Bool) × AHeap) :=
 (if (decide (n_0 ≥ 1)) = true then
 some ((decide (n_0 ≤ 255)), h)
 else
 some (false, h))
noncomputable def r_fan_may : RCode := an (.n) (rOf Tryz.prog 0 Tryz.f90)
noncomputable def e_fan_may (k : Nat) (D : CallF) : Ent := entOf 90 [(0, .i .i64)] [(2, .b)] (fan_may k D)
theorem q_fan_may : (Tryz.f90.body).bind (rcodeOf Tryz.prog 0 Tryz.f90.ntmps) = some (strip r_fan_may) := by kernel_rfl
theorem t_fan_may (k : Nat) (D : CallF) : curF [(0, .i .i64)] (fun args h => denF (C_fan_may k D) k r_fan_may [(2, .b)] [none] args h) = fan_may k D := by kernel_rfl
theorem ok_fan_may {D : CallF} (hD : CSound Tryz.prog 0 D) (k : Nat) : EntOk Tryz.prog 0 (e_fan_may k D) :=
 entOf_ok2 (mkC_sound hD (EntsOk.none)) Tryz.func90 rfl q_fan_may rfl (t_fan_may k D)
end Gt
namespace Gt
open Go Gx Go.Proofs
set_option maxRecDepth 100000
noncomputable def C_fan_ask (k : Nat) (D : CallF) : CallF := mkC D [e_fan_may k D]
noncomputable def fan_ask_l0b (_k : Nat) (_D : CallF) (j6 : Slc → AHeap → Option ((Slc) × AHeap)) (rec12 : (Option Addr) → Slc → Int → Int → AHeap → Option ((Slc) × AHeap)) (r7 : Option Addr) (out8 : Slc) (y9 : Int) (y10 : Int) (h11 : AHeap) : Option ((Slc) × AHeap) :=
 (if (decide (y10 < y9)) = true then
 (r7).bind fun p13 =>
 (ldA 4 p13 h11).bind fun l14 =>
 (decC [.i .i64, .i .i64, .s, .s] l14).bind fun x15 =>
 (Gx.idxL 4 out8 y10).bind fun q16 =>
 (stL 4 q16 ([.int .i64 x15.1, .int .i64 x15.2.1, .string x15.2.2.1, .string x15.2.2.2]) h11).bind fun h17 =>
 (Gx.idxL 4 out8 y10).bind fun q18 =>
 (st1 (⟨q18.block, q18.off + 0, none⟩ : Addr) (.int .i64 y10) h17).bind fun h19 =>
 rec12 r7 out8 y9 (IntKind.wrap .i64 (y10 + 1)) h19
 else
 j6 out8 h11)
noncomputable def fan_ask_l0 (k : Nat) (D : CallF) (j6 : Slc → AHeap → Option ((Slc) × AHeap)) : (Option Addr) → Slc → Int → Int → AHeap → Option ((Slc) × AHeap) :=
 iterK (α := (Option Addr) → Slc → Int → Int → AHeap → Option ((Slc) × AHeap)) (fun _ _ _ _ _ => none) k (fan_ask_l0b k D j6)
noncomputable def fan_ask (k : Nat) (D : CallF) (n_0 : Int) (r_1 : Int × Int × ByteArray × ByteArray) (h : AHeap) : Option ((Slc) × AHeap) :=
 newK h ((.cells [.int .i64 r_1.1, .int .i64 r_1.2.1, .string r_1.2.2.1, .string r_1.2.2.2] 51 true 0)) fun h1 =>
 (fan_may k D n_0 h1).bind fun r2 =>
 (if (!r2.1) = true then
 some ((⟨none, 0, 0⟩ : Slc), r2.2)
 else
 (if 0 ≤ n_0 ∧ n_0 ≤ n_0 ∧ n_0 ≤ 281474976710656 ∧ 48 * n_0 ≤ 281474976710656 then
 newK r2.2 ((.cells (zerosL (n_0).toNat [.int .i64 0, .int .i64 0, .string ⟨#[]⟩, .string ⟨#[]⟩]) 51 true 0)) fun h3 =>
 joinK (fun (out4 : Slc) (h5 : AHeap) =>
 some (out4, h5)) fun j6 =>
 fan_ask_l0 k D j6 (some (⟨h.next, 0, none⟩ : Addr)) (⟨(some ⟨r2.2.next, 0, some 0⟩), (n_0).toNat, (n_0).toNat⟩ : Slc) ((n_0).toNat : Int) 0 h3
 else none))
noncomputable def r_fan_ask : RCode := an (.s .n (.s .n (.s .n (.s (.j [(5, .l)] (.s .n (.b (.l [(3, .p), (5, .l), (13, .i .i64), (14, .i .i64)] (.s .n (.s .n (.s (.b (.s .n (.s (.r [(2, .st [.i .i64, .i .i64, .s, .s])]) .n))) .n))))))) .n)))) (rOf Tryz.prog 0 Tryz.f66)
noncomputable def e_fan_ask (k : Nat) (D : CallF) : Ent := entOf 66 [(0, .i .i64), (1, .st [.i .i64, .i .i64, .s, .s])] [(4, .l)] (fan_ask k D)
theorem q_fan_ask : (Tryz.f66.body).bind (rcodeOf Tryz.prog 0 Tryz.f66.ntmps) = some (strip r_fan_ask) := by kernel_rfl
theorem t_fan_ask (k : Nat) (D : CallF) : curF [(0, .i .i64), (1, .st [.i .i64, .i .i64, .s, .s])] (fun args h => denF (C_fan_ask k D) k r_fan_ask [(4, .l)] [none] args h) = fan_ask k D := by kernel_rfl
theorem ok_fan_ask {D : CallF} (hD : CSound Tryz.prog 0 D) (k : Nat) : EntOk Tryz.prog 0 (e_fan_ask k D) :=
 entOf_ok2 (mkC_sound hD (EntsOk.more (ok_fan_may hD k) (EntsOk.none))) Tryz.func66 rfl q_fan_ask rfl (t_fan_ask k D)
end Gt
namespace Gt
open Go Gx Go.Proofs
set_option maxRecDepth 100000
noncomputable def C_slices_Clone_api_Req_api_Req (_k : Nat) (D : CallF) : CallF := mkC D []
noncomputable def slices_Clone_api_Req_api_Req (_k : Nat) (_D : CallF) (s_0 : Slc) (h : AHeap) : Option ((Slc) × AHeap) :=
 (if s_0.a.isNone = true then
 some ((⟨none, 0, 0⟩ : Slc), h)
 else
 let h1 := AHeap.new h (.cells [] 51 true 0)
 (rdS 4 s_0 h1).bind fun n3 =>
 (appendA 4 48 51 h1 (⟨(some ⟨h.next, 0, some 0⟩), 0, 0⟩ : Slc) n3 s_0.len).bind fun r2 =>
 some (r2.1, r2.2))
noncomputable def r_slices_Clone_api_Req_api_Req : RCode := an (.n) (rOf Tryz.prog 0 Tryz.f93)
noncomputable def e_slices_Clone_api_Req_api_Req (k : Nat) (D : CallF) : Ent := entOf 93 [(0, .l)] [(2, .l)] (slices_Clone_api_Req_api_Req k D)
theorem q_slices_Clone_api_Req_api_Req : (Tryz.f93.body).bind (rcodeOf Tryz.prog 0 Tryz.f93.ntmps) = some (strip r_slices_Clone_api_Req_api_Req) := by kernel_rfl
theorem t_slices_Clone_api_Req_api_Req (k : Nat) (D : CallF) : curF [(0, .l)] (fun args h => denF (C_slices_Clone_api_Req_api_Req k D) k r_slices_Clone_api_Req_api_Req [(2, .l)] [none] args h) = slices_Clone_api_Req_api_Req k D := by kernel_rfl
theorem ok_slices_Clone_api_Req_api_Req {D : CallF} (hD : CSound Tryz.prog 0 D) (k : Nat) : EntOk Tryz.prog 0 (e_slices_Clone_api_Req_api_Req k D) :=
 entOf_ok2 (mkC_sound hD (EntsOk.none)) Tryz.func93 rfl q_slices_Clone_api_Req_api_Req rfl (t_slices_Clone_api_Req_api_Req k D)
end Gt
namespace Gt
open Go Gx Go.Proofs
set_option maxRecDepth 100000
noncomputable def C_port_IO_All (k : Nat) (D : CallF) : CallF := mkC D [e_slices_Clone_api_Req_api_Req k D]
noncomputable def port_IO_All (k : Nat) (D : CallF) (io_0 : Option Addr) (l_1 : Slc) (then_2 : Value) (h : AHeap) : Option ((Unit) × AHeap) :=
 let h1 := AHeap.new h (.cells [.pointer io_0] 34 true 0)
 let h2 := AHeap.new h1 (.cells [.slice l_1.a l_1.len l_1.cap] 124 true 0)
 let h3 := AHeap.new h2 (.cells then_2.cells.toList 127 true 0)
 (ldL (⟨h1.next, 0, none⟩ : Addr) h3).bind fun x4 =>
 (slices_Clone_api_Req_api_Req k D x4 h3).bind fun r5 =>
 (st1 (⟨h1.next, 0, none⟩ : Addr) (.slice r5.1.a r5.1.len r5.1.cap) r5.2).bind fun h6 =>
 (ldL (⟨h1.next, 0, none⟩ : Addr) h6).bind fun x7 =>
 (if 0 ≤ (0 : Int) ∧ 0 ≤ (x7.len : Int) ∧ (x7.len : Int) ≤ 281474976710656 ∧ 48 * (x7.len : Int) ≤ 281474976710656 then
 let h8 := AHeap.new h6 (.cells (zerosL ((x7.len : Int)).toNat [.int .i64 0, .string ⟨#[]⟩, .slice none 0 0]) 59 true 0)
 let h9 := AHeap.new h8 (.cells [.slice none 0 0] 36 true 0)
 (st1 (⟨h8.next, 0, none⟩ : Addr) (.slice (some ⟨h6.next, 0, some 0⟩) ((0 : Int).toNat) (((x7.len : Int)).toNat)) h9).bind fun h10 =>
 let h11 := AHeap.new h10 (.cells [.nilFunc] 1 true 0)
 (st1 (⟨h10.next, 0, none⟩ : Addr) (.func (.func 94) ⟨[]⟩ ⟨[.pointer (some (⟨h8.next, 0, none⟩ : Addr)), .pointer (some (⟨h1.next, 0, none⟩ : Addr)), .pointer (some (⟨h2.next, 0, none⟩ : Addr)), .pointer (some (⟨h.next, 0, none⟩ : Addr)), .pointer (some (⟨h10.next, 0, none⟩ : Addr))]⟩) h11).bind fun h12 =>
 (ldV (⟨h10.next, 0, none⟩ : Addr) h12).bind fun x13 =>
 callD (C_port_IO_All k D) x13 [] h12 fun _ h15 =>
 some ((), h15)
 else none)
noncomputable def r_port_IO_All : RCode := an (.n) (rOf Tryz.prog 0 Tryz.f67)
noncomputable def e_port_IO_All (k : Nat) (D : CallF) : Ent := entOf 67 [(0, .p), (1, .l), (2, .v)] [] (port_IO_All k D)
theorem q_port_IO_All : (Tryz.f67.body).bind (rcodeOf Tryz.prog 0 Tryz.f67.ntmps) = some (strip r_port_IO_All) := by kernel_rfl
theorem t_port_IO_All (k : Nat) (D : CallF) : curF [(0, .p), (1, .l), (2, .v)] (fun args h => denF (C_port_IO_All k D) k r_port_IO_All [] [] args h) = port_IO_All k D := by kernel_rfl
theorem ok_port_IO_All {D : CallF} (hD : CSound Tryz.prog 0 D) (k : Nat) : EntOk Tryz.prog 0 (e_port_IO_All k D) :=
 entOf_ok2 (mkC_sound hD (EntsOk.more (ok_slices_Clone_api_Req_api_Req hD k) (EntsOk.none))) Tryz.func67 rfl q_port_IO_All rfl (t_port_IO_All k D)
end Gt
namespace Gt
open Go Gx Go.Proofs
set_option maxRecDepth 100000
noncomputable def C_fan_Puts (k : Nat) (D : CallF) : CallF := mkC D [e_fan_ask k D, e_port_IO_All k D]
noncomputable def fan_Puts_l0b (_k : Nat) (_D : CallF) (j7 : (Option Addr) → (Option Addr) → Slc → AHeap → Option ((Unit) × AHeap)) (rec16 : (Option Addr) → Slc → (Option Addr) → Slc → Int → Int → AHeap → Option ((Unit) × AHeap)) (io9 : Option Addr) (data10 : Slc) (thenv11 : Option Addr) (l12 : Slc) (y13 : Int) (y14 : Int) (h15 : AHeap) : Option ((Unit) × AHeap) :=
 (if (decide (y14 < y13)) = true then
 (Gx.idxL 1 data10 y14).bind fun q17 =>
 (ldS q17 h15).bind fun x18 =>
 (Gx.idxL 4 l12 y14).bind fun q19 =>
 (st1 (⟨q19.block, q19.off + 3, none⟩ : Addr) (.string x18) h15).bind fun h20 =>
 rec16 io9 data10 thenv11 l12 y13 (IntKind.wrap .i64 (y14 + 1)) h20
 else
 j7 io9 thenv11 l12 h15)
noncomputable def fan_Puts_l0 (k : Nat) (D : CallF) (j7 : (Option Addr) → (Option Addr) → Slc → AHeap → Option ((Unit) × AHeap)) : (Option Addr) → Slc → (Option Addr) → Slc → Int → Int → AHeap → Option ((Unit) × AHeap) :=
 iterK (α := (Option Addr) → Slc → (Option Addr) → Slc → Int → Int → AHeap → Option ((Unit) × AHeap)) (fun _ _ _ _ _ _ _ => none) k (fan_Puts_l0b k D j7)
noncomputable def fan_Puts (k : Nat) (D : CallF) (io_0 : Option Addr) (name_1 : ByteArray) (data_2 : Slc) (then_3 : Value) (h : AHeap) : Option ((Unit) × AHeap) :=
 newK h ((.cells then_3.cells.toList 93 true 0)) fun h1 =>
 (fan_ask k D (data_2.len : Int) (0, 1, name_1, (⟨#[]⟩ : ByteArray)) h1).bind fun r2 =>
 joinK (fun (io3 : Option Addr) (thenv4 : Option Addr) (l5 : Slc) (h6 : AHeap) =>
 (port_IO_All k D io3 l5 (.func (.func 68) ⟨[]⟩ ⟨[.pointer thenv4]⟩) h6).bind fun r8 =>
 some ((), r8.2)) fun j7 =>
 fan_Puts_l0 k D j7 io_0 data_2 (some (⟨h.next, 0, none⟩ : Addr)) r2.1 (r2.1.len : Int) 0 r2.2
noncomputable def r_fan_Puts : RCode := an (.s .n (.s .n (.s (.j [(0, .p), (7, .p), (8, .l)] (.s .n (.b (.l [(0, .p), (2, .l), (7, .p), (8, .l), (16, .i .i64), (17, .i .i64)] .n)))) .n))) (rOf Tryz.prog 0 Tryz.f32)
noncomputable def e_fan_Puts (k : Nat) (D : CallF) : Ent := entOf 32 [(0, .p), (1, .s), (2, .l), (3, .v)] [] (fan_Puts k D)
theorem q_fan_Puts : (Tryz.f32.body).bind (rcodeOf Tryz.prog 0 Tryz.f32.ntmps) = some (strip r_fan_Puts) := by kernel_rfl
theorem t_fan_Puts (k : Nat) (D : CallF) : curF [(0, .p), (1, .s), (2, .l), (3, .v)] (fun args h => denF (C_fan_Puts k D) k r_fan_Puts [] [] args h) = fan_Puts k D := by kernel_rfl
theorem ok_fan_Puts {D : CallF} (hD : CSound Tryz.prog 0 D) (k : Nat) : EntOk Tryz.prog 0 (e_fan_Puts k D) :=
 entOf_ok2 (mkC_sound hD (EntsOk.more (ok_fan_ask hD k) (EntsOk.more (ok_port_IO_All hD k) (EntsOk.none)))) Tryz.func32 rfl q_fan_Puts rfl (t_fan_Puts k D)
end Gt
namespace Gt
open Go Gx Go.Proofs
set_option maxRecDepth 100000
noncomputable def C_law09_calls_begin (k : Nat) (D : CallF) : CallF := mkC D [e_fan_Puts k D]
noncomputable def law09_calls_begin (k : Nat) (D : CallF) (c_0 : Option Addr) (io_1 : Option Addr) (h : AHeap) : Option ((Unit) × AHeap) :=
 (c_0).bind fun p1 =>
 (st1 (⟨p1.block, p1.off + 0, none⟩ : Addr) (.pointer io_1) h).bind fun h2 =>
 (c_0).bind fun p3 =>
 (ldS (⟨p3.block, p3.off + 2, none⟩ : Addr) h2).bind fun x4 =>
 (c_0).bind fun p5 =>
 (ldL (⟨p5.block, p5.off + 3, none⟩ : Addr) h2).bind fun x6 =>
 (fan_Puts k D io_1 x4 x6 (.func (.func 33) ⟨[.pointer c_0]⟩ ⟨[]⟩) h2).bind fun r7 =>
 some ((), r7.2)
noncomputable def r_law09_calls_begin : RCode := an (.n) (rOf Tryz.prog 0 Tryz.f10)
noncomputable def e_law09_calls_begin (k : Nat) (D : CallF) : Ent := entOf 10 [(0, .p), (1, .p)] [] (law09_calls_begin k D)
theorem q_law09_calls_begin : (Tryz.f10.body).bind (rcodeOf Tryz.prog 0 Tryz.f10.ntmps) = some (strip r_law09_calls_begin) := by kernel_rfl
theorem t_law09_calls_begin (k : Nat) (D : CallF) : curF [(0, .p), (1, .p)] (fun args h => denF (C_law09_calls_begin k D) k r_law09_calls_begin [] [] args h) = law09_calls_begin k D := by kernel_rfl
theorem ok_law09_calls_begin {D : CallF} (hD : CSound Tryz.prog 0 D) (k : Nat) : EntOk Tryz.prog 0 (e_law09_calls_begin k D) :=
 entOf_ok2 (mkC_sound hD (EntsOk.more (ok_fan_Puts hD k) (EntsOk.none))) Tryz.func10 rfl q_law09_calls_begin rfl (t_law09_calls_begin k D)
end Gt
namespace Gt
open Go Gx Go.Proofs
set_option maxRecDepth 100000
noncomputable def C_ref07_Store_find (_k : Nat) (D : CallF) : CallF := mkC D []
noncomputable def ref07_Store_find_l0b (_k : Nat) (_D : CallF) (j5 : (Option Addr) → ByteArray → Int → AHeap → Option ((Int × Bool) × AHeap)) (rec16 : (Option Addr) → ByteArray → Int → AHeap → Option ((Int × Bool) × AHeap)) (s12 : Option Addr) (n13 : ByteArray) (i14 : Int) (h15 : AHeap) : Option ((Int × Bool) × AHeap) :=
 joinK (fun (s17 : Option Addr) (n18 : ByteArray) (i19 : Int) (y20 : Bool) (h21 : AHeap) =>
 (if y20 = true then
 rec16 s17 n18 (IntKind.wrap .i64 (i19 + 1)) h21
 else
 j5 s17 n18 i19 h21)) fun j22 =>
 (s12).bind fun p23 =>
 (ldL (⟨p23.block, p23.off + 4, none⟩ : Addr) h15).bind fun x24 =>
 (if (decide (i14 < (x24.len : Int))) = true then
 (s12).bind fun p25 =>
 (ldL (⟨p25.block, p25.off + 4, none⟩ : Addr) h15).bind fun x26 =>
 (Gx.idxL 2 x26 i14).bind fun q27 =>
 (ldS (⟨q27.block, q27.off + 0, none⟩ : Addr) h15).bind fun x28 =>
 j22 s12 n13 i14 (Op.bytesLess x28.toList n13.toList) h15
 else
 j22 s12 n13 i14 false h15)
noncomputable def ref07_Store_find_l0 (k : Nat) (D : CallF) (j5 : (Option Addr) → ByteArray → Int → AHeap → Option ((Int × Bool) × AHeap)) : (Option Addr) → ByteArray → Int → AHeap → Option ((Int × Bool) × AHeap) :=
 iterK (α := (Option Addr) → ByteArray → Int → AHeap → Option ((Int × Bool) × AHeap)) (fun _ _ _ _ => none) k (ref07_Store_find_l0b k D j5)
noncomputable def ref07_Store_find (k : Nat) (D : CallF) (s_0 : Option Addr) (n_1 : ByteArray) (h : AHeap) : Option ((Int × Bool) × AHeap) :=
 joinK (fun (s1 : Option Addr) (n2 : ByteArray) (i3 : Int) (h4 : AHeap) =>
 (s1).bind fun p6 =>
 (ldL (⟨p6.block, p6.off + 4, none⟩ : Addr) h4).bind fun x7 =>
 (if (decide (i3 < (x7.len : Int))) = true then
 (s1).bind fun p8 =>
 (ldL (⟨p8.block, p8.off + 4, none⟩ : Addr) h4).bind fun x9 =>
 (Gx.idxL 2 x9 i3).bind fun q10 =>
 (ldS (⟨q10.block, q10.off + 0, none⟩ : Addr) h4).bind fun x11 =>
 some ((i3, (x11 == n2)), h4)
 else
 some ((i3, false), h4))) fun j5 =>
 ref07_Store_find_l0 k D j5 s_0 n_1 0 h
noncomputable def r_ref07_Store_find : RCode := an (.s .n (.s .n (.s (.j [(0, .p), (1, .s), (6, .i .i64)] (.b (.l [(0, .p), (1, .s), (6, .i .i64)] (.s (.s (.j [(0, .p), (1, .s), (6, .i .i64), (25, .b)] .n) .n) .n)))) .n))) (rOf Tryz.prog 0 Tryz.f98)
noncomputable def e_ref07_Store_find (k : Nat) (D : CallF) : Ent := entOf 98 [(0, .p), (1, .s)] [(4, .i .i64), (5, .b)] (ref07_Store_find k D)
theorem q_ref07_Store_find : (Tryz.f98.body).bind (rcodeOf Tryz.prog 0 Tryz.f98.ntmps) = some (strip r_ref07_Store_find) := by kernel_rfl
theorem t_ref07_Store_find (k : Nat) (D : CallF) : curF [(0, .p), (1, .s)] (fun args h => denF (C_ref07_Store_find k D) k r_ref07_Store_find [(4, .i .i64), (5, .b)] [none, none] args h) = ref07_Store_find k D := by kernel_rfl
theorem ok_ref07_Store_find {D : CallF} (hD : CSound Tryz.prog 0 D) (k : Nat) : EntOk Tryz.prog 0 (e_ref07_Store_find k D) :=
 entOf_ok2 (mkC_sound hD (EntsOk.none)) Tryz.func98 rfl q_ref07_Store_find rfl (t_ref07_Store_find k D)
end Gt
namespace Gt
open Go Gx Go.Proofs
set_option maxRecDepth 100000
noncomputable def C_ref07_Name (_k : Nat) (D : CallF) : CallF := mkC D []
noncomputable def ref07_Name_l0b (_k : Nat) (_D : CallF) (j6 : AHeap → Option ((Bool) × AHeap)) (rec10 : ByteArray → Int → AHeap → Option ((Bool) × AHeap)) (n7 : ByteArray) (i8 : Int) (h9 : AHeap) : Option ((Bool) × AHeap) :=
 (if (decide (i8 < (n7.size : Int))) = true then
 joinK (fun (n11 : ByteArray) (i12 : Int) (y13 : Bool) (h14 : AHeap) =>
 (if y13 = true then
 some (false, h14)
 else
 rec10 n11 (IntKind.wrap .i64 (i12 + 1)) h14)) fun j15 =>
 (Gx.idxS n7 i8).bind fun b16 =>
 (if (decide (b16 ≤ 32)) = true then
 j15 n7 i8 true h9
 else
 (Gx.idxS n7 i8).bind fun b17 =>
 j15 n7 i8 (decide (b17 ≥ 127)) h9)
 else
 j6 h9)
noncomputable def ref07_Name_l0 (k : Nat) (D : CallF) (j6 : AHeap → Option ((Bool) × AHeap)) : ByteArray → Int → AHeap → Option ((Bool) × AHeap) :=
 iterK (α := ByteArray → Int → AHeap → Option ((Bool) × AHeap)) (fun _ _ _ => none) k (ref07_Name_l0b k D j6)
noncomputable def ref07_Name (k : Nat) (D : CallF) (n_0 : ByteArray) (h : AHeap) : Option ((Bool) × AHeap) :=
 joinK (fun (n1 : ByteArray) (y2 : Bool) (h3 : AHeap) =>
 (if y2 = true then
 some (false, h3)
 else
 joinK (fun (h5 : AHeap) =>
 some (true, h5)) fun j6 =>
 ref07_Name_l0 k D j6 n1 0 h3)) fun j4 =>
 (if (n_0 == (⟨#[]⟩ : ByteArray)) = true then
 j4 n_0 true h
 else
 j4 n_0 (decide ((n_0.size : Int) > 96)) h)
noncomputable def r_ref07_Name : RCode := an (.s .n (.s (.s (.j [(0, .s), (10, .b)] .n) .n) (.s (.j [] (.s .n (.b (.l [(0, .s), (3, .i .i64)] (.s .n (.s (.b (.s (.j [(0, .s), (3, .i .i64), (26, .b)] .n) .n)) .n)))))) .n))) (rOf Tryz.prog 0 Tryz.f113)
noncomputable def e_ref07_Name (k : Nat) (D : CallF) : Ent := entOf 113 [(0, .s)] [(2, .b)] (ref07_Name k D)
theorem q_ref07_Name : (Tryz.f113.body).bind (rcodeOf Tryz.prog 0 Tryz.f113.ntmps) = some (strip r_ref07_Name) := by kernel_rfl
theorem t_ref07_Name (k : Nat) (D : CallF) : curF [(0, .s)] (fun args h => denF (C_ref07_Name k D) k r_ref07_Name [(2, .b)] [none] args h) = ref07_Name k D := by kernel_rfl
theorem ok_ref07_Name {D : CallF} (hD : CSound Tryz.prog 0 D) (k : Nat) : EntOk Tryz.prog 0 (e_ref07_Name k D) :=
 entOf_ok2 (mkC_sound hD (EntsOk.none)) Tryz.func113 rfl q_ref07_Name rfl (t_ref07_Name k D)
end Gt
namespace Gt
open Go Gx Go.Proofs
set_option maxRecDepth 100000
noncomputable def C_ref07_Store_Fork (_k : Nat) (D : CallF) : CallF := mkC D []
noncomputable def ref07_Store_Fork (_k : Nat) (_D : CallF) (s_0 : Option Addr) (h : AHeap) : Option (((Option Addr)) × AHeap) :=
 (s_0).bind fun p1 =>
 (ldA 5 p1 h).bind fun l2 =>
 (decC [.i .i64, .i .i64, .i .i64, .b, .l] l2).bind fun x3 =>
 let h4 := AHeap.new h (.cells [.int .i64 0, .int .i64 0, .int .i64 0, .bool false, .slice none 0 0] 72 true 0)
 (stL 5 (⟨h.next, 0, none⟩ : Addr) ([.int .i64 x3.1, .int .i64 x3.2.1, .int .i64 x3.2.2.1, .bool x3.2.2.2.1, .slice x3.2.2.2.2.a x3.2.2.2.2.len x3.2.2.2.2.cap]) h4).bind fun h5 =>
 let h6 := AHeap.new h5 (.cells [] 96 true 0)
 (s_0).bind fun p7 =>
 (ldL (⟨p7.block, p7.off + 4, none⟩ : Addr) h6).bind fun x8 =>
 (rdS 2 x8 h6).bind fun n10 =>
 (appendA 2 32 96 h6 (⟨(some ⟨h5.next, 0, some 0⟩), 0, 0⟩ : Slc) n10 x8.len).bind fun r9 =>
 (st1 (⟨h.next, 4, none⟩ : Addr) (.slice r9.1.a r9.1.len r9.1.cap) r9.2).bind fun h11 =>
 some ((some (⟨h.next, 0, none⟩ : Addr)), h11)
noncomputable def r_ref07_Store_Fork : RCode := an (.s .n (.s (.r [(2, .st [.i .i64, .i .i64, .i .i64, .b, .l])]) .n)) (rOf Tryz.prog 0 Tryz.f114)
noncomputable def e_ref07_Store_Fork (k : Nat) (D : CallF) : Ent := entOf 114 [(0, .p)] [(2, .p)] (ref07_Store_Fork k D)
theorem q_ref07_Store_Fork : (Tryz.f114.body).bind (rcodeOf Tryz.prog 0 Tryz.f114.ntmps) = some (strip r_ref07_Store_Fork) := by kernel_rfl
theorem t_ref07_Store_Fork (k : Nat) (D : CallF) : curF [(0, .p)] (fun args h => denF (C_ref07_Store_Fork k D) k r_ref07_Store_Fork [(2, .p)] [none] args h) = ref07_Store_Fork k D := by kernel_rfl
theorem ok_ref07_Store_Fork {D : CallF} (hD : CSound Tryz.prog 0 D) (k : Nat) : EntOk Tryz.prog 0 (e_ref07_Store_Fork k D) :=
 entOf_ok2 (mkC_sound hD (EntsOk.none)) Tryz.func114 rfl q_ref07_Store_Fork rfl (t_ref07_Store_Fork k D)
end Gt
namespace Gt
open Go Gx Go.Proofs
set_option maxRecDepth 100000
noncomputable def C_ref07_Store_remove (_k : Nat) (D : CallF) : CallF := mkC D []
noncomputable def ref07_Store_remove (_k : Nat) (_D : CallF) (s_0 : Option Addr) (i_1 : Int) (h : AHeap) : Option ((Unit) × AHeap) :=
 let h1 := AHeap.new h (.cells [] 96 true 0)
 (s_0).bind fun p2 =>
 (ldL (⟨p2.block, p2.off + 4, none⟩ : Addr) h1).bind fun x3 =>
 guardP (SameW [h] (fun H5 => (ldL (⟨p2.block, p2.off + 4, none⟩ : Addr) H5).bind fun y4 => some (.slice y4.a y4.len y4.cap)) (.slice x3.a x3.len x3.cap)) (
 (Gx.subL 2 x3 none (some i_1) none).bind fun l6 =>
 (rdS 2 l6 h1).bind fun n8 =>
 (appendA 2 32 96 h1 (⟨(some ⟨h.next, 0, some 0⟩), 0, 0⟩ : Slc) n8 l6.len).bind fun r7 =>
 (s_0).bind fun p9 =>
 (ldL (⟨p9.block, p9.off + 4, none⟩ : Addr) r7.2).bind fun x10 =>
 guardP (SameW [h1, h] (fun H12 => (ldL (⟨p9.block, p9.off + 4, none⟩ : Addr) H12).bind fun y11 => some (.slice y11.a y11.len y11.cap)) (.slice x10.a x10.len x10.cap)) (
 (Gx.subL 2 x10 (some (IntKind.wrap .i64 (i_1 + 1))) none none).bind fun l13 =>
 (rdS 2 l13 r7.2).bind fun n15 =>
 (appendA 2 32 96 r7.2 r7.1 n15 l13.len).bind fun r14 =>
 (s_0).bind fun p16 =>
 (st1 (⟨p16.block, p16.off + 4, none⟩ : Addr) (.slice r14.1.a r14.1.len r14.1.cap) r14.2).bind fun h17 =>
 some ((), h17)))
noncomputable def r_ref07_Store_remove : RCode := an (.n) (rOf Tryz.prog 0 Tryz.f100)
noncomputable def e_ref07_Store_remove (k : Nat) (D : CallF) : Ent := entOf 100 [(0, .p), (1, .i .i64)] [] (ref07_Store_remove k D)
theorem q_ref07_Store_remove : (Tryz.f100.body).bind (rcodeOf Tryz.prog 0 Tryz.f100.ntmps) = some (strip r_ref07_Store_remove) := by kernel_rfl
theorem t_ref07_Store_remove (k : Nat) (D : CallF) : curF [(0, .p), (1, .i .i64)] (fun args h => denF (C_ref07_Store_remove k D) k r_ref07_Store_remove [] [] args h) = ref07_Store_remove k D := by kernel_rfl
theorem ok_ref07_Store_remove {D : CallF} (hD : CSound Tryz.prog 0 D) (k : Nat) : EntOk Tryz.prog 0 (e_ref07_Store_remove k D) :=
 entOf_ok2 (mkC_sound hD (EntsOk.none)) Tryz.func100 rfl q_ref07_Store_remove rfl (t_ref07_Store_remove k D)
end Gt
namespace Gt
open Go Gx Go.Proofs
set_option maxRecDepth 100000
noncomputable def C_ref07_Store_lay (k : Nat) (D : CallF) : CallF := mkC D [e_ref07_Store_find k D, e_ref07_Store_remove k D]
noncomputable def ref07_Store_lay (k : Nat) (D : CallF) (s_0 : Option Addr) (n_1 : ByteArray) (data_2 : ByteArray) (h : AHeap) : Option ((Unit) × AHeap) :=
 (ref07_Store_find k D s_0 n_1 h).bind fun r1 =>
 joinK (fun (s2 : Option Addr) (n3 : ByteArray) (data4 : ByteArray) (i5 : Int) (h6 : AHeap) =>
 (s2).bind fun p8 =>
 (ldL (⟨p8.block, p8.off + 4, none⟩ : Addr) h6).bind fun x9 =>
 (Gx.subL 2 x9 none (some i5) none).bind fun l10 =>
 (rdS 2 l10 h6).bind fun n12 =>
 (appendA 2 32 96 h6 (⟨none, 0, 0⟩ : Slc) n12 l10.len).bind fun r11 =>
 let h13 := AHeap.new r11.2 (.cells [.string n3, .string data4] 96 true 0)
 (rdS 2 (⟨(some ⟨r11.2.next, 0, some 0⟩), 1, 1⟩ : Slc) h13).bind fun n15 =>
 (appendA 2 32 96 h13 r11.1 n15 1).bind fun r14 =>
 (s2).bind fun p16 =>
 (ldL (⟨p16.block, p16.off + 4, none⟩ : Addr) r14.2).bind fun x17 =>
 (Gx.subL 2 x17 (some i5) none none).bind fun l18 =>
 (rdS 2 l18 r14.2).bind fun n20 =>
 (appendA 2 32 96 r14.2 r14.1 n20 l18.len).bind fun r19 =>
 (s2).bind fun p21 =>
 (st1 (⟨p21.block, p21.off + 4, none⟩ : Addr) (.slice r19.1.a r19.1.len r19.1.cap) r19.2).bind fun h22 =>
 some ((), h22)) fun j7 =>
 (if r1.1.2 = true then
 (ref07_Store_remove k D s_0 r1.1.1 r1.2).bind fun r23 =>
 j7 s_0 n_1 data_2 r1.1.1 r23.2
 else
 j7 s_0 n_1 data_2 r1.1.1 r1.2)
noncomputable def r_ref07_Store_lay : RCode := an (.s .n (.s (.j [(0, .p), (1, .s), (2, .s), (6, .i .i64)] .n) .n)) (rOf Tryz.prog 0 Tryz.f115)
noncomputable def e_ref07_Store_lay (k : Nat) (D : CallF) : Ent := entOf 115 [(0, .p), (1, .s), (2, .s)] [] (ref07_Store_lay k D)
theorem q_ref07_Store_lay : (Tryz.f115.body).bind (rcodeOf Tryz.prog 0 Tryz.f115.ntmps) = some (strip r_ref07_Store_lay) := by kernel_rfl
theorem t_ref07_Store_lay (k : Nat) (D : CallF) : curF [(0, .p), (1, .s), (2, .s)] (fun args h => denF (C_ref07_Store_lay k D) k r_ref07_Store_lay [] [] args h) = ref07_Store_lay k D := by kernel_rfl
theorem ok_ref07_Store_lay {D : CallF} (hD : CSound Tryz.prog 0 D) (k : Nat) : EntOk Tryz.prog 0 (e_ref07_Store_lay k D) :=
 entOf_ok2 (mkC_sound hD (EntsOk.more (ok_ref07_Store_find hD k) (EntsOk.more (ok_ref07_Store_remove hD k) (EntsOk.none)))) Tryz.func115 rfl q_ref07_Store_lay rfl (t_ref07_Store_lay k D)
end Gt
namespace Gt
open Go Gx Go.Proofs
set_option maxRecDepth 100000
noncomputable def C_ref07_Store_Used (_k : Nat) (D : CallF) : CallF := mkC D []
noncomputable def ref07_Store_Used_l0b (_k : Nat) (_D : CallF) (j3 : Int → AHeap → Option ((Int) × AHeap)) (rec8 : (Option Addr) → Int → Int → AHeap → Option ((Int) × AHeap)) (s4 : Option Addr) (n5 : Int) (i6 : Int) (h7 : AHeap) : Option ((Int) × AHeap) :=
 (s4).bind fun p9 =>
 (ldL (⟨p9.block, p9.off + 4, none⟩ : Addr) h7).bind fun x10 =>
 (if (decide (i6 < (x10.len : Int))) = true then
 (s4).bind fun p11 =>
 (ldL (⟨p11.block, p11.off + 4, none⟩ : Addr) h7).bind fun x12 =>
 (Gx.idxL 2 x12 i6).bind fun q13 =>
 (ldS (⟨q13.block, q13.off + 0, none⟩ : Addr) h7).bind fun x14 =>
 (s4).bind fun p15 =>
 (ldL (⟨p15.block, p15.off + 4, none⟩ : Addr) h7).bind fun x16 =>
 (Gx.idxL 2 x16 i6).bind fun q17 =>
 (ldS (⟨q17.block, q17.off + 1, none⟩ : Addr) h7).bind fun x18 =>
 let t19 : Int := (IntKind.wrap .i64 (n5 + (IntKind.wrap .i64 ((x14.size : Int) + (x18.size : Int)))))
 rec8 s4 t19 (IntKind.wrap .i64 (i6 + 1)) h7
 else
 j3 n5 h7)
noncomputable def ref07_Store_Used_l0 (k : Nat) (D : CallF) (j3 : Int → AHeap → Option ((Int) × AHeap)) : (Option Addr) → Int → Int → AHeap → Option ((Int) × AHeap) :=
 iterK (α := (Option Addr) → Int → Int → AHeap → Option ((Int) × AHeap)) (fun _ _ _ _ => none) k (ref07_Store_Used_l0b k D j3)
noncomputable def ref07_Store_Used (k : Nat) (D : CallF) (s_0 : Option Addr) (h : AHeap) : Option ((Int) × AHeap) :=
 joinK (fun (n1 : Int) (h2 : AHeap) =>
 some (n1, h2)) fun j3 =>
 ref07_Store_Used_l0 k D j3 s_0 0 0 h
noncomputable def r_ref07_Store_Used : RCode := an (.s .n (.s .n (.s (.j [(3, .i .i64)] (.s .n (.b (.l [(0, .p), (3, .i .i64), (4, .i .i64)] .n)))) .n))) (rOf Tryz.prog 0 Tryz.f19)
noncomputable def e_ref07_Store_Used (k : Nat) (D : CallF) : Ent := entOf 19 [(0, .p)] [(2, .i .i64)] (ref07_Store_Used k D)
theorem q_ref07_Store_Used : (Tryz.f19.body).bind (rcodeOf Tryz.prog 0 Tryz.f19.ntmps) = some (strip r_ref07_Store_Used) := by kernel_rfl
theorem t_ref07_Store_Used (k : Nat) (D : CallF) : curF [(0, .p)] (fun args h => denF (C_ref07_Store_Used k D) k r_ref07_Store_Used [(2, .i .i64)] [none] args h) = ref07_Store_Used k D := by kernel_rfl
theorem ok_ref07_Store_Used {D : CallF} (hD : CSound Tryz.prog 0 D) (k : Nat) : EntOk Tryz.prog 0 (e_ref07_Store_Used k D) :=
 entOf_ok2 (mkC_sound hD (EntsOk.none)) Tryz.func19 rfl q_ref07_Store_Used rfl (t_ref07_Store_Used k D)
end Gt
namespace Gt
open Go Gx Go.Proofs
set_option maxRecDepth 100000
noncomputable def C_ref07_Store_put (k : Nat) (D : CallF) : CallF := mkC D [e_ref07_Name k D, e_ref07_Store_Fork k D, e_ref07_Store_lay k D, e_ref07_Store_Used k D]
noncomputable def ref07_Store_put (k : Nat) (D : CallF) (s_0 : Option Addr) (r_1 : Int × Int × ByteArray × ByteArray) (h : AHeap) : Option ((Int) × AHeap) :=
 let h1 := AHeap.new h (.cells [.int .i64 r_1.1, .int .i64 r_1.2.1, .string r_1.2.2.1, .string r_1.2.2.2] 51 true 0)
 (ldS (⟨h.next, 2, none⟩ : Addr) h1).bind fun x2 =>
 (ref07_Name k D x2 h1).bind fun r3 =>
 (if (!r3.1) = true then
 some (3, r3.2)
 else
 (ldS (⟨h.next, 3, none⟩ : Addr) r3.2).bind fun x4 =>
 (if (decide ((x4.size : Int) > 131072)) = true then
 some (2, r3.2)
 else
 (ref07_Store_Fork k D s_0 r3.2).bind fun r5 =>
 (ldS (⟨h.next, 2, none⟩ : Addr) r5.2).bind fun x6 =>
 (ldS (⟨h.next, 3, none⟩ : Addr) r5.2).bind fun x7 =>
 (ref07_Store_lay k D r5.1 x6 x7 r5.2).bind fun r8 =>
 (ref07_Store_Used k D r5.1 r8.2).bind fun r9 =>
 (s_0).bind fun p10 =>
 (ldI .i64 (⟨p10.block, p10.off + 0, none⟩ : Addr) r9.2).bind fun x11 =>
 guardP (SameW [r8.2] (fun H13 => (ldI .i64 (⟨p10.block, p10.off + 0, none⟩ : Addr) H13).bind fun y12 => some (.int .i64 y12)) (.int .i64 x11)) (
 (if (decide (r9.1 > x11)) = true then
 some (71, r9.2)
 else
 (r5.1).bind fun p14 =>
 (ldL (⟨p14.block, p14.off + 4, none⟩ : Addr) r9.2).bind fun x15 =>
 (s_0).bind fun p16 =>
 (st1 (⟨p16.block, p16.off + 4, none⟩ : Addr) (.slice x15.a x15.len x15.cap) r9.2).bind fun h17 =>
 some (0, h17)))))
noncomputable def r_ref07_Store_put : RCode := an (.n) (rOf Tryz.prog 0 Tryz.f99)
noncomputable def e_ref07_Store_put (k : Nat) (D : CallF) : Ent := entOf 99 [(0, .p), (1, .st [.i .i64, .i .i64, .s, .s])] [(4, .i .i64)] (ref07_Store_put k D)
theorem q_ref07_Store_put : (Tryz.f99.body).bind (rcodeOf Tryz.prog 0 Tryz.f99.ntmps) = some (strip r_ref07_Store_put) := by kernel_rfl
theorem t_ref07_Store_put (k : Nat) (D : CallF) : curF [(0, .p), (1, .st [.i .i64, .i .i64, .s, .s])] (fun args h => denF (C_ref07_Store_put k D) k r_ref07_Store_put [(4, .i .i64)] [none] args h) = ref07_Store_put k D := by kernel_rfl
theorem ok_ref07_Store_put {D : CallF} (hD : CSound Tryz.prog 0 D) (k : Nat) : EntOk Tryz.prog 0 (e_ref07_Store_put k D) :=
 entOf_ok2 (mkC_sound hD (EntsOk.more (ok_ref07_Name hD k) (EntsOk.more (ok_ref07_Store_Fork hD k) (EntsOk.more (ok_ref07_Store_lay hD k) (EntsOk.more (ok_ref07_Store_Used hD k) (EntsOk.none)))))) Tryz.func99 rfl q_ref07_Store_put rfl (t_ref07_Store_put k D)
end Gt
namespace Gt
open Go Gx Go.Proofs
set_option maxRecDepth 100000
noncomputable def C_ref07_Store_Names (_k : Nat) (D : CallF) : CallF := mkC D []
noncomputable def ref07_Store_Names_l0b (_k : Nat) (_D : CallF) (j3 : Slc → AHeap → Option ((Slc) × AHeap)) (rec9 : (Option Addr) → ByteArray → Slc → Int → AHeap → Option ((Slc) × AHeap)) (s4 : Option Addr) (begin5 : ByteArray) (out6 : Slc) (i7 : Int) (h8 : AHeap) : Option ((Slc) × AHeap) :=
 (s4).bind fun p10 =>
 (ldL (⟨p10.block, p10.off + 4, none⟩ : Addr) h8).bind fun x11 =>
 (if (decide (i7 < (x11.len : Int))) = true then
 joinK (fun (s12 : Option Addr) (begin13 : ByteArray) (out14 : Slc) (i15 : Int) (h16 : AHeap) =>
 rec9 s12 begin13 out14 (IntKind.wrap .i64 (i15 + 1)) h16) fun j17 =>
 (s4).bind fun p18 =>
 (ldL (⟨p18.block, p18.off + 4, none⟩ : Addr) h8).bind fun x19 =>
 (Gx.idxL 2 x19 i7).bind fun q20 =>
 (ldS (⟨q20.block, q20.off + 0, none⟩ : Addr) h8).bind fun x21 =>
 joinK (fun (s22 : Option Addr) (begin23 : ByteArray) (out24 : Slc) (i25 : Int) (n26 : ByteArray) (y27 : Bool) (h28 : AHeap) =>
 (if y27 = true then
 let h30 := AHeap.new h28 (.cells [.string n26] 9 true 0)
 (rdS 1 (⟨(some ⟨h28.next, 0, some 0⟩), 1, 1⟩ : Slc) h30).bind fun n32 =>
 (appendA 1 16 9 h30 out24 n32 1).bind fun r31 =>
 j17 s22 begin23 r31.1 i25 r31.2
 else
 j17 s22 begin23 out24 i25 h28)) fun j29 =>
 (if (decide ((x21.size : Int) ≥ (begin5.size : Int))) = true then
 (Gx.subS x21 none (some (begin5.size : Int))).bind fun s33 =>
 j29 s4 begin5 out6 i7 x21 (s33 == begin5) h8
 else
 j29 s4 begin5 out6 i7 x21 false h8)
 else
 j3 out6 h8)
noncomputable def ref07_Store_Names_l0 (k : Nat) (D : CallF) (j3 : Slc → AHeap → Option ((Slc) × AHeap)) : (Option Addr) → ByteArray → Slc → Int → AHeap → Option ((Slc) × AHeap) :=
 iterK (α := (Option Addr) → ByteArray → Slc → Int → AHeap → Option ((Slc) × AHeap)) (fun _ _ _ _ _ => none) k (ref07_Store_Names_l0b k D j3)
noncomputable def ref07_Store_Names (k : Nat) (D : CallF) (s_0 : Option Addr) (begin_1 : ByteArray) (h : AHeap) : Option ((Slc) × AHeap) :=
 joinK (fun (out1 : Slc) (h2 : AHeap) =>
 some (out1, h2)) fun j3 =>
 ref07_Store_Names_l0 k D j3 s_0 begin_1 (⟨none, 0, 0⟩ : Slc) 0 h
noncomputable def r_ref07_Store_Names : RCode := an (.s .n (.s .n (.s (.j [(5, .l)] (.s .n (.b (.l [(0, .p), (1, .s), (5, .l), (6, .i .i64)] (.s .n (.s (.j [(0, .p), (1, .s), (5, .l), (6, .i .i64)] (.b (.s .n (.s (.j [(0, .p), (1, .s), (5, .l), (6, .i .i64), (7, .s), (37, .b)] .n) .n)))) .n)))))) .n))) (rOf Tryz.prog 0 Tryz.f24)
noncomputable def e_ref07_Store_Names (k : Nat) (D : CallF) : Ent := entOf 24 [(0, .p), (1, .s)] [(4, .l)] (ref07_Store_Names k D)
theorem q_ref07_Store_Names : (Tryz.f24.body).bind (rcodeOf Tryz.prog 0 Tryz.f24.ntmps) = some (strip r_ref07_Store_Names) := by kernel_rfl
theorem t_ref07_Store_Names (k : Nat) (D : CallF) : curF [(0, .p), (1, .s)] (fun args h => denF (C_ref07_Store_Names k D) k r_ref07_Store_Names [(4, .l)] [none] args h) = ref07_Store_Names k D := by kernel_rfl
theorem ok_ref07_Store_Names {D : CallF} (hD : CSound Tryz.prog 0 D) (k : Nat) : EntOk Tryz.prog 0 (e_ref07_Store_Names k D) :=
 entOf_ok2 (mkC_sound hD (EntsOk.none)) Tryz.func24 rfl q_ref07_Store_Names rfl (t_ref07_Store_Names k D)
end Gt
namespace Gt
open Go Gx Go.Proofs
set_option maxRecDepth 100000
noncomputable def C_ref07_Store_Do (k : Nat) (D : CallF) : CallF := mkC D [e_ref07_Store_find k D, e_ref07_Store_put k D, e_ref07_Store_Names k D, e_ref07_Store_remove k D]
noncomputable def ref07_Store_Do (k : Nat) (D : CallF) (s_0 : Option Addr) (r_1 : Int × Int × ByteArray × ByteArray) (h : AHeap) : Option (((Int × ByteArray × Slc)) × AHeap) :=
 let h1 := AHeap.new h (.cells [.int .i64 r_1.1, .int .i64 r_1.2.1, .string r_1.2.2.1, .string r_1.2.2.2] 51 true 0)
 let h2 := AHeap.new h1 (.cells [.int .i64 0, .string ⟨#[]⟩, .slice none 0 0] 59 true 0)
 (s_0).bind fun p3 =>
 (ldI .i64 (⟨p3.block, p3.off + 2, none⟩ : Addr) h2).bind fun x4 =>
 (s_0).bind fun p5 =>
 (st1 (⟨p5.block, p5.off + 2, none⟩ : Addr) (.int .i64 (IntKind.wrap .i64 (x4 + 1))) h2).bind fun h6 =>
 (s_0).bind fun p7 =>
 (ldB (⟨p7.block, p7.off + 3, none⟩ : Addr) h6).bind fun x8 =>
 (if x8 = true then
 (stL 3 (⟨h1.next, 0, none⟩ : Addr) ([.int .i64 70, .string (⟨#[]⟩ : ByteArray), .slice none 0 0]) h6).bind fun h9 =>
 (ldA 3 (⟨h1.next, 0, none⟩ : Addr) h9).bind fun l10 =>
 (decC [.i .i64, .s, .l] l10).bind fun x11 =>
 some ((x11.1, x11.2.1, x11.2.2), h9)
 else
 (s_0).bind fun p12 =>
 (ldI .i64 (⟨p12.block, p12.off + 1, none⟩ : Addr) h6).bind fun x13 =>
 (if (decide (x13 > 0)) = true then
 (s_0).bind fun p14 =>
 (ldI .i64 (⟨p14.block, p14.off + 1, none⟩ : Addr) h6).bind fun x15 =>
 (s_0).bind fun p16 =>
 (st1 (⟨p16.block, p16.off + 1, none⟩ : Addr) (.int .i64 (IntKind.wrap .i64 (x15 - 1))) h6).bind fun h17 =>
 (stL 3 (⟨h1.next, 0, none⟩ : Addr) ([.int .i64 72, .string (⟨#[]⟩ : ByteArray), .slice none 0 0]) h17).bind fun h18 =>
 (ldA 3 (⟨h1.next, 0, none⟩ : Addr) h18).bind fun l19 =>
 (decC [.i .i64, .s, .l] l19).bind fun x20 =>
 some ((x20.1, x20.2.1, x20.2.2), h18)
 else
 (ldS (⟨h.next, 2, none⟩ : Addr) h6).bind fun x21 =>
 (ref07_Store_find k D s_0 x21 h6).bind fun r22 =>
 joinK (fun (y23 : Option Addr) (h24 : AHeap) =>
 (y23).bind fun p26 =>
 (stL 3 p26 ([.int .i64 5, .string (⟨#[]⟩ : ByteArray), .slice none 0 0]) h24).bind fun h27 =>
 (y23).bind fun p28 =>
 (ldA 3 p28 h27).bind fun l29 =>
 (decC [.i .i64, .s, .l] l29).bind fun x30 =>
 some ((x30.1, x30.2.1, x30.2.2), h27)) fun j25 =>
 (ldI .i64 (⟨h.next, 1, none⟩ : Addr) r22.2).bind fun x31 =>
 (if (x31 == 1) = true then
 (ldA 4 (⟨h.next, 0, none⟩ : Addr) r22.2).bind fun l32 =>
 (decC [.i .i64, .i .i64, .s, .s] l32).bind fun x33 =>
 (ref07_Store_put k D s_0 (x33.1, x33.2.1, x33.2.2.1, x33.2.2.2) r22.2).bind fun r34 =>
 (stL 3 (⟨h1.next, 0, none⟩ : Addr) ([.int .i64 r34.1, .string (⟨#[]⟩ : ByteArray), .slice none 0 0]) r34.2).bind fun h35 =>
 (ldA 3 (⟨h1.next, 0, none⟩ : Addr) h35).bind fun l36 =>
 (decC [.i .i64, .s, .l] l36).bind fun x37 =>
 some ((x37.1, x37.2.1, x37.2.2), h35)
 else
 (if (x31 == 3) = true then
 (ldS (⟨h.next, 2, none⟩ : Addr) r22.2).bind fun x38 =>
 (ref07_Store_Names k D s_0 x38 r22.2).bind fun r39 =>
 (stL 3 (⟨h1.next, 0, none⟩ : Addr) ([.int .i64 0, .string (⟨#[]⟩ : ByteArray), .slice r39.1.a r39.1.len r39.1.cap]) r39.2).bind fun h40 =>
 (ldA 3 (⟨h1.next, 0, none⟩ : Addr) h40).bind fun l41 =>
 (decC [.i .i64, .s, .l] l41).bind fun x42 =>
 some ((x42.1, x42.2.1, x42.2.2), h40)
 else
 (if (x31 == 2) = true then
 (if r22.1.2 = true then
 (s_0).bind fun p43 =>
 (ldL (⟨p43.block, p43.off + 4, none⟩ : Addr) r22.2).bind fun x44 =>
 (Gx.idxL 2 x44 r22.1.1).bind fun q45 =>
 (ldS (⟨q45.block, q45.off + 1, none⟩ : Addr) r22.2).bind fun x46 =>
 (stL 3 (⟨h1.next, 0, none⟩ : Addr) ([.int .i64 0, .string x46, .slice none 0 0]) r22.2).bind fun h47 =>
 (ldA 3 (⟨h1.next, 0, none⟩ : Addr) h47).bind fun l48 =>
 (decC [.i .i64, .s, .l] l48).bind fun x49 =>
 some ((x49.1, x49.2.1, x49.2.2), h47)
 else
 j25 (some (⟨h1.next, 0, none⟩ : Addr)) r22.2)
 else
 (if (x31 == 4) = true then
 (if r22.1.2 = true then
 (ref07_Store_remove k D s_0 r22.1.1 r22.2).bind fun r50 =>
 (stL 3 (⟨h1.next, 0, none⟩ : Addr) ([.int .i64 0, .string (⟨#[]⟩ : ByteArray), .slice none 0 0]) r50.2).bind fun h51 =>
 (ldA 3 (⟨h1.next, 0, none⟩ : Addr) h51).bind fun l52 =>
 (decC [.i .i64, .s, .l] l52).bind fun x53 =>
 some ((x53.1, x53.2.1, x53.2.2), h51)
 else
 j25 (some (⟨h1.next, 0, none⟩ : Addr)) r22.2)
 else
 (stL 3 (⟨h1.next, 0, none⟩ : Addr) ([.int .i64 3, .string (⟨#[]⟩ : ByteArray), .slice none 0 0]) r22.2).bind fun h54 =>
 (ldA 3 (⟨h1.next, 0, none⟩ : Addr) h54).bind fun l55 =>
 (decC [.i .i64, .s, .l] l55).bind fun x56 =>
 some ((x56.1, x56.2.1, x56.2.2), h54)))))))
noncomputable def r_ref07_Store_Do : RCode := an (.s .n (.s .n (.s .n (.s .n (.s .n (.s (.j [(4, .p)] (.s .n (.b (.s .n (.s (.s (.r [(1, .st [.i .i64, .i .i64, .s, .s])]) .n) .n))))) .n)))))) (rOf Tryz.prog 0 Tryz.f72)
noncomputable def e_ref07_Store_Do (k : Nat) (D : CallF) : Ent := entOf 72 [(0, .p), (1, .st [.i .i64, .i .i64, .s, .s])] [(4, .st [.i .i64, .s, .l])] (ref07_Store_Do k D)
theorem q_ref07_Store_Do : (Tryz.f72.body).bind (rcodeOf Tryz.prog 0 Tryz.f72.ntmps) = some (strip r_ref07_Store_Do) := by kernel_rfl
theorem t_ref07_Store_Do (k : Nat) (D : CallF) : curF [(0, .p), (1, .st [.i .i64, .i .i64, .s, .s])] (fun args h => denF (C_ref07_Store_Do k D) k r_ref07_Store_Do [(4, .st [.i .i64, .s, .l])] [some (.agg 3)] args h) = ref07_Store_Do k D := by kernel_rfl
theorem ok_ref07_Store_Do {D : CallF} (hD : CSound Tryz.prog 0 D) (k : Nat) : EntOk Tryz.prog 0 (e_ref07_Store_Do k D) :=
 entOf_ok2 (mkC_sound hD (EntsOk.more (ok_ref07_Store_find hD k) (EntsOk.more (ok_ref07_Store_put hD k) (EntsOk.more (ok_ref07_Store_Names hD k) (EntsOk.more (ok_ref07_Store_remove hD k) (EntsOk.none)))))) Tryz.func72 rfl q_ref07_Store_Do rfl (t_ref07_Store_Do k D)
end Gt
namespace Gt
open Go Gx Go.Proofs
set_option maxRecDepth 100000
noncomputable def C_ref08_Answer (k : Nat) (D : CallF) : CallF := mkC D [e_ref07_Store_Do k D]
noncomputable def ref08_Answer (k : Nat) (D : CallF) (l_0 : Slc) (r_1 : Int × Int × ByteArray × ByteArray) (h : AHeap) : Option (((Int × ByteArray × Slc)) × AHeap) :=
 let h1 := AHeap.new h (.cells [.int .i64 r_1.1, .int .i64 r_1.2.1, .string r_1.2.2.1, .string r_1.2.2.2] 51 true 0)
 let h2 := AHeap.new h1 (.cells [.int .i64 0, .string ⟨#[]⟩, .slice none 0 0] 59 true 0)
 joinK (fun (l3 : Slc) (r4 : Option Addr) (y5 : Option Addr) (y6 : Bool) (h7 : AHeap) =>
 (if y6 = true then
 (y5).bind fun p9 =>
 (stL 3 p9 ([.int .i64 1, .string (⟨#[]⟩ : ByteArray), .slice none 0 0]) h7).bind fun h10 =>
 (y5).bind fun p11 =>
 (ldA 3 p11 h10).bind fun l12 =>
 (decC [.i .i64, .s, .l] l12).bind fun x13 =>
 some ((x13.1, x13.2.1, x13.2.2), h10)
 else
 (r4).bind fun p14 =>
 (ldI .i64 (⟨p14.block, p14.off + 0, none⟩ : Addr) h7).bind fun x15 =>
 (Gx.idxL 1 l3 x15).bind fun q16 =>
 (ldP q16 h7).bind fun x17 =>
 (r4).bind fun p18 =>
 (ldA 4 p18 h7).bind fun l19 =>
 (decC [.i .i64, .i .i64, .s, .s] l19).bind fun x20 =>
 (ref07_Store_Do k D x17 (x20.1, x20.2.1, x20.2.2.1, x20.2.2.2) h7).bind fun r21 =>
 (y5).bind fun p22 =>
 (stL 3 p22 ([.int .i64 r21.1.1, .string r21.1.2.1, .slice r21.1.2.2.a r21.1.2.2.len r21.1.2.2.cap]) r21.2).bind fun h23 =>
 (y5).bind fun p24 =>
 (ldA 3 p24 h23).bind fun l25 =>
 (decC [.i .i64, .s, .l] l25).bind fun x26 =>
 some ((x26.1, x26.2.1, x26.2.2), h23))) fun j8 =>
 (ldI .i64 (⟨h.next, 0, none⟩ : Addr) h2).bind fun x27 =>
 (if (decide (x27 < 0)) = true then
 j8 l_0 (some (⟨h.next, 0, none⟩ : Addr)) (some (⟨h1.next, 0, none⟩ : Addr)) true h2
 else
 (ldI .i64 (⟨h.next, 0, none⟩ : Addr) h2).bind fun x28 =>
 (if (decide (x28 ≥ (l_0.len : Int))) = true then
 j8 l_0 (some (⟨h.next, 0, none⟩ : Addr)) (some (⟨h1.next, 0, none⟩ : Addr)) true h2
 else
 (ldI .i64 (⟨h.next, 0, none⟩ : Addr) h2).bind fun x29 =>
 (Gx.idxL 1 l_0 x29).bind fun q30 =>
 (ldP q30 h2).bind fun x31 =>
 j8 l_0 (some (⟨h.next, 0, none⟩ : Addr)) (some (⟨h1.next, 0, none⟩ : Addr)) x31.isNone h2))
noncomputable def r_ref08_Answer : RCode := an (.s .n (.s (.s (.j [(0, .l), (3, .p), (4, .p), (22, .b)] .n) .n) (.s (.r [(5, .st [.i .i64, .i .i64, .s, .s])]) .n))) (rOf Tryz.prog 0 Tryz.f34)
noncomputable def e_ref08_Answer (k : Nat) (D : CallF) : Ent := entOf 34 [(0, .l), (1, .st [.i .i64, .i .i64, .s, .s])] [(4, .st [.i .i64, .s, .l])] (ref08_Answer k D)
theorem q_ref08_Answer : (Tryz.f34.body).bind (rcodeOf Tryz.prog 0 Tryz.f34.ntmps) = some (strip r_ref08_Answer) := by kernel_rfl
theorem t_ref08_Answer (k : Nat) (D : CallF) : curF [(0, .l), (1, .st [.i .i64, .i .i64, .s, .s])] (fun args h => denF (C_ref08_Answer k D) k r_ref08_Answer [(4, .st [.i .i64, .s, .l])] [some (.agg 3)] args h) = ref08_Answer k D := by kernel_rfl
theorem ok_ref08_Answer {D : CallF} (hD : CSound Tryz.prog 0 D) (k : Nat) : EntOk Tryz.prog 0 (e_ref08_Answer k D) :=
 entOf_ok2 (mkC_sound hD (EntsOk.more (ok_ref07_Store_Do hD k) (EntsOk.none))) Tryz.func34 rfl q_ref08_Answer rfl (t_ref08_Answer k D)
end Gt
namespace Gt
open Go Gx Go.Proofs
set_option maxRecDepth 100000
noncomputable def C_ref09_Puts (k : Nat) (D : CallF) : CallF := mkC D [e_ref08_Answer k D]
noncomputable def ref09_Puts_l0b (k : Nat) (D : CallF) (j3 : Slc → AHeap → Option ((Slc) × AHeap)) (rec10 : Slc → ByteArray → Slc → Slc → Int → AHeap → Option ((Slc) × AHeap)) (l4 : Slc) (name5 : ByteArray) (data6 : Slc) (out7 : Slc) (i8 : Int) (h9 : AHeap) : Option ((Slc) × AHeap) :=
 (if (decide (i8 < (data6.len : Int))) = true then
 (Gx.idxL 1 data6 i8).bind fun q11 =>
 (ldS q11 h9).bind fun x12 =>
 (ref08_Answer k D l4 (i8, 1, name5, x12) h9).bind fun r13 =>
 newK r13.2 ((.cells [.int .i64 r13.1.1] 27 true 0)) fun h14 =>
 (rdS 1 (⟨(some ⟨r13.2.next, 0, some 0⟩), 1, 1⟩ : Slc) h14).bind fun n16 =>
 (appendA 1 8 27 h14 out7 n16 1).bind fun r15 =>
 rec10 l4 name5 data6 r15.1 (IntKind.wrap .i64 (i8 + 1)) r15.2
 else
 j3 out7 h9)
noncomputable def ref09_Puts_l0 (k : Nat) (D : CallF) (j3 : Slc → AHeap → Option ((Slc) × AHeap)) : Slc → ByteArray → Slc → Slc → Int → AHeap → Option ((Slc) × AHeap) :=
 iterK (α := Slc → ByteArray → Slc → Slc → Int → AHeap → Option ((Slc) × AHeap)) (fun _ _ _ _ _ _ => none) k (ref09_Puts_l0b k D j3)
noncomputable def ref09_Puts (k : Nat) (D : CallF) (l_0 : Slc) (name_1 : ByteArray) (data_2 : Slc) (h : AHeap) : Option ((Slc) × AHeap) :=
 joinK (fun (out1 : Slc) (h2 : AHeap) =>
 some (out1, h2)) fun j3 =>
 ref09_Puts_l0 k D j3 l_0 name_1 data_2 (⟨none, 0, 0⟩ : Slc) 0 h
noncomputable def r_ref09_Puts : RCode := an (.s .n (.s .n (.s (.j [(7, .l)] (.s .n (.b (.l [(0, .l), (1, .s), (2, .l), (7, .l), (8, .i .i64)] .n)))) .n))) (rOf Tryz.prog 0 Tryz.f11)
noncomputable def e_ref09_Puts (k : Nat) (D : CallF) : Ent := entOf 11 [(0, .l), (1, .s), (2, .l)] [(6, .l)] (ref09_Puts k D)
theorem q_ref09_Puts : (Tryz.f11.body).bind (rcodeOf Tryz.prog 0 Tryz.f11.ntmps) = some (strip r_ref09_Puts) := by kernel_rfl
theorem t_ref09_Puts (k : Nat) (D : CallF) : curF [(0, .l), (1, .s), (2, .l)] (fun args h => denF (C_ref09_Puts k D) k r_ref09_Puts [(6, .l)] [none] args h) = ref09_Puts k D := by kernel_rfl
theorem ok_ref09_Puts {D : CallF} (hD : CSound Tryz.prog 0 D) (k : Nat) : EntOk Tryz.prog 0 (e_ref09_Puts k D) :=
 entOf_ok2 (mkC_sound hD (EntsOk.more (ok_ref08_Answer hD k) (EntsOk.none))) Tryz.func11 rfl q_ref09_Puts rfl (t_ref09_Puts k D)
end Gt
namespace Gt
open Go Gx Go.Proofs
set_option maxRecDepth 100000
noncomputable def C_ref09_All (k : Nat) (D : CallF) : CallF := mkC D [e_ref08_Answer k D]
noncomputable def ref09_All_l0b (k : Nat) (D : CallF) (j4 : Slc → AHeap → Option ((Slc) × AHeap)) (rec11 : Slc → Int → (Option Addr) → Slc → Int → AHeap → Option ((Slc) × AHeap)) (l5 : Slc) (n6 : Int) (r7 : Option Addr) (out8 : Slc) (i9 : Int) (h10 : AHeap) : Option ((Slc) × AHeap) :=
 (if (decide (i9 < n6)) = true then
 (r7).bind fun p12 =>
 (st1 (⟨p12.block, p12.off + 0, none⟩ : Addr) (.int .i64 i9) h10).bind fun h13 =>
 (r7).bind fun p14 =>
 (ldA 4 p14 h13).bind fun l15 =>
 (decC [.i .i64, .i .i64, .s, .s] l15).bind fun x16 =>
 (ref08_Answer k D l5 (x16.1, x16.2.1, x16.2.2.1, x16.2.2.2) h13).bind fun r17 =>
 newK r17.2 ((.cells [.int .i64 r17.1.1, .string r17.1.2.1, .slice r17.1.2.2.a r17.1.2.2.len r17.1.2.2.cap] 59 true 0)) fun h18 =>
 (rdS 3 (⟨(some ⟨r17.2.next, 0, some 0⟩), 1, 1⟩ : Slc) h18).bind fun n20 =>
 (appendA 3 48 59 h18 out8 n20 1).bind fun r19 =>
 rec11 l5 n6 r7 r19.1 (IntKind.wrap .i64 (i9 + 1)) r19.2
 else
 j4 out8 h10)
noncomputable def ref09_All_l0 (k : Nat) (D : CallF) (j4 : Slc → AHeap → Option ((Slc) × AHeap)) : Slc → Int → (Option Addr) → Slc → Int → AHeap → Option ((Slc) × AHeap) :=
 iterK (α := Slc → Int → (Option Addr) → Slc → Int → AHeap → Option ((Slc) × AHeap)) (fun _ _ _ _ _ _ => none) k (ref09_All_l0b k D j4)
noncomputable def ref09_All (k : Nat) (D : CallF) (l_0 : Slc) (n_1 : Int) (r_2 : Int × Int × ByteArray × ByteArray) (h : AHeap) : Option ((Slc) × AHeap) :=
 newK h ((.cells [.int .i64 r_2.1, .int .i64 r_2.2.1, .string r_2.2.2.1, .string r_2.2.2.2] 51 true 0)) fun h1 =>
 joinK (fun (out2 : Slc) (h3 : AHeap) =>
 some (out2, h3)) fun j4 =>
 ref09_All_l0 k D j4 l_0 n_1 (some (⟨h.next, 0, none⟩ : Addr)) (⟨none, 0, 0⟩ : Slc) 0 h1
noncomputable def r_ref09_All : RCode := an (.s .n (.s .n (.s (.j [(7, .l)] (.s .n (.b (.l [(0, .l), (1, .i .i64), (5, .p), (7, .l), (8, .i .i64)] (.s .n (.s (.b (.s .n (.r [(2, .st [.i .i64, .i .i64, .s, .s])]))) .n)))))) .n))) (rOf Tryz.prog 0 Tryz.f35)
noncomputable def e_ref09_All (k : Nat) (D : CallF) : Ent := entOf 35 [(0, .l), (1, .i .i64), (2, .st [.i .i64, .i .i64, .s, .s])] [(6, .l)] (ref09_All k D)
theorem q_ref09_All : (Tryz.f35.body).bind (rcodeOf Tryz.prog 0 Tryz.f35.ntmps) = some (strip r_ref09_All) := by kernel_rfl
theorem t_ref09_All (k : Nat) (D : CallF) : curF [(0, .l), (1, .i .i64), (2, .st [.i .i64, .i .i64, .s, .s])] (fun args h => denF (C_ref09_All k D) k r_ref09_All [(6, .l)] [none] args h) = ref09_All k D := by kernel_rfl
theorem ok_ref09_All {D : CallF} (hD : CSound Tryz.prog 0 D) (k : Nat) : EntOk Tryz.prog 0 (e_ref09_All k D) :=
 entOf_ok2 (mkC_sound hD (EntsOk.more (ok_ref08_Answer hD k) (EntsOk.none))) Tryz.func35 rfl q_ref09_All rfl (t_ref09_All k D)
end Gt
namespace Gt
open Go Gx Go.Proofs
set_option maxRecDepth 100000
noncomputable def C_law09_all (k : Nat) (D : CallF) : CallF := mkC D [e_ref09_All k D]
noncomputable def law09_all (k : Nat) (D : CallF) (s_0 : Slc) (n_1 : Int) (r_2 : Int × Int × ByteArray × ByteArray) (h : AHeap) : Option ((Slc) × AHeap) :=
 newK h ((.cells [.int .i64 r_2.1, .int .i64 r_2.2.1, .string r_2.2.2.1, .string r_2.2.2.2] 51 true 0)) fun h1 =>
 joinK (fun (s2 : Slc) (n3 : Int) (r4 : Option Addr) (y5 : Bool) (h6 : AHeap) =>
 (if y5 = true then
 some ((⟨none, 0, 0⟩ : Slc), h6)
 else
 (r4).bind fun p8 =>
 (ldA 4 p8 h6).bind fun l9 =>
 (decC [.i .i64, .i .i64, .s, .s] l9).bind fun x10 =>
 (ref09_All k D s2 n3 (x10.1, x10.2.1, x10.2.2.1, x10.2.2.2) h6).bind fun r11 =>
 some (r11.1, r11.2))) fun j7 =>
 (if (decide (n_1 < 1)) = true then
 j7 s_0 n_1 (some (⟨h.next, 0, none⟩ : Addr)) true h1
 else
 j7 s_0 n_1 (some (⟨h.next, 0, none⟩ : Addr)) (decide (n_1 > 255)) h1)
noncomputable def r_law09_all : RCode := an (.s .n (.s (.s (.j [(0, .l), (1, .i .i64), (5, .p), (12, .b)] .n) .n) (.s (.r [(2, .st [.i .i64, .i .i64, .s, .s])]) .n))) (rOf Tryz.prog 0 Tryz.f12)
noncomputable def e_law09_all (k : Nat) (D : CallF) : Ent := entOf 12 [(0, .l), (1, .i .i64), (2, .st [.i .i64, .i .i64, .s, .s])] [(6, .l)] (law09_all k D)
theorem q_law09_all : (Tryz.f12.body).bind (rcodeOf Tryz.prog 0 Tryz.f12.ntmps) = some (strip r_law09_all) := by kernel_rfl
theorem t_law09_all (k : Nat) (D : CallF) : curF [(0, .l), (1, .i .i64), (2, .st [.i .i64, .i .i64, .s, .s])] (fun args h => denF (C_law09_all k D) k r_law09_all [(6, .l)] [none] args h) = law09_all k D := by kernel_rfl
theorem ok_law09_all {D : CallF} (hD : CSound Tryz.prog 0 D) (k : Nat) : EntOk Tryz.prog 0 (e_law09_all k D) :=
 entOf_ok2 (mkC_sound hD (EntsOk.more (ok_ref09_All hD k) (EntsOk.none))) Tryz.func12 rfl q_law09_all rfl (t_law09_all k D)
end Gt
namespace Gt
open Go Gx Go.Proofs
set_option maxRecDepth 100000
noncomputable def C_book_SameInts (_k : Nat) (D : CallF) : CallF := mkC D []
noncomputable def book_SameInts_l0b (_k : Nat) (_D : CallF) (j2 : AHeap → Option ((Bool) × AHeap)) (rec7 : Slc → Slc → Int → AHeap → Option ((Bool) × AHeap)) (a3 : Slc) (b4 : Slc) (i5 : Int) (h6 : AHeap) : Option ((Bool) × AHeap) :=
 (if (decide (i5 < (a3.len : Int))) = true then
 (Gx.idxL 1 a3 i5).bind fun q8 =>
 (ldI .i64 q8 h6).bind fun x9 =>
 (Gx.idxL 1 b4 i5).bind fun q10 =>
 (ldI .i64 q10 h6).bind fun x11 =>
 (if (x9 != x11) = true then
 some (false, h6)
 else
 rec7 a3 b4 (IntKind.wrap .i64 (i5 + 1)) h6)
 else
 j2 h6)
noncomputable def book_SameInts_l0 (k : Nat) (D : CallF) (j2 : AHeap → Option ((Bool) × AHeap)) : Slc → Slc → Int → AHeap → Option ((Bool) × AHeap) :=
 iterK (α := Slc → Slc → Int → AHeap → Option ((Bool) × AHeap)) (fun _ _ _ _ => none) k (book_SameInts_l0b k D j2)
noncomputable def book_SameInts (k : Nat) (D : CallF) (a_0 : Slc) (b_1 : Slc) (h : AHeap) : Option ((Bool) × AHeap) :=
 (if ((a_0.len : Int) != (b_1.len : Int)) = true then
 some (false, h)
 else
 joinK (fun (h1 : AHeap) =>
 some (true, h1)) fun j2 =>
 book_SameInts_l0 k D j2 a_0 b_1 0 h)
noncomputable def r_book_SameInts : RCode := an (.s .n (.s .n (.s (.j [] (.s .n (.b (.l [(0, .l), (1, .l), (5, .i .i64)] .n)))) .n))) (rOf Tryz.prog 0 Tryz.f13)
noncomputable def e_book_SameInts (k : Nat) (D : CallF) : Ent := entOf 13 [(0, .l), (1, .l)] [(4, .b)] (book_SameInts k D)
theorem q_book_SameInts : (Tryz.f13.body).bind (rcodeOf Tryz.prog 0 Tryz.f13.ntmps) = some (strip r_book_SameInts) := by kernel_rfl
theorem t_book_SameInts (k : Nat) (D : CallF) : curF [(0, .l), (1, .l)] (fun args h => denF (C_book_SameInts k D) k r_book_SameInts [(4, .b)] [none] args h) = book_SameInts k D := by kernel_rfl
theorem ok_book_SameInts {D : CallF} (hD : CSound Tryz.prog 0 D) (k : Nat) : EntOk Tryz.prog 0 (e_book_SameInts k D) :=
 entOf_ok2 (mkC_sound hD (EntsOk.none)) Tryz.func13 rfl q_book_SameInts rfl (t_book_SameInts k D)
end Gt
namespace Gt
open Go Gx Go.Proofs
set_option maxRecDepth 100000
noncomputable def C_law09_codes (_k : Nat) (D : CallF) : CallF := mkC D []
noncomputable def law09_codes_l0b (_k : Nat) (_D : CallF) (j3 : Slc → AHeap → Option ((Slc) × AHeap)) (rec8 : Slc → Slc → Int → AHeap → Option ((Slc) × AHeap)) (l4 : Slc) (out5 : Slc) (i6 : Int) (h7 : AHeap) : Option ((Slc) × AHeap) :=
 (if (decide (i6 < (l4.len : Int))) = true then
 (Gx.idxL 1 l4 i6).bind fun q9 =>
 (ldI .i64 q9 h7).bind fun x10 =>
 newK h7 ((.cells [.int .i64 x10] 3 true 0)) fun h11 =>
 (rdS 1 (⟨(some ⟨h7.next, 0, some 0⟩), 1, 1⟩ : Slc) h11).bind fun n13 =>
 (appendA 1 8 3 h11 out5 n13 1).bind fun r12 =>
 rec8 l4 r12.1 (IntKind.wrap .i64 (i6 + 1)) r12.2
 else
 j3 out5 h7)
noncomputable def law09_codes_l0 (k : Nat) (D : CallF) (j3 : Slc → AHeap → Option ((Slc) × AHeap)) : Slc → Slc → Int → AHeap → Option ((Slc) × AHeap) :=
 iterK (α := Slc → Slc → Int → AHeap → Option ((Slc) × AHeap)) (fun _ _ _ _ => none) k (law09_codes_l0b k D j3)
noncomputable def law09_codes (k : Nat) (D : CallF) (l_0 : Slc) (h : AHeap) : Option ((Slc) × AHeap) :=
 joinK (fun (out1 : Slc) (h2 : AHeap) =>
 some (out1, h2)) fun j3 =>
 law09_codes_l0 k D j3 l_0 (⟨none, 0, 0⟩ : Slc) 0 h
noncomputable def r_law09_codes : RCode := an (.s .n (.s .n (.s (.j [(3, .l)] (.s .n (.b (.l [(0, .l), (3, .l), (4, .i .i64)] .n)))) .n))) (rOf Tryz.prog 0 Tryz.f14)
noncomputable def e_law09_codes (k : Nat) (D : CallF) : Ent := entOf 14 [(0, .l)] [(2, .l)] (law09_codes k D)
theorem q_law09_codes : (Tryz.f14.body).bind (rcodeOf Tryz.prog 0 Tryz.f14.ntmps) = some (strip r_law09_codes) := by kernel_rfl
theorem t_law09_codes (k : Nat) (D : CallF) : curF [(0, .l)] (fun args h => denF (C_law09_codes k D) k r_law09_codes [(2, .l)] [none] args h) = law09_codes k D := by kernel_rfl
theorem ok_law09_codes {D : CallF} (hD : CSound Tryz.prog 0 D) (k : Nat) : EntOk Tryz.prog 0 (e_law09_codes k D) :=
 entOf_ok2 (mkC_sound hD (EntsOk.none)) Tryz.func14 rfl q_law09_codes rfl (t_law09_codes k D)
end Gt
namespace Gt
open Go Gx Go.Proofs
set_option maxRecDepth 100000
noncomputable def C_book_SameTexts (_k : Nat) (D : CallF) : CallF := mkC D []
noncomputable def book_SameTexts_l0b (_k : Nat) (_D : CallF) (j2 : AHeap → Option ((Bool) × AHeap)) (rec7 : Slc → Slc → Int → AHeap → Option ((Bool) × AHeap)) (a3 : Slc) (b4 : Slc) (i5 : Int) (h6 : AHeap) : Option ((Bool) × AHeap) :=
 (if (decide (i5 < (a3.len : Int))) = true then
 (Gx.idxL 1 a3 i5).bind fun q8 =>
 (ldS q8 h6).bind fun x9 =>
 (Gx.idxL 1 b4 i5).bind fun q10 =>
 (ldS q10 h6).bind fun x11 =>
 (if (!(x9 == x11)) = true then
 some (false, h6)
 else
 rec7 a3 b4 (IntKind.wrap .i64 (i5 + 1)) h6)
 else
 j2 h6)
noncomputable def book_SameTexts_l0 (k : Nat) (D : CallF) (j2 : AHeap → Option ((Bool) × AHeap)) : Slc → Slc → Int → AHeap → Option ((Bool) × AHeap) :=
 iterK (α := Slc → Slc → Int → AHeap → Option ((Bool) × AHeap)) (fun _ _ _ _ => none) k (book_SameTexts_l0b k D j2)
noncomputable def book_SameTexts (k : Nat) (D : CallF) (a_0 : Slc) (b_1 : Slc) (h : AHeap) : Option ((Bool) × AHeap) :=
 (if ((a_0.len : Int) != (b_1.len : Int)) = true then
 some (false, h)
 else
 joinK (fun (h1 : AHeap) =>
 some (true, h1)) fun j2 =>
 book_SameTexts_l0 k D j2 a_0 b_1 0 h)
noncomputable def r_book_SameTexts : RCode := an (.s .n (.s .n (.s (.j [] (.s .n (.b (.l [(0, .l), (1, .l), (5, .i .i64)] .n)))) .n))) (rOf Tryz.prog 0 Tryz.f15)
noncomputable def e_book_SameTexts (k : Nat) (D : CallF) : Ent := entOf 15 [(0, .l), (1, .l)] [(4, .b)] (book_SameTexts k D)
theorem q_book_SameTexts : (Tryz.f15.body).bind (rcodeOf Tryz.prog 0 Tryz.f15.ntmps) = some (strip r_book_SameTexts) := by kernel_rfl
theorem t_book_SameTexts (k : Nat) (D : CallF) : curF [(0, .l), (1, .l)] (fun args h => denF (C_book_SameTexts k D) k r_book_SameTexts [(4, .b)] [none] args h) = book_SameTexts k D := by kernel_rfl
theorem ok_book_SameTexts {D : CallF} (hD : CSound Tryz.prog 0 D) (k : Nat) : EntOk Tryz.prog 0 (e_book_SameTexts k D) :=
 entOf_ok2 (mkC_sound hD (EntsOk.none)) Tryz.func15 rfl q_book_SameTexts rfl (t_book_SameTexts k D)
end Gt
namespace Gt
open Go Gx Go.Proofs
set_option maxRecDepth 100000
noncomputable def C_ref09_Union (_k : Nat) (D : CallF) : CallF := mkC D []
noncomputable def ref09_Union_l2b (_k : Nat) (_D : CallF) (j39 : Slc → Slc → Int → Int → ByteArray → Int → AHeap → Option ((Slc) × AHeap)) (rec67 : Slc → Slc → Int → Int → ByteArray → Int → AHeap → Option ((Slc) × AHeap)) (l60 : Slc) (out61 : Slc) (i62 : Int) (kv63 : Int) (n64 : ByteArray) (atv65 : Int) (h66 : AHeap) : Option ((Slc) × AHeap) :=
 joinK (fun (l68 : Slc) (out69 : Slc) (i70 : Int) (kv71 : Int) (n72 : ByteArray) (atv73 : Int) (y74 : Bool) (h75 : AHeap) =>
 (if y74 = true then
 rec67 l68 out69 i70 kv71 n72 (IntKind.wrap .i64 (atv73 + 1)) h75
 else
 j39 l68 out69 i70 kv71 n72 atv73 h75)) fun j76 =>
 (if (decide (atv65 < (out61.len : Int))) = true then
 (Gx.idxL 1 out61 atv65).bind fun q77 =>
 (ldS q77 h66).bind fun x78 =>
 j76 l60 out61 i62 kv63 n64 atv65 (Op.bytesLess x78.toList n64.toList) h66
 else
 j76 l60 out61 i62 kv63 n64 atv65 false h66)
noncomputable def ref09_Union_l2 (k : Nat) (D : CallF) (j39 : Slc → Slc → Int → Int → ByteArray → Int → AHeap → Option ((Slc) × AHeap)) : Slc → Slc → Int → Int → ByteArray → Int → AHeap → Option ((Slc) × AHeap) :=
 iterK (α := Slc → Slc → Int → Int → ByteArray → Int → AHeap → Option ((Slc) × AHeap)) (fun _ _ _ _ _ _ _ => none) k (ref09_Union_l2b k D j39)
noncomputable def ref09_Union_l1b (k : Nat) (D : CallF) (j13 : Slc → Slc → Int → AHeap → Option ((Slc) × AHeap)) (rec19 : Slc → Slc → Int → Int → AHeap → Option ((Slc) × AHeap)) (l14 : Slc) (out15 : Slc) (i16 : Int) (kv17 : Int) (h18 : AHeap) : Option ((Slc) × AHeap) :=
 (Gx.idxL 3 l14 i16).bind fun q20 =>
 (ldL (⟨q20.block, q20.off + 2, none⟩ : Addr) h18).bind fun x21 =>
 (if (decide (kv17 < (x21.len : Int))) = true then
 joinK (fun (l22 : Slc) (out23 : Slc) (i24 : Int) (kv25 : Int) (h26 : AHeap) =>
 rec19 l22 out23 i24 (IntKind.wrap .i64 (kv25 + 1)) h26) fun j27 =>
 (Gx.idxL 3 l14 i16).bind fun q28 =>
 (ldL (⟨q28.block, q28.off + 2, none⟩ : Addr) h18).bind fun x29 =>
 (Gx.idxL 1 x29 kv17).bind fun q30 =>
 (ldS q30 h18).bind fun x31 =>
 joinK (fun (l32 : Slc) (out33 : Slc) (i34 : Int) (kv35 : Int) (n36 : ByteArray) (atv37 : Int) (h38 : AHeap) =>
 joinK (fun (l40 : Slc) (out41 : Slc) (i42 : Int) (kv43 : Int) (n44 : ByteArray) (atv45 : Int) (y46 : Bool) (h47 : AHeap) =>
 (if y46 = true then
 j27 l40 out41 i42 kv43 h47
 else
 (Gx.subL 1 out41 none (some atv45) none).bind fun l49 =>
 (rdS 1 l49 h47).bind fun n51 =>
 (appendA 1 16 9 h47 (⟨none, 0, 0⟩ : Slc) n51 l49.len).bind fun r50 =>
 newK r50.2 ((.cells [.string n44] 9 true 0)) fun h52 =>
 (rdS 1 (⟨(some ⟨r50.2.next, 0, some 0⟩), 1, 1⟩ : Slc) h52).bind fun n54 =>
 (appendA 1 16 9 h52 r50.1 n54 1).bind fun r53 =>
 (Gx.subL 1 out41 (some atv45) none none).bind fun l55 =>
 (rdS 1 l55 r53.2).bind fun n57 =>
 (appendA 1 16 9 r53.2 r53.1 n57 l55.len).bind fun r56 =>
 j27 l40 r56.1 i42 kv43 r56.2)) fun j48 =>
 (if (decide (atv37 < (out33.len : Int))) = true then
 (Gx.idxL 1 out33 atv37).bind fun q58 =>
 (ldS q58 h38).bind fun x59 =>
 j48 l32 out33 i34 kv35 n36 atv37 (x59 == n36) h38
 else
 j48 l32 out33 i34 kv35 n36 atv37 false h38)) fun j39 =>
 ref09_Union_l2 k D j39 l14 out15 i16 kv17 x31 0 h18
 else
 j13 l14 out15 i16 h18)
noncomputable def ref09_Union_l1 (k : Nat) (D : CallF) (j13 : Slc → Slc → Int → AHeap → Option ((Slc) × AHeap)) : Slc → Slc → Int → Int → AHeap → Option ((Slc) × AHeap) :=
 iterK (α := Slc → Slc → Int → Int → AHeap → Option ((Slc) × AHeap)) (fun _ _ _ _ _ => none) k (ref09_Union_l1b k D j13)
noncomputable def ref09_Union_l0b (k : Nat) (D : CallF) (j3 : Slc → AHeap → Option ((Slc) × AHeap)) (rec8 : Slc → Slc → Int → AHeap → Option ((Slc) × AHeap)) (l4 : Slc) (out5 : Slc) (i6 : Int) (h7 : AHeap) : Option ((Slc) × AHeap) :=
 (if (decide (i6 < (l4.len : Int))) = true then
 joinK (fun (l9 : Slc) (out10 : Slc) (i11 : Int) (h12 : AHeap) =>
 rec8 l9 out10 (IntKind.wrap .i64 (i11 + 1)) h12) fun j13 =>
 ref09_Union_l1 k D j13 l4 out5 i6 0 h7
 else
 j3 out5 h7)
noncomputable def ref09_Union_l0 (k : Nat) (D : CallF) (j3 : Slc → AHeap → Option ((Slc) × AHeap)) : Slc → Slc → Int → AHeap → Option ((Slc) × AHeap) :=
 iterK (α := Slc → Slc → Int → AHeap → Option ((Slc) × AHeap)) (fun _ _ _ _ => none) k (ref09_Union_l0b k D j3)
noncomputable def ref09_Union (k : Nat) (D : CallF) (l_0 : Slc) (h : AHeap) : Option ((Slc) × AHeap) :=
 joinK (fun (out1 : Slc) (h2 : AHeap) =>
 some (out1, h2)) fun j3 =>
 ref09_Union_l0 k D j3 l_0 (⟨none, 0, 0⟩ : Slc) 0 h
noncomputable def r_ref09_Union : RCode := an (.s .n (.s .n (.s (.j [(3, .l)] (.s .n (.b (.l [(0, .l), (3, .l), (4, .i .i64)] (.s .n (.s (.j [(0, .l), (3, .l), (4, .i .i64)] (.b (.s .n (.b (.l [(0, .l), (3, .l), (4, .i .i64), (5, .i .i64)] (.s .n (.s (.j [(0, .l), (3, .l), (4, .i .i64), (5, .i .i64)] (.b (.s .n (.s .n (.s (.j [(0, .l), (3, .l), (4, .i .i64), (5, .i .i64), (6, .s), (7, .i .i64)] (.b (.l [(0, .l), (3, .l), (4, .i .i64), (5, .i .i64), (6, .s), (7, .i .i64)] (.s (.s (.j [(0, .l), (3, .l), (4, .i .i64), (5, .i .i64), (6, .s), (7, .i .i64), (44, .b)] .n) .n) .n)))) (.s (.s (.j [(0, .l), (3, .l), (4, .i .i64), (5, .i .i64), (6, .s), (7, .i .i64), (58, .b)] .n) .n) .n)))))) .n))))))) .n)))))) .n))) (rOf Tryz.prog 0 Tryz.f16)
noncomputable def e_ref09_Union (k : Nat) (D : CallF) : Ent := entOf 16 [(0, .l)] [(2, .l)] (ref09_Union k D)
theorem q_ref09_Union : (Tryz.f16.body).bind (rcodeOf Tryz.prog 0 Tryz.f16.ntmps) = some (strip r_ref09_Union) := by kernel_rfl
theorem t_ref09_Union (k : Nat) (D : CallF) : curF [(0, .l)] (fun args h => denF (C_ref09_Union k D) k r_ref09_Union [(2, .l)] [none] args h) = ref09_Union k D := by kernel_rfl
theorem ok_ref09_Union {D : CallF} (hD : CSound Tryz.prog 0 D) (k : Nat) : EntOk Tryz.prog 0 (e_ref09_Union k D) :=
 entOf_ok2 (mkC_sound hD (EntsOk.none)) Tryz.func16 rfl q_ref09_Union rfl (t_ref09_Union k D)
end Gt
namespace Gt
open Go Gx Go.Proofs
set_option maxRecDepth 100000
noncomputable def C_ref09_Codes (_k : Nat) (D : CallF) : CallF := mkC D []
noncomputable def ref09_Codes_l0b (_k : Nat) (_D : CallF) (j3 : Slc → AHeap → Option ((Slc) × AHeap)) (rec8 : Slc → Slc → Int → AHeap → Option ((Slc) × AHeap)) (l4 : Slc) (out5 : Slc) (i6 : Int) (h7 : AHeap) : Option ((Slc) × AHeap) :=
 (if (decide (i6 < (l4.len : Int))) = true then
 (Gx.idxL 3 l4 i6).bind fun q9 =>
 (ldI .i64 (⟨q9.block, q9.off + 0, none⟩ : Addr) h7).bind fun x10 =>
 newK h7 ((.cells [.int .i64 x10] 27 true 0)) fun h11 =>
 (rdS 1 (⟨(some ⟨h7.next, 0, some 0⟩), 1, 1⟩ : Slc) h11).bind fun n13 =>
 (appendA 1 8 27 h11 out5 n13 1).bind fun r12 =>
 rec8 l4 r12.1 (IntKind.wrap .i64 (i6 + 1)) r12.2
 else
 j3 out5 h7)
noncomputable def ref09_Codes_l0 (k : Nat) (D : CallF) (j3 : Slc → AHeap → Option ((Slc) × AHeap)) : Slc → Slc → Int → AHeap → Option ((Slc) × AHeap) :=
 iterK (α := Slc → Slc → Int → AHeap → Option ((Slc) × AHeap)) (fun _ _ _ _ => none) k (ref09_Codes_l0b k D j3)
noncomputable def ref09_Codes (k : Nat) (D : CallF) (l_0 : Slc) (h : AHeap) : Option ((Slc) × AHeap) :=
 joinK (fun (out1 : Slc) (h2 : AHeap) =>
 some (out1, h2)) fun j3 =>
 ref09_Codes_l0 k D j3 l_0 (⟨none, 0, 0⟩ : Slc) 0 h
noncomputable def r_ref09_Codes : RCode := an (.s .n (.s .n (.s (.j [(3, .l)] (.s .n (.b (.l [(0, .l), (3, .l), (4, .i .i64)] .n)))) .n))) (rOf Tryz.prog 0 Tryz.f17)
noncomputable def e_ref09_Codes (k : Nat) (D : CallF) : Ent := entOf 17 [(0, .l)] [(2, .l)] (ref09_Codes k D)
theorem q_ref09_Codes : (Tryz.f17.body).bind (rcodeOf Tryz.prog 0 Tryz.f17.ntmps) = some (strip r_ref09_Codes) := by kernel_rfl
theorem t_ref09_Codes (k : Nat) (D : CallF) : curF [(0, .l)] (fun args h => denF (C_ref09_Codes k D) k r_ref09_Codes [(2, .l)] [none] args h) = ref09_Codes k D := by kernel_rfl
theorem ok_ref09_Codes {D : CallF} (hD : CSound Tryz.prog 0 D) (k : Nat) : EntOk Tryz.prog 0 (e_ref09_Codes k D) :=
 entOf_ok2 (mkC_sound hD (EntsOk.none)) Tryz.func17 rfl q_ref09_Codes rfl (t_ref09_Codes k D)
end Gt
namespace Gt
open Go Gx Go.Proofs
set_option maxRecDepth 100000
noncomputable def C_store_Store_Used (_k : Nat) (D : CallF) : CallF := mkC D []
noncomputable def store_Store_Used (_k : Nat) (_D : CallF) (s_0 : Option Addr) (h : AHeap) : Option ((Int) × AHeap) :=
 (s_0).bind fun p1 =>
 (ldI .i64 (⟨p1.block, p1.off + 1, none⟩ : Addr) h).bind fun x2 =>
 some (x2, h)
noncomputable def r_store_Store_Used : RCode := an (.n) (rOf Tryz.prog 0 Tryz.f18)
noncomputable def e_store_Store_Used (k : Nat) (D : CallF) : Ent := entOf 18 [(0, .p)] [(2, .i .i64)] (store_Store_Used k D)
theorem q_store_Store_Used : (Tryz.f18.body).bind (rcodeOf Tryz.prog 0 Tryz.f18.ntmps) = some (strip r_store_Store_Used) := by kernel_rfl
theorem t_store_Store_Used (k : Nat) (D : CallF) : curF [(0, .p)] (fun args h => denF (C_store_Store_Used k D) k r_store_Store_Used [(2, .i .i64)] [none] args h) = store_Store_Used k D := by kernel_rfl
theorem ok_store_Store_Used {D : CallF} (hD : CSound Tryz.prog 0 D) (k : Nat) : EntOk Tryz.prog 0 (e_store_Store_Used k D) :=
 entOf_ok2 (mkC_sound hD (EntsOk.none)) Tryz.func18 rfl q_store_Store_Used rfl (t_store_Store_Used k D)
end Gt
namespace Gt
open Go Gx Go.Proofs
set_option maxRecDepth 100000
end Gt
namespace Gt
open Go Gx Go.Proofs
set_option maxRecDepth 100000
end Gt
namespace Gt
open Go Gx Go.Proofs
set_option maxRecDepth 100000
end Gt
namespace Gt
open Go Gx Go.Proofs
set_option maxRecDepth 100000
end Gt
namespace Gt
open Go Gx Go.Proofs
set_option maxRecDepth 100000
end Gt
namespace Gt
open Go Gx Go.Proofs
set_option maxRecDepth 100000
end Gt
namespace Gt
open Go Gx Go.Proofs
set_option maxRecDepth 100000
end Gt
namespace Gt
open Go Gx Go.Proofs
set_option maxRecDepth 100000
end Gt
namespace Gt
open Go Gx Go.Proofs
set_option maxRecDepth 100000
end Gt
namespace Gt
open Go Gx Go.Proofs
set_option maxRecDepth 100000
end Gt
namespace Gt
open Go Gx Go.Proofs
set_option maxRecDepth 100000
end Gt
namespace Gt
open Go Gx Go.Proofs
set_option maxRecDepth 100000
end Gt
namespace Gt
open Go Gx Go.Proofs
set_option maxRecDepth 100000
end Gt
namespace Gt
open Go Gx Go.Proofs
set_option maxRecDepth 100000
end Gt
namespace Gt
open Go Gx Go.Proofs
set_option maxRecDepth 100000
end Gt
namespace Gt
open Go Gx Go.Proofs
set_option maxRecDepth 100000
end Gt
namespace Gt
open Go Gx Go.Proofs
set_option maxRecDepth 100000
end Gt
namespace Gt
open Go Gx Go.Proofs
set_option maxRecDepth 100000
end Gt
namespace Gt
open Go Gx Go.Proofs
set_option maxRecDepth 100000
end Gt
namespace Gt
open Go Gx Go.Proofs
set_option maxRecDepth 100000
end Gt
namespace Gt
open Go Gx Go.Proofs
set_option maxRecDepth 100000
end Gt
namespace Gt
open Go Gx Go.Proofs
end Gt
namespace Gt
open Go Gx Go.Proofs
set_option maxRecDepth 100000
end Gt
namespace Gt
open Go Gx Go.Proofs
set_option maxRecDepth 100000
end Gt
namespace Gt
open Go Gx Go.Proofs
set_option maxRecDepth 100000
noncomputable def C_fan_Gets (k : Nat) (D : CallF) : CallF := mkC D [e_fan_ask k D, e_port_IO_All k D]
noncomputable def fan_Gets (k : Nat) (D : CallF) (io_0 : Option Addr) (n_1 : Int) (name_2 : ByteArray) (then_3 : Value) (h : AHeap) : Option ((Unit) × AHeap) :=
 (fan_ask k D n_1 (0, 2, name_2, (⟨#[]⟩ : ByteArray)) h).bind fun r1 =>
 (port_IO_All k D io_0 r1.1 then_3 r1.2).bind fun r2 =>
 some ((), r2.2)
noncomputable def r_fan_Gets : RCode := an (.n) (rOf Tryz.prog 0 Tryz.f70)
noncomputable def e_fan_Gets (k : Nat) (D : CallF) : Ent := entOf 70 [(0, .p), (1, .i .i64), (2, .s), (3, .v)] [] (fan_Gets k D)
theorem q_fan_Gets : (Tryz.f70.body).bind (rcodeOf Tryz.prog 0 Tryz.f70.ntmps) = some (strip r_fan_Gets) := by kernel_rfl
theorem t_fan_Gets (k : Nat) (D : CallF) : curF [(0, .p), (1, .i .i64), (2, .s), (3, .v)] (fun args h => denF (C_fan_Gets k D) k r_fan_Gets [] [] args h) = fan_Gets k D := by kernel_rfl
theorem ok_fan_Gets {D : CallF} (hD : CSound Tryz.prog 0 D) (k : Nat) : EntOk Tryz.prog 0 (e_fan_Gets k D) :=
 entOf_ok2 (mkC_sound hD (EntsOk.more (ok_fan_ask hD k) (EntsOk.more (ok_port_IO_All hD k) (EntsOk.none)))) Tryz.func70 rfl q_fan_Gets rfl (t_fan_Gets k D)
end Gt
namespace Gt
open Go Gx Go.Proofs
set_option maxRecDepth 100000
noncomputable def C_law09_calls_put (k : Nat) (D : CallF) : CallF := mkC D [e_fan_Gets k D]
noncomputable def law09_calls_put (k : Nat) (D : CallF) (c_0 : Option Addr) (l_1 : Slc) (h : AHeap) : Option ((Unit) × AHeap) :=
 (c_0).bind fun p1 =>
 (st1 (⟨p1.block, p1.off + 4, none⟩ : Addr) (.slice l_1.a l_1.len l_1.cap) h).bind fun h2 =>
 (c_0).bind fun p3 =>
 (ldP (⟨p3.block, p3.off + 0, none⟩ : Addr) h2).bind fun x4 =>
 (c_0).bind fun p5 =>
 (ldI .i64 (⟨p5.block, p5.off + 1, none⟩ : Addr) h2).bind fun x6 =>
 (c_0).bind fun p7 =>
 (ldS (⟨p7.block, p7.off + 2, none⟩ : Addr) h2).bind fun x8 =>
 (fan_Gets k D x4 x6 x8 (.func (.func 71) ⟨[.pointer c_0]⟩ ⟨[]⟩) h2).bind fun r9 =>
 some ((), r9.2)
noncomputable def r_law09_calls_put : RCode := an (.n) (rOf Tryz.prog 0 Tryz.f33)
noncomputable def e_law09_calls_put (k : Nat) (D : CallF) : Ent := entOf 33 [(0, .p), (1, .l)] [] (law09_calls_put k D)
theorem q_law09_calls_put : (Tryz.f33.body).bind (rcodeOf Tryz.prog 0 Tryz.f33.ntmps) = some (strip r_law09_calls_put) := by kernel_rfl
theorem t_law09_calls_put (k : Nat) (D : CallF) : curF [(0, .p), (1, .l)] (fun args h => denF (C_law09_calls_put k D) k r_law09_calls_put [] [] args h) = law09_calls_put k D := by kernel_rfl
theorem ok_law09_calls_put {D : CallF} (hD : CSound Tryz.prog 0 D) (k : Nat) : EntOk Tryz.prog 0 (e_law09_calls_put k D) :=
 entOf_ok2 (mkC_sound hD (EntsOk.more (ok_fan_Gets hD k) (EntsOk.none))) Tryz.func33 rfl q_law09_calls_put rfl (t_law09_calls_put k D)
end Gt
namespace Gt
open Go Gx Go.Proofs
set_option maxRecDepth 100000
noncomputable def C_fan_PutJob_1 (k : Nat) (D : CallF) : CallF := mkC D [e_fan_Puts k D]
noncomputable def fan_PutJob_1 (k : Nat) (D : CallF) (io_0 : Option Addr) (a_1 : Option Addr) (a_2 : Option Addr) (h : AHeap) : Option ((Unit) × AHeap) :=
 newK h ((.cells [.pointer io_0] 34 true 0)) fun h1 =>
 (ldP (⟨h.next, 0, none⟩ : Addr) h1).bind fun x2 =>
 (a_1).bind fun p3 =>
 (ldS p3 h1).bind fun x4 =>
 (a_2).bind fun p5 =>
 (ldL p5 h1).bind fun x6 =>
 (fan_Puts k D x2 x4 x6 (.func (.func 56) ⟨[]⟩ ⟨[.pointer (some (⟨h.next, 0, none⟩ : Addr))]⟩) h1).bind fun r7 =>
 some ((), r7.2)
noncomputable def r_fan_PutJob_1 : RCode := an (.n) (rOf Tryz.prog 0 Tryz.f55)
noncomputable def e_fan_PutJob_1 (k : Nat) (D : CallF) : Ent := entOf 55 [(0, .p), (1, .p), (2, .p)] [] (fan_PutJob_1 k D)
theorem q_fan_PutJob_1 : (Tryz.f55.body).bind (rcodeOf Tryz.prog 0 Tryz.f55.ntmps) = some (strip r_fan_PutJob_1) := by kernel_rfl
theorem t_fan_PutJob_1 (k : Nat) (D : CallF) : curF [(0, .p), (1, .p), (2, .p)] (fun args h => denF (C_fan_PutJob_1 k D) k r_fan_PutJob_1 [] [] args h) = fan_PutJob_1 k D := by kernel_rfl
theorem ok_fan_PutJob_1 {D : CallF} (hD : CSound Tryz.prog 0 D) (k : Nat) : EntOk Tryz.prog 0 (e_fan_PutJob_1 k D) :=
 entOf_ok2 (mkC_sound hD (EntsOk.more (ok_fan_Puts hD k) (EntsOk.none))) Tryz.func55 rfl q_fan_PutJob_1 rfl (t_fan_PutJob_1 k D)
end Gt
namespace Gt
open Go Gx Go.Proofs
set_option maxRecDepth 100000
noncomputable def C_slices_Index_api_Code_api_Code (_k : Nat) (D : CallF) : CallF := mkC D []
noncomputable def slices_Index_api_Code_api_Code_l0b (_k : Nat) (_D : CallF) (j2 : AHeap → Option ((Int) × AHeap)) (rec8 : Slc → Int → Int → Int → AHeap → Option ((Int) × AHeap)) (s3 : Slc) (v4 : Int) (y5 : Int) (y6 : Int) (h7 : AHeap) : Option ((Int) × AHeap) :=
 (if (decide (y6 < y5)) = true then
 (Gx.idxL 1 s3 y6).bind fun q9 =>
 (ldI .i64 q9 h7).bind fun x10 =>
 (if (v4 == x10) = true then
 some (y6, h7)
 else
 rec8 s3 v4 y5 (IntKind.wrap .i64 (y6 + 1)) h7)
 else
 j2 h7)
noncomputable def slices_Index_api_Code_api_Code_l0 (k : Nat) (D : CallF) (j2 : AHeap → Option ((Int) × AHeap)) : Slc → Int → Int → Int → AHeap → Option ((Int) × AHeap) :=
 iterK (α := Slc → Int → Int → Int → AHeap → Option ((Int) × AHeap)) (fun _ _ _ _ _ => none) k (slices_Index_api_Code_api_Code_l0b k D j2)
noncomputable def slices_Index_api_Code_api_Code (k : Nat) (D : CallF) (s_0 : Slc) (v_1 : Int) (h : AHeap) : Option ((Int) × AHeap) :=
 joinK (fun (h1 : AHeap) =>
 some ((-1), h1)) fun j2 =>
 slices_Index_api_Code_api_Code_l0 k D j2 s_0 v_1 (s_0.len : Int) 0 h
noncomputable def r_slices_Index_api_Code_api_Code : RCode := an (.s .n (.s (.j [] (.s .n (.b (.l [(0, .l), (1, .i .i64), (7, .i .i64), (8, .i .i64)] .n)))) .n)) (rOf Tryz.prog 0 Tryz.f107)
noncomputable def e_slices_Index_api_Code_api_Code (k : Nat) (D : CallF) : Ent := entOf 107 [(0, .l), (1, .i .i64)] [(4, .i .i64)] (slices_Index_api_Code_api_Code k D)
theorem q_slices_Index_api_Code_api_Code : (Tryz.f107.body).bind (rcodeOf Tryz.prog 0 Tryz.f107.ntmps) = some (strip r_slices_Index_api_Code_api_Code) := by kernel_rfl
theorem t_slices_Index_api_Code_api_Code (k : Nat) (D : CallF) : curF [(0, .l), (1, .i .i64)] (fun args h => denF (C_slices_Index_api_Code_api_Code k D) k r_slices_Index_api_Code_api_Code [(4, .i .i64)] [none] args h) = slices_Index_api_Code_api_Code k D := by kernel_rfl
theorem ok_slices_Index_api_Code_api_Code {D : CallF} (hD : CSound Tryz.prog 0 D) (k : Nat) : EntOk Tryz.prog 0 (e_slices_Index_api_Code_api_Code k D) :=
 entOf_ok2 (mkC_sound hD (EntsOk.none)) Tryz.func107 rfl q_slices_Index_api_Code_api_Code rfl (t_slices_Index_api_Code_api_Code k D)
end Gt
namespace Gt
open Go Gx Go.Proofs
set_option maxRecDepth 100000
noncomputable def C_slices_Contains_api_Code_api_Code (k : Nat) (D : CallF) : CallF := mkC D [e_slices_Index_api_Code_api_Code k D]
noncomputable def slices_Contains_api_Code_api_Code (k : Nat) (D : CallF) (s_0 : Slc) (v_1 : Int) (h : AHeap) : Option ((Bool) × AHeap) :=
 (slices_Index_api_Code_api_Code k D s_0 v_1 h).bind fun r1 =>
 some ((decide (r1.1 ≥ 0)), r1.2)
noncomputable def r_slices_Contains_api_Code_api_Code : RCode := an (.n) (rOf Tryz.prog 0 Tryz.f91)
noncomputable def e_slices_Contains_api_Code_api_Code (k : Nat) (D : CallF) : Ent := entOf 91 [(0, .l), (1, .i .i64)] [(4, .b)] (slices_Contains_api_Code_api_Code k D)
theorem q_slices_Contains_api_Code_api_Code : (Tryz.f91.body).bind (rcodeOf Tryz.prog 0 Tryz.f91.ntmps) = some (strip r_slices_Contains_api_Code_api_Code) := by kernel_rfl
theorem t_slices_Contains_api_Code_api_Code (k : Nat) (D : CallF) : curF [(0, .l), (1, .i .i64)] (fun args h => denF (C_slices_Contains_api_Code_api_Code k D) k r_slices_Contains_api_Code_api_Code [(4, .b)] [none] args h) = slices_Contains_api_Code_api_Code k D := by kernel_rfl
theorem ok_slices_Contains_api_Code_api_Code {D : CallF} (hD : CSound Tryz.prog 0 D) (k : Nat) : EntOk Tryz.prog 0 (e_slices_Contains_api_Code_api_Code k D) :=
 entOf_ok2 (mkC_sound hD (EntsOk.more (ok_slices_Index_api_Code_api_Code hD k) (EntsOk.none))) Tryz.func91 rfl q_slices_Contains_api_Code_api_Code rfl (t_slices_Contains_api_Code_api_Code k D)
end Gt
namespace Gt
open Go Gx Go.Proofs
set_option maxRecDepth 100000
noncomputable def C_fan_First (k : Nat) (D : CallF) : CallF := mkC D [e_slices_Contains_api_Code_api_Code k D]
noncomputable def fan_First_l0b (k : Nat) (D : CallF) (j2 : AHeap → Option ((Int) × AHeap)) (rec8 : Slc → Slc → Int → Int → AHeap → Option ((Int) × AHeap)) (but3 : Slc) (y4 : Slc) (y5 : Int) (y6 : Int) (h7 : AHeap) : Option ((Int) × AHeap) :=
 (if (decide (y6 < y5)) = true then
 (Gx.idxL 1 y4 y6).bind fun q9 =>
 (ldI .i64 q9 h7).bind fun x10 =>
 joinK (fun (but11 : Slc) (c12 : Int) (y13 : Slc) (y14 : Int) (y15 : Int) (y16 : Bool) (h17 : AHeap) =>
 (if y16 = true then
 some (c12, h17)
 else
 rec8 but11 y13 y14 (IntKind.wrap .i64 (y15 + 1)) h17)) fun j18 =>
 (if (x10 != 0) = true then
 (slices_Contains_api_Code_api_Code k D but3 x10 h7).bind fun r19 =>
 j18 but3 x10 y4 y5 y6 (!r19.1) r19.2
 else
 j18 but3 x10 y4 y5 y6 false h7)
 else
 j2 h7)
noncomputable def fan_First_l0 (k : Nat) (D : CallF) (j2 : AHeap → Option ((Int) × AHeap)) : Slc → Slc → Int → Int → AHeap → Option ((Int) × AHeap) :=
 iterK (α := Slc → Slc → Int → Int → AHeap → Option ((Int) × AHeap)) (fun _ _ _ _ _ => none) k (fan_First_l0b k D j2)
noncomputable def fan_First (k : Nat) (D : CallF) (l_0 : Slc) (but_1 : Slc) (h : AHeap) : Option ((Int) × AHeap) :=
 joinK (fun (h1 : AHeap) =>
 some (0, h1)) fun j2 =>
 fan_First_l0 k D j2 but_1 l_0 (l_0.len : Int) 0 h
noncomputable def r_fan_First : RCode := an (.s .n (.s (.j [] (.s .n (.b (.l [(1, .l), (7, .l), (8, .i .i64), (9, .i .i64)] (.s .n (.s .n (.s (.b (.s .n (.s (.j [(1, .l), (6, .i .i64), (7, .l), (8, .i .i64), (9, .i .i64), (20, .b)] .n) .n))) .n))))))) .n)) (rOf Tryz.prog 0 Tryz.f58)
noncomputable def e_fan_First (k : Nat) (D : CallF) : Ent := entOf 58 [(0, .l), (1, .l)] [(4, .i .i64)] (fan_First k D)
theorem q_fan_First : (Tryz.f58.body).bind (rcodeOf Tryz.prog 0 Tryz.f58.ntmps) = some (strip r_fan_First) := by kernel_rfl
theorem t_fan_First (k : Nat) (D : CallF) : curF [(0, .l), (1, .l)] (fun args h => denF (C_fan_First k D) k r_fan_First [(4, .i .i64)] [none] args h) = fan_First k D := by kernel_rfl
theorem ok_fan_First {D : CallF} (hD : CSound Tryz.prog 0 D) (k : Nat) : EntOk Tryz.prog 0 (e_fan_First k D) :=
 entOf_ok2 (mkC_sound hD (EntsOk.more (ok_slices_Contains_api_Code_api_Code hD k) (EntsOk.none))) Tryz.func58 rfl q_fan_First rfl (t_fan_First k D)
end Gt
namespace Gt
open Go Gx Go.Proofs
set_option maxRecDepth 100000
noncomputable def C_fan_good (_k : Nat) (D : CallF) : CallF := mkC D []
noncomputable def fan_good_l0b (_k : Nat) (_D : CallF) (j3 : Int → AHeap → Option ((Int) × AHeap)) (rec9 : Int → Slc → Int → Int → AHeap → Option ((Int) × AHeap)) (n4 : Int) (y5 : Slc) (y6 : Int) (y7 : Int) (h8 : AHeap) : Option ((Int) × AHeap) :=
 (if (decide (y7 < y6)) = true then
 joinK (fun (n10 : Int) (y11 : Slc) (y12 : Int) (y13 : Int) (h14 : AHeap) =>
 rec9 n10 y11 y12 (IntKind.wrap .i64 (y13 + 1)) h14) fun j15 =>
 (Gx.idxL 1 y5 y7).bind fun q16 =>
 (ldI .i64 q16 h8).bind fun x17 =>
 (if (x17 == 0) = true then
 j15 (IntKind.wrap .i64 (n4 + 1)) y5 y6 y7 h8
 else
 j15 n4 y5 y6 y7 h8)
 else
 j3 n4 h8)
noncomputable def fan_good_l0 (k : Nat) (D : CallF) (j3 : Int → AHeap → Option ((Int) × AHeap)) : Int → Slc → Int → Int → AHeap → Option ((Int) × AHeap) :=
 iterK (α := Int → Slc → Int → Int → AHeap → Option ((Int) × AHeap)) (fun _ _ _ _ _ => none) k (fan_good_l0b k D j3)
noncomputable def fan_good (k : Nat) (D : CallF) (l_0 : Slc) (h : AHeap) : Option ((Int) × AHeap) :=
 joinK (fun (n1 : Int) (h2 : AHeap) =>
 some (n1, h2)) fun j3 =>
 fan_good_l0 k D j3 0 l_0 (l_0.len : Int) 0 h
noncomputable def r_fan_good : RCode := an (.s .n (.s .n (.s (.j [(3, .i .i64)] (.s .n (.b (.l [(3, .i .i64), (6, .l), (7, .i .i64), (8, .i .i64)] (.s .n (.s .n (.s (.j [(3, .i .i64), (6, .l), (7, .i .i64), (8, .i .i64)] .n) .n))))))) .n))) (rOf Tryz.prog 0 Tryz.f59)
noncomputable def e_fan_good (k : Nat) (D : CallF) : Ent := entOf 59 [(0, .l)] [(2, .i .i64)] (fan_good k D)
theorem q_fan_good : (Tryz.f59.body).bind (rcodeOf Tryz.prog 0 Tryz.f59.ntmps) = some (strip r_fan_good) := by kernel_rfl
theorem t_fan_good (k : Nat) (D : CallF) : curF [(0, .l)] (fun args h => denF (C_fan_good k D) k r_fan_good [(2, .i .i64)] [none] args h) = fan_good k D := by kernel_rfl
theorem ok_fan_good {D : CallF} (hD : CSound Tryz.prog 0 D) (k : Nat) : EntOk Tryz.prog 0 (e_fan_good k D) :=
 entOf_ok2 (mkC_sound hD (EntsOk.none)) Tryz.func59 rfl q_fan_good rfl (t_fan_good k D)
end Gt
namespace Gt
open Go Gx Go.Proofs
set_option maxRecDepth 100000
noncomputable def C_port_IO_End (_k : Nat) (D : CallF) : CallF := mkC D []
noncomputable def port_IO_End (_k : Nat) (_D : CallF) (io_0 : Option Addr) (r_1 : Int × ByteArray × Int × Slc × Slc × Slc × Slc) (h : AHeap) : Option ((Unit) × AHeap) :=
 let h1 := AHeap.new h (.cells [.int .i64 r_1.1, .string r_1.2.1, .int .i64 r_1.2.2.1, .slice r_1.2.2.2.1.a r_1.2.2.2.1.len r_1.2.2.2.1.cap, .slice r_1.2.2.2.2.1.a r_1.2.2.2.2.1.len r_1.2.2.2.2.1.cap, .slice r_1.2.2.2.2.2.1.a r_1.2.2.2.2.2.1.len r_1.2.2.2.2.2.1.cap, .slice r_1.2.2.2.2.2.2.a r_1.2.2.2.2.2.2.len r_1.2.2.2.2.2.2.cap] 42 true 0)
 (io_0).bind fun p2 =>
 (ldB (⟨p2.block, p2.off + 5, none⟩ : Addr) h1).bind fun x3 =>
 (if (!x3) = true then
 (io_0).bind fun p4 =>
 (st1 (⟨p4.block, p4.off + 5, none⟩ : Addr) (.bool true) h1).bind fun h5 =>
 (ldA 7 (⟨h.next, 0, none⟩ : Addr) h5).bind fun l6 =>
 guardP (SameW [h1] (fun H8 => (ldA 7 (⟨h.next, 0, none⟩ : Addr) H8).bind fun y7 => some (.agg ⟨y7⟩)) (.agg ⟨l6⟩)) (
 (decC [.i .i64, .s, .i .i64, .l, .l, .l, .l] l6).bind fun x9 =>
 (io_0).bind fun p10 =>
 (stL 7 (⟨p10.block, p10.off + 6, none⟩ : Addr) ([.int .i64 x9.1, .string x9.2.1, .int .i64 x9.2.2.1, .slice x9.2.2.2.1.a x9.2.2.2.1.len x9.2.2.2.1.cap, .slice x9.2.2.2.2.1.a x9.2.2.2.2.1.len x9.2.2.2.2.1.cap, .slice x9.2.2.2.2.2.1.a x9.2.2.2.2.2.1.len x9.2.2.2.2.2.1.cap, .slice x9.2.2.2.2.2.2.a x9.2.2.2.2.2.2.len x9.2.2.2.2.2.2.cap]) h5).bind fun h11 =>
 (io_0).bind fun p12 =>
 (st1 (⟨p12.block, p12.off + 4, none⟩ : Addr) (.nilFunc) h11).bind fun h13 =>
 some ((), h13))
 else
 some ((), h1))
noncomputable def r_port_IO_End : RCode := an (.s .n (.s .n (.s (.r [(5, .st [.i .i64, .s, .i .i64, .l, .l, .l, .l])]) .n))) (rOf Tryz.prog 0 Tryz.f57)
noncomputable def e_port_IO_End (k : Nat) (D : CallF) : Ent := entOf 57 [(0, .p), (1, .st [.i .i64, .s, .i .i64, .l, .l, .l, .l])] [] (port_IO_End k D)
theorem q_port_IO_End : (Tryz.f57.body).bind (rcodeOf Tryz.prog 0 Tryz.f57.ntmps) = some (strip r_port_IO_End) := by kernel_rfl
theorem t_port_IO_End (k : Nat) (D : CallF) : curF [(0, .p), (1, .st [.i .i64, .s, .i .i64, .l, .l, .l, .l])] (fun args h => denF (C_port_IO_End k D) k r_port_IO_End [] [] args h) = port_IO_End k D := by kernel_rfl
theorem ok_port_IO_End {D : CallF} (hD : CSound Tryz.prog 0 D) (k : Nat) : EntOk Tryz.prog 0 (e_port_IO_End k D) :=
 entOf_ok2 (mkC_sound hD (EntsOk.none)) Tryz.func57 rfl q_port_IO_End rfl (t_port_IO_End k D)
end Gt
namespace Gt
open Go Gx Go.Proofs
set_option maxRecDepth 100000
noncomputable def C_fan_PutJob_1_1 (k : Nat) (D : CallF) : CallF := mkC D [e_fan_First k D, e_fan_good k D, e_port_IO_End k D]
noncomputable def fan_PutJob_1_1 (k : Nat) (D : CallF) (l_0 : Slc) (a_1 : Option Addr) (h : AHeap) : Option ((Unit) × AHeap) :=
 (fan_First k D l_0 (⟨none, 0, 0⟩ : Slc) h).bind fun r1 =>
 (fan_good k D l_0 r1.2).bind fun r2 =>
 (a_1).bind fun p3 =>
 (ldP p3 r2.2).bind fun x4 =>
 guardP (SameW [r1.2, h] (fun H6 => (a_1).bind fun p7 => (ldP p7 H6).bind fun y5 => some (.pointer y5)) (.pointer x4)) (
 (port_IO_End k D x4 (r1.1, (⟨#[]⟩ : ByteArray), r2.1, (⟨none, 0, 0⟩ : Slc), (⟨none, 0, 0⟩ : Slc), (⟨none, 0, 0⟩ : Slc), (⟨none, 0, 0⟩ : Slc)) r2.2).bind fun r8 =>
 some ((), r8.2))
noncomputable def r_fan_PutJob_1_1 : RCode := an (.n) (rOf Tryz.prog 0 Tryz.f56)
noncomputable def e_fan_PutJob_1_1 (k : Nat) (D : CallF) : Ent := entOf 56 [(0, .l), (1, .p)] [] (fan_PutJob_1_1 k D)
theorem q_fan_PutJob_1_1 : (Tryz.f56.body).bind (rcodeOf Tryz.prog 0 Tryz.f56.ntmps) = some (strip r_fan_PutJob_1_1) := by kernel_rfl
theorem t_fan_PutJob_1_1 (k : Nat) (D : CallF) : curF [(0, .l), (1, .p)] (fun args h => denF (C_fan_PutJob_1_1 k D) k r_fan_PutJob_1_1 [] [] args h) = fan_PutJob_1_1 k D := by kernel_rfl
theorem ok_fan_PutJob_1_1 {D : CallF} (hD : CSound Tryz.prog 0 D) (k : Nat) : EntOk Tryz.prog 0 (e_fan_PutJob_1_1 k D) :=
 entOf_ok2 (mkC_sound hD (EntsOk.more (ok_fan_First hD k) (EntsOk.more (ok_fan_good hD k) (EntsOk.more (ok_port_IO_End hD k) (EntsOk.none))))) Tryz.func56 rfl q_fan_PutJob_1_1 rfl (t_fan_PutJob_1_1 k D)
end Gt
namespace Gt
open Go Gx Go.Proofs
set_option maxRecDepth 100000
noncomputable def C_fan_codes (_k : Nat) (D : CallF) : CallF := mkC D []
noncomputable def fan_codes_l0b (_k : Nat) (_D : CallF) (j3 : Slc → AHeap → Option ((Slc) × AHeap)) (rec9 : Slc → Slc → Int → Int → AHeap → Option ((Slc) × AHeap)) (out4 : Slc) (y5 : Slc) (y6 : Int) (y7 : Int) (h8 : AHeap) : Option ((Slc) × AHeap) :=
 (if (decide (y7 < y6)) = true then
 (Gx.idxL 3 y5 y7).bind fun q10 =>
 (ldA 3 q10 h8).bind fun l11 =>
 (decC [.i .i64, .s, .l] l11).bind fun x12 =>
 newK h8 ((.cells [.int .i64 0, .string ⟨#[]⟩, .slice none 0 0] 59 true 0)) fun h13 =>
 (stL 3 (⟨h8.next, 0, none⟩ : Addr) ([.int .i64 x12.1, .string x12.2.1, .slice x12.2.2.a x12.2.2.len x12.2.2.cap]) h13).bind fun h14 =>
 (ldI .i64 (⟨h8.next, 0, none⟩ : Addr) h14).bind fun x15 =>
 newK h14 ((.cells [.int .i64 x15] 27 true 0)) fun h16 =>
 (rdS 1 (⟨(some ⟨h14.next, 0, some 0⟩), 1, 1⟩ : Slc) h16).bind fun n18 =>
 (appendA 1 8 27 h16 out4 n18 1).bind fun r17 =>
 rec9 r17.1 y5 y6 (IntKind.wrap .i64 (y7 + 1)) r17.2
 else
 j3 out4 h8)
noncomputable def fan_codes_l0 (k : Nat) (D : CallF) (j3 : Slc → AHeap → Option ((Slc) × AHeap)) : Slc → Slc → Int → Int → AHeap → Option ((Slc) × AHeap) :=
 iterK (α := Slc → Slc → Int → Int → AHeap → Option ((Slc) × AHeap)) (fun _ _ _ _ _ => none) k (fan_codes_l0b k D j3)
noncomputable def fan_codes (k : Nat) (D : CallF) (l_0 : Slc) (h : AHeap) : Option ((Slc) × AHeap) :=
 joinK (fun (out1 : Slc) (h2 : AHeap) =>
 some (out1, h2)) fun j3 =>
 fan_codes_l0 k D j3 (⟨none, 0, 0⟩ : Slc) l_0 (l_0.len : Int) 0 h
noncomputable def r_fan_codes : RCode := an (.s .n (.s .n (.s (.j [(3, .l)] (.s .n (.b (.l [(3, .l), (6, .l), (7, .i .i64), (8, .i .i64)] (.s .n (.s .n (.s (.b (.s (.r [(1, .st [.i .i64, .s, .l])]) .n)) .n))))))) .n))) (rOf Tryz.prog 0 Tryz.f69)
noncomputable def e_fan_codes (k : Nat) (D : CallF) : Ent := entOf 69 [(0, .l)] [(2, .l)] (fan_codes k D)
theorem q_fan_codes : (Tryz.f69.body).bind (rcodeOf Tryz.prog 0 Tryz.f69.ntmps) = some (strip r_fan_codes) := by kernel_rfl
theorem t_fan_codes (k : Nat) (D : CallF) : curF [(0, .l)] (fun args h => denF (C_fan_codes k D) k r_fan_codes [(2, .l)] [none] args h) = fan_codes k D := by kernel_rfl
theorem ok_fan_codes {D : CallF} (hD : CSound Tryz.prog 0 D) (k : Nat) : EntOk Tryz.prog 0 (e_fan_codes k D) :=
 entOf_ok2 (mkC_sound hD (EntsOk.none)) Tryz.func69 rfl q_fan_codes rfl (t_fan_codes k D)
end Gt
namespace Gt
open Go Gx Go.Proofs
set_option maxRecDepth 100000
noncomputable def C_fan_Puts_1 (k : Nat) (D : CallF) : CallF := mkC D [e_fan_codes k D]
noncomputable def fan_Puts_1 (k : Nat) (D : CallF) (answers_0 : Slc) (a_1 : Option Addr) (h : AHeap) : Option ((Unit) × AHeap) :=
 (fan_codes k D answers_0 h).bind fun r1 =>
 (a_1).bind fun p2 =>
 (ldV p2 r1.2).bind fun x3 =>
 guardP (SameW [h] (fun H5 => (a_1).bind fun p6 => (ldV p6 H5).bind fun y4 => some (y4)) (x3)) (
 callD (C_fan_Puts_1 k D) x3 [.slice r1.1.a r1.1.len r1.1.cap] r1.2 fun _ h8 =>
 some ((), h8))
noncomputable def r_fan_Puts_1 : RCode := an (.n) (rOf Tryz.prog 0 Tryz.f68)
noncomputable def e_fan_Puts_1 (k : Nat) (D : CallF) : Ent := entOf 68 [(0, .l), (1, .p)] [] (fan_Puts_1 k D)
theorem q_fan_Puts_1 : (Tryz.f68.body).bind (rcodeOf Tryz.prog 0 Tryz.f68.ntmps) = some (strip r_fan_Puts_1) := by kernel_rfl
theorem t_fan_Puts_1 (k : Nat) (D : CallF) : curF [(0, .l), (1, .p)] (fun args h => denF (C_fan_Puts_1 k D) k r_fan_Puts_1 [] [] args h) = fan_Puts_1 k D := by kernel_rfl
theorem ok_fan_Puts_1 {D : CallF} (hD : CSound Tryz.prog 0 D) (k : Nat) : EntOk Tryz.prog 0 (e_fan_Puts_1 k D) :=
 entOf_ok2 (mkC_sound hD (EntsOk.more (ok_fan_codes hD k) (EntsOk.none))) Tryz.func68 rfl q_fan_Puts_1 rfl (t_fan_Puts_1 k D)
end Gt
namespace Gt
open Go Gx Go.Proofs
set_option maxRecDepth 100000
noncomputable def C_fan_Lists (k : Nat) (D : CallF) : CallF := mkC D [e_fan_ask k D, e_port_IO_All k D]
noncomputable def fan_Lists (k : Nat) (D : CallF) (io_0 : Option Addr) (n_1 : Int) (begin_2 : ByteArray) (then_3 : Value) (h : AHeap) : Option ((Unit) × AHeap) :=
 newK h ((.cells then_3.cells.toList 134 true 0)) fun h1 =>
 (fan_ask k D n_1 (0, 3, begin_2, (⟨#[]⟩ : ByteArray)) h1).bind fun r2 =>
 (port_IO_All k D io_0 r2.1 (.func (.func 102) ⟨[]⟩ ⟨[.pointer (some (⟨h.next, 0, none⟩ : Addr))]⟩) r2.2).bind fun r3 =>
 some ((), r3.2)
noncomputable def r_fan_Lists : RCode := an (.n) (rOf Tryz.prog 0 Tryz.f83)
noncomputable def e_fan_Lists (k : Nat) (D : CallF) : Ent := entOf 83 [(0, .p), (1, .i .i64), (2, .s), (3, .v)] [] (fan_Lists k D)
theorem q_fan_Lists : (Tryz.f83.body).bind (rcodeOf Tryz.prog 0 Tryz.f83.ntmps) = some (strip r_fan_Lists) := by kernel_rfl
theorem t_fan_Lists (k : Nat) (D : CallF) : curF [(0, .p), (1, .i .i64), (2, .s), (3, .v)] (fun args h => denF (C_fan_Lists k D) k r_fan_Lists [] [] args h) = fan_Lists k D := by kernel_rfl
theorem ok_fan_Lists {D : CallF} (hD : CSound Tryz.prog 0 D) (k : Nat) : EntOk Tryz.prog 0 (e_fan_Lists k D) :=
 entOf_ok2 (mkC_sound hD (EntsOk.more (ok_fan_ask hD k) (EntsOk.more (ok_port_IO_All hD k) (EntsOk.none)))) Tryz.func83 rfl q_fan_Lists rfl (t_fan_Lists k D)
end Gt
namespace Gt
open Go Gx Go.Proofs
set_option maxRecDepth 100000
noncomputable def C_law09_calls_got (k : Nat) (D : CallF) : CallF := mkC D [e_fan_Lists k D]
noncomputable def law09_calls_got (k : Nat) (D : CallF) (c_0 : Option Addr) (l_1 : Slc) (h : AHeap) : Option ((Unit) × AHeap) :=
 (c_0).bind fun p1 =>
 (st1 (⟨p1.block, p1.off + 5, none⟩ : Addr) (.slice l_1.a l_1.len l_1.cap) h).bind fun h2 =>
 (c_0).bind fun p3 =>
 (ldP (⟨p3.block, p3.off + 0, none⟩ : Addr) h2).bind fun x4 =>
 (c_0).bind fun p5 =>
 (ldI .i64 (⟨p5.block, p5.off + 1, none⟩ : Addr) h2).bind fun x6 =>
 (c_0).bind fun p7 =>
 (ldS (⟨p7.block, p7.off + 2, none⟩ : Addr) h2).bind fun x8 =>
 (fan_Lists k D x4 x6 x8 (.func (.func 97) ⟨[.pointer c_0]⟩ ⟨[]⟩) h2).bind fun r9 =>
 some ((), r9.2)
noncomputable def r_law09_calls_got : RCode := an (.n) (rOf Tryz.prog 0 Tryz.f71)
noncomputable def e_law09_calls_got (k : Nat) (D : CallF) : Ent := entOf 71 [(0, .p), (1, .l)] [] (law09_calls_got k D)
theorem q_law09_calls_got : (Tryz.f71.body).bind (rcodeOf Tryz.prog 0 Tryz.f71.ntmps) = some (strip r_law09_calls_got) := by kernel_rfl
theorem t_law09_calls_got (k : Nat) (D : CallF) : curF [(0, .p), (1, .l)] (fun args h => denF (C_law09_calls_got k D) k r_law09_calls_got [] [] args h) = law09_calls_got k D := by kernel_rfl
theorem ok_law09_calls_got {D : CallF} (hD : CSound Tryz.prog 0 D) (k : Nat) : EntOk Tryz.prog 0 (e_law09_calls_got k D) :=
 entOf_ok2 (mkC_sound hD (EntsOk.more (ok_fan_Lists hD k) (EntsOk.none))) Tryz.func71 rfl q_law09_calls_got rfl (t_law09_calls_got k D)
end Gt
namespace Gt
open Go Gx Go.Proofs
set_option maxRecDepth 100000
noncomputable def C_fan_GetJob_1 (k : Nat) (D : CallF) : CallF := mkC D [e_fan_Gets k D]
noncomputable def fan_GetJob_1 (k : Nat) (D : CallF) (io_0 : Option Addr) (a_1 : Option Addr) (a_2 : Option Addr) (h : AHeap) : Option ((Unit) × AHeap) :=
 newK h ((.cells [.pointer io_0] 34 true 0)) fun h1 =>
 (ldP (⟨h.next, 0, none⟩ : Addr) h1).bind fun x2 =>
 (a_1).bind fun p3 =>
 (ldI .i64 p3 h1).bind fun x4 =>
 (a_2).bind fun p5 =>
 (ldS p5 h1).bind fun x6 =>
 (fan_Gets k D x2 x4 x6 (.func (.func 78) ⟨[]⟩ ⟨[.pointer (some (⟨h.next, 0, none⟩ : Addr))]⟩) h1).bind fun r7 =>
 some ((), r7.2)
noncomputable def r_fan_GetJob_1 : RCode := an (.n) (rOf Tryz.prog 0 Tryz.f77)
noncomputable def e_fan_GetJob_1 (k : Nat) (D : CallF) : Ent := entOf 77 [(0, .p), (1, .p), (2, .p)] [] (fan_GetJob_1 k D)
theorem q_fan_GetJob_1 : (Tryz.f77.body).bind (rcodeOf Tryz.prog 0 Tryz.f77.ntmps) = some (strip r_fan_GetJob_1) := by kernel_rfl
theorem t_fan_GetJob_1 (k : Nat) (D : CallF) : curF [(0, .p), (1, .p), (2, .p)] (fun args h => denF (C_fan_GetJob_1 k D) k r_fan_GetJob_1 [] [] args h) = fan_GetJob_1 k D := by kernel_rfl
theorem ok_fan_GetJob_1 {D : CallF} (hD : CSound Tryz.prog 0 D) (k : Nat) : EntOk Tryz.prog 0 (e_fan_GetJob_1 k D) :=
 entOf_ok2 (mkC_sound hD (EntsOk.more (ok_fan_Gets hD k) (EntsOk.none))) Tryz.func77 rfl q_fan_GetJob_1 rfl (t_fan_GetJob_1 k D)
end Gt
namespace Gt
open Go Gx Go.Proofs
set_option maxRecDepth 100000
noncomputable def C_fan_GetJob_1_1 (k : Nat) (D : CallF) : CallF := mkC D [e_fan_codes k D, e_fan_First k D, e_fan_good k D, e_port_IO_End k D]
noncomputable def fan_GetJob_1_1_l0b (_k : Nat) (_D : CallF) (j9 : (Option Addr) → (Option Addr) → AHeap → Option ((Unit) × AHeap)) (rec22 : (Option Addr) → (Option Addr) → Slc → Int → Int → AHeap → Option ((Unit) × AHeap)) (y16 : Option Addr) (r17 : Option Addr) (y18 : Slc) (y19 : Int) (y20 : Int) (h21 : AHeap) : Option ((Unit) × AHeap) :=
 (if (decide (y20 < y19)) = true then
 (Gx.idxL 3 y18 y20).bind fun q23 =>
 (ldA 3 q23 h21).bind fun l24 =>
 (decC [.i .i64, .s, .l] l24).bind fun x25 =>
 newK h21 ((.cells [.int .i64 0, .string ⟨#[]⟩, .slice none 0 0] 59 true 0)) fun h26 =>
 (stL 3 (⟨h21.next, 0, none⟩ : Addr) ([.int .i64 x25.1, .string x25.2.1, .slice x25.2.2.a x25.2.2.len x25.2.2.cap]) h26).bind fun h27 =>
 (r17).bind fun p28 =>
 (ldL (⟨p28.block, p28.off + 4, none⟩ : Addr) h27).bind fun x29 =>
 (ldS (⟨h21.next, 1, none⟩ : Addr) h27).bind fun x30 =>
 newK h27 ((.cells [.string x30] 9 true 0)) fun h31 =>
 (rdS 1 (⟨(some ⟨h27.next, 0, some 0⟩), 1, 1⟩ : Slc) h31).bind fun n33 =>
 (appendA 1 16 9 h31 x29 n33 1).bind fun r32 =>
 (r17).bind fun p34 =>
 (st1 (⟨p34.block, p34.off + 4, none⟩ : Addr) (.slice r32.1.a r32.1.len r32.1.cap) r32.2).bind fun h35 =>
 rec22 y16 r17 y18 y19 (IntKind.wrap .i64 (y20 + 1)) h35
 else
 j9 y16 r17 h21)
noncomputable def fan_GetJob_1_1_l0 (k : Nat) (D : CallF) (j9 : (Option Addr) → (Option Addr) → AHeap → Option ((Unit) × AHeap)) : (Option Addr) → (Option Addr) → Slc → Int → Int → AHeap → Option ((Unit) × AHeap) :=
 iterK (α := (Option Addr) → (Option Addr) → Slc → Int → Int → AHeap → Option ((Unit) × AHeap)) (fun _ _ _ _ _ _ => none) k (fan_GetJob_1_1_l0b k D j9)
noncomputable def fan_GetJob_1_1 (k : Nat) (D : CallF) (answers_0 : Slc) (a_1 : Option Addr) (h : AHeap) : Option ((Unit) × AHeap) :=
 (fan_codes k D answers_0 h).bind fun r1 =>
 (fan_First k D r1.1 (⟨none, 0, 0⟩ : Slc) r1.2).bind fun r2 =>
 (fan_good k D r1.1 r2.2).bind fun r3 =>
 newK r3.2 ((.cells [.int .i64 0, .string ⟨#[]⟩, .int .i64 0, .slice none 0 0, .slice none 0 0, .slice none 0 0, .slice none 0 0] 42 true 0)) fun h4 =>
 (stL 7 (⟨r3.2.next, 0, none⟩ : Addr) ([.int .i64 r2.1, .string (⟨#[]⟩ : ByteArray), .int .i64 r3.1, .slice none 0 0, .slice none 0 0, .slice none 0 0, .slice none 0 0]) h4).bind fun h5 =>
 joinK (fun (y6 : Option Addr) (r7 : Option Addr) (h8 : AHeap) =>
 (y6).bind fun p10 =>
 (ldP p10 h8).bind fun x11 =>
 (r7).bind fun p12 =>
 (ldA 7 p12 h8).bind fun l13 =>
 (decC [.i .i64, .s, .i .i64, .l, .l, .l, .l] l13).bind fun x14 =>
 (port_IO_End k D x11 (x14.1, x14.2.1, x14.2.2.1, x14.2.2.2.1, x14.2.2.2.2.1, x14.2.2.2.2.2.1, x14.2.2.2.2.2.2) h8).bind fun r15 =>
 some ((), r15.2)) fun j9 =>
 fan_GetJob_1_1_l0 k D j9 a_1 (some (⟨r3.2.next, 0, none⟩ : Addr)) answers_0 (answers_0.len : Int) 0 h5
noncomputable def r_fan_GetJob_1_1 : RCode := an (.s .n (.s .n (.s (.j [(1, .p), (4, .p)] (.s .n (.b (.l [(1, .p), (4, .p), (14, .l), (15, .i .i64), (16, .i .i64)] (.s .n (.s .n (.s (.b (.s (.r [(1, .st [.i .i64, .s, .l])]) .n)) .n))))))) (.r [(1, .st [.i .i64, .s, .i .i64, .l, .l, .l, .l])])))) (rOf Tryz.prog 0 Tryz.f78)
noncomputable def e_fan_GetJob_1_1 (k : Nat) (D : CallF) : Ent := entOf 78 [(0, .l), (1, .p)] [] (fan_GetJob_1_1 k D)
theorem q_fan_GetJob_1_1 : (Tryz.f78.body).bind (rcodeOf Tryz.prog 0 Tryz.f78.ntmps) = some (strip r_fan_GetJob_1_1) := by kernel_rfl
theorem t_fan_GetJob_1_1 (k : Nat) (D : CallF) : curF [(0, .l), (1, .p)] (fun args h => denF (C_fan_GetJob_1_1 k D) k r_fan_GetJob_1_1 [] [] args h) = fan_GetJob_1_1 k D := by kernel_rfl
theorem ok_fan_GetJob_1_1 {D : CallF} (hD : CSound Tryz.prog 0 D) (k : Nat) : EntOk Tryz.prog 0 (e_fan_GetJob_1_1 k D) :=
 entOf_ok2 (mkC_sound hD (EntsOk.more (ok_fan_codes hD k) (EntsOk.more (ok_fan_First hD k) (EntsOk.more (ok_fan_good hD k) (EntsOk.more (ok_port_IO_End hD k) (EntsOk.none)))))) Tryz.func78 rfl q_fan_GetJob_1_1 rfl (t_fan_GetJob_1_1 k D)
end Gt
namespace Gt
open Go Gx Go.Proofs
set_option maxRecDepth 100000
noncomputable def C_fan_Dels (k : Nat) (D : CallF) : CallF := mkC D [e_fan_ask k D, e_port_IO_All k D]
noncomputable def fan_Dels (k : Nat) (D : CallF) (io_0 : Option Addr) (n_1 : Int) (name_2 : ByteArray) (then_3 : Value) (h : AHeap) : Option ((Unit) × AHeap) :=
 newK h ((.cells then_3.cells.toList 93 true 0)) fun h1 =>
 (fan_ask k D n_1 (0, 4, name_2, (⟨#[]⟩ : ByteArray)) h1).bind fun r2 =>
 (port_IO_All k D io_0 r2.1 (.func (.func 101) ⟨[]⟩ ⟨[.pointer (some (⟨h.next, 0, none⟩ : Addr))]⟩) r2.2).bind fun r3 =>
 some ((), r3.2)
noncomputable def r_fan_Dels : RCode := an (.n) (rOf Tryz.prog 0 Tryz.f80)
noncomputable def e_fan_Dels (k : Nat) (D : CallF) : Ent := entOf 80 [(0, .p), (1, .i .i64), (2, .s), (3, .v)] [] (fan_Dels k D)
theorem q_fan_Dels : (Tryz.f80.body).bind (rcodeOf Tryz.prog 0 Tryz.f80.ntmps) = some (strip r_fan_Dels) := by kernel_rfl
theorem t_fan_Dels (k : Nat) (D : CallF) : curF [(0, .p), (1, .i .i64), (2, .s), (3, .v)] (fun args h => denF (C_fan_Dels k D) k r_fan_Dels [] [] args h) = fan_Dels k D := by kernel_rfl
theorem ok_fan_Dels {D : CallF} (hD : CSound Tryz.prog 0 D) (k : Nat) : EntOk Tryz.prog 0 (e_fan_Dels k D) :=
 entOf_ok2 (mkC_sound hD (EntsOk.more (ok_fan_ask hD k) (EntsOk.more (ok_port_IO_All hD k) (EntsOk.none)))) Tryz.func80 rfl q_fan_Dels rfl (t_fan_Dels k D)
end Gt
namespace Gt
open Go Gx Go.Proofs
set_option maxRecDepth 100000
noncomputable def C_fan_DelJob_1 (k : Nat) (D : CallF) : CallF := mkC D [e_fan_Dels k D]
noncomputable def fan_DelJob_1 (k : Nat) (D : CallF) (io_0 : Option Addr) (a_1 : Option Addr) (a_2 : Option Addr) (h : AHeap) : Option ((Unit) × AHeap) :=
 newK h ((.cells [.pointer io_0] 34 true 0)) fun h1 =>
 (ldP (⟨h.next, 0, none⟩ : Addr) h1).bind fun x2 =>
 (a_1).bind fun p3 =>
 (ldI .i64 p3 h1).bind fun x4 =>
 (a_2).bind fun p5 =>
 (ldS p5 h1).bind fun x6 =>
 (fan_Dels k D x2 x4 x6 (.func (.func 81) ⟨[]⟩ ⟨[.pointer (some (⟨h.next, 0, none⟩ : Addr))]⟩) h1).bind fun r7 =>
 some ((), r7.2)
noncomputable def r_fan_DelJob_1 : RCode := an (.n) (rOf Tryz.prog 0 Tryz.f79)
noncomputable def e_fan_DelJob_1 (k : Nat) (D : CallF) : Ent := entOf 79 [(0, .p), (1, .p), (2, .p)] [] (fan_DelJob_1 k D)
theorem q_fan_DelJob_1 : (Tryz.f79.body).bind (rcodeOf Tryz.prog 0 Tryz.f79.ntmps) = some (strip r_fan_DelJob_1) := by kernel_rfl
theorem t_fan_DelJob_1 (k : Nat) (D : CallF) : curF [(0, .p), (1, .p), (2, .p)] (fun args h => denF (C_fan_DelJob_1 k D) k r_fan_DelJob_1 [] [] args h) = fan_DelJob_1 k D := by kernel_rfl
theorem ok_fan_DelJob_1 {D : CallF} (hD : CSound Tryz.prog 0 D) (k : Nat) : EntOk Tryz.prog 0 (e_fan_DelJob_1 k D) :=
 entOf_ok2 (mkC_sound hD (EntsOk.more (ok_fan_Dels hD k) (EntsOk.none))) Tryz.func79 rfl q_fan_DelJob_1 rfl (t_fan_DelJob_1 k D)
end Gt
namespace Gt
open Go Gx Go.Proofs
set_option maxRecDepth 100000
noncomputable def C_fan_DelJob_1_1 (k : Nat) (D : CallF) : CallF := mkC D [e_fan_First k D, e_fan_good k D, e_port_IO_End k D]
noncomputable def fan_DelJob_1_1 (k : Nat) (D : CallF) (l_0 : Slc) (a_1 : Option Addr) (h : AHeap) : Option ((Unit) × AHeap) :=
 newK h ((.cells [.int .i64 5] 27 true 0)) fun h1 =>
 (fan_First k D l_0 (⟨(some ⟨h.next, 0, some 0⟩), 1, 1⟩ : Slc) h1).bind fun r2 =>
 (fan_good k D l_0 r2.2).bind fun r3 =>
 newK r3.2 ((.cells [.int .i64 0, .string ⟨#[]⟩, .int .i64 0, .slice none 0 0, .slice none 0 0, .slice none 0 0, .slice none 0 0] 42 true 0)) fun h4 =>
 (stL 7 (⟨r3.2.next, 0, none⟩ : Addr) ([.int .i64 r2.1, .string (⟨#[]⟩ : ByteArray), .int .i64 r3.1, .slice none 0 0, .slice none 0 0, .slice none 0 0, .slice none 0 0]) h4).bind fun h5 =>
 joinK (fun (y6 : Option Addr) (r7 : Option Addr) (h8 : AHeap) =>
 (y6).bind fun p10 =>
 (ldP p10 h8).bind fun x11 =>
 (r7).bind fun p12 =>
 (ldA 7 p12 h8).bind fun l13 =>
 (decC [.i .i64, .s, .i .i64, .l, .l, .l, .l] l13).bind fun x14 =>
 (port_IO_End k D x11 (x14.1, x14.2.1, x14.2.2.1, x14.2.2.2.1, x14.2.2.2.2.1, x14.2.2.2.2.2.1, x14.2.2.2.2.2.2) h8).bind fun r15 =>
 some ((), r15.2)) fun j9 =>
 joinK (fun (y16 : Option Addr) (r17 : Option Addr) (y18 : Bool) (h19 : AHeap) =>
 (if y18 = true then
 (r17).bind fun p21 =>
 (st1 (⟨p21.block, p21.off + 0, none⟩ : Addr) (.int .i64 5) h19).bind fun h22 =>
 j9 y16 r17 h22
 else
 j9 y16 r17 h19)) fun j20 =>
 (ldI .i64 (⟨r3.2.next, 0, none⟩ : Addr) h5).bind fun x23 =>
 (if (x23 == 0) = true then
 (ldI .i64 (⟨r3.2.next, 2, none⟩ : Addr) h5).bind fun x24 =>
 j20 a_1 (some (⟨r3.2.next, 0, none⟩ : Addr)) (x24 == 0) h5
 else
 j20 a_1 (some (⟨r3.2.next, 0, none⟩ : Addr)) false h5)
noncomputable def r_fan_DelJob_1_1 : RCode := an (.s .n (.s (.j [(1, .p), (3, .p)] (.s (.j [(1, .p), (3, .p), (17, .b)] .n) .n)) (.r [(1, .st [.i .i64, .s, .i .i64, .l, .l, .l, .l])]))) (rOf Tryz.prog 0 Tryz.f81)
noncomputable def e_fan_DelJob_1_1 (k : Nat) (D : CallF) : Ent := entOf 81 [(0, .l), (1, .p)] [] (fan_DelJob_1_1 k D)
theorem q_fan_DelJob_1_1 : (Tryz.f81.body).bind (rcodeOf Tryz.prog 0 Tryz.f81.ntmps) = some (strip r_fan_DelJob_1_1) := by kernel_rfl
theorem t_fan_DelJob_1_1 (k : Nat) (D : CallF) : curF [(0, .l), (1, .p)] (fun args h => denF (C_fan_DelJob_1_1 k D) k r_fan_DelJob_1_1 [] [] args h) = fan_DelJob_1_1 k D := by kernel_rfl
theorem ok_fan_DelJob_1_1 {D : CallF} (hD : CSound Tryz.prog 0 D) (k : Nat) : EntOk Tryz.prog 0 (e_fan_DelJob_1_1 k D) :=
 entOf_ok2 (mkC_sound hD (EntsOk.more (ok_fan_First hD k) (EntsOk.more (ok_fan_good hD k) (EntsOk.more (ok_port_IO_End hD k) (EntsOk.none))))) Tryz.func81 rfl q_fan_DelJob_1_1 rfl (t_fan_DelJob_1_1 k D)
end Gt
namespace Gt
open Go Gx Go.Proofs
set_option maxRecDepth 100000
noncomputable def C_fan_ListJob_1 (k : Nat) (D : CallF) : CallF := mkC D [e_fan_Lists k D]
noncomputable def fan_ListJob_1 (k : Nat) (D : CallF) (io_0 : Option Addr) (a_1 : Option Addr) (a_2 : Option Addr) (h : AHeap) : Option ((Unit) × AHeap) :=
 newK h ((.cells [.pointer io_0] 34 true 0)) fun h1 =>
 (ldP (⟨h.next, 0, none⟩ : Addr) h1).bind fun x2 =>
 (a_1).bind fun p3 =>
 (ldI .i64 p3 h1).bind fun x4 =>
 (a_2).bind fun p5 =>
 (ldS p5 h1).bind fun x6 =>
 (fan_Lists k D x2 x4 x6 (.func (.func 84) ⟨[]⟩ ⟨[.pointer (some (⟨h.next, 0, none⟩ : Addr))]⟩) h1).bind fun r7 =>
 some ((), r7.2)
noncomputable def r_fan_ListJob_1 : RCode := an (.n) (rOf Tryz.prog 0 Tryz.f82)
noncomputable def e_fan_ListJob_1 (k : Nat) (D : CallF) : Ent := entOf 82 [(0, .p), (1, .p), (2, .p)] [] (fan_ListJob_1 k D)
theorem q_fan_ListJob_1 : (Tryz.f82.body).bind (rcodeOf Tryz.prog 0 Tryz.f82.ntmps) = some (strip r_fan_ListJob_1) := by kernel_rfl
theorem t_fan_ListJob_1 (k : Nat) (D : CallF) : curF [(0, .p), (1, .p), (2, .p)] (fun args h => denF (C_fan_ListJob_1 k D) k r_fan_ListJob_1 [] [] args h) = fan_ListJob_1 k D := by kernel_rfl
theorem ok_fan_ListJob_1 {D : CallF} (hD : CSound Tryz.prog 0 D) (k : Nat) : EntOk Tryz.prog 0 (e_fan_ListJob_1 k D) :=
 entOf_ok2 (mkC_sound hD (EntsOk.more (ok_fan_Lists hD k) (EntsOk.none))) Tryz.func82 rfl q_fan_ListJob_1 rfl (t_fan_ListJob_1 k D)
end Gt
namespace Gt
open Go Gx Go.Proofs
set_option maxRecDepth 100000
noncomputable def C_fan_ListJob_1_1 (k : Nat) (D : CallF) : CallF := mkC D [e_fan_First k D, e_fan_good k D, e_port_IO_End k D]
noncomputable def fan_ListJob_1_1 (k : Nat) (D : CallF) (names_0 : Slc) (l_1 : Slc) (a_2 : Option Addr) (h : AHeap) : Option ((Unit) × AHeap) :=
 (fan_First k D l_1 (⟨none, 0, 0⟩ : Slc) h).bind fun r1 =>
 (fan_good k D l_1 r1.2).bind fun r2 =>
 (a_2).bind fun p3 =>
 (ldP p3 r2.2).bind fun x4 =>
 guardP (SameW [r1.2, h] (fun H6 => (a_2).bind fun p7 => (ldP p7 H6).bind fun y5 => some (.pointer y5)) (.pointer x4)) (
 (port_IO_End k D x4 (r1.1, (⟨#[]⟩ : ByteArray), r2.1, names_0, (⟨none, 0, 0⟩ : Slc), (⟨none, 0, 0⟩ : Slc), (⟨none, 0, 0⟩ : Slc)) r2.2).bind fun r8 =>
 some ((), r8.2))
noncomputable def r_fan_ListJob_1_1 : RCode := an (.n) (rOf Tryz.prog 0 Tryz.f84)
noncomputable def e_fan_ListJob_1_1 (k : Nat) (D : CallF) : Ent := entOf 84 [(0, .l), (1, .l), (2, .p)] [] (fan_ListJob_1_1 k D)
theorem q_fan_ListJob_1_1 : (Tryz.f84.body).bind (rcodeOf Tryz.prog 0 Tryz.f84.ntmps) = some (strip r_fan_ListJob_1_1) := by kernel_rfl
theorem t_fan_ListJob_1_1 (k : Nat) (D : CallF) : curF [(0, .l), (1, .l), (2, .p)] (fun args h => denF (C_fan_ListJob_1_1 k D) k r_fan_ListJob_1_1 [] [] args h) = fan_ListJob_1_1 k D := by kernel_rfl
theorem ok_fan_ListJob_1_1 {D : CallF} (hD : CSound Tryz.prog 0 D) (k : Nat) : EntOk Tryz.prog 0 (e_fan_ListJob_1_1 k D) :=
 entOf_ok2 (mkC_sound hD (EntsOk.more (ok_fan_First hD k) (EntsOk.more (ok_fan_good hD k) (EntsOk.more (ok_port_IO_End hD k) (EntsOk.none))))) Tryz.func84 rfl q_fan_ListJob_1_1 rfl (t_fan_ListJob_1_1 k D)
end Gt
namespace Gt
open Go Gx Go.Proofs
set_option maxRecDepth 100000
noncomputable def C_fan_job_1 (k : Nat) (D : CallF) : CallF := mkC D [e_fan_may k D, e_port_IO_End k D]
noncomputable def fan_job_1 (k : Nat) (D : CallF) (io_0 : Option Addr) (a_1 : Option Addr) (a_2 : Option Addr) (h : AHeap) : Option ((Unit) × AHeap) :=
 (a_1).bind fun p1 =>
 (ldI .i64 p1 h).bind fun x2 =>
 (fan_may k D x2 h).bind fun r3 =>
 (if (!r3.1) = true then
 (port_IO_End k D io_0 (1, (⟨#[]⟩ : ByteArray), 0, (⟨none, 0, 0⟩ : Slc), (⟨none, 0, 0⟩ : Slc), (⟨none, 0, 0⟩ : Slc), (⟨none, 0, 0⟩ : Slc)) r3.2).bind fun r4 =>
 some ((), r4.2)
 else
 (a_2).bind fun p5 =>
 (ldV p5 r3.2).bind fun x6 =>
 callD (C_fan_job_1 k D) x6 [.pointer io_0] r3.2 fun _ h8 =>
 some ((), h8))
noncomputable def r_fan_job_1 : RCode := an (.n) (rOf Tryz.prog 0 Tryz.f89)
noncomputable def e_fan_job_1 (k : Nat) (D : CallF) : Ent := entOf 89 [(0, .p), (1, .p), (2, .p)] [] (fan_job_1 k D)
theorem q_fan_job_1 : (Tryz.f89.body).bind (rcodeOf Tryz.prog 0 Tryz.f89.ntmps) = some (strip r_fan_job_1) := by kernel_rfl
theorem t_fan_job_1 (k : Nat) (D : CallF) : curF [(0, .p), (1, .p), (2, .p)] (fun args h => denF (C_fan_job_1 k D) k r_fan_job_1 [] [] args h) = fan_job_1 k D := by kernel_rfl
theorem ok_fan_job_1 {D : CallF} (hD : CSound Tryz.prog 0 D) (k : Nat) : EntOk Tryz.prog 0 (e_fan_job_1 k D) :=
 entOf_ok2 (mkC_sound hD (EntsOk.more (ok_fan_may hD k) (EntsOk.more (ok_port_IO_End hD k) (EntsOk.none)))) Tryz.func89 rfl q_fan_job_1 rfl (t_fan_job_1 k D)
end Gt
namespace Gt
open Go Gx Go.Proofs
set_option maxRecDepth 100000
noncomputable def C_port_IO_Ask (_k : Nat) (D : CallF) : CallF := mkC D []
noncomputable def port_IO_Ask (_k : Nat) (_D : CallF) (io_0 : Option Addr) (r_1 : Int × Int × ByteArray × ByteArray) (then_2 : Value) (h : AHeap) : Option ((Unit) × AHeap) :=
 let h1 := AHeap.new h (.cells [.int .i64 r_1.1, .int .i64 r_1.2.1, .string r_1.2.2.1, .string r_1.2.2.2] 51 true 0)
 (io_0).bind fun p2 =>
 (ldB (⟨p2.block, p2.off + 5, none⟩ : Addr) h1).bind fun x3 =>
 (if (!x3) = true then
 (ldA 4 (⟨h.next, 0, none⟩ : Addr) h1).bind fun l4 =>
 (decC [.i .i64, .i .i64, .s, .s] l4).bind fun x5 =>
 (io_0).bind fun p6 =>
 (stL 4 (⟨p6.block, p6.off + 0, none⟩ : Addr) ([.int .i64 x5.1, .int .i64 x5.2.1, .string x5.2.2.1, .string x5.2.2.2]) h1).bind fun h7 =>
 (io_0).bind fun p8 =>
 (st1 (⟨p8.block, p8.off + 4, none⟩ : Addr) (then_2) h7).bind fun h9 =>
 some ((), h9)
 else
 some ((), h1))
noncomputable def r_port_IO_Ask : RCode := an (.s .n (.s .n (.s (.r [(2, .st [.i .i64, .i .i64, .s, .s])]) .n))) (rOf Tryz.prog 0 Tryz.f95)
noncomputable def e_port_IO_Ask (k : Nat) (D : CallF) : Ent := entOf 95 [(0, .p), (1, .st [.i .i64, .i .i64, .s, .s]), (2, .v)] [] (port_IO_Ask k D)
theorem q_port_IO_Ask : (Tryz.f95.body).bind (rcodeOf Tryz.prog 0 Tryz.f95.ntmps) = some (strip r_port_IO_Ask) := by kernel_rfl
theorem t_port_IO_Ask (k : Nat) (D : CallF) : curF [(0, .p), (1, .st [.i .i64, .i .i64, .s, .s]), (2, .v)] (fun args h => denF (C_port_IO_Ask k D) k r_port_IO_Ask [] [] args h) = port_IO_Ask k D := by kernel_rfl
theorem ok_port_IO_Ask {D : CallF} (hD : CSound Tryz.prog 0 D) (k : Nat) : EntOk Tryz.prog 0 (e_port_IO_Ask k D) :=
 entOf_ok2 (mkC_sound hD (EntsOk.none)) Tryz.func95 rfl q_port_IO_Ask rfl (t_port_IO_Ask k D)
end Gt
namespace Gt
open Go Gx Go.Proofs
set_option maxRecDepth 100000
noncomputable def C_port_IO_All_1 (k : Nat) (D : CallF) : CallF := mkC D [e_port_IO_Ask k D]
noncomputable def port_IO_All_1 (k : Nat) (D : CallF) (a_0 : Option Addr) (a_1 : Option Addr) (a_2 : Option Addr) (a_3 : Option Addr) (a_4 : Option Addr) (h : AHeap) : Option ((Unit) × AHeap) :=
 (a_0).bind fun p1 =>
 (ldL p1 h).bind fun x2 =>
 (a_1).bind fun p3 =>
 (ldL p3 h).bind fun x4 =>
 (if ((x2.len : Int) == (x4.len : Int)) = true then
 (a_2).bind fun p5 =>
 (ldV p5 h).bind fun x6 =>
 (a_0).bind fun p7 =>
 (ldL p7 h).bind fun x8 =>
 callD (C_port_IO_All_1 k D) x6 [.slice x8.a x8.len x8.cap] h fun _ h10 =>
 some ((), h10)
 else
 (a_3).bind fun p11 =>
 (ldP p11 h).bind fun x12 =>
 (a_1).bind fun p13 =>
 (ldL p13 h).bind fun x14 =>
 (a_0).bind fun p15 =>
 (ldL p15 h).bind fun x16 =>
 (Gx.idxL 4 x14 (x16.len : Int)).bind fun q17 =>
 (ldA 4 q17 h).bind fun l18 =>
 (decC [.i .i64, .i .i64, .s, .s] l18).bind fun x19 =>
 (port_IO_Ask k D x12 (x19.1, x19.2.1, x19.2.2.1, x19.2.2.2) (.func (.func 96) ⟨[]⟩ ⟨[.pointer a_0, .pointer a_4]⟩) h).bind fun r20 =>
 some ((), r20.2))
noncomputable def r_port_IO_All_1 : RCode := an (.s .n (.r [(5, .st [.i .i64, .i .i64, .s, .s])])) (rOf Tryz.prog 0 Tryz.f94)
noncomputable def e_port_IO_All_1 (k : Nat) (D : CallF) : Ent := entOf 94 [(0, .p), (1, .p), (2, .p), (3, .p), (4, .p)] [] (port_IO_All_1 k D)
theorem q_port_IO_All_1 : (Tryz.f94.body).bind (rcodeOf Tryz.prog 0 Tryz.f94.ntmps) = some (strip r_port_IO_All_1) := by kernel_rfl
theorem t_port_IO_All_1 (k : Nat) (D : CallF) : curF [(0, .p), (1, .p), (2, .p), (3, .p), (4, .p)] (fun args h => denF (C_port_IO_All_1 k D) k r_port_IO_All_1 [] [] args h) = port_IO_All_1 k D := by kernel_rfl
theorem ok_port_IO_All_1 {D : CallF} (hD : CSound Tryz.prog 0 D) (k : Nat) : EntOk Tryz.prog 0 (e_port_IO_All_1 k D) :=
 entOf_ok2 (mkC_sound hD (EntsOk.more (ok_port_IO_Ask hD k) (EntsOk.none))) Tryz.func94 rfl q_port_IO_All_1 rfl (t_port_IO_All_1 k D)
end Gt
namespace Gt
open Go Gx Go.Proofs
set_option maxRecDepth 100000
noncomputable def C_port_IO_All_1_1 (_k : Nat) (D : CallF) : CallF := mkC D []
noncomputable def port_IO_All_1_1 (k : Nat) (D : CallF) (r_0 : Int × ByteArray × Slc) (a_1 : Option Addr) (a_2 : Option Addr) (h : AHeap) : Option ((Unit) × AHeap) :=
 let h1 := AHeap.new h (.cells [.int .i64 r_0.1, .string r_0.2.1, .slice r_0.2.2.a r_0.2.2.len r_0.2.2.cap] 59 true 0)
 (a_1).bind fun p2 =>
 (ldL p2 h1).bind fun x3 =>
 (ldA 3 (⟨h.next, 0, none⟩ : Addr) h1).bind fun l4 =>
 (decC [.i .i64, .s, .l] l4).bind fun x5 =>
 let h6 := AHeap.new h1 (.cells [.int .i64 x5.1, .string x5.2.1, .slice x5.2.2.a x5.2.2.len x5.2.2.cap] 59 true 0)
 (rdS 3 (⟨(some ⟨h1.next, 0, some 0⟩), 1, 1⟩ : Slc) h6).bind fun n8 =>
 (appendA 3 48 59 h6 x3 n8 1).bind fun r7 =>
 (a_1).bind fun p9 =>
 (st1 p9 (.slice r7.1.a r7.1.len r7.1.cap) r7.2).bind fun h10 =>
 (a_2).bind fun p11 =>
 (ldV p11 h10).bind fun x12 =>
 callD (C_port_IO_All_1_1 k D) x12 [] h10 fun _ h14 =>
 some ((), h14)
noncomputable def r_port_IO_All_1_1 : RCode := an (.s .n (.s (.r [(1, .st [.i .i64, .s, .l])]) .n)) (rOf Tryz.prog 0 Tryz.f96)
noncomputable def e_port_IO_All_1_1 (k : Nat) (D : CallF) : Ent := entOf 96 [(0, .st [.i .i64, .s, .l]), (1, .p), (2, .p)] [] (port_IO_All_1_1 k D)
theorem q_port_IO_All_1_1 : (Tryz.f96.body).bind (rcodeOf Tryz.prog 0 Tryz.f96.ntmps) = some (strip r_port_IO_All_1_1) := by kernel_rfl
theorem t_port_IO_All_1_1 (k : Nat) (D : CallF) : curF [(0, .st [.i .i64, .s, .l]), (1, .p), (2, .p)] (fun args h => denF (C_port_IO_All_1_1 k D) k r_port_IO_All_1_1 [] [] args h) = port_IO_All_1_1 k D := by kernel_rfl
theorem ok_port_IO_All_1_1 {D : CallF} (hD : CSound Tryz.prog 0 D) (k : Nat) : EntOk Tryz.prog 0 (e_port_IO_All_1_1 k D) :=
 entOf_ok2 (mkC_sound hD (EntsOk.none)) Tryz.func96 rfl q_port_IO_All_1_1 rfl (t_port_IO_All_1_1 k D)
end Gt
namespace Gt
open Go Gx Go.Proofs
set_option maxRecDepth 100000
noncomputable def C_law09_calls_listed (k : Nat) (D : CallF) : CallF := mkC D [e_fan_Dels k D]
noncomputable def law09_calls_listed (k : Nat) (D : CallF) (c_0 : Option Addr) (names_1 : Slc) (l_2 : Slc) (h : AHeap) : Option ((Unit) × AHeap) :=
 (c_0).bind fun p1 =>
 (st1 (⟨p1.block, p1.off + 6, none⟩ : Addr) (.slice names_1.a names_1.len names_1.cap) h).bind fun h2 =>
 (c_0).bind fun p3 =>
 (st1 (⟨p3.block, p3.off + 7, none⟩ : Addr) (.slice l_2.a l_2.len l_2.cap) h2).bind fun h4 =>
 (c_0).bind fun p5 =>
 (ldP (⟨p5.block, p5.off + 0, none⟩ : Addr) h4).bind fun x6 =>
 (c_0).bind fun p7 =>
 (ldI .i64 (⟨p7.block, p7.off + 1, none⟩ : Addr) h4).bind fun x8 =>
 (c_0).bind fun p9 =>
 (ldS (⟨p9.block, p9.off + 2, none⟩ : Addr) h4).bind fun x10 =>
 (fan_Dels k D x6 x8 x10 (.func (.func 112) ⟨[.pointer c_0]⟩ ⟨[]⟩) h4).bind fun r11 =>
 some ((), r11.2)
noncomputable def r_law09_calls_listed : RCode := an (.n) (rOf Tryz.prog 0 Tryz.f97)
noncomputable def e_law09_calls_listed (k : Nat) (D : CallF) : Ent := entOf 97 [(0, .p), (1, .l), (2, .l)] [] (law09_calls_listed k D)
theorem q_law09_calls_listed : (Tryz.f97.body).bind (rcodeOf Tryz.prog 0 Tryz.f97.ntmps) = some (strip r_law09_calls_listed) := by kernel_rfl
theorem t_law09_calls_listed (k : Nat) (D : CallF) : curF [(0, .p), (1, .l), (2, .l)] (fun args h => denF (C_law09_calls_listed k D) k r_law09_calls_listed [] [] args h) = law09_calls_listed k D := by kernel_rfl
theorem ok_law09_calls_listed {D : CallF} (hD : CSound Tryz.prog 0 D) (k : Nat) : EntOk Tryz.prog 0 (e_law09_calls_listed k D) :=
 entOf_ok2 (mkC_sound hD (EntsOk.more (ok_fan_Dels hD k) (EntsOk.none))) Tryz.func97 rfl q_law09_calls_listed rfl (t_law09_calls_listed k D)
end Gt
namespace Gt
open Go Gx Go.Proofs
set_option maxRecDepth 100000
noncomputable def C_fan_Dels_1 (k : Nat) (D : CallF) : CallF := mkC D [e_fan_codes k D]
noncomputable def fan_Dels_1 (k : Nat) (D : CallF) (answers_0 : Slc) (a_1 : Option Addr) (h : AHeap) : Option ((Unit) × AHeap) :=
 (fan_codes k D answers_0 h).bind fun r1 =>
 (a_1).bind fun p2 =>
 (ldV p2 r1.2).bind fun x3 =>
 guardP (SameW [h] (fun H5 => (a_1).bind fun p6 => (ldV p6 H5).bind fun y4 => some (y4)) (x3)) (
 callD (C_fan_Dels_1 k D) x3 [.slice r1.1.a r1.1.len r1.1.cap] r1.2 fun _ h8 =>
 some ((), h8))
noncomputable def r_fan_Dels_1 : RCode := an (.n) (rOf Tryz.prog 0 Tryz.f101)
noncomputable def e_fan_Dels_1 (k : Nat) (D : CallF) : Ent := entOf 101 [(0, .l), (1, .p)] [] (fan_Dels_1 k D)
theorem q_fan_Dels_1 : (Tryz.f101.body).bind (rcodeOf Tryz.prog 0 Tryz.f101.ntmps) = some (strip r_fan_Dels_1) := by kernel_rfl
theorem t_fan_Dels_1 (k : Nat) (D : CallF) : curF [(0, .l), (1, .p)] (fun args h => denF (C_fan_Dels_1 k D) k r_fan_Dels_1 [] [] args h) = fan_Dels_1 k D := by kernel_rfl
theorem ok_fan_Dels_1 {D : CallF} (hD : CSound Tryz.prog 0 D) (k : Nat) : EntOk Tryz.prog 0 (e_fan_Dels_1 k D) :=
 entOf_ok2 (mkC_sound hD (EntsOk.more (ok_fan_codes hD k) (EntsOk.none))) Tryz.func101 rfl q_fan_Dels_1 rfl (t_fan_Dels_1 k D)
end Gt
namespace Gt
open Go Gx Go.Proofs
set_option maxRecDepth 100000
noncomputable def C_maps_Keys_map_string_bool_string_bool (_k : Nat) (D : CallF) : CallF := mkC D []
noncomputable def maps_Keys_map_string_bool_string_bool (_k : Nat) (_D : CallF) (m_0 : Option Nat) (h : AHeap) : Option ((Value) × AHeap) :=
 newK h ((.cells [.map m_0] 146 true 0)) fun h1 =>
 some ((.func (.func 116) ⟨[]⟩ ⟨[.pointer (some (⟨h.next, 0, none⟩ : Addr))]⟩), h1)
noncomputable def r_maps_Keys_map_string_bool_string_bool : RCode := an (.n) (rOf Tryz.prog 0 Tryz.f103)
noncomputable def e_maps_Keys_map_string_bool_string_bool (k : Nat) (D : CallF) : Ent := entOf 103 [(0, .m)] [(2, .v)] (maps_Keys_map_string_bool_string_bool k D)
theorem q_maps_Keys_map_string_bool_string_bool : (Tryz.f103.body).bind (rcodeOf Tryz.prog 0 Tryz.f103.ntmps) = some (strip r_maps_Keys_map_string_bool_string_bool) := by kernel_rfl
theorem t_maps_Keys_map_string_bool_string_bool (k : Nat) (D : CallF) : curF [(0, .m)] (fun args h => denF (C_maps_Keys_map_string_bool_string_bool k D) k r_maps_Keys_map_string_bool_string_bool [(2, .v)] [none] args h) = maps_Keys_map_string_bool_string_bool k D := by kernel_rfl
theorem ok_maps_Keys_map_string_bool_string_bool {D : CallF} (hD : CSound Tryz.prog 0 D) (k : Nat) : EntOk Tryz.prog 0 (e_maps_Keys_map_string_bool_string_bool k D) :=
 entOf_ok2 (mkC_sound hD (EntsOk.none)) Tryz.func103 rfl q_maps_Keys_map_string_bool_string_bool rfl (t_maps_Keys_map_string_bool_string_bool k D)
end Gt
namespace Gt
open Go Gx Go.Proofs
set_option maxRecDepth 100000
noncomputable def C_fan_Lists_1 (k : Nat) (D : CallF) : CallF := mkC D [e_maps_Keys_map_string_bool_string_bool k D, e_slices_Sorted_string2 k D, e_fan_codes k D]
noncomputable def fan_Lists_1_l1b (_k : Nat) (_D : CallF) (j32 : Slc → (Option Addr) → (Option Nat) → Slc → Int → Int → AHeap → Option ((Unit) × AHeap)) (rec49 : Slc → (Option Addr) → (Option Nat) → Slc → Int → Int → Slc → Int → Int → AHeap → Option ((Unit) × AHeap)) (answers39 : Slc) (y40 : Option Addr) (all41 : Option Nat) (y42 : Slc) (y43 : Int) (y44 : Int) (y45 : Slc) (y46 : Int) (y47 : Int) (h48 : AHeap) : Option ((Unit) × AHeap) :=
 (if (decide (y47 < y46)) = true then
 (Gx.idxL 1 y45 y47).bind fun q50 =>
 (ldS q50 h48).bind fun x51 =>
 (all41).bind fun r53 =>
 (updE h48 r53 (.string x51) (.bool true)).bind fun h52 =>
 rec49 answers39 y40 all41 y42 y43 y44 y45 y46 (IntKind.wrap .i64 (y47 + 1)) h52
 else
 j32 answers39 y40 all41 y42 y43 y44 h48)
noncomputable def fan_Lists_1_l1 (k : Nat) (D : CallF) (j32 : Slc → (Option Addr) → (Option Nat) → Slc → Int → Int → AHeap → Option ((Unit) × AHeap)) : Slc → (Option Addr) → (Option Nat) → Slc → Int → Int → Slc → Int → Int → AHeap → Option ((Unit) × AHeap) :=
 iterK (α := Slc → (Option Addr) → (Option Nat) → Slc → Int → Int → Slc → Int → Int → AHeap → Option ((Unit) × AHeap)) (fun _ _ _ _ _ _ _ _ _ _ => none) k (fan_Lists_1_l1b k D j32)
noncomputable def fan_Lists_1_l0b (k : Nat) (D : CallF) (j6 : Slc → (Option Addr) → (Option Nat) → AHeap → Option ((Unit) × AHeap)) (rec24 : Slc → (Option Addr) → (Option Nat) → Slc → Int → Int → AHeap → Option ((Unit) × AHeap)) (answers17 : Slc) (y18 : Option Addr) (all19 : Option Nat) (y20 : Slc) (y21 : Int) (y22 : Int) (h23 : AHeap) : Option ((Unit) × AHeap) :=
 (if (decide (y22 < y21)) = true then
 joinK (fun (answers25 : Slc) (y26 : Option Addr) (all27 : Option Nat) (y28 : Slc) (y29 : Int) (y30 : Int) (h31 : AHeap) =>
 rec24 answers25 y26 all27 y28 y29 (IntKind.wrap .i64 (y30 + 1)) h31) fun j32 =>
 (Gx.idxL 3 y20 y22).bind fun q33 =>
 (ldA 3 q33 h23).bind fun l34 =>
 (decC [.i .i64, .s, .l] l34).bind fun x35 =>
 newK h23 ((.cells [.int .i64 0, .string ⟨#[]⟩, .slice none 0 0] 59 true 0)) fun h36 =>
 (stL 3 (⟨h23.next, 0, none⟩ : Addr) ([.int .i64 x35.1, .string x35.2.1, .slice x35.2.2.a x35.2.2.len x35.2.2.cap]) h36).bind fun h37 =>
 (ldL (⟨h23.next, 2, none⟩ : Addr) h37).bind fun x38 =>
 fan_Lists_1_l1 k D j32 answers17 y18 all19 y20 y21 y22 x38 (x38.len : Int) 0 h37
 else
 j6 answers17 y18 all19 h23)
noncomputable def fan_Lists_1_l0 (k : Nat) (D : CallF) (j6 : Slc → (Option Addr) → (Option Nat) → AHeap → Option ((Unit) × AHeap)) : Slc → (Option Addr) → (Option Nat) → Slc → Int → Int → AHeap → Option ((Unit) × AHeap) :=
 iterK (α := Slc → (Option Addr) → (Option Nat) → Slc → Int → Int → AHeap → Option ((Unit) × AHeap)) (fun _ _ _ _ _ _ _ => none) k (fan_Lists_1_l0b k D j6)
noncomputable def fan_Lists_1 (k : Nat) (D : CallF) (answers_0 : Slc) (a_1 : Option Addr) (h : AHeap) : Option ((Unit) × AHeap) :=
 newK h ((.map [] 0)) fun h1 =>
 joinK (fun (answers2 : Slc) (y3 : Option Addr) (all4 : Option Nat) (h5 : AHeap) =>
 (maps_Keys_map_string_bool_string_bool k D all4 h5).bind fun r7 =>
 (sortedA 116 9 [r7.1] r7.2).bind fun r8 =>
 (fan_codes k D answers2 r8.2).bind fun r9 =>
 (y3).bind fun p10 =>
 (ldV p10 r9.2).bind fun x11 =>
 guardP (SameW [r8.2, r7.2, h5] (fun H13 => (y3).bind fun p14 => (ldV p14 H13).bind fun y12 => some (y12)) (x11)) (
 callD (C_fan_Lists_1 k D) x11 [.slice r8.1.a r8.1.len r8.1.cap, .slice r9.1.a r9.1.len r9.1.cap] r9.2 fun _ h16 =>
 some ((), h16))) fun j6 =>
 fan_Lists_1_l0 k D j6 answers_0 a_1 (some h.next) answers_0 (answers_0.len : Int) 0 h1
noncomputable def r_fan_Lists_1 : RCode := an (.s .n (.s (.j [(0, .l), (1, .p), (3, .m)] (.s .n (.b (.l [(0, .l), (1, .p), (3, .m), (9, .l), (10, .i .i64), (11, .i .i64)] (.s .n (.s .n (.s (.j [(0, .l), (1, .p), (3, .m), (9, .l), (10, .i .i64), (11, .i .i64)] (.b (.s (.r [(1, .st [.i .i64, .s, .l])]) (.s .n (.b (.l [(0, .l), (1, .p), (3, .m), (9, .l), (10, .i .i64), (11, .i .i64), (16, .l), (17, .i .i64), (18, .i .i64)] .n)))))) .n))))))) .n)) (rOf Tryz.prog 0 Tryz.f102)
noncomputable def e_fan_Lists_1 (k : Nat) (D : CallF) : Ent := entOf 102 [(0, .l), (1, .p)] [] (fan_Lists_1 k D)
theorem q_fan_Lists_1 : (Tryz.f102.body).bind (rcodeOf Tryz.prog 0 Tryz.f102.ntmps) = some (strip r_fan_Lists_1) := by kernel_rfl
theorem t_fan_Lists_1 (k : Nat) (D : CallF) : curF [(0, .l), (1, .p)] (fun args h => denF (C_fan_Lists_1 k D) k r_fan_Lists_1 [] [] args h) = fan_Lists_1 k D := by kernel_rfl
theorem ok_fan_Lists_1 {D : CallF} (hD : CSound Tryz.prog 0 D) (k : Nat) : EntOk Tryz.prog 0 (e_fan_Lists_1 k D) :=
 entOf_ok2 (mkC_sound hD (EntsOk.more (ok_maps_Keys_map_string_bool_string_bool hD k) (EntsOk.more (ok_slices_Sorted_string2 hD k) (EntsOk.more (ok_fan_codes hD k) (EntsOk.none))))) Tryz.func102 rfl q_fan_Lists_1 rfl (t_fan_Lists_1 k D)
end Gt
namespace Gt
open Go Gx Go.Proofs
set_option maxRecDepth 100000
noncomputable def C_law09_calls_gone (k : Nat) (D : CallF) : CallF := mkC D [e_port_IO_End k D]
noncomputable def law09_calls_gone (k : Nat) (D : CallF) (c_0 : Option Addr) (l_1 : Slc) (h : AHeap) : Option ((Unit) × AHeap) :=
 (c_0).bind fun p1 =>
 (st1 (⟨p1.block, p1.off + 8, none⟩ : Addr) (.slice l_1.a l_1.len l_1.cap) h).bind fun h2 =>
 (c_0).bind fun p3 =>
 (ldP (⟨p3.block, p3.off + 0, none⟩ : Addr) h2).bind fun x4 =>
 (port_IO_End k D x4 (0, (⟨#[]⟩ : ByteArray), 1, (⟨none, 0, 0⟩ : Slc), (⟨none, 0, 0⟩ : Slc), (⟨none, 0, 0⟩ : Slc), (⟨none, 0, 0⟩ : Slc)) h2).bind fun r5 =>
 some ((), r5.2)
noncomputable def r_law09_calls_gone : RCode := an (.n) (rOf Tryz.prog 0 Tryz.f112)
noncomputable def e_law09_calls_gone (k : Nat) (D : CallF) : Ent := entOf 112 [(0, .p), (1, .l)] [] (law09_calls_gone k D)
theorem q_law09_calls_gone : (Tryz.f112.body).bind (rcodeOf Tryz.prog 0 Tryz.f112.ntmps) = some (strip r_law09_calls_gone) := by kernel_rfl
theorem t_law09_calls_gone (k : Nat) (D : CallF) : curF [(0, .p), (1, .l)] (fun args h => denF (C_law09_calls_gone k D) k r_law09_calls_gone [] [] args h) = law09_calls_gone k D := by kernel_rfl
theorem ok_law09_calls_gone {D : CallF} (hD : CSound Tryz.prog 0 D) (k : Nat) : EntOk Tryz.prog 0 (e_law09_calls_gone k D) :=
 entOf_ok2 (mkC_sound hD (EntsOk.more (ok_port_IO_End hD k) (EntsOk.none))) Tryz.func112 rfl q_law09_calls_gone rfl (t_law09_calls_gone k D)
end Gt
namespace Gt
open Go Gx Go.Proofs
set_option maxRecDepth 100000
end Gt
namespace Gt
open Go Gx Go.Proofs
set_option maxRecDepth 100000
noncomputable def C_law09_FanCalls (k : Nat) (D : CallF) : CallF := mkC D [e_law09_works k D, e_port_Start k D, e_law09_run k D, e_ref09_Puts k D, e_law09_all k D, e_store_Store_Used k D, e_ref07_Store_Used k D, e_law09_codes k D, e_book_SameInts k D, e_ref09_Union k D, e_book_SameTexts k D, e_ref09_Codes k D, e_store_New k D, e_ref07_New k D]
noncomputable def law09_FanCalls_l2b (k : Nat) (D : CallF) (j12 : ByteArray → Slc → Int → AHeap → Option ((Bool) × AHeap)) (rec125 : ByteArray → Slc → Int → Int → AHeap → Option ((Bool) × AHeap)) (name120 : ByteArray) (data121 : Slc) (n122 : Int) (i123 : Int) (h124 : AHeap) : Option ((Bool) × AHeap) :=
 (if (decide (i123 < (data121.len : Int))) = true then
 (Gx.idxL 1 data121 i123).bind fun q126 =>
 (ldS q126 h124).bind fun x127 =>
 (if (decide ((x127.size : Int) > 200)) = true then
 (law09_works k D h124).bind fun r128 =>
 some (r128.1, r128.2)
 else
 rec125 name120 data121 n122 (IntKind.wrap .i64 (i123 + 1)) h124)
 else
 j12 name120 data121 n122 h124)
noncomputable def law09_FanCalls_l2 (k : Nat) (D : CallF) (j12 : ByteArray → Slc → Int → AHeap → Option ((Bool) × AHeap)) : ByteArray → Slc → Int → Int → AHeap → Option ((Bool) × AHeap) :=
 iterK (α := ByteArray → Slc → Int → Int → AHeap → Option ((Bool) × AHeap)) (fun _ _ _ _ _ => none) k (law09_FanCalls_l2b k D j12)
noncomputable def law09_FanCalls_l1b (k : Nat) (D : CallF) (j19 : ByteArray → Slc → Int → Slc → Slc → AHeap → Option ((Bool) × AHeap)) (rec111 : ByteArray → Slc → Int → Slc → Slc → Int → AHeap → Option ((Bool) × AHeap)) (name104 : ByteArray) (data105 : Slc) (n106 : Int) (s107 : Slc) (r108 : Slc) (i109 : Int) (h110 : AHeap) : Option ((Bool) × AHeap) :=
 (if (decide (i109 < 4)) = true then
 (store_New k D 300 h110).bind fun r112 =>
 (ref07_New k D 300 r112.2).bind fun r113 =>
 newK r113.2 ((.cells [.pointer r112.1.1] 26 true 0)) fun h114 =>
 (rdS 1 (⟨(some ⟨r113.2.next, 0, some 0⟩), 1, 1⟩ : Slc) h114).bind fun n116 =>
 (appendA 1 8 26 h114 s107 n116 1).bind fun r115 =>
 newK r115.2 ((.cells [.pointer r113.1.1] 30 true 0)) fun h117 =>
 (rdS 1 (⟨(some ⟨r115.2.next, 0, some 0⟩), 1, 1⟩ : Slc) h117).bind fun n119 =>
 (appendA 1 8 30 h117 r108 n119 1).bind fun r118 =>
 rec111 name104 data105 n106 r115.1 r118.1 (IntKind.wrap .i64 (i109 + 1)) r118.2
 else
 j19 name104 data105 n106 s107 r108 h110)
noncomputable def law09_FanCalls_l1 (k : Nat) (D : CallF) (j19 : ByteArray → Slc → Int → Slc → Slc → AHeap → Option ((Bool) × AHeap)) : ByteArray → Slc → Int → Slc → Slc → Int → AHeap → Option ((Bool) × AHeap) :=
 iterK (α := ByteArray → Slc → Int → Slc → Slc → Int → AHeap → Option ((Bool) × AHeap)) (fun _ _ _ _ _ _ _ => none) k (law09_FanCalls_l1b k D j19)
noncomputable def law09_FanCalls_l0b (_k : Nat) (_D : CallF) (j39 : Slc → Slc → AHeap → Option ((Bool) × AHeap)) (rec62 : Slc → Slc → (Option Addr) → Slc → Int → AHeap → Option ((Bool) × AHeap)) (s56 : Slc) (r57 : Slc) (c58 : Option Addr) (g59 : Slc) (i60 : Int) (h61 : AHeap) : Option ((Bool) × AHeap) :=
 (if (decide (i60 < (g59.len : Int))) = true then
 joinK (fun (s63 : Slc) (r64 : Slc) (c65 : Option Addr) (g66 : Slc) (i67 : Int) (y68 : Bool) (h69 : AHeap) =>
 (if y68 = true then
 some (false, h69)
 else
 rec62 s63 r64 c65 g66 (IntKind.wrap .i64 (i67 + 1)) h69)) fun j70 =>
 (Gx.idxL 3 g59 i60).bind fun q71 =>
 (ldI .i64 (⟨q71.block, q71.off + 0, none⟩ : Addr) h61).bind fun x72 =>
 (c58).bind fun p73 =>
 (ldL (⟨p73.block, p73.off + 5, none⟩ : Addr) h61).bind fun x74 =>
 (Gx.idxL 3 x74 i60).bind fun q75 =>
 (ldI .i64 (⟨q75.block, q75.off + 0, none⟩ : Addr) h61).bind fun x76 =>
 (if (x72 != x76) = true then
 j70 s56 r57 c58 g59 i60 true h61
 else
 (Gx.idxL 3 g59 i60).bind fun q77 =>
 (ldS (⟨q77.block, q77.off + 1, none⟩ : Addr) h61).bind fun x78 =>
 (c58).bind fun p79 =>
 (ldL (⟨p79.block, p79.off + 5, none⟩ : Addr) h61).bind fun x80 =>
 (Gx.idxL 3 x80 i60).bind fun q81 =>
 (ldS (⟨q81.block, q81.off + 1, none⟩ : Addr) h61).bind fun x82 =>
 j70 s56 r57 c58 g59 i60 (!(x78 == x82)) h61)
 else
 j39 s56 r57 h61)
noncomputable def law09_FanCalls_l0 (k : Nat) (D : CallF) (j39 : Slc → Slc → AHeap → Option ((Bool) × AHeap)) : Slc → Slc → (Option Addr) → Slc → Int → AHeap → Option ((Bool) × AHeap) :=
 iterK (α := Slc → Slc → (Option Addr) → Slc → Int → AHeap → Option ((Bool) × AHeap)) (fun _ _ _ _ _ _ => none) k (law09_FanCalls_l0b k D j39)
noncomputable def law09_FanCalls (k : Nat) (D : CallF) (name_0 : ByteArray) (data_1 : Slc) (n_2 : Int) (h : AHeap) : Option ((Bool) × AHeap) :=
 joinK (fun (name1 : ByteArray) (data2 : Slc) (n3 : Int) (y4 : Bool) (h5 : AHeap) =>
 (if y4 = true then
 (law09_works k D h5).bind fun r7 =>
 some (r7.1, r7.2)
 else
 joinK (fun (name8 : ByteArray) (data9 : Slc) (n10 : Int) (h11 : AHeap) =>
 joinK (fun (name13 : ByteArray) (data14 : Slc) (n15 : Int) (s16 : Slc) (r17 : Slc) (h18 : AHeap) =>
 newK h18 ((.cells [.pointer none, .int .i64 n15, .string name13, .slice data14.a data14.len data14.cap, .slice none 0 0, .slice none 0 0, .slice none 0 0, .slice none 0 0, .slice none 0 0] 38 true 0)) fun h20 =>
 (port_Start k D (.func (.func 10) ⟨[.pointer (some (⟨h18.next, 0, none⟩ : Addr))]⟩ ⟨[]⟩) h20).bind fun r21 =>
 (law09_run k D r21.1 s16 r21.2).bind fun r22 =>
 newK r22.2 ((.cells [.int .i64 0, .string ⟨#[]⟩, .int .i64 0, .slice none 0 0, .slice none 0 0, .slice none 0 0, .slice none 0 0] 42 true 0)) fun h23 =>
 (stL 7 (⟨r22.2.next, 0, none⟩ : Addr) ([.int .i64 r22.1.1.1, .string r22.1.1.2.1, .int .i64 r22.1.1.2.2.1, .slice r22.1.1.2.2.2.1.a r22.1.1.2.2.2.1.len r22.1.1.2.2.2.1.cap, .slice r22.1.1.2.2.2.2.1.a r22.1.1.2.2.2.2.1.len r22.1.1.2.2.2.2.1.cap, .slice r22.1.1.2.2.2.2.2.1.a r22.1.1.2.2.2.2.2.1.len r22.1.1.2.2.2.2.2.1.cap, .slice r22.1.1.2.2.2.2.2.2.a r22.1.1.2.2.2.2.2.2.len r22.1.1.2.2.2.2.2.2.cap]) h23).bind fun h24 =>
 (ref09_Puts k D r17 name13 data14 h24).bind fun r25 =>
 (law09_all k D r17 n15 (0, 2, name13, (⟨#[]⟩ : ByteArray)) r25.2).bind fun r26 =>
 (law09_all k D r17 n15 (0, 3, name13, (⟨#[]⟩ : ByteArray)) r26.2).bind fun r27 =>
 (law09_all k D r17 n15 (0, 4, name13, (⟨#[]⟩ : ByteArray)) r27.2).bind fun r28 =>
 joinK (fun (s29 : Slc) (r30 : Slc) (c31 : Option Addr) (g32 : Slc) (y33 : Bool) (h34 : AHeap) =>
 (if y33 = true then
 some (false, h34)
 else
 joinK (fun (s36 : Slc) (r37 : Slc) (h38 : AHeap) =>
 (Gx.idxL 1 s36 0).bind fun q40 =>
 (ldP q40 h38).bind fun x41 =>
 (store_Store_Used k D x41 h38).bind fun r42 =>
 (Gx.idxL 1 r37 0).bind fun q43 =>
 (ldP q43 r42.2).bind fun x44 =>
 guardP (SameW [h38] (fun H46 => (ldP q43 H46).bind fun y45 => some (.pointer y45)) (.pointer x44)) (
 (ref07_Store_Used k D x44 r42.2).bind fun r47 =>
 (if (r42.1 == r47.1) = true then
 (Gx.idxL 1 s36 3).bind fun q48 =>
 (ldP q48 r47.2).bind fun x49 =>
 (store_Store_Used k D x49 r47.2).bind fun r50 =>
 (Gx.idxL 1 r37 3).bind fun q51 =>
 (ldP q51 r50.2).bind fun x52 =>
 guardP (SameW [r47.2] (fun H54 => (ldP q51 H54).bind fun y53 => some (.pointer y53)) (.pointer x52)) (
 (ref07_Store_Used k D x52 r50.2).bind fun r55 =>
 some ((r50.1 == r55.1), r55.2))
 else
 some (false, r47.2)))) fun j39 =>
 law09_FanCalls_l0 k D j39 s29 r30 c31 g32 0 h34)) fun j35 =>
 (if (!r22.1.2) = true then
 j35 s16 r17 (some (⟨h18.next, 0, none⟩ : Addr)) r26.1 true r28.2
 else
 (ldI .i64 (⟨r22.2.next, 2, none⟩ : Addr) r28.2).bind fun x83 =>
 (if (x83 != 1) = true then
 j35 s16 r17 (some (⟨h18.next, 0, none⟩ : Addr)) r26.1 true r28.2
 else
 (ldL (⟨h18.next, 4, none⟩ : Addr) r28.2).bind fun x84 =>
 (law09_codes k D x84 r28.2).bind fun r85 =>
 (law09_codes k D r25.1 r85.2).bind fun r86 =>
 (book_SameInts k D r85.1 r86.1 r86.2).bind fun r87 =>
 (if (!r87.1) = true then
 j35 s16 r17 (some (⟨h18.next, 0, none⟩ : Addr)) r26.1 true r87.2
 else
 (ldL (⟨h18.next, 5, none⟩ : Addr) r87.2).bind fun x88 =>
 (if ((x88.len : Int) != (r26.1.len : Int)) = true then
 j35 s16 r17 (some (⟨h18.next, 0, none⟩ : Addr)) r26.1 true r87.2
 else
 (ref09_Union k D r27.1 r87.2).bind fun r89 =>
 (ldL (⟨h18.next, 6, none⟩ : Addr) r89.2).bind fun x90 =>
 guardP (SameW [r87.2] (fun H92 => (ldL (⟨h18.next, 6, none⟩ : Addr) H92).bind fun y91 => some (.slice y91.a y91.len y91.cap)) (.slice x90.a x90.len x90.cap)) (
 (book_SameTexts k D x90 r89.1 r89.2).bind fun r93 =>
 (if (!r93.1) = true then
 j35 s16 r17 (some (⟨h18.next, 0, none⟩ : Addr)) r26.1 true r93.2
 else
 (ldL (⟨h18.next, 7, none⟩ : Addr) r93.2).bind fun x94 =>
 (law09_codes k D x94 r93.2).bind fun r95 =>
 (ref09_Codes k D r27.1 r95.2).bind fun r96 =>
 (law09_codes k D r96.1 r96.2).bind fun r97 =>
 (book_SameInts k D r95.1 r97.1 r97.2).bind fun r98 =>
 (if (!r98.1) = true then
 j35 s16 r17 (some (⟨h18.next, 0, none⟩ : Addr)) r26.1 true r98.2
 else
 (ldL (⟨h18.next, 8, none⟩ : Addr) r98.2).bind fun x99 =>
 (law09_codes k D x99 r98.2).bind fun r100 =>
 (ref09_Codes k D r28.1 r100.2).bind fun r101 =>
 (law09_codes k D r101.1 r101.2).bind fun r102 =>
 (book_SameInts k D r100.1 r102.1 r102.2).bind fun r103 =>
 j35 s16 r17 (some (⟨h18.next, 0, none⟩ : Addr)) r26.1 (!r103.1) r103.2)))))))) fun j19 =>
 law09_FanCalls_l1 k D j19 name8 data9 n10 (⟨none, 0, 0⟩ : Slc) (⟨none, 0, 0⟩ : Slc) 0 h11) fun j12 =>
 law09_FanCalls_l2 k D j12 name1 data2 n3 0 h5)) fun j6 =>
 (law09_works k D h).bind fun r129 =>
 (if (!r129.1) = true then
 j6 name_0 data_1 n_2 true r129.2
 else
 (if (decide ((data_1.len : Int) > 12)) = true then
 j6 name_0 data_1 n_2 true r129.2
 else
 (if (decide (n_2 > 60)) = true then
 j6 name_0 data_1 n_2 (decide (n_2 ≤ 255)) r129.2
 else
 j6 name_0 data_1 n_2 false r129.2)))
noncomputable def r_law09_FanCalls : RCode := an (.s .n (.s (.s (.j [(0, .s), (1, .l), (2, .i .i64), (37, .b)] .n) .n) (.s (.j [(0, .s), (1, .l), (2, .i .i64)] (.s .n (.b (.l [(0, .s), (1, .l), (2, .i .i64), (7, .i .i64)] .n)))) (.s .n (.s .n (.s (.j [(0, .s), (1, .l), (2, .i .i64), (8, .l), (9, .l)] (.s .n (.b (.l [(0, .s), (1, .l), (2, .i .i64), (8, .l), (9, .l), (10, .i .i64)] .n)))) (.s .n (.s .n (.s .n (.s .n (.s .n (.s .n (.s (.s (.j [(8, .l), (9, .l), (15, .p), (19, .l), (165, .b)] .n) .n) (.s (.j [(8, .l), (9, .l)] (.s .n (.b (.l [(8, .l), (9, .l), (15, .p), (19, .l), (22, .i .i64)] (.s .n (.s (.b (.s (.j [(8, .l), (9, .l), (15, .p), (19, .l), (22, .i .i64), (201, .b)] .n) .n)) .n)))))) .n)))))))))))))) (rOf Tryz.prog 0 Tryz.f3)
noncomputable def e_law09_FanCalls (k : Nat) (D : CallF) : Ent := entOf 3 [(0, .s), (1, .l), (2, .i .i64)] [(6, .b)] (law09_FanCalls k D)
theorem q_law09_FanCalls : (Tryz.f3.body).bind (rcodeOf Tryz.prog 0 Tryz.f3.ntmps) = some (strip r_law09_FanCalls) := by kernel_rfl
theorem t_law09_FanCalls (k : Nat) (D : CallF) : curF [(0, .s), (1, .l), (2, .i .i64)] (fun args h => denF (C_law09_FanCalls k D) k r_law09_FanCalls [(6, .b)] [none] args h) = law09_FanCalls k D := by kernel_rfl
theorem ok_law09_FanCalls {D : CallF} (hD : CSound Tryz.prog 0 D) (k : Nat) : EntOk Tryz.prog 0 (e_law09_FanCalls k D) :=
 entOf_ok2 (mkC_sound hD (EntsOk.more (ok_law09_works hD k) (EntsOk.more (ok_port_Start hD k) (EntsOk.more (ok_law09_run hD k) (EntsOk.more (ok_ref09_Puts hD k) (EntsOk.more (ok_law09_all hD k) (EntsOk.more (ok_store_Store_Used hD k) (EntsOk.more (ok_ref07_Store_Used hD k) (EntsOk.more (ok_law09_codes hD k) (EntsOk.more (ok_book_SameInts hD k) (EntsOk.more (ok_ref09_Union hD k) (EntsOk.more (ok_book_SameTexts hD k) (EntsOk.more (ok_ref09_Codes hD k) (EntsOk.more (ok_store_New hD k) (EntsOk.more (ok_ref07_New hD k) (EntsOk.none)))))))))))))))) Tryz.func3 rfl q_law09_FanCalls rfl (t_law09_FanCalls k D)
end Gt
