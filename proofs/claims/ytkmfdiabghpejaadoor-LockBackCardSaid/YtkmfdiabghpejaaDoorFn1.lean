import Derived.Test.YtkmfdiabghpejaaDoorProg
import Derived.Shelf.Strconv.Itoa3
import Derived.Shelf.Strconv.Atoi
import Derived.Shelf.Strconv.AtoiErr
import Derived.KernelRfl
import Derived.Test.YtkmfdiabghpejaaDoorGx3
namespace Gl
open Go Gx Go.Proofs
set_option maxRecDepth 100000
noncomputable def C_internal_stringslite_HasPrefix (_k : Nat) (D : CallF) : CallF := mkC D []
noncomputable def internal_stringslite_HasPrefix (_k : Nat) (_D : CallF) (s_0 : ByteArray) (prefix_1 : ByteArray) (h : AHeap) : Option ((Bool) × AHeap) :=
 (if (decide ((s_0.size : Int) ≥ (prefix_1.size : Int))) = true then
 (Gx.subS s_0 none (some (prefix_1.size : Int))).bind fun s1 =>
 some ((s1 == prefix_1), h)
 else
 some (false, h))
noncomputable def r_internal_stringslite_HasPrefix : RCode := an (.n) (rOf Tryd.prog 5 Tryd.f49)
noncomputable def e_internal_stringslite_HasPrefix (k : Nat) (D : CallF) : Ent := entOf 49 [(0, .s), (1, .s)] [(4, .b)] (internal_stringslite_HasPrefix k D)
theorem q_internal_stringslite_HasPrefix : (Tryd.f49.body).bind (rcodeOf Tryd.prog 5 Tryd.f49.ntmps) = some (strip r_internal_stringslite_HasPrefix) := by kernel_rfl
theorem t_internal_stringslite_HasPrefix (k : Nat) (D : CallF) : curF [(0, .s), (1, .s)] (fun args h => denF (C_internal_stringslite_HasPrefix k D) k r_internal_stringslite_HasPrefix [(4, .b)] [none] args h) = internal_stringslite_HasPrefix k D := by kernel_rfl
theorem ok_internal_stringslite_HasPrefix {D : CallF} (hD : CSound Tryd.prog 5 D) (k : Nat) : EntOk Tryd.prog 5 (e_internal_stringslite_HasPrefix k D) :=
 entOf_ok2 (mkC_sound hD (EntsOk.none)) Tryd.func49 rfl q_internal_stringslite_HasPrefix rfl (t_internal_stringslite_HasPrefix k D)
end Gl
namespace Gl
open Go Gx Go.Proofs
set_option maxRecDepth 100000
noncomputable def C_internal_stringslite_CutPrefix (k : Nat) (D : CallF) : CallF := mkC D [e_internal_stringslite_HasPrefix k D]
noncomputable def internal_stringslite_CutPrefix (k : Nat) (D : CallF) (s_0 : ByteArray) (prefix_1 : ByteArray) (h : AHeap) : Option ((ByteArray × Bool) × AHeap) :=
 (internal_stringslite_HasPrefix k D s_0 prefix_1 h).bind fun r1 =>
 (if (!r1.1) = true then
 some ((s_0, false), r1.2)
 else
 (Gx.subS s_0 (some (prefix_1.size : Int)) none).bind fun s2 =>
 some ((s2, true), r1.2))
noncomputable def r_internal_stringslite_CutPrefix : RCode := an (.n) (rOf Tryd.prog 5 Tryd.f39)
noncomputable def e_internal_stringslite_CutPrefix (k : Nat) (D : CallF) : Ent := entOf 39 [(0, .s), (1, .s)] [(4, .s), (5, .b)] (internal_stringslite_CutPrefix k D)
theorem q_internal_stringslite_CutPrefix : (Tryd.f39.body).bind (rcodeOf Tryd.prog 5 Tryd.f39.ntmps) = some (strip r_internal_stringslite_CutPrefix) := by kernel_rfl
theorem t_internal_stringslite_CutPrefix (k : Nat) (D : CallF) : curF [(0, .s), (1, .s)] (fun args h => denF (C_internal_stringslite_CutPrefix k D) k r_internal_stringslite_CutPrefix [(4, .s), (5, .b)] [none, none] args h) = internal_stringslite_CutPrefix k D := by kernel_rfl
theorem ok_internal_stringslite_CutPrefix {D : CallF} (hD : CSound Tryd.prog 5 D) (k : Nat) : EntOk Tryd.prog 5 (e_internal_stringslite_CutPrefix k D) :=
 entOf_ok2 (mkC_sound hD (EntsOk.more (ok_internal_stringslite_HasPrefix hD k) (EntsOk.none))) Tryd.func39 rfl q_internal_stringslite_CutPrefix rfl (t_internal_stringslite_CutPrefix k D)
end Gl
namespace Gl
open Go Gx Go.Proofs
set_option maxRecDepth 100000
noncomputable def C_strings_CutPrefix (k : Nat) (D : CallF) : CallF := mkC D [e_internal_stringslite_CutPrefix k D]
noncomputable def strings_CutPrefix (k : Nat) (D : CallF) (s_0 : ByteArray) (prefix_1 : ByteArray) (h : AHeap) : Option ((ByteArray × Bool) × AHeap) :=
 (internal_stringslite_CutPrefix k D s_0 prefix_1 h).bind fun r1 =>
 some ((r1.1.1, r1.1.2), r1.2)
noncomputable def r_strings_CutPrefix : RCode := an (.n) (rOf Tryd.prog 5 Tryd.f25)
noncomputable def e_strings_CutPrefix (k : Nat) (D : CallF) : Ent := entOf 25 [(0, .s), (1, .s)] [(4, .s), (5, .b)] (strings_CutPrefix k D)
theorem q_strings_CutPrefix : (Tryd.f25.body).bind (rcodeOf Tryd.prog 5 Tryd.f25.ntmps) = some (strip r_strings_CutPrefix) := by kernel_rfl
theorem t_strings_CutPrefix (k : Nat) (D : CallF) : curF [(0, .s), (1, .s)] (fun args h => denF (C_strings_CutPrefix k D) k r_strings_CutPrefix [(4, .s), (5, .b)] [none, none] args h) = strings_CutPrefix k D := by kernel_rfl
theorem ok_strings_CutPrefix {D : CallF} (hD : CSound Tryd.prog 5 D) (k : Nat) : EntOk Tryd.prog 5 (e_strings_CutPrefix k D) :=
 entOf_ok2 (mkC_sound hD (EntsOk.more (ok_internal_stringslite_CutPrefix hD k) (EntsOk.none))) Tryd.func25 rfl q_strings_CutPrefix rfl (t_strings_CutPrefix k D)
end Gl
namespace Go.Proofs
open Go.Shelf
def Tryd.lays172_ren : Go.Shelf.Ren := ⟨fun | 172 => 27 | 244 => 41 | 245 => 42 | 247 => 53 | 279 => 54 | 280 => 55 | 281 => 56 | 282 => 57 | 287 => 73 | 316 => 74 | 171 => 8 | 205 => 75 | 321 => 84 | 322 => 85 | 243 => 18 | 246 => 30 | 283 => 44 | 284 => 45 | 285 => 46 | 286 => 47 | 129 => 59 | 317 => 58 | 318 => 60 | 319 => 61 | 320 => 62 | 337 => 76 | 338 => 77 | n => n, fun | 9 => 9 | 3 => 3 | 75 => 71 | 76 => 72 | 4 => 4 | 5 => 5 | 167 => 97 | 37 => 90 | 0 => 0 | 85 => 98 | 2 => 2 | 168 => 100 | 53 => 87 | 175 => 118 | 46 => 96 | 210 => 122 | 127 => 131 | 145 => 134 | 143 => 132 | 21 => 21 | 171 => 86 | 173 => 91 | 212 => 105 | 51 => 106 | 20 => 20 | 213 => 107 | 232 => 135 | 233 => 136 | 80 => 140 | n => n, fun | 15 => 1 | 16 => 2 | 17 => 0 | 18 => 3 | 19 => 4 | n => n⟩
theorem Tryd.lays172 : Go.Proofs.Lays.n172 Tryd.prog Tryd.lays172_ren := {
 mixed := by kernel_rfl
 f129 := Tryd.func59.trans (congrArg some (by kernel_rfl))
 f171 := Tryd.func8.trans (congrArg some (by kernel_rfl))
 f172 := Tryd.func27.trans (congrArg some (by kernel_rfl))
 f205 := Tryd.func75.trans (congrArg some (by kernel_rfl))
 f243 := Tryd.func18.trans (congrArg some (by kernel_rfl))
 f244 := Tryd.func41.trans (congrArg some (by kernel_rfl))
 f245 := Tryd.func42.trans (congrArg some (by kernel_rfl))
 f246 := Tryd.func30.trans (congrArg some (by kernel_rfl))
 f247 := Tryd.func53.trans (congrArg some (by kernel_rfl))
 f279 := Tryd.func54.trans (congrArg some (by kernel_rfl))
 f280 := Tryd.func55.trans (congrArg some (by kernel_rfl))
 f281 := Tryd.func56.trans (congrArg some (by kernel_rfl))
 f282 := Tryd.func57.trans (congrArg some (by kernel_rfl))
 f283 := Tryd.func44.trans (congrArg some (by kernel_rfl))
 f284 := Tryd.func45.trans (congrArg some (by kernel_rfl))
 f285 := Tryd.func46.trans (congrArg some (by kernel_rfl))
 f286 := Tryd.func47.trans (congrArg some (by kernel_rfl))
 f287 := Tryd.func73.trans (congrArg some (by kernel_rfl))
 f316 := Tryd.func74.trans (congrArg some (by kernel_rfl))
 f317 := Tryd.func58.trans (congrArg some (by kernel_rfl))
 f318 := Tryd.func60.trans (congrArg some (by kernel_rfl))
 f319 := Tryd.func61.trans (congrArg some (by kernel_rfl))
 f320 := Tryd.func62.trans (congrArg some (by kernel_rfl))
 f321 := Tryd.func84.trans (congrArg some (by kernel_rfl))
 f322 := Tryd.func85.trans (congrArg some (by kernel_rfl))
 f337 := Tryd.func76.trans (congrArg some (by kernel_rfl))
 f338 := Tryd.func77.trans (congrArg some (by kernel_rfl))
 t0 := Tryd.underlying0
 a0 := Tryd.isAgg0
 z0 := Tryd.sizeOf0
 v0 := Tryd.zeroValue0
 t2 := Tryd.underlying2
 a2 := Tryd.isAgg2
 z2 := Tryd.sizeOf2
 v2 := Tryd.zeroValue2
 t3 := Tryd.underlying3
 a3 := Tryd.isAgg3
 z3 := Tryd.sizeOf3
 v3 := Tryd.zeroValue3
 t4 := Tryd.underlying4
 a4 := Tryd.isAgg4
 z4 := Tryd.sizeOf4
 v4 := Tryd.zeroValue4
 t5 := Tryd.underlying5
 a5 := Tryd.isAgg5
 z5 := Tryd.sizeOf5
 v5 := Tryd.zeroValue5
 t9 := Tryd.underlying9
 a9 := Tryd.isAgg9
 z9 := Tryd.sizeOf9
 v9 := Tryd.zeroValue9
 t20 := Tryd.underlying20
 a20 := Tryd.isAgg20
 z20 := Tryd.sizeOf20
 v20 := Tryd.zeroValue20
 t21 := Tryd.underlying21
 a21 := Tryd.isAgg21
 z21 := Tryd.sizeOf21
 v21 := Tryd.zeroValue21
 t37 := Tryd.underlying90
 a37 := Tryd.isAgg90
 z37 := Tryd.sizeOf90
 v37 := Tryd.zeroValue90
 t46 := Tryd.underlying96
 a46 := Tryd.isAgg96
 z46 := Tryd.sizeOf96
 v46 := Tryd.zeroValue96
 t51 := Tryd.underlying106
 a51 := Tryd.isAgg106
 z51 := Tryd.sizeOf106
 v51 := Tryd.zeroValue106
 t53 := Tryd.underlying87
 a53 := Tryd.isAgg87
 z53 := Tryd.sizeOf87
 v53 := Tryd.zeroValue87
 t75 := Tryd.underlying71
 a75 := Tryd.isAgg71
 z75 := Tryd.sizeOf71
 v75 := Tryd.zeroValue71
 t76 := Tryd.underlying72
 a76 := Tryd.isAgg72
 z76 := Tryd.sizeOf72
 v76 := Tryd.zeroValue72
 t85 := Tryd.underlying98
 a85 := Tryd.isAgg98
 z85 := Tryd.sizeOf98
 v85 := Tryd.zeroValue98
 t127 := Tryd.underlying131
 a127 := Tryd.isAgg131
 z127 := Tryd.sizeOf131
 v127 := Tryd.zeroValue131
 t143 := Tryd.underlying132
 a143 := Tryd.isAgg132
 z143 := Tryd.sizeOf132
 v143 := Tryd.zeroValue132
 t145 := Tryd.underlying134
 a145 := Tryd.isAgg134
 z145 := Tryd.sizeOf134
 v145 := Tryd.zeroValue134
 t167 := Tryd.underlying97
 a167 := Tryd.isAgg97
 z167 := Tryd.sizeOf97
 v167 := Tryd.zeroValue97
 t168 := Tryd.underlying100
 a168 := Tryd.isAgg100
 z168 := Tryd.sizeOf100
 v168 := Tryd.zeroValue100
 t171 := Tryd.underlying86
 a171 := Tryd.isAgg86
 z171 := Tryd.sizeOf86
 v171 := Tryd.zeroValue86
 t173 := Tryd.underlying91
 a173 := Tryd.isAgg91
 z173 := Tryd.sizeOf91
 v173 := Tryd.zeroValue91
 t175 := Tryd.underlying118
 a175 := Tryd.isAgg118
 z175 := Tryd.sizeOf118
 v175 := Tryd.zeroValue118
 t210 := Tryd.underlying122
 a210 := Tryd.isAgg122
 z210 := Tryd.sizeOf122
 v210 := Tryd.zeroValue122
 t212 := Tryd.underlying105
 a212 := Tryd.isAgg105
 z212 := Tryd.sizeOf105
 v212 := Tryd.zeroValue105
 t213 := Tryd.underlying107
 a213 := Tryd.isAgg107
 z213 := Tryd.sizeOf107
 t232 := Tryd.underlying135
 a232 := Tryd.isAgg135
 z232 := Tryd.sizeOf135
 v232 := Tryd.zeroValue135
 t233 := Tryd.underlying136
 a233 := Tryd.isAgg136
 z233 := Tryd.sizeOf136
 v233 := Tryd.zeroValue136
 g15 := by kernel_rfl
 g16 := by kernel_rfl
 g17 := by kernel_rfl
 g18 := by kernel_rfl
 g19 := by kernel_rfl }
def Tryd.laysM171_ren : Go.Shelf.Ren := ⟨fun | 171 => 8 | 243 => 18 | 246 => 30 | 283 => 44 | 284 => 45 | 285 => 46 | 286 => 47 | 129 => 59 | 317 => 58 | 318 => 60 | 319 => 61 | 320 => 62 | 337 => 76 | 338 => 77 | n => n, fun | 3 => 3 | 9 => 9 | 2 => 2 | 4 => 4 | 171 => 86 | 0 => 0 | 53 => 87 | 37 => 90 | 5 => 5 | 173 => 91 | 212 => 105 | 51 => 106 | 20 => 20 | 213 => 107 | 46 => 96 | 232 => 135 | 233 => 136 | n => n, fun | 17 => 0 | 18 => 3 | 19 => 4 | n => n⟩
theorem Tryd.laysM171 : Go.Proofs.LaysM.n171 Tryd.prog Tryd.laysM171_ren := {
 mixed := by kernel_rfl
 f129 := Tryd.func59.trans (congrArg some (by kernel_rfl))
 f171 := Tryd.func8.trans (congrArg some (by kernel_rfl))
 f243 := Tryd.func18.trans (congrArg some (by kernel_rfl))
 f246 := Tryd.func30.trans (congrArg some (by kernel_rfl))
 f283 := Tryd.func44.trans (congrArg some (by kernel_rfl))
 f284 := Tryd.func45.trans (congrArg some (by kernel_rfl))
 f285 := Tryd.func46.trans (congrArg some (by kernel_rfl))
 f286 := Tryd.func47.trans (congrArg some (by kernel_rfl))
 f317 := Tryd.func58.trans (congrArg some (by kernel_rfl))
 f318 := Tryd.func60.trans (congrArg some (by kernel_rfl))
 f319 := Tryd.func61.trans (congrArg some (by kernel_rfl))
 f320 := Tryd.func62.trans (congrArg some (by kernel_rfl))
 f337 := Tryd.func76.trans (congrArg some (by kernel_rfl))
 f338 := Tryd.func77.trans (congrArg some (by kernel_rfl))
 t0 := Tryd.underlying0
 a0 := Tryd.isAgg0
 z0 := Tryd.sizeOf0
 v0 := Tryd.zeroValue0
 t2 := Tryd.underlying2
 a2 := Tryd.isAgg2
 z2 := Tryd.sizeOf2
 v2 := Tryd.zeroValue2
 t3 := Tryd.underlying3
 a3 := Tryd.isAgg3
 z3 := Tryd.sizeOf3
 v3 := Tryd.zeroValue3
 t4 := Tryd.underlying4
 a4 := Tryd.isAgg4
 z4 := Tryd.sizeOf4
 v4 := Tryd.zeroValue4
 t5 := Tryd.underlying5
 a5 := Tryd.isAgg5
 z5 := Tryd.sizeOf5
 v5 := Tryd.zeroValue5
 t9 := Tryd.underlying9
 a9 := Tryd.isAgg9
 z9 := Tryd.sizeOf9
 v9 := Tryd.zeroValue9
 t20 := Tryd.underlying20
 a20 := Tryd.isAgg20
 z20 := Tryd.sizeOf20
 v20 := Tryd.zeroValue20
 t37 := Tryd.underlying90
 a37 := Tryd.isAgg90
 z37 := Tryd.sizeOf90
 v37 := Tryd.zeroValue90
 t46 := Tryd.underlying96
 a46 := Tryd.isAgg96
 z46 := Tryd.sizeOf96
 v46 := Tryd.zeroValue96
 t51 := Tryd.underlying106
 a51 := Tryd.isAgg106
 z51 := Tryd.sizeOf106
 v51 := Tryd.zeroValue106
 t53 := Tryd.underlying87
 a53 := Tryd.isAgg87
 z53 := Tryd.sizeOf87
 v53 := Tryd.zeroValue87
 t171 := Tryd.underlying86
 a171 := Tryd.isAgg86
 z171 := Tryd.sizeOf86
 v171 := Tryd.zeroValue86
 t173 := Tryd.underlying91
 a173 := Tryd.isAgg91
 z173 := Tryd.sizeOf91
 v173 := Tryd.zeroValue91
 t212 := Tryd.underlying105
 a212 := Tryd.isAgg105
 z212 := Tryd.sizeOf105
 v212 := Tryd.zeroValue105
 t213 := Tryd.underlying107
 a213 := Tryd.isAgg107
 z213 := Tryd.sizeOf107
 t232 := Tryd.underlying135
 a232 := Tryd.isAgg135
 z232 := Tryd.sizeOf135
 v232 := Tryd.zeroValue135
 t233 := Tryd.underlying136
 a233 := Tryd.isAgg136
 z233 := Tryd.sizeOf136
 v233 := Tryd.zeroValue136
 g17 := by kernel_rfl
 g18 := by kernel_rfl
 g19 := by kernel_rfl
 i0 := by kernel_rfl
 i2 := by kernel_rfl
 i3 := by kernel_rfl
 i4 := by kernel_rfl
 i5 := by kernel_rfl
 i9 := by kernel_rfl
 i20 := by kernel_rfl
 i37 := by kernel_rfl
 i46 := by kernel_rfl
 i51 := by kernel_rfl
 i53 := by kernel_rfl
 i171 := by kernel_rfl
 i173 := by kernel_rfl
 i212 := by kernel_rfl
 i232 := by kernel_rfl
 i233 := by kernel_rfl
 m17 := by kernel_rfl
 m18 := by kernel_rfl
 m19 := by kernel_rfl }
def Tryd.laysC172_ren : Go.Shelf.Ren := ⟨fun | 172 => 27 | 244 => 41 | 245 => 42 | 247 => 53 | 279 => 54 | 280 => 55 | 281 => 56 | 282 => 57 | 287 => 73 | 316 => 74 | 171 => 8 | 205 => 75 | 321 => 84 | 322 => 85 | 243 => 18 | 246 => 30 | 283 => 44 | 284 => 45 | 285 => 46 | 286 => 47 | 129 => 59 | 317 => 58 | 318 => 60 | 319 => 61 | 320 => 62 | 337 => 76 | 338 => 77 | n => n, fun | 9 => 9 | 3 => 3 | 75 => 71 | 76 => 72 | 4 => 4 | 5 => 5 | 167 => 97 | 37 => 90 | 0 => 0 | 85 => 98 | 2 => 2 | 168 => 100 | 53 => 87 | 175 => 118 | 46 => 96 | 210 => 122 | 127 => 131 | 145 => 134 | 143 => 132 | 21 => 21 | 171 => 86 | 173 => 91 | 212 => 105 | 51 => 106 | 20 => 20 | 213 => 107 | 232 => 135 | 233 => 136 | 80 => 140 | n => n, fun | 15 => 1 | 16 => 2 | 17 => 0 | 18 => 3 | 19 => 4 | n => n⟩
theorem Tryd.laysC172 : Go.Proofs.LaysC.n172 Tryd.prog Tryd.laysC172_ren := {
 mixed := by kernel_rfl
 f129 := Tryd.func59.trans (congrArg some (by kernel_rfl))
 f171 := Tryd.func8.trans (congrArg some (by kernel_rfl))
 f172 := Tryd.func27.trans (congrArg some (by kernel_rfl))
 f205 := Tryd.func75.trans (congrArg some (by kernel_rfl))
 f243 := Tryd.func18.trans (congrArg some (by kernel_rfl))
 f244 := Tryd.func41.trans (congrArg some (by kernel_rfl))
 f245 := Tryd.func42.trans (congrArg some (by kernel_rfl))
 f246 := Tryd.func30.trans (congrArg some (by kernel_rfl))
 f247 := Tryd.func53.trans (congrArg some (by kernel_rfl))
 f279 := Tryd.func54.trans (congrArg some (by kernel_rfl))
 f280 := Tryd.func55.trans (congrArg some (by kernel_rfl))
 f281 := Tryd.func56.trans (congrArg some (by kernel_rfl))
 f282 := Tryd.func57.trans (congrArg some (by kernel_rfl))
 f283 := Tryd.func44.trans (congrArg some (by kernel_rfl))
 f284 := Tryd.func45.trans (congrArg some (by kernel_rfl))
 f285 := Tryd.func46.trans (congrArg some (by kernel_rfl))
 f286 := Tryd.func47.trans (congrArg some (by kernel_rfl))
 f287 := Tryd.func73.trans (congrArg some (by kernel_rfl))
 f316 := Tryd.func74.trans (congrArg some (by kernel_rfl))
 f317 := Tryd.func58.trans (congrArg some (by kernel_rfl))
 f318 := Tryd.func60.trans (congrArg some (by kernel_rfl))
 f319 := Tryd.func61.trans (congrArg some (by kernel_rfl))
 f320 := Tryd.func62.trans (congrArg some (by kernel_rfl))
 f321 := Tryd.func84.trans (congrArg some (by kernel_rfl))
 f322 := Tryd.func85.trans (congrArg some (by kernel_rfl))
 f337 := Tryd.func76.trans (congrArg some (by kernel_rfl))
 f338 := Tryd.func77.trans (congrArg some (by kernel_rfl))
 t0 := Tryd.underlying0
 a0 := Tryd.isAgg0
 z0 := Tryd.sizeOf0
 v0 := Tryd.zeroValue0
 t2 := Tryd.underlying2
 a2 := Tryd.isAgg2
 z2 := Tryd.sizeOf2
 v2 := Tryd.zeroValue2
 t3 := Tryd.underlying3
 a3 := Tryd.isAgg3
 z3 := Tryd.sizeOf3
 v3 := Tryd.zeroValue3
 t4 := Tryd.underlying4
 a4 := Tryd.isAgg4
 z4 := Tryd.sizeOf4
 v4 := Tryd.zeroValue4
 t5 := Tryd.underlying5
 a5 := Tryd.isAgg5
 z5 := Tryd.sizeOf5
 v5 := Tryd.zeroValue5
 t9 := Tryd.underlying9
 a9 := Tryd.isAgg9
 z9 := Tryd.sizeOf9
 v9 := Tryd.zeroValue9
 t20 := Tryd.underlying20
 a20 := Tryd.isAgg20
 z20 := Tryd.sizeOf20
 v20 := Tryd.zeroValue20
 t21 := Tryd.underlying21
 a21 := Tryd.isAgg21
 z21 := Tryd.sizeOf21
 v21 := Tryd.zeroValue21
 t37 := Tryd.underlying90
 a37 := Tryd.isAgg90
 z37 := Tryd.sizeOf90
 v37 := Tryd.zeroValue90
 t46 := Tryd.underlying96
 a46 := Tryd.isAgg96
 z46 := Tryd.sizeOf96
 v46 := Tryd.zeroValue96
 t51 := Tryd.underlying106
 a51 := Tryd.isAgg106
 z51 := Tryd.sizeOf106
 v51 := Tryd.zeroValue106
 t53 := Tryd.underlying87
 a53 := Tryd.isAgg87
 z53 := Tryd.sizeOf87
 v53 := Tryd.zeroValue87
 t75 := Tryd.underlying71
 a75 := Tryd.isAgg71
 z75 := Tryd.sizeOf71
 v75 := Tryd.zeroValue71
 t76 := Tryd.underlying72
 a76 := Tryd.isAgg72
 z76 := Tryd.sizeOf72
 v76 := Tryd.zeroValue72
 t85 := Tryd.underlying98
 a85 := Tryd.isAgg98
 z85 := Tryd.sizeOf98
 v85 := Tryd.zeroValue98
 t127 := Tryd.underlying131
 a127 := Tryd.isAgg131
 z127 := Tryd.sizeOf131
 v127 := Tryd.zeroValue131
 t143 := Tryd.underlying132
 a143 := Tryd.isAgg132
 z143 := Tryd.sizeOf132
 v143 := Tryd.zeroValue132
 t145 := Tryd.underlying134
 a145 := Tryd.isAgg134
 z145 := Tryd.sizeOf134
 v145 := Tryd.zeroValue134
 t167 := Tryd.underlying97
 a167 := Tryd.isAgg97
 z167 := Tryd.sizeOf97
 v167 := Tryd.zeroValue97
 t168 := Tryd.underlying100
 a168 := Tryd.isAgg100
 z168 := Tryd.sizeOf100
 v168 := Tryd.zeroValue100
 t171 := Tryd.underlying86
 a171 := Tryd.isAgg86
 z171 := Tryd.sizeOf86
 v171 := Tryd.zeroValue86
 t173 := Tryd.underlying91
 a173 := Tryd.isAgg91
 z173 := Tryd.sizeOf91
 v173 := Tryd.zeroValue91
 t175 := Tryd.underlying118
 a175 := Tryd.isAgg118
 z175 := Tryd.sizeOf118
 v175 := Tryd.zeroValue118
 t210 := Tryd.underlying122
 a210 := Tryd.isAgg122
 z210 := Tryd.sizeOf122
 v210 := Tryd.zeroValue122
 t212 := Tryd.underlying105
 a212 := Tryd.isAgg105
 z212 := Tryd.sizeOf105
 v212 := Tryd.zeroValue105
 t213 := Tryd.underlying107
 a213 := Tryd.isAgg107
 z213 := Tryd.sizeOf107
 t232 := Tryd.underlying135
 a232 := Tryd.isAgg135
 z232 := Tryd.sizeOf135
 v232 := Tryd.zeroValue135
 t233 := Tryd.underlying136
 a233 := Tryd.isAgg136
 z233 := Tryd.sizeOf136
 v233 := Tryd.zeroValue136
 g15 := by kernel_rfl
 g16 := by kernel_rfl
 g17 := by kernel_rfl
 g18 := by kernel_rfl
 g19 := by kernel_rfl
 t80 := Tryd.underlying140
 a80 := Tryd.isAgg140
 z80 := Tryd.sizeOf140
 v80 := Tryd.zeroValue140
 i0 := by kernel_rfl
 i2 := by kernel_rfl
 i3 := by kernel_rfl
 i4 := by kernel_rfl
 i5 := by kernel_rfl
 i9 := by kernel_rfl
 i20 := by kernel_rfl
 i21 := by kernel_rfl
 i37 := by kernel_rfl
 i46 := by kernel_rfl
 i51 := by kernel_rfl
 i53 := by kernel_rfl
 i75 := by kernel_rfl
 i76 := by kernel_rfl
 i80 := by kernel_rfl
 i85 := by kernel_rfl
 i127 := by kernel_rfl
 i143 := by kernel_rfl
 i145 := by kernel_rfl
 i167 := by kernel_rfl
 i168 := by kernel_rfl
 i171 := by kernel_rfl
 i173 := by kernel_rfl
 i175 := by kernel_rfl
 i210 := by kernel_rfl
 i212 := by kernel_rfl
 i232 := by kernel_rfl
 i233 := by kernel_rfl
 m15 := by kernel_rfl
 m16 := by kernel_rfl
 m17 := by kernel_rfl
 m18 := by kernel_rfl
 m19 := by kernel_rfl
 c0 := by kernel_rfl
 c2 := by kernel_rfl
 c3 := by kernel_rfl
 c4 := by kernel_rfl
 c5 := by kernel_rfl
 c9 := by kernel_rfl
 c20 := by kernel_rfl
 c21 := by kernel_rfl
 c37 := by kernel_rfl
 c46 := by kernel_rfl
 c51 := by kernel_rfl
 c53 := by kernel_rfl
 c75 := by kernel_rfl
 c76 := by kernel_rfl
 c80 := by kernel_rfl
 c85 := by kernel_rfl
 c127 := by kernel_rfl
 c143 := by kernel_rfl
 c145 := by kernel_rfl
 c167 := by kernel_rfl
 c168 := by kernel_rfl
 c171 := by kernel_rfl
 c173 := by kernel_rfl
 c175 := by kernel_rfl
 c210 := by kernel_rfl
 c212 := by kernel_rfl
 c213 := by kernel_rfl
 c232 := by kernel_rfl
 c233 := by kernel_rfl }
theorem Tryd.itoaN : Tryd.prog.globalNamed "internal/strconv.uint64pow10" = some 0 := by kernel_rfl
theorem Tryd.itoaGC (n : Int) (w : World) (h0 : -9223372036854775808 ≤ n) (h1 : n ≤ 9223372036854775807) (ht : Lib.TabIs Tryd.prog w "internal/strconv.uint64pow10" .u64 Lib.pow10Tab) : Calls Tryd.prog 8 #[.int .i64 n] w fun e w' => e = .returned (.string ⟨(Lib.itoa n).toArray⟩) ∧ ∃ k os, w' = Sort.grow (w.drewN k) os := Any.strconv_Itoa Tryd.laysM171 n h0 h1 w ht
theorem Tryd.atoiC1 (s : ByteArray) (n : Int) (w : World) (hl : s.size ≤ 18) (h : Lib.atoi s.data.toList = some n) : Calls Tryd.prog 27 #[.string s] w fun e w' => e = .returned (.tuple #[.int .i64 n, .nilIface]) ∧ RowKit.Below w.heap.size w w' := by
 refine (Any.strconv_Atoi Tryd.lays172 s n hl h w).mono ?_
 rintro e w' ⟨rfl, t, rfl⟩
 exact ⟨rfl, Lib.bytesWorld_below _ _ _⟩
theorem Tryd.atoiC2 (s : ByteArray) (ev : Value) (w : World) (hl : s.size ≤ 18) (h : Lib.atoi s.data.toList = none) (hv : w.cell? ⟨1, 0, none⟩ = some ev) (hev : ev = .nilIface ∨ ∃ te pe, ev = .iface te pe) : Calls Tryd.prog 27 #[.string s] w fun e w' => ∃ N, e = .returned (.tuple #[.int .i64 0, .iface 100 (.pointer (some ⟨N, 0, none⟩))]) ∧ w.heap.size ≤ N ∧ RowKit.Below w.heap.size w w' := by
 refine (Any.strconv_Atoi_err Tryd.laysC172 s hl h ev w hv hev).mono ?_
 rintro e w' ⟨N, rfl, h1, _, h3⟩
 exact ⟨N, rfl, h1, h3⟩
end Go.Proofs
namespace Gl
open Go Gx Go.Proofs
noncomputable def e_strconv_Atoi (_k : Nat) (_D : CallF) : Ent := eAtoi 27 100 1
theorem ok_strconv_Atoi {D : CallF} (_hD : CSound Tryd.prog 5 D) (k : Nat) : EntOk Tryd.prog 5 (e_strconv_Atoi k D) :=
 atoi_ok (c := _) Tryd.func27 rfl rfl (by decide) Tryd.atoiC1 Tryd.atoiC2
end Gl
namespace Gl
open Go Gx Go.Proofs
set_option maxRecDepth 100000
noncomputable def C_lock_Check (_k : Nat) (D : CallF) : CallF := mkC D []
noncomputable def lock_Check (_k : Nat) (_D : CallF) (l_0 : Int × Bool) (h : AHeap) : Option ((Int) × AHeap) :=
 newK h ((.cells [.int .i64 l_0.1, .bool l_0.2] 46 true 0)) fun h1 =>
 joinK (fun (y2 : Bool) (h3 : AHeap) =>
 (if y2 = true then
 some (1, h3)
 else
 some (0, h3))) fun j4 =>
 (ldI .i64 (⟨h.next, 0, none⟩ : Addr) h1).bind fun x5 =>
 (if (decide (x5 < 1)) = true then
 j4 true h1
 else
 (ldI .i64 (⟨h.next, 0, none⟩ : Addr) h1).bind fun x6 =>
 j4 (decide (x6 > 1099511627776)) h1)
noncomputable def r_lock_Check : RCode := an (.s .n (.s (.s (.j [(10, .b)] .n) .n) .n)) (rOf Tryd.prog 5 Tryd.f14)
noncomputable def e_lock_Check (k : Nat) (D : CallF) : Ent := entOf 14 [(0, .st [.i .i64, .b])] [(2, .i .i64)] (lock_Check k D)
theorem q_lock_Check : (Tryd.f14.body).bind (rcodeOf Tryd.prog 5 Tryd.f14.ntmps) = some (strip r_lock_Check) := by kernel_rfl
theorem t_lock_Check (k : Nat) (D : CallF) : curF [(0, .st [.i .i64, .b])] (fun args h => denF (C_lock_Check k D) k r_lock_Check [(2, .i .i64)] [none] args h) = lock_Check k D := by kernel_rfl
theorem ok_lock_Check {D : CallF} (hD : CSound Tryd.prog 5 D) (k : Nat) : EntOk Tryd.prog 5 (e_lock_Check k D) :=
 entOf_ok2 (mkC_sound hD (EntsOk.none)) Tryd.func14 rfl q_lock_Check rfl (t_lock_Check k D)
end Gl
namespace Gl
open Go Gx Go.Proofs
noncomputable def e_strconv_Itoa (_k : Nat) (_D : CallF) : Ent := eItoaG 8 0
theorem ok_strconv_Itoa {D : CallF} (_hD : CSound Tryd.prog 5 D) (k : Nat) : EntOk Tryd.prog 5 (e_strconv_Itoa k D) :=
 itoaG_ok (c := _) Tryd.func8 rfl rfl Tryd.itoaN (by decide) Tryd.itoaGC
end Gl
namespace Gl
open Go Gx Go.Proofs
set_option maxRecDepth 100000
noncomputable def C_lock_Name (k : Nat) (D : CallF) : CallF := mkC D [e_lock_Check k D, e_strconv_Itoa k D]
noncomputable def lock_Name (k : Nat) (D : CallF) (l_0 : Int × Bool) (h : AHeap) : Option ((ByteArray) × AHeap) :=
 newK h ((.cells [.int .i64 l_0.1, .bool l_0.2] 46 true 0)) fun h1 =>
 (ldA 2 (⟨h.next, 0, none⟩ : Addr) h1).bind fun l2 =>
 (decC [.i .i64, .b] l2).bind fun x3 =>
 (lock_Check k D (x3.1, x3.2) h1).bind fun r4 =>
 (if (r4.1 != 0) = true then
 some ((⟨#[]⟩ : ByteArray), r4.2)
 else
 (ldB (⟨h.next, 1, none⟩ : Addr) r4.2).bind fun x5 =>
 (if x5 = true then
 (ldI .i64 (⟨h.next, 0, none⟩ : Addr) r4.2).bind fun x6 =>
 (itoaG 0 x6 r4.2).bind fun s7 =>
 (if (⟨#[108, 111, 99, 107, 47, 120, 45]⟩ : ByteArray).size + s7.size ≤ 9223372036854775807 then
 some (((⟨#[108, 111, 99, 107, 47, 120, 45]⟩ : ByteArray) ++ s7), r4.2)
 else none)
 else
 (ldI .i64 (⟨h.next, 0, none⟩ : Addr) r4.2).bind fun x8 =>
 (itoaG 0 x8 r4.2).bind fun s9 =>
 (if (⟨#[108, 111, 99, 107, 47, 115, 45]⟩ : ByteArray).size + s9.size ≤ 9223372036854775807 then
 some (((⟨#[108, 111, 99, 107, 47, 115, 45]⟩ : ByteArray) ++ s9), r4.2)
 else none)))
noncomputable def r_lock_Name : RCode := an (.s .n (.s (.b (.s (.r [(0, .st [.i .i64, .b])]) .n)) .n)) (rOf Tryd.prog 5 Tryd.f16)
noncomputable def e_lock_Name (k : Nat) (D : CallF) : Ent := entOf 16 [(0, .st [.i .i64, .b])] [(2, .s)] (lock_Name k D)
theorem q_lock_Name : (Tryd.f16.body).bind (rcodeOf Tryd.prog 5 Tryd.f16.ntmps) = some (strip r_lock_Name) := by kernel_rfl
theorem t_lock_Name (k : Nat) (D : CallF) : curF [(0, .st [.i .i64, .b])] (fun args h => denF (C_lock_Name k D) k r_lock_Name [(2, .s)] [none] args h) = lock_Name k D := by kernel_rfl
theorem ok_lock_Name {D : CallF} (hD : CSound Tryd.prog 5 D) (k : Nat) : EntOk Tryd.prog 5 (e_lock_Name k D) :=
 entOf_ok2 (mkC_sound hD (EntsOk.more (ok_lock_Check hD k) (EntsOk.more (ok_strconv_Itoa hD k) (EntsOk.none)))) Tryd.func16 rfl q_lock_Name rfl (t_lock_Name k D)
end Gl
namespace Gl
open Go Gx Go.Proofs
set_option maxRecDepth 100000
noncomputable def C_internal_stringslite_TrimPrefix (k : Nat) (D : CallF) : CallF := mkC D [e_internal_stringslite_HasPrefix k D]
noncomputable def internal_stringslite_TrimPrefix (k : Nat) (D : CallF) (s_0 : ByteArray) (prefix_1 : ByteArray) (h : AHeap) : Option ((ByteArray) × AHeap) :=
 (internal_stringslite_HasPrefix k D s_0 prefix_1 h).bind fun r1 =>
 (if r1.1 = true then
 (Gx.subS s_0 (some (prefix_1.size : Int)) none).bind fun s2 =>
 some (s2, r1.2)
 else
 some (s_0, r1.2))
noncomputable def r_internal_stringslite_TrimPrefix : RCode := an (.n) (rOf Tryd.prog 5 Tryd.f40)
noncomputable def e_internal_stringslite_TrimPrefix (k : Nat) (D : CallF) : Ent := entOf 40 [(0, .s), (1, .s)] [(4, .s)] (internal_stringslite_TrimPrefix k D)
theorem q_internal_stringslite_TrimPrefix : (Tryd.f40.body).bind (rcodeOf Tryd.prog 5 Tryd.f40.ntmps) = some (strip r_internal_stringslite_TrimPrefix) := by kernel_rfl
theorem t_internal_stringslite_TrimPrefix (k : Nat) (D : CallF) : curF [(0, .s), (1, .s)] (fun args h => denF (C_internal_stringslite_TrimPrefix k D) k r_internal_stringslite_TrimPrefix [(4, .s)] [none] args h) = internal_stringslite_TrimPrefix k D := by kernel_rfl
theorem ok_internal_stringslite_TrimPrefix {D : CallF} (hD : CSound Tryd.prog 5 D) (k : Nat) : EntOk Tryd.prog 5 (e_internal_stringslite_TrimPrefix k D) :=
 entOf_ok2 (mkC_sound hD (EntsOk.more (ok_internal_stringslite_HasPrefix hD k) (EntsOk.none))) Tryd.func40 rfl q_internal_stringslite_TrimPrefix rfl (t_internal_stringslite_TrimPrefix k D)
end Gl
namespace Gl
open Go Gx Go.Proofs
set_option maxRecDepth 100000
noncomputable def C_strings_TrimPrefix (k : Nat) (D : CallF) : CallF := mkC D [e_internal_stringslite_TrimPrefix k D]
noncomputable def strings_TrimPrefix (k : Nat) (D : CallF) (s_0 : ByteArray) (prefix_1 : ByteArray) (h : AHeap) : Option ((ByteArray) × AHeap) :=
 (internal_stringslite_TrimPrefix k D s_0 prefix_1 h).bind fun r1 =>
 some (r1.1, r1.2)
noncomputable def r_strings_TrimPrefix : RCode := an (.n) (rOf Tryd.prog 5 Tryd.f26)
noncomputable def e_strings_TrimPrefix (k : Nat) (D : CallF) : Ent := entOf 26 [(0, .s), (1, .s)] [(4, .s)] (strings_TrimPrefix k D)
theorem q_strings_TrimPrefix : (Tryd.f26.body).bind (rcodeOf Tryd.prog 5 Tryd.f26.ntmps) = some (strip r_strings_TrimPrefix) := by kernel_rfl
theorem t_strings_TrimPrefix (k : Nat) (D : CallF) : curF [(0, .s), (1, .s)] (fun args h => denF (C_strings_TrimPrefix k D) k r_strings_TrimPrefix [(4, .s)] [none] args h) = strings_TrimPrefix k D := by kernel_rfl
theorem ok_strings_TrimPrefix {D : CallF} (hD : CSound Tryd.prog 5 D) (k : Nat) : EntOk Tryd.prog 5 (e_strings_TrimPrefix k D) :=
 entOf_ok2 (mkC_sound hD (EntsOk.more (ok_internal_stringslite_TrimPrefix hD k) (EntsOk.none))) Tryd.func26 rfl q_strings_TrimPrefix rfl (t_strings_TrimPrefix k D)
end Gl
namespace Gl
open Go Gx Go.Proofs
set_option maxRecDepth 100000
noncomputable def C_lock_Parse (k : Nat) (D : CallF) : CallF := mkC D [e_strings_CutPrefix k D, e_strconv_Atoi k D, e_lock_Check k D, e_lock_Name k D, e_strings_TrimPrefix k D]
noncomputable def lock_Parse (k : Nat) (D : CallF) (name_0 : ByteArray) (h : AHeap) : Option (((Int × Bool) × Int) × AHeap) :=
 newK h ((.cells [.int .i64 0, .bool false] 46 true 0)) fun h1 =>
 (strings_CutPrefix k D name_0 (⟨#[108, 111, 99, 107, 47, 120, 45]⟩ : ByteArray) h1).bind fun r2 =>
 joinK (fun (name3 : ByteArray) (y4 : Option Addr) (number5 : ByteArray) (alone6 : Bool) (h7 : AHeap) =>
 (atoiA 100 1 number5 h7).bind fun r9 =>
 newK r9.2 ((.cells [.int .i64 0, .bool false] 46 true 0)) fun h10 =>
 (stL 2 (⟨r9.2.next, 0, none⟩ : Addr) ([.int .i64 r9.1.1, .bool alone6]) h10).bind fun h11 =>
 joinK (fun (y12 : Option Addr) (l13 : Option Addr) (y14 : Bool) (h15 : AHeap) =>
 (if y14 = true then
 (y12).bind fun p17 =>
 (stL 2 p17 ([.int .i64 0, .bool false]) h15).bind fun h18 =>
 (y12).bind fun p19 =>
 (ldA 2 p19 h18).bind fun l20 =>
 (decC [.i .i64, .b] l20).bind fun x21 =>
 some (((x21.1, x21.2), 5), h18)
 else
 (l13).bind fun p22 =>
 (ldA 2 p22 h15).bind fun l23 =>
 (decC [.i .i64, .b] l23).bind fun x24 =>
 (y12).bind fun p25 =>
 (stL 2 p25 ([.int .i64 x24.1, .bool x24.2]) h15).bind fun h26 =>
 (y12).bind fun p27 =>
 (ldA 2 p27 h26).bind fun l28 =>
 (decC [.i .i64, .b] l28).bind fun x29 =>
 some (((x29.1, x29.2), 0), h26))) fun j16 =>
 (Gx.isNil .i r9.1.2).bind fun r30 =>
 (if (!r30) = true then
 j16 y4 (some (⟨r9.2.next, 0, none⟩ : Addr)) true h11
 else
 (ldA 2 (⟨r9.2.next, 0, none⟩ : Addr) h11).bind fun l31 =>
 (decC [.i .i64, .b] l31).bind fun x32 =>
 (lock_Check k D (x32.1, x32.2) h11).bind fun r33 =>
 (if (r33.1 != 0) = true then
 j16 y4 (some (⟨r9.2.next, 0, none⟩ : Addr)) true r33.2
 else
 (ldA 2 (⟨r9.2.next, 0, none⟩ : Addr) r33.2).bind fun l34 =>
 (decC [.i .i64, .b] l34).bind fun x35 =>
 (lock_Name k D (x35.1, x35.2) r33.2).bind fun r36 =>
 j16 y4 (some (⟨r9.2.next, 0, none⟩ : Addr)) (!(r36.1 == name3)) r36.2))) fun j8 =>
 (if (!r2.1.2) = true then
 (strings_TrimPrefix k D name_0 (⟨#[108, 111, 99, 107, 47, 115, 45]⟩ : ByteArray) r2.2).bind fun r37 =>
 j8 name_0 (some (⟨h.next, 0, none⟩ : Addr)) r37.1 r2.1.2 r37.2
 else
 j8 name_0 (some (⟨h.next, 0, none⟩ : Addr)) r2.1.1 r2.1.2 r2.2)
noncomputable def r_lock_Parse : RCode := an (.s .n (.s .n (.s (.j [(0, .s), (2, .p), (4, .s), (5, .b)] .n) (.s .n (.s .n (.s (.s (.j [(2, .p), (8, .p), (38, .b)] (.r [(3, .st [.i .i64, .b]), (8, .st [.i .i64, .b])])) .n) (.s (.r [(0, .st [.i .i64, .b])]) .n))))))) (rOf Tryd.prog 5 Tryd.f15)
noncomputable def e_lock_Parse (k : Nat) (D : CallF) : Ent := entOf 15 [(0, .s)] [(2, .st [.i .i64, .b]), (3, .i .i64)] (lock_Parse k D)
theorem q_lock_Parse : (Tryd.f15.body).bind (rcodeOf Tryd.prog 5 Tryd.f15.ntmps) = some (strip r_lock_Parse) := by kernel_rfl
theorem t_lock_Parse (k : Nat) (D : CallF) : curF [(0, .s)] (fun args h => denF (C_lock_Parse k D) k r_lock_Parse [(2, .st [.i .i64, .b]), (3, .i .i64)] [some (.agg 2), none] args h) = lock_Parse k D := by kernel_rfl
theorem ok_lock_Parse {D : CallF} (hD : CSound Tryd.prog 5 D) (k : Nat) : EntOk Tryd.prog 5 (e_lock_Parse k D) :=
 entOf_ok2 (mkC_sound hD (EntsOk.more (ok_strings_CutPrefix hD k) (EntsOk.more (ok_strconv_Atoi hD k) (EntsOk.more (ok_lock_Check hD k) (EntsOk.more (ok_lock_Name hD k) (EntsOk.more (ok_strings_TrimPrefix hD k) (EntsOk.none))))))) Tryd.func15 rfl q_lock_Parse rfl (t_lock_Parse k D)
end Gl
namespace Gl
open Go Gx Go.Proofs
set_option maxRecDepth 100000
noncomputable def C_law23_works (k : Nat) (D : CallF) : CallF := mkC D [e_lock_Parse k D, e_lock_Name k D]
noncomputable def law23_works (k : Nat) (D : CallF)  (h : AHeap) : Option ((Bool) × AHeap) :=
 (lock_Parse k D (⟨#[108, 111, 99, 107, 47, 115, 45, 55]⟩ : ByteArray) h).bind fun r1 =>
 newK r1.2 ((.cells [.int .i64 0, .bool false] 46 true 0)) fun h2 =>
 (stL 2 (⟨r1.2.next, 0, none⟩ : Addr) ([.int .i64 r1.1.1.1, .bool r1.1.1.2]) h2).bind fun h3 =>
 (if (r1.1.2 == 0) = true then
 (ldA 2 (⟨r1.2.next, 0, none⟩ : Addr) h3).bind fun l4 =>
 (decC [.i .i64, .b] l4).bind fun x5 =>
 (if ((x5.1 == 7) && (x5.2 == false)) = true then
 (ldA 2 (⟨r1.2.next, 0, none⟩ : Addr) h3).bind fun l6 =>
 (decC [.i .i64, .b] l6).bind fun x7 =>
 (lock_Name k D (x7.1, x7.2) h3).bind fun r8 =>
 some ((r8.1 == (⟨#[108, 111, 99, 107, 47, 115, 45, 55]⟩ : ByteArray)), r8.2)
 else
 some (false, h3))
 else
 some (false, h3))
noncomputable def r_law23_works : RCode := an (.s .n (.s .n (.s (.r [(3, .st [.i .i64, .b]), (8, .st [.i .i64, .b])]) .n))) (rOf Tryd.prog 5 Tryd.f13)
noncomputable def e_law23_works (k : Nat) (D : CallF) : Ent := entOf 13 [] [(0, .b)] (law23_works k D)
theorem q_law23_works : (Tryd.f13.body).bind (rcodeOf Tryd.prog 5 Tryd.f13.ntmps) = some (strip r_law23_works) := by kernel_rfl
theorem t_law23_works (k : Nat) (D : CallF) : curF [] (fun args h => denF (C_law23_works k D) k r_law23_works [(0, .b)] [none] args h) = law23_works k D := by kernel_rfl
theorem ok_law23_works {D : CallF} (hD : CSound Tryd.prog 5 D) (k : Nat) : EntOk Tryd.prog 5 (e_law23_works k D) :=
 entOf_ok2 (mkC_sound hD (EntsOk.more (ok_lock_Parse hD k) (EntsOk.more (ok_lock_Name hD k) (EntsOk.none)))) Tryd.func13 rfl q_law23_works rfl (t_law23_works k D)
end Gl
namespace Gl
open Go Gx Go.Proofs
set_option maxRecDepth 100000
noncomputable def C_slices_IndexFunc_string_string (_k : Nat) (D : CallF) : CallF := mkC D []
noncomputable def slices_IndexFunc_string_string_l0b (k : Nat) (D : CallF) (j2 : AHeap → Option ((Int) × AHeap)) (rec8 : Slc → Value → Int → Int → AHeap → Option ((Int) × AHeap)) (s3 : Slc) (f4 : Value) (y5 : Int) (y6 : Int) (h7 : AHeap) : Option ((Int) × AHeap) :=
 (if (decide (y6 < y5)) = true then
 (Gx.idxL 1 s3 y6).bind fun q9 =>
 (ldS q9 h7).bind fun x10 =>
 callD (C_slices_IndexFunc_string_string k D) f4 [.string x10] h7 fun v11 h12 =>
 (decB v11).bind fun x13 =>
 (if x13 = true then
 some (y6, h12)
 else
 rec8 s3 f4 y5 (IntKind.wrap .i64 (y6 + 1)) h12)
 else
 j2 h7)
noncomputable def slices_IndexFunc_string_string_l0 (k : Nat) (D : CallF) (j2 : AHeap → Option ((Int) × AHeap)) : Slc → Value → Int → Int → AHeap → Option ((Int) × AHeap) :=
 iterK (α := Slc → Value → Int → Int → AHeap → Option ((Int) × AHeap)) (fun _ _ _ _ _ => none) k (slices_IndexFunc_string_string_l0b k D j2)
noncomputable def slices_IndexFunc_string_string (k : Nat) (D : CallF) (s_0 : Slc) (f_1 : Value) (h : AHeap) : Option ((Int) × AHeap) :=
 joinK (fun (h1 : AHeap) =>
 some ((-1), h1)) fun j2 =>
 slices_IndexFunc_string_string_l0 k D j2 s_0 f_1 (s_0.len : Int) 0 h
noncomputable def r_slices_IndexFunc_string_string : RCode := an (.s .n (.s (.j [] (.s .n (.b (.l [(0, .l), (1, .v), (7, .i .i64), (8, .i .i64)] (.s .n (.s .n (.s (.b (.s .n (.s (.r [(5, .b)]) .n))) .n))))))) .n)) (rOf Tryd.prog 5 Tryd.f43)
noncomputable def e_slices_IndexFunc_string_string (k : Nat) (D : CallF) : Ent := entOf 43 [(0, .l), (1, .v)] [(4, .i .i64)] (slices_IndexFunc_string_string k D)
theorem q_slices_IndexFunc_string_string : (Tryd.f43.body).bind (rcodeOf Tryd.prog 5 Tryd.f43.ntmps) = some (strip r_slices_IndexFunc_string_string) := by kernel_rfl
theorem t_slices_IndexFunc_string_string (k : Nat) (D : CallF) : curF [(0, .l), (1, .v)] (fun args h => denF (C_slices_IndexFunc_string_string k D) k r_slices_IndexFunc_string_string [(4, .i .i64)] [none] args h) = slices_IndexFunc_string_string k D := by kernel_rfl
theorem ok_slices_IndexFunc_string_string {D : CallF} (hD : CSound Tryd.prog 5 D) (k : Nat) : EntOk Tryd.prog 5 (e_slices_IndexFunc_string_string k D) :=
 entOf_ok2 (mkC_sound hD (EntsOk.none)) Tryd.func43 rfl q_slices_IndexFunc_string_string rfl (t_slices_IndexFunc_string_string k D)
end Gl
namespace Gl
open Go Gx Go.Proofs
set_option maxRecDepth 100000
noncomputable def C_slices_ContainsFunc_string_string (k : Nat) (D : CallF) : CallF := mkC D [e_slices_IndexFunc_string_string k D]
noncomputable def slices_ContainsFunc_string_string (k : Nat) (D : CallF) (s_0 : Slc) (f_1 : Value) (h : AHeap) : Option ((Bool) × AHeap) :=
 (slices_IndexFunc_string_string k D s_0 f_1 h).bind fun r1 =>
 some ((decide (r1.1 ≥ 0)), r1.2)
noncomputable def r_slices_ContainsFunc_string_string : RCode := an (.n) (rOf Tryd.prog 5 Tryd.f28)
noncomputable def e_slices_ContainsFunc_string_string (k : Nat) (D : CallF) : Ent := entOf 28 [(0, .l), (1, .v)] [(4, .b)] (slices_ContainsFunc_string_string k D)
theorem q_slices_ContainsFunc_string_string : (Tryd.f28.body).bind (rcodeOf Tryd.prog 5 Tryd.f28.ntmps) = some (strip r_slices_ContainsFunc_string_string) := by kernel_rfl
theorem t_slices_ContainsFunc_string_string (k : Nat) (D : CallF) : curF [(0, .l), (1, .v)] (fun args h => denF (C_slices_ContainsFunc_string_string k D) k r_slices_ContainsFunc_string_string [(4, .b)] [none] args h) = slices_ContainsFunc_string_string k D := by kernel_rfl
theorem ok_slices_ContainsFunc_string_string {D : CallF} (hD : CSound Tryd.prog 5 D) (k : Nat) : EntOk Tryd.prog 5 (e_slices_ContainsFunc_string_string k D) :=
 entOf_ok2 (mkC_sound hD (EntsOk.more (ok_slices_IndexFunc_string_string hD k) (EntsOk.none))) Tryd.func28 rfl q_slices_ContainsFunc_string_string rfl (t_slices_ContainsFunc_string_string k D)
end Gl
namespace Gl
open Go Gx Go.Proofs
set_option maxRecDepth 100000
noncomputable def C_lock_Odds (k : Nat) (D : CallF) : CallF := mkC D [e_slices_ContainsFunc_string_string k D]
noncomputable def lock_Odds (k : Nat) (D : CallF) (l_0 : Int × Bool) (names_1 : Slc) (h : AHeap) : Option ((Bool) × AHeap) :=
 newK h ((.cells [.int .i64 l_0.1, .bool l_0.2] 46 true 0)) fun h1 =>
 (slices_ContainsFunc_string_string k D names_1 (.func (.func 29) ⟨[]⟩ ⟨[.pointer (some (⟨h.next, 0, none⟩ : Addr))]⟩) h1).bind fun r2 =>
 some (r2.1, r2.2)
noncomputable def r_lock_Odds : RCode := an (.n) (rOf Tryd.prog 5 Tryd.f17)
noncomputable def e_lock_Odds (k : Nat) (D : CallF) : Ent := entOf 17 [(0, .st [.i .i64, .b]), (1, .l)] [(4, .b)] (lock_Odds k D)
theorem q_lock_Odds : (Tryd.f17.body).bind (rcodeOf Tryd.prog 5 Tryd.f17.ntmps) = some (strip r_lock_Odds) := by kernel_rfl
theorem t_lock_Odds (k : Nat) (D : CallF) : curF [(0, .st [.i .i64, .b]), (1, .l)] (fun args h => denF (C_lock_Odds k D) k r_lock_Odds [(4, .b)] [none] args h) = lock_Odds k D := by kernel_rfl
theorem ok_lock_Odds {D : CallF} (hD : CSound Tryd.prog 5 D) (k : Nat) : EntOk Tryd.prog 5 (e_lock_Odds k D) :=
 entOf_ok2 (mkC_sound hD (EntsOk.more (ok_slices_ContainsFunc_string_string hD k) (EntsOk.none))) Tryd.func17 rfl q_lock_Odds rfl (t_lock_Odds k D)
end Gl
namespace Gl
open Go Gx Go.Proofs
set_option maxRecDepth 100000
noncomputable def C_law23_LockBack (k : Nat) (D : CallF) : CallF := mkC D [e_law23_works k D, e_lock_Name k D, e_lock_Parse k D, e_lock_Odds k D, e_lock_Check k D]
noncomputable def law23_LockBack (k : Nat) (D : CallF) (a_0 : Int × Bool) (b_1 : Int × Bool) (h : AHeap) : Option ((Bool) × AHeap) :=
 newK h ((.cells [.int .i64 a_0.1, .bool a_0.2] 46 true 0)) fun h1 =>
 newK h1 ((.cells [.int .i64 b_1.1, .bool b_1.2] 46 true 0)) fun h2 =>
 (law23_works k D h2).bind fun r3 =>
 (if (!r3.1) = true then
 some (false, r3.2)
 else
 joinK (fun (a4 : Option Addr) (b5 : Option Addr) (y6 : Bool) (h7 : AHeap) =>
 (if y6 = true then
 some (true, h7)
 else
 (a4).bind fun p9 =>
 (ldA 2 p9 h7).bind fun l10 =>
 (decC [.i .i64, .b] l10).bind fun x11 =>
 (lock_Name k D (x11.1, x11.2) h7).bind fun r12 =>
 (lock_Parse k D r12.1 r12.2).bind fun r13 =>
 newK r13.2 ((.cells [.int .i64 0, .bool false] 46 true 0)) fun h14 =>
 (stL 2 (⟨r13.2.next, 0, none⟩ : Addr) ([.int .i64 r13.1.1.1, .bool r13.1.1.2]) h14).bind fun h15 =>
 joinK (fun (a16 : Option Addr) (b17 : Option Addr) (x18 : Option Addr) (e19 : Int) (odds20 : Bool) (h21 : AHeap) =>
 (if (e19 == 0) = true then
 (x18).bind fun p23 =>
 (ldA 2 p23 h21).bind fun l24 =>
 (decC [.i .i64, .b] l24).bind fun x25 =>
 (a16).bind fun p26 =>
 (ldA 2 p26 h21).bind fun l27 =>
 (decC [.i .i64, .b] l27).bind fun x28 =>
 (if ((x25.1 == x28.1) && (x25.2 == x28.2)) = true then
 (b17).bind fun p29 =>
 (ldA 2 p29 h21).bind fun l30 =>
 (decC [.i .i64, .b] l30).bind fun x31 =>
 (lock_Name k D (x31.1, x31.2) h21).bind fun r32 =>
 newK r32.2 ((.cells [.string (⟨#[108, 111, 99, 107, 47]⟩ : ByteArray), .string r32.1] 9 true 0)) fun h33 =>
 (a16).bind fun p34 =>
 (ldA 2 p34 h33).bind fun l35 =>
 guardP (SameW [r32.2, h21] (fun H37 => (a16).bind fun p38 => (ldA 2 p38 H37).bind fun y36 => some (.agg ⟨y36⟩)) (.agg ⟨l35⟩)) (
 (decC [.i .i64, .b] l35).bind fun x39 =>
 (lock_Odds k D (x39.1, x39.2) (⟨(some ⟨r32.2.next, 0, some 0⟩), 2, 2⟩ : Slc) h33).bind fun r40 =>
 (if (r40.1 == odds20) = true then
 (a16).bind fun p41 =>
 (ldA 2 p41 r40.2).bind fun l42 =>
 (decC [.i .i64, .b] l42).bind fun x43 =>
 (lock_Name k D (x43.1, x43.2) r40.2).bind fun r44 =>
 newK r44.2 ((.cells [.string r44.1] 9 true 0)) fun h45 =>
 (b17).bind fun p46 =>
 (ldA 2 p46 h45).bind fun l47 =>
 guardP (SameW [r44.2, r40.2] (fun H49 => (b17).bind fun p50 => (ldA 2 p50 H49).bind fun y48 => some (.agg ⟨y48⟩)) (.agg ⟨l47⟩)) (
 (decC [.i .i64, .b] l47).bind fun x51 =>
 (lock_Odds k D (x51.1, x51.2) (⟨(some ⟨r44.2.next, 0, some 0⟩), 1, 1⟩ : Slc) h45).bind fun r52 =>
 (if (r52.1 == odds20) = true then
 (a16).bind fun p53 =>
 (ldA 2 p53 r52.2).bind fun l54 =>
 (decC [.i .i64, .b] l54).bind fun x55 =>
 (lock_Odds k D (x55.1, x55.2) (⟨none, 0, 0⟩ : Slc) r52.2).bind fun r56 =>
 some ((!r56.1), r56.2)
 else
 some (false, r52.2)))
 else
 some (false, r40.2)))
 else
 some (false, h21))
 else
 some (false, h21))) fun j22 =>
 (a4).bind fun p57 =>
 (ldI .i64 (⟨p57.block, p57.off + 0, none⟩ : Addr) h15).bind fun x58 =>
 (b5).bind fun p59 =>
 (ldI .i64 (⟨p59.block, p59.off + 0, none⟩ : Addr) h15).bind fun x60 =>
 (if (x58 != x60) = true then
 (a4).bind fun p61 =>
 (ldB (⟨p61.block, p61.off + 1, none⟩ : Addr) h15).bind fun x62 =>
 (if x62 = true then
 j22 a4 b5 (some (⟨r13.2.next, 0, none⟩ : Addr)) r13.1.2 true h15
 else
 (b5).bind fun p63 =>
 (ldB (⟨p63.block, p63.off + 1, none⟩ : Addr) h15).bind fun x64 =>
 j22 a4 b5 (some (⟨r13.2.next, 0, none⟩ : Addr)) r13.1.2 x64 h15)
 else
 j22 a4 b5 (some (⟨r13.2.next, 0, none⟩ : Addr)) r13.1.2 false h15))) fun j8 =>
 (ldA 2 (⟨h.next, 0, none⟩ : Addr) r3.2).bind fun l65 =>
 (decC [.i .i64, .b] l65).bind fun x66 =>
 (lock_Check k D (x66.1, x66.2) r3.2).bind fun r67 =>
 (if (r67.1 != 0) = true then
 j8 (some (⟨h.next, 0, none⟩ : Addr)) (some (⟨h1.next, 0, none⟩ : Addr)) true r67.2
 else
 (ldA 2 (⟨h1.next, 0, none⟩ : Addr) r67.2).bind fun l68 =>
 (decC [.i .i64, .b] l68).bind fun x69 =>
 (lock_Check k D (x69.1, x69.2) r67.2).bind fun r70 =>
 j8 (some (⟨h.next, 0, none⟩ : Addr)) (some (⟨h1.next, 0, none⟩ : Addr)) (r70.1 != 0) r70.2))
noncomputable def r_law23_LockBack : RCode := an (.s .n (.s .n (.s (.s (.j [(2, .p), (3, .p), (17, .b)] (.r [(0, .st [.i .i64, .b]), (4, .st [.i .i64, .b])])) .n) (.s (.r [(0, .st [.i .i64, .b])]) (.s (.j [(2, .p), (3, .p), (5, .p), (6, .i .i64), (7, .b)] .n) (.s (.r [(3, .st [.i .i64, .b]), (4, .st [.i .i64, .b]), (8, .st [.i .i64, .b]), (11, .st [.i .i64, .b]), (17, .st [.i .i64, .b]), (20, .st [.i .i64, .b]), (26, .st [.i .i64, .b])]) .n)))))) (rOf Tryd.prog 5 Tryd.f4)
noncomputable def e_law23_LockBack (k : Nat) (D : CallF) : Ent := entOf 4 [(0, .st [.i .i64, .b]), (1, .st [.i .i64, .b])] [(4, .b)] (law23_LockBack k D)
theorem q_law23_LockBack : (Tryd.f4.body).bind (rcodeOf Tryd.prog 5 Tryd.f4.ntmps) = some (strip r_law23_LockBack) := by kernel_rfl
theorem t_law23_LockBack (k : Nat) (D : CallF) : curF [(0, .st [.i .i64, .b]), (1, .st [.i .i64, .b])] (fun args h => denF (C_law23_LockBack k D) k r_law23_LockBack [(4, .b)] [none] args h) = law23_LockBack k D := by kernel_rfl
theorem ok_law23_LockBack {D : CallF} (hD : CSound Tryd.prog 5 D) (k : Nat) : EntOk Tryd.prog 5 (e_law23_LockBack k D) :=
 entOf_ok2 (mkC_sound hD (EntsOk.more (ok_law23_works hD k) (EntsOk.more (ok_lock_Name hD k) (EntsOk.more (ok_lock_Parse hD k) (EntsOk.more (ok_lock_Odds hD k) (EntsOk.more (ok_lock_Check hD k) (EntsOk.none))))))) Tryd.func4 rfl q_law23_LockBack rfl (t_law23_LockBack k D)
end Gl
namespace Gl
open Go Gx Go.Proofs
set_option maxRecDepth 100000
noncomputable def C_lock_Odds_1 (k : Nat) (D : CallF) : CallF := mkC D [e_lock_Parse k D]
noncomputable def lock_Odds_1 (k : Nat) (D : CallF) (name_0 : ByteArray) (a_1 : Option Addr) (h : AHeap) : Option ((Bool) × AHeap) :=
 (lock_Parse k D name_0 h).bind fun r1 =>
 newK r1.2 ((.cells [.int .i64 0, .bool false] 46 true 0)) fun h2 =>
 (stL 2 (⟨r1.2.next, 0, none⟩ : Addr) ([.int .i64 r1.1.1.1, .bool r1.1.1.2]) h2).bind fun h3 =>
 (ldA 2 (⟨r1.2.next, 0, none⟩ : Addr) h3).bind fun l4 =>
 (decC [.i .i64, .b] l4).bind fun x5 =>
 (a_1).bind fun p6 =>
 (ldI .i64 (⟨p6.block, p6.off + 0, none⟩ : Addr) h3).bind fun x7 =>
 (ldB (⟨r1.2.next, 1, none⟩ : Addr) h3).bind fun x8 =>
 (if (r1.1.2 == 0) = true then
 (if (!((x5.1 == x7) && (x5.2 == x8))) = true then
 (ldB (⟨r1.2.next, 1, none⟩ : Addr) h3).bind fun x9 =>
 (if x9 = true then
 some (true, h3)
 else
 (a_1).bind fun p10 =>
 (ldB (⟨p10.block, p10.off + 1, none⟩ : Addr) h3).bind fun x11 =>
 some (x11, h3))
 else
 some (false, h3))
 else
 some (false, h3))
noncomputable def r_lock_Odds_1 : RCode := an (.s .n (.s .n (.s (.r [(0, .st [.i .i64, .b])]) .n))) (rOf Tryd.prog 5 Tryd.f29)
noncomputable def e_lock_Odds_1 (k : Nat) (D : CallF) : Ent := entOf 29 [(0, .s), (1, .p)] [(3, .b)] (lock_Odds_1 k D)
theorem q_lock_Odds_1 : (Tryd.f29.body).bind (rcodeOf Tryd.prog 5 Tryd.f29.ntmps) = some (strip r_lock_Odds_1) := by kernel_rfl
theorem t_lock_Odds_1 (k : Nat) (D : CallF) : curF [(0, .s), (1, .p)] (fun args h => denF (C_lock_Odds_1 k D) k r_lock_Odds_1 [(3, .b)] [none] args h) = lock_Odds_1 k D := by kernel_rfl
theorem ok_lock_Odds_1 {D : CallF} (hD : CSound Tryd.prog 5 D) (k : Nat) : EntOk Tryd.prog 5 (e_lock_Odds_1 k D) :=
 entOf_ok2 (mkC_sound hD (EntsOk.more (ok_lock_Parse hD k) (EntsOk.none))) Tryd.func29 rfl q_lock_Odds_1 rfl (t_lock_Odds_1 k D)
end Gl
