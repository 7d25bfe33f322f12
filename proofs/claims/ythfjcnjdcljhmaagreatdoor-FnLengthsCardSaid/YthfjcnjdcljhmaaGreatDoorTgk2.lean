/- Static checks of the functions, one by one. -/
import Derived.Test.YthfjcnjdcljhmaaGreatDoorTgt
open Go Go.V Go.Proofs
namespace X
set_option maxRecDepth 100000
set_option maxHeartbeats 4000000
set_option linter.unusedSimpArgs false
set_option linter.unusedVariables false
theorem k19 : ∃ fn c, S.P.funcs[19]? = some fn ∧ fn.body = some c ∧ okCode S.ty S.pf A19 fn.ntmps c = true ∧ (fn.name == "runtime.NumGoroutine") = false := ⟨_, _, Tryz.func19, rfl, by kernel_rfl, by kernel_rfl⟩
theorem k29 : ∃ fn c, S.P.funcs[29]? = some fn ∧ fn.body = some c ∧ okCode S.ty S.pf A29 fn.ntmps c = true ∧ (fn.name == "runtime.NumGoroutine") = false := ⟨_, _, Tryz.func29, rfl, by kernel_rfl, by kernel_rfl⟩
theorem k45 : ∃ fn c, S.P.funcs[45]? = some fn ∧ fn.body = some c ∧ okCode S.ty S.pf A45 fn.ntmps c = true ∧ (fn.name == "runtime.NumGoroutine") = false := ⟨_, _, Tryz.func45, rfl, by kernel_rfl, by kernel_rfl⟩
theorem k54 : ∃ fn c, S.P.funcs[54]? = some fn ∧ fn.body = some c ∧ okCode S.ty S.pf A54 fn.ntmps c = true ∧ (fn.name == "runtime.NumGoroutine") = false := ⟨_, _, Tryz.func54, rfl, by kernel_rfl, by kernel_rfl⟩
theorem k64 : ∃ fn c, S.P.funcs[64]? = some fn ∧ fn.body = some c ∧ okCode S.ty S.pf A64 fn.ntmps c = true ∧ (fn.name == "runtime.NumGoroutine") = false := ⟨_, _, Tryz.func64, rfl, by kernel_rfl, by kernel_rfl⟩
theorem k76 : ∃ fn c, S.P.funcs[76]? = some fn ∧ fn.body = some c ∧ okCode S.ty S.pf A76 fn.ntmps c = true ∧ (fn.name == "runtime.NumGoroutine") = false := ⟨_, _, Tryz.func76, rfl, by kernel_rfl, by kernel_rfl⟩
theorem k82 : ∃ fn c, S.P.funcs[82]? = some fn ∧ fn.body = some c ∧ okCode S.ty S.pf A82 fn.ntmps c = true ∧ (fn.name == "runtime.NumGoroutine") = false := ⟨_, _, Tryz.func82, rfl, by kernel_rfl, by kernel_rfl⟩
theorem k96 : ∃ fn c, S.P.funcs[96]? = some fn ∧ fn.body = some c ∧ okCode S.ty S.pf A96 fn.ntmps c = true ∧ (fn.name == "runtime.NumGoroutine") = false := ⟨_, _, Tryz.func96, rfl, by kernel_rfl, by kernel_rfl⟩
theorem k106 : ∃ fn c, S.P.funcs[106]? = some fn ∧ fn.body = some c ∧ okCode S.ty S.pf A106 fn.ntmps c = true ∧ (fn.name == "runtime.NumGoroutine") = false := ⟨_, _, Tryz.func106, rfl, by kernel_rfl, by kernel_rfl⟩
theorem k113 : ∃ fn c, S.P.funcs[113]? = some fn ∧ fn.body = some c ∧ okCode S.ty S.pf A113 fn.ntmps c = true ∧ (fn.name == "runtime.NumGoroutine") = false := ⟨_, _, Tryz.func113, rfl, by kernel_rfl, by kernel_rfl⟩
theorem k119 : ∃ fn c, S.P.funcs[119]? = some fn ∧ fn.body = some c ∧ okCode S.ty S.pf A119 fn.ntmps c = true ∧ (fn.name == "runtime.NumGoroutine") = false := ⟨_, _, Tryz.func119, rfl, by kernel_rfl, by kernel_rfl⟩
theorem k126 : ∃ fn c, S.P.funcs[126]? = some fn ∧ fn.body = some c ∧ okCode S.ty S.pf A126 fn.ntmps c = true ∧ (fn.name == "runtime.NumGoroutine") = false := ⟨_, _, Tryz.func126, rfl, by kernel_rfl, by kernel_rfl⟩
theorem k132 : ∃ fn c, S.P.funcs[132]? = some fn ∧ fn.body = some c ∧ okCode S.ty S.pf A132 fn.ntmps c = true ∧ (fn.name == "runtime.NumGoroutine") = false := ⟨_, _, Tryz.func132, rfl, by kernel_rfl, by kernel_rfl⟩
theorem k149 : ∃ fn c, S.P.funcs[149]? = some fn ∧ fn.body = some c ∧ okCode S.ty S.pf A149 fn.ntmps c = true ∧ (fn.name == "runtime.NumGoroutine") = false := ⟨_, _, Tryz.func149, rfl, by kernel_rfl, by kernel_rfl⟩
theorem k157 : ∃ fn c, S.P.funcs[157]? = some fn ∧ fn.body = some c ∧ okCode S.ty S.pf A157 fn.ntmps c = true ∧ (fn.name == "runtime.NumGoroutine") = false := ⟨_, _, Tryz.func157, rfl, by kernel_rfl, by kernel_rfl⟩
theorem k163 : ∃ fn c, S.P.funcs[163]? = some fn ∧ fn.body = some c ∧ okCode S.ty S.pf A163 fn.ntmps c = true ∧ (fn.name == "runtime.NumGoroutine") = false := ⟨_, _, Tryz.func163, rfl, by kernel_rfl, by kernel_rfl⟩
theorem k169 : ∃ fn c, S.P.funcs[169]? = some fn ∧ fn.body = some c ∧ okCode S.ty S.pf A169 fn.ntmps c = true ∧ (fn.name == "runtime.NumGoroutine") = false := ⟨_, _, Tryz.func169, rfl, by kernel_rfl, by kernel_rfl⟩
theorem k178 : ∃ fn c, S.P.funcs[178]? = some fn ∧ fn.body = some c ∧ okCode S.ty S.pf A178 fn.ntmps c = true ∧ (fn.name == "runtime.NumGoroutine") = false := ⟨_, _, Tryz.func178, rfl, by kernel_rfl, by kernel_rfl⟩
theorem k184 : ∃ fn c, S.P.funcs[184]? = some fn ∧ fn.body = some c ∧ okCode S.ty S.pf A184 fn.ntmps c = true ∧ (fn.name == "runtime.NumGoroutine") = false := ⟨_, _, Tryz.func184, rfl, by kernel_rfl, by kernel_rfl⟩
theorem k201 : ∃ fn c, S.P.funcs[201]? = some fn ∧ fn.body = some c ∧ okCode S.ty S.pf A201 fn.ntmps c = true ∧ (fn.name == "runtime.NumGoroutine") = false := ⟨_, _, Tryz.func201, rfl, by kernel_rfl, by kernel_rfl⟩
theorem k209 : ∃ fn c, S.P.funcs[209]? = some fn ∧ fn.body = some c ∧ okCode S.ty S.pf A209 fn.ntmps c = true ∧ (fn.name == "runtime.NumGoroutine") = false := ⟨_, _, Tryz.func209, rfl, by kernel_rfl, by kernel_rfl⟩
theorem k216 : ∃ fn c, S.P.funcs[216]? = some fn ∧ fn.body = some c ∧ okCode S.ty S.pf A216 fn.ntmps c = true ∧ (fn.name == "runtime.NumGoroutine") = false := ⟨_, _, Tryz.func216, rfl, by kernel_rfl, by kernel_rfl⟩
theorem k238 : ∃ fn c, S.P.funcs[238]? = some fn ∧ fn.body = some c ∧ okCode S.ty S.pf A238 fn.ntmps c = true ∧ (fn.name == "runtime.NumGoroutine") = false := ⟨_, _, Tryz.func238, rfl, by kernel_rfl, by kernel_rfl⟩
theorem k254 : ∃ fn c, S.P.funcs[254]? = some fn ∧ fn.body = some c ∧ okCode S.ty S.pf A254 fn.ntmps c = true ∧ (fn.name == "runtime.NumGoroutine") = false := ⟨_, _, Tryz.func254, rfl, by kernel_rfl, by kernel_rfl⟩
theorem k262 : ∃ fn c, S.P.funcs[262]? = some fn ∧ fn.body = some c ∧ okCode S.ty S.pf A262 fn.ntmps c = true ∧ (fn.name == "runtime.NumGoroutine") = false := ⟨_, _, Tryz.func262, rfl, by kernel_rfl, by kernel_rfl⟩
theorem k268 : ∃ fn c, S.P.funcs[268]? = some fn ∧ fn.body = some c ∧ okCode S.ty S.pf A268 fn.ntmps c = true ∧ (fn.name == "runtime.NumGoroutine") = false := ⟨_, _, Tryz.func268, rfl, by kernel_rfl, by kernel_rfl⟩
theorem k287 : ∃ fn c, S.P.funcs[287]? = some fn ∧ fn.body = some c ∧ okCode S.ty S.pf A287 fn.ntmps c = true ∧ (fn.name == "runtime.NumGoroutine") = false := ⟨_, _, Tryz.func287, rfl, by kernel_rfl, by kernel_rfl⟩
theorem k301 : ∃ fn c, S.P.funcs[301]? = some fn ∧ fn.body = some c ∧ okCode S.ty S.pf A301 fn.ntmps c = true ∧ (fn.name == "runtime.NumGoroutine") = false := ⟨_, _, Tryz.func301, rfl, by kernel_rfl, by kernel_rfl⟩
theorem k333 : ∃ fn c, S.P.funcs[333]? = some fn ∧ fn.body = some c ∧ okCode S.ty S.pf A333 fn.ntmps c = true ∧ (fn.name == "runtime.NumGoroutine") = false := ⟨_, _, Tryz.func333, rfl, by kernel_rfl, by kernel_rfl⟩
theorem k16 : ∃ fn c, S.P.funcs[16]? = some fn ∧ fn.body = some c ∧ okCode S.ty S.pf A16 fn.ntmps c = true ∧ (fn.name == "runtime.NumGoroutine") = false := ⟨_, _, Tryz.func16, rfl, by kernel_rfl, by kernel_rfl⟩
end X
