/- Static checks of the functions, one by one. -/
import Derived.Test.YthfjcnjdcljhmaaGreatDoorTzt
open Go Go.V Go.Proofs
namespace X
set_option maxRecDepth 100000
set_option maxHeartbeats 4000000
set_option linter.unusedSimpArgs false
set_option linter.unusedVariables false
theorem k20 : ∃ fn c, S.P.funcs[20]? = some fn ∧ fn.body = some c ∧ okCode S.ty S.pf A20 fn.ntmps c = true ∧ (fn.name == "runtime.NumGoroutine") = false := ⟨_, _, Tryz.func20, rfl, by kernel_rfl, by kernel_rfl⟩
theorem k31 : ∃ fn c, S.P.funcs[31]? = some fn ∧ fn.body = some c ∧ okCode S.ty S.pf A31 fn.ntmps c = true ∧ (fn.name == "runtime.NumGoroutine") = false := ⟨_, _, Tryz.func31, rfl, by kernel_rfl, by kernel_rfl⟩
theorem k38 : ∃ fn c, S.P.funcs[38]? = some fn ∧ fn.body = some c ∧ okCode S.ty S.pf A38 fn.ntmps c = true ∧ (fn.name == "runtime.NumGoroutine") = false := ⟨_, _, Tryz.func38, rfl, by kernel_rfl, by kernel_rfl⟩
theorem k47 : ∃ fn c, S.P.funcs[47]? = some fn ∧ fn.body = some c ∧ okCode S.ty S.pf A47 fn.ntmps c = true ∧ (fn.name == "runtime.NumGoroutine") = false := ⟨_, _, Tryz.func47, rfl, by kernel_rfl, by kernel_rfl⟩
theorem k56 : ∃ fn c, S.P.funcs[56]? = some fn ∧ fn.body = some c ∧ okCode S.ty S.pf A56 fn.ntmps c = true ∧ (fn.name == "runtime.NumGoroutine") = false := ⟨_, _, Tryz.func56, rfl, by kernel_rfl, by kernel_rfl⟩
theorem k62 : ∃ fn c, S.P.funcs[62]? = some fn ∧ fn.body = some c ∧ okCode S.ty S.pf A62 fn.ntmps c = true ∧ (fn.name == "runtime.NumGoroutine") = false := ⟨_, _, Tryz.func62, rfl, by kernel_rfl, by kernel_rfl⟩
theorem k68 : ∃ fn c, S.P.funcs[68]? = some fn ∧ fn.body = some c ∧ okCode S.ty S.pf A68 fn.ntmps c = true ∧ (fn.name == "runtime.NumGoroutine") = false := ⟨_, _, Tryz.func68, rfl, by kernel_rfl, by kernel_rfl⟩
theorem k74 : ∃ fn c, S.P.funcs[74]? = some fn ∧ fn.body = some c ∧ okCode S.ty S.pf A74 fn.ntmps c = true ∧ (fn.name == "runtime.NumGoroutine") = false := ⟨_, _, Tryz.func74, rfl, by kernel_rfl, by kernel_rfl⟩
theorem k80 : ∃ fn c, S.P.funcs[80]? = some fn ∧ fn.body = some c ∧ okCode S.ty S.pf A80 fn.ntmps c = true ∧ (fn.name == "runtime.NumGoroutine") = false := ⟨_, _, Tryz.func80, rfl, by kernel_rfl, by kernel_rfl⟩
theorem k94 : ∃ fn c, S.P.funcs[94]? = some fn ∧ fn.body = some c ∧ okCode S.ty S.pf A94 fn.ntmps c = true ∧ (fn.name == "runtime.NumGoroutine") = false := ⟨_, _, Tryz.func94, rfl, by kernel_rfl, by kernel_rfl⟩
theorem k100 : ∃ fn c, S.P.funcs[100]? = some fn ∧ fn.body = some c ∧ okCode S.ty S.pf A100 fn.ntmps c = true ∧ (fn.name == "runtime.NumGoroutine") = false := ⟨_, _, Tryz.func100, rfl, by kernel_rfl, by kernel_rfl⟩
theorem k106 : ∃ fn c, S.P.funcs[106]? = some fn ∧ fn.body = some c ∧ okCode S.ty S.pf A106 fn.ntmps c = true ∧ (fn.name == "runtime.NumGoroutine") = false := ⟨_, _, Tryz.func106, rfl, by kernel_rfl, by kernel_rfl⟩
theorem k112 : ∃ fn c, S.P.funcs[112]? = some fn ∧ fn.body = some c ∧ okCode S.ty S.pf A112 fn.ntmps c = true ∧ (fn.name == "runtime.NumGoroutine") = false := ⟨_, _, Tryz.func112, rfl, by kernel_rfl, by kernel_rfl⟩
theorem k119 : ∃ fn c, S.P.funcs[119]? = some fn ∧ fn.body = some c ∧ okCode S.ty S.pf A119 fn.ntmps c = true ∧ (fn.name == "runtime.NumGoroutine") = false := ⟨_, _, Tryz.func119, rfl, by kernel_rfl, by kernel_rfl⟩
theorem k129 : ∃ fn c, S.P.funcs[129]? = some fn ∧ fn.body = some c ∧ okCode S.ty S.pf A129 fn.ntmps c = true ∧ (fn.name == "runtime.NumGoroutine") = false := ⟨_, _, Tryz.func129, rfl, by kernel_rfl, by kernel_rfl⟩
theorem k147 : ∃ fn c, S.P.funcs[147]? = some fn ∧ fn.body = some c ∧ okCode S.ty S.pf A147 fn.ntmps c = true ∧ (fn.name == "runtime.NumGoroutine") = false := ⟨_, _, Tryz.func147, rfl, by kernel_rfl, by kernel_rfl⟩
theorem k153 : ∃ fn c, S.P.funcs[153]? = some fn ∧ fn.body = some c ∧ okCode S.ty S.pf A153 fn.ntmps c = true ∧ (fn.name == "runtime.NumGoroutine") = false := ⟨_, _, Tryz.func153, rfl, by kernel_rfl, by kernel_rfl⟩
theorem k159 : ∃ fn c, S.P.funcs[159]? = some fn ∧ fn.body = some c ∧ okCode S.ty S.pf A159 fn.ntmps c = true ∧ (fn.name == "runtime.NumGoroutine") = false := ⟨_, _, Tryz.func159, rfl, by kernel_rfl, by kernel_rfl⟩
theorem k167 : ∃ fn c, S.P.funcs[167]? = some fn ∧ fn.body = some c ∧ okCode S.ty S.pf A167 fn.ntmps c = true ∧ (fn.name == "runtime.NumGoroutine") = false := ⟨_, _, Tryz.func167, rfl, by kernel_rfl, by kernel_rfl⟩
theorem k173 : ∃ fn c, S.P.funcs[173]? = some fn ∧ fn.body = some c ∧ okCode S.ty S.pf A173 fn.ntmps c = true ∧ (fn.name == "runtime.NumGoroutine") = false := ⟨_, _, Tryz.func173, rfl, by kernel_rfl, by kernel_rfl⟩
theorem k180 : ∃ fn c, S.P.funcs[180]? = some fn ∧ fn.body = some c ∧ okCode S.ty S.pf A180 fn.ntmps c = true ∧ (fn.name == "runtime.NumGoroutine") = false := ⟨_, _, Tryz.func180, rfl, by kernel_rfl, by kernel_rfl⟩
theorem k196 : ∃ fn c, S.P.funcs[196]? = some fn ∧ fn.body = some c ∧ okCode S.ty S.pf A196 fn.ntmps c = true ∧ (fn.name == "runtime.NumGoroutine") = false := ⟨_, _, Tryz.func196, rfl, by kernel_rfl, by kernel_rfl⟩
theorem k204 : ∃ fn c, S.P.funcs[204]? = some fn ∧ fn.body = some c ∧ okCode S.ty S.pf A204 fn.ntmps c = true ∧ (fn.name == "runtime.NumGoroutine") = false := ⟨_, _, Tryz.func204, rfl, by kernel_rfl, by kernel_rfl⟩
theorem k217 : ∃ fn c, S.P.funcs[217]? = some fn ∧ fn.body = some c ∧ okCode S.ty S.pf A217 fn.ntmps c = true ∧ (fn.name == "runtime.NumGoroutine") = false := ⟨_, _, Tryz.func217, rfl, by kernel_rfl, by kernel_rfl⟩
theorem k245 : ∃ fn c, S.P.funcs[245]? = some fn ∧ fn.body = some c ∧ okCode S.ty S.pf A245 fn.ntmps c = true ∧ (fn.name == "runtime.NumGoroutine") = false := ⟨_, _, Tryz.func245, rfl, by kernel_rfl, by kernel_rfl⟩
theorem k266 : ∃ fn c, S.P.funcs[266]? = some fn ∧ fn.body = some c ∧ okCode S.ty S.pf A266 fn.ntmps c = true ∧ (fn.name == "runtime.NumGoroutine") = false := ⟨_, _, Tryz.func266, rfl, by kernel_rfl, by kernel_rfl⟩
theorem k284 : ∃ fn c, S.P.funcs[284]? = some fn ∧ fn.body = some c ∧ okCode S.ty S.pf A284 fn.ntmps c = true ∧ (fn.name == "runtime.NumGoroutine") = false := ⟨_, _, Tryz.func284, rfl, by kernel_rfl, by kernel_rfl⟩
theorem k311 : ∃ fn c, S.P.funcs[311]? = some fn ∧ fn.body = some c ∧ okCode S.ty S.pf A311 fn.ntmps c = true ∧ (fn.name == "runtime.NumGoroutine") = false := ⟨_, _, Tryz.func311, rfl, by kernel_rfl, by kernel_rfl⟩
theorem k5 : ∃ fn c, S.P.funcs[5]? = some fn ∧ fn.body = some c ∧ okCode S.ty S.pf A5 fn.ntmps c = true ∧ (fn.name == "runtime.NumGoroutine") = false := ⟨_, _, Tryz.func5, rfl, by kernel_rfl, by kernel_rfl⟩
theorem k39 : ∃ fn c, S.P.funcs[39]? = some fn ∧ fn.body = some c ∧ okCode S.ty S.pf A39 fn.ntmps c = true ∧ (fn.name == "runtime.NumGoroutine") = false := ⟨_, _, Tryz.func39, rfl, by kernel_rfl, by kernel_rfl⟩
end X
