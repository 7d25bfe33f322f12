/- Static checks of the functions, one by one. -/
import Derived.Test.YthfjcnjdcljhmaaGreatDoorTbt
open Go Go.V Go.Proofs
namespace X
set_option maxRecDepth 100000
set_option maxHeartbeats 4000000
set_option linter.unusedSimpArgs false
set_option linter.unusedVariables false
theorem k17 : ∃ fn c, S.P.funcs[17]? = some fn ∧ fn.body = some c ∧ okCode S.ty S.pf A17 fn.ntmps c = true ∧ (fn.name == "runtime.NumGoroutine") = false := ⟨_, _, Tryz.func17, rfl, by kernel_rfl, by kernel_rfl⟩
theorem k23 : ∃ fn c, S.P.funcs[23]? = some fn ∧ fn.body = some c ∧ okCode S.ty S.pf A23 fn.ntmps c = true ∧ (fn.name == "runtime.NumGoroutine") = false := ⟨_, _, Tryz.func23, rfl, by kernel_rfl, by kernel_rfl⟩
theorem k46 : ∃ fn c, S.P.funcs[46]? = some fn ∧ fn.body = some c ∧ okCode S.ty S.pf A46 fn.ntmps c = true ∧ (fn.name == "runtime.NumGoroutine") = false := ⟨_, _, Tryz.func46, rfl, by kernel_rfl, by kernel_rfl⟩
theorem k55 : ∃ fn c, S.P.funcs[55]? = some fn ∧ fn.body = some c ∧ okCode S.ty S.pf A55 fn.ntmps c = true ∧ (fn.name == "runtime.NumGoroutine") = false := ⟨_, _, Tryz.func55, rfl, by kernel_rfl, by kernel_rfl⟩
theorem k72 : ∃ fn c, S.P.funcs[72]? = some fn ∧ fn.body = some c ∧ okCode S.ty S.pf A72 fn.ntmps c = true ∧ (fn.name == "runtime.NumGoroutine") = false := ⟨_, _, Tryz.func72, rfl, by kernel_rfl, by kernel_rfl⟩
theorem k78 : ∃ fn c, S.P.funcs[78]? = some fn ∧ fn.body = some c ∧ okCode S.ty S.pf A78 fn.ntmps c = true ∧ (fn.name == "runtime.NumGoroutine") = false := ⟨_, _, Tryz.func78, rfl, by kernel_rfl, by kernel_rfl⟩
theorem k92 : ∃ fn c, S.P.funcs[92]? = some fn ∧ fn.body = some c ∧ okCode S.ty S.pf A92 fn.ntmps c = true ∧ (fn.name == "runtime.NumGoroutine") = false := ⟨_, _, Tryz.func92, rfl, by kernel_rfl, by kernel_rfl⟩
theorem k100 : ∃ fn c, S.P.funcs[100]? = some fn ∧ fn.body = some c ∧ okCode S.ty S.pf A100 fn.ntmps c = true ∧ (fn.name == "runtime.NumGoroutine") = false := ⟨_, _, Tryz.func100, rfl, by kernel_rfl, by kernel_rfl⟩
theorem k114 : ∃ fn c, S.P.funcs[114]? = some fn ∧ fn.body = some c ∧ okCode S.ty S.pf A114 fn.ntmps c = true ∧ (fn.name == "runtime.NumGoroutine") = false := ⟨_, _, Tryz.func114, rfl, by kernel_rfl, by kernel_rfl⟩
theorem k120 : ∃ fn c, S.P.funcs[120]? = some fn ∧ fn.body = some c ∧ okCode S.ty S.pf A120 fn.ntmps c = true ∧ (fn.name == "runtime.NumGoroutine") = false := ⟨_, _, Tryz.func120, rfl, by kernel_rfl, by kernel_rfl⟩
theorem k127 : ∃ fn c, S.P.funcs[127]? = some fn ∧ fn.body = some c ∧ okCode S.ty S.pf A127 fn.ntmps c = true ∧ (fn.name == "runtime.NumGoroutine") = false := ⟨_, _, Tryz.func127, rfl, by kernel_rfl, by kernel_rfl⟩
theorem k136 : ∃ fn c, S.P.funcs[136]? = some fn ∧ fn.body = some c ∧ okCode S.ty S.pf A136 fn.ntmps c = true ∧ (fn.name == "runtime.NumGoroutine") = false := ⟨_, _, Tryz.func136, rfl, by kernel_rfl, by kernel_rfl⟩
theorem k150 : ∃ fn c, S.P.funcs[150]? = some fn ∧ fn.body = some c ∧ okCode S.ty S.pf A150 fn.ntmps c = true ∧ (fn.name == "runtime.NumGoroutine") = false := ⟨_, _, Tryz.func150, rfl, by kernel_rfl, by kernel_rfl⟩
theorem k166 : ∃ fn c, S.P.funcs[166]? = some fn ∧ fn.body = some c ∧ okCode S.ty S.pf A166 fn.ntmps c = true ∧ (fn.name == "runtime.NumGoroutine") = false := ⟨_, _, Tryz.func166, rfl, by kernel_rfl, by kernel_rfl⟩
theorem k172 : ∃ fn c, S.P.funcs[172]? = some fn ∧ fn.body = some c ∧ okCode S.ty S.pf A172 fn.ntmps c = true ∧ (fn.name == "runtime.NumGoroutine") = false := ⟨_, _, Tryz.func172, rfl, by kernel_rfl, by kernel_rfl⟩
theorem k179 : ∃ fn c, S.P.funcs[179]? = some fn ∧ fn.body = some c ∧ okCode S.ty S.pf A179 fn.ntmps c = true ∧ (fn.name == "runtime.NumGoroutine") = false := ⟨_, _, Tryz.func179, rfl, by kernel_rfl, by kernel_rfl⟩
theorem k187 : ∃ fn c, S.P.funcs[187]? = some fn ∧ fn.body = some c ∧ okCode S.ty S.pf A187 fn.ntmps c = true ∧ (fn.name == "runtime.NumGoroutine") = false := ⟨_, _, Tryz.func187, rfl, by kernel_rfl, by kernel_rfl⟩
theorem k209 : ∃ fn c, S.P.funcs[209]? = some fn ∧ fn.body = some c ∧ okCode S.ty S.pf A209 fn.ntmps c = true ∧ (fn.name == "runtime.NumGoroutine") = false := ⟨_, _, Tryz.func209, rfl, by kernel_rfl, by kernel_rfl⟩
theorem k217 : ∃ fn c, S.P.funcs[217]? = some fn ∧ fn.body = some c ∧ okCode S.ty S.pf A217 fn.ntmps c = true ∧ (fn.name == "runtime.NumGoroutine") = false := ⟨_, _, Tryz.func217, rfl, by kernel_rfl, by kernel_rfl⟩
theorem k245 : ∃ fn c, S.P.funcs[245]? = some fn ∧ fn.body = some c ∧ okCode S.ty S.pf A245 fn.ntmps c = true ∧ (fn.name == "runtime.NumGoroutine") = false := ⟨_, _, Tryz.func245, rfl, by kernel_rfl, by kernel_rfl⟩
theorem k256 : ∃ fn c, S.P.funcs[256]? = some fn ∧ fn.body = some c ∧ okCode S.ty S.pf A256 fn.ntmps c = true ∧ (fn.name == "runtime.NumGoroutine") = false := ⟨_, _, Tryz.func256, rfl, by kernel_rfl, by kernel_rfl⟩
theorem k276 : ∃ fn c, S.P.funcs[276]? = some fn ∧ fn.body = some c ∧ okCode S.ty S.pf A276 fn.ntmps c = true ∧ (fn.name == "runtime.NumGoroutine") = false := ⟨_, _, Tryz.func276, rfl, by kernel_rfl, by kernel_rfl⟩
theorem k289 : ∃ fn c, S.P.funcs[289]? = some fn ∧ fn.body = some c ∧ okCode S.ty S.pf A289 fn.ntmps c = true ∧ (fn.name == "runtime.NumGoroutine") = false := ⟨_, _, Tryz.func289, rfl, by kernel_rfl, by kernel_rfl⟩
theorem k311 : ∃ fn c, S.P.funcs[311]? = some fn ∧ fn.body = some c ∧ okCode S.ty S.pf A311 fn.ntmps c = true ∧ (fn.name == "runtime.NumGoroutine") = false := ⟨_, _, Tryz.func311, rfl, by kernel_rfl, by kernel_rfl⟩
theorem k6 : ∃ fn c, S.P.funcs[6]? = some fn ∧ fn.body = some c ∧ okCode S.ty S.pf A6 fn.ntmps c = true ∧ (fn.name == "runtime.NumGoroutine") = false := ⟨_, _, Tryz.func6, rfl, by kernel_rfl, by kernel_rfl⟩
end X
