/- Static checks of the functions, one by one. -/
import Derived.Test.YthfjcnjdcljhmaaGreatDoorTnt
open Go Go.V Go.Proofs
namespace X
set_option maxRecDepth 100000
set_option maxHeartbeats 4000000
set_option linter.unusedSimpArgs false
set_option linter.unusedVariables false
theorem k22 : ∃ fn c, S.P.funcs[22]? = some fn ∧ fn.body = some c ∧ okCode S.ty S.pf A22 fn.ntmps c = true ∧ (fn.name == "runtime.NumGoroutine") = false := ⟨_, _, Tryz.func22, rfl, by kernel_rfl, by kernel_rfl⟩
theorem k46 : ∃ fn c, S.P.funcs[46]? = some fn ∧ fn.body = some c ∧ okCode S.ty S.pf A46 fn.ntmps c = true ∧ (fn.name == "runtime.NumGoroutine") = false := ⟨_, _, Tryz.func46, rfl, by kernel_rfl, by kernel_rfl⟩
theorem k53 : ∃ fn c, S.P.funcs[53]? = some fn ∧ fn.body = some c ∧ okCode S.ty S.pf A53 fn.ntmps c = true ∧ (fn.name == "runtime.NumGoroutine") = false := ⟨_, _, Tryz.func53, rfl, by kernel_rfl, by kernel_rfl⟩
theorem k59 : ∃ fn c, S.P.funcs[59]? = some fn ∧ fn.body = some c ∧ okCode S.ty S.pf A59 fn.ntmps c = true ∧ (fn.name == "runtime.NumGoroutine") = false := ⟨_, _, Tryz.func59, rfl, by kernel_rfl, by kernel_rfl⟩
theorem k76 : ∃ fn c, S.P.funcs[76]? = some fn ∧ fn.body = some c ∧ okCode S.ty S.pf A76 fn.ntmps c = true ∧ (fn.name == "runtime.NumGoroutine") = false := ⟨_, _, Tryz.func76, rfl, by kernel_rfl, by kernel_rfl⟩
theorem k86 : ∃ fn c, S.P.funcs[86]? = some fn ∧ fn.body = some c ∧ okCode S.ty S.pf A86 fn.ntmps c = true ∧ (fn.name == "runtime.NumGoroutine") = false := ⟨_, _, Tryz.func86, rfl, by kernel_rfl, by kernel_rfl⟩
theorem k92 : ∃ fn c, S.P.funcs[92]? = some fn ∧ fn.body = some c ∧ okCode S.ty S.pf A92 fn.ntmps c = true ∧ (fn.name == "runtime.NumGoroutine") = false := ⟨_, _, Tryz.func92, rfl, by kernel_rfl, by kernel_rfl⟩
theorem k101 : ∃ fn c, S.P.funcs[101]? = some fn ∧ fn.body = some c ∧ okCode S.ty S.pf A101 fn.ntmps c = true ∧ (fn.name == "runtime.NumGoroutine") = false := ⟨_, _, Tryz.func101, rfl, by kernel_rfl, by kernel_rfl⟩
theorem k115 : ∃ fn c, S.P.funcs[115]? = some fn ∧ fn.body = some c ∧ okCode S.ty S.pf A115 fn.ntmps c = true ∧ (fn.name == "runtime.NumGoroutine") = false := ⟨_, _, Tryz.func115, rfl, by kernel_rfl, by kernel_rfl⟩
theorem k121 : ∃ fn c, S.P.funcs[121]? = some fn ∧ fn.body = some c ∧ okCode S.ty S.pf A121 fn.ntmps c = true ∧ (fn.name == "runtime.NumGoroutine") = false := ⟨_, _, Tryz.func121, rfl, by kernel_rfl, by kernel_rfl⟩
theorem k135 : ∃ fn c, S.P.funcs[135]? = some fn ∧ fn.body = some c ∧ okCode S.ty S.pf A135 fn.ntmps c = true ∧ (fn.name == "runtime.NumGoroutine") = false := ⟨_, _, Tryz.func135, rfl, by kernel_rfl, by kernel_rfl⟩
theorem k141 : ∃ fn c, S.P.funcs[141]? = some fn ∧ fn.body = some c ∧ okCode S.ty S.pf A141 fn.ntmps c = true ∧ (fn.name == "runtime.NumGoroutine") = false := ⟨_, _, Tryz.func141, rfl, by kernel_rfl, by kernel_rfl⟩
theorem k148 : ∃ fn c, S.P.funcs[148]? = some fn ∧ fn.body = some c ∧ okCode S.ty S.pf A148 fn.ntmps c = true ∧ (fn.name == "runtime.NumGoroutine") = false := ⟨_, _, Tryz.func148, rfl, by kernel_rfl, by kernel_rfl⟩
theorem k166 : ∃ fn c, S.P.funcs[166]? = some fn ∧ fn.body = some c ∧ okCode S.ty S.pf A166 fn.ntmps c = true ∧ (fn.name == "runtime.NumGoroutine") = false := ⟨_, _, Tryz.func166, rfl, by kernel_rfl, by kernel_rfl⟩
theorem k172 : ∃ fn c, S.P.funcs[172]? = some fn ∧ fn.body = some c ∧ okCode S.ty S.pf A172 fn.ntmps c = true ∧ (fn.name == "runtime.NumGoroutine") = false := ⟨_, _, Tryz.func172, rfl, by kernel_rfl, by kernel_rfl⟩
theorem k189 : ∃ fn c, S.P.funcs[189]? = some fn ∧ fn.body = some c ∧ okCode S.ty S.pf A189 fn.ntmps c = true ∧ (fn.name == "runtime.NumGoroutine") = false := ⟨_, _, Tryz.func189, rfl, by kernel_rfl, by kernel_rfl⟩
theorem k199 : ∃ fn c, S.P.funcs[199]? = some fn ∧ fn.body = some c ∧ okCode S.ty S.pf A199 fn.ntmps c = true ∧ (fn.name == "runtime.NumGoroutine") = false := ⟨_, _, Tryz.func199, rfl, by kernel_rfl, by kernel_rfl⟩
theorem k214 : ∃ fn c, S.P.funcs[214]? = some fn ∧ fn.body = some c ∧ okCode S.ty S.pf A214 fn.ntmps c = true ∧ (fn.name == "runtime.NumGoroutine") = false := ⟨_, _, Tryz.func214, rfl, by kernel_rfl, by kernel_rfl⟩
theorem k238 : ∃ fn c, S.P.funcs[238]? = some fn ∧ fn.body = some c ∧ okCode S.ty S.pf A238 fn.ntmps c = true ∧ (fn.name == "runtime.NumGoroutine") = false := ⟨_, _, Tryz.func238, rfl, by kernel_rfl, by kernel_rfl⟩
theorem k244 : ∃ fn c, S.P.funcs[244]? = some fn ∧ fn.body = some c ∧ okCode S.ty S.pf A244 fn.ntmps c = true ∧ (fn.name == "runtime.NumGoroutine") = false := ⟨_, _, Tryz.func244, rfl, by kernel_rfl, by kernel_rfl⟩
theorem k267 : ∃ fn c, S.P.funcs[267]? = some fn ∧ fn.body = some c ∧ okCode S.ty S.pf A267 fn.ntmps c = true ∧ (fn.name == "runtime.NumGoroutine") = false := ⟨_, _, Tryz.func267, rfl, by kernel_rfl, by kernel_rfl⟩
theorem k282 : ∃ fn c, S.P.funcs[282]? = some fn ∧ fn.body = some c ∧ okCode S.ty S.pf A282 fn.ntmps c = true ∧ (fn.name == "runtime.NumGoroutine") = false := ⟨_, _, Tryz.func282, rfl, by kernel_rfl, by kernel_rfl⟩
theorem k300 : ∃ fn c, S.P.funcs[300]? = some fn ∧ fn.body = some c ∧ okCode S.ty S.pf A300 fn.ntmps c = true ∧ (fn.name == "runtime.NumGoroutine") = false := ⟨_, _, Tryz.func300, rfl, by kernel_rfl, by kernel_rfl⟩
theorem k341 : ∃ fn c, S.P.funcs[341]? = some fn ∧ fn.body = some c ∧ okCode S.ty S.pf A341 fn.ntmps c = true ∧ (fn.name == "runtime.NumGoroutine") = false := ⟨_, _, Tryz.func341, rfl, by kernel_rfl, by kernel_rfl⟩
theorem k39 : ∃ fn c, S.P.funcs[39]? = some fn ∧ fn.body = some c ∧ okCode S.ty S.pf A39 fn.ntmps c = true ∧ (fn.name == "runtime.NumGoroutine") = false := ⟨_, _, Tryz.func39, rfl, by kernel_rfl, by kernel_rfl⟩
end X
