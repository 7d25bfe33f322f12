/- Static checks of the functions, one by one. -/
import Derived.Test.YthfjcnjdcljhmaaGreatDoorTzt
open Go Go.V Go.Proofs
namespace X
set_option maxRecDepth 100000
set_option maxHeartbeats 4000000
set_option linter.unusedSimpArgs false
set_option linter.unusedVariables false
theorem k24 : ∃ fn c, S.P.funcs[24]? = some fn ∧ fn.body = some c ∧ okCode S.ty S.pf A24 fn.ntmps c = true ∧ (fn.name == "runtime.NumGoroutine") = false := ⟨_, _, Tryz.func24, rfl, by kernel_rfl, by kernel_rfl⟩
theorem k42 : ∃ fn c, S.P.funcs[42]? = some fn ∧ fn.body = some c ∧ okCode S.ty S.pf A42 fn.ntmps c = true ∧ (fn.name == "runtime.NumGoroutine") = false := ⟨_, _, Tryz.func42, rfl, by kernel_rfl, by kernel_rfl⟩
theorem k50 : ∃ fn c, S.P.funcs[50]? = some fn ∧ fn.body = some c ∧ okCode S.ty S.pf A50 fn.ntmps c = true ∧ (fn.name == "runtime.NumGoroutine") = false := ⟨_, _, Tryz.func50, rfl, by kernel_rfl, by kernel_rfl⟩
theorem k59 : ∃ fn c, S.P.funcs[59]? = some fn ∧ fn.body = some c ∧ okCode S.ty S.pf A59 fn.ntmps c = true ∧ (fn.name == "runtime.NumGoroutine") = false := ⟨_, _, Tryz.func59, rfl, by kernel_rfl, by kernel_rfl⟩
theorem k76 : ∃ fn c, S.P.funcs[76]? = some fn ∧ fn.body = some c ∧ okCode S.ty S.pf A76 fn.ntmps c = true ∧ (fn.name == "runtime.NumGoroutine") = false := ⟨_, _, Tryz.func76, rfl, by kernel_rfl, by kernel_rfl⟩
theorem k82 : ∃ fn c, S.P.funcs[82]? = some fn ∧ fn.body = some c ∧ okCode S.ty S.pf A82 fn.ntmps c = true ∧ (fn.name == "runtime.NumGoroutine") = false := ⟨_, _, Tryz.func82, rfl, by kernel_rfl, by kernel_rfl⟩
theorem k96 : ∃ fn c, S.P.funcs[96]? = some fn ∧ fn.body = some c ∧ okCode S.ty S.pf A96 fn.ntmps c = true ∧ (fn.name == "runtime.NumGoroutine") = false := ⟨_, _, Tryz.func96, rfl, by kernel_rfl, by kernel_rfl⟩
theorem k112 : ∃ fn c, S.P.funcs[112]? = some fn ∧ fn.body = some c ∧ okCode S.ty S.pf A112 fn.ntmps c = true ∧ (fn.name == "runtime.NumGoroutine") = false := ⟨_, _, Tryz.func112, rfl, by kernel_rfl, by kernel_rfl⟩
theorem k119 : ∃ fn c, S.P.funcs[119]? = some fn ∧ fn.body = some c ∧ okCode S.ty S.pf A119 fn.ntmps c = true ∧ (fn.name == "runtime.NumGoroutine") = false := ⟨_, _, Tryz.func119, rfl, by kernel_rfl, by kernel_rfl⟩
theorem k130 : ∃ fn c, S.P.funcs[130]? = some fn ∧ fn.body = some c ∧ okCode S.ty S.pf A130 fn.ntmps c = true ∧ (fn.name == "runtime.NumGoroutine") = false := ⟨_, _, Tryz.func130, rfl, by kernel_rfl, by kernel_rfl⟩
theorem k148 : ∃ fn c, S.P.funcs[148]? = some fn ∧ fn.body = some c ∧ okCode S.ty S.pf A148 fn.ntmps c = true ∧ (fn.name == "runtime.NumGoroutine") = false := ⟨_, _, Tryz.func148, rfl, by kernel_rfl, by kernel_rfl⟩
theorem k165 : ∃ fn c, S.P.funcs[165]? = some fn ∧ fn.body = some c ∧ okCode S.ty S.pf A165 fn.ntmps c = true ∧ (fn.name == "runtime.NumGoroutine") = false := ⟨_, _, Tryz.func165, rfl, by kernel_rfl, by kernel_rfl⟩
theorem k176 : ∃ fn c, S.P.funcs[176]? = some fn ∧ fn.body = some c ∧ okCode S.ty S.pf A176 fn.ntmps c = true ∧ (fn.name == "runtime.NumGoroutine") = false := ⟨_, _, Tryz.func176, rfl, by kernel_rfl, by kernel_rfl⟩
theorem k182 : ∃ fn c, S.P.funcs[182]? = some fn ∧ fn.body = some c ∧ okCode S.ty S.pf A182 fn.ntmps c = true ∧ (fn.name == "runtime.NumGoroutine") = false := ⟨_, _, Tryz.func182, rfl, by kernel_rfl, by kernel_rfl⟩
theorem k199 : ∃ fn c, S.P.funcs[199]? = some fn ∧ fn.body = some c ∧ okCode S.ty S.pf A199 fn.ntmps c = true ∧ (fn.name == "runtime.NumGoroutine") = false := ⟨_, _, Tryz.func199, rfl, by kernel_rfl, by kernel_rfl⟩
theorem k229 : ∃ fn c, S.P.funcs[229]? = some fn ∧ fn.body = some c ∧ okCode S.ty S.pf A229 fn.ntmps c = true ∧ (fn.name == "runtime.NumGoroutine") = false := ⟨_, _, Tryz.func229, rfl, by kernel_rfl, by kernel_rfl⟩
theorem k8 : ∃ fn c, S.P.funcs[8]? = some fn ∧ fn.body = some c ∧ okCode S.ty S.pf A8 fn.ntmps c = true ∧ (fn.name == "runtime.NumGoroutine") = false := ⟨_, _, Tryz.func8, rfl, by kernel_rfl, by kernel_rfl⟩
theorem k41 : ∃ fn c, S.P.funcs[41]? = some fn ∧ fn.body = some c ∧ okCode S.ty S.pf A41 fn.ntmps c = true ∧ (fn.name == "runtime.NumGoroutine") = false := ⟨_, _, Tryz.func41, rfl, by kernel_rfl, by kernel_rfl⟩
end X
