/- Static checks of the functions, one by one. -/
import Derived.Test.YthfjcnjdcljhmaaGreatDoorTnt
open Go Go.V Go.Proofs
namespace X
set_option maxRecDepth 100000
set_option maxHeartbeats 4000000
set_option linter.unusedSimpArgs false
set_option linter.unusedVariables false
theorem k29 : ∃ fn c, S.P.funcs[29]? = some fn ∧ fn.body = some c ∧ okCode S.ty S.pf A29 fn.ntmps c = true ∧ (fn.name == "runtime.NumGoroutine") = false := ⟨_, _, Tryz.func29, rfl, by kernel_rfl, by kernel_rfl⟩
theorem k48 : ∃ fn c, S.P.funcs[48]? = some fn ∧ fn.body = some c ∧ okCode S.ty S.pf A48 fn.ntmps c = true ∧ (fn.name == "runtime.NumGoroutine") = false := ⟨_, _, Tryz.func48, rfl, by kernel_rfl, by kernel_rfl⟩
theorem k55 : ∃ fn c, S.P.funcs[55]? = some fn ∧ fn.body = some c ∧ okCode S.ty S.pf A55 fn.ntmps c = true ∧ (fn.name == "runtime.NumGoroutine") = false := ⟨_, _, Tryz.func55, rfl, by kernel_rfl, by kernel_rfl⟩
theorem k72 : ∃ fn c, S.P.funcs[72]? = some fn ∧ fn.body = some c ∧ okCode S.ty S.pf A72 fn.ntmps c = true ∧ (fn.name == "runtime.NumGoroutine") = false := ⟨_, _, Tryz.func72, rfl, by kernel_rfl, by kernel_rfl⟩
theorem k79 : ∃ fn c, S.P.funcs[79]? = some fn ∧ fn.body = some c ∧ okCode S.ty S.pf A79 fn.ntmps c = true ∧ (fn.name == "runtime.NumGoroutine") = false := ⟨_, _, Tryz.func79, rfl, by kernel_rfl, by kernel_rfl⟩
theorem k88 : ∃ fn c, S.P.funcs[88]? = some fn ∧ fn.body = some c ∧ okCode S.ty S.pf A88 fn.ntmps c = true ∧ (fn.name == "runtime.NumGoroutine") = false := ⟨_, _, Tryz.func88, rfl, by kernel_rfl, by kernel_rfl⟩
theorem k94 : ∃ fn c, S.P.funcs[94]? = some fn ∧ fn.body = some c ∧ okCode S.ty S.pf A94 fn.ntmps c = true ∧ (fn.name == "runtime.NumGoroutine") = false := ⟨_, _, Tryz.func94, rfl, by kernel_rfl, by kernel_rfl⟩
theorem k111 : ∃ fn c, S.P.funcs[111]? = some fn ∧ fn.body = some c ∧ okCode S.ty S.pf A111 fn.ntmps c = true ∧ (fn.name == "runtime.NumGoroutine") = false := ⟨_, _, Tryz.func111, rfl, by kernel_rfl, by kernel_rfl⟩
theorem k117 : ∃ fn c, S.P.funcs[117]? = some fn ∧ fn.body = some c ∧ okCode S.ty S.pf A117 fn.ntmps c = true ∧ (fn.name == "runtime.NumGoroutine") = false := ⟨_, _, Tryz.func117, rfl, by kernel_rfl, by kernel_rfl⟩
theorem k125 : ∃ fn c, S.P.funcs[125]? = some fn ∧ fn.body = some c ∧ okCode S.ty S.pf A125 fn.ntmps c = true ∧ (fn.name == "runtime.NumGoroutine") = false := ⟨_, _, Tryz.func125, rfl, by kernel_rfl, by kernel_rfl⟩
theorem k137 : ∃ fn c, S.P.funcs[137]? = some fn ∧ fn.body = some c ∧ okCode S.ty S.pf A137 fn.ntmps c = true ∧ (fn.name == "runtime.NumGoroutine") = false := ⟨_, _, Tryz.func137, rfl, by kernel_rfl, by kernel_rfl⟩
theorem k143 : ∃ fn c, S.P.funcs[143]? = some fn ∧ fn.body = some c ∧ okCode S.ty S.pf A143 fn.ntmps c = true ∧ (fn.name == "runtime.NumGoroutine") = false := ⟨_, _, Tryz.func143, rfl, by kernel_rfl, by kernel_rfl⟩
theorem k162 : ∃ fn c, S.P.funcs[162]? = some fn ∧ fn.body = some c ∧ okCode S.ty S.pf A162 fn.ntmps c = true ∧ (fn.name == "runtime.NumGoroutine") = false := ⟨_, _, Tryz.func162, rfl, by kernel_rfl, by kernel_rfl⟩
theorem k168 : ∃ fn c, S.P.funcs[168]? = some fn ∧ fn.body = some c ∧ okCode S.ty S.pf A168 fn.ntmps c = true ∧ (fn.name == "runtime.NumGoroutine") = false := ⟨_, _, Tryz.func168, rfl, by kernel_rfl, by kernel_rfl⟩
theorem k182 : ∃ fn c, S.P.funcs[182]? = some fn ∧ fn.body = some c ∧ okCode S.ty S.pf A182 fn.ntmps c = true ∧ (fn.name == "runtime.NumGoroutine") = false := ⟨_, _, Tryz.func182, rfl, by kernel_rfl, by kernel_rfl⟩
theorem k191 : ∃ fn c, S.P.funcs[191]? = some fn ∧ fn.body = some c ∧ okCode S.ty S.pf A191 fn.ntmps c = true ∧ (fn.name == "runtime.NumGoroutine") = false := ⟨_, _, Tryz.func191, rfl, by kernel_rfl, by kernel_rfl⟩
theorem k210 : ∃ fn c, S.P.funcs[210]? = some fn ∧ fn.body = some c ∧ okCode S.ty S.pf A210 fn.ntmps c = true ∧ (fn.name == "runtime.NumGoroutine") = false := ⟨_, _, Tryz.func210, rfl, by kernel_rfl, by kernel_rfl⟩
theorem k234 : ∃ fn c, S.P.funcs[234]? = some fn ∧ fn.body = some c ∧ okCode S.ty S.pf A234 fn.ntmps c = true ∧ (fn.name == "runtime.NumGoroutine") = false := ⟨_, _, Tryz.func234, rfl, by kernel_rfl, by kernel_rfl⟩
theorem k240 : ∃ fn c, S.P.funcs[240]? = some fn ∧ fn.body = some c ∧ okCode S.ty S.pf A240 fn.ntmps c = true ∧ (fn.name == "runtime.NumGoroutine") = false := ⟨_, _, Tryz.func240, rfl, by kernel_rfl, by kernel_rfl⟩
theorem k251 : ∃ fn c, S.P.funcs[251]? = some fn ∧ fn.body = some c ∧ okCode S.ty S.pf A251 fn.ntmps c = true ∧ (fn.name == "runtime.NumGoroutine") = false := ⟨_, _, Tryz.func251, rfl, by kernel_rfl, by kernel_rfl⟩
theorem k278 : ∃ fn c, S.P.funcs[278]? = some fn ∧ fn.body = some c ∧ okCode S.ty S.pf A278 fn.ntmps c = true ∧ (fn.name == "runtime.NumGoroutine") = false := ⟨_, _, Tryz.func278, rfl, by kernel_rfl, by kernel_rfl⟩
theorem k291 : ∃ fn c, S.P.funcs[291]? = some fn ∧ fn.body = some c ∧ okCode S.ty S.pf A291 fn.ntmps c = true ∧ (fn.name == "runtime.NumGoroutine") = false := ⟨_, _, Tryz.func291, rfl, by kernel_rfl, by kernel_rfl⟩
theorem k314 : ∃ fn c, S.P.funcs[314]? = some fn ∧ fn.body = some c ∧ okCode S.ty S.pf A314 fn.ntmps c = true ∧ (fn.name == "runtime.NumGoroutine") = false := ⟨_, _, Tryz.func314, rfl, by kernel_rfl, by kernel_rfl⟩
theorem k348 : ∃ fn c, S.P.funcs[348]? = some fn ∧ fn.body = some c ∧ okCode S.ty S.pf A348 fn.ntmps c = true ∧ (fn.name == "runtime.NumGoroutine") = false := ⟨_, _, Tryz.func348, rfl, by kernel_rfl, by kernel_rfl⟩
theorem k41 : ∃ fn c, S.P.funcs[41]? = some fn ∧ fn.body = some c ∧ okCode S.ty S.pf A41 fn.ntmps c = true ∧ (fn.name == "runtime.NumGoroutine") = false := ⟨_, _, Tryz.func41, rfl, by kernel_rfl, by kernel_rfl⟩
end X
