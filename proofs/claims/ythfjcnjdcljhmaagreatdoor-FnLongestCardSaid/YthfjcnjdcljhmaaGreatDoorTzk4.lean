/- Static checks of the functions, one by one. -/
import Derived.Test.YthfjcnjdcljhmaaGreatDoorTzt
open Go Go.V Go.Proofs
namespace X
set_option maxRecDepth 100000
set_option maxHeartbeats 4000000
set_option linter.unusedSimpArgs false
set_option linter.unusedVariables false
theorem k23 : ∃ fn c, S.P.funcs[23]? = some fn ∧ fn.body = some c ∧ okCode S.ty S.pf A23 fn.ntmps c = true ∧ (fn.name == "runtime.NumGoroutine") = false := ⟨_, _, Tryz.func23, rfl, by kernel_rfl, by kernel_rfl⟩
theorem k38 : ∃ fn c, S.P.funcs[38]? = some fn ∧ fn.body = some c ∧ okCode S.ty S.pf A38 fn.ntmps c = true ∧ (fn.name == "runtime.NumGoroutine") = false := ⟨_, _, Tryz.func38, rfl, by kernel_rfl, by kernel_rfl⟩
theorem k48 : ∃ fn c, S.P.funcs[48]? = some fn ∧ fn.body = some c ∧ okCode S.ty S.pf A48 fn.ntmps c = true ∧ (fn.name == "runtime.NumGoroutine") = false := ⟨_, _, Tryz.func48, rfl, by kernel_rfl, by kernel_rfl⟩
theorem k58 : ∃ fn c, S.P.funcs[58]? = some fn ∧ fn.body = some c ∧ okCode S.ty S.pf A58 fn.ntmps c = true ∧ (fn.name == "runtime.NumGoroutine") = false := ⟨_, _, Tryz.func58, rfl, by kernel_rfl, by kernel_rfl⟩
theorem k75 : ∃ fn c, S.P.funcs[75]? = some fn ∧ fn.body = some c ∧ okCode S.ty S.pf A75 fn.ntmps c = true ∧ (fn.name == "runtime.NumGoroutine") = false := ⟨_, _, Tryz.func75, rfl, by kernel_rfl, by kernel_rfl⟩
theorem k81 : ∃ fn c, S.P.funcs[81]? = some fn ∧ fn.body = some c ∧ okCode S.ty S.pf A81 fn.ntmps c = true ∧ (fn.name == "runtime.NumGoroutine") = false := ⟨_, _, Tryz.func81, rfl, by kernel_rfl, by kernel_rfl⟩
theorem k95 : ∃ fn c, S.P.funcs[95]? = some fn ∧ fn.body = some c ∧ okCode S.ty S.pf A95 fn.ntmps c = true ∧ (fn.name == "runtime.NumGoroutine") = false := ⟨_, _, Tryz.func95, rfl, by kernel_rfl, by kernel_rfl⟩
theorem k111 : ∃ fn c, S.P.funcs[111]? = some fn ∧ fn.body = some c ∧ okCode S.ty S.pf A111 fn.ntmps c = true ∧ (fn.name == "runtime.NumGoroutine") = false := ⟨_, _, Tryz.func111, rfl, by kernel_rfl, by kernel_rfl⟩
theorem k118 : ∃ fn c, S.P.funcs[118]? = some fn ∧ fn.body = some c ∧ okCode S.ty S.pf A118 fn.ntmps c = true ∧ (fn.name == "runtime.NumGoroutine") = false := ⟨_, _, Tryz.func118, rfl, by kernel_rfl, by kernel_rfl⟩
theorem k129 : ∃ fn c, S.P.funcs[129]? = some fn ∧ fn.body = some c ∧ okCode S.ty S.pf A129 fn.ntmps c = true ∧ (fn.name == "runtime.NumGoroutine") = false := ⟨_, _, Tryz.func129, rfl, by kernel_rfl, by kernel_rfl⟩
theorem k147 : ∃ fn c, S.P.funcs[147]? = some fn ∧ fn.body = some c ∧ okCode S.ty S.pf A147 fn.ntmps c = true ∧ (fn.name == "runtime.NumGoroutine") = false := ⟨_, _, Tryz.func147, rfl, by kernel_rfl, by kernel_rfl⟩
theorem k164 : ∃ fn c, S.P.funcs[164]? = some fn ∧ fn.body = some c ∧ okCode S.ty S.pf A164 fn.ntmps c = true ∧ (fn.name == "runtime.NumGoroutine") = false := ⟨_, _, Tryz.func164, rfl, by kernel_rfl, by kernel_rfl⟩
theorem k173 : ∃ fn c, S.P.funcs[173]? = some fn ∧ fn.body = some c ∧ okCode S.ty S.pf A173 fn.ntmps c = true ∧ (fn.name == "runtime.NumGoroutine") = false := ⟨_, _, Tryz.func173, rfl, by kernel_rfl, by kernel_rfl⟩
theorem k181 : ∃ fn c, S.P.funcs[181]? = some fn ∧ fn.body = some c ∧ okCode S.ty S.pf A181 fn.ntmps c = true ∧ (fn.name == "runtime.NumGoroutine") = false := ⟨_, _, Tryz.func181, rfl, by kernel_rfl, by kernel_rfl⟩
theorem k198 : ∃ fn c, S.P.funcs[198]? = some fn ∧ fn.body = some c ∧ okCode S.ty S.pf A198 fn.ntmps c = true ∧ (fn.name == "runtime.NumGoroutine") = false := ⟨_, _, Tryz.func198, rfl, by kernel_rfl, by kernel_rfl⟩
theorem k225 : ∃ fn c, S.P.funcs[225]? = some fn ∧ fn.body = some c ∧ okCode S.ty S.pf A225 fn.ntmps c = true ∧ (fn.name == "runtime.NumGoroutine") = false := ⟨_, _, Tryz.func225, rfl, by kernel_rfl, by kernel_rfl⟩
theorem k4 : ∃ fn c, S.P.funcs[4]? = some fn ∧ fn.body = some c ∧ okCode S.ty S.pf A4 fn.ntmps c = true ∧ (fn.name == "runtime.NumGoroutine") = false := ⟨_, _, Tryz.func4, rfl, by kernel_rfl, by kernel_rfl⟩
theorem k40 : ∃ fn c, S.P.funcs[40]? = some fn ∧ fn.body = some c ∧ okCode S.ty S.pf A40 fn.ntmps c = true ∧ (fn.name == "runtime.NumGoroutine") = false := ⟨_, _, Tryz.func40, rfl, by kernel_rfl, by kernel_rfl⟩
end X
