/- Static checks of the functions, one by one. -/
import Derived.Test.YthfjcnjdcljhmaaGreatDoorTbt
open Go Go.V Go.Proofs
namespace X
set_option maxRecDepth 100000
set_option maxHeartbeats 4000000
set_option linter.unusedSimpArgs false
set_option linter.unusedVariables false
theorem k20 : ∃ fn c, S.P.funcs[20]? = some fn ∧ fn.body = some c ∧ okCode S.ty S.pf A20 fn.ntmps c = true ∧ (fn.name == "runtime.NumGoroutine") = false := ⟨_, _, Tryz.func20, rfl, by kernel_rfl, by kernel_rfl⟩
theorem k42 : ∃ fn c, S.P.funcs[42]? = some fn ∧ fn.body = some c ∧ okCode S.ty S.pf A42 fn.ntmps c = true ∧ (fn.name == "runtime.NumGoroutine") = false := ⟨_, _, Tryz.func42, rfl, by kernel_rfl, by kernel_rfl⟩
theorem k49 : ∃ fn c, S.P.funcs[49]? = some fn ∧ fn.body = some c ∧ okCode S.ty S.pf A49 fn.ntmps c = true ∧ (fn.name == "runtime.NumGoroutine") = false := ⟨_, _, Tryz.func49, rfl, by kernel_rfl, by kernel_rfl⟩
theorem k58 : ∃ fn c, S.P.funcs[58]? = some fn ∧ fn.body = some c ∧ okCode S.ty S.pf A58 fn.ntmps c = true ∧ (fn.name == "runtime.NumGoroutine") = false := ⟨_, _, Tryz.func58, rfl, by kernel_rfl, by kernel_rfl⟩
theorem k75 : ∃ fn c, S.P.funcs[75]? = some fn ∧ fn.body = some c ∧ okCode S.ty S.pf A75 fn.ntmps c = true ∧ (fn.name == "runtime.NumGoroutine") = false := ⟨_, _, Tryz.func75, rfl, by kernel_rfl, by kernel_rfl⟩
theorem k81 : ∃ fn c, S.P.funcs[81]? = some fn ∧ fn.body = some c ∧ okCode S.ty S.pf A81 fn.ntmps c = true ∧ (fn.name == "runtime.NumGoroutine") = false := ⟨_, _, Tryz.func81, rfl, by kernel_rfl, by kernel_rfl⟩
theorem k95 : ∃ fn c, S.P.funcs[95]? = some fn ∧ fn.body = some c ∧ okCode S.ty S.pf A95 fn.ntmps c = true ∧ (fn.name == "runtime.NumGoroutine") = false := ⟨_, _, Tryz.func95, rfl, by kernel_rfl, by kernel_rfl⟩
theorem k111 : ∃ fn c, S.P.funcs[111]? = some fn ∧ fn.body = some c ∧ okCode S.ty S.pf A111 fn.ntmps c = true ∧ (fn.name == "runtime.NumGoroutine") = false := ⟨_, _, Tryz.func111, rfl, by kernel_rfl, by kernel_rfl⟩
theorem k117 : ∃ fn c, S.P.funcs[117]? = some fn ∧ fn.body = some c ∧ okCode S.ty S.pf A117 fn.ntmps c = true ∧ (fn.name == "runtime.NumGoroutine") = false := ⟨_, _, Tryz.func117, rfl, by kernel_rfl, by kernel_rfl⟩
theorem k123 : ∃ fn c, S.P.funcs[123]? = some fn ∧ fn.body = some c ∧ okCode S.ty S.pf A123 fn.ntmps c = true ∧ (fn.name == "runtime.NumGoroutine") = false := ⟨_, _, Tryz.func123, rfl, by kernel_rfl, by kernel_rfl⟩
theorem k130 : ∃ fn c, S.P.funcs[130]? = some fn ∧ fn.body = some c ∧ okCode S.ty S.pf A130 fn.ntmps c = true ∧ (fn.name == "runtime.NumGoroutine") = false := ⟨_, _, Tryz.func130, rfl, by kernel_rfl, by kernel_rfl⟩
theorem k147 : ∃ fn c, S.P.funcs[147]? = some fn ∧ fn.body = some c ∧ okCode S.ty S.pf A147 fn.ntmps c = true ∧ (fn.name == "runtime.NumGoroutine") = false := ⟨_, _, Tryz.func147, rfl, by kernel_rfl, by kernel_rfl⟩
theorem k162 : ∃ fn c, S.P.funcs[162]? = some fn ∧ fn.body = some c ∧ okCode S.ty S.pf A162 fn.ntmps c = true ∧ (fn.name == "runtime.NumGoroutine") = false := ⟨_, _, Tryz.func162, rfl, by kernel_rfl, by kernel_rfl⟩
theorem k169 : ∃ fn c, S.P.funcs[169]? = some fn ∧ fn.body = some c ∧ okCode S.ty S.pf A169 fn.ntmps c = true ∧ (fn.name == "runtime.NumGoroutine") = false := ⟨_, _, Tryz.func169, rfl, by kernel_rfl, by kernel_rfl⟩
theorem k176 : ∃ fn c, S.P.funcs[176]? = some fn ∧ fn.body = some c ∧ okCode S.ty S.pf A176 fn.ntmps c = true ∧ (fn.name == "runtime.NumGoroutine") = false := ⟨_, _, Tryz.func176, rfl, by kernel_rfl, by kernel_rfl⟩
theorem k182 : ∃ fn c, S.P.funcs[182]? = some fn ∧ fn.body = some c ∧ okCode S.ty S.pf A182 fn.ntmps c = true ∧ (fn.name == "runtime.NumGoroutine") = false := ⟨_, _, Tryz.func182, rfl, by kernel_rfl, by kernel_rfl⟩
theorem k199 : ∃ fn c, S.P.funcs[199]? = some fn ∧ fn.body = some c ∧ okCode S.ty S.pf A199 fn.ntmps c = true ∧ (fn.name == "runtime.NumGoroutine") = false := ⟨_, _, Tryz.func199, rfl, by kernel_rfl, by kernel_rfl⟩
theorem k213 : ∃ fn c, S.P.funcs[213]? = some fn ∧ fn.body = some c ∧ okCode S.ty S.pf A213 fn.ntmps c = true ∧ (fn.name == "runtime.NumGoroutine") = false := ⟨_, _, Tryz.func213, rfl, by kernel_rfl, by kernel_rfl⟩
theorem k225 : ∃ fn c, S.P.funcs[225]? = some fn ∧ fn.body = some c ∧ okCode S.ty S.pf A225 fn.ntmps c = true ∧ (fn.name == "runtime.NumGoroutine") = false := ⟨_, _, Tryz.func225, rfl, by kernel_rfl, by kernel_rfl⟩
theorem k253 : ∃ fn c, S.P.funcs[253]? = some fn ∧ fn.body = some c ∧ okCode S.ty S.pf A253 fn.ntmps c = true ∧ (fn.name == "runtime.NumGoroutine") = false := ⟨_, _, Tryz.func253, rfl, by kernel_rfl, by kernel_rfl⟩
theorem k267 : ∃ fn c, S.P.funcs[267]? = some fn ∧ fn.body = some c ∧ okCode S.ty S.pf A267 fn.ntmps c = true ∧ (fn.name == "runtime.NumGoroutine") = false := ⟨_, _, Tryz.func267, rfl, by kernel_rfl, by kernel_rfl⟩
theorem k284 : ∃ fn c, S.P.funcs[284]? = some fn ∧ fn.body = some c ∧ okCode S.ty S.pf A284 fn.ntmps c = true ∧ (fn.name == "runtime.NumGoroutine") = false := ⟨_, _, Tryz.func284, rfl, by kernel_rfl, by kernel_rfl⟩
theorem k301 : ∃ fn c, S.P.funcs[301]? = some fn ∧ fn.body = some c ∧ okCode S.ty S.pf A301 fn.ntmps c = true ∧ (fn.name == "runtime.NumGoroutine") = false := ⟨_, _, Tryz.func301, rfl, by kernel_rfl, by kernel_rfl⟩
theorem k333 : ∃ fn c, S.P.funcs[333]? = some fn ∧ fn.body = some c ∧ okCode S.ty S.pf A333 fn.ntmps c = true ∧ (fn.name == "runtime.NumGoroutine") = false := ⟨_, _, Tryz.func333, rfl, by kernel_rfl, by kernel_rfl⟩
theorem k39 : ∃ fn c, S.P.funcs[39]? = some fn ∧ fn.body = some c ∧ okCode S.ty S.pf A39 fn.ntmps c = true ∧ (fn.name == "runtime.NumGoroutine") = false := ⟨_, _, Tryz.func39, rfl, by kernel_rfl, by kernel_rfl⟩
end X
