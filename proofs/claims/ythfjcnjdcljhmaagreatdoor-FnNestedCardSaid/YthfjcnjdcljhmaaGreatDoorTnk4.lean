/- Static checks of the functions, one by one. -/
import Derived.Test.YthfjcnjdcljhmaaGreatDoorTnt
open Go Go.V Go.Proofs
namespace X
set_option maxRecDepth 100000
set_option maxHeartbeats 4000000
set_option linter.unusedSimpArgs false
set_option linter.unusedVariables false
theorem k28 : ∃ fn c, S.P.funcs[28]? = some fn ∧ fn.body = some c ∧ okCode S.ty S.pf A28 fn.ntmps c = true ∧ (fn.name == "runtime.NumGoroutine") = false := ⟨_, _, Tryz.func28, rfl, by kernel_rfl, by kernel_rfl⟩
theorem k47 : ∃ fn c, S.P.funcs[47]? = some fn ∧ fn.body = some c ∧ okCode S.ty S.pf A47 fn.ntmps c = true ∧ (fn.name == "runtime.NumGoroutine") = false := ⟨_, _, Tryz.func47, rfl, by kernel_rfl, by kernel_rfl⟩
theorem k54 : ∃ fn c, S.P.funcs[54]? = some fn ∧ fn.body = some c ∧ okCode S.ty S.pf A54 fn.ntmps c = true ∧ (fn.name == "runtime.NumGoroutine") = false := ⟨_, _, Tryz.func54, rfl, by kernel_rfl, by kernel_rfl⟩
theorem k71 : ∃ fn c, S.P.funcs[71]? = some fn ∧ fn.body = some c ∧ okCode S.ty S.pf A71 fn.ntmps c = true ∧ (fn.name == "runtime.NumGoroutine") = false := ⟨_, _, Tryz.func71, rfl, by kernel_rfl, by kernel_rfl⟩
theorem k78 : ∃ fn c, S.P.funcs[78]? = some fn ∧ fn.body = some c ∧ okCode S.ty S.pf A78 fn.ntmps c = true ∧ (fn.name == "runtime.NumGoroutine") = false := ⟨_, _, Tryz.func78, rfl, by kernel_rfl, by kernel_rfl⟩
theorem k87 : ∃ fn c, S.P.funcs[87]? = some fn ∧ fn.body = some c ∧ okCode S.ty S.pf A87 fn.ntmps c = true ∧ (fn.name == "runtime.NumGoroutine") = false := ⟨_, _, Tryz.func87, rfl, by kernel_rfl, by kernel_rfl⟩
theorem k93 : ∃ fn c, S.P.funcs[93]? = some fn ∧ fn.body = some c ∧ okCode S.ty S.pf A93 fn.ntmps c = true ∧ (fn.name == "runtime.NumGoroutine") = false := ⟨_, _, Tryz.func93, rfl, by kernel_rfl, by kernel_rfl⟩
theorem k110 : ∃ fn c, S.P.funcs[110]? = some fn ∧ fn.body = some c ∧ okCode S.ty S.pf A110 fn.ntmps c = true ∧ (fn.name == "runtime.NumGoroutine") = false := ⟨_, _, Tryz.func110, rfl, by kernel_rfl, by kernel_rfl⟩
theorem k116 : ∃ fn c, S.P.funcs[116]? = some fn ∧ fn.body = some c ∧ okCode S.ty S.pf A116 fn.ntmps c = true ∧ (fn.name == "runtime.NumGoroutine") = false := ⟨_, _, Tryz.func116, rfl, by kernel_rfl, by kernel_rfl⟩
theorem k123 : ∃ fn c, S.P.funcs[123]? = some fn ∧ fn.body = some c ∧ okCode S.ty S.pf A123 fn.ntmps c = true ∧ (fn.name == "runtime.NumGoroutine") = false := ⟨_, _, Tryz.func123, rfl, by kernel_rfl, by kernel_rfl⟩
theorem k136 : ∃ fn c, S.P.funcs[136]? = some fn ∧ fn.body = some c ∧ okCode S.ty S.pf A136 fn.ntmps c = true ∧ (fn.name == "runtime.NumGoroutine") = false := ⟨_, _, Tryz.func136, rfl, by kernel_rfl, by kernel_rfl⟩
theorem k142 : ∃ fn c, S.P.funcs[142]? = some fn ∧ fn.body = some c ∧ okCode S.ty S.pf A142 fn.ntmps c = true ∧ (fn.name == "runtime.NumGoroutine") = false := ⟨_, _, Tryz.func142, rfl, by kernel_rfl, by kernel_rfl⟩
theorem k161 : ∃ fn c, S.P.funcs[161]? = some fn ∧ fn.body = some c ∧ okCode S.ty S.pf A161 fn.ntmps c = true ∧ (fn.name == "runtime.NumGoroutine") = false := ⟨_, _, Tryz.func161, rfl, by kernel_rfl, by kernel_rfl⟩
theorem k167 : ∃ fn c, S.P.funcs[167]? = some fn ∧ fn.body = some c ∧ okCode S.ty S.pf A167 fn.ntmps c = true ∧ (fn.name == "runtime.NumGoroutine") = false := ⟨_, _, Tryz.func167, rfl, by kernel_rfl, by kernel_rfl⟩
theorem k173 : ∃ fn c, S.P.funcs[173]? = some fn ∧ fn.body = some c ∧ okCode S.ty S.pf A173 fn.ntmps c = true ∧ (fn.name == "runtime.NumGoroutine") = false := ⟨_, _, Tryz.func173, rfl, by kernel_rfl, by kernel_rfl⟩
theorem k190 : ∃ fn c, S.P.funcs[190]? = some fn ∧ fn.body = some c ∧ okCode S.ty S.pf A190 fn.ntmps c = true ∧ (fn.name == "runtime.NumGoroutine") = false := ⟨_, _, Tryz.func190, rfl, by kernel_rfl, by kernel_rfl⟩
theorem k209 : ∃ fn c, S.P.funcs[209]? = some fn ∧ fn.body = some c ∧ okCode S.ty S.pf A209 fn.ntmps c = true ∧ (fn.name == "runtime.NumGoroutine") = false := ⟨_, _, Tryz.func209, rfl, by kernel_rfl, by kernel_rfl⟩
theorem k229 : ∃ fn c, S.P.funcs[229]? = some fn ∧ fn.body = some c ∧ okCode S.ty S.pf A229 fn.ntmps c = true ∧ (fn.name == "runtime.NumGoroutine") = false := ⟨_, _, Tryz.func229, rfl, by kernel_rfl, by kernel_rfl⟩
theorem k239 : ∃ fn c, S.P.funcs[239]? = some fn ∧ fn.body = some c ∧ okCode S.ty S.pf A239 fn.ntmps c = true ∧ (fn.name == "runtime.NumGoroutine") = false := ⟨_, _, Tryz.func239, rfl, by kernel_rfl, by kernel_rfl⟩
theorem k245 : ∃ fn c, S.P.funcs[245]? = some fn ∧ fn.body = some c ∧ okCode S.ty S.pf A245 fn.ntmps c = true ∧ (fn.name == "runtime.NumGoroutine") = false := ⟨_, _, Tryz.func245, rfl, by kernel_rfl, by kernel_rfl⟩
theorem k268 : ∃ fn c, S.P.funcs[268]? = some fn ∧ fn.body = some c ∧ okCode S.ty S.pf A268 fn.ntmps c = true ∧ (fn.name == "runtime.NumGoroutine") = false := ⟨_, _, Tryz.func268, rfl, by kernel_rfl, by kernel_rfl⟩
theorem k287 : ∃ fn c, S.P.funcs[287]? = some fn ∧ fn.body = some c ∧ okCode S.ty S.pf A287 fn.ntmps c = true ∧ (fn.name == "runtime.NumGoroutine") = false := ⟨_, _, Tryz.func287, rfl, by kernel_rfl, by kernel_rfl⟩
theorem k301 : ∃ fn c, S.P.funcs[301]? = some fn ∧ fn.body = some c ∧ okCode S.ty S.pf A301 fn.ntmps c = true ∧ (fn.name == "runtime.NumGoroutine") = false := ⟨_, _, Tryz.func301, rfl, by kernel_rfl, by kernel_rfl⟩
theorem k342 : ∃ fn c, S.P.funcs[342]? = some fn ∧ fn.body = some c ∧ okCode S.ty S.pf A342 fn.ntmps c = true ∧ (fn.name == "runtime.NumGoroutine") = false := ⟨_, _, Tryz.func342, rfl, by kernel_rfl, by kernel_rfl⟩
theorem k40 : ∃ fn c, S.P.funcs[40]? = some fn ∧ fn.body = some c ∧ okCode S.ty S.pf A40 fn.ntmps c = true ∧ (fn.name == "runtime.NumGoroutine") = false := ⟨_, _, Tryz.func40, rfl, by kernel_rfl, by kernel_rfl⟩
end X
