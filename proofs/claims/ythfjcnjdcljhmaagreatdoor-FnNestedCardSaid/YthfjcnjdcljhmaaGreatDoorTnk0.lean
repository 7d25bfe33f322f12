/- Static checks of the functions, one by one. -/
import Derived.Test.YthfjcnjdcljhmaaGreatDoorTnt
open Go Go.V Go.Proofs
namespace X
set_option maxRecDepth 100000
set_option maxHeartbeats 4000000
set_option linter.unusedSimpArgs false
set_option linter.unusedVariables false
theorem k19 : ∃ fn c, S.P.funcs[19]? = some fn ∧ fn.body = some c ∧ okCode S.ty S.pf A19 fn.ntmps c = true ∧ (fn.name == "runtime.NumGoroutine") = false := ⟨_, _, Tryz.func19, rfl, by kernel_rfl, by kernel_rfl⟩
theorem k38 : ∃ fn c, S.P.funcs[38]? = some fn ∧ fn.body = some c ∧ okCode S.ty S.pf A38 fn.ntmps c = true ∧ (fn.name == "runtime.NumGoroutine") = false := ⟨_, _, Tryz.func38, rfl, by kernel_rfl, by kernel_rfl⟩
theorem k49 : ∃ fn c, S.P.funcs[49]? = some fn ∧ fn.body = some c ∧ okCode S.ty S.pf A49 fn.ntmps c = true ∧ (fn.name == "runtime.NumGoroutine") = false := ⟨_, _, Tryz.func49, rfl, by kernel_rfl, by kernel_rfl⟩
theorem k56 : ∃ fn c, S.P.funcs[56]? = some fn ∧ fn.body = some c ∧ okCode S.ty S.pf A56 fn.ntmps c = true ∧ (fn.name == "runtime.NumGoroutine") = false := ⟨_, _, Tryz.func56, rfl, by kernel_rfl, by kernel_rfl⟩
theorem k73 : ∃ fn c, S.P.funcs[73]? = some fn ∧ fn.body = some c ∧ okCode S.ty S.pf A73 fn.ntmps c = true ∧ (fn.name == "runtime.NumGoroutine") = false := ⟨_, _, Tryz.func73, rfl, by kernel_rfl, by kernel_rfl⟩
theorem k80 : ∃ fn c, S.P.funcs[80]? = some fn ∧ fn.body = some c ∧ okCode S.ty S.pf A80 fn.ntmps c = true ∧ (fn.name == "runtime.NumGoroutine") = false := ⟨_, _, Tryz.func80, rfl, by kernel_rfl, by kernel_rfl⟩
theorem k89 : ∃ fn c, S.P.funcs[89]? = some fn ∧ fn.body = some c ∧ okCode S.ty S.pf A89 fn.ntmps c = true ∧ (fn.name == "runtime.NumGoroutine") = false := ⟨_, _, Tryz.func89, rfl, by kernel_rfl, by kernel_rfl⟩
theorem k95 : ∃ fn c, S.P.funcs[95]? = some fn ∧ fn.body = some c ∧ okCode S.ty S.pf A95 fn.ntmps c = true ∧ (fn.name == "runtime.NumGoroutine") = false := ⟨_, _, Tryz.func95, rfl, by kernel_rfl, by kernel_rfl⟩
theorem k112 : ∃ fn c, S.P.funcs[112]? = some fn ∧ fn.body = some c ∧ okCode S.ty S.pf A112 fn.ntmps c = true ∧ (fn.name == "runtime.NumGoroutine") = false := ⟨_, _, Tryz.func112, rfl, by kernel_rfl, by kernel_rfl⟩
theorem k118 : ∃ fn c, S.P.funcs[118]? = some fn ∧ fn.body = some c ∧ okCode S.ty S.pf A118 fn.ntmps c = true ∧ (fn.name == "runtime.NumGoroutine") = false := ⟨_, _, Tryz.func118, rfl, by kernel_rfl, by kernel_rfl⟩
theorem k132 : ∃ fn c, S.P.funcs[132]? = some fn ∧ fn.body = some c ∧ okCode S.ty S.pf A132 fn.ntmps c = true ∧ (fn.name == "runtime.NumGoroutine") = false := ⟨_, _, Tryz.func132, rfl, by kernel_rfl, by kernel_rfl⟩
theorem k138 : ∃ fn c, S.P.funcs[138]? = some fn ∧ fn.body = some c ∧ okCode S.ty S.pf A138 fn.ntmps c = true ∧ (fn.name == "runtime.NumGoroutine") = false := ⟨_, _, Tryz.func138, rfl, by kernel_rfl, by kernel_rfl⟩
theorem k144 : ∃ fn c, S.P.funcs[144]? = some fn ∧ fn.body = some c ∧ okCode S.ty S.pf A144 fn.ntmps c = true ∧ (fn.name == "runtime.NumGoroutine") = false := ⟨_, _, Tryz.func144, rfl, by kernel_rfl, by kernel_rfl⟩
theorem k163 : ∃ fn c, S.P.funcs[163]? = some fn ∧ fn.body = some c ∧ okCode S.ty S.pf A163 fn.ntmps c = true ∧ (fn.name == "runtime.NumGoroutine") = false := ⟨_, _, Tryz.func163, rfl, by kernel_rfl, by kernel_rfl⟩
theorem k169 : ∃ fn c, S.P.funcs[169]? = some fn ∧ fn.body = some c ∧ okCode S.ty S.pf A169 fn.ntmps c = true ∧ (fn.name == "runtime.NumGoroutine") = false := ⟨_, _, Tryz.func169, rfl, by kernel_rfl, by kernel_rfl⟩
theorem k186 : ∃ fn c, S.P.funcs[186]? = some fn ∧ fn.body = some c ∧ okCode S.ty S.pf A186 fn.ntmps c = true ∧ (fn.name == "runtime.NumGoroutine") = false := ⟨_, _, Tryz.func186, rfl, by kernel_rfl, by kernel_rfl⟩
theorem k192 : ∃ fn c, S.P.funcs[192]? = some fn ∧ fn.body = some c ∧ okCode S.ty S.pf A192 fn.ntmps c = true ∧ (fn.name == "runtime.NumGoroutine") = false := ⟨_, _, Tryz.func192, rfl, by kernel_rfl, by kernel_rfl⟩
theorem k211 : ∃ fn c, S.P.funcs[211]? = some fn ∧ fn.body = some c ∧ okCode S.ty S.pf A211 fn.ntmps c = true ∧ (fn.name == "runtime.NumGoroutine") = false := ⟨_, _, Tryz.func211, rfl, by kernel_rfl, by kernel_rfl⟩
theorem k235 : ∃ fn c, S.P.funcs[235]? = some fn ∧ fn.body = some c ∧ okCode S.ty S.pf A235 fn.ntmps c = true ∧ (fn.name == "runtime.NumGoroutine") = false := ⟨_, _, Tryz.func235, rfl, by kernel_rfl, by kernel_rfl⟩
theorem k241 : ∃ fn c, S.P.funcs[241]? = some fn ∧ fn.body = some c ∧ okCode S.ty S.pf A241 fn.ntmps c = true ∧ (fn.name == "runtime.NumGoroutine") = false := ⟨_, _, Tryz.func241, rfl, by kernel_rfl, by kernel_rfl⟩
theorem k264 : ∃ fn c, S.P.funcs[264]? = some fn ∧ fn.body = some c ∧ okCode S.ty S.pf A264 fn.ntmps c = true ∧ (fn.name == "runtime.NumGoroutine") = false := ⟨_, _, Tryz.func264, rfl, by kernel_rfl, by kernel_rfl⟩
theorem k279 : ∃ fn c, S.P.funcs[279]? = some fn ∧ fn.body = some c ∧ okCode S.ty S.pf A279 fn.ntmps c = true ∧ (fn.name == "runtime.NumGoroutine") = false := ⟨_, _, Tryz.func279, rfl, by kernel_rfl, by kernel_rfl⟩
theorem k292 : ∃ fn c, S.P.funcs[292]? = some fn ∧ fn.body = some c ∧ okCode S.ty S.pf A292 fn.ntmps c = true ∧ (fn.name == "runtime.NumGoroutine") = false := ⟨_, _, Tryz.func292, rfl, by kernel_rfl, by kernel_rfl⟩
theorem k318 : ∃ fn c, S.P.funcs[318]? = some fn ∧ fn.body = some c ∧ okCode S.ty S.pf A318 fn.ntmps c = true ∧ (fn.name == "runtime.NumGoroutine") = false := ⟨_, _, Tryz.func318, rfl, by kernel_rfl, by kernel_rfl⟩
theorem k9 : ∃ fn c, S.P.funcs[9]? = some fn ∧ fn.body = some c ∧ okCode S.ty S.pf A9 fn.ntmps c = true ∧ (fn.name == "runtime.NumGoroutine") = false := ⟨_, _, Tryz.func9, rfl, by kernel_rfl, by kernel_rfl⟩
end X
