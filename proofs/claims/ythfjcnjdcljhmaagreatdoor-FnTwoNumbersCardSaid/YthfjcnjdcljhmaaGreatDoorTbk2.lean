/- Static checks of the functions, one by one. -/
import Derived.Test.YthfjcnjdcljhmaaGreatDoorTbt
open Go Go.V Go.Proofs
namespace X
set_option maxRecDepth 100000
set_option maxHeartbeats 4000000
set_option linter.unusedSimpArgs false
set_option linter.unusedVariables false
theorem k19 : ∃ fn c, S.P.funcs[19]? = some fn ∧ fn.body = some c ∧ okCode S.ty S.pf A19 fn.ntmps c = true ∧ (fn.name == "runtime.NumGoroutine") = false := ⟨_, _, Tryz.func19, rfl, by kernel_rfl, by kernel_rfl⟩
theorem k38 : ∃ fn c, S.P.funcs[38]? = some fn ∧ fn.body = some c ∧ okCode S.ty S.pf A38 fn.ntmps c = true ∧ (fn.name == "runtime.NumGoroutine") = false := ⟨_, _, Tryz.func38, rfl, by kernel_rfl, by kernel_rfl⟩
theorem k48 : ∃ fn c, S.P.funcs[48]? = some fn ∧ fn.body = some c ∧ okCode S.ty S.pf A48 fn.ntmps c = true ∧ (fn.name == "runtime.NumGoroutine") = false := ⟨_, _, Tryz.func48, rfl, by kernel_rfl, by kernel_rfl⟩
theorem k57 : ∃ fn c, S.P.funcs[57]? = some fn ∧ fn.body = some c ∧ okCode S.ty S.pf A57 fn.ntmps c = true ∧ (fn.name == "runtime.NumGoroutine") = false := ⟨_, _, Tryz.func57, rfl, by kernel_rfl, by kernel_rfl⟩
theorem k74 : ∃ fn c, S.P.funcs[74]? = some fn ∧ fn.body = some c ∧ okCode S.ty S.pf A74 fn.ntmps c = true ∧ (fn.name == "runtime.NumGoroutine") = false := ⟨_, _, Tryz.func74, rfl, by kernel_rfl, by kernel_rfl⟩
theorem k80 : ∃ fn c, S.P.funcs[80]? = some fn ∧ fn.body = some c ∧ okCode S.ty S.pf A80 fn.ntmps c = true ∧ (fn.name == "runtime.NumGoroutine") = false := ⟨_, _, Tryz.func80, rfl, by kernel_rfl, by kernel_rfl⟩
theorem k94 : ∃ fn c, S.P.funcs[94]? = some fn ∧ fn.body = some c ∧ okCode S.ty S.pf A94 fn.ntmps c = true ∧ (fn.name == "runtime.NumGoroutine") = false := ⟨_, _, Tryz.func94, rfl, by kernel_rfl, by kernel_rfl⟩
theorem k110 : ∃ fn c, S.P.funcs[110]? = some fn ∧ fn.body = some c ∧ okCode S.ty S.pf A110 fn.ntmps c = true ∧ (fn.name == "runtime.NumGoroutine") = false := ⟨_, _, Tryz.func110, rfl, by kernel_rfl, by kernel_rfl⟩
theorem k116 : ∃ fn c, S.P.funcs[116]? = some fn ∧ fn.body = some c ∧ okCode S.ty S.pf A116 fn.ntmps c = true ∧ (fn.name == "runtime.NumGoroutine") = false := ⟨_, _, Tryz.func116, rfl, by kernel_rfl, by kernel_rfl⟩
theorem k122 : ∃ fn c, S.P.funcs[122]? = some fn ∧ fn.body = some c ∧ okCode S.ty S.pf A122 fn.ntmps c = true ∧ (fn.name == "runtime.NumGoroutine") = false := ⟨_, _, Tryz.func122, rfl, by kernel_rfl, by kernel_rfl⟩
theorem k129 : ∃ fn c, S.P.funcs[129]? = some fn ∧ fn.body = some c ∧ okCode S.ty S.pf A129 fn.ntmps c = true ∧ (fn.name == "runtime.NumGoroutine") = false := ⟨_, _, Tryz.func129, rfl, by kernel_rfl, by kernel_rfl⟩
theorem k146 : ∃ fn c, S.P.funcs[146]? = some fn ∧ fn.body = some c ∧ okCode S.ty S.pf A146 fn.ntmps c = true ∧ (fn.name == "runtime.NumGoroutine") = false := ⟨_, _, Tryz.func146, rfl, by kernel_rfl, by kernel_rfl⟩
theorem k161 : ∃ fn c, S.P.funcs[161]? = some fn ∧ fn.body = some c ∧ okCode S.ty S.pf A161 fn.ntmps c = true ∧ (fn.name == "runtime.NumGoroutine") = false := ⟨_, _, Tryz.func161, rfl, by kernel_rfl, by kernel_rfl⟩
theorem k168 : ∃ fn c, S.P.funcs[168]? = some fn ∧ fn.body = some c ∧ okCode S.ty S.pf A168 fn.ntmps c = true ∧ (fn.name == "runtime.NumGoroutine") = false := ⟨_, _, Tryz.func168, rfl, by kernel_rfl, by kernel_rfl⟩
theorem k175 : ∃ fn c, S.P.funcs[175]? = some fn ∧ fn.body = some c ∧ okCode S.ty S.pf A175 fn.ntmps c = true ∧ (fn.name == "runtime.NumGoroutine") = false := ⟨_, _, Tryz.func175, rfl, by kernel_rfl, by kernel_rfl⟩
theorem k181 : ∃ fn c, S.P.funcs[181]? = some fn ∧ fn.body = some c ∧ okCode S.ty S.pf A181 fn.ntmps c = true ∧ (fn.name == "runtime.NumGoroutine") = false := ⟨_, _, Tryz.func181, rfl, by kernel_rfl, by kernel_rfl⟩
theorem k197 : ∃ fn c, S.P.funcs[197]? = some fn ∧ fn.body = some c ∧ okCode S.ty S.pf A197 fn.ntmps c = true ∧ (fn.name == "runtime.NumGoroutine") = false := ⟨_, _, Tryz.func197, rfl, by kernel_rfl, by kernel_rfl⟩
theorem k212 : ∃ fn c, S.P.funcs[212]? = some fn ∧ fn.body = some c ∧ okCode S.ty S.pf A212 fn.ntmps c = true ∧ (fn.name == "runtime.NumGoroutine") = false := ⟨_, _, Tryz.func212, rfl, by kernel_rfl, by kernel_rfl⟩
theorem k219 : ∃ fn c, S.P.funcs[219]? = some fn ∧ fn.body = some c ∧ okCode S.ty S.pf A219 fn.ntmps c = true ∧ (fn.name == "runtime.NumGoroutine") = false := ⟨_, _, Tryz.func219, rfl, by kernel_rfl, by kernel_rfl⟩
theorem k251 : ∃ fn c, S.P.funcs[251]? = some fn ∧ fn.body = some c ∧ okCode S.ty S.pf A251 fn.ntmps c = true ∧ (fn.name == "runtime.NumGoroutine") = false := ⟨_, _, Tryz.func251, rfl, by kernel_rfl, by kernel_rfl⟩
theorem k266 : ∃ fn c, S.P.funcs[266]? = some fn ∧ fn.body = some c ∧ okCode S.ty S.pf A266 fn.ntmps c = true ∧ (fn.name == "runtime.NumGoroutine") = false := ⟨_, _, Tryz.func266, rfl, by kernel_rfl, by kernel_rfl⟩
theorem k283 : ∃ fn c, S.P.funcs[283]? = some fn ∧ fn.body = some c ∧ okCode S.ty S.pf A283 fn.ntmps c = true ∧ (fn.name == "runtime.NumGoroutine") = false := ⟨_, _, Tryz.func283, rfl, by kernel_rfl, by kernel_rfl⟩
theorem k292 : ∃ fn c, S.P.funcs[292]? = some fn ∧ fn.body = some c ∧ okCode S.ty S.pf A292 fn.ntmps c = true ∧ (fn.name == "runtime.NumGoroutine") = false := ⟨_, _, Tryz.func292, rfl, by kernel_rfl, by kernel_rfl⟩
theorem k332 : ∃ fn c, S.P.funcs[332]? = some fn ∧ fn.body = some c ∧ okCode S.ty S.pf A332 fn.ntmps c = true ∧ (fn.name == "runtime.NumGoroutine") = false := ⟨_, _, Tryz.func332, rfl, by kernel_rfl, by kernel_rfl⟩
theorem k16 : ∃ fn c, S.P.funcs[16]? = some fn ∧ fn.body = some c ∧ okCode S.ty S.pf A16 fn.ntmps c = true ∧ (fn.name == "runtime.NumGoroutine") = false := ⟨_, _, Tryz.func16, rfl, by kernel_rfl, by kernel_rfl⟩
end X
