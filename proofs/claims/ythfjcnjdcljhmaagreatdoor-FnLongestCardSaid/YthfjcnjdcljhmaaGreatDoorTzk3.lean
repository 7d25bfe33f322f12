/- Static checks of the functions, one by one. -/
import Derived.Test.YthfjcnjdcljhmaaGreatDoorTzt
open Go Go.V Go.Proofs
namespace X
set_option maxRecDepth 100000
set_option maxHeartbeats 4000000
set_option linter.unusedSimpArgs false
set_option linter.unusedVariables false
theorem k21 : ∃ fn c, S.P.funcs[21]? = some fn ∧ fn.body = some c ∧ okCode S.ty S.pf A21 fn.ntmps c = true ∧ (fn.name == "runtime.NumGoroutine") = false := ⟨_, _, Tryz.func21, rfl, by kernel_rfl, by kernel_rfl⟩
theorem k29 : ∃ fn c, S.P.funcs[29]? = some fn ∧ fn.body = some c ∧ okCode S.ty S.pf A29 fn.ntmps c = true ∧ (fn.name == "runtime.NumGoroutine") = false := ⟨_, _, Tryz.func29, rfl, by kernel_rfl, by kernel_rfl⟩
theorem k47 : ∃ fn c, S.P.funcs[47]? = some fn ∧ fn.body = some c ∧ okCode S.ty S.pf A47 fn.ntmps c = true ∧ (fn.name == "runtime.NumGoroutine") = false := ⟨_, _, Tryz.func47, rfl, by kernel_rfl, by kernel_rfl⟩
theorem k57 : ∃ fn c, S.P.funcs[57]? = some fn ∧ fn.body = some c ∧ okCode S.ty S.pf A57 fn.ntmps c = true ∧ (fn.name == "runtime.NumGoroutine") = false := ⟨_, _, Tryz.func57, rfl, by kernel_rfl, by kernel_rfl⟩
theorem k74 : ∃ fn c, S.P.funcs[74]? = some fn ∧ fn.body = some c ∧ okCode S.ty S.pf A74 fn.ntmps c = true ∧ (fn.name == "runtime.NumGoroutine") = false := ⟨_, _, Tryz.func74, rfl, by kernel_rfl, by kernel_rfl⟩
theorem k80 : ∃ fn c, S.P.funcs[80]? = some fn ∧ fn.body = some c ∧ okCode S.ty S.pf A80 fn.ntmps c = true ∧ (fn.name == "runtime.NumGoroutine") = false := ⟨_, _, Tryz.func80, rfl, by kernel_rfl, by kernel_rfl⟩
theorem k94 : ∃ fn c, S.P.funcs[94]? = some fn ∧ fn.body = some c ∧ okCode S.ty S.pf A94 fn.ntmps c = true ∧ (fn.name == "runtime.NumGoroutine") = false := ⟨_, _, Tryz.func94, rfl, by kernel_rfl, by kernel_rfl⟩
theorem k110 : ∃ fn c, S.P.funcs[110]? = some fn ∧ fn.body = some c ∧ okCode S.ty S.pf A110 fn.ntmps c = true ∧ (fn.name == "runtime.NumGoroutine") = false := ⟨_, _, Tryz.func110, rfl, by kernel_rfl, by kernel_rfl⟩
theorem k117 : ∃ fn c, S.P.funcs[117]? = some fn ∧ fn.body = some c ∧ okCode S.ty S.pf A117 fn.ntmps c = true ∧ (fn.name == "runtime.NumGoroutine") = false := ⟨_, _, Tryz.func117, rfl, by kernel_rfl, by kernel_rfl⟩
theorem k128 : ∃ fn c, S.P.funcs[128]? = some fn ∧ fn.body = some c ∧ okCode S.ty S.pf A128 fn.ntmps c = true ∧ (fn.name == "runtime.NumGoroutine") = false := ⟨_, _, Tryz.func128, rfl, by kernel_rfl, by kernel_rfl⟩
theorem k146 : ∃ fn c, S.P.funcs[146]? = some fn ∧ fn.body = some c ∧ okCode S.ty S.pf A146 fn.ntmps c = true ∧ (fn.name == "runtime.NumGoroutine") = false := ⟨_, _, Tryz.func146, rfl, by kernel_rfl, by kernel_rfl⟩
theorem k162 : ∃ fn c, S.P.funcs[162]? = some fn ∧ fn.body = some c ∧ okCode S.ty S.pf A162 fn.ntmps c = true ∧ (fn.name == "runtime.NumGoroutine") = false := ⟨_, _, Tryz.func162, rfl, by kernel_rfl, by kernel_rfl⟩
theorem k169 : ∃ fn c, S.P.funcs[169]? = some fn ∧ fn.body = some c ∧ okCode S.ty S.pf A169 fn.ntmps c = true ∧ (fn.name == "runtime.NumGoroutine") = false := ⟨_, _, Tryz.func169, rfl, by kernel_rfl, by kernel_rfl⟩
theorem k180 : ∃ fn c, S.P.funcs[180]? = some fn ∧ fn.body = some c ∧ okCode S.ty S.pf A180 fn.ntmps c = true ∧ (fn.name == "runtime.NumGoroutine") = false := ⟨_, _, Tryz.func180, rfl, by kernel_rfl, by kernel_rfl⟩
theorem k196 : ∃ fn c, S.P.funcs[196]? = some fn ∧ fn.body = some c ∧ okCode S.ty S.pf A196 fn.ntmps c = true ∧ (fn.name == "runtime.NumGoroutine") = false := ⟨_, _, Tryz.func196, rfl, by kernel_rfl, by kernel_rfl⟩
theorem k219 : ∃ fn c, S.P.funcs[219]? = some fn ∧ fn.body = some c ∧ okCode S.ty S.pf A219 fn.ntmps c = true ∧ (fn.name == "runtime.NumGoroutine") = false := ⟨_, _, Tryz.func219, rfl, by kernel_rfl, by kernel_rfl⟩
theorem k314 : ∃ fn c, S.P.funcs[314]? = some fn ∧ fn.body = some c ∧ okCode S.ty S.pf A314 fn.ntmps c = true ∧ (fn.name == "runtime.NumGoroutine") = false := ⟨_, _, Tryz.func314, rfl, by kernel_rfl, by kernel_rfl⟩
theorem k39 : ∃ fn c, S.P.funcs[39]? = some fn ∧ fn.body = some c ∧ okCode S.ty S.pf A39 fn.ntmps c = true ∧ (fn.name == "runtime.NumGoroutine") = false := ⟨_, _, Tryz.func39, rfl, by kernel_rfl, by kernel_rfl⟩
end X
