/- Static checks of the functions, one by one. -/
import Derived.Test.YthfjcnjdcljhmaaGreatDoorTgt
open Go Go.V Go.Proofs
namespace X
set_option maxRecDepth 100000
set_option maxHeartbeats 4000000
set_option linter.unusedSimpArgs false
set_option linter.unusedVariables false
theorem k22 : ∃ fn c, S.P.funcs[22]? = some fn ∧ fn.body = some c ∧ okCode S.ty S.pf A22 fn.ntmps c = true ∧ (fn.name == "runtime.NumGoroutine") = false := ⟨_, _, Tryz.func22, rfl, by kernel_rfl, by kernel_rfl⟩
theorem k42 : ∃ fn c, S.P.funcs[42]? = some fn ∧ fn.body = some c ∧ okCode S.ty S.pf A42 fn.ntmps c = true ∧ (fn.name == "runtime.NumGoroutine") = false := ⟨_, _, Tryz.func42, rfl, by kernel_rfl, by kernel_rfl⟩
theorem k48 : ∃ fn c, S.P.funcs[48]? = some fn ∧ fn.body = some c ∧ okCode S.ty S.pf A48 fn.ntmps c = true ∧ (fn.name == "runtime.NumGoroutine") = false := ⟨_, _, Tryz.func48, rfl, by kernel_rfl, by kernel_rfl⟩
theorem k57 : ∃ fn c, S.P.funcs[57]? = some fn ∧ fn.body = some c ∧ okCode S.ty S.pf A57 fn.ntmps c = true ∧ (fn.name == "runtime.NumGoroutine") = false := ⟨_, _, Tryz.func57, rfl, by kernel_rfl, by kernel_rfl⟩
theorem k73 : ∃ fn c, S.P.funcs[73]? = some fn ∧ fn.body = some c ∧ okCode S.ty S.pf A73 fn.ntmps c = true ∧ (fn.name == "runtime.NumGoroutine") = false := ⟨_, _, Tryz.func73, rfl, by kernel_rfl, by kernel_rfl⟩
theorem k79 : ∃ fn c, S.P.funcs[79]? = some fn ∧ fn.body = some c ∧ okCode S.ty S.pf A79 fn.ntmps c = true ∧ (fn.name == "runtime.NumGoroutine") = false := ⟨_, _, Tryz.func79, rfl, by kernel_rfl, by kernel_rfl⟩
theorem k93 : ∃ fn c, S.P.funcs[93]? = some fn ∧ fn.body = some c ∧ okCode S.ty S.pf A93 fn.ntmps c = true ∧ (fn.name == "runtime.NumGoroutine") = false := ⟨_, _, Tryz.func93, rfl, by kernel_rfl, by kernel_rfl⟩
theorem k101 : ∃ fn c, S.P.funcs[101]? = some fn ∧ fn.body = some c ∧ okCode S.ty S.pf A101 fn.ntmps c = true ∧ (fn.name == "runtime.NumGoroutine") = false := ⟨_, _, Tryz.func101, rfl, by kernel_rfl, by kernel_rfl⟩
theorem k110 : ∃ fn c, S.P.funcs[110]? = some fn ∧ fn.body = some c ∧ okCode S.ty S.pf A110 fn.ntmps c = true ∧ (fn.name == "runtime.NumGoroutine") = false := ⟨_, _, Tryz.func110, rfl, by kernel_rfl, by kernel_rfl⟩
theorem k116 : ∃ fn c, S.P.funcs[116]? = some fn ∧ fn.body = some c ∧ okCode S.ty S.pf A116 fn.ntmps c = true ∧ (fn.name == "runtime.NumGoroutine") = false := ⟨_, _, Tryz.func116, rfl, by kernel_rfl, by kernel_rfl⟩
theorem k123 : ∃ fn c, S.P.funcs[123]? = some fn ∧ fn.body = some c ∧ okCode S.ty S.pf A123 fn.ntmps c = true ∧ (fn.name == "runtime.NumGoroutine") = false := ⟨_, _, Tryz.func123, rfl, by kernel_rfl, by kernel_rfl⟩
theorem k129 : ∃ fn c, S.P.funcs[129]? = some fn ∧ fn.body = some c ∧ okCode S.ty S.pf A129 fn.ntmps c = true ∧ (fn.name == "runtime.NumGoroutine") = false := ⟨_, _, Tryz.func129, rfl, by kernel_rfl, by kernel_rfl⟩
theorem k146 : ∃ fn c, S.P.funcs[146]? = some fn ∧ fn.body = some c ∧ okCode S.ty S.pf A146 fn.ntmps c = true ∧ (fn.name == "runtime.NumGoroutine") = false := ⟨_, _, Tryz.func146, rfl, by kernel_rfl, by kernel_rfl⟩
theorem k154 : ∃ fn c, S.P.funcs[154]? = some fn ∧ fn.body = some c ∧ okCode S.ty S.pf A154 fn.ntmps c = true ∧ (fn.name == "runtime.NumGoroutine") = false := ⟨_, _, Tryz.func154, rfl, by kernel_rfl, by kernel_rfl⟩
theorem k160 : ∃ fn c, S.P.funcs[160]? = some fn ∧ fn.body = some c ∧ okCode S.ty S.pf A160 fn.ntmps c = true ∧ (fn.name == "runtime.NumGoroutine") = false := ⟨_, _, Tryz.func160, rfl, by kernel_rfl, by kernel_rfl⟩
theorem k166 : ∃ fn c, S.P.funcs[166]? = some fn ∧ fn.body = some c ∧ okCode S.ty S.pf A166 fn.ntmps c = true ∧ (fn.name == "runtime.NumGoroutine") = false := ⟨_, _, Tryz.func166, rfl, by kernel_rfl, by kernel_rfl⟩
theorem k175 : ∃ fn c, S.P.funcs[175]? = some fn ∧ fn.body = some c ∧ okCode S.ty S.pf A175 fn.ntmps c = true ∧ (fn.name == "runtime.NumGoroutine") = false := ⟨_, _, Tryz.func175, rfl, by kernel_rfl, by kernel_rfl⟩
theorem k181 : ∃ fn c, S.P.funcs[181]? = some fn ∧ fn.body = some c ∧ okCode S.ty S.pf A181 fn.ntmps c = true ∧ (fn.name == "runtime.NumGoroutine") = false := ⟨_, _, Tryz.func181, rfl, by kernel_rfl, by kernel_rfl⟩
theorem k197 : ∃ fn c, S.P.funcs[197]? = some fn ∧ fn.body = some c ∧ okCode S.ty S.pf A197 fn.ntmps c = true ∧ (fn.name == "runtime.NumGoroutine") = false := ⟨_, _, Tryz.func197, rfl, by kernel_rfl, by kernel_rfl⟩
theorem k205 : ∃ fn c, S.P.funcs[205]? = some fn ∧ fn.body = some c ∧ okCode S.ty S.pf A205 fn.ntmps c = true ∧ (fn.name == "runtime.NumGoroutine") = false := ⟨_, _, Tryz.func205, rfl, by kernel_rfl, by kernel_rfl⟩
theorem k212 : ∃ fn c, S.P.funcs[212]? = some fn ∧ fn.body = some c ∧ okCode S.ty S.pf A212 fn.ntmps c = true ∧ (fn.name == "runtime.NumGoroutine") = false := ⟨_, _, Tryz.func212, rfl, by kernel_rfl, by kernel_rfl⟩
theorem k219 : ∃ fn c, S.P.funcs[219]? = some fn ∧ fn.body = some c ∧ okCode S.ty S.pf A219 fn.ntmps c = true ∧ (fn.name == "runtime.NumGoroutine") = false := ⟨_, _, Tryz.func219, rfl, by kernel_rfl, by kernel_rfl⟩
theorem k251 : ∃ fn c, S.P.funcs[251]? = some fn ∧ fn.body = some c ∧ okCode S.ty S.pf A251 fn.ntmps c = true ∧ (fn.name == "runtime.NumGoroutine") = false := ⟨_, _, Tryz.func251, rfl, by kernel_rfl, by kernel_rfl⟩
theorem k257 : ∃ fn c, S.P.funcs[257]? = some fn ∧ fn.body = some c ∧ okCode S.ty S.pf A257 fn.ntmps c = true ∧ (fn.name == "runtime.NumGoroutine") = false := ⟨_, _, Tryz.func257, rfl, by kernel_rfl, by kernel_rfl⟩
theorem k265 : ∃ fn c, S.P.funcs[265]? = some fn ∧ fn.body = some c ∧ okCode S.ty S.pf A265 fn.ntmps c = true ∧ (fn.name == "runtime.NumGoroutine") = false := ⟨_, _, Tryz.func265, rfl, by kernel_rfl, by kernel_rfl⟩
theorem k282 : ∃ fn c, S.P.funcs[282]? = some fn ∧ fn.body = some c ∧ okCode S.ty S.pf A282 fn.ntmps c = true ∧ (fn.name == "runtime.NumGoroutine") = false := ⟨_, _, Tryz.func282, rfl, by kernel_rfl, by kernel_rfl⟩
theorem k290 : ∃ fn c, S.P.funcs[290]? = some fn ∧ fn.body = some c ∧ okCode S.ty S.pf A290 fn.ntmps c = true ∧ (fn.name == "runtime.NumGoroutine") = false := ⟨_, _, Tryz.func290, rfl, by kernel_rfl, by kernel_rfl⟩
theorem k314 : ∃ fn c, S.P.funcs[314]? = some fn ∧ fn.body = some c ∧ okCode S.ty S.pf A314 fn.ntmps c = true ∧ (fn.name == "runtime.NumGoroutine") = false := ⟨_, _, Tryz.func314, rfl, by kernel_rfl, by kernel_rfl⟩
theorem k349 : ∃ fn c, S.P.funcs[349]? = some fn ∧ fn.body = some c ∧ okCode S.ty S.pf A349 fn.ntmps c = true ∧ (fn.name == "runtime.NumGoroutine") = false := ⟨_, _, Tryz.func349, rfl, by kernel_rfl, by kernel_rfl⟩
theorem k41 : ∃ fn c, S.P.funcs[41]? = some fn ∧ fn.body = some c ∧ okCode S.ty S.pf A41 fn.ntmps c = true ∧ (fn.name == "runtime.NumGoroutine") = false := ⟨_, _, Tryz.func41, rfl, by kernel_rfl, by kernel_rfl⟩
end X
