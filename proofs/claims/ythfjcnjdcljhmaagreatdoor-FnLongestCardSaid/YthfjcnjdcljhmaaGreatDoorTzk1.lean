/- Static checks of the functions, one by one. -/
import Derived.Test.YthfjcnjdcljhmaaGreatDoorTzt
open Go Go.V Go.Proofs
namespace X
set_option maxRecDepth 100000
set_option maxHeartbeats 4000000
set_option linter.unusedSimpArgs false
set_option linter.unusedVariables false
theorem k18 : ∃ fn c, S.P.funcs[18]? = some fn ∧ fn.body = some c ∧ okCode S.ty S.pf A18 fn.ntmps c = true ∧ (fn.name == "runtime.NumGoroutine") = false := ⟨_, _, Tryz.func18, rfl, by kernel_rfl, by kernel_rfl⟩
theorem k26 : ∃ fn c, S.P.funcs[26]? = some fn ∧ fn.body = some c ∧ okCode S.ty S.pf A26 fn.ntmps c = true ∧ (fn.name == "runtime.NumGoroutine") = false := ⟨_, _, Tryz.func26, rfl, by kernel_rfl, by kernel_rfl⟩
theorem k45 : ∃ fn c, S.P.funcs[45]? = some fn ∧ fn.body = some c ∧ okCode S.ty S.pf A45 fn.ntmps c = true ∧ (fn.name == "runtime.NumGoroutine") = false := ⟨_, _, Tryz.func45, rfl, by kernel_rfl, by kernel_rfl⟩
theorem k55 : ∃ fn c, S.P.funcs[55]? = some fn ∧ fn.body = some c ∧ okCode S.ty S.pf A55 fn.ntmps c = true ∧ (fn.name == "runtime.NumGoroutine") = false := ⟨_, _, Tryz.func55, rfl, by kernel_rfl, by kernel_rfl⟩
theorem k72 : ∃ fn c, S.P.funcs[72]? = some fn ∧ fn.body = some c ∧ okCode S.ty S.pf A72 fn.ntmps c = true ∧ (fn.name == "runtime.NumGoroutine") = false := ⟨_, _, Tryz.func72, rfl, by kernel_rfl, by kernel_rfl⟩
theorem k78 : ∃ fn c, S.P.funcs[78]? = some fn ∧ fn.body = some c ∧ okCode S.ty S.pf A78 fn.ntmps c = true ∧ (fn.name == "runtime.NumGoroutine") = false := ⟨_, _, Tryz.func78, rfl, by kernel_rfl, by kernel_rfl⟩
theorem k92 : ∃ fn c, S.P.funcs[92]? = some fn ∧ fn.body = some c ∧ okCode S.ty S.pf A92 fn.ntmps c = true ∧ (fn.name == "runtime.NumGoroutine") = false := ⟨_, _, Tryz.func92, rfl, by kernel_rfl, by kernel_rfl⟩
theorem k100 : ∃ fn c, S.P.funcs[100]? = some fn ∧ fn.body = some c ∧ okCode S.ty S.pf A100 fn.ntmps c = true ∧ (fn.name == "runtime.NumGoroutine") = false := ⟨_, _, Tryz.func100, rfl, by kernel_rfl, by kernel_rfl⟩
theorem k115 : ∃ fn c, S.P.funcs[115]? = some fn ∧ fn.body = some c ∧ okCode S.ty S.pf A115 fn.ntmps c = true ∧ (fn.name == "runtime.NumGoroutine") = false := ⟨_, _, Tryz.func115, rfl, by kernel_rfl, by kernel_rfl⟩
theorem k123 : ∃ fn c, S.P.funcs[123]? = some fn ∧ fn.body = some c ∧ okCode S.ty S.pf A123 fn.ntmps c = true ∧ (fn.name == "runtime.NumGoroutine") = false := ⟨_, _, Tryz.func123, rfl, by kernel_rfl, by kernel_rfl⟩
theorem k136 : ∃ fn c, S.P.funcs[136]? = some fn ∧ fn.body = some c ∧ okCode S.ty S.pf A136 fn.ntmps c = true ∧ (fn.name == "runtime.NumGoroutine") = false := ⟨_, _, Tryz.func136, rfl, by kernel_rfl, by kernel_rfl⟩
theorem k152 : ∃ fn c, S.P.funcs[152]? = some fn ∧ fn.body = some c ∧ okCode S.ty S.pf A152 fn.ntmps c = true ∧ (fn.name == "runtime.NumGoroutine") = false := ⟨_, _, Tryz.func152, rfl, by kernel_rfl, by kernel_rfl⟩
theorem k167 : ∃ fn c, S.P.funcs[167]? = some fn ∧ fn.body = some c ∧ okCode S.ty S.pf A167 fn.ntmps c = true ∧ (fn.name == "runtime.NumGoroutine") = false := ⟨_, _, Tryz.func167, rfl, by kernel_rfl, by kernel_rfl⟩
theorem k178 : ∃ fn c, S.P.funcs[178]? = some fn ∧ fn.body = some c ∧ okCode S.ty S.pf A178 fn.ntmps c = true ∧ (fn.name == "runtime.NumGoroutine") = false := ⟨_, _, Tryz.func178, rfl, by kernel_rfl, by kernel_rfl⟩
theorem k184 : ∃ fn c, S.P.funcs[184]? = some fn ∧ fn.body = some c ∧ okCode S.ty S.pf A184 fn.ntmps c = true ∧ (fn.name == "runtime.NumGoroutine") = false := ⟨_, _, Tryz.func184, rfl, by kernel_rfl, by kernel_rfl⟩
theorem k214 : ∃ fn c, S.P.funcs[214]? = some fn ∧ fn.body = some c ∧ okCode S.ty S.pf A214 fn.ntmps c = true ∧ (fn.name == "runtime.NumGoroutine") = false := ⟨_, _, Tryz.func214, rfl, by kernel_rfl, by kernel_rfl⟩
theorem k276 : ∃ fn c, S.P.funcs[276]? = some fn ∧ fn.body = some c ∧ okCode S.ty S.pf A276 fn.ntmps c = true ∧ (fn.name == "runtime.NumGoroutine") = false := ⟨_, _, Tryz.func276, rfl, by kernel_rfl, by kernel_rfl⟩
theorem k15 : ∃ fn c, S.P.funcs[15]? = some fn ∧ fn.body = some c ∧ okCode S.ty S.pf A15 fn.ntmps c = true ∧ (fn.name == "runtime.NumGoroutine") = false := ⟨_, _, Tryz.func15, rfl, by kernel_rfl, by kernel_rfl⟩
end X
