/- Static checks of the functions, one by one. -/
import Derived.Test.YthfjcnjdcljhmaaGreatDoorTgt
open Go Go.V Go.Proofs
namespace X
set_option maxRecDepth 100000
set_option maxHeartbeats 4000000
set_option linter.unusedSimpArgs false
set_option linter.unusedVariables false
theorem k18 : ∃ fn c, S.P.funcs[18]? = some fn ∧ fn.body = some c ∧ okCode S.ty S.pf A18 fn.ntmps c = true ∧ (fn.name == "runtime.NumGoroutine") = false := ⟨_, _, Tryz.func18, rfl, by kernel_rfl, by kernel_rfl⟩
theorem k24 : ∃ fn c, S.P.funcs[24]? = some fn ∧ fn.body = some c ∧ okCode S.ty S.pf A24 fn.ntmps c = true ∧ (fn.name == "runtime.NumGoroutine") = false := ⟨_, _, Tryz.func24, rfl, by kernel_rfl, by kernel_rfl⟩
theorem k44 : ∃ fn c, S.P.funcs[44]? = some fn ∧ fn.body = some c ∧ okCode S.ty S.pf A44 fn.ntmps c = true ∧ (fn.name == "runtime.NumGoroutine") = false := ⟨_, _, Tryz.func44, rfl, by kernel_rfl, by kernel_rfl⟩
theorem k50 : ∃ fn c, S.P.funcs[50]? = some fn ∧ fn.body = some c ∧ okCode S.ty S.pf A50 fn.ntmps c = true ∧ (fn.name == "runtime.NumGoroutine") = false := ⟨_, _, Tryz.func50, rfl, by kernel_rfl, by kernel_rfl⟩
theorem k59 : ∃ fn c, S.P.funcs[59]? = some fn ∧ fn.body = some c ∧ okCode S.ty S.pf A59 fn.ntmps c = true ∧ (fn.name == "runtime.NumGoroutine") = false := ⟨_, _, Tryz.func59, rfl, by kernel_rfl, by kernel_rfl⟩
theorem k75 : ∃ fn c, S.P.funcs[75]? = some fn ∧ fn.body = some c ∧ okCode S.ty S.pf A75 fn.ntmps c = true ∧ (fn.name == "runtime.NumGoroutine") = false := ⟨_, _, Tryz.func75, rfl, by kernel_rfl, by kernel_rfl⟩
theorem k81 : ∃ fn c, S.P.funcs[81]? = some fn ∧ fn.body = some c ∧ okCode S.ty S.pf A81 fn.ntmps c = true ∧ (fn.name == "runtime.NumGoroutine") = false := ⟨_, _, Tryz.func81, rfl, by kernel_rfl, by kernel_rfl⟩
theorem k95 : ∃ fn c, S.P.funcs[95]? = some fn ∧ fn.body = some c ∧ okCode S.ty S.pf A95 fn.ntmps c = true ∧ (fn.name == "runtime.NumGoroutine") = false := ⟨_, _, Tryz.func95, rfl, by kernel_rfl, by kernel_rfl⟩
theorem k105 : ∃ fn c, S.P.funcs[105]? = some fn ∧ fn.body = some c ∧ okCode S.ty S.pf A105 fn.ntmps c = true ∧ (fn.name == "runtime.NumGoroutine") = false := ⟨_, _, Tryz.func105, rfl, by kernel_rfl, by kernel_rfl⟩
theorem k112 : ∃ fn c, S.P.funcs[112]? = some fn ∧ fn.body = some c ∧ okCode S.ty S.pf A112 fn.ntmps c = true ∧ (fn.name == "runtime.NumGoroutine") = false := ⟨_, _, Tryz.func112, rfl, by kernel_rfl, by kernel_rfl⟩
theorem k118 : ∃ fn c, S.P.funcs[118]? = some fn ∧ fn.body = some c ∧ okCode S.ty S.pf A118 fn.ntmps c = true ∧ (fn.name == "runtime.NumGoroutine") = false := ⟨_, _, Tryz.func118, rfl, by kernel_rfl, by kernel_rfl⟩
theorem k125 : ∃ fn c, S.P.funcs[125]? = some fn ∧ fn.body = some c ∧ okCode S.ty S.pf A125 fn.ntmps c = true ∧ (fn.name == "runtime.NumGoroutine") = false := ⟨_, _, Tryz.func125, rfl, by kernel_rfl, by kernel_rfl⟩
theorem k131 : ∃ fn c, S.P.funcs[131]? = some fn ∧ fn.body = some c ∧ okCode S.ty S.pf A131 fn.ntmps c = true ∧ (fn.name == "runtime.NumGoroutine") = false := ⟨_, _, Tryz.func131, rfl, by kernel_rfl, by kernel_rfl⟩
theorem k148 : ∃ fn c, S.P.funcs[148]? = some fn ∧ fn.body = some c ∧ okCode S.ty S.pf A148 fn.ntmps c = true ∧ (fn.name == "runtime.NumGoroutine") = false := ⟨_, _, Tryz.func148, rfl, by kernel_rfl, by kernel_rfl⟩
theorem k156 : ∃ fn c, S.P.funcs[156]? = some fn ∧ fn.body = some c ∧ okCode S.ty S.pf A156 fn.ntmps c = true ∧ (fn.name == "runtime.NumGoroutine") = false := ⟨_, _, Tryz.func156, rfl, by kernel_rfl, by kernel_rfl⟩
theorem k162 : ∃ fn c, S.P.funcs[162]? = some fn ∧ fn.body = some c ∧ okCode S.ty S.pf A162 fn.ntmps c = true ∧ (fn.name == "runtime.NumGoroutine") = false := ⟨_, _, Tryz.func162, rfl, by kernel_rfl, by kernel_rfl⟩
theorem k168 : ∃ fn c, S.P.funcs[168]? = some fn ∧ fn.body = some c ∧ okCode S.ty S.pf A168 fn.ntmps c = true ∧ (fn.name == "runtime.NumGoroutine") = false := ⟨_, _, Tryz.func168, rfl, by kernel_rfl, by kernel_rfl⟩
theorem k177 : ∃ fn c, S.P.funcs[177]? = some fn ∧ fn.body = some c ∧ okCode S.ty S.pf A177 fn.ntmps c = true ∧ (fn.name == "runtime.NumGoroutine") = false := ⟨_, _, Tryz.func177, rfl, by kernel_rfl, by kernel_rfl⟩
theorem k183 : ∃ fn c, S.P.funcs[183]? = some fn ∧ fn.body = some c ∧ okCode S.ty S.pf A183 fn.ntmps c = true ∧ (fn.name == "runtime.NumGoroutine") = false := ⟨_, _, Tryz.func183, rfl, by kernel_rfl, by kernel_rfl⟩
theorem k200 : ∃ fn c, S.P.funcs[200]? = some fn ∧ fn.body = some c ∧ okCode S.ty S.pf A200 fn.ntmps c = true ∧ (fn.name == "runtime.NumGoroutine") = false := ⟨_, _, Tryz.func200, rfl, by kernel_rfl, by kernel_rfl⟩
theorem k208 : ∃ fn c, S.P.funcs[208]? = some fn ∧ fn.body = some c ∧ okCode S.ty S.pf A208 fn.ntmps c = true ∧ (fn.name == "runtime.NumGoroutine") = false := ⟨_, _, Tryz.func208, rfl, by kernel_rfl, by kernel_rfl⟩
theorem k214 : ∃ fn c, S.P.funcs[214]? = some fn ∧ fn.body = some c ∧ okCode S.ty S.pf A214 fn.ntmps c = true ∧ (fn.name == "runtime.NumGoroutine") = false := ⟨_, _, Tryz.func214, rfl, by kernel_rfl, by kernel_rfl⟩
theorem k229 : ∃ fn c, S.P.funcs[229]? = some fn ∧ fn.body = some c ∧ okCode S.ty S.pf A229 fn.ntmps c = true ∧ (fn.name == "runtime.NumGoroutine") = false := ⟨_, _, Tryz.func229, rfl, by kernel_rfl, by kernel_rfl⟩
theorem k253 : ∃ fn c, S.P.funcs[253]? = some fn ∧ fn.body = some c ∧ okCode S.ty S.pf A253 fn.ntmps c = true ∧ (fn.name == "runtime.NumGoroutine") = false := ⟨_, _, Tryz.func253, rfl, by kernel_rfl, by kernel_rfl⟩
theorem k261 : ∃ fn c, S.P.funcs[261]? = some fn ∧ fn.body = some c ∧ okCode S.ty S.pf A261 fn.ntmps c = true ∧ (fn.name == "runtime.NumGoroutine") = false := ⟨_, _, Tryz.func261, rfl, by kernel_rfl, by kernel_rfl⟩
theorem k267 : ∃ fn c, S.P.funcs[267]? = some fn ∧ fn.body = some c ∧ okCode S.ty S.pf A267 fn.ntmps c = true ∧ (fn.name == "runtime.NumGoroutine") = false := ⟨_, _, Tryz.func267, rfl, by kernel_rfl, by kernel_rfl⟩
theorem k284 : ∃ fn c, S.P.funcs[284]? = some fn ∧ fn.body = some c ∧ okCode S.ty S.pf A284 fn.ntmps c = true ∧ (fn.name == "runtime.NumGoroutine") = false := ⟨_, _, Tryz.func284, rfl, by kernel_rfl, by kernel_rfl⟩
theorem k292 : ∃ fn c, S.P.funcs[292]? = some fn ∧ fn.body = some c ∧ okCode S.ty S.pf A292 fn.ntmps c = true ∧ (fn.name == "runtime.NumGoroutine") = false := ⟨_, _, Tryz.func292, rfl, by kernel_rfl, by kernel_rfl⟩
theorem k324 : ∃ fn c, S.P.funcs[324]? = some fn ∧ fn.body = some c ∧ okCode S.ty S.pf A324 fn.ntmps c = true ∧ (fn.name == "runtime.NumGoroutine") = false := ⟨_, _, Tryz.func324, rfl, by kernel_rfl, by kernel_rfl⟩
theorem k15 : ∃ fn c, S.P.funcs[15]? = some fn ∧ fn.body = some c ∧ okCode S.ty S.pf A15 fn.ntmps c = true ∧ (fn.name == "runtime.NumGoroutine") = false := ⟨_, _, Tryz.func15, rfl, by kernel_rfl, by kernel_rfl⟩
end X
