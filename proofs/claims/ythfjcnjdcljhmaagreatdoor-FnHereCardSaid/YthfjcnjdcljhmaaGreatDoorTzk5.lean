/- Static checks of the functions, one by one. -/
import Derived.Test.YthfjcnjdcljhmaaGreatDoorTzt
open Go Go.V Go.Proofs
namespace X
set_option maxRecDepth 100000
set_option maxHeartbeats 4000000
set_option linter.unusedSimpArgs false
set_option linter.unusedVariables false
theorem k23 : ∃ fn c, S.P.funcs[23]? = some fn ∧ fn.body = some c ∧ okCode S.ty S.pf A23 fn.ntmps c = true ∧ (fn.name == "runtime.NumGoroutine") = false := ⟨_, _, Tryz.func23, rfl, by kernel_rfl, by kernel_rfl⟩
theorem k33 : ∃ fn c, S.P.funcs[33]? = some fn ∧ fn.body = some c ∧ okCode S.ty S.pf A33 fn.ntmps c = true ∧ (fn.name == "runtime.NumGoroutine") = false := ⟨_, _, Tryz.func33, rfl, by kernel_rfl, by kernel_rfl⟩
theorem k43 : ∃ fn c, S.P.funcs[43]? = some fn ∧ fn.body = some c ∧ okCode S.ty S.pf A43 fn.ntmps c = true ∧ (fn.name == "runtime.NumGoroutine") = false := ⟨_, _, Tryz.func43, rfl, by kernel_rfl, by kernel_rfl⟩
theorem k49 : ∃ fn c, S.P.funcs[49]? = some fn ∧ fn.body = some c ∧ okCode S.ty S.pf A49 fn.ntmps c = true ∧ (fn.name == "runtime.NumGoroutine") = false := ⟨_, _, Tryz.func49, rfl, by kernel_rfl, by kernel_rfl⟩
theorem k58 : ∃ fn c, S.P.funcs[58]? = some fn ∧ fn.body = some c ∧ okCode S.ty S.pf A58 fn.ntmps c = true ∧ (fn.name == "runtime.NumGoroutine") = false := ⟨_, _, Tryz.func58, rfl, by kernel_rfl, by kernel_rfl⟩
theorem k64 : ∃ fn c, S.P.funcs[64]? = some fn ∧ fn.body = some c ∧ okCode S.ty S.pf A64 fn.ntmps c = true ∧ (fn.name == "runtime.NumGoroutine") = false := ⟨_, _, Tryz.func64, rfl, by kernel_rfl, by kernel_rfl⟩
theorem k70 : ∃ fn c, S.P.funcs[70]? = some fn ∧ fn.body = some c ∧ okCode S.ty S.pf A70 fn.ntmps c = true ∧ (fn.name == "runtime.NumGoroutine") = false := ⟨_, _, Tryz.func70, rfl, by kernel_rfl, by kernel_rfl⟩
theorem k76 : ∃ fn c, S.P.funcs[76]? = some fn ∧ fn.body = some c ∧ okCode S.ty S.pf A76 fn.ntmps c = true ∧ (fn.name == "runtime.NumGoroutine") = false := ⟨_, _, Tryz.func76, rfl, by kernel_rfl, by kernel_rfl⟩
theorem k82 : ∃ fn c, S.P.funcs[82]? = some fn ∧ fn.body = some c ∧ okCode S.ty S.pf A82 fn.ntmps c = true ∧ (fn.name == "runtime.NumGoroutine") = false := ⟨_, _, Tryz.func82, rfl, by kernel_rfl, by kernel_rfl⟩
theorem k96 : ∃ fn c, S.P.funcs[96]? = some fn ∧ fn.body = some c ∧ okCode S.ty S.pf A96 fn.ntmps c = true ∧ (fn.name == "runtime.NumGoroutine") = false := ⟨_, _, Tryz.func96, rfl, by kernel_rfl, by kernel_rfl⟩
theorem k102 : ∃ fn c, S.P.funcs[102]? = some fn ∧ fn.body = some c ∧ okCode S.ty S.pf A102 fn.ntmps c = true ∧ (fn.name == "runtime.NumGoroutine") = false := ⟨_, _, Tryz.func102, rfl, by kernel_rfl, by kernel_rfl⟩
theorem k108 : ∃ fn c, S.P.funcs[108]? = some fn ∧ fn.body = some c ∧ okCode S.ty S.pf A108 fn.ntmps c = true ∧ (fn.name == "runtime.NumGoroutine") = false := ⟨_, _, Tryz.func108, rfl, by kernel_rfl, by kernel_rfl⟩
theorem k115 : ∃ fn c, S.P.funcs[115]? = some fn ∧ fn.body = some c ∧ okCode S.ty S.pf A115 fn.ntmps c = true ∧ (fn.name == "runtime.NumGoroutine") = false := ⟨_, _, Tryz.func115, rfl, by kernel_rfl, by kernel_rfl⟩
theorem k121 : ∃ fn c, S.P.funcs[121]? = some fn ∧ fn.body = some c ∧ okCode S.ty S.pf A121 fn.ntmps c = true ∧ (fn.name == "runtime.NumGoroutine") = false := ⟨_, _, Tryz.func121, rfl, by kernel_rfl, by kernel_rfl⟩
theorem k131 : ∃ fn c, S.P.funcs[131]? = some fn ∧ fn.body = some c ∧ okCode S.ty S.pf A131 fn.ntmps c = true ∧ (fn.name == "runtime.NumGoroutine") = false := ⟨_, _, Tryz.func131, rfl, by kernel_rfl, by kernel_rfl⟩
theorem k149 : ∃ fn c, S.P.funcs[149]? = some fn ∧ fn.body = some c ∧ okCode S.ty S.pf A149 fn.ntmps c = true ∧ (fn.name == "runtime.NumGoroutine") = false := ⟨_, _, Tryz.func149, rfl, by kernel_rfl, by kernel_rfl⟩
theorem k155 : ∃ fn c, S.P.funcs[155]? = some fn ∧ fn.body = some c ∧ okCode S.ty S.pf A155 fn.ntmps c = true ∧ (fn.name == "runtime.NumGoroutine") = false := ⟨_, _, Tryz.func155, rfl, by kernel_rfl, by kernel_rfl⟩
theorem k162 : ∃ fn c, S.P.funcs[162]? = some fn ∧ fn.body = some c ∧ okCode S.ty S.pf A162 fn.ntmps c = true ∧ (fn.name == "runtime.NumGoroutine") = false := ⟨_, _, Tryz.func162, rfl, by kernel_rfl, by kernel_rfl⟩
theorem k169 : ∃ fn c, S.P.funcs[169]? = some fn ∧ fn.body = some c ∧ okCode S.ty S.pf A169 fn.ntmps c = true ∧ (fn.name == "runtime.NumGoroutine") = false := ⟨_, _, Tryz.func169, rfl, by kernel_rfl, by kernel_rfl⟩
theorem k176 : ∃ fn c, S.P.funcs[176]? = some fn ∧ fn.body = some c ∧ okCode S.ty S.pf A176 fn.ntmps c = true ∧ (fn.name == "runtime.NumGoroutine") = false := ⟨_, _, Tryz.func176, rfl, by kernel_rfl, by kernel_rfl⟩
theorem k182 : ∃ fn c, S.P.funcs[182]? = some fn ∧ fn.body = some c ∧ okCode S.ty S.pf A182 fn.ntmps c = true ∧ (fn.name == "runtime.NumGoroutine") = false := ⟨_, _, Tryz.func182, rfl, by kernel_rfl, by kernel_rfl⟩
theorem k198 : ∃ fn c, S.P.funcs[198]? = some fn ∧ fn.body = some c ∧ okCode S.ty S.pf A198 fn.ntmps c = true ∧ (fn.name == "runtime.NumGoroutine") = false := ⟨_, _, Tryz.func198, rfl, by kernel_rfl, by kernel_rfl⟩
theorem k211 : ∃ fn c, S.P.funcs[211]? = some fn ∧ fn.body = some c ∧ okCode S.ty S.pf A211 fn.ntmps c = true ∧ (fn.name == "runtime.NumGoroutine") = false := ⟨_, _, Tryz.func211, rfl, by kernel_rfl, by kernel_rfl⟩
theorem k219 : ∃ fn c, S.P.funcs[219]? = some fn ∧ fn.body = some c ∧ okCode S.ty S.pf A219 fn.ntmps c = true ∧ (fn.name == "runtime.NumGoroutine") = false := ⟨_, _, Tryz.func219, rfl, by kernel_rfl, by kernel_rfl⟩
theorem k251 : ∃ fn c, S.P.funcs[251]? = some fn ∧ fn.body = some c ∧ okCode S.ty S.pf A251 fn.ntmps c = true ∧ (fn.name == "runtime.NumGoroutine") = false := ⟨_, _, Tryz.func251, rfl, by kernel_rfl, by kernel_rfl⟩
theorem k270 : ∃ fn c, S.P.funcs[270]? = some fn ∧ fn.body = some c ∧ okCode S.ty S.pf A270 fn.ntmps c = true ∧ (fn.name == "runtime.NumGoroutine") = false := ⟨_, _, Tryz.func270, rfl, by kernel_rfl, by kernel_rfl⟩
theorem k289 : ∃ fn c, S.P.funcs[289]? = some fn ∧ fn.body = some c ∧ okCode S.ty S.pf A289 fn.ntmps c = true ∧ (fn.name == "runtime.NumGoroutine") = false := ⟨_, _, Tryz.func289, rfl, by kernel_rfl, by kernel_rfl⟩
theorem k333 : ∃ fn c, S.P.funcs[333]? = some fn ∧ fn.body = some c ∧ okCode S.ty S.pf A333 fn.ntmps c = true ∧ (fn.name == "runtime.NumGoroutine") = false := ⟨_, _, Tryz.func333, rfl, by kernel_rfl, by kernel_rfl⟩
theorem k10 : ∃ fn c, S.P.funcs[10]? = some fn ∧ fn.body = some c ∧ okCode S.ty S.pf A10 fn.ntmps c = true ∧ (fn.name == "runtime.NumGoroutine") = false := ⟨_, _, Tryz.func10, rfl, by kernel_rfl, by kernel_rfl⟩
theorem k41 : ∃ fn c, S.P.funcs[41]? = some fn ∧ fn.body = some c ∧ okCode S.ty S.pf A41 fn.ntmps c = true ∧ (fn.name == "runtime.NumGoroutine") = false := ⟨_, _, Tryz.func41, rfl, by kernel_rfl, by kernel_rfl⟩
end X
