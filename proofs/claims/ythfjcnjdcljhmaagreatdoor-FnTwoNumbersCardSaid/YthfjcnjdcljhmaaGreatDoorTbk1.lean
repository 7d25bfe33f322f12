/- Static checks of the functions, one by one. -/
import Derived.Test.YthfjcnjdcljhmaaGreatDoorTbt
open Go Go.V Go.Proofs
namespace X
set_option maxRecDepth 100000
set_option maxHeartbeats 4000000
set_option linter.unusedSimpArgs false
set_option linter.unusedVariables false
theorem k18 : ∃ fn c, S.P.funcs[18]? = some fn ∧ fn.body = some c ∧ okCode S.ty S.pf A18 fn.ntmps c = true ∧ (fn.name == "runtime.NumGoroutine") = false := ⟨_, _, Tryz.func18, rfl, by kernel_rfl, by kernel_rfl⟩
theorem k29 : ∃ fn c, S.P.funcs[29]? = some fn ∧ fn.body = some c ∧ okCode S.ty S.pf A29 fn.ntmps c = true ∧ (fn.name == "runtime.NumGoroutine") = false := ⟨_, _, Tryz.func29, rfl, by kernel_rfl, by kernel_rfl⟩
theorem k47 : ∃ fn c, S.P.funcs[47]? = some fn ∧ fn.body = some c ∧ okCode S.ty S.pf A47 fn.ntmps c = true ∧ (fn.name == "runtime.NumGoroutine") = false := ⟨_, _, Tryz.func47, rfl, by kernel_rfl, by kernel_rfl⟩
theorem k56 : ∃ fn c, S.P.funcs[56]? = some fn ∧ fn.body = some c ∧ okCode S.ty S.pf A56 fn.ntmps c = true ∧ (fn.name == "runtime.NumGoroutine") = false := ⟨_, _, Tryz.func56, rfl, by kernel_rfl, by kernel_rfl⟩
theorem k73 : ∃ fn c, S.P.funcs[73]? = some fn ∧ fn.body = some c ∧ okCode S.ty S.pf A73 fn.ntmps c = true ∧ (fn.name == "runtime.NumGoroutine") = false := ⟨_, _, Tryz.func73, rfl, by kernel_rfl, by kernel_rfl⟩
theorem k79 : ∃ fn c, S.P.funcs[79]? = some fn ∧ fn.body = some c ∧ okCode S.ty S.pf A79 fn.ntmps c = true ∧ (fn.name == "runtime.NumGoroutine") = false := ⟨_, _, Tryz.func79, rfl, by kernel_rfl, by kernel_rfl⟩
theorem k93 : ∃ fn c, S.P.funcs[93]? = some fn ∧ fn.body = some c ∧ okCode S.ty S.pf A93 fn.ntmps c = true ∧ (fn.name == "runtime.NumGoroutine") = false := ⟨_, _, Tryz.func93, rfl, by kernel_rfl, by kernel_rfl⟩
theorem k101 : ∃ fn c, S.P.funcs[101]? = some fn ∧ fn.body = some c ∧ okCode S.ty S.pf A101 fn.ntmps c = true ∧ (fn.name == "runtime.NumGoroutine") = false := ⟨_, _, Tryz.func101, rfl, by kernel_rfl, by kernel_rfl⟩
theorem k115 : ∃ fn c, S.P.funcs[115]? = some fn ∧ fn.body = some c ∧ okCode S.ty S.pf A115 fn.ntmps c = true ∧ (fn.name == "runtime.NumGoroutine") = false := ⟨_, _, Tryz.func115, rfl, by kernel_rfl, by kernel_rfl⟩
theorem k121 : ∃ fn c, S.P.funcs[121]? = some fn ∧ fn.body = some c ∧ okCode S.ty S.pf A121 fn.ntmps c = true ∧ (fn.name == "runtime.NumGoroutine") = false := ⟨_, _, Tryz.func121, rfl, by kernel_rfl, by kernel_rfl⟩
theorem k128 : ∃ fn c, S.P.funcs[128]? = some fn ∧ fn.body = some c ∧ okCode S.ty S.pf A128 fn.ntmps c = true ∧ (fn.name == "runtime.NumGoroutine") = false := ⟨_, _, Tryz.func128, rfl, by kernel_rfl, by kernel_rfl⟩
theorem k145 : ∃ fn c, S.P.funcs[145]? = some fn ∧ fn.body = some c ∧ okCode S.ty S.pf A145 fn.ntmps c = true ∧ (fn.name == "runtime.NumGoroutine") = false := ⟨_, _, Tryz.func145, rfl, by kernel_rfl, by kernel_rfl⟩
theorem k152 : ∃ fn c, S.P.funcs[152]? = some fn ∧ fn.body = some c ∧ okCode S.ty S.pf A152 fn.ntmps c = true ∧ (fn.name == "runtime.NumGoroutine") = false := ⟨_, _, Tryz.func152, rfl, by kernel_rfl, by kernel_rfl⟩
theorem k167 : ∃ fn c, S.P.funcs[167]? = some fn ∧ fn.body = some c ∧ okCode S.ty S.pf A167 fn.ntmps c = true ∧ (fn.name == "runtime.NumGoroutine") = false := ⟨_, _, Tryz.func167, rfl, by kernel_rfl, by kernel_rfl⟩
theorem k173 : ∃ fn c, S.P.funcs[173]? = some fn ∧ fn.body = some c ∧ okCode S.ty S.pf A173 fn.ntmps c = true ∧ (fn.name == "runtime.NumGoroutine") = false := ⟨_, _, Tryz.func173, rfl, by kernel_rfl, by kernel_rfl⟩
theorem k180 : ∃ fn c, S.P.funcs[180]? = some fn ∧ fn.body = some c ∧ okCode S.ty S.pf A180 fn.ntmps c = true ∧ (fn.name == "runtime.NumGoroutine") = false := ⟨_, _, Tryz.func180, rfl, by kernel_rfl, by kernel_rfl⟩
theorem k196 : ∃ fn c, S.P.funcs[196]? = some fn ∧ fn.body = some c ∧ okCode S.ty S.pf A196 fn.ntmps c = true ∧ (fn.name == "runtime.NumGoroutine") = false := ⟨_, _, Tryz.func196, rfl, by kernel_rfl, by kernel_rfl⟩
theorem k211 : ∃ fn c, S.P.funcs[211]? = some fn ∧ fn.body = some c ∧ okCode S.ty S.pf A211 fn.ntmps c = true ∧ (fn.name == "runtime.NumGoroutine") = false := ⟨_, _, Tryz.func211, rfl, by kernel_rfl, by kernel_rfl⟩
theorem k218 : ∃ fn c, S.P.funcs[218]? = some fn ∧ fn.body = some c ∧ okCode S.ty S.pf A218 fn.ntmps c = true ∧ (fn.name == "runtime.NumGoroutine") = false := ⟨_, _, Tryz.func218, rfl, by kernel_rfl, by kernel_rfl⟩
theorem k247 : ∃ fn c, S.P.funcs[247]? = some fn ∧ fn.body = some c ∧ okCode S.ty S.pf A247 fn.ntmps c = true ∧ (fn.name == "runtime.NumGoroutine") = false := ⟨_, _, Tryz.func247, rfl, by kernel_rfl, by kernel_rfl⟩
theorem k257 : ∃ fn c, S.P.funcs[257]? = some fn ∧ fn.body = some c ∧ okCode S.ty S.pf A257 fn.ntmps c = true ∧ (fn.name == "runtime.NumGoroutine") = false := ⟨_, _, Tryz.func257, rfl, by kernel_rfl, by kernel_rfl⟩
theorem k282 : ∃ fn c, S.P.funcs[282]? = some fn ∧ fn.body = some c ∧ okCode S.ty S.pf A282 fn.ntmps c = true ∧ (fn.name == "runtime.NumGoroutine") = false := ⟨_, _, Tryz.func282, rfl, by kernel_rfl, by kernel_rfl⟩
theorem k290 : ∃ fn c, S.P.funcs[290]? = some fn ∧ fn.body = some c ∧ okCode S.ty S.pf A290 fn.ntmps c = true ∧ (fn.name == "runtime.NumGoroutine") = false := ⟨_, _, Tryz.func290, rfl, by kernel_rfl, by kernel_rfl⟩
theorem k314 : ∃ fn c, S.P.funcs[314]? = some fn ∧ fn.body = some c ∧ okCode S.ty S.pf A314 fn.ntmps c = true ∧ (fn.name == "runtime.NumGoroutine") = false := ⟨_, _, Tryz.func314, rfl, by kernel_rfl, by kernel_rfl⟩
theorem k15 : ∃ fn c, S.P.funcs[15]? = some fn ∧ fn.body = some c ∧ okCode S.ty S.pf A15 fn.ntmps c = true ∧ (fn.name == "runtime.NumGoroutine") = false := ⟨_, _, Tryz.func15, rfl, by kernel_rfl, by kernel_rfl⟩
end X
