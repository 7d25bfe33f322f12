/- Static checks of the functions, one by one. -/
import Derived.Test.YthfjcnjdcljhmaaGreatDoorTzt
open Go Go.V Go.Proofs
namespace X
set_option maxRecDepth 100000
set_option maxHeartbeats 4000000
set_option linter.unusedSimpArgs false
set_option linter.unusedVariables false
theorem k19 : ∃ fn c, S.P.funcs[19]? = some fn ∧ fn.body = some c ∧ okCode S.ty S.pf A19 fn.ntmps c = true ∧ (fn.name == "runtime.NumGoroutine") = false := ⟨_, _, Tryz.func19, rfl, by kernel_rfl, by kernel_rfl⟩
theorem k27 : ∃ fn c, S.P.funcs[27]? = some fn ∧ fn.body = some c ∧ okCode S.ty S.pf A27 fn.ntmps c = true ∧ (fn.name == "runtime.NumGoroutine") = false := ⟨_, _, Tryz.func27, rfl, by kernel_rfl, by kernel_rfl⟩
theorem k46 : ∃ fn c, S.P.funcs[46]? = some fn ∧ fn.body = some c ∧ okCode S.ty S.pf A46 fn.ntmps c = true ∧ (fn.name == "runtime.NumGoroutine") = false := ⟨_, _, Tryz.func46, rfl, by kernel_rfl, by kernel_rfl⟩
theorem k56 : ∃ fn c, S.P.funcs[56]? = some fn ∧ fn.body = some c ∧ okCode S.ty S.pf A56 fn.ntmps c = true ∧ (fn.name == "runtime.NumGoroutine") = false := ⟨_, _, Tryz.func56, rfl, by kernel_rfl, by kernel_rfl⟩
theorem k73 : ∃ fn c, S.P.funcs[73]? = some fn ∧ fn.body = some c ∧ okCode S.ty S.pf A73 fn.ntmps c = true ∧ (fn.name == "runtime.NumGoroutine") = false := ⟨_, _, Tryz.func73, rfl, by kernel_rfl, by kernel_rfl⟩
theorem k79 : ∃ fn c, S.P.funcs[79]? = some fn ∧ fn.body = some c ∧ okCode S.ty S.pf A79 fn.ntmps c = true ∧ (fn.name == "runtime.NumGoroutine") = false := ⟨_, _, Tryz.func79, rfl, by kernel_rfl, by kernel_rfl⟩
theorem k93 : ∃ fn c, S.P.funcs[93]? = some fn ∧ fn.body = some c ∧ okCode S.ty S.pf A93 fn.ntmps c = true ∧ (fn.name == "runtime.NumGoroutine") = false := ⟨_, _, Tryz.func93, rfl, by kernel_rfl, by kernel_rfl⟩
theorem k101 : ∃ fn c, S.P.funcs[101]? = some fn ∧ fn.body = some c ∧ okCode S.ty S.pf A101 fn.ntmps c = true ∧ (fn.name == "runtime.NumGoroutine") = false := ⟨_, _, Tryz.func101, rfl, by kernel_rfl, by kernel_rfl⟩
theorem k116 : ∃ fn c, S.P.funcs[116]? = some fn ∧ fn.body = some c ∧ okCode S.ty S.pf A116 fn.ntmps c = true ∧ (fn.name == "runtime.NumGoroutine") = false := ⟨_, _, Tryz.func116, rfl, by kernel_rfl, by kernel_rfl⟩
theorem k125 : ∃ fn c, S.P.funcs[125]? = some fn ∧ fn.body = some c ∧ okCode S.ty S.pf A125 fn.ntmps c = true ∧ (fn.name == "runtime.NumGoroutine") = false := ⟨_, _, Tryz.func125, rfl, by kernel_rfl, by kernel_rfl⟩
theorem k145 : ∃ fn c, S.P.funcs[145]? = some fn ∧ fn.body = some c ∧ okCode S.ty S.pf A145 fn.ntmps c = true ∧ (fn.name == "runtime.NumGoroutine") = false := ⟨_, _, Tryz.func145, rfl, by kernel_rfl, by kernel_rfl⟩
theorem k161 : ∃ fn c, S.P.funcs[161]? = some fn ∧ fn.body = some c ∧ okCode S.ty S.pf A161 fn.ntmps c = true ∧ (fn.name == "runtime.NumGoroutine") = false := ⟨_, _, Tryz.func161, rfl, by kernel_rfl, by kernel_rfl⟩
theorem k168 : ∃ fn c, S.P.funcs[168]? = some fn ∧ fn.body = some c ∧ okCode S.ty S.pf A168 fn.ntmps c = true ∧ (fn.name == "runtime.NumGoroutine") = false := ⟨_, _, Tryz.func168, rfl, by kernel_rfl, by kernel_rfl⟩
theorem k179 : ∃ fn c, S.P.funcs[179]? = some fn ∧ fn.body = some c ∧ okCode S.ty S.pf A179 fn.ntmps c = true ∧ (fn.name == "runtime.NumGoroutine") = false := ⟨_, _, Tryz.func179, rfl, by kernel_rfl, by kernel_rfl⟩
theorem k187 : ∃ fn c, S.P.funcs[187]? = some fn ∧ fn.body = some c ∧ okCode S.ty S.pf A187 fn.ntmps c = true ∧ (fn.name == "runtime.NumGoroutine") = false := ⟨_, _, Tryz.func187, rfl, by kernel_rfl, by kernel_rfl⟩
theorem k218 : ∃ fn c, S.P.funcs[218]? = some fn ∧ fn.body = some c ∧ okCode S.ty S.pf A218 fn.ntmps c = true ∧ (fn.name == "runtime.NumGoroutine") = false := ⟨_, _, Tryz.func218, rfl, by kernel_rfl, by kernel_rfl⟩
theorem k287 : ∃ fn c, S.P.funcs[287]? = some fn ∧ fn.body = some c ∧ okCode S.ty S.pf A287 fn.ntmps c = true ∧ (fn.name == "runtime.NumGoroutine") = false := ⟨_, _, Tryz.func287, rfl, by kernel_rfl, by kernel_rfl⟩
theorem k16 : ∃ fn c, S.P.funcs[16]? = some fn ∧ fn.body = some c ∧ okCode S.ty S.pf A16 fn.ntmps c = true ∧ (fn.name == "runtime.NumGoroutine") = false := ⟨_, _, Tryz.func16, rfl, by kernel_rfl, by kernel_rfl⟩
end X
