/- Static checks of the functions, one by one. -/
import Derived.Test.YthfjcnjdcljhmaaGreatDoorTzt
open Go Go.V Go.Proofs
namespace X
set_option maxRecDepth 100000
set_option maxHeartbeats 4000000
set_option linter.unusedSimpArgs false
set_option linter.unusedVariables false
theorem k17 : ∃ fn c, S.P.funcs[17]? = some fn ∧ fn.body = some c ∧ okCode S.ty S.pf A17 fn.ntmps c = true ∧ (fn.name == "runtime.NumGoroutine") = false := ⟨_, _, Tryz.func17, rfl, by kernel_rfl, by kernel_rfl⟩
theorem k25 : ∃ fn c, S.P.funcs[25]? = some fn ∧ fn.body = some c ∧ okCode S.ty S.pf A25 fn.ntmps c = true ∧ (fn.name == "runtime.NumGoroutine") = false := ⟨_, _, Tryz.func25, rfl, by kernel_rfl, by kernel_rfl⟩
theorem k43 : ∃ fn c, S.P.funcs[43]? = some fn ∧ fn.body = some c ∧ okCode S.ty S.pf A43 fn.ntmps c = true ∧ (fn.name == "runtime.NumGoroutine") = false := ⟨_, _, Tryz.func43, rfl, by kernel_rfl, by kernel_rfl⟩
theorem k54 : ∃ fn c, S.P.funcs[54]? = some fn ∧ fn.body = some c ∧ okCode S.ty S.pf A54 fn.ntmps c = true ∧ (fn.name == "runtime.NumGoroutine") = false := ⟨_, _, Tryz.func54, rfl, by kernel_rfl, by kernel_rfl⟩
theorem k71 : ∃ fn c, S.P.funcs[71]? = some fn ∧ fn.body = some c ∧ okCode S.ty S.pf A71 fn.ntmps c = true ∧ (fn.name == "runtime.NumGoroutine") = false := ⟨_, _, Tryz.func71, rfl, by kernel_rfl, by kernel_rfl⟩
theorem k77 : ∃ fn c, S.P.funcs[77]? = some fn ∧ fn.body = some c ∧ okCode S.ty S.pf A77 fn.ntmps c = true ∧ (fn.name == "runtime.NumGoroutine") = false := ⟨_, _, Tryz.func77, rfl, by kernel_rfl, by kernel_rfl⟩
theorem k83 : ∃ fn c, S.P.funcs[83]? = some fn ∧ fn.body = some c ∧ okCode S.ty S.pf A83 fn.ntmps c = true ∧ (fn.name == "runtime.NumGoroutine") = false := ⟨_, _, Tryz.func83, rfl, by kernel_rfl, by kernel_rfl⟩
theorem k97 : ∃ fn c, S.P.funcs[97]? = some fn ∧ fn.body = some c ∧ okCode S.ty S.pf A97 fn.ntmps c = true ∧ (fn.name == "runtime.NumGoroutine") = false := ⟨_, _, Tryz.func97, rfl, by kernel_rfl, by kernel_rfl⟩
theorem k114 : ∃ fn c, S.P.funcs[114]? = some fn ∧ fn.body = some c ∧ okCode S.ty S.pf A114 fn.ntmps c = true ∧ (fn.name == "runtime.NumGoroutine") = false := ⟨_, _, Tryz.func114, rfl, by kernel_rfl, by kernel_rfl⟩
theorem k120 : ∃ fn c, S.P.funcs[120]? = some fn ∧ fn.body = some c ∧ okCode S.ty S.pf A120 fn.ntmps c = true ∧ (fn.name == "runtime.NumGoroutine") = false := ⟨_, _, Tryz.func120, rfl, by kernel_rfl, by kernel_rfl⟩
theorem k131 : ∃ fn c, S.P.funcs[131]? = some fn ∧ fn.body = some c ∧ okCode S.ty S.pf A131 fn.ntmps c = true ∧ (fn.name == "runtime.NumGoroutine") = false := ⟨_, _, Tryz.func131, rfl, by kernel_rfl, by kernel_rfl⟩
theorem k150 : ∃ fn c, S.P.funcs[150]? = some fn ∧ fn.body = some c ∧ okCode S.ty S.pf A150 fn.ntmps c = true ∧ (fn.name == "runtime.NumGoroutine") = false := ⟨_, _, Tryz.func150, rfl, by kernel_rfl, by kernel_rfl⟩
theorem k166 : ∃ fn c, S.P.funcs[166]? = some fn ∧ fn.body = some c ∧ okCode S.ty S.pf A166 fn.ntmps c = true ∧ (fn.name == "runtime.NumGoroutine") = false := ⟨_, _, Tryz.func166, rfl, by kernel_rfl, by kernel_rfl⟩
theorem k177 : ∃ fn c, S.P.funcs[177]? = some fn ∧ fn.body = some c ∧ okCode S.ty S.pf A177 fn.ntmps c = true ∧ (fn.name == "runtime.NumGoroutine") = false := ⟨_, _, Tryz.func177, rfl, by kernel_rfl, by kernel_rfl⟩
theorem k183 : ∃ fn c, S.P.funcs[183]? = some fn ∧ fn.body = some c ∧ okCode S.ty S.pf A183 fn.ntmps c = true ∧ (fn.name == "runtime.NumGoroutine") = false := ⟨_, _, Tryz.func183, rfl, by kernel_rfl, by kernel_rfl⟩
theorem k209 : ∃ fn c, S.P.funcs[209]? = some fn ∧ fn.body = some c ∧ okCode S.ty S.pf A209 fn.ntmps c = true ∧ (fn.name == "runtime.NumGoroutine") = false := ⟨_, _, Tryz.func209, rfl, by kernel_rfl, by kernel_rfl⟩
theorem k251 : ∃ fn c, S.P.funcs[251]? = some fn ∧ fn.body = some c ∧ okCode S.ty S.pf A251 fn.ntmps c = true ∧ (fn.name == "runtime.NumGoroutine") = false := ⟨_, _, Tryz.func251, rfl, by kernel_rfl, by kernel_rfl⟩
theorem k7 : ∃ fn c, S.P.funcs[7]? = some fn ∧ fn.body = some c ∧ okCode S.ty S.pf A7 fn.ntmps c = true ∧ (fn.name == "runtime.NumGoroutine") = false := ⟨_, _, Tryz.func7, rfl, by kernel_rfl, by kernel_rfl⟩
end X
