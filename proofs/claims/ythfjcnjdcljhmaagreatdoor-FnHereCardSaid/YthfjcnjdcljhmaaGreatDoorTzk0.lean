/- Static checks of the functions, one by one. -/
import Derived.Test.YthfjcnjdcljhmaaGreatDoorTzt
open Go Go.V Go.Proofs
namespace X
set_option maxRecDepth 100000
set_option maxHeartbeats 4000000
set_option linter.unusedSimpArgs false
set_option linter.unusedVariables false
theorem k17 : ∃ fn c, S.P.funcs[17]? = some fn ∧ fn.body = some c ∧ okCode S.ty S.pf A17 fn.ntmps c = true ∧ (fn.name == "runtime.NumGoroutine") = false := ⟨_, _, Tryz.func17, rfl, by kernel_rfl, by kernel_rfl⟩
theorem k24 : ∃ fn c, S.P.funcs[24]? = some fn ∧ fn.body = some c ∧ okCode S.ty S.pf A24 fn.ntmps c = true ∧ (fn.name == "runtime.NumGoroutine") = false := ⟨_, _, Tryz.func24, rfl, by kernel_rfl, by kernel_rfl⟩
theorem k34 : ∃ fn c, S.P.funcs[34]? = some fn ∧ fn.body = some c ∧ okCode S.ty S.pf A34 fn.ntmps c = true ∧ (fn.name == "runtime.NumGoroutine") = false := ⟨_, _, Tryz.func34, rfl, by kernel_rfl, by kernel_rfl⟩
theorem k44 : ∃ fn c, S.P.funcs[44]? = some fn ∧ fn.body = some c ∧ okCode S.ty S.pf A44 fn.ntmps c = true ∧ (fn.name == "runtime.NumGoroutine") = false := ⟨_, _, Tryz.func44, rfl, by kernel_rfl, by kernel_rfl⟩
theorem k50 : ∃ fn c, S.P.funcs[50]? = some fn ∧ fn.body = some c ∧ okCode S.ty S.pf A50 fn.ntmps c = true ∧ (fn.name == "runtime.NumGoroutine") = false := ⟨_, _, Tryz.func50, rfl, by kernel_rfl, by kernel_rfl⟩
theorem k59 : ∃ fn c, S.P.funcs[59]? = some fn ∧ fn.body = some c ∧ okCode S.ty S.pf A59 fn.ntmps c = true ∧ (fn.name == "runtime.NumGoroutine") = false := ⟨_, _, Tryz.func59, rfl, by kernel_rfl, by kernel_rfl⟩
theorem k65 : ∃ fn c, S.P.funcs[65]? = some fn ∧ fn.body = some c ∧ okCode S.ty S.pf A65 fn.ntmps c = true ∧ (fn.name == "runtime.NumGoroutine") = false := ⟨_, _, Tryz.func65, rfl, by kernel_rfl, by kernel_rfl⟩
theorem k71 : ∃ fn c, S.P.funcs[71]? = some fn ∧ fn.body = some c ∧ okCode S.ty S.pf A71 fn.ntmps c = true ∧ (fn.name == "runtime.NumGoroutine") = false := ⟨_, _, Tryz.func71, rfl, by kernel_rfl, by kernel_rfl⟩
theorem k77 : ∃ fn c, S.P.funcs[77]? = some fn ∧ fn.body = some c ∧ okCode S.ty S.pf A77 fn.ntmps c = true ∧ (fn.name == "runtime.NumGoroutine") = false := ⟨_, _, Tryz.func77, rfl, by kernel_rfl, by kernel_rfl⟩
theorem k83 : ∃ fn c, S.P.funcs[83]? = some fn ∧ fn.body = some c ∧ okCode S.ty S.pf A83 fn.ntmps c = true ∧ (fn.name == "runtime.NumGoroutine") = false := ⟨_, _, Tryz.func83, rfl, by kernel_rfl, by kernel_rfl⟩
theorem k97 : ∃ fn c, S.P.funcs[97]? = some fn ∧ fn.body = some c ∧ okCode S.ty S.pf A97 fn.ntmps c = true ∧ (fn.name == "runtime.NumGoroutine") = false := ⟨_, _, Tryz.func97, rfl, by kernel_rfl, by kernel_rfl⟩
theorem k103 : ∃ fn c, S.P.funcs[103]? = some fn ∧ fn.body = some c ∧ okCode S.ty S.pf A103 fn.ntmps c = true ∧ (fn.name == "runtime.NumGoroutine") = false := ⟨_, _, Tryz.func103, rfl, by kernel_rfl, by kernel_rfl⟩
theorem k109 : ∃ fn c, S.P.funcs[109]? = some fn ∧ fn.body = some c ∧ okCode S.ty S.pf A109 fn.ntmps c = true ∧ (fn.name == "runtime.NumGoroutine") = false := ⟨_, _, Tryz.func109, rfl, by kernel_rfl, by kernel_rfl⟩
theorem k116 : ∃ fn c, S.P.funcs[116]? = some fn ∧ fn.body = some c ∧ okCode S.ty S.pf A116 fn.ntmps c = true ∧ (fn.name == "runtime.NumGoroutine") = false := ⟨_, _, Tryz.func116, rfl, by kernel_rfl, by kernel_rfl⟩
theorem k123 : ∃ fn c, S.P.funcs[123]? = some fn ∧ fn.body = some c ∧ okCode S.ty S.pf A123 fn.ntmps c = true ∧ (fn.name == "runtime.NumGoroutine") = false := ⟨_, _, Tryz.func123, rfl, by kernel_rfl, by kernel_rfl⟩
theorem k136 : ∃ fn c, S.P.funcs[136]? = some fn ∧ fn.body = some c ∧ okCode S.ty S.pf A136 fn.ntmps c = true ∧ (fn.name == "runtime.NumGoroutine") = false := ⟨_, _, Tryz.func136, rfl, by kernel_rfl, by kernel_rfl⟩
theorem k150 : ∃ fn c, S.P.funcs[150]? = some fn ∧ fn.body = some c ∧ okCode S.ty S.pf A150 fn.ntmps c = true ∧ (fn.name == "runtime.NumGoroutine") = false := ⟨_, _, Tryz.func150, rfl, by kernel_rfl, by kernel_rfl⟩
theorem k156 : ∃ fn c, S.P.funcs[156]? = some fn ∧ fn.body = some c ∧ okCode S.ty S.pf A156 fn.ntmps c = true ∧ (fn.name == "runtime.NumGoroutine") = false := ⟨_, _, Tryz.func156, rfl, by kernel_rfl, by kernel_rfl⟩
theorem k164 : ∃ fn c, S.P.funcs[164]? = some fn ∧ fn.body = some c ∧ okCode S.ty S.pf A164 fn.ntmps c = true ∧ (fn.name == "runtime.NumGoroutine") = false := ⟨_, _, Tryz.func164, rfl, by kernel_rfl, by kernel_rfl⟩
theorem k170 : ∃ fn c, S.P.funcs[170]? = some fn ∧ fn.body = some c ∧ okCode S.ty S.pf A170 fn.ntmps c = true ∧ (fn.name == "runtime.NumGoroutine") = false := ⟨_, _, Tryz.func170, rfl, by kernel_rfl, by kernel_rfl⟩
theorem k177 : ∃ fn c, S.P.funcs[177]? = some fn ∧ fn.body = some c ∧ okCode S.ty S.pf A177 fn.ntmps c = true ∧ (fn.name == "runtime.NumGoroutine") = false := ⟨_, _, Tryz.func177, rfl, by kernel_rfl, by kernel_rfl⟩
theorem k183 : ∃ fn c, S.P.funcs[183]? = some fn ∧ fn.body = some c ∧ okCode S.ty S.pf A183 fn.ntmps c = true ∧ (fn.name == "runtime.NumGoroutine") = false := ⟨_, _, Tryz.func183, rfl, by kernel_rfl, by kernel_rfl⟩
theorem k199 : ∃ fn c, S.P.funcs[199]? = some fn ∧ fn.body = some c ∧ okCode S.ty S.pf A199 fn.ntmps c = true ∧ (fn.name == "runtime.NumGoroutine") = false := ⟨_, _, Tryz.func199, rfl, by kernel_rfl, by kernel_rfl⟩
theorem k213 : ∃ fn c, S.P.funcs[213]? = some fn ∧ fn.body = some c ∧ okCode S.ty S.pf A213 fn.ntmps c = true ∧ (fn.name == "runtime.NumGoroutine") = false := ⟨_, _, Tryz.func213, rfl, by kernel_rfl, by kernel_rfl⟩
theorem k225 : ∃ fn c, S.P.funcs[225]? = some fn ∧ fn.body = some c ∧ okCode S.ty S.pf A225 fn.ntmps c = true ∧ (fn.name == "runtime.NumGoroutine") = false := ⟨_, _, Tryz.func225, rfl, by kernel_rfl, by kernel_rfl⟩
theorem k253 : ∃ fn c, S.P.funcs[253]? = some fn ∧ fn.body = some c ∧ okCode S.ty S.pf A253 fn.ntmps c = true ∧ (fn.name == "runtime.NumGoroutine") = false := ⟨_, _, Tryz.func253, rfl, by kernel_rfl, by kernel_rfl⟩
theorem k276 : ∃ fn c, S.P.funcs[276]? = some fn ∧ fn.body = some c ∧ okCode S.ty S.pf A276 fn.ntmps c = true ∧ (fn.name == "runtime.NumGoroutine") = false := ⟨_, _, Tryz.func276, rfl, by kernel_rfl, by kernel_rfl⟩
theorem k292 : ∃ fn c, S.P.funcs[292]? = some fn ∧ fn.body = some c ∧ okCode S.ty S.pf A292 fn.ntmps c = true ∧ (fn.name == "runtime.NumGoroutine") = false := ⟨_, _, Tryz.func292, rfl, by kernel_rfl, by kernel_rfl⟩
theorem k344 : ∃ fn c, S.P.funcs[344]? = some fn ∧ fn.body = some c ∧ okCode S.ty S.pf A344 fn.ntmps c = true ∧ (fn.name == "runtime.NumGoroutine") = false := ⟨_, _, Tryz.func344, rfl, by kernel_rfl, by kernel_rfl⟩
theorem k11 : ∃ fn c, S.P.funcs[11]? = some fn ∧ fn.body = some c ∧ okCode S.ty S.pf A11 fn.ntmps c = true ∧ (fn.name == "runtime.NumGoroutine") = false := ⟨_, _, Tryz.func11, rfl, by kernel_rfl, by kernel_rfl⟩
end X
