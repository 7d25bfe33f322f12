/- Static checks of the functions, one by one. -/
import Derived.Test.YthfjcnjdcljhmaaGreatDoorTgt
open Go Go.V Go.Proofs
namespace X
set_option maxRecDepth 100000
set_option maxHeartbeats 4000000
set_option linter.unusedSimpArgs false
set_option linter.unusedVariables false
theorem k20 : ∃ fn c, S.P.funcs[20]? = some fn ∧ fn.body = some c ∧ okCode S.ty S.pf A20 fn.ntmps c = true ∧ (fn.name == "runtime.NumGoroutine") = false := ⟨_, _, Tryz.func20, rfl, by kernel_rfl, by kernel_rfl⟩
theorem k36 : ∃ fn c, S.P.funcs[36]? = some fn ∧ fn.body = some c ∧ okCode S.ty S.pf A36 fn.ntmps c = true ∧ (fn.name == "runtime.NumGoroutine") = false := ⟨_, _, Tryz.func36, rfl, by kernel_rfl, by kernel_rfl⟩
theorem k46 : ∃ fn c, S.P.funcs[46]? = some fn ∧ fn.body = some c ∧ okCode S.ty S.pf A46 fn.ntmps c = true ∧ (fn.name == "runtime.NumGoroutine") = false := ⟨_, _, Tryz.func46, rfl, by kernel_rfl, by kernel_rfl⟩
theorem k55 : ∃ fn c, S.P.funcs[55]? = some fn ∧ fn.body = some c ∧ okCode S.ty S.pf A55 fn.ntmps c = true ∧ (fn.name == "runtime.NumGoroutine") = false := ⟨_, _, Tryz.func55, rfl, by kernel_rfl, by kernel_rfl⟩
theorem k71 : ∃ fn c, S.P.funcs[71]? = some fn ∧ fn.body = some c ∧ okCode S.ty S.pf A71 fn.ntmps c = true ∧ (fn.name == "runtime.NumGoroutine") = false := ⟨_, _, Tryz.func71, rfl, by kernel_rfl, by kernel_rfl⟩
theorem k77 : ∃ fn c, S.P.funcs[77]? = some fn ∧ fn.body = some c ∧ okCode S.ty S.pf A77 fn.ntmps c = true ∧ (fn.name == "runtime.NumGoroutine") = false := ⟨_, _, Tryz.func77, rfl, by kernel_rfl, by kernel_rfl⟩
theorem k83 : ∃ fn c, S.P.funcs[83]? = some fn ∧ fn.body = some c ∧ okCode S.ty S.pf A83 fn.ntmps c = true ∧ (fn.name == "runtime.NumGoroutine") = false := ⟨_, _, Tryz.func83, rfl, by kernel_rfl, by kernel_rfl⟩
theorem k97 : ∃ fn c, S.P.funcs[97]? = some fn ∧ fn.body = some c ∧ okCode S.ty S.pf A97 fn.ntmps c = true ∧ (fn.name == "runtime.NumGoroutine") = false := ⟨_, _, Tryz.func97, rfl, by kernel_rfl, by kernel_rfl⟩
theorem k107 : ∃ fn c, S.P.funcs[107]? = some fn ∧ fn.body = some c ∧ okCode S.ty S.pf A107 fn.ntmps c = true ∧ (fn.name == "runtime.NumGoroutine") = false := ⟨_, _, Tryz.func107, rfl, by kernel_rfl, by kernel_rfl⟩
theorem k114 : ∃ fn c, S.P.funcs[114]? = some fn ∧ fn.body = some c ∧ okCode S.ty S.pf A114 fn.ntmps c = true ∧ (fn.name == "runtime.NumGoroutine") = false := ⟨_, _, Tryz.func114, rfl, by kernel_rfl, by kernel_rfl⟩
theorem k120 : ∃ fn c, S.P.funcs[120]? = some fn ∧ fn.body = some c ∧ okCode S.ty S.pf A120 fn.ntmps c = true ∧ (fn.name == "runtime.NumGoroutine") = false := ⟨_, _, Tryz.func120, rfl, by kernel_rfl, by kernel_rfl⟩
theorem k127 : ∃ fn c, S.P.funcs[127]? = some fn ∧ fn.body = some c ∧ okCode S.ty S.pf A127 fn.ntmps c = true ∧ (fn.name == "runtime.NumGoroutine") = false := ⟨_, _, Tryz.func127, rfl, by kernel_rfl, by kernel_rfl⟩
theorem k136 : ∃ fn c, S.P.funcs[136]? = some fn ∧ fn.body = some c ∧ okCode S.ty S.pf A136 fn.ntmps c = true ∧ (fn.name == "runtime.NumGoroutine") = false := ⟨_, _, Tryz.func136, rfl, by kernel_rfl, by kernel_rfl⟩
theorem k150 : ∃ fn c, S.P.funcs[150]? = some fn ∧ fn.body = some c ∧ okCode S.ty S.pf A150 fn.ntmps c = true ∧ (fn.name == "runtime.NumGoroutine") = false := ⟨_, _, Tryz.func150, rfl, by kernel_rfl, by kernel_rfl⟩
theorem k158 : ∃ fn c, S.P.funcs[158]? = some fn ∧ fn.body = some c ∧ okCode S.ty S.pf A158 fn.ntmps c = true ∧ (fn.name == "runtime.NumGoroutine") = false := ⟨_, _, Tryz.func158, rfl, by kernel_rfl, by kernel_rfl⟩
theorem k164 : ∃ fn c, S.P.funcs[164]? = some fn ∧ fn.body = some c ∧ okCode S.ty S.pf A164 fn.ntmps c = true ∧ (fn.name == "runtime.NumGoroutine") = false := ⟨_, _, Tryz.func164, rfl, by kernel_rfl, by kernel_rfl⟩
theorem k173 : ∃ fn c, S.P.funcs[173]? = some fn ∧ fn.body = some c ∧ okCode S.ty S.pf A173 fn.ntmps c = true ∧ (fn.name == "runtime.NumGoroutine") = false := ⟨_, _, Tryz.func173, rfl, by kernel_rfl, by kernel_rfl⟩
theorem k179 : ∃ fn c, S.P.funcs[179]? = some fn ∧ fn.body = some c ∧ okCode S.ty S.pf A179 fn.ntmps c = true ∧ (fn.name == "runtime.NumGoroutine") = false := ⟨_, _, Tryz.func179, rfl, by kernel_rfl, by kernel_rfl⟩
theorem k187 : ∃ fn c, S.P.funcs[187]? = some fn ∧ fn.body = some c ∧ okCode S.ty S.pf A187 fn.ntmps c = true ∧ (fn.name == "runtime.NumGoroutine") = false := ⟨_, _, Tryz.func187, rfl, by kernel_rfl, by kernel_rfl⟩
theorem k202 : ∃ fn c, S.P.funcs[202]? = some fn ∧ fn.body = some c ∧ okCode S.ty S.pf A202 fn.ntmps c = true ∧ (fn.name == "runtime.NumGoroutine") = false := ⟨_, _, Tryz.func202, rfl, by kernel_rfl, by kernel_rfl⟩
theorem k210 : ∃ fn c, S.P.funcs[210]? = some fn ∧ fn.body = some c ∧ okCode S.ty S.pf A210 fn.ntmps c = true ∧ (fn.name == "runtime.NumGoroutine") = false := ⟨_, _, Tryz.func210, rfl, by kernel_rfl, by kernel_rfl⟩
theorem k217 : ∃ fn c, S.P.funcs[217]? = some fn ∧ fn.body = some c ∧ okCode S.ty S.pf A217 fn.ntmps c = true ∧ (fn.name == "runtime.NumGoroutine") = false := ⟨_, _, Tryz.func217, rfl, by kernel_rfl, by kernel_rfl⟩
theorem k245 : ∃ fn c, S.P.funcs[245]? = some fn ∧ fn.body = some c ∧ okCode S.ty S.pf A245 fn.ntmps c = true ∧ (fn.name == "runtime.NumGoroutine") = false := ⟨_, _, Tryz.func245, rfl, by kernel_rfl, by kernel_rfl⟩
theorem k255 : ∃ fn c, S.P.funcs[255]? = some fn ∧ fn.body = some c ∧ okCode S.ty S.pf A255 fn.ntmps c = true ∧ (fn.name == "runtime.NumGoroutine") = false := ⟨_, _, Tryz.func255, rfl, by kernel_rfl, by kernel_rfl⟩
theorem k263 : ∃ fn c, S.P.funcs[263]? = some fn ∧ fn.body = some c ∧ okCode S.ty S.pf A263 fn.ntmps c = true ∧ (fn.name == "runtime.NumGoroutine") = false := ⟨_, _, Tryz.func263, rfl, by kernel_rfl, by kernel_rfl⟩
theorem k270 : ∃ fn c, S.P.funcs[270]? = some fn ∧ fn.body = some c ∧ okCode S.ty S.pf A270 fn.ntmps c = true ∧ (fn.name == "runtime.NumGoroutine") = false := ⟨_, _, Tryz.func270, rfl, by kernel_rfl, by kernel_rfl⟩
theorem k288 : ∃ fn c, S.P.funcs[288]? = some fn ∧ fn.body = some c ∧ okCode S.ty S.pf A288 fn.ntmps c = true ∧ (fn.name == "runtime.NumGoroutine") = false := ⟨_, _, Tryz.func288, rfl, by kernel_rfl, by kernel_rfl⟩
theorem k310 : ∃ fn c, S.P.funcs[310]? = some fn ∧ fn.body = some c ∧ okCode S.ty S.pf A310 fn.ntmps c = true ∧ (fn.name == "runtime.NumGoroutine") = false := ⟨_, _, Tryz.func310, rfl, by kernel_rfl, by kernel_rfl⟩
theorem k341 : ∃ fn c, S.P.funcs[341]? = some fn ∧ fn.body = some c ∧ okCode S.ty S.pf A341 fn.ntmps c = true ∧ (fn.name == "runtime.NumGoroutine") = false := ⟨_, _, Tryz.func341, rfl, by kernel_rfl, by kernel_rfl⟩
theorem k39 : ∃ fn c, S.P.funcs[39]? = some fn ∧ fn.body = some c ∧ okCode S.ty S.pf A39 fn.ntmps c = true ∧ (fn.name == "runtime.NumGoroutine") = false := ⟨_, _, Tryz.func39, rfl, by kernel_rfl, by kernel_rfl⟩
end X
