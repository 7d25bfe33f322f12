/- Static checks of the functions, one by one. -/
import Derived.Test.YthfjcnjdcljhmaaGreatDoorTzt
open Go Go.V Go.Proofs
namespace X
set_option maxRecDepth 100000
set_option maxHeartbeats 4000000
set_option linter.unusedSimpArgs false
set_option linter.unusedVariables false
theorem k19 : ∃ fn c, S.P.funcs[19]? = some fn ∧ fn.body = some c ∧ okCode S.ty S.pf A19 fn.ntmps c = true ∧ (fn.name == "runtime.NumGoroutine") = false := ⟨_, _, Tryz.func19, rfl, by kernel_rfl, by kernel_rfl⟩
theorem k30 : ∃ fn c, S.P.funcs[30]? = some fn ∧ fn.body = some c ∧ okCode S.ty S.pf A30 fn.ntmps c = true ∧ (fn.name == "runtime.NumGoroutine") = false := ⟨_, _, Tryz.func30, rfl, by kernel_rfl, by kernel_rfl⟩
theorem k36 : ∃ fn c, S.P.funcs[36]? = some fn ∧ fn.body = some c ∧ okCode S.ty S.pf A36 fn.ntmps c = true ∧ (fn.name == "runtime.NumGoroutine") = false := ⟨_, _, Tryz.func36, rfl, by kernel_rfl, by kernel_rfl⟩
theorem k46 : ∃ fn c, S.P.funcs[46]? = some fn ∧ fn.body = some c ∧ okCode S.ty S.pf A46 fn.ntmps c = true ∧ (fn.name == "runtime.NumGoroutine") = false := ⟨_, _, Tryz.func46, rfl, by kernel_rfl, by kernel_rfl⟩
theorem k55 : ∃ fn c, S.P.funcs[55]? = some fn ∧ fn.body = some c ∧ okCode S.ty S.pf A55 fn.ntmps c = true ∧ (fn.name == "runtime.NumGoroutine") = false := ⟨_, _, Tryz.func55, rfl, by kernel_rfl, by kernel_rfl⟩
theorem k61 : ∃ fn c, S.P.funcs[61]? = some fn ∧ fn.body = some c ∧ okCode S.ty S.pf A61 fn.ntmps c = true ∧ (fn.name == "runtime.NumGoroutine") = false := ⟨_, _, Tryz.func61, rfl, by kernel_rfl, by kernel_rfl⟩
theorem k67 : ∃ fn c, S.P.funcs[67]? = some fn ∧ fn.body = some c ∧ okCode S.ty S.pf A67 fn.ntmps c = true ∧ (fn.name == "runtime.NumGoroutine") = false := ⟨_, _, Tryz.func67, rfl, by kernel_rfl, by kernel_rfl⟩
theorem k73 : ∃ fn c, S.P.funcs[73]? = some fn ∧ fn.body = some c ∧ okCode S.ty S.pf A73 fn.ntmps c = true ∧ (fn.name == "runtime.NumGoroutine") = false := ⟨_, _, Tryz.func73, rfl, by kernel_rfl, by kernel_rfl⟩
theorem k79 : ∃ fn c, S.P.funcs[79]? = some fn ∧ fn.body = some c ∧ okCode S.ty S.pf A79 fn.ntmps c = true ∧ (fn.name == "runtime.NumGoroutine") = false := ⟨_, _, Tryz.func79, rfl, by kernel_rfl, by kernel_rfl⟩
theorem k93 : ∃ fn c, S.P.funcs[93]? = some fn ∧ fn.body = some c ∧ okCode S.ty S.pf A93 fn.ntmps c = true ∧ (fn.name == "runtime.NumGoroutine") = false := ⟨_, _, Tryz.func93, rfl, by kernel_rfl, by kernel_rfl⟩
theorem k99 : ∃ fn c, S.P.funcs[99]? = some fn ∧ fn.body = some c ∧ okCode S.ty S.pf A99 fn.ntmps c = true ∧ (fn.name == "runtime.NumGoroutine") = false := ⟨_, _, Tryz.func99, rfl, by kernel_rfl, by kernel_rfl⟩
theorem k105 : ∃ fn c, S.P.funcs[105]? = some fn ∧ fn.body = some c ∧ okCode S.ty S.pf A105 fn.ntmps c = true ∧ (fn.name == "runtime.NumGoroutine") = false := ⟨_, _, Tryz.func105, rfl, by kernel_rfl, by kernel_rfl⟩
theorem k111 : ∃ fn c, S.P.funcs[111]? = some fn ∧ fn.body = some c ∧ okCode S.ty S.pf A111 fn.ntmps c = true ∧ (fn.name == "runtime.NumGoroutine") = false := ⟨_, _, Tryz.func111, rfl, by kernel_rfl, by kernel_rfl⟩
theorem k118 : ∃ fn c, S.P.funcs[118]? = some fn ∧ fn.body = some c ∧ okCode S.ty S.pf A118 fn.ntmps c = true ∧ (fn.name == "runtime.NumGoroutine") = false := ⟨_, _, Tryz.func118, rfl, by kernel_rfl, by kernel_rfl⟩
theorem k128 : ∃ fn c, S.P.funcs[128]? = some fn ∧ fn.body = some c ∧ okCode S.ty S.pf A128 fn.ntmps c = true ∧ (fn.name == "runtime.NumGoroutine") = false := ⟨_, _, Tryz.func128, rfl, by kernel_rfl, by kernel_rfl⟩
theorem k146 : ∃ fn c, S.P.funcs[146]? = some fn ∧ fn.body = some c ∧ okCode S.ty S.pf A146 fn.ntmps c = true ∧ (fn.name == "runtime.NumGoroutine") = false := ⟨_, _, Tryz.func146, rfl, by kernel_rfl, by kernel_rfl⟩
theorem k152 : ∃ fn c, S.P.funcs[152]? = some fn ∧ fn.body = some c ∧ okCode S.ty S.pf A152 fn.ntmps c = true ∧ (fn.name == "runtime.NumGoroutine") = false := ⟨_, _, Tryz.func152, rfl, by kernel_rfl, by kernel_rfl⟩
theorem k158 : ∃ fn c, S.P.funcs[158]? = some fn ∧ fn.body = some c ∧ okCode S.ty S.pf A158 fn.ntmps c = true ∧ (fn.name == "runtime.NumGoroutine") = false := ⟨_, _, Tryz.func158, rfl, by kernel_rfl, by kernel_rfl⟩
theorem k166 : ∃ fn c, S.P.funcs[166]? = some fn ∧ fn.body = some c ∧ okCode S.ty S.pf A166 fn.ntmps c = true ∧ (fn.name == "runtime.NumGoroutine") = false := ⟨_, _, Tryz.func166, rfl, by kernel_rfl, by kernel_rfl⟩
theorem k172 : ∃ fn c, S.P.funcs[172]? = some fn ∧ fn.body = some c ∧ okCode S.ty S.pf A172 fn.ntmps c = true ∧ (fn.name == "runtime.NumGoroutine") = false := ⟨_, _, Tryz.func172, rfl, by kernel_rfl, by kernel_rfl⟩
theorem k179 : ∃ fn c, S.P.funcs[179]? = some fn ∧ fn.body = some c ∧ okCode S.ty S.pf A179 fn.ntmps c = true ∧ (fn.name == "runtime.NumGoroutine") = false := ⟨_, _, Tryz.func179, rfl, by kernel_rfl, by kernel_rfl⟩
theorem k187 : ∃ fn c, S.P.funcs[187]? = some fn ∧ fn.body = some c ∧ okCode S.ty S.pf A187 fn.ntmps c = true ∧ (fn.name == "runtime.NumGoroutine") = false := ⟨_, _, Tryz.func187, rfl, by kernel_rfl, by kernel_rfl⟩
theorem k203 : ∃ fn c, S.P.funcs[203]? = some fn ∧ fn.body = some c ∧ okCode S.ty S.pf A203 fn.ntmps c = true ∧ (fn.name == "runtime.NumGoroutine") = false := ⟨_, _, Tryz.func203, rfl, by kernel_rfl, by kernel_rfl⟩
theorem k216 : ∃ fn c, S.P.funcs[216]? = some fn ∧ fn.body = some c ∧ okCode S.ty S.pf A216 fn.ntmps c = true ∧ (fn.name == "runtime.NumGoroutine") = false := ⟨_, _, Tryz.func216, rfl, by kernel_rfl, by kernel_rfl⟩
theorem k238 : ∃ fn c, S.P.funcs[238]? = some fn ∧ fn.body = some c ∧ okCode S.ty S.pf A238 fn.ntmps c = true ∧ (fn.name == "runtime.NumGoroutine") = false := ⟨_, _, Tryz.func238, rfl, by kernel_rfl, by kernel_rfl⟩
theorem k255 : ∃ fn c, S.P.funcs[255]? = some fn ∧ fn.body = some c ∧ okCode S.ty S.pf A255 fn.ntmps c = true ∧ (fn.name == "runtime.NumGoroutine") = false := ⟨_, _, Tryz.func255, rfl, by kernel_rfl, by kernel_rfl⟩
theorem k283 : ∃ fn c, S.P.funcs[283]? = some fn ∧ fn.body = some c ∧ okCode S.ty S.pf A283 fn.ntmps c = true ∧ (fn.name == "runtime.NumGoroutine") = false := ⟨_, _, Tryz.func283, rfl, by kernel_rfl, by kernel_rfl⟩
theorem k310 : ∃ fn c, S.P.funcs[310]? = some fn ∧ fn.body = some c ∧ okCode S.ty S.pf A310 fn.ntmps c = true ∧ (fn.name == "runtime.NumGoroutine") = false := ⟨_, _, Tryz.func310, rfl, by kernel_rfl, by kernel_rfl⟩
theorem k3 : ∃ fn c, S.P.funcs[3]? = some fn ∧ fn.body = some c ∧ okCode S.ty S.pf A3 fn.ntmps c = true ∧ (fn.name == "runtime.NumGoroutine") = false := ⟨_, _, Tryz.func3, rfl, by kernel_rfl, by kernel_rfl⟩
theorem k16 : ∃ fn c, S.P.funcs[16]? = some fn ∧ fn.body = some c ∧ okCode S.ty S.pf A16 fn.ntmps c = true ∧ (fn.name == "runtime.NumGoroutine") = false := ⟨_, _, Tryz.func16, rfl, by kernel_rfl, by kernel_rfl⟩
end X
