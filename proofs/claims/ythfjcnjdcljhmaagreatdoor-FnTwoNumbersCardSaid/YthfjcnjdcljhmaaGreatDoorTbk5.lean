/- Static checks of the functions, one by one. -/
import Derived.Test.YthfjcnjdcljhmaaGreatDoorTbt
open Go Go.V Go.Proofs
namespace X
set_option maxRecDepth 100000
set_option maxHeartbeats 4000000
set_option linter.unusedSimpArgs false
set_option linter.unusedVariables false
theorem k22 : ∃ fn c, S.P.funcs[22]? = some fn ∧ fn.body = some c ∧ okCode S.ty S.pf A22 fn.ntmps c = true ∧ (fn.name == "runtime.NumGoroutine") = false := ⟨_, _, Tryz.func22, rfl, by kernel_rfl, by kernel_rfl⟩
theorem k45 : ∃ fn c, S.P.funcs[45]? = some fn ∧ fn.body = some c ∧ okCode S.ty S.pf A45 fn.ntmps c = true ∧ (fn.name == "runtime.NumGoroutine") = false := ⟨_, _, Tryz.func45, rfl, by kernel_rfl, by kernel_rfl⟩
theorem k54 : ∃ fn c, S.P.funcs[54]? = some fn ∧ fn.body = some c ∧ okCode S.ty S.pf A54 fn.ntmps c = true ∧ (fn.name == "runtime.NumGoroutine") = false := ⟨_, _, Tryz.func54, rfl, by kernel_rfl, by kernel_rfl⟩
theorem k71 : ∃ fn c, S.P.funcs[71]? = some fn ∧ fn.body = some c ∧ okCode S.ty S.pf A71 fn.ntmps c = true ∧ (fn.name == "runtime.NumGoroutine") = false := ⟨_, _, Tryz.func71, rfl, by kernel_rfl, by kernel_rfl⟩
theorem k77 : ∃ fn c, S.P.funcs[77]? = some fn ∧ fn.body = some c ∧ okCode S.ty S.pf A77 fn.ntmps c = true ∧ (fn.name == "runtime.NumGoroutine") = false := ⟨_, _, Tryz.func77, rfl, by kernel_rfl, by kernel_rfl⟩
theorem k83 : ∃ fn c, S.P.funcs[83]? = some fn ∧ fn.body = some c ∧ okCode S.ty S.pf A83 fn.ntmps c = true ∧ (fn.name == "runtime.NumGoroutine") = false := ⟨_, _, Tryz.func83, rfl, by kernel_rfl, by kernel_rfl⟩
theorem k97 : ∃ fn c, S.P.funcs[97]? = some fn ∧ fn.body = some c ∧ okCode S.ty S.pf A97 fn.ntmps c = true ∧ (fn.name == "runtime.NumGoroutine") = false := ⟨_, _, Tryz.func97, rfl, by kernel_rfl, by kernel_rfl⟩
theorem k113 : ∃ fn c, S.P.funcs[113]? = some fn ∧ fn.body = some c ∧ okCode S.ty S.pf A113 fn.ntmps c = true ∧ (fn.name == "runtime.NumGoroutine") = false := ⟨_, _, Tryz.func113, rfl, by kernel_rfl, by kernel_rfl⟩
theorem k119 : ∃ fn c, S.P.funcs[119]? = some fn ∧ fn.body = some c ∧ okCode S.ty S.pf A119 fn.ntmps c = true ∧ (fn.name == "runtime.NumGoroutine") = false := ⟨_, _, Tryz.func119, rfl, by kernel_rfl, by kernel_rfl⟩
theorem k126 : ∃ fn c, S.P.funcs[126]? = some fn ∧ fn.body = some c ∧ okCode S.ty S.pf A126 fn.ntmps c = true ∧ (fn.name == "runtime.NumGoroutine") = false := ⟨_, _, Tryz.func126, rfl, by kernel_rfl, by kernel_rfl⟩
theorem k132 : ∃ fn c, S.P.funcs[132]? = some fn ∧ fn.body = some c ∧ okCode S.ty S.pf A132 fn.ntmps c = true ∧ (fn.name == "runtime.NumGoroutine") = false := ⟨_, _, Tryz.func132, rfl, by kernel_rfl, by kernel_rfl⟩
theorem k149 : ∃ fn c, S.P.funcs[149]? = some fn ∧ fn.body = some c ∧ okCode S.ty S.pf A149 fn.ntmps c = true ∧ (fn.name == "runtime.NumGoroutine") = false := ⟨_, _, Tryz.func149, rfl, by kernel_rfl, by kernel_rfl⟩
theorem k165 : ∃ fn c, S.P.funcs[165]? = some fn ∧ fn.body = some c ∧ okCode S.ty S.pf A165 fn.ntmps c = true ∧ (fn.name == "runtime.NumGoroutine") = false := ⟨_, _, Tryz.func165, rfl, by kernel_rfl, by kernel_rfl⟩
theorem k171 : ∃ fn c, S.P.funcs[171]? = some fn ∧ fn.body = some c ∧ okCode S.ty S.pf A171 fn.ntmps c = true ∧ (fn.name == "runtime.NumGoroutine") = false := ⟨_, _, Tryz.func171, rfl, by kernel_rfl, by kernel_rfl⟩
theorem k178 : ∃ fn c, S.P.funcs[178]? = some fn ∧ fn.body = some c ∧ okCode S.ty S.pf A178 fn.ntmps c = true ∧ (fn.name == "runtime.NumGoroutine") = false := ⟨_, _, Tryz.func178, rfl, by kernel_rfl, by kernel_rfl⟩
theorem k184 : ∃ fn c, S.P.funcs[184]? = some fn ∧ fn.body = some c ∧ okCode S.ty S.pf A184 fn.ntmps c = true ∧ (fn.name == "runtime.NumGoroutine") = false := ⟨_, _, Tryz.func184, rfl, by kernel_rfl, by kernel_rfl⟩
theorem k202 : ∃ fn c, S.P.funcs[202]? = some fn ∧ fn.body = some c ∧ okCode S.ty S.pf A202 fn.ntmps c = true ∧ (fn.name == "runtime.NumGoroutine") = false := ⟨_, _, Tryz.func202, rfl, by kernel_rfl, by kernel_rfl⟩
theorem k216 : ∃ fn c, S.P.funcs[216]? = some fn ∧ fn.body = some c ∧ okCode S.ty S.pf A216 fn.ntmps c = true ∧ (fn.name == "runtime.NumGoroutine") = false := ⟨_, _, Tryz.func216, rfl, by kernel_rfl, by kernel_rfl⟩
theorem k238 : ∃ fn c, S.P.funcs[238]? = some fn ∧ fn.body = some c ∧ okCode S.ty S.pf A238 fn.ntmps c = true ∧ (fn.name == "runtime.NumGoroutine") = false := ⟨_, _, Tryz.func238, rfl, by kernel_rfl, by kernel_rfl⟩
theorem k255 : ∃ fn c, S.P.funcs[255]? = some fn ∧ fn.body = some c ∧ okCode S.ty S.pf A255 fn.ntmps c = true ∧ (fn.name == "runtime.NumGoroutine") = false := ⟨_, _, Tryz.func255, rfl, by kernel_rfl, by kernel_rfl⟩
theorem k270 : ∃ fn c, S.P.funcs[270]? = some fn ∧ fn.body = some c ∧ okCode S.ty S.pf A270 fn.ntmps c = true ∧ (fn.name == "runtime.NumGoroutine") = false := ⟨_, _, Tryz.func270, rfl, by kernel_rfl, by kernel_rfl⟩
theorem k288 : ∃ fn c, S.P.funcs[288]? = some fn ∧ fn.body = some c ∧ okCode S.ty S.pf A288 fn.ntmps c = true ∧ (fn.name == "runtime.NumGoroutine") = false := ⟨_, _, Tryz.func288, rfl, by kernel_rfl, by kernel_rfl⟩
theorem k310 : ∃ fn c, S.P.funcs[310]? = some fn ∧ fn.body = some c ∧ okCode S.ty S.pf A310 fn.ntmps c = true ∧ (fn.name == "runtime.NumGoroutine") = false := ⟨_, _, Tryz.func310, rfl, by kernel_rfl, by kernel_rfl⟩
theorem k349 : ∃ fn c, S.P.funcs[349]? = some fn ∧ fn.body = some c ∧ okCode S.ty S.pf A349 fn.ntmps c = true ∧ (fn.name == "runtime.NumGoroutine") = false := ⟨_, _, Tryz.func349, rfl, by kernel_rfl, by kernel_rfl⟩
theorem k41 : ∃ fn c, S.P.funcs[41]? = some fn ∧ fn.body = some c ∧ okCode S.ty S.pf A41 fn.ntmps c = true ∧ (fn.name == "runtime.NumGoroutine") = false := ⟨_, _, Tryz.func41, rfl, by kernel_rfl, by kernel_rfl⟩
end X
