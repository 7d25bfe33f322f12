/- Static checks of the functions, one by one. -/
import Derived.Test.YthfjcnjdcljhmaaGreatDoorTgt
open Go Go.V Go.Proofs
namespace X
set_option maxRecDepth 100000
set_option maxHeartbeats 4000000
set_option linter.unusedSimpArgs false
set_option linter.unusedVariables false
theorem k21 : ∃ fn c, S.P.funcs[21]? = some fn ∧ fn.body = some c ∧ okCode S.ty S.pf A21 fn.ntmps c = true ∧ (fn.name == "runtime.NumGoroutine") = false := ⟨_, _, Tryz.func21, rfl, by kernel_rfl, by kernel_rfl⟩
theorem k38 : ∃ fn c, S.P.funcs[38]? = some fn ∧ fn.body = some c ∧ okCode S.ty S.pf A38 fn.ntmps c = true ∧ (fn.name == "runtime.NumGoroutine") = false := ⟨_, _, Tryz.func38, rfl, by kernel_rfl, by kernel_rfl⟩
theorem k47 : ∃ fn c, S.P.funcs[47]? = some fn ∧ fn.body = some c ∧ okCode S.ty S.pf A47 fn.ntmps c = true ∧ (fn.name == "runtime.NumGoroutine") = false := ⟨_, _, Tryz.func47, rfl, by kernel_rfl, by kernel_rfl⟩
theorem k56 : ∃ fn c, S.P.funcs[56]? = some fn ∧ fn.body = some c ∧ okCode S.ty S.pf A56 fn.ntmps c = true ∧ (fn.name == "runtime.NumGoroutine") = false := ⟨_, _, Tryz.func56, rfl, by kernel_rfl, by kernel_rfl⟩
theorem k72 : ∃ fn c, S.P.funcs[72]? = some fn ∧ fn.body = some c ∧ okCode S.ty S.pf A72 fn.ntmps c = true ∧ (fn.name == "runtime.NumGoroutine") = false := ⟨_, _, Tryz.func72, rfl, by kernel_rfl, by kernel_rfl⟩
theorem k78 : ∃ fn c, S.P.funcs[78]? = some fn ∧ fn.body = some c ∧ okCode S.ty S.pf A78 fn.ntmps c = true ∧ (fn.name == "runtime.NumGoroutine") = false := ⟨_, _, Tryz.func78, rfl, by kernel_rfl, by kernel_rfl⟩
theorem k92 : ∃ fn c, S.P.funcs[92]? = some fn ∧ fn.body = some c ∧ okCode S.ty S.pf A92 fn.ntmps c = true ∧ (fn.name == "runtime.NumGoroutine") = false := ⟨_, _, Tryz.func92, rfl, by kernel_rfl, by kernel_rfl⟩
theorem k100 : ∃ fn c, S.P.funcs[100]? = some fn ∧ fn.body = some c ∧ okCode S.ty S.pf A100 fn.ntmps c = true ∧ (fn.name == "runtime.NumGoroutine") = false := ⟨_, _, Tryz.func100, rfl, by kernel_rfl, by kernel_rfl⟩
theorem k109 : ∃ fn c, S.P.funcs[109]? = some fn ∧ fn.body = some c ∧ okCode S.ty S.pf A109 fn.ntmps c = true ∧ (fn.name == "runtime.NumGoroutine") = false := ⟨_, _, Tryz.func109, rfl, by kernel_rfl, by kernel_rfl⟩
theorem k115 : ∃ fn c, S.P.funcs[115]? = some fn ∧ fn.body = some c ∧ okCode S.ty S.pf A115 fn.ntmps c = true ∧ (fn.name == "runtime.NumGoroutine") = false := ⟨_, _, Tryz.func115, rfl, by kernel_rfl, by kernel_rfl⟩
theorem k122 : ∃ fn c, S.P.funcs[122]? = some fn ∧ fn.body = some c ∧ okCode S.ty S.pf A122 fn.ntmps c = true ∧ (fn.name == "runtime.NumGoroutine") = false := ⟨_, _, Tryz.func122, rfl, by kernel_rfl, by kernel_rfl⟩
theorem k128 : ∃ fn c, S.P.funcs[128]? = some fn ∧ fn.body = some c ∧ okCode S.ty S.pf A128 fn.ntmps c = true ∧ (fn.name == "runtime.NumGoroutine") = false := ⟨_, _, Tryz.func128, rfl, by kernel_rfl, by kernel_rfl⟩
theorem k145 : ∃ fn c, S.P.funcs[145]? = some fn ∧ fn.body = some c ∧ okCode S.ty S.pf A145 fn.ntmps c = true ∧ (fn.name == "runtime.NumGoroutine") = false := ⟨_, _, Tryz.func145, rfl, by kernel_rfl, by kernel_rfl⟩
theorem k152 : ∃ fn c, S.P.funcs[152]? = some fn ∧ fn.body = some c ∧ okCode S.ty S.pf A152 fn.ntmps c = true ∧ (fn.name == "runtime.NumGoroutine") = false := ⟨_, _, Tryz.func152, rfl, by kernel_rfl, by kernel_rfl⟩
theorem k159 : ∃ fn c, S.P.funcs[159]? = some fn ∧ fn.body = some c ∧ okCode S.ty S.pf A159 fn.ntmps c = true ∧ (fn.name == "runtime.NumGoroutine") = false := ⟨_, _, Tryz.func159, rfl, by kernel_rfl, by kernel_rfl⟩
theorem k165 : ∃ fn c, S.P.funcs[165]? = some fn ∧ fn.body = some c ∧ okCode S.ty S.pf A165 fn.ntmps c = true ∧ (fn.name == "runtime.NumGoroutine") = false := ⟨_, _, Tryz.func165, rfl, by kernel_rfl, by kernel_rfl⟩
theorem k174 : ∃ fn c, S.P.funcs[174]? = some fn ∧ fn.body = some c ∧ okCode S.ty S.pf A174 fn.ntmps c = true ∧ (fn.name == "runtime.NumGoroutine") = false := ⟨_, _, Tryz.func174, rfl, by kernel_rfl, by kernel_rfl⟩
theorem k180 : ∃ fn c, S.P.funcs[180]? = some fn ∧ fn.body = some c ∧ okCode S.ty S.pf A180 fn.ntmps c = true ∧ (fn.name == "runtime.NumGoroutine") = false := ⟨_, _, Tryz.func180, rfl, by kernel_rfl, by kernel_rfl⟩
theorem k196 : ∃ fn c, S.P.funcs[196]? = some fn ∧ fn.body = some c ∧ okCode S.ty S.pf A196 fn.ntmps c = true ∧ (fn.name == "runtime.NumGoroutine") = false := ⟨_, _, Tryz.func196, rfl, by kernel_rfl, by kernel_rfl⟩
theorem k204 : ∃ fn c, S.P.funcs[204]? = some fn ∧ fn.body = some c ∧ okCode S.ty S.pf A204 fn.ntmps c = true ∧ (fn.name == "runtime.NumGoroutine") = false := ⟨_, _, Tryz.func204, rfl, by kernel_rfl, by kernel_rfl⟩
theorem k211 : ∃ fn c, S.P.funcs[211]? = some fn ∧ fn.body = some c ∧ okCode S.ty S.pf A211 fn.ntmps c = true ∧ (fn.name == "runtime.NumGoroutine") = false := ⟨_, _, Tryz.func211, rfl, by kernel_rfl, by kernel_rfl⟩
theorem k218 : ∃ fn c, S.P.funcs[218]? = some fn ∧ fn.body = some c ∧ okCode S.ty S.pf A218 fn.ntmps c = true ∧ (fn.name == "runtime.NumGoroutine") = false := ⟨_, _, Tryz.func218, rfl, by kernel_rfl, by kernel_rfl⟩
theorem k247 : ∃ fn c, S.P.funcs[247]? = some fn ∧ fn.body = some c ∧ okCode S.ty S.pf A247 fn.ntmps c = true ∧ (fn.name == "runtime.NumGoroutine") = false := ⟨_, _, Tryz.func247, rfl, by kernel_rfl, by kernel_rfl⟩
theorem k256 : ∃ fn c, S.P.funcs[256]? = some fn ∧ fn.body = some c ∧ okCode S.ty S.pf A256 fn.ntmps c = true ∧ (fn.name == "runtime.NumGoroutine") = false := ⟨_, _, Tryz.func256, rfl, by kernel_rfl, by kernel_rfl⟩
theorem k264 : ∃ fn c, S.P.funcs[264]? = some fn ∧ fn.body = some c ∧ okCode S.ty S.pf A264 fn.ntmps c = true ∧ (fn.name == "runtime.NumGoroutine") = false := ⟨_, _, Tryz.func264, rfl, by kernel_rfl, by kernel_rfl⟩
theorem k276 : ∃ fn c, S.P.funcs[276]? = some fn ∧ fn.body = some c ∧ okCode S.ty S.pf A276 fn.ntmps c = true ∧ (fn.name == "runtime.NumGoroutine") = false := ⟨_, _, Tryz.func276, rfl, by kernel_rfl, by kernel_rfl⟩
theorem k289 : ∃ fn c, S.P.funcs[289]? = some fn ∧ fn.body = some c ∧ okCode S.ty S.pf A289 fn.ntmps c = true ∧ (fn.name == "runtime.NumGoroutine") = false := ⟨_, _, Tryz.func289, rfl, by kernel_rfl, by kernel_rfl⟩
theorem k311 : ∃ fn c, S.P.funcs[311]? = some fn ∧ fn.body = some c ∧ okCode S.ty S.pf A311 fn.ntmps c = true ∧ (fn.name == "runtime.NumGoroutine") = false := ⟨_, _, Tryz.func311, rfl, by kernel_rfl, by kernel_rfl⟩
theorem k344 : ∃ fn c, S.P.funcs[344]? = some fn ∧ fn.body = some c ∧ okCode S.ty S.pf A344 fn.ntmps c = true ∧ (fn.name == "runtime.NumGoroutine") = false := ⟨_, _, Tryz.func344, rfl, by kernel_rfl, by kernel_rfl⟩
theorem k40 : ∃ fn c, S.P.funcs[40]? = some fn ∧ fn.body = some c ∧ okCode S.ty S.pf A40 fn.ntmps c = true ∧ (fn.name == "runtime.NumGoroutine") = false := ⟨_, _, Tryz.func40, rfl, by kernel_rfl, by kernel_rfl⟩
end X
