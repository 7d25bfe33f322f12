/- Static checks of the functions, one by one. -/
import Derived.Test.YthfjcnjdcljhmaaGreatDoorTbt
open Go Go.V Go.Proofs
namespace X
set_option maxRecDepth 100000
set_option maxHeartbeats 4000000
set_option linter.unusedSimpArgs false
set_option linter.unusedVariables false
theorem k21 : ∃ fn c, S.P.funcs[21]? = some fn ∧ fn.body = some c ∧ okCode S.ty S.pf A21 fn.ntmps c = true ∧ (fn.name == "runtime.NumGoroutine") = false := ⟨_, _, Tryz.func21, rfl, by kernel_rfl, by kernel_rfl⟩
theorem k43 : ∃ fn c, S.P.funcs[43]? = some fn ∧ fn.body = some c ∧ okCode S.ty S.pf A43 fn.ntmps c = true ∧ (fn.name == "runtime.NumGoroutine") = false := ⟨_, _, Tryz.func43, rfl, by kernel_rfl, by kernel_rfl⟩
theorem k50 : ∃ fn c, S.P.funcs[50]? = some fn ∧ fn.body = some c ∧ okCode S.ty S.pf A50 fn.ntmps c = true ∧ (fn.name == "runtime.NumGoroutine") = false := ⟨_, _, Tryz.func50, rfl, by kernel_rfl, by kernel_rfl⟩
theorem k59 : ∃ fn c, S.P.funcs[59]? = some fn ∧ fn.body = some c ∧ okCode S.ty S.pf A59 fn.ntmps c = true ∧ (fn.name == "runtime.NumGoroutine") = false := ⟨_, _, Tryz.func59, rfl, by kernel_rfl, by kernel_rfl⟩
theorem k76 : ∃ fn c, S.P.funcs[76]? = some fn ∧ fn.body = some c ∧ okCode S.ty S.pf A76 fn.ntmps c = true ∧ (fn.name == "runtime.NumGoroutine") = false := ⟨_, _, Tryz.func76, rfl, by kernel_rfl, by kernel_rfl⟩
theorem k82 : ∃ fn c, S.P.funcs[82]? = some fn ∧ fn.body = some c ∧ okCode S.ty S.pf A82 fn.ntmps c = true ∧ (fn.name == "runtime.NumGoroutine") = false := ⟨_, _, Tryz.func82, rfl, by kernel_rfl, by kernel_rfl⟩
theorem k96 : ∃ fn c, S.P.funcs[96]? = some fn ∧ fn.body = some c ∧ okCode S.ty S.pf A96 fn.ntmps c = true ∧ (fn.name == "runtime.NumGoroutine") = false := ⟨_, _, Tryz.func96, rfl, by kernel_rfl, by kernel_rfl⟩
theorem k112 : ∃ fn c, S.P.funcs[112]? = some fn ∧ fn.body = some c ∧ okCode S.ty S.pf A112 fn.ntmps c = true ∧ (fn.name == "runtime.NumGoroutine") = false := ⟨_, _, Tryz.func112, rfl, by kernel_rfl, by kernel_rfl⟩
theorem k118 : ∃ fn c, S.P.funcs[118]? = some fn ∧ fn.body = some c ∧ okCode S.ty S.pf A118 fn.ntmps c = true ∧ (fn.name == "runtime.NumGoroutine") = false := ⟨_, _, Tryz.func118, rfl, by kernel_rfl, by kernel_rfl⟩
theorem k125 : ∃ fn c, S.P.funcs[125]? = some fn ∧ fn.body = some c ∧ okCode S.ty S.pf A125 fn.ntmps c = true ∧ (fn.name == "runtime.NumGoroutine") = false := ⟨_, _, Tryz.func125, rfl, by kernel_rfl, by kernel_rfl⟩
theorem k131 : ∃ fn c, S.P.funcs[131]? = some fn ∧ fn.body = some c ∧ okCode S.ty S.pf A131 fn.ntmps c = true ∧ (fn.name == "runtime.NumGoroutine") = false := ⟨_, _, Tryz.func131, rfl, by kernel_rfl, by kernel_rfl⟩
theorem k148 : ∃ fn c, S.P.funcs[148]? = some fn ∧ fn.body = some c ∧ okCode S.ty S.pf A148 fn.ntmps c = true ∧ (fn.name == "runtime.NumGoroutine") = false := ⟨_, _, Tryz.func148, rfl, by kernel_rfl, by kernel_rfl⟩
theorem k164 : ∃ fn c, S.P.funcs[164]? = some fn ∧ fn.body = some c ∧ okCode S.ty S.pf A164 fn.ntmps c = true ∧ (fn.name == "runtime.NumGoroutine") = false := ⟨_, _, Tryz.func164, rfl, by kernel_rfl, by kernel_rfl⟩
theorem k170 : ∃ fn c, S.P.funcs[170]? = some fn ∧ fn.body = some c ∧ okCode S.ty S.pf A170 fn.ntmps c = true ∧ (fn.name == "runtime.NumGoroutine") = false := ⟨_, _, Tryz.func170, rfl, by kernel_rfl, by kernel_rfl⟩
theorem k177 : ∃ fn c, S.P.funcs[177]? = some fn ∧ fn.body = some c ∧ okCode S.ty S.pf A177 fn.ntmps c = true ∧ (fn.name == "runtime.NumGoroutine") = false := ⟨_, _, Tryz.func177, rfl, by kernel_rfl, by kernel_rfl⟩
theorem k183 : ∃ fn c, S.P.funcs[183]? = some fn ∧ fn.body = some c ∧ okCode S.ty S.pf A183 fn.ntmps c = true ∧ (fn.name == "runtime.NumGoroutine") = false := ⟨_, _, Tryz.func183, rfl, by kernel_rfl, by kernel_rfl⟩
theorem k201 : ∃ fn c, S.P.funcs[201]? = some fn ∧ fn.body = some c ∧ okCode S.ty S.pf A201 fn.ntmps c = true ∧ (fn.name == "runtime.NumGoroutine") = false := ⟨_, _, Tryz.func201, rfl, by kernel_rfl, by kernel_rfl⟩
theorem k214 : ∃ fn c, S.P.funcs[214]? = some fn ∧ fn.body = some c ∧ okCode S.ty S.pf A214 fn.ntmps c = true ∧ (fn.name == "runtime.NumGoroutine") = false := ⟨_, _, Tryz.func214, rfl, by kernel_rfl, by kernel_rfl⟩
theorem k229 : ∃ fn c, S.P.funcs[229]? = some fn ∧ fn.body = some c ∧ okCode S.ty S.pf A229 fn.ntmps c = true ∧ (fn.name == "runtime.NumGoroutine") = false := ⟨_, _, Tryz.func229, rfl, by kernel_rfl, by kernel_rfl⟩
theorem k254 : ∃ fn c, S.P.funcs[254]? = some fn ∧ fn.body = some c ∧ okCode S.ty S.pf A254 fn.ntmps c = true ∧ (fn.name == "runtime.NumGoroutine") = false := ⟨_, _, Tryz.func254, rfl, by kernel_rfl, by kernel_rfl⟩
theorem k268 : ∃ fn c, S.P.funcs[268]? = some fn ∧ fn.body = some c ∧ okCode S.ty S.pf A268 fn.ntmps c = true ∧ (fn.name == "runtime.NumGoroutine") = false := ⟨_, _, Tryz.func268, rfl, by kernel_rfl, by kernel_rfl⟩
theorem k287 : ∃ fn c, S.P.funcs[287]? = some fn ∧ fn.body = some c ∧ okCode S.ty S.pf A287 fn.ntmps c = true ∧ (fn.name == "runtime.NumGoroutine") = false := ⟨_, _, Tryz.func287, rfl, by kernel_rfl, by kernel_rfl⟩
theorem k307 : ∃ fn c, S.P.funcs[307]? = some fn ∧ fn.body = some c ∧ okCode S.ty S.pf A307 fn.ntmps c = true ∧ (fn.name == "runtime.NumGoroutine") = false := ⟨_, _, Tryz.func307, rfl, by kernel_rfl, by kernel_rfl⟩
theorem k344 : ∃ fn c, S.P.funcs[344]? = some fn ∧ fn.body = some c ∧ okCode S.ty S.pf A344 fn.ntmps c = true ∧ (fn.name == "runtime.NumGoroutine") = false := ⟨_, _, Tryz.func344, rfl, by kernel_rfl, by kernel_rfl⟩
theorem k40 : ∃ fn c, S.P.funcs[40]? = some fn ∧ fn.body = some c ∧ okCode S.ty S.pf A40 fn.ntmps c = true ∧ (fn.name == "runtime.NumGoroutine") = false := ⟨_, _, Tryz.func40, rfl, by kernel_rfl, by kernel_rfl⟩
end X
