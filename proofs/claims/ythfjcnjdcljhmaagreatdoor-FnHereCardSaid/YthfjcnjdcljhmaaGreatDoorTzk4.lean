/- Static checks of the functions, one by one. -/
import Derived.Test.YthfjcnjdcljhmaaGreatDoorTzt
open Go Go.V Go.Proofs
namespace X
set_option maxRecDepth 100000
set_option maxHeartbeats 4000000
set_option linter.unusedSimpArgs false
set_option linter.unusedVariables false
theorem k21 : ∃ fn c, S.P.funcs[21]? = some fn ∧ fn.body = some c ∧ okCode S.ty S.pf A21 fn.ntmps c = true ∧ (fn.name == "runtime.NumGoroutine") = false := ⟨_, _, Tryz.func21, rfl, by kernel_rfl, by kernel_rfl⟩
theorem k32 : ∃ fn c, S.P.funcs[32]? = some fn ∧ fn.body = some c ∧ okCode S.ty S.pf A32 fn.ntmps c = true ∧ (fn.name == "runtime.NumGoroutine") = false := ⟨_, _, Tryz.func32, rfl, by kernel_rfl, by kernel_rfl⟩
theorem k42 : ∃ fn c, S.P.funcs[42]? = some fn ∧ fn.body = some c ∧ okCode S.ty S.pf A42 fn.ntmps c = true ∧ (fn.name == "runtime.NumGoroutine") = false := ⟨_, _, Tryz.func42, rfl, by kernel_rfl, by kernel_rfl⟩
theorem k48 : ∃ fn c, S.P.funcs[48]? = some fn ∧ fn.body = some c ∧ okCode S.ty S.pf A48 fn.ntmps c = true ∧ (fn.name == "runtime.NumGoroutine") = false := ⟨_, _, Tryz.func48, rfl, by kernel_rfl, by kernel_rfl⟩
theorem k57 : ∃ fn c, S.P.funcs[57]? = some fn ∧ fn.body = some c ∧ okCode S.ty S.pf A57 fn.ntmps c = true ∧ (fn.name == "runtime.NumGoroutine") = false := ⟨_, _, Tryz.func57, rfl, by kernel_rfl, by kernel_rfl⟩
theorem k63 : ∃ fn c, S.P.funcs[63]? = some fn ∧ fn.body = some c ∧ okCode S.ty S.pf A63 fn.ntmps c = true ∧ (fn.name == "runtime.NumGoroutine") = false := ⟨_, _, Tryz.func63, rfl, by kernel_rfl, by kernel_rfl⟩
theorem k69 : ∃ fn c, S.P.funcs[69]? = some fn ∧ fn.body = some c ∧ okCode S.ty S.pf A69 fn.ntmps c = true ∧ (fn.name == "runtime.NumGoroutine") = false := ⟨_, _, Tryz.func69, rfl, by kernel_rfl, by kernel_rfl⟩
theorem k75 : ∃ fn c, S.P.funcs[75]? = some fn ∧ fn.body = some c ∧ okCode S.ty S.pf A75 fn.ntmps c = true ∧ (fn.name == "runtime.NumGoroutine") = false := ⟨_, _, Tryz.func75, rfl, by kernel_rfl, by kernel_rfl⟩
theorem k81 : ∃ fn c, S.P.funcs[81]? = some fn ∧ fn.body = some c ∧ okCode S.ty S.pf A81 fn.ntmps c = true ∧ (fn.name == "runtime.NumGoroutine") = false := ⟨_, _, Tryz.func81, rfl, by kernel_rfl, by kernel_rfl⟩
theorem k95 : ∃ fn c, S.P.funcs[95]? = some fn ∧ fn.body = some c ∧ okCode S.ty S.pf A95 fn.ntmps c = true ∧ (fn.name == "runtime.NumGoroutine") = false := ⟨_, _, Tryz.func95, rfl, by kernel_rfl, by kernel_rfl⟩
theorem k101 : ∃ fn c, S.P.funcs[101]? = some fn ∧ fn.body = some c ∧ okCode S.ty S.pf A101 fn.ntmps c = true ∧ (fn.name == "runtime.NumGoroutine") = false := ⟨_, _, Tryz.func101, rfl, by kernel_rfl, by kernel_rfl⟩
theorem k107 : ∃ fn c, S.P.funcs[107]? = some fn ∧ fn.body = some c ∧ okCode S.ty S.pf A107 fn.ntmps c = true ∧ (fn.name == "runtime.NumGoroutine") = false := ⟨_, _, Tryz.func107, rfl, by kernel_rfl, by kernel_rfl⟩
theorem k114 : ∃ fn c, S.P.funcs[114]? = some fn ∧ fn.body = some c ∧ okCode S.ty S.pf A114 fn.ntmps c = true ∧ (fn.name == "runtime.NumGoroutine") = false := ⟨_, _, Tryz.func114, rfl, by kernel_rfl, by kernel_rfl⟩
theorem k120 : ∃ fn c, S.P.funcs[120]? = some fn ∧ fn.body = some c ∧ okCode S.ty S.pf A120 fn.ntmps c = true ∧ (fn.name == "runtime.NumGoroutine") = false := ⟨_, _, Tryz.func120, rfl, by kernel_rfl, by kernel_rfl⟩
theorem k130 : ∃ fn c, S.P.funcs[130]? = some fn ∧ fn.body = some c ∧ okCode S.ty S.pf A130 fn.ntmps c = true ∧ (fn.name == "runtime.NumGoroutine") = false := ⟨_, _, Tryz.func130, rfl, by kernel_rfl, by kernel_rfl⟩
theorem k148 : ∃ fn c, S.P.funcs[148]? = some fn ∧ fn.body = some c ∧ okCode S.ty S.pf A148 fn.ntmps c = true ∧ (fn.name == "runtime.NumGoroutine") = false := ⟨_, _, Tryz.func148, rfl, by kernel_rfl, by kernel_rfl⟩
theorem k154 : ∃ fn c, S.P.funcs[154]? = some fn ∧ fn.body = some c ∧ okCode S.ty S.pf A154 fn.ntmps c = true ∧ (fn.name == "runtime.NumGoroutine") = false := ⟨_, _, Tryz.func154, rfl, by kernel_rfl, by kernel_rfl⟩
theorem k161 : ∃ fn c, S.P.funcs[161]? = some fn ∧ fn.body = some c ∧ okCode S.ty S.pf A161 fn.ntmps c = true ∧ (fn.name == "runtime.NumGoroutine") = false := ⟨_, _, Tryz.func161, rfl, by kernel_rfl, by kernel_rfl⟩
theorem k168 : ∃ fn c, S.P.funcs[168]? = some fn ∧ fn.body = some c ∧ okCode S.ty S.pf A168 fn.ntmps c = true ∧ (fn.name == "runtime.NumGoroutine") = false := ⟨_, _, Tryz.func168, rfl, by kernel_rfl, by kernel_rfl⟩
theorem k175 : ∃ fn c, S.P.funcs[175]? = some fn ∧ fn.body = some c ∧ okCode S.ty S.pf A175 fn.ntmps c = true ∧ (fn.name == "runtime.NumGoroutine") = false := ⟨_, _, Tryz.func175, rfl, by kernel_rfl, by kernel_rfl⟩
theorem k181 : ∃ fn c, S.P.funcs[181]? = some fn ∧ fn.body = some c ∧ okCode S.ty S.pf A181 fn.ntmps c = true ∧ (fn.name == "runtime.NumGoroutine") = false := ⟨_, _, Tryz.func181, rfl, by kernel_rfl, by kernel_rfl⟩
theorem k197 : ∃ fn c, S.P.funcs[197]? = some fn ∧ fn.body = some c ∧ okCode S.ty S.pf A197 fn.ntmps c = true ∧ (fn.name == "runtime.NumGoroutine") = false := ⟨_, _, Tryz.func197, rfl, by kernel_rfl, by kernel_rfl⟩
theorem k209 : ∃ fn c, S.P.funcs[209]? = some fn ∧ fn.body = some c ∧ okCode S.ty S.pf A209 fn.ntmps c = true ∧ (fn.name == "runtime.NumGoroutine") = false := ⟨_, _, Tryz.func209, rfl, by kernel_rfl, by kernel_rfl⟩
theorem k218 : ∃ fn c, S.P.funcs[218]? = some fn ∧ fn.body = some c ∧ okCode S.ty S.pf A218 fn.ntmps c = true ∧ (fn.name == "runtime.NumGoroutine") = false := ⟨_, _, Tryz.func218, rfl, by kernel_rfl, by kernel_rfl⟩
theorem k247 : ∃ fn c, S.P.funcs[247]? = some fn ∧ fn.body = some c ∧ okCode S.ty S.pf A247 fn.ntmps c = true ∧ (fn.name == "runtime.NumGoroutine") = false := ⟨_, _, Tryz.func247, rfl, by kernel_rfl, by kernel_rfl⟩
theorem k268 : ∃ fn c, S.P.funcs[268]? = some fn ∧ fn.body = some c ∧ okCode S.ty S.pf A268 fn.ntmps c = true ∧ (fn.name == "runtime.NumGoroutine") = false := ⟨_, _, Tryz.func268, rfl, by kernel_rfl, by kernel_rfl⟩
theorem k287 : ∃ fn c, S.P.funcs[287]? = some fn ∧ fn.body = some c ∧ okCode S.ty S.pf A287 fn.ntmps c = true ∧ (fn.name == "runtime.NumGoroutine") = false := ⟨_, _, Tryz.func287, rfl, by kernel_rfl, by kernel_rfl⟩
theorem k314 : ∃ fn c, S.P.funcs[314]? = some fn ∧ fn.body = some c ∧ okCode S.ty S.pf A314 fn.ntmps c = true ∧ (fn.name == "runtime.NumGoroutine") = false := ⟨_, _, Tryz.func314, rfl, by kernel_rfl, by kernel_rfl⟩
theorem k7 : ∃ fn c, S.P.funcs[7]? = some fn ∧ fn.body = some c ∧ okCode S.ty S.pf A7 fn.ntmps c = true ∧ (fn.name == "runtime.NumGoroutine") = false := ⟨_, _, Tryz.func7, rfl, by kernel_rfl, by kernel_rfl⟩
theorem k40 : ∃ fn c, S.P.funcs[40]? = some fn ∧ fn.body = some c ∧ okCode S.ty S.pf A40 fn.ntmps c = true ∧ (fn.name == "runtime.NumGoroutine") = false := ⟨_, _, Tryz.func40, rfl, by kernel_rfl, by kernel_rfl⟩
end X
