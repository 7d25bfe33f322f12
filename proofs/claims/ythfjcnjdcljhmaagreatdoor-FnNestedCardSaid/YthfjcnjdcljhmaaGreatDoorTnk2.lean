/- Static checks of the functions, one by one. -/
import Derived.Test.YthfjcnjdcljhmaaGreatDoorTnt
open Go Go.V Go.Proofs
namespace X
set_option maxRecDepth 100000
set_option maxHeartbeats 4000000
set_option linter.unusedSimpArgs false
set_option linter.unusedVariables false
theorem k21 : ∃ fn c, S.P.funcs[21]? = some fn ∧ fn.body = some c ∧ okCode S.ty S.pf A21 fn.ntmps c = true ∧ (fn.name == "runtime.NumGoroutine") = false := ⟨_, _, Tryz.func21, rfl, by kernel_rfl, by kernel_rfl⟩
theorem k45 : ∃ fn c, S.P.funcs[45]? = some fn ∧ fn.body = some c ∧ okCode S.ty S.pf A45 fn.ntmps c = true ∧ (fn.name == "runtime.NumGoroutine") = false := ⟨_, _, Tryz.func45, rfl, by kernel_rfl, by kernel_rfl⟩
theorem k52 : ∃ fn c, S.P.funcs[52]? = some fn ∧ fn.body = some c ∧ okCode S.ty S.pf A52 fn.ntmps c = true ∧ (fn.name == "runtime.NumGoroutine") = false := ⟨_, _, Tryz.func52, rfl, by kernel_rfl, by kernel_rfl⟩
theorem k58 : ∃ fn c, S.P.funcs[58]? = some fn ∧ fn.body = some c ∧ okCode S.ty S.pf A58 fn.ntmps c = true ∧ (fn.name == "runtime.NumGoroutine") = false := ⟨_, _, Tryz.func58, rfl, by kernel_rfl, by kernel_rfl⟩
theorem k75 : ∃ fn c, S.P.funcs[75]? = some fn ∧ fn.body = some c ∧ okCode S.ty S.pf A75 fn.ntmps c = true ∧ (fn.name == "runtime.NumGoroutine") = false := ⟨_, _, Tryz.func75, rfl, by kernel_rfl, by kernel_rfl⟩
theorem k85 : ∃ fn c, S.P.funcs[85]? = some fn ∧ fn.body = some c ∧ okCode S.ty S.pf A85 fn.ntmps c = true ∧ (fn.name == "runtime.NumGoroutine") = false := ⟨_, _, Tryz.func85, rfl, by kernel_rfl, by kernel_rfl⟩
theorem k91 : ∃ fn c, S.P.funcs[91]? = some fn ∧ fn.body = some c ∧ okCode S.ty S.pf A91 fn.ntmps c = true ∧ (fn.name == "runtime.NumGoroutine") = false := ⟨_, _, Tryz.func91, rfl, by kernel_rfl, by kernel_rfl⟩
theorem k97 : ∃ fn c, S.P.funcs[97]? = some fn ∧ fn.body = some c ∧ okCode S.ty S.pf A97 fn.ntmps c = true ∧ (fn.name == "runtime.NumGoroutine") = false := ⟨_, _, Tryz.func97, rfl, by kernel_rfl, by kernel_rfl⟩
theorem k114 : ∃ fn c, S.P.funcs[114]? = some fn ∧ fn.body = some c ∧ okCode S.ty S.pf A114 fn.ntmps c = true ∧ (fn.name == "runtime.NumGoroutine") = false := ⟨_, _, Tryz.func114, rfl, by kernel_rfl, by kernel_rfl⟩
theorem k120 : ∃ fn c, S.P.funcs[120]? = some fn ∧ fn.body = some c ∧ okCode S.ty S.pf A120 fn.ntmps c = true ∧ (fn.name == "runtime.NumGoroutine") = false := ⟨_, _, Tryz.func120, rfl, by kernel_rfl, by kernel_rfl⟩
theorem k134 : ∃ fn c, S.P.funcs[134]? = some fn ∧ fn.body = some c ∧ okCode S.ty S.pf A134 fn.ntmps c = true ∧ (fn.name == "runtime.NumGoroutine") = false := ⟨_, _, Tryz.func134, rfl, by kernel_rfl, by kernel_rfl⟩
theorem k140 : ∃ fn c, S.P.funcs[140]? = some fn ∧ fn.body = some c ∧ okCode S.ty S.pf A140 fn.ntmps c = true ∧ (fn.name == "runtime.NumGoroutine") = false := ⟨_, _, Tryz.func140, rfl, by kernel_rfl, by kernel_rfl⟩
theorem k146 : ∃ fn c, S.P.funcs[146]? = some fn ∧ fn.body = some c ∧ okCode S.ty S.pf A146 fn.ntmps c = true ∧ (fn.name == "runtime.NumGoroutine") = false := ⟨_, _, Tryz.func146, rfl, by kernel_rfl, by kernel_rfl⟩
theorem k165 : ∃ fn c, S.P.funcs[165]? = some fn ∧ fn.body = some c ∧ okCode S.ty S.pf A165 fn.ntmps c = true ∧ (fn.name == "runtime.NumGoroutine") = false := ⟨_, _, Tryz.func165, rfl, by kernel_rfl, by kernel_rfl⟩
theorem k171 : ∃ fn c, S.P.funcs[171]? = some fn ∧ fn.body = some c ∧ okCode S.ty S.pf A171 fn.ntmps c = true ∧ (fn.name == "runtime.NumGoroutine") = false := ⟨_, _, Tryz.func171, rfl, by kernel_rfl, by kernel_rfl⟩
theorem k188 : ∃ fn c, S.P.funcs[188]? = some fn ∧ fn.body = some c ∧ okCode S.ty S.pf A188 fn.ntmps c = true ∧ (fn.name == "runtime.NumGoroutine") = false := ⟨_, _, Tryz.func188, rfl, by kernel_rfl, by kernel_rfl⟩
theorem k194 : ∃ fn c, S.P.funcs[194]? = some fn ∧ fn.body = some c ∧ okCode S.ty S.pf A194 fn.ntmps c = true ∧ (fn.name == "runtime.NumGoroutine") = false := ⟨_, _, Tryz.func194, rfl, by kernel_rfl, by kernel_rfl⟩
theorem k213 : ∃ fn c, S.P.funcs[213]? = some fn ∧ fn.body = some c ∧ okCode S.ty S.pf A213 fn.ntmps c = true ∧ (fn.name == "runtime.NumGoroutine") = false := ⟨_, _, Tryz.func213, rfl, by kernel_rfl, by kernel_rfl⟩
theorem k237 : ∃ fn c, S.P.funcs[237]? = some fn ∧ fn.body = some c ∧ okCode S.ty S.pf A237 fn.ntmps c = true ∧ (fn.name == "runtime.NumGoroutine") = false := ⟨_, _, Tryz.func237, rfl, by kernel_rfl, by kernel_rfl⟩
theorem k243 : ∃ fn c, S.P.funcs[243]? = some fn ∧ fn.body = some c ∧ okCode S.ty S.pf A243 fn.ntmps c = true ∧ (fn.name == "runtime.NumGoroutine") = false := ⟨_, _, Tryz.func243, rfl, by kernel_rfl, by kernel_rfl⟩
theorem k266 : ∃ fn c, S.P.funcs[266]? = some fn ∧ fn.body = some c ∧ okCode S.ty S.pf A266 fn.ntmps c = true ∧ (fn.name == "runtime.NumGoroutine") = false := ⟨_, _, Tryz.func266, rfl, by kernel_rfl, by kernel_rfl⟩
theorem k281 : ∃ fn c, S.P.funcs[281]? = some fn ∧ fn.body = some c ∧ okCode S.ty S.pf A281 fn.ntmps c = true ∧ (fn.name == "runtime.NumGoroutine") = false := ⟨_, _, Tryz.func281, rfl, by kernel_rfl, by kernel_rfl⟩
theorem k299 : ∃ fn c, S.P.funcs[299]? = some fn ∧ fn.body = some c ∧ okCode S.ty S.pf A299 fn.ntmps c = true ∧ (fn.name == "runtime.NumGoroutine") = false := ⟨_, _, Tryz.func299, rfl, by kernel_rfl, by kernel_rfl⟩
theorem k328 : ∃ fn c, S.P.funcs[328]? = some fn ∧ fn.body = some c ∧ okCode S.ty S.pf A328 fn.ntmps c = true ∧ (fn.name == "runtime.NumGoroutine") = false := ⟨_, _, Tryz.func328, rfl, by kernel_rfl, by kernel_rfl⟩
theorem k16 : ∃ fn c, S.P.funcs[16]? = some fn ∧ fn.body = some c ∧ okCode S.ty S.pf A16 fn.ntmps c = true ∧ (fn.name == "runtime.NumGoroutine") = false := ⟨_, _, Tryz.func16, rfl, by kernel_rfl, by kernel_rfl⟩
end X
