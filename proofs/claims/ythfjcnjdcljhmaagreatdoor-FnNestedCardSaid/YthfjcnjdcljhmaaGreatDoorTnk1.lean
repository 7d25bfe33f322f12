/- Static checks of the functions, one by one. -/
import Derived.Test.YthfjcnjdcljhmaaGreatDoorTnt
open Go Go.V Go.Proofs
namespace X
set_option maxRecDepth 100000
set_option maxHeartbeats 4000000
set_option linter.unusedSimpArgs false
set_option linter.unusedVariables false
theorem k20 : ∃ fn c, S.P.funcs[20]? = some fn ∧ fn.body = some c ∧ okCode S.ty S.pf A20 fn.ntmps c = true ∧ (fn.name == "runtime.NumGoroutine") = false := ⟨_, _, Tryz.func20, rfl, by kernel_rfl, by kernel_rfl⟩
theorem k44 : ∃ fn c, S.P.funcs[44]? = some fn ∧ fn.body = some c ∧ okCode S.ty S.pf A44 fn.ntmps c = true ∧ (fn.name == "runtime.NumGoroutine") = false := ⟨_, _, Tryz.func44, rfl, by kernel_rfl, by kernel_rfl⟩
theorem k51 : ∃ fn c, S.P.funcs[51]? = some fn ∧ fn.body = some c ∧ okCode S.ty S.pf A51 fn.ntmps c = true ∧ (fn.name == "runtime.NumGoroutine") = false := ⟨_, _, Tryz.func51, rfl, by kernel_rfl, by kernel_rfl⟩
theorem k57 : ∃ fn c, S.P.funcs[57]? = some fn ∧ fn.body = some c ∧ okCode S.ty S.pf A57 fn.ntmps c = true ∧ (fn.name == "runtime.NumGoroutine") = false := ⟨_, _, Tryz.func57, rfl, by kernel_rfl, by kernel_rfl⟩
theorem k74 : ∃ fn c, S.P.funcs[74]? = some fn ∧ fn.body = some c ∧ okCode S.ty S.pf A74 fn.ntmps c = true ∧ (fn.name == "runtime.NumGoroutine") = false := ⟨_, _, Tryz.func74, rfl, by kernel_rfl, by kernel_rfl⟩
theorem k84 : ∃ fn c, S.P.funcs[84]? = some fn ∧ fn.body = some c ∧ okCode S.ty S.pf A84 fn.ntmps c = true ∧ (fn.name == "runtime.NumGoroutine") = false := ⟨_, _, Tryz.func84, rfl, by kernel_rfl, by kernel_rfl⟩
theorem k90 : ∃ fn c, S.P.funcs[90]? = some fn ∧ fn.body = some c ∧ okCode S.ty S.pf A90 fn.ntmps c = true ∧ (fn.name == "runtime.NumGoroutine") = false := ⟨_, _, Tryz.func90, rfl, by kernel_rfl, by kernel_rfl⟩
theorem k96 : ∃ fn c, S.P.funcs[96]? = some fn ∧ fn.body = some c ∧ okCode S.ty S.pf A96 fn.ntmps c = true ∧ (fn.name == "runtime.NumGoroutine") = false := ⟨_, _, Tryz.func96, rfl, by kernel_rfl, by kernel_rfl⟩
theorem k113 : ∃ fn c, S.P.funcs[113]? = some fn ∧ fn.body = some c ∧ okCode S.ty S.pf A113 fn.ntmps c = true ∧ (fn.name == "runtime.NumGoroutine") = false := ⟨_, _, Tryz.func113, rfl, by kernel_rfl, by kernel_rfl⟩
theorem k119 : ∃ fn c, S.P.funcs[119]? = some fn ∧ fn.body = some c ∧ okCode S.ty S.pf A119 fn.ntmps c = true ∧ (fn.name == "runtime.NumGoroutine") = false := ⟨_, _, Tryz.func119, rfl, by kernel_rfl, by kernel_rfl⟩
theorem k133 : ∃ fn c, S.P.funcs[133]? = some fn ∧ fn.body = some c ∧ okCode S.ty S.pf A133 fn.ntmps c = true ∧ (fn.name == "runtime.NumGoroutine") = false := ⟨_, _, Tryz.func133, rfl, by kernel_rfl, by kernel_rfl⟩
theorem k139 : ∃ fn c, S.P.funcs[139]? = some fn ∧ fn.body = some c ∧ okCode S.ty S.pf A139 fn.ntmps c = true ∧ (fn.name == "runtime.NumGoroutine") = false := ⟨_, _, Tryz.func139, rfl, by kernel_rfl, by kernel_rfl⟩
theorem k145 : ∃ fn c, S.P.funcs[145]? = some fn ∧ fn.body = some c ∧ okCode S.ty S.pf A145 fn.ntmps c = true ∧ (fn.name == "runtime.NumGoroutine") = false := ⟨_, _, Tryz.func145, rfl, by kernel_rfl, by kernel_rfl⟩
theorem k164 : ∃ fn c, S.P.funcs[164]? = some fn ∧ fn.body = some c ∧ okCode S.ty S.pf A164 fn.ntmps c = true ∧ (fn.name == "runtime.NumGoroutine") = false := ⟨_, _, Tryz.func164, rfl, by kernel_rfl, by kernel_rfl⟩
theorem k170 : ∃ fn c, S.P.funcs[170]? = some fn ∧ fn.body = some c ∧ okCode S.ty S.pf A170 fn.ntmps c = true ∧ (fn.name == "runtime.NumGoroutine") = false := ⟨_, _, Tryz.func170, rfl, by kernel_rfl, by kernel_rfl⟩
theorem k187 : ∃ fn c, S.P.funcs[187]? = some fn ∧ fn.body = some c ∧ okCode S.ty S.pf A187 fn.ntmps c = true ∧ (fn.name == "runtime.NumGoroutine") = false := ⟨_, _, Tryz.func187, rfl, by kernel_rfl, by kernel_rfl⟩
theorem k193 : ∃ fn c, S.P.funcs[193]? = some fn ∧ fn.body = some c ∧ okCode S.ty S.pf A193 fn.ntmps c = true ∧ (fn.name == "runtime.NumGoroutine") = false := ⟨_, _, Tryz.func193, rfl, by kernel_rfl, by kernel_rfl⟩
theorem k212 : ∃ fn c, S.P.funcs[212]? = some fn ∧ fn.body = some c ∧ okCode S.ty S.pf A212 fn.ntmps c = true ∧ (fn.name == "runtime.NumGoroutine") = false := ⟨_, _, Tryz.func212, rfl, by kernel_rfl, by kernel_rfl⟩
theorem k236 : ∃ fn c, S.P.funcs[236]? = some fn ∧ fn.body = some c ∧ okCode S.ty S.pf A236 fn.ntmps c = true ∧ (fn.name == "runtime.NumGoroutine") = false := ⟨_, _, Tryz.func236, rfl, by kernel_rfl, by kernel_rfl⟩
theorem k242 : ∃ fn c, S.P.funcs[242]? = some fn ∧ fn.body = some c ∧ okCode S.ty S.pf A242 fn.ntmps c = true ∧ (fn.name == "runtime.NumGoroutine") = false := ⟨_, _, Tryz.func242, rfl, by kernel_rfl, by kernel_rfl⟩
theorem k265 : ∃ fn c, S.P.funcs[265]? = some fn ∧ fn.body = some c ∧ okCode S.ty S.pf A265 fn.ntmps c = true ∧ (fn.name == "runtime.NumGoroutine") = false := ⟨_, _, Tryz.func265, rfl, by kernel_rfl, by kernel_rfl⟩
theorem k280 : ∃ fn c, S.P.funcs[280]? = some fn ∧ fn.body = some c ∧ okCode S.ty S.pf A280 fn.ntmps c = true ∧ (fn.name == "runtime.NumGoroutine") = false := ⟨_, _, Tryz.func280, rfl, by kernel_rfl, by kernel_rfl⟩
theorem k298 : ∃ fn c, S.P.funcs[298]? = some fn ∧ fn.body = some c ∧ okCode S.ty S.pf A298 fn.ntmps c = true ∧ (fn.name == "runtime.NumGoroutine") = false := ⟨_, _, Tryz.func298, rfl, by kernel_rfl, by kernel_rfl⟩
theorem k324 : ∃ fn c, S.P.funcs[324]? = some fn ∧ fn.body = some c ∧ okCode S.ty S.pf A324 fn.ntmps c = true ∧ (fn.name == "runtime.NumGoroutine") = false := ⟨_, _, Tryz.func324, rfl, by kernel_rfl, by kernel_rfl⟩
theorem k15 : ∃ fn c, S.P.funcs[15]? = some fn ∧ fn.body = some c ∧ okCode S.ty S.pf A15 fn.ntmps c = true ∧ (fn.name == "runtime.NumGoroutine") = false := ⟨_, _, Tryz.func15, rfl, by kernel_rfl, by kernel_rfl⟩
end X
