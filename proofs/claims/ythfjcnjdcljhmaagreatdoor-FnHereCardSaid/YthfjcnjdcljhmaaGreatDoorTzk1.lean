/- Static checks of the functions, one by one. -/
import Derived.Test.YthfjcnjdcljhmaaGreatDoorTzt
open Go Go.V Go.Proofs
namespace X
set_option maxRecDepth 100000
set_option maxHeartbeats 4000000
set_option linter.unusedSimpArgs false
set_option linter.unusedVariables false
theorem k18 : ∃ fn c, S.P.funcs[18]? = some fn ∧ fn.body = some c ∧ okCode S.ty S.pf A18 fn.ntmps c = true ∧ (fn.name == "runtime.NumGoroutine") = false := ⟨_, _, Tryz.func18, rfl, by kernel_rfl, by kernel_rfl⟩
theorem k29 : ∃ fn c, S.P.funcs[29]? = some fn ∧ fn.body = some c ∧ okCode S.ty S.pf A29 fn.ntmps c = true ∧ (fn.name == "runtime.NumGoroutine") = false := ⟨_, _, Tryz.func29, rfl, by kernel_rfl, by kernel_rfl⟩
theorem k35 : ∃ fn c, S.P.funcs[35]? = some fn ∧ fn.body = some c ∧ okCode S.ty S.pf A35 fn.ntmps c = true ∧ (fn.name == "runtime.NumGoroutine") = false := ⟨_, _, Tryz.func35, rfl, by kernel_rfl, by kernel_rfl⟩
theorem k45 : ∃ fn c, S.P.funcs[45]? = some fn ∧ fn.body = some c ∧ okCode S.ty S.pf A45 fn.ntmps c = true ∧ (fn.name == "runtime.NumGoroutine") = false := ⟨_, _, Tryz.func45, rfl, by kernel_rfl, by kernel_rfl⟩
theorem k54 : ∃ fn c, S.P.funcs[54]? = some fn ∧ fn.body = some c ∧ okCode S.ty S.pf A54 fn.ntmps c = true ∧ (fn.name == "runtime.NumGoroutine") = false := ⟨_, _, Tryz.func54, rfl, by kernel_rfl, by kernel_rfl⟩
theorem k60 : ∃ fn c, S.P.funcs[60]? = some fn ∧ fn.body = some c ∧ okCode S.ty S.pf A60 fn.ntmps c = true ∧ (fn.name == "runtime.NumGoroutine") = false := ⟨_, _, Tryz.func60, rfl, by kernel_rfl, by kernel_rfl⟩
theorem k66 : ∃ fn c, S.P.funcs[66]? = some fn ∧ fn.body = some c ∧ okCode S.ty S.pf A66 fn.ntmps c = true ∧ (fn.name == "runtime.NumGoroutine") = false := ⟨_, _, Tryz.func66, rfl, by kernel_rfl, by kernel_rfl⟩
theorem k72 : ∃ fn c, S.P.funcs[72]? = some fn ∧ fn.body = some c ∧ okCode S.ty S.pf A72 fn.ntmps c = true ∧ (fn.name == "runtime.NumGoroutine") = false := ⟨_, _, Tryz.func72, rfl, by kernel_rfl, by kernel_rfl⟩
theorem k78 : ∃ fn c, S.P.funcs[78]? = some fn ∧ fn.body = some c ∧ okCode S.ty S.pf A78 fn.ntmps c = true ∧ (fn.name == "runtime.NumGoroutine") = false := ⟨_, _, Tryz.func78, rfl, by kernel_rfl, by kernel_rfl⟩
theorem k92 : ∃ fn c, S.P.funcs[92]? = some fn ∧ fn.body = some c ∧ okCode S.ty S.pf A92 fn.ntmps c = true ∧ (fn.name == "runtime.NumGoroutine") = false := ⟨_, _, Tryz.func92, rfl, by kernel_rfl, by kernel_rfl⟩
theorem k98 : ∃ fn c, S.P.funcs[98]? = some fn ∧ fn.body = some c ∧ okCode S.ty S.pf A98 fn.ntmps c = true ∧ (fn.name == "runtime.NumGoroutine") = false := ⟨_, _, Tryz.func98, rfl, by kernel_rfl, by kernel_rfl⟩
theorem k104 : ∃ fn c, S.P.funcs[104]? = some fn ∧ fn.body = some c ∧ okCode S.ty S.pf A104 fn.ntmps c = true ∧ (fn.name == "runtime.NumGoroutine") = false := ⟨_, _, Tryz.func104, rfl, by kernel_rfl, by kernel_rfl⟩
theorem k110 : ∃ fn c, S.P.funcs[110]? = some fn ∧ fn.body = some c ∧ okCode S.ty S.pf A110 fn.ntmps c = true ∧ (fn.name == "runtime.NumGoroutine") = false := ⟨_, _, Tryz.func110, rfl, by kernel_rfl, by kernel_rfl⟩
theorem k117 : ∃ fn c, S.P.funcs[117]? = some fn ∧ fn.body = some c ∧ okCode S.ty S.pf A117 fn.ntmps c = true ∧ (fn.name == "runtime.NumGoroutine") = false := ⟨_, _, Tryz.func117, rfl, by kernel_rfl, by kernel_rfl⟩
theorem k125 : ∃ fn c, S.P.funcs[125]? = some fn ∧ fn.body = some c ∧ okCode S.ty S.pf A125 fn.ntmps c = true ∧ (fn.name == "runtime.NumGoroutine") = false := ⟨_, _, Tryz.func125, rfl, by kernel_rfl, by kernel_rfl⟩
theorem k145 : ∃ fn c, S.P.funcs[145]? = some fn ∧ fn.body = some c ∧ okCode S.ty S.pf A145 fn.ntmps c = true ∧ (fn.name == "runtime.NumGoroutine") = false := ⟨_, _, Tryz.func145, rfl, by kernel_rfl, by kernel_rfl⟩
theorem k151 : ∃ fn c, S.P.funcs[151]? = some fn ∧ fn.body = some c ∧ okCode S.ty S.pf A151 fn.ntmps c = true ∧ (fn.name == "runtime.NumGoroutine") = false := ⟨_, _, Tryz.func151, rfl, by kernel_rfl, by kernel_rfl⟩
theorem k157 : ∃ fn c, S.P.funcs[157]? = some fn ∧ fn.body = some c ∧ okCode S.ty S.pf A157 fn.ntmps c = true ∧ (fn.name == "runtime.NumGoroutine") = false := ⟨_, _, Tryz.func157, rfl, by kernel_rfl, by kernel_rfl⟩
theorem k165 : ∃ fn c, S.P.funcs[165]? = some fn ∧ fn.body = some c ∧ okCode S.ty S.pf A165 fn.ntmps c = true ∧ (fn.name == "runtime.NumGoroutine") = false := ⟨_, _, Tryz.func165, rfl, by kernel_rfl, by kernel_rfl⟩
theorem k171 : ∃ fn c, S.P.funcs[171]? = some fn ∧ fn.body = some c ∧ okCode S.ty S.pf A171 fn.ntmps c = true ∧ (fn.name == "runtime.NumGoroutine") = false := ⟨_, _, Tryz.func171, rfl, by kernel_rfl, by kernel_rfl⟩
theorem k178 : ∃ fn c, S.P.funcs[178]? = some fn ∧ fn.body = some c ∧ okCode S.ty S.pf A178 fn.ntmps c = true ∧ (fn.name == "runtime.NumGoroutine") = false := ⟨_, _, Tryz.func178, rfl, by kernel_rfl, by kernel_rfl⟩
theorem k184 : ∃ fn c, S.P.funcs[184]? = some fn ∧ fn.body = some c ∧ okCode S.ty S.pf A184 fn.ntmps c = true ∧ (fn.name == "runtime.NumGoroutine") = false := ⟨_, _, Tryz.func184, rfl, by kernel_rfl, by kernel_rfl⟩
theorem k201 : ∃ fn c, S.P.funcs[201]? = some fn ∧ fn.body = some c ∧ okCode S.ty S.pf A201 fn.ntmps c = true ∧ (fn.name == "runtime.NumGoroutine") = false := ⟨_, _, Tryz.func201, rfl, by kernel_rfl, by kernel_rfl⟩
theorem k214 : ∃ fn c, S.P.funcs[214]? = some fn ∧ fn.body = some c ∧ okCode S.ty S.pf A214 fn.ntmps c = true ∧ (fn.name == "runtime.NumGoroutine") = false := ⟨_, _, Tryz.func214, rfl, by kernel_rfl, by kernel_rfl⟩
theorem k229 : ∃ fn c, S.P.funcs[229]? = some fn ∧ fn.body = some c ∧ okCode S.ty S.pf A229 fn.ntmps c = true ∧ (fn.name == "runtime.NumGoroutine") = false := ⟨_, _, Tryz.func229, rfl, by kernel_rfl, by kernel_rfl⟩
theorem k254 : ∃ fn c, S.P.funcs[254]? = some fn ∧ fn.body = some c ∧ okCode S.ty S.pf A254 fn.ntmps c = true ∧ (fn.name == "runtime.NumGoroutine") = false := ⟨_, _, Tryz.func254, rfl, by kernel_rfl, by kernel_rfl⟩
theorem k282 : ∃ fn c, S.P.funcs[282]? = some fn ∧ fn.body = some c ∧ okCode S.ty S.pf A282 fn.ntmps c = true ∧ (fn.name == "runtime.NumGoroutine") = false := ⟨_, _, Tryz.func282, rfl, by kernel_rfl, by kernel_rfl⟩
theorem k301 : ∃ fn c, S.P.funcs[301]? = some fn ∧ fn.body = some c ∧ okCode S.ty S.pf A301 fn.ntmps c = true ∧ (fn.name == "runtime.NumGoroutine") = false := ⟨_, _, Tryz.func301, rfl, by kernel_rfl, by kernel_rfl⟩
theorem k349 : ∃ fn c, S.P.funcs[349]? = some fn ∧ fn.body = some c ∧ okCode S.ty S.pf A349 fn.ntmps c = true ∧ (fn.name == "runtime.NumGoroutine") = false := ⟨_, _, Tryz.func349, rfl, by kernel_rfl, by kernel_rfl⟩
theorem k15 : ∃ fn c, S.P.funcs[15]? = some fn ∧ fn.body = some c ∧ okCode S.ty S.pf A15 fn.ntmps c = true ∧ (fn.name == "runtime.NumGoroutine") = false := ⟨_, _, Tryz.func15, rfl, by kernel_rfl, by kernel_rfl⟩
end X
