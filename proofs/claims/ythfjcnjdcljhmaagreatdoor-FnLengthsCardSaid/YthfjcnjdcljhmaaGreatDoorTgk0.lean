/- Static checks of the functions, one by one. -/
import Derived.Test.YthfjcnjdcljhmaaGreatDoorTgt
open Go Go.V Go.Proofs
namespace X
set_option maxRecDepth 100000
set_option maxHeartbeats 4000000
set_option linter.unusedSimpArgs false
set_option linter.unusedVariables false
theorem k17 : ∃ fn c, S.P.funcs[17]? = some fn ∧ fn.body = some c ∧ okCode S.ty S.pf A17 fn.ntmps c = true ∧ (fn.name == "runtime.NumGoroutine") = false := ⟨_, _, Tryz.func17, rfl, by kernel_rfl, by kernel_rfl⟩
theorem k23 : ∃ fn c, S.P.funcs[23]? = some fn ∧ fn.body = some c ∧ okCode S.ty S.pf A23 fn.ntmps c = true ∧ (fn.name == "runtime.NumGoroutine") = false := ⟨_, _, Tryz.func23, rfl, by kernel_rfl, by kernel_rfl⟩
theorem k43 : ∃ fn c, S.P.funcs[43]? = some fn ∧ fn.body = some c ∧ okCode S.ty S.pf A43 fn.ntmps c = true ∧ (fn.name == "runtime.NumGoroutine") = false := ⟨_, _, Tryz.func43, rfl, by kernel_rfl, by kernel_rfl⟩
theorem k49 : ∃ fn c, S.P.funcs[49]? = some fn ∧ fn.body = some c ∧ okCode S.ty S.pf A49 fn.ntmps c = true ∧ (fn.name == "runtime.NumGoroutine") = false := ⟨_, _, Tryz.func49, rfl, by kernel_rfl, by kernel_rfl⟩
theorem k58 : ∃ fn c, S.P.funcs[58]? = some fn ∧ fn.body = some c ∧ okCode S.ty S.pf A58 fn.ntmps c = true ∧ (fn.name == "runtime.NumGoroutine") = false := ⟨_, _, Tryz.func58, rfl, by kernel_rfl, by kernel_rfl⟩
theorem k74 : ∃ fn c, S.P.funcs[74]? = some fn ∧ fn.body = some c ∧ okCode S.ty S.pf A74 fn.ntmps c = true ∧ (fn.name == "runtime.NumGoroutine") = false := ⟨_, _, Tryz.func74, rfl, by kernel_rfl, by kernel_rfl⟩
theorem k80 : ∃ fn c, S.P.funcs[80]? = some fn ∧ fn.body = some c ∧ okCode S.ty S.pf A80 fn.ntmps c = true ∧ (fn.name == "runtime.NumGoroutine") = false := ⟨_, _, Tryz.func80, rfl, by kernel_rfl, by kernel_rfl⟩
theorem k94 : ∃ fn c, S.P.funcs[94]? = some fn ∧ fn.body = some c ∧ okCode S.ty S.pf A94 fn.ntmps c = true ∧ (fn.name == "runtime.NumGoroutine") = false := ⟨_, _, Tryz.func94, rfl, by kernel_rfl, by kernel_rfl⟩
theorem k104 : ∃ fn c, S.P.funcs[104]? = some fn ∧ fn.body = some c ∧ okCode S.ty S.pf A104 fn.ntmps c = true ∧ (fn.name == "runtime.NumGoroutine") = false := ⟨_, _, Tryz.func104, rfl, by kernel_rfl, by kernel_rfl⟩
theorem k111 : ∃ fn c, S.P.funcs[111]? = some fn ∧ fn.body = some c ∧ okCode S.ty S.pf A111 fn.ntmps c = true ∧ (fn.name == "runtime.NumGoroutine") = false := ⟨_, _, Tryz.func111, rfl, by kernel_rfl, by kernel_rfl⟩
theorem k117 : ∃ fn c, S.P.funcs[117]? = some fn ∧ fn.body = some c ∧ okCode S.ty S.pf A117 fn.ntmps c = true ∧ (fn.name == "runtime.NumGoroutine") = false := ⟨_, _, Tryz.func117, rfl, by kernel_rfl, by kernel_rfl⟩
theorem k124 : ∃ fn c, S.P.funcs[124]? = some fn ∧ fn.body = some c ∧ okCode S.ty S.pf A124 fn.ntmps c = true ∧ (fn.name == "runtime.NumGoroutine") = false := ⟨_, _, Tryz.func124, rfl, by kernel_rfl, by kernel_rfl⟩
theorem k130 : ∃ fn c, S.P.funcs[130]? = some fn ∧ fn.body = some c ∧ okCode S.ty S.pf A130 fn.ntmps c = true ∧ (fn.name == "runtime.NumGoroutine") = false := ⟨_, _, Tryz.func130, rfl, by kernel_rfl, by kernel_rfl⟩
theorem k147 : ∃ fn c, S.P.funcs[147]? = some fn ∧ fn.body = some c ∧ okCode S.ty S.pf A147 fn.ntmps c = true ∧ (fn.name == "runtime.NumGoroutine") = false := ⟨_, _, Tryz.func147, rfl, by kernel_rfl, by kernel_rfl⟩
theorem k155 : ∃ fn c, S.P.funcs[155]? = some fn ∧ fn.body = some c ∧ okCode S.ty S.pf A155 fn.ntmps c = true ∧ (fn.name == "runtime.NumGoroutine") = false := ⟨_, _, Tryz.func155, rfl, by kernel_rfl, by kernel_rfl⟩
theorem k161 : ∃ fn c, S.P.funcs[161]? = some fn ∧ fn.body = some c ∧ okCode S.ty S.pf A161 fn.ntmps c = true ∧ (fn.name == "runtime.NumGoroutine") = false := ⟨_, _, Tryz.func161, rfl, by kernel_rfl, by kernel_rfl⟩
theorem k167 : ∃ fn c, S.P.funcs[167]? = some fn ∧ fn.body = some c ∧ okCode S.ty S.pf A167 fn.ntmps c = true ∧ (fn.name == "runtime.NumGoroutine") = false := ⟨_, _, Tryz.func167, rfl, by kernel_rfl, by kernel_rfl⟩
theorem k176 : ∃ fn c, S.P.funcs[176]? = some fn ∧ fn.body = some c ∧ okCode S.ty S.pf A176 fn.ntmps c = true ∧ (fn.name == "runtime.NumGoroutine") = false := ⟨_, _, Tryz.func176, rfl, by kernel_rfl, by kernel_rfl⟩
theorem k182 : ∃ fn c, S.P.funcs[182]? = some fn ∧ fn.body = some c ∧ okCode S.ty S.pf A182 fn.ntmps c = true ∧ (fn.name == "runtime.NumGoroutine") = false := ⟨_, _, Tryz.func182, rfl, by kernel_rfl, by kernel_rfl⟩
theorem k199 : ∃ fn c, S.P.funcs[199]? = some fn ∧ fn.body = some c ∧ okCode S.ty S.pf A199 fn.ntmps c = true ∧ (fn.name == "runtime.NumGoroutine") = false := ⟨_, _, Tryz.func199, rfl, by kernel_rfl, by kernel_rfl⟩
theorem k206 : ∃ fn c, S.P.funcs[206]? = some fn ∧ fn.body = some c ∧ okCode S.ty S.pf A206 fn.ntmps c = true ∧ (fn.name == "runtime.NumGoroutine") = false := ⟨_, _, Tryz.func206, rfl, by kernel_rfl, by kernel_rfl⟩
theorem k213 : ∃ fn c, S.P.funcs[213]? = some fn ∧ fn.body = some c ∧ okCode S.ty S.pf A213 fn.ntmps c = true ∧ (fn.name == "runtime.NumGoroutine") = false := ⟨_, _, Tryz.func213, rfl, by kernel_rfl, by kernel_rfl⟩
theorem k225 : ∃ fn c, S.P.funcs[225]? = some fn ∧ fn.body = some c ∧ okCode S.ty S.pf A225 fn.ntmps c = true ∧ (fn.name == "runtime.NumGoroutine") = false := ⟨_, _, Tryz.func225, rfl, by kernel_rfl, by kernel_rfl⟩
theorem k252 : ∃ fn c, S.P.funcs[252]? = some fn ∧ fn.body = some c ∧ okCode S.ty S.pf A252 fn.ntmps c = true ∧ (fn.name == "runtime.NumGoroutine") = false := ⟨_, _, Tryz.func252, rfl, by kernel_rfl, by kernel_rfl⟩
theorem k260 : ∃ fn c, S.P.funcs[260]? = some fn ∧ fn.body = some c ∧ okCode S.ty S.pf A260 fn.ntmps c = true ∧ (fn.name == "runtime.NumGoroutine") = false := ⟨_, _, Tryz.func260, rfl, by kernel_rfl, by kernel_rfl⟩
theorem k266 : ∃ fn c, S.P.funcs[266]? = some fn ∧ fn.body = some c ∧ okCode S.ty S.pf A266 fn.ntmps c = true ∧ (fn.name == "runtime.NumGoroutine") = false := ⟨_, _, Tryz.func266, rfl, by kernel_rfl, by kernel_rfl⟩
theorem k283 : ∃ fn c, S.P.funcs[283]? = some fn ∧ fn.body = some c ∧ okCode S.ty S.pf A283 fn.ntmps c = true ∧ (fn.name == "runtime.NumGoroutine") = false := ⟨_, _, Tryz.func283, rfl, by kernel_rfl, by kernel_rfl⟩
theorem k291 : ∃ fn c, S.P.funcs[291]? = some fn ∧ fn.body = some c ∧ okCode S.ty S.pf A291 fn.ntmps c = true ∧ (fn.name == "runtime.NumGoroutine") = false := ⟨_, _, Tryz.func291, rfl, by kernel_rfl, by kernel_rfl⟩
theorem k318 : ∃ fn c, S.P.funcs[318]? = some fn ∧ fn.body = some c ∧ okCode S.ty S.pf A318 fn.ntmps c = true ∧ (fn.name == "runtime.NumGoroutine") = false := ⟨_, _, Tryz.func318, rfl, by kernel_rfl, by kernel_rfl⟩
theorem k12 : ∃ fn c, S.P.funcs[12]? = some fn ∧ fn.body = some c ∧ okCode S.ty S.pf A12 fn.ntmps c = true ∧ (fn.name == "runtime.NumGoroutine") = false := ⟨_, _, Tryz.func12, rfl, by kernel_rfl, by kernel_rfl⟩
end X
