/- Static checks of the functions, one by one. -/
import Derived.Test.YtognnaobhjaoeaaGreatDoorTgt
open Go Go.V Go.Proofs
namespace X
set_option maxRecDepth 100000
set_option maxHeartbeats 4000000
set_option linter.unusedSimpArgs false
set_option linter.unusedVariables false
theorem k10 : KF 10 A10 := ⟨_, _, Tryz.func10, rfl, by kernel_rfl, by kernel_rfl⟩
theorem k18 : KF 18 A18 := ⟨_, _, Tryz.func18, rfl, by kernel_rfl, by kernel_rfl⟩
theorem k23 : KF 23 A23 := ⟨_, _, Tryz.func23, rfl, by kernel_rfl, by kernel_rfl⟩
theorem k26 : KF 26 A26 := ⟨_, _, Tryz.func26, rfl, by kernel_rfl, by kernel_rfl⟩
theorem k29 : KF 29 A29 := ⟨_, _, Tryz.func29, rfl, by kernel_rfl, by kernel_rfl⟩
theorem k32 : KF 32 A32 := ⟨_, _, Tryz.func32, rfl, by kernel_rfl, by kernel_rfl⟩
theorem k39 : KF 39 A39 := ⟨_, _, Tryz.func39, rfl, by kernel_rfl, by kernel_rfl⟩
theorem k43 : KF 43 A43 := ⟨_, _, Tryz.func43, rfl, by kernel_rfl, by kernel_rfl⟩
theorem k46 : KF 46 A46 := ⟨_, _, Tryz.func46, rfl, by kernel_rfl, by kernel_rfl⟩
theorem k49 : KF 49 A49 := ⟨_, _, Tryz.func49, rfl, by kernel_rfl, by kernel_rfl⟩
theorem k52 : KF 52 A52 := ⟨_, _, Tryz.func52, rfl, by kernel_rfl, by kernel_rfl⟩
theorem k55 : KF 55 A55 := ⟨_, _, Tryz.func55, rfl, by kernel_rfl, by kernel_rfl⟩
theorem k58 : KF 58 A58 := ⟨_, _, Tryz.func58, rfl, by kernel_rfl, by kernel_rfl⟩
theorem k64 : KF 64 A64 := ⟨_, _, Tryz.func64, rfl, by kernel_rfl, by kernel_rfl⟩
theorem k69 : KF 69 A69 := ⟨_, _, Tryz.func69, rfl, by kernel_rfl, by kernel_rfl⟩
theorem k72 : KF 72 A72 := ⟨_, _, Tryz.func72, rfl, by kernel_rfl, by kernel_rfl⟩
theorem k75 : KF 75 A75 := ⟨_, _, Tryz.func75, rfl, by kernel_rfl, by kernel_rfl⟩
theorem k79 : KF 79 A79 := ⟨_, _, Tryz.func79, rfl, by kernel_rfl, by kernel_rfl⟩
theorem k83 : KF 83 A83 := ⟨_, _, Tryz.func83, rfl, by kernel_rfl, by kernel_rfl⟩
theorem k86 : KF 86 A86 := ⟨_, _, Tryz.func86, rfl, by kernel_rfl, by kernel_rfl⟩
theorem k95 : KF 95 A95 := ⟨_, _, Tryz.func95, rfl, by kernel_rfl, by kernel_rfl⟩
theorem k100 : KF 100 A100 := ⟨_, _, Tryz.func100, rfl, by kernel_rfl, by kernel_rfl⟩
theorem k104 : KF 104 A104 := ⟨_, _, Tryz.func104, rfl, by kernel_rfl, by kernel_rfl⟩
theorem k107 : KF 107 A107 := ⟨_, _, Tryz.func107, rfl, by kernel_rfl, by kernel_rfl⟩
theorem k112 : KF 112 A112 := ⟨_, _, Tryz.func112, rfl, by kernel_rfl, by kernel_rfl⟩
theorem k116 : KF 116 A116 := ⟨_, _, Tryz.func116, rfl, by kernel_rfl, by kernel_rfl⟩
theorem k135 : KF 135 A135 := ⟨_, _, Tryz.func135, rfl, by kernel_rfl, by kernel_rfl⟩
theorem k139 : KF 139 A139 := ⟨_, _, Tryz.func139, rfl, by kernel_rfl, by kernel_rfl⟩
theorem k142 : KF 142 A142 := ⟨_, _, Tryz.func142, rfl, by kernel_rfl, by kernel_rfl⟩
theorem k149 : KF 149 A149 := ⟨_, _, Tryz.func149, rfl, by kernel_rfl, by kernel_rfl⟩
theorem k152 : KF 152 A152 := ⟨_, _, Tryz.func152, rfl, by kernel_rfl, by kernel_rfl⟩
theorem k166 : KF 166 A166 := ⟨_, _, Tryz.func166, rfl, by kernel_rfl, by kernel_rfl⟩
theorem k169 : KF 169 A169 := ⟨_, _, Tryz.func169, rfl, by kernel_rfl, by kernel_rfl⟩
theorem k176 : KF 176 A176 := ⟨_, _, Tryz.func176, rfl, by kernel_rfl, by kernel_rfl⟩
theorem k189 : KF 189 A189 := ⟨_, _, Tryz.func189, rfl, by kernel_rfl, by kernel_rfl⟩
theorem k200 : KF 200 A200 := ⟨_, _, Tryz.func200, rfl, by kernel_rfl, by kernel_rfl⟩
theorem k205 : KF 205 A205 := ⟨_, _, Tryz.func205, rfl, by kernel_rfl, by kernel_rfl⟩
theorem k215 : KF 215 A215 := ⟨_, _, Tryz.func215, rfl, by kernel_rfl, by kernel_rfl⟩
theorem k229 : KF 229 A229 := ⟨_, _, Tryz.func229, rfl, by kernel_rfl, by kernel_rfl⟩
theorem k5 : KF 5 A5 := ⟨_, _, Tryz.func5, rfl, by kernel_rfl, by kernel_rfl⟩
theorem k6 : KF 6 A6 := ⟨_, _, Tryz.func6, rfl, by kernel_rfl, by kernel_rfl⟩
theorem k16 : KF 16 A16 := ⟨_, _, Tryz.func16, rfl, by kernel_rfl, by kernel_rfl⟩
theorem k20 : KF 20 A20 := ⟨_, _, Tryz.func20, rfl, by kernel_rfl, by kernel_rfl⟩
theorem k63 : KF 63 A63 := ⟨_, _, Tryz.func63, rfl, by kernel_rfl, by kernel_rfl⟩
theorem k61 : KF 61 A61 := ⟨_, _, Tryz.func61, rfl, by kernel_rfl, by kernel_rfl⟩
theorem k89 : KF 89 A89 := ⟨_, _, Tryz.func89, rfl, by kernel_rfl, by kernel_rfl⟩
theorem k19 : KF 19 A19 := ⟨_, _, Tryz.func19, rfl, by kernel_rfl, by kernel_rfl⟩
theorem k125 : KF 125 A125 := ⟨_, _, Tryz.func125, rfl, by kernel_rfl, by kernel_rfl⟩
theorem k65 : KF 65 A65 := ⟨_, _, Tryz.func65, rfl, by kernel_rfl, by kernel_rfl⟩
theorem k114 : KF 114 A114 := ⟨_, _, Tryz.func114, rfl, by kernel_rfl, by kernel_rfl⟩
theorem k35 : KF 35 A35 := ⟨_, _, Tryz.func35, rfl, by kernel_rfl, by kernel_rfl⟩
end X
