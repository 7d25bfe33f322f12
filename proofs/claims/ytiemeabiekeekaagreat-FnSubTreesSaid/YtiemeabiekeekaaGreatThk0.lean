import Derived.Test.YtiemeabiekeekaaGreatTht
/- Static checks of the functions, one by one. -/
open Go Go.V Go.Proofs
namespace X
set_option maxRecDepth 100000
set_option maxHeartbeats 4000000
set_option linter.all false
theorem k21 : KF 21 A21 := ⟨_, _, Tryz.func21, rfl, by kernel_rfl, by kernel_rfl⟩
theorem k29 : KF 29 A29 := ⟨_, _, Tryz.func29, rfl, by kernel_rfl, by kernel_rfl⟩
theorem k32 : KF 32 A32 := ⟨_, _, Tryz.func32, rfl, by kernel_rfl, by kernel_rfl⟩
theorem k43 : KF 43 A43 := ⟨_, _, Tryz.func43, rfl, by kernel_rfl, by kernel_rfl⟩
theorem k52 : KF 52 A52 := ⟨_, _, Tryz.func52, rfl, by kernel_rfl, by kernel_rfl⟩
theorem k54 : KF 54 A54 := ⟨_, _, Tryz.func54, rfl, by kernel_rfl, by kernel_rfl⟩
theorem k56 : KF 56 A56 := ⟨_, _, Tryz.func56, rfl, by kernel_rfl, by kernel_rfl⟩
theorem k58 : KF 58 A58 := ⟨_, _, Tryz.func58, rfl, by kernel_rfl, by kernel_rfl⟩
theorem k66 : KF 66 A66 := ⟨_, _, Tryz.func66, rfl, by kernel_rfl, by kernel_rfl⟩
theorem k68 : KF 68 A68 := ⟨_, _, Tryz.func68, rfl, by kernel_rfl, by kernel_rfl⟩
theorem k74 : KF 74 A74 := ⟨_, _, Tryz.func74, rfl, by kernel_rfl, by kernel_rfl⟩
theorem k76 : KF 76 A76 := ⟨_, _, Tryz.func76, rfl, by kernel_rfl, by kernel_rfl⟩
theorem k78 : KF 78 A78 := ⟨_, _, Tryz.func78, rfl, by kernel_rfl, by kernel_rfl⟩
theorem k80 : KF 80 A80 := ⟨_, _, Tryz.func80, rfl, by kernel_rfl, by kernel_rfl⟩
theorem k82 : KF 82 A82 := ⟨_, _, Tryz.func82, rfl, by kernel_rfl, by kernel_rfl⟩
theorem k86 : KF 86 A86 := ⟨_, _, Tryz.func86, rfl, by kernel_rfl, by kernel_rfl⟩
theorem k88 : KF 88 A88 := ⟨_, _, Tryz.func88, rfl, by kernel_rfl, by kernel_rfl⟩
theorem k90 : KF 90 A90 := ⟨_, _, Tryz.func90, rfl, by kernel_rfl, by kernel_rfl⟩
theorem k92 : KF 92 A92 := ⟨_, _, Tryz.func92, rfl, by kernel_rfl, by kernel_rfl⟩
theorem k94 : KF 94 A94 := ⟨_, _, Tryz.func94, rfl, by kernel_rfl, by kernel_rfl⟩
theorem k99 : KF 99 A99 := ⟨_, _, Tryz.func99, rfl, by kernel_rfl, by kernel_rfl⟩
theorem k101 : KF 101 A101 := ⟨_, _, Tryz.func101, rfl, by kernel_rfl, by kernel_rfl⟩
theorem k103 : KF 103 A103 := ⟨_, _, Tryz.func103, rfl, by kernel_rfl, by kernel_rfl⟩
theorem k105 : KF 105 A105 := ⟨_, _, Tryz.func105, rfl, by kernel_rfl, by kernel_rfl⟩
theorem k107 : KF 107 A107 := ⟨_, _, Tryz.func107, rfl, by kernel_rfl, by kernel_rfl⟩
theorem k110 : KF 110 A110 := ⟨_, _, Tryz.func110, rfl, by kernel_rfl, by kernel_rfl⟩
theorem k112 : KF 112 A112 := ⟨_, _, Tryz.func112, rfl, by kernel_rfl, by kernel_rfl⟩
theorem k114 : KF 114 A114 := ⟨_, _, Tryz.func114, rfl, by kernel_rfl, by kernel_rfl⟩
theorem k116 : KF 116 A116 := ⟨_, _, Tryz.func116, rfl, by kernel_rfl, by kernel_rfl⟩
theorem k118 : KF 118 A118 := ⟨_, _, Tryz.func118, rfl, by kernel_rfl, by kernel_rfl⟩
theorem k120 : KF 120 A120 := ⟨_, _, Tryz.func120, rfl, by kernel_rfl, by kernel_rfl⟩
theorem k122 : KF 122 A122 := ⟨_, _, Tryz.func122, rfl, by kernel_rfl, by kernel_rfl⟩
theorem k124 : KF 124 A124 := ⟨_, _, Tryz.func124, rfl, by kernel_rfl, by kernel_rfl⟩
theorem k126 : KF 126 A126 := ⟨_, _, Tryz.func126, rfl, by kernel_rfl, by kernel_rfl⟩
theorem k4 : KF 4 A4 := ⟨_, _, Tryz.func4, rfl, by kernel_rfl, by kernel_rfl⟩
theorem k11 : KF 11 A11 := ⟨_, _, Tryz.func11, rfl, by kernel_rfl, by kernel_rfl⟩
theorem k5 : KF 5 A5 := ⟨_, _, Tryz.func5, rfl, by kernel_rfl, by kernel_rfl⟩
theorem k8 : KF 8 A8 := ⟨_, _, Tryz.func8, rfl, by kernel_rfl, by kernel_rfl⟩
theorem k10 : KF 10 A10 := ⟨_, _, Tryz.func10, rfl, by kernel_rfl, by kernel_rfl⟩
theorem k13 : KF 13 A13 := ⟨_, _, Tryz.func13, rfl, by kernel_rfl, by kernel_rfl⟩
theorem k15 : KF 15 A15 := ⟨_, _, Tryz.func15, rfl, by kernel_rfl, by kernel_rfl⟩
theorem k17 : KF 17 A17 := ⟨_, _, Tryz.func17, rfl, by kernel_rfl, by kernel_rfl⟩
theorem k19 : KF 19 A19 := ⟨_, _, Tryz.func19, rfl, by kernel_rfl, by kernel_rfl⟩
theorem k23 : KF 23 A23 := ⟨_, _, Tryz.func23, rfl, by kernel_rfl, by kernel_rfl⟩
theorem k26 : KF 26 A26 := ⟨_, _, Tryz.func26, rfl, by kernel_rfl, by kernel_rfl⟩
theorem k28 : KF 28 A28 := ⟨_, _, Tryz.func28, rfl, by kernel_rfl, by kernel_rfl⟩
theorem k33 : KF 33 A33 := ⟨_, _, Tryz.func33, rfl, by kernel_rfl, by kernel_rfl⟩
theorem k36 : KF 36 A36 := ⟨_, _, Tryz.func36, rfl, by kernel_rfl, by kernel_rfl⟩
theorem k38 : KF 38 A38 := ⟨_, _, Tryz.func38, rfl, by kernel_rfl, by kernel_rfl⟩
theorem k40 : KF 40 A40 := ⟨_, _, Tryz.func40, rfl, by kernel_rfl, by kernel_rfl⟩
theorem k42 : KF 42 A42 := ⟨_, _, Tryz.func42, rfl, by kernel_rfl, by kernel_rfl⟩
theorem k45 : KF 45 A45 := ⟨_, _, Tryz.func45, rfl, by kernel_rfl, by kernel_rfl⟩
theorem k47 : KF 47 A47 := ⟨_, _, Tryz.func47, rfl, by kernel_rfl, by kernel_rfl⟩
theorem k49 : KF 49 A49 := ⟨_, _, Tryz.func49, rfl, by kernel_rfl, by kernel_rfl⟩
theorem k60 : KF 60 A60 := ⟨_, _, Tryz.func60, rfl, by kernel_rfl, by kernel_rfl⟩
theorem k62 : KF 62 A62 := ⟨_, _, Tryz.func62, rfl, by kernel_rfl, by kernel_rfl⟩
theorem k64 : KF 64 A64 := ⟨_, _, Tryz.func64, rfl, by kernel_rfl, by kernel_rfl⟩
theorem k69 : KF 69 A69 := ⟨_, _, Tryz.func69, rfl, by kernel_rfl, by kernel_rfl⟩
theorem k71 : KF 71 A71 := ⟨_, _, Tryz.func71, rfl, by kernel_rfl, by kernel_rfl⟩
theorem k84 : KF 84 A84 := ⟨_, _, Tryz.func84, rfl, by kernel_rfl, by kernel_rfl⟩
theorem k95 : KF 95 A95 := ⟨_, _, Tryz.func95, rfl, by kernel_rfl, by kernel_rfl⟩
theorem k97 : KF 97 A97 := ⟨_, _, Tryz.func97, rfl, by kernel_rfl, by kernel_rfl⟩
end X
