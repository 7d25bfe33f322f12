/- Static checks of the functions, one by one. -/
import Derived.Test.YtphkipgmklhdgaaGreatTft
open Go Go.V Go.Proofs
namespace X
set_option maxRecDepth 100000
set_option maxHeartbeats 4000000
set_option linter.unusedSimpArgs false
set_option linter.unusedVariables false
theorem k13 : KF 13 A13 := ⟨_, _, Tryz.func13, rfl, by kernel_rfl, by kernel_rfl⟩
theorem k22 : KF 22 A22 := ⟨_, _, Tryz.func22, rfl, by kernel_rfl, by kernel_rfl⟩
theorem k25 : KF 25 A25 := ⟨_, _, Tryz.func25, rfl, by kernel_rfl, by kernel_rfl⟩
theorem k27 : KF 27 A27 := ⟨_, _, Tryz.func27, rfl, by kernel_rfl, by kernel_rfl⟩
theorem k29 : KF 29 A29 := ⟨_, _, Tryz.func29, rfl, by kernel_rfl, by kernel_rfl⟩
theorem k31 : KF 31 A31 := ⟨_, _, Tryz.func31, rfl, by kernel_rfl, by kernel_rfl⟩
theorem k33 : KF 33 A33 := ⟨_, _, Tryz.func33, rfl, by kernel_rfl, by kernel_rfl⟩
theorem k36 : KF 36 A36 := ⟨_, _, Tryz.func36, rfl, by kernel_rfl, by kernel_rfl⟩
theorem k38 : KF 38 A38 := ⟨_, _, Tryz.func38, rfl, by kernel_rfl, by kernel_rfl⟩
theorem k40 : KF 40 A40 := ⟨_, _, Tryz.func40, rfl, by kernel_rfl, by kernel_rfl⟩
theorem k42 : KF 42 A42 := ⟨_, _, Tryz.func42, rfl, by kernel_rfl, by kernel_rfl⟩
theorem k44 : KF 44 A44 := ⟨_, _, Tryz.func44, rfl, by kernel_rfl, by kernel_rfl⟩
theorem k46 : KF 46 A46 := ⟨_, _, Tryz.func46, rfl, by kernel_rfl, by kernel_rfl⟩
theorem k48 : KF 48 A48 := ⟨_, _, Tryz.func48, rfl, by kernel_rfl, by kernel_rfl⟩
theorem k50 : KF 50 A50 := ⟨_, _, Tryz.func50, rfl, by kernel_rfl, by kernel_rfl⟩
theorem k54 : KF 54 A54 := ⟨_, _, Tryz.func54, rfl, by kernel_rfl, by kernel_rfl⟩
theorem k56 : KF 56 A56 := ⟨_, _, Tryz.func56, rfl, by kernel_rfl, by kernel_rfl⟩
theorem k58 : KF 58 A58 := ⟨_, _, Tryz.func58, rfl, by kernel_rfl, by kernel_rfl⟩
theorem k60 : KF 60 A60 := ⟨_, _, Tryz.func60, rfl, by kernel_rfl, by kernel_rfl⟩
theorem k62 : KF 62 A62 := ⟨_, _, Tryz.func62, rfl, by kernel_rfl, by kernel_rfl⟩
theorem k64 : KF 64 A64 := ⟨_, _, Tryz.func64, rfl, by kernel_rfl, by kernel_rfl⟩
theorem k66 : KF 66 A66 := ⟨_, _, Tryz.func66, rfl, by kernel_rfl, by kernel_rfl⟩
theorem k73 : KF 73 A73 := ⟨_, _, Tryz.func73, rfl, by kernel_rfl, by kernel_rfl⟩
theorem k75 : KF 75 A75 := ⟨_, _, Tryz.func75, rfl, by kernel_rfl, by kernel_rfl⟩
theorem k77 : KF 77 A77 := ⟨_, _, Tryz.func77, rfl, by kernel_rfl, by kernel_rfl⟩
theorem k85 : KF 85 A85 := ⟨_, _, Tryz.func85, rfl, by kernel_rfl, by kernel_rfl⟩
theorem k87 : KF 87 A87 := ⟨_, _, Tryz.func87, rfl, by kernel_rfl, by kernel_rfl⟩
theorem k89 : KF 89 A89 := ⟨_, _, Tryz.func89, rfl, by kernel_rfl, by kernel_rfl⟩
theorem k96 : KF 96 A96 := ⟨_, _, Tryz.func96, rfl, by kernel_rfl, by kernel_rfl⟩
theorem k98 : KF 98 A98 := ⟨_, _, Tryz.func98, rfl, by kernel_rfl, by kernel_rfl⟩
theorem k100 : KF 100 A100 := ⟨_, _, Tryz.func100, rfl, by kernel_rfl, by kernel_rfl⟩
theorem k105 : KF 105 A105 := ⟨_, _, Tryz.func105, rfl, by kernel_rfl, by kernel_rfl⟩
theorem k107 : KF 107 A107 := ⟨_, _, Tryz.func107, rfl, by kernel_rfl, by kernel_rfl⟩
theorem k109 : KF 109 A109 := ⟨_, _, Tryz.func109, rfl, by kernel_rfl, by kernel_rfl⟩
theorem k3 : KF 3 A3 := ⟨_, _, Tryz.func3, rfl, by kernel_rfl, by kernel_rfl⟩
theorem k5 : KF 5 A5 := ⟨_, _, Tryz.func5, rfl, by kernel_rfl, by kernel_rfl⟩
theorem k7 : KF 7 A7 := ⟨_, _, Tryz.func7, rfl, by kernel_rfl, by kernel_rfl⟩
theorem k9 : KF 9 A9 := ⟨_, _, Tryz.func9, rfl, by kernel_rfl, by kernel_rfl⟩
theorem k11 : KF 11 A11 := ⟨_, _, Tryz.func11, rfl, by kernel_rfl, by kernel_rfl⟩
theorem k14 : KF 14 A14 := ⟨_, _, Tryz.func14, rfl, by kernel_rfl, by kernel_rfl⟩
theorem k16 : KF 16 A16 := ⟨_, _, Tryz.func16, rfl, by kernel_rfl, by kernel_rfl⟩
theorem k18 : KF 18 A18 := ⟨_, _, Tryz.func18, rfl, by kernel_rfl, by kernel_rfl⟩
theorem k20 : KF 20 A20 := ⟨_, _, Tryz.func20, rfl, by kernel_rfl, by kernel_rfl⟩
theorem k34 : KF 34 A34 := ⟨_, _, Tryz.func34, rfl, by kernel_rfl, by kernel_rfl⟩
theorem k52 : KF 52 A52 := ⟨_, _, Tryz.func52, rfl, by kernel_rfl, by kernel_rfl⟩
theorem k68 : KF 68 A68 := ⟨_, _, Tryz.func68, rfl, by kernel_rfl, by kernel_rfl⟩
theorem k70 : KF 70 A70 := ⟨_, _, Tryz.func70, rfl, by kernel_rfl, by kernel_rfl⟩
theorem k79 : KF 79 A79 := ⟨_, _, Tryz.func79, rfl, by kernel_rfl, by kernel_rfl⟩
theorem k81 : KF 81 A81 := ⟨_, _, Tryz.func81, rfl, by kernel_rfl, by kernel_rfl⟩
theorem k83 : KF 83 A83 := ⟨_, _, Tryz.func83, rfl, by kernel_rfl, by kernel_rfl⟩
theorem k91 : KF 91 A91 := ⟨_, _, Tryz.func91, rfl, by kernel_rfl, by kernel_rfl⟩
theorem k93 : KF 93 A93 := ⟨_, _, Tryz.func93, rfl, by kernel_rfl, by kernel_rfl⟩
theorem k95 : KF 95 A95 := ⟨_, _, Tryz.func95, rfl, by kernel_rfl, by kernel_rfl⟩
theorem k102 : KF 102 A102 := ⟨_, _, Tryz.func102, rfl, by kernel_rfl, by kernel_rfl⟩
end X
