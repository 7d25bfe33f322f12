/- Static checks of the functions, one by one. -/
import Derived.Test.YtognnaobhjaoeaaGreatDoorTgt
open Go Go.V Go.Proofs
namespace X
set_option maxRecDepth 100000
set_option maxHeartbeats 4000000
set_option linter.unusedSimpArgs false
set_option linter.unusedVariables false
theorem k8 : KF 8 A8 := ⟨_, _, Tryz.func8, rfl, by kernel_rfl, by kernel_rfl⟩
theorem k17 : KF 17 A17 := ⟨_, _, Tryz.func17, rfl, by kernel_rfl, by kernel_rfl⟩
theorem k22 : KF 22 A22 := ⟨_, _, Tryz.func22, rfl, by kernel_rfl, by kernel_rfl⟩
theorem k25 : KF 25 A25 := ⟨_, _, Tryz.func25, rfl, by kernel_rfl, by kernel_rfl⟩
theorem k28 : KF 28 A28 := ⟨_, _, Tryz.func28, rfl, by kernel_rfl, by kernel_rfl⟩
theorem k31 : KF 31 A31 := ⟨_, _, Tryz.func31, rfl, by kernel_rfl, by kernel_rfl⟩
theorem k38 : KF 38 A38 := ⟨_, _, Tryz.func38, rfl, by kernel_rfl, by kernel_rfl⟩
theorem k41 : KF 41 A41 := ⟨_, _, Tryz.func41, rfl, by kernel_rfl, by kernel_rfl⟩
theorem k45 : KF 45 A45 := ⟨_, _, Tryz.func45, rfl, by kernel_rfl, by kernel_rfl⟩
theorem k48 : KF 48 A48 := ⟨_, _, Tryz.func48, rfl, by kernel_rfl, by kernel_rfl⟩
theorem k51 : KF 51 A51 := ⟨_, _, Tryz.func51, rfl, by kernel_rfl, by kernel_rfl⟩
theorem k54 : KF 54 A54 := ⟨_, _, Tryz.func54, rfl, by kernel_rfl, by kernel_rfl⟩
theorem k57 : KF 57 A57 := ⟨_, _, Tryz.func57, rfl, by kernel_rfl, by kernel_rfl⟩
theorem k60 : KF 60 A60 := ⟨_, _, Tryz.func60, rfl, by kernel_rfl, by kernel_rfl⟩
theorem k68 : KF 68 A68 := ⟨_, _, Tryz.func68, rfl, by kernel_rfl, by kernel_rfl⟩
theorem k71 : KF 71 A71 := ⟨_, _, Tryz.func71, rfl, by kernel_rfl, by kernel_rfl⟩
theorem k74 : KF 74 A74 := ⟨_, _, Tryz.func74, rfl, by kernel_rfl, by kernel_rfl⟩
theorem k78 : KF 78 A78 := ⟨_, _, Tryz.func78, rfl, by kernel_rfl, by kernel_rfl⟩
theorem k82 : KF 82 A82 := ⟨_, _, Tryz.func82, rfl, by kernel_rfl, by kernel_rfl⟩
theorem k85 : KF 85 A85 := ⟨_, _, Tryz.func85, rfl, by kernel_rfl, by kernel_rfl⟩
theorem k93 : KF 93 A93 := ⟨_, _, Tryz.func93, rfl, by kernel_rfl, by kernel_rfl⟩
theorem k99 : KF 99 A99 := ⟨_, _, Tryz.func99, rfl, by kernel_rfl, by kernel_rfl⟩
theorem k103 : KF 103 A103 := ⟨_, _, Tryz.func103, rfl, by kernel_rfl, by kernel_rfl⟩
theorem k106 : KF 106 A106 := ⟨_, _, Tryz.func106, rfl, by kernel_rfl, by kernel_rfl⟩
theorem k109 : KF 109 A109 := ⟨_, _, Tryz.func109, rfl, by kernel_rfl, by kernel_rfl⟩
theorem k115 : KF 115 A115 := ⟨_, _, Tryz.func115, rfl, by kernel_rfl, by kernel_rfl⟩
theorem k134 : KF 134 A134 := ⟨_, _, Tryz.func134, rfl, by kernel_rfl, by kernel_rfl⟩
theorem k137 : KF 137 A137 := ⟨_, _, Tryz.func137, rfl, by kernel_rfl, by kernel_rfl⟩
theorem k141 : KF 141 A141 := ⟨_, _, Tryz.func141, rfl, by kernel_rfl, by kernel_rfl⟩
theorem k146 : KF 146 A146 := ⟨_, _, Tryz.func146, rfl, by kernel_rfl, by kernel_rfl⟩
theorem k151 : KF 151 A151 := ⟨_, _, Tryz.func151, rfl, by kernel_rfl, by kernel_rfl⟩
theorem k165 : KF 165 A165 := ⟨_, _, Tryz.func165, rfl, by kernel_rfl, by kernel_rfl⟩
theorem k168 : KF 168 A168 := ⟨_, _, Tryz.func168, rfl, by kernel_rfl, by kernel_rfl⟩
theorem k171 : KF 171 A171 := ⟨_, _, Tryz.func171, rfl, by kernel_rfl, by kernel_rfl⟩
theorem k186 : KF 186 A186 := ⟨_, _, Tryz.func186, rfl, by kernel_rfl, by kernel_rfl⟩
theorem k199 : KF 199 A199 := ⟨_, _, Tryz.func199, rfl, by kernel_rfl, by kernel_rfl⟩
theorem k202 : KF 202 A202 := ⟨_, _, Tryz.func202, rfl, by kernel_rfl, by kernel_rfl⟩
theorem k214 : KF 214 A214 := ⟨_, _, Tryz.func214, rfl, by kernel_rfl, by kernel_rfl⟩
theorem k224 : KF 224 A224 := ⟨_, _, Tryz.func224, rfl, by kernel_rfl, by kernel_rfl⟩
theorem k4 : KF 4 A4 := ⟨_, _, Tryz.func4, rfl, by kernel_rfl, by kernel_rfl⟩
theorem k7 : KF 7 A7 := ⟨_, _, Tryz.func7, rfl, by kernel_rfl, by kernel_rfl⟩
theorem k15 : KF 15 A15 := ⟨_, _, Tryz.func15, rfl, by kernel_rfl, by kernel_rfl⟩
theorem k12 : KF 12 A12 := ⟨_, _, Tryz.func12, rfl, by kernel_rfl, by kernel_rfl⟩
theorem k37 : KF 37 A37 := ⟨_, _, Tryz.func37, rfl, by kernel_rfl, by kernel_rfl⟩
theorem k90 : KF 90 A90 := ⟨_, _, Tryz.func90, rfl, by kernel_rfl, by kernel_rfl⟩
theorem k88 : KF 88 A88 := ⟨_, _, Tryz.func88, rfl, by kernel_rfl, by kernel_rfl⟩
theorem k62 : KF 62 A62 := ⟨_, _, Tryz.func62, rfl, by kernel_rfl, by kernel_rfl⟩
theorem k96 : KF 96 A96 := ⟨_, _, Tryz.func96, rfl, by kernel_rfl, by kernel_rfl⟩
theorem k130 : KF 130 A130 := ⟨_, _, Tryz.func130, rfl, by kernel_rfl, by kernel_rfl⟩
theorem k119 : KF 119 A119 := ⟨_, _, Tryz.func119, rfl, by kernel_rfl, by kernel_rfl⟩
theorem k91 : KF 91 A91 := ⟨_, _, Tryz.func91, rfl, by kernel_rfl, by kernel_rfl⟩
end X
