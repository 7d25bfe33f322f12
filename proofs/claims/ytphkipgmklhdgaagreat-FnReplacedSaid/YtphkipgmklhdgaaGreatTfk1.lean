/- Static checks of the functions, one by one. -/
import Derived.Test.YtphkipgmklhdgaaGreatTft
open Go Go.V Go.Proofs
namespace X
set_option maxRecDepth 100000
set_option maxHeartbeats 4000000
set_option linter.unusedSimpArgs false
set_option linter.unusedVariables false
theorem k21 : KF 21 A21 := ⟨_, _, Tryz.func21, rfl, by kernel_rfl, by kernel_rfl⟩
theorem k23 : KF 23 A23 := ⟨_, _, Tryz.func23, rfl, by kernel_rfl, by kernel_rfl⟩
theorem k26 : KF 26 A26 := ⟨_, _, Tryz.func26, rfl, by kernel_rfl, by kernel_rfl⟩
theorem k28 : KF 28 A28 := ⟨_, _, Tryz.func28, rfl, by kernel_rfl, by kernel_rfl⟩
theorem k30 : KF 30 A30 := ⟨_, _, Tryz.func30, rfl, by kernel_rfl, by kernel_rfl⟩
theorem k32 : KF 32 A32 := ⟨_, _, Tryz.func32, rfl, by kernel_rfl, by kernel_rfl⟩
theorem k35 : KF 35 A35 := ⟨_, _, Tryz.func35, rfl, by kernel_rfl, by kernel_rfl⟩
theorem k37 : KF 37 A37 := ⟨_, _, Tryz.func37, rfl, by kernel_rfl, by kernel_rfl⟩
theorem k39 : KF 39 A39 := ⟨_, _, Tryz.func39, rfl, by kernel_rfl, by kernel_rfl⟩
theorem k41 : KF 41 A41 := ⟨_, _, Tryz.func41, rfl, by kernel_rfl, by kernel_rfl⟩
theorem k43 : KF 43 A43 := ⟨_, _, Tryz.func43, rfl, by kernel_rfl, by kernel_rfl⟩
theorem k45 : KF 45 A45 := ⟨_, _, Tryz.func45, rfl, by kernel_rfl, by kernel_rfl⟩
theorem k47 : KF 47 A47 := ⟨_, _, Tryz.func47, rfl, by kernel_rfl, by kernel_rfl⟩
theorem k49 : KF 49 A49 := ⟨_, _, Tryz.func49, rfl, by kernel_rfl, by kernel_rfl⟩
theorem k53 : KF 53 A53 := ⟨_, _, Tryz.func53, rfl, by kernel_rfl, by kernel_rfl⟩
theorem k55 : KF 55 A55 := ⟨_, _, Tryz.func55, rfl, by kernel_rfl, by kernel_rfl⟩
theorem k57 : KF 57 A57 := ⟨_, _, Tryz.func57, rfl, by kernel_rfl, by kernel_rfl⟩
theorem k59 : KF 59 A59 := ⟨_, _, Tryz.func59, rfl, by kernel_rfl, by kernel_rfl⟩
theorem k61 : KF 61 A61 := ⟨_, _, Tryz.func61, rfl, by kernel_rfl, by kernel_rfl⟩
theorem k63 : KF 63 A63 := ⟨_, _, Tryz.func63, rfl, by kernel_rfl, by kernel_rfl⟩
theorem k65 : KF 65 A65 := ⟨_, _, Tryz.func65, rfl, by kernel_rfl, by kernel_rfl⟩
theorem k72 : KF 72 A72 := ⟨_, _, Tryz.func72, rfl, by kernel_rfl, by kernel_rfl⟩
theorem k74 : KF 74 A74 := ⟨_, _, Tryz.func74, rfl, by kernel_rfl, by kernel_rfl⟩
theorem k76 : KF 76 A76 := ⟨_, _, Tryz.func76, rfl, by kernel_rfl, by kernel_rfl⟩
theorem k78 : KF 78 A78 := ⟨_, _, Tryz.func78, rfl, by kernel_rfl, by kernel_rfl⟩
theorem k86 : KF 86 A86 := ⟨_, _, Tryz.func86, rfl, by kernel_rfl, by kernel_rfl⟩
theorem k88 : KF 88 A88 := ⟨_, _, Tryz.func88, rfl, by kernel_rfl, by kernel_rfl⟩
theorem k90 : KF 90 A90 := ⟨_, _, Tryz.func90, rfl, by kernel_rfl, by kernel_rfl⟩
theorem k97 : KF 97 A97 := ⟨_, _, Tryz.func97, rfl, by kernel_rfl, by kernel_rfl⟩
theorem k99 : KF 99 A99 := ⟨_, _, Tryz.func99, rfl, by kernel_rfl, by kernel_rfl⟩
theorem k104 : KF 104 A104 := ⟨_, _, Tryz.func104, rfl, by kernel_rfl, by kernel_rfl⟩
theorem k106 : KF 106 A106 := ⟨_, _, Tryz.func106, rfl, by kernel_rfl, by kernel_rfl⟩
theorem k108 : KF 108 A108 := ⟨_, _, Tryz.func108, rfl, by kernel_rfl, by kernel_rfl⟩
theorem k110 : KF 110 A110 := ⟨_, _, Tryz.func110, rfl, by kernel_rfl, by kernel_rfl⟩
theorem k4 : KF 4 A4 := ⟨_, _, Tryz.func4, rfl, by kernel_rfl, by kernel_rfl⟩
theorem k6 : KF 6 A6 := ⟨_, _, Tryz.func6, rfl, by kernel_rfl, by kernel_rfl⟩
theorem k8 : KF 8 A8 := ⟨_, _, Tryz.func8, rfl, by kernel_rfl, by kernel_rfl⟩
theorem k10 : KF 10 A10 := ⟨_, _, Tryz.func10, rfl, by kernel_rfl, by kernel_rfl⟩
theorem k12 : KF 12 A12 := ⟨_, _, Tryz.func12, rfl, by kernel_rfl, by kernel_rfl⟩
theorem k15 : KF 15 A15 := ⟨_, _, Tryz.func15, rfl, by kernel_rfl, by kernel_rfl⟩
theorem k17 : KF 17 A17 := ⟨_, _, Tryz.func17, rfl, by kernel_rfl, by kernel_rfl⟩
theorem k19 : KF 19 A19 := ⟨_, _, Tryz.func19, rfl, by kernel_rfl, by kernel_rfl⟩
theorem k24 : KF 24 A24 := ⟨_, _, Tryz.func24, rfl, by kernel_rfl, by kernel_rfl⟩
theorem k51 : KF 51 A51 := ⟨_, _, Tryz.func51, rfl, by kernel_rfl, by kernel_rfl⟩
theorem k67 : KF 67 A67 := ⟨_, _, Tryz.func67, rfl, by kernel_rfl, by kernel_rfl⟩
theorem k69 : KF 69 A69 := ⟨_, _, Tryz.func69, rfl, by kernel_rfl, by kernel_rfl⟩
theorem k71 : KF 71 A71 := ⟨_, _, Tryz.func71, rfl, by kernel_rfl, by kernel_rfl⟩
theorem k80 : KF 80 A80 := ⟨_, _, Tryz.func80, rfl, by kernel_rfl, by kernel_rfl⟩
theorem k82 : KF 82 A82 := ⟨_, _, Tryz.func82, rfl, by kernel_rfl, by kernel_rfl⟩
theorem k84 : KF 84 A84 := ⟨_, _, Tryz.func84, rfl, by kernel_rfl, by kernel_rfl⟩
theorem k92 : KF 92 A92 := ⟨_, _, Tryz.func92, rfl, by kernel_rfl, by kernel_rfl⟩
theorem k94 : KF 94 A94 := ⟨_, _, Tryz.func94, rfl, by kernel_rfl, by kernel_rfl⟩
theorem k101 : KF 101 A101 := ⟨_, _, Tryz.func101, rfl, by kernel_rfl, by kernel_rfl⟩
theorem k103 : KF 103 A103 := ⟨_, _, Tryz.func103, rfl, by kernel_rfl, by kernel_rfl⟩
end X
