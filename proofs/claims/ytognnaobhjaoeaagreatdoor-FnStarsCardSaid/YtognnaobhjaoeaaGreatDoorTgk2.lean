/- Static checks of the functions, one by one. -/
import Derived.Test.YtognnaobhjaoeaaGreatDoorTgt
open Go Go.V Go.Proofs
namespace X
set_option maxRecDepth 100000
set_option maxHeartbeats 4000000
set_option linter.unusedSimpArgs false
set_option linter.unusedVariables false
theorem k13 : KF 13 A13 := ⟨_, _, Tryz.func13, rfl, by kernel_rfl, by kernel_rfl⟩
theorem k21 : KF 21 A21 := ⟨_, _, Tryz.func21, rfl, by kernel_rfl, by kernel_rfl⟩
theorem k24 : KF 24 A24 := ⟨_, _, Tryz.func24, rfl, by kernel_rfl, by kernel_rfl⟩
theorem k27 : KF 27 A27 := ⟨_, _, Tryz.func27, rfl, by kernel_rfl, by kernel_rfl⟩
theorem k30 : KF 30 A30 := ⟨_, _, Tryz.func30, rfl, by kernel_rfl, by kernel_rfl⟩
theorem k33 : KF 33 A33 := ⟨_, _, Tryz.func33, rfl, by kernel_rfl, by kernel_rfl⟩
theorem k40 : KF 40 A40 := ⟨_, _, Tryz.func40, rfl, by kernel_rfl, by kernel_rfl⟩
theorem k44 : KF 44 A44 := ⟨_, _, Tryz.func44, rfl, by kernel_rfl, by kernel_rfl⟩
theorem k47 : KF 47 A47 := ⟨_, _, Tryz.func47, rfl, by kernel_rfl, by kernel_rfl⟩
theorem k50 : KF 50 A50 := ⟨_, _, Tryz.func50, rfl, by kernel_rfl, by kernel_rfl⟩
theorem k53 : KF 53 A53 := ⟨_, _, Tryz.func53, rfl, by kernel_rfl, by kernel_rfl⟩
theorem k56 : KF 56 A56 := ⟨_, _, Tryz.func56, rfl, by kernel_rfl, by kernel_rfl⟩
theorem k59 : KF 59 A59 := ⟨_, _, Tryz.func59, rfl, by kernel_rfl, by kernel_rfl⟩
theorem k67 : KF 67 A67 := ⟨_, _, Tryz.func67, rfl, by kernel_rfl, by kernel_rfl⟩
theorem k70 : KF 70 A70 := ⟨_, _, Tryz.func70, rfl, by kernel_rfl, by kernel_rfl⟩
theorem k73 : KF 73 A73 := ⟨_, _, Tryz.func73, rfl, by kernel_rfl, by kernel_rfl⟩
theorem k77 : KF 77 A77 := ⟨_, _, Tryz.func77, rfl, by kernel_rfl, by kernel_rfl⟩
theorem k81 : KF 81 A81 := ⟨_, _, Tryz.func81, rfl, by kernel_rfl, by kernel_rfl⟩
theorem k84 : KF 84 A84 := ⟨_, _, Tryz.func84, rfl, by kernel_rfl, by kernel_rfl⟩
theorem k92 : KF 92 A92 := ⟨_, _, Tryz.func92, rfl, by kernel_rfl, by kernel_rfl⟩
theorem k98 : KF 98 A98 := ⟨_, _, Tryz.func98, rfl, by kernel_rfl, by kernel_rfl⟩
theorem k101 : KF 101 A101 := ⟨_, _, Tryz.func101, rfl, by kernel_rfl, by kernel_rfl⟩
theorem k105 : KF 105 A105 := ⟨_, _, Tryz.func105, rfl, by kernel_rfl, by kernel_rfl⟩
theorem k108 : KF 108 A108 := ⟨_, _, Tryz.func108, rfl, by kernel_rfl, by kernel_rfl⟩
theorem k113 : KF 113 A113 := ⟨_, _, Tryz.func113, rfl, by kernel_rfl, by kernel_rfl⟩
theorem k129 : KF 129 A129 := ⟨_, _, Tryz.func129, rfl, by kernel_rfl, by kernel_rfl⟩
theorem k136 : KF 136 A136 := ⟨_, _, Tryz.func136, rfl, by kernel_rfl, by kernel_rfl⟩
theorem k140 : KF 140 A140 := ⟨_, _, Tryz.func140, rfl, by kernel_rfl, by kernel_rfl⟩
theorem k143 : KF 143 A143 := ⟨_, _, Tryz.func143, rfl, by kernel_rfl, by kernel_rfl⟩
theorem k150 : KF 150 A150 := ⟨_, _, Tryz.func150, rfl, by kernel_rfl, by kernel_rfl⟩
theorem k164 : KF 164 A164 := ⟨_, _, Tryz.func164, rfl, by kernel_rfl, by kernel_rfl⟩
theorem k167 : KF 167 A167 := ⟨_, _, Tryz.func167, rfl, by kernel_rfl, by kernel_rfl⟩
theorem k170 : KF 170 A170 := ⟨_, _, Tryz.func170, rfl, by kernel_rfl, by kernel_rfl⟩
theorem k180 : KF 180 A180 := ⟨_, _, Tryz.func180, rfl, by kernel_rfl, by kernel_rfl⟩
theorem k198 : KF 198 A198 := ⟨_, _, Tryz.func198, rfl, by kernel_rfl, by kernel_rfl⟩
theorem k201 : KF 201 A201 := ⟨_, _, Tryz.func201, rfl, by kernel_rfl, by kernel_rfl⟩
theorem k209 : KF 209 A209 := ⟨_, _, Tryz.func209, rfl, by kernel_rfl, by kernel_rfl⟩
theorem k216 : KF 216 A216 := ⟨_, _, Tryz.func216, rfl, by kernel_rfl, by kernel_rfl⟩
theorem k3 : KF 3 A3 := ⟨_, _, Tryz.func3, rfl, by kernel_rfl, by kernel_rfl⟩
theorem k11 : KF 11 A11 := ⟨_, _, Tryz.func11, rfl, by kernel_rfl, by kernel_rfl⟩
theorem k14 : KF 14 A14 := ⟨_, _, Tryz.func14, rfl, by kernel_rfl, by kernel_rfl⟩
theorem k9 : KF 9 A9 := ⟨_, _, Tryz.func9, rfl, by kernel_rfl, by kernel_rfl⟩
theorem k36 : KF 36 A36 := ⟨_, _, Tryz.func36, rfl, by kernel_rfl, by kernel_rfl⟩
theorem k66 : KF 66 A66 := ⟨_, _, Tryz.func66, rfl, by kernel_rfl, by kernel_rfl⟩
theorem k87 : KF 87 A87 := ⟨_, _, Tryz.func87, rfl, by kernel_rfl, by kernel_rfl⟩
theorem k111 : KF 111 A111 := ⟨_, _, Tryz.func111, rfl, by kernel_rfl, by kernel_rfl⟩
theorem k34 : KF 34 A34 := ⟨_, _, Tryz.func34, rfl, by kernel_rfl, by kernel_rfl⟩
theorem k161 : KF 161 A161 := ⟨_, _, Tryz.func161, rfl, by kernel_rfl, by kernel_rfl⟩
theorem k94 : KF 94 A94 := ⟨_, _, Tryz.func94, rfl, by kernel_rfl, by kernel_rfl⟩
theorem k148 : KF 148 A148 := ⟨_, _, Tryz.func148, rfl, by kernel_rfl, by kernel_rfl⟩
end X
