import Derived.Test.YtiemeabiekeekaaGreatTht
/- Static checks of the functions, one by one. -/
open Go Go.V Go.Proofs
namespace X
set_option maxRecDepth 100000
set_option maxHeartbeats 4000000
set_option linter.all false
theorem k22 : KF 22 A22 := ⟨_, _, Tryz.func22, rfl, by kernel_rfl, by kernel_rfl⟩
theorem k31 : KF 31 A31 := ⟨_, _, Tryz.func31, rfl, by kernel_rfl, by kernel_rfl⟩
theorem k35 : KF 35 A35 := ⟨_, _, Tryz.func35, rfl, by kernel_rfl, by kernel_rfl⟩
theorem k50 : KF 50 A50 := ⟨_, _, Tryz.func50, rfl, by kernel_rfl, by kernel_rfl⟩
theorem k53 : KF 53 A53 := ⟨_, _, Tryz.func53, rfl, by kernel_rfl, by kernel_rfl⟩
theorem k55 : KF 55 A55 := ⟨_, _, Tryz.func55, rfl, by kernel_rfl, by kernel_rfl⟩
theorem k57 : KF 57 A57 := ⟨_, _, Tryz.func57, rfl, by kernel_rfl, by kernel_rfl⟩
theorem k59 : KF 59 A59 := ⟨_, _, Tryz.func59, rfl, by kernel_rfl, by kernel_rfl⟩
theorem k67 : KF 67 A67 := ⟨_, _, Tryz.func67, rfl, by kernel_rfl, by kernel_rfl⟩
theorem k73 : KF 73 A73 := ⟨_, _, Tryz.func73, rfl, by kernel_rfl, by kernel_rfl⟩
theorem k75 : KF 75 A75 := ⟨_, _, Tryz.func75, rfl, by kernel_rfl, by kernel_rfl⟩
theorem k77 : KF 77 A77 := ⟨_, _, Tryz.func77, rfl, by kernel_rfl, by kernel_rfl⟩
theorem k79 : KF 79 A79 := ⟨_, _, Tryz.func79, rfl, by kernel_rfl, by kernel_rfl⟩
theorem k81 : KF 81 A81 := ⟨_, _, Tryz.func81, rfl, by kernel_rfl, by kernel_rfl⟩
theorem k83 : KF 83 A83 := ⟨_, _, Tryz.func83, rfl, by kernel_rfl, by kernel_rfl⟩
theorem k87 : KF 87 A87 := ⟨_, _, Tryz.func87, rfl, by kernel_rfl, by kernel_rfl⟩
theorem k89 : KF 89 A89 := ⟨_, _, Tryz.func89, rfl, by kernel_rfl, by kernel_rfl⟩
theorem k91 : KF 91 A91 := ⟨_, _, Tryz.func91, rfl, by kernel_rfl, by kernel_rfl⟩
theorem k93 : KF 93 A93 := ⟨_, _, Tryz.func93, rfl, by kernel_rfl, by kernel_rfl⟩
theorem k98 : KF 98 A98 := ⟨_, _, Tryz.func98, rfl, by kernel_rfl, by kernel_rfl⟩
theorem k100 : KF 100 A100 := ⟨_, _, Tryz.func100, rfl, by kernel_rfl, by kernel_rfl⟩
theorem k102 : KF 102 A102 := ⟨_, _, Tryz.func102, rfl, by kernel_rfl, by kernel_rfl⟩
theorem k104 : KF 104 A104 := ⟨_, _, Tryz.func104, rfl, by kernel_rfl, by kernel_rfl⟩
theorem k106 : KF 106 A106 := ⟨_, _, Tryz.func106, rfl, by kernel_rfl, by kernel_rfl⟩
theorem k109 : KF 109 A109 := ⟨_, _, Tryz.func109, rfl, by kernel_rfl, by kernel_rfl⟩
theorem k111 : KF 111 A111 := ⟨_, _, Tryz.func111, rfl, by kernel_rfl, by kernel_rfl⟩
theorem k113 : KF 113 A113 := ⟨_, _, Tryz.func113, rfl, by kernel_rfl, by kernel_rfl⟩
theorem k115 : KF 115 A115 := ⟨_, _, Tryz.func115, rfl, by kernel_rfl, by kernel_rfl⟩
theorem k117 : KF 117 A117 := ⟨_, _, Tryz.func117, rfl, by kernel_rfl, by kernel_rfl⟩
theorem k119 : KF 119 A119 := ⟨_, _, Tryz.func119, rfl, by kernel_rfl, by kernel_rfl⟩
theorem k121 : KF 121 A121 := ⟨_, _, Tryz.func121, rfl, by kernel_rfl, by kernel_rfl⟩
theorem k123 : KF 123 A123 := ⟨_, _, Tryz.func123, rfl, by kernel_rfl, by kernel_rfl⟩
theorem k125 : KF 125 A125 := ⟨_, _, Tryz.func125, rfl, by kernel_rfl, by kernel_rfl⟩
theorem k3 : KF 3 A3 := ⟨_, _, Tryz.func3, rfl, by kernel_rfl, by kernel_rfl⟩
theorem k7 : KF 7 A7 := ⟨_, _, Tryz.func7, rfl, by kernel_rfl, by kernel_rfl⟩
theorem k24 : KF 24 A24 := ⟨_, _, Tryz.func24, rfl, by kernel_rfl, by kernel_rfl⟩
theorem k6 : KF 6 A6 := ⟨_, _, Tryz.func6, rfl, by kernel_rfl, by kernel_rfl⟩
theorem k9 : KF 9 A9 := ⟨_, _, Tryz.func9, rfl, by kernel_rfl, by kernel_rfl⟩
theorem k12 : KF 12 A12 := ⟨_, _, Tryz.func12, rfl, by kernel_rfl, by kernel_rfl⟩
theorem k14 : KF 14 A14 := ⟨_, _, Tryz.func14, rfl, by kernel_rfl, by kernel_rfl⟩
theorem k16 : KF 16 A16 := ⟨_, _, Tryz.func16, rfl, by kernel_rfl, by kernel_rfl⟩
theorem k18 : KF 18 A18 := ⟨_, _, Tryz.func18, rfl, by kernel_rfl, by kernel_rfl⟩
theorem k20 : KF 20 A20 := ⟨_, _, Tryz.func20, rfl, by kernel_rfl, by kernel_rfl⟩
theorem k25 : KF 25 A25 := ⟨_, _, Tryz.func25, rfl, by kernel_rfl, by kernel_rfl⟩
theorem k27 : KF 27 A27 := ⟨_, _, Tryz.func27, rfl, by kernel_rfl, by kernel_rfl⟩
theorem k30 : KF 30 A30 := ⟨_, _, Tryz.func30, rfl, by kernel_rfl, by kernel_rfl⟩
theorem k34 : KF 34 A34 := ⟨_, _, Tryz.func34, rfl, by kernel_rfl, by kernel_rfl⟩
theorem k37 : KF 37 A37 := ⟨_, _, Tryz.func37, rfl, by kernel_rfl, by kernel_rfl⟩
theorem k39 : KF 39 A39 := ⟨_, _, Tryz.func39, rfl, by kernel_rfl, by kernel_rfl⟩
theorem k41 : KF 41 A41 := ⟨_, _, Tryz.func41, rfl, by kernel_rfl, by kernel_rfl⟩
theorem k44 : KF 44 A44 := ⟨_, _, Tryz.func44, rfl, by kernel_rfl, by kernel_rfl⟩
theorem k46 : KF 46 A46 := ⟨_, _, Tryz.func46, rfl, by kernel_rfl, by kernel_rfl⟩
theorem k48 : KF 48 A48 := ⟨_, _, Tryz.func48, rfl, by kernel_rfl, by kernel_rfl⟩
theorem k51 : KF 51 A51 := ⟨_, _, Tryz.func51, rfl, by kernel_rfl, by kernel_rfl⟩
theorem k61 : KF 61 A61 := ⟨_, _, Tryz.func61, rfl, by kernel_rfl, by kernel_rfl⟩
theorem k63 : KF 63 A63 := ⟨_, _, Tryz.func63, rfl, by kernel_rfl, by kernel_rfl⟩
theorem k65 : KF 65 A65 := ⟨_, _, Tryz.func65, rfl, by kernel_rfl, by kernel_rfl⟩
theorem k70 : KF 70 A70 := ⟨_, _, Tryz.func70, rfl, by kernel_rfl, by kernel_rfl⟩
theorem k72 : KF 72 A72 := ⟨_, _, Tryz.func72, rfl, by kernel_rfl, by kernel_rfl⟩
theorem k85 : KF 85 A85 := ⟨_, _, Tryz.func85, rfl, by kernel_rfl, by kernel_rfl⟩
theorem k96 : KF 96 A96 := ⟨_, _, Tryz.func96, rfl, by kernel_rfl, by kernel_rfl⟩
theorem k108 : KF 108 A108 := ⟨_, _, Tryz.func108, rfl, by kernel_rfl, by kernel_rfl⟩
end X
