/- Runs of the engine at the grammars of a law. By a printer of this session's. No statement of the claim is in it. -/
import Derived.Test.YtognnaobhjaoeaaGreatDoorVEs1
open Go Go.V Go.Proofs
namespace X
set_option maxRecDepth 100000
set_option linter.unusedVariables false
theorem cs_1_0 : (txt 97 98 0).all cks1 = true := by kernel_rfl
theorem cs_1_1 : (txt 97 98 1).all cks1 = true := by kernel_rfl
theorem cs_1_2 : (txt 97 98 2).all cks1 = true := by kernel_rfl
theorem cs_1_3 : (txt 97 98 3).all cks1 = true := by kernel_rfl
theorem cs_1_4_0 : (txt 97 98 3).all (fun r => cks1 ([97] ++ r)) = true := by kernel_rfl
theorem cs_1_4_1 : (txt 97 98 3).all (fun r => cks1 ([98] ++ r)) = true := by kernel_rfl
theorem cs_1_5_0 : (txt 97 98 3).all (fun r => cks1 ([97, 97] ++ r)) = true := by kernel_rfl
theorem cs_1_5_1 : (txt 97 98 3).all (fun r => cks1 ([97, 98] ++ r)) = true := by kernel_rfl
theorem cs_1_5_2 : (txt 97 98 3).all (fun r => cks1 ([98, 97] ++ r)) = true := by kernel_rfl
theorem cs_1_5_3 : (txt 97 98 3).all (fun r => cks1 ([98, 98] ++ r)) = true := by kernel_rfl
end X
