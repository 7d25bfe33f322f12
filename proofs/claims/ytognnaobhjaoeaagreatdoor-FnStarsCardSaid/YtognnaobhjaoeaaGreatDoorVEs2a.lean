/- Runs of the engine at the grammars of a law. By a printer of this session's. No statement of the claim is in it. -/
import Derived.Test.YtognnaobhjaoeaaGreatDoorVEs2
open Go Go.V Go.Proofs
namespace X
set_option maxRecDepth 100000
set_option linter.unusedVariables false
theorem cs_2_0 : (txt 97 98 0).all cks2 = true := by kernel_rfl
theorem cs_2_1 : (txt 97 98 1).all cks2 = true := by kernel_rfl
theorem cs_2_2 : (txt 97 98 2).all cks2 = true := by kernel_rfl
theorem cs_2_3 : (txt 97 98 3).all cks2 = true := by kernel_rfl
theorem cs_2_4_0 : (txt 97 98 3).all (fun r => cks2 ([97] ++ r)) = true := by kernel_rfl
theorem cs_2_4_1 : (txt 97 98 3).all (fun r => cks2 ([98] ++ r)) = true := by kernel_rfl
theorem cs_2_5_0 : (txt 97 98 3).all (fun r => cks2 ([97, 97] ++ r)) = true := by kernel_rfl
theorem cs_2_5_1 : (txt 97 98 3).all (fun r => cks2 ([97, 98] ++ r)) = true := by kernel_rfl
theorem cs_2_5_2 : (txt 97 98 3).all (fun r => cks2 ([98, 97] ++ r)) = true := by kernel_rfl
theorem cs_2_5_3 : (txt 97 98 3).all (fun r => cks2 ([98, 98] ++ r)) = true := by kernel_rfl
end X
