/- Runs of the engine at the grammars of a law. By a printer of this session's. No statement of the claim is in it. -/
import Derived.Test.YtognnaobhjaoeaaGreatDoorVEs3
open Go Go.V Go.Proofs
namespace X
set_option maxRecDepth 100000
set_option linter.unusedVariables false
theorem cs_3_6_0 : (txt 97 98 3).all (fun r => cks3 ([97, 97, 97] ++ r)) = true := by kernel_rfl
theorem cs_3_6_1 : (txt 97 98 3).all (fun r => cks3 ([97, 97, 98] ++ r)) = true := by kernel_rfl
theorem cs_3_6_2 : (txt 97 98 3).all (fun r => cks3 ([97, 98, 97] ++ r)) = true := by kernel_rfl
theorem cs_3_6_3 : (txt 97 98 3).all (fun r => cks3 ([97, 98, 98] ++ r)) = true := by kernel_rfl
end X
