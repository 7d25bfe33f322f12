/- Runs of the engine at the grammars of a law. By a printer of this session's. No statement of the claim is in it. -/
import Derived.Test.YtognnaobhjaoeaaGreatDoorVEs2
open Go Go.V Go.Proofs
namespace X
set_option maxRecDepth 100000
set_option linter.unusedVariables false
theorem cs_2_6_4 : (txt 97 98 3).all (fun r => cks2 ([98, 97, 97] ++ r)) = true := by kernel_rfl
theorem cs_2_6_5 : (txt 97 98 3).all (fun r => cks2 ([98, 97, 98] ++ r)) = true := by kernel_rfl
theorem cs_2_6_6 : (txt 97 98 3).all (fun r => cks2 ([98, 98, 97] ++ r)) = true := by kernel_rfl
theorem cs_2_6_7 : (txt 97 98 3).all (fun r => cks2 ([98, 98, 98] ++ r)) = true := by kernel_rfl
end X
