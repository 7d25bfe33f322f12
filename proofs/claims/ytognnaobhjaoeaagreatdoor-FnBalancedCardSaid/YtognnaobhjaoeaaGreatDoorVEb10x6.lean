/- Runs of the engine at the grammars of a law. By a printer of this session's. No statement of the claim is in it. -/
import Derived.Test.YtognnaobhjaoeaaGreatDoorVEb
open Go Go.V Go.Proofs
namespace X
set_option maxRecDepth 100000
set_option linter.unusedVariables false
theorem c_b_10_24 : (txt 40 41 5).all (fun r => ck_b ([41, 41, 40, 40, 40] ++ r)) = true := by kernel_rfl
theorem c_b_10_25 : (txt 40 41 5).all (fun r => ck_b ([41, 41, 40, 40, 41] ++ r)) = true := by kernel_rfl
theorem c_b_10_26 : (txt 40 41 5).all (fun r => ck_b ([41, 41, 40, 41, 40] ++ r)) = true := by kernel_rfl
theorem c_b_10_27 : (txt 40 41 5).all (fun r => ck_b ([41, 41, 40, 41, 41] ++ r)) = true := by kernel_rfl
end X
