/- Runs of the engine at the grammars of a law. By a printer of this session's. No statement of the claim is in it. -/
import Derived.Test.YtognnaobhjaoeaaGreatDoorVEb
open Go Go.V Go.Proofs
namespace X
set_option maxRecDepth 100000
set_option linter.unusedVariables false
theorem c_b_0 : (txt 40 41 0).all ck_b = true := by kernel_rfl
theorem c_b_1 : (txt 40 41 1).all ck_b = true := by kernel_rfl
theorem c_b_2 : (txt 40 41 2).all ck_b = true := by kernel_rfl
theorem c_b_3 : (txt 40 41 3).all ck_b = true := by kernel_rfl
theorem c_b_4 : (txt 40 41 4).all ck_b = true := by kernel_rfl
theorem c_b_5 : (txt 40 41 5).all ck_b = true := by kernel_rfl
end X
