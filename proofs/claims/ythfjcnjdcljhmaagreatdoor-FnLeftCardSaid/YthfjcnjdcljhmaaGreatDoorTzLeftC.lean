/- A part of the proof. No statement of the claim is in it. -/
import Derived.Test.YthfjcnjdcljhmaaGreatDoorTzLeft0
open Go Go.V Go.Proofs
namespace X
set_option maxRecDepth 100000
set_option maxHeartbeats 4000000
set_option linter.unusedSimpArgs false
set_option linter.unusedVariables false
theorem leftRun10 (a b c d e f g : V) : ftail ixf S tab 100000 A7 Tryz.f7.results.toList leftC (leftEnv a b c d e f g 10) ⟨0, .e⟩ = some (B true) := by kernel_rfl
end X
