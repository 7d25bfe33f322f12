/- A part of the proof. No statement of the claim is in it. -/
import Derived.Test.YthfjcnjdcljhmaaGreatDoorTzTE0
open Go Go.V Go.Proofs
namespace X
set_option maxRecDepth 100000
set_option maxHeartbeats 4000000
set_option linter.unusedSimpArgs false
set_option linter.unusedVariables false
namespace TzTE
theorem run5 (a b c d e f g : V) : ftail ixf S tab 100000 A11 Tryz.f11.results.toList restC (env a b c d e f g 5) ⟨0, .e⟩ = some (B true) := by kernel_rfl
end TzTE
end X
