/- A part of the proof. No statement of the claim is in it. -/
import Derived.Test.YthfjcnjdcljhmaaGreatDoorTzTT0
open Go Go.V Go.Proofs
namespace X
set_option maxRecDepth 100000
set_option maxHeartbeats 4000000
set_option linter.unusedSimpArgs false
set_option linter.unusedVariables false
namespace TzTT
theorem run4 (a b c d e f g : V) : ftail ixf S tab 100000 A10 Tryz.f10.results.toList restC (env a b c d e f g 4 5) ⟨0, .e⟩ = some (B true) := by kernel_rfl
end TzTT
end X
