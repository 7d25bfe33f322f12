/- A part of the proof. No statement of the claim is in it. -/
import Derived.Test.YthfjcnjdcljhmaaGreatDoorTzLeft0
open Go Go.V Go.Proofs
namespace X
set_option maxRecDepth 100000
set_option maxHeartbeats 4000000
set_option linter.unusedSimpArgs false
set_option linter.unusedVariables false
theorem leftRun0 (a b c d e f g : V) : ftail ixf S tab 100000 A7 Tryz.f7.results.toList leftC (leftEnv a b c d e f g 0) ⟨0, .e⟩ = some (B true) := by kernel_rfl
theorem leftRun1 (a b c d e f g : V) : ftail ixf S tab 100000 A7 Tryz.f7.results.toList leftC (leftEnv a b c d e f g 1) ⟨0, .e⟩ = some (B true) := by kernel_rfl
theorem leftRun2 (a b c d e f g : V) : ftail ixf S tab 100000 A7 Tryz.f7.results.toList leftC (leftEnv a b c d e f g 2) ⟨0, .e⟩ = some (B true) := by kernel_rfl
theorem leftRun3 (a b c d e f g : V) : ftail ixf S tab 100000 A7 Tryz.f7.results.toList leftC (leftEnv a b c d e f g 3) ⟨0, .e⟩ = some (B true) := by kernel_rfl
theorem leftRun4 (a b c d e f g : V) : ftail ixf S tab 100000 A7 Tryz.f7.results.toList leftC (leftEnv a b c d e f g 4) ⟨0, .e⟩ = some (B true) := by kernel_rfl
theorem leftRun5 (a b c d e f g : V) : ftail ixf S tab 100000 A7 Tryz.f7.results.toList leftC (leftEnv a b c d e f g 5) ⟨0, .e⟩ = some (B true) := by kernel_rfl
theorem leftRun6 (a b c d e f g : V) : ftail ixf S tab 100000 A7 Tryz.f7.results.toList leftC (leftEnv a b c d e f g 6) ⟨0, .e⟩ = some (B true) := by kernel_rfl
theorem leftRun7 (a b c d e f g : V) : ftail ixf S tab 100000 A7 Tryz.f7.results.toList leftC (leftEnv a b c d e f g 7) ⟨0, .e⟩ = some (B true) := by kernel_rfl
end X
