/- Closed runs of FnNested's rest. By a printer of this session's. -/
import Derived.Test.YthfjcnjdcljhmaaGreatDoorTnNe0
open Go Go.V Go.Proofs
namespace X
set_option maxRecDepth 100000
set_option maxHeartbeats 4000000
set_option linter.unusedSimpArgs false
set_option linter.unusedVariables false
namespace TzNe
theorem run8 (a b c d e f g : V) : ftail ixf S tab 100000 A9 Tryz.f9.results.toList restC (env a b c d e f g 8) ⟨0, .e⟩ = some (B true) := by kernel_rfl
theorem run9 (a b c d e f g : V) : ftail ixf S tab 100000 A9 Tryz.f9.results.toList restC (env a b c d e f g 9) ⟨0, .e⟩ = some (B true) := by kernel_rfl
theorem run10 (a b c d e f g : V) : ftail ixf S tab 100000 A9 Tryz.f9.results.toList restC (env a b c d e f g 10) ⟨0, .e⟩ = some (B true) := by kernel_rfl
theorem run11 (a b c d e f g : V) : ftail ixf S tab 100000 A9 Tryz.f9.results.toList restC (env a b c d e f g 11) ⟨0, .e⟩ = some (B true) := by kernel_rfl
theorem run12 (a b c d e f g : V) : ftail ixf S tab 100000 A9 Tryz.f9.results.toList restC (env a b c d e f g 12) ⟨0, .e⟩ = some (B true) := by kernel_rfl
theorem run13 (a b c d e f g : V) : ftail ixf S tab 100000 A9 Tryz.f9.results.toList restC (env a b c d e f g 13) ⟨0, .e⟩ = some (B true) := by kernel_rfl
end TzNe
end X
