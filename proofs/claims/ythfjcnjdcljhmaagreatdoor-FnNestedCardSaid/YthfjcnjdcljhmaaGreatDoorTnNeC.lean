/- Closed runs of FnNested's rest. By a printer of this session's. -/
import Derived.Test.YthfjcnjdcljhmaaGreatDoorTnNe0
open Go Go.V Go.Proofs
namespace X
set_option maxRecDepth 100000
set_option maxHeartbeats 4000000
set_option linter.unusedSimpArgs false
set_option linter.unusedVariables false
namespace TzNe
theorem run14 (a b c d e f g : V) : ftail ixf S tab 100000 A9 Tryz.f9.results.toList restC (env a b c d e f g 14) ⟨0, .e⟩ = some (B true) := by kernel_rfl
theorem run15 (a b c d e f g : V) : ftail ixf S tab 100000 A9 Tryz.f9.results.toList restC (env a b c d e f g 15) ⟨0, .e⟩ = some (B true) := by kernel_rfl
theorem run16 (a b c d e f g : V) : ftail ixf S tab 100000 A9 Tryz.f9.results.toList restC (env a b c d e f g 16) ⟨0, .e⟩ = some (B true) := by kernel_rfl
theorem run17 (a b c d e f g : V) : ftail ixf S tab 100000 A9 Tryz.f9.results.toList restC (env a b c d e f g 17) ⟨0, .e⟩ = some (B true) := by kernel_rfl
theorem run18 (a b c d e f g : V) : ftail ixf S tab 100000 A9 Tryz.f9.results.toList restC (env a b c d e f g 18) ⟨0, .e⟩ = some (B true) := by kernel_rfl
end TzNe
end X
