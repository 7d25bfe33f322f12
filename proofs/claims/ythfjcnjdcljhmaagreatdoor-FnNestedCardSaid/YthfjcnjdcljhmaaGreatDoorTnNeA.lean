/- Closed runs of FnNested's rest. By a printer of this session's. -/
import Derived.Test.YthfjcnjdcljhmaaGreatDoorTnNe0
open Go Go.V Go.Proofs
namespace X
set_option maxRecDepth 100000
set_option maxHeartbeats 4000000
set_option linter.unusedSimpArgs false
set_option linter.unusedVariables false
namespace TzNe
theorem run0 (a b c d e f g : V) : ftail ixf S tab 100000 A9 Tryz.f9.results.toList restC (env a b c d e f g 0) ⟨0, .e⟩ = some (B true) := by kernel_rfl
theorem run1 (a b c d e f g : V) : ftail ixf S tab 100000 A9 Tryz.f9.results.toList restC (env a b c d e f g 1) ⟨0, .e⟩ = some (B true) := by kernel_rfl
theorem run2 (a b c d e f g : V) : ftail ixf S tab 100000 A9 Tryz.f9.results.toList restC (env a b c d e f g 2) ⟨0, .e⟩ = some (B true) := by kernel_rfl
theorem run3 (a b c d e f g : V) : ftail ixf S tab 100000 A9 Tryz.f9.results.toList restC (env a b c d e f g 3) ⟨0, .e⟩ = some (B true) := by kernel_rfl
theorem run4 (a b c d e f g : V) : ftail ixf S tab 100000 A9 Tryz.f9.results.toList restC (env a b c d e f g 4) ⟨0, .e⟩ = some (B true) := by kernel_rfl
theorem run5 (a b c d e f g : V) : ftail ixf S tab 100000 A9 Tryz.f9.results.toList restC (env a b c d e f g 5) ⟨0, .e⟩ = some (B true) := by kernel_rfl
theorem run6 (a b c d e f g : V) : ftail ixf S tab 100000 A9 Tryz.f9.results.toList restC (env a b c d e f g 6) ⟨0, .e⟩ = some (B true) := by kernel_rfl
theorem run7 (a b c d e f g : V) : ftail ixf S tab 100000 A9 Tryz.f9.results.toList restC (env a b c d e f g 7) ⟨0, .e⟩ = some (B true) := by kernel_rfl
end TzNe
end X
