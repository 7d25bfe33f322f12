/- Closed runs of FnNested's rest. By a printer of this session's. -/
import Derived.Test.YthfjcnjdcljhmaaGreatDoorTnNe0
open Go Go.V Go.Proofs
namespace X
set_option maxRecDepth 100000
set_option maxHeartbeats 4000000
set_option linter.unusedSimpArgs false
set_option linter.unusedVariables false
namespace TzNe
theorem run19 (a b c d e f g : V) : ftail ixf S tab 100000 A9 Tryz.f9.results.toList restC (env a b c d e f g 19) ⟨0, .e⟩ = some (B true) := by kernel_rfl
theorem run20 (a b c d e f g : V) : ftail ixf S tab 100000 A9 Tryz.f9.results.toList restC (env a b c d e f g 20) ⟨0, .e⟩ = some (B true) := by kernel_rfl
theorem run21 (a b c d e f g : V) : ftail ixf S tab 100000 A9 Tryz.f9.results.toList restC (env a b c d e f g 21) ⟨0, .e⟩ = some (B true) := by kernel_rfl
theorem run22 (a b c d e f g : V) : ftail ixf S tab 100000 A9 Tryz.f9.results.toList restC (env a b c d e f g 22) ⟨0, .e⟩ = some (B true) := by kernel_rfl
theorem run23 (a b c d e f g : V) : ftail ixf S tab 100000 A9 Tryz.f9.results.toList restC (env a b c d e f g 23) ⟨0, .e⟩ = some (B true) := by kernel_rfl
theorem run24 (a b c d e f g : V) : ftail ixf S tab 100000 A9 Tryz.f9.results.toList restC (env a b c d e f g 24) ⟨0, .e⟩ = some (B true) := by kernel_rfl
theorem run25 (a b c d e f g : V) : ftail ixf S tab 100000 A9 Tryz.f9.results.toList restC (env a b c d e f g 25) ⟨0, .e⟩ = some (B true) := by kernel_rfl
theorem run26 (a b c d e f g : V) : ftail ixf S tab 100000 A9 Tryz.f9.results.toList restC (env a b c d e f g 26) ⟨0, .e⟩ = some (B true) := by kernel_rfl
theorem run27 (a b c d e f g : V) : ftail ixf S tab 100000 A9 Tryz.f9.results.toList restC (env a b c d e f g 27) ⟨0, .e⟩ = some (B true) := by kernel_rfl
theorem run28 (a b c d e f g : V) : ftail ixf S tab 100000 A9 Tryz.f9.results.toList restC (env a b c d e f g 28) ⟨0, .e⟩ = some (B true) := by kernel_rfl
theorem run29 (a b c d e f g : V) : ftail ixf S tab 100000 A9 Tryz.f9.results.toList restC (env a b c d e f g 29) ⟨0, .e⟩ = some (B true) := by kernel_rfl
end TzNe
end X
