/- Closed runs of FnTwoNumbers's calls. By a printer of this session's. -/
import Derived.Test.YthfjcnjdcljhmaaGreatDoorTbTn0
open Go Go.V Go.Proofs
namespace X
set_option maxRecDepth 100000
set_option maxHeartbeats 4000000
set_option linter.unusedSimpArgs false
set_option linter.unusedVariables false
namespace TzTn
theorem acc4_0' : frunX tab 100000 x18 [.t (.agg [gT]), .t (.str [97, 97, 97, 97, 58])] = some (.bool false) := by kernel_rfl
theorem acc4_0 (σ : Store) : LD S 18 [.t (.agg [gT]), .t (.str [97, 97, 97, 97, 58])] σ = some (.t (B false), σ) := run_ld e18 rfl (A := A18) rfl rfl (ts := [_, _]) acc4_0' σ
theorem acc4_1' : frunX tab 100000 x18 [.t (.agg [gT]), .t (.str [97, 97, 97, 97, 58, 97])] = some (.bool false) := by kernel_rfl
theorem acc4_1 (σ : Store) : LD S 18 [.t (.agg [gT]), .t (.str [97, 97, 97, 97, 58, 97])] σ = some (.t (B false), σ) := run_ld e18 rfl (A := A18) rfl rfl (ts := [_, _]) acc4_1' σ
theorem acc4_2' : frunX tab 100000 x18 [.t (.agg [gT]), .t (.str [97, 97, 97, 97, 58, 97, 97])] = some (.bool false) := by kernel_rfl
theorem acc4_2 (σ : Store) : LD S 18 [.t (.agg [gT]), .t (.str [97, 97, 97, 97, 58, 97, 97])] σ = some (.t (B false), σ) := run_ld e18 rfl (A := A18) rfl rfl (ts := [_, _]) acc4_2' σ
theorem acc4_3' : frunX tab 100000 x18 [.t (.agg [gT]), .t (.str [97, 97, 97, 97, 58, 97, 97, 97])] = some (.bool false) := by kernel_rfl
theorem acc4_3 (σ : Store) : LD S 18 [.t (.agg [gT]), .t (.str [97, 97, 97, 97, 58, 97, 97, 97])] σ = some (.t (B false), σ) := run_ld e18 rfl (A := A18) rfl rfl (ts := [_, _]) acc4_3' σ
theorem acc4_4' : frunX tab 100000 x18 [.t (.agg [gT]), .t (.str [97, 97, 97, 97, 58, 97, 97, 97, 97])] = some (.bool false) := by kernel_rfl
theorem acc4_4 (σ : Store) : LD S 18 [.t (.agg [gT]), .t (.str [97, 97, 97, 97, 58, 97, 97, 97, 97])] σ = some (.t (B false), σ) := run_ld e18 rfl (A := A18) rfl rfl (ts := [_, _]) acc4_4' σ
theorem acc4_5' : frunX tab 100000 x18 [.t (.agg [gT]), .t (.str [97, 97, 97, 97, 58, 97, 97, 97, 97, 97])] = some (.bool false) := by kernel_rfl
theorem acc4_5 (σ : Store) : LD S 18 [.t (.agg [gT]), .t (.str [97, 97, 97, 97, 58, 97, 97, 97, 97, 97])] σ = some (.t (B false), σ) := run_ld e18 rfl (A := A18) rfl rfl (ts := [_, _]) acc4_5' σ
end TzTn
end X
