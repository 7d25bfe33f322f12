/- Closed runs of FnTwoNumbers's calls. By a printer of this session's. -/
import Derived.Test.YthfjcnjdcljhmaaGreatDoorTbTn0
open Go Go.V Go.Proofs
namespace X
set_option maxRecDepth 100000
set_option maxHeartbeats 4000000
set_option linter.unusedSimpArgs false
set_option linter.unusedVariables false
namespace TzTn
theorem acc0_0' : frunX tab 100000 x18 [.t (.agg [gT]), .t (.str [58])] = some (.bool false) := by kernel_rfl
theorem acc0_0 (σ : Store) : LD S 18 [.t (.agg [gT]), .t (.str [58])] σ = some (.t (B false), σ) := run_ld e18 rfl (A := A18) rfl rfl (ts := [_, _]) acc0_0' σ
theorem acc0_1' : frunX tab 100000 x18 [.t (.agg [gT]), .t (.str [58, 97])] = some (.bool true) := by kernel_rfl
theorem acc0_1 (σ : Store) : LD S 18 [.t (.agg [gT]), .t (.str [58, 97])] σ = some (.t (B true), σ) := run_ld e18 rfl (A := A18) rfl rfl (ts := [_, _]) acc0_1' σ
theorem acc0_2' : frunX tab 100000 x18 [.t (.agg [gT]), .t (.str [58, 97, 97])] = some (.bool true) := by kernel_rfl
theorem acc0_2 (σ : Store) : LD S 18 [.t (.agg [gT]), .t (.str [58, 97, 97])] σ = some (.t (B true), σ) := run_ld e18 rfl (A := A18) rfl rfl (ts := [_, _]) acc0_2' σ
theorem acc0_3' : frunX tab 100000 x18 [.t (.agg [gT]), .t (.str [58, 97, 97, 97])] = some (.bool true) := by kernel_rfl
theorem acc0_3 (σ : Store) : LD S 18 [.t (.agg [gT]), .t (.str [58, 97, 97, 97])] σ = some (.t (B true), σ) := run_ld e18 rfl (A := A18) rfl rfl (ts := [_, _]) acc0_3' σ
theorem acc0_4' : frunX tab 100000 x18 [.t (.agg [gT]), .t (.str [58, 97, 97, 97, 97])] = some (.bool true) := by kernel_rfl
theorem acc0_4 (σ : Store) : LD S 18 [.t (.agg [gT]), .t (.str [58, 97, 97, 97, 97])] σ = some (.t (B true), σ) := run_ld e18 rfl (A := A18) rfl rfl (ts := [_, _]) acc0_4' σ
theorem acc0_5' : frunX tab 100000 x18 [.t (.agg [gT]), .t (.str [58, 97, 97, 97, 97, 97])] = some (.bool false) := by kernel_rfl
theorem acc0_5 (σ : Store) : LD S 18 [.t (.agg [gT]), .t (.str [58, 97, 97, 97, 97, 97])] σ = some (.t (B false), σ) := run_ld e18 rfl (A := A18) rfl rfl (ts := [_, _]) acc0_5' σ
theorem acc1_0' : frunX tab 100000 x18 [.t (.agg [gT]), .t (.str [97, 58])] = some (.bool false) := by kernel_rfl
theorem acc1_0 (σ : Store) : LD S 18 [.t (.agg [gT]), .t (.str [97, 58])] σ = some (.t (B false), σ) := run_ld e18 rfl (A := A18) rfl rfl (ts := [_, _]) acc1_0' σ
theorem acc1_1' : frunX tab 100000 x18 [.t (.agg [gT]), .t (.str [97, 58, 97])] = some (.bool false) := by kernel_rfl
theorem acc1_1 (σ : Store) : LD S 18 [.t (.agg [gT]), .t (.str [97, 58, 97])] σ = some (.t (B false), σ) := run_ld e18 rfl (A := A18) rfl rfl (ts := [_, _]) acc1_1' σ
theorem acc1_2' : frunX tab 100000 x18 [.t (.agg [gT]), .t (.str [97, 58, 97, 97])] = some (.bool true) := by kernel_rfl
theorem acc1_2 (σ : Store) : LD S 18 [.t (.agg [gT]), .t (.str [97, 58, 97, 97])] σ = some (.t (B true), σ) := run_ld e18 rfl (A := A18) rfl rfl (ts := [_, _]) acc1_2' σ
theorem acc1_3' : frunX tab 100000 x18 [.t (.agg [gT]), .t (.str [97, 58, 97, 97, 97])] = some (.bool true) := by kernel_rfl
theorem acc1_3 (σ : Store) : LD S 18 [.t (.agg [gT]), .t (.str [97, 58, 97, 97, 97])] σ = some (.t (B true), σ) := run_ld e18 rfl (A := A18) rfl rfl (ts := [_, _]) acc1_3' σ
theorem acc1_4' : frunX tab 100000 x18 [.t (.agg [gT]), .t (.str [97, 58, 97, 97, 97, 97])] = some (.bool true) := by kernel_rfl
theorem acc1_4 (σ : Store) : LD S 18 [.t (.agg [gT]), .t (.str [97, 58, 97, 97, 97, 97])] σ = some (.t (B true), σ) := run_ld e18 rfl (A := A18) rfl rfl (ts := [_, _]) acc1_4' σ
theorem acc1_5' : frunX tab 100000 x18 [.t (.agg [gT]), .t (.str [97, 58, 97, 97, 97, 97, 97])] = some (.bool false) := by kernel_rfl
theorem acc1_5 (σ : Store) : LD S 18 [.t (.agg [gT]), .t (.str [97, 58, 97, 97, 97, 97, 97])] σ = some (.t (B false), σ) := run_ld e18 rfl (A := A18) rfl rfl (ts := [_, _]) acc1_5' σ
theorem acc2_0' : frunX tab 100000 x18 [.t (.agg [gT]), .t (.str [97, 97, 58])] = some (.bool false) := by kernel_rfl
theorem acc2_0 (σ : Store) : LD S 18 [.t (.agg [gT]), .t (.str [97, 97, 58])] σ = some (.t (B false), σ) := run_ld e18 rfl (A := A18) rfl rfl (ts := [_, _]) acc2_0' σ
theorem acc2_1' : frunX tab 100000 x18 [.t (.agg [gT]), .t (.str [97, 97, 58, 97])] = some (.bool false) := by kernel_rfl
theorem acc2_1 (σ : Store) : LD S 18 [.t (.agg [gT]), .t (.str [97, 97, 58, 97])] σ = some (.t (B false), σ) := run_ld e18 rfl (A := A18) rfl rfl (ts := [_, _]) acc2_1' σ
theorem acc2_2' : frunX tab 100000 x18 [.t (.agg [gT]), .t (.str [97, 97, 58, 97, 97])] = some (.bool false) := by kernel_rfl
theorem acc2_2 (σ : Store) : LD S 18 [.t (.agg [gT]), .t (.str [97, 97, 58, 97, 97])] σ = some (.t (B false), σ) := run_ld e18 rfl (A := A18) rfl rfl (ts := [_, _]) acc2_2' σ
theorem acc2_3' : frunX tab 100000 x18 [.t (.agg [gT]), .t (.str [97, 97, 58, 97, 97, 97])] = some (.bool true) := by kernel_rfl
theorem acc2_3 (σ : Store) : LD S 18 [.t (.agg [gT]), .t (.str [97, 97, 58, 97, 97, 97])] σ = some (.t (B true), σ) := run_ld e18 rfl (A := A18) rfl rfl (ts := [_, _]) acc2_3' σ
theorem acc2_4' : frunX tab 100000 x18 [.t (.agg [gT]), .t (.str [97, 97, 58, 97, 97, 97, 97])] = some (.bool true) := by kernel_rfl
theorem acc2_4 (σ : Store) : LD S 18 [.t (.agg [gT]), .t (.str [97, 97, 58, 97, 97, 97, 97])] σ = some (.t (B true), σ) := run_ld e18 rfl (A := A18) rfl rfl (ts := [_, _]) acc2_4' σ
theorem acc2_5' : frunX tab 100000 x18 [.t (.agg [gT]), .t (.str [97, 97, 58, 97, 97, 97, 97, 97])] = some (.bool false) := by kernel_rfl
theorem acc2_5 (σ : Store) : LD S 18 [.t (.agg [gT]), .t (.str [97, 97, 58, 97, 97, 97, 97, 97])] σ = some (.t (B false), σ) := run_ld e18 rfl (A := A18) rfl rfl (ts := [_, _]) acc2_5' σ
end TzTn
end X
