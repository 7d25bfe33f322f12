/- Closed runs of FnHere's calls. By a printer of this session's. -/
import Derived.Test.YthfjcnjdcljhmaaGreatDoorTzHe0
open Go Go.V Go.Proofs
namespace X
set_option maxRecDepth 100000
set_option maxHeartbeats 4000000
set_option linter.unusedSimpArgs false
set_option linter.unusedVariables false
namespace TzHe
theorem acc0_0_0 : frunX tab 100000 x18 [.t (.agg [gH 0]), .t (.str [])] = some (.bool true) := by kernel_rfl
theorem acc0_0_1 : frunX tab 100000 x18 [.t (.agg [gH 0]), .t (.str [98])] = some (.bool true) := by kernel_rfl
theorem acc0_0_2 : frunX tab 100000 x18 [.t (.agg [gH 0]), .t (.str [98, 98])] = some (.bool true) := by kernel_rfl
theorem acc0_1_1 : frunX tab 100000 x18 [.t (.agg [gH 1]), .t (.str [98])] = some (.bool false) := by kernel_rfl
theorem acc0_2_2 : frunX tab 100000 x18 [.t (.agg [gH 2]), .t (.str [98, 98])] = some (.bool false) := by kernel_rfl
theorem acc0_3_0 : frunX tab 100000 x18 [.t (.agg [gH 3]), .t (.str [])] = some (.bool false) := by kernel_rfl
theorem acc0_4_1 : frunX tab 100000 x18 [.t (.agg [gH 4]), .t (.str [98])] = some (.bool false) := by kernel_rfl
theorem acc0_5_2 : frunX tab 100000 x18 [.t (.agg [gH 5]), .t (.str [98, 98])] = some (.bool false) := by kernel_rfl
theorem acc0_6_0 : frunX tab 100000 x18 [.t (.agg [gH 6]), .t (.str [])] = some (.bool false) := by kernel_rfl
theorem acc0_7_1 : frunX tab 100000 x18 [.t (.agg [gH 7]), .t (.str [98])] = some (.bool false) := by kernel_rfl
theorem acc0_8_2 : frunX tab 100000 x18 [.t (.agg [gH 8]), .t (.str [98, 98])] = some (.bool false) := by kernel_rfl
theorem acc1_0_0 : frunX tab 100000 x18 [.t (.agg [gH 0]), .t (.str [97])] = some (.bool false) := by kernel_rfl
theorem acc1_1_0 : frunX tab 100000 x18 [.t (.agg [gH 1]), .t (.str [97])] = some (.bool true) := by kernel_rfl
theorem acc1_1_1 : frunX tab 100000 x18 [.t (.agg [gH 1]), .t (.str [97, 98])] = some (.bool true) := by kernel_rfl
theorem acc1_1_2 : frunX tab 100000 x18 [.t (.agg [gH 1]), .t (.str [97, 98, 98])] = some (.bool true) := by kernel_rfl
theorem acc1_2_2 : frunX tab 100000 x18 [.t (.agg [gH 2]), .t (.str [97, 98, 98])] = some (.bool false) := by kernel_rfl
theorem acc1_3_0 : frunX tab 100000 x18 [.t (.agg [gH 3]), .t (.str [97])] = some (.bool false) := by kernel_rfl
theorem acc1_4_1 : frunX tab 100000 x18 [.t (.agg [gH 4]), .t (.str [97, 98])] = some (.bool false) := by kernel_rfl
theorem acc1_5_2 : frunX tab 100000 x18 [.t (.agg [gH 5]), .t (.str [97, 98, 98])] = some (.bool false) := by kernel_rfl
theorem acc1_6_0 : frunX tab 100000 x18 [.t (.agg [gH 6]), .t (.str [97])] = some (.bool false) := by kernel_rfl
theorem acc1_7_1 : frunX tab 100000 x18 [.t (.agg [gH 7]), .t (.str [97, 98])] = some (.bool false) := by kernel_rfl
theorem acc1_8_2 : frunX tab 100000 x18 [.t (.agg [gH 8]), .t (.str [97, 98, 98])] = some (.bool false) := by kernel_rfl
theorem acc2_0_0 : frunX tab 100000 x18 [.t (.agg [gH 0]), .t (.str [97, 97])] = some (.bool false) := by kernel_rfl
theorem acc2_1_1 : frunX tab 100000 x18 [.t (.agg [gH 1]), .t (.str [97, 97, 98])] = some (.bool false) := by kernel_rfl
theorem acc2_2_0 : frunX tab 100000 x18 [.t (.agg [gH 2]), .t (.str [97, 97])] = some (.bool true) := by kernel_rfl
theorem acc2_2_1 : frunX tab 100000 x18 [.t (.agg [gH 2]), .t (.str [97, 97, 98])] = some (.bool true) := by kernel_rfl
theorem acc2_2_2 : frunX tab 100000 x18 [.t (.agg [gH 2]), .t (.str [97, 97, 98, 98])] = some (.bool true) := by kernel_rfl
theorem acc2_3_0 : frunX tab 100000 x18 [.t (.agg [gH 3]), .t (.str [97, 97])] = some (.bool false) := by kernel_rfl
theorem acc2_4_1 : frunX tab 100000 x18 [.t (.agg [gH 4]), .t (.str [97, 97, 98])] = some (.bool false) := by kernel_rfl
theorem acc2_5_2 : frunX tab 100000 x18 [.t (.agg [gH 5]), .t (.str [97, 97, 98, 98])] = some (.bool false) := by kernel_rfl
theorem acc2_6_0 : frunX tab 100000 x18 [.t (.agg [gH 6]), .t (.str [97, 97])] = some (.bool false) := by kernel_rfl
theorem acc2_7_1 : frunX tab 100000 x18 [.t (.agg [gH 7]), .t (.str [97, 97, 98])] = some (.bool false) := by kernel_rfl
theorem acc2_8_2 : frunX tab 100000 x18 [.t (.agg [gH 8]), .t (.str [97, 97, 98, 98])] = some (.bool false) := by kernel_rfl
theorem acc3_0_0 : frunX tab 100000 x18 [.t (.agg [gH 0]), .t (.str [97, 97, 97])] = some (.bool false) := by kernel_rfl
theorem acc3_1_1 : frunX tab 100000 x18 [.t (.agg [gH 1]), .t (.str [97, 97, 97, 98])] = some (.bool false) := by kernel_rfl
theorem acc3_2_2 : frunX tab 100000 x18 [.t (.agg [gH 2]), .t (.str [97, 97, 97, 98, 98])] = some (.bool false) := by kernel_rfl
theorem acc3_3_0 : frunX tab 100000 x18 [.t (.agg [gH 3]), .t (.str [97, 97, 97])] = some (.bool true) := by kernel_rfl
theorem acc3_3_1 : frunX tab 100000 x18 [.t (.agg [gH 3]), .t (.str [97, 97, 97, 98])] = some (.bool true) := by kernel_rfl
theorem acc3_3_2 : frunX tab 100000 x18 [.t (.agg [gH 3]), .t (.str [97, 97, 97, 98, 98])] = some (.bool true) := by kernel_rfl
theorem acc3_4_1 : frunX tab 100000 x18 [.t (.agg [gH 4]), .t (.str [97, 97, 97, 98])] = some (.bool false) := by kernel_rfl
theorem acc3_5_2 : frunX tab 100000 x18 [.t (.agg [gH 5]), .t (.str [97, 97, 97, 98, 98])] = some (.bool false) := by kernel_rfl
theorem acc3_6_0 : frunX tab 100000 x18 [.t (.agg [gH 6]), .t (.str [97, 97, 97])] = some (.bool false) := by kernel_rfl
theorem acc3_7_1 : frunX tab 100000 x18 [.t (.agg [gH 7]), .t (.str [97, 97, 97, 98])] = some (.bool false) := by kernel_rfl
theorem acc3_8_2 : frunX tab 100000 x18 [.t (.agg [gH 8]), .t (.str [97, 97, 97, 98, 98])] = some (.bool false) := by kernel_rfl
end TzHe
end X
