/- Closed runs of FnHere's calls. By a printer of this session's. -/
import Derived.Test.YthfjcnjdcljhmaaGreatDoorTzHe0
open Go Go.V Go.Proofs
namespace X
set_option maxRecDepth 100000
set_option maxHeartbeats 4000000
set_option linter.unusedSimpArgs false
set_option linter.unusedVariables false
namespace TzHe
theorem acc4_0_0 : frunX tab 100000 x18 [.t (.agg [gH 0]), .t (.str [97, 97, 97, 97])] = some (.bool false) := by kernel_rfl
theorem acc4_1_1 : frunX tab 100000 x18 [.t (.agg [gH 1]), .t (.str [97, 97, 97, 97, 98])] = some (.bool false) := by kernel_rfl
theorem acc4_2_2 : frunX tab 100000 x18 [.t (.agg [gH 2]), .t (.str [97, 97, 97, 97, 98, 98])] = some (.bool false) := by kernel_rfl
theorem acc4_3_0 : frunX tab 100000 x18 [.t (.agg [gH 3]), .t (.str [97, 97, 97, 97])] = some (.bool false) := by kernel_rfl
theorem acc4_4_0 : frunX tab 100000 x18 [.t (.agg [gH 4]), .t (.str [97, 97, 97, 97])] = some (.bool true) := by kernel_rfl
theorem acc4_4_1 : frunX tab 100000 x18 [.t (.agg [gH 4]), .t (.str [97, 97, 97, 97, 98])] = some (.bool true) := by kernel_rfl
theorem acc4_4_2 : frunX tab 100000 x18 [.t (.agg [gH 4]), .t (.str [97, 97, 97, 97, 98, 98])] = some (.bool true) := by kernel_rfl
theorem acc4_5_2 : frunX tab 100000 x18 [.t (.agg [gH 5]), .t (.str [97, 97, 97, 97, 98, 98])] = some (.bool false) := by kernel_rfl
theorem acc4_6_0 : frunX tab 100000 x18 [.t (.agg [gH 6]), .t (.str [97, 97, 97, 97])] = some (.bool false) := by kernel_rfl
theorem acc4_7_1 : frunX tab 100000 x18 [.t (.agg [gH 7]), .t (.str [97, 97, 97, 97, 98])] = some (.bool false) := by kernel_rfl
theorem acc4_8_2 : frunX tab 100000 x18 [.t (.agg [gH 8]), .t (.str [97, 97, 97, 97, 98, 98])] = some (.bool false) := by kernel_rfl
theorem acc5_0_0 : frunX tab 100000 x18 [.t (.agg [gH 0]), .t (.str [97, 97, 97, 97, 97])] = some (.bool false) := by kernel_rfl
theorem acc5_1_1 : frunX tab 100000 x18 [.t (.agg [gH 1]), .t (.str [97, 97, 97, 97, 97, 98])] = some (.bool false) := by kernel_rfl
theorem acc5_2_2 : frunX tab 100000 x18 [.t (.agg [gH 2]), .t (.str [97, 97, 97, 97, 97, 98, 98])] = some (.bool false) := by kernel_rfl
theorem acc5_3_0 : frunX tab 100000 x18 [.t (.agg [gH 3]), .t (.str [97, 97, 97, 97, 97])] = some (.bool false) := by kernel_rfl
theorem acc5_4_1 : frunX tab 100000 x18 [.t (.agg [gH 4]), .t (.str [97, 97, 97, 97, 97, 98])] = some (.bool false) := by kernel_rfl
theorem acc5_5_0 : frunX tab 100000 x18 [.t (.agg [gH 5]), .t (.str [97, 97, 97, 97, 97])] = some (.bool true) := by kernel_rfl
theorem acc5_5_1 : frunX tab 100000 x18 [.t (.agg [gH 5]), .t (.str [97, 97, 97, 97, 97, 98])] = some (.bool true) := by kernel_rfl
theorem acc5_5_2 : frunX tab 100000 x18 [.t (.agg [gH 5]), .t (.str [97, 97, 97, 97, 97, 98, 98])] = some (.bool true) := by kernel_rfl
theorem acc5_6_0 : frunX tab 100000 x18 [.t (.agg [gH 6]), .t (.str [97, 97, 97, 97, 97])] = some (.bool false) := by kernel_rfl
theorem acc5_7_1 : frunX tab 100000 x18 [.t (.agg [gH 7]), .t (.str [97, 97, 97, 97, 97, 98])] = some (.bool false) := by kernel_rfl
theorem acc5_8_2 : frunX tab 100000 x18 [.t (.agg [gH 8]), .t (.str [97, 97, 97, 97, 97, 98, 98])] = some (.bool false) := by kernel_rfl
end TzHe
end X
