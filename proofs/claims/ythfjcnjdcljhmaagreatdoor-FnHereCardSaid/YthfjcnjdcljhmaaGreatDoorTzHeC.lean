/- Closed runs of FnHere's calls. By a printer of this session's. -/
import Derived.Test.YthfjcnjdcljhmaaGreatDoorTzHe0
open Go Go.V Go.Proofs
namespace X
set_option maxRecDepth 100000
set_option maxHeartbeats 4000000
set_option linter.unusedSimpArgs false
set_option linter.unusedVariables false
namespace TzHe
theorem acc6_0_0 : frunX tab 100000 x18 [.t (.agg [gH 0]), .t (.str [97, 97, 97, 97, 97, 97])] = some (.bool false) := by kernel_rfl
theorem acc6_1_1 : frunX tab 100000 x18 [.t (.agg [gH 1]), .t (.str [97, 97, 97, 97, 97, 97, 98])] = some (.bool false) := by kernel_rfl
theorem acc6_2_2 : frunX tab 100000 x18 [.t (.agg [gH 2]), .t (.str [97, 97, 97, 97, 97, 97, 98, 98])] = some (.bool false) := by kernel_rfl
theorem acc6_3_0 : frunX tab 100000 x18 [.t (.agg [gH 3]), .t (.str [97, 97, 97, 97, 97, 97])] = some (.bool false) := by kernel_rfl
theorem acc6_4_1 : frunX tab 100000 x18 [.t (.agg [gH 4]), .t (.str [97, 97, 97, 97, 97, 97, 98])] = some (.bool false) := by kernel_rfl
theorem acc6_5_2 : frunX tab 100000 x18 [.t (.agg [gH 5]), .t (.str [97, 97, 97, 97, 97, 97, 98, 98])] = some (.bool false) := by kernel_rfl
theorem acc6_6_0 : frunX tab 100000 x18 [.t (.agg [gH 6]), .t (.str [97, 97, 97, 97, 97, 97])] = some (.bool true) := by kernel_rfl
theorem acc6_6_1 : frunX tab 100000 x18 [.t (.agg [gH 6]), .t (.str [97, 97, 97, 97, 97, 97, 98])] = some (.bool true) := by kernel_rfl
theorem acc6_6_2 : frunX tab 100000 x18 [.t (.agg [gH 6]), .t (.str [97, 97, 97, 97, 97, 97, 98, 98])] = some (.bool true) := by kernel_rfl
theorem acc6_7_1 : frunX tab 100000 x18 [.t (.agg [gH 7]), .t (.str [97, 97, 97, 97, 97, 97, 98])] = some (.bool false) := by kernel_rfl
theorem acc6_8_2 : frunX tab 100000 x18 [.t (.agg [gH 8]), .t (.str [97, 97, 97, 97, 97, 97, 98, 98])] = some (.bool false) := by kernel_rfl
theorem acc7_0_0 : frunX tab 100000 x18 [.t (.agg [gH 0]), .t (.str [97, 97, 97, 97, 97, 97, 97])] = some (.bool false) := by kernel_rfl
theorem acc7_1_1 : frunX tab 100000 x18 [.t (.agg [gH 1]), .t (.str [97, 97, 97, 97, 97, 97, 97, 98])] = some (.bool false) := by kernel_rfl
theorem acc7_2_2 : frunX tab 100000 x18 [.t (.agg [gH 2]), .t (.str [97, 97, 97, 97, 97, 97, 97, 98, 98])] = some (.bool false) := by kernel_rfl
theorem acc7_3_0 : frunX tab 100000 x18 [.t (.agg [gH 3]), .t (.str [97, 97, 97, 97, 97, 97, 97])] = some (.bool false) := by kernel_rfl
theorem acc7_4_1 : frunX tab 100000 x18 [.t (.agg [gH 4]), .t (.str [97, 97, 97, 97, 97, 97, 97, 98])] = some (.bool false) := by kernel_rfl
theorem acc7_5_2 : frunX tab 100000 x18 [.t (.agg [gH 5]), .t (.str [97, 97, 97, 97, 97, 97, 97, 98, 98])] = some (.bool false) := by kernel_rfl
theorem acc7_6_0 : frunX tab 100000 x18 [.t (.agg [gH 6]), .t (.str [97, 97, 97, 97, 97, 97, 97])] = some (.bool false) := by kernel_rfl
theorem acc7_7_0 : frunX tab 100000 x18 [.t (.agg [gH 7]), .t (.str [97, 97, 97, 97, 97, 97, 97])] = some (.bool true) := by kernel_rfl
theorem acc7_7_1 : frunX tab 100000 x18 [.t (.agg [gH 7]), .t (.str [97, 97, 97, 97, 97, 97, 97, 98])] = some (.bool true) := by kernel_rfl
theorem acc7_7_2 : frunX tab 100000 x18 [.t (.agg [gH 7]), .t (.str [97, 97, 97, 97, 97, 97, 97, 98, 98])] = some (.bool true) := by kernel_rfl
theorem acc7_8_2 : frunX tab 100000 x18 [.t (.agg [gH 8]), .t (.str [97, 97, 97, 97, 97, 97, 97, 98, 98])] = some (.bool false) := by kernel_rfl
end TzHe
end X
