/- Closed runs of FnHere's calls. By a printer of this session's. -/
import Derived.Test.YthfjcnjdcljhmaaGreatDoorTzHe0
open Go Go.V Go.Proofs
namespace X
set_option maxRecDepth 100000
set_option maxHeartbeats 4000000
set_option linter.unusedSimpArgs false
set_option linter.unusedVariables false
namespace TzHe
theorem dec0 : frunX tab 100000 x20 [.t (.int .i64 0)] = some (.str [48]) := by kernel_rfl
theorem plain0 : frunX tab 100000 x17 [.t (.str [83, 32, 45, 62, 32, 40, 32, 34, 97, 34, 32, 41, 42, 32, 123, 32, 64, 32, 61, 32, 48, 32, 125, 32, 40, 32, 34, 98, 34, 32, 41, 42, 32, 59])] = some (.agg [gH 0]) := by kernel_rfl
theorem gok0 : frunX tab 100000 x21 [.t (.agg [gH 0])] = some (.bool true) := by kernel_rfl
theorem rowa0 : frunX tab 100000 x19 [.t (.int .i64 0), .t (.str [97])] = some (.str []) := by kernel_rfl
theorem dec1 : frunX tab 100000 x20 [.t (.int .i64 1)] = some (.str [49]) := by kernel_rfl
theorem plain1 : frunX tab 100000 x17 [.t (.str [83, 32, 45, 62, 32, 40, 32, 34, 97, 34, 32, 41, 42, 32, 123, 32, 64, 32, 61, 32, 49, 32, 125, 32, 40, 32, 34, 98, 34, 32, 41, 42, 32, 59])] = some (.agg [gH 1]) := by kernel_rfl
theorem gok1 : frunX tab 100000 x21 [.t (.agg [gH 1])] = some (.bool true) := by kernel_rfl
theorem rowa1 : frunX tab 100000 x19 [.t (.int .i64 1), .t (.str [97])] = some (.str [97]) := by kernel_rfl
theorem dec2 : frunX tab 100000 x20 [.t (.int .i64 2)] = some (.str [50]) := by kernel_rfl
theorem plain2 : frunX tab 100000 x17 [.t (.str [83, 32, 45, 62, 32, 40, 32, 34, 97, 34, 32, 41, 42, 32, 123, 32, 64, 32, 61, 32, 50, 32, 125, 32, 40, 32, 34, 98, 34, 32, 41, 42, 32, 59])] = some (.agg [gH 2]) := by kernel_rfl
theorem gok2 : frunX tab 100000 x21 [.t (.agg [gH 2])] = some (.bool true) := by kernel_rfl
theorem rowa2 : frunX tab 100000 x19 [.t (.int .i64 2), .t (.str [97])] = some (.str [97, 97]) := by kernel_rfl
theorem dec3 : frunX tab 100000 x20 [.t (.int .i64 3)] = some (.str [51]) := by kernel_rfl
theorem plain3 : frunX tab 100000 x17 [.t (.str [83, 32, 45, 62, 32, 40, 32, 34, 97, 34, 32, 41, 42, 32, 123, 32, 64, 32, 61, 32, 51, 32, 125, 32, 40, 32, 34, 98, 34, 32, 41, 42, 32, 59])] = some (.agg [gH 3]) := by kernel_rfl
theorem gok3 : frunX tab 100000 x21 [.t (.agg [gH 3])] = some (.bool true) := by kernel_rfl
theorem rowa3 : frunX tab 100000 x19 [.t (.int .i64 3), .t (.str [97])] = some (.str [97, 97, 97]) := by kernel_rfl
theorem dec4 : frunX tab 100000 x20 [.t (.int .i64 4)] = some (.str [52]) := by kernel_rfl
theorem plain4 : frunX tab 100000 x17 [.t (.str [83, 32, 45, 62, 32, 40, 32, 34, 97, 34, 32, 41, 42, 32, 123, 32, 64, 32, 61, 32, 52, 32, 125, 32, 40, 32, 34, 98, 34, 32, 41, 42, 32, 59])] = some (.agg [gH 4]) := by kernel_rfl
theorem gok4 : frunX tab 100000 x21 [.t (.agg [gH 4])] = some (.bool true) := by kernel_rfl
theorem rowa4 : frunX tab 100000 x19 [.t (.int .i64 4), .t (.str [97])] = some (.str [97, 97, 97, 97]) := by kernel_rfl
theorem dec5 : frunX tab 100000 x20 [.t (.int .i64 5)] = some (.str [53]) := by kernel_rfl
theorem plain5 : frunX tab 100000 x17 [.t (.str [83, 32, 45, 62, 32, 40, 32, 34, 97, 34, 32, 41, 42, 32, 123, 32, 64, 32, 61, 32, 53, 32, 125, 32, 40, 32, 34, 98, 34, 32, 41, 42, 32, 59])] = some (.agg [gH 5]) := by kernel_rfl
theorem gok5 : frunX tab 100000 x21 [.t (.agg [gH 5])] = some (.bool true) := by kernel_rfl
theorem rowa5 : frunX tab 100000 x19 [.t (.int .i64 5), .t (.str [97])] = some (.str [97, 97, 97, 97, 97]) := by kernel_rfl
theorem dec6 : frunX tab 100000 x20 [.t (.int .i64 6)] = some (.str [54]) := by kernel_rfl
theorem plain6 : frunX tab 100000 x17 [.t (.str [83, 32, 45, 62, 32, 40, 32, 34, 97, 34, 32, 41, 42, 32, 123, 32, 64, 32, 61, 32, 54, 32, 125, 32, 40, 32, 34, 98, 34, 32, 41, 42, 32, 59])] = some (.agg [gH 6]) := by kernel_rfl
theorem gok6 : frunX tab 100000 x21 [.t (.agg [gH 6])] = some (.bool true) := by kernel_rfl
theorem rowa6 : frunX tab 100000 x19 [.t (.int .i64 6), .t (.str [97])] = some (.str [97, 97, 97, 97, 97, 97]) := by kernel_rfl
theorem dec7 : frunX tab 100000 x20 [.t (.int .i64 7)] = some (.str [55]) := by kernel_rfl
theorem plain7 : frunX tab 100000 x17 [.t (.str [83, 32, 45, 62, 32, 40, 32, 34, 97, 34, 32, 41, 42, 32, 123, 32, 64, 32, 61, 32, 55, 32, 125, 32, 40, 32, 34, 98, 34, 32, 41, 42, 32, 59])] = some (.agg [gH 7]) := by kernel_rfl
theorem gok7 : frunX tab 100000 x21 [.t (.agg [gH 7])] = some (.bool true) := by kernel_rfl
theorem rowa7 : frunX tab 100000 x19 [.t (.int .i64 7), .t (.str [97])] = some (.str [97, 97, 97, 97, 97, 97, 97]) := by kernel_rfl
theorem dec8 : frunX tab 100000 x20 [.t (.int .i64 8)] = some (.str [56]) := by kernel_rfl
theorem plain8 : frunX tab 100000 x17 [.t (.str [83, 32, 45, 62, 32, 40, 32, 34, 97, 34, 32, 41, 42, 32, 123, 32, 64, 32, 61, 32, 56, 32, 125, 32, 40, 32, 34, 98, 34, 32, 41, 42, 32, 59])] = some (.agg [gH 8]) := by kernel_rfl
theorem gok8 : frunX tab 100000 x21 [.t (.agg [gH 8])] = some (.bool true) := by kernel_rfl
theorem rowa8 : frunX tab 100000 x19 [.t (.int .i64 8), .t (.str [97])] = some (.str [97, 97, 97, 97, 97, 97, 97, 97]) := by kernel_rfl
theorem rowb0 : frunX tab 100000 x19 [.t (.int .i64 0), .t (.str [98])] = some (.str []) := by kernel_rfl
theorem rowb1 : frunX tab 100000 x19 [.t (.int .i64 1), .t (.str [98])] = some (.str [98]) := by kernel_rfl
theorem rowb2 : frunX tab 100000 x19 [.t (.int .i64 2), .t (.str [98])] = some (.str [98, 98]) := by kernel_rfl
theorem acc8_0_0 : frunX tab 100000 x18 [.t (.agg [gH 0]), .t (.str [97, 97, 97, 97, 97, 97, 97, 97])] = some (.bool false) := by kernel_rfl
theorem acc8_1_1 : frunX tab 100000 x18 [.t (.agg [gH 1]), .t (.str [97, 97, 97, 97, 97, 97, 97, 97, 98])] = some (.bool false) := by kernel_rfl
theorem acc8_2_2 : frunX tab 100000 x18 [.t (.agg [gH 2]), .t (.str [97, 97, 97, 97, 97, 97, 97, 97, 98, 98])] = some (.bool false) := by kernel_rfl
theorem acc8_3_0 : frunX tab 100000 x18 [.t (.agg [gH 3]), .t (.str [97, 97, 97, 97, 97, 97, 97, 97])] = some (.bool false) := by kernel_rfl
theorem acc8_4_1 : frunX tab 100000 x18 [.t (.agg [gH 4]), .t (.str [97, 97, 97, 97, 97, 97, 97, 97, 98])] = some (.bool false) := by kernel_rfl
theorem acc8_5_2 : frunX tab 100000 x18 [.t (.agg [gH 5]), .t (.str [97, 97, 97, 97, 97, 97, 97, 97, 98, 98])] = some (.bool false) := by kernel_rfl
theorem acc8_6_0 : frunX tab 100000 x18 [.t (.agg [gH 6]), .t (.str [97, 97, 97, 97, 97, 97, 97, 97])] = some (.bool false) := by kernel_rfl
theorem acc8_7_1 : frunX tab 100000 x18 [.t (.agg [gH 7]), .t (.str [97, 97, 97, 97, 97, 97, 97, 97, 98])] = some (.bool false) := by kernel_rfl
theorem acc8_8_0 : frunX tab 100000 x18 [.t (.agg [gH 8]), .t (.str [97, 97, 97, 97, 97, 97, 97, 97])] = some (.bool true) := by kernel_rfl
theorem acc8_8_1 : frunX tab 100000 x18 [.t (.agg [gH 8]), .t (.str [97, 97, 97, 97, 97, 97, 97, 97, 98])] = some (.bool true) := by kernel_rfl
theorem acc8_8_2 : frunX tab 100000 x18 [.t (.agg [gH 8]), .t (.str [97, 97, 97, 97, 97, 97, 97, 97, 98, 98])] = some (.bool true) := by kernel_rfl
end TzHe
end X
