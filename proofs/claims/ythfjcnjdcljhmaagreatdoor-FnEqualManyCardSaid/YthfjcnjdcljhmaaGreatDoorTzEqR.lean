/- Closed runs of FnEqualMany's calls. By a printer of this session's. -/
import Derived.Test.YthfjcnjdcljhmaaGreatDoorTzs
import Derived.Test.YthfjcnjdcljhmaaGreatDoorVd
import Derived.KernelRfl
open Go Go.V Go.Proofs
namespace X
def gEq : T := .list [.agg [.str [83], .list [], .list [.agg [.list [.agg [.int .i64 (.ofNat 1), .str [97], .list [], .str []], .agg [.int .i64 (.ofNat 3), .str [83], .list [], .str []], .agg [.int .i64 (.ofNat 1), .str [98], .list [], .str []]]], .agg [.list []]]]]
theorem eqPlain : frunX tab 100000 x17 [.t (.str [83, 32, 45, 62, 32, 34, 97, 34, 32, 83, 32, 34, 98, 34, 32, 124, 32, 59])] = some (.agg [gEq]) := by kernel_rfl
theorem eqRowa0 : frunX tab 100000 x19 [.t (.int .i64 0), .t (.str [97])] = some (.str []) := by kernel_rfl
theorem eqRowb0 : frunX tab 100000 x19 [.t (.int .i64 0), .t (.str [98])] = some (.str []) := by kernel_rfl
theorem eqRowa1 : frunX tab 100000 x19 [.t (.int .i64 1), .t (.str [97])] = some (.str [97]) := by kernel_rfl
theorem eqRowb1 : frunX tab 100000 x19 [.t (.int .i64 1), .t (.str [98])] = some (.str [98]) := by kernel_rfl
theorem eqRowa2 : frunX tab 100000 x19 [.t (.int .i64 2), .t (.str [97])] = some (.str [97, 97]) := by kernel_rfl
theorem eqRowb2 : frunX tab 100000 x19 [.t (.int .i64 2), .t (.str [98])] = some (.str [98, 98]) := by kernel_rfl
theorem eqRowa3 : frunX tab 100000 x19 [.t (.int .i64 3), .t (.str [97])] = some (.str [97, 97, 97]) := by kernel_rfl
theorem eqRowb3 : frunX tab 100000 x19 [.t (.int .i64 3), .t (.str [98])] = some (.str [98, 98, 98]) := by kernel_rfl
theorem eqRowa4 : frunX tab 100000 x19 [.t (.int .i64 4), .t (.str [97])] = some (.str [97, 97, 97, 97]) := by kernel_rfl
theorem eqRowb4 : frunX tab 100000 x19 [.t (.int .i64 4), .t (.str [98])] = some (.str [98, 98, 98, 98]) := by kernel_rfl
theorem eqRowa5 : frunX tab 100000 x19 [.t (.int .i64 5), .t (.str [97])] = some (.str [97, 97, 97, 97, 97]) := by kernel_rfl
theorem eqRowb5 : frunX tab 100000 x19 [.t (.int .i64 5), .t (.str [98])] = some (.str [98, 98, 98, 98, 98]) := by kernel_rfl
theorem eqRowa6 : frunX tab 100000 x19 [.t (.int .i64 6), .t (.str [97])] = some (.str [97, 97, 97, 97, 97, 97]) := by kernel_rfl
theorem eqRowb6 : frunX tab 100000 x19 [.t (.int .i64 6), .t (.str [98])] = some (.str [98, 98, 98, 98, 98, 98]) := by kernel_rfl
theorem eqAcc_e : frunX tab 100000 x18 [.t (.agg [gEq]), .t (.str [])] = some (.bool true) := by kernel_rfl
theorem eqAcc_ba : frunX tab 100000 x18 [.t (.agg [gEq]), .t (.str [98, 97])] = some (.bool false) := by kernel_rfl
theorem eqAcc0_0 : frunX tab 100000 x18 [.t (.agg [gEq]), .t (.str [])] = some (.bool true) := by kernel_rfl
theorem eqAcc0_1 : frunX tab 100000 x18 [.t (.agg [gEq]), .t (.str [98])] = some (.bool false) := by kernel_rfl
theorem eqAcc0_2 : frunX tab 100000 x18 [.t (.agg [gEq]), .t (.str [98, 98])] = some (.bool false) := by kernel_rfl
theorem eqAcc0_3 : frunX tab 100000 x18 [.t (.agg [gEq]), .t (.str [98, 98, 98])] = some (.bool false) := by kernel_rfl
theorem eqAcc0_4 : frunX tab 100000 x18 [.t (.agg [gEq]), .t (.str [98, 98, 98, 98])] = some (.bool false) := by kernel_rfl
theorem eqAcc0_5 : frunX tab 100000 x18 [.t (.agg [gEq]), .t (.str [98, 98, 98, 98, 98])] = some (.bool false) := by kernel_rfl
theorem eqAcc0_6 : frunX tab 100000 x18 [.t (.agg [gEq]), .t (.str [98, 98, 98, 98, 98, 98])] = some (.bool false) := by kernel_rfl
theorem eqAcc1_0 : frunX tab 100000 x18 [.t (.agg [gEq]), .t (.str [97])] = some (.bool false) := by kernel_rfl
theorem eqAcc1_1 : frunX tab 100000 x18 [.t (.agg [gEq]), .t (.str [97, 98])] = some (.bool true) := by kernel_rfl
theorem eqAcc1_2 : frunX tab 100000 x18 [.t (.agg [gEq]), .t (.str [97, 98, 98])] = some (.bool false) := by kernel_rfl
theorem eqAcc1_3 : frunX tab 100000 x18 [.t (.agg [gEq]), .t (.str [97, 98, 98, 98])] = some (.bool false) := by kernel_rfl
theorem eqAcc1_4 : frunX tab 100000 x18 [.t (.agg [gEq]), .t (.str [97, 98, 98, 98, 98])] = some (.bool false) := by kernel_rfl
theorem eqAcc1_5 : frunX tab 100000 x18 [.t (.agg [gEq]), .t (.str [97, 98, 98, 98, 98, 98])] = some (.bool false) := by kernel_rfl
theorem eqAcc1_6 : frunX tab 100000 x18 [.t (.agg [gEq]), .t (.str [97, 98, 98, 98, 98, 98, 98])] = some (.bool false) := by kernel_rfl
theorem eqAcc2_0 : frunX tab 100000 x18 [.t (.agg [gEq]), .t (.str [97, 97])] = some (.bool false) := by kernel_rfl
theorem eqAcc2_1 : frunX tab 100000 x18 [.t (.agg [gEq]), .t (.str [97, 97, 98])] = some (.bool false) := by kernel_rfl
theorem eqAcc2_2 : frunX tab 100000 x18 [.t (.agg [gEq]), .t (.str [97, 97, 98, 98])] = some (.bool true) := by kernel_rfl
theorem eqAcc2_3 : frunX tab 100000 x18 [.t (.agg [gEq]), .t (.str [97, 97, 98, 98, 98])] = some (.bool false) := by kernel_rfl
theorem eqAcc2_4 : frunX tab 100000 x18 [.t (.agg [gEq]), .t (.str [97, 97, 98, 98, 98, 98])] = some (.bool false) := by kernel_rfl
theorem eqAcc2_5 : frunX tab 100000 x18 [.t (.agg [gEq]), .t (.str [97, 97, 98, 98, 98, 98, 98])] = some (.bool false) := by kernel_rfl
theorem eqAcc2_6 : frunX tab 100000 x18 [.t (.agg [gEq]), .t (.str [97, 97, 98, 98, 98, 98, 98, 98])] = some (.bool false) := by kernel_rfl
theorem eqAcc3_0 : frunX tab 100000 x18 [.t (.agg [gEq]), .t (.str [97, 97, 97])] = some (.bool false) := by kernel_rfl
theorem eqAcc3_1 : frunX tab 100000 x18 [.t (.agg [gEq]), .t (.str [97, 97, 97, 98])] = some (.bool false) := by kernel_rfl
theorem eqAcc3_2 : frunX tab 100000 x18 [.t (.agg [gEq]), .t (.str [97, 97, 97, 98, 98])] = some (.bool false) := by kernel_rfl
theorem eqAcc3_3 : frunX tab 100000 x18 [.t (.agg [gEq]), .t (.str [97, 97, 97, 98, 98, 98])] = some (.bool true) := by kernel_rfl
theorem eqAcc3_4 : frunX tab 100000 x18 [.t (.agg [gEq]), .t (.str [97, 97, 97, 98, 98, 98, 98])] = some (.bool false) := by kernel_rfl
theorem eqAcc3_5 : frunX tab 100000 x18 [.t (.agg [gEq]), .t (.str [97, 97, 97, 98, 98, 98, 98, 98])] = some (.bool false) := by kernel_rfl
theorem eqAcc3_6 : frunX tab 100000 x18 [.t (.agg [gEq]), .t (.str [97, 97, 97, 98, 98, 98, 98, 98, 98])] = some (.bool false) := by kernel_rfl
theorem eqAcc4_0 : frunX tab 100000 x18 [.t (.agg [gEq]), .t (.str [97, 97, 97, 97])] = some (.bool false) := by kernel_rfl
theorem eqAcc4_1 : frunX tab 100000 x18 [.t (.agg [gEq]), .t (.str [97, 97, 97, 97, 98])] = some (.bool false) := by kernel_rfl
theorem eqAcc4_2 : frunX tab 100000 x18 [.t (.agg [gEq]), .t (.str [97, 97, 97, 97, 98, 98])] = some (.bool false) := by kernel_rfl
theorem eqAcc4_3 : frunX tab 100000 x18 [.t (.agg [gEq]), .t (.str [97, 97, 97, 97, 98, 98, 98])] = some (.bool false) := by kernel_rfl
theorem eqAcc4_4 : frunX tab 100000 x18 [.t (.agg [gEq]), .t (.str [97, 97, 97, 97, 98, 98, 98, 98])] = some (.bool true) := by kernel_rfl
theorem eqAcc4_5 : frunX tab 100000 x18 [.t (.agg [gEq]), .t (.str [97, 97, 97, 97, 98, 98, 98, 98, 98])] = some (.bool false) := by kernel_rfl
theorem eqAcc4_6 : frunX tab 100000 x18 [.t (.agg [gEq]), .t (.str [97, 97, 97, 97, 98, 98, 98, 98, 98, 98])] = some (.bool false) := by kernel_rfl
theorem eqAcc5_0 : frunX tab 100000 x18 [.t (.agg [gEq]), .t (.str [97, 97, 97, 97, 97])] = some (.bool false) := by kernel_rfl
theorem eqAcc5_1 : frunX tab 100000 x18 [.t (.agg [gEq]), .t (.str [97, 97, 97, 97, 97, 98])] = some (.bool false) := by kernel_rfl
theorem eqAcc5_2 : frunX tab 100000 x18 [.t (.agg [gEq]), .t (.str [97, 97, 97, 97, 97, 98, 98])] = some (.bool false) := by kernel_rfl
theorem eqAcc5_3 : frunX tab 100000 x18 [.t (.agg [gEq]), .t (.str [97, 97, 97, 97, 97, 98, 98, 98])] = some (.bool false) := by kernel_rfl
theorem eqAcc5_4 : frunX tab 100000 x18 [.t (.agg [gEq]), .t (.str [97, 97, 97, 97, 97, 98, 98, 98, 98])] = some (.bool false) := by kernel_rfl
theorem eqAcc5_5 : frunX tab 100000 x18 [.t (.agg [gEq]), .t (.str [97, 97, 97, 97, 97, 98, 98, 98, 98, 98])] = some (.bool true) := by kernel_rfl
theorem eqAcc5_6 : frunX tab 100000 x18 [.t (.agg [gEq]), .t (.str [97, 97, 97, 97, 97, 98, 98, 98, 98, 98, 98])] = some (.bool false) := by kernel_rfl
theorem eqAcc6_0 : frunX tab 100000 x18 [.t (.agg [gEq]), .t (.str [97, 97, 97, 97, 97, 97])] = some (.bool false) := by kernel_rfl
theorem eqAcc6_1 : frunX tab 100000 x18 [.t (.agg [gEq]), .t (.str [97, 97, 97, 97, 97, 97, 98])] = some (.bool false) := by kernel_rfl
theorem eqAcc6_2 : frunX tab 100000 x18 [.t (.agg [gEq]), .t (.str [97, 97, 97, 97, 97, 97, 98, 98])] = some (.bool false) := by kernel_rfl
theorem eqAcc6_3 : frunX tab 100000 x18 [.t (.agg [gEq]), .t (.str [97, 97, 97, 97, 97, 97, 98, 98, 98])] = some (.bool false) := by kernel_rfl
theorem eqAcc6_4 : frunX tab 100000 x18 [.t (.agg [gEq]), .t (.str [97, 97, 97, 97, 97, 97, 98, 98, 98, 98])] = some (.bool false) := by kernel_rfl
theorem eqAcc6_5 : frunX tab 100000 x18 [.t (.agg [gEq]), .t (.str [97, 97, 97, 97, 97, 97, 98, 98, 98, 98, 98])] = some (.bool false) := by kernel_rfl
theorem eqAcc6_6 : frunX tab 100000 x18 [.t (.agg [gEq]), .t (.str [97, 97, 97, 97, 97, 97, 98, 98, 98, 98, 98, 98])] = some (.bool true) := by kernel_rfl
end X
