/- Closed runs of FnLongest's calls. By a printer of this session's. -/
import Derived.Test.YthfjcnjdcljhmaaGreatDoorTzs
import Derived.Test.YthfjcnjdcljhmaaGreatDoorVd
import Derived.KernelRfl
open Go Go.V Go.Proofs
namespace X
def gLo : T := .list [.agg [.str [83], .list [], .list [.agg [.list [.agg [.int .i64 (.ofNat 1), .str [97], .list [], .str []], .agg [.int .i64 (.ofNat 3), .str [83], .list [], .str []]]], .agg [.list [.agg [.int .i64 (.ofNat 1), .str [97], .list [], .str []]]]]]]
theorem loPlain : frunX tab 100000 x17 [.t (.str [83, 32, 45, 62, 32, 34, 97, 34, 32, 83, 32, 124, 32, 34, 97, 34, 32, 59])] = some (.agg [gLo]) := by kernel_rfl
theorem loRow1 : frunX tab 100000 x19 [.t (.int .i64 1), .t (.str [97])] = some (.str [97]) := by kernel_rfl
theorem loSpans1 : frunX tab 100000 x25 [.t (.agg [gLo]), .t (.str [98, 97, 98])] = some (.list [.agg [.int .i64 1, .int .i64 2]]) := by kernel_rfl
theorem loRep1 : frunX tab 100000 x26 [.t (.str [98, 97, 98]), .t (.list [.agg [.int .i64 1, .int .i64 2]]), .t (.str [120])] = some (.tup [.str [98, 120, 98], .bool true]) := by kernel_rfl
theorem loAt1 : frunX tab 100000 x27 [.t (.agg [gLo]), .t (.str [98, 97, 98]), .t (.int .i64 1)] = some (.int .i64 2) := by kernel_rfl
theorem loNo1 : frunX tab 100000 x27 [.t (.agg [gLo]), .t (.str [98, 97, 98]), .t (.int .i64 0)] = some (.int .i64 (-1)) := by kernel_rfl
theorem loRow2 : frunX tab 100000 x19 [.t (.int .i64 2), .t (.str [97])] = some (.str [97, 97]) := by kernel_rfl
theorem loSpans2 : frunX tab 100000 x25 [.t (.agg [gLo]), .t (.str [98, 97, 97, 98])] = some (.list [.agg [.int .i64 1, .int .i64 3]]) := by kernel_rfl
theorem loRep2 : frunX tab 100000 x26 [.t (.str [98, 97, 97, 98]), .t (.list [.agg [.int .i64 1, .int .i64 3]]), .t (.str [120])] = some (.tup [.str [98, 120, 98], .bool true]) := by kernel_rfl
theorem loAt2 : frunX tab 100000 x27 [.t (.agg [gLo]), .t (.str [98, 97, 97, 98]), .t (.int .i64 1)] = some (.int .i64 3) := by kernel_rfl
theorem loNo2 : frunX tab 100000 x27 [.t (.agg [gLo]), .t (.str [98, 97, 97, 98]), .t (.int .i64 0)] = some (.int .i64 (-1)) := by kernel_rfl
theorem loRow3 : frunX tab 100000 x19 [.t (.int .i64 3), .t (.str [97])] = some (.str [97, 97, 97]) := by kernel_rfl
theorem loSpans3 : frunX tab 100000 x25 [.t (.agg [gLo]), .t (.str [98, 97, 97, 97, 98])] = some (.list [.agg [.int .i64 1, .int .i64 4]]) := by kernel_rfl
theorem loRep3 : frunX tab 100000 x26 [.t (.str [98, 97, 97, 97, 98]), .t (.list [.agg [.int .i64 1, .int .i64 4]]), .t (.str [120])] = some (.tup [.str [98, 120, 98], .bool true]) := by kernel_rfl
theorem loAt3 : frunX tab 100000 x27 [.t (.agg [gLo]), .t (.str [98, 97, 97, 97, 98]), .t (.int .i64 1)] = some (.int .i64 4) := by kernel_rfl
theorem loNo3 : frunX tab 100000 x27 [.t (.agg [gLo]), .t (.str [98, 97, 97, 97, 98]), .t (.int .i64 0)] = some (.int .i64 (-1)) := by kernel_rfl
theorem loRow4 : frunX tab 100000 x19 [.t (.int .i64 4), .t (.str [97])] = some (.str [97, 97, 97, 97]) := by kernel_rfl
theorem loSpans4 : frunX tab 100000 x25 [.t (.agg [gLo]), .t (.str [98, 97, 97, 97, 97, 98])] = some (.list [.agg [.int .i64 1, .int .i64 5]]) := by kernel_rfl
theorem loRep4 : frunX tab 100000 x26 [.t (.str [98, 97, 97, 97, 97, 98]), .t (.list [.agg [.int .i64 1, .int .i64 5]]), .t (.str [120])] = some (.tup [.str [98, 120, 98], .bool true]) := by kernel_rfl
theorem loAt4 : frunX tab 100000 x27 [.t (.agg [gLo]), .t (.str [98, 97, 97, 97, 97, 98]), .t (.int .i64 1)] = some (.int .i64 5) := by kernel_rfl
theorem loNo4 : frunX tab 100000 x27 [.t (.agg [gLo]), .t (.str [98, 97, 97, 97, 97, 98]), .t (.int .i64 0)] = some (.int .i64 (-1)) := by kernel_rfl
theorem loRow5 : frunX tab 100000 x19 [.t (.int .i64 5), .t (.str [97])] = some (.str [97, 97, 97, 97, 97]) := by kernel_rfl
theorem loSpans5 : frunX tab 100000 x25 [.t (.agg [gLo]), .t (.str [98, 97, 97, 97, 97, 97, 98])] = some (.list [.agg [.int .i64 1, .int .i64 6]]) := by kernel_rfl
theorem loRep5 : frunX tab 100000 x26 [.t (.str [98, 97, 97, 97, 97, 97, 98]), .t (.list [.agg [.int .i64 1, .int .i64 6]]), .t (.str [120])] = some (.tup [.str [98, 120, 98], .bool true]) := by kernel_rfl
theorem loAt5 : frunX tab 100000 x27 [.t (.agg [gLo]), .t (.str [98, 97, 97, 97, 97, 97, 98]), .t (.int .i64 1)] = some (.int .i64 6) := by kernel_rfl
theorem loNo5 : frunX tab 100000 x27 [.t (.agg [gLo]), .t (.str [98, 97, 97, 97, 97, 97, 98]), .t (.int .i64 0)] = some (.int .i64 (-1)) := by kernel_rfl
theorem loRow6 : frunX tab 100000 x19 [.t (.int .i64 6), .t (.str [97])] = some (.str [97, 97, 97, 97, 97, 97]) := by kernel_rfl
theorem loSpans6 : frunX tab 100000 x25 [.t (.agg [gLo]), .t (.str [98, 97, 97, 97, 97, 97, 97, 98])] = some (.list [.agg [.int .i64 1, .int .i64 7]]) := by kernel_rfl
theorem loRep6 : frunX tab 100000 x26 [.t (.str [98, 97, 97, 97, 97, 97, 97, 98]), .t (.list [.agg [.int .i64 1, .int .i64 7]]), .t (.str [120])] = some (.tup [.str [98, 120, 98], .bool true]) := by kernel_rfl
theorem loAt6 : frunX tab 100000 x27 [.t (.agg [gLo]), .t (.str [98, 97, 97, 97, 97, 97, 97, 98]), .t (.int .i64 1)] = some (.int .i64 7) := by kernel_rfl
theorem loNo6 : frunX tab 100000 x27 [.t (.agg [gLo]), .t (.str [98, 97, 97, 97, 97, 97, 97, 98]), .t (.int .i64 0)] = some (.int .i64 (-1)) := by kernel_rfl
theorem loRow7 : frunX tab 100000 x19 [.t (.int .i64 7), .t (.str [97])] = some (.str [97, 97, 97, 97, 97, 97, 97]) := by kernel_rfl
theorem loSpans7 : frunX tab 100000 x25 [.t (.agg [gLo]), .t (.str [98, 97, 97, 97, 97, 97, 97, 97, 98])] = some (.list [.agg [.int .i64 1, .int .i64 8]]) := by kernel_rfl
theorem loRep7 : frunX tab 100000 x26 [.t (.str [98, 97, 97, 97, 97, 97, 97, 97, 98]), .t (.list [.agg [.int .i64 1, .int .i64 8]]), .t (.str [120])] = some (.tup [.str [98, 120, 98], .bool true]) := by kernel_rfl
theorem loAt7 : frunX tab 100000 x27 [.t (.agg [gLo]), .t (.str [98, 97, 97, 97, 97, 97, 97, 97, 98]), .t (.int .i64 1)] = some (.int .i64 8) := by kernel_rfl
theorem loNo7 : frunX tab 100000 x27 [.t (.agg [gLo]), .t (.str [98, 97, 97, 97, 97, 97, 97, 97, 98]), .t (.int .i64 0)] = some (.int .i64 (-1)) := by kernel_rfl
theorem loRow8 : frunX tab 100000 x19 [.t (.int .i64 8), .t (.str [97])] = some (.str [97, 97, 97, 97, 97, 97, 97, 97]) := by kernel_rfl
theorem loSpans8 : frunX tab 100000 x25 [.t (.agg [gLo]), .t (.str [98, 97, 97, 97, 97, 97, 97, 97, 97, 98])] = some (.list [.agg [.int .i64 1, .int .i64 9]]) := by kernel_rfl
theorem loRep8 : frunX tab 100000 x26 [.t (.str [98, 97, 97, 97, 97, 97, 97, 97, 97, 98]), .t (.list [.agg [.int .i64 1, .int .i64 9]]), .t (.str [120])] = some (.tup [.str [98, 120, 98], .bool true]) := by kernel_rfl
theorem loAt8 : frunX tab 100000 x27 [.t (.agg [gLo]), .t (.str [98, 97, 97, 97, 97, 97, 97, 97, 97, 98]), .t (.int .i64 1)] = some (.int .i64 9) := by kernel_rfl
theorem loNo8 : frunX tab 100000 x27 [.t (.agg [gLo]), .t (.str [98, 97, 97, 97, 97, 97, 97, 97, 97, 98]), .t (.int .i64 0)] = some (.int .i64 (-1)) := by kernel_rfl
theorem loRow9 : frunX tab 100000 x19 [.t (.int .i64 9), .t (.str [97])] = some (.str [97, 97, 97, 97, 97, 97, 97, 97, 97]) := by kernel_rfl
theorem loSpans9 : frunX tab 100000 x25 [.t (.agg [gLo]), .t (.str [98, 97, 97, 97, 97, 97, 97, 97, 97, 97, 98])] = some (.list [.agg [.int .i64 1, .int .i64 10]]) := by kernel_rfl
theorem loRep9 : frunX tab 100000 x26 [.t (.str [98, 97, 97, 97, 97, 97, 97, 97, 97, 97, 98]), .t (.list [.agg [.int .i64 1, .int .i64 10]]), .t (.str [120])] = some (.tup [.str [98, 120, 98], .bool true]) := by kernel_rfl
theorem loAt9 : frunX tab 100000 x27 [.t (.agg [gLo]), .t (.str [98, 97, 97, 97, 97, 97, 97, 97, 97, 97, 98]), .t (.int .i64 1)] = some (.int .i64 10) := by kernel_rfl
theorem loNo9 : frunX tab 100000 x27 [.t (.agg [gLo]), .t (.str [98, 97, 97, 97, 97, 97, 97, 97, 97, 97, 98]), .t (.int .i64 0)] = some (.int .i64 (-1)) := by kernel_rfl
end X
