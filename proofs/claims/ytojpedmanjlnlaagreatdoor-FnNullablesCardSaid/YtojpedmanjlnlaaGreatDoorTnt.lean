import Derived.Test.YtojpedmanjlnlaaGreatDoorProg
import Derived.Test.YtojpedmanjlnlaaGreatDoorVd
import Derived.KernelRfl
/- The seat's system: the types it asks of, how each function is called. By a printer of this session's. No statement of the claim is in it. -/
open Go Go.V Go.Proofs
namespace X
set_option maxRecDepth 100000
set_option maxHeartbeats 4000000
set_option linter.all false
def tyL : List (Nat × TI) := [(2, ⟨false, 1, 8, (some (.int .i64 (.ofNat 0))), (.int .i64), false⟩),
 (3, ⟨false, 1, 8, (some (.int .i64 (.ofNat 0))), (.int .i64), false⟩),
 (4, ⟨false, 1, 1, (some (.bool false)), .bool, false⟩),
 (5, ⟨false, 1, 1, (some (.int .u8 (.ofNat 0))), (.int .u8), false⟩),
 (9, ⟨false, 1, 16, (some (.str [])), .str, false⟩),
 (22, ⟨false, 1, 24, (some .nils), (.slice 5), false⟩),
 (24, ⟨false, 1, 24, (some .nils), (.slice 52), false⟩),
 (26, ⟨true, 1, 24, (some (.agg [.nils])), (.struct [(0, 24)]), false⟩),
 (31, ⟨false, 1, 24, (some .nils), (.slice 9), false⟩),
 (35, ⟨false, 1, 24, (some .nils), (.slice 113), false⟩),
 (36, ⟨false, 1, 24, (some .nils), (.slice 72), false⟩),
 (38, ⟨true, 2, 48, (some (.agg [.nils, .nils])), (.struct [(0, 35), (1, 36)]), false⟩),
 (48, ⟨false, 1, 24, (some .nils), (.slice 4), false⟩),
 (50, ⟨false, 1, 24, (some .nils), (.slice 62), false⟩),
 (52, ⟨true, 3, 64, (some (.agg [(.str []), .nils, .nils])), (.struct [(0, 9), (1, 31), (2, 50)]), false⟩),
 (54, ⟨false, 1, 24, (some .nils), (.slice 3), false⟩),
 (58, ⟨false, 1, 24, (some .nils), (.slice 48), false⟩),
 (60, ⟨false, 1, 24, (some .nils), (.slice 86), false⟩),
 (62, ⟨true, 1, 24, (some (.agg [.nils])), (.struct [(0, 60)]), false⟩),
 (63, ⟨false, 1, 24, (some .nils), (.slice 74), false⟩),
 (68, ⟨true, 5, 72, (some (.agg [.nils, (.int .i64 (.ofNat 0)), (.int .i64 (.ofNat 0)), (.bool false), .nils])), (.struct [(0, 63), (1, 3), (2, 3), (3, 4), (4, 35)]), false⟩),
 (72, ⟨true, 3, 48, (some (.agg [(.str []), .nils, (.int .i64 (.ofNat 0))])), (.struct [(0, 9), (1, 31), (2, 3)]), false⟩),
 (74, ⟨true, 2, 24, (some (.agg [(.int .i64 (.ofNat 0)), (.str [])])), (.struct [(0, 3), (1, 9)]), true⟩),
 (80, ⟨true, 3, 40, (some (.agg [.nils, (.int .i64 (.ofNat 0)), (.int .i64 (.ofNat 0))])), (.struct [(0, 22), (1, 3), (2, 3)]), false⟩),
 (84, ⟨false, 1, 24, (some .nils), (.slice 89), false⟩),
 (86, ⟨true, 4, 64, (some (.agg [(.int .i64 (.ofNat 0)), (.str []), .nils, (.str [])])), (.struct [(0, 3), (1, 9), (2, 84), (3, 9)]), false⟩),
 (87, ⟨false, 1, 24, (some .nils), (.slice 130), false⟩),
 (89, ⟨true, 1, 24, (some (.agg [.nils])), (.struct [(0, 87)]), false⟩),
 (98, ⟨false, 1, 24, (some .nils), (.slice 104), false⟩),
 (100, ⟨true, 1, 24, (some (.agg [.nils])), (.struct [(0, 98)]), false⟩),
 (104, ⟨true, 5, 88, (some (.agg [(.int .i64 (.ofNat 0)), .nils, (.int .i64 (.ofNat 0)), .nils, .nils])), (.struct [(0, 3), (1, 54), (2, 3), (3, 54), (4, 54)]), false⟩),
 (113, ⟨true, 5, 88, (some (.agg [(.int .i64 (.ofNat 0)), (.str []), .nils, (.str []), .nils])), (.struct [(0, 3), (1, 9), (2, 84), (3, 9), (4, 54)]), false⟩),
 (117, ⟨false, 1, 24, (some .nils), (.slice 124), false⟩),
 (119, ⟨true, 5, 104, (some (.agg [.nils, .nils, .nils, .nils, (.int .i64 (.ofNat 0))])), (.struct [(0, 38), (2, 26), (3, 117), (4, 3)]), false⟩),
 (124, ⟨true, 3, 40, (some (.agg [(.int .i64 (.ofNat 0)), (.int .i64 (.ofNat 0)), .nils])), (.struct [(0, 3), (1, 3), (2, 31)]), false⟩),
 (130, ⟨true, 4, 56, (some (.agg [(.int .i64 (.ofNat 0)), (.int .i64 (.ofNat 0)), (.str []), .nils])), (.struct [(0, 3), (1, 3), (2, 9), (3, 54)]), false⟩),
 (139, ⟨false, 1, 8, (some .nilm), (.map 9 3), false⟩),
 (141, ⟨true, 7, 112, (some (.agg [.nils, (.str []), .nils, (.int .i64 (.ofNat 0)), (.bool false), .nils, .nilm])), (.struct [(0, 26), (1, 9), (2, 100), (3, 3), (4, 4), (5, 54), (6, 139)]), false⟩),
 (148, ⟨false, 1, 8, (some (.int .u64 (.ofNat 0))), (.int .u64), false⟩),
 (167, ⟨false, 1, 24, (some .nils), (.slice 202), false⟩),
 (172, ⟨false, 1, 8, (some (.int .i64 (.ofNat 0))), (.int .i64), false⟩),
 (180, ⟨false, 1, 4, (some (.int .u32 (.ofNat 0))), (.int .u32), false⟩),
 (182, ⟨false, 1, 8, (some (.int .u64 (.ofNat 0))), (.int .u64), false⟩),
 (202, ⟨true, 2, 24, (some (.agg [(.str []), (.int .i64 (.ofNat 0))])), (.struct [(0, 9), (1, 3)]), true⟩),
 (254, ⟨true, 2, 32, (some (.agg [.nilp, .nils])), (.struct [(0, 252), (1, 22)]), false⟩),
 (271, ⟨true, 24, 24, (some (.agg [(.int .u8 (.ofNat 0)), (.int .u8 (.ofNat 0)), (.int .u8 (.ofNat 0)), (.int .u8 (.ofNat 0)), (.int .u8 (.ofNat 0)), (.int .u8 (.ofNat 0)), (.int .u8 (.ofNat 0)), (.int .u8 (.ofNat 0)), (.int .u8 (.ofNat 0)), (.int .u8 (.ofNat 0)), (.int .u8 (.ofNat 0)), (.int .u8 (.ofNat 0)), (.int .u8 (.ofNat 0)), (.int .u8 (.ofNat 0)), (.int .u8 (.ofNat 0)), (.int .u8 (.ofNat 0)), (.int .u8 (.ofNat 0)), (.int .u8 (.ofNat 0)), (.int .u8 (.ofNat 0)), (.int .u8 (.ofNat 0)), (.int .u8 (.ofNat 0)), (.int .u8 (.ofNat 0)), (.int .u8 (.ofNat 0)), (.int .u8 (.ofNat 0))])), (.array 24 5), false⟩)]
def A5 : Ann := { vars := List.range 18, kills := [], owned := [], isPure := true, dyn := [], bad := [], pend := [] }
def A7 : Ann := { vars := List.range 26, kills := [], owned := [], isPure := true, dyn := [], bad := [], pend := [] }
def A8 : Ann := { vars := List.range 31, kills := [], owned := [(1, 0)], isPure := true, dyn := [], bad := [], pend := [] }
def A9 : Ann := { vars := List.range 20, kills := [], owned := [], isPure := true, dyn := [], bad := [], pend := [] }
def A10 : Ann := { vars := List.range 52, kills := [], owned := [], isPure := true, dyn := [], bad := [], pend := [] }
def A12 : Ann := { vars := List.range 127, kills := [], owned := [], isPure := true, dyn := [], bad := [], pend := [] }
def A13 : Ann := { vars := List.range 12, kills := [], owned := [], isPure := true, dyn := [], bad := [], pend := [] }
def A16 : Ann := { vars := List.range 128, kills := [], owned := [(10, 3), (12, 5), (16, 7), (18, 4), (18, 10), (18, 12), (21, 1)], isPure := false, dyn := [12, 16, 18], bad := [], pend := [] }
def A17 : Ann := { vars := List.range 69, kills := [], owned := [], isPure := true, dyn := [], bad := [], pend := [] }
def A18 : Ann := { vars := List.range 50, kills := [], owned := [], isPure := false, dyn := [10], bad := [], pend := [] }
def A19 : Ann := { vars := List.range 9, kills := [], owned := [], isPure := false, dyn := [], bad := [], pend := [] }
def A20 : Ann := { vars := List.range 29, kills := [], owned := [], isPure := false, dyn := [], bad := [], pend := [] }
def A21 : Ann := { vars := List.range 15, kills := [], owned := [], isPure := true, dyn := [], bad := [], pend := [] }
def A22 : Ann := { vars := List.range 78, kills := [], owned := [], isPure := false, dyn := [], bad := [], pend := [] }
def A23 : Ann := { vars := List.range 45, kills := [], owned := [], isPure := true, dyn := [], bad := [], pend := [] }
def A24 : Ann := { vars := List.range 15, kills := [], owned := [], isPure := true, dyn := [], bad := [], pend := [] }
def A25 : Ann := { vars := List.range 95, kills := [], owned := [], isPure := true, dyn := [], bad := [], pend := [] }
def A27 : Ann := { vars := List.range 67, kills := [], owned := [(1, 0), (13, 0)], isPure := false, dyn := [], bad := [], pend := [] }
def A28 : Ann := { vars := List.range 57, kills := [], owned := [], isPure := false, dyn := [], bad := [], pend := [] }
def A29 : Ann := { vars := List.range 16, kills := [], owned := [], isPure := false, dyn := [], bad := [], pend := [] }
def A30 : Ann := { vars := List.range 11, kills := [], owned := [], isPure := false, dyn := [], bad := [], pend := [] }
def A31 : Ann := { vars := List.range 22, kills := [], owned := [(2, 2)], isPure := false, dyn := [], bad := [], pend := [] }
def A32 : Ann := { vars := List.range 14, kills := [], owned := [], isPure := true, dyn := [], bad := [], pend := [] }
def A33 : Ann := { vars := List.range 166, kills := [], owned := [], isPure := false, dyn := [], bad := [], pend := [] }
def A34 : Ann := { vars := List.range 142, kills := [], owned := [(8, 7), (8, 16), (13, 0), (17, 14)], isPure := false, dyn := [8], bad := [], pend := [] }
def A38 : Ann := { vars := List.range 96, kills := [], owned := [(5, 6)], isPure := false, dyn := [5], bad := [], pend := [5] }
def A40 : Ann := { vars := List.range 7, kills := [], owned := [(1, 2)], isPure := false, dyn := [], bad := [], pend := [] }
def A41 : Ann := { vars := List.range 29, kills := [], owned := [], isPure := true, dyn := [], bad := [], pend := [] }
def A42 : Ann := { vars := List.range 9, kills := [], owned := [], isPure := true, dyn := [], bad := [], pend := [] }
def A43 : Ann := { vars := List.range 32, kills := [], owned := [], isPure := false, dyn := [], bad := [], pend := [] }
def A44 : Ann := { vars := List.range 39, kills := [], owned := [], isPure := false, dyn := [], bad := [], pend := [] }
def A45 : Ann := { vars := List.range 9, kills := [], owned := [], isPure := false, dyn := [], bad := [], pend := [] }
def A46 : Ann := { vars := List.range 10, kills := [], owned := [], isPure := false, dyn := [], bad := [], pend := [] }
def A47 : Ann := { vars := List.range 24, kills := [], owned := [], isPure := false, dyn := [], bad := [], pend := [] }
def A48 : Ann := { vars := List.range 19, kills := [], owned := [], isPure := false, dyn := [], bad := [], pend := [] }
def A49 : Ann := { vars := List.range 96, kills := [], owned := [], isPure := false, dyn := [], bad := [], pend := [] }
def A50 : Ann := { vars := List.range 14, kills := [], owned := [], isPure := true, dyn := [], bad := [], pend := [] }
def A51 : Ann := { vars := List.range 11, kills := [], owned := [], isPure := false, dyn := [], bad := [], pend := [] }
def A52 : Ann := { vars := List.range 61, kills := [], owned := [], isPure := false, dyn := [], bad := [], pend := [] }
def A53 : Ann := { vars := List.range 22, kills := [], owned := [], isPure := true, dyn := [], bad := [], pend := [] }
def A54 : Ann := { vars := List.range 92, kills := [], owned := [(6, 0)], isPure := false, dyn := [], bad := [], pend := [] }
def A55 : Ann := { vars := List.range 20, kills := [], owned := [(6, 3)], isPure := true, dyn := [], bad := [], pend := [] }
def A56 : Ann := { vars := List.range 213, kills := [], owned := [], isPure := false, dyn := [], bad := [], pend := [] }
def A57 : Ann := { vars := List.range 51, kills := [], owned := [], isPure := false, dyn := [], bad := [], pend := [] }
def A58 : Ann := { vars := List.range 18, kills := [], owned := [], isPure := false, dyn := [], bad := [], pend := [] }
def A59 : Ann := { vars := List.range 27, kills := [], owned := [(1, 0)], isPure := false, dyn := [], bad := [], pend := [] }
def A60 : Ann := { vars := List.range 10, kills := [], owned := [], isPure := false, dyn := [], bad := [], pend := [] }
def A61 : Ann := { vars := List.range 30, kills := [], owned := [(1, 6)], isPure := false, dyn := [], bad := [], pend := [] }
def A62 : Ann := { vars := List.range 124, kills := [], owned := [], isPure := false, dyn := [], bad := [], pend := [] }
def A63 : Ann := { vars := List.range 54, kills := [], owned := [], isPure := true, dyn := [], bad := [], pend := [] }
def A64 : Ann := { vars := List.range 35, kills := [], owned := [], isPure := false, dyn := [], bad := [], pend := [] }
def A65 : Ann := { vars := List.range 32, kills := [], owned := [], isPure := false, dyn := [], bad := [], pend := [] }
def A66 : Ann := { vars := List.range 9, kills := [], owned := [], isPure := true, dyn := [], bad := [], pend := [] }
def A67 : Ann := { vars := List.range 122, kills := [], owned := [(1, 0), (15, 7), (15, 11), (16, 19)], isPure := false, dyn := [15], bad := [], pend := [] }
def A68 : Ann := { vars := List.range 124, kills := [], owned := [(4, 0), (5, 0), (12, 2), (12, 4), (18, 1)], isPure := false, dyn := [11], bad := [], pend := [11] }
def A70 : Ann := { vars := List.range 50, kills := [], owned := [(1, 0), (10, 0)], isPure := false, dyn := [], bad := [], pend := [] }
def A72 : Ann := { vars := List.range 5, kills := [], owned := [], isPure := false, dyn := [], bad := [], pend := [] }
def A73 : Ann := { vars := List.range 10, kills := [], owned := [], isPure := true, dyn := [], bad := [], pend := [] }
def A74 : Ann := { vars := List.range 6, kills := [], owned := [], isPure := true, dyn := [], bad := [], pend := [] }
def A75 : Ann := { vars := List.range 19, kills := [], owned := [], isPure := false, dyn := [], bad := [], pend := [] }
def A76 : Ann := { vars := List.range 8, kills := [], owned := [], isPure := false, dyn := [], bad := [], pend := [] }
def A77 : Ann := { vars := List.range 18, kills := [], owned := [], isPure := true, dyn := [], bad := [], pend := [] }
def A78 : Ann := { vars := List.range 6, kills := [], owned := [(1, 0)], isPure := false, dyn := [], bad := [], pend := [] }
def A79 : Ann := { vars := List.range 17, kills := [], owned := [], isPure := false, dyn := [], bad := [], pend := [] }
def A80 : Ann := { vars := List.range 79, kills := [], owned := [], isPure := false, dyn := [8], bad := [], pend := [] }
def A81 : Ann := { vars := List.range 19, kills := [], owned := [], isPure := false, dyn := [], bad := [], pend := [] }
def A82 : Ann := { vars := List.range 15, kills := [], owned := [], isPure := false, dyn := [], bad := [], pend := [] }
def A83 : Ann := { vars := List.range 46, kills := [], owned := [(4, 11)], isPure := false, dyn := [4], bad := [], pend := [] }
def A84 : Ann := { vars := List.range 71, kills := [], owned := [], isPure := false, dyn := [7], bad := [], pend := [] }
def A85 : Ann := { vars := List.range 83, kills := [], owned := [(1, 0)], isPure := false, dyn := [], bad := [], pend := [] }
def A86 : Ann := { vars := List.range 134, kills := [], owned := [], isPure := false, dyn := [], bad := [], pend := [] }
def A87 : Ann := { vars := List.range 8, kills := [], owned := [], isPure := true, dyn := [], bad := [], pend := [] }
def A88 : Ann := { vars := List.range 108, kills := [], owned := [], isPure := false, dyn := [], bad := [], pend := [] }
def A89 : Ann := { vars := List.range 36, kills := [], owned := [], isPure := true, dyn := [], bad := [], pend := [] }
def A90 : Ann := { vars := List.range 17, kills := [], owned := [], isPure := true, dyn := [], bad := [], pend := [] }
def A91 : Ann := { vars := List.range 11, kills := [], owned := [], isPure := true, dyn := [], bad := [], pend := [] }
def A92 : Ann := { vars := List.range 85, kills := [], owned := [(16, 2), (21, 0), (26, 4)], isPure := false, dyn := [], bad := [], pend := [] }
def A93 : Ann := { vars := List.range 5, kills := [], owned := [], isPure := true, dyn := [], bad := [], pend := [] }
def A94 : Ann := { vars := List.range 23, kills := [], owned := [], isPure := true, dyn := [], bad := [], pend := [] }
def A95 : Ann := { vars := List.range 61, kills := [], owned := [], isPure := false, dyn := [7, 11], bad := [], pend := [] }
def A96 : Ann := { vars := List.range 12, kills := [], owned := [], isPure := false, dyn := [], bad := [], pend := [] }
def A97 : Ann := { vars := List.range 52, kills := [], owned := [(1, 0)], isPure := false, dyn := [], bad := [], pend := [] }
def A98 : Ann := { vars := List.range 30, kills := [], owned := [(9, 2)], isPure := true, dyn := [], bad := [], pend := [] }
def A99 : Ann := { vars := List.range 21, kills := [], owned := [(1, 0)], isPure := false, dyn := [], bad := [], pend := [] }
def A100 : Ann := { vars := List.range 21, kills := [], owned := [], isPure := false, dyn := [], bad := [], pend := [] }
def A101 : Ann := { vars := List.range 34, kills := [], owned := [], isPure := true, dyn := [], bad := [], pend := [] }
def A102 : Ann := { vars := List.range 6, kills := [], owned := [], isPure := true, dyn := [], bad := [], pend := [] }
def A103 : Ann := { vars := List.range 25, kills := [], owned := [], isPure := true, dyn := [], bad := [], pend := [] }
def A104 : Ann := { vars := List.range 11, kills := [], owned := [], isPure := true, dyn := [], bad := [], pend := [] }
def A105 : Ann := { vars := List.range 31, kills := [], owned := [], isPure := false, dyn := [], bad := [], pend := [] }
def A106 : Ann := { vars := List.range 22, kills := [], owned := [], isPure := false, dyn := [], bad := [], pend := [] }
def A107 : Ann := { vars := List.range 13, kills := [], owned := [], isPure := false, dyn := [], bad := [], pend := [] }
def A108 : Ann := { vars := List.range 6, kills := [], owned := [(1, 0)], isPure := false, dyn := [], bad := [], pend := [] }
def A109 : Ann := { vars := List.range 132, kills := [], owned := [], isPure := false, dyn := [], bad := [], pend := [] }
def A110 : Ann := { vars := List.range 28, kills := [], owned := [(1, 0)], isPure := false, dyn := [], bad := [], pend := [] }
def A111 : Ann := { vars := List.range 11, kills := [], owned := [], isPure := false, dyn := [], bad := [], pend := [] }
def A112 : Ann := { vars := List.range 61, kills := [], owned := [(3, 7), (4, 10)], isPure := false, dyn := [], bad := [], pend := [] }
def A113 : Ann := { vars := List.range 9, kills := [], owned := [], isPure := true, dyn := [], bad := [], pend := [] }
def A114 : Ann := { vars := List.range 49, kills := [], owned := [], isPure := false, dyn := [], bad := [], pend := [] }
def A117 : Ann := { vars := List.range 57, kills := [], owned := [], isPure := false, dyn := [], bad := [], pend := [] }
def A120 : Ann := { vars := List.range 17, kills := [], owned := [], isPure := true, dyn := [], bad := [], pend := [] }
def A122 : Ann := { vars := List.range 168, kills := [], owned := [], isPure := false, dyn := [], bad := [], pend := [] }
def A124 : Ann := { vars := List.range 25, kills := [], owned := [], isPure := true, dyn := [], bad := [], pend := [] }
def A125 : Ann := { vars := List.range 38, kills := [], owned := [], isPure := true, dyn := [], bad := [], pend := [] }
def A126 : Ann := { vars := List.range 19, kills := [], owned := [], isPure := false, dyn := [], bad := [], pend := [] }
def A127 : Ann := { vars := List.range 18, kills := [], owned := [], isPure := true, dyn := [], bad := [], pend := [] }
def A128 : Ann := { vars := List.range 72, kills := [], owned := [(13, 5)], isPure := true, dyn := [], bad := [], pend := [] }
def A129 : Ann := { vars := List.range 61, kills := [], owned := [(11, 4), (13, 4)], isPure := false, dyn := [11, 13], bad := [], pend := [] }
def A130 : Ann := { vars := List.range 9, kills := [], owned := [(1, 0)], isPure := false, dyn := [], bad := [], pend := [] }
def A131 : Ann := { vars := List.range 28, kills := [], owned := [], isPure := false, dyn := [], bad := [], pend := [] }
def A132 : Ann := { vars := List.range 12, kills := [], owned := [], isPure := true, dyn := [], bad := [], pend := [] }
def A133 : Ann := { vars := List.range 2, kills := [], owned := [(1, 0)], isPure := true, dyn := [], bad := [], pend := [] }
def A134 : Ann := { vars := List.range 8, kills := [], owned := [], isPure := true, dyn := [], bad := [], pend := [] }
def A135 : Ann := { vars := List.range 31, kills := [], owned := [(1, 0)], isPure := false, dyn := [], bad := [], pend := [] }
def A136 : Ann := { vars := List.range 9, kills := [], owned := [], isPure := false, dyn := [], bad := [], pend := [] }
def A137 : Ann := { vars := List.range 22, kills := [], owned := [], isPure := false, dyn := [], bad := [], pend := [] }
def A138 : Ann := { vars := List.range 19, kills := [], owned := [], isPure := false, dyn := [], bad := [], pend := [] }
def A139 : Ann := { vars := List.range 11, kills := [], owned := [], isPure := false, dyn := [], bad := [], pend := [] }
def A140 : Ann := { vars := List.range 25, kills := [], owned := [], isPure := false, dyn := [], bad := [], pend := [] }
def A141 : Ann := { vars := List.range 38, kills := [], owned := [], isPure := false, dyn := [], bad := [], pend := [] }
def A142 : Ann := { vars := List.range 59, kills := [], owned := [], isPure := false, dyn := [], bad := [], pend := [] }
def A143 : Ann := { vars := List.range 41, kills := [], owned := [(1, 0)], isPure := false, dyn := [], bad := [], pend := [] }
def A144 : Ann := { vars := List.range 23, kills := [], owned := [], isPure := false, dyn := [3], bad := [], pend := [] }
def A145 : Ann := { vars := List.range 134, kills := [], owned := [], isPure := false, dyn := [], bad := [], pend := [] }
def A146 : Ann := { vars := List.range 54, kills := [], owned := [], isPure := false, dyn := [], bad := [], pend := [] }
def A147 : Ann := { vars := List.range 95, kills := [], owned := [], isPure := false, dyn := [], bad := [], pend := [] }
def A152 : Ann := { vars := List.range 36, kills := [], owned := [], isPure := false, dyn := [], bad := [], pend := [] }
def A153 : Ann := { vars := List.range 6, kills := [], owned := [], isPure := true, dyn := [], bad := [], pend := [] }
def A154 : Ann := { vars := List.range 17, kills := [], owned := [], isPure := true, dyn := [], bad := [], pend := [] }
def A155 : Ann := { vars := List.range 24, kills := [], owned := [], isPure := false, dyn := [], bad := [], pend := [] }
def A156 : Ann := { vars := List.range 30, kills := [], owned := [], isPure := false, dyn := [], bad := [], pend := [] }
def A158 : Ann := { vars := List.range 11, kills := [], owned := [], isPure := false, dyn := [], bad := [], pend := [] }
def A159 : Ann := { vars := List.range 61, kills := [], owned := [], isPure := false, dyn := [], bad := [], pend := [] }
def A160 : Ann := { vars := List.range 19, kills := [], owned := [], isPure := false, dyn := [], bad := [], pend := [] }
def A161 : Ann := { vars := List.range 56, kills := [], owned := [], isPure := false, dyn := [], bad := [], pend := [] }
def A162 : Ann := { vars := List.range 26, kills := [], owned := [], isPure := false, dyn := [], bad := [], pend := [] }
def A163 : Ann := { vars := List.range 5, kills := [], owned := [], isPure := true, dyn := [], bad := [], pend := [] }
def A164 : Ann := { vars := List.range 36, kills := [], owned := [(1, 0)], isPure := false, dyn := [], bad := [], pend := [] }
def A165 : Ann := { vars := List.range 8, kills := [], owned := [], isPure := true, dyn := [], bad := [], pend := [] }
def A170 : Ann := { vars := List.range 49, kills := [], owned := [], isPure := false, dyn := [], bad := [], pend := [] }
def A176 : Ann := { vars := List.range 17, kills := [], owned := [], isPure := true, dyn := [], bad := [], pend := [] }
def A182 : Ann := { vars := List.range 28, kills := [], owned := [], isPure := false, dyn := [], bad := [], pend := [] }
def A183 : Ann := { vars := List.range 33, kills := [], owned := [(1, 0)], isPure := true, dyn := [], bad := [], pend := [] }
def A184 : Ann := { vars := List.range 91, kills := [], owned := [], isPure := true, dyn := [], bad := [], pend := [] }
def A185 : Ann := { vars := List.range 28, kills := [], owned := [], isPure := false, dyn := [], bad := [], pend := [] }
def A186 : Ann := { vars := List.range 18, kills := [], owned := [(1, 4)], isPure := false, dyn := [], bad := [], pend := [] }
def A188 : Ann := { vars := List.range 134, kills := [], owned := [], isPure := false, dyn := [], bad := [], pend := [] }
def A189 : Ann := { vars := List.range 12, kills := [], owned := [], isPure := true, dyn := [], bad := [], pend := [] }
def A190 : Ann := { vars := List.range 19, kills := [], owned := [], isPure := false, dyn := [], bad := [], pend := [] }
def A191 : Ann := { vars := List.range 5, kills := [], owned := [], isPure := true, dyn := [], bad := [], pend := [] }
def A192 : Ann := { vars := List.range 75, kills := [], owned := [], isPure := false, dyn := [], bad := [], pend := [] }
def A193 : Ann := { vars := List.range 18, kills := [], owned := [], isPure := true, dyn := [], bad := [], pend := [] }
def A203 : Ann := { vars := List.range 6, kills := [], owned := [], isPure := true, dyn := [], bad := [], pend := [] }
def A205 : Ann := { vars := List.range 10, kills := [], owned := [], isPure := true, dyn := [], bad := [], pend := [] }
def A206 : Ann := { vars := List.range 34, kills := [], owned := [], isPure := false, dyn := [], bad := [], pend := [] }
def A207 : Ann := { vars := List.range 18, kills := [], owned := [(1, 5)], isPure := false, dyn := [], bad := [], pend := [] }
def A208 : Ann := { vars := List.range 49, kills := [], owned := [], isPure := false, dyn := [], bad := [], pend := [] }
def A214 : Ann := { vars := List.range 17, kills := [], owned := [], isPure := true, dyn := [], bad := [], pend := [] }
def A217 : Ann := { vars := List.range 5, kills := [], owned := [], isPure := true, dyn := [], bad := [], pend := [] }
def A226 : Ann := { vars := List.range 34, kills := [], owned := [], isPure := false, dyn := [], bad := [], pend := [] }
def A230 : Ann := { vars := List.range 6, kills := [], owned := [], isPure := true, dyn := [], bad := [], pend := [] }
def A231 : Ann := { vars := List.range 54, kills := [], owned := [], isPure := true, dyn := [], bad := [], pend := [] }
def A235 : Ann := { vars := List.range 14, kills := [], owned := [], isPure := false, dyn := [], bad := [], pend := [] }
def A237 : Ann := { vars := List.range 15, kills := [], owned := [], isPure := true, dyn := [], bad := [], pend := [] }
def A243 : Ann := { vars := List.range 74, kills := [], owned := [(3, 2)], isPure := false, dyn := [], bad := [], pend := [] }
abbrev A3 : Ann := { vars := [0, 2, 3, 4, 5, 6], kills := [], owned := [], isPure := true, dyn := [], bad := [], pend := [] }
abbrev A4 : Ann := { vars := [0, 2], kills := [], owned := [], isPure := true, dyn := [], bad := [], pend := [] }
abbrev A6 : Ann := { vars := [0, 2, 3, 4, 5], kills := [], owned := [], isPure := true, dyn := [], bad := [], pend := [] }
abbrev A14 : Ann := { vars := [0, 2, 3, 4], kills := [(0, [4])], owned := [], isPure := false, dyn := [], bad := [], pend := [] }
abbrev A15 : Ann := { vars := [0, 1, 4], kills := [], owned := [], isPure := false, dyn := [], bad := [], pend := [] }
abbrev A35 : Ann := { vars := [0, 1, 4], kills := [], owned := [], isPure := false, dyn := [], bad := [], pend := [] }
abbrev A36 : Ann := { vars := [0, 1, 4], kills := [], owned := [], isPure := false, dyn := [], bad := [], pend := [] }
abbrev A37 : Ann := { vars := [0, 1, 4, 5, 6, 7, 8], kills := [], owned := [], isPure := false, dyn := [], bad := [], pend := [] }
abbrev A69 : Ann := { vars := [0, 2, 3], kills := [], owned := [], isPure := false, dyn := [], bad := [], pend := [] }
abbrev A39 : Ann := { vars := [0, 2, 3, 5], kills := [], owned := [], isPure := false, dyn := [], bad := [], pend := [] }
abbrev A71 : Ann := { vars := [0, 2, 3], kills := [], owned := [], isPure := false, dyn := [], bad := [], pend := [] }
abbrev A11 : Ann := { vars := [0, 1, 2, 4, 5, 6, 7, 8, 9, 10, 11, 12], kills := [(0, [7]), (2, [8, 9, 10]), (3, [9, 10]), (4, [9, 10]), (5, [10]), (6, [10]), (8, [12])], owned := [(4, 0), (24, 3)], isPure := true, dyn := [], bad := [], pend := [] }
abbrev A26 : Ann := { vars := [0, 1, 2, 3, 4, 5, 10, 11, 12, 13, 14, 25], kills := [(0, [10, 11, 12, 13, 14, 25]), (1, [11, 12, 13, 14, 25]), (2, [11, 12, 13, 14]), (3, [12]), (5, [14])], owned := [], isPure := false, dyn := [], bad := [], pend := [] }
def annL : List (Nat × Ann) := [(5, A5), (7, A7), (8, A8), (9, A9), (10, A10), (12, A12), (13, A13), (16, A16), (17, A17), (18, A18), (19, A19), (20, A20), (21, A21), (22, A22), (23, A23), (24, A24), (25, A25), (27, A27), (28, A28), (29, A29), (30, A30), (31, A31), (32, A32), (33, A33), (34, A34), (38, A38), (40, A40), (41, A41), (42, A42), (43, A43), (44, A44), (45, A45), (46, A46), (47, A47), (48, A48), (49, A49), (50, A50), (51, A51), (52, A52), (53, A53), (54, A54), (55, A55), (56, A56), (57, A57), (58, A58), (59, A59), (60, A60), (61, A61), (62, A62), (63, A63), (64, A64), (65, A65), (66, A66), (67, A67), (68, A68), (70, A70), (72, A72), (73, A73), (74, A74), (75, A75), (76, A76), (77, A77), (78, A78), (79, A79), (80, A80), (81, A81), (82, A82), (83, A83), (84, A84), (85, A85), (86, A86), (87, A87), (88, A88), (89, A89), (90, A90), (91, A91), (92, A92), (93, A93), (94, A94), (95, A95), (96, A96), (97, A97), (98, A98), (99, A99), (100, A100), (101, A101), (102, A102), (103, A103), (104, A104), (105, A105), (106, A106), (107, A107), (108, A108), (109, A109), (110, A110), (111, A111), (112, A112), (113, A113), (114, A114), (117, A117), (120, A120), (122, A122), (124, A124), (125, A125), (126, A126), (127, A127), (128, A128), (129, A129), (130, A130), (131, A131), (132, A132), (133, A133), (134, A134), (135, A135), (136, A136), (137, A137), (138, A138), (139, A139), (140, A140), (141, A141), (142, A142), (143, A143), (144, A144), (145, A145), (146, A146), (147, A147), (152, A152), (153, A153), (154, A154), (155, A155), (156, A156), (158, A158), (159, A159), (160, A160), (161, A161), (162, A162), (163, A163), (164, A164), (165, A165), (170, A170), (176, A176), (182, A182), (183, A183), (184, A184), (185, A185), (186, A186), (188, A188), (189, A189), (190, A190), (191, A191), (192, A192), (193, A193), (203, A203), (205, A205), (206, A206), (207, A207), (208, A208), (214, A214), (217, A217), (226, A226), (230, A230), (231, A231), (235, A235), (237, A237), (243, A243), (3, A3), (4, A4), (6, A6), (14, A14), (15, A15), (35, A35), (36, A36), (37, A37), (69, A69), (39, A39), (71, A71), (11, A11), (26, A26)]

def tyF (l : List (Nat × TI)) (t : TypeId) : Option TI := match l with
 | [] => none
 | (g, A) :: r => match Nat.beq g t with
  | true => some A
  | false => tyF r t
def annF (l : List (Nat × Ann)) (f : FuncId) : Option Ann := match l with
 | [] => none
 | (g, A) :: r => match Nat.beq g f with
  | true => some A
  | false => annF r f
def extG (f : FuncId) : Option (List T → Option T) := match Nat.beq f 157 with | true => some idxG | false => none
def extP (f : FuncId) : Bool := (extG f).isSome
def extF : CallF := fun f args σ => match extG f with
 | some g => gExt g args σ
 | none => none
noncomputable def S : Sy := { P := Tryz.prog, ty := tyF tyL, ann := annF annL, ext := extF, extPure := extP }
def ixL : List Nat := [5, 7, 8, 9, 10, 12, 13, 16, 17, 18, 19, 20, 21, 22, 23, 24, 25, 27, 28, 29, 30, 31, 32, 33, 34, 38, 40, 41, 42, 43, 44, 45, 46, 47, 48, 49, 50, 51, 52, 53, 54, 55, 56, 57, 58, 59, 60, 61, 62, 63, 64, 65, 66, 67, 68, 70, 72, 73, 74, 75, 76, 77, 78, 79, 80, 81, 82, 83, 84, 85, 86, 87, 88, 89, 90, 91, 92, 93, 94, 95, 96, 97, 98, 99, 100, 101, 102, 103, 104, 105, 106, 107, 108, 109, 110, 111, 112, 113, 114, 117, 120, 122, 124, 125, 126, 127, 128, 129, 130, 131, 132, 133, 134, 135, 136, 137, 138, 139, 140, 141, 142, 143, 144, 145, 146, 147, 152, 153, 154, 155, 156, 157, 158, 159, 160, 161, 162, 163, 164, 165, 170, 176, 182, 183, 184, 185, 186, 188, 189, 190, 191, 192, 193, 203, 205, 206, 207, 208, 214, 217, 226, 230, 231, 235, 237, 243]

def ixG : List Nat → Nat → Nat → Ix
 | [], _, _ => none
 | g :: r, i, h => match Nat.beq g h with
  | true => match ixI (i / 16), ixI (i % 16) with
   | some a, some b => some (a, b)
   | _, _ => none
  | false => ixG r (i + 1) h
def ixf (h : FuncId) : Ix := ixG ixL 0 h
noncomputable section
def rq0 : FX := R a0 a0
def rq1 : FX := R a0 a1
def rq2 : FX := R a0 a2
def rq3 : FX := R a0 a3
def rq4 : FX := R a0 a4
def rq5 : FX := R a0 a5
def rq6 : FX := R a0 a6
def rq7 : FX := R a0 a7
def rq8 : FX := R a0 a8
def rq9 : FX := R a0 a9
def rq10 : FX := R a0 a10
def rq11 : FX := R a0 a11
def rq12 : FX := R a0 a12
def rq13 : FX := R a0 a13
def rq14 : FX := R a0 a14
def rq15 : FX := R a0 a15
def rq16 : FX := R a1 a0
def rq17 : FX := R a1 a1
def rq18 : FX := R a1 a2
def rq19 : FX := R a1 a3
def rq20 : FX := R a1 a4
def rq21 : FX := R a1 a5
def rq22 : FX := R a1 a6
def rq23 : FX := R a1 a7
def rq24 : FX := R a1 a8
def rq25 : FX := R a1 a9
def rq26 : FX := R a1 a10
def rq27 : FX := R a1 a11
def rq28 : FX := R a1 a12
def rq29 : FX := R a1 a13
def rq30 : FX := R a1 a14
def rq31 : FX := R a1 a15
def rq32 : FX := R a2 a0
def rq33 : FX := R a2 a1
def rq34 : FX := R a2 a2
def rq35 : FX := R a2 a3
def rq36 : FX := R a2 a4
def rq37 : FX := R a2 a5
def rq38 : FX := R a2 a6
def rq39 : FX := R a2 a7
def rq40 : FX := R a2 a8
def rq41 : FX := R a2 a9
def rq42 : FX := R a2 a10
def rq43 : FX := R a2 a11
def rq44 : FX := R a2 a12
def rq45 : FX := R a2 a13
def rq46 : FX := R a2 a14
def rq47 : FX := R a2 a15
def rq48 : FX := R a3 a0
def rq49 : FX := R a3 a1
def rq50 : FX := R a3 a2
def rq51 : FX := R a3 a3
def rq52 : FX := R a3 a4
def rq53 : FX := R a3 a5
def rq54 : FX := R a3 a6
def rq55 : FX := R a3 a7
def rq56 : FX := R a3 a8
def rq57 : FX := R a3 a9
def rq58 : FX := R a3 a10
def rq59 : FX := R a3 a11
def rq60 : FX := R a3 a12
def rq61 : FX := R a3 a13
def rq62 : FX := R a3 a14
def rq63 : FX := R a3 a15
def rq64 : FX := R a4 a0
def rq65 : FX := R a4 a1
def rq66 : FX := R a4 a2
def rq67 : FX := R a4 a3
def rq68 : FX := R a4 a4
def rq69 : FX := R a4 a5
def rq70 : FX := R a4 a6
def rq71 : FX := R a4 a7
def rq72 : FX := R a4 a8
def rq73 : FX := R a4 a9
def rq74 : FX := R a4 a10
def rq75 : FX := R a4 a11
def rq76 : FX := R a4 a12
def rq77 : FX := R a4 a13
def rq78 : FX := R a4 a14
def rq79 : FX := R a4 a15
def rq80 : FX := R a5 a0
def rq81 : FX := R a5 a1
def rq82 : FX := R a5 a2
def rq83 : FX := R a5 a3
def rq84 : FX := R a5 a4
def rq85 : FX := R a5 a5
def rq86 : FX := R a5 a6
def rq87 : FX := R a5 a7
def rq88 : FX := R a5 a8
def rq89 : FX := R a5 a9
def rq90 : FX := R a5 a10
def rq91 : FX := R a5 a11
def rq92 : FX := R a5 a12
def rq93 : FX := R a5 a13
def rq94 : FX := R a5 a14
def rq95 : FX := R a5 a15
def rq96 : FX := R a6 a0
def rq97 : FX := R a6 a1
def rq98 : FX := R a6 a2
def rq99 : FX := R a6 a3
def rq100 : FX := R a6 a4
def rq101 : FX := R a6 a5
def rq102 : FX := R a6 a6
def rq103 : FX := R a6 a7
def rq104 : FX := R a6 a8
def rq105 : FX := R a6 a9
def rq106 : FX := R a6 a10
def rq107 : FX := R a6 a11
def rq108 : FX := R a6 a12
def rq109 : FX := R a6 a13
def rq110 : FX := R a6 a14
def rq111 : FX := R a6 a15
def rq112 : FX := R a7 a0
def rq113 : FX := R a7 a1
def rq114 : FX := R a7 a2
def rq115 : FX := R a7 a3
def rq116 : FX := R a7 a4
def rq117 : FX := R a7 a5
def rq118 : FX := R a7 a6
def rq119 : FX := R a7 a7
def rq120 : FX := R a7 a8
def rq121 : FX := R a7 a9
def rq122 : FX := R a7 a10
def rq123 : FX := R a7 a11
def rq124 : FX := R a7 a12
def rq125 : FX := R a7 a13
def rq126 : FX := R a7 a14
def rq127 : FX := R a7 a15
def rq128 : FX := R a8 a0
def rq129 : FX := R a8 a1
def rq130 : FX := R a8 a2
def rq131 : FX := R a8 a3
def rq132 : FX := R a8 a4
def rq133 : FX := R a8 a5
def rq134 : FX := R a8 a6
def rq135 : FX := R a8 a7
def rq136 : FX := R a8 a8
def rq137 : FX := R a8 a9
def rq138 : FX := R a8 a10
def rq139 : FX := R a8 a11
def rq140 : FX := R a8 a12
def rq141 : FX := R a8 a13
def rq142 : FX := R a8 a14
def rq143 : FX := R a8 a15
def rq144 : FX := R a9 a0
def rq145 : FX := R a9 a1
def rq146 : FX := R a9 a2
def rq147 : FX := R a9 a3
def rq148 : FX := R a9 a4
def rq149 : FX := R a9 a5
def rq150 : FX := R a9 a6
def rq151 : FX := R a9 a7
def rq152 : FX := R a9 a8
def rq153 : FX := R a9 a9
def rq154 : FX := R a9 a10
def rq155 : FX := R a9 a11
def rq156 : FX := R a9 a12
def rq157 : FX := R a9 a13
def rq158 : FX := R a9 a14
def rq159 : FX := R a9 a15
def rq160 : FX := R a10 a0
def rq161 : FX := R a10 a1
def rq162 : FX := R a10 a2
def rq163 : FX := R a10 a3
def rq164 : FX := R a10 a4
def rq165 : FX := R a10 a5
def rq166 : FX := R a10 a6
def rq167 : FX := R a10 a7
def rq168 : FX := R a10 a8
def rq169 : FX := R a10 a9
def rq170 : FX := R a10 a10
def rq171 : FX := R a10 a11
def rq172 : FX := R a10 a12
def rq173 : FX := R a10 a13
def rq174 : FX := R a10 a14
def rq175 : FX := R a10 a15
def rq176 : FX := R a11 a0
def rq177 : FX := R a11 a1
def rq178 : FX := R a11 a2
def rq179 : FX := R a11 a3
def rq180 : FX := R a11 a4
def rq181 : FX := R a11 a5
def rq182 : FX := R a11 a6
def rq183 : FX := R a11 a7
def rq184 : FX := R a11 a8
def rq185 : FX := R a11 a9
def rq186 : FX := R a11 a10
def rq187 : FX := R a11 a11
def rq188 : FX := R a11 a12
def rq189 : FX := R a11 a13
def rq190 : FX := R a11 a14
def rq191 : FX := R a11 a15
def rq192 : FX := R a12 a0
def rq193 : FX := R a12 a1
def rq194 : FX := R a12 a2
def rq195 : FX := R a12 a3
def rq196 : FX := R a12 a4
def rq197 : FX := R a12 a5
def rq198 : FX := R a12 a6
def rq199 : FX := R a12 a7
def rq200 : FX := R a12 a8
def rq201 : FX := R a12 a9
def rq202 : FX := R a12 a10
def rq203 : FX := R a12 a11
def rq204 : FX := R a12 a12
def rq205 : FX := R a12 a13
def rq206 : FX := R a12 a14
def rq207 : FX := R a12 a15
def rq208 : FX := R a13 a0
def rq209 : FX := R a13 a1
def rq210 : FX := R a13 a2
def rq211 : FX := R a13 a3
def rq212 : FX := R a13 a4
def wq0 : WX := W' a0 p0 p0
def wq1 : WX := W' a0 p1 p0
def wq2 : WX := W' a0 p2 p0
def wq3 : WX := W' a0 p3 p0
def wq4 : WX := W' a0 p4 p0
def wq5 : WX := W' a0 p5 p0
def wq6 : WX := W' a0 p6 p0
def wq7 : WX := W' a0 p7 p0
def wq8 : WX := W' a0 p8 p0
def wq9 : WX := W' a0 p9 p0
def wq10 : WX := W' a0 p10 p0
def wq11 : WX := W' a0 p11 p0
def wq12 : WX := W' a0 p12 p0
def wq13 : WX := W' a0 p13 p0
def wq14 : WX := W' a0 p14 p0
def wq15 : WX := W' a0 p15 p0
def wq16 : WX := W' a1 p0 p1
def wq17 : WX := W' a1 p1 p1
def wq18 : WX := W' a1 p2 p1
def wq19 : WX := W' a1 p3 p1
def wq20 : WX := W' a1 p4 p1
def wq21 : WX := W' a1 p5 p1
def wq22 : WX := W' a1 p6 p1
def wq23 : WX := W' a1 p7 p1
def wq24 : WX := W' a1 p8 p1
def wq25 : WX := W' a1 p9 p1
def wq26 : WX := W' a1 p10 p1
def wq27 : WX := W' a1 p11 p1
def wq28 : WX := W' a1 p12 p1
def wq29 : WX := W' a1 p13 p1
def wq30 : WX := W' a1 p14 p1
def wq31 : WX := W' a1 p15 p1
def wq32 : WX := W' a2 p0 p2
def wq33 : WX := W' a2 p1 p2
def wq34 : WX := W' a2 p2 p2
def wq35 : WX := W' a2 p3 p2
def wq36 : WX := W' a2 p4 p2
def wq37 : WX := W' a2 p5 p2
def wq38 : WX := W' a2 p6 p2
def wq39 : WX := W' a2 p7 p2
def wq40 : WX := W' a2 p8 p2
def wq41 : WX := W' a2 p9 p2
def wq42 : WX := W' a2 p10 p2
def wq43 : WX := W' a2 p11 p2
def wq44 : WX := W' a2 p12 p2
def wq45 : WX := W' a2 p13 p2
def wq46 : WX := W' a2 p14 p2
def wq47 : WX := W' a2 p15 p2
def wq48 : WX := W' a3 p0 p3
def wq49 : WX := W' a3 p1 p3
def wq50 : WX := W' a3 p2 p3
def wq51 : WX := W' a3 p3 p3
def wq52 : WX := W' a3 p4 p3
def wq53 : WX := W' a3 p5 p3
def wq54 : WX := W' a3 p6 p3
def wq55 : WX := W' a3 p7 p3
def wq56 : WX := W' a3 p8 p3
def wq57 : WX := W' a3 p9 p3
def wq58 : WX := W' a3 p10 p3
def wq59 : WX := W' a3 p11 p3
def wq60 : WX := W' a3 p12 p3
def wq61 : WX := W' a3 p13 p3
def wq62 : WX := W' a3 p14 p3
def wq63 : WX := W' a3 p15 p3
def wq64 : WX := W' a4 p0 p4
def wq65 : WX := W' a4 p1 p4
def wq66 : WX := W' a4 p2 p4
def wq67 : WX := W' a4 p3 p4
def wq68 : WX := W' a4 p4 p4
def wq69 : WX := W' a4 p5 p4
def wq70 : WX := W' a4 p6 p4
def wq71 : WX := W' a4 p7 p4
def wq72 : WX := W' a4 p8 p4
def wq73 : WX := W' a4 p9 p4
def wq74 : WX := W' a4 p10 p4
def wq75 : WX := W' a4 p11 p4
def wq76 : WX := W' a4 p12 p4
def wq77 : WX := W' a4 p13 p4
def wq78 : WX := W' a4 p14 p4
def wq79 : WX := W' a4 p15 p4
def wq80 : WX := W' a5 p0 p5
def wq81 : WX := W' a5 p1 p5
def wq82 : WX := W' a5 p2 p5
def wq83 : WX := W' a5 p3 p5
def wq84 : WX := W' a5 p4 p5
def wq85 : WX := W' a5 p5 p5
def wq86 : WX := W' a5 p6 p5
def wq87 : WX := W' a5 p7 p5
def wq88 : WX := W' a5 p8 p5
def wq89 : WX := W' a5 p9 p5
def wq90 : WX := W' a5 p10 p5
def wq91 : WX := W' a5 p11 p5
def wq92 : WX := W' a5 p12 p5
def wq93 : WX := W' a5 p13 p5
def wq94 : WX := W' a5 p14 p5
def wq95 : WX := W' a5 p15 p5
def wq96 : WX := W' a6 p0 p6
def wq97 : WX := W' a6 p1 p6
def wq98 : WX := W' a6 p2 p6
def wq99 : WX := W' a6 p3 p6
def wq100 : WX := W' a6 p4 p6
def wq101 : WX := W' a6 p5 p6
def wq102 : WX := W' a6 p6 p6
def wq103 : WX := W' a6 p7 p6
def wq104 : WX := W' a6 p8 p6
def wq105 : WX := W' a6 p9 p6
def wq106 : WX := W' a6 p10 p6
def wq107 : WX := W' a6 p11 p6
def wq108 : WX := W' a6 p12 p6
def wq109 : WX := W' a6 p13 p6
def wq110 : WX := W' a6 p14 p6
def wq111 : WX := W' a6 p15 p6
def wq112 : WX := W' a7 p0 p7
def wq113 : WX := W' a7 p1 p7
def wq114 : WX := W' a7 p2 p7
def wq115 : WX := W' a7 p3 p7
def wq116 : WX := W' a7 p4 p7
def wq117 : WX := W' a7 p5 p7
def wq118 : WX := W' a7 p6 p7
def wq119 : WX := W' a7 p7 p7
def wq120 : WX := W' a7 p8 p7
def wq121 : WX := W' a7 p9 p7
def wq122 : WX := W' a7 p10 p7
def wq123 : WX := W' a7 p11 p7
def wq124 : WX := W' a7 p12 p7
def wq125 : WX := W' a7 p13 p7
def wq126 : WX := W' a7 p14 p7
def wq127 : WX := W' a7 p15 p7
def wq128 : WX := W' a8 p0 p8
def wq129 : WX := W' a8 p1 p8
def wq130 : WX := W' a8 p2 p8
def wq131 : WX := W' a8 p3 p8
def wq132 : WX := W' a8 p4 p8
def wq133 : WX := W' a8 p5 p8
def wq134 : WX := W' a8 p6 p8
def wq135 : WX := W' a8 p7 p8
def wq136 : WX := W' a8 p8 p8
def wq137 : WX := W' a8 p9 p8
def wq138 : WX := W' a8 p10 p8
def wq139 : WX := W' a8 p11 p8
def wq140 : WX := W' a8 p12 p8
def wq141 : WX := W' a8 p13 p8
def wq142 : WX := W' a8 p14 p8
def wq143 : WX := W' a8 p15 p8
def wq144 : WX := W' a9 p0 p9
def wq145 : WX := W' a9 p1 p9
def wq146 : WX := W' a9 p2 p9
def wq147 : WX := W' a9 p3 p9
def wq148 : WX := W' a9 p4 p9
def wq149 : WX := W' a9 p5 p9
def wq150 : WX := W' a9 p6 p9
def wq151 : WX := W' a9 p7 p9
def wq152 : WX := W' a9 p8 p9
def wq153 : WX := W' a9 p9 p9
def wq154 : WX := W' a9 p10 p9
def wq155 : WX := W' a9 p11 p9
def wq156 : WX := W' a9 p12 p9
def wq157 : WX := W' a9 p13 p9
def wq158 : WX := W' a9 p14 p9
def wq159 : WX := W' a9 p15 p9
def wq160 : WX := W' a10 p0 p10
def wq161 : WX := W' a10 p1 p10
def wq162 : WX := W' a10 p2 p10
def wq163 : WX := W' a10 p3 p10
def wq164 : WX := W' a10 p4 p10
def wq165 : WX := W' a10 p5 p10
def wq166 : WX := W' a10 p6 p10
def wq167 : WX := W' a10 p7 p10
def wq168 : WX := W' a10 p8 p10
def wq169 : WX := W' a10 p9 p10
def wq170 : WX := W' a10 p10 p10
def wq171 : WX := W' a10 p11 p10
def wq172 : WX := W' a10 p12 p10
def wq173 : WX := W' a10 p13 p10
def wq174 : WX := W' a10 p14 p10
def wq175 : WX := W' a10 p15 p10
def wq176 : WX := W' a11 p0 p11
def wq177 : WX := W' a11 p1 p11
def wq178 : WX := W' a11 p2 p11
def wq179 : WX := W' a11 p3 p11
def wq180 : WX := W' a11 p4 p11
def wq181 : WX := W' a11 p5 p11
def wq182 : WX := W' a11 p6 p11
def wq183 : WX := W' a11 p7 p11
def wq184 : WX := W' a11 p8 p11
def wq185 : WX := W' a11 p9 p11
def wq186 : WX := W' a11 p10 p11
def wq187 : WX := W' a11 p11 p11
def wq188 : WX := W' a11 p12 p11
def wq189 : WX := W' a11 p13 p11
def wq190 : WX := W' a11 p14 p11
def wq191 : WX := W' a11 p15 p11
def wq192 : WX := W' a12 p0 p12
def wq193 : WX := W' a12 p1 p12
def wq194 : WX := W' a12 p2 p12
def wq195 : WX := W' a12 p3 p12
def wq196 : WX := W' a12 p4 p12
def wq197 : WX := W' a12 p5 p12
def wq198 : WX := W' a12 p6 p12
def wq199 : WX := W' a12 p7 p12
def wq200 : WX := W' a12 p8 p12
def wq201 : WX := W' a12 p9 p12
def wq202 : WX := W' a12 p10 p12
def wq203 : WX := W' a12 p11 p12
def wq204 : WX := W' a12 p12 p12
def wq205 : WX := W' a12 p13 p12
def wq206 : WX := W' a12 p14 p12
def wq207 : WX := W' a12 p15 p12
def wq208 : WX := W' a13 p0 p13
def wq209 : WX := W' a13 p1 p13
def wq210 : WX := W' a13 p2 p13
def wq211 : WX := W' a13 p3 p13
def wq212 : WX := W' a13 p4 p13
abbrev I0 : T := .int .i64 (.ofNat 0)
def kc0 : FX := Cx (.t (.int .i64 (.ofNat 0)))
def kc1 : FX := Cx (.t (.int .i64 (.ofNat 1)))
def kc10 : FX := Cx (.t (.int .i64 (.ofNat 10)))
def kc100 : FX := Cx (.t (.int .i64 (.ofNat 100)))
def kc11 : FX := Cx (.t (.int .i64 (.ofNat 11)))
def kc12 : FX := Cx (.t (.int .i64 (.ofNat 12)))
def kc120 : FX := Cx (.t (.int .i64 (.ofNat 120)))
def kc122 : FX := Cx (.t (.int .i64 (.ofNat 122)))
def kc14 : FX := Cx (.t (.int .i64 (.ofNat 14)))
def kc16 : FX := Cx (.t (.int .i64 (.ofNat 16)))
def kc2 : FX := Cx (.t (.int .i64 (.ofNat 2)))
def kc20 : FX := Cx (.t (.int .i64 (.ofNat 20)))
def kc200 : FX := Cx (.t (.int .i64 (.ofNat 200)))
def kc256 : FX := Cx (.t (.int .i64 (.ofNat 256)))
def kc3 : FX := Cx (.t (.int .i64 (.ofNat 3)))
def kc30 : FX := Cx (.t (.int .i64 (.ofNat 30)))
def kc300 : FX := Cx (.t (.int .i64 (.ofNat 300)))
def kc32 : FX := Cx (.t (.int .i64 (.ofNat 32)))
def kc4 : FX := Cx (.t (.int .i64 (.ofNat 4)))
def kc48 : FX := Cx (.t (.int .i64 (.ofNat 48)))
def kc5 : FX := Cx (.t (.int .i64 (.ofNat 5)))
def kc50 : FX := Cx (.t (.int .i64 (.ofNat 50)))
def kc57 : FX := Cx (.t (.int .i64 (.ofNat 57)))
def kc6 : FX := Cx (.t (.int .i64 (.ofNat 6)))
def kc600 : FX := Cx (.t (.int .i64 (.ofNat 600)))
def kc601 : FX := Cx (.t (.int .i64 (.ofNat 601)))
def kc65 : FX := Cx (.t (.int .i64 (.ofNat 65)))
def kc7 : FX := Cx (.t (.int .i64 (.ofNat 7)))
def kc8 : FX := Cx (.t (.int .i64 (.ofNat 8)))
def kc9 : FX := Cx (.t (.int .i64 (.ofNat 9)))
def kc90 : FX := Cx (.t (.int .i64 (.ofNat 90)))
def kc9223372036854775807 : FX := Cx (.t (.int .i64 (.ofNat 9223372036854775807)))
def kc97 : FX := Cx (.t (.int .i64 (.ofNat 97)))
def kc99 : FX := Cx (.t (.int .i64 (.ofNat 99)))
def kf : FX := Cx (.t (.bool false))
def ks : FX := Cx (.t (.str []))
def kt : FX := Cx (.t (.bool true))
abbrev tn : V := .t .nils
def za (i : Nat) (x : FX) : Run := fFAddr i 1 x
def zd (x : Run) (w : WX) (r : RO) : RO := thn (opD x w) r
def zf (g : FX) (x : Run) (w : WX) (r : RO) : RO := thn (gd g false w (op x w)) r
def zg (g : FX) (x : Run) (w : WX) (r : RO) : RO := thn (gd g false w (opD x w)) r
def zl (x : FX) : Run := fLoad false 1 x
def zm (x : FX) (w : WX) (r : RO) : RO := thn (op (fMv x) w) r
def zn (x : FX) (w : WX) (r : RO) : RO := thn (opD (fMv x) w) r
def zo (x : Run) (w : WX) (r : RO) : RO := thn (op x w) r
def zt (g : FX) (x : Run) (w : WX) (r : RO) : RO := thn (gd g true w (op x w)) r
def zu (g : FX) (x : Run) (w : WX) (r : RO) : RO := thn (gd g true w (opD x w)) r
end
def KF (f : FuncId) (A : Ann) : Prop := ∃ fn c, S.P.funcs[f]? = some fn ∧ fn.body = some c ∧ okCode S.ty S.pf A fn.ntmps c = true ∧ (fn.name == "runtime.NumGoroutine") = false
end X
