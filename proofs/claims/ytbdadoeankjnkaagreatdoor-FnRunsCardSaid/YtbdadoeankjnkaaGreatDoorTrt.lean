import Derived.Test.YtbdadoeankjnkaaGreatDoorProg
import Derived.Test.YtbdadoeankjnkaaGreatDoorVe
import Derived.KernelRfl
/- The seat's system: the types it asks of, how each function is called. By a printer of this session's. No statement of the claim is in it. -/
open Go Go.V Go.Proofs
namespace X
set_option maxRecDepth 100000
set_option maxHeartbeats 4000000
set_option linter.all false
abbrev aN (v : List Nat) (k : List (Nat × List Nat)) (o : List (Nat × Nat)) (p : Bool) : Ann := { vars := v, kills := k, owned := o, isPure := p, dyn := [], bad := [], pend := [] }
def tyL : List (Nat × TI) := [(2, ⟨false, 1, 8, (some (.int .i64 (.ofNat 0))), (.int .i64), false⟩),
 (3, ⟨false, 1, 8, (some (.int .i64 (.ofNat 0))), (.int .i64), false⟩),
 (4, ⟨false, 1, 1, (some (.bool false)), .bool, false⟩),
 (5, ⟨false, 1, 1, (some (.int .u8 (.ofNat 0))), (.int .u8), false⟩),
 (9, ⟨false, 1, 16, (some (.str [])), .str, false⟩),
 (22, ⟨false, 1, 24, (some .nils), (.slice 5), false⟩),
 (24, ⟨false, 1, 24, (some .nils), (.slice 58), false⟩),
 (26, ⟨true, 1, 24, (some (.agg [.nils])), (.struct [(0, 24)]), false⟩),
 (27, ⟨false, 1, 24, (some .nils), (.slice 3), false⟩),
 (30, ⟨false, 1, 24, (some .nils), (.slice 37), false⟩),
 (32, ⟨true, 1, 24, (some (.agg [.nils])), (.struct [(0, 30)]), false⟩),
 (37, ⟨true, 5, 88, (some (.agg [(.int .i64 (.ofNat 0)), .nils, (.int .i64 (.ofNat 0)), .nils, .nils])), (.struct [(0, 3), (1, 27), (2, 3), (3, 27), (4, 27)]), false⟩),
 (55, ⟨false, 1, 24, (some .nils), (.slice 9), false⟩),
 (56, ⟨false, 1, 24, (some .nils), (.slice 81), false⟩),
 (58, ⟨true, 3, 64, (some (.agg [(.str []), .nils, .nils])), (.struct [(0, 9), (1, 55), (2, 56)]), false⟩),
 (62, ⟨false, 1, 8, (some .nilm), (.map 9 3), false⟩),
 (64, ⟨true, 7, 112, (some (.agg [.nils, (.str []), .nils, (.int .i64 (.ofNat 0)), (.bool false), .nils, .nilm])), (.struct [(0, 26), (1, 9), (2, 32), (3, 3), (4, 4), (5, 27), (6, 62)]), false⟩),
 (69, ⟨true, 6, 80, (some (.agg [.nils, (.str []), .nils, (.int .i64 (.ofNat 0)), (.bool false), (.bool false)])), (.struct [(0, 26), (1, 9), (2, 30), (3, 3), (4, 4), (5, 4)]), false⟩),
 (74, ⟨true, 3, 40, (some (.agg [.nils, (.int .i64 (.ofNat 0)), (.int .i64 (.ofNat 0))])), (.struct [(0, 22), (1, 3), (2, 3)]), false⟩),
 (79, ⟨false, 1, 24, (some .nils), (.slice 117), false⟩),
 (81, ⟨true, 1, 24, (some (.agg [.nils])), (.struct [(0, 79)]), false⟩),
 (86, ⟨false, 1, 24, (some .nils), (.slice 129), false⟩),
 (92, ⟨false, 1, 24, (some .nils), (.slice 4), false⟩),
 (93, ⟨false, 1, 24, (some .nils), (.slice 97), false⟩),
 (97, ⟨true, 2, 32, (some (.agg [(.int .i64 (.ofNat 0)), .nils])), (.struct [(0, 3), (1, 86)]), false⟩),
 (101, ⟨false, 1, 24, (some .nils), (.slice 194), false⟩),
 (102, ⟨false, 1, 24, (some .nils), (.slice 154), false⟩),
 (104, ⟨true, 2, 48, (some (.agg [.nils, .nils])), (.struct [(0, 101), (1, 102)]), false⟩),
 (115, ⟨false, 1, 24, (some .nils), (.slice 171), false⟩),
 (117, ⟨true, 4, 64, (some (.agg [(.int .i64 (.ofNat 0)), (.str []), .nils, (.str [])])), (.struct [(0, 3), (1, 9), (2, 115), (3, 9)]), false⟩),
 (129, ⟨true, 2, 24, (some (.agg [(.str []), (.int .i64 (.ofNat 0))])), (.struct [(0, 9), (1, 3)]), true⟩),
 (132, ⟨false, 1, 8, (some (.int .u64 (.ofNat 0))), (.int .u64), false⟩),
 (145, ⟨false, 1, 24, (some .nils), (.slice 156), false⟩),
 (150, ⟨true, 5, 72, (some (.agg [.nils, (.int .i64 (.ofNat 0)), (.int .i64 (.ofNat 0)), (.bool false), .nils])), (.struct [(0, 145), (1, 3), (2, 3), (3, 4), (4, 101)]), false⟩),
 (154, ⟨true, 3, 48, (some (.agg [(.str []), .nils, (.int .i64 (.ofNat 0))])), (.struct [(0, 9), (1, 55), (2, 3)]), false⟩),
 (156, ⟨true, 2, 24, (some (.agg [(.int .i64 (.ofNat 0)), (.str [])])), (.struct [(0, 3), (1, 9)]), true⟩),
 (169, ⟨false, 1, 24, (some .nils), (.slice 215), false⟩),
 (171, ⟨true, 1, 24, (some (.agg [.nils])), (.struct [(0, 169)]), false⟩),
 (173, ⟨false, 1, 8, (some (.int .i64 (.ofNat 0))), (.int .i64), false⟩),
 (181, ⟨false, 1, 4, (some (.int .u32 (.ofNat 0))), (.int .u32), false⟩),
 (183, ⟨false, 1, 8, (some (.int .u64 (.ofNat 0))), (.int .u64), false⟩),
 (194, ⟨true, 5, 88, (some (.agg [(.int .i64 (.ofNat 0)), (.str []), .nils, (.str []), .nils])), (.struct [(0, 3), (1, 9), (2, 115), (3, 9), (4, 27)]), false⟩),
 (198, ⟨false, 1, 24, (some .nils), (.slice 204), false⟩),
 (200, ⟨true, 5, 104, (some (.agg [.nils, .nils, .nils, .nils, (.int .i64 (.ofNat 0))])), (.struct [(0, 104), (2, 26), (3, 198), (4, 3)]), false⟩),
 (204, ⟨true, 3, 40, (some (.agg [(.int .i64 (.ofNat 0)), (.int .i64 (.ofNat 0)), .nils])), (.struct [(0, 3), (1, 3), (2, 55)]), false⟩),
 (215, ⟨true, 4, 56, (some (.agg [(.int .i64 (.ofNat 0)), (.int .i64 (.ofNat 0)), (.str []), .nils])), (.struct [(0, 3), (1, 3), (2, 9), (3, 27)]), false⟩),
 (248, ⟨false, 1, 24, (some .nils), (.slice 86), false⟩),
 (277, ⟨true, 24, 24, (some (.agg [(.int .u8 (.ofNat 0)), (.int .u8 (.ofNat 0)), (.int .u8 (.ofNat 0)), (.int .u8 (.ofNat 0)), (.int .u8 (.ofNat 0)), (.int .u8 (.ofNat 0)), (.int .u8 (.ofNat 0)), (.int .u8 (.ofNat 0)), (.int .u8 (.ofNat 0)), (.int .u8 (.ofNat 0)), (.int .u8 (.ofNat 0)), (.int .u8 (.ofNat 0)), (.int .u8 (.ofNat 0)), (.int .u8 (.ofNat 0)), (.int .u8 (.ofNat 0)), (.int .u8 (.ofNat 0)), (.int .u8 (.ofNat 0)), (.int .u8 (.ofNat 0)), (.int .u8 (.ofNat 0)), (.int .u8 (.ofNat 0)), (.int .u8 (.ofNat 0)), (.int .u8 (.ofNat 0)), (.int .u8 (.ofNat 0)), (.int .u8 (.ofNat 0))])), (.array 24 5), false⟩)]
def A22 : Ann := { vars := List.range 9, kills := [], owned := [], isPure := true, dyn := [], bad := [], pend := [] }
def A23 : Ann := { vars := List.range 69, kills := [], owned := [], isPure := true, dyn := [], bad := [], pend := [] }
def A25 : Ann := { vars := List.range 15, kills := [], owned := [], isPure := true, dyn := [], bad := [], pend := [] }
def A28 : Ann := { vars := List.range 22, kills := [], owned := [], isPure := true, dyn := [], bad := [], pend := [] }
def A29 : Ann := { vars := List.range 45, kills := [], owned := [], isPure := true, dyn := [], bad := [], pend := [] }
def A30 : Ann := { vars := List.range 15, kills := [], owned := [], isPure := true, dyn := [], bad := [], pend := [] }
def A35 : Ann := { vars := List.range 20, kills := [], owned := [], isPure := true, dyn := [], bad := [], pend := [] }
def A37 : Ann := { vars := List.range 19, kills := [], owned := [], isPure := false, dyn := [], bad := [], pend := [] }
def A38 : Ann := { vars := List.range 8, kills := [], owned := [], isPure := false, dyn := [], bad := [], pend := [] }
def A39 : Ann := { vars := List.range 29, kills := [], owned := [], isPure := true, dyn := [], bad := [], pend := [] }
def A40 : Ann := { vars := List.range 32, kills := [], owned := [], isPure := false, dyn := [], bad := [], pend := [] }
def A41 : Ann := { vars := List.range 39, kills := [], owned := [], isPure := false, dyn := [], bad := [], pend := [] }
def A48 : Ann := { vars := List.range 92, kills := [], owned := [(6, 0)], isPure := false, dyn := [], bad := [], pend := [] }
def A55 : Ann := { vars := List.range 34, kills := [], owned := [], isPure := true, dyn := [], bad := [], pend := [] }
def A56 : Ann := { vars := List.range 127, kills := [], owned := [], isPure := true, dyn := [], bad := [], pend := [] }
def A57 : Ann := { vars := List.range 12, kills := [], owned := [], isPure := true, dyn := [], bad := [], pend := [] }
def A61 : Ann := { vars := List.range 10, kills := [], owned := [], isPure := true, dyn := [], bad := [], pend := [] }
def A62 : Ann := { vars := List.range 6, kills := [], owned := [], isPure := true, dyn := [], bad := [], pend := [] }
def A63 : Ann := { vars := List.range 18, kills := [], owned := [], isPure := true, dyn := [], bad := [], pend := [] }
def A64 : Ann := { vars := List.range 6, kills := [], owned := [(1, 0)], isPure := false, dyn := [], bad := [], pend := [] }
def A65 : Ann := { vars := List.range 17, kills := [], owned := [], isPure := false, dyn := [], bad := [], pend := [] }
def A66 : Ann := { vars := List.range 79, kills := [], owned := [], isPure := false, dyn := [8], bad := [], pend := [] }
def A76 : Ann := { vars := List.range 8, kills := [], owned := [], isPure := true, dyn := [], bad := [], pend := [] }
def A79 : Ann := { vars := List.range 54, kills := [], owned := [], isPure := true, dyn := [], bad := [], pend := [] }
def A80 : Ann := { vars := List.range 35, kills := [], owned := [], isPure := false, dyn := [], bad := [], pend := [] }
def A81 : Ann := { vars := List.range 108, kills := [], owned := [], isPure := false, dyn := [], bad := [], pend := [] }
def A88 : Ann := { vars := List.range 2, kills := [], owned := [(1, 0)], isPure := true, dyn := [], bad := [], pend := [] }
def A89 : Ann := { vars := List.range 67, kills := [], owned := [(1, 0), (13, 0)], isPure := false, dyn := [], bad := [], pend := [] }
def A90 : Ann := { vars := List.range 57, kills := [], owned := [], isPure := false, dyn := [], bad := [], pend := [] }
def A91 : Ann := { vars := List.range 16, kills := [], owned := [], isPure := false, dyn := [], bad := [], pend := [] }
def A92 : Ann := { vars := List.range 11, kills := [], owned := [], isPure := false, dyn := [], bad := [], pend := [] }
def A93 : Ann := { vars := List.range 22, kills := [], owned := [(2, 2)], isPure := false, dyn := [], bad := [], pend := [] }
def A94 : Ann := { vars := List.range 14, kills := [], owned := [], isPure := true, dyn := [], bad := [], pend := [] }
def A95 : Ann := { vars := List.range 166, kills := [], owned := [], isPure := false, dyn := [], bad := [], pend := [] }
def A96 : Ann := { vars := List.range 142, kills := [], owned := [(8, 7), (8, 16), (13, 0), (17, 14)], isPure := false, dyn := [8], bad := [], pend := [] }
def A98 : Ann := { vars := List.range 6, kills := [], owned := [], isPure := true, dyn := [], bad := [], pend := [] }
def A99 : Ann := { vars := List.range 25, kills := [], owned := [], isPure := true, dyn := [], bad := [], pend := [] }
def A100 : Ann := { vars := List.range 11, kills := [], owned := [], isPure := true, dyn := [], bad := [], pend := [] }
def A101 : Ann := { vars := List.range 31, kills := [], owned := [], isPure := false, dyn := [], bad := [], pend := [] }
def A102 : Ann := { vars := List.range 22, kills := [], owned := [], isPure := false, dyn := [], bad := [], pend := [] }
def A104 : Ann := { vars := List.range 5, kills := [], owned := [], isPure := true, dyn := [], bad := [], pend := [] }
def A122 : Ann := { vars := List.range 25, kills := [], owned := [], isPure := true, dyn := [], bad := [], pend := [] }
def A126 : Ann := { vars := List.range 23, kills := [], owned := [], isPure := true, dyn := [], bad := [], pend := [] }
def A127 : Ann := { vars := List.range 38, kills := [], owned := [], isPure := true, dyn := [], bad := [], pend := [] }
def A128 : Ann := { vars := List.range 11, kills := [], owned := [], isPure := true, dyn := [], bad := [], pend := [] }
def A129 : Ann := { vars := List.range 19, kills := [], owned := [], isPure := false, dyn := [], bad := [], pend := [] }
def A130 : Ann := { vars := List.range 52, kills := [], owned := [(1, 0)], isPure := false, dyn := [], bad := [], pend := [] }
def A131 : Ann := { vars := List.range 18, kills := [], owned := [], isPure := true, dyn := [], bad := [], pend := [] }
def A137 : Ann := { vars := List.range 213, kills := [], owned := [], isPure := false, dyn := [], bad := [], pend := [] }
def A138 : Ann := { vars := List.range 51, kills := [], owned := [], isPure := false, dyn := [], bad := [], pend := [] }
def A139 : Ann := { vars := List.range 18, kills := [], owned := [], isPure := false, dyn := [], bad := [], pend := [] }
def A140 : Ann := { vars := List.range 27, kills := [], owned := [(1, 0)], isPure := false, dyn := [], bad := [], pend := [] }
def A141 : Ann := { vars := List.range 10, kills := [], owned := [], isPure := false, dyn := [], bad := [], pend := [] }
def A142 : Ann := { vars := List.range 30, kills := [], owned := [(1, 6)], isPure := false, dyn := [], bad := [], pend := [] }
def A143 : Ann := { vars := List.range 124, kills := [], owned := [], isPure := false, dyn := [], bad := [], pend := [] }
def A144 : Ann := { vars := List.range 32, kills := [], owned := [], isPure := false, dyn := [], bad := [], pend := [] }
def A145 : Ann := { vars := List.range 9, kills := [], owned := [], isPure := true, dyn := [], bad := [], pend := [] }
def A146 : Ann := { vars := List.range 122, kills := [], owned := [(1, 0), (15, 7), (15, 11), (16, 19)], isPure := false, dyn := [15], bad := [], pend := [] }
def A147 : Ann := { vars := List.range 124, kills := [], owned := [(4, 0), (5, 0), (12, 2), (12, 4), (18, 1)], isPure := false, dyn := [11], bad := [], pend := [11] }
def A148 : Ann := { vars := List.range 9, kills := [], owned := [], isPure := true, dyn := [], bad := [], pend := [] }
def A149 : Ann := { vars := List.range 8, kills := [], owned := [], isPure := true, dyn := [], bad := [], pend := [] }
def A150 : Ann := { vars := List.range 83, kills := [], owned := [(1, 0)], isPure := false, dyn := [], bad := [], pend := [] }
def A151 : Ann := { vars := List.range 31, kills := [], owned := [(1, 0)], isPure := false, dyn := [], bad := [], pend := [] }
def A152 : Ann := { vars := List.range 9, kills := [], owned := [], isPure := false, dyn := [], bad := [], pend := [] }
def A153 : Ann := { vars := List.range 22, kills := [], owned := [], isPure := true, dyn := [], bad := [], pend := [] }
def A154 : Ann := { vars := List.range 5, kills := [], owned := [], isPure := true, dyn := [], bad := [], pend := [] }
def A157 : Ann := { vars := List.range 14, kills := [], owned := [], isPure := true, dyn := [], bad := [], pend := [] }
def A158 : Ann := { vars := List.range 51, kills := [], owned := [], isPure := true, dyn := [], bad := [], pend := [] }
def A160 : Ann := { vars := List.range 5, kills := [], owned := [], isPure := true, dyn := [], bad := [], pend := [] }
def A171 : Ann := { vars := List.range 17, kills := [], owned := [], isPure := true, dyn := [], bad := [], pend := [] }
def A172 : Ann := { vars := List.range 72, kills := [], owned := [(13, 5)], isPure := true, dyn := [], bad := [], pend := [] }
def A173 : Ann := { vars := List.range 24, kills := [], owned := [], isPure := false, dyn := [], bad := [], pend := [] }
def A174 : Ann := { vars := List.range 91, kills := [], owned := [], isPure := true, dyn := [], bad := [], pend := [] }
def A175 : Ann := { vars := List.range 51, kills := [], owned := [], isPure := true, dyn := [], bad := [], pend := [] }
def A179 : Ann := { vars := List.range 17, kills := [], owned := [], isPure := true, dyn := [], bad := [], pend := [] }
def A180 : Ann := { vars := List.range 85, kills := [], owned := [(16, 2), (21, 0), (26, 4)], isPure := false, dyn := [], bad := [], pend := [] }
def A181 : Ann := { vars := List.range 5, kills := [], owned := [], isPure := true, dyn := [], bad := [], pend := [] }
def A182 : Ann := { vars := List.range 61, kills := [], owned := [], isPure := false, dyn := [7, 11], bad := [], pend := [] }
def A183 : Ann := { vars := List.range 12, kills := [], owned := [], isPure := false, dyn := [], bad := [], pend := [] }
def A184 : Ann := { vars := List.range 50, kills := [], owned := [(1, 0), (10, 0)], isPure := false, dyn := [], bad := [], pend := [] }
def A185 : Ann := { vars := List.range 30, kills := [], owned := [(9, 2)], isPure := true, dyn := [], bad := [], pend := [] }
def A186 : Ann := { vars := List.range 21, kills := [], owned := [(1, 0)], isPure := false, dyn := [], bad := [], pend := [] }
def A187 : Ann := { vars := List.range 21, kills := [], owned := [], isPure := false, dyn := [], bad := [], pend := [] }
def A188 : Ann := { vars := List.range 96, kills := [], owned := [(5, 6)], isPure := false, dyn := [5], bad := [], pend := [5] }
def A190 : Ann := { vars := List.range 11, kills := [], owned := [], isPure := false, dyn := [], bad := [], pend := [] }
def A191 : Ann := { vars := List.range 61, kills := [], owned := [], isPure := false, dyn := [], bad := [], pend := [] }
def A192 : Ann := { vars := List.range 11, kills := [], owned := [], isPure := false, dyn := [], bad := [], pend := [] }
def A193 : Ann := { vars := List.range 61, kills := [], owned := [], isPure := false, dyn := [], bad := [], pend := [] }
def A194 : Ann := { vars := List.range 19, kills := [], owned := [], isPure := false, dyn := [], bad := [], pend := [] }
def A195 : Ann := { vars := List.range 56, kills := [], owned := [], isPure := false, dyn := [], bad := [], pend := [] }
def A196 : Ann := { vars := List.range 5, kills := [], owned := [], isPure := true, dyn := [], bad := [], pend := [] }
def A205 : Ann := { vars := List.range 33, kills := [], owned := [(1, 0)], isPure := true, dyn := [], bad := [], pend := [] }
def A206 : Ann := { vars := List.range 10, kills := [], owned := [], isPure := true, dyn := [], bad := [], pend := [] }
def A207 : Ann := { vars := List.range 61, kills := [], owned := [(11, 4), (13, 4)], isPure := false, dyn := [11, 13], bad := [], pend := [] }
def A208 : Ann := { vars := List.range 9, kills := [], owned := [(1, 0)], isPure := false, dyn := [], bad := [], pend := [] }
def A209 : Ann := { vars := List.range 28, kills := [], owned := [], isPure := false, dyn := [], bad := [], pend := [] }
def A210 : Ann := { vars := List.range 12, kills := [], owned := [], isPure := true, dyn := [], bad := [], pend := [] }
def A211 : Ann := { vars := List.range 7, kills := [], owned := [(1, 2)], isPure := false, dyn := [], bad := [], pend := [] }
def A213 : Ann := { vars := List.range 134, kills := [], owned := [], isPure := false, dyn := [], bad := [], pend := [] }
def A214 : Ann := { vars := List.range 134, kills := [], owned := [], isPure := false, dyn := [], bad := [], pend := [] }
def A215 : Ann := { vars := List.range 12, kills := [], owned := [], isPure := true, dyn := [], bad := [], pend := [] }
def A216 : Ann := { vars := List.range 19, kills := [], owned := [], isPure := false, dyn := [], bad := [], pend := [] }
def A217 : Ann := { vars := List.range 54, kills := [], owned := [], isPure := true, dyn := [], bad := [], pend := [] }
def A221 : Ann := { vars := List.range 30, kills := [], owned := [], isPure := false, dyn := [], bad := [], pend := [] }
def A222 : Ann := { vars := List.range 5, kills := [], owned := [], isPure := false, dyn := [], bad := [], pend := [] }
def A223 : Ann := { vars := List.range 49, kills := [], owned := [], isPure := false, dyn := [], bad := [], pend := [] }
def A229 : Ann := { vars := List.range 17, kills := [], owned := [], isPure := true, dyn := [], bad := [], pend := [] }
def A232 : Ann := { vars := List.range 49, kills := [], owned := [], isPure := false, dyn := [], bad := [], pend := [] }
def A238 : Ann := { vars := List.range 17, kills := [], owned := [], isPure := true, dyn := [], bad := [], pend := [] }
def A241 : Ann := { vars := List.range 15, kills := [], owned := [], isPure := true, dyn := [], bad := [], pend := [] }
def A247 : Ann := { vars := List.range 28, kills := [], owned := [], isPure := false, dyn := [], bad := [], pend := [] }
def A248 : Ann := { vars := List.range 18, kills := [], owned := [(1, 4)], isPure := false, dyn := [], bad := [], pend := [] }
def A252 : Ann := { vars := List.range 6, kills := [], owned := [], isPure := true, dyn := [], bad := [], pend := [] }
def A256 : Ann := { vars := List.range 6, kills := [], owned := [], isPure := true, dyn := [], bad := [], pend := [] }
def A261 : Ann := { vars := List.range 34, kills := [], owned := [], isPure := false, dyn := [], bad := [], pend := [] }
def A262 : Ann := { vars := List.range 18, kills := [], owned := [(1, 5)], isPure := false, dyn := [], bad := [], pend := [] }
def A267 : Ann := { vars := List.range 34, kills := [], owned := [], isPure := false, dyn := [], bad := [], pend := [] }
def A268 : Ann := { vars := List.range 14, kills := [], owned := [], isPure := false, dyn := [], bad := [], pend := [] }
def A269 : Ann := { vars := List.range 74, kills := [], owned := [(3, 2)], isPure := false, dyn := [], bad := [], pend := [] }
abbrev A3 := aN [0, 2, 3, 4, 5, 6, 7, 8, 9, 10, 11, 12, 13, 14, 15, 16] [(0, [12, 13, 14, 15]), (1, [14, 15]), (2, [15])] [(8, 0)] true
abbrev A5 := aN [0, 2] [] [] true
abbrev A9 := aN [0, 1, 2, 3, 4, 5, 6, 7] [(0, [5, 6, 7]), (1, [6, 7])] [] true
abbrev A10 := aN [0, 1, 4, 5] [(0, [5])] [] false
abbrev A12 := aN [0, 1, 4, 5] [(0, [5])] [] true
abbrev A6 := aN [0, 2, 3, 4, 5, 6] [] [] true
abbrev A20 := aN [0, 2, 3, 4, 5, 6, 7, 8, 9, 10, 11, 12, 13, 14, 15, 68] [(0, [13])] [(7, 0)] false
abbrev A21 := aN [0, 2, 3, 4] [(0, [4])] [] false
abbrev A34 := aN [0, 2, 3, 4, 5, 6, 7, 8, 9, 11] [(0, [7, 8]), (1, [8])] [] false
abbrev A33 := aN [0, 1, 4, 5, 6, 7, 8] [] [] false
abbrev A58 := aN [0, 1, 4] [] [] false
abbrev A59 := aN [0, 2, 3, 4] [(0, [4])] [] false
abbrev A54 := aN [0, 2, 3] [] [] false
abbrev A97 := aN [0, 1, 4] [] [] false
abbrev A60 := aN [0, 1, 4] [] [] false
abbrev A8 := aN [0, 1, 2, 3, 4, 5, 10, 11, 12, 13, 14, 15] [(0, [13]), (2, [15]), (3, [15]), (4, [15])] [(10, 2)] true
abbrev A13 := aN [0, 1, 2, 3, 4, 5, 10, 11, 12] [] [(3, 0)] true
abbrev A31 := aN [0, 1, 2, 3, 8, 9] [] [] false
abbrev A32 : Ann := { vars := [0, 1, 4, 5, 6, 7, 8, 9, 10], kills := [(0, [7, 8, 9]), (1, [8, 9]), (2, [9]), (4, [10])], owned := [(6, 15)], isPure := false, dyn := [6], bad := [], pend := [] }
abbrev A50 := aN [0, 1, 2, 6, 7, 8, 9, 10, 11, 12, 13, 14, 15, 16, 17] [(0, [7, 8, 9, 10, 11, 12, 13, 14, 15, 16, 17]), (1, [8, 9, 10, 11, 12, 13, 14, 15, 16, 17]), (2, [9, 10, 11, 12, 13, 14, 15, 16, 17]), (3, [10, 11, 12, 13, 14, 15, 16, 17]), (4, [16, 17]), (5, [17])] [(4, 0), (17, 0)] false
abbrev A53 := aN [0, 1, 2, 6, 7, 8, 9, 10] [(0, [9]), (2, [10])] [(1, 0), (2, 0)] false
abbrev A49 := aN [0, 1, 2, 3, 8, 9] [(0, [9])] [] true
abbrev A52 := aN [0, 1, 4, 5] [(0, [5])] [] true
abbrev A51 := aN [0, 1, 4, 5, 6] [(0, [6])] [] false
abbrev A83 := aN [0, 1, 2, 3, 5, 6, 7, 8, 9, 10, 12] [(0, [8])] [] true
abbrev A85 := aN [0, 1, 2, 6, 7, 8, 9, 10, 11] [(0, [9, 10, 11]), (1, [10, 11])] [(1, 0)] true
abbrev A82 := aN [0, 1, 4, 5] [(0, [5])] [] true
abbrev A86 := aN [0, 1, 2, 6, 7] [] [] true
abbrev A87 := aN [0, 1, 2, 6, 7, 8, 9, 10] [(0, [9]), (2, [10])] [(1, 0), (14, 0)] true
abbrev A132 := aN [0, 1, 4, 5, 6, 7] [(0, [7])] [] true
abbrev A133 := aN [0, 1, 2, 3, 6, 7, 8, 9, 10, 11, 12, 13, 41] [(0, [10, 11, 12, 13, 41]), (1, [11, 12, 13, 41])] [] true
abbrev A135 := aN [0, 2, 3, 4, 5] [(0, [5])] [] true
abbrev A84 := aN [0, 1, 3, 4, 5] [(0, [5])] [] false
abbrev A136 := aN [0, 2, 3] [(0, [3])] [] true
abbrev A176 := aN [0, 1, 4, 5, 6] [(0, [6])] [] true
abbrev A177 := aN [0, 2] [] [] true
abbrev A178 := aN [0, 1, 2, 6, 7, 8] [] [] true
abbrev A134 := aN [0, 1, 4, 5] [(0, [5])] [] true
abbrev A7 := aN [0, 1, 2, 3, 4, 5, 10, 11, 12, 13, 14] [(0, [14]), (1, [14]), (2, [14])] [] true
abbrev A11 := aN [0, 1, 2, 3, 4, 5, 10, 11, 12] [] [] true
abbrev A26 := aN [0, 1, 2, 3, 8, 9] [] [(4, 11)] false
abbrev A27 := aN [0, 1, 4, 5, 7, 9, 31, 32, 33, 60, 61, 62] [(0, [7, 33]), (1, [7]), (2, [9, 62]), (3, [9])] [] false
abbrev A44 := aN [0, 1, 2, 3, 4, 10, 11, 12, 13, 14, 15, 17, 109, 110, 111] [(0, [17, 111]), (1, [17])] [] false
abbrev A47 := aN [0, 1, 2, 6, 7, 8] [] [(3, 7), (4, 10)] false
abbrev A70 := aN [0, 1, 2, 3, 8, 9, 11] [] [] false
abbrev A42 := aN [0, 1, 2, 3, 4, 5, 6, 7, 8] [] [] true
abbrev A68 := aN [0, 1, 2, 3, 4, 5] [] [] false
abbrev A69 := aN [0, 1, 2, 3, 4, 8] [] [] true
abbrev A43 := aN [0, 2] [] [(1, 0)] true
abbrev A67 := aN [0, 1, 4, 5, 7, 8] [(0, [5, 8]), (1, [5])] [] false
abbrev A103 := aN [0, 1, 4, 5, 12, 13] [(0, [5, 13]), (1, [5])] [] true
abbrev A71 := aN [0, 1, 4] [] [] true
abbrev A106 := aN [0, 1, 4, 5, 7, 8] [(0, [5, 8]), (1, [5])] [] true
abbrev A118 := aN [0, 1, 4] [] [] true
abbrev A169 := aN [0, 2] [] [] true
abbrev A123 := aN [0, 2] [] [] true
abbrev A77 := aN [0, 1, 4, 5, 6, 7, 8, 9] [(0, [8, 9]), (1, [9])] [] true
abbrev A107 := aN [0, 1, 4] [] [] true
abbrev A156 := aN [0, 1, 4] [] [] true
abbrev A72 := aN [0, 1, 2, 3, 4, 8, 9, 10, 11, 13] [] [] true
abbrev A24 := aN [0, 2, 4, 5, 6, 7] [(0, [4, 7]), (1, [4])] [] true
abbrev A73 := aN [0, 1, 2, 3, 6, 7, 8, 10, 11, 12, 15, 16, 17] [(0, [10, 11, 12, 17]), (1, [10, 11, 12])] [(1, 0)] true
abbrev A74 := aN [0, 1, 2, 3, 6, 7] [] [] true
abbrev A45 := aN [0, 1, 2, 4, 5, 6, 7, 10, 11, 12] [(0, [6, 7, 12]), (1, [6, 7])] [(1, 0)] true
abbrev A109 := aN [0, 1, 2, 3, 6, 7, 8, 9, 10, 11, 12, 21, 22, 23] [(0, [9, 10, 11, 12, 23]), (1, [9, 10, 11, 12])] [] true
abbrev A159 := aN [0, 1, 2, 3, 4, 8, 9, 11] [] [] true
abbrev A200 := aN [0, 1, 4, 5, 7, 8, 9, 10] [(0, [7, 10]), (1, [7])] [] true
abbrev A110 := aN [0, 1, 2, 6, 7, 8, 9, 11, 12, 15, 16, 17] [(0, [11, 17]), (1, [11])] [(1, 0), (1, 1), (10, 4), (10, 6)] true
abbrev A162 := aN [0, 2, 3, 4, 5, 6, 7] [(0, [3, 4, 7]), (1, [3, 4])] [] true
abbrev A111 := aN [0, 2, 3, 4, 5, 10, 11] [(0, [5, 11]), (1, [5])] [] true
abbrev A108 := aN [0, 1, 4] [] [] true
abbrev A105 := aN [0, 2, 3, 5, 6, 8, 9, 10] [(0, [5, 6, 10]), (1, [5, 6])] [(1, 0)] true
abbrev A201 := aN [0, 1, 2, 6, 7, 8] [] [] true
abbrev A220 := aN [0, 2] [] [] true
abbrev A163 := aN [0, 2] [] [(1, 0)] true
abbrev A161 := aN [0, 2, 3, 5, 6, 8, 9, 10, 11, 25, 26, 27] [(0, [5, 11]), (1, [5]), (2, [8, 27]), (3, [8])] [] false
abbrev A202 := aN [0, 1, 4] [] [] false
def annL : List (Nat × Ann) := [(22, A22), (23, A23), (25, A25), (28, A28), (29, A29), (30, A30), (35, A35), (37, A37), (38, A38), (39, A39), (40, A40), (41, A41), (48, A48), (55, A55), (56, A56), (57, A57), (61, A61), (62, A62), (63, A63), (64, A64), (65, A65), (66, A66), (76, A76), (79, A79), (80, A80), (81, A81), (88, A88), (89, A89), (90, A90), (91, A91), (92, A92), (93, A93), (94, A94), (95, A95), (96, A96), (98, A98), (99, A99), (100, A100), (101, A101), (102, A102), (104, A104), (122, A122), (126, A126), (127, A127), (128, A128), (129, A129), (130, A130), (131, A131), (137, A137), (138, A138), (139, A139), (140, A140), (141, A141), (142, A142), (143, A143), (144, A144), (145, A145), (146, A146), (147, A147), (148, A148), (149, A149), (150, A150), (151, A151), (152, A152), (153, A153), (154, A154), (157, A157), (158, A158), (160, A160), (171, A171), (172, A172), (173, A173), (174, A174), (175, A175), (179, A179), (180, A180), (181, A181), (182, A182), (183, A183), (184, A184), (185, A185), (186, A186), (187, A187), (188, A188), (190, A190), (191, A191), (192, A192), (193, A193), (194, A194), (195, A195), (196, A196), (205, A205), (206, A206), (207, A207), (208, A208), (209, A209), (210, A210), (211, A211), (213, A213), (214, A214), (215, A215), (216, A216), (217, A217), (221, A221), (222, A222), (223, A223), (229, A229), (232, A232), (238, A238), (241, A241), (247, A247), (248, A248), (252, A252), (256, A256), (261, A261), (262, A262), (267, A267), (268, A268), (269, A269), (3, A3), (5, A5), (9, A9), (10, A10), (12, A12), (6, A6), (20, A20), (21, A21), (34, A34), (33, A33), (58, A58), (59, A59), (54, A54), (97, A97), (60, A60), (8, A8), (13, A13), (31, A31), (32, A32), (50, A50), (53, A53), (49, A49), (52, A52), (51, A51), (83, A83), (85, A85), (82, A82), (86, A86), (87, A87), (132, A132), (133, A133), (135, A135), (84, A84), (136, A136), (176, A176), (177, A177), (178, A178), (134, A134), (7, A7), (11, A11), (26, A26), (27, A27), (44, A44), (47, A47), (70, A70), (42, A42), (68, A68), (69, A69), (43, A43), (67, A67), (103, A103), (71, A71), (106, A106), (118, A118), (169, A169), (123, A123), (77, A77), (107, A107), (156, A156), (72, A72), (24, A24), (73, A73), (74, A74), (45, A45), (109, A109), (159, A159), (200, A200), (110, A110), (162, A162), (111, A111), (108, A108), (105, A105), (201, A201), (220, A220), (163, A163), (161, A161), (202, A202)]

def tyF (l : List (Nat × TI)) (t : TypeId) : Option TI := match l with
 | [] => none
 | (g, A) :: r => match Nat.beq g t with
  | true => some A
  | false => tyF r t
def annF (l : List (Nat × Ann)) (f : FuncId) : Option Ann := match l with
 | [] => none
 | (g, A) :: r => match Nat.beq g f with
  | true => some A
  | false => annF r f
def extG (f : FuncId) : Option (List T → Option T) := match Nat.beq f 189 with | true => some idxG | false => match Nat.beq f 155 with | true => some qty | false => none
def extP (f : FuncId) : Bool := (extG f).isSome
def extF : qbo := fun f args σ => match Nat.beq f 78 with | true => insV args σ | false => match Nat.beq f 46 with | true => srtV args σ | false => match extG f with
 | some g => gExt g args σ
 | none => none
noncomputable def S : Sy := { P := Tryz.prog, ty := tyF tyL, ann := annF annL, ext := extF, extPure := extP }
def ixL : List Nat := [22, 23, 25, 28, 29, 30, 35, 37, 38, 39, 40, 41, 48, 55, 56, 57, 61, 62, 63, 64, 65, 66, 76, 79, 80, 81, 88, 89, 90, 91, 92, 93, 94, 95, 96, 98, 99, 100, 101, 102, 104, 122, 126, 127, 128, 129, 130, 131, 137, 138, 139, 140, 141, 142, 143, 144, 145, 146, 147, 148, 149, 150, 151, 152, 153, 154, 157, 158, 160, 171, 172, 173, 174, 175, 179, 180, 181, 182, 183, 184, 185, 186, 187, 188, 189, 190, 191, 192, 193, 194, 195, 196, 205, 206, 207, 208, 209, 210, 211, 213, 214, 215, 216, 217, 221, 222, 223, 229, 232, 238, 241, 247, 248, 252, 256, 261, 262, 267, 268, 269]

def ixG : List Nat → Nat → Nat → Ix
 | [], _, _ => none
 | g :: r, i, h => match Nat.beq g h with
  | true => match ixI (i / 16), ixI (i % 16) with
   | some a, some b => some (a, b)
   | _, _ => none
  | false => ixG r (i + 1) h
def ixf (h : FuncId) : Ix := ixG ixL 0 h
def KF (f : FuncId) (A : Ann) : Prop := ∃ fn c, S.P.funcs[f]? = some fn ∧ fn.body = some c ∧ qdg S.ty S.pf A fn.ntmps c = true ∧ (fn.name == "runtime.NumGoroutine") = false
end X
