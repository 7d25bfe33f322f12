import Derived.Test.YtbdadoeankjnkaaGreatDoorTrt
import Derived.Test.YtbdadoeankjnkaaGreatDoorVc
/- The types, one by one; for symbolic walks. -/
open Go Go.V Go.Proofs
namespace X
set_option maxRecDepth 100000
set_option maxHeartbeats 4000000
set_option linter.all false
@[simp] theorem ty2 : S.ty 2 = some { agg := false, size := 1, bytes := 8, zero := (some (.int .i64 0)), shape := (.int .i64), eqs := false } := by kernel_rfl
@[simp] theorem ty3 : S.ty 3 = some { agg := false, size := 1, bytes := 8, zero := (some (.int .i64 0)), shape := (.int .i64), eqs := false } := by kernel_rfl
@[simp] theorem ty4 : S.ty 4 = some { agg := false, size := 1, bytes := 1, zero := (some (.bool false)), shape := .bool, eqs := false } := by kernel_rfl
@[simp] theorem ty5 : S.ty 5 = some { agg := false, size := 1, bytes := 1, zero := (some (.int .u8 0)), shape := (.int .u8), eqs := false } := by kernel_rfl
@[simp] theorem ty9 : S.ty 9 = some { agg := false, size := 1, bytes := 16, zero := (some (.str [])), shape := .str, eqs := false } := by kernel_rfl
@[simp] theorem ty22 : S.ty 22 = some { agg := false, size := 1, bytes := 24, zero := (some .nils), shape := (.slice 5), eqs := false } := by kernel_rfl
@[simp] theorem ty24 : S.ty 24 = some { agg := false, size := 1, bytes := 24, zero := (some .nils), shape := (.slice 58), eqs := false } := by kernel_rfl
@[simp] theorem ty26 : S.ty 26 = some { agg := true, size := 1, bytes := 24, zero := (some (.agg [.nils])), shape := (.struct [(0, 24)]), eqs := false } := by kernel_rfl
@[simp] theorem ty27 : S.ty 27 = some { agg := false, size := 1, bytes := 24, zero := (some .nils), shape := (.slice 3), eqs := false } := by kernel_rfl
@[simp] theorem ty30 : S.ty 30 = some { agg := false, size := 1, bytes := 24, zero := (some .nils), shape := (.slice 37), eqs := false } := by kernel_rfl
@[simp] theorem ty32 : S.ty 32 = some { agg := true, size := 1, bytes := 24, zero := (some (.agg [.nils])), shape := (.struct [(0, 30)]), eqs := false } := by kernel_rfl
@[simp] theorem ty37 : S.ty 37 = some { agg := true, size := 5, bytes := 88, zero := (some (.agg [(.int .i64 0), .nils, (.int .i64 0), .nils, .nils])), shape := (.struct [(0, 3), (1, 27), (2, 3), (3, 27), (4, 27)]), eqs := false } := by kernel_rfl
@[simp] theorem ty55 : S.ty 55 = some { agg := false, size := 1, bytes := 24, zero := (some .nils), shape := (.slice 9), eqs := false } := by kernel_rfl
@[simp] theorem ty56 : S.ty 56 = some { agg := false, size := 1, bytes := 24, zero := (some .nils), shape := (.slice 81), eqs := false } := by kernel_rfl
@[simp] theorem ty58 : S.ty 58 = some { agg := true, size := 3, bytes := 64, zero := (some (.agg [(.str []), .nils, .nils])), shape := (.struct [(0, 9), (1, 55), (2, 56)]), eqs := false } := by kernel_rfl
@[simp] theorem ty62 : S.ty 62 = some { agg := false, size := 1, bytes := 8, zero := (some .nilm), shape := (.map 9 3), eqs := false } := by kernel_rfl
@[simp] theorem ty64 : S.ty 64 = some { agg := true, size := 7, bytes := 112, zero := (some (.agg [.nils, (.str []), .nils, (.int .i64 0), (.bool false), .nils, .nilm])), shape := (.struct [(0, 26), (1, 9), (2, 32), (3, 3), (4, 4), (5, 27), (6, 62)]), eqs := false } := by kernel_rfl
@[simp] theorem ty69 : S.ty 69 = some { agg := true, size := 6, bytes := 80, zero := (some (.agg [.nils, (.str []), .nils, (.int .i64 0), (.bool false), (.bool false)])), shape := (.struct [(0, 26), (1, 9), (2, 30), (3, 3), (4, 4), (5, 4)]), eqs := false } := by kernel_rfl
@[simp] theorem ty74 : S.ty 74 = some { agg := true, size := 3, bytes := 40, zero := (some (.agg [.nils, (.int .i64 0), (.int .i64 0)])), shape := (.struct [(0, 22), (1, 3), (2, 3)]), eqs := false } := by kernel_rfl
@[simp] theorem ty79 : S.ty 79 = some { agg := false, size := 1, bytes := 24, zero := (some .nils), shape := (.slice 117), eqs := false } := by kernel_rfl
@[simp] theorem ty81 : S.ty 81 = some { agg := true, size := 1, bytes := 24, zero := (some (.agg [.nils])), shape := (.struct [(0, 79)]), eqs := false } := by kernel_rfl
@[simp] theorem ty86 : S.ty 86 = some { agg := false, size := 1, bytes := 24, zero := (some .nils), shape := (.slice 129), eqs := false } := by kernel_rfl
@[simp] theorem ty92 : S.ty 92 = some { agg := false, size := 1, bytes := 24, zero := (some .nils), shape := (.slice 4), eqs := false } := by kernel_rfl
@[simp] theorem ty93 : S.ty 93 = some { agg := false, size := 1, bytes := 24, zero := (some .nils), shape := (.slice 97), eqs := false } := by kernel_rfl
@[simp] theorem ty97 : S.ty 97 = some { agg := true, size := 2, bytes := 32, zero := (some (.agg [(.int .i64 0), .nils])), shape := (.struct [(0, 3), (1, 86)]), eqs := false } := by kernel_rfl
@[simp] theorem ty101 : S.ty 101 = some { agg := false, size := 1, bytes := 24, zero := (some .nils), shape := (.slice 194), eqs := false } := by kernel_rfl
@[simp] theorem ty102 : S.ty 102 = some { agg := false, size := 1, bytes := 24, zero := (some .nils), shape := (.slice 154), eqs := false } := by kernel_rfl
@[simp] theorem ty104 : S.ty 104 = some { agg := true, size := 2, bytes := 48, zero := (some (.agg [.nils, .nils])), shape := (.struct [(0, 101), (1, 102)]), eqs := false } := by kernel_rfl
@[simp] theorem ty115 : S.ty 115 = some { agg := false, size := 1, bytes := 24, zero := (some .nils), shape := (.slice 171), eqs := false } := by kernel_rfl
@[simp] theorem ty117 : S.ty 117 = some { agg := true, size := 4, bytes := 64, zero := (some (.agg [(.int .i64 0), (.str []), .nils, (.str [])])), shape := (.struct [(0, 3), (1, 9), (2, 115), (3, 9)]), eqs := false } := by kernel_rfl
@[simp] theorem ty129 : S.ty 129 = some { agg := true, size := 2, bytes := 24, zero := (some (.agg [(.str []), (.int .i64 0)])), shape := (.struct [(0, 9), (1, 3)]), eqs := true } := by kernel_rfl
@[simp] theorem ty132 : S.ty 132 = some { agg := false, size := 1, bytes := 8, zero := (some (.int .u64 0)), shape := (.int .u64), eqs := false } := by kernel_rfl
@[simp] theorem ty145 : S.ty 145 = some { agg := false, size := 1, bytes := 24, zero := (some .nils), shape := (.slice 156), eqs := false } := by kernel_rfl
@[simp] theorem ty150 : S.ty 150 = some { agg := true, size := 5, bytes := 72, zero := (some (.agg [.nils, (.int .i64 0), (.int .i64 0), (.bool false), .nils])), shape := (.struct [(0, 145), (1, 3), (2, 3), (3, 4), (4, 101)]), eqs := false } := by kernel_rfl
@[simp] theorem ty154 : S.ty 154 = some { agg := true, size := 3, bytes := 48, zero := (some (.agg [(.str []), .nils, (.int .i64 0)])), shape := (.struct [(0, 9), (1, 55), (2, 3)]), eqs := false } := by kernel_rfl
@[simp] theorem ty156 : S.ty 156 = some { agg := true, size := 2, bytes := 24, zero := (some (.agg [(.int .i64 0), (.str [])])), shape := (.struct [(0, 3), (1, 9)]), eqs := true } := by kernel_rfl
@[simp] theorem ty169 : S.ty 169 = some { agg := false, size := 1, bytes := 24, zero := (some .nils), shape := (.slice 215), eqs := false } := by kernel_rfl
@[simp] theorem ty171 : S.ty 171 = some { agg := true, size := 1, bytes := 24, zero := (some (.agg [.nils])), shape := (.struct [(0, 169)]), eqs := false } := by kernel_rfl
@[simp] theorem ty173 : S.ty 173 = some { agg := false, size := 1, bytes := 8, zero := (some (.int .i64 0)), shape := (.int .i64), eqs := false } := by kernel_rfl
@[simp] theorem ty181 : S.ty 181 = some { agg := false, size := 1, bytes := 4, zero := (some (.int .u32 0)), shape := (.int .u32), eqs := false } := by kernel_rfl
@[simp] theorem ty183 : S.ty 183 = some { agg := false, size := 1, bytes := 8, zero := (some (.int .u64 0)), shape := (.int .u64), eqs := false } := by kernel_rfl
@[simp] theorem ty194 : S.ty 194 = some { agg := true, size := 5, bytes := 88, zero := (some (.agg [(.int .i64 0), (.str []), .nils, (.str []), .nils])), shape := (.struct [(0, 3), (1, 9), (2, 115), (3, 9), (4, 27)]), eqs := false } := by kernel_rfl
@[simp] theorem ty198 : S.ty 198 = some { agg := false, size := 1, bytes := 24, zero := (some .nils), shape := (.slice 204), eqs := false } := by kernel_rfl
@[simp] theorem ty200 : S.ty 200 = some { agg := true, size := 5, bytes := 104, zero := (some (.agg [.nils, .nils, .nils, .nils, (.int .i64 0)])), shape := (.struct [(0, 104), (2, 26), (3, 198), (4, 3)]), eqs := false } := by kernel_rfl
@[simp] theorem ty204 : S.ty 204 = some { agg := true, size := 3, bytes := 40, zero := (some (.agg [(.int .i64 0), (.int .i64 0), .nils])), shape := (.struct [(0, 3), (1, 3), (2, 55)]), eqs := false } := by kernel_rfl
@[simp] theorem ty215 : S.ty 215 = some { agg := true, size := 4, bytes := 56, zero := (some (.agg [(.int .i64 0), (.int .i64 0), (.str []), .nils])), shape := (.struct [(0, 3), (1, 3), (2, 9), (3, 27)]), eqs := false } := by kernel_rfl
@[simp] theorem ty248 : S.ty 248 = some { agg := false, size := 1, bytes := 24, zero := (some .nils), shape := (.slice 86), eqs := false } := by kernel_rfl
@[simp] theorem ty277 : S.ty 277 = some { agg := true, size := 24, bytes := 24, zero := (some (.agg [(.int .u8 0), (.int .u8 0), (.int .u8 0), (.int .u8 0), (.int .u8 0), (.int .u8 0), (.int .u8 0), (.int .u8 0), (.int .u8 0), (.int .u8 0), (.int .u8 0), (.int .u8 0), (.int .u8 0), (.int .u8 0), (.int .u8 0), (.int .u8 0), (.int .u8 0), (.int .u8 0), (.int .u8 0), (.int .u8 0), (.int .u8 0), (.int .u8 0), (.int .u8 0), (.int .u8 0)])), shape := (.array 24 5), eqs := false } := by kernel_rfl
end X
