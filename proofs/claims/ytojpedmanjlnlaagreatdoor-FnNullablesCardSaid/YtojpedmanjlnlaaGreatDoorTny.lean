import Derived.Test.YtojpedmanjlnlaaGreatDoorTnt
import Derived.Test.YtojpedmanjlnlaaGreatDoorVc
/- The types, one by one; for symbolic walks. -/
open Go Go.V Go.Proofs
namespace X
set_option maxRecDepth 100000
set_option maxHeartbeats 4000000
set_option linter.all false
@[simp] theorem ty2 : S.ty 2 = some { agg := false, size := 1, bytes := 8, zero := (some (.int .i64 0)), shape := (.int .i64), eqs := false } := by kernel_rfl
@[simp] theorem ty3 : S.ty 3 = some { agg := false, size := 1, bytes := 8, zero := (some (.int .i64 0)), shape := (.int .i64), eqs := false } := by kernel_rfl
@[simp] theorem ty4 : S.ty 4 = some { agg := false, size := 1, bytes := 1, zero := (some (.bool false)), shape := .bool, eqs := false } := by kernel_rfl
@[simp] theorem ty5 : S.ty 5 = some { agg := false, size := 1, bytes := 1, zero := (some (.int .u8 0)), shape := (.int .u8), eqs := false } := by kernel_rfl
@[simp] theorem ty9 : S.ty 9 = some { agg := false, size := 1, bytes := 16, zero := (some (.str [])), shape := .str, eqs := false } := by kernel_rfl
@[simp] theorem ty22 : S.ty 22 = some { agg := false, size := 1, bytes := 24, zero := (some .nils), shape := (.slice 5), eqs := false } := by kernel_rfl
@[simp] theorem ty24 : S.ty 24 = some { agg := false, size := 1, bytes := 24, zero := (some .nils), shape := (.slice 52), eqs := false } := by kernel_rfl
@[simp] theorem ty26 : S.ty 26 = some { agg := true, size := 1, bytes := 24, zero := (some (.agg [.nils])), shape := (.struct [(0, 24)]), eqs := false } := by kernel_rfl
@[simp] theorem ty31 : S.ty 31 = some { agg := false, size := 1, bytes := 24, zero := (some .nils), shape := (.slice 9), eqs := false } := by kernel_rfl
@[simp] theorem ty35 : S.ty 35 = some { agg := false, size := 1, bytes := 24, zero := (some .nils), shape := (.slice 113), eqs := false } := by kernel_rfl
@[simp] theorem ty36 : S.ty 36 = some { agg := false, size := 1, bytes := 24, zero := (some .nils), shape := (.slice 72), eqs := false } := by kernel_rfl
@[simp] theorem ty38 : S.ty 38 = some { agg := true, size := 2, bytes := 48, zero := (some (.agg [.nils, .nils])), shape := (.struct [(0, 35), (1, 36)]), eqs := false } := by kernel_rfl
@[simp] theorem ty48 : S.ty 48 = some { agg := false, size := 1, bytes := 24, zero := (some .nils), shape := (.slice 4), eqs := false } := by kernel_rfl
@[simp] theorem ty50 : S.ty 50 = some { agg := false, size := 1, bytes := 24, zero := (some .nils), shape := (.slice 62), eqs := false } := by kernel_rfl
@[simp] theorem ty52 : S.ty 52 = some { agg := true, size := 3, bytes := 64, zero := (some (.agg [(.str []), .nils, .nils])), shape := (.struct [(0, 9), (1, 31), (2, 50)]), eqs := false } := by kernel_rfl
@[simp] theorem ty54 : S.ty 54 = some { agg := false, size := 1, bytes := 24, zero := (some .nils), shape := (.slice 3), eqs := false } := by kernel_rfl
@[simp] theorem ty58 : S.ty 58 = some { agg := false, size := 1, bytes := 24, zero := (some .nils), shape := (.slice 48), eqs := false } := by kernel_rfl
@[simp] theorem ty60 : S.ty 60 = some { agg := false, size := 1, bytes := 24, zero := (some .nils), shape := (.slice 86), eqs := false } := by kernel_rfl
@[simp] theorem ty62 : S.ty 62 = some { agg := true, size := 1, bytes := 24, zero := (some (.agg [.nils])), shape := (.struct [(0, 60)]), eqs := false } := by kernel_rfl
@[simp] theorem ty63 : S.ty 63 = some { agg := false, size := 1, bytes := 24, zero := (some .nils), shape := (.slice 74), eqs := false } := by kernel_rfl
@[simp] theorem ty68 : S.ty 68 = some { agg := true, size := 5, bytes := 72, zero := (some (.agg [.nils, (.int .i64 0), (.int .i64 0), (.bool false), .nils])), shape := (.struct [(0, 63), (1, 3), (2, 3), (3, 4), (4, 35)]), eqs := false } := by kernel_rfl
@[simp] theorem ty72 : S.ty 72 = some { agg := true, size := 3, bytes := 48, zero := (some (.agg [(.str []), .nils, (.int .i64 0)])), shape := (.struct [(0, 9), (1, 31), (2, 3)]), eqs := false } := by kernel_rfl
@[simp] theorem ty74 : S.ty 74 = some { agg := true, size := 2, bytes := 24, zero := (some (.agg [(.int .i64 0), (.str [])])), shape := (.struct [(0, 3), (1, 9)]), eqs := true } := by kernel_rfl
@[simp] theorem ty80 : S.ty 80 = some { agg := true, size := 3, bytes := 40, zero := (some (.agg [.nils, (.int .i64 0), (.int .i64 0)])), shape := (.struct [(0, 22), (1, 3), (2, 3)]), eqs := false } := by kernel_rfl
@[simp] theorem ty84 : S.ty 84 = some { agg := false, size := 1, bytes := 24, zero := (some .nils), shape := (.slice 89), eqs := false } := by kernel_rfl
@[simp] theorem ty86 : S.ty 86 = some { agg := true, size := 4, bytes := 64, zero := (some (.agg [(.int .i64 0), (.str []), .nils, (.str [])])), shape := (.struct [(0, 3), (1, 9), (2, 84), (3, 9)]), eqs := false } := by kernel_rfl
@[simp] theorem ty87 : S.ty 87 = some { agg := false, size := 1, bytes := 24, zero := (some .nils), shape := (.slice 130), eqs := false } := by kernel_rfl
@[simp] theorem ty89 : S.ty 89 = some { agg := true, size := 1, bytes := 24, zero := (some (.agg [.nils])), shape := (.struct [(0, 87)]), eqs := false } := by kernel_rfl
@[simp] theorem ty98 : S.ty 98 = some { agg := false, size := 1, bytes := 24, zero := (some .nils), shape := (.slice 104), eqs := false } := by kernel_rfl
@[simp] theorem ty100 : S.ty 100 = some { agg := true, size := 1, bytes := 24, zero := (some (.agg [.nils])), shape := (.struct [(0, 98)]), eqs := false } := by kernel_rfl
@[simp] theorem ty104 : S.ty 104 = some { agg := true, size := 5, bytes := 88, zero := (some (.agg [(.int .i64 0), .nils, (.int .i64 0), .nils, .nils])), shape := (.struct [(0, 3), (1, 54), (2, 3), (3, 54), (4, 54)]), eqs := false } := by kernel_rfl
@[simp] theorem ty113 : S.ty 113 = some { agg := true, size := 5, bytes := 88, zero := (some (.agg [(.int .i64 0), (.str []), .nils, (.str []), .nils])), shape := (.struct [(0, 3), (1, 9), (2, 84), (3, 9), (4, 54)]), eqs := false } := by kernel_rfl
@[simp] theorem ty117 : S.ty 117 = some { agg := false, size := 1, bytes := 24, zero := (some .nils), shape := (.slice 124), eqs := false } := by kernel_rfl
@[simp] theorem ty119 : S.ty 119 = some { agg := true, size := 5, bytes := 104, zero := (some (.agg [.nils, .nils, .nils, .nils, (.int .i64 0)])), shape := (.struct [(0, 38), (2, 26), (3, 117), (4, 3)]), eqs := false } := by kernel_rfl
@[simp] theorem ty124 : S.ty 124 = some { agg := true, size := 3, bytes := 40, zero := (some (.agg [(.int .i64 0), (.int .i64 0), .nils])), shape := (.struct [(0, 3), (1, 3), (2, 31)]), eqs := false } := by kernel_rfl
@[simp] theorem ty130 : S.ty 130 = some { agg := true, size := 4, bytes := 56, zero := (some (.agg [(.int .i64 0), (.int .i64 0), (.str []), .nils])), shape := (.struct [(0, 3), (1, 3), (2, 9), (3, 54)]), eqs := false } := by kernel_rfl
@[simp] theorem ty139 : S.ty 139 = some { agg := false, size := 1, bytes := 8, zero := (some .nilm), shape := (.map 9 3), eqs := false } := by kernel_rfl
@[simp] theorem ty141 : S.ty 141 = some { agg := true, size := 7, bytes := 112, zero := (some (.agg [.nils, (.str []), .nils, (.int .i64 0), (.bool false), .nils, .nilm])), shape := (.struct [(0, 26), (1, 9), (2, 100), (3, 3), (4, 4), (5, 54), (6, 139)]), eqs := false } := by kernel_rfl
@[simp] theorem ty148 : S.ty 148 = some { agg := false, size := 1, bytes := 8, zero := (some (.int .u64 0)), shape := (.int .u64), eqs := false } := by kernel_rfl
@[simp] theorem ty167 : S.ty 167 = some { agg := false, size := 1, bytes := 24, zero := (some .nils), shape := (.slice 202), eqs := false } := by kernel_rfl
@[simp] theorem ty172 : S.ty 172 = some { agg := false, size := 1, bytes := 8, zero := (some (.int .i64 0)), shape := (.int .i64), eqs := false } := by kernel_rfl
@[simp] theorem ty180 : S.ty 180 = some { agg := false, size := 1, bytes := 4, zero := (some (.int .u32 0)), shape := (.int .u32), eqs := false } := by kernel_rfl
@[simp] theorem ty182 : S.ty 182 = some { agg := false, size := 1, bytes := 8, zero := (some (.int .u64 0)), shape := (.int .u64), eqs := false } := by kernel_rfl
@[simp] theorem ty202 : S.ty 202 = some { agg := true, size := 2, bytes := 24, zero := (some (.agg [(.str []), (.int .i64 0)])), shape := (.struct [(0, 9), (1, 3)]), eqs := true } := by kernel_rfl
@[simp] theorem ty254 : S.ty 254 = some { agg := true, size := 2, bytes := 32, zero := (some (.agg [.nilp, .nils])), shape := (.struct [(0, 252), (1, 22)]), eqs := false } := by kernel_rfl
@[simp] theorem ty271 : S.ty 271 = some { agg := true, size := 24, bytes := 24, zero := (some (.agg [(.int .u8 0), (.int .u8 0), (.int .u8 0), (.int .u8 0), (.int .u8 0), (.int .u8 0), (.int .u8 0), (.int .u8 0), (.int .u8 0), (.int .u8 0), (.int .u8 0), (.int .u8 0), (.int .u8 0), (.int .u8 0), (.int .u8 0), (.int .u8 0), (.int .u8 0), (.int .u8 0), (.int .u8 0), (.int .u8 0), (.int .u8 0), (.int .u8 0), (.int .u8 0), (.int .u8 0)])), shape := (.array 24 5), eqs := false } := by kernel_rfl
end X
