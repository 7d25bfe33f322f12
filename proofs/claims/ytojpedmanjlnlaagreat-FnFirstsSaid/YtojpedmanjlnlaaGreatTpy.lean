import Derived.Test.YtojpedmanjlnlaaGreatTpt
import Derived.Test.YtojpedmanjlnlaaGreatVc
/- The types, one by one; for symbolic walks. -/
open Go Go.V Go.Proofs
namespace X
set_option maxRecDepth 100000
set_option maxHeartbeats 4000000
set_option linter.all false
@[simp] theorem ty3 : S.ty 3 = some { agg := false, size := 1, bytes := 8, zero := (some (.int .i64 0)), shape := (.int .i64), eqs := false } := by kernel_rfl
@[simp] theorem ty4 : S.ty 4 = some { agg := false, size := 1, bytes := 1, zero := (some (.bool false)), shape := .bool, eqs := false } := by kernel_rfl
@[simp] theorem ty5 : S.ty 5 = some { agg := false, size := 1, bytes := 1, zero := (some (.int .u8 0)), shape := (.int .u8), eqs := false } := by kernel_rfl
@[simp] theorem ty9 : S.ty 9 = some { agg := false, size := 1, bytes := 16, zero := (some (.str [])), shape := .str, eqs := false } := by kernel_rfl
@[simp] theorem ty22 : S.ty 22 = some { agg := false, size := 1, bytes := 24, zero := (some .nils), shape := (.slice 5), eqs := false } := by kernel_rfl
@[simp] theorem ty24 : S.ty 24 = some { agg := false, size := 1, bytes := 24, zero := (some .nils), shape := (.slice 35), eqs := false } := by kernel_rfl
@[simp] theorem ty26 : S.ty 26 = some { agg := true, size := 1, bytes := 24, zero := (some (.agg [.nils])), shape := (.struct [(0, 24)]), eqs := false } := by kernel_rfl
@[simp] theorem ty29 : S.ty 29 = some { agg := false, size := 1, bytes := 24, zero := (some .nils), shape := (.slice 9), eqs := false } := by kernel_rfl
@[simp] theorem ty32 : S.ty 32 = some { agg := false, size := 1, bytes := 24, zero := (some .nils), shape := (.slice 3), eqs := false } := by kernel_rfl
@[simp] theorem ty33 : S.ty 33 = some { agg := false, size := 1, bytes := 24, zero := (some .nils), shape := (.slice 54), eqs := false } := by kernel_rfl
@[simp] theorem ty35 : S.ty 35 = some { agg := true, size := 3, bytes := 64, zero := (some (.agg [(.str []), .nils, .nils])), shape := (.struct [(0, 9), (1, 29), (2, 33)]), eqs := false } := by kernel_rfl
@[simp] theorem ty46 : S.ty 46 = some { agg := false, size := 1, bytes := 24, zero := (some .nils), shape := (.slice 4), eqs := false } := by kernel_rfl
@[simp] theorem ty50 : S.ty 50 = some { agg := false, size := 1, bytes := 24, zero := (some .nils), shape := (.slice 46), eqs := false } := by kernel_rfl
@[simp] theorem ty52 : S.ty 52 = some { agg := false, size := 1, bytes := 24, zero := (some .nils), shape := (.slice 85), eqs := false } := by kernel_rfl
@[simp] theorem ty54 : S.ty 54 = some { agg := true, size := 1, bytes := 24, zero := (some (.agg [.nils])), shape := (.struct [(0, 52)]), eqs := false } := by kernel_rfl
@[simp] theorem ty55 : S.ty 55 = some { agg := false, size := 1, bytes := 24, zero := (some .nils), shape := (.slice 61), eqs := false } := by kernel_rfl
@[simp] theorem ty57 : S.ty 57 = some { agg := true, size := 1, bytes := 24, zero := (some (.agg [.nils])), shape := (.struct [(0, 55)]), eqs := false } := by kernel_rfl
@[simp] theorem ty61 : S.ty 61 = some { agg := true, size := 5, bytes := 88, zero := (some (.agg [(.int .i64 0), .nils, (.int .i64 0), .nils, .nils])), shape := (.struct [(0, 3), (1, 32), (2, 3), (3, 32), (4, 32)]), eqs := false } := by kernel_rfl
@[simp] theorem ty63 : S.ty 63 = some { agg := false, size := 1, bytes := 24, zero := (some .nils), shape := (.slice 151), eqs := false } := by kernel_rfl
@[simp] theorem ty64 : S.ty 64 = some { agg := false, size := 1, bytes := 24, zero := (some .nils), shape := (.slice 111), eqs := false } := by kernel_rfl
@[simp] theorem ty66 : S.ty 66 = some { agg := true, size := 2, bytes := 48, zero := (some (.agg [.nils, .nils])), shape := (.struct [(0, 63), (1, 64)]), eqs := false } := by kernel_rfl
@[simp] theorem ty72 : S.ty 72 = some { agg := true, size := 3, bytes := 40, zero := (some (.agg [.nils, (.int .i64 0), (.int .i64 0)])), shape := (.struct [(0, 22), (1, 3), (2, 3)]), eqs := false } := by kernel_rfl
@[simp] theorem ty83 : S.ty 83 = some { agg := false, size := 1, bytes := 24, zero := (some .nils), shape := (.slice 100), eqs := false } := by kernel_rfl
@[simp] theorem ty85 : S.ty 85 = some { agg := true, size := 4, bytes := 64, zero := (some (.agg [(.int .i64 0), (.str []), .nils, (.str [])])), shape := (.struct [(0, 3), (1, 9), (2, 83), (3, 9)]), eqs := false } := by kernel_rfl
@[simp] theorem ty94 : S.ty 94 = some { agg := true, size := 6, bytes := 80, zero := (some (.agg [.nils, (.str []), .nils, (.int .i64 0), (.bool false), (.bool false)])), shape := (.struct [(0, 26), (1, 9), (2, 55), (3, 3), (4, 4), (5, 4)]), eqs := false } := by kernel_rfl
@[simp] theorem ty98 : S.ty 98 = some { agg := false, size := 1, bytes := 24, zero := (some .nils), shape := (.slice 146), eqs := false } := by kernel_rfl
@[simp] theorem ty100 : S.ty 100 = some { agg := true, size := 1, bytes := 24, zero := (some (.agg [.nils])), shape := (.struct [(0, 98)]), eqs := false } := by kernel_rfl
@[simp] theorem ty102 : S.ty 102 = some { agg := false, size := 1, bytes := 24, zero := (some .nils), shape := (.slice 113), eqs := false } := by kernel_rfl
@[simp] theorem ty107 : S.ty 107 = some { agg := true, size := 5, bytes := 72, zero := (some (.agg [.nils, (.int .i64 0), (.int .i64 0), (.bool false), .nils])), shape := (.struct [(0, 102), (1, 3), (2, 3), (3, 4), (4, 63)]), eqs := false } := by kernel_rfl
@[simp] theorem ty111 : S.ty 111 = some { agg := true, size := 3, bytes := 48, zero := (some (.agg [(.str []), .nils, (.int .i64 0)])), shape := (.struct [(0, 9), (1, 29), (2, 3)]), eqs := false } := by kernel_rfl
@[simp] theorem ty113 : S.ty 113 = some { agg := true, size := 2, bytes := 24, zero := (some (.agg [(.int .i64 0), (.str [])])), shape := (.struct [(0, 3), (1, 9)]), eqs := true } := by kernel_rfl
@[simp] theorem ty131 : S.ty 131 = some { agg := false, size := 1, bytes := 8, zero := (some (.int .u64 0)), shape := (.int .u64), eqs := false } := by kernel_rfl
@[simp] theorem ty135 : S.ty 135 = some { agg := false, size := 1, bytes := 24, zero := (some .nils), shape := (.slice 140), eqs := false } := by kernel_rfl
@[simp] theorem ty137 : S.ty 137 = some { agg := false, size := 1, bytes := 24, zero := (some .nils), shape := (.slice 206), eqs := false } := by kernel_rfl
@[simp] theorem ty140 : S.ty 140 = some { agg := true, size := 2, bytes := 32, zero := (some (.agg [(.int .i64 0), .nils])), shape := (.struct [(0, 3), (1, 137)]), eqs := false } := by kernel_rfl
@[simp] theorem ty146 : S.ty 146 = some { agg := true, size := 4, bytes := 56, zero := (some (.agg [(.int .i64 0), (.int .i64 0), (.str []), .nils])), shape := (.struct [(0, 3), (1, 3), (2, 9), (3, 32)]), eqs := false } := by kernel_rfl
@[simp] theorem ty151 : S.ty 151 = some { agg := true, size := 5, bytes := 88, zero := (some (.agg [(.int .i64 0), (.str []), .nils, (.str []), .nils])), shape := (.struct [(0, 3), (1, 9), (2, 83), (3, 9), (4, 32)]), eqs := false } := by kernel_rfl
@[simp] theorem ty155 : S.ty 155 = some { agg := false, size := 1, bytes := 24, zero := (some .nils), shape := (.slice 161), eqs := false } := by kernel_rfl
@[simp] theorem ty157 : S.ty 157 = some { agg := true, size := 5, bytes := 104, zero := (some (.agg [.nils, .nils, .nils, .nils, (.int .i64 0)])), shape := (.struct [(0, 66), (2, 26), (3, 155), (4, 3)]), eqs := false } := by kernel_rfl
@[simp] theorem ty161 : S.ty 161 = some { agg := true, size := 3, bytes := 40, zero := (some (.agg [(.int .i64 0), (.int .i64 0), .nils])), shape := (.struct [(0, 3), (1, 3), (2, 29)]), eqs := false } := by kernel_rfl
@[simp] theorem ty165 : S.ty 165 = some { agg := false, size := 1, bytes := 8, zero := (some (.int .i64 0)), shape := (.int .i64), eqs := false } := by kernel_rfl
@[simp] theorem ty174 : S.ty 174 = some { agg := false, size := 1, bytes := 4, zero := (some (.int .u32 0)), shape := (.int .u32), eqs := false } := by kernel_rfl
@[simp] theorem ty176 : S.ty 176 = some { agg := false, size := 1, bytes := 8, zero := (some (.int .u64 0)), shape := (.int .u64), eqs := false } := by kernel_rfl
@[simp] theorem ty206 : S.ty 206 = some { agg := true, size := 2, bytes := 24, zero := (some (.agg [(.str []), (.int .i64 0)])), shape := (.struct [(0, 9), (1, 3)]), eqs := true } := by kernel_rfl
end X
