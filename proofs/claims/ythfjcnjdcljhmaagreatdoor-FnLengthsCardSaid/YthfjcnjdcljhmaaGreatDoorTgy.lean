/- The types, one by one; for symbolic walks. -/
import Derived.Test.YthfjcnjdcljhmaaGreatDoorTgt
import Derived.Test.YthfjcnjdcljhmaaGreatDoorVc
open Go Go.V Go.Proofs
namespace X
set_option maxRecDepth 100000
set_option maxHeartbeats 4000000
set_option linter.unusedSimpArgs false
set_option linter.unusedVariables false
@[simp] theorem ty2 : S.ty 2 = some { agg := false, size := 1, bytes := 8, zero := (some (.int .i64 0)), shape := (.int .i64), eqs := false } := by kernel_rfl
@[simp] theorem ty3 : S.ty 3 = some { agg := false, size := 1, bytes := 8, zero := (some (.int .i64 0)), shape := (.int .i64), eqs := false } := by kernel_rfl
@[simp] theorem ty4 : S.ty 4 = some { agg := false, size := 1, bytes := 1, zero := (some (.bool false)), shape := .bool, eqs := false } := by kernel_rfl
@[simp] theorem ty5 : S.ty 5 = some { agg := false, size := 1, bytes := 1, zero := (some (.int .u8 0)), shape := (.int .u8), eqs := false } := by kernel_rfl
@[simp] theorem ty9 : S.ty 9 = some { agg := false, size := 1, bytes := 16, zero := (some (.str [])), shape := .str, eqs := false } := by kernel_rfl
@[simp] theorem ty22 : S.ty 22 = some { agg := false, size := 1, bytes := 24, zero := (some .nils), shape := (.slice 5), eqs := false } := by kernel_rfl
@[simp] theorem ty24 : S.ty 24 = some { agg := false, size := 1, bytes := 24, zero := (some .nils), shape := (.slice 3), eqs := false } := by kernel_rfl
@[simp] theorem ty26 : S.ty 26 = some { agg := false, size := 1, bytes := 24, zero := (some .nils), shape := (.slice 71), eqs := false } := by kernel_rfl
@[simp] theorem ty28 : S.ty 28 = some { agg := true, size := 1, bytes := 24, zero := (some (.agg [.nils])), shape := (.struct [(0, 26)]), eqs := false } := by kernel_rfl
@[simp] theorem ty30 : S.ty 30 = some { agg := false, size := 1, bytes := 24, zero := (some .nils), shape := (.slice 9), eqs := false } := by kernel_rfl
@[simp] theorem ty45 : S.ty 45 = some { agg := false, size := 1, bytes := 24, zero := (some .nils), shape := (.slice 154), eqs := false } := by kernel_rfl
@[simp] theorem ty46 : S.ty 46 = some { agg := false, size := 1, bytes := 24, zero := (some .nils), shape := (.slice 96), eqs := false } := by kernel_rfl
@[simp] theorem ty48 : S.ty 48 = some { agg := true, size := 2, bytes := 48, zero := (some (.agg [.nils, .nils])), shape := (.struct [(0, 45), (1, 46)]), eqs := false } := by kernel_rfl
@[simp] theorem ty69 : S.ty 69 = some { agg := false, size := 1, bytes := 24, zero := (some .nils), shape := (.slice 133), eqs := false } := by kernel_rfl
@[simp] theorem ty71 : S.ty 71 = some { agg := true, size := 3, bytes := 64, zero := (some (.agg [(.str []), .nils, .nils])), shape := (.struct [(0, 9), (1, 30), (2, 69)]), eqs := false } := by kernel_rfl
@[simp] theorem ty77 : S.ty 77 = some { agg := false, size := 1, bytes := 24, zero := (some .nils), shape := (.slice 83), eqs := false } := by kernel_rfl
@[simp] theorem ty79 : S.ty 79 = some { agg := true, size := 1, bytes := 24, zero := (some (.agg [.nils])), shape := (.struct [(0, 77)]), eqs := false } := by kernel_rfl
@[simp] theorem ty83 : S.ty 83 = some { agg := true, size := 5, bytes := 88, zero := (some (.agg [(.int .i64 0), .nils, (.int .i64 0), .nils, .nils])), shape := (.struct [(0, 3), (1, 24), (2, 3), (3, 24), (4, 24)]), eqs := false } := by kernel_rfl
@[simp] theorem ty84 : S.ty 84 = some { agg := false, size := 1, bytes := 24, zero := (some .nils), shape := (.slice 98), eqs := false } := by kernel_rfl
@[simp] theorem ty93 : S.ty 93 = some { agg := true, size := 5, bytes := 72, zero := (some (.agg [.nils, (.int .i64 0), (.int .i64 0), (.bool false), .nils])), shape := (.struct [(0, 84), (1, 3), (2, 3), (3, 4), (4, 45)]), eqs := false } := by kernel_rfl
@[simp] theorem ty96 : S.ty 96 = some { agg := true, size := 3, bytes := 48, zero := (some (.agg [(.str []), .nils, (.int .i64 0)])), shape := (.struct [(0, 9), (1, 30), (2, 3)]), eqs := false } := by kernel_rfl
@[simp] theorem ty98 : S.ty 98 = some { agg := true, size := 2, bytes := 24, zero := (some (.agg [(.int .i64 0), (.str [])])), shape := (.struct [(0, 3), (1, 9)]), eqs := true } := by kernel_rfl
@[simp] theorem ty104 : S.ty 104 = some { agg := false, size := 1, bytes := 8, zero := (some .nilm), shape := (.map 9 3), eqs := false } := by kernel_rfl
@[simp] theorem ty131 : S.ty 131 = some { agg := false, size := 1, bytes := 24, zero := (some .nils), shape := (.slice 141), eqs := false } := by kernel_rfl
@[simp] theorem ty133 : S.ty 133 = some { agg := true, size := 1, bytes := 24, zero := (some (.agg [.nils])), shape := (.struct [(0, 131)]), eqs := false } := by kernel_rfl
@[simp] theorem ty136 : S.ty 136 = some { agg := true, size := 3, bytes := 40, zero := (some (.agg [.nils, (.int .i64 0), (.int .i64 0)])), shape := (.struct [(0, 22), (1, 3), (2, 3)]), eqs := false } := by kernel_rfl
@[simp] theorem ty137 : S.ty 137 = some { agg := false, size := 1, bytes := 8, zero := (some (.int .u64 0)), shape := (.int .u64), eqs := false } := by kernel_rfl
@[simp] theorem ty139 : S.ty 139 = some { agg := false, size := 1, bytes := 24, zero := (some .nils), shape := (.slice 236), eqs := false } := by kernel_rfl
@[simp] theorem ty141 : S.ty 141 = some { agg := true, size := 4, bytes := 64, zero := (some (.agg [(.int .i64 0), (.str []), .nils, (.str [])])), shape := (.struct [(0, 3), (1, 9), (2, 139), (3, 9)]), eqs := false } := by kernel_rfl
@[simp] theorem ty147 : S.ty 147 = some { agg := true, size := 7, bytes := 112, zero := (some (.agg [.nils, (.str []), .nils, (.int .i64 0), (.bool false), .nils, .nilm])), shape := (.struct [(0, 28), (1, 9), (2, 79), (3, 3), (4, 4), (5, 24), (6, 104)]), eqs := false } := by kernel_rfl
@[simp] theorem ty154 : S.ty 154 = some { agg := true, size := 5, bytes := 88, zero := (some (.agg [(.int .i64 0), (.str []), .nils, (.str []), .nils])), shape := (.struct [(0, 3), (1, 9), (2, 139), (3, 9), (4, 24)]), eqs := false } := by kernel_rfl
@[simp] theorem ty158 : S.ty 158 = some { agg := false, size := 1, bytes := 24, zero := (some .nils), shape := (.slice 213), eqs := false } := by kernel_rfl
@[simp] theorem ty169 : S.ty 169 = some { agg := true, size := 6, bytes := 80, zero := (some (.agg [.nils, (.str []), .nils, (.int .i64 0), (.bool false), (.bool false)])), shape := (.struct [(0, 28), (1, 9), (2, 77), (3, 3), (4, 4), (5, 4)]), eqs := false } := by kernel_rfl
@[simp] theorem ty174 : S.ty 174 = some { agg := true, size := 2, bytes := 32, zero := (some (.agg [(.int .i64 0), .nils])), shape := (.struct [(0, 3), (1, 158)]), eqs := false } := by kernel_rfl
@[simp] theorem ty182 : S.ty 182 = some { agg := false, size := 1, bytes := 24, zero := (some .nils), shape := (.slice 188), eqs := false } := by kernel_rfl
@[simp] theorem ty184 : S.ty 184 = some { agg := true, size := 5, bytes := 104, zero := (some (.agg [.nils, .nils, .nils, .nils, (.int .i64 0)])), shape := (.struct [(0, 48), (2, 28), (3, 182), (4, 3)]), eqs := false } := by kernel_rfl
@[simp] theorem ty188 : S.ty 188 = some { agg := true, size := 3, bytes := 40, zero := (some (.agg [(.int .i64 0), (.int .i64 0), .nils])), shape := (.struct [(0, 3), (1, 3), (2, 30)]), eqs := false } := by kernel_rfl
@[simp] theorem ty213 : S.ty 213 = some { agg := true, size := 2, bytes := 24, zero := (some (.agg [(.str []), (.int .i64 0)])), shape := (.struct [(0, 9), (1, 3)]), eqs := true } := by kernel_rfl
@[simp] theorem ty217 : S.ty 217 = some { agg := false, size := 1, bytes := 24, zero := (some .nils), shape := (.slice 4), eqs := false } := by kernel_rfl
@[simp] theorem ty218 : S.ty 218 = some { agg := false, size := 1, bytes := 24, zero := (some .nils), shape := (.slice 174), eqs := false } := by kernel_rfl
@[simp] theorem ty234 : S.ty 234 = some { agg := false, size := 1, bytes := 24, zero := (some .nils), shape := (.slice 268), eqs := false } := by kernel_rfl
@[simp] theorem ty236 : S.ty 236 = some { agg := true, size := 1, bytes := 24, zero := (some (.agg [.nils])), shape := (.struct [(0, 234)]), eqs := false } := by kernel_rfl
@[simp] theorem ty268 : S.ty 268 = some { agg := true, size := 4, bytes := 56, zero := (some (.agg [(.int .i64 0), (.int .i64 0), (.str []), .nils])), shape := (.struct [(0, 3), (1, 3), (2, 9), (3, 24)]), eqs := false } := by kernel_rfl
@[simp] theorem ty271 : S.ty 271 = some { agg := false, size := 1, bytes := 8, zero := (some (.int .i64 0)), shape := (.int .i64), eqs := false } := by kernel_rfl
@[simp] theorem ty279 : S.ty 279 = some { agg := false, size := 1, bytes := 4, zero := (some (.int .u32 0)), shape := (.int .u32), eqs := false } := by kernel_rfl
@[simp] theorem ty281 : S.ty 281 = some { agg := false, size := 1, bytes := 8, zero := (some (.int .u64 0)), shape := (.int .u64), eqs := false } := by kernel_rfl
@[simp] theorem ty326 : S.ty 326 = some { agg := false, size := 1, bytes := 24, zero := (some .nils), shape := (.slice 158), eqs := false } := by kernel_rfl
@[simp] theorem ty343 : S.ty 343 = some { agg := true, size := 24, bytes := 24, zero := (some (.agg [(.int .u8 0), (.int .u8 0), (.int .u8 0), (.int .u8 0), (.int .u8 0), (.int .u8 0), (.int .u8 0), (.int .u8 0), (.int .u8 0), (.int .u8 0), (.int .u8 0), (.int .u8 0), (.int .u8 0), (.int .u8 0), (.int .u8 0), (.int .u8 0), (.int .u8 0), (.int .u8 0), (.int .u8 0), (.int .u8 0), (.int .u8 0), (.int .u8 0), (.int .u8 0), (.int .u8 0)])), shape := (.array 24 5), eqs := false } := by kernel_rfl
end X
