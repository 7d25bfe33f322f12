/- The types, one by one; for symbolic walks. -/
import Derived.Test.YtognnaobhjaoeaaGreatDoorTgt
import Derived.Test.YtognnaobhjaoeaaGreatDoorVc
open Go Go.V Go.Proofs
namespace X
set_option maxRecDepth 100000
set_option maxHeartbeats 4000000
set_option linter.unusedSimpArgs false
set_option linter.unusedVariables false
@[simp] theorem ty2 : S.ty 2 = some { agg := false, size := 1, bytes := 8, zero := (some (.int .i64 0)), shape := (.int .i64), eqs := false } := by kernel_rfl
@[simp] theorem ty3 : S.ty 3 = some { agg := false, size := 1, bytes := 8, zero := (some (.int .i64 0)), shape := (.int .i64), eqs := false } := by kernel_rfl
@[simp] theorem ty4 : S.ty 4 = some { agg := false, size := 1, bytes := 1, zero := (some (.bool false)), shape := .bool, eqs := false } := by kernel_rfl
@[simp] theorem ty5 : S.ty 5 = some { agg := false, size := 1, bytes := 1, zero := (some (.int .u8 0)), shape := (.int .u8), eqs := false } := by kernel_rfl
@[simp] theorem ty9 : S.ty 9 = some { agg := false, size := 1, bytes := 16, zero := (some (.str [])), shape := .str, eqs := false } := by kernel_rfl
@[simp] theorem ty22 : S.ty 22 = some { agg := false, size := 1, bytes := 24, zero := (some .nils), shape := (.slice 5), eqs := false } := by kernel_rfl
@[simp] theorem ty24 : S.ty 24 = some { agg := false, size := 1, bytes := 24, zero := (some .nils), shape := (.slice 3), eqs := false } := by kernel_rfl
@[simp] theorem ty26 : S.ty 26 = some { agg := false, size := 1, bytes := 24, zero := (some .nils), shape := (.slice 9), eqs := false } := by kernel_rfl
@[simp] theorem ty27 : S.ty 27 = some { agg := false, size := 1, bytes := 24, zero := (some .nils), shape := (.slice 50), eqs := false } := by kernel_rfl
@[simp] theorem ty29 : S.ty 29 = some { agg := true, size := 1, bytes := 24, zero := (some (.agg [.nils])), shape := (.struct [(0, 27)]), eqs := false } := by kernel_rfl
@[simp] theorem ty40 : S.ty 40 = some { agg := false, size := 1, bytes := 24, zero := (some .nils), shape := (.slice 105), eqs := false } := by kernel_rfl
@[simp] theorem ty41 : S.ty 41 = some { agg := false, size := 1, bytes := 24, zero := (some .nils), shape := (.slice 78), eqs := false } := by kernel_rfl
@[simp] theorem ty43 : S.ty 43 = some { agg := true, size := 2, bytes := 48, zero := (some (.agg [.nils, .nils])), shape := (.struct [(0, 40), (1, 41)]), eqs := false } := by kernel_rfl
@[simp] theorem ty48 : S.ty 48 = some { agg := false, size := 1, bytes := 24, zero := (some .nils), shape := (.slice 64), eqs := false } := by kernel_rfl
@[simp] theorem ty50 : S.ty 50 = some { agg := true, size := 3, bytes := 64, zero := (some (.agg [(.str []), .nils, .nils])), shape := (.struct [(0, 9), (1, 26), (2, 48)]), eqs := false } := by kernel_rfl
@[simp] theorem ty51 : S.ty 51 = some { agg := false, size := 1, bytes := 24, zero := (some .nils), shape := (.slice 57), eqs := false } := by kernel_rfl
@[simp] theorem ty53 : S.ty 53 = some { agg := true, size := 1, bytes := 24, zero := (some (.agg [.nils])), shape := (.struct [(0, 51)]), eqs := false } := by kernel_rfl
@[simp] theorem ty57 : S.ty 57 = some { agg := true, size := 5, bytes := 88, zero := (some (.agg [(.int .i64 0), .nils, (.int .i64 0), .nils, .nils])), shape := (.struct [(0, 3), (1, 24), (2, 3), (3, 24), (4, 24)]), eqs := false } := by kernel_rfl
@[simp] theorem ty62 : S.ty 62 = some { agg := false, size := 1, bytes := 24, zero := (some .nils), shape := (.slice 99), eqs := false } := by kernel_rfl
@[simp] theorem ty64 : S.ty 64 = some { agg := true, size := 1, bytes := 24, zero := (some (.agg [.nils])), shape := (.struct [(0, 62)]), eqs := false } := by kernel_rfl
@[simp] theorem ty67 : S.ty 67 = some { agg := true, size := 3, bytes := 40, zero := (some (.agg [.nils, (.int .i64 0), (.int .i64 0)])), shape := (.struct [(0, 22), (1, 3), (2, 3)]), eqs := false } := by kernel_rfl
@[simp] theorem ty68 : S.ty 68 = some { agg := false, size := 1, bytes := 8, zero := (some (.int .u64 0)), shape := (.int .u64), eqs := false } := by kernel_rfl
@[simp] theorem ty69 : S.ty 69 = some { agg := false, size := 1, bytes := 24, zero := (some .nils), shape := (.slice 80), eqs := false } := by kernel_rfl
@[simp] theorem ty74 : S.ty 74 = some { agg := true, size := 5, bytes := 72, zero := (some (.agg [.nils, (.int .i64 0), (.int .i64 0), (.bool false), .nils])), shape := (.struct [(0, 69), (1, 3), (2, 3), (3, 4), (4, 40)]), eqs := false } := by kernel_rfl
@[simp] theorem ty78 : S.ty 78 = some { agg := true, size := 3, bytes := 48, zero := (some (.agg [(.str []), .nils, (.int .i64 0)])), shape := (.struct [(0, 9), (1, 26), (2, 3)]), eqs := false } := by kernel_rfl
@[simp] theorem ty80 : S.ty 80 = some { agg := true, size := 2, bytes := 24, zero := (some (.agg [(.int .i64 0), (.str [])])), shape := (.struct [(0, 3), (1, 9)]), eqs := true } := by kernel_rfl
@[simp] theorem ty87 : S.ty 87 = some { agg := false, size := 1, bytes := 8, zero := (some .nilm), shape := (.map 9 3), eqs := false } := by kernel_rfl
@[simp] theorem ty89 : S.ty 89 = some { agg := true, size := 7, bytes := 112, zero := (some (.agg [.nils, (.str []), .nils, (.int .i64 0), (.bool false), .nils, .nilm])), shape := (.struct [(0, 29), (1, 9), (2, 53), (3, 3), (4, 4), (5, 24), (6, 87)]), eqs := false } := by kernel_rfl
@[simp] theorem ty97 : S.ty 97 = some { agg := false, size := 1, bytes := 24, zero := (some .nils), shape := (.slice 156), eqs := false } := by kernel_rfl
@[simp] theorem ty99 : S.ty 99 = some { agg := true, size := 4, bytes := 64, zero := (some (.agg [(.int .i64 0), (.str []), .nils, (.str [])])), shape := (.struct [(0, 3), (1, 9), (2, 97), (3, 9)]), eqs := false } := by kernel_rfl
@[simp] theorem ty105 : S.ty 105 = some { agg := true, size := 5, bytes := 88, zero := (some (.agg [(.int .i64 0), (.str []), .nils, (.str []), .nils])), shape := (.struct [(0, 3), (1, 9), (2, 97), (3, 9), (4, 24)]), eqs := false } := by kernel_rfl
@[simp] theorem ty109 : S.ty 109 = some { agg := false, size := 1, bytes := 24, zero := (some .nils), shape := (.slice 115), eqs := false } := by kernel_rfl
@[simp] theorem ty111 : S.ty 111 = some { agg := true, size := 5, bytes := 104, zero := (some (.agg [.nils, .nils, .nils, .nils, (.int .i64 0)])), shape := (.struct [(0, 43), (2, 29), (3, 109), (4, 3)]), eqs := false } := by kernel_rfl
@[simp] theorem ty115 : S.ty 115 = some { agg := true, size := 3, bytes := 40, zero := (some (.agg [(.int .i64 0), (.int .i64 0), .nils])), shape := (.struct [(0, 3), (1, 3), (2, 26)]), eqs := false } := by kernel_rfl
@[simp] theorem ty119 : S.ty 119 = some { agg := false, size := 1, bytes := 24, zero := (some .nils), shape := (.slice 145), eqs := false } := by kernel_rfl
@[simp] theorem ty145 : S.ty 145 = some { agg := true, size := 2, bytes := 24, zero := (some (.agg [(.str []), (.int .i64 0)])), shape := (.struct [(0, 9), (1, 3)]), eqs := true } := by kernel_rfl
@[simp] theorem ty154 : S.ty 154 = some { agg := false, size := 1, bytes := 24, zero := (some .nils), shape := (.slice 167), eqs := false } := by kernel_rfl
@[simp] theorem ty156 : S.ty 156 = some { agg := true, size := 1, bytes := 24, zero := (some (.agg [.nils])), shape := (.struct [(0, 154)]), eqs := false } := by kernel_rfl
@[simp] theorem ty167 : S.ty 167 = some { agg := true, size := 4, bytes := 56, zero := (some (.agg [(.int .i64 0), (.int .i64 0), (.str []), .nils])), shape := (.struct [(0, 3), (1, 3), (2, 9), (3, 24)]), eqs := false } := by kernel_rfl
@[simp] theorem ty178 : S.ty 178 = some { agg := false, size := 1, bytes := 8, zero := (some (.int .i64 0)), shape := (.int .i64), eqs := false } := by kernel_rfl
@[simp] theorem ty186 : S.ty 186 = some { agg := false, size := 1, bytes := 4, zero := (some (.int .u32 0)), shape := (.int .u32), eqs := false } := by kernel_rfl
@[simp] theorem ty188 : S.ty 188 = some { agg := false, size := 1, bytes := 8, zero := (some (.int .u64 0)), shape := (.int .u64), eqs := false } := by kernel_rfl
@[simp] theorem ty200 : S.ty 200 = some { agg := false, size := 1, bytes := 24, zero := (some .nils), shape := (.slice 4), eqs := false } := by kernel_rfl
@[simp] theorem ty251 : S.ty 251 = some { agg := true, size := 24, bytes := 24, zero := (some (.agg [(.int .u8 0), (.int .u8 0), (.int .u8 0), (.int .u8 0), (.int .u8 0), (.int .u8 0), (.int .u8 0), (.int .u8 0), (.int .u8 0), (.int .u8 0), (.int .u8 0), (.int .u8 0), (.int .u8 0), (.int .u8 0), (.int .u8 0), (.int .u8 0), (.int .u8 0), (.int .u8 0), (.int .u8 0), (.int .u8 0), (.int .u8 0), (.int .u8 0), (.int .u8 0), (.int .u8 0)])), shape := (.array 24 5), eqs := false } := by kernel_rfl
end X
