import Derived.Test.YtiemeabiekeekaaGreatTht
import Derived.Test.YtiemeabiekeekaaGreatVc
/- The types, one by one; for symbolic walks. -/
open Go Go.V Go.Proofs
namespace X
set_option maxRecDepth 100000
set_option maxHeartbeats 4000000
set_option linter.all false
@[simp] theorem ty3 : S.ty 3 = some { agg := false, size := 1, bytes := 8, zero := (some (.int .i64 0)), shape := (.int .i64), eqs := false } := by kernel_rfl
@[simp] theorem ty4 : S.ty 4 = some { agg := false, size := 1, bytes := 1, zero := (some (.bool false)), shape := .bool, eqs := false } := by kernel_rfl
@[simp] theorem ty5 : S.ty 5 = some { agg := false, size := 1, bytes := 1, zero := (some (.int .u8 0)), shape := (.int .u8), eqs := false } := by kernel_rfl
@[simp] theorem ty9 : S.ty 9 = some { agg := false, size := 1, bytes := 16, zero := (some (.str [])), shape := .str, eqs := false } := by kernel_rfl
@[simp] theorem ty22 : S.ty 22 = some { agg := false, size := 1, bytes := 24, zero := (some .nils), shape := (.slice 5), eqs := false } := by kernel_rfl
@[simp] theorem ty24 : S.ty 24 = some { agg := false, size := 1, bytes := 24, zero := (some .nils), shape := (.slice 59), eqs := false } := by kernel_rfl
@[simp] theorem ty26 : S.ty 26 = some { agg := true, size := 1, bytes := 24, zero := (some (.agg [.nils])), shape := (.struct [(0, 24)]), eqs := false } := by kernel_rfl
@[simp] theorem ty29 : S.ty 29 = some { agg := false, size := 1, bytes := 24, zero := (some .nils), shape := (.slice 38), eqs := false } := by kernel_rfl
@[simp] theorem ty31 : S.ty 31 = some { agg := true, size := 1, bytes := 24, zero := (some (.agg [.nils])), shape := (.struct [(0, 29)]), eqs := false } := by kernel_rfl
@[simp] theorem ty35 : S.ty 35 = some { agg := false, size := 1, bytes := 24, zero := (some .nils), shape := (.slice 3), eqs := false } := by kernel_rfl
@[simp] theorem ty38 : S.ty 38 = some { agg := true, size := 6, bytes := 80, zero := (some (.agg [(.int .i64 0), (.int .i64 0), .nils, (.int .i64 0), (.int .i64 0), .nils])), shape := (.struct [(0, 3), (1, 3), (2, 35), (3, 3), (4, 3), (5, 35)]), eqs := false } := by kernel_rfl
@[simp] theorem ty47 : S.ty 47 = some { agg := false, size := 1, bytes := 24, zero := (some .nils), shape := (.slice 95), eqs := false } := by kernel_rfl
@[simp] theorem ty49 : S.ty 49 = some { agg := true, size := 1, bytes := 24, zero := (some (.agg [.nils])), shape := (.struct [(0, 47)]), eqs := false } := by kernel_rfl
@[simp] theorem ty54 : S.ty 54 = some { agg := true, size := 4, bytes := 88, zero := (some (.agg [.nils, (.str []), .nils, .nils])), shape := (.struct [(0, 26), (1, 9), (2, 47), (3, 29)]), eqs := false } := by kernel_rfl
@[simp] theorem ty56 : S.ty 56 = some { agg := false, size := 1, bytes := 24, zero := (some .nils), shape := (.slice 9), eqs := false } := by kernel_rfl
@[simp] theorem ty57 : S.ty 57 = some { agg := false, size := 1, bytes := 24, zero := (some .nils), shape := (.slice 101), eqs := false } := by kernel_rfl
@[simp] theorem ty59 : S.ty 59 = some { agg := true, size := 3, bytes := 64, zero := (some (.agg [(.str []), .nils, .nils])), shape := (.struct [(0, 9), (1, 56), (2, 57)]), eqs := false } := by kernel_rfl
@[simp] theorem ty64 : S.ty 64 = some { agg := true, size := 2, bytes := 32, zero := (some (.agg [.nils, (.bool false)])), shape := (.struct [(0, 29), (1, 4)]), eqs := false } := by kernel_rfl
@[simp] theorem ty75 : S.ty 75 = some { agg := true, size := 3, bytes := 40, zero := (some (.agg [.nils, (.int .i64 0), (.int .i64 0)])), shape := (.struct [(0, 22), (1, 3), (2, 3)]), eqs := false } := by kernel_rfl
@[simp] theorem ty78 : S.ty 78 = some { agg := false, size := 1, bytes := 24, zero := (some .nils), shape := (.slice 159), eqs := false } := by kernel_rfl
@[simp] theorem ty79 : S.ty 79 = some { agg := false, size := 1, bytes := 24, zero := (some .nils), shape := (.slice 129), eqs := false } := by kernel_rfl
@[simp] theorem ty81 : S.ty 81 = some { agg := true, size := 2, bytes := 48, zero := (some (.agg [.nils, .nils])), shape := (.struct [(0, 78), (1, 79)]), eqs := false } := by kernel_rfl
@[simp] theorem ty91 : S.ty 91 = some { agg := true, size := 6, bytes := 80, zero := (some (.agg [.nils, (.str []), .nils, (.int .i64 0), (.bool false), (.bool false)])), shape := (.struct [(0, 26), (1, 9), (2, 47), (3, 3), (4, 4), (5, 4)]), eqs := false } := by kernel_rfl
@[simp] theorem ty95 : S.ty 95 = some { agg := true, size := 5, bytes := 88, zero := (some (.agg [(.int .i64 0), .nils, (.int .i64 0), .nils, .nils])), shape := (.struct [(0, 3), (1, 35), (2, 3), (3, 35), (4, 35)]), eqs := false } := by kernel_rfl
@[simp] theorem ty99 : S.ty 99 = some { agg := false, size := 1, bytes := 24, zero := (some .nils), shape := (.slice 111), eqs := false } := by kernel_rfl
@[simp] theorem ty101 : S.ty 101 = some { agg := true, size := 1, bytes := 24, zero := (some (.agg [.nils])), shape := (.struct [(0, 99)]), eqs := false } := by kernel_rfl
@[simp] theorem ty102 : S.ty 102 = some { agg := false, size := 1, bytes := 24, zero := (some .nils), shape := (.slice 173), eqs := false } := by kernel_rfl
@[simp] theorem ty105 : S.ty 105 = some { agg := true, size := 2, bytes := 32, zero := (some (.agg [(.int .i64 0), .nils])), shape := (.struct [(0, 3), (1, 102)]), eqs := false } := by kernel_rfl
@[simp] theorem ty109 : S.ty 109 = some { agg := false, size := 1, bytes := 24, zero := (some .nils), shape := (.slice 151), eqs := false } := by kernel_rfl
@[simp] theorem ty111 : S.ty 111 = some { agg := true, size := 4, bytes := 64, zero := (some (.agg [(.int .i64 0), (.str []), .nils, (.str [])])), shape := (.struct [(0, 3), (1, 9), (2, 109), (3, 9)]), eqs := false } := by kernel_rfl
@[simp] theorem ty120 : S.ty 120 = some { agg := false, size := 1, bytes := 24, zero := (some .nils), shape := (.slice 131), eqs := false } := by kernel_rfl
@[simp] theorem ty125 : S.ty 125 = some { agg := true, size := 5, bytes := 72, zero := (some (.agg [.nils, (.int .i64 0), (.int .i64 0), (.bool false), .nils])), shape := (.struct [(0, 120), (1, 3), (2, 3), (3, 4), (4, 78)]), eqs := false } := by kernel_rfl
@[simp] theorem ty129 : S.ty 129 = some { agg := true, size := 3, bytes := 48, zero := (some (.agg [(.str []), .nils, (.int .i64 0)])), shape := (.struct [(0, 9), (1, 56), (2, 3)]), eqs := false } := by kernel_rfl
@[simp] theorem ty131 : S.ty 131 = some { agg := true, size := 2, bytes := 24, zero := (some (.agg [(.int .i64 0), (.str [])])), shape := (.struct [(0, 3), (1, 9)]), eqs := true } := by kernel_rfl
@[simp] theorem ty138 : S.ty 138 = some { agg := false, size := 1, bytes := 24, zero := (some .nils), shape := (.slice 4), eqs := false } := by kernel_rfl
@[simp] theorem ty139 : S.ty 139 = some { agg := false, size := 1, bytes := 24, zero := (some .nils), shape := (.slice 105), eqs := false } := by kernel_rfl
@[simp] theorem ty149 : S.ty 149 = some { agg := false, size := 1, bytes := 24, zero := (some .nils), shape := (.slice 182), eqs := false } := by kernel_rfl
@[simp] theorem ty151 : S.ty 151 = some { agg := true, size := 1, bytes := 24, zero := (some (.agg [.nils])), shape := (.struct [(0, 149)]), eqs := false } := by kernel_rfl
@[simp] theorem ty159 : S.ty 159 = some { agg := true, size := 5, bytes := 88, zero := (some (.agg [(.int .i64 0), (.str []), .nils, (.str []), .nils])), shape := (.struct [(0, 3), (1, 9), (2, 109), (3, 9), (4, 35)]), eqs := false } := by kernel_rfl
@[simp] theorem ty163 : S.ty 163 = some { agg := false, size := 1, bytes := 24, zero := (some .nils), shape := (.slice 170), eqs := false } := by kernel_rfl
@[simp] theorem ty165 : S.ty 165 = some { agg := true, size := 5, bytes := 104, zero := (some (.agg [.nils, .nils, .nils, .nils, (.int .i64 0)])), shape := (.struct [(0, 81), (2, 26), (3, 163), (4, 3)]), eqs := false } := by kernel_rfl
@[simp] theorem ty170 : S.ty 170 = some { agg := true, size := 3, bytes := 40, zero := (some (.agg [(.int .i64 0), (.int .i64 0), .nils])), shape := (.struct [(0, 3), (1, 3), (2, 56)]), eqs := false } := by kernel_rfl
@[simp] theorem ty173 : S.ty 173 = some { agg := true, size := 2, bytes := 24, zero := (some (.agg [(.str []), (.int .i64 0)])), shape := (.struct [(0, 9), (1, 3)]), eqs := true } := by kernel_rfl
@[simp] theorem ty182 : S.ty 182 = some { agg := true, size := 4, bytes := 56, zero := (some (.agg [(.int .i64 0), (.int .i64 0), (.str []), .nils])), shape := (.struct [(0, 3), (1, 3), (2, 9), (3, 35)]), eqs := false } := by kernel_rfl
end X
