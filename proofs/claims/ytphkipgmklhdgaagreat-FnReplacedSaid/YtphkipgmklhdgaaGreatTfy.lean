/- The types, one by one; for symbolic walks. -/
import Derived.Test.YtphkipgmklhdgaaGreatTft
import Derived.Test.YtphkipgmklhdgaaGreatVc
open Go Go.V Go.Proofs
namespace X
set_option maxRecDepth 100000
set_option maxHeartbeats 4000000
set_option linter.unusedSimpArgs false
set_option linter.unusedVariables false
@[simp] theorem ty3 : S.ty 3 = some { agg := false, size := 1, bytes := 8, zero := (some (.int .i64 0)), shape := (.int .i64), eqs := false } := by kernel_rfl
@[simp] theorem ty4 : S.ty 4 = some { agg := false, size := 1, bytes := 1, zero := (some (.bool false)), shape := .bool, eqs := false } := by kernel_rfl
@[simp] theorem ty5 : S.ty 5 = some { agg := false, size := 1, bytes := 1, zero := (some (.int .u8 0)), shape := (.int .u8), eqs := false } := by kernel_rfl
@[simp] theorem ty9 : S.ty 9 = some { agg := false, size := 1, bytes := 16, zero := (some (.str [])), shape := .str, eqs := false } := by kernel_rfl
@[simp] theorem ty22 : S.ty 22 = some { agg := false, size := 1, bytes := 24, zero := (some .nils), shape := (.slice 5), eqs := false } := by kernel_rfl
@[simp] theorem ty24 : S.ty 24 = some { agg := false, size := 1, bytes := 24, zero := (some .nils), shape := (.slice 66), eqs := false } := by kernel_rfl
@[simp] theorem ty26 : S.ty 26 = some { agg := true, size := 1, bytes := 24, zero := (some (.agg [.nils])), shape := (.struct [(0, 24)]), eqs := false } := by kernel_rfl
@[simp] theorem ty29 : S.ty 29 = some { agg := false, size := 1, bytes := 24, zero := (some .nils), shape := (.slice 34), eqs := false } := by kernel_rfl
@[simp] theorem ty34 : S.ty 34 = some { agg := true, size := 2, bytes := 16, zero := (some (.agg [(.int .i64 0), (.int .i64 0)])), shape := (.struct [(0, 3), (1, 3)]), eqs := true } := by kernel_rfl
@[simp] theorem ty45 : S.ty 45 = some { agg := false, size := 1, bytes := 24, zero := (some .nils), shape := (.slice 9), eqs := false } := by kernel_rfl
@[simp] theorem ty49 : S.ty 49 = some { agg := false, size := 1, bytes := 24, zero := (some .nils), shape := (.slice 3), eqs := false } := by kernel_rfl
@[simp] theorem ty51 : S.ty 51 = some { agg := true, size := 3, bytes := 40, zero := (some (.agg [.nils, (.int .i64 0), (.int .i64 0)])), shape := (.struct [(0, 22), (1, 3), (2, 3)]), eqs := false } := by kernel_rfl
@[simp] theorem ty55 : S.ty 55 = some { agg := false, size := 1, bytes := 24, zero := (some .nils), shape := (.slice 96), eqs := false } := by kernel_rfl
@[simp] theorem ty56 : S.ty 56 = some { agg := false, size := 1, bytes := 24, zero := (some .nils), shape := (.slice 77), eqs := false } := by kernel_rfl
@[simp] theorem ty58 : S.ty 58 = some { agg := true, size := 2, bytes := 48, zero := (some (.agg [.nils, .nils])), shape := (.struct [(0, 55), (1, 56)]), eqs := false } := by kernel_rfl
@[simp] theorem ty64 : S.ty 64 = some { agg := false, size := 1, bytes := 24, zero := (some .nils), shape := (.slice 108), eqs := false } := by kernel_rfl
@[simp] theorem ty66 : S.ty 66 = some { agg := true, size := 3, bytes := 64, zero := (some (.agg [(.str []), .nils, .nils])), shape := (.struct [(0, 9), (1, 45), (2, 64)]), eqs := false } := by kernel_rfl
@[simp] theorem ty69 : S.ty 69 = some { agg := false, size := 1, bytes := 24, zero := (some .nils), shape := (.slice 79), eqs := false } := by kernel_rfl
@[simp] theorem ty74 : S.ty 74 = some { agg := true, size := 5, bytes := 72, zero := (some (.agg [.nils, (.int .i64 0), (.int .i64 0), (.bool false), .nils])), shape := (.struct [(0, 69), (1, 3), (2, 3), (3, 4), (4, 55)]), eqs := false } := by kernel_rfl
@[simp] theorem ty77 : S.ty 77 = some { agg := true, size := 3, bytes := 48, zero := (some (.agg [(.str []), .nils, (.int .i64 0)])), shape := (.struct [(0, 9), (1, 45), (2, 3)]), eqs := false } := by kernel_rfl
@[simp] theorem ty79 : S.ty 79 = some { agg := true, size := 2, bytes := 24, zero := (some (.agg [(.int .i64 0), (.str [])])), shape := (.struct [(0, 3), (1, 9)]), eqs := true } := by kernel_rfl
@[simp] theorem ty84 : S.ty 84 = some { agg := false, size := 1, bytes := 24, zero := (some .nils), shape := (.slice 90), eqs := false } := by kernel_rfl
@[simp] theorem ty86 : S.ty 86 = some { agg := true, size := 1, bytes := 24, zero := (some (.agg [.nils])), shape := (.struct [(0, 84)]), eqs := false } := by kernel_rfl
@[simp] theorem ty90 : S.ty 90 = some { agg := true, size := 5, bytes := 88, zero := (some (.agg [(.int .i64 0), .nils, (.int .i64 0), .nils, .nils])), shape := (.struct [(0, 3), (1, 49), (2, 3), (3, 49), (4, 49)]), eqs := false } := by kernel_rfl
@[simp] theorem ty94 : S.ty 94 = some { agg := false, size := 1, bytes := 24, zero := (some .nils), shape := (.slice 146), eqs := false } := by kernel_rfl
@[simp] theorem ty96 : S.ty 96 = some { agg := true, size := 5, bytes := 88, zero := (some (.agg [(.int .i64 0), (.str []), .nils, (.str []), .nils])), shape := (.struct [(0, 3), (1, 9), (2, 94), (3, 9), (4, 49)]), eqs := false } := by kernel_rfl
@[simp] theorem ty101 : S.ty 101 = some { agg := false, size := 1, bytes := 24, zero := (some .nils), shape := (.slice 111), eqs := false } := by kernel_rfl
@[simp] theorem ty103 : S.ty 103 = some { agg := true, size := 5, bytes := 104, zero := (some (.agg [.nils, .nils, .nils, .nils, (.int .i64 0)])), shape := (.struct [(0, 58), (2, 26), (3, 101), (4, 3)]), eqs := false } := by kernel_rfl
@[simp] theorem ty105 : S.ty 105 = some { agg := false, size := 1, bytes := 24, zero := (some .nils), shape := (.slice 123), eqs := false } := by kernel_rfl
@[simp] theorem ty108 : S.ty 108 = some { agg := true, size := 1, bytes := 24, zero := (some (.agg [.nils])), shape := (.struct [(0, 105)]), eqs := false } := by kernel_rfl
@[simp] theorem ty111 : S.ty 111 = some { agg := true, size := 3, bytes := 40, zero := (some (.agg [(.int .i64 0), (.int .i64 0), .nils])), shape := (.struct [(0, 3), (1, 3), (2, 45)]), eqs := false } := by kernel_rfl
@[simp] theorem ty116 : S.ty 116 = some { agg := true, size := 6, bytes := 80, zero := (some (.agg [.nils, (.str []), .nils, (.int .i64 0), (.bool false), (.bool false)])), shape := (.struct [(0, 26), (1, 9), (2, 84), (3, 3), (4, 4), (5, 4)]), eqs := false } := by kernel_rfl
@[simp] theorem ty123 : S.ty 123 = some { agg := true, size := 4, bytes := 64, zero := (some (.agg [(.int .i64 0), (.str []), .nils, (.str [])])), shape := (.struct [(0, 3), (1, 9), (2, 94), (3, 9)]), eqs := false } := by kernel_rfl
@[simp] theorem ty133 : S.ty 133 = some { agg := false, size := 1, bytes := 24, zero := (some .nils), shape := (.slice 4), eqs := false } := by kernel_rfl
@[simp] theorem ty134 : S.ty 134 = some { agg := false, size := 1, bytes := 24, zero := (some .nils), shape := (.slice 139), eqs := false } := by kernel_rfl
@[simp] theorem ty136 : S.ty 136 = some { agg := false, size := 1, bytes := 24, zero := (some .nils), shape := (.slice 173), eqs := false } := by kernel_rfl
@[simp] theorem ty139 : S.ty 139 = some { agg := true, size := 2, bytes := 32, zero := (some (.agg [(.int .i64 0), .nils])), shape := (.struct [(0, 3), (1, 136)]), eqs := false } := by kernel_rfl
@[simp] theorem ty144 : S.ty 144 = some { agg := false, size := 1, bytes := 24, zero := (some .nils), shape := (.slice 152), eqs := false } := by kernel_rfl
@[simp] theorem ty146 : S.ty 146 = some { agg := true, size := 1, bytes := 24, zero := (some (.agg [.nils])), shape := (.struct [(0, 144)]), eqs := false } := by kernel_rfl
@[simp] theorem ty152 : S.ty 152 = some { agg := true, size := 4, bytes := 56, zero := (some (.agg [(.int .i64 0), (.int .i64 0), (.str []), .nils])), shape := (.struct [(0, 3), (1, 3), (2, 9), (3, 49)]), eqs := false } := by kernel_rfl
@[simp] theorem ty173 : S.ty 173 = some { agg := true, size := 2, bytes := 24, zero := (some (.agg [(.str []), (.int .i64 0)])), shape := (.struct [(0, 9), (1, 3)]), eqs := true } := by kernel_rfl
end X
