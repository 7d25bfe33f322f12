/- The seat's table of fast texts, and that the system stands. -/
import Derived.Test.YthfjcnjdcljhmaaGreatDoorTzc0
import Derived.Test.YthfjcnjdcljhmaaGreatDoorTzc1
import Derived.Test.YthfjcnjdcljhmaaGreatDoorTzc2
import Derived.Test.YthfjcnjdcljhmaaGreatDoorTzk0
import Derived.Test.YthfjcnjdcljhmaaGreatDoorTzk1
import Derived.Test.YthfjcnjdcljhmaaGreatDoorTzk2
import Derived.Test.YthfjcnjdcljhmaaGreatDoorTzk3
import Derived.Test.YthfjcnjdcljhmaaGreatDoorTzk4
import Derived.Test.YthfjcnjdcljhmaaGreatDoorTzk5
open Go Go.V Go.Proofs
namespace X
set_option maxRecDepth 100000
set_option maxHeartbeats 4000000
set_option linter.unusedSimpArgs false
set_option linter.unusedVariables false
noncomputable def tab : Tab := { st := .mk (.mk x17 x18 x19 x21 x23 x24 x25 x26 x27 x29 x38 x42 x43 x45 x46 x47) (.mk x48 x50 x54 x55 x56 x57 x58 x59 x71 x72 x73 x74 x75 x76 x77 x78) (.mk x79 x80 x81 x82 x83 x92 x93 x94 x95 x96 x97 x100 x101 x110 x111 x112) (.mk x114 x115 x116 x117 x118 x119 x120 x123 x125 x128 x129 x130 x131 x136 x145 x146) (.mk x147 x148 x150 x152 x161 x162 x164 x165 x166 x167 x168 x169 x173 x176 x177 x178) (.mk x179 x180 x181 x182 x183 x184 x187 x196 x198 x199 x209 x214 x218 x219 x225 x229) (.mk x251 x276 x287 x314 .no .no .no .no .no .no .no .no .no .no .no .no) (.mk .no .no .no .no .no .no .no .no .no .no .no .no .no .no .no .no) (.mk .no .no .no .no .no .no .no .no .no .no .no .no .no .no .no .no) (.mk .no .no .no .no .no .no .no .no .no .no .no .no .no .no .no .no) (.mk .no .no .no .no .no .no .no .no .no .no .no .no .no .no .no .no) (.mk .no .no .no .no .no .no .no .no .no .no .no .no .no .no .no .no) (.mk .no .no .no .no .no .no .no .no .no .no .no .no .no .no .no .no) (.mk .no .no .no .no .no .no .no .no .no .no .no .no .no .no .no .no) (.mk .no .no .no .no .no .no .no .no .no .no .no .no .no .no .no .no) (.mk .no .no .no .no .no .no .no .no .no .no .no .no .no .no .no .no), dyn := [x112, x115, x177] }
theorem tab_ok : tab.All (Entry ixf S) := by
  constructor
  · intro x hx e he
    simp only [tab, F16.toList, List.mem_cons, List.not_mem_nil, or_false] at hx
    rcases hx with rfl | rfl | rfl | rfl | rfl | rfl | rfl | rfl | rfl | rfl | rfl | rfl | rfl | rfl | rfl | rfl
    · simp only [F16.toList, List.mem_cons, List.not_mem_nil, or_false] at he
      rcases he with rfl | rfl | rfl | rfl | rfl | rfl | rfl | rfl | rfl | rfl | rfl | rfl | rfl | rfl | rfl | rfl
      · exact e17
      · exact e18
      · exact e19
      · exact e21
      · exact e23
      · exact e24
      · exact e25
      · exact e26
      · exact e27
      · exact e29
      · exact e38
      · exact e42
      · exact e43
      · exact e45
      · exact e46
      · exact e47
    · simp only [F16.toList, List.mem_cons, List.not_mem_nil, or_false] at he
      rcases he with rfl | rfl | rfl | rfl | rfl | rfl | rfl | rfl | rfl | rfl | rfl | rfl | rfl | rfl | rfl | rfl
      · exact e48
      · exact e50
      · exact e54
      · exact e55
      · exact e56
      · exact e57
      · exact e58
      · exact e59
      · exact e71
      · exact e72
      · exact e73
      · exact e74
      · exact e75
      · exact e76
      · exact e77
      · exact e78
    · simp only [F16.toList, List.mem_cons, List.not_mem_nil, or_false] at he
      rcases he with rfl | rfl | rfl | rfl | rfl | rfl | rfl | rfl | rfl | rfl | rfl | rfl | rfl | rfl | rfl | rfl
      · exact e79
      · exact e80
      · exact e81
      · exact e82
      · exact e83
      · exact e92
      · exact e93
      · exact e94
      · exact e95
      · exact e96
      · exact e97
      · exact e100
      · exact e101
      · exact e110
      · exact e111
      · exact e112
    · simp only [F16.toList, List.mem_cons, List.not_mem_nil, or_false] at he
      rcases he with rfl | rfl | rfl | rfl | rfl | rfl | rfl | rfl | rfl | rfl | rfl | rfl | rfl | rfl | rfl | rfl
      · exact e114
      · exact e115
      · exact e116
      · exact e117
      · exact e118
      · exact e119
      · exact e120
      · exact e123
      · exact e125
      · exact e128
      · exact e129
      · exact e130
      · exact e131
      · exact e136
      · exact e145
      · exact e146
    · simp only [F16.toList, List.mem_cons, List.not_mem_nil, or_false] at he
      rcases he with rfl | rfl | rfl | rfl | rfl | rfl | rfl | rfl | rfl | rfl | rfl | rfl | rfl | rfl | rfl | rfl
      · exact e147
      · exact e148
      · exact e150
      · exact e152
      · exact e161
      · exact e162
      · exact e164
      · exact e165
      · exact e166
      · exact e167
      · exact e168
      · exact e169
      · exact e173
      · exact e176
      · exact e177
      · exact e178
    · simp only [F16.toList, List.mem_cons, List.not_mem_nil, or_false] at he
      rcases he with rfl | rfl | rfl | rfl | rfl | rfl | rfl | rfl | rfl | rfl | rfl | rfl | rfl | rfl | rfl | rfl
      · exact e179
      · exact e180
      · exact e181
      · exact e182
      · exact e183
      · exact e184
      · exact e187
      · exact e196
      · exact e198
      · exact e199
      · exact e209
      · exact e214
      · exact e218
      · exact e219
      · exact e225
      · exact e229
    · simp only [F16.toList, List.mem_cons, List.not_mem_nil, or_false] at he
      rcases he with rfl | rfl | rfl | rfl | rfl | rfl | rfl | rfl | rfl | rfl | rfl | rfl | rfl | rfl | rfl | rfl
      · exact e251
      · exact e276
      · exact e287
      · exact e314
      · exact trivial
      · exact trivial
      · exact trivial
      · exact trivial
      · exact trivial
      · exact trivial
      · exact trivial
      · exact trivial
      · exact trivial
      · exact trivial
      · exact trivial
      · exact trivial
    · simp only [F16.toList, List.mem_cons, List.not_mem_nil, or_false] at he
      rcases he with rfl | rfl | rfl | rfl | rfl | rfl | rfl | rfl | rfl | rfl | rfl | rfl | rfl | rfl | rfl | rfl
      · exact trivial
      · exact trivial
      · exact trivial
      · exact trivial
      · exact trivial
      · exact trivial
      · exact trivial
      · exact trivial
      · exact trivial
      · exact trivial
      · exact trivial
      · exact trivial
      · exact trivial
      · exact trivial
      · exact trivial
      · exact trivial
    · simp only [F16.toList, List.mem_cons, List.not_mem_nil, or_false] at he
      rcases he with rfl | rfl | rfl | rfl | rfl | rfl | rfl | rfl | rfl | rfl | rfl | rfl | rfl | rfl | rfl | rfl
      · exact trivial
      · exact trivial
      · exact trivial
      · exact trivial
      · exact trivial
      · exact trivial
      · exact trivial
      · exact trivial
      · exact trivial
      · exact trivial
      · exact trivial
      · exact trivial
      · exact trivial
      · exact trivial
      · exact trivial
      · exact trivial
    · simp only [F16.toList, List.mem_cons, List.not_mem_nil, or_false] at he
      rcases he with rfl | rfl | rfl | rfl | rfl | rfl | rfl | rfl | rfl | rfl | rfl | rfl | rfl | rfl | rfl | rfl
      · exact trivial
      · exact trivial
      · exact trivial
      · exact trivial
      · exact trivial
      · exact trivial
      · exact trivial
      · exact trivial
      · exact trivial
      · exact trivial
      · exact trivial
      · exact trivial
      · exact trivial
      · exact trivial
      · exact trivial
      · exact trivial
    · simp only [F16.toList, List.mem_cons, List.not_mem_nil, or_false] at he
      rcases he with rfl | rfl | rfl | rfl | rfl | rfl | rfl | rfl | rfl | rfl | rfl | rfl | rfl | rfl | rfl | rfl
      · exact trivial
      · exact trivial
      · exact trivial
      · exact trivial
      · exact trivial
      · exact trivial
      · exact trivial
      · exact trivial
      · exact trivial
      · exact trivial
      · exact trivial
      · exact trivial
      · exact trivial
      · exact trivial
      · exact trivial
      · exact trivial
    · simp only [F16.toList, List.mem_cons, List.not_mem_nil, or_false] at he
      rcases he with rfl | rfl | rfl | rfl | rfl | rfl | rfl | rfl | rfl | rfl | rfl | rfl | rfl | rfl | rfl | rfl
      · exact trivial
      · exact trivial
      · exact trivial
      · exact trivial
      · exact trivial
      · exact trivial
      · exact trivial
      · exact trivial
      · exact trivial
      · exact trivial
      · exact trivial
      · exact trivial
      · exact trivial
      · exact trivial
      · exact trivial
      · exact trivial
    · simp only [F16.toList, List.mem_cons, List.not_mem_nil, or_false] at he
      rcases he with rfl | rfl | rfl | rfl | rfl | rfl | rfl | rfl | rfl | rfl | rfl | rfl | rfl | rfl | rfl | rfl
      · exact trivial
      · exact trivial
      · exact trivial
      · exact trivial
      · exact trivial
      · exact trivial
      · exact trivial
      · exact trivial
      · exact trivial
      · exact trivial
      · exact trivial
      · exact trivial
      · exact trivial
      · exact trivial
      · exact trivial
      · exact trivial
    · simp only [F16.toList, List.mem_cons, List.not_mem_nil, or_false] at he
      rcases he with rfl | rfl | rfl | rfl | rfl | rfl | rfl | rfl | rfl | rfl | rfl | rfl | rfl | rfl | rfl | rfl
      · exact trivial
      · exact trivial
      · exact trivial
      · exact trivial
      · exact trivial
      · exact trivial
      · exact trivial
      · exact trivial
      · exact trivial
      · exact trivial
      · exact trivial
      · exact trivial
      · exact trivial
      · exact trivial
      · exact trivial
      · exact trivial
    · simp only [F16.toList, List.mem_cons, List.not_mem_nil, or_false] at he
      rcases he with rfl | rfl | rfl | rfl | rfl | rfl | rfl | rfl | rfl | rfl | rfl | rfl | rfl | rfl | rfl | rfl
      · exact trivial
      · exact trivial
      · exact trivial
      · exact trivial
      · exact trivial
      · exact trivial
      · exact trivial
      · exact trivial
      · exact trivial
      · exact trivial
      · exact trivial
      · exact trivial
      · exact trivial
      · exact trivial
      · exact trivial
      · exact trivial
    · simp only [F16.toList, List.mem_cons, List.not_mem_nil, or_false] at he
      rcases he with rfl | rfl | rfl | rfl | rfl | rfl | rfl | rfl | rfl | rfl | rfl | rfl | rfl | rfl | rfl | rfl
      · exact trivial
      · exact trivial
      · exact trivial
      · exact trivial
      · exact trivial
      · exact trivial
      · exact trivial
      · exact trivial
      · exact trivial
      · exact trivial
      · exact trivial
      · exact trivial
      · exact trivial
      · exact trivial
      · exact trivial
      · exact trivial
  · intro e he
    simp only [tab, List.mem_cons, List.not_mem_nil, or_false] at he
    rcases he with rfl | rfl | rfl
    · exact e112
    · exact e115
    · exact e177
theorem tyF_mem (l : List (Nat × TI)) (t : TypeId) (x : TI) (h : tyF l t = some x) : (t, x) ∈ l := by
  induction l with
  | nil => simp [tyF] at h
  | cons p r ih =>
    obtain ⟨g, B⟩ := p
    simp only [tyF] at h
    split at h
    · rename_i e; cases h; rw [Nat.eq_of_beq_eq_true e]; simp
    · simp [ih h]
theorem annF_mem (l : List (Nat × Ann)) (f : FuncId) (A : Ann) (h : annF l f = some A) : (f, A) ∈ l := by
  induction l with
  | nil => simp [annF] at h
  | cons p r ih =>
    obtain ⟨g, B⟩ := p
    simp only [annF] at h
    split at h
    · rename_i e; cases h; rw [Nat.eq_of_beq_eq_true e]; simp
    · simp [ih h]
theorem tk2 : tiOf Tryz.prog 2 = some { agg := false, size := 1, bytes := 8, zero := (some (.int .i64 (.ofNat 0))), shape := (.int .i64), eqs := false } := by kernel_rfl
theorem tk3 : tiOf Tryz.prog 3 = some { agg := false, size := 1, bytes := 8, zero := (some (.int .i64 (.ofNat 0))), shape := (.int .i64), eqs := false } := by kernel_rfl
theorem tk4 : tiOf Tryz.prog 4 = some { agg := false, size := 1, bytes := 1, zero := (some (.bool false)), shape := .bool, eqs := false } := by kernel_rfl
theorem tk5 : tiOf Tryz.prog 5 = some { agg := false, size := 1, bytes := 1, zero := (some (.int .u8 (.ofNat 0))), shape := (.int .u8), eqs := false } := by kernel_rfl
theorem tk9 : tiOf Tryz.prog 9 = some { agg := false, size := 1, bytes := 16, zero := (some (.str [])), shape := .str, eqs := false } := by kernel_rfl
theorem tk22 : tiOf Tryz.prog 22 = some { agg := false, size := 1, bytes := 24, zero := (some .nils), shape := (.slice 5), eqs := false } := by kernel_rfl
theorem tk24 : tiOf Tryz.prog 24 = some { agg := false, size := 1, bytes := 24, zero := (some .nils), shape := (.slice 3), eqs := false } := by kernel_rfl
theorem tk26 : tiOf Tryz.prog 26 = some { agg := false, size := 1, bytes := 24, zero := (some .nils), shape := (.slice 71), eqs := false } := by kernel_rfl
theorem tk28 : tiOf Tryz.prog 28 = some { agg := true, size := 1, bytes := 24, zero := (some (.agg [.nils])), shape := (.struct [(0, 26)]), eqs := false } := by kernel_rfl
theorem tk30 : tiOf Tryz.prog 30 = some { agg := false, size := 1, bytes := 24, zero := (some .nils), shape := (.slice 9), eqs := false } := by kernel_rfl
theorem tk38 : tiOf Tryz.prog 38 = some { agg := false, size := 1, bytes := 24, zero := (some .nils), shape := (.slice 43), eqs := false } := by kernel_rfl
theorem tk43 : tiOf Tryz.prog 43 = some { agg := true, size := 2, bytes := 16, zero := (some (.agg [(.int .i64 (.ofNat 0)), (.int .i64 (.ofNat 0))])), shape := (.struct [(0, 3), (1, 3)]), eqs := true } := by kernel_rfl
theorem tk45 : tiOf Tryz.prog 45 = some { agg := false, size := 1, bytes := 24, zero := (some .nils), shape := (.slice 154), eqs := false } := by kernel_rfl
theorem tk46 : tiOf Tryz.prog 46 = some { agg := false, size := 1, bytes := 24, zero := (some .nils), shape := (.slice 96), eqs := false } := by kernel_rfl
theorem tk48 : tiOf Tryz.prog 48 = some { agg := true, size := 2, bytes := 48, zero := (some (.agg [.nils, .nils])), shape := (.struct [(0, 45), (1, 46)]), eqs := false } := by kernel_rfl
theorem tk69 : tiOf Tryz.prog 69 = some { agg := false, size := 1, bytes := 24, zero := (some .nils), shape := (.slice 133), eqs := false } := by kernel_rfl
theorem tk71 : tiOf Tryz.prog 71 = some { agg := true, size := 3, bytes := 64, zero := (some (.agg [(.str []), .nils, .nils])), shape := (.struct [(0, 9), (1, 30), (2, 69)]), eqs := false } := by kernel_rfl
theorem tk77 : tiOf Tryz.prog 77 = some { agg := false, size := 1, bytes := 24, zero := (some .nils), shape := (.slice 83), eqs := false } := by kernel_rfl
theorem tk79 : tiOf Tryz.prog 79 = some { agg := true, size := 1, bytes := 24, zero := (some (.agg [.nils])), shape := (.struct [(0, 77)]), eqs := false } := by kernel_rfl
theorem tk83 : tiOf Tryz.prog 83 = some { agg := true, size := 5, bytes := 88, zero := (some (.agg [(.int .i64 (.ofNat 0)), .nils, (.int .i64 (.ofNat 0)), .nils, .nils])), shape := (.struct [(0, 3), (1, 24), (2, 3), (3, 24), (4, 24)]), eqs := false } := by kernel_rfl
theorem tk84 : tiOf Tryz.prog 84 = some { agg := false, size := 1, bytes := 24, zero := (some .nils), shape := (.slice 98), eqs := false } := by kernel_rfl
theorem tk93 : tiOf Tryz.prog 93 = some { agg := true, size := 5, bytes := 72, zero := (some (.agg [.nils, (.int .i64 (.ofNat 0)), (.int .i64 (.ofNat 0)), (.bool false), .nils])), shape := (.struct [(0, 84), (1, 3), (2, 3), (3, 4), (4, 45)]), eqs := false } := by kernel_rfl
theorem tk96 : tiOf Tryz.prog 96 = some { agg := true, size := 3, bytes := 48, zero := (some (.agg [(.str []), .nils, (.int .i64 (.ofNat 0))])), shape := (.struct [(0, 9), (1, 30), (2, 3)]), eqs := false } := by kernel_rfl
theorem tk98 : tiOf Tryz.prog 98 = some { agg := true, size := 2, bytes := 24, zero := (some (.agg [(.int .i64 (.ofNat 0)), (.str [])])), shape := (.struct [(0, 3), (1, 9)]), eqs := true } := by kernel_rfl
theorem tk104 : tiOf Tryz.prog 104 = some { agg := false, size := 1, bytes := 8, zero := (some .nilm), shape := (.map 9 3), eqs := false } := by kernel_rfl
theorem tk131 : tiOf Tryz.prog 131 = some { agg := false, size := 1, bytes := 24, zero := (some .nils), shape := (.slice 141), eqs := false } := by kernel_rfl
theorem tk133 : tiOf Tryz.prog 133 = some { agg := true, size := 1, bytes := 24, zero := (some (.agg [.nils])), shape := (.struct [(0, 131)]), eqs := false } := by kernel_rfl
theorem tk136 : tiOf Tryz.prog 136 = some { agg := true, size := 3, bytes := 40, zero := (some (.agg [.nils, (.int .i64 (.ofNat 0)), (.int .i64 (.ofNat 0))])), shape := (.struct [(0, 22), (1, 3), (2, 3)]), eqs := false } := by kernel_rfl
theorem tk137 : tiOf Tryz.prog 137 = some { agg := false, size := 1, bytes := 8, zero := (some (.int .u64 (.ofNat 0))), shape := (.int .u64), eqs := false } := by kernel_rfl
theorem tk139 : tiOf Tryz.prog 139 = some { agg := false, size := 1, bytes := 24, zero := (some .nils), shape := (.slice 236), eqs := false } := by kernel_rfl
theorem tk141 : tiOf Tryz.prog 141 = some { agg := true, size := 4, bytes := 64, zero := (some (.agg [(.int .i64 (.ofNat 0)), (.str []), .nils, (.str [])])), shape := (.struct [(0, 3), (1, 9), (2, 139), (3, 9)]), eqs := false } := by kernel_rfl
theorem tk147 : tiOf Tryz.prog 147 = some { agg := true, size := 7, bytes := 112, zero := (some (.agg [.nils, (.str []), .nils, (.int .i64 (.ofNat 0)), (.bool false), .nils, .nilm])), shape := (.struct [(0, 28), (1, 9), (2, 79), (3, 3), (4, 4), (5, 24), (6, 104)]), eqs := false } := by kernel_rfl
theorem tk154 : tiOf Tryz.prog 154 = some { agg := true, size := 5, bytes := 88, zero := (some (.agg [(.int .i64 (.ofNat 0)), (.str []), .nils, (.str []), .nils])), shape := (.struct [(0, 3), (1, 9), (2, 139), (3, 9), (4, 24)]), eqs := false } := by kernel_rfl
theorem tk158 : tiOf Tryz.prog 158 = some { agg := false, size := 1, bytes := 24, zero := (some .nils), shape := (.slice 213), eqs := false } := by kernel_rfl
theorem tk182 : tiOf Tryz.prog 182 = some { agg := false, size := 1, bytes := 24, zero := (some .nils), shape := (.slice 188), eqs := false } := by kernel_rfl
theorem tk184 : tiOf Tryz.prog 184 = some { agg := true, size := 5, bytes := 104, zero := (some (.agg [.nils, .nils, .nils, .nils, (.int .i64 (.ofNat 0))])), shape := (.struct [(0, 48), (2, 28), (3, 182), (4, 3)]), eqs := false } := by kernel_rfl
theorem tk188 : tiOf Tryz.prog 188 = some { agg := true, size := 3, bytes := 40, zero := (some (.agg [(.int .i64 (.ofNat 0)), (.int .i64 (.ofNat 0)), .nils])), shape := (.struct [(0, 3), (1, 3), (2, 30)]), eqs := false } := by kernel_rfl
theorem tk213 : tiOf Tryz.prog 213 = some { agg := true, size := 2, bytes := 24, zero := (some (.agg [(.str []), (.int .i64 (.ofNat 0))])), shape := (.struct [(0, 9), (1, 3)]), eqs := true } := by kernel_rfl
theorem tk234 : tiOf Tryz.prog 234 = some { agg := false, size := 1, bytes := 24, zero := (some .nils), shape := (.slice 268), eqs := false } := by kernel_rfl
theorem tk236 : tiOf Tryz.prog 236 = some { agg := true, size := 1, bytes := 24, zero := (some (.agg [.nils])), shape := (.struct [(0, 234)]), eqs := false } := by kernel_rfl
theorem tk268 : tiOf Tryz.prog 268 = some { agg := true, size := 4, bytes := 56, zero := (some (.agg [(.int .i64 (.ofNat 0)), (.int .i64 (.ofNat 0)), (.str []), .nils])), shape := (.struct [(0, 3), (1, 3), (2, 9), (3, 24)]), eqs := false } := by kernel_rfl
theorem tk271 : tiOf Tryz.prog 271 = some { agg := false, size := 1, bytes := 8, zero := (some (.int .i64 (.ofNat 0))), shape := (.int .i64), eqs := false } := by kernel_rfl
theorem tk279 : tiOf Tryz.prog 279 = some { agg := false, size := 1, bytes := 4, zero := (some (.int .u32 (.ofNat 0))), shape := (.int .u32), eqs := false } := by kernel_rfl
theorem tk281 : tiOf Tryz.prog 281 = some { agg := false, size := 1, bytes := 8, zero := (some (.int .u64 (.ofNat 0))), shape := (.int .u64), eqs := false } := by kernel_rfl
theorem tk294 : tiOf Tryz.prog 294 = some { agg := true, size := 2, bytes := 32, zero := (some (.agg [.nilp, .nils])), shape := (.struct [(0, 292), (1, 22)]), eqs := false } := by kernel_rfl
theorem tk343 : tiOf Tryz.prog 343 = some { agg := true, size := 24, bytes := 24, zero := (some (.agg [(.int .u8 (.ofNat 0)), (.int .u8 (.ofNat 0)), (.int .u8 (.ofNat 0)), (.int .u8 (.ofNat 0)), (.int .u8 (.ofNat 0)), (.int .u8 (.ofNat 0)), (.int .u8 (.ofNat 0)), (.int .u8 (.ofNat 0)), (.int .u8 (.ofNat 0)), (.int .u8 (.ofNat 0)), (.int .u8 (.ofNat 0)), (.int .u8 (.ofNat 0)), (.int .u8 (.ofNat 0)), (.int .u8 (.ofNat 0)), (.int .u8 (.ofNat 0)), (.int .u8 (.ofNat 0)), (.int .u8 (.ofNat 0)), (.int .u8 (.ofNat 0)), (.int .u8 (.ofNat 0)), (.int .u8 (.ofNat 0)), (.int .u8 (.ofNat 0)), (.int .u8 (.ofNat 0)), (.int .u8 (.ofNat 0)), (.int .u8 (.ofNat 0))])), shape := (.array 24 5), eqs := false } := by kernel_rfl
theorem ty_ok : ∀ t x, S.ty t = some x → tiOf S.P t = some x := by
  intro t x h
  have := tyF_mem tyL t x h
  simp only [tyL, List.mem_cons, Prod.mk.injEq, List.not_mem_nil, or_false] at this
  rcases this with ⟨rfl, rfl⟩ | ⟨rfl, rfl⟩ | ⟨rfl, rfl⟩ | ⟨rfl, rfl⟩ | ⟨rfl, rfl⟩ | ⟨rfl, rfl⟩ | ⟨rfl, rfl⟩ | ⟨rfl, rfl⟩ | ⟨rfl, rfl⟩ | ⟨rfl, rfl⟩ | ⟨rfl, rfl⟩ | ⟨rfl, rfl⟩ | ⟨rfl, rfl⟩ | ⟨rfl, rfl⟩ | ⟨rfl, rfl⟩ | ⟨rfl, rfl⟩ | ⟨rfl, rfl⟩ | ⟨rfl, rfl⟩ | ⟨rfl, rfl⟩ | ⟨rfl, rfl⟩ | ⟨rfl, rfl⟩ | ⟨rfl, rfl⟩ | ⟨rfl, rfl⟩ | ⟨rfl, rfl⟩ | ⟨rfl, rfl⟩ | ⟨rfl, rfl⟩ | ⟨rfl, rfl⟩ | ⟨rfl, rfl⟩ | ⟨rfl, rfl⟩ | ⟨rfl, rfl⟩ | ⟨rfl, rfl⟩ | ⟨rfl, rfl⟩ | ⟨rfl, rfl⟩ | ⟨rfl, rfl⟩ | ⟨rfl, rfl⟩ | ⟨rfl, rfl⟩ | ⟨rfl, rfl⟩ | ⟨rfl, rfl⟩ | ⟨rfl, rfl⟩ | ⟨rfl, rfl⟩ | ⟨rfl, rfl⟩ | ⟨rfl, rfl⟩ | ⟨rfl, rfl⟩ | ⟨rfl, rfl⟩ | ⟨rfl, rfl⟩ | ⟨rfl, rfl⟩
  · exact tk2
  · exact tk3
  · exact tk4
  · exact tk5
  · exact tk9
  · exact tk22
  · exact tk24
  · exact tk26
  · exact tk28
  · exact tk30
  · exact tk38
  · exact tk43
  · exact tk45
  · exact tk46
  · exact tk48
  · exact tk69
  · exact tk71
  · exact tk77
  · exact tk79
  · exact tk83
  · exact tk84
  · exact tk93
  · exact tk96
  · exact tk98
  · exact tk104
  · exact tk131
  · exact tk133
  · exact tk136
  · exact tk137
  · exact tk139
  · exact tk141
  · exact tk147
  · exact tk154
  · exact tk158
  · exact tk182
  · exact tk184
  · exact tk188
  · exact tk213
  · exact tk234
  · exact tk236
  · exact tk268
  · exact tk271
  · exact tk279
  · exact tk281
  · exact tk294
  · exact tk343
theorem sysOk : SysOk S where
  ty := ty_ok
  mixed := by kernel_rfl
  fn := fun f A h => by
    have := annF_mem _ _ _ (show annF annL f = some A from h)
    simp only [annL, List.mem_cons, Prod.mk.injEq, List.not_mem_nil, or_false] at this
    rcases this with ⟨rfl, rfl⟩ | ⟨rfl, rfl⟩ | ⟨rfl, rfl⟩ | ⟨rfl, rfl⟩ | ⟨rfl, rfl⟩ | ⟨rfl, rfl⟩ | ⟨rfl, rfl⟩ | ⟨rfl, rfl⟩ | ⟨rfl, rfl⟩ | ⟨rfl, rfl⟩ | ⟨rfl, rfl⟩ | ⟨rfl, rfl⟩ | ⟨rfl, rfl⟩ | ⟨rfl, rfl⟩ | ⟨rfl, rfl⟩ | ⟨rfl, rfl⟩ | ⟨rfl, rfl⟩ | ⟨rfl, rfl⟩ | ⟨rfl, rfl⟩ | ⟨rfl, rfl⟩ | ⟨rfl, rfl⟩ | ⟨rfl, rfl⟩ | ⟨rfl, rfl⟩ | ⟨rfl, rfl⟩ | ⟨rfl, rfl⟩ | ⟨rfl, rfl⟩ | ⟨rfl, rfl⟩ | ⟨rfl, rfl⟩ | ⟨rfl, rfl⟩ | ⟨rfl, rfl⟩ | ⟨rfl, rfl⟩ | ⟨rfl, rfl⟩ | ⟨rfl, rfl⟩ | ⟨rfl, rfl⟩ | ⟨rfl, rfl⟩ | ⟨rfl, rfl⟩ | ⟨rfl, rfl⟩ | ⟨rfl, rfl⟩ | ⟨rfl, rfl⟩ | ⟨rfl, rfl⟩ | ⟨rfl, rfl⟩ | ⟨rfl, rfl⟩ | ⟨rfl, rfl⟩ | ⟨rfl, rfl⟩ | ⟨rfl, rfl⟩ | ⟨rfl, rfl⟩ | ⟨rfl, rfl⟩ | ⟨rfl, rfl⟩ | ⟨rfl, rfl⟩ | ⟨rfl, rfl⟩ | ⟨rfl, rfl⟩ | ⟨rfl, rfl⟩ | ⟨rfl, rfl⟩ | ⟨rfl, rfl⟩ | ⟨rfl, rfl⟩ | ⟨rfl, rfl⟩ | ⟨rfl, rfl⟩ | ⟨rfl, rfl⟩ | ⟨rfl, rfl⟩ | ⟨rfl, rfl⟩ | ⟨rfl, rfl⟩ | ⟨rfl, rfl⟩ | ⟨rfl, rfl⟩ | ⟨rfl, rfl⟩ | ⟨rfl, rfl⟩ | ⟨rfl, rfl⟩ | ⟨rfl, rfl⟩ | ⟨rfl, rfl⟩ | ⟨rfl, rfl⟩ | ⟨rfl, rfl⟩ | ⟨rfl, rfl⟩ | ⟨rfl, rfl⟩ | ⟨rfl, rfl⟩ | ⟨rfl, rfl⟩ | ⟨rfl, rfl⟩ | ⟨rfl, rfl⟩ | ⟨rfl, rfl⟩ | ⟨rfl, rfl⟩ | ⟨rfl, rfl⟩ | ⟨rfl, rfl⟩ | ⟨rfl, rfl⟩ | ⟨rfl, rfl⟩ | ⟨rfl, rfl⟩ | ⟨rfl, rfl⟩ | ⟨rfl, rfl⟩ | ⟨rfl, rfl⟩ | ⟨rfl, rfl⟩ | ⟨rfl, rfl⟩ | ⟨rfl, rfl⟩ | ⟨rfl, rfl⟩ | ⟨rfl, rfl⟩ | ⟨rfl, rfl⟩ | ⟨rfl, rfl⟩ | ⟨rfl, rfl⟩ | ⟨rfl, rfl⟩ | ⟨rfl, rfl⟩ | ⟨rfl, rfl⟩ | ⟨rfl, rfl⟩ | ⟨rfl, rfl⟩ | ⟨rfl, rfl⟩ | ⟨rfl, rfl⟩ | ⟨rfl, rfl⟩ | ⟨rfl, rfl⟩ | ⟨rfl, rfl⟩ | ⟨rfl, rfl⟩ | ⟨rfl, rfl⟩ | ⟨rfl, rfl⟩ | ⟨rfl, rfl⟩
    · exact k17
    · exact k18
    · exact k19
    · exact k21
    · exact k23
    · exact k24
    · exact k25
    · exact k26
    · exact k27
    · exact k29
    · exact k38
    · exact k42
    · exact k43
    · exact k45
    · exact k46
    · exact k47
    · exact k48
    · exact k50
    · exact k54
    · exact k55
    · exact k56
    · exact k57
    · exact k58
    · exact k59
    · exact k71
    · exact k72
    · exact k73
    · exact k74
    · exact k75
    · exact k76
    · exact k77
    · exact k78
    · exact k79
    · exact k80
    · exact k81
    · exact k82
    · exact k83
    · exact k92
    · exact k93
    · exact k94
    · exact k95
    · exact k96
    · exact k97
    · exact k100
    · exact k101
    · exact k110
    · exact k111
    · exact k112
    · exact k114
    · exact k115
    · exact k116
    · exact k117
    · exact k118
    · exact k119
    · exact k120
    · exact k123
    · exact k125
    · exact k128
    · exact k129
    · exact k130
    · exact k131
    · exact k136
    · exact k145
    · exact k146
    · exact k147
    · exact k148
    · exact k150
    · exact k152
    · exact k161
    · exact k162
    · exact k164
    · exact k165
    · exact k166
    · exact k167
    · exact k168
    · exact k169
    · exact k173
    · exact k176
    · exact k177
    · exact k178
    · exact k179
    · exact k180
    · exact k181
    · exact k182
    · exact k183
    · exact k184
    · exact k187
    · exact k196
    · exact k198
    · exact k199
    · exact k209
    · exact k214
    · exact k218
    · exact k219
    · exact k225
    · exact k229
    · exact k251
    · exact k276
    · exact k287
    · exact k314
    · exact k4
    · exact k8
    · exact k7
    · exact k15
    · exact k16
    · exact k39
    · exact k40
    · exact k41
  ext := fun f args σ v σ' _ h => by cases h
  extPure := fun f args σ v σ' _ _ h => by cases h
end X
