/- The seat's table of fast texts, and that the system stands. -/
import Derived.Test.YthfjcnjdcljhmaaGreatDoorTzc0
import Derived.Test.YthfjcnjdcljhmaaGreatDoorTzc1
import Derived.Test.YthfjcnjdcljhmaaGreatDoorTzc2
import Derived.Test.YthfjcnjdcljhmaaGreatDoorTzk0
import Derived.Test.YthfjcnjdcljhmaaGreatDoorTzk1
import Derived.Test.YthfjcnjdcljhmaaGreatDoorTzk2
import Derived.Test.YthfjcnjdcljhmaaGreatDoorTzk3
import Derived.Test.YthfjcnjdcljhmaaGreatDoorTzk4
import Derived.Test.YthfjcnjdcljhmaaGreatDoorTzk5
import Derived.Lib.Strings
import Derived.Lib.Slices
import Derived.Lib.Walk
open Go Go.V Go.Proofs
namespace X
set_option maxRecDepth 100000
set_option maxHeartbeats 4000000
set_option linter.unusedSimpArgs false
set_option linter.unusedVariables false
noncomputable def tab : Tab := { st := .mk (.mk x17 x18 x19 x20 x21 x23 x24 x29 x30 x31 x32 x33 x34 x35 x36 x38) (.mk x42 x43 x44 x45 x46 x47 x48 x49 x50 x54 x55 x56 x57 x58 x59 x60) (.mk x61 x62 x63 x64 x65 x66 x67 x68 x69 x70 x71 x72 x73 x74 x75 x76) (.mk x77 x78 x79 x80 x81 x82 x83 x92 x93 x94 x95 x96 x97 x98 x99 x100) (.mk x101 x102 x103 x104 x105 x106 x107 x108 x109 x110 x111 x112 x114 x115 x116 x117) (.mk x118 x119 x120 x121 x123 x125 x128 x129 x130 x131 x136 x145 x146 x147 x148 x149) (.mk x150 x151 x152 x153 x154 x155 x156 x157 x158 x159 x161 x162 x164 x165 x166 x167) (.mk x168 x169 x170 x171 x172 x173 x175 x176 x177 x178 x179 x180 x181 x182 x183 x184) (.mk x187 x196 x197 x198 x199 x201 x203 x204 x209 x211 x213 x214 x216 x217 x218 x219) (.mk x225 x229 x238 x245 x247 x251 x253 x254 x255 x266 x268 x270 x276 x282 x283 x284) (.mk x287 x289 x292 x301 x310 x311 x314 x333 x344 x349 .no .no .no .no .no .no) (.mk .no .no .no .no .no .no .no .no .no .no .no .no .no .no .no .no) (.mk .no .no .no .no .no .no .no .no .no .no .no .no .no .no .no .no) (.mk .no .no .no .no .no .no .no .no .no .no .no .no .no .no .no .no) (.mk .no .no .no .no .no .no .no .no .no .no .no .no .no .no .no .no) (.mk .no .no .no .no .no .no .no .no .no .no .no .no .no .no .no .no), dyn := [x112, x115, x177] }
theorem tab_ok : tab.All (Entry ixf S) := by
  constructor
  · intro x hx e he
    simp only [tab, F16.toList, List.mem_cons, List.not_mem_nil, or_false] at hx
    rcases hx with rfl | rfl | rfl | rfl | rfl | rfl | rfl | rfl | rfl | rfl | rfl | rfl | rfl | rfl | rfl | rfl
    · simp only [F16.toList, List.mem_cons, List.not_mem_nil, or_false] at he
      rcases he with rfl | rfl | rfl | rfl | rfl | rfl | rfl | rfl | rfl | rfl | rfl | rfl | rfl | rfl | rfl | rfl
      · exact e17
      · exact e18
      · exact e19
      · exact e20
      · exact e21
      · exact e23
      · exact e24
      · exact e29
      · exact e30
      · exact e31
      · exact e32
      · exact e33
      · exact e34
      · exact e35
      · exact e36
      · exact e38
    · simp only [F16.toList, List.mem_cons, List.not_mem_nil, or_false] at he
      rcases he with rfl | rfl | rfl | rfl | rfl | rfl | rfl | rfl | rfl | rfl | rfl | rfl | rfl | rfl | rfl | rfl
      · exact e42
      · exact e43
      · exact e44
      · exact e45
      · exact e46
      · exact e47
      · exact e48
      · exact e49
      · exact e50
      · exact e54
      · exact e55
      · exact e56
      · exact e57
      · exact e58
      · exact e59
      · exact e60
    · simp only [F16.toList, List.mem_cons, List.not_mem_nil, or_false] at he
      rcases he with rfl | rfl | rfl | rfl | rfl | rfl | rfl | rfl | rfl | rfl | rfl | rfl | rfl | rfl | rfl | rfl
      · exact e61
      · exact e62
      · exact e63
      · exact e64
      · exact e65
      · exact e66
      · exact e67
      · exact e68
      · exact e69
      · exact e70
      · exact e71
      · exact e72
      · exact e73
      · exact e74
      · exact e75
      · exact e76
    · simp only [F16.toList, List.mem_cons, List.not_mem_nil, or_false] at he
      rcases he with rfl | rfl | rfl | rfl | rfl | rfl | rfl | rfl | rfl | rfl | rfl | rfl | rfl | rfl | rfl | rfl
      · exact e77
      · exact e78
      · exact e79
      · exact e80
      · exact e81
      · exact e82
      · exact e83
      · exact e92
      · exact e93
      · exact e94
      · exact e95
      · exact e96
      · exact e97
      · exact e98
      · exact e99
      · exact e100
    · simp only [F16.toList, List.mem_cons, List.not_mem_nil, or_false] at he
      rcases he with rfl | rfl | rfl | rfl | rfl | rfl | rfl | rfl | rfl | rfl | rfl | rfl | rfl | rfl | rfl | rfl
      · exact e101
      · exact e102
      · exact e103
      · exact e104
      · exact e105
      · exact e106
      · exact e107
      · exact e108
      · exact e109
      · exact e110
      · exact e111
      · exact e112
      · exact e114
      · exact e115
      · exact e116
      · exact e117
    · simp only [F16.toList, List.mem_cons, List.not_mem_nil, or_false] at he
      rcases he with rfl | rfl | rfl | rfl | rfl | rfl | rfl | rfl | rfl | rfl | rfl | rfl | rfl | rfl | rfl | rfl
      · exact e118
      · exact e119
      · exact e120
      · exact e121
      · exact e123
      · exact e125
      · exact e128
      · exact e129
      · exact e130
      · exact e131
      · exact e136
      · exact e145
      · exact e146
      · exact e147
      · exact e148
      · exact e149
    · simp only [F16.toList, List.mem_cons, List.not_mem_nil, or_false] at he
      rcases he with rfl | rfl | rfl | rfl | rfl | rfl | rfl | rfl | rfl | rfl | rfl | rfl | rfl | rfl | rfl | rfl
      · exact e150
      · exact e151
      · exact e152
      · exact e153
      · exact e154
      · exact e155
      · exact e156
      · exact e157
      · exact e158
      · exact e159
      · exact e161
      · exact e162
      · exact e164
      · exact e165
      · exact e166
      · exact e167
    · simp only [F16.toList, List.mem_cons, List.not_mem_nil, or_false] at he
      rcases he with rfl | rfl | rfl | rfl | rfl | rfl | rfl | rfl | rfl | rfl | rfl | rfl | rfl | rfl | rfl | rfl
      · exact e168
      · exact e169
      · exact e170
      · exact e171
      · exact e172
      · exact e173
      · exact e175
      · exact e176
      · exact e177
      · exact e178
      · exact e179
      · exact e180
      · exact e181
      · exact e182
      · exact e183
      · exact e184
    · simp only [F16.toList, List.mem_cons, List.not_mem_nil, or_false] at he
      rcases he with rfl | rfl | rfl | rfl | rfl | rfl | rfl | rfl | rfl | rfl | rfl | rfl | rfl | rfl | rfl | rfl
      · exact e187
      · exact e196
      · exact e197
      · exact e198
      · exact e199
      · exact e201
      · exact e203
      · exact e204
      · exact e209
      · exact e211
      · exact e213
      · exact e214
      · exact e216
      · exact e217
      · exact e218
      · exact e219
    · simp only [F16.toList, List.mem_cons, List.not_mem_nil, or_false] at he
      rcases he with rfl | rfl | rfl | rfl | rfl | rfl | rfl | rfl | rfl | rfl | rfl | rfl | rfl | rfl | rfl | rfl
      · exact e225
      · exact e229
      · exact e238
      · exact e245
      · exact e247
      · exact e251
      · exact e253
      · exact e254
      · exact e255
      · exact e266
      · exact e268
      · exact e270
      · exact e276
      · exact e282
      · exact e283
      · exact e284
    · simp only [F16.toList, List.mem_cons, List.not_mem_nil, or_false] at he
      rcases he with rfl | rfl | rfl | rfl | rfl | rfl | rfl | rfl | rfl | rfl | rfl | rfl | rfl | rfl | rfl | rfl
      · exact e287
      · exact e289
      · exact e292
      · exact e301
      · exact e310
      · exact e311
      · exact e314
      · exact e333
      · exact e344
      · exact e349
      · exact trivial
      · exact trivial
      · exact trivial
      · exact trivial
      · exact trivial
      · exact trivial
    · simp only [F16.toList, List.mem_cons, List.not_mem_nil, or_false] at he
      rcases he with rfl | rfl | rfl | rfl | rfl | rfl | rfl | rfl | rfl | rfl | rfl | rfl | rfl | rfl | rfl | rfl
      · exact trivial
      · exact trivial
      · exact trivial
      · exact trivial
      · exact trivial
      · exact trivial
      · exact trivial
      · exact trivial
      · exact trivial
      · exact trivial
      · exact trivial
      · exact trivial
      · exact trivial
      · exact trivial
      · exact trivial
      · exact trivial
    · simp only [F16.toList, List.mem_cons, List.not_mem_nil, or_false] at he
      rcases he with rfl | rfl | rfl | rfl | rfl | rfl | rfl | rfl | rfl | rfl | rfl | rfl | rfl | rfl | rfl | rfl
      · exact trivial
      · exact trivial
      · exact trivial
      · exact trivial
      · exact trivial
      · exact trivial
      · exact trivial
      · exact trivial
      · exact trivial
      · exact trivial
      · exact trivial
      · exact trivial
      · exact trivial
      · exact trivial
      · exact trivial
      · exact trivial
    · simp only [F16.toList, List.mem_cons, List.not_mem_nil, or_false] at he
      rcases he with rfl | rfl | rfl | rfl | rfl | rfl | rfl | rfl | rfl | rfl | rfl | rfl | rfl | rfl | rfl | rfl
      · exact trivial
      · exact trivial
      · exact trivial
      · exact trivial
      · exact trivial
      · exact trivial
      · exact trivial
      · exact trivial
      · exact trivial
      · exact trivial
      · exact trivial
      · exact trivial
      · exact trivial
      · exact trivial
      · exact trivial
      · exact trivial
    · simp only [F16.toList, List.mem_cons, List.not_mem_nil, or_false] at he
      rcases he with rfl | rfl | rfl | rfl | rfl | rfl | rfl | rfl | rfl | rfl | rfl | rfl | rfl | rfl | rfl | rfl
      · exact trivial
      · exact trivial
      · exact trivial
      · exact trivial
      · exact trivial
      · exact trivial
      · exact trivial
      · exact trivial
      · exact trivial
      · exact trivial
      · exact trivial
      · exact trivial
      · exact trivial
      · exact trivial
      · exact trivial
      · exact trivial
    · simp only [F16.toList, List.mem_cons, List.not_mem_nil, or_false] at he
      rcases he with rfl | rfl | rfl | rfl | rfl | rfl | rfl | rfl | rfl | rfl | rfl | rfl | rfl | rfl | rfl | rfl
      · exact trivial
      · exact trivial
      · exact trivial
      · exact trivial
      · exact trivial
      · exact trivial
      · exact trivial
      · exact trivial
      · exact trivial
      · exact trivial
      · exact trivial
      · exact trivial
      · exact trivial
      · exact trivial
      · exact trivial
      · exact trivial
  · intro e he
    simp only [tab, List.mem_cons, List.not_mem_nil, or_false] at he
    rcases he with rfl | rfl | rfl
    · exact e112
    · exact e115
    · exact e177
theorem tyF_mem (l : List (Nat × TI)) (t : TypeId) (x : TI) (h : tyF l t = some x) : (t, x) ∈ l := by
  induction l with
  | nil => simp [tyF] at h
  | cons p r ih =>
    obtain ⟨g, B⟩ := p
    simp only [tyF] at h
    split at h
    · rename_i e; cases h; rw [Nat.eq_of_beq_eq_true e]; simp
    · simp [ih h]
theorem annF_mem (l : List (Nat × Ann)) (f : FuncId) (A : Ann) (h : annF l f = some A) : (f, A) ∈ l := by
  induction l with
  | nil => simp [annF] at h
  | cons p r ih =>
    obtain ⟨g, B⟩ := p
    simp only [annF] at h
    split at h
    · rename_i e; cases h; rw [Nat.eq_of_beq_eq_true e]; simp
    · simp [ih h]
theorem tk2 : tiOf Tryz.prog 2 = some { agg := false, size := 1, bytes := 8, zero := (some (.int .i64 (.ofNat 0))), shape := (.int .i64), eqs := false } := by kernel_rfl
theorem tk3 : tiOf Tryz.prog 3 = some { agg := false, size := 1, bytes := 8, zero := (some (.int .i64 (.ofNat 0))), shape := (.int .i64), eqs := false } := by kernel_rfl
theorem tk4 : tiOf Tryz.prog 4 = some { agg := false, size := 1, bytes := 1, zero := (some (.bool false)), shape := .bool, eqs := false } := by kernel_rfl
theorem tk5 : tiOf Tryz.prog 5 = some { agg := false, size := 1, bytes := 1, zero := (some (.int .u8 (.ofNat 0))), shape := (.int .u8), eqs := false } := by kernel_rfl
theorem tk9 : tiOf Tryz.prog 9 = some { agg := false, size := 1, bytes := 16, zero := (some (.str [])), shape := .str, eqs := false } := by kernel_rfl
theorem tk22 : tiOf Tryz.prog 22 = some { agg := false, size := 1, bytes := 24, zero := (some .nils), shape := (.slice 5), eqs := false } := by kernel_rfl
theorem tk24 : tiOf Tryz.prog 24 = some { agg := false, size := 1, bytes := 24, zero := (some .nils), shape := (.slice 3), eqs := false } := by kernel_rfl
theorem tk26 : tiOf Tryz.prog 26 = some { agg := false, size := 1, bytes := 24, zero := (some .nils), shape := (.slice 71), eqs := false } := by kernel_rfl
theorem tk28 : tiOf Tryz.prog 28 = some { agg := true, size := 1, bytes := 24, zero := (some (.agg [.nils])), shape := (.struct [(0, 26)]), eqs := false } := by kernel_rfl
theorem tk30 : tiOf Tryz.prog 30 = some { agg := false, size := 1, bytes := 24, zero := (some .nils), shape := (.slice 9), eqs := false } := by kernel_rfl
theorem tk45 : tiOf Tryz.prog 45 = some { agg := false, size := 1, bytes := 24, zero := (some .nils), shape := (.slice 154), eqs := false } := by kernel_rfl
theorem tk46 : tiOf Tryz.prog 46 = some { agg := false, size := 1, bytes := 24, zero := (some .nils), shape := (.slice 96), eqs := false } := by kernel_rfl
theorem tk48 : tiOf Tryz.prog 48 = some { agg := true, size := 2, bytes := 48, zero := (some (.agg [.nils, .nils])), shape := (.struct [(0, 45), (1, 46)]), eqs := false } := by kernel_rfl
theorem tk52 : tiOf Tryz.prog 52 = some { agg := false, size := 1, bytes := 24, zero := (some .nils), shape := (.slice 117), eqs := false } := by kernel_rfl
theorem tk56 : tiOf Tryz.prog 56 = some { agg := false, size := 1, bytes := 24, zero := (some .nils), shape := (.slice 127), eqs := false } := by kernel_rfl
theorem tk58 : tiOf Tryz.prog 58 = some { agg := true, size := 1, bytes := 24, zero := (some (.agg [.nils])), shape := (.struct [(0, 56)]), eqs := false } := by kernel_rfl
theorem tk69 : tiOf Tryz.prog 69 = some { agg := false, size := 1, bytes := 24, zero := (some .nils), shape := (.slice 133), eqs := false } := by kernel_rfl
theorem tk71 : tiOf Tryz.prog 71 = some { agg := true, size := 3, bytes := 64, zero := (some (.agg [(.str []), .nils, .nils])), shape := (.struct [(0, 9), (1, 30), (2, 69)]), eqs := false } := by kernel_rfl
theorem tk77 : tiOf Tryz.prog 77 = some { agg := false, size := 1, bytes := 24, zero := (some .nils), shape := (.slice 83), eqs := false } := by kernel_rfl
theorem tk79 : tiOf Tryz.prog 79 = some { agg := true, size := 1, bytes := 24, zero := (some (.agg [.nils])), shape := (.struct [(0, 77)]), eqs := false } := by kernel_rfl
theorem tk83 : tiOf Tryz.prog 83 = some { agg := true, size := 5, bytes := 88, zero := (some (.agg [(.int .i64 (.ofNat 0)), .nils, (.int .i64 (.ofNat 0)), .nils, .nils])), shape := (.struct [(0, 3), (1, 24), (2, 3), (3, 24), (4, 24)]), eqs := false } := by kernel_rfl
theorem tk84 : tiOf Tryz.prog 84 = some { agg := false, size := 1, bytes := 24, zero := (some .nils), shape := (.slice 98), eqs := false } := by kernel_rfl
theorem tk93 : tiOf Tryz.prog 93 = some { agg := true, size := 5, bytes := 72, zero := (some (.agg [.nils, (.int .i64 (.ofNat 0)), (.int .i64 (.ofNat 0)), (.bool false), .nils])), shape := (.struct [(0, 84), (1, 3), (2, 3), (3, 4), (4, 45)]), eqs := false } := by kernel_rfl
theorem tk96 : tiOf Tryz.prog 96 = some { agg := true, size := 3, bytes := 48, zero := (some (.agg [(.str []), .nils, (.int .i64 (.ofNat 0))])), shape := (.struct [(0, 9), (1, 30), (2, 3)]), eqs := false } := by kernel_rfl
theorem tk98 : tiOf Tryz.prog 98 = some { agg := true, size := 2, bytes := 24, zero := (some (.agg [(.int .i64 (.ofNat 0)), (.str [])])), shape := (.struct [(0, 3), (1, 9)]), eqs := true } := by kernel_rfl
theorem tk103 : tiOf Tryz.prog 103 = some { agg := false, size := 1, bytes := 24, zero := (some .nils), shape := (.slice 163), eqs := false } := by kernel_rfl
theorem tk104 : tiOf Tryz.prog 104 = some { agg := false, size := 1, bytes := 8, zero := (some .nilm), shape := (.map 9 3), eqs := false } := by kernel_rfl
theorem tk106 : tiOf Tryz.prog 106 = some { agg := true, size := 5, bytes := 96, zero := (some (.agg [.nils, (.str []), .nils, .nils, .nilm])), shape := (.struct [(0, 28), (1, 9), (2, 79), (3, 103), (4, 104)]), eqs := false } := by kernel_rfl
theorem tk108 : tiOf Tryz.prog 108 = some { agg := true, size := 6, bytes := 104, zero := (some (.agg [.nils, (.str []), .nils, .nils, .nilm, .nilm])), shape := (.struct [(0, 106), (5, 104)]), eqs := false } := by kernel_rfl
theorem tk111 : tiOf Tryz.prog 111 = some { agg := false, size := 1, bytes := 8, zero := (some .nilm), shape := (.map 9 52), eqs := false } := by kernel_rfl
theorem tk112 : tiOf Tryz.prog 112 = some { agg := false, size := 1, bytes := 8, zero := (some .nilm), shape := (.map 9 164), eqs := false } := by kernel_rfl
theorem tk114 : tiOf Tryz.prog 114 = some { agg := true, size := 8, bytes := 120, zero := (some (.agg [.nils, (.str []), .nils, .nils, .nilm, (.int .i64 (.ofNat 0)), .nilm, .nilm])), shape := (.struct [(0, 106), (5, 3), (6, 111), (7, 112)]), eqs := false } := by kernel_rfl
theorem tk117 : tiOf Tryz.prog 117 = some { agg := true, size := 1, bytes := 24, zero := (some (.agg [.nils])), shape := (.struct [(0, 103)]), eqs := false } := by kernel_rfl
theorem tk121 : tiOf Tryz.prog 121 = some { agg := true, size := 5, bytes := 96, zero := (some (.agg [.nils, (.str []), .nils, .nils, (.bool false)])), shape := (.struct [(0, 28), (1, 9), (2, 77), (3, 56), (4, 4)]), eqs := false } := by kernel_rfl
theorem tk125 : tiOf Tryz.prog 125 = some { agg := false, size := 1, bytes := 24, zero := (some .nils), shape := (.slice 129), eqs := false } := by kernel_rfl
theorem tk127 : tiOf Tryz.prog 127 = some { agg := true, size := 5, bytes := 72, zero := (some (.agg [(.int .i64 (.ofNat 0)), .nils, (.int .i64 (.ofNat 0)), (.int .i64 (.ofNat 0)), .nils])), shape := (.struct [(0, 3), (1, 24), (2, 3), (3, 3), (4, 125)]), eqs := false } := by kernel_rfl
theorem tk129 : tiOf Tryz.prog 129 = some { agg := true, size := 2, bytes := 32, zero := (some (.agg [(.int .i64 (.ofNat 0)), .nils])), shape := (.struct [(0, 3), (1, 24)]), eqs := false } := by kernel_rfl
theorem tk131 : tiOf Tryz.prog 131 = some { agg := false, size := 1, bytes := 24, zero := (some .nils), shape := (.slice 141), eqs := false } := by kernel_rfl
theorem tk133 : tiOf Tryz.prog 133 = some { agg := true, size := 1, bytes := 24, zero := (some (.agg [.nils])), shape := (.struct [(0, 131)]), eqs := false } := by kernel_rfl
theorem tk136 : tiOf Tryz.prog 136 = some { agg := true, size := 3, bytes := 40, zero := (some (.agg [.nils, (.int .i64 (.ofNat 0)), (.int .i64 (.ofNat 0))])), shape := (.struct [(0, 22), (1, 3), (2, 3)]), eqs := false } := by kernel_rfl
theorem tk137 : tiOf Tryz.prog 137 = some { agg := false, size := 1, bytes := 8, zero := (some (.int .u64 (.ofNat 0))), shape := (.int .u64), eqs := false } := by kernel_rfl
theorem tk139 : tiOf Tryz.prog 139 = some { agg := false, size := 1, bytes := 24, zero := (some .nils), shape := (.slice 236), eqs := false } := by kernel_rfl
theorem tk141 : tiOf Tryz.prog 141 = some { agg := true, size := 4, bytes := 64, zero := (some (.agg [(.int .i64 (.ofNat 0)), (.str []), .nils, (.str [])])), shape := (.struct [(0, 3), (1, 9), (2, 139), (3, 9)]), eqs := false } := by kernel_rfl
theorem tk147 : tiOf Tryz.prog 147 = some { agg := true, size := 7, bytes := 112, zero := (some (.agg [.nils, (.str []), .nils, (.int .i64 (.ofNat 0)), (.bool false), .nils, .nilm])), shape := (.struct [(0, 28), (1, 9), (2, 79), (3, 3), (4, 4), (5, 24), (6, 104)]), eqs := false } := by kernel_rfl
theorem tk154 : tiOf Tryz.prog 154 = some { agg := true, size := 5, bytes := 88, zero := (some (.agg [(.int .i64 (.ofNat 0)), (.str []), .nils, (.str []), .nils])), shape := (.struct [(0, 3), (1, 9), (2, 139), (3, 9), (4, 24)]), eqs := false } := by kernel_rfl
theorem tk158 : tiOf Tryz.prog 158 = some { agg := false, size := 1, bytes := 24, zero := (some .nils), shape := (.slice 213), eqs := false } := by kernel_rfl
theorem tk163 : tiOf Tryz.prog 163 = some { agg := true, size := 6, bytes := 80, zero := (some (.agg [(.int .i64 (.ofNat 0)), (.int .i64 (.ofNat 0)), .nils, (.int .i64 (.ofNat 0)), (.int .i64 (.ofNat 0)), .nils])), shape := (.struct [(0, 3), (1, 3), (2, 24), (3, 3), (4, 3), (5, 24)]), eqs := false } := by kernel_rfl
theorem tk164 : tiOf Tryz.prog 164 = some { agg := false, size := 1, bytes := 24, zero := (some .nils), shape := (.slice 52), eqs := false } := by kernel_rfl
theorem tk169 : tiOf Tryz.prog 169 = some { agg := true, size := 6, bytes := 80, zero := (some (.agg [.nils, (.str []), .nils, (.int .i64 (.ofNat 0)), (.bool false), (.bool false)])), shape := (.struct [(0, 28), (1, 9), (2, 77), (3, 3), (4, 4), (5, 4)]), eqs := false } := by kernel_rfl
theorem tk170 : tiOf Tryz.prog 170 = some { agg := false, size := 1, bytes := 24, zero := (some .nils), shape := (.slice 24), eqs := false } := by kernel_rfl
theorem tk174 : tiOf Tryz.prog 174 = some { agg := true, size := 2, bytes := 32, zero := (some (.agg [(.int .i64 (.ofNat 0)), .nils])), shape := (.struct [(0, 3), (1, 158)]), eqs := false } := by kernel_rfl
theorem tk182 : tiOf Tryz.prog 182 = some { agg := false, size := 1, bytes := 24, zero := (some .nils), shape := (.slice 188), eqs := false } := by kernel_rfl
theorem tk184 : tiOf Tryz.prog 184 = some { agg := true, size := 5, bytes := 104, zero := (some (.agg [.nils, .nils, .nils, .nils, (.int .i64 (.ofNat 0))])), shape := (.struct [(0, 48), (2, 28), (3, 182), (4, 3)]), eqs := false } := by kernel_rfl
theorem tk188 : tiOf Tryz.prog 188 = some { agg := true, size := 3, bytes := 40, zero := (some (.agg [(.int .i64 (.ofNat 0)), (.int .i64 (.ofNat 0)), .nils])), shape := (.struct [(0, 3), (1, 3), (2, 30)]), eqs := false } := by kernel_rfl
theorem tk213 : tiOf Tryz.prog 213 = some { agg := true, size := 2, bytes := 24, zero := (some (.agg [(.str []), (.int .i64 (.ofNat 0))])), shape := (.struct [(0, 9), (1, 3)]), eqs := true } := by kernel_rfl
theorem tk217 : tiOf Tryz.prog 217 = some { agg := false, size := 1, bytes := 24, zero := (some .nils), shape := (.slice 4), eqs := false } := by kernel_rfl
theorem tk218 : tiOf Tryz.prog 218 = some { agg := false, size := 1, bytes := 24, zero := (some .nils), shape := (.slice 174), eqs := false } := by kernel_rfl
theorem tk234 : tiOf Tryz.prog 234 = some { agg := false, size := 1, bytes := 24, zero := (some .nils), shape := (.slice 268), eqs := false } := by kernel_rfl
theorem tk236 : tiOf Tryz.prog 236 = some { agg := true, size := 1, bytes := 24, zero := (some (.agg [.nils])), shape := (.struct [(0, 234)]), eqs := false } := by kernel_rfl
theorem tk268 : tiOf Tryz.prog 268 = some { agg := true, size := 4, bytes := 56, zero := (some (.agg [(.int .i64 (.ofNat 0)), (.int .i64 (.ofNat 0)), (.str []), .nils])), shape := (.struct [(0, 3), (1, 3), (2, 9), (3, 24)]), eqs := false } := by kernel_rfl
theorem tk271 : tiOf Tryz.prog 271 = some { agg := false, size := 1, bytes := 8, zero := (some (.int .i64 (.ofNat 0))), shape := (.int .i64), eqs := false } := by kernel_rfl
theorem tk279 : tiOf Tryz.prog 279 = some { agg := false, size := 1, bytes := 4, zero := (some (.int .u32 (.ofNat 0))), shape := (.int .u32), eqs := false } := by kernel_rfl
theorem tk281 : tiOf Tryz.prog 281 = some { agg := false, size := 1, bytes := 8, zero := (some (.int .u64 (.ofNat 0))), shape := (.int .u64), eqs := false } := by kernel_rfl
theorem tk294 : tiOf Tryz.prog 294 = some { agg := true, size := 2, bytes := 32, zero := (some (.agg [.nilp, .nils])), shape := (.struct [(0, 292), (1, 22)]), eqs := false } := by kernel_rfl
theorem tk343 : tiOf Tryz.prog 343 = some { agg := true, size := 24, bytes := 24, zero := (some (.agg [(.int .u8 (.ofNat 0)), (.int .u8 (.ofNat 0)), (.int .u8 (.ofNat 0)), (.int .u8 (.ofNat 0)), (.int .u8 (.ofNat 0)), (.int .u8 (.ofNat 0)), (.int .u8 (.ofNat 0)), (.int .u8 (.ofNat 0)), (.int .u8 (.ofNat 0)), (.int .u8 (.ofNat 0)), (.int .u8 (.ofNat 0)), (.int .u8 (.ofNat 0)), (.int .u8 (.ofNat 0)), (.int .u8 (.ofNat 0)), (.int .u8 (.ofNat 0)), (.int .u8 (.ofNat 0)), (.int .u8 (.ofNat 0)), (.int .u8 (.ofNat 0)), (.int .u8 (.ofNat 0)), (.int .u8 (.ofNat 0)), (.int .u8 (.ofNat 0)), (.int .u8 (.ofNat 0)), (.int .u8 (.ofNat 0)), (.int .u8 (.ofNat 0))])), shape := (.array 24 5), eqs := false } := by kernel_rfl
theorem ty_ok : ∀ t x, S.ty t = some x → tiOf S.P t = some x := by
  intro t x h
  have := tyF_mem tyL t x h
  simp only [tyL, List.mem_cons, Prod.mk.injEq, List.not_mem_nil, or_false] at this
  rcases this with ⟨rfl, rfl⟩ | ⟨rfl, rfl⟩ | ⟨rfl, rfl⟩ | ⟨rfl, rfl⟩ | ⟨rfl, rfl⟩ | ⟨rfl, rfl⟩ | ⟨rfl, rfl⟩ | ⟨rfl, rfl⟩ | ⟨rfl, rfl⟩ | ⟨rfl, rfl⟩ | ⟨rfl, rfl⟩ | ⟨rfl, rfl⟩ | ⟨rfl, rfl⟩ | ⟨rfl, rfl⟩ | ⟨rfl, rfl⟩ | ⟨rfl, rfl⟩ | ⟨rfl, rfl⟩ | ⟨rfl, rfl⟩ | ⟨rfl, rfl⟩ | ⟨rfl, rfl⟩ | ⟨rfl, rfl⟩ | ⟨rfl, rfl⟩ | ⟨rfl, rfl⟩ | ⟨rfl, rfl⟩ | ⟨rfl, rfl⟩ | ⟨rfl, rfl⟩ | ⟨rfl, rfl⟩ | ⟨rfl, rfl⟩ | ⟨rfl, rfl⟩ | ⟨rfl, rfl⟩ | ⟨rfl, rfl⟩ | ⟨rfl, rfl⟩ | ⟨rfl, rfl⟩ | ⟨rfl, rfl⟩ | ⟨rfl, rfl⟩ | ⟨rfl, rfl⟩ | ⟨rfl, rfl⟩ | ⟨rfl, rfl⟩ | ⟨rfl, rfl⟩ | ⟨rfl, rfl⟩ | ⟨rfl, rfl⟩ | ⟨rfl, rfl⟩ | ⟨rfl, rfl⟩ | ⟨rfl, rfl⟩ | ⟨rfl, rfl⟩ | ⟨rfl, rfl⟩ | ⟨rfl, rfl⟩ | ⟨rfl, rfl⟩ | ⟨rfl, rfl⟩ | ⟨rfl, rfl⟩ | ⟨rfl, rfl⟩ | ⟨rfl, rfl⟩ | ⟨rfl, rfl⟩ | ⟨rfl, rfl⟩ | ⟨rfl, rfl⟩ | ⟨rfl, rfl⟩ | ⟨rfl, rfl⟩ | ⟨rfl, rfl⟩ | ⟨rfl, rfl⟩ | ⟨rfl, rfl⟩ | ⟨rfl, rfl⟩ | ⟨rfl, rfl⟩ | ⟨rfl, rfl⟩ | ⟨rfl, rfl⟩ | ⟨rfl, rfl⟩
  · exact tk2
  · exact tk3
  · exact tk4
  · exact tk5
  · exact tk9
  · exact tk22
  · exact tk24
  · exact tk26
  · exact tk28
  · exact tk30
  · exact tk45
  · exact tk46
  · exact tk48
  · exact tk52
  · exact tk56
  · exact tk58
  · exact tk69
  · exact tk71
  · exact tk77
  · exact tk79
  · exact tk83
  · exact tk84
  · exact tk93
  · exact tk96
  · exact tk98
  · exact tk103
  · exact tk104
  · exact tk106
  · exact tk108
  · exact tk111
  · exact tk112
  · exact tk114
  · exact tk117
  · exact tk121
  · exact tk125
  · exact tk127
  · exact tk129
  · exact tk131
  · exact tk133
  · exact tk136
  · exact tk137
  · exact tk139
  · exact tk141
  · exact tk147
  · exact tk154
  · exact tk158
  · exact tk163
  · exact tk164
  · exact tk169
  · exact tk170
  · exact tk174
  · exact tk182
  · exact tk184
  · exact tk188
  · exact tk213
  · exact tk217
  · exact tk218
  · exact tk234
  · exact tk236
  · exact tk268
  · exact tk271
  · exact tk279
  · exact tk281
  · exact tk294
  · exact tk343
theorem extP_cases {f : FuncId} (h : extP f = true) : f = 185 := by
  simpa [extP, or_assoc] using h
/-- What strings.IndexByte calls, met by the law of the model's own entry. -/
theorem idx185 (s : ByteArray) (c : Int) (w : World) : Calls Tryz.prog 185 #[.string s, .int .u8 c] w fun e w' => e = .returned (.int .i64 (Lib.indexByte s.data.toList c.toNat.toUInt8)) ∧ w' = w := by
  go_enter Tryz.func185, Tryz.ntmps185
  go_wp2
  rw [run_callFunc_extern Tryz.func233 (by kernel_rfl) (by kernel_rfl) (by kernel_rfl) (e := Extern.BytealgIndexByte.indexByte) (by kernel_rfl), Lib.run_indexByteString]
  simp only [Result.andThen]
  rw [Oper.upon_value]
  go_wp2
  go_ret
  exact ⟨rfl, rfl⟩
theorem sysOk : SysOk S where
  ty := ty_ok
  mixed := by kernel_rfl
  fn := fun f A h => by
    have := annF_mem _ _ _ (show annF annL f = some A from h)
    simp only [annL, List.mem_cons, Prod.mk.injEq, List.not_mem_nil, or_false] at this
    rcases this with ⟨rfl, rfl⟩ | ⟨rfl, rfl⟩ | ⟨rfl, rfl⟩ | ⟨rfl, rfl⟩ | ⟨rfl, rfl⟩ | ⟨rfl, rfl⟩ | ⟨rfl, rfl⟩ | ⟨rfl, rfl⟩ | ⟨rfl, rfl⟩ | ⟨rfl, rfl⟩ | ⟨rfl, rfl⟩ | ⟨rfl, rfl⟩ | ⟨rfl, rfl⟩ | ⟨rfl, rfl⟩ | ⟨rfl, rfl⟩ | ⟨rfl, rfl⟩ | ⟨rfl, rfl⟩ | ⟨rfl, rfl⟩ | ⟨rfl, rfl⟩ | ⟨rfl, rfl⟩ | ⟨rfl, rfl⟩ | ⟨rfl, rfl⟩ | ⟨rfl, rfl⟩ | ⟨rfl, rfl⟩ | ⟨rfl, rfl⟩ | ⟨rfl, rfl⟩ | ⟨rfl, rfl⟩ | ⟨rfl, rfl⟩ | ⟨rfl, rfl⟩ | ⟨rfl, rfl⟩ | ⟨rfl, rfl⟩ | ⟨rfl, rfl⟩ | ⟨rfl, rfl⟩ | ⟨rfl, rfl⟩ | ⟨rfl, rfl⟩ | ⟨rfl, rfl⟩ | ⟨rfl, rfl⟩ | ⟨rfl, rfl⟩ | ⟨rfl, rfl⟩ | ⟨rfl, rfl⟩ | ⟨rfl, rfl⟩ | ⟨rfl, rfl⟩ | ⟨rfl, rfl⟩ | ⟨rfl, rfl⟩ | ⟨rfl, rfl⟩ | ⟨rfl, rfl⟩ | ⟨rfl, rfl⟩ | ⟨rfl, rfl⟩ | ⟨rfl, rfl⟩ | ⟨rfl, rfl⟩ | ⟨rfl, rfl⟩ | ⟨rfl, rfl⟩ | ⟨rfl, rfl⟩ | ⟨rfl, rfl⟩ | ⟨rfl, rfl⟩ | ⟨rfl, rfl⟩ | ⟨rfl, rfl⟩ | ⟨rfl, rfl⟩ | ⟨rfl, rfl⟩ | ⟨rfl, rfl⟩ | ⟨rfl, rfl⟩ | ⟨rfl, rfl⟩ | ⟨rfl, rfl⟩ | ⟨rfl, rfl⟩ | ⟨rfl, rfl⟩ | ⟨rfl, rfl⟩ | ⟨rfl, rfl⟩ | ⟨rfl, rfl⟩ | ⟨rfl, rfl⟩ | ⟨rfl, rfl⟩ | ⟨rfl, rfl⟩ | ⟨rfl, rfl⟩ | ⟨rfl, rfl⟩ | ⟨rfl, rfl⟩ | ⟨rfl, rfl⟩ | ⟨rfl, rfl⟩ | ⟨rfl, rfl⟩ | ⟨rfl, rfl⟩ | ⟨rfl, rfl⟩ | ⟨rfl, rfl⟩ | ⟨rfl, rfl⟩ | ⟨rfl, rfl⟩ | ⟨rfl, rfl⟩ | ⟨rfl, rfl⟩ | ⟨rfl, rfl⟩ | ⟨rfl, rfl⟩ | ⟨rfl, rfl⟩ | ⟨rfl, rfl⟩ | ⟨rfl, rfl⟩ | ⟨rfl, rfl⟩ | ⟨rfl, rfl⟩ | ⟨rfl, rfl⟩ | ⟨rfl, rfl⟩ | ⟨rfl, rfl⟩ | ⟨rfl, rfl⟩ | ⟨rfl, rfl⟩ | ⟨rfl, rfl⟩ | ⟨rfl, rfl⟩ | ⟨rfl, rfl⟩ | ⟨rfl, rfl⟩ | ⟨rfl, rfl⟩ | ⟨rfl, rfl⟩ | ⟨rfl, rfl⟩ | ⟨rfl, rfl⟩ | ⟨rfl, rfl⟩ | ⟨rfl, rfl⟩ | ⟨rfl, rfl⟩ | ⟨rfl, rfl⟩ | ⟨rfl, rfl⟩ | ⟨rfl, rfl⟩ | ⟨rfl, rfl⟩ | ⟨rfl, rfl⟩ | ⟨rfl, rfl⟩ | ⟨rfl, rfl⟩ | ⟨rfl, rfl⟩ | ⟨rfl, rfl⟩ | ⟨rfl, rfl⟩ | ⟨rfl, rfl⟩ | ⟨rfl, rfl⟩ | ⟨rfl, rfl⟩ | ⟨rfl, rfl⟩ | ⟨rfl, rfl⟩ | ⟨rfl, rfl⟩ | ⟨rfl, rfl⟩ | ⟨rfl, rfl⟩ | ⟨rfl, rfl⟩ | ⟨rfl, rfl⟩ | ⟨rfl, rfl⟩ | ⟨rfl, rfl⟩ | ⟨rfl, rfl⟩ | ⟨rfl, rfl⟩ | ⟨rfl, rfl⟩ | ⟨rfl, rfl⟩ | ⟨rfl, rfl⟩ | ⟨rfl, rfl⟩ | ⟨rfl, rfl⟩ | ⟨rfl, rfl⟩ | ⟨rfl, rfl⟩ | ⟨rfl, rfl⟩ | ⟨rfl, rfl⟩ | ⟨rfl, rfl⟩ | ⟨rfl, rfl⟩ | ⟨rfl, rfl⟩ | ⟨rfl, rfl⟩ | ⟨rfl, rfl⟩ | ⟨rfl, rfl⟩ | ⟨rfl, rfl⟩ | ⟨rfl, rfl⟩ | ⟨rfl, rfl⟩ | ⟨rfl, rfl⟩ | ⟨rfl, rfl⟩ | ⟨rfl, rfl⟩ | ⟨rfl, rfl⟩ | ⟨rfl, rfl⟩ | ⟨rfl, rfl⟩ | ⟨rfl, rfl⟩ | ⟨rfl, rfl⟩ | ⟨rfl, rfl⟩ | ⟨rfl, rfl⟩ | ⟨rfl, rfl⟩ | ⟨rfl, rfl⟩ | ⟨rfl, rfl⟩ | ⟨rfl, rfl⟩ | ⟨rfl, rfl⟩ | ⟨rfl, rfl⟩ | ⟨rfl, rfl⟩ | ⟨rfl, rfl⟩ | ⟨rfl, rfl⟩ | ⟨rfl, rfl⟩ | ⟨rfl, rfl⟩ | ⟨rfl, rfl⟩ | ⟨rfl, rfl⟩ | ⟨rfl, rfl⟩ | ⟨rfl, rfl⟩ | ⟨rfl, rfl⟩ | ⟨rfl, rfl⟩ | ⟨rfl, rfl⟩ | ⟨rfl, rfl⟩ | ⟨rfl, rfl⟩ | ⟨rfl, rfl⟩
    · exact k17
    · exact k18
    · exact k19
    · exact k20
    · exact k21
    · exact k23
    · exact k24
    · exact k29
    · exact k30
    · exact k31
    · exact k32
    · exact k33
    · exact k34
    · exact k35
    · exact k36
    · exact k38
    · exact k42
    · exact k43
    · exact k44
    · exact k45
    · exact k46
    · exact k47
    · exact k48
    · exact k49
    · exact k50
    · exact k54
    · exact k55
    · exact k56
    · exact k57
    · exact k58
    · exact k59
    · exact k60
    · exact k61
    · exact k62
    · exact k63
    · exact k64
    · exact k65
    · exact k66
    · exact k67
    · exact k68
    · exact k69
    · exact k70
    · exact k71
    · exact k72
    · exact k73
    · exact k74
    · exact k75
    · exact k76
    · exact k77
    · exact k78
    · exact k79
    · exact k80
    · exact k81
    · exact k82
    · exact k83
    · exact k92
    · exact k93
    · exact k94
    · exact k95
    · exact k96
    · exact k97
    · exact k98
    · exact k99
    · exact k100
    · exact k101
    · exact k102
    · exact k103
    · exact k104
    · exact k105
    · exact k106
    · exact k107
    · exact k108
    · exact k109
    · exact k110
    · exact k111
    · exact k112
    · exact k114
    · exact k115
    · exact k116
    · exact k117
    · exact k118
    · exact k119
    · exact k120
    · exact k121
    · exact k123
    · exact k125
    · exact k128
    · exact k129
    · exact k130
    · exact k131
    · exact k136
    · exact k145
    · exact k146
    · exact k147
    · exact k148
    · exact k149
    · exact k150
    · exact k151
    · exact k152
    · exact k153
    · exact k154
    · exact k155
    · exact k156
    · exact k157
    · exact k158
    · exact k159
    · exact k161
    · exact k162
    · exact k164
    · exact k165
    · exact k166
    · exact k167
    · exact k168
    · exact k169
    · exact k170
    · exact k171
    · exact k172
    · exact k173
    · exact k175
    · exact k176
    · exact k177
    · exact k178
    · exact k179
    · exact k180
    · exact k181
    · exact k182
    · exact k183
    · exact k184
    · exact k187
    · exact k196
    · exact k197
    · exact k198
    · exact k199
    · exact k201
    · exact k203
    · exact k204
    · exact k209
    · exact k211
    · exact k213
    · exact k214
    · exact k216
    · exact k217
    · exact k218
    · exact k219
    · exact k225
    · exact k229
    · exact k238
    · exact k245
    · exact k247
    · exact k251
    · exact k253
    · exact k254
    · exact k255
    · exact k266
    · exact k268
    · exact k270
    · exact k276
    · exact k282
    · exact k283
    · exact k284
    · exact k287
    · exact k289
    · exact k292
    · exact k301
    · exact k310
    · exact k311
    · exact k314
    · exact k333
    · exact k344
    · exact k349
    · exact k3
    · exact k5
    · exact k7
    · exact k10
    · exact k11
    · exact k15
    · exact k16
    · exact k39
    · exact k40
    · exact k41
  ext := fun f args σ v σ' _ h => by
    have h : extF f args σ = some (v, σ') := h
    unfold extF at h
    split at h
    · rename_i hp
      rw [Option.map_eq_some_iff] at h
      obtain ⟨u, hu, e⟩ := h
      simp only [Prod.mk.injEq] at e
      obtain ⟨rfl, rfl⟩ := e
      have hf := extP_cases hp
      rcases hf with rfl
      · exact ⟨⟨_, Tryz.func185, rfl, by kernel_rfl⟩, fun g w cargs I hr => idx_ext idx185 hu g w cargs I hr⟩
    · cases h
  extPure := fun f args σ v σ' hp _ h => by
    have h : extF f args σ = some (v, σ') := h
    have hp : extP f = true := hp
    unfold extF at h
    rw [hp] at h
    simp only [Option.map_eq_some_iff, Prod.mk.injEq] at h
    obtain ⟨u, hu, rfl, rfl⟩ := h
    refine ⟨rfl, fun σ2 => ?_⟩
    show extF f args σ2 = _
    unfold extF
    rw [hp]
    simp only [hu, Option.map_some]
end X
