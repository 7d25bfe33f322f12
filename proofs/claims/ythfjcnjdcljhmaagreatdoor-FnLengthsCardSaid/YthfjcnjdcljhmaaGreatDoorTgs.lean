/- The seat's table of fast texts, and that the system stands. -/
import Derived.Test.YthfjcnjdcljhmaaGreatDoorTgc0
import Derived.Test.YthfjcnjdcljhmaaGreatDoorTgc1
import Derived.Test.YthfjcnjdcljhmaaGreatDoorTgc2
import Derived.Test.YthfjcnjdcljhmaaGreatDoorTgk0
import Derived.Test.YthfjcnjdcljhmaaGreatDoorTgk1
import Derived.Test.YthfjcnjdcljhmaaGreatDoorTgk2
import Derived.Test.YthfjcnjdcljhmaaGreatDoorTgk3
import Derived.Test.YthfjcnjdcljhmaaGreatDoorTgk4
import Derived.Test.YthfjcnjdcljhmaaGreatDoorTgk5
import Derived.Lib.Strings
import Derived.Lib.Slices
import Derived.Lib.Walk
import Derived.Test.YthfjcnjdcljhmaaGreatDoorTgJoin
open Go Go.V Go.Proofs
namespace X
set_option maxRecDepth 100000
set_option maxHeartbeats 4000000
set_option linter.unusedSimpArgs false
set_option linter.unusedVariables false
noncomputable def tab : Tab := { st := .mk (.mk x17 x18 x19 x20 x21 x22 x23 x24 x29 x36 x38 x42 x43 x44 x45 x46) (.mk x47 x48 x49 x50 x54 x55 x56 x57 x58 x59 x64 x71 x72 x73 x74 x75) (.mk x76 x77 x78 x79 x80 x81 x82 x83 x92 x93 x94 x95 x96 x97 x100 x101) (.mk x104 x105 x106 x107 x109 x110 x111 x112 x113 x114 x115 x116 x117 x118 x119 x120) (.mk x122 x123 x124 x125 x126 x127 x128 x129 x130 x131 x132 x136 x145 x146 x147 x148) (.mk x149 x150 x152 x154 x155 x156 x157 x158 x159 x160 x161 x162 x163 x164 x165 x166) (.mk x167 x168 x169 x173 x174 x175 x176 x177 x178 x179 x180 x181 x182 x183 x184 x185) (.mk x187 x196 x197 x198 x199 x200 x201 x202 x204 x205 x206 x208 x209 x210 x211 x212) (.mk x213 x214 x216 x217 x218 x219 x225 x229 x238 x245 x247 x251 x252 x253 x254 x255) (.mk x256 x257 x260 x261 x262 x263 x264 x265 x266 x267 x268 x270 x276 x282 x283 x284) (.mk x287 x288 x289 x290 x291 x292 x301 x310 x311 x314 x318 x324 x333 x341 x344 x349) (.mk .no .no .no .no .no .no .no .no .no .no .no .no .no .no .no .no) (.mk .no .no .no .no .no .no .no .no .no .no .no .no .no .no .no .no) (.mk .no .no .no .no .no .no .no .no .no .no .no .no .no .no .no .no) (.mk .no .no .no .no .no .no .no .no .no .no .no .no .no .no .no .no) (.mk .no .no .no .no .no .no .no .no .no .no .no .no .no .no .no .no), dyn := [x112, x115, x177] }
theorem tab_ok : tab.All (Entry ixf S) := by
  constructor
  · intro x hx e he
    simp only [tab, F16.toList, List.mem_cons, List.not_mem_nil, or_false] at hx
    rcases hx with rfl | rfl | rfl | rfl | rfl | rfl | rfl | rfl | rfl | rfl | rfl | rfl | rfl | rfl | rfl | rfl
    · simp only [F16.toList, List.mem_cons, List.not_mem_nil, or_false] at he
      rcases he with rfl | rfl | rfl | rfl | rfl | rfl | rfl | rfl | rfl | rfl | rfl | rfl | rfl | rfl | rfl | rfl
      · exact e17
      · exact e18
      · exact e19
      · exact e20
      · exact e21
      · exact e22
      · exact e23
      · exact e24
      · exact e29
      · exact e36
      · exact e38
      · exact e42
      · exact e43
      · exact e44
      · exact e45
      · exact e46
    · simp only [F16.toList, List.mem_cons, List.not_mem_nil, or_false] at he
      rcases he with rfl | rfl | rfl | rfl | rfl | rfl | rfl | rfl | rfl | rfl | rfl | rfl | rfl | rfl | rfl | rfl
      · exact e47
      · exact e48
      · exact e49
      · exact e50
      · exact e54
      · exact e55
      · exact e56
      · exact e57
      · exact e58
      · exact e59
      · exact e64
      · exact e71
      · exact e72
      · exact e73
      · exact e74
      · exact e75
    · simp only [F16.toList, List.mem_cons, List.not_mem_nil, or_false] at he
      rcases he with rfl | rfl | rfl | rfl | rfl | rfl | rfl | rfl | rfl | rfl | rfl | rfl | rfl | rfl | rfl | rfl
      · exact e76
      · exact e77
      · exact e78
      · exact e79
      · exact e80
      · exact e81
      · exact e82
      · exact e83
      · exact e92
      · exact e93
      · exact e94
      · exact e95
      · exact e96
      · exact e97
      · exact e100
      · exact e101
    · simp only [F16.toList, List.mem_cons, List.not_mem_nil, or_false] at he
      rcases he with rfl | rfl | rfl | rfl | rfl | rfl | rfl | rfl | rfl | rfl | rfl | rfl | rfl | rfl | rfl | rfl
      · exact e104
      · exact e105
      · exact e106
      · exact e107
      · exact e109
      · exact e110
      · exact e111
      · exact e112
      · exact e113
      · exact e114
      · exact e115
      · exact e116
      · exact e117
      · exact e118
      · exact e119
      · exact e120
    · simp only [F16.toList, List.mem_cons, List.not_mem_nil, or_false] at he
      rcases he with rfl | rfl | rfl | rfl | rfl | rfl | rfl | rfl | rfl | rfl | rfl | rfl | rfl | rfl | rfl | rfl
      · exact e122
      · exact e123
      · exact e124
      · exact e125
      · exact e126
      · exact e127
      · exact e128
      · exact e129
      · exact e130
      · exact e131
      · exact e132
      · exact e136
      · exact e145
      · exact e146
      · exact e147
      · exact e148
    · simp only [F16.toList, List.mem_cons, List.not_mem_nil, or_false] at he
      rcases he with rfl | rfl | rfl | rfl | rfl | rfl | rfl | rfl | rfl | rfl | rfl | rfl | rfl | rfl | rfl | rfl
      · exact e149
      · exact e150
      · exact e152
      · exact e154
      · exact e155
      · exact e156
      · exact e157
      · exact e158
      · exact e159
      · exact e160
      · exact e161
      · exact e162
      · exact e163
      · exact e164
      · exact e165
      · exact e166
    · simp only [F16.toList, List.mem_cons, List.not_mem_nil, or_false] at he
      rcases he with rfl | rfl | rfl | rfl | rfl | rfl | rfl | rfl | rfl | rfl | rfl | rfl | rfl | rfl | rfl | rfl
      · exact e167
      · exact e168
      · exact e169
      · exact e173
      · exact e174
      · exact e175
      · exact e176
      · exact e177
      · exact e178
      · exact e179
      · exact e180
      · exact e181
      · exact e182
      · exact e183
      · exact e184
      · exact e185
    · simp only [F16.toList, List.mem_cons, List.not_mem_nil, or_false] at he
      rcases he with rfl | rfl | rfl | rfl | rfl | rfl | rfl | rfl | rfl | rfl | rfl | rfl | rfl | rfl | rfl | rfl
      · exact e187
      · exact e196
      · exact e197
      · exact e198
      · exact e199
      · exact e200
      · exact e201
      · exact e202
      · exact e204
      · exact e205
      · exact e206
      · exact e208
      · exact e209
      · exact e210
      · exact e211
      · exact e212
    · simp only [F16.toList, List.mem_cons, List.not_mem_nil, or_false] at he
      rcases he with rfl | rfl | rfl | rfl | rfl | rfl | rfl | rfl | rfl | rfl | rfl | rfl | rfl | rfl | rfl | rfl
      · exact e213
      · exact e214
      · exact e216
      · exact e217
      · exact e218
      · exact e219
      · exact e225
      · exact e229
      · exact e238
      · exact e245
      · exact e247
      · exact e251
      · exact e252
      · exact e253
      · exact e254
      · exact e255
    · simp only [F16.toList, List.mem_cons, List.not_mem_nil, or_false] at he
      rcases he with rfl | rfl | rfl | rfl | rfl | rfl | rfl | rfl | rfl | rfl | rfl | rfl | rfl | rfl | rfl | rfl
      · exact e256
      · exact e257
      · exact e260
      · exact e261
      · exact e262
      · exact e263
      · exact e264
      · exact e265
      · exact e266
      · exact e267
      · exact e268
      · exact e270
      · exact e276
      · exact e282
      · exact e283
      · exact e284
    · simp only [F16.toList, List.mem_cons, List.not_mem_nil, or_false] at he
      rcases he with rfl | rfl | rfl | rfl | rfl | rfl | rfl | rfl | rfl | rfl | rfl | rfl | rfl | rfl | rfl | rfl
      · exact e287
      · exact e288
      · exact e289
      · exact e290
      · exact e291
      · exact e292
      · exact e301
      · exact e310
      · exact e311
      · exact e314
      · exact e318
      · exact e324
      · exact e333
      · exact e341
      · exact e344
      · exact e349
    · simp only [F16.toList, List.mem_cons, List.not_mem_nil, or_false] at he
      rcases he with rfl | rfl | rfl | rfl | rfl | rfl | rfl | rfl | rfl | rfl | rfl | rfl | rfl | rfl | rfl | rfl
      · exact trivial
      · exact trivial
      · exact trivial
      · exact trivial
      · exact trivial
      · exact trivial
      · exact trivial
      · exact trivial
      · exact trivial
      · exact trivial
      · exact trivial
      · exact trivial
      · exact trivial
      · exact trivial
      · exact trivial
      · exact trivial
    · simp only [F16.toList, List.mem_cons, List.not_mem_nil, or_false] at he
      rcases he with rfl | rfl | rfl | rfl | rfl | rfl | rfl | rfl | rfl | rfl | rfl | rfl | rfl | rfl | rfl | rfl
      · exact trivial
      · exact trivial
      · exact trivial
      · exact trivial
      · exact trivial
      · exact trivial
      · exact trivial
      · exact trivial
      · exact trivial
      · exact trivial
      · exact trivial
      · exact trivial
      · exact trivial
      · exact trivial
      · exact trivial
      · exact trivial
    · simp only [F16.toList, List.mem_cons, List.not_mem_nil, or_false] at he
      rcases he with rfl | rfl | rfl | rfl | rfl | rfl | rfl | rfl | rfl | rfl | rfl | rfl | rfl | rfl | rfl | rfl
      · exact trivial
      · exact trivial
      · exact trivial
      · exact trivial
      · exact trivial
      · exact trivial
      · exact trivial
      · exact trivial
      · exact trivial
      · exact trivial
      · exact trivial
      · exact trivial
      · exact trivial
      · exact trivial
      · exact trivial
      · exact trivial
    · simp only [F16.toList, List.mem_cons, List.not_mem_nil, or_false] at he
      rcases he with rfl | rfl | rfl | rfl | rfl | rfl | rfl | rfl | rfl | rfl | rfl | rfl | rfl | rfl | rfl | rfl
      · exact trivial
      · exact trivial
      · exact trivial
      · exact trivial
      · exact trivial
      · exact trivial
      · exact trivial
      · exact trivial
      · exact trivial
      · exact trivial
      · exact trivial
      · exact trivial
      · exact trivial
      · exact trivial
      · exact trivial
      · exact trivial
    · simp only [F16.toList, List.mem_cons, List.not_mem_nil, or_false] at he
      rcases he with rfl | rfl | rfl | rfl | rfl | rfl | rfl | rfl | rfl | rfl | rfl | rfl | rfl | rfl | rfl | rfl
      · exact trivial
      · exact trivial
      · exact trivial
      · exact trivial
      · exact trivial
      · exact trivial
      · exact trivial
      · exact trivial
      · exact trivial
      · exact trivial
      · exact trivial
      · exact trivial
      · exact trivial
      · exact trivial
      · exact trivial
      · exact trivial
  · intro e he
    simp only [tab, List.mem_cons, List.not_mem_nil, or_false] at he
    rcases he with rfl | rfl | rfl
    · exact e112
    · exact e115
    · exact e177
theorem tyF_mem (l : List (Nat × TI)) (t : TypeId) (x : TI) (h : tyF l t = some x) : (t, x) ∈ l := by
  induction l with
  | nil => simp [tyF] at h
  | cons p r ih =>
    obtain ⟨g, B⟩ := p
    simp only [tyF] at h
    split at h
    · rename_i e; cases h; rw [Nat.eq_of_beq_eq_true e]; simp
    · simp [ih h]
theorem annF_mem (l : List (Nat × Ann)) (f : FuncId) (A : Ann) (h : annF l f = some A) : (f, A) ∈ l := by
  induction l with
  | nil => simp [annF] at h
  | cons p r ih =>
    obtain ⟨g, B⟩ := p
    simp only [annF] at h
    split at h
    · rename_i e; cases h; rw [Nat.eq_of_beq_eq_true e]; simp
    · simp [ih h]
theorem tk2 : tiOf Tryz.prog 2 = some { agg := false, size := 1, bytes := 8, zero := (some (.int .i64 (.ofNat 0))), shape := (.int .i64), eqs := false } := by kernel_rfl
theorem tk3 : tiOf Tryz.prog 3 = some { agg := false, size := 1, bytes := 8, zero := (some (.int .i64 (.ofNat 0))), shape := (.int .i64), eqs := false } := by kernel_rfl
theorem tk4 : tiOf Tryz.prog 4 = some { agg := false, size := 1, bytes := 1, zero := (some (.bool false)), shape := .bool, eqs := false } := by kernel_rfl
theorem tk5 : tiOf Tryz.prog 5 = some { agg := false, size := 1, bytes := 1, zero := (some (.int .u8 (.ofNat 0))), shape := (.int .u8), eqs := false } := by kernel_rfl
theorem tk9 : tiOf Tryz.prog 9 = some { agg := false, size := 1, bytes := 16, zero := (some (.str [])), shape := .str, eqs := false } := by kernel_rfl
theorem tk22 : tiOf Tryz.prog 22 = some { agg := false, size := 1, bytes := 24, zero := (some .nils), shape := (.slice 5), eqs := false } := by kernel_rfl
theorem tk24 : tiOf Tryz.prog 24 = some { agg := false, size := 1, bytes := 24, zero := (some .nils), shape := (.slice 3), eqs := false } := by kernel_rfl
theorem tk26 : tiOf Tryz.prog 26 = some { agg := false, size := 1, bytes := 24, zero := (some .nils), shape := (.slice 71), eqs := false } := by kernel_rfl
theorem tk28 : tiOf Tryz.prog 28 = some { agg := true, size := 1, bytes := 24, zero := (some (.agg [.nils])), shape := (.struct [(0, 26)]), eqs := false } := by kernel_rfl
theorem tk30 : tiOf Tryz.prog 30 = some { agg := false, size := 1, bytes := 24, zero := (some .nils), shape := (.slice 9), eqs := false } := by kernel_rfl
theorem tk45 : tiOf Tryz.prog 45 = some { agg := false, size := 1, bytes := 24, zero := (some .nils), shape := (.slice 154), eqs := false } := by kernel_rfl
theorem tk46 : tiOf Tryz.prog 46 = some { agg := false, size := 1, bytes := 24, zero := (some .nils), shape := (.slice 96), eqs := false } := by kernel_rfl
theorem tk48 : tiOf Tryz.prog 48 = some { agg := true, size := 2, bytes := 48, zero := (some (.agg [.nils, .nils])), shape := (.struct [(0, 45), (1, 46)]), eqs := false } := by kernel_rfl
theorem tk69 : tiOf Tryz.prog 69 = some { agg := false, size := 1, bytes := 24, zero := (some .nils), shape := (.slice 133), eqs := false } := by kernel_rfl
theorem tk71 : tiOf Tryz.prog 71 = some { agg := true, size := 3, bytes := 64, zero := (some (.agg [(.str []), .nils, .nils])), shape := (.struct [(0, 9), (1, 30), (2, 69)]), eqs := false } := by kernel_rfl
theorem tk77 : tiOf Tryz.prog 77 = some { agg := false, size := 1, bytes := 24, zero := (some .nils), shape := (.slice 83), eqs := false } := by kernel_rfl
theorem tk79 : tiOf Tryz.prog 79 = some { agg := true, size := 1, bytes := 24, zero := (some (.agg [.nils])), shape := (.struct [(0, 77)]), eqs := false } := by kernel_rfl
theorem tk83 : tiOf Tryz.prog 83 = some { agg := true, size := 5, bytes := 88, zero := (some (.agg [(.int .i64 (.ofNat 0)), .nils, (.int .i64 (.ofNat 0)), .nils, .nils])), shape := (.struct [(0, 3), (1, 24), (2, 3), (3, 24), (4, 24)]), eqs := false } := by kernel_rfl
theorem tk84 : tiOf Tryz.prog 84 = some { agg := false, size := 1, bytes := 24, zero := (some .nils), shape := (.slice 98), eqs := false } := by kernel_rfl
theorem tk93 : tiOf Tryz.prog 93 = some { agg := true, size := 5, bytes := 72, zero := (some (.agg [.nils, (.int .i64 (.ofNat 0)), (.int .i64 (.ofNat 0)), (.bool false), .nils])), shape := (.struct [(0, 84), (1, 3), (2, 3), (3, 4), (4, 45)]), eqs := false } := by kernel_rfl
theorem tk96 : tiOf Tryz.prog 96 = some { agg := true, size := 3, bytes := 48, zero := (some (.agg [(.str []), .nils, (.int .i64 (.ofNat 0))])), shape := (.struct [(0, 9), (1, 30), (2, 3)]), eqs := false } := by kernel_rfl
theorem tk98 : tiOf Tryz.prog 98 = some { agg := true, size := 2, bytes := 24, zero := (some (.agg [(.int .i64 (.ofNat 0)), (.str [])])), shape := (.struct [(0, 3), (1, 9)]), eqs := true } := by kernel_rfl
theorem tk104 : tiOf Tryz.prog 104 = some { agg := false, size := 1, bytes := 8, zero := (some .nilm), shape := (.map 9 3), eqs := false } := by kernel_rfl
theorem tk131 : tiOf Tryz.prog 131 = some { agg := false, size := 1, bytes := 24, zero := (some .nils), shape := (.slice 141), eqs := false } := by kernel_rfl
theorem tk133 : tiOf Tryz.prog 133 = some { agg := true, size := 1, bytes := 24, zero := (some (.agg [.nils])), shape := (.struct [(0, 131)]), eqs := false } := by kernel_rfl
theorem tk136 : tiOf Tryz.prog 136 = some { agg := true, size := 3, bytes := 40, zero := (some (.agg [.nils, (.int .i64 (.ofNat 0)), (.int .i64 (.ofNat 0))])), shape := (.struct [(0, 22), (1, 3), (2, 3)]), eqs := false } := by kernel_rfl
theorem tk137 : tiOf Tryz.prog 137 = some { agg := false, size := 1, bytes := 8, zero := (some (.int .u64 (.ofNat 0))), shape := (.int .u64), eqs := false } := by kernel_rfl
theorem tk139 : tiOf Tryz.prog 139 = some { agg := false, size := 1, bytes := 24, zero := (some .nils), shape := (.slice 236), eqs := false } := by kernel_rfl
theorem tk141 : tiOf Tryz.prog 141 = some { agg := true, size := 4, bytes := 64, zero := (some (.agg [(.int .i64 (.ofNat 0)), (.str []), .nils, (.str [])])), shape := (.struct [(0, 3), (1, 9), (2, 139), (3, 9)]), eqs := false } := by kernel_rfl
theorem tk147 : tiOf Tryz.prog 147 = some { agg := true, size := 7, bytes := 112, zero := (some (.agg [.nils, (.str []), .nils, (.int .i64 (.ofNat 0)), (.bool false), .nils, .nilm])), shape := (.struct [(0, 28), (1, 9), (2, 79), (3, 3), (4, 4), (5, 24), (6, 104)]), eqs := false } := by kernel_rfl
theorem tk154 : tiOf Tryz.prog 154 = some { agg := true, size := 5, bytes := 88, zero := (some (.agg [(.int .i64 (.ofNat 0)), (.str []), .nils, (.str []), .nils])), shape := (.struct [(0, 3), (1, 9), (2, 139), (3, 9), (4, 24)]), eqs := false } := by kernel_rfl
theorem tk158 : tiOf Tryz.prog 158 = some { agg := false, size := 1, bytes := 24, zero := (some .nils), shape := (.slice 213), eqs := false } := by kernel_rfl
theorem tk169 : tiOf Tryz.prog 169 = some { agg := true, size := 6, bytes := 80, zero := (some (.agg [.nils, (.str []), .nils, (.int .i64 (.ofNat 0)), (.bool false), (.bool false)])), shape := (.struct [(0, 28), (1, 9), (2, 77), (3, 3), (4, 4), (5, 4)]), eqs := false } := by kernel_rfl
theorem tk174 : tiOf Tryz.prog 174 = some { agg := true, size := 2, bytes := 32, zero := (some (.agg [(.int .i64 (.ofNat 0)), .nils])), shape := (.struct [(0, 3), (1, 158)]), eqs := false } := by kernel_rfl
theorem tk182 : tiOf Tryz.prog 182 = some { agg := false, size := 1, bytes := 24, zero := (some .nils), shape := (.slice 188), eqs := false } := by kernel_rfl
theorem tk184 : tiOf Tryz.prog 184 = some { agg := true, size := 5, bytes := 104, zero := (some (.agg [.nils, .nils, .nils, .nils, (.int .i64 (.ofNat 0))])), shape := (.struct [(0, 48), (2, 28), (3, 182), (4, 3)]), eqs := false } := by kernel_rfl
theorem tk188 : tiOf Tryz.prog 188 = some { agg := true, size := 3, bytes := 40, zero := (some (.agg [(.int .i64 (.ofNat 0)), (.int .i64 (.ofNat 0)), .nils])), shape := (.struct [(0, 3), (1, 3), (2, 30)]), eqs := false } := by kernel_rfl
theorem tk213 : tiOf Tryz.prog 213 = some { agg := true, size := 2, bytes := 24, zero := (some (.agg [(.str []), (.int .i64 (.ofNat 0))])), shape := (.struct [(0, 9), (1, 3)]), eqs := true } := by kernel_rfl
theorem tk217 : tiOf Tryz.prog 217 = some { agg := false, size := 1, bytes := 24, zero := (some .nils), shape := (.slice 4), eqs := false } := by kernel_rfl
theorem tk218 : tiOf Tryz.prog 218 = some { agg := false, size := 1, bytes := 24, zero := (some .nils), shape := (.slice 174), eqs := false } := by kernel_rfl
theorem tk234 : tiOf Tryz.prog 234 = some { agg := false, size := 1, bytes := 24, zero := (some .nils), shape := (.slice 268), eqs := false } := by kernel_rfl
theorem tk236 : tiOf Tryz.prog 236 = some { agg := true, size := 1, bytes := 24, zero := (some (.agg [.nils])), shape := (.struct [(0, 234)]), eqs := false } := by kernel_rfl
theorem tk268 : tiOf Tryz.prog 268 = some { agg := true, size := 4, bytes := 56, zero := (some (.agg [(.int .i64 (.ofNat 0)), (.int .i64 (.ofNat 0)), (.str []), .nils])), shape := (.struct [(0, 3), (1, 3), (2, 9), (3, 24)]), eqs := false } := by kernel_rfl
theorem tk271 : tiOf Tryz.prog 271 = some { agg := false, size := 1, bytes := 8, zero := (some (.int .i64 (.ofNat 0))), shape := (.int .i64), eqs := false } := by kernel_rfl
theorem tk279 : tiOf Tryz.prog 279 = some { agg := false, size := 1, bytes := 4, zero := (some (.int .u32 (.ofNat 0))), shape := (.int .u32), eqs := false } := by kernel_rfl
theorem tk281 : tiOf Tryz.prog 281 = some { agg := false, size := 1, bytes := 8, zero := (some (.int .u64 (.ofNat 0))), shape := (.int .u64), eqs := false } := by kernel_rfl
theorem tk326 : tiOf Tryz.prog 326 = some { agg := false, size := 1, bytes := 24, zero := (some .nils), shape := (.slice 158), eqs := false } := by kernel_rfl
theorem tk343 : tiOf Tryz.prog 343 = some { agg := true, size := 24, bytes := 24, zero := (some (.agg [(.int .u8 (.ofNat 0)), (.int .u8 (.ofNat 0)), (.int .u8 (.ofNat 0)), (.int .u8 (.ofNat 0)), (.int .u8 (.ofNat 0)), (.int .u8 (.ofNat 0)), (.int .u8 (.ofNat 0)), (.int .u8 (.ofNat 0)), (.int .u8 (.ofNat 0)), (.int .u8 (.ofNat 0)), (.int .u8 (.ofNat 0)), (.int .u8 (.ofNat 0)), (.int .u8 (.ofNat 0)), (.int .u8 (.ofNat 0)), (.int .u8 (.ofNat 0)), (.int .u8 (.ofNat 0)), (.int .u8 (.ofNat 0)), (.int .u8 (.ofNat 0)), (.int .u8 (.ofNat 0)), (.int .u8 (.ofNat 0)), (.int .u8 (.ofNat 0)), (.int .u8 (.ofNat 0)), (.int .u8 (.ofNat 0)), (.int .u8 (.ofNat 0))])), shape := (.array 24 5), eqs := false } := by kernel_rfl
def AllQ {α : Type} (Q : α → Prop) : List α → Prop
  | [] => True
  | p :: r => Q p ∧ AllQ Q r
theorem AllQ.of {α : Type} {Q : α → Prop} : ∀ {l : List α}, AllQ Q l → ∀ p ∈ l, Q p
  | p :: r, h, q, hq => by
    rcases List.mem_cons.1 hq with rfl | hq
    · exact h.1
    · exact AllQ.of h.2 q hq
theorem ty_all : AllQ (fun p => tiOf Tryz.prog p.1 = some p.2) tyL := ⟨tk2, tk3, tk4, tk5, tk9, tk22, tk24, tk26, tk28, tk30, tk45, tk46, tk48, tk69, tk71, tk77, tk79, tk83, tk84, tk93, tk96, tk98, tk104, tk131, tk133, tk136, tk137, tk139, tk141, tk147, tk154, tk158, tk169, tk174, tk182, tk184, tk188, tk213, tk217, tk218, tk234, tk236, tk268, tk271, tk279, tk281, tk326, tk343, trivial⟩
theorem ty_ok : ∀ t x, S.ty t = some x → tiOf S.P t = some x := fun t x h => ty_all.of (t, x) (tyF_mem tyL t x h)
theorem extG_cases {f : FuncId} {g : List T → Option T} (h : extG f = some g) : (f = 185 ∧ g = idxG) ∨ (f = 198 ∧ g = joinG) := by
  unfold extG at h
  split at h
  · rename_i hb; cases h; exact .inl ⟨Nat.eq_of_beq_eq_true hb, rfl⟩
  split at h
  · rename_i hb; cases h; exact .inr (⟨Nat.eq_of_beq_eq_true hb, rfl⟩)
  cases h
/-- What strings.IndexByte calls, met by the law of the model's own entry. -/
theorem idx185 (s : ByteArray) (c : Int) (w : World) : Calls Tryz.prog 185 #[.string s, .int .u8 c] w fun e w' => e = .returned (.int .i64 (Lib.indexByte s.data.toList c.toNat.toUInt8)) ∧ w' = w := by
  go_enter Tryz.func185, Tryz.ntmps185
  go_wp2
  rw [run_callFunc_extern Tryz.func233 (by kernel_rfl) (by kernel_rfl) (by kernel_rfl) (e := Extern.BytealgIndexByte.indexByte) (by kernel_rfl), Lib.run_indexByteString]
  simp only [Result.andThen]
  rw [Oper.upon_value]
  go_wp2
  go_ret
  exact ⟨rfl, rfl⟩
theorem ok185 : GOk Tryz.prog 185 idxG := idx_ok idx185
theorem ok198 : GOk Tryz.prog 198 joinG := join_ok (fun a c sep w => Tryz.strings_Join_none a c sep w) (fun bk o c xs sep w h1 h2 h3 h4 h5 => Tryz.strings_Join bk o c xs sep w h1 h2 h3 h4 h5)
theorem ann_all : AllQ (fun p => ∃ fn c, S.P.funcs[p.1]? = some fn ∧ fn.body = some c ∧ okCode S.ty S.pf p.2 fn.ntmps c = true ∧ (fn.name == "runtime.NumGoroutine") = false) annL := ⟨k17, k18, k19, k20, k21, k22, k23, k24, k29, k36, k38, k42, k43, k44, k45, k46, k47, k48, k49, k50, k54, k55, k56, k57, k58, k59, k64, k71, k72, k73, k74, k75, k76, k77, k78, k79, k80, k81, k82, k83, k92, k93, k94, k95, k96, k97, k100, k101, k104, k105, k106, k107, k109, k110, k111, k112, k113, k114, k115, k116, k117, k118, k119, k120, k122, k123, k124, k125, k126, k127, k128, k129, k130, k131, k132, k136, k145, k146, k147, k148, k149, k150, k152, k154, k155, k156, k157, k158, k159, k160, k161, k162, k163, k164, k165, k166, k167, k168, k169, k173, k174, k175, k176, k177, k178, k179, k180, k181, k182, k183, k184, k187, k196, k197, k199, k200, k201, k202, k204, k205, k206, k208, k209, k210, k211, k212, k213, k214, k216, k217, k218, k219, k225, k229, k238, k245, k247, k251, k252, k253, k254, k255, k256, k257, k260, k261, k262, k263, k264, k265, k266, k267, k268, k270, k276, k282, k283, k284, k287, k288, k289, k290, k291, k292, k301, k310, k311, k314, k318, k324, k333, k341, k344, k349, k12, k15, k16, k39, k40, k41, trivial⟩
theorem sysOk : SysOk S where
  ty := ty_ok
  mixed := by kernel_rfl
  fn := fun f A h => ann_all.of (f, A) (annF_mem _ _ _ (show annF annL f = some A from h))
  ext := fun f args σ v σ' _ h => by
    have h : extF f args σ = some (v, σ') := h
    unfold extF at h
    split at h
    · rename_i gg hg
      have hf := extG_cases hg
      rcases hf with ⟨rfl, rfl⟩ | ⟨rfl, rfl⟩
      · exact ⟨⟨_, Tryz.func185, rfl, by kernel_rfl⟩, fun g w cargs I hr => ext_sound ok185 h g w cargs I hr⟩
      · exact ⟨⟨_, Tryz.func198, rfl, by kernel_rfl⟩, fun g w cargs I hr => ext_sound ok198 h g w cargs I hr⟩
    · cases h
  extPure := fun f args σ v σ' hp ha h => by
    have h : extF f args σ = some (v, σ') := h
    unfold extF at h
    split at h
    · rename_i gg hg
      obtain ⟨h1, h2⟩ := gExt_pure ha h
      refine ⟨h1, fun σ2 => ?_⟩
      show extF f args σ2 = _
      unfold extF
      rw [hg]
      exact h2 σ2
    · cases h
end X
