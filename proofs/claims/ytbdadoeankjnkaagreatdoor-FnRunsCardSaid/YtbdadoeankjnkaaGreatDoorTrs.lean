import Derived.Test.YtbdadoeankjnkaaGreatDoorTrq
import Derived.Test.YtbdadoeankjnkaaGreatDoorTrk0
import Derived.Test.YtbdadoeankjnkaaGreatDoorTrk1
import Derived.Lib.Strings
import Derived.Lib.Slices
import Derived.Lib.Walk
import Derived.Test.YtbdadoeankjnkaaGreatDoorTrJoin
import Derived.Test.YtbdadoeankjnkaaGreatDoorTrSort
import Derived.Test.YtbdadoeankjnkaaGreatDoorVe
/- The seat's table of fast texts, and that the system stands. -/
open Go Go.V Go.Proofs
namespace X
set_option maxRecDepth 100000
set_option maxHeartbeats 4000000
set_option linter.all false
noncomputable def tab : Tab := { st := .mk (.mk x22 x23 x25 x28 x29 x30 x35 x37 x38 x39 x40 x41 x48 x55 x56 x57) (.mk x61 x62 x63 x64 x65 x66 x76 x79 x80 x81 x88 x89 x90 x91 x92 x93) (.mk x94 x95 x96 x98 x99 x100 x101 x102 x104 x122 x126 x127 x128 x129 x130 x131) (.mk x137 x138 x139 x140 x141 x142 x143 x144 x145 x146 x147 x148 x149 x150 x151 x152) (.mk x153 x154 x157 x158 x160 x171 x172 x173 x174 x175 x179 x180 x181 x182 x183 x184) (.mk x185 x186 x187 x188 x189 x190 x191 x192 x193 x194 x195 x196 x205 x206 x207 x208) (.mk x209 x210 x211 x213 x214 x215 x216 x217 x221 x222 x223 x229 x232 x238 x241 x247) (.mk x248 x252 x256 x261 x262 x267 x268 x269 .no .no .no .no .no .no .no .no) (.mk .no .no .no .no .no .no .no .no .no .no .no .no .no .no .no .no) (.mk .no .no .no .no .no .no .no .no .no .no .no .no .no .no .no .no) (.mk .no .no .no .no .no .no .no .no .no .no .no .no .no .no .no .no) (.mk .no .no .no .no .no .no .no .no .no .no .no .no .no .no .no .no) (.mk .no .no .no .no .no .no .no .no .no .no .no .no .no .no .no .no) (.mk .no .no .no .no .no .no .no .no .no .no .no .no .no .no .no .no) (.mk .no .no .no .no .no .no .no .no .no .no .no .no .no .no .no .no) (.mk .no .no .no .no .no .no .no .no .no .no .no .no .no .no .no .no), dyn := [x38, x65] }
theorem tab_ok : tab.All (Entry ixf S) := by
 constructor
 ·intro x hx e he
  simp only [tab, F16.toList, List.mem_cons, List.not_mem_nil, or_false] at hx
  rcases hx with rfl | rfl | rfl | rfl | rfl | rfl | rfl | rfl | rfl | rfl | rfl | rfl | rfl | rfl | rfl | rfl
  ·simp only [F16.toList, List.mem_cons, List.not_mem_nil, or_false] at he
   rcases he with rfl | rfl | rfl | rfl | rfl | rfl | rfl | rfl | rfl | rfl | rfl | rfl | rfl | rfl | rfl | rfl
   ·exact e22
   ·exact e23
   ·exact e25
   ·exact e28
   ·exact e29
   ·exact e30
   ·exact e35
   ·exact e37
   ·exact e38
   ·exact e39
   ·exact e40
   ·exact e41
   ·exact e48
   ·exact e55
   ·exact e56
   ·exact e57
  ·simp only [F16.toList, List.mem_cons, List.not_mem_nil, or_false] at he
   rcases he with rfl | rfl | rfl | rfl | rfl | rfl | rfl | rfl | rfl | rfl | rfl | rfl | rfl | rfl | rfl | rfl
   ·exact e61
   ·exact e62
   ·exact e63
   ·exact e64
   ·exact e65
   ·exact e66
   ·exact e76
   ·exact e79
   ·exact e80
   ·exact e81
   ·exact e88
   ·exact e89
   ·exact e90
   ·exact e91
   ·exact e92
   ·exact e93
  ·simp only [F16.toList, List.mem_cons, List.not_mem_nil, or_false] at he
   rcases he with rfl | rfl | rfl | rfl | rfl | rfl | rfl | rfl | rfl | rfl | rfl | rfl | rfl | rfl | rfl | rfl
   ·exact e94
   ·exact e95
   ·exact e96
   ·exact e98
   ·exact e99
   ·exact e100
   ·exact e101
   ·exact e102
   ·exact e104
   ·exact e122
   ·exact e126
   ·exact e127
   ·exact e128
   ·exact e129
   ·exact e130
   ·exact e131
  ·simp only [F16.toList, List.mem_cons, List.not_mem_nil, or_false] at he
   rcases he with rfl | rfl | rfl | rfl | rfl | rfl | rfl | rfl | rfl | rfl | rfl | rfl | rfl | rfl | rfl | rfl
   ·exact e137
   ·exact e138
   ·exact e139
   ·exact e140
   ·exact e141
   ·exact e142
   ·exact e143
   ·exact e144
   ·exact e145
   ·exact e146
   ·exact e147
   ·exact e148
   ·exact e149
   ·exact e150
   ·exact e151
   ·exact e152
  ·simp only [F16.toList, List.mem_cons, List.not_mem_nil, or_false] at he
   rcases he with rfl | rfl | rfl | rfl | rfl | rfl | rfl | rfl | rfl | rfl | rfl | rfl | rfl | rfl | rfl | rfl
   ·exact e153
   ·exact e154
   ·exact e157
   ·exact e158
   ·exact e160
   ·exact e171
   ·exact e172
   ·exact e173
   ·exact e174
   ·exact e175
   ·exact e179
   ·exact e180
   ·exact e181
   ·exact e182
   ·exact e183
   ·exact e184
  ·simp only [F16.toList, List.mem_cons, List.not_mem_nil, or_false] at he
   rcases he with rfl | rfl | rfl | rfl | rfl | rfl | rfl | rfl | rfl | rfl | rfl | rfl | rfl | rfl | rfl | rfl
   ·exact e185
   ·exact e186
   ·exact e187
   ·exact e188
   ·exact e189
   ·exact e190
   ·exact e191
   ·exact e192
   ·exact e193
   ·exact e194
   ·exact e195
   ·exact e196
   ·exact e205
   ·exact e206
   ·exact e207
   ·exact e208
  ·simp only [F16.toList, List.mem_cons, List.not_mem_nil, or_false] at he
   rcases he with rfl | rfl | rfl | rfl | rfl | rfl | rfl | rfl | rfl | rfl | rfl | rfl | rfl | rfl | rfl | rfl
   ·exact e209
   ·exact e210
   ·exact e211
   ·exact e213
   ·exact e214
   ·exact e215
   ·exact e216
   ·exact e217
   ·exact e221
   ·exact e222
   ·exact e223
   ·exact e229
   ·exact e232
   ·exact e238
   ·exact e241
   ·exact e247
  ·simp only [F16.toList, List.mem_cons, List.not_mem_nil, or_false] at he
   rcases he with rfl | rfl | rfl | rfl | rfl | rfl | rfl | rfl | rfl | rfl | rfl | rfl | rfl | rfl | rfl | rfl
   ·exact e248
   ·exact e252
   ·exact e256
   ·exact e261
   ·exact e262
   ·exact e267
   ·exact e268
   ·exact e269
   ·exact trivial
   ·exact trivial
   ·exact trivial
   ·exact trivial
   ·exact trivial
   ·exact trivial
   ·exact trivial
   ·exact trivial
  ·simp only [F16.toList, List.mem_cons, List.not_mem_nil, or_false] at he
   rcases he with rfl | rfl | rfl | rfl | rfl | rfl | rfl | rfl | rfl | rfl | rfl | rfl | rfl | rfl | rfl | rfl
   ·exact trivial
   ·exact trivial
   ·exact trivial
   ·exact trivial
   ·exact trivial
   ·exact trivial
   ·exact trivial
   ·exact trivial
   ·exact trivial
   ·exact trivial
   ·exact trivial
   ·exact trivial
   ·exact trivial
   ·exact trivial
   ·exact trivial
   ·exact trivial
  ·simp only [F16.toList, List.mem_cons, List.not_mem_nil, or_false] at he
   rcases he with rfl | rfl | rfl | rfl | rfl | rfl | rfl | rfl | rfl | rfl | rfl | rfl | rfl | rfl | rfl | rfl
   ·exact trivial
   ·exact trivial
   ·exact trivial
   ·exact trivial
   ·exact trivial
   ·exact trivial
   ·exact trivial
   ·exact trivial
   ·exact trivial
   ·exact trivial
   ·exact trivial
   ·exact trivial
   ·exact trivial
   ·exact trivial
   ·exact trivial
   ·exact trivial
  ·simp only [F16.toList, List.mem_cons, List.not_mem_nil, or_false] at he
   rcases he with rfl | rfl | rfl | rfl | rfl | rfl | rfl | rfl | rfl | rfl | rfl | rfl | rfl | rfl | rfl | rfl
   ·exact trivial
   ·exact trivial
   ·exact trivial
   ·exact trivial
   ·exact trivial
   ·exact trivial
   ·exact trivial
   ·exact trivial
   ·exact trivial
   ·exact trivial
   ·exact trivial
   ·exact trivial
   ·exact trivial
   ·exact trivial
   ·exact trivial
   ·exact trivial
  ·simp only [F16.toList, List.mem_cons, List.not_mem_nil, or_false] at he
   rcases he with rfl | rfl | rfl | rfl | rfl | rfl | rfl | rfl | rfl | rfl | rfl | rfl | rfl | rfl | rfl | rfl
   ·exact trivial
   ·exact trivial
   ·exact trivial
   ·exact trivial
   ·exact trivial
   ·exact trivial
   ·exact trivial
   ·exact trivial
   ·exact trivial
   ·exact trivial
   ·exact trivial
   ·exact trivial
   ·exact trivial
   ·exact trivial
   ·exact trivial
   ·exact trivial
  ·simp only [F16.toList, List.mem_cons, List.not_mem_nil, or_false] at he
   rcases he with rfl | rfl | rfl | rfl | rfl | rfl | rfl | rfl | rfl | rfl | rfl | rfl | rfl | rfl | rfl | rfl
   ·exact trivial
   ·exact trivial
   ·exact trivial
   ·exact trivial
   ·exact trivial
   ·exact trivial
   ·exact trivial
   ·exact trivial
   ·exact trivial
   ·exact trivial
   ·exact trivial
   ·exact trivial
   ·exact trivial
   ·exact trivial
   ·exact trivial
   ·exact trivial
  ·simp only [F16.toList, List.mem_cons, List.not_mem_nil, or_false] at he
   rcases he with rfl | rfl | rfl | rfl | rfl | rfl | rfl | rfl | rfl | rfl | rfl | rfl | rfl | rfl | rfl | rfl
   ·exact trivial
   ·exact trivial
   ·exact trivial
   ·exact trivial
   ·exact trivial
   ·exact trivial
   ·exact trivial
   ·exact trivial
   ·exact trivial
   ·exact trivial
   ·exact trivial
   ·exact trivial
   ·exact trivial
   ·exact trivial
   ·exact trivial
   ·exact trivial
  ·simp only [F16.toList, List.mem_cons, List.not_mem_nil, or_false] at he
   rcases he with rfl | rfl | rfl | rfl | rfl | rfl | rfl | rfl | rfl | rfl | rfl | rfl | rfl | rfl | rfl | rfl
   ·exact trivial
   ·exact trivial
   ·exact trivial
   ·exact trivial
   ·exact trivial
   ·exact trivial
   ·exact trivial
   ·exact trivial
   ·exact trivial
   ·exact trivial
   ·exact trivial
   ·exact trivial
   ·exact trivial
   ·exact trivial
   ·exact trivial
   ·exact trivial
  ·simp only [F16.toList, List.mem_cons, List.not_mem_nil, or_false] at he
   rcases he with rfl | rfl | rfl | rfl | rfl | rfl | rfl | rfl | rfl | rfl | rfl | rfl | rfl | rfl | rfl | rfl
   ·exact trivial
   ·exact trivial
   ·exact trivial
   ·exact trivial
   ·exact trivial
   ·exact trivial
   ·exact trivial
   ·exact trivial
   ·exact trivial
   ·exact trivial
   ·exact trivial
   ·exact trivial
   ·exact trivial
   ·exact trivial
   ·exact trivial
   ·exact trivial
 ·intro e he
  simp only [tab, List.mem_cons, List.not_mem_nil, or_false] at he
  rcases he with rfl | rfl
  ·exact e38
  ·exact e65
theorem tyF_mem (l : List (Nat × TI)) (t : TypeId) (x : TI) (h : tyF l t = some x) : (t, x) ∈ l := by
 induction l with
 | nil => simp [tyF] at h
 | cons p r ih =>
  obtain ⟨g, B⟩ := p
  simp only [tyF] at h
  split at h
  ·rename_i e; cases h; rw [Nat.eq_of_beq_eq_true e]; simp
  ·simp [ih h]
theorem annF_mem (l : List (Nat × Ann)) (f : FuncId) (A : Ann) (h : annF l f = some A) : (f, A) ∈ l := by
 induction l with
 | nil => simp [annF] at h
 | cons p r ih =>
  obtain ⟨g, B⟩ := p
  simp only [annF] at h
  split at h
  ·rename_i e; cases h; rw [Nat.eq_of_beq_eq_true e]; simp
  ·simp [ih h]
theorem tk2 : tiOf Tryz.prog 2 = some ⟨false, 1, 8, (some (.int .i64 (.ofNat 0))), (.int .i64), false⟩ := by kernel_rfl
theorem tk3 : tiOf Tryz.prog 3 = some ⟨false, 1, 8, (some (.int .i64 (.ofNat 0))), (.int .i64), false⟩ := by kernel_rfl
theorem tk4 : tiOf Tryz.prog 4 = some ⟨false, 1, 1, (some (.bool false)), .bool, false⟩ := by kernel_rfl
theorem tk5 : tiOf Tryz.prog 5 = some ⟨false, 1, 1, (some (.int .u8 (.ofNat 0))), (.int .u8), false⟩ := by kernel_rfl
theorem tk9 : tiOf Tryz.prog 9 = some ⟨false, 1, 16, (some (.str [])), .str, false⟩ := by kernel_rfl
theorem tk22 : tiOf Tryz.prog 22 = some ⟨false, 1, 24, (some .nils), (.slice 5), false⟩ := by kernel_rfl
theorem tk24 : tiOf Tryz.prog 24 = some ⟨false, 1, 24, (some .nils), (.slice 58), false⟩ := by kernel_rfl
theorem tk26 : tiOf Tryz.prog 26 = some ⟨true, 1, 24, (some (.agg [.nils])), (.struct [(0, 24)]), false⟩ := by kernel_rfl
theorem tk27 : tiOf Tryz.prog 27 = some ⟨false, 1, 24, (some .nils), (.slice 3), false⟩ := by kernel_rfl
theorem tk30 : tiOf Tryz.prog 30 = some ⟨false, 1, 24, (some .nils), (.slice 37), false⟩ := by kernel_rfl
theorem tk32 : tiOf Tryz.prog 32 = some ⟨true, 1, 24, (some (.agg [.nils])), (.struct [(0, 30)]), false⟩ := by kernel_rfl
theorem tk37 : tiOf Tryz.prog 37 = some ⟨true, 5, 88, (some (.agg [(.int .i64 (.ofNat 0)), .nils, (.int .i64 (.ofNat 0)), .nils, .nils])), (.struct [(0, 3), (1, 27), (2, 3), (3, 27), (4, 27)]), false⟩ := by kernel_rfl
theorem tk55 : tiOf Tryz.prog 55 = some ⟨false, 1, 24, (some .nils), (.slice 9), false⟩ := by kernel_rfl
theorem tk56 : tiOf Tryz.prog 56 = some ⟨false, 1, 24, (some .nils), (.slice 81), false⟩ := by kernel_rfl
theorem tk58 : tiOf Tryz.prog 58 = some ⟨true, 3, 64, (some (.agg [(.str []), .nils, .nils])), (.struct [(0, 9), (1, 55), (2, 56)]), false⟩ := by kernel_rfl
theorem tk62 : tiOf Tryz.prog 62 = some ⟨false, 1, 8, (some .nilm), (.map 9 3), false⟩ := by kernel_rfl
theorem tk64 : tiOf Tryz.prog 64 = some ⟨true, 7, 112, (some (.agg [.nils, (.str []), .nils, (.int .i64 (.ofNat 0)), (.bool false), .nils, .nilm])), (.struct [(0, 26), (1, 9), (2, 32), (3, 3), (4, 4), (5, 27), (6, 62)]), false⟩ := by kernel_rfl
theorem tk69 : tiOf Tryz.prog 69 = some ⟨true, 6, 80, (some (.agg [.nils, (.str []), .nils, (.int .i64 (.ofNat 0)), (.bool false), (.bool false)])), (.struct [(0, 26), (1, 9), (2, 30), (3, 3), (4, 4), (5, 4)]), false⟩ := by kernel_rfl
theorem tk74 : tiOf Tryz.prog 74 = some ⟨true, 3, 40, (some (.agg [.nils, (.int .i64 (.ofNat 0)), (.int .i64 (.ofNat 0))])), (.struct [(0, 22), (1, 3), (2, 3)]), false⟩ := by kernel_rfl
theorem tk79 : tiOf Tryz.prog 79 = some ⟨false, 1, 24, (some .nils), (.slice 117), false⟩ := by kernel_rfl
theorem tk81 : tiOf Tryz.prog 81 = some ⟨true, 1, 24, (some (.agg [.nils])), (.struct [(0, 79)]), false⟩ := by kernel_rfl
theorem tk86 : tiOf Tryz.prog 86 = some ⟨false, 1, 24, (some .nils), (.slice 129), false⟩ := by kernel_rfl
theorem tk92 : tiOf Tryz.prog 92 = some ⟨false, 1, 24, (some .nils), (.slice 4), false⟩ := by kernel_rfl
theorem tk93 : tiOf Tryz.prog 93 = some ⟨false, 1, 24, (some .nils), (.slice 97), false⟩ := by kernel_rfl
theorem tk97 : tiOf Tryz.prog 97 = some ⟨true, 2, 32, (some (.agg [(.int .i64 (.ofNat 0)), .nils])), (.struct [(0, 3), (1, 86)]), false⟩ := by kernel_rfl
theorem tk101 : tiOf Tryz.prog 101 = some ⟨false, 1, 24, (some .nils), (.slice 194), false⟩ := by kernel_rfl
theorem tk102 : tiOf Tryz.prog 102 = some ⟨false, 1, 24, (some .nils), (.slice 154), false⟩ := by kernel_rfl
theorem tk104 : tiOf Tryz.prog 104 = some ⟨true, 2, 48, (some (.agg [.nils, .nils])), (.struct [(0, 101), (1, 102)]), false⟩ := by kernel_rfl
theorem tk115 : tiOf Tryz.prog 115 = some ⟨false, 1, 24, (some .nils), (.slice 171), false⟩ := by kernel_rfl
theorem tk117 : tiOf Tryz.prog 117 = some ⟨true, 4, 64, (some (.agg [(.int .i64 (.ofNat 0)), (.str []), .nils, (.str [])])), (.struct [(0, 3), (1, 9), (2, 115), (3, 9)]), false⟩ := by kernel_rfl
theorem tk129 : tiOf Tryz.prog 129 = some ⟨true, 2, 24, (some (.agg [(.str []), (.int .i64 (.ofNat 0))])), (.struct [(0, 9), (1, 3)]), true⟩ := by kernel_rfl
theorem tk132 : tiOf Tryz.prog 132 = some ⟨false, 1, 8, (some (.int .u64 (.ofNat 0))), (.int .u64), false⟩ := by kernel_rfl
theorem tk145 : tiOf Tryz.prog 145 = some ⟨false, 1, 24, (some .nils), (.slice 156), false⟩ := by kernel_rfl
theorem tk150 : tiOf Tryz.prog 150 = some ⟨true, 5, 72, (some (.agg [.nils, (.int .i64 (.ofNat 0)), (.int .i64 (.ofNat 0)), (.bool false), .nils])), (.struct [(0, 145), (1, 3), (2, 3), (3, 4), (4, 101)]), false⟩ := by kernel_rfl
theorem tk154 : tiOf Tryz.prog 154 = some ⟨true, 3, 48, (some (.agg [(.str []), .nils, (.int .i64 (.ofNat 0))])), (.struct [(0, 9), (1, 55), (2, 3)]), false⟩ := by kernel_rfl
theorem tk156 : tiOf Tryz.prog 156 = some ⟨true, 2, 24, (some (.agg [(.int .i64 (.ofNat 0)), (.str [])])), (.struct [(0, 3), (1, 9)]), true⟩ := by kernel_rfl
theorem tk169 : tiOf Tryz.prog 169 = some ⟨false, 1, 24, (some .nils), (.slice 215), false⟩ := by kernel_rfl
theorem tk171 : tiOf Tryz.prog 171 = some ⟨true, 1, 24, (some (.agg [.nils])), (.struct [(0, 169)]), false⟩ := by kernel_rfl
theorem tk173 : tiOf Tryz.prog 173 = some ⟨false, 1, 8, (some (.int .i64 (.ofNat 0))), (.int .i64), false⟩ := by kernel_rfl
theorem tk181 : tiOf Tryz.prog 181 = some ⟨false, 1, 4, (some (.int .u32 (.ofNat 0))), (.int .u32), false⟩ := by kernel_rfl
theorem tk183 : tiOf Tryz.prog 183 = some ⟨false, 1, 8, (some (.int .u64 (.ofNat 0))), (.int .u64), false⟩ := by kernel_rfl
theorem tk194 : tiOf Tryz.prog 194 = some ⟨true, 5, 88, (some (.agg [(.int .i64 (.ofNat 0)), (.str []), .nils, (.str []), .nils])), (.struct [(0, 3), (1, 9), (2, 115), (3, 9), (4, 27)]), false⟩ := by kernel_rfl
theorem tk198 : tiOf Tryz.prog 198 = some ⟨false, 1, 24, (some .nils), (.slice 204), false⟩ := by kernel_rfl
theorem tk200 : tiOf Tryz.prog 200 = some ⟨true, 5, 104, (some (.agg [.nils, .nils, .nils, .nils, (.int .i64 (.ofNat 0))])), (.struct [(0, 104), (2, 26), (3, 198), (4, 3)]), false⟩ := by kernel_rfl
theorem tk204 : tiOf Tryz.prog 204 = some ⟨true, 3, 40, (some (.agg [(.int .i64 (.ofNat 0)), (.int .i64 (.ofNat 0)), .nils])), (.struct [(0, 3), (1, 3), (2, 55)]), false⟩ := by kernel_rfl
theorem tk215 : tiOf Tryz.prog 215 = some ⟨true, 4, 56, (some (.agg [(.int .i64 (.ofNat 0)), (.int .i64 (.ofNat 0)), (.str []), .nils])), (.struct [(0, 3), (1, 3), (2, 9), (3, 27)]), false⟩ := by kernel_rfl
theorem tk248 : tiOf Tryz.prog 248 = some ⟨false, 1, 24, (some .nils), (.slice 86), false⟩ := by kernel_rfl
theorem tk277 : tiOf Tryz.prog 277 = some ⟨true, 24, 24, (some (.agg [(.int .u8 (.ofNat 0)), (.int .u8 (.ofNat 0)), (.int .u8 (.ofNat 0)), (.int .u8 (.ofNat 0)), (.int .u8 (.ofNat 0)), (.int .u8 (.ofNat 0)), (.int .u8 (.ofNat 0)), (.int .u8 (.ofNat 0)), (.int .u8 (.ofNat 0)), (.int .u8 (.ofNat 0)), (.int .u8 (.ofNat 0)), (.int .u8 (.ofNat 0)), (.int .u8 (.ofNat 0)), (.int .u8 (.ofNat 0)), (.int .u8 (.ofNat 0)), (.int .u8 (.ofNat 0)), (.int .u8 (.ofNat 0)), (.int .u8 (.ofNat 0)), (.int .u8 (.ofNat 0)), (.int .u8 (.ofNat 0)), (.int .u8 (.ofNat 0)), (.int .u8 (.ofNat 0)), (.int .u8 (.ofNat 0)), (.int .u8 (.ofNat 0))])), (.array 24 5), false⟩ := by kernel_rfl
def AllQ {α : Type} (Q : α → Prop) : List α → Prop
 | [] => True
 | p :: r => Q p ∧ AllQ Q r
theorem AllQ.of {α : Type} {Q : α → Prop} : ∀ {l : List α}, AllQ Q l → ∀ p ∈ l, Q p
 | p :: r, h, q, hq => by
  rcases List.mem_cons.1 hq with rfl | hq
  ·exact h.1
  ·exact AllQ.of h.2 q hq
theorem ty_all : AllQ (fun p => tiOf Tryz.prog p.1 = some p.2) tyL := ⟨tk2, tk3, tk4, tk5, tk9, tk22, tk24, tk26, tk27, tk30, tk32, tk37, tk55, tk56, tk58, tk62, tk64, tk69, tk74, tk79, tk81, tk86, tk92, tk93, tk97, tk101, tk102, tk104, tk115, tk117, tk129, tk132, tk145, tk150, tk154, tk156, tk169, tk171, tk173, tk181, tk183, tk194, tk198, tk200, tk204, tk215, tk248, tk277, trivial⟩
theorem ty_ok : ∀ t x, S.ty t = some x → tiOf S.P t = some x := fun t x h => ty_all.of (t, x) (tyF_mem tyL t x h)
theorem qyu {f : FuncId} {g : List T → Option T} (h : extG f = some g) : (f = 189 ∧ g = idxG) ∨ (f = 155 ∧ g = qty) := by
 unfold extG at h
 split at h
 ·rename_i hb; cases h; exact .inl ⟨Nat.eq_of_beq_eq_true hb, rfl⟩
 split at h
 ·rename_i hb; cases h; exact .inr (⟨Nat.eq_of_beq_eq_true hb, rfl⟩)
 cases h
/-- What strings.IndexByte calls, met by the law of the model's own entry. -/
theorem idx189 (s : ByteArray) (c : Int) (w : World) : Calls Tryz.prog 189 #[.string s, .int .u8 c] w fun e w' => e = .returned (.int .i64 (Lib.indexByte s.data.toList c.toNat.toUInt8)) ∧ w' = w := by
 go_enter Tryz.func189, Tryz.ntmps189
 go_wp2
 rw [run_callFunc_extern Tryz.func212 (by kernel_rfl) (by kernel_rfl) (by kernel_rfl) (e := Extern.BytealgIndexByte.indexByte) (by kernel_rfl), Lib.run_indexByteString]
 simp only [Result.andThen]
 rw [Oper.upon_value]
 go_wp2
 go_ret
 exact ⟨rfl, rfl⟩
theorem ok189 : GOk Tryz.prog 189 idxG := idx_ok idx189
theorem ok155 : GOk Tryz.prog 155 qty := join_ok (fun a c sep w => Tryz.strings_Join_none a c sep w) (fun bk o c xs sep w h1 h2 h3 h4 h5 => Tryz.strings_Join bk o c xs sep w h1 h2 h3 h4 h5)
theorem ok78 : InsOk Tryz.prog 78 := insOk Tryz.lays2_21
theorem ok46 : SrtOk Tryz.prog 46 := srtOk Tryz.lays189
theorem ann_all : AllQ (fun p => ∃ fn c, S.P.funcs[p.1]? = some fn ∧ fn.body = some c ∧ qdg S.ty S.pf p.2 fn.ntmps c = true ∧ (fn.name == "runtime.NumGoroutine") = false) annL := ⟨k22, k23, k25, k28, k29, k30, k35, k37, k38, k39, k40, k41, k48, k55, k56, k57, k61, k62, k63, k64, k65, k66, k76, k79, k80, k81, k88, k89, k90, k91, k92, k93, k94, k95, k96, k98, k99, k100, k101, k102, k104, k122, k126, k127, k128, k129, k130, k131, k137, k138, k139, k140, k141, k142, k143, k144, k145, k146, k147, k148, k149, k150, k151, k152, k153, k154, k157, k158, k160, k171, k172, k173, k174, k175, k179, k180, k181, k182, k183, k184, k185, k186, k187, k188, k190, k191, k192, k193, k194, k195, k196, k205, k206, k207, k208, k209, k210, k211, k213, k214, k215, k216, k217, k221, k222, k223, k229, k232, k238, k241, k247, k248, k252, k256, k261, k262, k267, k268, k269, k3, k5, k9, k10, k12, k6, k20, k21, k34, k33, k58, k59, k54, k97, k60, k8, k13, k31, k32, k50, k53, k49, k52, k51, k83, k85, k82, k86, k87, k132, k133, k135, k84, k136, k176, k177, k178, k134, k7, k11, k26, k27, k44, k47, k70, k42, k68, k69, k43, k67, k103, k71, k106, k118, k169, k123, k77, k107, k156, k72, k24, k73, k74, k45, k109, k159, k200, k110, k162, k111, k108, k105, k201, k220, k163, k161, k202, trivial⟩
theorem sysOk : SysOk S where
 ty := ty_ok
 mixed := by kernel_rfl
 fn := fun f A h => ann_all.of (f, A) (annF_mem _ _ _ (show annF annL f = some A from h))
 ext := fun f args σ v σ' _ h => by
  have h : extF f args σ = some (v, σ') := h
  unfold extF at h
  split at h
  ·rename_i hb
   rw [Nat.eq_of_beq_eq_true hb]
   exact ⟨⟨_, Tryz.func78, rfl, by kernel_rfl⟩, fun g w cargs I hr => q1y ok78 h g w cargs I hr⟩
  split at h
  ·rename_i hb
   rw [Nat.eq_of_beq_eq_true hb]
   exact ⟨⟨_, Tryz.func46, rfl, by kernel_rfl⟩, fun g w cargs I hr => qzu ok46 h g w cargs I hr⟩
  split at h
  ·rename_i gg hg
   have hf := qyu hg
   rcases hf with ⟨rfl, rfl⟩ | ⟨rfl, rfl⟩
   ·exact ⟨⟨_, Tryz.func189, rfl, by kernel_rfl⟩, fun g w cargs I hr => qsh ok189 h g w cargs I hr⟩
   ·exact ⟨⟨_, Tryz.func155, rfl, by kernel_rfl⟩, fun g w cargs I hr => qsh ok155 h g w cargs I hr⟩
  ·cases h
 extPure := fun f args σ v σ' hp ha h => by
  have h : extF f args σ = some (v, σ') := h
  unfold extF at h
  split at h
  ·rename_i hb
   rw [Nat.eq_of_beq_eq_true hb] at hp
   cases hp
  rename_i hb78
  split at h
  ·rename_i hb
   rw [Nat.eq_of_beq_eq_true hb] at hp
   cases hp
  rename_i hb46
  split at h
  ·rename_i gg hg
   obtain ⟨h1, h2⟩ := q0t ha h
   refine ⟨h1, fun σ2 => ?_⟩
   show extF f args σ2 = _
   unfold extF
   rw [hb78, hb46, hg]
   exact h2 σ2
  ·cases h
end X
