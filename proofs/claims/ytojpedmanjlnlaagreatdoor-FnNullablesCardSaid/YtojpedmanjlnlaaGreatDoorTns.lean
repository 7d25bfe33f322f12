import Derived.Test.YtojpedmanjlnlaaGreatDoorTnc0
import Derived.Test.YtojpedmanjlnlaaGreatDoorTnc1
import Derived.Test.YtojpedmanjlnlaaGreatDoorTnk0
import Derived.Test.YtojpedmanjlnlaaGreatDoorTnk1
import Derived.Lib.Strings
import Derived.Lib.Slices
import Derived.Lib.Walk
/- The seat's table of fast texts, and that the system stands. -/
open Go Go.V Go.Proofs
namespace X
set_option maxRecDepth 100000
set_option maxHeartbeats 4000000
set_option linter.all false
noncomputable def tab : Tab := { st := .mk (.mk x5 x7 x8 x9 x10 x12 x13 x16 x17 x18 x19 x20 x21 x22 x23 x24) (.mk x25 x27 x28 x29 x30 x31 x32 x33 x34 x38 x40 x41 x42 x43 x44 x45) (.mk x46 x47 x48 x49 x50 x51 x52 x53 x54 x55 x56 x57 x58 x59 x60 x61) (.mk x62 x63 x64 x65 x66 x67 x68 x70 x72 x73 x74 x75 x76 x77 x78 x79) (.mk x80 x81 x82 x83 x84 x85 x86 x87 x88 x89 x90 x91 x92 x93 x94 x95) (.mk x96 x97 x98 x99 x100 x101 x102 x103 x104 x105 x106 x107 x108 x109 x110 x111) (.mk x112 x113 x114 x117 x120 x122 x124 x125 x126 x127 x128 x129 x130 x131 x132 x133) (.mk x134 x135 x136 x137 x138 x139 x140 x141 x142 x143 x144 x145 x146 x147 x152 x153) (.mk x154 x155 x156 x157 x158 x159 x160 x161 x162 x163 x164 x165 x170 x176 x182 x183) (.mk x184 x185 x186 x188 x189 x190 x191 x192 x193 x203 x205 x206 x207 x208 x214 x217) (.mk x226 x230 x231 x235 x237 x243 .no .no .no .no .no .no .no .no .no .no) (.mk .no .no .no .no .no .no .no .no .no .no .no .no .no .no .no .no) (.mk .no .no .no .no .no .no .no .no .no .no .no .no .no .no .no .no) (.mk .no .no .no .no .no .no .no .no .no .no .no .no .no .no .no .no) (.mk .no .no .no .no .no .no .no .no .no .no .no .no .no .no .no .no) (.mk .no .no .no .no .no .no .no .no .no .no .no .no .no .no .no .no), dyn := [x46, x76, x79, x139] }
theorem tab_ok : tab.All (Entry ixf S) := by
 constructor
 ·intro x hx e he
  simp only [tab, F16.toList, List.mem_cons, List.not_mem_nil, or_false] at hx
  rcases hx with rfl | rfl | rfl | rfl | rfl | rfl | rfl | rfl | rfl | rfl | rfl | rfl | rfl | rfl | rfl | rfl
  ·simp only [F16.toList, List.mem_cons, List.not_mem_nil, or_false] at he
   rcases he with rfl | rfl | rfl | rfl | rfl | rfl | rfl | rfl | rfl | rfl | rfl | rfl | rfl | rfl | rfl | rfl
   ·exact e5
   ·exact e7
   ·exact e8
   ·exact e9
   ·exact e10
   ·exact e12
   ·exact e13
   ·exact e16
   ·exact e17
   ·exact e18
   ·exact e19
   ·exact e20
   ·exact e21
   ·exact e22
   ·exact e23
   ·exact e24
  ·simp only [F16.toList, List.mem_cons, List.not_mem_nil, or_false] at he
   rcases he with rfl | rfl | rfl | rfl | rfl | rfl | rfl | rfl | rfl | rfl | rfl | rfl | rfl | rfl | rfl | rfl
   ·exact e25
   ·exact e27
   ·exact e28
   ·exact e29
   ·exact e30
   ·exact e31
   ·exact e32
   ·exact e33
   ·exact e34
   ·exact e38
   ·exact e40
   ·exact e41
   ·exact e42
   ·exact e43
   ·exact e44
   ·exact e45
  ·simp only [F16.toList, List.mem_cons, List.not_mem_nil, or_false] at he
   rcases he with rfl | rfl | rfl | rfl | rfl | rfl | rfl | rfl | rfl | rfl | rfl | rfl | rfl | rfl | rfl | rfl
   ·exact e46
   ·exact e47
   ·exact e48
   ·exact e49
   ·exact e50
   ·exact e51
   ·exact e52
   ·exact e53
   ·exact e54
   ·exact e55
   ·exact e56
   ·exact e57
   ·exact e58
   ·exact e59
   ·exact e60
   ·exact e61
  ·simp only [F16.toList, List.mem_cons, List.not_mem_nil, or_false] at he
   rcases he with rfl | rfl | rfl | rfl | rfl | rfl | rfl | rfl | rfl | rfl | rfl | rfl | rfl | rfl | rfl | rfl
   ·exact e62
   ·exact e63
   ·exact e64
   ·exact e65
   ·exact e66
   ·exact e67
   ·exact e68
   ·exact e70
   ·exact e72
   ·exact e73
   ·exact e74
   ·exact e75
   ·exact e76
   ·exact e77
   ·exact e78
   ·exact e79
  ·simp only [F16.toList, List.mem_cons, List.not_mem_nil, or_false] at he
   rcases he with rfl | rfl | rfl | rfl | rfl | rfl | rfl | rfl | rfl | rfl | rfl | rfl | rfl | rfl | rfl | rfl
   ·exact e80
   ·exact e81
   ·exact e82
   ·exact e83
   ·exact e84
   ·exact e85
   ·exact e86
   ·exact e87
   ·exact e88
   ·exact e89
   ·exact e90
   ·exact e91
   ·exact e92
   ·exact e93
   ·exact e94
   ·exact e95
  ·simp only [F16.toList, List.mem_cons, List.not_mem_nil, or_false] at he
   rcases he with rfl | rfl | rfl | rfl | rfl | rfl | rfl | rfl | rfl | rfl | rfl | rfl | rfl | rfl | rfl | rfl
   ·exact e96
   ·exact e97
   ·exact e98
   ·exact e99
   ·exact e100
   ·exact e101
   ·exact e102
   ·exact e103
   ·exact e104
   ·exact e105
   ·exact e106
   ·exact e107
   ·exact e108
   ·exact e109
   ·exact e110
   ·exact e111
  ·simp only [F16.toList, List.mem_cons, List.not_mem_nil, or_false] at he
   rcases he with rfl | rfl | rfl | rfl | rfl | rfl | rfl | rfl | rfl | rfl | rfl | rfl | rfl | rfl | rfl | rfl
   ·exact e112
   ·exact e113
   ·exact e114
   ·exact e117
   ·exact e120
   ·exact e122
   ·exact e124
   ·exact e125
   ·exact e126
   ·exact e127
   ·exact e128
   ·exact e129
   ·exact e130
   ·exact e131
   ·exact e132
   ·exact e133
  ·simp only [F16.toList, List.mem_cons, List.not_mem_nil, or_false] at he
   rcases he with rfl | rfl | rfl | rfl | rfl | rfl | rfl | rfl | rfl | rfl | rfl | rfl | rfl | rfl | rfl | rfl
   ·exact e134
   ·exact e135
   ·exact e136
   ·exact e137
   ·exact e138
   ·exact e139
   ·exact e140
   ·exact e141
   ·exact e142
   ·exact e143
   ·exact e144
   ·exact e145
   ·exact e146
   ·exact e147
   ·exact e152
   ·exact e153
  ·simp only [F16.toList, List.mem_cons, List.not_mem_nil, or_false] at he
   rcases he with rfl | rfl | rfl | rfl | rfl | rfl | rfl | rfl | rfl | rfl | rfl | rfl | rfl | rfl | rfl | rfl
   ·exact e154
   ·exact e155
   ·exact e156
   ·exact e157
   ·exact e158
   ·exact e159
   ·exact e160
   ·exact e161
   ·exact e162
   ·exact e163
   ·exact e164
   ·exact e165
   ·exact e170
   ·exact e176
   ·exact e182
   ·exact e183
  ·simp only [F16.toList, List.mem_cons, List.not_mem_nil, or_false] at he
   rcases he with rfl | rfl | rfl | rfl | rfl | rfl | rfl | rfl | rfl | rfl | rfl | rfl | rfl | rfl | rfl | rfl
   ·exact e184
   ·exact e185
   ·exact e186
   ·exact e188
   ·exact e189
   ·exact e190
   ·exact e191
   ·exact e192
   ·exact e193
   ·exact e203
   ·exact e205
   ·exact e206
   ·exact e207
   ·exact e208
   ·exact e214
   ·exact e217
  ·simp only [F16.toList, List.mem_cons, List.not_mem_nil, or_false] at he
   rcases he with rfl | rfl | rfl | rfl | rfl | rfl | rfl | rfl | rfl | rfl | rfl | rfl | rfl | rfl | rfl | rfl
   ·exact e226
   ·exact e230
   ·exact e231
   ·exact e235
   ·exact e237
   ·exact e243
   ·exact trivial
   ·exact trivial
   ·exact trivial
   ·exact trivial
   ·exact trivial
   ·exact trivial
   ·exact trivial
   ·exact trivial
   ·exact trivial
   ·exact trivial
  ·simp only [F16.toList, List.mem_cons, List.not_mem_nil, or_false] at he
   rcases he with rfl | rfl | rfl | rfl | rfl | rfl | rfl | rfl | rfl | rfl | rfl | rfl | rfl | rfl | rfl | rfl
   ·exact trivial
   ·exact trivial
   ·exact trivial
   ·exact trivial
   ·exact trivial
   ·exact trivial
   ·exact trivial
   ·exact trivial
   ·exact trivial
   ·exact trivial
   ·exact trivial
   ·exact trivial
   ·exact trivial
   ·exact trivial
   ·exact trivial
   ·exact trivial
  ·simp only [F16.toList, List.mem_cons, List.not_mem_nil, or_false] at he
   rcases he with rfl | rfl | rfl | rfl | rfl | rfl | rfl | rfl | rfl | rfl | rfl | rfl | rfl | rfl | rfl | rfl
   ·exact trivial
   ·exact trivial
   ·exact trivial
   ·exact trivial
   ·exact trivial
   ·exact trivial
   ·exact trivial
   ·exact trivial
   ·exact trivial
   ·exact trivial
   ·exact trivial
   ·exact trivial
   ·exact trivial
   ·exact trivial
   ·exact trivial
   ·exact trivial
  ·simp only [F16.toList, List.mem_cons, List.not_mem_nil, or_false] at he
   rcases he with rfl | rfl | rfl | rfl | rfl | rfl | rfl | rfl | rfl | rfl | rfl | rfl | rfl | rfl | rfl | rfl
   ·exact trivial
   ·exact trivial
   ·exact trivial
   ·exact trivial
   ·exact trivial
   ·exact trivial
   ·exact trivial
   ·exact trivial
   ·exact trivial
   ·exact trivial
   ·exact trivial
   ·exact trivial
   ·exact trivial
   ·exact trivial
   ·exact trivial
   ·exact trivial
  ·simp only [F16.toList, List.mem_cons, List.not_mem_nil, or_false] at he
   rcases he with rfl | rfl | rfl | rfl | rfl | rfl | rfl | rfl | rfl | rfl | rfl | rfl | rfl | rfl | rfl | rfl
   ·exact trivial
   ·exact trivial
   ·exact trivial
   ·exact trivial
   ·exact trivial
   ·exact trivial
   ·exact trivial
   ·exact trivial
   ·exact trivial
   ·exact trivial
   ·exact trivial
   ·exact trivial
   ·exact trivial
   ·exact trivial
   ·exact trivial
   ·exact trivial
  ·simp only [F16.toList, List.mem_cons, List.not_mem_nil, or_false] at he
   rcases he with rfl | rfl | rfl | rfl | rfl | rfl | rfl | rfl | rfl | rfl | rfl | rfl | rfl | rfl | rfl | rfl
   ·exact trivial
   ·exact trivial
   ·exact trivial
   ·exact trivial
   ·exact trivial
   ·exact trivial
   ·exact trivial
   ·exact trivial
   ·exact trivial
   ·exact trivial
   ·exact trivial
   ·exact trivial
   ·exact trivial
   ·exact trivial
   ·exact trivial
   ·exact trivial
 ·intro e he
  simp only [tab, List.mem_cons, List.not_mem_nil, or_false] at he
  rcases he with rfl | rfl | rfl | rfl
  ·exact e46
  ·exact e76
  ·exact e79
  ·exact e139
theorem tyF_mem (l : List (Nat × TI)) (t : TypeId) (x : TI) (h : tyF l t = some x) : (t, x) ∈ l := by
 induction l with
 | nil => simp [tyF] at h
 | cons p r ih =>
  obtain ⟨g, B⟩ := p
  simp only [tyF] at h
  split at h
  ·rename_i e; cases h; rw [Nat.eq_of_beq_eq_true e]; simp
  ·simp [ih h]
theorem annF_mem (l : List (Nat × Ann)) (f : FuncId) (A : Ann) (h : annF l f = some A) : (f, A) ∈ l := by
 induction l with
 | nil => simp [annF] at h
 | cons p r ih =>
  obtain ⟨g, B⟩ := p
  simp only [annF] at h
  split at h
  ·rename_i e; cases h; rw [Nat.eq_of_beq_eq_true e]; simp
  ·simp [ih h]
theorem tk2 : tiOf Tryz.prog 2 = some ⟨false, 1, 8, (some (.int .i64 (.ofNat 0))), (.int .i64), false⟩ := by kernel_rfl
theorem tk3 : tiOf Tryz.prog 3 = some ⟨false, 1, 8, (some (.int .i64 (.ofNat 0))), (.int .i64), false⟩ := by kernel_rfl
theorem tk4 : tiOf Tryz.prog 4 = some ⟨false, 1, 1, (some (.bool false)), .bool, false⟩ := by kernel_rfl
theorem tk5 : tiOf Tryz.prog 5 = some ⟨false, 1, 1, (some (.int .u8 (.ofNat 0))), (.int .u8), false⟩ := by kernel_rfl
theorem tk9 : tiOf Tryz.prog 9 = some ⟨false, 1, 16, (some (.str [])), .str, false⟩ := by kernel_rfl
theorem tk22 : tiOf Tryz.prog 22 = some ⟨false, 1, 24, (some .nils), (.slice 5), false⟩ := by kernel_rfl
theorem tk24 : tiOf Tryz.prog 24 = some ⟨false, 1, 24, (some .nils), (.slice 52), false⟩ := by kernel_rfl
theorem tk26 : tiOf Tryz.prog 26 = some ⟨true, 1, 24, (some (.agg [.nils])), (.struct [(0, 24)]), false⟩ := by kernel_rfl
theorem tk31 : tiOf Tryz.prog 31 = some ⟨false, 1, 24, (some .nils), (.slice 9), false⟩ := by kernel_rfl
theorem tk35 : tiOf Tryz.prog 35 = some ⟨false, 1, 24, (some .nils), (.slice 113), false⟩ := by kernel_rfl
theorem tk36 : tiOf Tryz.prog 36 = some ⟨false, 1, 24, (some .nils), (.slice 72), false⟩ := by kernel_rfl
theorem tk38 : tiOf Tryz.prog 38 = some ⟨true, 2, 48, (some (.agg [.nils, .nils])), (.struct [(0, 35), (1, 36)]), false⟩ := by kernel_rfl
theorem tk48 : tiOf Tryz.prog 48 = some ⟨false, 1, 24, (some .nils), (.slice 4), false⟩ := by kernel_rfl
theorem tk50 : tiOf Tryz.prog 50 = some ⟨false, 1, 24, (some .nils), (.slice 62), false⟩ := by kernel_rfl
theorem tk52 : tiOf Tryz.prog 52 = some ⟨true, 3, 64, (some (.agg [(.str []), .nils, .nils])), (.struct [(0, 9), (1, 31), (2, 50)]), false⟩ := by kernel_rfl
theorem tk54 : tiOf Tryz.prog 54 = some ⟨false, 1, 24, (some .nils), (.slice 3), false⟩ := by kernel_rfl
theorem tk58 : tiOf Tryz.prog 58 = some ⟨false, 1, 24, (some .nils), (.slice 48), false⟩ := by kernel_rfl
theorem tk60 : tiOf Tryz.prog 60 = some ⟨false, 1, 24, (some .nils), (.slice 86), false⟩ := by kernel_rfl
theorem tk62 : tiOf Tryz.prog 62 = some ⟨true, 1, 24, (some (.agg [.nils])), (.struct [(0, 60)]), false⟩ := by kernel_rfl
theorem tk63 : tiOf Tryz.prog 63 = some ⟨false, 1, 24, (some .nils), (.slice 74), false⟩ := by kernel_rfl
theorem tk68 : tiOf Tryz.prog 68 = some ⟨true, 5, 72, (some (.agg [.nils, (.int .i64 (.ofNat 0)), (.int .i64 (.ofNat 0)), (.bool false), .nils])), (.struct [(0, 63), (1, 3), (2, 3), (3, 4), (4, 35)]), false⟩ := by kernel_rfl
theorem tk72 : tiOf Tryz.prog 72 = some ⟨true, 3, 48, (some (.agg [(.str []), .nils, (.int .i64 (.ofNat 0))])), (.struct [(0, 9), (1, 31), (2, 3)]), false⟩ := by kernel_rfl
theorem tk74 : tiOf Tryz.prog 74 = some ⟨true, 2, 24, (some (.agg [(.int .i64 (.ofNat 0)), (.str [])])), (.struct [(0, 3), (1, 9)]), true⟩ := by kernel_rfl
theorem tk80 : tiOf Tryz.prog 80 = some ⟨true, 3, 40, (some (.agg [.nils, (.int .i64 (.ofNat 0)), (.int .i64 (.ofNat 0))])), (.struct [(0, 22), (1, 3), (2, 3)]), false⟩ := by kernel_rfl
theorem tk84 : tiOf Tryz.prog 84 = some ⟨false, 1, 24, (some .nils), (.slice 89), false⟩ := by kernel_rfl
theorem tk86 : tiOf Tryz.prog 86 = some ⟨true, 4, 64, (some (.agg [(.int .i64 (.ofNat 0)), (.str []), .nils, (.str [])])), (.struct [(0, 3), (1, 9), (2, 84), (3, 9)]), false⟩ := by kernel_rfl
theorem tk87 : tiOf Tryz.prog 87 = some ⟨false, 1, 24, (some .nils), (.slice 130), false⟩ := by kernel_rfl
theorem tk89 : tiOf Tryz.prog 89 = some ⟨true, 1, 24, (some (.agg [.nils])), (.struct [(0, 87)]), false⟩ := by kernel_rfl
theorem tk98 : tiOf Tryz.prog 98 = some ⟨false, 1, 24, (some .nils), (.slice 104), false⟩ := by kernel_rfl
theorem tk100 : tiOf Tryz.prog 100 = some ⟨true, 1, 24, (some (.agg [.nils])), (.struct [(0, 98)]), false⟩ := by kernel_rfl
theorem tk104 : tiOf Tryz.prog 104 = some ⟨true, 5, 88, (some (.agg [(.int .i64 (.ofNat 0)), .nils, (.int .i64 (.ofNat 0)), .nils, .nils])), (.struct [(0, 3), (1, 54), (2, 3), (3, 54), (4, 54)]), false⟩ := by kernel_rfl
theorem tk113 : tiOf Tryz.prog 113 = some ⟨true, 5, 88, (some (.agg [(.int .i64 (.ofNat 0)), (.str []), .nils, (.str []), .nils])), (.struct [(0, 3), (1, 9), (2, 84), (3, 9), (4, 54)]), false⟩ := by kernel_rfl
theorem tk117 : tiOf Tryz.prog 117 = some ⟨false, 1, 24, (some .nils), (.slice 124), false⟩ := by kernel_rfl
theorem tk119 : tiOf Tryz.prog 119 = some ⟨true, 5, 104, (some (.agg [.nils, .nils, .nils, .nils, (.int .i64 (.ofNat 0))])), (.struct [(0, 38), (2, 26), (3, 117), (4, 3)]), false⟩ := by kernel_rfl
theorem tk124 : tiOf Tryz.prog 124 = some ⟨true, 3, 40, (some (.agg [(.int .i64 (.ofNat 0)), (.int .i64 (.ofNat 0)), .nils])), (.struct [(0, 3), (1, 3), (2, 31)]), false⟩ := by kernel_rfl
theorem tk130 : tiOf Tryz.prog 130 = some ⟨true, 4, 56, (some (.agg [(.int .i64 (.ofNat 0)), (.int .i64 (.ofNat 0)), (.str []), .nils])), (.struct [(0, 3), (1, 3), (2, 9), (3, 54)]), false⟩ := by kernel_rfl
theorem tk139 : tiOf Tryz.prog 139 = some ⟨false, 1, 8, (some .nilm), (.map 9 3), false⟩ := by kernel_rfl
theorem tk141 : tiOf Tryz.prog 141 = some ⟨true, 7, 112, (some (.agg [.nils, (.str []), .nils, (.int .i64 (.ofNat 0)), (.bool false), .nils, .nilm])), (.struct [(0, 26), (1, 9), (2, 100), (3, 3), (4, 4), (5, 54), (6, 139)]), false⟩ := by kernel_rfl
theorem tk148 : tiOf Tryz.prog 148 = some ⟨false, 1, 8, (some (.int .u64 (.ofNat 0))), (.int .u64), false⟩ := by kernel_rfl
theorem tk167 : tiOf Tryz.prog 167 = some ⟨false, 1, 24, (some .nils), (.slice 202), false⟩ := by kernel_rfl
theorem tk172 : tiOf Tryz.prog 172 = some ⟨false, 1, 8, (some (.int .i64 (.ofNat 0))), (.int .i64), false⟩ := by kernel_rfl
theorem tk180 : tiOf Tryz.prog 180 = some ⟨false, 1, 4, (some (.int .u32 (.ofNat 0))), (.int .u32), false⟩ := by kernel_rfl
theorem tk182 : tiOf Tryz.prog 182 = some ⟨false, 1, 8, (some (.int .u64 (.ofNat 0))), (.int .u64), false⟩ := by kernel_rfl
theorem tk202 : tiOf Tryz.prog 202 = some ⟨true, 2, 24, (some (.agg [(.str []), (.int .i64 (.ofNat 0))])), (.struct [(0, 9), (1, 3)]), true⟩ := by kernel_rfl
theorem tk254 : tiOf Tryz.prog 254 = some ⟨true, 2, 32, (some (.agg [.nilp, .nils])), (.struct [(0, 252), (1, 22)]), false⟩ := by kernel_rfl
theorem tk271 : tiOf Tryz.prog 271 = some ⟨true, 24, 24, (some (.agg [(.int .u8 (.ofNat 0)), (.int .u8 (.ofNat 0)), (.int .u8 (.ofNat 0)), (.int .u8 (.ofNat 0)), (.int .u8 (.ofNat 0)), (.int .u8 (.ofNat 0)), (.int .u8 (.ofNat 0)), (.int .u8 (.ofNat 0)), (.int .u8 (.ofNat 0)), (.int .u8 (.ofNat 0)), (.int .u8 (.ofNat 0)), (.int .u8 (.ofNat 0)), (.int .u8 (.ofNat 0)), (.int .u8 (.ofNat 0)), (.int .u8 (.ofNat 0)), (.int .u8 (.ofNat 0)), (.int .u8 (.ofNat 0)), (.int .u8 (.ofNat 0)), (.int .u8 (.ofNat 0)), (.int .u8 (.ofNat 0)), (.int .u8 (.ofNat 0)), (.int .u8 (.ofNat 0)), (.int .u8 (.ofNat 0)), (.int .u8 (.ofNat 0))])), (.array 24 5), false⟩ := by kernel_rfl
def AllQ {α : Type} (Q : α → Prop) : List α → Prop
 | [] => True
 | p :: r => Q p ∧ AllQ Q r
theorem AllQ.of {α : Type} {Q : α → Prop} : ∀ {l : List α}, AllQ Q l → ∀ p ∈ l, Q p
 | p :: r, h, q, hq => by
  rcases List.mem_cons.1 hq with rfl | hq
  ·exact h.1
  ·exact AllQ.of h.2 q hq
theorem ty_all : AllQ (fun p => tiOf Tryz.prog p.1 = some p.2) tyL := ⟨tk2, tk3, tk4, tk5, tk9, tk22, tk24, tk26, tk31, tk35, tk36, tk38, tk48, tk50, tk52, tk54, tk58, tk60, tk62, tk63, tk68, tk72, tk74, tk80, tk84, tk86, tk87, tk89, tk98, tk100, tk104, tk113, tk117, tk119, tk124, tk130, tk139, tk141, tk148, tk167, tk172, tk180, tk182, tk202, tk254, tk271, trivial⟩
theorem ty_ok : ∀ t x, S.ty t = some x → tiOf S.P t = some x := fun t x h => ty_all.of (t, x) (tyF_mem tyL t x h)
theorem extG_cases {f : FuncId} {g : List T → Option T} (h : extG f = some g) : (f = 157 ∧ g = idxG) := by
 unfold extG at h
 split at h
 ·rename_i hb; cases h; exact ⟨Nat.eq_of_beq_eq_true hb, rfl⟩
 cases h
/-- What strings.IndexByte calls, met by the law of the model's own entry. -/
theorem idx157 (s : ByteArray) (c : Int) (w : World) : Calls Tryz.prog 157 #[.string s, .int .u8 c] w fun e w' => e = .returned (.int .i64 (Lib.indexByte s.data.toList c.toNat.toUInt8)) ∧ w' = w := by
 go_enter Tryz.func157, Tryz.ntmps157
 go_wp2
 rw [run_callFunc_extern Tryz.func187 (by kernel_rfl) (by kernel_rfl) (by kernel_rfl) (e := Extern.BytealgIndexByte.indexByte) (by kernel_rfl), Lib.run_indexByteString]
 simp only [Result.andThen]
 rw [Oper.upon_value]
 go_wp2
 go_ret
 exact ⟨rfl, rfl⟩
theorem ok157 : GOk Tryz.prog 157 idxG := idx_ok idx157
theorem ann_all : AllQ (fun p => ∃ fn c, S.P.funcs[p.1]? = some fn ∧ fn.body = some c ∧ okCode S.ty S.pf p.2 fn.ntmps c = true ∧ (fn.name == "runtime.NumGoroutine") = false) annL := ⟨k5, k7, k8, k9, k10, k12, k13, k16, k17, k18, k19, k20, k21, k22, k23, k24, k25, k27, k28, k29, k30, k31, k32, k33, k34, k38, k40, k41, k42, k43, k44, k45, k46, k47, k48, k49, k50, k51, k52, k53, k54, k55, k56, k57, k58, k59, k60, k61, k62, k63, k64, k65, k66, k67, k68, k70, k72, k73, k74, k75, k76, k77, k78, k79, k80, k81, k82, k83, k84, k85, k86, k87, k88, k89, k90, k91, k92, k93, k94, k95, k96, k97, k98, k99, k100, k101, k102, k103, k104, k105, k106, k107, k108, k109, k110, k111, k112, k113, k114, k117, k120, k122, k124, k125, k126, k127, k128, k129, k130, k131, k132, k133, k134, k135, k136, k137, k138, k139, k140, k141, k142, k143, k144, k145, k146, k147, k152, k153, k154, k155, k156, k158, k159, k160, k161, k162, k163, k164, k165, k170, k176, k182, k183, k184, k185, k186, k188, k189, k190, k191, k192, k193, k203, k205, k206, k207, k208, k214, k217, k226, k230, k231, k235, k237, k243, k3, k4, k6, k14, k15, k35, k36, k37, k69, k39, k71, k11, k26, trivial⟩
theorem sysOk : SysOk S where
 ty := ty_ok
 mixed := by kernel_rfl
 fn := fun f A h => ann_all.of (f, A) (annF_mem _ _ _ (show annF annL f = some A from h))
 ext := fun f args σ v σ' _ h => by
  have h : extF f args σ = some (v, σ') := h
  unfold extF at h
  split at h
  ·rename_i gg hg
   have hf := extG_cases hg
   rcases hf with ⟨rfl, rfl⟩
   ·exact ⟨⟨_, Tryz.func157, rfl, by kernel_rfl⟩, fun g w cargs I hr => ext_sound ok157 h g w cargs I hr⟩
  ·cases h
 extPure := fun f args σ v σ' hp ha h => by
  have h : extF f args σ = some (v, σ') := h
  unfold extF at h
  split at h
  ·rename_i gg hg
   obtain ⟨h1, h2⟩ := gExt_pure ha h
   refine ⟨h1, fun σ2 => ?_⟩
   show extF f args σ2 = _
   unfold extF
   rw [hg]
   exact h2 σ2
  ·cases h
end X
