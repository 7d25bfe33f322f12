/- The seat's table of fast texts, and that the system stands. -/
import Derived.Test.YthfjcnjdcljhmaaGreatDoorTnc0
import Derived.Test.YthfjcnjdcljhmaaGreatDoorTnc1
import Derived.Test.YthfjcnjdcljhmaaGreatDoorTnk0
import Derived.Test.YthfjcnjdcljhmaaGreatDoorTnk1
import Derived.Test.YthfjcnjdcljhmaaGreatDoorTnk2
import Derived.Test.YthfjcnjdcljhmaaGreatDoorTnk3
import Derived.Test.YthfjcnjdcljhmaaGreatDoorTnk4
import Derived.Test.YthfjcnjdcljhmaaGreatDoorTnk5
import Derived.Lib.Strings
import Derived.Lib.Slices
import Derived.Lib.Walk
open Go Go.V Go.Proofs
namespace X
set_option maxRecDepth 100000
set_option maxHeartbeats 4000000
set_option linter.unusedSimpArgs false
set_option linter.unusedVariables false
noncomputable def tab : Tab := { st := .mk (.mk x19 x20 x21 x22 x28 x29 x38 x44 x45 x46 x47 x48 x49 x51 x52 x53) (.mk x54 x55 x56 x57 x58 x59 x71 x72 x73 x74 x75 x76 x78 x79 x80 x84) (.mk x85 x86 x87 x88 x89 x90 x91 x92 x93 x94 x95 x96 x97 x101 x110 x111) (.mk x112 x113 x114 x115 x116 x117 x118 x119 x120 x121 x123 x125 x132 x133 x134 x135) (.mk x136 x137 x138 x139 x140 x141 x142 x143 x144 x145 x146 x148 x161 x162 x163 x164) (.mk x165 x166 x167 x168 x169 x170 x171 x172 x173 x182 x185 x186 x187 x188 x189 x190) (.mk x191 x192 x193 x194 x199 x209 x210 x211 x212 x213 x214 x229 x234 x235 x236 x237) (.mk x238 x239 x240 x241 x242 x243 x244 x245 x251 x264 x265 x266 x267 x268 x278 x279) (.mk x280 x281 x282 x287 x291 x292 x298 x299 x300 x301 x314 x318 x324 x328 x341 x342) (.mk x348 .no .no .no .no .no .no .no .no .no .no .no .no .no .no .no) (.mk .no .no .no .no .no .no .no .no .no .no .no .no .no .no .no .no) (.mk .no .no .no .no .no .no .no .no .no .no .no .no .no .no .no .no) (.mk .no .no .no .no .no .no .no .no .no .no .no .no .no .no .no .no) (.mk .no .no .no .no .no .no .no .no .no .no .no .no .no .no .no .no) (.mk .no .no .no .no .no .no .no .no .no .no .no .no .no .no .no .no) (.mk .no .no .no .no .no .no .no .no .no .no .no .no .no .no .no .no), dyn := [x112, x115, x242, x244] }
theorem tab_ok : tab.All (Entry ixf S) := by
  constructor
  · intro x hx e he
    simp only [tab, F16.toList, List.mem_cons, List.not_mem_nil, or_false] at hx
    rcases hx with rfl | rfl | rfl | rfl | rfl | rfl | rfl | rfl | rfl | rfl | rfl | rfl | rfl | rfl | rfl | rfl
    · simp only [F16.toList, List.mem_cons, List.not_mem_nil, or_false] at he
      rcases he with rfl | rfl | rfl | rfl | rfl | rfl | rfl | rfl | rfl | rfl | rfl | rfl | rfl | rfl | rfl | rfl
      · exact e19
      · exact e20
      · exact e21
      · exact e22
      · exact e28
      · exact e29
      · exact e38
      · exact e44
      · exact e45
      · exact e46
      · exact e47
      · exact e48
      · exact e49
      · exact e51
      · exact e52
      · exact e53
    · simp only [F16.toList, List.mem_cons, List.not_mem_nil, or_false] at he
      rcases he with rfl | rfl | rfl | rfl | rfl | rfl | rfl | rfl | rfl | rfl | rfl | rfl | rfl | rfl | rfl | rfl
      · exact e54
      · exact e55
      · exact e56
      · exact e57
      · exact e58
      · exact e59
      · exact e71
      · exact e72
      · exact e73
      · exact e74
      · exact e75
      · exact e76
      · exact e78
      · exact e79
      · exact e80
      · exact e84
    · simp only [F16.toList, List.mem_cons, List.not_mem_nil, or_false] at he
      rcases he with rfl | rfl | rfl | rfl | rfl | rfl | rfl | rfl | rfl | rfl | rfl | rfl | rfl | rfl | rfl | rfl
      · exact e85
      · exact e86
      · exact e87
      · exact e88
      · exact e89
      · exact e90
      · exact e91
      · exact e92
      · exact e93
      · exact e94
      · exact e95
      · exact e96
      · exact e97
      · exact e101
      · exact e110
      · exact e111
    · simp only [F16.toList, List.mem_cons, List.not_mem_nil, or_false] at he
      rcases he with rfl | rfl | rfl | rfl | rfl | rfl | rfl | rfl | rfl | rfl | rfl | rfl | rfl | rfl | rfl | rfl
      · exact e112
      · exact e113
      · exact e114
      · exact e115
      · exact e116
      · exact e117
      · exact e118
      · exact e119
      · exact e120
      · exact e121
      · exact e123
      · exact e125
      · exact e132
      · exact e133
      · exact e134
      · exact e135
    · simp only [F16.toList, List.mem_cons, List.not_mem_nil, or_false] at he
      rcases he with rfl | rfl | rfl | rfl | rfl | rfl | rfl | rfl | rfl | rfl | rfl | rfl | rfl | rfl | rfl | rfl
      · exact e136
      · exact e137
      · exact e138
      · exact e139
      · exact e140
      · exact e141
      · exact e142
      · exact e143
      · exact e144
      · exact e145
      · exact e146
      · exact e148
      · exact e161
      · exact e162
      · exact e163
      · exact e164
    · simp only [F16.toList, List.mem_cons, List.not_mem_nil, or_false] at he
      rcases he with rfl | rfl | rfl | rfl | rfl | rfl | rfl | rfl | rfl | rfl | rfl | rfl | rfl | rfl | rfl | rfl
      · exact e165
      · exact e166
      · exact e167
      · exact e168
      · exact e169
      · exact e170
      · exact e171
      · exact e172
      · exact e173
      · exact e182
      · exact e185
      · exact e186
      · exact e187
      · exact e188
      · exact e189
      · exact e190
    · simp only [F16.toList, List.mem_cons, List.not_mem_nil, or_false] at he
      rcases he with rfl | rfl | rfl | rfl | rfl | rfl | rfl | rfl | rfl | rfl | rfl | rfl | rfl | rfl | rfl | rfl
      · exact e191
      · exact e192
      · exact e193
      · exact e194
      · exact e199
      · exact e209
      · exact e210
      · exact e211
      · exact e212
      · exact e213
      · exact e214
      · exact e229
      · exact e234
      · exact e235
      · exact e236
      · exact e237
    · simp only [F16.toList, List.mem_cons, List.not_mem_nil, or_false] at he
      rcases he with rfl | rfl | rfl | rfl | rfl | rfl | rfl | rfl | rfl | rfl | rfl | rfl | rfl | rfl | rfl | rfl
      · exact e238
      · exact e239
      · exact e240
      · exact e241
      · exact e242
      · exact e243
      · exact e244
      · exact e245
      · exact e251
      · exact e264
      · exact e265
      · exact e266
      · exact e267
      · exact e268
      · exact e278
      · exact e279
    · simp only [F16.toList, List.mem_cons, List.not_mem_nil, or_false] at he
      rcases he with rfl | rfl | rfl | rfl | rfl | rfl | rfl | rfl | rfl | rfl | rfl | rfl | rfl | rfl | rfl | rfl
      · exact e280
      · exact e281
      · exact e282
      · exact e287
      · exact e291
      · exact e292
      · exact e298
      · exact e299
      · exact e300
      · exact e301
      · exact e314
      · exact e318
      · exact e324
      · exact e328
      · exact e341
      · exact e342
    · simp only [F16.toList, List.mem_cons, List.not_mem_nil, or_false] at he
      rcases he with rfl | rfl | rfl | rfl | rfl | rfl | rfl | rfl | rfl | rfl | rfl | rfl | rfl | rfl | rfl | rfl
      · exact e348
      · exact trivial
      · exact trivial
      · exact trivial
      · exact trivial
      · exact trivial
      · exact trivial
      · exact trivial
      · exact trivial
      · exact trivial
      · exact trivial
      · exact trivial
      · exact trivial
      · exact trivial
      · exact trivial
      · exact trivial
    · simp only [F16.toList, List.mem_cons, List.not_mem_nil, or_false] at he
      rcases he with rfl | rfl | rfl | rfl | rfl | rfl | rfl | rfl | rfl | rfl | rfl | rfl | rfl | rfl | rfl | rfl
      · exact trivial
      · exact trivial
      · exact trivial
      · exact trivial
      · exact trivial
      · exact trivial
      · exact trivial
      · exact trivial
      · exact trivial
      · exact trivial
      · exact trivial
      · exact trivial
      · exact trivial
      · exact trivial
      · exact trivial
      · exact trivial
    · simp only [F16.toList, List.mem_cons, List.not_mem_nil, or_false] at he
      rcases he with rfl | rfl | rfl | rfl | rfl | rfl | rfl | rfl | rfl | rfl | rfl | rfl | rfl | rfl | rfl | rfl
      · exact trivial
      · exact trivial
      · exact trivial
      · exact trivial
      · exact trivial
      · exact trivial
      · exact trivial
      · exact trivial
      · exact trivial
      · exact trivial
      · exact trivial
      · exact trivial
      · exact trivial
      · exact trivial
      · exact trivial
      · exact trivial
    · simp only [F16.toList, List.mem_cons, List.not_mem_nil, or_false] at he
      rcases he with rfl | rfl | rfl | rfl | rfl | rfl | rfl | rfl | rfl | rfl | rfl | rfl | rfl | rfl | rfl | rfl
      · exact trivial
      · exact trivial
      · exact trivial
      · exact trivial
      · exact trivial
      · exact trivial
      · exact trivial
      · exact trivial
      · exact trivial
      · exact trivial
      · exact trivial
      · exact trivial
      · exact trivial
      · exact trivial
      · exact trivial
      · exact trivial
    · simp only [F16.toList, List.mem_cons, List.not_mem_nil, or_false] at he
      rcases he with rfl | rfl | rfl | rfl | rfl | rfl | rfl | rfl | rfl | rfl | rfl | rfl | rfl | rfl | rfl | rfl
      · exact trivial
      · exact trivial
      · exact trivial
      · exact trivial
      · exact trivial
      · exact trivial
      · exact trivial
      · exact trivial
      · exact trivial
      · exact trivial
      · exact trivial
      · exact trivial
      · exact trivial
      · exact trivial
      · exact trivial
      · exact trivial
    · simp only [F16.toList, List.mem_cons, List.not_mem_nil, or_false] at he
      rcases he with rfl | rfl | rfl | rfl | rfl | rfl | rfl | rfl | rfl | rfl | rfl | rfl | rfl | rfl | rfl | rfl
      · exact trivial
      · exact trivial
      · exact trivial
      · exact trivial
      · exact trivial
      · exact trivial
      · exact trivial
      · exact trivial
      · exact trivial
      · exact trivial
      · exact trivial
      · exact trivial
      · exact trivial
      · exact trivial
      · exact trivial
      · exact trivial
    · simp only [F16.toList, List.mem_cons, List.not_mem_nil, or_false] at he
      rcases he with rfl | rfl | rfl | rfl | rfl | rfl | rfl | rfl | rfl | rfl | rfl | rfl | rfl | rfl | rfl | rfl
      · exact trivial
      · exact trivial
      · exact trivial
      · exact trivial
      · exact trivial
      · exact trivial
      · exact trivial
      · exact trivial
      · exact trivial
      · exact trivial
      · exact trivial
      · exact trivial
      · exact trivial
      · exact trivial
      · exact trivial
      · exact trivial
  · intro e he
    simp only [tab, List.mem_cons, List.not_mem_nil, or_false] at he
    rcases he with rfl | rfl | rfl | rfl
    · exact e112
    · exact e115
    · exact e242
    · exact e244
theorem tyF_mem (l : List (Nat × TI)) (t : TypeId) (x : TI) (h : tyF l t = some x) : (t, x) ∈ l := by
  induction l with
  | nil => simp [tyF] at h
  | cons p r ih =>
    obtain ⟨g, B⟩ := p
    simp only [tyF] at h
    split at h
    · rename_i e; cases h; rw [Nat.eq_of_beq_eq_true e]; simp
    · simp [ih h]
theorem annF_mem (l : List (Nat × Ann)) (f : FuncId) (A : Ann) (h : annF l f = some A) : (f, A) ∈ l := by
  induction l with
  | nil => simp [annF] at h
  | cons p r ih =>
    obtain ⟨g, B⟩ := p
    simp only [annF] at h
    split at h
    · rename_i e; cases h; rw [Nat.eq_of_beq_eq_true e]; simp
    · simp [ih h]
theorem tk2 : tiOf Tryz.prog 2 = some { agg := false, size := 1, bytes := 8, zero := (some (.int .i64 (.ofNat 0))), shape := (.int .i64), eqs := false } := by kernel_rfl
theorem tk3 : tiOf Tryz.prog 3 = some { agg := false, size := 1, bytes := 8, zero := (some (.int .i64 (.ofNat 0))), shape := (.int .i64), eqs := false } := by kernel_rfl
theorem tk4 : tiOf Tryz.prog 4 = some { agg := false, size := 1, bytes := 1, zero := (some (.bool false)), shape := .bool, eqs := false } := by kernel_rfl
theorem tk5 : tiOf Tryz.prog 5 = some { agg := false, size := 1, bytes := 1, zero := (some (.int .u8 (.ofNat 0))), shape := (.int .u8), eqs := false } := by kernel_rfl
theorem tk9 : tiOf Tryz.prog 9 = some { agg := false, size := 1, bytes := 16, zero := (some (.str [])), shape := .str, eqs := false } := by kernel_rfl
theorem tk22 : tiOf Tryz.prog 22 = some { agg := false, size := 1, bytes := 24, zero := (some .nils), shape := (.slice 5), eqs := false } := by kernel_rfl
theorem tk24 : tiOf Tryz.prog 24 = some { agg := false, size := 1, bytes := 24, zero := (some .nils), shape := (.slice 3), eqs := false } := by kernel_rfl
theorem tk26 : tiOf Tryz.prog 26 = some { agg := false, size := 1, bytes := 24, zero := (some .nils), shape := (.slice 71), eqs := false } := by kernel_rfl
theorem tk28 : tiOf Tryz.prog 28 = some { agg := true, size := 1, bytes := 24, zero := (some (.agg [.nils])), shape := (.struct [(0, 26)]), eqs := false } := by kernel_rfl
theorem tk30 : tiOf Tryz.prog 30 = some { agg := false, size := 1, bytes := 24, zero := (some .nils), shape := (.slice 9), eqs := false } := by kernel_rfl
theorem tk45 : tiOf Tryz.prog 45 = some { agg := false, size := 1, bytes := 24, zero := (some .nils), shape := (.slice 154), eqs := false } := by kernel_rfl
theorem tk46 : tiOf Tryz.prog 46 = some { agg := false, size := 1, bytes := 24, zero := (some .nils), shape := (.slice 96), eqs := false } := by kernel_rfl
theorem tk48 : tiOf Tryz.prog 48 = some { agg := true, size := 2, bytes := 48, zero := (some (.agg [.nils, .nils])), shape := (.struct [(0, 45), (1, 46)]), eqs := false } := by kernel_rfl
theorem tk69 : tiOf Tryz.prog 69 = some { agg := false, size := 1, bytes := 24, zero := (some .nils), shape := (.slice 133), eqs := false } := by kernel_rfl
theorem tk71 : tiOf Tryz.prog 71 = some { agg := true, size := 3, bytes := 64, zero := (some (.agg [(.str []), .nils, .nils])), shape := (.struct [(0, 9), (1, 30), (2, 69)]), eqs := false } := by kernel_rfl
theorem tk84 : tiOf Tryz.prog 84 = some { agg := false, size := 1, bytes := 24, zero := (some .nils), shape := (.slice 98), eqs := false } := by kernel_rfl
theorem tk89 : tiOf Tryz.prog 89 = some { agg := true, size := 4, bytes := 80, zero := (some (.agg [.nils, .nils, .nils, (.bool false)])), shape := (.struct [(0, 84), (1, 48), (3, 4)]), eqs := false } := by kernel_rfl
theorem tk93 : tiOf Tryz.prog 93 = some { agg := true, size := 5, bytes := 72, zero := (some (.agg [.nils, (.int .i64 (.ofNat 0)), (.int .i64 (.ofNat 0)), (.bool false), .nils])), shape := (.struct [(0, 84), (1, 3), (2, 3), (3, 4), (4, 45)]), eqs := false } := by kernel_rfl
theorem tk96 : tiOf Tryz.prog 96 = some { agg := true, size := 3, bytes := 48, zero := (some (.agg [(.str []), .nils, (.int .i64 (.ofNat 0))])), shape := (.struct [(0, 9), (1, 30), (2, 3)]), eqs := false } := by kernel_rfl
theorem tk98 : tiOf Tryz.prog 98 = some { agg := true, size := 2, bytes := 24, zero := (some (.agg [(.int .i64 (.ofNat 0)), (.str [])])), shape := (.struct [(0, 3), (1, 9)]), eqs := true } := by kernel_rfl
theorem tk131 : tiOf Tryz.prog 131 = some { agg := false, size := 1, bytes := 24, zero := (some .nils), shape := (.slice 141), eqs := false } := by kernel_rfl
theorem tk133 : tiOf Tryz.prog 133 = some { agg := true, size := 1, bytes := 24, zero := (some (.agg [.nils])), shape := (.struct [(0, 131)]), eqs := false } := by kernel_rfl
theorem tk136 : tiOf Tryz.prog 136 = some { agg := true, size := 3, bytes := 40, zero := (some (.agg [.nils, (.int .i64 (.ofNat 0)), (.int .i64 (.ofNat 0))])), shape := (.struct [(0, 22), (1, 3), (2, 3)]), eqs := false } := by kernel_rfl
theorem tk137 : tiOf Tryz.prog 137 = some { agg := false, size := 1, bytes := 8, zero := (some (.int .u64 (.ofNat 0))), shape := (.int .u64), eqs := false } := by kernel_rfl
theorem tk139 : tiOf Tryz.prog 139 = some { agg := false, size := 1, bytes := 24, zero := (some .nils), shape := (.slice 236), eqs := false } := by kernel_rfl
theorem tk141 : tiOf Tryz.prog 141 = some { agg := true, size := 4, bytes := 64, zero := (some (.agg [(.int .i64 (.ofNat 0)), (.str []), .nils, (.str [])])), shape := (.struct [(0, 3), (1, 9), (2, 139), (3, 9)]), eqs := false } := by kernel_rfl
theorem tk154 : tiOf Tryz.prog 154 = some { agg := true, size := 5, bytes := 88, zero := (some (.agg [(.int .i64 (.ofNat 0)), (.str []), .nils, (.str []), .nils])), shape := (.struct [(0, 3), (1, 9), (2, 139), (3, 9), (4, 24)]), eqs := false } := by kernel_rfl
theorem tk182 : tiOf Tryz.prog 182 = some { agg := false, size := 1, bytes := 24, zero := (some .nils), shape := (.slice 188), eqs := false } := by kernel_rfl
theorem tk184 : tiOf Tryz.prog 184 = some { agg := true, size := 5, bytes := 104, zero := (some (.agg [.nils, .nils, .nils, .nils, (.int .i64 (.ofNat 0))])), shape := (.struct [(0, 48), (2, 28), (3, 182), (4, 3)]), eqs := false } := by kernel_rfl
theorem tk188 : tiOf Tryz.prog 188 = some { agg := true, size := 3, bytes := 40, zero := (some (.agg [(.int .i64 (.ofNat 0)), (.int .i64 (.ofNat 0)), .nils])), shape := (.struct [(0, 3), (1, 3), (2, 30)]), eqs := false } := by kernel_rfl
theorem tk202 : tiOf Tryz.prog 202 = some { agg := false, size := 1, bytes := 24, zero := (some .nils), shape := (.slice 250), eqs := false } := by kernel_rfl
theorem tk204 : tiOf Tryz.prog 204 = some { agg := true, size := 4, bytes := 80, zero := (some (.agg [.nils, .nils, .nils, (.bool false)])), shape := (.struct [(0, 48), (2, 202), (3, 4)]), eqs := false } := by kernel_rfl
theorem tk234 : tiOf Tryz.prog 234 = some { agg := false, size := 1, bytes := 24, zero := (some .nils), shape := (.slice 268), eqs := false } := by kernel_rfl
theorem tk236 : tiOf Tryz.prog 236 = some { agg := true, size := 1, bytes := 24, zero := (some (.agg [.nils])), shape := (.struct [(0, 234)]), eqs := false } := by kernel_rfl
theorem tk250 : tiOf Tryz.prog 250 = some { agg := true, size := 2, bytes := 32, zero := (some (.agg [(.int .i64 (.ofNat 0)), .nils])), shape := (.struct [(0, 3), (1, 30)]), eqs := false } := by kernel_rfl
theorem tk268 : tiOf Tryz.prog 268 = some { agg := true, size := 4, bytes := 56, zero := (some (.agg [(.int .i64 (.ofNat 0)), (.int .i64 (.ofNat 0)), (.str []), .nils])), shape := (.struct [(0, 3), (1, 3), (2, 9), (3, 24)]), eqs := false } := by kernel_rfl
theorem tk271 : tiOf Tryz.prog 271 = some { agg := false, size := 1, bytes := 8, zero := (some (.int .i64 (.ofNat 0))), shape := (.int .i64), eqs := false } := by kernel_rfl
theorem tk279 : tiOf Tryz.prog 279 = some { agg := false, size := 1, bytes := 4, zero := (some (.int .u32 (.ofNat 0))), shape := (.int .u32), eqs := false } := by kernel_rfl
theorem tk281 : tiOf Tryz.prog 281 = some { agg := false, size := 1, bytes := 8, zero := (some (.int .u64 (.ofNat 0))), shape := (.int .u64), eqs := false } := by kernel_rfl
theorem tk343 : tiOf Tryz.prog 343 = some { agg := true, size := 24, bytes := 24, zero := (some (.agg [(.int .u8 (.ofNat 0)), (.int .u8 (.ofNat 0)), (.int .u8 (.ofNat 0)), (.int .u8 (.ofNat 0)), (.int .u8 (.ofNat 0)), (.int .u8 (.ofNat 0)), (.int .u8 (.ofNat 0)), (.int .u8 (.ofNat 0)), (.int .u8 (.ofNat 0)), (.int .u8 (.ofNat 0)), (.int .u8 (.ofNat 0)), (.int .u8 (.ofNat 0)), (.int .u8 (.ofNat 0)), (.int .u8 (.ofNat 0)), (.int .u8 (.ofNat 0)), (.int .u8 (.ofNat 0)), (.int .u8 (.ofNat 0)), (.int .u8 (.ofNat 0)), (.int .u8 (.ofNat 0)), (.int .u8 (.ofNat 0)), (.int .u8 (.ofNat 0)), (.int .u8 (.ofNat 0)), (.int .u8 (.ofNat 0)), (.int .u8 (.ofNat 0))])), shape := (.array 24 5), eqs := false } := by kernel_rfl
def AllQ {α : Type} (Q : α → Prop) : List α → Prop
  | [] => True
  | p :: r => Q p ∧ AllQ Q r
theorem AllQ.of {α : Type} {Q : α → Prop} : ∀ {l : List α}, AllQ Q l → ∀ p ∈ l, Q p
  | p :: r, h, q, hq => by
    rcases List.mem_cons.1 hq with rfl | hq
    · exact h.1
    · exact AllQ.of h.2 q hq
theorem ty_all : AllQ (fun p => tiOf Tryz.prog p.1 = some p.2) tyL := ⟨tk2, tk3, tk4, tk5, tk9, tk22, tk24, tk26, tk28, tk30, tk45, tk46, tk48, tk69, tk71, tk84, tk89, tk93, tk96, tk98, tk131, tk133, tk136, tk137, tk139, tk141, tk154, tk182, tk184, tk188, tk202, tk204, tk234, tk236, tk250, tk268, tk271, tk279, tk281, tk343, trivial⟩
theorem ty_ok : ∀ t x, S.ty t = some x → tiOf S.P t = some x := fun t x h => ty_all.of (t, x) (tyF_mem tyL t x h)
theorem extP_cases {f : FuncId} (h : extP f = true) : f = 185 := by
  simpa [extP, or_assoc] using h
/-- What strings.IndexByte calls, met by the law of the model's own entry. -/
theorem idx185 (s : ByteArray) (c : Int) (w : World) : Calls Tryz.prog 185 #[.string s, .int .u8 c] w fun e w' => e = .returned (.int .i64 (Lib.indexByte s.data.toList c.toNat.toUInt8)) ∧ w' = w := by
  go_enter Tryz.func185, Tryz.ntmps185
  go_wp2
  rw [run_callFunc_extern Tryz.func233 (by kernel_rfl) (by kernel_rfl) (by kernel_rfl) (e := Extern.BytealgIndexByte.indexByte) (by kernel_rfl), Lib.run_indexByteString]
  simp only [Result.andThen]
  rw [Oper.upon_value]
  go_wp2
  go_ret
  exact ⟨rfl, rfl⟩
theorem ann_all : AllQ (fun p => ∃ fn c, S.P.funcs[p.1]? = some fn ∧ fn.body = some c ∧ okCode S.ty S.pf p.2 fn.ntmps c = true ∧ (fn.name == "runtime.NumGoroutine") = false) annL := ⟨k19, k20, k21, k22, k28, k29, k38, k44, k45, k46, k47, k48, k49, k51, k52, k53, k54, k55, k56, k57, k58, k59, k71, k72, k73, k74, k75, k76, k78, k79, k80, k84, k85, k86, k87, k88, k89, k90, k91, k92, k93, k94, k95, k96, k97, k101, k110, k111, k112, k113, k114, k115, k116, k117, k118, k119, k120, k121, k123, k125, k132, k133, k134, k135, k136, k137, k138, k139, k140, k141, k142, k143, k144, k145, k146, k148, k161, k162, k163, k164, k165, k166, k167, k168, k169, k170, k171, k172, k173, k182, k186, k187, k188, k189, k190, k191, k192, k193, k194, k199, k209, k210, k211, k212, k213, k214, k229, k234, k235, k236, k237, k238, k239, k240, k241, k242, k243, k244, k245, k251, k264, k265, k266, k267, k268, k278, k279, k280, k281, k282, k287, k291, k292, k298, k299, k300, k301, k314, k318, k324, k328, k341, k342, k348, k9, k15, k16, k39, k40, k41, trivial⟩
theorem sysOk : SysOk S where
  ty := ty_ok
  mixed := by kernel_rfl
  fn := fun f A h => ann_all.of (f, A) (annF_mem _ _ _ (show annF annL f = some A from h))
  ext := fun f args σ v σ' _ h => by
    have h : extF f args σ = some (v, σ') := h
    unfold extF at h
    split at h
    · rename_i hp
      rw [Option.map_eq_some_iff] at h
      obtain ⟨u, hu, e⟩ := h
      simp only [Prod.mk.injEq] at e
      obtain ⟨rfl, rfl⟩ := e
      have hf := extP_cases hp
      rcases hf with rfl
      · exact ⟨⟨_, Tryz.func185, rfl, by kernel_rfl⟩, fun g w cargs I hr => idx_ext idx185 hu g w cargs I hr⟩
    · cases h
  extPure := fun f args σ v σ' hp _ h => by
    have h : extF f args σ = some (v, σ') := h
    have hp : extP f = true := hp
    unfold extF at h
    rw [hp] at h
    simp only [Option.map_eq_some_iff, Prod.mk.injEq] at h
    obtain ⟨u, hu, rfl, rfl⟩ := h
    refine ⟨rfl, fun σ2 => ?_⟩
    show extF f args σ2 = _
    unfold extF
    rw [hp]
    simp only [hu, Option.map_some]
end X
