/- The seat's table of fast texts, and that the system stands. -/
import Derived.Test.YtognnaobhjaoeaaGreatDoorTgc0
import Derived.Test.YtognnaobhjaoeaaGreatDoorTgc1
import Derived.Test.YtognnaobhjaoeaaGreatDoorTgk0
import Derived.Test.YtognnaobhjaoeaaGreatDoorTgk1
import Derived.Test.YtognnaobhjaoeaaGreatDoorTgk2
import Derived.Lib.Strings
import Derived.Lib.Slices
import Derived.Lib.Walk
import Derived.Test.YtognnaobhjaoeaaGreatDoorTgJoin
open Go Go.V Go.Proofs
namespace X
set_option maxRecDepth 100000
set_option maxHeartbeats 4000000
set_option linter.unusedSimpArgs false
set_option linter.unusedVariables false
noncomputable def tab : Tab := { st := .mk (.mk x8 x10 x13 x17 x18 x21 x22 x23 x24 x25 x26 x27 x28 x29 x30 x31) (.mk x32 x33 x38 x39 x40 x41 x43 x44 x45 x46 x47 x48 x49 x50 x51 x52) (.mk x53 x54 x55 x56 x57 x58 x59 x60 x64 x67 x68 x69 x70 x71 x72 x73) (.mk x74 x75 x77 x78 x79 x81 x82 x83 x84 x85 x86 x92 x93 x95 x98 x99) (.mk x100 x101 x103 x104 x105 x106 x107 x108 x109 x112 x113 x115 x116 x129 x133 x134) (.mk x135 x136 x137 x139 x140 x141 x142 x143 x146 x147 x149 x150 x151 x152 x164 x165) (.mk x166 x167 x168 x169 x170 x171 x176 x180 x186 x189 x198 x199 x200 x201 x202 x205) (.mk x209 x214 x215 x216 x224 x229 .no .no .no .no .no .no .no .no .no .no) (.mk .no .no .no .no .no .no .no .no .no .no .no .no .no .no .no .no) (.mk .no .no .no .no .no .no .no .no .no .no .no .no .no .no .no .no) (.mk .no .no .no .no .no .no .no .no .no .no .no .no .no .no .no .no) (.mk .no .no .no .no .no .no .no .no .no .no .no .no .no .no .no .no) (.mk .no .no .no .no .no .no .no .no .no .no .no .no .no .no .no .no) (.mk .no .no .no .no .no .no .no .no .no .no .no .no .no .no .no .no) (.mk .no .no .no .no .no .no .no .no .no .no .no .no .no .no .no .no) (.mk .no .no .no .no .no .no .no .no .no .no .no .no .no .no .no .no), dyn := [x41, x44] }
theorem tab_ok : tab.All (Entry ixf S) := by
  constructor
  · intro x hx e he
    simp only [tab, F16.toList, List.mem_cons, List.not_mem_nil, or_false] at hx
    rcases hx with rfl | rfl | rfl | rfl | rfl | rfl | rfl | rfl | rfl | rfl | rfl | rfl | rfl | rfl | rfl | rfl
    · simp only [F16.toList, List.mem_cons, List.not_mem_nil, or_false] at he
      rcases he with rfl | rfl | rfl | rfl | rfl | rfl | rfl | rfl | rfl | rfl | rfl | rfl | rfl | rfl | rfl | rfl
      · exact e8
      · exact e10
      · exact e13
      · exact e17
      · exact e18
      · exact e21
      · exact e22
      · exact e23
      · exact e24
      · exact e25
      · exact e26
      · exact e27
      · exact e28
      · exact e29
      · exact e30
      · exact e31
    · simp only [F16.toList, List.mem_cons, List.not_mem_nil, or_false] at he
      rcases he with rfl | rfl | rfl | rfl | rfl | rfl | rfl | rfl | rfl | rfl | rfl | rfl | rfl | rfl | rfl | rfl
      · exact e32
      · exact e33
      · exact e38
      · exact e39
      · exact e40
      · exact e41
      · exact e43
      · exact e44
      · exact e45
      · exact e46
      · exact e47
      · exact e48
      · exact e49
      · exact e50
      · exact e51
      · exact e52
    · simp only [F16.toList, List.mem_cons, List.not_mem_nil, or_false] at he
      rcases he with rfl | rfl | rfl | rfl | rfl | rfl | rfl | rfl | rfl | rfl | rfl | rfl | rfl | rfl | rfl | rfl
      · exact e53
      · exact e54
      · exact e55
      · exact e56
      · exact e57
      · exact e58
      · exact e59
      · exact e60
      · exact e64
      · exact e67
      · exact e68
      · exact e69
      · exact e70
      · exact e71
      · exact e72
      · exact e73
    · simp only [F16.toList, List.mem_cons, List.not_mem_nil, or_false] at he
      rcases he with rfl | rfl | rfl | rfl | rfl | rfl | rfl | rfl | rfl | rfl | rfl | rfl | rfl | rfl | rfl | rfl
      · exact e74
      · exact e75
      · exact e77
      · exact e78
      · exact e79
      · exact e81
      · exact e82
      · exact e83
      · exact e84
      · exact e85
      · exact e86
      · exact e92
      · exact e93
      · exact e95
      · exact e98
      · exact e99
    · simp only [F16.toList, List.mem_cons, List.not_mem_nil, or_false] at he
      rcases he with rfl | rfl | rfl | rfl | rfl | rfl | rfl | rfl | rfl | rfl | rfl | rfl | rfl | rfl | rfl | rfl
      · exact e100
      · exact e101
      · exact e103
      · exact e104
      · exact e105
      · exact e106
      · exact e107
      · exact e108
      · exact e109
      · exact e112
      · exact e113
      · exact e115
      · exact e116
      · exact e129
      · exact e133
      · exact e134
    · simp only [F16.toList, List.mem_cons, List.not_mem_nil, or_false] at he
      rcases he with rfl | rfl | rfl | rfl | rfl | rfl | rfl | rfl | rfl | rfl | rfl | rfl | rfl | rfl | rfl | rfl
      · exact e135
      · exact e136
      · exact e137
      · exact e139
      · exact e140
      · exact e141
      · exact e142
      · exact e143
      · exact e146
      · exact e147
      · exact e149
      · exact e150
      · exact e151
      · exact e152
      · exact e164
      · exact e165
    · simp only [F16.toList, List.mem_cons, List.not_mem_nil, or_false] at he
      rcases he with rfl | rfl | rfl | rfl | rfl | rfl | rfl | rfl | rfl | rfl | rfl | rfl | rfl | rfl | rfl | rfl
      · exact e166
      · exact e167
      · exact e168
      · exact e169
      · exact e170
      · exact e171
      · exact e176
      · exact e180
      · exact e186
      · exact e189
      · exact e198
      · exact e199
      · exact e200
      · exact e201
      · exact e202
      · exact e205
    · simp only [F16.toList, List.mem_cons, List.not_mem_nil, or_false] at he
      rcases he with rfl | rfl | rfl | rfl | rfl | rfl | rfl | rfl | rfl | rfl | rfl | rfl | rfl | rfl | rfl | rfl
      · exact e209
      · exact e214
      · exact e215
      · exact e216
      · exact e224
      · exact e229
      · exact trivial
      · exact trivial
      · exact trivial
      · exact trivial
      · exact trivial
      · exact trivial
      · exact trivial
      · exact trivial
      · exact trivial
      · exact trivial
    · simp only [F16.toList, List.mem_cons, List.not_mem_nil, or_false] at he
      rcases he with rfl | rfl | rfl | rfl | rfl | rfl | rfl | rfl | rfl | rfl | rfl | rfl | rfl | rfl | rfl | rfl
      · exact trivial
      · exact trivial
      · exact trivial
      · exact trivial
      · exact trivial
      · exact trivial
      · exact trivial
      · exact trivial
      · exact trivial
      · exact trivial
      · exact trivial
      · exact trivial
      · exact trivial
      · exact trivial
      · exact trivial
      · exact trivial
    · simp only [F16.toList, List.mem_cons, List.not_mem_nil, or_false] at he
      rcases he with rfl | rfl | rfl | rfl | rfl | rfl | rfl | rfl | rfl | rfl | rfl | rfl | rfl | rfl | rfl | rfl
      · exact trivial
      · exact trivial
      · exact trivial
      · exact trivial
      · exact trivial
      · exact trivial
      · exact trivial
      · exact trivial
      · exact trivial
      · exact trivial
      · exact trivial
      · exact trivial
      · exact trivial
      · exact trivial
      · exact trivial
      · exact trivial
    · simp only [F16.toList, List.mem_cons, List.not_mem_nil, or_false] at he
      rcases he with rfl | rfl | rfl | rfl | rfl | rfl | rfl | rfl | rfl | rfl | rfl | rfl | rfl | rfl | rfl | rfl
      · exact trivial
      · exact trivial
      · exact trivial
      · exact trivial
      · exact trivial
      · exact trivial
      · exact trivial
      · exact trivial
      · exact trivial
      · exact trivial
      · exact trivial
      · exact trivial
      · exact trivial
      · exact trivial
      · exact trivial
      · exact trivial
    · simp only [F16.toList, List.mem_cons, List.not_mem_nil, or_false] at he
      rcases he with rfl | rfl | rfl | rfl | rfl | rfl | rfl | rfl | rfl | rfl | rfl | rfl | rfl | rfl | rfl | rfl
      · exact trivial
      · exact trivial
      · exact trivial
      · exact trivial
      · exact trivial
      · exact trivial
      · exact trivial
      · exact trivial
      · exact trivial
      · exact trivial
      · exact trivial
      · exact trivial
      · exact trivial
      · exact trivial
      · exact trivial
      · exact trivial
    · simp only [F16.toList, List.mem_cons, List.not_mem_nil, or_false] at he
      rcases he with rfl | rfl | rfl | rfl | rfl | rfl | rfl | rfl | rfl | rfl | rfl | rfl | rfl | rfl | rfl | rfl
      · exact trivial
      · exact trivial
      · exact trivial
      · exact trivial
      · exact trivial
      · exact trivial
      · exact trivial
      · exact trivial
      · exact trivial
      · exact trivial
      · exact trivial
      · exact trivial
      · exact trivial
      · exact trivial
      · exact trivial
      · exact trivial
    · simp only [F16.toList, List.mem_cons, List.not_mem_nil, or_false] at he
      rcases he with rfl | rfl | rfl | rfl | rfl | rfl | rfl | rfl | rfl | rfl | rfl | rfl | rfl | rfl | rfl | rfl
      · exact trivial
      · exact trivial
      · exact trivial
      · exact trivial
      · exact trivial
      · exact trivial
      · exact trivial
      · exact trivial
      · exact trivial
      · exact trivial
      · exact trivial
      · exact trivial
      · exact trivial
      · exact trivial
      · exact trivial
      · exact trivial
    · simp only [F16.toList, List.mem_cons, List.not_mem_nil, or_false] at he
      rcases he with rfl | rfl | rfl | rfl | rfl | rfl | rfl | rfl | rfl | rfl | rfl | rfl | rfl | rfl | rfl | rfl
      · exact trivial
      · exact trivial
      · exact trivial
      · exact trivial
      · exact trivial
      · exact trivial
      · exact trivial
      · exact trivial
      · exact trivial
      · exact trivial
      · exact trivial
      · exact trivial
      · exact trivial
      · exact trivial
      · exact trivial
      · exact trivial
    · simp only [F16.toList, List.mem_cons, List.not_mem_nil, or_false] at he
      rcases he with rfl | rfl | rfl | rfl | rfl | rfl | rfl | rfl | rfl | rfl | rfl | rfl | rfl | rfl | rfl | rfl
      · exact trivial
      · exact trivial
      · exact trivial
      · exact trivial
      · exact trivial
      · exact trivial
      · exact trivial
      · exact trivial
      · exact trivial
      · exact trivial
      · exact trivial
      · exact trivial
      · exact trivial
      · exact trivial
      · exact trivial
      · exact trivial
  · intro e he
    simp only [tab, List.mem_cons, List.not_mem_nil, or_false] at he
    rcases he with rfl | rfl
    · exact e41
    · exact e44
theorem tyF_mem (l : List (Nat × TI)) (t : TypeId) (x : TI) (h : tyF l t = some x) : (t, x) ∈ l := by
  induction l with
  | nil => simp [tyF] at h
  | cons p r ih =>
    obtain ⟨g, B⟩ := p
    simp only [tyF] at h
    split at h
    · rename_i e; cases h; rw [Nat.eq_of_beq_eq_true e]; simp
    · simp [ih h]
theorem annF_mem (l : List (Nat × Ann)) (f : FuncId) (A : Ann) (h : annF l f = some A) : (f, A) ∈ l := by
  induction l with
  | nil => simp [annF] at h
  | cons p r ih =>
    obtain ⟨g, B⟩ := p
    simp only [annF] at h
    split at h
    · rename_i e; cases h; rw [Nat.eq_of_beq_eq_true e]; simp
    · simp [ih h]
theorem tk2 : tiOf Tryz.prog 2 = some { agg := false, size := 1, bytes := 8, zero := (some (.int .i64 (.ofNat 0))), shape := (.int .i64), eqs := false } := by kernel_rfl
theorem tk3 : tiOf Tryz.prog 3 = some { agg := false, size := 1, bytes := 8, zero := (some (.int .i64 (.ofNat 0))), shape := (.int .i64), eqs := false } := by kernel_rfl
theorem tk4 : tiOf Tryz.prog 4 = some { agg := false, size := 1, bytes := 1, zero := (some (.bool false)), shape := .bool, eqs := false } := by kernel_rfl
theorem tk5 : tiOf Tryz.prog 5 = some { agg := false, size := 1, bytes := 1, zero := (some (.int .u8 (.ofNat 0))), shape := (.int .u8), eqs := false } := by kernel_rfl
theorem tk9 : tiOf Tryz.prog 9 = some { agg := false, size := 1, bytes := 16, zero := (some (.str [])), shape := .str, eqs := false } := by kernel_rfl
theorem tk22 : tiOf Tryz.prog 22 = some { agg := false, size := 1, bytes := 24, zero := (some .nils), shape := (.slice 5), eqs := false } := by kernel_rfl
theorem tk24 : tiOf Tryz.prog 24 = some { agg := false, size := 1, bytes := 24, zero := (some .nils), shape := (.slice 3), eqs := false } := by kernel_rfl
theorem tk26 : tiOf Tryz.prog 26 = some { agg := false, size := 1, bytes := 24, zero := (some .nils), shape := (.slice 9), eqs := false } := by kernel_rfl
theorem tk27 : tiOf Tryz.prog 27 = some { agg := false, size := 1, bytes := 24, zero := (some .nils), shape := (.slice 50), eqs := false } := by kernel_rfl
theorem tk29 : tiOf Tryz.prog 29 = some { agg := true, size := 1, bytes := 24, zero := (some (.agg [.nils])), shape := (.struct [(0, 27)]), eqs := false } := by kernel_rfl
theorem tk40 : tiOf Tryz.prog 40 = some { agg := false, size := 1, bytes := 24, zero := (some .nils), shape := (.slice 105), eqs := false } := by kernel_rfl
theorem tk41 : tiOf Tryz.prog 41 = some { agg := false, size := 1, bytes := 24, zero := (some .nils), shape := (.slice 78), eqs := false } := by kernel_rfl
theorem tk43 : tiOf Tryz.prog 43 = some { agg := true, size := 2, bytes := 48, zero := (some (.agg [.nils, .nils])), shape := (.struct [(0, 40), (1, 41)]), eqs := false } := by kernel_rfl
theorem tk48 : tiOf Tryz.prog 48 = some { agg := false, size := 1, bytes := 24, zero := (some .nils), shape := (.slice 64), eqs := false } := by kernel_rfl
theorem tk50 : tiOf Tryz.prog 50 = some { agg := true, size := 3, bytes := 64, zero := (some (.agg [(.str []), .nils, .nils])), shape := (.struct [(0, 9), (1, 26), (2, 48)]), eqs := false } := by kernel_rfl
theorem tk51 : tiOf Tryz.prog 51 = some { agg := false, size := 1, bytes := 24, zero := (some .nils), shape := (.slice 57), eqs := false } := by kernel_rfl
theorem tk53 : tiOf Tryz.prog 53 = some { agg := true, size := 1, bytes := 24, zero := (some (.agg [.nils])), shape := (.struct [(0, 51)]), eqs := false } := by kernel_rfl
theorem tk57 : tiOf Tryz.prog 57 = some { agg := true, size := 5, bytes := 88, zero := (some (.agg [(.int .i64 (.ofNat 0)), .nils, (.int .i64 (.ofNat 0)), .nils, .nils])), shape := (.struct [(0, 3), (1, 24), (2, 3), (3, 24), (4, 24)]), eqs := false } := by kernel_rfl
theorem tk62 : tiOf Tryz.prog 62 = some { agg := false, size := 1, bytes := 24, zero := (some .nils), shape := (.slice 99), eqs := false } := by kernel_rfl
theorem tk64 : tiOf Tryz.prog 64 = some { agg := true, size := 1, bytes := 24, zero := (some (.agg [.nils])), shape := (.struct [(0, 62)]), eqs := false } := by kernel_rfl
theorem tk67 : tiOf Tryz.prog 67 = some { agg := true, size := 3, bytes := 40, zero := (some (.agg [.nils, (.int .i64 (.ofNat 0)), (.int .i64 (.ofNat 0))])), shape := (.struct [(0, 22), (1, 3), (2, 3)]), eqs := false } := by kernel_rfl
theorem tk68 : tiOf Tryz.prog 68 = some { agg := false, size := 1, bytes := 8, zero := (some (.int .u64 (.ofNat 0))), shape := (.int .u64), eqs := false } := by kernel_rfl
theorem tk69 : tiOf Tryz.prog 69 = some { agg := false, size := 1, bytes := 24, zero := (some .nils), shape := (.slice 80), eqs := false } := by kernel_rfl
theorem tk74 : tiOf Tryz.prog 74 = some { agg := true, size := 5, bytes := 72, zero := (some (.agg [.nils, (.int .i64 (.ofNat 0)), (.int .i64 (.ofNat 0)), (.bool false), .nils])), shape := (.struct [(0, 69), (1, 3), (2, 3), (3, 4), (4, 40)]), eqs := false } := by kernel_rfl
theorem tk78 : tiOf Tryz.prog 78 = some { agg := true, size := 3, bytes := 48, zero := (some (.agg [(.str []), .nils, (.int .i64 (.ofNat 0))])), shape := (.struct [(0, 9), (1, 26), (2, 3)]), eqs := false } := by kernel_rfl
theorem tk80 : tiOf Tryz.prog 80 = some { agg := true, size := 2, bytes := 24, zero := (some (.agg [(.int .i64 (.ofNat 0)), (.str [])])), shape := (.struct [(0, 3), (1, 9)]), eqs := true } := by kernel_rfl
theorem tk87 : tiOf Tryz.prog 87 = some { agg := false, size := 1, bytes := 8, zero := (some .nilm), shape := (.map 9 3), eqs := false } := by kernel_rfl
theorem tk89 : tiOf Tryz.prog 89 = some { agg := true, size := 7, bytes := 112, zero := (some (.agg [.nils, (.str []), .nils, (.int .i64 (.ofNat 0)), (.bool false), .nils, .nilm])), shape := (.struct [(0, 29), (1, 9), (2, 53), (3, 3), (4, 4), (5, 24), (6, 87)]), eqs := false } := by kernel_rfl
theorem tk97 : tiOf Tryz.prog 97 = some { agg := false, size := 1, bytes := 24, zero := (some .nils), shape := (.slice 156), eqs := false } := by kernel_rfl
theorem tk99 : tiOf Tryz.prog 99 = some { agg := true, size := 4, bytes := 64, zero := (some (.agg [(.int .i64 (.ofNat 0)), (.str []), .nils, (.str [])])), shape := (.struct [(0, 3), (1, 9), (2, 97), (3, 9)]), eqs := false } := by kernel_rfl
theorem tk105 : tiOf Tryz.prog 105 = some { agg := true, size := 5, bytes := 88, zero := (some (.agg [(.int .i64 (.ofNat 0)), (.str []), .nils, (.str []), .nils])), shape := (.struct [(0, 3), (1, 9), (2, 97), (3, 9), (4, 24)]), eqs := false } := by kernel_rfl
theorem tk109 : tiOf Tryz.prog 109 = some { agg := false, size := 1, bytes := 24, zero := (some .nils), shape := (.slice 115), eqs := false } := by kernel_rfl
theorem tk111 : tiOf Tryz.prog 111 = some { agg := true, size := 5, bytes := 104, zero := (some (.agg [.nils, .nils, .nils, .nils, (.int .i64 (.ofNat 0))])), shape := (.struct [(0, 43), (2, 29), (3, 109), (4, 3)]), eqs := false } := by kernel_rfl
theorem tk115 : tiOf Tryz.prog 115 = some { agg := true, size := 3, bytes := 40, zero := (some (.agg [(.int .i64 (.ofNat 0)), (.int .i64 (.ofNat 0)), .nils])), shape := (.struct [(0, 3), (1, 3), (2, 26)]), eqs := false } := by kernel_rfl
theorem tk119 : tiOf Tryz.prog 119 = some { agg := false, size := 1, bytes := 24, zero := (some .nils), shape := (.slice 145), eqs := false } := by kernel_rfl
theorem tk145 : tiOf Tryz.prog 145 = some { agg := true, size := 2, bytes := 24, zero := (some (.agg [(.str []), (.int .i64 (.ofNat 0))])), shape := (.struct [(0, 9), (1, 3)]), eqs := true } := by kernel_rfl
theorem tk154 : tiOf Tryz.prog 154 = some { agg := false, size := 1, bytes := 24, zero := (some .nils), shape := (.slice 167), eqs := false } := by kernel_rfl
theorem tk156 : tiOf Tryz.prog 156 = some { agg := true, size := 1, bytes := 24, zero := (some (.agg [.nils])), shape := (.struct [(0, 154)]), eqs := false } := by kernel_rfl
theorem tk167 : tiOf Tryz.prog 167 = some { agg := true, size := 4, bytes := 56, zero := (some (.agg [(.int .i64 (.ofNat 0)), (.int .i64 (.ofNat 0)), (.str []), .nils])), shape := (.struct [(0, 3), (1, 3), (2, 9), (3, 24)]), eqs := false } := by kernel_rfl
theorem tk178 : tiOf Tryz.prog 178 = some { agg := false, size := 1, bytes := 8, zero := (some (.int .i64 (.ofNat 0))), shape := (.int .i64), eqs := false } := by kernel_rfl
theorem tk186 : tiOf Tryz.prog 186 = some { agg := false, size := 1, bytes := 4, zero := (some (.int .u32 (.ofNat 0))), shape := (.int .u32), eqs := false } := by kernel_rfl
theorem tk188 : tiOf Tryz.prog 188 = some { agg := false, size := 1, bytes := 8, zero := (some (.int .u64 (.ofNat 0))), shape := (.int .u64), eqs := false } := by kernel_rfl
theorem tk200 : tiOf Tryz.prog 200 = some { agg := false, size := 1, bytes := 24, zero := (some .nils), shape := (.slice 4), eqs := false } := by kernel_rfl
theorem tk251 : tiOf Tryz.prog 251 = some { agg := true, size := 24, bytes := 24, zero := (some (.agg [(.int .u8 (.ofNat 0)), (.int .u8 (.ofNat 0)), (.int .u8 (.ofNat 0)), (.int .u8 (.ofNat 0)), (.int .u8 (.ofNat 0)), (.int .u8 (.ofNat 0)), (.int .u8 (.ofNat 0)), (.int .u8 (.ofNat 0)), (.int .u8 (.ofNat 0)), (.int .u8 (.ofNat 0)), (.int .u8 (.ofNat 0)), (.int .u8 (.ofNat 0)), (.int .u8 (.ofNat 0)), (.int .u8 (.ofNat 0)), (.int .u8 (.ofNat 0)), (.int .u8 (.ofNat 0)), (.int .u8 (.ofNat 0)), (.int .u8 (.ofNat 0)), (.int .u8 (.ofNat 0)), (.int .u8 (.ofNat 0)), (.int .u8 (.ofNat 0)), (.int .u8 (.ofNat 0)), (.int .u8 (.ofNat 0)), (.int .u8 (.ofNat 0))])), shape := (.array 24 5), eqs := false } := by kernel_rfl
def AllQ {α : Type} (Q : α → Prop) : List α → Prop
  | [] => True
  | p :: r => Q p ∧ AllQ Q r
theorem AllQ.of {α : Type} {Q : α → Prop} : ∀ {l : List α}, AllQ Q l → ∀ p ∈ l, Q p
  | p :: r, h, q, hq => by
    rcases List.mem_cons.1 hq with rfl | hq
    · exact h.1
    · exact AllQ.of h.2 q hq
theorem ty_all : AllQ (fun p => tiOf Tryz.prog p.1 = some p.2) tyL := ⟨tk2, tk3, tk4, tk5, tk9, tk22, tk24, tk26, tk27, tk29, tk40, tk41, tk43, tk48, tk50, tk51, tk53, tk57, tk62, tk64, tk67, tk68, tk69, tk74, tk78, tk80, tk87, tk89, tk97, tk99, tk105, tk109, tk111, tk115, tk119, tk145, tk154, tk156, tk167, tk178, tk186, tk188, tk200, tk251, trivial⟩
theorem ty_ok : ∀ t x, S.ty t = some x → tiOf S.P t = some x := fun t x h => ty_all.of (t, x) (tyF_mem tyL t x h)
theorem extG_cases {f : FuncId} {g : List T → Option T} (h : extG f = some g) : (f = 133 ∧ g = idxG) ∨ (f = 147 ∧ g = joinG) := by
  unfold extG at h
  split at h
  · rename_i hb; cases h; exact .inl ⟨Nat.eq_of_beq_eq_true hb, rfl⟩
  split at h
  · rename_i hb; cases h; exact .inr (⟨Nat.eq_of_beq_eq_true hb, rfl⟩)
  cases h
/-- What strings.IndexByte calls, met by the law of the model's own entry. -/
theorem idx133 (s : ByteArray) (c : Int) (w : World) : Calls Tryz.prog 133 #[.string s, .int .u8 c] w fun e w' => e = .returned (.int .i64 (Lib.indexByte s.data.toList c.toNat.toUInt8)) ∧ w' = w := by
  go_enter Tryz.func133, Tryz.ntmps133
  go_wp2
  rw [run_callFunc_extern Tryz.func163 (by kernel_rfl) (by kernel_rfl) (by kernel_rfl) (e := Extern.BytealgIndexByte.indexByte) (by kernel_rfl), Lib.run_indexByteString]
  simp only [Result.andThen]
  rw [Oper.upon_value]
  go_wp2
  go_ret
  exact ⟨rfl, rfl⟩
theorem ok133 : GOk Tryz.prog 133 idxG := idx_ok idx133
theorem ok147 : GOk Tryz.prog 147 joinG := join_ok (fun a c sep w => Tryz.strings_Join_none a c sep w) (fun bk o c xs sep w h1 h2 h3 h4 h5 => Tryz.strings_Join bk o c xs sep w h1 h2 h3 h4 h5)
theorem ok97 : InsOk Tryz.prog 97 := insOk Tryz.lays2_21
theorem ann_all : AllQ (fun p => ∃ fn c, S.P.funcs[p.1]? = some fn ∧ fn.body = some c ∧ okCode S.ty S.pf p.2 fn.ntmps c = true ∧ (fn.name == "runtime.NumGoroutine") = false) annL := ⟨k8, k10, k13, k17, k18, k21, k22, k23, k24, k25, k26, k27, k28, k29, k30, k31, k32, k33, k38, k39, k40, k41, k43, k44, k45, k46, k47, k48, k49, k50, k51, k52, k53, k54, k55, k56, k57, k58, k59, k60, k64, k67, k68, k69, k70, k71, k72, k73, k74, k75, k77, k78, k79, k81, k82, k83, k84, k85, k86, k92, k93, k95, k98, k99, k100, k101, k103, k104, k105, k106, k107, k108, k109, k112, k113, k115, k116, k129, k134, k135, k136, k137, k139, k140, k141, k142, k143, k146, k149, k150, k151, k152, k164, k165, k166, k167, k168, k169, k170, k171, k176, k180, k186, k189, k198, k199, k200, k201, k202, k205, k209, k214, k215, k216, k224, k229, k3, k4, k5, k11, k7, k6, k14, k15, k16, k9, k12, k20, k36, k37, k63, k66, k90, k61, k87, k88, k89, k111, k62, k19, k34, k96, k125, k161, k130, k65, k94, k119, k114, k148, k91, k35, trivial⟩
theorem sysOk : SysOk S where
  ty := ty_ok
  mixed := by kernel_rfl
  fn := fun f A h => ann_all.of (f, A) (annF_mem _ _ _ (show annF annL f = some A from h))
  ext := fun f args σ v σ' _ h => by
    have h : extF f args σ = some (v, σ') := h
    unfold extF at h
    split at h
    · rename_i hb
      rw [Nat.eq_of_beq_eq_true hb]
      exact ⟨⟨_, Tryz.func97, rfl, by kernel_rfl⟩, fun g w cargs I hr => ins_sound ok97 h g w cargs I hr⟩
    split at h
    · rename_i gg hg
      have hf := extG_cases hg
      rcases hf with ⟨rfl, rfl⟩ | ⟨rfl, rfl⟩
      · exact ⟨⟨_, Tryz.func133, rfl, by kernel_rfl⟩, fun g w cargs I hr => ext_sound ok133 h g w cargs I hr⟩
      · exact ⟨⟨_, Tryz.func147, rfl, by kernel_rfl⟩, fun g w cargs I hr => ext_sound ok147 h g w cargs I hr⟩
    · cases h
  extPure := fun f args σ v σ' hp ha h => by
    have h : extF f args σ = some (v, σ') := h
    unfold extF at h
    split at h
    · rename_i hb
      rw [Nat.eq_of_beq_eq_true hb] at hp
      cases hp
    rename_i hb97
    split at h
    · rename_i gg hg
      obtain ⟨h1, h2⟩ := gExt_pure ha h
      refine ⟨h1, fun σ2 => ?_⟩
      show extF f args σ2 = _
      unfold extF
      rw [hb97, hg]
      exact h2 σ2
    · cases h
end X
