import Derived.Test.YtojpedmanjlnlaaGreatTpc0
import Derived.Test.YtojpedmanjlnlaaGreatTpk0
import Derived.Test.YtojpedmanjlnlaaGreatTpk1
import Derived.Lib.Strings
import Derived.Lib.Slices
import Derived.Lib.Walk
/- The seat's table of fast texts, and that the system stands. -/
open Go Go.V Go.Proofs
namespace X
set_option maxRecDepth 100000
set_option maxHeartbeats 4000000
set_option linter.all false
noncomputable def tab : Tab := { st := .mk (.mk x6 x7 x8 x14 x15 x18 x19 x20 x21 x22 x23 x24 x25 x27 x28 x29) (.mk x30 x34 x35 x36 x37 x38 x39 x40 x41 x42 x43 x44 x45 x49 x51 x52) (.mk x53 x54 x55 x56 x57 x58 x59 x60 x63 x64 x65 x66 x67 x68 x69 x70) (.mk x71 x72 x73 x74 x75 x76 x77 x84 x86 x87 x88 x89 x90 x91 x92 x93) (.mk x94 x95 x96 x97 x98 x99 x100 x101 x102 x103 x104 x107 x110 x112 x114 x115) (.mk x116 x117 x118 x119 x120 x121 x128 x129 x130 x131 x132 x133 x134 x135 x136 x137) (.mk x138 x139 x144 x145 x146 x147 x152 x153 x154 x155 x156 x157 x158 x159 x160 x161) (.mk x162 x163 x164 x168 x170 x171 x172 x173 x174 x175 x176 x182 x185 x186 x190 x191) (.mk x193 x194 .no .no .no .no .no .no .no .no .no .no .no .no .no .no) (.mk .no .no .no .no .no .no .no .no .no .no .no .no .no .no .no .no) (.mk .no .no .no .no .no .no .no .no .no .no .no .no .no .no .no .no) (.mk .no .no .no .no .no .no .no .no .no .no .no .no .no .no .no .no) (.mk .no .no .no .no .no .no .no .no .no .no .no .no .no .no .no .no) (.mk .no .no .no .no .no .no .no .no .no .no .no .no .no .no .no .no) (.mk .no .no .no .no .no .no .no .no .no .no .no .no .no .no .no .no) (.mk .no .no .no .no .no .no .no .no .no .no .no .no .no .no .no .no), dyn := [x39, x66, x69] }
theorem qiz : tab.All (Entry ixf S) := by
 constructor
 ·intro x hx e he
  simp only [tab, F16.toList, List.mem_cons, List.not_mem_nil, or_false] at hx
  rcases hx with rfl | rfl | rfl | rfl | rfl | rfl | rfl | rfl | rfl | rfl | rfl | rfl | rfl | rfl | rfl | rfl
  ·simp only [F16.toList, List.mem_cons, List.not_mem_nil, or_false] at he
   rcases he with rfl | rfl | rfl | rfl | rfl | rfl | rfl | rfl | rfl | rfl | rfl | rfl | rfl | rfl | rfl | rfl
   ·exact e6
   ·exact e7
   ·exact e8
   ·exact e14
   ·exact e15
   ·exact e18
   ·exact e19
   ·exact e20
   ·exact e21
   ·exact e22
   ·exact e23
   ·exact e24
   ·exact e25
   ·exact e27
   ·exact e28
   ·exact e29
  ·simp only [F16.toList, List.mem_cons, List.not_mem_nil, or_false] at he
   rcases he with rfl | rfl | rfl | rfl | rfl | rfl | rfl | rfl | rfl | rfl | rfl | rfl | rfl | rfl | rfl | rfl
   ·exact e30
   ·exact e34
   ·exact e35
   ·exact e36
   ·exact e37
   ·exact e38
   ·exact e39
   ·exact e40
   ·exact e41
   ·exact e42
   ·exact e43
   ·exact e44
   ·exact e45
   ·exact e49
   ·exact e51
   ·exact e52
  ·simp only [F16.toList, List.mem_cons, List.not_mem_nil, or_false] at he
   rcases he with rfl | rfl | rfl | rfl | rfl | rfl | rfl | rfl | rfl | rfl | rfl | rfl | rfl | rfl | rfl | rfl
   ·exact e53
   ·exact e54
   ·exact e55
   ·exact e56
   ·exact e57
   ·exact e58
   ·exact e59
   ·exact e60
   ·exact e63
   ·exact e64
   ·exact e65
   ·exact e66
   ·exact e67
   ·exact e68
   ·exact e69
   ·exact e70
  ·simp only [F16.toList, List.mem_cons, List.not_mem_nil, or_false] at he
   rcases he with rfl | rfl | rfl | rfl | rfl | rfl | rfl | rfl | rfl | rfl | rfl | rfl | rfl | rfl | rfl | rfl
   ·exact e71
   ·exact e72
   ·exact e73
   ·exact e74
   ·exact e75
   ·exact e76
   ·exact e77
   ·exact e84
   ·exact e86
   ·exact e87
   ·exact e88
   ·exact e89
   ·exact e90
   ·exact e91
   ·exact e92
   ·exact e93
  ·simp only [F16.toList, List.mem_cons, List.not_mem_nil, or_false] at he
   rcases he with rfl | rfl | rfl | rfl | rfl | rfl | rfl | rfl | rfl | rfl | rfl | rfl | rfl | rfl | rfl | rfl
   ·exact e94
   ·exact e95
   ·exact e96
   ·exact e97
   ·exact e98
   ·exact e99
   ·exact e100
   ·exact e101
   ·exact e102
   ·exact e103
   ·exact e104
   ·exact e107
   ·exact e110
   ·exact e112
   ·exact e114
   ·exact e115
  ·simp only [F16.toList, List.mem_cons, List.not_mem_nil, or_false] at he
   rcases he with rfl | rfl | rfl | rfl | rfl | rfl | rfl | rfl | rfl | rfl | rfl | rfl | rfl | rfl | rfl | rfl
   ·exact e116
   ·exact e117
   ·exact e118
   ·exact e119
   ·exact e120
   ·exact e121
   ·exact e128
   ·exact e129
   ·exact e130
   ·exact e131
   ·exact e132
   ·exact e133
   ·exact e134
   ·exact e135
   ·exact e136
   ·exact e137
  ·simp only [F16.toList, List.mem_cons, List.not_mem_nil, or_false] at he
   rcases he with rfl | rfl | rfl | rfl | rfl | rfl | rfl | rfl | rfl | rfl | rfl | rfl | rfl | rfl | rfl | rfl
   ·exact e138
   ·exact e139
   ·exact e144
   ·exact e145
   ·exact e146
   ·exact e147
   ·exact e152
   ·exact e153
   ·exact e154
   ·exact e155
   ·exact e156
   ·exact e157
   ·exact e158
   ·exact e159
   ·exact e160
   ·exact e161
  ·simp only [F16.toList, List.mem_cons, List.not_mem_nil, or_false] at he
   rcases he with rfl | rfl | rfl | rfl | rfl | rfl | rfl | rfl | rfl | rfl | rfl | rfl | rfl | rfl | rfl | rfl
   ·exact e162
   ·exact e163
   ·exact e164
   ·exact e168
   ·exact e170
   ·exact e171
   ·exact e172
   ·exact e173
   ·exact e174
   ·exact e175
   ·exact e176
   ·exact e182
   ·exact e185
   ·exact e186
   ·exact e190
   ·exact e191
  ·simp only [F16.toList, List.mem_cons, List.not_mem_nil, or_false] at he
   rcases he with rfl | rfl | rfl | rfl | rfl | rfl | rfl | rfl | rfl | rfl | rfl | rfl | rfl | rfl | rfl | rfl
   ·exact e193
   ·exact e194
   ·exact trivial
   ·exact trivial
   ·exact trivial
   ·exact trivial
   ·exact trivial
   ·exact trivial
   ·exact trivial
   ·exact trivial
   ·exact trivial
   ·exact trivial
   ·exact trivial
   ·exact trivial
   ·exact trivial
   ·exact trivial
  ·simp only [F16.toList, List.mem_cons, List.not_mem_nil, or_false] at he
   rcases he with rfl | rfl | rfl | rfl | rfl | rfl | rfl | rfl | rfl | rfl | rfl | rfl | rfl | rfl | rfl | rfl
   ·exact trivial
   ·exact trivial
   ·exact trivial
   ·exact trivial
   ·exact trivial
   ·exact trivial
   ·exact trivial
   ·exact trivial
   ·exact trivial
   ·exact trivial
   ·exact trivial
   ·exact trivial
   ·exact trivial
   ·exact trivial
   ·exact trivial
   ·exact trivial
  ·simp only [F16.toList, List.mem_cons, List.not_mem_nil, or_false] at he
   rcases he with rfl | rfl | rfl | rfl | rfl | rfl | rfl | rfl | rfl | rfl | rfl | rfl | rfl | rfl | rfl | rfl
   ·exact trivial
   ·exact trivial
   ·exact trivial
   ·exact trivial
   ·exact trivial
   ·exact trivial
   ·exact trivial
   ·exact trivial
   ·exact trivial
   ·exact trivial
   ·exact trivial
   ·exact trivial
   ·exact trivial
   ·exact trivial
   ·exact trivial
   ·exact trivial
  ·simp only [F16.toList, List.mem_cons, List.not_mem_nil, or_false] at he
   rcases he with rfl | rfl | rfl | rfl | rfl | rfl | rfl | rfl | rfl | rfl | rfl | rfl | rfl | rfl | rfl | rfl
   ·exact trivial
   ·exact trivial
   ·exact trivial
   ·exact trivial
   ·exact trivial
   ·exact trivial
   ·exact trivial
   ·exact trivial
   ·exact trivial
   ·exact trivial
   ·exact trivial
   ·exact trivial
   ·exact trivial
   ·exact trivial
   ·exact trivial
   ·exact trivial
  ·simp only [F16.toList, List.mem_cons, List.not_mem_nil, or_false] at he
   rcases he with rfl | rfl | rfl | rfl | rfl | rfl | rfl | rfl | rfl | rfl | rfl | rfl | rfl | rfl | rfl | rfl
   ·exact trivial
   ·exact trivial
   ·exact trivial
   ·exact trivial
   ·exact trivial
   ·exact trivial
   ·exact trivial
   ·exact trivial
   ·exact trivial
   ·exact trivial
   ·exact trivial
   ·exact trivial
   ·exact trivial
   ·exact trivial
   ·exact trivial
   ·exact trivial
  ·simp only [F16.toList, List.mem_cons, List.not_mem_nil, or_false] at he
   rcases he with rfl | rfl | rfl | rfl | rfl | rfl | rfl | rfl | rfl | rfl | rfl | rfl | rfl | rfl | rfl | rfl
   ·exact trivial
   ·exact trivial
   ·exact trivial
   ·exact trivial
   ·exact trivial
   ·exact trivial
   ·exact trivial
   ·exact trivial
   ·exact trivial
   ·exact trivial
   ·exact trivial
   ·exact trivial
   ·exact trivial
   ·exact trivial
   ·exact trivial
   ·exact trivial
  ·simp only [F16.toList, List.mem_cons, List.not_mem_nil, or_false] at he
   rcases he with rfl | rfl | rfl | rfl | rfl | rfl | rfl | rfl | rfl | rfl | rfl | rfl | rfl | rfl | rfl | rfl
   ·exact trivial
   ·exact trivial
   ·exact trivial
   ·exact trivial
   ·exact trivial
   ·exact trivial
   ·exact trivial
   ·exact trivial
   ·exact trivial
   ·exact trivial
   ·exact trivial
   ·exact trivial
   ·exact trivial
   ·exact trivial
   ·exact trivial
   ·exact trivial
  ·simp only [F16.toList, List.mem_cons, List.not_mem_nil, or_false] at he
   rcases he with rfl | rfl | rfl | rfl | rfl | rfl | rfl | rfl | rfl | rfl | rfl | rfl | rfl | rfl | rfl | rfl
   ·exact trivial
   ·exact trivial
   ·exact trivial
   ·exact trivial
   ·exact trivial
   ·exact trivial
   ·exact trivial
   ·exact trivial
   ·exact trivial
   ·exact trivial
   ·exact trivial
   ·exact trivial
   ·exact trivial
   ·exact trivial
   ·exact trivial
   ·exact trivial
 ·intro e he
  simp only [tab, List.mem_cons, List.not_mem_nil, or_false] at he
  rcases he with rfl | rfl | rfl
  ·exact e39
  ·exact e66
  ·exact e69
theorem tyF_mem (l : List (Nat × TI)) (t : TypeId) (x : TI) (h : tyF l t = some x) : (t, x) ∈ l := by
 induction l with
 | nil => simp [tyF] at h
 | cons p r ih =>
  obtain ⟨g, B⟩ := p
  simp only [tyF] at h
  split at h
  ·rename_i e; cases h; rw [Nat.eq_of_beq_eq_true e]; simp
  ·simp [ih h]
theorem annF_mem (l : List (Nat × Ann)) (f : FuncId) (A : Ann) (h : annF l f = some A) : (f, A) ∈ l := by
 induction l with
 | nil => simp [annF] at h
 | cons p r ih =>
  obtain ⟨g, B⟩ := p
  simp only [annF] at h
  split at h
  ·rename_i e; cases h; rw [Nat.eq_of_beq_eq_true e]; simp
  ·simp [ih h]
theorem tk3 : tiOf Tryz.prog 3 = some ⟨false, 1, 8, (some (.int .i64 (.ofNat 0))), (.int .i64), false⟩ := by kernel_rfl
theorem tk4 : tiOf Tryz.prog 4 = some ⟨false, 1, 1, (some (.bool false)), .bool, false⟩ := by kernel_rfl
theorem tk5 : tiOf Tryz.prog 5 = some ⟨false, 1, 1, (some (.int .u8 (.ofNat 0))), (.int .u8), false⟩ := by kernel_rfl
theorem tk9 : tiOf Tryz.prog 9 = some ⟨false, 1, 16, (some (.str [])), .str, false⟩ := by kernel_rfl
theorem tk22 : tiOf Tryz.prog 22 = some ⟨false, 1, 24, (some .nils), (.slice 5), false⟩ := by kernel_rfl
theorem tk24 : tiOf Tryz.prog 24 = some ⟨false, 1, 24, (some .nils), (.slice 35), false⟩ := by kernel_rfl
theorem tk26 : tiOf Tryz.prog 26 = some ⟨true, 1, 24, (some (.agg [.nils])), (.struct [(0, 24)]), false⟩ := by kernel_rfl
theorem tk29 : tiOf Tryz.prog 29 = some ⟨false, 1, 24, (some .nils), (.slice 9), false⟩ := by kernel_rfl
theorem tk32 : tiOf Tryz.prog 32 = some ⟨false, 1, 24, (some .nils), (.slice 3), false⟩ := by kernel_rfl
theorem tk33 : tiOf Tryz.prog 33 = some ⟨false, 1, 24, (some .nils), (.slice 54), false⟩ := by kernel_rfl
theorem tk35 : tiOf Tryz.prog 35 = some ⟨true, 3, 64, (some (.agg [(.str []), .nils, .nils])), (.struct [(0, 9), (1, 29), (2, 33)]), false⟩ := by kernel_rfl
theorem tk46 : tiOf Tryz.prog 46 = some ⟨false, 1, 24, (some .nils), (.slice 4), false⟩ := by kernel_rfl
theorem tk50 : tiOf Tryz.prog 50 = some ⟨false, 1, 24, (some .nils), (.slice 46), false⟩ := by kernel_rfl
theorem tk52 : tiOf Tryz.prog 52 = some ⟨false, 1, 24, (some .nils), (.slice 85), false⟩ := by kernel_rfl
theorem tk54 : tiOf Tryz.prog 54 = some ⟨true, 1, 24, (some (.agg [.nils])), (.struct [(0, 52)]), false⟩ := by kernel_rfl
theorem tk55 : tiOf Tryz.prog 55 = some ⟨false, 1, 24, (some .nils), (.slice 61), false⟩ := by kernel_rfl
theorem tk57 : tiOf Tryz.prog 57 = some ⟨true, 1, 24, (some (.agg [.nils])), (.struct [(0, 55)]), false⟩ := by kernel_rfl
theorem tk61 : tiOf Tryz.prog 61 = some ⟨true, 5, 88, (some (.agg [(.int .i64 (.ofNat 0)), .nils, (.int .i64 (.ofNat 0)), .nils, .nils])), (.struct [(0, 3), (1, 32), (2, 3), (3, 32), (4, 32)]), false⟩ := by kernel_rfl
theorem tk63 : tiOf Tryz.prog 63 = some ⟨false, 1, 24, (some .nils), (.slice 151), false⟩ := by kernel_rfl
theorem tk64 : tiOf Tryz.prog 64 = some ⟨false, 1, 24, (some .nils), (.slice 111), false⟩ := by kernel_rfl
theorem tk66 : tiOf Tryz.prog 66 = some ⟨true, 2, 48, (some (.agg [.nils, .nils])), (.struct [(0, 63), (1, 64)]), false⟩ := by kernel_rfl
theorem tk72 : tiOf Tryz.prog 72 = some ⟨true, 3, 40, (some (.agg [.nils, (.int .i64 (.ofNat 0)), (.int .i64 (.ofNat 0))])), (.struct [(0, 22), (1, 3), (2, 3)]), false⟩ := by kernel_rfl
theorem tk83 : tiOf Tryz.prog 83 = some ⟨false, 1, 24, (some .nils), (.slice 100), false⟩ := by kernel_rfl
theorem tk85 : tiOf Tryz.prog 85 = some ⟨true, 4, 64, (some (.agg [(.int .i64 (.ofNat 0)), (.str []), .nils, (.str [])])), (.struct [(0, 3), (1, 9), (2, 83), (3, 9)]), false⟩ := by kernel_rfl
theorem tk94 : tiOf Tryz.prog 94 = some ⟨true, 6, 80, (some (.agg [.nils, (.str []), .nils, (.int .i64 (.ofNat 0)), (.bool false), (.bool false)])), (.struct [(0, 26), (1, 9), (2, 55), (3, 3), (4, 4), (5, 4)]), false⟩ := by kernel_rfl
theorem tk98 : tiOf Tryz.prog 98 = some ⟨false, 1, 24, (some .nils), (.slice 146), false⟩ := by kernel_rfl
theorem tk100 : tiOf Tryz.prog 100 = some ⟨true, 1, 24, (some (.agg [.nils])), (.struct [(0, 98)]), false⟩ := by kernel_rfl
theorem tk102 : tiOf Tryz.prog 102 = some ⟨false, 1, 24, (some .nils), (.slice 113), false⟩ := by kernel_rfl
theorem tk107 : tiOf Tryz.prog 107 = some ⟨true, 5, 72, (some (.agg [.nils, (.int .i64 (.ofNat 0)), (.int .i64 (.ofNat 0)), (.bool false), .nils])), (.struct [(0, 102), (1, 3), (2, 3), (3, 4), (4, 63)]), false⟩ := by kernel_rfl
theorem tk111 : tiOf Tryz.prog 111 = some ⟨true, 3, 48, (some (.agg [(.str []), .nils, (.int .i64 (.ofNat 0))])), (.struct [(0, 9), (1, 29), (2, 3)]), false⟩ := by kernel_rfl
theorem tk113 : tiOf Tryz.prog 113 = some ⟨true, 2, 24, (some (.agg [(.int .i64 (.ofNat 0)), (.str [])])), (.struct [(0, 3), (1, 9)]), true⟩ := by kernel_rfl
theorem tk131 : tiOf Tryz.prog 131 = some ⟨false, 1, 8, (some (.int .u64 (.ofNat 0))), (.int .u64), false⟩ := by kernel_rfl
theorem tk135 : tiOf Tryz.prog 135 = some ⟨false, 1, 24, (some .nils), (.slice 140), false⟩ := by kernel_rfl
theorem tk137 : tiOf Tryz.prog 137 = some ⟨false, 1, 24, (some .nils), (.slice 206), false⟩ := by kernel_rfl
theorem tk140 : tiOf Tryz.prog 140 = some ⟨true, 2, 32, (some (.agg [(.int .i64 (.ofNat 0)), .nils])), (.struct [(0, 3), (1, 137)]), false⟩ := by kernel_rfl
theorem tk146 : tiOf Tryz.prog 146 = some ⟨true, 4, 56, (some (.agg [(.int .i64 (.ofNat 0)), (.int .i64 (.ofNat 0)), (.str []), .nils])), (.struct [(0, 3), (1, 3), (2, 9), (3, 32)]), false⟩ := by kernel_rfl
theorem tk151 : tiOf Tryz.prog 151 = some ⟨true, 5, 88, (some (.agg [(.int .i64 (.ofNat 0)), (.str []), .nils, (.str []), .nils])), (.struct [(0, 3), (1, 9), (2, 83), (3, 9), (4, 32)]), false⟩ := by kernel_rfl
theorem tk155 : tiOf Tryz.prog 155 = some ⟨false, 1, 24, (some .nils), (.slice 161), false⟩ := by kernel_rfl
theorem tk157 : tiOf Tryz.prog 157 = some ⟨true, 5, 104, (some (.agg [.nils, .nils, .nils, .nils, (.int .i64 (.ofNat 0))])), (.struct [(0, 66), (2, 26), (3, 155), (4, 3)]), false⟩ := by kernel_rfl
theorem tk161 : tiOf Tryz.prog 161 = some ⟨true, 3, 40, (some (.agg [(.int .i64 (.ofNat 0)), (.int .i64 (.ofNat 0)), .nils])), (.struct [(0, 3), (1, 3), (2, 29)]), false⟩ := by kernel_rfl
theorem tk165 : tiOf Tryz.prog 165 = some ⟨false, 1, 8, (some (.int .i64 (.ofNat 0))), (.int .i64), false⟩ := by kernel_rfl
theorem tk174 : tiOf Tryz.prog 174 = some ⟨false, 1, 4, (some (.int .u32 (.ofNat 0))), (.int .u32), false⟩ := by kernel_rfl
theorem tk176 : tiOf Tryz.prog 176 = some ⟨false, 1, 8, (some (.int .u64 (.ofNat 0))), (.int .u64), false⟩ := by kernel_rfl
theorem tk206 : tiOf Tryz.prog 206 = some ⟨true, 2, 24, (some (.agg [(.str []), (.int .i64 (.ofNat 0))])), (.struct [(0, 9), (1, 3)]), true⟩ := by kernel_rfl
def AllQ {α : Type} (Q : α → Prop) : List α → Prop
 | [] => True
 | p :: r => Q p ∧ AllQ Q r
theorem AllQ.of {α : Type} {Q : α → Prop} : ∀ {l : List α}, AllQ Q l → ∀ p ∈ l, Q p
 | p :: r, h, q, hq => by
  rcases List.mem_cons.1 hq with rfl | hq
  ·exact h.1
  ·exact AllQ.of h.2 q hq
theorem ty_all : AllQ (fun p => tiOf Tryz.prog p.1 = some p.2) tyL := ⟨tk3, tk4, tk5, tk9, tk22, tk24, tk26, tk29, tk32, tk33, tk35, tk46, tk50, tk52, tk54, tk55, tk57, tk61, tk63, tk64, tk66, tk72, tk83, tk85, tk94, tk98, tk100, tk102, tk107, tk111, tk113, tk131, tk135, tk137, tk140, tk146, tk151, tk155, tk157, tk161, tk165, tk174, tk176, tk206, trivial⟩
theorem ty_ok : ∀ t x, S.ty t = some x → tiOf S.P t = some x := fun t x h => ty_all.of (t, x) (tyF_mem tyL t x h)
theorem qyf {f : FuncId} {g : List T → Option T} (h : extG f = some g) : (f = 156 ∧ g = idxG) := by
 unfold extG at h
 split at h
 ·rename_i hb; cases h; exact ⟨Nat.eq_of_beq_eq_true hb, rfl⟩
 cases h
/-- What strings.IndexByte calls, met by the law of the model's own entry. -/
theorem idx156 (s : ByteArray) (c : Int) (w : World) : Calls Tryz.prog 156 #[.string s, .int .u8 c] w fun e w' => e = .returned (.int .i64 (Lib.indexByte s.data.toList c.toNat.toUInt8)) ∧ w' = w := by
 go_enter Tryz.func156, Tryz.ntmps156
 go_wp2
 rw [run_callFunc_extern Tryz.func169 (by kernel_rfl) (by kernel_rfl) (by kernel_rfl) (e := Extern.BytealgIndexByte.indexByte) (by kernel_rfl), Lib.run_indexByteString]
 simp only [Result.andThen]
 rw [Oper.upon_value]
 go_wp2
 go_ret
 exact ⟨rfl, rfl⟩
theorem ok156 : GOk Tryz.prog 156 idxG := idx_ok idx156
theorem ann_all : AllQ (fun p => ∃ fn c, S.P.funcs[p.1]? = some fn ∧ fn.body = some c ∧ qdx S.ty S.pf p.2 fn.ntmps c = true ∧ (fn.name == "runtime.NumGoroutine") = false) annL := ⟨k6, k7, k8, k14, k15, k18, k19, k20, k21, k22, k23, k24, k25, k27, k28, k29, k30, k34, k35, k36, k37, k38, k39, k40, k41, k42, k43, k44, k45, k49, k51, k52, k53, k54, k55, k56, k57, k58, k59, k60, k63, k64, k65, k66, k67, k68, k69, k70, k71, k72, k73, k74, k75, k76, k77, k84, k86, k87, k88, k89, k90, k91, k92, k93, k94, k95, k96, k97, k98, k99, k100, k101, k102, k103, k104, k107, k110, k112, k114, k115, k116, k117, k118, k119, k120, k121, k128, k129, k130, k131, k132, k133, k134, k135, k136, k137, k138, k139, k144, k145, k146, k147, k152, k153, k154, k155, k157, k158, k159, k160, k161, k162, k163, k164, k168, k170, k171, k172, k173, k174, k175, k176, k182, k185, k186, k190, k191, k193, k194, k3, k4, k13, k10, k11, k5, k12, k9, k16, k17, k26, k50, k85, k31, k32, k33, k47, k48, k81, k123, k125, k122, k126, k61, k62, k79, k80, k82, k83, k127, k78, k46, k148, k150, k124, k151, k165, k166, k167, k149, trivial⟩
theorem sysOk : SysOk S where
 ty := ty_ok
 mixed := by kernel_rfl
 fn := fun f A h => ann_all.of (f, A) (annF_mem _ _ _ (show annF annL f = some A from h))
 ext := fun f args σ v σ' _ h => by
  have h : extF f args σ = some (v, σ') := h
  unfold extF at h
  split at h
  ·rename_i gg hg
   have hf := qyf hg
   rcases hf with ⟨rfl, rfl⟩
   ·exact ⟨⟨_, Tryz.func156, rfl, by kernel_rfl⟩, fun g w cargs I hr => q0h ok156 h g w cargs I hr⟩
  ·cases h
 extPure := fun f args σ v σ' hp ha h => by
  have h : extF f args σ = some (v, σ') := h
  unfold extF at h
  split at h
  ·rename_i gg hg
   obtain ⟨h1, h2⟩ := q1b ha h
   refine ⟨h1, fun σ2 => ?_⟩
   show extF f args σ2 = _
   unfold extF
   rw [hg]
   exact h2 σ2
  ·cases h
end X
