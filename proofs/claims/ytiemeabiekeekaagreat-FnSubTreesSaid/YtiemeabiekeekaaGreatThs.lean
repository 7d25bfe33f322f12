import Derived.Test.YtiemeabiekeekaaGreatThc0
import Derived.Test.YtiemeabiekeekaaGreatThk0
import Derived.Test.YtiemeabiekeekaaGreatThk1
/- The seat's table of fast texts, and that the system stands. -/
open Go Go.V Go.Proofs
namespace X
set_option maxRecDepth 100000
set_option maxHeartbeats 4000000
set_option linter.all false
noncomputable def tab : Tab := { st := .mk (.mk x21 x22 x29 x31 x32 x35 x43 x50 x52 x53 x54 x55 x56 x57 x58 x59) (.mk x66 x67 x68 x73 x74 x75 x76 x77 x78 x79 x80 x81 x82 x83 x86 x87) (.mk x88 x89 x90 x91 x92 x93 x94 x98 x99 x100 x101 x102 x103 x104 x105 x106) (.mk x107 x109 x110 x111 x112 x113 x114 x115 x116 x117 x118 x119 x120 x121 x122 x123) (.mk x124 x125 x126 .no .no .no .no .no .no .no .no .no .no .no .no .no) (.mk .no .no .no .no .no .no .no .no .no .no .no .no .no .no .no .no) (.mk .no .no .no .no .no .no .no .no .no .no .no .no .no .no .no .no) (.mk .no .no .no .no .no .no .no .no .no .no .no .no .no .no .no .no) (.mk .no .no .no .no .no .no .no .no .no .no .no .no .no .no .no .no) (.mk .no .no .no .no .no .no .no .no .no .no .no .no .no .no .no .no) (.mk .no .no .no .no .no .no .no .no .no .no .no .no .no .no .no .no) (.mk .no .no .no .no .no .no .no .no .no .no .no .no .no .no .no .no) (.mk .no .no .no .no .no .no .no .no .no .no .no .no .no .no .no .no) (.mk .no .no .no .no .no .no .no .no .no .no .no .no .no .no .no .no) (.mk .no .no .no .no .no .no .no .no .no .no .no .no .no .no .no .no) (.mk .no .no .no .no .no .no .no .no .no .no .no .no .no .no .no .no), dyn := [] }
theorem tab_ok : tab.All (Entry ixf S) := by
 constructor
 ·intro x hx e he
  simp only [tab, F16.toList, List.mem_cons, List.not_mem_nil, or_false] at hx
  rcases hx with rfl | rfl | rfl | rfl | rfl | rfl | rfl | rfl | rfl | rfl | rfl | rfl | rfl | rfl | rfl | rfl
  ·simp only [F16.toList, List.mem_cons, List.not_mem_nil, or_false] at he
   rcases he with rfl | rfl | rfl | rfl | rfl | rfl | rfl | rfl | rfl | rfl | rfl | rfl | rfl | rfl | rfl | rfl
   ·exact e21
   ·exact e22
   ·exact e29
   ·exact e31
   ·exact e32
   ·exact e35
   ·exact e43
   ·exact e50
   ·exact e52
   ·exact e53
   ·exact e54
   ·exact e55
   ·exact e56
   ·exact e57
   ·exact e58
   ·exact e59
  ·simp only [F16.toList, List.mem_cons, List.not_mem_nil, or_false] at he
   rcases he with rfl | rfl | rfl | rfl | rfl | rfl | rfl | rfl | rfl | rfl | rfl | rfl | rfl | rfl | rfl | rfl
   ·exact e66
   ·exact e67
   ·exact e68
   ·exact e73
   ·exact e74
   ·exact e75
   ·exact e76
   ·exact e77
   ·exact e78
   ·exact e79
   ·exact e80
   ·exact e81
   ·exact e82
   ·exact e83
   ·exact e86
   ·exact e87
  ·simp only [F16.toList, List.mem_cons, List.not_mem_nil, or_false] at he
   rcases he with rfl | rfl | rfl | rfl | rfl | rfl | rfl | rfl | rfl | rfl | rfl | rfl | rfl | rfl | rfl | rfl
   ·exact e88
   ·exact e89
   ·exact e90
   ·exact e91
   ·exact e92
   ·exact e93
   ·exact e94
   ·exact e98
   ·exact e99
   ·exact e100
   ·exact e101
   ·exact e102
   ·exact e103
   ·exact e104
   ·exact e105
   ·exact e106
  ·simp only [F16.toList, List.mem_cons, List.not_mem_nil, or_false] at he
   rcases he with rfl | rfl | rfl | rfl | rfl | rfl | rfl | rfl | rfl | rfl | rfl | rfl | rfl | rfl | rfl | rfl
   ·exact e107
   ·exact e109
   ·exact e110
   ·exact e111
   ·exact e112
   ·exact e113
   ·exact e114
   ·exact e115
   ·exact e116
   ·exact e117
   ·exact e118
   ·exact e119
   ·exact e120
   ·exact e121
   ·exact e122
   ·exact e123
  ·simp only [F16.toList, List.mem_cons, List.not_mem_nil, or_false] at he
   rcases he with rfl | rfl | rfl | rfl | rfl | rfl | rfl | rfl | rfl | rfl | rfl | rfl | rfl | rfl | rfl | rfl
   ·exact e124
   ·exact e125
   ·exact e126
   ·exact trivial
   ·exact trivial
   ·exact trivial
   ·exact trivial
   ·exact trivial
   ·exact trivial
   ·exact trivial
   ·exact trivial
   ·exact trivial
   ·exact trivial
   ·exact trivial
   ·exact trivial
   ·exact trivial
  ·simp only [F16.toList, List.mem_cons, List.not_mem_nil, or_false] at he
   rcases he with rfl | rfl | rfl | rfl | rfl | rfl | rfl | rfl | rfl | rfl | rfl | rfl | rfl | rfl | rfl | rfl
   ·exact trivial
   ·exact trivial
   ·exact trivial
   ·exact trivial
   ·exact trivial
   ·exact trivial
   ·exact trivial
   ·exact trivial
   ·exact trivial
   ·exact trivial
   ·exact trivial
   ·exact trivial
   ·exact trivial
   ·exact trivial
   ·exact trivial
   ·exact trivial
  ·simp only [F16.toList, List.mem_cons, List.not_mem_nil, or_false] at he
   rcases he with rfl | rfl | rfl | rfl | rfl | rfl | rfl | rfl | rfl | rfl | rfl | rfl | rfl | rfl | rfl | rfl
   ·exact trivial
   ·exact trivial
   ·exact trivial
   ·exact trivial
   ·exact trivial
   ·exact trivial
   ·exact trivial
   ·exact trivial
   ·exact trivial
   ·exact trivial
   ·exact trivial
   ·exact trivial
   ·exact trivial
   ·exact trivial
   ·exact trivial
   ·exact trivial
  ·simp only [F16.toList, List.mem_cons, List.not_mem_nil, or_false] at he
   rcases he with rfl | rfl | rfl | rfl | rfl | rfl | rfl | rfl | rfl | rfl | rfl | rfl | rfl | rfl | rfl | rfl
   ·exact trivial
   ·exact trivial
   ·exact trivial
   ·exact trivial
   ·exact trivial
   ·exact trivial
   ·exact trivial
   ·exact trivial
   ·exact trivial
   ·exact trivial
   ·exact trivial
   ·exact trivial
   ·exact trivial
   ·exact trivial
   ·exact trivial
   ·exact trivial
  ·simp only [F16.toList, List.mem_cons, List.not_mem_nil, or_false] at he
   rcases he with rfl | rfl | rfl | rfl | rfl | rfl | rfl | rfl | rfl | rfl | rfl | rfl | rfl | rfl | rfl | rfl
   ·exact trivial
   ·exact trivial
   ·exact trivial
   ·exact trivial
   ·exact trivial
   ·exact trivial
   ·exact trivial
   ·exact trivial
   ·exact trivial
   ·exact trivial
   ·exact trivial
   ·exact trivial
   ·exact trivial
   ·exact trivial
   ·exact trivial
   ·exact trivial
  ·simp only [F16.toList, List.mem_cons, List.not_mem_nil, or_false] at he
   rcases he with rfl | rfl | rfl | rfl | rfl | rfl | rfl | rfl | rfl | rfl | rfl | rfl | rfl | rfl | rfl | rfl
   ·exact trivial
   ·exact trivial
   ·exact trivial
   ·exact trivial
   ·exact trivial
   ·exact trivial
   ·exact trivial
   ·exact trivial
   ·exact trivial
   ·exact trivial
   ·exact trivial
   ·exact trivial
   ·exact trivial
   ·exact trivial
   ·exact trivial
   ·exact trivial
  ·simp only [F16.toList, List.mem_cons, List.not_mem_nil, or_false] at he
   rcases he with rfl | rfl | rfl | rfl | rfl | rfl | rfl | rfl | rfl | rfl | rfl | rfl | rfl | rfl | rfl | rfl
   ·exact trivial
   ·exact trivial
   ·exact trivial
   ·exact trivial
   ·exact trivial
   ·exact trivial
   ·exact trivial
   ·exact trivial
   ·exact trivial
   ·exact trivial
   ·exact trivial
   ·exact trivial
   ·exact trivial
   ·exact trivial
   ·exact trivial
   ·exact trivial
  ·simp only [F16.toList, List.mem_cons, List.not_mem_nil, or_false] at he
   rcases he with rfl | rfl | rfl | rfl | rfl | rfl | rfl | rfl | rfl | rfl | rfl | rfl | rfl | rfl | rfl | rfl
   ·exact trivial
   ·exact trivial
   ·exact trivial
   ·exact trivial
   ·exact trivial
   ·exact trivial
   ·exact trivial
   ·exact trivial
   ·exact trivial
   ·exact trivial
   ·exact trivial
   ·exact trivial
   ·exact trivial
   ·exact trivial
   ·exact trivial
   ·exact trivial
  ·simp only [F16.toList, List.mem_cons, List.not_mem_nil, or_false] at he
   rcases he with rfl | rfl | rfl | rfl | rfl | rfl | rfl | rfl | rfl | rfl | rfl | rfl | rfl | rfl | rfl | rfl
   ·exact trivial
   ·exact trivial
   ·exact trivial
   ·exact trivial
   ·exact trivial
   ·exact trivial
   ·exact trivial
   ·exact trivial
   ·exact trivial
   ·exact trivial
   ·exact trivial
   ·exact trivial
   ·exact trivial
   ·exact trivial
   ·exact trivial
   ·exact trivial
  ·simp only [F16.toList, List.mem_cons, List.not_mem_nil, or_false] at he
   rcases he with rfl | rfl | rfl | rfl | rfl | rfl | rfl | rfl | rfl | rfl | rfl | rfl | rfl | rfl | rfl | rfl
   ·exact trivial
   ·exact trivial
   ·exact trivial
   ·exact trivial
   ·exact trivial
   ·exact trivial
   ·exact trivial
   ·exact trivial
   ·exact trivial
   ·exact trivial
   ·exact trivial
   ·exact trivial
   ·exact trivial
   ·exact trivial
   ·exact trivial
   ·exact trivial
  ·simp only [F16.toList, List.mem_cons, List.not_mem_nil, or_false] at he
   rcases he with rfl | rfl | rfl | rfl | rfl | rfl | rfl | rfl | rfl | rfl | rfl | rfl | rfl | rfl | rfl | rfl
   ·exact trivial
   ·exact trivial
   ·exact trivial
   ·exact trivial
   ·exact trivial
   ·exact trivial
   ·exact trivial
   ·exact trivial
   ·exact trivial
   ·exact trivial
   ·exact trivial
   ·exact trivial
   ·exact trivial
   ·exact trivial
   ·exact trivial
   ·exact trivial
  ·simp only [F16.toList, List.mem_cons, List.not_mem_nil, or_false] at he
   rcases he with rfl | rfl | rfl | rfl | rfl | rfl | rfl | rfl | rfl | rfl | rfl | rfl | rfl | rfl | rfl | rfl
   ·exact trivial
   ·exact trivial
   ·exact trivial
   ·exact trivial
   ·exact trivial
   ·exact trivial
   ·exact trivial
   ·exact trivial
   ·exact trivial
   ·exact trivial
   ·exact trivial
   ·exact trivial
   ·exact trivial
   ·exact trivial
   ·exact trivial
   ·exact trivial
 ·intro e he
  simp only [tab, List.not_mem_nil] at he
theorem tyF_mem (l : List (Nat × TI)) (t : TypeId) (x : TI) (h : tyF l t = some x) : (t, x) ∈ l := by
 induction l with
 | nil => simp [tyF] at h
 | cons p r ih =>
  obtain ⟨g, B⟩ := p
  simp only [tyF] at h
  split at h
  ·rename_i e; cases h; rw [Nat.eq_of_beq_eq_true e]; simp
  ·simp [ih h]
theorem annF_mem (l : List (Nat × Ann)) (f : FuncId) (A : Ann) (h : annF l f = some A) : (f, A) ∈ l := by
 induction l with
 | nil => simp [annF] at h
 | cons p r ih =>
  obtain ⟨g, B⟩ := p
  simp only [annF] at h
  split at h
  ·rename_i e; cases h; rw [Nat.eq_of_beq_eq_true e]; simp
  ·simp [ih h]
theorem tk3 : tiOf Tryz.prog 3 = some ⟨false, 1, 8, (some (.int .i64 (.ofNat 0))), (.int .i64), false⟩ := by kernel_rfl
theorem tk4 : tiOf Tryz.prog 4 = some ⟨false, 1, 1, (some (.bool false)), .bool, false⟩ := by kernel_rfl
theorem tk5 : tiOf Tryz.prog 5 = some ⟨false, 1, 1, (some (.int .u8 (.ofNat 0))), (.int .u8), false⟩ := by kernel_rfl
theorem tk9 : tiOf Tryz.prog 9 = some ⟨false, 1, 16, (some (.str [])), .str, false⟩ := by kernel_rfl
theorem tk22 : tiOf Tryz.prog 22 = some ⟨false, 1, 24, (some .nils), (.slice 5), false⟩ := by kernel_rfl
theorem tk24 : tiOf Tryz.prog 24 = some ⟨false, 1, 24, (some .nils), (.slice 59), false⟩ := by kernel_rfl
theorem tk26 : tiOf Tryz.prog 26 = some ⟨true, 1, 24, (some (.agg [.nils])), (.struct [(0, 24)]), false⟩ := by kernel_rfl
theorem tk29 : tiOf Tryz.prog 29 = some ⟨false, 1, 24, (some .nils), (.slice 38), false⟩ := by kernel_rfl
theorem tk31 : tiOf Tryz.prog 31 = some ⟨true, 1, 24, (some (.agg [.nils])), (.struct [(0, 29)]), false⟩ := by kernel_rfl
theorem tk35 : tiOf Tryz.prog 35 = some ⟨false, 1, 24, (some .nils), (.slice 3), false⟩ := by kernel_rfl
theorem tk38 : tiOf Tryz.prog 38 = some ⟨true, 6, 80, (some (.agg [(.int .i64 (.ofNat 0)), (.int .i64 (.ofNat 0)), .nils, (.int .i64 (.ofNat 0)), (.int .i64 (.ofNat 0)), .nils])), (.struct [(0, 3), (1, 3), (2, 35), (3, 3), (4, 3), (5, 35)]), false⟩ := by kernel_rfl
theorem tk47 : tiOf Tryz.prog 47 = some ⟨false, 1, 24, (some .nils), (.slice 95), false⟩ := by kernel_rfl
theorem tk49 : tiOf Tryz.prog 49 = some ⟨true, 1, 24, (some (.agg [.nils])), (.struct [(0, 47)]), false⟩ := by kernel_rfl
theorem tk54 : tiOf Tryz.prog 54 = some ⟨true, 4, 88, (some (.agg [.nils, (.str []), .nils, .nils])), (.struct [(0, 26), (1, 9), (2, 47), (3, 29)]), false⟩ := by kernel_rfl
theorem tk56 : tiOf Tryz.prog 56 = some ⟨false, 1, 24, (some .nils), (.slice 9), false⟩ := by kernel_rfl
theorem tk57 : tiOf Tryz.prog 57 = some ⟨false, 1, 24, (some .nils), (.slice 101), false⟩ := by kernel_rfl
theorem tk59 : tiOf Tryz.prog 59 = some ⟨true, 3, 64, (some (.agg [(.str []), .nils, .nils])), (.struct [(0, 9), (1, 56), (2, 57)]), false⟩ := by kernel_rfl
theorem tk64 : tiOf Tryz.prog 64 = some ⟨true, 2, 32, (some (.agg [.nils, (.bool false)])), (.struct [(0, 29), (1, 4)]), false⟩ := by kernel_rfl
theorem tk75 : tiOf Tryz.prog 75 = some ⟨true, 3, 40, (some (.agg [.nils, (.int .i64 (.ofNat 0)), (.int .i64 (.ofNat 0))])), (.struct [(0, 22), (1, 3), (2, 3)]), false⟩ := by kernel_rfl
theorem tk78 : tiOf Tryz.prog 78 = some ⟨false, 1, 24, (some .nils), (.slice 159), false⟩ := by kernel_rfl
theorem tk79 : tiOf Tryz.prog 79 = some ⟨false, 1, 24, (some .nils), (.slice 129), false⟩ := by kernel_rfl
theorem tk81 : tiOf Tryz.prog 81 = some ⟨true, 2, 48, (some (.agg [.nils, .nils])), (.struct [(0, 78), (1, 79)]), false⟩ := by kernel_rfl
theorem tk91 : tiOf Tryz.prog 91 = some ⟨true, 6, 80, (some (.agg [.nils, (.str []), .nils, (.int .i64 (.ofNat 0)), (.bool false), (.bool false)])), (.struct [(0, 26), (1, 9), (2, 47), (3, 3), (4, 4), (5, 4)]), false⟩ := by kernel_rfl
theorem tk95 : tiOf Tryz.prog 95 = some ⟨true, 5, 88, (some (.agg [(.int .i64 (.ofNat 0)), .nils, (.int .i64 (.ofNat 0)), .nils, .nils])), (.struct [(0, 3), (1, 35), (2, 3), (3, 35), (4, 35)]), false⟩ := by kernel_rfl
theorem tk99 : tiOf Tryz.prog 99 = some ⟨false, 1, 24, (some .nils), (.slice 111), false⟩ := by kernel_rfl
theorem tk101 : tiOf Tryz.prog 101 = some ⟨true, 1, 24, (some (.agg [.nils])), (.struct [(0, 99)]), false⟩ := by kernel_rfl
theorem tk102 : tiOf Tryz.prog 102 = some ⟨false, 1, 24, (some .nils), (.slice 173), false⟩ := by kernel_rfl
theorem tk105 : tiOf Tryz.prog 105 = some ⟨true, 2, 32, (some (.agg [(.int .i64 (.ofNat 0)), .nils])), (.struct [(0, 3), (1, 102)]), false⟩ := by kernel_rfl
theorem tk109 : tiOf Tryz.prog 109 = some ⟨false, 1, 24, (some .nils), (.slice 151), false⟩ := by kernel_rfl
theorem tk111 : tiOf Tryz.prog 111 = some ⟨true, 4, 64, (some (.agg [(.int .i64 (.ofNat 0)), (.str []), .nils, (.str [])])), (.struct [(0, 3), (1, 9), (2, 109), (3, 9)]), false⟩ := by kernel_rfl
theorem tk120 : tiOf Tryz.prog 120 = some ⟨false, 1, 24, (some .nils), (.slice 131), false⟩ := by kernel_rfl
theorem tk125 : tiOf Tryz.prog 125 = some ⟨true, 5, 72, (some (.agg [.nils, (.int .i64 (.ofNat 0)), (.int .i64 (.ofNat 0)), (.bool false), .nils])), (.struct [(0, 120), (1, 3), (2, 3), (3, 4), (4, 78)]), false⟩ := by kernel_rfl
theorem tk129 : tiOf Tryz.prog 129 = some ⟨true, 3, 48, (some (.agg [(.str []), .nils, (.int .i64 (.ofNat 0))])), (.struct [(0, 9), (1, 56), (2, 3)]), false⟩ := by kernel_rfl
theorem tk131 : tiOf Tryz.prog 131 = some ⟨true, 2, 24, (some (.agg [(.int .i64 (.ofNat 0)), (.str [])])), (.struct [(0, 3), (1, 9)]), true⟩ := by kernel_rfl
theorem tk138 : tiOf Tryz.prog 138 = some ⟨false, 1, 24, (some .nils), (.slice 4), false⟩ := by kernel_rfl
theorem tk139 : tiOf Tryz.prog 139 = some ⟨false, 1, 24, (some .nils), (.slice 105), false⟩ := by kernel_rfl
theorem tk149 : tiOf Tryz.prog 149 = some ⟨false, 1, 24, (some .nils), (.slice 182), false⟩ := by kernel_rfl
theorem tk151 : tiOf Tryz.prog 151 = some ⟨true, 1, 24, (some (.agg [.nils])), (.struct [(0, 149)]), false⟩ := by kernel_rfl
theorem tk159 : tiOf Tryz.prog 159 = some ⟨true, 5, 88, (some (.agg [(.int .i64 (.ofNat 0)), (.str []), .nils, (.str []), .nils])), (.struct [(0, 3), (1, 9), (2, 109), (3, 9), (4, 35)]), false⟩ := by kernel_rfl
theorem tk163 : tiOf Tryz.prog 163 = some ⟨false, 1, 24, (some .nils), (.slice 170), false⟩ := by kernel_rfl
theorem tk165 : tiOf Tryz.prog 165 = some ⟨true, 5, 104, (some (.agg [.nils, .nils, .nils, .nils, (.int .i64 (.ofNat 0))])), (.struct [(0, 81), (2, 26), (3, 163), (4, 3)]), false⟩ := by kernel_rfl
theorem tk170 : tiOf Tryz.prog 170 = some ⟨true, 3, 40, (some (.agg [(.int .i64 (.ofNat 0)), (.int .i64 (.ofNat 0)), .nils])), (.struct [(0, 3), (1, 3), (2, 56)]), false⟩ := by kernel_rfl
theorem tk173 : tiOf Tryz.prog 173 = some ⟨true, 2, 24, (some (.agg [(.str []), (.int .i64 (.ofNat 0))])), (.struct [(0, 9), (1, 3)]), true⟩ := by kernel_rfl
theorem tk182 : tiOf Tryz.prog 182 = some ⟨true, 4, 56, (some (.agg [(.int .i64 (.ofNat 0)), (.int .i64 (.ofNat 0)), (.str []), .nils])), (.struct [(0, 3), (1, 3), (2, 9), (3, 35)]), false⟩ := by kernel_rfl
def AllQ {α : Type} (Q : α → Prop) : List α → Prop
 | [] => True
 | p :: r => Q p ∧ AllQ Q r
theorem AllQ.of {α : Type} {Q : α → Prop} : ∀ {l : List α}, AllQ Q l → ∀ p ∈ l, Q p
 | p :: r, h, q, hq => by
  rcases List.mem_cons.1 hq with rfl | hq
  ·exact h.1
  ·exact AllQ.of h.2 q hq
theorem ty_all : AllQ (fun p => tiOf Tryz.prog p.1 = some p.2) tyL := ⟨tk3, tk4, tk5, tk9, tk22, tk24, tk26, tk29, tk31, tk35, tk38, tk47, tk49, tk54, tk56, tk57, tk59, tk64, tk75, tk78, tk79, tk81, tk91, tk95, tk99, tk101, tk102, tk105, tk109, tk111, tk120, tk125, tk129, tk131, tk138, tk139, tk149, tk151, tk159, tk163, tk165, tk170, tk173, tk182, trivial⟩
theorem ty_ok : ∀ t x, S.ty t = some x → tiOf S.P t = some x := fun t x h => ty_all.of (t, x) (tyF_mem tyL t x h)
theorem extG_cases {f : FuncId} {g : List T → Option T} (h : extG f = some g) : False := by
 unfold extG at h
 cases h
theorem ann_all : AllQ (fun p => ∃ fn c, S.P.funcs[p.1]? = some fn ∧ fn.body = some c ∧ okCode S.ty S.pf p.2 fn.ntmps c = true ∧ (fn.name == "runtime.NumGoroutine") = false) annL := ⟨k21, k22, k29, k31, k32, k35, k43, k50, k52, k53, k54, k55, k56, k57, k58, k59, k66, k67, k68, k73, k74, k75, k76, k77, k78, k79, k80, k81, k82, k83, k86, k87, k88, k89, k90, k91, k92, k93, k94, k98, k99, k100, k101, k102, k103, k104, k105, k106, k107, k109, k110, k111, k112, k113, k114, k115, k116, k117, k118, k119, k120, k121, k122, k123, k124, k125, k126, k3, k4, k7, k11, k24, k5, k6, k8, k9, k10, k12, k13, k14, k15, k16, k17, k18, k19, k20, k23, k25, k26, k27, k28, k30, k33, k34, k36, k37, k38, k39, k40, k41, k42, k44, k45, k46, k47, k48, k49, k51, k60, k61, k62, k63, k64, k65, k69, k70, k71, k72, k84, k85, k95, k96, k97, k108, trivial⟩
theorem sysOk : SysOk S where
 ty := ty_ok
 mixed := by kernel_rfl
 fn := fun f A h => ann_all.of (f, A) (annF_mem _ _ _ (show annF annL f = some A from h))
 ext := fun f args σ v σ' _ h => by
  have h : extF f args σ = some (v, σ') := h
  unfold extF at h
  split at h
  ·rename_i gg hg
   have hf := extG_cases hg
   exact hf.elim
  ·cases h
 extPure := fun f args σ v σ' hp ha h => by
  have h : extF f args σ = some (v, σ') := h
  unfold extF at h
  split at h
  ·rename_i gg hg
   obtain ⟨h1, h2⟩ := gExt_pure ha h
   refine ⟨h1, fun σ2 => ?_⟩
   show extF f args σ2 = _
   unfold extF
   rw [hg]
   exact h2 σ2
  ·cases h
end X
