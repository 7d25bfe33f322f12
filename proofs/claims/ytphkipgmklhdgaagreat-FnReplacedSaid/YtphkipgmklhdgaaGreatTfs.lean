/- The seat's table of fast texts, and that the system stands. -/
import Derived.Test.YtphkipgmklhdgaaGreatTfc0
import Derived.Test.YtphkipgmklhdgaaGreatTfk0
import Derived.Test.YtphkipgmklhdgaaGreatTfk1
open Go Go.V Go.Proofs
namespace X
set_option maxRecDepth 100000
set_option maxHeartbeats 4000000
set_option linter.unusedSimpArgs false
set_option linter.unusedVariables false
noncomputable def tab : Tab := { st := .mk (.mk x13 x21 x22 x23 x25 x26 x27 x28 x29 x30 x31 x32 x33 x35 x36 x37) (.mk x38 x39 x40 x41 x42 x43 x44 x45 x46 x47 x48 x49 x50 x53 x54 x55) (.mk x56 x57 x58 x59 x60 x61 x62 x63 x64 x65 x66 x72 x73 x74 x75 x76) (.mk x77 x78 x85 x86 x87 x88 x89 x90 x96 x97 x98 x99 x100 x104 x105 x106) (.mk x107 x108 x109 x110 .no .no .no .no .no .no .no .no .no .no .no .no) (.mk .no .no .no .no .no .no .no .no .no .no .no .no .no .no .no .no) (.mk .no .no .no .no .no .no .no .no .no .no .no .no .no .no .no .no) (.mk .no .no .no .no .no .no .no .no .no .no .no .no .no .no .no .no) (.mk .no .no .no .no .no .no .no .no .no .no .no .no .no .no .no .no) (.mk .no .no .no .no .no .no .no .no .no .no .no .no .no .no .no .no) (.mk .no .no .no .no .no .no .no .no .no .no .no .no .no .no .no .no) (.mk .no .no .no .no .no .no .no .no .no .no .no .no .no .no .no .no) (.mk .no .no .no .no .no .no .no .no .no .no .no .no .no .no .no .no) (.mk .no .no .no .no .no .no .no .no .no .no .no .no .no .no .no .no) (.mk .no .no .no .no .no .no .no .no .no .no .no .no .no .no .no .no) (.mk .no .no .no .no .no .no .no .no .no .no .no .no .no .no .no .no), dyn := [] }
theorem tab_ok : tab.All (Entry ixf S) := by
  constructor
  · intro x hx e he
    simp only [tab, F16.toList, List.mem_cons, List.not_mem_nil, or_false] at hx
    rcases hx with rfl | rfl | rfl | rfl | rfl | rfl | rfl | rfl | rfl | rfl | rfl | rfl | rfl | rfl | rfl | rfl
    · simp only [F16.toList, List.mem_cons, List.not_mem_nil, or_false] at he
      rcases he with rfl | rfl | rfl | rfl | rfl | rfl | rfl | rfl | rfl | rfl | rfl | rfl | rfl | rfl | rfl | rfl
      · exact e13
      · exact e21
      · exact e22
      · exact e23
      · exact e25
      · exact e26
      · exact e27
      · exact e28
      · exact e29
      · exact e30
      · exact e31
      · exact e32
      · exact e33
      · exact e35
      · exact e36
      · exact e37
    · simp only [F16.toList, List.mem_cons, List.not_mem_nil, or_false] at he
      rcases he with rfl | rfl | rfl | rfl | rfl | rfl | rfl | rfl | rfl | rfl | rfl | rfl | rfl | rfl | rfl | rfl
      · exact e38
      · exact e39
      · exact e40
      · exact e41
      · exact e42
      · exact e43
      · exact e44
      · exact e45
      · exact e46
      · exact e47
      · exact e48
      · exact e49
      · exact e50
      · exact e53
      · exact e54
      · exact e55
    · simp only [F16.toList, List.mem_cons, List.not_mem_nil, or_false] at he
      rcases he with rfl | rfl | rfl | rfl | rfl | rfl | rfl | rfl | rfl | rfl | rfl | rfl | rfl | rfl | rfl | rfl
      · exact e56
      · exact e57
      · exact e58
      · exact e59
      · exact e60
      · exact e61
      · exact e62
      · exact e63
      · exact e64
      · exact e65
      · exact e66
      · exact e72
      · exact e73
      · exact e74
      · exact e75
      · exact e76
    · simp only [F16.toList, List.mem_cons, List.not_mem_nil, or_false] at he
      rcases he with rfl | rfl | rfl | rfl | rfl | rfl | rfl | rfl | rfl | rfl | rfl | rfl | rfl | rfl | rfl | rfl
      · exact e77
      · exact e78
      · exact e85
      · exact e86
      · exact e87
      · exact e88
      · exact e89
      · exact e90
      · exact e96
      · exact e97
      · exact e98
      · exact e99
      · exact e100
      · exact e104
      · exact e105
      · exact e106
    · simp only [F16.toList, List.mem_cons, List.not_mem_nil, or_false] at he
      rcases he with rfl | rfl | rfl | rfl | rfl | rfl | rfl | rfl | rfl | rfl | rfl | rfl | rfl | rfl | rfl | rfl
      · exact e107
      · exact e108
      · exact e109
      · exact e110
      · exact trivial
      · exact trivial
      · exact trivial
      · exact trivial
      · exact trivial
      · exact trivial
      · exact trivial
      · exact trivial
      · exact trivial
      · exact trivial
      · exact trivial
      · exact trivial
    · simp only [F16.toList, List.mem_cons, List.not_mem_nil, or_false] at he
      rcases he with rfl | rfl | rfl | rfl | rfl | rfl | rfl | rfl | rfl | rfl | rfl | rfl | rfl | rfl | rfl | rfl
      · exact trivial
      · exact trivial
      · exact trivial
      · exact trivial
      · exact trivial
      · exact trivial
      · exact trivial
      · exact trivial
      · exact trivial
      · exact trivial
      · exact trivial
      · exact trivial
      · exact trivial
      · exact trivial
      · exact trivial
      · exact trivial
    · simp only [F16.toList, List.mem_cons, List.not_mem_nil, or_false] at he
      rcases he with rfl | rfl | rfl | rfl | rfl | rfl | rfl | rfl | rfl | rfl | rfl | rfl | rfl | rfl | rfl | rfl
      · exact trivial
      · exact trivial
      · exact trivial
      · exact trivial
      · exact trivial
      · exact trivial
      · exact trivial
      · exact trivial
      · exact trivial
      · exact trivial
      · exact trivial
      · exact trivial
      · exact trivial
      · exact trivial
      · exact trivial
      · exact trivial
    · simp only [F16.toList, List.mem_cons, List.not_mem_nil, or_false] at he
      rcases he with rfl | rfl | rfl | rfl | rfl | rfl | rfl | rfl | rfl | rfl | rfl | rfl | rfl | rfl | rfl | rfl
      · exact trivial
      · exact trivial
      · exact trivial
      · exact trivial
      · exact trivial
      · exact trivial
      · exact trivial
      · exact trivial
      · exact trivial
      · exact trivial
      · exact trivial
      · exact trivial
      · exact trivial
      · exact trivial
      · exact trivial
      · exact trivial
    · simp only [F16.toList, List.mem_cons, List.not_mem_nil, or_false] at he
      rcases he with rfl | rfl | rfl | rfl | rfl | rfl | rfl | rfl | rfl | rfl | rfl | rfl | rfl | rfl | rfl | rfl
      · exact trivial
      · exact trivial
      · exact trivial
      · exact trivial
      · exact trivial
      · exact trivial
      · exact trivial
      · exact trivial
      · exact trivial
      · exact trivial
      · exact trivial
      · exact trivial
      · exact trivial
      · exact trivial
      · exact trivial
      · exact trivial
    · simp only [F16.toList, List.mem_cons, List.not_mem_nil, or_false] at he
      rcases he with rfl | rfl | rfl | rfl | rfl | rfl | rfl | rfl | rfl | rfl | rfl | rfl | rfl | rfl | rfl | rfl
      · exact trivial
      · exact trivial
      · exact trivial
      · exact trivial
      · exact trivial
      · exact trivial
      · exact trivial
      · exact trivial
      · exact trivial
      · exact trivial
      · exact trivial
      · exact trivial
      · exact trivial
      · exact trivial
      · exact trivial
      · exact trivial
    · simp only [F16.toList, List.mem_cons, List.not_mem_nil, or_false] at he
      rcases he with rfl | rfl | rfl | rfl | rfl | rfl | rfl | rfl | rfl | rfl | rfl | rfl | rfl | rfl | rfl | rfl
      · exact trivial
      · exact trivial
      · exact trivial
      · exact trivial
      · exact trivial
      · exact trivial
      · exact trivial
      · exact trivial
      · exact trivial
      · exact trivial
      · exact trivial
      · exact trivial
      · exact trivial
      · exact trivial
      · exact trivial
      · exact trivial
    · simp only [F16.toList, List.mem_cons, List.not_mem_nil, or_false] at he
      rcases he with rfl | rfl | rfl | rfl | rfl | rfl | rfl | rfl | rfl | rfl | rfl | rfl | rfl | rfl | rfl | rfl
      · exact trivial
      · exact trivial
      · exact trivial
      · exact trivial
      · exact trivial
      · exact trivial
      · exact trivial
      · exact trivial
      · exact trivial
      · exact trivial
      · exact trivial
      · exact trivial
      · exact trivial
      · exact trivial
      · exact trivial
      · exact trivial
    · simp only [F16.toList, List.mem_cons, List.not_mem_nil, or_false] at he
      rcases he with rfl | rfl | rfl | rfl | rfl | rfl | rfl | rfl | rfl | rfl | rfl | rfl | rfl | rfl | rfl | rfl
      · exact trivial
      · exact trivial
      · exact trivial
      · exact trivial
      · exact trivial
      · exact trivial
      · exact trivial
      · exact trivial
      · exact trivial
      · exact trivial
      · exact trivial
      · exact trivial
      · exact trivial
      · exact trivial
      · exact trivial
      · exact trivial
    · simp only [F16.toList, List.mem_cons, List.not_mem_nil, or_false] at he
      rcases he with rfl | rfl | rfl | rfl | rfl | rfl | rfl | rfl | rfl | rfl | rfl | rfl | rfl | rfl | rfl | rfl
      · exact trivial
      · exact trivial
      · exact trivial
      · exact trivial
      · exact trivial
      · exact trivial
      · exact trivial
      · exact trivial
      · exact trivial
      · exact trivial
      · exact trivial
      · exact trivial
      · exact trivial
      · exact trivial
      · exact trivial
      · exact trivial
    · simp only [F16.toList, List.mem_cons, List.not_mem_nil, or_false] at he
      rcases he with rfl | rfl | rfl | rfl | rfl | rfl | rfl | rfl | rfl | rfl | rfl | rfl | rfl | rfl | rfl | rfl
      · exact trivial
      · exact trivial
      · exact trivial
      · exact trivial
      · exact trivial
      · exact trivial
      · exact trivial
      · exact trivial
      · exact trivial
      · exact trivial
      · exact trivial
      · exact trivial
      · exact trivial
      · exact trivial
      · exact trivial
      · exact trivial
    · simp only [F16.toList, List.mem_cons, List.not_mem_nil, or_false] at he
      rcases he with rfl | rfl | rfl | rfl | rfl | rfl | rfl | rfl | rfl | rfl | rfl | rfl | rfl | rfl | rfl | rfl
      · exact trivial
      · exact trivial
      · exact trivial
      · exact trivial
      · exact trivial
      · exact trivial
      · exact trivial
      · exact trivial
      · exact trivial
      · exact trivial
      · exact trivial
      · exact trivial
      · exact trivial
      · exact trivial
      · exact trivial
      · exact trivial
  · intro e he
    simp only [tab, List.not_mem_nil] at he
theorem tyF_mem (l : List (Nat × TI)) (t : TypeId) (x : TI) (h : tyF l t = some x) : (t, x) ∈ l := by
  induction l with
  | nil => simp [tyF] at h
  | cons p r ih =>
    obtain ⟨g, B⟩ := p
    simp only [tyF] at h
    split at h
    · rename_i e; cases h; rw [Nat.eq_of_beq_eq_true e]; simp
    · simp [ih h]
theorem annF_mem (l : List (Nat × Ann)) (f : FuncId) (A : Ann) (h : annF l f = some A) : (f, A) ∈ l := by
  induction l with
  | nil => simp [annF] at h
  | cons p r ih =>
    obtain ⟨g, B⟩ := p
    simp only [annF] at h
    split at h
    · rename_i e; cases h; rw [Nat.eq_of_beq_eq_true e]; simp
    · simp [ih h]
theorem tk3 : tiOf Tryz.prog 3 = some { agg := false, size := 1, bytes := 8, zero := (some (.int .i64 (.ofNat 0))), shape := (.int .i64), eqs := false } := by kernel_rfl
theorem tk4 : tiOf Tryz.prog 4 = some { agg := false, size := 1, bytes := 1, zero := (some (.bool false)), shape := .bool, eqs := false } := by kernel_rfl
theorem tk5 : tiOf Tryz.prog 5 = some { agg := false, size := 1, bytes := 1, zero := (some (.int .u8 (.ofNat 0))), shape := (.int .u8), eqs := false } := by kernel_rfl
theorem tk9 : tiOf Tryz.prog 9 = some { agg := false, size := 1, bytes := 16, zero := (some (.str [])), shape := .str, eqs := false } := by kernel_rfl
theorem tk22 : tiOf Tryz.prog 22 = some { agg := false, size := 1, bytes := 24, zero := (some .nils), shape := (.slice 5), eqs := false } := by kernel_rfl
theorem tk24 : tiOf Tryz.prog 24 = some { agg := false, size := 1, bytes := 24, zero := (some .nils), shape := (.slice 66), eqs := false } := by kernel_rfl
theorem tk26 : tiOf Tryz.prog 26 = some { agg := true, size := 1, bytes := 24, zero := (some (.agg [.nils])), shape := (.struct [(0, 24)]), eqs := false } := by kernel_rfl
theorem tk29 : tiOf Tryz.prog 29 = some { agg := false, size := 1, bytes := 24, zero := (some .nils), shape := (.slice 34), eqs := false } := by kernel_rfl
theorem tk34 : tiOf Tryz.prog 34 = some { agg := true, size := 2, bytes := 16, zero := (some (.agg [(.int .i64 (.ofNat 0)), (.int .i64 (.ofNat 0))])), shape := (.struct [(0, 3), (1, 3)]), eqs := true } := by kernel_rfl
theorem tk45 : tiOf Tryz.prog 45 = some { agg := false, size := 1, bytes := 24, zero := (some .nils), shape := (.slice 9), eqs := false } := by kernel_rfl
theorem tk49 : tiOf Tryz.prog 49 = some { agg := false, size := 1, bytes := 24, zero := (some .nils), shape := (.slice 3), eqs := false } := by kernel_rfl
theorem tk51 : tiOf Tryz.prog 51 = some { agg := true, size := 3, bytes := 40, zero := (some (.agg [.nils, (.int .i64 (.ofNat 0)), (.int .i64 (.ofNat 0))])), shape := (.struct [(0, 22), (1, 3), (2, 3)]), eqs := false } := by kernel_rfl
theorem tk55 : tiOf Tryz.prog 55 = some { agg := false, size := 1, bytes := 24, zero := (some .nils), shape := (.slice 96), eqs := false } := by kernel_rfl
theorem tk56 : tiOf Tryz.prog 56 = some { agg := false, size := 1, bytes := 24, zero := (some .nils), shape := (.slice 77), eqs := false } := by kernel_rfl
theorem tk58 : tiOf Tryz.prog 58 = some { agg := true, size := 2, bytes := 48, zero := (some (.agg [.nils, .nils])), shape := (.struct [(0, 55), (1, 56)]), eqs := false } := by kernel_rfl
theorem tk64 : tiOf Tryz.prog 64 = some { agg := false, size := 1, bytes := 24, zero := (some .nils), shape := (.slice 108), eqs := false } := by kernel_rfl
theorem tk66 : tiOf Tryz.prog 66 = some { agg := true, size := 3, bytes := 64, zero := (some (.agg [(.str []), .nils, .nils])), shape := (.struct [(0, 9), (1, 45), (2, 64)]), eqs := false } := by kernel_rfl
theorem tk69 : tiOf Tryz.prog 69 = some { agg := false, size := 1, bytes := 24, zero := (some .nils), shape := (.slice 79), eqs := false } := by kernel_rfl
theorem tk74 : tiOf Tryz.prog 74 = some { agg := true, size := 5, bytes := 72, zero := (some (.agg [.nils, (.int .i64 (.ofNat 0)), (.int .i64 (.ofNat 0)), (.bool false), .nils])), shape := (.struct [(0, 69), (1, 3), (2, 3), (3, 4), (4, 55)]), eqs := false } := by kernel_rfl
theorem tk77 : tiOf Tryz.prog 77 = some { agg := true, size := 3, bytes := 48, zero := (some (.agg [(.str []), .nils, (.int .i64 (.ofNat 0))])), shape := (.struct [(0, 9), (1, 45), (2, 3)]), eqs := false } := by kernel_rfl
theorem tk79 : tiOf Tryz.prog 79 = some { agg := true, size := 2, bytes := 24, zero := (some (.agg [(.int .i64 (.ofNat 0)), (.str [])])), shape := (.struct [(0, 3), (1, 9)]), eqs := true } := by kernel_rfl
theorem tk84 : tiOf Tryz.prog 84 = some { agg := false, size := 1, bytes := 24, zero := (some .nils), shape := (.slice 90), eqs := false } := by kernel_rfl
theorem tk86 : tiOf Tryz.prog 86 = some { agg := true, size := 1, bytes := 24, zero := (some (.agg [.nils])), shape := (.struct [(0, 84)]), eqs := false } := by kernel_rfl
theorem tk90 : tiOf Tryz.prog 90 = some { agg := true, size := 5, bytes := 88, zero := (some (.agg [(.int .i64 (.ofNat 0)), .nils, (.int .i64 (.ofNat 0)), .nils, .nils])), shape := (.struct [(0, 3), (1, 49), (2, 3), (3, 49), (4, 49)]), eqs := false } := by kernel_rfl
theorem tk94 : tiOf Tryz.prog 94 = some { agg := false, size := 1, bytes := 24, zero := (some .nils), shape := (.slice 146), eqs := false } := by kernel_rfl
theorem tk96 : tiOf Tryz.prog 96 = some { agg := true, size := 5, bytes := 88, zero := (some (.agg [(.int .i64 (.ofNat 0)), (.str []), .nils, (.str []), .nils])), shape := (.struct [(0, 3), (1, 9), (2, 94), (3, 9), (4, 49)]), eqs := false } := by kernel_rfl
theorem tk101 : tiOf Tryz.prog 101 = some { agg := false, size := 1, bytes := 24, zero := (some .nils), shape := (.slice 111), eqs := false } := by kernel_rfl
theorem tk103 : tiOf Tryz.prog 103 = some { agg := true, size := 5, bytes := 104, zero := (some (.agg [.nils, .nils, .nils, .nils, (.int .i64 (.ofNat 0))])), shape := (.struct [(0, 58), (2, 26), (3, 101), (4, 3)]), eqs := false } := by kernel_rfl
theorem tk105 : tiOf Tryz.prog 105 = some { agg := false, size := 1, bytes := 24, zero := (some .nils), shape := (.slice 123), eqs := false } := by kernel_rfl
theorem tk108 : tiOf Tryz.prog 108 = some { agg := true, size := 1, bytes := 24, zero := (some (.agg [.nils])), shape := (.struct [(0, 105)]), eqs := false } := by kernel_rfl
theorem tk111 : tiOf Tryz.prog 111 = some { agg := true, size := 3, bytes := 40, zero := (some (.agg [(.int .i64 (.ofNat 0)), (.int .i64 (.ofNat 0)), .nils])), shape := (.struct [(0, 3), (1, 3), (2, 45)]), eqs := false } := by kernel_rfl
theorem tk116 : tiOf Tryz.prog 116 = some { agg := true, size := 6, bytes := 80, zero := (some (.agg [.nils, (.str []), .nils, (.int .i64 (.ofNat 0)), (.bool false), (.bool false)])), shape := (.struct [(0, 26), (1, 9), (2, 84), (3, 3), (4, 4), (5, 4)]), eqs := false } := by kernel_rfl
theorem tk123 : tiOf Tryz.prog 123 = some { agg := true, size := 4, bytes := 64, zero := (some (.agg [(.int .i64 (.ofNat 0)), (.str []), .nils, (.str [])])), shape := (.struct [(0, 3), (1, 9), (2, 94), (3, 9)]), eqs := false } := by kernel_rfl
theorem tk133 : tiOf Tryz.prog 133 = some { agg := false, size := 1, bytes := 24, zero := (some .nils), shape := (.slice 4), eqs := false } := by kernel_rfl
theorem tk134 : tiOf Tryz.prog 134 = some { agg := false, size := 1, bytes := 24, zero := (some .nils), shape := (.slice 139), eqs := false } := by kernel_rfl
theorem tk136 : tiOf Tryz.prog 136 = some { agg := false, size := 1, bytes := 24, zero := (some .nils), shape := (.slice 173), eqs := false } := by kernel_rfl
theorem tk139 : tiOf Tryz.prog 139 = some { agg := true, size := 2, bytes := 32, zero := (some (.agg [(.int .i64 (.ofNat 0)), .nils])), shape := (.struct [(0, 3), (1, 136)]), eqs := false } := by kernel_rfl
theorem tk144 : tiOf Tryz.prog 144 = some { agg := false, size := 1, bytes := 24, zero := (some .nils), shape := (.slice 152), eqs := false } := by kernel_rfl
theorem tk146 : tiOf Tryz.prog 146 = some { agg := true, size := 1, bytes := 24, zero := (some (.agg [.nils])), shape := (.struct [(0, 144)]), eqs := false } := by kernel_rfl
theorem tk152 : tiOf Tryz.prog 152 = some { agg := true, size := 4, bytes := 56, zero := (some (.agg [(.int .i64 (.ofNat 0)), (.int .i64 (.ofNat 0)), (.str []), .nils])), shape := (.struct [(0, 3), (1, 3), (2, 9), (3, 49)]), eqs := false } := by kernel_rfl
theorem tk173 : tiOf Tryz.prog 173 = some { agg := true, size := 2, bytes := 24, zero := (some (.agg [(.str []), (.int .i64 (.ofNat 0))])), shape := (.struct [(0, 9), (1, 3)]), eqs := true } := by kernel_rfl
def AllQ {α : Type} (Q : α → Prop) : List α → Prop
  | [] => True
  | p :: r => Q p ∧ AllQ Q r
theorem AllQ.of {α : Type} {Q : α → Prop} : ∀ {l : List α}, AllQ Q l → ∀ p ∈ l, Q p
  | p :: r, h, q, hq => by
    rcases List.mem_cons.1 hq with rfl | hq
    · exact h.1
    · exact AllQ.of h.2 q hq
theorem ty_all : AllQ (fun p => tiOf Tryz.prog p.1 = some p.2) tyL := ⟨tk3, tk4, tk5, tk9, tk22, tk24, tk26, tk29, tk34, tk45, tk49, tk51, tk55, tk56, tk58, tk64, tk66, tk69, tk74, tk77, tk79, tk84, tk86, tk90, tk94, tk96, tk101, tk103, tk105, tk108, tk111, tk116, tk123, tk133, tk134, tk136, tk139, tk144, tk146, tk152, tk173, trivial⟩
theorem ty_ok : ∀ t x, S.ty t = some x → tiOf S.P t = some x := fun t x h => ty_all.of (t, x) (tyF_mem tyL t x h)
theorem extG_cases {f : FuncId} {g : List T → Option T} (h : extG f = some g) : False := by
  unfold extG at h
  cases h
theorem ann_all : AllQ (fun p => ∃ fn c, S.P.funcs[p.1]? = some fn ∧ fn.body = some c ∧ okCode S.ty S.pf p.2 fn.ntmps c = true ∧ (fn.name == "runtime.NumGoroutine") = false) annL := ⟨k13, k21, k22, k23, k25, k26, k27, k28, k29, k30, k31, k32, k33, k35, k36, k37, k38, k39, k40, k41, k42, k43, k44, k45, k46, k47, k48, k49, k50, k53, k54, k55, k56, k57, k58, k59, k60, k61, k62, k63, k64, k65, k66, k72, k73, k74, k75, k76, k77, k78, k85, k86, k87, k88, k89, k90, k96, k97, k98, k99, k100, k104, k105, k106, k107, k108, k109, k110, k3, k4, k5, k6, k7, k8, k9, k10, k11, k12, k14, k15, k16, k17, k18, k19, k20, k24, k34, k51, k52, k67, k68, k69, k70, k71, k79, k80, k81, k82, k83, k84, k91, k92, k93, k94, k95, k101, k102, k103, trivial⟩
theorem sysOk : SysOk S where
  ty := ty_ok
  mixed := by kernel_rfl
  fn := fun f A h => ann_all.of (f, A) (annF_mem _ _ _ (show annF annL f = some A from h))
  ext := fun f args σ v σ' _ h => by
    have h : extF f args σ = some (v, σ') := h
    unfold extF at h
    split at h
    · rename_i gg hg
      have hf := extG_cases hg
      exact hf.elim
    · cases h
  extPure := fun f args σ v σ' hp ha h => by
    have h : extF f args σ = some (v, σ') := h
    unfold extF at h
    split at h
    · rename_i gg hg
      obtain ⟨h1, h2⟩ := gExt_pure ha h
      refine ⟨h1, fun σ2 => ?_⟩
      show extF f args σ2 = _
      unfold extF
      rw [hg]
      exact h2 σ2
    · cases h
end X
