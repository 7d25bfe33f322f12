/-
  FnExactReplaced: what each function that the law reaches gives, in the interpreter. No condition beyond those named.
-/
import Derived.Test.YthpjheboegobkaaProg
import Derived.Test.YthpjheboegobkaaVc
import Derived.KernelRfl
import Derived.IntWalk
open Go Go.V Go.Proofs
namespace X
set_option maxRecDepth 100000
set_option maxHeartbeats 4000000
set_option linter.unusedSimpArgs false
set_option linter.unusedVariables false
abbrev A3 : Ann := { vars := [0,1,2,6,7,8,9,10,11,12], kills := [], owned := [], isPure := true }
abbrev A6 : Ann := { vars := [0,1,4], kills := [], owned := [], isPure := true }
abbrev A7 : Ann := { vars := [0,1,2,6,7,8,9,10], kills := [], owned := [], isPure := true }
abbrev A8 : Ann := { vars := [0,2,3,4], kills := [], owned := [], isPure := true }
abbrev A9 : Ann := { vars := [0,1,2,6,7,8,9,11,12,13,14], kills := [], owned := [], isPure := true }
abbrev A10 : Ann := { vars := [0,1,4,5], kills := [], owned := [], isPure := true }
abbrev A20 : Ann := { vars := [0,1,2,3], kills := [], owned := [], isPure := true }
abbrev A21 : Ann := { vars := [0,1,2,6], kills := [], owned := [], isPure := true }
abbrev A22 : Ann := { vars := [0,1,2,3,4], kills := [], owned := [], isPure := true }
def annL : List (Nat × Ann) := [(3, A3), (6, A6), (7, A7), (8, A8), (9, A9), (10, A10), (20, A20), (21, A21), (22, A22)]
def annF (l : List (Nat × Ann)) (f : FuncId) : Option Ann := match l with
  | [] => none
  | (g, A) :: r => if g = f then some A else annF r f
noncomputable def S : Sy := { P := Try.prog, ty := tiOf Try.prog, ann := annF annL, ext := fun _ _ _ => none, extPure := fun _ => false }
@[simp] theorem ty3 : S.ty 3 = some { agg := false, size := 1, bytes := 8, zero := some (.int .i64 0), shape := .int .i64, eqs := false } := by kernel_rfl
@[simp] theorem ty9 : S.ty 9 = some { agg := false, size := 1, bytes := 16, zero := some (.str []), shape := .str, eqs := false } := by kernel_rfl
@[simp] theorem ty46 : S.ty 46 = some { agg := true, size := 2, bytes := 16, zero := some (.agg [.int .i64 0, .int .i64 0]), shape := .struct [(0,3),(1,3)], eqs := true } := by kernel_rfl
@[simp] theorem ty48 : S.ty 48 = some { agg := true, size := 2, bytes := 16, zero := some (.agg [.int .i64 0, .int .i64 0]), shape := .struct [(0,3),(1,3)], eqs := true } := by kernel_rfl
@[simp] theorem ty22 : S.ty 22 = some { agg := false, size := 1, bytes := 24, zero := some .nils, shape := .slice 48, eqs := false } := by kernel_rfl
@[simp] theorem ty26 : S.ty 26 = some { agg := false, size := 1, bytes := 24, zero := some .nils, shape := .slice 46, eqs := false } := by kernel_rfl
abbrev I (n : Int) : T := .int .i64 n
abbrev B (b : Bool) : T := .bool b
abbrev Sp (p : Int × Int) : T := .agg [I p.1, I p.2]
/-- the list of spans -/
abbrev Sps (l : List (Int × Int)) : T := .list (l.map Sp)

theorem toSpan_lv (a b : Int) : LV S 20 [.t (.agg [.int .i64 a, .int .i64 b])] [] = some (.t (.agg [.int .i64 a, .int .i64 b]), [.cells [.t (I a), .t (I b)] 0 0, .cells [.t (I a), .t (I b)] 0 0, .cells [.t (I a), .t (I b)] 0 0]) := by
  refine LV_body (A := A20) rfl Try.func20 rfl ?_
  repeat apply W_seq
  refine W_region (by simp; exact ⟨rfl, rfl⟩) ?_
  try simp only [thenQ, blockQ, Ann.kill, List.find?_nil]
  repeat apply W_seq
  refine W_region (by simp; exact ⟨rfl, rfl⟩) ?_
  try simp only [thenQ, blockQ, Ann.kill, List.find?_nil]
  repeat apply W_seq
  refine W_region (by simp; exact ⟨rfl, rfl⟩) ?_
  try simp only [thenQ, blockQ, Ann.kill, List.find?_nil]
  repeat apply W_seq
  refine W_region (by simp; exact ⟨rfl, rfl⟩) ?_
  try simp only [thenQ, blockQ, Ann.kill, List.find?_nil]
  repeat apply W_seq
  refine W_region (by simp; exact ⟨rfl, rfl⟩) ?_
  try simp only [thenQ, blockQ, Ann.kill, List.find?_nil]
  refine W_ret ?_
  try simp only [thenQ, blockQ]
  simp [Try.f20]
@[simp] theorem toSpan_ld (a b : Int) (σ : Store) : LD S 20 [.t (.agg [.int .i64 a, .int .i64 b])] σ = some (.t (.agg [.int .i64 a, .int .i64 b]), σ) :=
  LD_pure (A := A20) rfl rfl rfl (toSpan_lv a b) rfl σ

theorem within_lv (n lo hi : Int) : LV S 21 [.t (I n), .t (I lo), .t (I hi)] [] = some (.t (B (decide (lo ≤ n) && decide (n ≤ hi))), []) := by
  refine LV_body (A := A21) rfl Try.func21 rfl ?_
  repeat apply W_seq
  refine W_region (by simp; exact ⟨rfl, rfl⟩) ?_
  try simp only [thenQ, blockQ, Ann.kill, List.find?_nil]
  by_cases h1 : lo ≤ n <;> by_cases h2 : n ≤ hi
  all_goals
    repeat apply W_seq
    refine W_region (by simp [h1, h2]; exact ⟨rfl, rfl⟩) ?_
    try simp only [thenQ, blockQ, Ann.kill, List.find?_nil]
    refine W_ret ?_
    try simp only [thenQ, blockQ]
    simp [Try.f21, h1, h2]
@[simp] theorem within_ld (n lo hi : Int) (σ : Store) : LD S 21 [.t (I n), .t (I lo), .t (I hi)] σ = some (.t (B (decide (lo ≤ n) && decide (n ≤ hi))), σ) :=
  LD_pure (A := A21) rfl rfl rfl (within_lv n lo hi) rfl σ

@[simp] theorem eqSpan_ld (a b c d : Int) (σ : Store) : LD S 22 [.t (.agg [.int .i64 a, .int .i64 b]), .t (.agg [.int .i64 c, .int .i64 d])] σ = some (.t (B (decide (a = c) && decide (b = d))), σ) := by
  refine LD_pure (A := A22) (v := .t (B (decide (a = c) && decide (b = d)))) (σ0 := [.cells [.t (I a), .t (I b)] 0 0, .cells [.t (I c), .t (I d)] 0 0]) rfl rfl rfl ?_ rfl σ
  refine LV_body (A := A22) rfl Try.func22 rfl ?_
  repeat apply W_seq
  refine W_region (by simp; exact ⟨rfl, rfl⟩) ?_
  try simp only [thenQ, blockQ, Ann.kill, List.find?_nil]
  repeat apply W_seq
  refine W_region (by simp; exact ⟨rfl, rfl⟩) ?_
  try simp only [thenQ, blockQ, Ann.kill, List.find?_nil]
  by_cases h1 : a = c
  · repeat apply W_seq
    refine W_cond (t := false) (by simp [h1]) ?_
    simp only [if_true, if_false, Bool.false_eq_true]
    refine W_skip ?_
    try simp only [thenQ, blockQ, Ann.kill, List.find?_nil]
    repeat apply W_seq
    refine W_region (by simp; exact ⟨rfl, rfl⟩) ?_
    try simp only [thenQ, blockQ, Ann.kill, List.find?_nil]
    by_cases h2 : b = d
    · repeat apply W_seq
      refine W_cond (t := false) (by simp [h2]) ?_
      simp only [if_true, if_false, Bool.false_eq_true]
      refine W_skip ?_
      try simp only [thenQ, blockQ, Ann.kill, List.find?_nil]
      repeat apply W_seq
      refine W_region (by simp; exact ⟨rfl, rfl⟩) ?_
      try simp only [thenQ, blockQ, Ann.kill, List.find?_nil]
      refine W_ret ?_
      try simp only [thenQ, blockQ]
      simp [Try.f22, h1, h2]
    · repeat apply W_seq
      refine W_cond (t := true) (by simp [h2]) ?_
      simp only [if_true, if_false, Bool.false_eq_true]
      repeat apply W_seq
      refine W_region (by simp; exact ⟨rfl, rfl⟩) ?_
      try simp only [thenQ, blockQ, Ann.kill, List.find?_nil]
      refine W_ret ?_
      try simp only [thenQ, blockQ]
      simp [Try.f22, h1, h2]
  · repeat apply W_seq
    refine W_cond (t := true) (by simp [h1]) ?_
    simp only [if_true, if_false, Bool.false_eq_true]
    repeat apply W_seq
    refine W_region (by simp; exact ⟨rfl, rfl⟩) ?_
    try simp only [thenQ, blockQ, Ann.kill, List.find?_nil]
    refine W_ret ?_
    try simp only [thenQ, blockQ]
    simp [Try.f22, h1]

theorem szSpanS_ld (l : List (Int × Int)) (left : Int) (σ : Store) : LD S 6 [.t (Sps l), .t (I left)] σ = some (.t (I (if IntKind.i64.wrap (left - l.length) < 0 then -1 else IntKind.i64.wrap (left - l.length))), σ) := by
  refine LD_pure (A := A6) (v := .t (I (if IntKind.i64.wrap (left - l.length) < 0 then -1 else IntKind.i64.wrap (left - l.length)))) (σ0 := []) rfl rfl rfl ?_ rfl σ
  refine LV_body (A := A6) rfl Try.func6 rfl ?_
  repeat apply W_seq
  refine W_region (by simp; exact ⟨rfl, rfl⟩) ?_
  try simp only [thenQ, blockQ, Ann.kill, List.find?_nil]
  repeat apply W_seq
  refine W_region (by simp; exact ⟨rfl, rfl⟩) ?_
  try simp only [thenQ, blockQ, Ann.kill, List.find?_nil]
  repeat apply W_seq
  refine W_region (by simp; exact ⟨rfl, rfl⟩) ?_
  try simp only [thenQ, blockQ, Ann.kill, List.find?_nil]
  by_cases h1 : IntKind.i64.wrap (left - l.length) < 0
  · repeat apply W_seq
    refine W_cond (t := true) (by simp [h1]) ?_
    simp only [if_true, if_false, Bool.false_eq_true]
    repeat apply W_seq
    refine W_region (by simp; exact ⟨rfl, rfl⟩) ?_
    try simp only [thenQ, blockQ, Ann.kill, List.find?_nil]
    refine W_ret ?_
    try simp only [thenQ, blockQ]
    simp [Try.f6, h1]
  · repeat apply W_seq
    refine W_cond (t := false) (by simp [h1]) ?_
    simp only [if_true, if_false, Bool.false_eq_true]
    refine W_skip ?_
    try simp only [thenQ, blockQ, Ann.kill, List.find?_nil]
    repeat apply W_seq
    refine W_region (by simp; exact ⟨rfl, rfl⟩) ?_
    try simp only [thenQ, blockQ, Ann.kill, List.find?_nil]
    refine W_ret ?_
    try simp only [thenQ, blockQ]
    simp [Try.f6, h1]

/-- the cells of spans -/
def flat (l : List (Int × Int)) : List V := l.flatMap fun p => [.t (I p.1), .t (I p.2)]
theorem flat_length (l : List (Int × Int)) : (flat l).length = l.length * 2 := by
  induction l with
  | nil => rfl
  | cons p l ih => simp only [flat, List.flatMap_cons, List.length_append, List.length_cons, List.length_nil] at ih ⊢; omega
theorem repZero_flat (n : Nat) : repZero [.t (I 0), .t (I 0)] n = flat (List.replicate n (0, 0)) := by
  induction n with
  | zero => rfl
  | succ n ih => simp [repZero, flat, List.replicate_succ, ih]
theorem set2_flat (l : List (Int × Int)) (k : Nat) (a b : Int) (h : k < l.length) : ((flat l).set (k * 2) (.t (I a))).set (k * 2 + 1) (.t (I b)) = flat (l.set k (a, b)) := by
  induction l generalizing k with
  | nil => simp at h
  | cons p l ih =>
    cases k with
    | zero => simp [flat]
    | succ k =>
      have := ih k (by simpa using h)
      simp only [flat, List.flatMap_cons] at this ⊢
      rw [show (k + 1) * 2 = (k * 2) + 1 + 1 by omega]
      simp [this]
theorem frzs_flat (d : Nat) (σ : Store) (l : List (Int × Int)) : frzs (frz (d + 1) σ) (flat l) = some (l.flatMap fun p => [I p.1, I p.2]) := by
  induction l with
  | nil => rfl
  | cons p l ih => simp only [flat, List.flatMap_cons, List.cons_append, List.nil_append] at ih ⊢; simp only [frzs, frz_t, ih]
theorem chunk_flat (l : List (Int × Int)) : chunk 2 l.length (l.flatMap fun p => [I p.1, I p.2]) = l.map Sp := by
  induction l with
  | nil => rfl
  | cons p l ih => simp [chunk, ih]

theorem frz_flat (l : List (Int × Int)) : frz 40 [.cells (flat l) 0 0] (.sl 0 0 0 l.length 2) = some (Sps l) := by
  rw [frz_sl (d := 39) (cs := flat l) (gen := 0) (wgen := 0) rfl (Nat.le_refl _) (Nat.le_refl _) (by decide) (by rw [flat_length]; omega) (ts := l.flatMap fun p => [I p.1, I p.2])]
  · rw [chunk_flat]
  · rw [List.drop_zero, List.take_of_length_le (by rw [flat_length]; omega)]
    exact frzs_flat 38 _ l
theorem step_flat (l : List (Int × Int)) (k : Nat) (h : k < l.length) : ((flat (l.take k ++ List.replicate (l.length - k) (0, 0))).set (k * 2) (.t (I (l[k]).1))).set (k * 2 + 1) (.t (I (l[k]).2)) = flat (l.take (k + 1) ++ List.replicate (l.length - (k + 1)) (0, 0)) := by
  rw [set2_flat _ k _ _ (by simp; omega)]
  congr 1
  have hlen : (l.take k).length = k := by rw [List.length_take]; omega
  rw [List.set_append_right _ _ (by omega), hlen, Nat.sub_self]
  obtain ⟨n, hn⟩ : ∃ n, l.length - k = n + 1 := ⟨l.length - k - 1, by omega⟩
  have hn2 : l.length - (k + 1) = n := by omega
  rw [hn, hn2, List.replicate_succ, List.set_cons_zero, List.take_add_one, List.getElem?_eq_getElem h]
  simp only [Option.toList_some, List.append_assoc, List.cons_append, List.nil_append]
theorem toSpanS_ld (l : List (Int × Int)) (σ : Store) (hl : l.length * 16 ≤ 140737488355328) : LD S 8 [.t (Sps l)] σ = some (.t (Sps l), σ) := by
  refine LD_pure (A := A8) (v := .sl 0 0 0 l.length 2) (σ0 := [.cells (flat l) 0 0]) rfl rfl rfl ?_ (frz_flat l) σ
  refine LV_body (A := A8) rfl Try.func8 rfl ?_
  repeat apply W_seq
  refine W_region (by simp; exact ⟨rfl, rfl⟩) ?_
  try simp only [thenQ, blockQ, Ann.kill, List.find?_nil]
  repeat apply W_seq
  refine W_region (by simp [show (l.length : Int) * 16 ≤ 140737488355328 by omega]; exact ⟨rfl, rfl⟩) ?_
  try simp only [thenQ, blockQ, Ann.kill, List.find?_nil]
  repeat apply W_seq
  refine W_region (by simp; exact ⟨rfl, rfl⟩) ?_
  try simp only [thenQ, blockQ, Ann.kill, List.find?_nil]
  repeat apply W_seq
  refine W_block ?_
  refine W_loop (I := fun m st σ => ∃ k, m = l.length - k ∧ k ≤ l.length ∧ st.vars = [(0, .t (Sps l)), (2, .t .nils), (3, .sl 0 0 0 l.length 2), (4, .t (I k))] ∧ σ = [.cells (flat (l.take k ++ List.replicate (l.length - k) (0, 0))) 0 0]) ?_ l.length _ _ ⟨0, rfl, Nat.zero_le _, rfl, by simp [repZero_flat]⟩
  rintro m ⟨vars, scr⟩ σ ⟨k, rfl, hk, hv, rfl⟩
  simp only at hv
  subst hv
  repeat apply W_seq
  refine W_region (by simp; exact ⟨rfl, rfl⟩) ?_
  try simp only [thenQ, blockQ, Ann.kill, List.find?_nil]
  by_cases h1 : k < l.length
  · repeat apply W_seq
    refine W_cond (t := true) (by simp [h1]) ?_
    simp only [if_true, if_false, Bool.false_eq_true]
    refine W_skip ?_
    try simp only [thenQ, blockQ, Ann.kill, List.find?_nil]
    repeat apply W_seq
    refine W_block ?_
    obtain ⟨p, hp⟩ : ∃ p, l[k]? = some p := ⟨l[k], by simp [h1]⟩
    have hc : k * 2 + 2 ≤ (min k l.length + (l.length - k)) * 2 := by omega
    repeat apply W_seq
    refine W_region (by simp [h1, hp, hc, flat_length, step_flat l k h1]; exact ⟨rfl, rfl⟩) ?_
    try simp only [thenQ, blockQ, Ann.kill, List.find?_nil]
    repeat apply W_seq
    refine W_region (by simp [IntWalk.i64_in ((k : Int) + 1) (by omega)]; exact ⟨rfl, rfl⟩) ?_
    try simp only [thenQ, blockQ, Ann.kill, List.find?_nil]
    exact ⟨l.length - (k + 1), by omega, k + 1, rfl, h1, by simp, rfl⟩
  · repeat apply W_seq
    refine W_cond (t := false) (by simp [h1]) ?_
    simp only [if_true, if_false, Bool.false_eq_true]
    repeat apply W_seq
    refine W_exit ?_
    try simp only [thenQ, blockQ, if_true, Ann.kill, List.find?_nil]
    have hk2 : k = l.length := by omega
    subst hk2
    repeat apply W_seq
    refine W_region (by simp; exact ⟨rfl, rfl⟩) ?_
    try simp only [thenQ, blockQ, Ann.kill, List.find?_nil]
    refine W_ret ?_
    try simp only [thenQ, blockQ]
    simp [Try.f8]
attribute [simp] cls Go.V.beq_self
@[simp] theorem bytes_nil : V.bytes { data := #[] } = [] := rfl
@[simp] theorem pf21 : S.pf 21 = true := by simp [Sy.pf, S, annF, annL]
@[simp] theorem pf22 : S.pf 22 = true := by simp [Sy.pf, S, annF, annL]

/-- Replaced, from a span on. -/
def rep (text by_ : List Nat) : List (Int × Int) → List Nat → Int → List Nat × Bool
  | [], out, at_ => (out ++ text.drop at_.toNat, true)
  | p :: r, out, at_ => if p.1 < at_ ∨ p.2 < p.1 ∨ (text.length : Int) < p.2 then ([], false) else rep text by_ r (out ++ (text.take p.1.toNat).drop at_.toNat ++ by_) p.2

abbrev Str (s : List Nat) : T := .str s

theorem specReplaced_ld (text by_ : List Nat) (l : List (Int × Int)) (σ : Store) (ht : text.length ≤ 1048576) (hb : by_.length ≤ 1048576) (hl : l.length ≤ 1048576) :
    LD S 7 [.t (Str text), .t (Sps l), .t (Str by_)] σ = some (.t (.tup [Str (rep text by_ l [] 0).1, B (rep text by_ l [] 0).2]), σ) := by
  refine LD_pure (A := A7) (v := .t (.tup [Str (rep text by_ l [] 0).1, B (rep text by_ l [] 0).2])) (σ0 := []) rfl rfl rfl ?_ rfl σ
  refine LV_body (A := A7) rfl Try.func7 rfl ?_
  repeat apply W_seq
  refine W_region (by simp; exact ⟨rfl, rfl⟩) ?_
  try simp only [thenQ, blockQ, Ann.kill, List.find?_nil]
  repeat apply W_seq
  refine W_region (by simp; exact ⟨rfl, rfl⟩) ?_
  try simp only [thenQ, blockQ, Ann.kill, List.find?_nil]
  repeat apply W_seq
  refine W_region (by simp; exact ⟨rfl, rfl⟩) ?_
  try simp only [thenQ, blockQ, Ann.kill, List.find?_nil]
  repeat apply W_seq
  refine W_region (by simp; exact ⟨rfl, rfl⟩) ?_
  try simp only [thenQ, blockQ, Ann.kill, List.find?_nil]
  repeat apply W_seq
  refine W_block ?_
  refine W_loop (I := fun m st σ => ∃ (k : Nat) (out : List Nat) (at_ : Int), m = l.length - k ∧ k ≤ l.length ∧ 0 ≤ at_ ∧ at_ ≤ text.length ∧ (out.length : Int) ≤ at_ + k * by_.length ∧ rep text by_ (l.drop k) out at_ = rep text by_ l [] 0 ∧
    st.vars = [(0, .t (Str text)), (1, .t (Sps l)), (2, .t (Str by_)), (6, .t (Str [])), (7, .t (B false)), (8, .t (Str out)), (9, .t (I at_)), (10, .t (I k))] ∧ σ = []) ?_ l.length _ _ ⟨0, [], 0, rfl, Nat.zero_le _, by omega, by omega, by simp, rfl, by simp, rfl⟩
  rintro m ⟨vars, scr⟩ σ ⟨k, out, at_, rfl, hk, ha0, ha1, ho, hrep, hv, rfl⟩
  simp only at hv
  subst hv
  repeat apply W_seq
  refine W_region (by simp; exact ⟨rfl, rfl⟩) ?_
  try simp only [thenQ, blockQ, Ann.kill, List.find?_nil]
  by_cases h1 : k < l.length
  · repeat apply W_seq
    refine W_cond (t := true) (by simp [h1]) ?_
    simp only [if_true, if_false, Bool.false_eq_true]
    refine W_skip ?_
    try simp only [thenQ, blockQ, Ann.kill, List.find?_nil]
    repeat apply W_seq
    refine W_block ?_
    obtain ⟨a, b, hp⟩ : ∃ a b, l[k]? = some (a, b) := ⟨l[k].1, l[k].2, by simp [h1]⟩
    rw [List.drop_eq_getElem_cons h1] at hrep
    have hp2 : l[k] = (a, b) := by rw [List.getElem?_eq_getElem h1] at hp; simpa using hp
    rw [hp2] at hrep
    simp only [rep] at hrep
    have hkb : (k : Int) * by_.length ≤ 1099511627776 := by
      have : k * by_.length ≤ 1099511627776 := Nat.mul_le_mul (show k ≤ 1048576 by omega) hb
      rw [← Int.natCast_mul]; omega
    by_cases c1 : a < at_
    · repeat apply W_seq
      refine W_region (by simp [h1, hp, hp2, c1]; exact ⟨rfl, rfl⟩) ?_
      try simp only [thenQ, blockQ, Ann.kill, List.find?_nil]
      rw [if_pos (.inl c1)] at hrep
      repeat apply W_seq
      refine W_cond (t := true) (by simp) ?_
      simp only [if_true, if_false, Bool.false_eq_true]
      repeat apply W_seq
      refine W_region (by simp; exact ⟨rfl, rfl⟩) ?_
      try simp only [thenQ, blockQ, Ann.kill, List.find?_nil]
      refine W_ret ?_
      try simp only [thenQ, blockQ]
      simp [Try.f7, ← hrep]
    · by_cases c2 : b < a
      · repeat apply W_seq
        refine W_region (by simp [h1, hp, hp2, c1, c2]; exact ⟨rfl, rfl⟩) ?_
        try simp only [thenQ, blockQ, Ann.kill, List.find?_nil]
        rw [if_pos (.inr (.inl c2))] at hrep
        repeat apply W_seq
        refine W_cond (t := true) (by simp) ?_
        simp only [if_true, if_false, Bool.false_eq_true]
        repeat apply W_seq
        refine W_region (by simp; exact ⟨rfl, rfl⟩) ?_
        try simp only [thenQ, blockQ, Ann.kill, List.find?_nil]
        refine W_ret ?_
        try simp only [thenQ, blockQ]
        simp [Try.f7, ← hrep]
      · by_cases c3 : (text.length : Int) < b
        · repeat apply W_seq
          refine W_region (by simp [h1, hp, hp2, c1, c2, c3]; exact ⟨rfl, rfl⟩) ?_
          try simp only [thenQ, blockQ, Ann.kill, List.find?_nil]
          rw [if_pos (.inr (.inr c3))] at hrep
          repeat apply W_seq
          refine W_cond (t := true) (by simp) ?_
          simp only [if_true, if_false, Bool.false_eq_true]
          repeat apply W_seq
          refine W_region (by simp; exact ⟨rfl, rfl⟩) ?_
          try simp only [thenQ, blockQ, Ann.kill, List.find?_nil]
          refine W_ret ?_
          try simp only [thenQ, blockQ]
          simp [Try.f7, ← hrep]
        · repeat apply W_seq
          refine W_region (by simp [h1, hp, hp2, c1, c2, c3]; exact ⟨rfl, rfl⟩) ?_
          try simp only [thenQ, blockQ, Ann.kill, List.find?_nil]
          rw [if_neg (by omega)] at hrep
          repeat apply W_seq
          refine W_cond (t := false) (by simp) ?_
          simp only [if_true, if_false, Bool.false_eq_true]
          refine W_skip ?_
          try simp only [thenQ, blockQ, Ann.kill, List.find?_nil]
          have e1 : out.length + (a.toNat - at_.toNat) ≤ 9223372036854775807 := by omega
          have e2 : out.length + (a.toNat - at_.toNat) + by_.length ≤ 9223372036854775807 := by omega
          repeat apply W_seq
          refine W_region (by simp [h1, hp, hp2, ha0, show at_ ≤ a by omega, show a ≤ text.length by omega, e1, e2]; exact ⟨rfl, rfl⟩) ?_
          try simp only [thenQ, blockQ, Ann.kill, List.find?_nil]
          repeat apply W_seq
          refine W_region (by simp [h1, hp, hp2]; exact ⟨rfl, rfl⟩) ?_
          try simp only [thenQ, blockQ, Ann.kill, List.find?_nil]
          repeat apply W_seq
          refine W_region (by simp [IntWalk.i64_in ((k : Int) + 1) (by omega)]; exact ⟨rfl, rfl⟩) ?_
          try simp only [thenQ, blockQ, Ann.kill, List.find?_nil]
          refine ⟨l.length - (k + 1), by omega, k + 1, _, b, rfl, h1, by omega, by omega, ?_, hrep, by simp, by simp⟩
          have e3 : ((k + 1 : Nat) : Int) * by_.length = k * by_.length + by_.length := by rw [Int.natCast_add, Int.add_mul]; simp
          rw [e3]
          simp only [List.length_append, List.length_drop, List.length_take]
          omega
  · repeat apply W_seq
    refine W_cond (t := false) (by simp [h1]) ?_
    simp only [if_true, if_false, Bool.false_eq_true]
    repeat apply W_seq
    refine W_exit ?_
    try simp only [thenQ, blockQ, if_true, Ann.kill, List.find?_nil]
    have hk2 : k = l.length := by omega
    subst hk2
    rw [List.drop_length] at hrep
    simp only [rep] at hrep
    have hkb : (l.length : Int) * by_.length ≤ 1099511627776 := by
      have : l.length * by_.length ≤ 1099511627776 := Nat.mul_le_mul hl hb
      rw [← Int.natCast_mul]; omega
    have e1 : out.length + (text.length - at_.toNat) ≤ 9223372036854775807 := by omega
    repeat apply W_seq
    refine W_region (by simp [ha0, ha1, e1]; exact ⟨rfl, rfl⟩) ?_
    try simp only [thenQ, blockQ, Ann.kill, List.find?_nil]
    refine W_ret ?_
    try simp only [thenQ, blockQ]
    simp [Try.f7, ← hrep]

theorem implReplaced_ld (text by_ : List Nat) (l : List (Int × Int)) (σ : Store) (ht : text.length ≤ 1048576) (hb : by_.length ≤ 1048576) (hl : l.length ≤ 1048576) :
    LD S 9 [.t (Str text), .t (Sps l), .t (Str by_)] σ = some (.t (.tup [Str (rep text by_ l [] 0).1, B (rep text by_ l [] 0).2]), σ) := by
  obtain ⟨σ0, hσ⟩ : ∃ σ0, LV S 9 [.t (Str text), .t (Sps l), .t (Str by_)] [] = some (.t (.tup [Str (rep text by_ l [] 0).1, B (rep text by_ l [] 0).2]), σ0) := by
    refine LV_bodyE (A := A9) rfl Try.func9 rfl ?_
    repeat apply W_seq
    refine W_region (by simp; exact ⟨rfl, rfl⟩) ?_
    try simp only [thenQ, blockQ, Ann.kill, List.find?_nil]
    repeat apply W_seq
    refine W_region (by simp; exact ⟨rfl, rfl⟩) ?_
    try simp only [thenQ, blockQ, Ann.kill, List.find?_nil]
    repeat apply W_seq
    refine W_region (by simp; exact ⟨rfl, rfl⟩) ?_
    try simp only [thenQ, blockQ, Ann.kill, List.find?_nil]
    repeat apply W_seq
    refine W_region (by simp; exact ⟨rfl, rfl⟩) ?_
    try simp only [thenQ, blockQ, Ann.kill, List.find?_nil]
    repeat apply W_seq
    refine W_block ?_
    refine W_loop (I := fun m st σ => ∃ (k : Nat) (out : List Nat) (at_ : Int) (rest : Env), m = l.length - k ∧ k ≤ l.length ∧ 0 ≤ at_ ∧ at_ ≤ text.length ∧ (out.length : Int) ≤ at_ + k * by_.length ∧ rep text by_ (l.drop k) out at_ = rep text by_ l [] 0 ∧
      (rest = [] ∨ ∃ v, rest = [(11, v)]) ∧ st.vars = [(0, .t (Str text)), (1, .t (Sps l)), (2, .t (Str by_)), (6, .t (Str [])), (7, .t (B false)), (8, .t (Str out)), (9, .t (I at_))] ++ rest ++ [(12, .t (Sps l)), (13, .t (I l.length)), (14, .t (I k))]) ?_ l.length _ _ ⟨0, [], 0, [], rfl, Nat.zero_le _, by omega, by omega, by simp, rfl, .inl rfl, by simp⟩
    rintro m ⟨vars, scr⟩ σ ⟨k, out, at_, rest, rfl, hk, ha0, ha1, ho, hrep, hrest, hv⟩
    simp only at hv
    subst hv
    rcases hrest with rfl | ⟨v11, rfl⟩
    all_goals
      repeat apply W_seq
      refine W_region (by simp; exact ⟨rfl, rfl⟩) ?_
      try simp only [thenQ, blockQ, Ann.kill, List.find?_nil]
      by_cases h1 : k < l.length
      · repeat apply W_seq
        refine W_cond (t := true) (by simp [h1]) ?_
        simp only [if_true, if_false, Bool.false_eq_true]
        refine W_skip ?_
        try simp only [thenQ, blockQ, Ann.kill, List.find?_nil]
        repeat apply W_seq
        refine W_block ?_
        obtain ⟨a, b, hp⟩ : ∃ a b, l[k]? = some (a, b) := ⟨l[k].1, l[k].2, by simp [h1]⟩
        rw [List.drop_eq_getElem_cons h1] at hrep
        have hp2 : l[k] = (a, b) := by rw [List.getElem?_eq_getElem h1] at hp; simpa using hp
        rw [hp2] at hrep
        simp only [rep] at hrep
        have hkb : (k : Int) * by_.length ≤ 1099511627776 := by
          have : k * by_.length ≤ 1099511627776 := Nat.mul_le_mul (show k ≤ 1048576 by omega) hb
          rw [← Int.natCast_mul]; omega
        repeat apply W_seq
        refine W_region (by simp [h1, hp, hp2]; exact ⟨rfl, rfl⟩) ?_
        try simp only [thenQ, blockQ, Ann.kill, List.find?_nil]
        by_cases c1 : at_ ≤ a
        · by_cases c1b : a ≤ text.length
          · by_cases c2 : a ≤ b
            · by_cases c2b : b ≤ text.length
              · repeat apply W_seq
                refine W_region (by simp [c1, c1b, c2, c2b]; exact ⟨rfl, rfl⟩) ?_
                try simp only [thenQ, blockQ, Ann.kill, List.find?_nil]
                rw [if_neg (by omega)] at hrep
                repeat apply W_seq
                refine W_cond (t := false) (by simp) ?_
                simp only [if_true, if_false, Bool.false_eq_true]
                refine W_skip ?_
                try simp only [thenQ, blockQ, Ann.kill, List.find?_nil]
                have e1 : out.length + (a.toNat - at_.toNat + by_.length) ≤ 9223372036854775807 := by omega
                have e2 : a.toNat - at_.toNat + by_.length ≤ 9223372036854775807 := by omega
                repeat apply W_seq
                refine W_region (by simp [ha0, c1, c1b, e1, e2]; exact ⟨rfl, rfl⟩) ?_
                try simp only [thenQ, blockQ, Ann.kill, List.find?_nil]
                repeat apply W_seq
                refine W_region (by simp; exact ⟨rfl, rfl⟩) ?_
                try simp only [thenQ, blockQ, Ann.kill, List.find?_nil]
                repeat apply W_seq
                refine W_region (by simp [IntWalk.i64_in ((k : Int) + 1) (by omega)]; exact ⟨rfl, rfl⟩) ?_
                try simp only [thenQ, blockQ, Ann.kill, List.find?_nil]
                refine ⟨l.length - (k + 1), by omega, k + 1, out ++ (List.drop at_.toNat (List.take a.toNat text) ++ by_), b, [(11, .ptr σ.length 0 0 2)], rfl, h1, by omega, by omega, ?_, by rw [← hrep]; simp [List.append_assoc], .inr ⟨_, rfl⟩, by simp⟩
                have e3 : ((k + 1 : Nat) : Int) * by_.length = k * by_.length + by_.length := by rw [Int.natCast_add, Int.add_mul]; simp
                rw [e3]
                simp only [List.length_append, List.length_drop, List.length_take]
                omega
              · repeat apply W_seq
                refine W_region (by simp [c1, c1b, c2, c2b]; exact ⟨rfl, rfl⟩) ?_
                try simp only [thenQ, blockQ, Ann.kill, List.find?_nil]
                rw [if_pos (by omega)] at hrep
                repeat apply W_seq
                refine W_cond (t := true) (by simp) ?_
                simp only [if_true, if_false, Bool.false_eq_true]
                repeat apply W_seq
                refine W_region (by simp; exact ⟨rfl, rfl⟩) ?_
                try simp only [thenQ, blockQ, Ann.kill, List.find?_nil]
                refine W_ret ?_
                try simp only [thenQ, blockQ]
                simp [Try.f9, ← hrep]
            · repeat apply W_seq
              refine W_region (by simp [c1, c1b, c2]; exact ⟨rfl, rfl⟩) ?_
              try simp only [thenQ, blockQ, Ann.kill, List.find?_nil]
              rw [if_pos (by omega)] at hrep
              repeat apply W_seq
              refine W_cond (t := true) (by simp) ?_
              simp only [if_true, if_false, Bool.false_eq_true]
              repeat apply W_seq
              refine W_region (by simp; exact ⟨rfl, rfl⟩) ?_
              try simp only [thenQ, blockQ, Ann.kill, List.find?_nil]
              refine W_ret ?_
              try simp only [thenQ, blockQ]
              simp [Try.f9, ← hrep]
          · repeat apply W_seq
            refine W_region (by simp [c1, c1b]; exact ⟨rfl, rfl⟩) ?_
            try simp only [thenQ, blockQ, Ann.kill, List.find?_nil]
            rw [if_pos (by omega)] at hrep
            repeat apply W_seq
            refine W_cond (t := true) (by simp) ?_
            simp only [if_true, if_false, Bool.false_eq_true]
            repeat apply W_seq
            refine W_region (by simp; exact ⟨rfl, rfl⟩) ?_
            try simp only [thenQ, blockQ, Ann.kill, List.find?_nil]
            refine W_ret ?_
            try simp only [thenQ, blockQ]
            simp [Try.f9, ← hrep]
        · repeat apply W_seq
          refine W_region (by simp [c1]; exact ⟨rfl, rfl⟩) ?_
          try simp only [thenQ, blockQ, Ann.kill, List.find?_nil]
          rw [if_pos (by omega)] at hrep
          repeat apply W_seq
          refine W_cond (t := true) (by simp) ?_
          simp only [if_true, if_false, Bool.false_eq_true]
          repeat apply W_seq
          refine W_region (by simp; exact ⟨rfl, rfl⟩) ?_
          try simp only [thenQ, blockQ, Ann.kill, List.find?_nil]
          refine W_ret ?_
          try simp only [thenQ, blockQ]
          simp [Try.f9, ← hrep]
      · repeat apply W_seq
        refine W_cond (t := false) (by simp [h1]) ?_
        simp only [if_true, if_false, Bool.false_eq_true]
        repeat apply W_seq
        refine W_exit ?_
        try simp only [thenQ, blockQ, if_true, Ann.kill, List.find?_nil]
        have hk2 : k = l.length := by omega
        subst hk2
        rw [List.drop_length] at hrep
        simp only [rep] at hrep
        have hkb : (l.length : Int) * by_.length ≤ 1099511627776 := by
          have : l.length * by_.length ≤ 1099511627776 := Nat.mul_le_mul hl hb
          rw [← Int.natCast_mul]; omega
        have e1 : out.length + (text.length - at_.toNat) ≤ 9223372036854775807 := by omega
        repeat apply W_seq
        refine W_region (by simp [ha0, ha1, e1]; exact ⟨rfl, rfl⟩) ?_
        try simp only [thenQ, blockQ, Ann.kill, List.find?_nil]
        refine W_ret ?_
        try simp only [thenQ, blockQ]
        simp [Try.f9, ← hrep]
  exact LD_pure (A := A9) rfl rfl rfl hσ rfl σ

theorem eqSpanS_ld (l : List (Int × Int)) (σ : Store) (hl : l.length ≤ 1048576) :
    LD S 10 [.t (Sps l), .t (Sps l)] σ = some (.t (B true), σ) := by
  obtain ⟨σ0, hσ⟩ : ∃ σ0, LV S 10 [.t (Sps l), .t (Sps l)] [] = some (.t (B true), σ0) := by
    refine LV_bodyE (A := A10) rfl Try.func10 rfl ?_
    repeat apply W_seq
    refine W_region (by simp; exact ⟨rfl, rfl⟩) ?_
    try simp only [thenQ, blockQ, Ann.kill, List.find?_nil]
    repeat apply W_seq
    refine W_region (by simp; exact ⟨rfl, rfl⟩) ?_
    try simp only [thenQ, blockQ, Ann.kill, List.find?_nil]
    repeat apply W_seq
    refine W_cond (t := false) (by simp) ?_
    simp only [if_true, if_false, Bool.false_eq_true]
    refine W_skip ?_
    try simp only [thenQ, blockQ, Ann.kill, List.find?_nil]
    repeat apply W_seq
    refine W_region (by simp; exact ⟨rfl, rfl⟩) ?_
    try simp only [thenQ, blockQ, Ann.kill, List.find?_nil]
    repeat apply W_seq
    refine W_block ?_
    refine W_loop (I := fun m st σ => ∃ (k : Nat), m = l.length - k ∧ k ≤ l.length ∧
      st.vars = [(0, .t (Sps l)), (1, .t (Sps l)), (4, .t (B false)), (5, .t (I k))]) ?_ l.length _ _ ⟨0, rfl, Nat.zero_le _, by simp⟩
    rintro m ⟨vars, scr⟩ σ ⟨k, rfl, hk, hv⟩
    simp only at hv
    subst hv
    repeat apply W_seq
    refine W_region (by simp; exact ⟨rfl, rfl⟩) ?_
    try simp only [thenQ, blockQ, Ann.kill, List.find?_nil]
    by_cases h1 : k < l.length
    · repeat apply W_seq
      refine W_cond (t := true) (by simp [h1]) ?_
      simp only [if_true, if_false, Bool.false_eq_true]
      refine W_skip ?_
      try simp only [thenQ, blockQ, Ann.kill, List.find?_nil]
      repeat apply W_seq
      refine W_block ?_
      obtain ⟨a, b, hp⟩ : ∃ a b, l[k]? = some (a, b) := ⟨l[k].1, l[k].2, by simp [h1]⟩
      have hp2 : l[k] = (a, b) := by rw [List.getElem?_eq_getElem h1] at hp; simpa using hp
      repeat apply W_seq
      refine W_region (by simp [h1, hp, hp2]; exact ⟨rfl, rfl⟩) ?_
      try simp only [thenQ, blockQ, Ann.kill, List.find?_nil]
      repeat apply W_seq
      refine W_cond (t := false) (by simp) ?_
      simp only [if_true, if_false, Bool.false_eq_true]
      refine W_skip ?_
      try simp only [thenQ, blockQ, Ann.kill, List.find?_nil]
      repeat apply W_seq
      refine W_region (by simp [IntWalk.i64_in ((k : Int) + 1) (by omega)]; exact ⟨rfl, rfl⟩) ?_
      try simp only [thenQ, blockQ, Ann.kill, List.find?_nil]
      exact ⟨l.length - (k + 1), by omega, k + 1, rfl, h1, by simp⟩
    · repeat apply W_seq
      refine W_cond (t := false) (by simp [h1]) ?_
      simp only [if_true, if_false, Bool.false_eq_true]
      repeat apply W_seq
      refine W_exit ?_
      try simp only [thenQ, blockQ, if_true, Ann.kill, List.find?_nil]
      repeat apply W_seq
      refine W_region (by simp; exact ⟨rfl, rfl⟩) ?_
      try simp only [thenQ, blockQ, Ann.kill, List.find?_nil]
      refine W_ret ?_
      try simp only [thenQ, blockQ]
      simp [Try.f10]
  exact LD_pure (A := A10) rfl rfl rfl hσ rfl σ

attribute [simp] eqOp
@[simp] theorem ty4 : S.ty 4 = some { agg := false, size := 1, bytes := 1, zero := some (.bool false), shape := .bool, eqs := false } := by kernel_rfl
@[simp] theorem eqL_self : ∀ l : List Nat, eqL l l = true
  | [] => rfl
  | a :: l => by simp [eqL, eqL_self l]
theorem law_lv (text by_ : List Nat) (l : List (Int × Int)) (hl : (l.length : Int) ≤ 9223372036854775807) :
    ∃ σ', LV S 3 [.t (Str text), .t (Sps l), .t (Str by_)] [] = some (.t (B true), σ') := by
  refine LV_bodyE (A := A3) rfl Try.func3 rfl ?_
  repeat apply W_seq
  refine W_region (by simp; exact ⟨rfl, rfl⟩) ?_
  try simp only [thenQ, blockQ, Ann.kill, List.find?_nil]
  repeat apply W_seq
  refine W_region (by simp; exact ⟨rfl, rfl⟩) ?_
  try simp only [thenQ, blockQ, Ann.kill, List.find?_nil]
  by_cases h1 : (1048576 : Int) < text.length
  · repeat apply W_seq
    refine W_cond (t := true) (by simp [h1]) ?_
    simp only [if_true, if_false, Bool.false_eq_true]
    repeat apply W_seq
    refine W_region (by simp; exact ⟨rfl, rfl⟩) ?_
    try simp only [thenQ, blockQ, Ann.kill, List.find?_nil]
    refine W_ret ?_
    try simp only [thenQ, blockQ]
    simp [Try.f3]
  repeat apply W_seq
  refine W_cond (t := false) (by simp [h1]) ?_
  simp only [if_true, if_false, Bool.false_eq_true]
  refine W_skip ?_
  try simp only [thenQ, blockQ, Ann.kill, List.find?_nil]
  repeat apply W_seq
  refine W_region (by simp; exact ⟨rfl, rfl⟩) ?_
  try simp only [thenQ, blockQ, Ann.kill, List.find?_nil]
  by_cases h2 : (1048576 : Int) < by_.length
  · repeat apply W_seq
    refine W_cond (t := true) (by simp [h2]) ?_
    simp only [if_true, if_false, Bool.false_eq_true]
    repeat apply W_seq
    refine W_region (by simp; exact ⟨rfl, rfl⟩) ?_
    try simp only [thenQ, blockQ, Ann.kill, List.find?_nil]
    refine W_ret ?_
    try simp only [thenQ, blockQ]
    simp [Try.f3]
  repeat apply W_seq
  refine W_cond (t := false) (by simp [h2]) ?_
  simp only [if_true, if_false, Bool.false_eq_true]
  refine W_skip ?_
  try simp only [thenQ, blockQ, Ann.kill, List.find?_nil]
  repeat apply W_seq
  refine W_region (by simp; exact ⟨rfl, rfl⟩) ?_
  try simp only [thenQ, blockQ, Ann.kill, List.find?_nil]
  have hz : IntKind.i64.wrap ((1048576 : Int) - l.length) = 1048576 - l.length := IntWalk.i64_in _ (by omega)
  repeat apply W_seq
  refine W_region (by simp [szSpanS_ld, hz]; exact ⟨rfl, rfl⟩) ?_
  try simp only [thenQ, blockQ, Ann.kill, List.find?_nil]
  by_cases h3 : (1048576 : Int) - l.length < 0
  · repeat apply W_seq
    refine W_region (by simp [h3]; exact ⟨rfl, rfl⟩) ?_
    try simp only [thenQ, blockQ, Ann.kill, List.find?_nil]
    repeat apply W_seq
    refine W_cond (t := true) (by simp) ?_
    simp only [if_true, if_false, Bool.false_eq_true]
    repeat apply W_seq
    refine W_region (by simp; exact ⟨rfl, rfl⟩) ?_
    try simp only [thenQ, blockQ, Ann.kill, List.find?_nil]
    refine W_ret ?_
    try simp only [thenQ, blockQ]
    simp [Try.f3]
  have ht : text.length ≤ 1048576 := by omega
  have hb : by_.length ≤ 1048576 := by omega
  have hll : l.length ≤ 1048576 := by omega
  have hts := fun σ => toSpanS_ld l σ (by omega)
  repeat apply W_seq
  refine W_region (by simp [h3]; exact ⟨rfl, rfl⟩) ?_
  try simp only [thenQ, blockQ, Ann.kill, List.find?_nil]
  repeat apply W_seq
  refine W_cond (t := false) (by simp) ?_
  simp only [if_true, if_false, Bool.false_eq_true]
  refine W_skip ?_
  try simp only [thenQ, blockQ, Ann.kill, List.find?_nil]
  repeat apply W_seq
  refine W_region (by simp [hts, specReplaced_ld text by_ l _ ht hb hll]; exact ⟨rfl, rfl⟩) ?_
  try simp only [thenQ, blockQ, Ann.kill, List.find?_nil]
  repeat apply W_seq
  refine W_region (by simp [hts]; exact ⟨rfl, rfl⟩) ?_
  try simp only [thenQ, blockQ, Ann.kill, List.find?_nil]
  repeat apply W_seq
  refine W_region (by simp [implReplaced_ld text by_ l _ ht hb hll]; exact ⟨rfl, rfl⟩) ?_
  try simp only [thenQ, blockQ, Ann.kill, List.find?_nil]
  repeat apply W_seq
  refine W_region (by simp; exact ⟨rfl, rfl⟩) ?_
  try simp only [thenQ, blockQ, Ann.kill, List.find?_nil]
  repeat apply W_seq
  refine W_cond (t := false) (by simp) ?_
  simp only [if_true, if_false, Bool.false_eq_true]
  refine W_skip ?_
  try simp only [thenQ, blockQ, Ann.kill, List.find?_nil]
  repeat apply W_seq
  refine W_region (by simp [hts, eqSpanS_ld l _ hll]; exact ⟨rfl, rfl⟩) ?_
  try simp only [thenQ, blockQ, Ann.kill, List.find?_nil]
  repeat apply W_seq
  refine W_cond (t := false) (by simp) ?_
  simp only [if_true, if_false, Bool.false_eq_true]
  refine W_skip ?_
  try simp only [thenQ, blockQ, Ann.kill, List.find?_nil]
  repeat apply W_seq
  refine W_region (by simp; exact ⟨rfl, rfl⟩) ?_
  try simp only [thenQ, blockQ, Ann.kill, List.find?_nil]
  refine W_ret ?_
  try simp only [thenQ, blockQ]
  simp [Try.f3]

theorem szSpanS_nil (left : Int) (σ : Store) : LD S 6 [.t .nils, .t (I left)] σ = some (.t (I (if IntKind.i64.wrap left < 0 then -1 else IntKind.i64.wrap left)), σ) := by
  refine LD_pure (A := A6) (v := .t (I (if IntKind.i64.wrap left < 0 then -1 else IntKind.i64.wrap left))) (σ0 := []) rfl rfl rfl ?_ rfl σ
  refine LV_body (A := A6) rfl Try.func6 rfl ?_
  repeat apply W_seq
  refine W_region (by simp; exact ⟨rfl, rfl⟩) ?_
  try simp only [thenQ, blockQ, Ann.kill, List.find?_nil]
  repeat apply W_seq
  refine W_region (by simp; exact ⟨rfl, rfl⟩) ?_
  try simp only [thenQ, blockQ, Ann.kill, List.find?_nil]
  repeat apply W_seq
  refine W_region (by simp; exact ⟨rfl, rfl⟩) ?_
  try simp only [thenQ, blockQ, Ann.kill, List.find?_nil]
  by_cases h1 : IntKind.i64.wrap left < 0
  · repeat apply W_seq
    refine W_cond (t := true) (by simp [h1]) ?_
    simp only [if_true, if_false, Bool.false_eq_true]
    repeat apply W_seq
    refine W_region (by simp; exact ⟨rfl, rfl⟩) ?_
    try simp only [thenQ, blockQ, Ann.kill, List.find?_nil]
    refine W_ret ?_
    try simp only [thenQ, blockQ]
    simp [Try.f6, h1]
  · repeat apply W_seq
    refine W_cond (t := false) (by simp [h1]) ?_
    simp only [if_true, if_false, Bool.false_eq_true]
    refine W_skip ?_
    try simp only [thenQ, blockQ, Ann.kill, List.find?_nil]
    repeat apply W_seq
    refine W_region (by simp; exact ⟨rfl, rfl⟩) ?_
    try simp only [thenQ, blockQ, Ann.kill, List.find?_nil]
    refine W_ret ?_
    try simp only [thenQ, blockQ]
    simp [Try.f6, h1]

theorem toSpanS_nil (σ : Store) : LD S 8 [.t .nils] σ = some (.t (Sps []), σ) := by
  refine LD_pure (A := A8) (v := .sl 0 0 0 0 2) (σ0 := [.cells (flat []) 0 0]) rfl rfl rfl ?_ (frz_flat []) σ
  refine LV_body (A := A8) rfl Try.func8 rfl ?_
  repeat apply W_seq
  refine W_region (by simp; exact ⟨rfl, rfl⟩) ?_
  try simp only [thenQ, blockQ, Ann.kill, List.find?_nil]
  repeat apply W_seq
  refine W_region (by simp; exact ⟨rfl, rfl⟩) ?_
  try simp only [thenQ, blockQ, Ann.kill, List.find?_nil]
  repeat apply W_seq
  refine W_region (by simp; exact ⟨rfl, rfl⟩) ?_
  try simp only [thenQ, blockQ, Ann.kill, List.find?_nil]
  repeat apply W_seq
  refine W_block ?_
  refine W_loop_step ?_
  repeat apply W_seq
  refine W_region (by simp; exact ⟨rfl, rfl⟩) ?_
  try simp only [thenQ, blockQ, Ann.kill, List.find?_nil]
  repeat apply W_seq
  refine W_cond (t := false) (by simp) ?_
  simp only [if_true, if_false, Bool.false_eq_true]
  repeat apply W_seq
  refine W_exit ?_
  try simp only [thenQ, blockQ, if_true, Ann.kill, List.find?_nil]
  repeat apply W_seq
  refine W_region (by simp; exact ⟨rfl, rfl⟩) ?_
  try simp only [thenQ, blockQ, Ann.kill, List.find?_nil]
  refine W_ret ?_
  try simp only [thenQ, blockQ]
  simp [Try.f8, flat, repZero]

theorem law_nil (text by_ : List Nat) :
    ∃ σ', LV S 3 [.t (Str text), .t .nils, .t (Str by_)] [] = some (.t (B true), σ') := by
  refine LV_bodyE (A := A3) rfl Try.func3 rfl ?_
  repeat apply W_seq
  refine W_region (by simp; exact ⟨rfl, rfl⟩) ?_
  try simp only [thenQ, blockQ, Ann.kill, List.find?_nil]
  repeat apply W_seq
  refine W_region (by simp; exact ⟨rfl, rfl⟩) ?_
  try simp only [thenQ, blockQ, Ann.kill, List.find?_nil]
  by_cases h1 : (1048576 : Int) < text.length
  · repeat apply W_seq
    refine W_cond (t := true) (by simp [h1]) ?_
    simp only [if_true, if_false, Bool.false_eq_true]
    repeat apply W_seq
    refine W_region (by simp; exact ⟨rfl, rfl⟩) ?_
    try simp only [thenQ, blockQ, Ann.kill, List.find?_nil]
    refine W_ret ?_
    try simp only [thenQ, blockQ]
    simp [Try.f3]
  repeat apply W_seq
  refine W_cond (t := false) (by simp [h1]) ?_
  simp only [if_true, if_false, Bool.false_eq_true]
  refine W_skip ?_
  try simp only [thenQ, blockQ, Ann.kill, List.find?_nil]
  repeat apply W_seq
  refine W_region (by simp; exact ⟨rfl, rfl⟩) ?_
  try simp only [thenQ, blockQ, Ann.kill, List.find?_nil]
  by_cases h2 : (1048576 : Int) < by_.length
  · repeat apply W_seq
    refine W_cond (t := true) (by simp [h2]) ?_
    simp only [if_true, if_false, Bool.false_eq_true]
    repeat apply W_seq
    refine W_region (by simp; exact ⟨rfl, rfl⟩) ?_
    try simp only [thenQ, blockQ, Ann.kill, List.find?_nil]
    refine W_ret ?_
    try simp only [thenQ, blockQ]
    simp [Try.f3]
  repeat apply W_seq
  refine W_cond (t := false) (by simp [h2]) ?_
  simp only [if_true, if_false, Bool.false_eq_true]
  refine W_skip ?_
  try simp only [thenQ, blockQ, Ann.kill, List.find?_nil]
  repeat apply W_seq
  refine W_region (by simp; exact ⟨rfl, rfl⟩) ?_
  try simp only [thenQ, blockQ, Ann.kill, List.find?_nil]
  have hz : IntKind.i64.wrap (1048576 : Int) = 1048576 := IntWalk.i64_in _ (by omega)
  have ht : text.length ≤ 1048576 := by omega
  have hb : by_.length ≤ 1048576 := by omega
  repeat apply W_seq
  refine W_region (by simp [szSpanS_nil, hz]; exact ⟨rfl, rfl⟩) ?_
  try simp only [thenQ, blockQ, Ann.kill, List.find?_nil]
  repeat apply W_seq
  refine W_region (by simp; exact ⟨rfl, rfl⟩) ?_
  try simp only [thenQ, blockQ, Ann.kill, List.find?_nil]
  repeat apply W_seq
  refine W_cond (t := false) (by simp) ?_
  simp only [if_true, if_false, Bool.false_eq_true]
  refine W_skip ?_
  try simp only [thenQ, blockQ, Ann.kill, List.find?_nil]
  repeat apply W_seq
  refine W_region (by simp [toSpanS_nil, specReplaced_ld text by_ [] _ ht hb (by simp)]; exact ⟨rfl, rfl⟩) ?_
  try simp only [thenQ, blockQ, Ann.kill, List.find?_nil]
  repeat apply W_seq
  refine W_region (by simp [toSpanS_nil]; exact ⟨rfl, rfl⟩) ?_
  try simp only [thenQ, blockQ, Ann.kill, List.find?_nil]
  repeat apply W_seq
  refine W_region (by simp [implReplaced_ld text by_ [] _ ht hb (by simp)]; exact ⟨rfl, rfl⟩) ?_
  try simp only [thenQ, blockQ, Ann.kill, List.find?_nil]
  repeat apply W_seq
  refine W_region (by simp; exact ⟨rfl, rfl⟩) ?_
  try simp only [thenQ, blockQ, Ann.kill, List.find?_nil]
  repeat apply W_seq
  refine W_cond (t := false) (by simp) ?_
  simp only [if_true, if_false, Bool.false_eq_true]
  refine W_skip ?_
  try simp only [thenQ, blockQ, Ann.kill, List.find?_nil]
  repeat apply W_seq
  refine W_region (by simp [toSpanS_nil, eqSpanS_ld [] _ (by simp)]; exact ⟨rfl, rfl⟩) ?_
  try simp only [thenQ, blockQ, Ann.kill, List.find?_nil]
  repeat apply W_seq
  refine W_cond (t := false) (by simp) ?_
  simp only [if_true, if_false, Bool.false_eq_true]
  refine W_skip ?_
  try simp only [thenQ, blockQ, Ann.kill, List.find?_nil]
  repeat apply W_seq
  refine W_region (by simp; exact ⟨rfl, rfl⟩) ?_
  try simp only [thenQ, blockQ, Ann.kill, List.find?_nil]
  refine W_ret ?_
  try simp only [thenQ, blockQ]
  simp [Try.f3]

/-! ### The row -/
theorem ok_ann (l : List (Nat × Ann)) (f : FuncId) (A : Ann) (h : annF l f = some A) : (f, A) ∈ l := by
  induction l with
  | nil => simp [annF] at h
  | cons p r ih =>
    obtain ⟨g, B⟩ := p
    simp only [annF] at h
    split at h
    · rename_i e; subst e; cases h; simp
    · simp [ih h]

theorem sysOk : SysOk S where
  ty := fun _ _ h => h
  mixed := by kernel_rfl
  fn := fun f A h => by
    have := ok_ann _ _ _ (show annF annL f = some A from h)
    simp only [annL, List.mem_cons, Prod.mk.injEq, List.not_mem_nil, or_false] at this
    rcases this with ⟨rfl, rfl⟩ | ⟨rfl, rfl⟩ | ⟨rfl, rfl⟩ | ⟨rfl, rfl⟩ | ⟨rfl, rfl⟩ | ⟨rfl, rfl⟩ | ⟨rfl, rfl⟩ | ⟨rfl, rfl⟩ | ⟨rfl, rfl⟩
    · exact ⟨_, _, Try.func3, rfl, by kernel_rfl, by kernel_rfl⟩
    · exact ⟨_, _, Try.func6, rfl, by kernel_rfl, by kernel_rfl⟩
    · exact ⟨_, _, Try.func7, rfl, by kernel_rfl, by kernel_rfl⟩
    · exact ⟨_, _, Try.func8, rfl, by kernel_rfl, by kernel_rfl⟩
    · exact ⟨_, _, Try.func9, rfl, by kernel_rfl, by kernel_rfl⟩
    · exact ⟨_, _, Try.func10, rfl, by kernel_rfl, by kernel_rfl⟩
    · exact ⟨_, _, Try.func20, rfl, by kernel_rfl, by kernel_rfl⟩
    · exact ⟨_, _, Try.func21, rfl, by kernel_rfl, by kernel_rfl⟩
    · exact ⟨_, _, Try.func22, rfl, by kernel_rfl, by kernel_rfl⟩
  ext := fun f args σ v σ' _ h => by cases h
  extPure := fun f args σ v σ' _ _ h => by cases h
end X
