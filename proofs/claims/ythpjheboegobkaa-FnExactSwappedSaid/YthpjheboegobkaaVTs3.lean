/- A part of the proof. No statement of the claim is in it. -/
import Derived.Test.YthpjheboegobkaaVTs2
open Go Go.V Go.Proofs
namespace X
set_option maxRecDepth 100000
set_option maxHeartbeats 4000000
set_option linter.unusedSimpArgs false
set_option linter.unusedVariables false
attribute [-simp] lenV idxV
def N.ok (n : N) : Prop := n.args.length ≤ 281474976710656 ∧ n.kids.length ≤ 281474976710656

theorem eqIntS_ld (l : List Int) (hl : l.length ≤ 281474976710656) (σ : Store) : LD S 42 [.t (L l), .t (L l)] σ = some (.t (B true), σ) := by
  refine LD_pure (A := A42) (v := .t (B true)) (σ0 := []) rfl rfl rfl ?_ rfl σ
  refine LV_body (A := A42) rfl Try.func42 rfl ?_
  repeat apply W_seq
  refine W_region (by simp; first | exact ⟨rfl, rfl⟩ | exact rfl) ?_
  try simp only [thenQ, blockQ, Ann.kill, List.find?_nil]
  repeat apply W_seq
  refine W_region (by simp; first | exact ⟨rfl, rfl⟩ | exact rfl) ?_
  try simp only [thenQ, blockQ, Ann.kill, List.find?_nil]
  repeat apply W_seq
  refine W_cond (t := false) (by simp) ?_
  simp only [if_true, if_false, Bool.false_eq_true]
  refine W_skip ?_
  try simp only [thenQ, blockQ, Ann.kill, List.find?_nil]
  repeat apply W_seq
  refine W_region (by simp; first | exact ⟨rfl, rfl⟩ | exact rfl) ?_
  try simp only [thenQ, blockQ, Ann.kill, List.find?_nil]
  repeat apply W_seq
  refine W_block ?_
  refine W_loop (I := fun m st σ => ∃ (k : Nat), m = l.length - k ∧ k ≤ l.length ∧ st.vars = [(0, .t (L l)), (1, .t (L l)), (4, .t (B false)), (5, .t (I k))] ∧ σ = []) ?_ l.length _ _ ⟨0, rfl, Nat.zero_le _, by simp, rfl⟩
  rintro m ⟨vars, scr⟩ σ ⟨k, rfl, hk, hv, rfl⟩
  simp only at hv
  subst hv
  repeat apply W_seq
  refine W_region (by simp; first | exact ⟨rfl, rfl⟩ | exact rfl) ?_
  try simp only [thenQ, blockQ, Ann.kill, List.find?_nil]
  by_cases c1 : k < l.length
  · repeat apply W_seq
    refine W_cond (t := true) (by simp [c1]) ?_
    simp only [if_true, if_false, Bool.false_eq_true]
    refine W_skip ?_
    try simp only [thenQ, blockQ, Ann.kill, List.find?_nil]
    repeat apply W_seq
    refine W_block ?_
    obtain ⟨x, hp⟩ : ∃ x, l[k]? = some x := ⟨l[k], by simp [c1]⟩
    repeat apply W_seq
    refine W_region (by simp [hp, c1]; first | exact ⟨rfl, rfl⟩ | exact rfl) ?_
    try simp only [thenQ, blockQ, Ann.kill, List.find?_nil]
    repeat apply W_seq
    refine W_cond (t := false) (by simp) ?_
    simp only [if_true, if_false, Bool.false_eq_true]
    refine W_skip ?_
    try simp only [thenQ, blockQ, Ann.kill, List.find?_nil]
    repeat apply W_seq
    refine W_region (by simp [IntWalk.i64_in ((k : Int) + 1) (by omega)]; first | exact ⟨rfl, rfl⟩ | exact rfl) ?_
    try simp only [thenQ, blockQ, Ann.kill, List.find?_nil]
    exact ⟨l.length - (k + 1), by omega, k + 1, rfl, c1, by simp, by simp⟩
  · repeat apply W_seq
    refine W_cond (t := false) (by simp [c1]) ?_
    simp only [if_true, if_false, Bool.false_eq_true]
    repeat apply W_seq
    refine W_exit ?_
    try simp only [thenQ, blockQ, if_true, Ann.kill, List.find?_nil]
    repeat apply W_seq
    refine W_region (by simp; first | exact ⟨rfl, rfl⟩ | exact rfl) ?_
    try simp only [thenQ, blockQ, Ann.kill, List.find?_nil]
    refine W_ret ?_
    try simp only [thenQ, blockQ]
    simp [Try.f42]

theorem eqTreeNode_ld (n : N) (hn : n.ok) (σ : Store) : LD S 37 [.t (encN n), .t (encN n)] σ = some (.t (B true), σ) := by
  refine LD_pure (A := A37) (v := .t (B true)) (σ0 := [.cells ((encC n).map V.t) 0 0, .cells ((encC n).map V.t) 0 0]) rfl rfl rfl ?_ rfl σ
  refine LV_body (A := A37) rfl Try.func37 rfl ?_
  repeat apply W_seq
  refine W_region (by simp; first | exact ⟨rfl, rfl⟩ | exact rfl) ?_
  try simp only [thenQ, blockQ, Ann.kill, List.find?_nil]
  repeat apply W_seq
  refine W_region (by simp; first | exact ⟨rfl, rfl⟩ | exact rfl) ?_
  try simp only [thenQ, blockQ, Ann.kill, List.find?_nil]
  repeat apply W_seq
  refine W_cond (t := false) (by simp) ?_
  simp only [if_true, if_false, Bool.false_eq_true]
  refine W_skip ?_
  try simp only [thenQ, blockQ, Ann.kill, List.find?_nil]
  repeat apply W_seq
  refine W_region (by simp; first | exact ⟨rfl, rfl⟩ | exact rfl) ?_
  try simp only [thenQ, blockQ, Ann.kill, List.find?_nil]
  repeat apply W_seq
  refine W_cond (t := false) (by simp) ?_
  simp only [if_true, if_false, Bool.false_eq_true]
  refine W_skip ?_
  try simp only [thenQ, blockQ, Ann.kill, List.find?_nil]
  repeat apply W_seq
  refine W_region (by simp [eqIntS_ld n.args hn.1]; first | exact ⟨rfl, rfl⟩ | exact rfl) ?_
  try simp only [thenQ, blockQ, Ann.kill, List.find?_nil]
  repeat apply W_seq
  refine W_cond (t := false) (by simp) ?_
  simp only [if_true, if_false, Bool.false_eq_true]
  refine W_skip ?_
  try simp only [thenQ, blockQ, Ann.kill, List.find?_nil]
  repeat apply W_seq
  refine W_region (by simp; first | exact ⟨rfl, rfl⟩ | exact rfl) ?_
  try simp only [thenQ, blockQ, Ann.kill, List.find?_nil]
  repeat apply W_seq
  refine W_cond (t := false) (by simp) ?_
  simp only [if_true, if_false, Bool.false_eq_true]
  refine W_skip ?_
  try simp only [thenQ, blockQ, Ann.kill, List.find?_nil]
  repeat apply W_seq
  refine W_region (by simp; first | exact ⟨rfl, rfl⟩ | exact rfl) ?_
  try simp only [thenQ, blockQ, Ann.kill, List.find?_nil]
  repeat apply W_seq
  refine W_cond (t := false) (by simp) ?_
  simp only [if_true, if_false, Bool.false_eq_true]
  refine W_skip ?_
  try simp only [thenQ, blockQ, Ann.kill, List.find?_nil]
  repeat apply W_seq
  refine W_region (by simp [eqIntS_ld n.kids hn.2]; first | exact ⟨rfl, rfl⟩ | exact rfl) ?_
  try simp only [thenQ, blockQ, Ann.kill, List.find?_nil]
  repeat apply W_seq
  refine W_cond (t := false) (by simp) ?_
  simp only [if_true, if_false, Bool.false_eq_true]
  refine W_skip ?_
  try simp only [thenQ, blockQ, Ann.kill, List.find?_nil]
  repeat apply W_seq
  refine W_region (by simp; first | exact ⟨rfl, rfl⟩ | exact rfl) ?_
  try simp only [thenQ, blockQ, Ann.kill, List.find?_nil]
  refine W_ret ?_
  try simp only [thenQ, blockQ]
  simp [Try.f37]

theorem eqTreeNodeS_lv (l : List N) (hl : l.length ≤ 281474976710656) (hn : ∀ n ∈ l, n.ok) : LV S 30 [.t (Ls l), .t (Ls l)] [] = some (.t (B true), []) := by
  refine LV_body (A := A30) rfl Try.func30 rfl ?_
  repeat apply W_seq
  refine W_region (by simp; first | exact ⟨rfl, rfl⟩ | exact rfl) ?_
  try simp only [thenQ, blockQ, Ann.kill, List.find?_nil]
  repeat apply W_seq
  refine W_region (by simp; first | exact ⟨rfl, rfl⟩ | exact rfl) ?_
  try simp only [thenQ, blockQ, Ann.kill, List.find?_nil]
  repeat apply W_seq
  refine W_cond (t := false) (by simp) ?_
  simp only [if_true, if_false, Bool.false_eq_true]
  refine W_skip ?_
  try simp only [thenQ, blockQ, Ann.kill, List.find?_nil]
  repeat apply W_seq
  refine W_region (by simp; first | exact ⟨rfl, rfl⟩ | exact rfl) ?_
  try simp only [thenQ, blockQ, Ann.kill, List.find?_nil]
  repeat apply W_seq
  refine W_block ?_
  refine W_loop (I := fun m st σ => ∃ (k : Nat), m = l.length - k ∧ k ≤ l.length ∧ st.vars = [(0, .t (Ls l)), (1, .t (Ls l)), (4, .t (B false)), (5, .t (I k))] ∧ σ = []) ?_ l.length _ _ ⟨0, rfl, Nat.zero_le _, by simp, rfl⟩
  rintro m ⟨vars, scr⟩ σ ⟨k, rfl, hk, hv, rfl⟩
  simp only at hv
  subst hv
  repeat apply W_seq
  refine W_region (by simp; first | exact ⟨rfl, rfl⟩ | exact rfl) ?_
  try simp only [thenQ, blockQ, Ann.kill, List.find?_nil]
  by_cases c1 : k < l.length
  · repeat apply W_seq
    refine W_cond (t := true) (by simp [c1]) ?_
    simp only [if_true, if_false, Bool.false_eq_true]
    refine W_skip ?_
    try simp only [thenQ, blockQ, Ann.kill, List.find?_nil]
    repeat apply W_seq
    refine W_block ?_
    obtain ⟨x, hp⟩ : ∃ x, l[k]? = some x := ⟨l[k], by simp [c1]⟩
    repeat apply W_seq
    refine W_region (by simp [hp, eqTreeNode_ld x (hn x (List.mem_of_getElem? hp))]; first | exact ⟨rfl, rfl⟩ | exact rfl) ?_
    try simp only [thenQ, blockQ, Ann.kill, List.find?_nil]
    repeat apply W_seq
    refine W_cond (t := false) (by simp) ?_
    simp only [if_true, if_false, Bool.false_eq_true]
    refine W_skip ?_
    try simp only [thenQ, blockQ, Ann.kill, List.find?_nil]
    repeat apply W_seq
    refine W_region (by simp [IntWalk.i64_in ((k : Int) + 1) (by omega)]; first | exact ⟨rfl, rfl⟩ | exact rfl) ?_
    try simp only [thenQ, blockQ, Ann.kill, List.find?_nil]
    exact ⟨l.length - (k + 1), by omega, k + 1, rfl, c1, by simp, by simp⟩
  · repeat apply W_seq
    refine W_cond (t := false) (by simp [c1]) ?_
    simp only [if_true, if_false, Bool.false_eq_true]
    repeat apply W_seq
    refine W_exit ?_
    try simp only [thenQ, blockQ, if_true, Ann.kill, List.find?_nil]
    repeat apply W_seq
    refine W_region (by simp; first | exact ⟨rfl, rfl⟩ | exact rfl) ?_
    try simp only [thenQ, blockQ, Ann.kill, List.find?_nil]
    refine W_ret ?_
    try simp only [thenQ, blockQ]
    simp [Try.f30]

theorem eqTreeNodeS_ld (l : List N) (hl : l.length ≤ 281474976710656) (hn : ∀ n ∈ l, n.ok) (σ : Store) : LD S 30 [.t (Ls l), .t (Ls l)] σ = some (.t (B true), σ) :=
  LD_pure (A := A30) rfl rfl rfl (eqTreeNodeS_lv l hl hn) rfl σ

theorem eqNils_ld (σ : Store) : LD S 30 [.t .nils, .t .nils] σ = some (.t (B true), σ) := by
  refine LD_pure (A := A30) (v := .t (B true)) (σ0 := []) rfl rfl rfl ?_ rfl σ
  refine LV_body (A := A30) rfl Try.func30 rfl ?_
  repeat apply W_seq
  refine W_region (by simp; first | exact ⟨rfl, rfl⟩ | exact rfl) ?_
  try simp only [thenQ, blockQ, Ann.kill, List.find?_nil]
  repeat apply W_seq
  refine W_region (by simp; first | exact ⟨rfl, rfl⟩ | exact rfl) ?_
  try simp only [thenQ, blockQ, Ann.kill, List.find?_nil]
  repeat apply W_seq
  refine W_cond (t := false) (by simp) ?_
  simp only [if_true, if_false, Bool.false_eq_true]
  refine W_skip ?_
  try simp only [thenQ, blockQ, Ann.kill, List.find?_nil]
  repeat apply W_seq
  refine W_region (by simp; first | exact ⟨rfl, rfl⟩ | exact rfl) ?_
  try simp only [thenQ, blockQ, Ann.kill, List.find?_nil]
  repeat apply W_seq
  refine W_block ?_
  refine W_loop_step ?_
  repeat apply W_seq
  refine W_region (by simp; first | exact ⟨rfl, rfl⟩ | exact rfl) ?_
  try simp only [thenQ, blockQ, Ann.kill, List.find?_nil]
  repeat apply W_seq
  refine W_cond (t := false) (by simp) ?_
  simp only [if_true, if_false, Bool.false_eq_true]
  repeat apply W_seq
  refine W_exit ?_
  try simp only [thenQ, blockQ, if_true, Ann.kill, List.find?_nil]
  repeat apply W_seq
  refine W_region (by simp; first | exact ⟨rfl, rfl⟩ | exact rfl) ?_
  try simp only [thenQ, blockQ, Ann.kill, List.find?_nil]
  refine W_ret ?_
  try simp only [thenQ, blockQ]
  simp [Try.f30]

/-- What a tree is, as a tree: its nodes, or none (nil). -/
def isTree (x : T) (l : List N) : Prop := x = Ls l ∨ (x = .nils ∧ l = [])
/-! ### Marks -/
def mkI (k : Int) : Nat → List Int
  | 0 => []
  | n + 1 => k :: mkI (k + 1) n
theorem mkI_length (k : Int) (n : Nat) : (mkI k n).length = n := by
  induction n generalizing k with
  | zero => rfl
  | succ n ih => simp [mkI, ih]
theorem mkI_get (k : Int) (n i : Nat) (h : i < n) : (mkI k n)[i]? = some (k + i) := by
  induction n generalizing k i with
  | zero => omega
  | succ n ih =>
    cases i with
    | zero => simp [mkI]
    | succ i =>
      simp only [mkI, List.getElem?_cons_succ]
      rw [ih (k + 1) i (by omega)]
      simp only [Option.some.injEq]
      omega
def N.size (m : N) : Int := 4 + m.args.length + m.kids.length
def mkN (k : Int) (m : N) : N := { rule := k, alt := k + 1, args := mkI (k + 2) m.args.length, fr := k + 2 + m.args.length, to := k + 3 + m.args.length, kids := mkI (k + 4 + m.args.length) m.kids.length }
def mkL (k : Int) : List N → List N
  | [] => []
  | m :: r => mkN k m :: mkL (k + m.size) r
def endL (k : Int) : List N → Int
  | [] => k
  | m :: r => endL (k + m.size) r
theorem mkL_length (k : Int) (l : List N) : (mkL k l).length = l.length := by
  induction l generalizing k with
  | nil => rfl
  | cons m r ih => simp [mkL, ih]
theorem N.size_nonneg (m : N) : 0 ≤ m.size := by unfold N.size; omega
theorem endL_le (k : Int) (l : List N) : k ≤ endL k l := by
  induction l generalizing k with
  | nil => simp [endL]
  | cons m r ih => simp only [endL]; have := ih (k + m.size); have := m.size_nonneg; omega
theorem endL_append (k : Int) (a b : List N) : endL k (a ++ b) = endL (endL k a) b := by
  induction a generalizing k with
  | nil => rfl
  | cons m r ih => simp [endL, ih]
theorem mkL_get (k : Int) (l : List N) (i : Nat) (m : N) (h : l[i]? = some m) : (mkL k l)[i]? = some (mkN (endL k (l.take i)) m) := by
  induction l generalizing k i with
  | nil => simp at h
  | cons a r ih =>
    cases i with
    | zero => simp at h; subst h; simp [mkL, endL]
    | succ i => simp only [mkL, List.getElem?_cons_succ, List.take_succ_cons, endL]; exact ih _ i (by simpa using h)
theorem endL_step {k : Int} {l : List N} {i : Nat} {m : N} (h : l[i]? = some m) : endL k (l.take (i + 1)) = endL k (l.take i) + m.size := by
  rw [List.take_add_one, h]
  simp [endL_append, endL]
theorem endL_take_le (k : Int) (l : List N) (i : Nat) : endL k (l.take i) ≤ endL k l := by
  have := endL_append k (l.take i) (l.drop i)
  rw [List.take_append_drop] at this
  rw [this]
  exact endL_le _ _

theorem heldIntS_ld (k : Int) (n : Nat) (σ : Store) (hl : n ≤ 281474976710656) (h0 : 0 ≤ k) (h1 : k + n ≤ 4611686018427387904) : LD S 39 [.t (L (mkI k n)), .t (I k)] σ = some (.t (I (k + n)), σ) := by
  refine LD_pure (A := A39) (v := .t (I (k + n))) (σ0 := []) rfl rfl rfl ?_ rfl σ
  refine LV_body (A := A39) rfl Try.func39 rfl ?_
  repeat apply W_seq
  refine W_region (by simp; first | exact ⟨rfl, rfl⟩ | exact rfl) ?_
  try simp only [thenQ, blockQ, Ann.kill, List.find?_nil]
  repeat apply W_seq
  refine W_region (by simp; first | exact ⟨rfl, rfl⟩ | exact rfl) ?_
  try simp only [thenQ, blockQ, Ann.kill, List.find?_nil]
  repeat apply W_seq
  refine W_block ?_
  refine W_loop (I := fun m st σ => ∃ (i : Nat), m = n - i ∧ i ≤ n ∧ st.vars = [(0, .t (L (mkI k n))), (1, .t (I (k + i))), (4, .t (I 0)), (5, .t (I i))] ∧ σ = []) ?_ n _ _ ⟨0, rfl, Nat.zero_le _, by simp, rfl⟩
  rintro m ⟨vars, scr⟩ σ ⟨i, rfl, hk, hv, rfl⟩
  simp only at hv
  subst hv
  repeat apply W_seq
  refine W_region (by simp [mkI_length]; first | exact ⟨rfl, rfl⟩ | exact rfl) ?_
  try simp only [thenQ, blockQ, Ann.kill, List.find?_nil]
  by_cases c1 : i < n
  · repeat apply W_seq
    refine W_cond (t := true) (by simp [c1]) ?_
    simp only [if_true, if_false, Bool.false_eq_true]
    refine W_skip ?_
    try simp only [thenQ, blockQ, Ann.kill, List.find?_nil]
    repeat apply W_seq
    refine W_block ?_
    repeat apply W_seq
    refine W_region (by simp [mkI_get k n i c1]; first | exact ⟨rfl, rfl⟩ | exact rfl) ?_
    try simp only [thenQ, blockQ, Ann.kill, List.find?_nil]
    repeat apply W_seq
    refine W_cond (t := false) (by simp) ?_
    simp only [if_true, if_false, Bool.false_eq_true]
    refine W_skip ?_
    try simp only [thenQ, blockQ, Ann.kill, List.find?_nil]
    repeat apply W_seq
    refine W_region (by simp; first | exact ⟨rfl, rfl⟩ | exact rfl) ?_
    try simp only [thenQ, blockQ, Ann.kill, List.find?_nil]
    rw [IntWalk.i64_in (k + (i : Int) + 1) (by omega)]
    repeat apply W_seq
    refine W_region (by simp [IntWalk.i64_in ((i : Int) + 1) (by omega)]; first | exact ⟨rfl, rfl⟩ | exact rfl) ?_
    try simp only [thenQ, blockQ, Ann.kill, List.find?_nil]
    exact ⟨n - (i + 1), by omega, i + 1, rfl, c1, by simp [Int.add_assoc], by simp⟩
  · repeat apply W_seq
    refine W_cond (t := false) (by simp [c1]) ?_
    simp only [if_true, if_false, Bool.false_eq_true]
    repeat apply W_seq
    refine W_exit ?_
    try simp only [thenQ, blockQ, if_true, Ann.kill, List.find?_nil]
    have : i = n := by omega
    subst this
    repeat apply W_seq
    refine W_region (by simp; first | exact ⟨rfl, rfl⟩ | exact rfl) ?_
    try simp only [thenQ, blockQ, Ann.kill, List.find?_nil]
    refine W_ret ?_
    try simp only [thenQ, blockQ]
    simp [Try.f39]
