/- A part of the proof. No statement of the claim is in it. -/
import Derived.Test.YtphkipgmklhdgaaGreatVEr1
open Go Go.V Go.Proofs
namespace X
set_option maxRecDepth 100000
set_option maxHeartbeats 4000000
set_option linter.unusedSimpArgs false
set_option linter.unusedVariables false
/-! ### What is known at a place -/
abbrev Env := List (List Nat × Int)
def rowE (p : List Nat × Int) : T := .agg [.str p.1, I p.2]
def rowsE (e : Env) : List T := e.map rowE
def envT (e : Env) : T := .list (rowsE e)
@[simp] theorem rowsE_len (e : Env) : (rowsE e).length = e.length := by simp [rowsE]
@[simp] theorem rowsE_get (e : Env) (i : Nat) : (rowsE e)[i]? = (e[i]?).map rowE := by simp [rowsE]
theorem eqL_eq (a b : List Nat) : eqL a b = decide (a = b) := by
 cases h : eqL a b with
 | true => simp [eqL_same h]
 | false =>
  have : ¬ a = b := fun e => by
   subst e
   have : ∀ l, eqL l l = true := fun l => by
    induction l with
    | nil => rfl
    | cons x l ih => simp only [eqL, Nat.beq_refl, ih]; rfl
   rw [this] at h; cases h
  simp [this]
theorem eqVar (p q : List Nat × Int) : eqOp S.ty 173 (.t (rowE p)) (.t (rowE q)) = some (decide (p = q)) := by
 obtain ⟨a, m⟩ := p
 obtain ⟨b, n⟩ := q
 have e3 : eqScal (.int .i64) (.int .i64 m) (.int .i64 n) = some (decide (m = n)) := by simp only [eqScal, if_true]; rfl
 have e4 : eqScal .str (.str a) (.str b) = some (decide (a = b)) := by simp only [eqScal, eqL_eq]
 simp [eqOp, eqFields, rowE, e3, e4]
 by_cases h1 : a = b <;> by_cases h2 : m = n <;> simp [h1, h2]
theorem sameEnv_lv (a b : Env) (hl : a.length ≤ 1048576) : LV S 93 [.t (envT a), .t (envT b)] [] = some (.t (B (decide (a = b))), []) := by
 refine LV_body (A := A93) rfl Tryz.func93 rfl ?_
 repeat apply W_seq
 refine W_region (by simp; first | exact ⟨rfl, rfl⟩ | exact rfl) ?_
 try simp only [thenQ, blockQ, Ann.kill, List.find?_nil]
 by_cases c0 : a.length = b.length
 ·repeat apply W_seq
  refine W_region (by simp [envT]; first | exact ⟨rfl, rfl⟩ | exact rfl) ?_
  try simp only [thenQ, blockQ, Ann.kill, List.find?_nil]
  repeat apply W_seq
  refine W_cond (t := false) (by simp [c0]) ?_
  simp only [if_true, if_false, Bool.false_eq_true]
  refine W_skip ?_
  try simp only [thenQ, blockQ, Ann.kill, List.find?_nil]
  repeat apply W_seq
  refine W_region (by simp; first | exact ⟨rfl, rfl⟩ | exact rfl) ?_
  try simp only [thenQ, blockQ, Ann.kill, List.find?_nil]
  repeat apply W_seq
  refine W_block ?_
  refine W_loop (I := fun m st τ => ∃ k, m = a.length - k ∧ k ≤ a.length ∧ a.take k = b.take k ∧ st.vars = [(0, .t (envT a)), (1, .t (envT b)), (4, .t (B false)), (5, .t (I k))] ∧ τ = []) ?_ a.length _ _ ⟨0, rfl, Nat.zero_le _, rfl, by simp [envT], rfl⟩
  rintro m ⟨vars, scr⟩ τ ⟨k, rfl, hk, he, hv, rfl⟩
  simp only at hv
  subst hv
  repeat apply W_seq
  refine W_region (by simp [envT]; first | exact ⟨rfl, rfl⟩ | exact rfl) ?_
  try simp only [thenQ, blockQ, Ann.kill, List.find?_nil]
  by_cases c1 : k < a.length
  ·repeat apply W_seq
   refine W_cond (t := true) (by simp [c1]) ?_
   simp only [if_true, if_false, Bool.false_eq_true]
   refine W_skip ?_
   try simp only [thenQ, blockQ, Ann.kill, List.find?_nil]
   repeat apply W_seq
   refine W_block ?_
   obtain ⟨p, hp⟩ := get_of_lt c1
   obtain ⟨q, hq⟩ := get_of_lt (show k < b.length by omega)
   have he' := eqVar p q
   simp only [rowE] at he'
   repeat apply W_seq
   refine W_region (by simp [envT, hp, hq, rowE, he']; first | exact ⟨rfl, rfl⟩ | exact rfl) ?_
   try simp only [thenQ, blockQ, Ann.kill, List.find?_nil]
   by_cases c2 : p = q
   ·subst c2
    repeat apply W_seq
    refine W_cond (t := false) (by simp) ?_
    simp only [if_true, if_false, Bool.false_eq_true]
    refine W_skip ?_
    try simp only [thenQ, blockQ, Ann.kill, List.find?_nil]
    repeat apply W_seq
    refine W_region (by simp [IntWalk.i64_in ((k : Int) + 1) (by omega)]; first | exact ⟨rfl, rfl⟩ | exact rfl) ?_
    try simp only [thenQ, blockQ, Ann.kill, List.find?_nil]
    exact ⟨a.length - (k + 1), by omega, k + 1, rfl, c1, take_ext he hp hq, by simp [envT], by simp⟩
   ·repeat apply W_seq
    refine W_cond (t := true) (by simp [c2]) ?_
    simp only [if_true, if_false, Bool.false_eq_true]
    repeat apply W_seq
    refine W_region (by simp; first | exact ⟨rfl, rfl⟩ | exact rfl) ?_
    try simp only [thenQ, blockQ, Ann.kill, List.find?_nil]
    have : ¬ a = b := fun e => by subst e; rw [hp] at hq; cases hq; exact c2 rfl
    refine W_ret ?_
    try simp only [thenQ, blockQ]
    simp [Tryz.f93, this]
  ·repeat apply W_seq
   refine W_cond (t := false) (by simp [c1]) ?_
   simp only [if_true, if_false, Bool.false_eq_true]
   repeat apply W_seq
   refine W_exit ?_
   try simp only [thenQ, blockQ, if_true, Ann.kill, List.find?_nil]
   have hk2 : k = a.length := by omega
   have : a = b := by
    rw [hk2, List.take_length, c0, List.take_length] at he; exact he
   repeat apply W_seq
   refine W_region (by simp; first | exact ⟨rfl, rfl⟩ | exact rfl) ?_
   try simp only [thenQ, blockQ, Ann.kill, List.find?_nil]
   refine W_ret ?_
   try simp only [thenQ, blockQ]
   simp [Tryz.f93, this]
 ·repeat apply W_seq
  refine W_region (by simp [envT]; first | exact ⟨rfl, rfl⟩ | exact rfl) ?_
  try simp only [thenQ, blockQ, Ann.kill, List.find?_nil]
  repeat apply W_seq
  refine W_cond (t := true) (by simp [show ¬ ((a.length : Int) = (b.length : Int)) by omega]) ?_
  simp only [if_true, if_false, Bool.false_eq_true]
  repeat apply W_seq
  refine W_region (by simp; first | exact ⟨rfl, rfl⟩ | exact rfl) ?_
  try simp only [thenQ, blockQ, Ann.kill, List.find?_nil]
  have : ¬ a = b := fun e => c0 (congrArg List.length e)
  refine W_ret ?_
  try simp only [thenQ, blockQ]
  simp [Tryz.f93, this]
theorem sameEnv_ld (a b : Env) (hl : a.length ≤ 1048576) (σ : Store) : LD S 93 [.t (envT a), .t (envT b)] σ = some (.t (B (decide (a = b))), σ) :=
 LD_pure (A := A93) (v := .t (B (decide (a = b)))) (σ0 := []) rfl rfl rfl (sameEnv_lv a b hl) rfl σ

/-! ### Places, and what is known there -/
abbrev At := Nat × Env
def cellsA : List At → List V
 | [] => []
 | a :: r => .t (I a.1) :: .t (envT a.2) :: cellsA r
theorem cellsA_len : ∀ (l : List At), (cellsA l).length = l.length * 2
 | [] => rfl
 | a :: r => by simp only [cellsA, List.length_cons, cellsA_len r]; omega
theorem cellsA_app : ∀ (l r : List At), cellsA (l ++ r) = cellsA l ++ cellsA r
 | [], r => rfl
 | a :: l, r => by simp only [List.cons_append, cellsA, cellsA_app l r]
theorem cellsA_get : ∀ {l : List At} {i : Nat} {a : At}, l[i]? = some a → (cellsA l)[i * 2]? = some (.t (I a.1)) ∧ (cellsA l)[i * 2 + 1]? = some (.t (envT a.2))
 | b :: l, 0, a, h => by
  simp only [List.getElem?_cons_zero, Option.some.injEq] at h
  subst h
  exact ⟨rfl, rfl⟩
 | b :: l, i + 1, a, h => by
  simp only [List.getElem?_cons_succ] at h
  obtain ⟨e1, e2⟩ := cellsA_get h
  have a1 : (i + 1) * 2 = i * 2 + 1 + 1 := by omega
  rw [a1]
  exact ⟨by simpa [cellsA] using e1, by simpa [cellsA] using e2⟩
 | [], _, _, h => by simp at h
def rowsA (l : List At) : List T := l.map fun a => .agg [I a.1, envT a.2]
@[simp] theorem rowsA_len (l : List At) : (rowsA l).length = l.length := by simp [rowsA]
@[simp] theorem rowsA_get (l : List At) (i : Nat) : (rowsA l)[i]? = (l[i]?).map fun a => T.agg [I a.1, envT a.2] := by simp [rowsA]
/-- A value that reads as a list of places. -/
def RdA (σ : Store) (v : V) (l : List At) : Prop := v = .t (.list (rowsA l)) ∨ ∃ d g w, v = .sl d g 0 l.length 2 ∧ σ[d]? = some (.cells (cellsA l) g w) ∧ w ≤ g
theorem RdA.len {σ : Store} {v : V} {l : List At} (h : RdA σ v l) (e : TypeId) : lenV σ (.slice e) v = some (l.length : Int) := by
 rcases h with rfl | ⟨d, g, w, rfl, _, _⟩ <;> simp
def putS (l : List At) (x : At) : List At := if l.contains x then l else l ++ [x]
end X
