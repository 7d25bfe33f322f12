/- A part of the proof. No statement of the claim is in it. -/
import Derived.Test.YthpjheboegobkaaVTs6
open Go Go.V Go.Proofs
namespace X
set_option maxRecDepth 100000
set_option maxHeartbeats 4000000
set_option linter.unusedSimpArgs false
set_option linter.unusedVariables false
attribute [-simp] lenV idxV setRange
/-! ### Copies of what was handed in -/
theorem LD_inl {S : Sy} {f : FuncId} {A : Ann} (hA : S.ann f = some A) (hp : A.isPure = false) (hq : A.isFresh = false) (args : List V) (σ : Store) : LD S f args σ = LV S f args σ := by
  unfold LD docall
  rw [hA]
  simp only [hp, hq, Bool.false_eq_true, if_false]

theorem repZero_int (n : Nat) : repZero [.t (I 0)] n = ints (List.replicate n 0) := by
  induction n with
  | zero => rfl
  | succ n ih => simp only [repZero, List.replicate_succ, ih]; rfl
theorem step_ints (l : List Int) (k : Nat) (x : Int) (h : l[k]? = some x) : (ints (l.take k ++ List.replicate (l.length - k) 0)).set k (.t (I x)) = ints (l.take (k + 1) ++ List.replicate (l.length - (k + 1)) 0) := by
  have hk : k < l.length := by
    rcases Nat.lt_or_ge k l.length with h1 | h1
    · exact h1
    · rw [List.getElem?_eq_none h1] at h; cases h
  have hlen : (l.take k).length = k := by rw [List.length_take]; omega
  obtain ⟨n, hn⟩ : ∃ n, l.length - k = n + 1 := ⟨l.length - k - 1, by omega⟩
  have hn2 : l.length - (k + 1) = n := by omega
  rw [hn, hn2, List.replicate_succ, List.take_add_one, h]
  simp only [ints, List.map_append, List.map_cons]
  rw [List.set_append_right _ _ (by simp; omega), List.length_map, hlen, Nat.sub_self, List.set_cons_zero]
  simp
theorem toIntS_ld {x : T} {l : List Int} (h : IsL x R1 l) (σ : Store) (hl : l.length * 8 ≤ 140737488355328) : LD S 41 [.t x] σ = some (.sl σ.length 0 0 l.length 1, σ ++ [.cells (ints l) 0 0]) := by
  refine (LD_inl (A := A41) rfl rfl rfl [.t x] σ).trans ?_
  refine LV_body (A := A41) rfl Try.func41 rfl ?_
  repeat apply W_seq
  refine W_region (by simp; first | exact ⟨rfl, rfl⟩ | exact rfl) ?_
  try simp only [thenQ, blockQ, Ann.kill, List.find?_nil]
  repeat apply W_seq
  refine W_region (by simp [h.len, show (l.length : Int) * 8 ≤ 140737488355328 by omega]; first | exact ⟨rfl, rfl⟩ | exact rfl) ?_
  try simp only [thenQ, blockQ, Ann.kill, List.find?_nil]
  repeat apply W_seq
  refine W_region (by simp; first | exact ⟨rfl, rfl⟩ | exact rfl) ?_
  try simp only [thenQ, blockQ, Ann.kill, List.find?_nil]
  repeat apply W_seq
  refine W_block ?_
  refine W_loop (I := fun m st τ => ∃ k, m = l.length - k ∧ k ≤ l.length ∧ st.vars = [(0, .t x), (2, .t .nils), (3, .sl σ.length 0 0 l.length 1), (4, .t (I k))] ∧ τ = σ ++ [.cells (ints (l.take k ++ List.replicate (l.length - k) 0)) 0 0]) ?_ l.length _ _ ⟨0, rfl, Nat.zero_le _, by simp, by simp [repZero_int]⟩
  rintro m ⟨vars, scr⟩ τ ⟨k, rfl, hk, hv, rfl⟩
  simp only at hv
  subst hv
  repeat apply W_seq
  refine W_region (by simp [h.len]; first | exact ⟨rfl, rfl⟩ | exact rfl) ?_
  try simp only [thenQ, blockQ, Ann.kill, List.find?_nil]
  by_cases c1 : k < l.length
  · repeat apply W_seq
    refine W_cond (t := true) (by simp [c1]) ?_
    simp only [if_true, if_false, Bool.false_eq_true]
    refine W_skip ?_
    try simp only [thenQ, blockQ, Ann.kill, List.find?_nil]
    repeat apply W_seq
    refine W_block ?_
    obtain ⟨y, hp⟩ : ∃ y, l[k]? = some y := ⟨l[k], by simp [c1]⟩
    have hi : idxV 1 (.t x) (k : Int) = some (.t (.snap [I y])) := h.idx hp rfl
    have hc : k + 1 ≤ min k l.length + (l.length - k) := by omega
    repeat apply W_seq
    refine W_region (by simp [hi, hp, hc, c1, setRange1, step_ints l k y hp]; first | exact ⟨rfl, rfl⟩ | exact rfl) ?_
    try simp only [thenQ, blockQ, Ann.kill, List.find?_nil]
    repeat apply W_seq
    refine W_region (by simp [IntWalk.i64_in ((k : Int) + 1) (by omega)]; first | exact ⟨rfl, rfl⟩ | exact rfl) ?_
    try simp only [thenQ, blockQ, Ann.kill, List.find?_nil]
    exact ⟨l.length - (k + 1), by omega, k + 1, rfl, c1, by simp, by simp⟩
  · repeat apply W_seq
    refine W_cond (t := false) (by simp [c1]) ?_
    simp only [if_true, if_false, Bool.false_eq_true]
    repeat apply W_seq
    refine W_exit ?_
    try simp only [thenQ, blockQ, if_true, Ann.kill, List.find?_nil]
    have hk2 : k = l.length := by omega
    subst hk2
    repeat apply W_seq
    refine W_region (by simp; first | exact ⟨rfl, rfl⟩ | exact rfl) ?_
    try simp only [thenQ, blockQ, Ann.kill, List.find?_nil]
    refine W_ret ?_
    try simp only [thenQ, blockQ]
    simp [Try.f41]

theorem getA (σ r : Store) : (σ ++ r)[σ.length]? = r[0]? := by
  rw [List.getElem?_append_right (Nat.le_refl _), Nat.sub_self]
theorem getB (σ r : Store) (k : Nat) : (σ ++ r)[σ.length + k]? = r[k]? := by
  rw [List.getElem?_append_right (Nat.le_add_right _ _), Nat.add_sub_cancel_left]
theorem setA (σ r : Store) (x : Go.V.Obj) : (σ ++ r).set σ.length x = σ ++ r.set 0 x := by
  rw [List.set_append_right _ _ (Nat.le_refl _), Nat.sub_self]
theorem setB (σ r : Store) (k : Nat) (x : Go.V.Obj) : (σ ++ r).set (σ.length + k) x = σ ++ r.set k x := by
  rw [List.set_append_right _ _ (by omega), Nat.add_sub_cancel_left]
theorem getC {σ : Store} {q : Nat} (h : q < σ.length) (r : Store) : (σ ++ r)[q]? = σ[q]? := List.getElem?_append_left h
theorem setC {σ : Store} {q : Nat} (h : q < σ.length) (r : Store) (x : Go.V.Obj) : (σ ++ r).set q x = σ.set q x ++ r := List.set_append_left _ _ h

/-- the objects that a copy of a node leaves -/
def nodeObjs (m : LN) (p : Nat) : Store := [.cells (m.cs.map V.t) 0 0,
  .cells [.t (I m.n.rule), .t (I m.n.alt), .sl (p + 3) 0 0 m.n.args.length 1, .t (I m.n.fr), .t (I m.n.to), .sl (p + 4) 0 0 m.n.kids.length 1] 0 0,
  .cells [.t (I m.n.rule), .t (I m.n.alt), .sl (p + 3) 0 0 m.n.args.length 1, .t (I m.n.fr), .t (I m.n.to), .sl (p + 4) 0 0 m.n.kids.length 1] 0 0,
  .cells (ints m.n.args) 0 0, .cells (ints m.n.kids) 0 0]
/-- the copy of a node -/
def ndOf (m : LN) (p : Nat) : Nd := { rule := m.n.rule, alt := m.n.alt, args := ⟨p + 3, 0, m.n.args⟩, fr := m.n.fr, to := m.n.to, kids := ⟨p + 4, 0, m.n.kids⟩ }
theorem toTreeNode_ld {m : LN} (h : m.ok) (ha : m.n.args.length * 8 ≤ 140737488355328) (hk : m.n.kids.length * 8 ≤ 140737488355328) (σ : Store) : LD S 34 [.t m.enc] σ = some (.agg (ndOf m σ.length).cs, σ ++ nodeObjs m σ.length) := by
  refine (LD_inl (A := A34) rfl rfl rfl [.t m.enc] σ).trans ?_
  refine LV_body (A := A34) rfl Try.func34 rfl ?_
  repeat apply W_seq
  refine W_region (by simp; first | exact ⟨rfl, rfl⟩ | exact rfl) ?_
  try simp only [thenQ, blockQ, Ann.kill, List.find?_nil]
  repeat apply W_seq
  refine W_region (by simp [getA, getB, setA, setB]; first | exact ⟨rfl, rfl⟩ | exact rfl) ?_
  try simp only [thenQ, blockQ, Ann.kill, List.find?_nil]
  repeat apply W_seq
  refine W_region (by simp [getA, getB, setA, setB, setRange1]; first | exact ⟨rfl, rfl⟩ | exact rfl) ?_
  try simp only [thenQ, blockQ, Ann.kill, List.find?_nil]
  repeat apply W_seq
  refine W_region (by simp [getA, getB, setA, setB, setRange1]; first | exact ⟨rfl, rfl⟩ | exact rfl) ?_
  try simp only [thenQ, blockQ, Ann.kill, List.find?_nil]
  repeat apply W_seq
  refine W_region (by simp [getA, getB, setA, setB, setRange1, toIntS_ld h.1 _ ha]; first | exact ⟨rfl, rfl⟩ | exact rfl) ?_
  try simp only [thenQ, blockQ, Ann.kill, List.find?_nil]
  repeat apply W_seq
  refine W_region (by simp [getA, getB, setA, setB, setRange1]; first | exact ⟨rfl, rfl⟩ | exact rfl) ?_
  try simp only [thenQ, blockQ, Ann.kill, List.find?_nil]
  repeat apply W_seq
  refine W_region (by simp [getA, getB, setA, setB, setRange1]; first | exact ⟨rfl, rfl⟩ | exact rfl) ?_
  try simp only [thenQ, blockQ, Ann.kill, List.find?_nil]
  repeat apply W_seq
  refine W_region (by simp [getA, getB, setA, setB, setRange1, toIntS_ld h.2.1 _ hk]; first | exact ⟨rfl, rfl⟩ | exact rfl) ?_
  try simp only [thenQ, blockQ, Ann.kill, List.find?_nil]
  repeat apply W_seq
  refine W_region (by simp [getA, getB, setA, setB, setRange]; first | exact ⟨rfl, rfl⟩ | exact rfl) ?_
  try simp only [thenQ, blockQ, Ann.kill, List.find?_nil]
  refine W_ret ?_
  try simp only [thenQ, blockQ]
  simp [Try.f34, getA, getB, nodeObjs, ndOf]
