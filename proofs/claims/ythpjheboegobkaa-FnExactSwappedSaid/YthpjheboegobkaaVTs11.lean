/- A part of the proof. No statement of the claim is in it. -/
import Derived.Test.YthpjheboegobkaaVTs10
open Go Go.V Go.Proofs
namespace X
set_option maxRecDepth 100000
set_option maxHeartbeats 4000000
set_option linter.unusedSimpArgs false
set_option linter.unusedVariables false
attribute [-simp] lenV idxV setRange
theorem markNils_ld (k : Int) (σ : Store) : LD S 31 [.t .nils, .t (I k)] σ = some (.t (I k), σ) := by
  rw [LD_inl (A := A31) rfl rfl rfl]
  refine LV_body (A := A31) rfl Try.func31 rfl ?_
  repeat apply W_seq
  refine W_region (by simp; first | exact ⟨rfl, rfl⟩ | exact rfl) ?_
  try simp only [thenQ, blockQ, Ann.kill, List.find?_nil]
  repeat apply W_seq
  refine W_region (by simp; first | exact ⟨rfl, rfl⟩ | exact rfl) ?_
  try simp only [thenQ, blockQ, Ann.kill, List.find?_nil]
  repeat apply W_seq
  refine W_block ?_
  refine W_loop_step ?_
  repeat apply W_seq
  refine W_region (by simp; first | exact ⟨rfl, rfl⟩ | exact rfl) ?_
  try simp only [thenQ, blockQ, Ann.kill, List.find?_nil]
  repeat apply W_seq
  refine W_cond (t := false) (by simp) ?_
  simp only [if_true, if_false, Bool.false_eq_true]
  repeat apply W_seq
  refine W_exit ?_
  try simp only [thenQ, blockQ, if_true, Ann.kill, List.find?_nil]
  repeat apply W_seq
  refine W_region (by simp; first | exact ⟨rfl, rfl⟩ | exact rfl) ?_
  try simp only [thenQ, blockQ, Ann.kill, List.find?_nil]
  refine W_ret ?_
  try simp only [thenQ, blockQ]
  simp [Try.f31]
theorem markTree_ld {σ : Store} {v : V} {l : List N} {lo hi : Nat} (h : TS σ v l lo hi) (hhi : hi ≤ σ.length) (k : Int) (hl : l.length ≤ 281474976710656) (hn : ∀ n ∈ l, n.ok) (h0 : 0 ≤ k) (h1 : endL k l ≤ 4611686018427387904) :
    ∃ σ', LD S 16 [mkAgg [v], .t (I k)] σ = some (.t (I (endL k l)), σ') ∧ TS σ' v (mkL k l) lo hi ∧ σ.length ≤ σ'.length ∧ ∀ i, i < σ.length → ¬ (lo ≤ i ∧ i < hi) → σ'[i]? = σ[i]? := by
  rcases h with ⟨rfl, rfl⟩ | ⟨t, rfl, hin, hnd, hir, rfl⟩
  · refine ⟨σ ++ [.cells [.t .nils] 0 0], ?_, .inl ⟨rfl, rfl⟩, by simp, fun i hi _ => List.getElem?_append_left hi⟩
    rw [LD_inl (A := A16) rfl rfl rfl]
    refine LV_body (A := A16) rfl Try.func16 rfl ?_
    repeat apply W_seq
    refine W_region (by simp; first | exact ⟨rfl, rfl⟩ | exact rfl) ?_
    try simp only [thenQ, blockQ, Ann.kill, List.find?_nil]
    repeat apply W_seq
    refine W_region (by simp [getA, markNils_ld]; first | exact ⟨rfl, rfl⟩ | exact rfl) ?_
    try simp only [thenQ, blockQ, Ann.kill, List.find?_nil]
    repeat apply W_seq
    refine W_region (by simp; first | exact ⟨rfl, rfl⟩ | exact rfl) ?_
    try simp only [thenQ, blockQ, Ann.kill, List.find?_nil]
    refine W_ret ?_
    try simp only [thenQ, blockQ]
    simp [Try.f16, endL]
  · have hin2 : t.In (σ ++ [.cells [t.sl] 0 0]) := hin.keep fun x hx => List.getElem?_append_left (by have := hir x hx; omega)
    obtain ⟨σ', e1, e2, e3, e4⟩ := markTreeNodeS_ld hin2 hnd k (by simpa using hl) hn h0 h1
    refine ⟨σ', ?_, .inr ⟨{ t with nodes := mkNds k t.nodes }, ?_, e2, ?_, ?_, ?_⟩, by rw [e3]; simp, fun i h1 h2 => ?_⟩
    · rw [LD_inl (A := A16) rfl rfl rfl]
      refine LV_body (A := A16) rfl Try.func16 rfl ?_
      repeat apply W_seq
      refine W_region (by simp; first | exact ⟨rfl, rfl⟩ | exact rfl) ?_
      try simp only [thenQ, blockQ, Ann.kill, List.find?_nil]
      repeat apply W_seq
      refine W_region (by simp [getA, e1]; first | exact ⟨rfl, rfl⟩ | exact rfl) ?_
      try simp only [thenQ, blockQ, Ann.kill, List.find?_nil]
      repeat apply W_seq
      refine W_region (by simp; first | exact ⟨rfl, rfl⟩ | exact rfl) ?_
      try simp only [thenQ, blockQ, Ann.kill, List.find?_nil]
      refine W_ret ?_
      try simp only [thenQ, blockQ]
      simp [Try.f16]
    · simp [Tr.sl, mkNds_length]
    · simpa [Tr.locs, mkNds_locs] using hnd
    · simpa [Tr.locs, mkNds_locs] using hir
    · exact mkNds_n k t.nodes
    · rw [e4 i fun hm => h2 (hir i hm), List.getElem?_append_left h1]

/-! ### Appends -/
theorem rowCells_ints (l : List Int) : rowCells 1 (l.map R1) = some (ints l) := by
  induction l with
  | nil => rfl
  | cons x r ih =>
    simp only [List.map_cons, rowCells, List.length_cons, List.length_nil, if_true, ih, Option.map_some]
    rfl
theorem appendI {σ : Store} {p g w : Nat} {old l : List Int} (h : σ[p]? = some (.cells (ints old) g w)) (hl : (old.length + l.length) * 8 ≤ 140737488355328) (h0 : l ≠ []) :
    appendV S.ty σ [63, 63] (.sl p g 0 old.length 1) (.t (.list (l.map R1))) = some (.sl p (g + 1) 0 (old.length + l.length) 1, σ.set p (.cells (ints (old ++ l)) (g + 1) w)) := by
  have h0' : l.length ≠ 0 := fun e => h0 (List.length_eq_zero_iff.1 e)
  simp [appendV, srcCells, rowCells_ints, h, h0', hl, h0]
  simp [ints]
theorem appendI0 {σ : Store} {p g n : Nat} :
    appendV S.ty σ [63, 63] (.sl p g 0 n 1) (.t (.list [])) = some (.sl p g 0 n 1, σ) := by
  simp [appendV, srcCells, rowCells]
theorem copyInts_ld (l : List Int) (hl : l.length * 8 ≤ 140737488355328) (σ : Store) : ∃ g, LD S 36 [.t (L l)] σ = some (.sl σ.length g 0 l.length 1, σ ++ [.cells (ints l) g 0]) := by
  by_cases h0 : l = []
  · subst h0
    refine ⟨0, ?_⟩
    rw [LD_inl (A := A36) rfl rfl rfl]
    refine LV_body (A := A36) rfl Try.func36 rfl ?_
    repeat apply W_seq
    refine W_region (by simp; first | exact ⟨rfl, rfl⟩ | exact rfl) ?_
    try simp only [thenQ, blockQ, Ann.kill, List.find?_nil]
    repeat apply W_seq
    refine W_region (by simp [sliceCells, appendI0]; first | exact ⟨rfl, rfl⟩ | exact rfl) ?_
    try simp only [thenQ, blockQ, Ann.kill, List.find?_nil]
    refine W_ret ?_
    try simp only [thenQ, blockQ]
    simp [Try.f36, ints]
  · refine ⟨1, ?_⟩
    have := appendI (σ := σ ++ [.cells [] 0 0]) (p := σ.length) (g := 0) (w := 0) (old := []) (l := l) (by rw [getA]; rfl) (by simpa using hl) h0
    simp only [List.length_nil, Nat.zero_add, List.nil_append] at this
    rw [LD_inl (A := A36) rfl rfl rfl]
    refine LV_body (A := A36) rfl Try.func36 rfl ?_
    repeat apply W_seq
    refine W_region (by simp; first | exact ⟨rfl, rfl⟩ | exact rfl) ?_
    try simp only [thenQ, blockQ, Ann.kill, List.find?_nil]
    repeat apply W_seq
    refine W_region (by simp [sliceCells, this]; first | exact ⟨rfl, rfl⟩ | exact rfl) ?_
    try simp only [thenQ, blockQ, Ann.kill, List.find?_nil]
    refine W_ret ?_
    try simp only [thenQ, blockQ]
    simp [Try.f36, setA]
