/- A part of the proof. No statement of the claim is in it. -/
import Derived.Test.YthpjheboegobkaaVTs8
open Go Go.V Go.Proofs
namespace X
set_option maxRecDepth 100000
set_option maxHeartbeats 4000000
set_option linter.unusedSimpArgs false
set_option linter.unusedVariables false
attribute [-simp] lenV idxV setRange
theorem toTree_ld {x : T} {l : List LN} (h : IsL x LN.enc l) (hn : ∀ m ∈ l, m.fit) (hl : l.length * 80 ≤ 140737488355328) (σ : Store) :
    ∃ (t : Tr) (σ' : Store), LD S 13 [.t (.agg [x])] σ = some (.agg [t.sl], σ') ∧ TS σ' t.sl (LNs l) σ.length σ'.length ∧ σ.length ≤ σ'.length ∧ same 0 σ.length σ σ' := by
  obtain ⟨v, τ, e1, ⟨t, rfl, hin, hnd, hir, hmap⟩, hle, hsm⟩ := toTreeNodeS_ld h hn hl (σ ++ [.cells [.t x] 0 0, .cells [.t .nils] 0 0, .cells [.t .nils] 0 0])
  simp only [List.length_append, List.length_cons, List.length_nil] at hle hsm hir
  have g1 : τ[σ.length + 1]? = some (.cells [.t .nils] 0 0) := by rw [hsm _ (by omega) (by omega), getB]; rfl
  have g2 : τ[σ.length + 2]? = some (.cells [.t .nils] 0 0) := by rw [hsm _ (by omega) (by omega), getB]; rfl
  have k1 : σ.length + 1 < τ.length := by omega
  have k2 : σ.length + 2 < τ.length := by omega
  have key : ∃ v σ', LV S 13 [.t (.agg [x])] σ = some (v, σ') ∧ v = mkAgg [t.sl] ∧ σ'.length = τ.length ∧ ∀ i, i ≠ σ.length + 1 → i ≠ σ.length + 2 → σ'[i]? = τ[i]? := by
    refine LV_bodyP (A := A13) rfl Try.func13 rfl ?_
    repeat apply W_seq
    refine W_region (by simp; first | exact ⟨rfl, rfl⟩ | exact rfl) ?_
    try simp only [thenQ, blockQ, Ann.kill, List.find?_nil]
    repeat apply W_seq
    refine W_region (by simp; first | exact ⟨rfl, rfl⟩ | exact rfl) ?_
    try simp only [thenQ, blockQ, Ann.kill, List.find?_nil]
    have s1 : ∀ X, (τ.set (σ.length + 2) X)[σ.length + 2]? = some X := fun X => List.getElem?_set_self k2
    have s2 : ∀ X, (τ.set (σ.length + 2) X)[σ.length + 1]? = some (.cells [.t .nils] 0 0) := fun X => by rw [List.getElem?_set_ne (by omega), g1]
    have s3 : ∀ X Y, ((τ.set (σ.length + 2) X).set (σ.length + 1) Y)[σ.length + 1]? = some Y := fun X Y => List.getElem?_set_self (by simpa using k1)
    repeat apply W_seq
    refine W_region (by simp [getA, getB, setA, setB, e1, g2, setRange1]; first | exact ⟨rfl, rfl⟩ | exact rfl) ?_
    try simp only [thenQ, blockQ, Ann.kill, List.find?_nil]
    repeat apply W_seq
    refine W_region (by simp [getA, getB, setA, setB, s1, s2, setRange1]; first | exact ⟨rfl, rfl⟩ | exact rfl) ?_
    try simp only [thenQ, blockQ, Ann.kill, List.find?_nil]
    refine W_ret ?_
    try simp only [thenQ, blockQ]
    simp [Try.f13, s3]
    intro i h1 h2
    rw [List.getElem?_set_ne (Ne.symm h1), List.getElem?_set_ne (Ne.symm h2)]
  obtain ⟨v, σ', e2, rfl, e3, e4⟩ := key
  refine ⟨t, σ', ?_, .inr ⟨t, rfl, hin.keep fun i hi => e4 i ?_ ?_, hnd, fun i hi => ?_, hmap⟩, by omega, fun i h0 h1 => ?_⟩
  · rw [LD_inl (A := A13) rfl rfl rfl]; exact e2
  · have := hir i hi; omega
  · have := hir i hi; omega
  · have := hir i hi; omega
  · rw [e4 i (by omega) (by omega), hsm i (by omega) (by omega), List.getElem?_append_left h1]

/-! ### Marks in the store -/
theorem mkI_succ (k : Int) (n : Nat) : mkI k (n + 1) = mkI k n ++ [k + n] := by
  induction n generalizing k with
  | zero => simp [mkI]
  | succ n ih =>
    rw [mkI, ih (k + 1)]
    simp only [mkI, List.cons_append, List.cons.injEq, true_and, List.append_cancel_left_eq, and_true]
    omega
theorem step_mark (l : List Int) (k : Int) (i : Nat) (h : i < l.length) : (ints (mkI k i ++ l.drop i)).set i (.t (I (k + i))) = ints (mkI k (i + 1) ++ l.drop (i + 1)) := by
  rw [mkI_succ, List.drop_eq_getElem_cons h]
  simp only [ints, List.map_append, List.map_cons]
  rw [List.set_append_right _ _ (by simp [mkI_length]), List.length_map, mkI_length, Nat.sub_self, List.set_cons_zero]
  simp
theorem markIntS_ld {s : Sl} {σ : Store} (h : s.In σ) (k : Int) (hl : s.l.length ≤ 281474976710656) (h0 : 0 ≤ k) (h1 : k + s.l.length ≤ 4611686018427387904) :
    ∃ σ', LD S 38 [s.v, .t (I k)] σ = some (.t (I (k + s.l.length)), σ') ∧ ({ s with l := mkI k s.l.length } : Sl).In σ' ∧ σ'.length = σ.length ∧ ∀ i, i ≠ s.loc → σ'[i]? = σ[i]? := by
  have key : ∃ v σ', LV S 38 [s.v, .t (I k)] σ = some (v, σ') ∧ v = .t (I (k + s.l.length)) ∧ ({ s with l := mkI k s.l.length } : Sl).In σ' ∧ σ'.length = σ.length ∧ ∀ i, i ≠ s.loc → σ'[i]? = σ[i]? := by
    refine LV_bodyP (A := A38) rfl Try.func38 rfl ?_
    obtain ⟨w0, hw0, hσ⟩ := h
    have hlt : s.loc < σ.length := get_lt hσ
    repeat apply W_seq
    refine W_region (by simp; first | exact ⟨rfl, rfl⟩ | exact rfl) ?_
    try simp only [thenQ, blockQ, Ann.kill, List.find?_nil]
    repeat apply W_seq
    refine W_region (by simp; first | exact ⟨rfl, rfl⟩ | exact rfl) ?_
    try simp only [thenQ, blockQ, Ann.kill, List.find?_nil]
    repeat apply W_seq
    refine W_block ?_
    refine W_loop (I := fun m st τ => ∃ (i w : Nat), m = s.l.length - i ∧ i ≤ s.l.length ∧ w ≤ s.gen ∧ st.vars = [(0, s.v), (1, .t (I (k + i))), (4, .t (I 0)), (5, .t (I i))] ∧ τ[s.loc]? = some (.cells (ints (mkI k i ++ s.l.drop i)) s.gen w) ∧ τ.length = σ.length ∧ ∀ i, i ≠ s.loc → τ[i]? = σ[i]?) ?_ s.l.length _ _
      ⟨0, w0, rfl, Nat.zero_le _, hw0, by simp, by simpa [mkI] using hσ, rfl, fun _ _ => rfl⟩
    rintro m ⟨vars, scr⟩ τ ⟨i, w, rfl, hk, hw, hv, hτ, hle, hfr⟩
    simp only at hv
    subst hv
    repeat apply W_seq
    refine W_region (by simp; first | exact ⟨rfl, rfl⟩ | exact rfl) ?_
    try simp only [thenQ, blockQ, Ann.kill, List.find?_nil]
    by_cases c1 : i < s.l.length
    · repeat apply W_seq
      refine W_cond (t := true) (by simp [c1]) ?_
      simp only [if_true, if_false, Bool.false_eq_true]
      refine W_skip ?_
      try simp only [thenQ, blockQ, Ann.kill, List.find?_nil]
      repeat apply W_seq
      refine W_block ?_
      have hlen : i + 1 ≤ i + (s.l.length - i) := by omega
      repeat apply W_seq
      refine W_region (by simp [hτ, c1, setRange1, step_mark s.l k i c1, mkI_length, hlen]; first | exact ⟨rfl, rfl⟩ | exact rfl) ?_
      try simp only [thenQ, blockQ, Ann.kill, List.find?_nil]
      repeat apply W_seq
      refine W_region (by simp; first | exact ⟨rfl, rfl⟩ | exact rfl) ?_
      try simp only [thenQ, blockQ, Ann.kill, List.find?_nil]
      rw [IntWalk.i64_in (k + (i : Int) + 1) (by omega)]
      repeat apply W_seq
      refine W_region (by simp [IntWalk.i64_in ((i : Int) + 1) (by omega)]; first | exact ⟨rfl, rfl⟩ | exact rfl) ?_
      try simp only [thenQ, blockQ, Ann.kill, List.find?_nil]
      refine ⟨s.l.length - (i + 1), by omega, i + 1, s.gen, rfl, c1, Nat.le_refl _, by simp [Int.add_assoc], ?_, by simp [hle], fun j hj => ?_⟩
      · rw [List.getElem?_set_self (by omega)]
      · rw [List.getElem?_set_ne (Ne.symm hj), hfr j hj]
    · repeat apply W_seq
      refine W_cond (t := false) (by simp [c1]) ?_
      simp only [if_true, if_false, Bool.false_eq_true]
      repeat apply W_seq
      refine W_exit ?_
      try simp only [thenQ, blockQ, if_true, Ann.kill, List.find?_nil]
      have : i = s.l.length := by omega
      subst this
      repeat apply W_seq
      refine W_region (by simp; first | exact ⟨rfl, rfl⟩ | exact rfl) ?_
      try simp only [thenQ, blockQ, Ann.kill, List.find?_nil]
      refine W_ret ?_
      try simp only [thenQ, blockQ]
      simp [Try.f38]
      refine ⟨⟨w, hw, ?_⟩, hle, hfr⟩
      rw [hτ, List.drop_length, List.append_nil]
  obtain ⟨v, σ', e2, rfl, e3⟩ := key
  exact ⟨σ', by rw [LD_inl (A := A38) rfl rfl rfl]; exact e2, e3⟩
