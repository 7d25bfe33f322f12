/- A part of the proof. No statement of the claim is in it. -/
import Derived.Test.YthpjheboegobkaaVTs3
open Go Go.V Go.Proofs
namespace X
set_option maxRecDepth 100000
set_option maxHeartbeats 4000000
set_option linter.unusedSimpArgs false
set_option linter.unusedVariables false
attribute [-simp] lenV idxV
theorem heldTreeNodeS_ld (k : Int) (l : List N) (σ : Store) (hl : l.length ≤ 281474976710656) (hn : ∀ n ∈ l, n.ok) (h0 : 0 ≤ k) (h1 : endL k l ≤ 4611686018427387904) : LD S 32 [.t (Ls (mkL k l)), .t (I k)] σ = some (.t (I (endL k l)), σ) := by
  refine LD_pure (A := A32) (v := .t (I (endL k l))) (σ0 := []) rfl rfl rfl ?_ rfl σ
  refine LV_body (A := A32) rfl Try.func32 rfl ?_
  repeat apply W_seq
  refine W_region (by simp; first | exact ⟨rfl, rfl⟩ | exact rfl) ?_
  try simp only [thenQ, blockQ, Ann.kill, List.find?_nil]
  repeat apply W_seq
  refine W_region (by simp; first | exact ⟨rfl, rfl⟩ | exact rfl) ?_
  try simp only [thenQ, blockQ, Ann.kill, List.find?_nil]
  repeat apply W_seq
  refine W_block ?_
  refine W_loop (I := fun m st σ => ∃ (i : Nat), m = l.length - i ∧ i ≤ l.length ∧ st.vars = [(0, .t (Ls (mkL k l))), (1, .t (I (endL k (l.take i)))), (4, .t (I 0)), (5, .t (I i))] ∧ σ = []) ?_ l.length _ _ ⟨0, rfl, Nat.zero_le _, by simp [endL], rfl⟩
  rintro m ⟨vars, scr⟩ σ ⟨i, rfl, hk, hv, rfl⟩
  simp only at hv
  subst hv
  repeat apply W_seq
  refine W_region (by simp [mkL_length]; first | exact ⟨rfl, rfl⟩ | exact rfl) ?_
  try simp only [thenQ, blockQ, Ann.kill, List.find?_nil]
  by_cases c1 : i < l.length
  · repeat apply W_seq
    refine W_cond (t := true) (by simp [c1]) ?_
    simp only [if_true, if_false, Bool.false_eq_true]
    refine W_skip ?_
    try simp only [thenQ, blockQ, Ann.kill, List.find?_nil]
    repeat apply W_seq
    refine W_block ?_
    obtain ⟨x, hp⟩ : ∃ x, l[i]? = some x := ⟨l[i], by simp [c1]⟩
    have hg := mkL_get k l i x hp
    have hs := endL_step (k := k) hp
    have hb := endL_take_le k l (i + 1)
    have hb0 := endL_le k (l.take i)
    have hok := hn x (List.mem_of_getElem? hp)
    unfold N.ok at hok
    unfold N.size at hs
    clear c1
    revert hg hs hb hb0
    generalize endL k (l.take i) = c
    generalize hc2 : endL k (l.take (i + 1)) = c2
    intro hg hs hb hb0
    repeat apply W_seq
    refine W_region (by simp [hg, mkN]; first | exact ⟨rfl, rfl⟩ | exact rfl) ?_
    try simp only [thenQ, blockQ, Ann.kill, List.find?_nil]
    repeat apply W_seq
    refine W_cond (t := false) (by simp) ?_
    simp only [if_true, if_false, Bool.false_eq_true]
    refine W_skip ?_
    try simp only [thenQ, blockQ, Ann.kill, List.find?_nil]
    repeat apply W_seq
    refine W_region (by simp [IntWalk.i64_in (c + 1) (by omega)]; first | exact ⟨rfl, rfl⟩ | exact rfl) ?_
    try simp only [thenQ, blockQ, Ann.kill, List.find?_nil]
    repeat apply W_seq
    refine W_region (by simp [hg, mkN]; first | exact ⟨rfl, rfl⟩ | exact rfl) ?_
    try simp only [thenQ, blockQ, Ann.kill, List.find?_nil]
    repeat apply W_seq
    refine W_cond (t := false) (by simp) ?_
    simp only [if_true, if_false, Bool.false_eq_true]
    refine W_skip ?_
    try simp only [thenQ, blockQ, Ann.kill, List.find?_nil]
    repeat apply W_seq
    refine W_region (by simp; first | exact ⟨rfl, rfl⟩ | exact rfl) ?_
    try simp only [thenQ, blockQ, Ann.kill, List.find?_nil]
    rw [IntWalk.i64_in (c + 1 + 1) (by omega), show c + 1 + 1 = c + 2 by omega]
    repeat apply W_seq
    refine W_region (by simp [hg, mkN, heldIntS_ld (c + 2) x.args.length _ hok.1 (by omega) (by omega)]; first | exact ⟨rfl, rfl⟩ | exact rfl) ?_
    try simp only [thenQ, blockQ, Ann.kill, List.find?_nil]
    repeat apply W_seq
    refine W_region (by simp [show ¬ (c + 2 + (x.args.length : Int) < 0) by omega]; first | exact ⟨rfl, rfl⟩ | exact rfl) ?_
    try simp only [thenQ, blockQ, Ann.kill, List.find?_nil]
    repeat apply W_seq
    refine W_cond (t := false) (by simp) ?_
    simp only [if_true, if_false, Bool.false_eq_true]
    refine W_skip ?_
    try simp only [thenQ, blockQ, Ann.kill, List.find?_nil]
    repeat apply W_seq
    refine W_region (by simp [hg, mkN]; first | exact ⟨rfl, rfl⟩ | exact rfl) ?_
    try simp only [thenQ, blockQ, Ann.kill, List.find?_nil]
    repeat apply W_seq
    refine W_cond (t := false) (by simp) ?_
    simp only [if_true, if_false, Bool.false_eq_true]
    refine W_skip ?_
    try simp only [thenQ, blockQ, Ann.kill, List.find?_nil]
    repeat apply W_seq
    refine W_region (by simp; first | exact ⟨rfl, rfl⟩ | exact rfl) ?_
    try simp only [thenQ, blockQ, Ann.kill, List.find?_nil]
    rw [IntWalk.i64_in (c + 2 + (x.args.length : Int) + 1) (by omega)]
    repeat apply W_seq
    refine W_region (by simp [hg, mkN, show c + 2 + (x.args.length : Int) + 1 = c + 3 + (x.args.length : Int) by omega]; first | exact ⟨rfl, rfl⟩ | exact rfl) ?_
    try simp only [thenQ, blockQ, Ann.kill, List.find?_nil]
    repeat apply W_seq
    refine W_cond (t := false) (by simp) ?_
    simp only [if_true, if_false, Bool.false_eq_true]
    refine W_skip ?_
    try simp only [thenQ, blockQ, Ann.kill, List.find?_nil]
    repeat apply W_seq
    refine W_region (by simp; first | exact ⟨rfl, rfl⟩ | exact rfl) ?_
    try simp only [thenQ, blockQ, Ann.kill, List.find?_nil]
    rw [IntWalk.i64_in (c + 3 + (x.args.length : Int) + 1) (by omega), show c + 3 + (x.args.length : Int) + 1 = c + 4 + (x.args.length : Int) by omega]
    repeat apply W_seq
    refine W_region (by simp [hg, mkN, heldIntS_ld (c + 4 + x.args.length) x.kids.length _ hok.2 (by omega) (by omega)]; first | exact ⟨rfl, rfl⟩ | exact rfl) ?_
    try simp only [thenQ, blockQ, Ann.kill, List.find?_nil]
    repeat apply W_seq
    refine W_region (by simp [show ¬ (c + 4 + (x.args.length : Int) + (x.kids.length : Int) < 0) by omega]; first | exact ⟨rfl, rfl⟩ | exact rfl) ?_
    try simp only [thenQ, blockQ, Ann.kill, List.find?_nil]
    repeat apply W_seq
    refine W_cond (t := false) (by simp) ?_
    simp only [if_true, if_false, Bool.false_eq_true]
    refine W_skip ?_
    try simp only [thenQ, blockQ, Ann.kill, List.find?_nil]
    have hi : i < l.length := by
      rcases Nat.lt_or_ge i l.length with h | h
      · exact h
      · rw [List.getElem?_eq_none h] at hp; cases hp
    repeat apply W_seq
    refine W_region (by simp [IntWalk.i64_in ((i : Int) + 1) (by omega)]; first | exact ⟨rfl, rfl⟩ | exact rfl) ?_
    try simp only [thenQ, blockQ, Ann.kill, List.find?_nil]
    exact ⟨l.length - (i + 1), by omega, i + 1, rfl, hi, by simp [hc2, hs, Int.add_assoc], by simp⟩
  · repeat apply W_seq
    refine W_cond (t := false) (by simp [c1]) ?_
    simp only [if_true, if_false, Bool.false_eq_true]
    repeat apply W_seq
    refine W_exit ?_
    try simp only [thenQ, blockQ, if_true, Ann.kill, List.find?_nil]
    have : i = l.length := by omega
    subst this
    repeat apply W_seq
    refine W_region (by simp; first | exact ⟨rfl, rfl⟩ | exact rfl) ?_
    try simp only [thenQ, blockQ, Ann.kill, List.find?_nil]
    refine W_ret ?_
    try simp only [thenQ, blockQ]
    simp [Try.f32]

theorem heldTree_lv (k : Int) (l : List N) (hl : l.length ≤ 281474976710656) (hn : ∀ n ∈ l, n.ok) (h0 : 0 ≤ k) (h1 : endL k l ≤ 4611686018427387904) : LV S 17 [.t (.agg [Ls (mkL k l)]), .t (I k)] [] = some (.t (I (endL k l)), [.cells [.t (Ls (mkL k l))] 0 0]) := by
  refine LV_body (A := A17) rfl Try.func17 rfl ?_
  have hb0 := endL_le k l
  repeat apply W_seq
  refine W_region (by simp; first | exact ⟨rfl, rfl⟩ | exact rfl) ?_
  try simp only [thenQ, blockQ, Ann.kill, List.find?_nil]
  repeat apply W_seq
  refine W_region (by simp [heldTreeNodeS_ld k l _ hl hn h0 h1]; first | exact ⟨rfl, rfl⟩ | exact rfl) ?_
  try simp only [thenQ, blockQ, Ann.kill, List.find?_nil]
  repeat apply W_seq
  refine W_region (by simp; first | exact ⟨rfl, rfl⟩ | exact rfl) ?_
  try simp only [thenQ, blockQ, Ann.kill, List.find?_nil]
  have : ¬ (endL k l < 0) := by omega
  repeat apply W_seq
  refine W_cond (t := false) (by simp [this]) ?_
  simp only [if_true, if_false, Bool.false_eq_true]
  refine W_skip ?_
  try simp only [thenQ, blockQ, Ann.kill, List.find?_nil]
  repeat apply W_seq
  refine W_region (by simp; first | exact ⟨rfl, rfl⟩ | exact rfl) ?_
  try simp only [thenQ, blockQ, Ann.kill, List.find?_nil]
  refine W_ret ?_
  try simp only [thenQ, blockQ]
  simp [Try.f17]
theorem heldNils_ld (k : Int) (σ : Store) : LD S 32 [.t .nils, .t (I k)] σ = some (.t (I k), σ) := by
  refine LD_pure (A := A32) (v := .t (I k)) (σ0 := []) rfl rfl rfl ?_ rfl σ
  refine LV_body (A := A32) rfl Try.func32 rfl ?_
  repeat apply W_seq
  refine W_region (by simp; first | exact ⟨rfl, rfl⟩ | exact rfl) ?_
  try simp only [thenQ, blockQ, Ann.kill, List.find?_nil]
  repeat apply W_seq
  refine W_region (by simp; first | exact ⟨rfl, rfl⟩ | exact rfl) ?_
  try simp only [thenQ, blockQ, Ann.kill, List.find?_nil]
  repeat apply W_seq
  refine W_block ?_
  refine W_loop_step ?_
  repeat apply W_seq
  refine W_region (by simp; first | exact ⟨rfl, rfl⟩ | exact rfl) ?_
  try simp only [thenQ, blockQ, Ann.kill, List.find?_nil]
  repeat apply W_seq
  refine W_cond (t := false) (by simp) ?_
  simp only [if_true, if_false, Bool.false_eq_true]
  repeat apply W_seq
  refine W_exit ?_
  try simp only [thenQ, blockQ, if_true, Ann.kill, List.find?_nil]
  repeat apply W_seq
  refine W_region (by simp; first | exact ⟨rfl, rfl⟩ | exact rfl) ?_
  try simp only [thenQ, blockQ, Ann.kill, List.find?_nil]
  refine W_ret ?_
  try simp only [thenQ, blockQ]
  simp [Try.f32]
theorem heldNil_lv (k : Int) (h0 : 0 ≤ k) : LV S 17 [.t (.agg [.nils]), .t (I k)] [] = some (.t (I k), [.cells [.t .nils] 0 0]) := by
  refine LV_body (A := A17) rfl Try.func17 rfl ?_
  repeat apply W_seq
  refine W_region (by simp; first | exact ⟨rfl, rfl⟩ | exact rfl) ?_
  try simp only [thenQ, blockQ, Ann.kill, List.find?_nil]
  repeat apply W_seq
  refine W_region (by simp [heldNils_ld]; first | exact ⟨rfl, rfl⟩ | exact rfl) ?_
  try simp only [thenQ, blockQ, Ann.kill, List.find?_nil]
  repeat apply W_seq
  refine W_region (by simp; first | exact ⟨rfl, rfl⟩ | exact rfl) ?_
  try simp only [thenQ, blockQ, Ann.kill, List.find?_nil]
  have : ¬ (k < 0) := by omega
  repeat apply W_seq
  refine W_cond (t := false) (by simp [this]) ?_
  simp only [if_true, if_false, Bool.false_eq_true]
  refine W_skip ?_
  try simp only [thenQ, blockQ, Ann.kill, List.find?_nil]
  repeat apply W_seq
  refine W_region (by simp; first | exact ⟨rfl, rfl⟩ | exact rfl) ?_
  try simp only [thenQ, blockQ, Ann.kill, List.find?_nil]
  refine W_ret ?_
  try simp only [thenQ, blockQ]
  simp [Try.f17]
theorem heldTree_ld {v : V} {σ : Store} {x : T} (k : Int) (l : List N) (hx : isTree x (mkL k l)) (h : frz 40 σ v = some (.agg [x])) (hl : l.length ≤ 281474976710656) (hn : ∀ n ∈ l, n.ok) (h0 : 0 ≤ k) (h1 : endL k l ≤ 4611686018427387904) : LD S 17 [v, .t (I k)] σ = some (.t (I (endL k l)), σ) := by
  rcases hx with rfl | ⟨rfl, e⟩
  · exact LD_borrow (A := A17) rfl rfl (ts := [.agg [Ls (mkL k l)], I k]) (by simp only [frzs, h, frz_t]) (heldTree_lv k l hl hn h0 h1) rfl
  · have : l = [] := by
      have := mkL_length k l
      rw [e] at this
      exact List.length_eq_zero_iff.1 this.symm
    subst this
    exact LD_borrow (A := A17) rfl rfl (ts := [.agg [.nils], I k]) (by simp only [frzs, h, frz_t]) (heldNil_lv k h0) rfl

/-! ### Bounds -/
theorem within_ld (n lo hi : Int) (σ : Store) : LD S 21 [.t (I n), .t (I lo), .t (I hi)] σ = some (.t (B (decide (lo ≤ n) && decide (n ≤ hi))), σ) := by
  refine LD_pure (A := A21) (v := .t (B (decide (lo ≤ n) && decide (n ≤ hi)))) (σ0 := []) rfl rfl rfl ?_ rfl σ
  refine LV_body (A := A21) rfl Try.func21 rfl ?_
  repeat apply W_seq
  refine W_region (by simp; first | exact ⟨rfl, rfl⟩ | exact rfl) ?_
  try simp only [thenQ, blockQ, Ann.kill, List.find?_nil]
  by_cases h1 : lo ≤ n <;> by_cases h2 : n ≤ hi
  all_goals
    repeat apply W_seq
    refine W_region (by simp [h1, h2]; first | exact ⟨rfl, rfl⟩ | exact rfl) ?_
    try simp only [thenQ, blockQ, Ann.kill, List.find?_nil]
    refine W_ret ?_
    try simp only [thenQ, blockQ]
    simp [Try.f21, h1, h2]
theorem l01In_ld (n lo hi : Int) (σ : Store) : LD S 25 [.t (I n), .t (I lo), .t (I hi)] σ = some (.t (B (decide (lo ≤ n) && decide (n ≤ hi))), σ) := by
  refine LD_pure (A := A25) (v := .t (B (decide (lo ≤ n) && decide (n ≤ hi)))) (σ0 := []) rfl rfl rfl ?_ rfl σ
  refine LV_body (A := A25) rfl Try.func25 rfl ?_
  repeat apply W_seq
  refine W_region (by simp; first | exact ⟨rfl, rfl⟩ | exact rfl) ?_
  try simp only [thenQ, blockQ, Ann.kill, List.find?_nil]
  by_cases h1 : lo ≤ n <;> by_cases h2 : n ≤ hi
  all_goals
    repeat apply W_seq
    refine W_region (by simp [h1, h2]; first | exact ⟨rfl, rfl⟩ | exact rfl) ?_
    try simp only [thenQ, blockQ, Ann.kill, List.find?_nil]
    refine W_ret ?_
    try simp only [thenQ, blockQ]
    simp [Try.f25, h1, h2]

def inB (k at_ : Int) : Bool := decide (0 ≤ k) && decide (k ≤ at_ - 1)
/-- kids from a place on are ahead of 'at_' -/
def ahead (at_ : Int) (l : List Int) : Bool := l.all fun k => inB k at_
theorem ahead_drop {at_ : Int} {l : List Int} {i : Nat} {x : Int} (h : l[i]? = some x) : ahead at_ (l.drop i) = (inB x at_ && ahead at_ (l.drop (i + 1))) := by
  have c1 : i < l.length := by
    rcases Nat.lt_or_ge i l.length with h1 | h1
    · exact h1
    · rw [List.getElem?_eq_none h1] at h; cases h
  rw [List.drop_eq_getElem_cons c1]
  rw [List.getElem?_eq_getElem c1] at h
  simp at h
  simp [ahead, h]

theorem kidsAhead_ld (l : List Int) (at_ : Int) (σ : Store) (hl : l.length ≤ 281474976710656) (h0 : 0 ≤ at_) (h1 : at_ ≤ 281474976710656) : LD S 35 [.t (L l), .t (I at_)] σ = some (.t (B (ahead at_ l)), σ) := by
  refine LD_pure (A := A35) (v := .t (B (ahead at_ l))) (σ0 := []) rfl rfl rfl ?_ rfl σ
  refine LV_body (A := A35) rfl Try.func35 rfl ?_
  repeat apply W_seq
  refine W_region (by simp; first | exact ⟨rfl, rfl⟩ | exact rfl) ?_
  try simp only [thenQ, blockQ, Ann.kill, List.find?_nil]
  repeat apply W_seq
  refine W_region (by simp; first | exact ⟨rfl, rfl⟩ | exact rfl) ?_
  try simp only [thenQ, blockQ, Ann.kill, List.find?_nil]
  repeat apply W_seq
  refine W_block ?_
  refine W_loop (I := fun m st σ => ∃ (i : Nat), m = l.length - i ∧ i ≤ l.length ∧ ahead at_ (l.drop i) = ahead at_ l ∧ st.vars = [(0, .t (L l)), (1, .t (I at_)), (4, .t (B false)), (7, .t (L l)), (8, .t (I l.length)), (9, .t (I i))] ∧ σ = []) ?_ l.length _ _ ⟨0, rfl, Nat.zero_le _, by simp, by simp, rfl⟩
  rintro m ⟨vars, scr⟩ σ ⟨i, rfl, hk, ha, hv, rfl⟩
  simp only at hv
  subst hv
  repeat apply W_seq
  refine W_region (by simp; first | exact ⟨rfl, rfl⟩ | exact rfl) ?_
  try simp only [thenQ, blockQ, Ann.kill, List.find?_nil]
  by_cases c1 : i < l.length
  · repeat apply W_seq
    refine W_cond (t := true) (by simp [c1]) ?_
    simp only [if_true, if_false, Bool.false_eq_true]
    refine W_skip ?_
    try simp only [thenQ, blockQ, Ann.kill, List.find?_nil]
    repeat apply W_seq
    refine W_block ?_
    obtain ⟨x, hp⟩ : ∃ x, l[i]? = some x := ⟨l[i], by simp [c1]⟩
    rw [ahead_drop hp] at ha
    repeat apply W_seq
    refine W_region (by simp [hp]; first | exact ⟨rfl, rfl⟩ | exact rfl) ?_
    try simp only [thenQ, blockQ, Ann.kill, List.find?_nil]
    have hw : IntKind.i64.wrap (at_ - 1) = at_ - 1 := IntWalk.i64_in _ (by omega)
    repeat apply W_seq
    refine W_region (by simp [hw, within_ld]; first | exact ⟨rfl, rfl⟩ | exact rfl) ?_
    try simp only [thenQ, blockQ, Ann.kill, List.find?_nil]
    by_cases c2 : inB x at_ = true
    · have c2' := c2
      simp only [inB, Bool.and_eq_true, decide_eq_true_eq] at c2'
      repeat apply W_seq
      refine W_cond (t := false) (by simp [c2'.1, c2'.2]) ?_
      simp only [if_true, if_false, Bool.false_eq_true]
      refine W_skip ?_
      try simp only [thenQ, blockQ, Ann.kill, List.find?_nil]
      rw [c2, Bool.true_and] at ha
      repeat apply W_seq
      refine W_region (by simp [IntWalk.i64_in ((i : Int) + 1) (by omega)]; first | exact ⟨rfl, rfl⟩ | exact rfl) ?_
      try simp only [thenQ, blockQ, Ann.kill, List.find?_nil]
      exact ⟨l.length - (i + 1), by omega, i + 1, rfl, c1, ha, by simp, by simp⟩
    · simp only [Bool.not_eq_true] at c2
      rw [c2, Bool.false_and] at ha
      have c2' : x < 0 ∨ at_ - 1 < x := by
        simp only [inB, Bool.and_eq_false_iff, decide_eq_false_iff_not] at c2
        omega
      repeat apply W_seq
      refine W_cond (t := true) (by simp [c2']) ?_
      simp only [if_true, if_false, Bool.false_eq_true]
      repeat apply W_seq
      refine W_region (by simp; first | exact ⟨rfl, rfl⟩ | exact rfl) ?_
      try simp only [thenQ, blockQ, Ann.kill, List.find?_nil]
      refine W_ret ?_
      try simp only [thenQ, blockQ]
      simp [Try.f35, ← ha]
  · repeat apply W_seq
    refine W_cond (t := false) (by simp [c1]) ?_
    simp only [if_true, if_false, Bool.false_eq_true]
    repeat apply W_seq
    refine W_exit ?_
    try simp only [thenQ, blockQ, if_true, Ann.kill, List.find?_nil]
    have : i = l.length := by omega
    subst this
    rw [List.drop_length] at ha
    have ha' : ahead at_ l = true := by rw [← ha]; rfl
    repeat apply W_seq
    refine W_region (by simp; first | exact ⟨rfl, rfl⟩ | exact rfl) ?_
    try simp only [thenQ, blockQ, Ann.kill, List.find?_nil]
    refine W_ret ?_
    try simp only [thenQ, blockQ]
    simp [Try.f35, ha']
