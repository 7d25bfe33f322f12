/- A part of the proof. No statement of the claim is in it. -/
import Derived.Test.YthpjheboegobkaaVTs4
open Go Go.V Go.Proofs
namespace X
set_option maxRecDepth 100000
set_option maxHeartbeats 4000000
set_option linter.unusedSimpArgs false
set_option linter.unusedVariables false
attribute [-simp] lenV idxV
/-- from a place on, each node's kids are ahead of it -/
def rightFrom : Int → List N → Bool
  | _, [] => true
  | i, n :: r => ahead i n.kids && rightFrom (i + 1) r
theorem rightFrom_drop {l : List N} {i : Nat} {x : N} (h : l[i]? = some x) : rightFrom i (l.drop i) = (ahead i x.kids && rightFrom ((i : Int) + 1) (l.drop (i + 1))) := by
  have c1 : i < l.length := by
    rcases Nat.lt_or_ge i l.length with h1 | h1
    · exact h1
    · rw [List.getElem?_eq_none h1] at h; cases h
  rw [List.drop_eq_getElem_cons c1]
  rw [List.getElem?_eq_getElem c1] at h
  simp at h
  simp [rightFrom, h]

theorem kidsRight_ld (l : List N) (σ : Store) (hl : l.length ≤ 281474976710656) (hn : ∀ n ∈ l, n.ok) : LD S 28 [.t (encT l)] σ = some (.t (B (rightFrom 0 l)), σ) := by
  obtain ⟨σ0, h⟩ : ∃ σ0, LV S 28 [.t (encT l)] [] = some (.t (B (rightFrom 0 l)), σ0) := by
    refine LV_bodyE (A := A28) rfl Try.func28 rfl ?_
    repeat apply W_seq
    refine W_region (by simp; first | exact ⟨rfl, rfl⟩ | exact rfl) ?_
    try simp only [thenQ, blockQ, Ann.kill, List.find?_nil]
    repeat apply W_seq
    refine W_region (by simp; first | exact ⟨rfl, rfl⟩ | exact rfl) ?_
    try simp only [thenQ, blockQ, Ann.kill, List.find?_nil]
    repeat apply W_seq
    refine W_block ?_
    refine W_loop (I := fun m st σ => ∃ (i : Nat), m = l.length - i ∧ i ≤ l.length ∧ rightFrom i (l.drop i) = rightFrom 0 l ∧ st.vars = [(0, .t (encT l)), (1, .ptr 0 0 0 1), (2, .t (B false)), (6, .t (Ls l)), (7, .t (I l.length)), (8, .t (I i))]) ?_ l.length _ _ ⟨0, rfl, Nat.zero_le _, by simp, by simp⟩
    rintro m ⟨vars, scr⟩ σ ⟨i, rfl, hk, ha, hv⟩
    simp only at hv
    subst hv
    repeat apply W_seq
    refine W_region (by simp; first | exact ⟨rfl, rfl⟩ | exact rfl) ?_
    try simp only [thenQ, blockQ, Ann.kill, List.find?_nil]
    by_cases c1 : i < l.length
    · repeat apply W_seq
      refine W_cond (t := true) (by simp [c1]) ?_
      simp only [if_true, if_false, Bool.false_eq_true]
      refine W_skip ?_
      try simp only [thenQ, blockQ, Ann.kill, List.find?_nil]
      repeat apply W_seq
      refine W_block ?_
      obtain ⟨x, hp⟩ : ∃ x, l[i]? = some x := ⟨l[i], by simp [c1]⟩
      rw [rightFrom_drop hp] at ha
      repeat apply W_seq
      refine W_region (by simp [hp]; first | exact ⟨rfl, rfl⟩ | exact rfl) ?_
      try simp only [thenQ, blockQ, Ann.kill, List.find?_nil]
      have hok := hn x (List.mem_of_getElem? hp)
      repeat apply W_seq
      refine W_region (by simp [kidsAhead_ld x.kids i _ hok.2 (by omega) (by omega)]; first | exact ⟨rfl, rfl⟩ | exact rfl) ?_
      try simp only [thenQ, blockQ, Ann.kill, List.find?_nil]
      by_cases c2 : ahead i x.kids = true
      · rw [c2, Bool.true_and] at ha
        repeat apply W_seq
        refine W_cond (t := false) (by simp [c2]) ?_
        simp only [if_true, if_false, Bool.false_eq_true]
        refine W_skip ?_
        try simp only [thenQ, blockQ, Ann.kill, List.find?_nil]
        repeat apply W_seq
        refine W_region (by simp [IntWalk.i64_in ((i : Int) + 1) (by omega)]; first | exact ⟨rfl, rfl⟩ | exact rfl) ?_
        try simp only [thenQ, blockQ, Ann.kill, List.find?_nil]
        exact ⟨l.length - (i + 1), by omega, i + 1, rfl, c1, by rw [← ha]; simp, by simp⟩
      · simp only [Bool.not_eq_true] at c2
        rw [c2, Bool.false_and] at ha
        repeat apply W_seq
        refine W_cond (t := true) (by simp [c2]) ?_
        simp only [if_true, if_false, Bool.false_eq_true]
        repeat apply W_seq
        refine W_region (by simp; first | exact ⟨rfl, rfl⟩ | exact rfl) ?_
        try simp only [thenQ, blockQ, Ann.kill, List.find?_nil]
        refine W_ret ?_
        try simp only [thenQ, blockQ]
        simp [Try.f28, ← ha]
    · repeat apply W_seq
      refine W_cond (t := false) (by simp [c1]) ?_
      simp only [if_true, if_false, Bool.false_eq_true]
      repeat apply W_seq
      refine W_exit ?_
      try simp only [thenQ, blockQ, if_true, Ann.kill, List.find?_nil]
      have : i = l.length := by omega
      subst this
      rw [List.drop_length] at ha
      have ha' : rightFrom 0 l = true := by rw [← ha]; rfl
      repeat apply W_seq
      refine W_region (by simp; first | exact ⟨rfl, rfl⟩ | exact rfl) ?_
      try simp only [thenQ, blockQ, Ann.kill, List.find?_nil]
      refine W_ret ?_
      try simp only [thenQ, blockQ]
      simp [Try.f28, ha']
  exact LD_pure (A := A28) rfl rfl rfl h rfl σ

theorem l20Right_ld (l : List N) (σ : Store) (hl : l.length ≤ 281474976710656) (hn : ∀ n ∈ l, n.ok) : LD S 24 [.t (encT l)] σ = some (.t (B (rightFrom 0 l)), σ) := by
  obtain ⟨σ0, h⟩ : ∃ σ0, LV S 24 [.t (encT l)] [] = some (.t (B (rightFrom 0 l)), σ0) := by
    refine LV_bodyE (A := A24) rfl Try.func24 rfl ?_
    repeat apply W_seq
    refine W_region (by simp; first | exact ⟨rfl, rfl⟩ | exact rfl) ?_
    try simp only [thenQ, blockQ, Ann.kill, List.find?_nil]
    repeat apply W_seq
    refine W_region (by simp; first | exact ⟨rfl, rfl⟩ | exact rfl) ?_
    try simp only [thenQ, blockQ, Ann.kill, List.find?_nil]
    repeat apply W_seq
    refine W_block ?_
    refine W_loop (I := fun m st σ => ∃ (i : Nat), m = l.length - i ∧ i ≤ l.length ∧ rightFrom i (l.drop i) = rightFrom 0 l ∧ st.vars = [(0, .t (encT l)), (1, .ptr 0 0 0 1), (2, .t (B false)), (3, .t (I i))] ∧ σ = [.cells [.t (Ls l)] 0 0]) ?_ l.length _ _ ⟨0, rfl, Nat.zero_le _, by simp, by simp, by simp⟩
    rintro m ⟨vars, scr⟩ σ ⟨i, rfl, hk, ha, hv, rfl⟩
    simp only at hv
    subst hv
    repeat apply W_seq
    refine W_region (by simp; first | exact ⟨rfl, rfl⟩ | exact rfl) ?_
    try simp only [thenQ, blockQ, Ann.kill, List.find?_nil]
    by_cases c1 : i < l.length
    · repeat apply W_seq
      refine W_cond (t := true) (by simp [c1]) ?_
      simp only [if_true, if_false, Bool.false_eq_true]
      refine W_skip ?_
      try simp only [thenQ, blockQ, Ann.kill, List.find?_nil]
      repeat apply W_seq
      refine W_block ?_
      obtain ⟨x, hp⟩ : ∃ x, l[i]? = some x := ⟨l[i], by simp [c1]⟩
      rw [rightFrom_drop hp] at ha
      have hok := hn x (List.mem_of_getElem? hp)
      have hk2 : x.kids.length ≤ 281474976710656 := hok.2
      have hw : IntKind.i64.wrap ((i : Int) - 1) = (i : Int) - 1 := IntWalk.i64_in _ (by omega)
      repeat apply W_seq
      refine W_region (by simp; first | exact ⟨rfl, rfl⟩ | exact rfl) ?_
      try simp only [thenQ, blockQ, Ann.kill, List.find?_nil]
      repeat apply W_seq
      refine W_block ?_
      refine W_loop (I := fun m st σ => ∃ (j : Nat), m = x.kids.length - j ∧ j ≤ x.kids.length ∧ ahead i (x.kids.drop j) = ahead i x.kids ∧ st.vars = [(0, .t (encT l)), (1, .ptr 0 0 0 1), (2, .t (B false)), (3, .t (I i)), (4, .t (I j))] ∧ σ = [.cells [.t (Ls l)] 0 0]) ?_ x.kids.length _ _ ⟨0, rfl, Nat.zero_le _, by simp, by simp, by simp⟩
      rintro m ⟨vars, scr⟩ σ ⟨j, rfl, hj, hb, hv, rfl⟩
      simp only at hv
      subst hv
      repeat apply W_seq
      refine W_region (by simp [hp]; first | exact ⟨rfl, rfl⟩ | exact rfl) ?_
      try simp only [thenQ, blockQ, Ann.kill, List.find?_nil]
      by_cases c3 : j < x.kids.length
      · repeat apply W_seq
        refine W_cond (t := true) (by simp [c3]) ?_
        simp only [if_true, if_false, Bool.false_eq_true]
        refine W_skip ?_
        try simp only [thenQ, blockQ, Ann.kill, List.find?_nil]
        repeat apply W_seq
        refine W_block ?_
        obtain ⟨y, hy⟩ : ∃ y, x.kids[j]? = some y := ⟨x.kids[j], by simp [c3]⟩
        rw [ahead_drop hy] at hb
        repeat apply W_seq
        refine W_region (by simp [hp, hy, hw, l01In_ld]; first | exact ⟨rfl, rfl⟩ | exact rfl) ?_
        try simp only [thenQ, blockQ, Ann.kill, List.find?_nil]
        by_cases c2 : inB y i = true
        · have c2' := c2
          simp only [inB, Bool.and_eq_true, decide_eq_true_eq] at c2'
          repeat apply W_seq
          refine W_cond (t := false) (by simp [c2'.1, c2'.2]) ?_
          simp only [if_true, if_false, Bool.false_eq_true]
          refine W_skip ?_
          try simp only [thenQ, blockQ, Ann.kill, List.find?_nil]
          rw [c2, Bool.true_and] at hb
          repeat apply W_seq
          refine W_region (by simp [IntWalk.i64_in ((j : Int) + 1) (by omega)]; first | exact ⟨rfl, rfl⟩ | exact rfl) ?_
          try simp only [thenQ, blockQ, Ann.kill, List.find?_nil]
          exact ⟨x.kids.length - (j + 1), by omega, j + 1, rfl, c3, hb, by simp, by simp⟩
        · simp only [Bool.not_eq_true] at c2
          rw [c2, Bool.false_and] at hb
          have c2' : y < 0 ∨ (i : Int) - 1 < y := by
            simp only [inB, Bool.and_eq_false_iff, decide_eq_false_iff_not] at c2
            omega
          rw [← hb, Bool.false_and] at ha
          repeat apply W_seq
          refine W_cond (t := true) (by simp [c2']) ?_
          simp only [if_true, if_false, Bool.false_eq_true]
          repeat apply W_seq
          refine W_region (by simp; first | exact ⟨rfl, rfl⟩ | exact rfl) ?_
          try simp only [thenQ, blockQ, Ann.kill, List.find?_nil]
          refine W_ret ?_
          try simp only [thenQ, blockQ]
          simp [Try.f24, ← ha]
      · repeat apply W_seq
        refine W_cond (t := false) (by simp [c3]) ?_
        simp only [if_true, if_false, Bool.false_eq_true]
        repeat apply W_seq
        refine W_exit ?_
        try simp only [thenQ, blockQ, if_true, Ann.kill, List.find?_nil]
        have : j = x.kids.length := by omega
        subst this
        rw [List.drop_length] at hb
        have hb' : ahead i x.kids = true := by rw [← hb]; rfl
        rw [hb', Bool.true_and] at ha
        repeat apply W_seq
        refine W_region (by simp [IntWalk.i64_in ((i : Int) + 1) (by omega)]; first | exact ⟨rfl, rfl⟩ | exact rfl) ?_
        try simp only [thenQ, blockQ, Ann.kill, List.find?_nil]
        exact ⟨l.length - (i + 1), by omega, i + 1, rfl, c1, by rw [← ha]; simp, by simp, by simp⟩
    · repeat apply W_seq
      refine W_cond (t := false) (by simp [c1]) ?_
      simp only [if_true, if_false, Bool.false_eq_true]
      repeat apply W_seq
      refine W_exit ?_
      try simp only [thenQ, blockQ, if_true, Ann.kill, List.find?_nil]
      have : i = l.length := by omega
      subst this
      rw [List.drop_length] at ha
      have ha' : rightFrom 0 l = true := by rw [← ha]; rfl
      repeat apply W_seq
      refine W_region (by simp; first | exact ⟨rfl, rfl⟩ | exact rfl) ?_
      try simp only [thenQ, blockQ, Ann.kill, List.find?_nil]
      refine W_ret ?_
      try simp only [thenQ, blockQ]
      simp [Try.f24, ha']
  exact LD_pure (A := A24) rfl rfl rfl h rfl σ
