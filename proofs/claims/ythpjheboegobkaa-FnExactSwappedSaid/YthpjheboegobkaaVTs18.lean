/- A part of the proof. No statement of the claim is in it. -/
import Derived.Test.YthpjheboegobkaaVTs17
open Go Go.V Go.Proofs
namespace X
set_option maxRecDepth 100000
set_option maxHeartbeats 4000000
set_option linter.unusedSimpArgs false
set_option linter.unusedVariables false
attribute [-simp] lenV idxV setRange
/-! ### Swapped -/
theorem swp_false {l m : List N} {at_ : Int} (h : ¬ (rightFrom 0 l = true ∧ rightFrom 0 m = true ∧ m ≠ [] ∧ inT at_ l = true)) : swp l at_ m = none := by
  rw [swp, if_neg]
  intro h2
  simp only [Bool.and_eq_true, Bool.not_eq_true', List.isEmpty_eq_false_iff] at h2
  exact h ⟨h2.1.1.1, h2.1.1.2, h2.1.2, h2.2⟩
theorem specSwp_lv (l m : List N) (at_ : Int) (hl : l.length ≤ 1048576) (hn : ∀ n ∈ l, n.fit) (hml : m.length ≤ 1048576) (hmn : ∀ n ∈ m, n.fit) : ∃ v σ0, LV S 18 [.t (encT l), .t (I at_), .t (encT m)] [] = some (v, σ0) ∧ Out0 σ0 v (swp l at_ m) := by
  refine LV_bodyP (A := A18) rfl Try.func18 rfl ?_
  have hw : IntKind.i64.wrap ((l.length : Int) - 1) = (l.length : Int) - 1 := IntWalk.i64_in _ (by omega)
  have r1 := fun σ => l20Right_ld l σ (by omega) (fun n h => (hn n h).ok)
  have r2 := fun σ => l20Right_ld m σ (by omega) (fun n h => (hmn n h).ok)
  repeat apply W_seq
  refine W_region (by simp; first | exact ⟨rfl, rfl⟩ | exact rfl) ?_
  try simp only [thenQ, blockQ, Ann.kill, List.find?_nil]
  by_cases ok : rightFrom 0 l = true ∧ rightFrom 0 m = true ∧ m ≠ [] ∧ inT at_ l = true
  · obtain ⟨hr, hrm, hm0, hi⟩ := ok
    have hi' := hi
    simp only [inT, Bool.and_eq_true, decide_eq_true_eq] at hi'
    have hm1 : 0 < m.length := List.length_pos_iff.2 hm0
    have hme : ((m.length : Int) == 0) = false := by simp [hm0]
    repeat apply W_seq
    refine W_region (by simp [r1, r2, hr, hrm, hme, hw, l01In_ld]; first | exact ⟨rfl, rfl⟩ | exact rfl) ?_
    try simp only [thenQ, blockQ, Ann.kill, List.find?_nil]
    repeat apply W_seq
    refine W_cond (t := false) (by simp [hi'.1, hi'.2]) ?_
    simp only [if_true, if_false, Bool.false_eq_true]
    refine W_skip ?_
    try simp only [thenQ, blockQ, Ann.kill, List.find?_nil]
    repeat apply W_seq
    refine W_region (by simp [sliceCells, setRange1]; first | exact ⟨rfl, rfl⟩ | exact rfl) ?_
    try simp only [thenQ, blockQ, Ann.kill, List.find?_nil]
    obtain ⟨a, rfl⟩ : ∃ a : Nat, at_ = a := ⟨at_.toNat, by omega⟩
    have hsub : swp l a m = ex l a (ex m (-1) (fun _ => none) m.length ((m.length : Int) - 1)) l.length ((l.length : Int) - 1) [] := by
      rw [swp, if_pos]
      simp only [hr, hrm, hi, Bool.true_and, Bool.and_true, Bool.not_eq_true', List.isEmpty_eq_false_iff]
      exact hm0
    have hc1 : ((l.length - 1 : Nat) : Int) = (l.length : Int) - 1 := by omega
    have hc2 : ((m.length - 1 : Nat) : Int) = (m.length : Int) - 1 := by omega
    obtain ⟨b, σ', e1, e2⟩ := put_ok l (Ls m) a (ex m (-1) (fun _ => none) m.length ((m.length : Int) - 1)) hl hn hr 4 0
      (fun _ => ⟨m, rfl, hml, fun lo => by have := put_ok m .nils (-1) (fun _ => none) hml hmn hrm 4 lo (fun h => by omega) m.length (m.length - 1) (by omega) (by omega); rw [hc2] at this; exact this⟩)
      l.length (l.length - 1) (by omega) (by omega) [.cells [.t (Ls l)] 0 0, .cells [.t (Ls m)] 0 0, .cells [.t .nils] 0 0, .cells [] 0 0, .cells [.sl 3 0 0 0 6] 0 0] (.sl 3 0 0 0 6) [] [3] (by simp) (by omega) (by simp) rfl
      (.inr ⟨⟨3, 0, []⟩, rfl, rfl, ⟨⟨0, Nat.le_refl _, rfl⟩, by simp⟩, by simp [Tr.locs, locs], by simp [Tr.locs, locs, inR], rfl⟩)
    rw [hc1] at e1 e2
    repeat apply W_seq
    refine W_region (by simp [hw, e1]; first | exact ⟨rfl, rfl⟩ | exact rfl) ?_
    try simp only [thenQ, blockQ, Ann.kill, List.find?_nil]
    rw [hsub]
    cases hx : ex l a (ex m (-1) (fun _ => none) m.length ((m.length : Int) - 1)) l.length ((l.length : Int) - 1) [] with
    | none =>
      rw [hx] at e2
      obtain ⟨rfl, h5, h6⟩ := e2
      have g1 : σ'[2]? = some (.cells [.t .nils] 0 0) := by rw [h6 2 (by simp) (by omega) (by simp)]; rfl
      have g2 : ∀ X, (σ'.set 2 X)[2]? = some X := fun X => List.getElem?_set_self (get_lt g1)
      repeat apply W_seq
      refine W_cond (t := true) (by simp) ?_
      simp only [if_true, if_false, Bool.false_eq_true]
      repeat apply W_seq
      refine W_region (by simp [buildV, fieldSizes, fillV, setRange1, g1]; first | exact ⟨rfl, rfl⟩ | exact rfl) ?_
      try simp only [thenQ, blockQ, Ann.kill, List.find?_nil]
      refine W_ret ?_
      try simp only [thenQ, blockQ]
      refine ⟨trivial, _, (by simp [Try.f18, g2]; rfl), ?_⟩
      exact Out0.none
    | some l' =>
      rw [hx] at e2
      obtain ⟨rfl, h1, h2, v', ls', h3, h4, h5, h6, h7⟩ := e2
      obtain ⟨t4, rfl⟩ := h4.isSl (by intro e; rw [e] at h1; simp at h1)
      have g1 : σ'[2]? = some (.cells [.t .nils] 0 0) := by rw [h6 2 (by simp) (by omega) (by simp)]; rfl
      have g2 : ∀ X, (σ'.set 2 X)[2]? = some X := fun X => List.getElem?_set_self (get_lt g1)
      repeat apply W_seq
      refine W_cond (t := false) (by simp) ?_
      simp only [if_true, if_false, Bool.false_eq_true]
      refine W_skip ?_
      try simp only [thenQ, blockQ, Ann.kill, List.find?_nil]
      repeat apply W_seq
      refine W_region (by simp [h3, buildV, fieldSizes, fillV, setRange1, g1]; first | exact ⟨rfl, rfl⟩ | exact rfl) ?_
      try simp only [thenQ, blockQ, Ann.kill, List.find?_nil]
      refine W_ret ?_
      try simp only [thenQ, blockQ]
      refine ⟨trivial, _, (by simp [Try.f18, g2]; rfl), ?_⟩
      refine ⟨t4.sl, rfl, (h4.keep (by simp) fun i hi => List.getElem?_set_ne ?_).ts, fun h => by cases h⟩
      rintro rfl
      rcases h7 _ hi with h8 | h8
      · simp at h8
      · simp at h8
  · rw [swp_false ok]
    cases hr : rightFrom 0 l with
    | false =>
      repeat apply W_seq
      refine W_region (by simp [r1, hr]; first | exact ⟨rfl, rfl⟩ | exact rfl) ?_
      try simp only [thenQ, blockQ, Ann.kill, List.find?_nil]
      repeat apply W_seq
      refine W_cond (t := true) (by simp) ?_
      simp only [if_true, if_false, Bool.false_eq_true]
      repeat apply W_seq
      refine W_region (by simp [buildV, fieldSizes, fillV, setRange1]; first | exact ⟨rfl, rfl⟩ | exact rfl) ?_
      try simp only [thenQ, blockQ, Ann.kill, List.find?_nil]
      refine W_ret ?_
      try simp only [thenQ, blockQ]
      refine ⟨trivial, _, (by simp [Try.f18] <;> rfl), Out0.none⟩
    | true =>
      cases hrm : rightFrom 0 m with
      | false =>
        repeat apply W_seq
        refine W_region (by simp [r1, r2, hr, hrm]; first | exact ⟨rfl, rfl⟩ | exact rfl) ?_
        try simp only [thenQ, blockQ, Ann.kill, List.find?_nil]
        repeat apply W_seq
        refine W_cond (t := true) (by simp) ?_
        simp only [if_true, if_false, Bool.false_eq_true]
        repeat apply W_seq
        refine W_region (by simp [buildV, fieldSizes, fillV, setRange1]; first | exact ⟨rfl, rfl⟩ | exact rfl) ?_
        try simp only [thenQ, blockQ, Ann.kill, List.find?_nil]
        refine W_ret ?_
        try simp only [thenQ, blockQ]
        refine ⟨trivial, _, (by simp [Try.f18] <;> rfl), Out0.none⟩
      | true =>
        by_cases hm0 : m = []
        · subst hm0
          repeat apply W_seq
          refine W_region (by simp [r1, r2, hr, hrm]; first | exact ⟨rfl, rfl⟩ | exact rfl) ?_
          try simp only [thenQ, blockQ, Ann.kill, List.find?_nil]
          repeat apply W_seq
          refine W_cond (t := true) (by simp) ?_
          simp only [if_true, if_false, Bool.false_eq_true]
          repeat apply W_seq
          refine W_region (by simp [buildV, fieldSizes, fillV, setRange1]; first | exact ⟨rfl, rfl⟩ | exact rfl) ?_
          try simp only [thenQ, blockQ, Ann.kill, List.find?_nil]
          refine W_ret ?_
          try simp only [thenQ, blockQ]
          refine ⟨trivial, _, (by simp [Try.f18] <;> rfl), Out0.none⟩
        · have hi : ¬ inT at_ l = true := fun h => ok ⟨hr, hrm, hm0, h⟩
          have hi' : (decide (0 ≤ at_) && decide (at_ ≤ (l.length : Int) - 1)) = false := by simpa [inT] using hi
          have hme : ((m.length : Int) == 0) = false := by simp [hm0]
          repeat apply W_seq
          refine W_region (by simp [r1, r2, hr, hrm, hme, hw, l01In_ld, hi']; first | exact ⟨rfl, rfl⟩ | exact rfl) ?_
          try simp only [thenQ, blockQ, Ann.kill, List.find?_nil]
          repeat apply W_seq
          refine W_cond (t := true) (by simp) ?_
          simp only [if_true, if_false, Bool.false_eq_true]
          repeat apply W_seq
          refine W_region (by simp [buildV, fieldSizes, fillV, setRange1]; first | exact ⟨rfl, rfl⟩ | exact rfl) ?_
          try simp only [thenQ, blockQ, Ann.kill, List.find?_nil]
          refine W_ret ?_
          try simp only [thenQ, blockQ]
          refine ⟨trivial, _, (by simp [Try.f18] <;> rfl), Out0.none⟩

theorem implSwp_lv (l m : List N) (at_ : Int) (hl : l.length ≤ 1048576) (hn : ∀ n ∈ l, n.fit) (hml : m.length ≤ 1048576) (hmn : ∀ n ∈ m, n.fit) : ∃ v σ0, LV S 19 [.t (encT l), .t (I at_), .t (encT m)] [] = some (v, σ0) ∧ Out0 σ0 v (swp l at_ m) := by
  refine LV_bodyP (A := A19) rfl Try.func19 rfl ?_
  have hw : IntKind.i64.wrap ((l.length : Int) - 1) = (l.length : Int) - 1 := IntWalk.i64_in _ (by omega)
  have r1 := fun σ => kidsRight_ld l σ (by omega) (fun n h => (hn n h).ok)
  have r2 := fun σ => kidsRight_ld m σ (by omega) (fun n h => (hmn n h).ok)
  repeat apply W_seq
  refine W_region (by simp; first | exact ⟨rfl, rfl⟩ | exact rfl) ?_
  try simp only [thenQ, blockQ, Ann.kill, List.find?_nil]
  by_cases ok : rightFrom 0 l = true ∧ rightFrom 0 m = true ∧ m ≠ [] ∧ inT at_ l = true
  · obtain ⟨hr, hrm, hm0, hi⟩ := ok
    have hi' := hi
    simp only [inT, Bool.and_eq_true, decide_eq_true_eq] at hi'
    have hm1 : 0 < m.length := List.length_pos_iff.2 hm0
    have hme : ((m.length : Int) == 0) = false := by simp [hm0]
    repeat apply W_seq
    refine W_region (by simp [r1, r2, hr, hrm, hme, hw, within_ld, hi'.1, hi'.2]; first | exact ⟨rfl, rfl⟩ | exact rfl) ?_
    try simp only [thenQ, blockQ, Ann.kill, List.find?_nil]
    repeat apply W_seq
    refine W_cond (t := false) (by simp) ?_
    simp only [if_true, if_false, Bool.false_eq_true]
    refine W_skip ?_
    try simp only [thenQ, blockQ, Ann.kill, List.find?_nil]
    repeat apply W_seq
    refine W_region (by simp [buildV, fieldSizes, fillV, setRange1]; first | exact ⟨rfl, rfl⟩ | exact rfl) ?_
    try simp only [thenQ, blockQ, Ann.kill, List.find?_nil]
    obtain ⟨a, rfl⟩ : ∃ a : Nat, at_ = a := ⟨at_.toNat, by omega⟩
    have hsub : swp l a m = ex l a (ex m (-1) (fun _ => none) m.length ((m.length : Int) - 1)) l.length ((l.length : Int) - 1) [] := by
      rw [swp, if_pos]
      simp only [hr, hrm, hi, Bool.true_and, Bool.and_true, Bool.not_eq_true', List.isEmpty_eq_false_iff]
      exact hm0
    have hc1 : ((l.length - 1 : Nat) : Int) = (l.length : Int) - 1 := by omega
    have hc2 : ((m.length - 1 : Nat) : Int) = (m.length : Int) - 1 := by omega
    obtain ⟨b, σ', e1, e2⟩ := take_ok l (Ls m) a (ex m (-1) (fun _ => none) m.length ((m.length : Int) - 1)) hl hn hr 3 0
      (fun _ => ⟨m, rfl, hml, fun lo => by have := take_ok m .nils (-1) (fun _ => none) hml hmn hrm 3 lo (fun h => by omega) m.length (m.length - 1) (by omega) (by omega); rw [hc2] at this; exact this⟩)
      l.length (l.length - 1) (by omega) (by omega) [.cells [.t (Ls l)] 0 0, .cells [.t (Ls m)] 0 0, .cells [.t .nils] 0 0, .cells [.t .nils, .t (B false)] 0 0] (.t .nils) [] [] (by simp) (by omega) (by simp) rfl (.inl ⟨rfl, rfl, rfl⟩)
    rw [hc1] at e1 e2
    repeat apply W_seq
    refine W_region (by simp [hw, e1]; first | exact ⟨rfl, rfl⟩ | exact rfl) ?_
    try simp only [thenQ, blockQ, Ann.kill, List.find?_nil]
    rw [hsub]
    cases hx : ex l a (ex m (-1) (fun _ => none) m.length ((m.length : Int) - 1)) l.length ((l.length : Int) - 1) [] with
    | none =>
      rw [hx] at e2
      obtain ⟨v', h3, h4, h5, h6⟩ := e2
      have g1 : σ'[2]? = some (.cells [.t .nils] 0 0) := by rw [h6 2 (by simp) (by omega) (by simp)]; rfl
      have g2 : ∀ X, (σ'.set 2 X)[2]? = some X := fun X => List.getElem?_set_self (get_lt g1)
      repeat apply W_seq
      refine W_region (by simp [h3]; first | exact ⟨rfl, rfl⟩ | exact rfl) ?_
      try simp only [thenQ, blockQ, Ann.kill, List.find?_nil]
      repeat apply W_seq
      refine W_cond (t := true) (by simp) ?_
      simp only [if_true, if_false, Bool.false_eq_true]
      repeat apply W_seq
      refine W_region (by simp [buildV, fieldSizes, fillV, setRange1, g1]; first | exact ⟨rfl, rfl⟩ | exact rfl) ?_
      try simp only [thenQ, blockQ, Ann.kill, List.find?_nil]
      refine W_ret ?_
      try simp only [thenQ, blockQ]
      refine ⟨trivial, _, (by simp [Try.f19, g2]; rfl), ?_⟩
      exact Out0.none
    | some l' =>
      rw [hx] at e2
      obtain ⟨hb, h1, h2, v', ls', h3, h4, h5, h6, h7⟩ := e2
      obtain ⟨t4, rfl⟩ := h4.isSl (by intro e; rw [e] at h1; simp at h1)
      have g1 : σ'[2]? = some (.cells [.t .nils] 0 0) := by rw [h6 2 (by simp) (by omega) (by simp)]; rfl
      have g2 : ∀ X, (σ'.set 2 X)[2]? = some X := fun X => List.getElem?_set_self (get_lt g1)
      repeat apply W_seq
      refine W_region (by simp [h3]; first | exact ⟨rfl, rfl⟩ | exact rfl) ?_
      try simp only [thenQ, blockQ, Ann.kill, List.find?_nil]
      repeat apply W_seq
      refine W_cond (t := false) (by simp) ?_
      simp only [if_true, if_false, Bool.false_eq_true]
      refine W_skip ?_
      try simp only [thenQ, blockQ, Ann.kill, List.find?_nil]
      repeat apply W_seq
      refine W_region (by simp [h3, buildV, fieldSizes, fillV, setRange1, g1]; first | exact ⟨rfl, rfl⟩ | exact rfl) ?_
      try simp only [thenQ, blockQ, Ann.kill, List.find?_nil]
      refine W_ret ?_
      try simp only [thenQ, blockQ]
      refine ⟨trivial, _, (by simp [Try.f19, g2]; rfl), ?_⟩
      refine ⟨t4.sl, rfl, (h4.keep (by simp) fun i hi => List.getElem?_set_ne ?_).ts, fun h => by cases h⟩
      rintro rfl
      rcases h7 _ hi with h8 | h8
      · simp at h8
      · simp at h8
  · rw [swp_false ok]
    by_cases hi : inT at_ l = true
    · have hi' := hi
      simp only [inT, Bool.and_eq_true, decide_eq_true_eq] at hi'
      by_cases hm0 : m = []
      · subst hm0
        repeat apply W_seq
        refine W_region (by simp [r1, r2, hw, within_ld, hi'.1, hi'.2]; first | exact ⟨rfl, rfl⟩ | exact rfl) ?_
        try simp only [thenQ, blockQ, Ann.kill, List.find?_nil]
        repeat apply W_seq
        refine W_cond (t := true) (by simp) ?_
        simp only [if_true, if_false, Bool.false_eq_true]
        repeat apply W_seq
        refine W_region (by simp [buildV, fieldSizes, fillV, setRange1]; first | exact ⟨rfl, rfl⟩ | exact rfl) ?_
        try simp only [thenQ, blockQ, Ann.kill, List.find?_nil]
        refine W_ret ?_
        try simp only [thenQ, blockQ]
        refine ⟨trivial, _, (by simp [Try.f19] <;> rfl), Out0.none⟩
      · have hme : ((m.length : Int) == 0) = false := by simp [hm0]
        cases hr : rightFrom 0 l with
        | false =>
          repeat apply W_seq
          refine W_region (by simp [r1, r2, hr, hw, hme, within_ld, hi'.1, hi'.2]; first | exact ⟨rfl, rfl⟩ | exact rfl) ?_
          try simp only [thenQ, blockQ, Ann.kill, List.find?_nil]
          repeat apply W_seq
          refine W_cond (t := true) (by simp) ?_
          simp only [if_true, if_false, Bool.false_eq_true]
          repeat apply W_seq
          refine W_region (by simp [buildV, fieldSizes, fillV, setRange1]; first | exact ⟨rfl, rfl⟩ | exact rfl) ?_
          try simp only [thenQ, blockQ, Ann.kill, List.find?_nil]
          refine W_ret ?_
          try simp only [thenQ, blockQ]
          refine ⟨trivial, _, (by simp [Try.f19] <;> rfl), Out0.none⟩
        | true =>
          have hrm : rightFrom 0 m = false := by
            cases h : rightFrom 0 m with
            | false => rfl
            | true => exact absurd ⟨hr, h, hm0, hi⟩ ok
          repeat apply W_seq
          refine W_region (by simp [r1, r2, hr, hrm, hw, hme, within_ld, hi'.1, hi'.2]; first | exact ⟨rfl, rfl⟩ | exact rfl) ?_
          try simp only [thenQ, blockQ, Ann.kill, List.find?_nil]
          repeat apply W_seq
          refine W_cond (t := true) (by simp) ?_
          simp only [if_true, if_false, Bool.false_eq_true]
          repeat apply W_seq
          refine W_region (by simp [buildV, fieldSizes, fillV, setRange1]; first | exact ⟨rfl, rfl⟩ | exact rfl) ?_
          try simp only [thenQ, blockQ, Ann.kill, List.find?_nil]
          refine W_ret ?_
          try simp only [thenQ, blockQ]
          refine ⟨trivial, _, (by simp [Try.f19] <;> rfl), Out0.none⟩
    · have hi' : (decide (0 ≤ at_) && decide (at_ ≤ (l.length : Int) - 1)) = false := by simpa [inT] using hi
      repeat apply W_seq
      refine W_region (by simp [hw, within_ld, hi']; first | exact ⟨rfl, rfl⟩ | exact rfl) ?_
      try simp only [thenQ, blockQ, Ann.kill, List.find?_nil]
      repeat apply W_seq
      refine W_cond (t := true) (by simp) ?_
      simp only [if_true, if_false, Bool.false_eq_true]
      repeat apply W_seq
      refine W_region (by simp [buildV, fieldSizes, fillV, setRange1]; first | exact ⟨rfl, rfl⟩ | exact rfl) ?_
      try simp only [thenQ, blockQ, Ann.kill, List.find?_nil]
      refine W_ret ?_
      try simp only [thenQ, blockQ]
      refine ⟨trivial, _, (by simp [Try.f19] <;> rfl), Out0.none⟩
