/- A part of the proof. No statement of the claim is in it. -/
import Derived.Test.YthpjheboegobkaaVTs16
open Go Go.V Go.Proofs
namespace X
set_option maxRecDepth 100000
set_option maxHeartbeats 4000000
set_option linter.unusedSimpArgs false
set_option linter.unusedVariables false
attribute [-simp] lenV idxV setRange
theorem Out0.none {σ : Store} : Out0 σ (.t (.tup [.agg [.nils], .bool false])) none := ⟨.t .nils, rfl, .inl ⟨rfl, rfl⟩, fun _ => rfl⟩
theorem TS.ne {σ : Store} {v : V} {l : List N} {lo hi : Nat} (h : TS σ v l lo hi) (hl : l ≠ []) : ∃ t : Tr, v = t.sl := by
  rcases h with ⟨rfl, rfl⟩ | ⟨t, rfl, _⟩
  · exact absurd rfl hl
  · exact ⟨t, rfl⟩

theorem specSub_lv (l : List N) (at_ : Int) (hl : l.length ≤ 1048576) (hn : ∀ n ∈ l, n.fit) : ∃ v σ0, LV S 12 [.t (encT l), .t (I at_)] [] = some (v, σ0) ∧ Out0 σ0 v (sub l at_) := by
  refine LV_bodyP (A := A12) rfl Try.func12 rfl ?_
  have hw : IntKind.i64.wrap ((l.length : Int) - 1) = (l.length : Int) - 1 := IntWalk.i64_in _ (by omega)
  repeat apply W_seq
  refine W_region (by simp; first | exact ⟨rfl, rfl⟩ | exact rfl) ?_
  try simp only [thenQ, blockQ, Ann.kill, List.find?_nil]
  cases hr : rightFrom 0 l with
  | false =>
    repeat apply W_seq
    refine W_region (by simp [l20Right_ld l _ (by omega) (fun n h => (hn n h).ok), hr]; first | exact ⟨rfl, rfl⟩ | exact rfl) ?_
    try simp only [thenQ, blockQ, Ann.kill, List.find?_nil]
    repeat apply W_seq
    refine W_cond (t := true) (by simp) ?_
    simp only [if_true, if_false, Bool.false_eq_true]
    repeat apply W_seq
    refine W_region (by simp [buildV, fieldSizes, fillV, setRange1]; first | exact ⟨rfl, rfl⟩ | exact rfl) ?_
    try simp only [thenQ, blockQ, Ann.kill, List.find?_nil]
    refine W_ret ?_
    try simp only [thenQ, blockQ]
    refine ⟨trivial, _, (by simp [Try.f12]; rfl), ?_⟩
    rw [sub, hr]
    exact Out0.none
  | true =>
    by_cases hi : inT at_ l = true
    · have hi' := hi
      simp only [inT, Bool.and_eq_true, decide_eq_true_eq] at hi'
      repeat apply W_seq
      refine W_region (by simp [l20Right_ld l _ (by omega) (fun n h => (hn n h).ok), hr, hw, l01In_ld]; first | exact ⟨rfl, rfl⟩ | exact rfl) ?_
      try simp only [thenQ, blockQ, Ann.kill, List.find?_nil]
      repeat apply W_seq
      refine W_cond (t := false) (by simp [hi'.1, hi'.2]) ?_
      simp only [if_true, if_false, Bool.false_eq_true]
      refine W_skip ?_
      try simp only [thenQ, blockQ, Ann.kill, List.find?_nil]
      repeat apply W_seq
      refine W_region (by simp [sliceCells, setRange1]; first | exact ⟨rfl, rfl⟩ | exact rfl) ?_
      try simp only [thenQ, blockQ, Ann.kill, List.find?_nil]
      obtain ⟨a, rfl⟩ : ∃ a : Nat, at_ = a := ⟨at_.toNat, by omega⟩
      have hsub : sub l a = ex l (-1) (fun _ => none) l.length a [] := by rw [sub, if_pos (by rw [hr, hi]; rfl)]
      obtain ⟨b, σ', e1, e2⟩ := put_ok l .nils (-1) (fun _ => none) hl hn hr 3 0 (fun h => by omega) l.length a (by omega) (by omega) [.cells [.t (Ls l)] 0 0, .cells [.t .nils] 0 0, .cells [] 0 0, .cells [.sl 2 0 0 0 6] 0 0] (.sl 2 0 0 0 6) [] [2] (by simp) (by omega) (by simp) rfl
        (.inr ⟨⟨2, 0, []⟩, rfl, rfl, ⟨⟨0, Nat.le_refl _, rfl⟩, by simp⟩, by simp [Tr.locs, locs], by simp [Tr.locs, locs, inR], rfl⟩)
      repeat apply W_seq
      refine W_region (by simp [buildV, fieldSizes, fillV, e1]; first | exact ⟨rfl, rfl⟩ | exact rfl) ?_
      try simp only [thenQ, blockQ, Ann.kill, List.find?_nil]
      rw [hsub]
      cases hx : ex l (-1) (fun _ => none) l.length a [] with
      | none =>
        rw [hx] at e2
        obtain ⟨rfl, h5, h6⟩ := e2
        have g1 : σ'[1]? = some (.cells [.t .nils] 0 0) := by rw [h6 1 (by simp) (by omega) (by simp)]; rfl
        have g2 : ∀ X, (σ'.set 1 X)[1]? = some X := fun X => List.getElem?_set_self (get_lt g1)
        repeat apply W_seq
        refine W_cond (t := true) (by simp) ?_
        simp only [if_true, if_false, Bool.false_eq_true]
        repeat apply W_seq
        refine W_region (by simp [buildV, fieldSizes, fillV, setRange1, g1]; first | exact ⟨rfl, rfl⟩ | exact rfl) ?_
        try simp only [thenQ, blockQ, Ann.kill, List.find?_nil]
        refine W_ret ?_
        try simp only [thenQ, blockQ]
        refine ⟨trivial, _, (by simp [Try.f12, g2]; rfl), ?_⟩
        exact Out0.none
      | some l' =>
        rw [hx] at e2
        obtain ⟨rfl, h1, h2, v', ls', h3, h4, h5, h6, h7⟩ := e2
        obtain ⟨t4, rfl⟩ := h4.isSl (by intro e; rw [e] at h1; simp at h1)
        have g1 : σ'[1]? = some (.cells [.t .nils] 0 0) := by rw [h6 1 (by simp) (by omega) (by simp)]; rfl
        have g2 : ∀ X, (σ'.set 1 X)[1]? = some X := fun X => List.getElem?_set_self (get_lt g1)
        repeat apply W_seq
        refine W_cond (t := false) (by simp) ?_
        simp only [if_true, if_false, Bool.false_eq_true]
        refine W_skip ?_
        try simp only [thenQ, blockQ, Ann.kill, List.find?_nil]
        repeat apply W_seq
        refine W_region (by simp [h3, buildV, fieldSizes, fillV, setRange1, g1]; first | exact ⟨rfl, rfl⟩ | exact rfl) ?_
        try simp only [thenQ, blockQ, Ann.kill, List.find?_nil]
        refine W_ret ?_
        try simp only [thenQ, blockQ]
        refine ⟨trivial, _, (by simp [Try.f12, g2]; rfl), ?_⟩
        refine ⟨t4.sl, rfl, (h4.keep (by simp) fun i hi => List.getElem?_set_ne ?_).ts, fun h => by cases h⟩
        rintro rfl
        rcases h7 _ hi with h8 | h8
        · simp at h8
        · simp at h8
    · have hi' : (decide (0 ≤ at_) && decide (at_ ≤ (l.length : Int) - 1)) = false := by simpa [inT] using hi
      repeat apply W_seq
      refine W_region (by simp [l20Right_ld l _ (by omega) (fun n h => (hn n h).ok), hr, hw, l01In_ld, hi']; first | exact ⟨rfl, rfl⟩ | exact rfl) ?_
      try simp only [thenQ, blockQ, Ann.kill, List.find?_nil]
      repeat apply W_seq
      refine W_cond (t := true) (by simp) ?_
      simp only [if_true, if_false, Bool.false_eq_true]
      repeat apply W_seq
      refine W_region (by simp [buildV, fieldSizes, fillV, setRange1]; first | exact ⟨rfl, rfl⟩ | exact rfl) ?_
      try simp only [thenQ, blockQ, Ann.kill, List.find?_nil]
      refine W_ret ?_
      try simp only [thenQ, blockQ]
      refine ⟨trivial, _, (by simp [Try.f12]; rfl), ?_⟩
      rw [sub, if_neg (by simp [hi])]
      exact Out0.none

theorem implSub_lv (l : List N) (at_ : Int) (hl : l.length ≤ 1048576) (hn : ∀ n ∈ l, n.fit) : ∃ v σ0, LV S 14 [.t (encT l), .t (I at_)] [] = some (v, σ0) ∧ Out0 σ0 v (sub l at_) := by
  refine LV_bodyP (A := A14) rfl Try.func14 rfl ?_
  have hw : IntKind.i64.wrap ((l.length : Int) - 1) = (l.length : Int) - 1 := IntWalk.i64_in _ (by omega)
  repeat apply W_seq
  refine W_region (by simp; first | exact ⟨rfl, rfl⟩ | exact rfl) ?_
  try simp only [thenQ, blockQ, Ann.kill, List.find?_nil]
  by_cases hi : inT at_ l = true
  · have hi' := hi
    simp only [inT, Bool.and_eq_true, decide_eq_true_eq] at hi'
    cases hr : rightFrom 0 l with
    | false =>
      repeat apply W_seq
      refine W_region (by simp [kidsRight_ld l _ (by omega) (fun n h => (hn n h).ok), hr, hw, within_ld, hi'.1, hi'.2]; first | exact ⟨rfl, rfl⟩ | exact rfl) ?_
      try simp only [thenQ, blockQ, Ann.kill, List.find?_nil]
      repeat apply W_seq
      refine W_cond (t := true) (by simp) ?_
      simp only [if_true, if_false, Bool.false_eq_true]
      repeat apply W_seq
      refine W_region (by simp [buildV, fieldSizes, fillV, setRange1]; first | exact ⟨rfl, rfl⟩ | exact rfl) ?_
      try simp only [thenQ, blockQ, Ann.kill, List.find?_nil]
      refine W_ret ?_
      try simp only [thenQ, blockQ]
      refine ⟨trivial, _, (by simp [Try.f14]; rfl), ?_⟩
      rw [sub, hr]
      exact Out0.none
    | true =>
      repeat apply W_seq
      refine W_region (by simp [kidsRight_ld l _ (by omega) (fun n h => (hn n h).ok), hr, hw, within_ld, hi'.1, hi'.2]; first | exact ⟨rfl, rfl⟩ | exact rfl) ?_
      try simp only [thenQ, blockQ, Ann.kill, List.find?_nil]
      repeat apply W_seq
      refine W_cond (t := false) (by simp) ?_
      simp only [if_true, if_false, Bool.false_eq_true]
      refine W_skip ?_
      try simp only [thenQ, blockQ, Ann.kill, List.find?_nil]
      repeat apply W_seq
      refine W_region (by simp [buildV, fieldSizes, fillV, setRange1]; first | exact ⟨rfl, rfl⟩ | exact rfl) ?_
      try simp only [thenQ, blockQ, Ann.kill, List.find?_nil]
      obtain ⟨a, rfl⟩ : ∃ a : Nat, at_ = a := ⟨at_.toNat, by omega⟩
      have hsub : sub l a = ex l (-1) (fun _ => none) l.length a [] := by rw [sub, if_pos (by rw [hr, hi]; rfl)]
      obtain ⟨b, σ', e1, e2⟩ := take_ok l .nils (-1) (fun _ => none) hl hn hr 2 0 (fun h => by omega) l.length a (by omega) (by omega) [.cells [.t (Ls l)] 0 0, .cells [.t .nils] 0 0, .cells [.t .nils, .t (B false)] 0 0] (.t .nils) [] [] (by simp) (by omega) (by simp) rfl (.inl ⟨rfl, rfl, rfl⟩)
      repeat apply W_seq
      refine W_region (by simp [buildV, fieldSizes, fillV, e1]; first | exact ⟨rfl, rfl⟩ | exact rfl) ?_
      try simp only [thenQ, blockQ, Ann.kill, List.find?_nil]
      rw [hsub]
      cases hx : ex l (-1) (fun _ => none) l.length a [] with
      | none =>
        rw [hx] at e2
        obtain ⟨v', h3, h4, h5, h6⟩ := e2
        have g1 : σ'[1]? = some (.cells [.t .nils] 0 0) := by rw [h6 1 (by simp) (by omega) (by simp)]; rfl
        have g2 : ∀ X, (σ'.set 1 X)[1]? = some X := fun X => List.getElem?_set_self (get_lt g1)
        repeat apply W_seq
        refine W_region (by simp [h3]; first | exact ⟨rfl, rfl⟩ | exact rfl) ?_
        try simp only [thenQ, blockQ, Ann.kill, List.find?_nil]
        repeat apply W_seq
        refine W_cond (t := true) (by simp) ?_
        simp only [if_true, if_false, Bool.false_eq_true]
        repeat apply W_seq
        refine W_region (by simp [buildV, fieldSizes, fillV, setRange1, g1]; first | exact ⟨rfl, rfl⟩ | exact rfl) ?_
        try simp only [thenQ, blockQ, Ann.kill, List.find?_nil]
        refine W_ret ?_
        try simp only [thenQ, blockQ]
        refine ⟨trivial, _, (by simp [Try.f14, g2]; rfl), ?_⟩
        exact Out0.none
      | some l' =>
        rw [hx] at e2
        obtain ⟨hb, h1, h2, v', ls', h3, h4, h5, h6, h7⟩ := e2
        obtain ⟨t4, rfl⟩ := h4.isSl (by intro e; rw [e] at h1; simp at h1)
        have g1 : σ'[1]? = some (.cells [.t .nils] 0 0) := by rw [h6 1 (by simp) (by omega) (by simp)]; rfl
        have g2 : ∀ X, (σ'.set 1 X)[1]? = some X := fun X => List.getElem?_set_self (get_lt g1)
        repeat apply W_seq
        refine W_region (by simp [h3]; first | exact ⟨rfl, rfl⟩ | exact rfl) ?_
        try simp only [thenQ, blockQ, Ann.kill, List.find?_nil]
        repeat apply W_seq
        refine W_cond (t := false) (by simp) ?_
        simp only [if_true, if_false, Bool.false_eq_true]
        refine W_skip ?_
        try simp only [thenQ, blockQ, Ann.kill, List.find?_nil]
        repeat apply W_seq
        refine W_region (by simp [h3, buildV, fieldSizes, fillV, setRange1, g1]; first | exact ⟨rfl, rfl⟩ | exact rfl) ?_
        try simp only [thenQ, blockQ, Ann.kill, List.find?_nil]
        refine W_ret ?_
        try simp only [thenQ, blockQ]
        refine ⟨trivial, _, (by simp [Try.f14, g2]; rfl), ?_⟩
        refine ⟨t4.sl, rfl, (h4.keep (by simp) fun i hi => List.getElem?_set_ne ?_).ts, fun h => by cases h⟩
        rintro rfl
        rcases h7 _ hi with h8 | h8
        · simp at h8
        · simp at h8
  · have hi' : (decide (0 ≤ at_) && decide (at_ ≤ (l.length : Int) - 1)) = false := by simpa [inT] using hi
    repeat apply W_seq
    refine W_region (by simp [hw, within_ld, hi']; first | exact ⟨rfl, rfl⟩ | exact rfl) ?_
    try simp only [thenQ, blockQ, Ann.kill, List.find?_nil]
    repeat apply W_seq
    refine W_cond (t := true) (by simp) ?_
    simp only [if_true, if_false, Bool.false_eq_true]
    repeat apply W_seq
    refine W_region (by simp [buildV, fieldSizes, fillV, setRange1]; first | exact ⟨rfl, rfl⟩ | exact rfl) ?_
    try simp only [thenQ, blockQ, Ann.kill, List.find?_nil]
    refine W_ret ?_
    try simp only [thenQ, blockQ]
    refine ⟨trivial, _, (by simp [Try.f14]; rfl), ?_⟩
    rw [sub, if_neg (by simp [hi])]
    exact Out0.none
