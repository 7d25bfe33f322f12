/- A part of the proof. No statement of the claim is in it. -/
import Derived.Test.YtognnaobhjaoeaaGreatDoorVEg4
open Go Go.V Go.Proofs
namespace X
set_option maxRecDepth 100000
set_option maxHeartbeats 4000000
set_option linter.unusedSimpArgs false
set_option linter.unusedVariables false
attribute [-simp] lenV idxV getElem?_pos
/-! ### slices.Sort of few numbers, where they lie -/
def down : Nat → List Nat → List Nat
 | 0, l => l
 | j + 1, l => match l[j + 1]?, l[j]? with
  | some a, some b => if a < b then down j ((l.set (j + 1) b).set j a) else l
  | _, _ => l
def sortN : Nat → Nat → List Nat → List Nat
 | 0, _, l => l
 | n + 1, i, l => if i < l.length then sortN n (i + 1) (down i l) else l
def sortF (l : List Nat) : List Nat := sortN l.length 1 l
theorem down_len : ∀ (j : Nat) (l : List Nat), (down j l).length = l.length
 | 0, l => rfl
 | j + 1, l => by
  simp only [down]
  split
  ·split
   ·rw [down_len j]; simp
   ·rfl
  ·rfl
theorem sortN_len : ∀ (n i : Nat) (l : List Nat), (sortN n i l).length = l.length
 | 0, _, _ => rfl
 | n + 1, i, l => by
  simp only [sortN]
  split
  ·rw [sortN_len n, down_len]
  ·rfl
theorem ints_set (l : List Nat) (j b : Nat) : (ints l).set j (.t (I b)) = ints (l.set j b) := by simp [ints]
theorem set_same {σ : Store} {d : Nat} {o : V.Obj} (h : σ[d]? = some o) : σ.set d o = σ := by
 have hd := lt_of_get h
 rw [List.getElem?_eq_getElem hd] at h
 cases h
 simp
theorem get_set {σ : Store} {d : Nat} (hd : d < σ.length) (o : V.Obj) : (σ.set d o)[d]? = some o := by rw [List.getElem?_set_self (by simpa using hd)]

theorem isort_lv {σ : Store} {d g w : Nat} {l : List Nat} (h : σ[d]? = some (.cells (ints l) g w)) (hw : w ≤ g) (hn : l.length ≤ 1048576) :
  ∃ v σ', LV S 119 [.sl d g 0 l.length 1, .t (I 0), .t (I l.length)] σ = some (v, σ') ∧ v = .t (.tup []) ∧ ∃ w', w' ≤ g ∧ σ' = σ.set d (.cells (ints (sortF l)) g w') := by
 have hd := lt_of_get h
 refine LV_bodyX (A := A119) rfl Tryz.func119 rfl ?_
 repeat apply W_seq
 refine W_region (by simp; first | exact ⟨rfl, rfl⟩ | exact rfl) ?_
 try simp only [thenQ, blockQ, Ann.kill, List.find?_nil]
 repeat apply W_seq
 refine W_block ?_
 refine W_loop (I := fun m st τ => ∃ i k l' w', m = k ∧ 1 ≤ i ∧ l.length ≤ i + k ∧ l'.length = l.length ∧ w' ≤ g ∧ sortN k i l' = sortF l ∧ st.vars = [(0, .sl d g 0 l.length 1), (1, .t (I 0)), (2, .t (I l.length)), (6, .t (I i))] ∧ τ = σ.set d (.cells (ints l') g w')) ?_ l.length _ _ ⟨1, l.length, l, w, rfl, Nat.le_refl _, by omega, rfl, hw, rfl, by simp [show IntKind.i64.wrap 1 = 1 from rfl], (set_same h).symm⟩
 rintro m ⟨vars, scr⟩ τ ⟨i, k, l', w', rfl, hi, hik, hl', hw', he, hv, rfl⟩
 simp only at hv
 subst hv
 repeat apply W_seq
 refine W_region (by simp; first | exact ⟨rfl, rfl⟩ | exact rfl) ?_
 try simp only [thenQ, blockQ, Ann.kill, List.find?_nil]
 by_cases c1 : i < l.length
 ·repeat apply W_seq
  refine W_cond (t := true) (by simp [c1]) ?_
  simp only [if_true, if_false, Bool.false_eq_true]
  refine W_skip ?_
  try simp only [thenQ, blockQ, Ann.kill, List.find?_nil]
  repeat apply W_seq
  refine W_block ?_
  obtain ⟨k, rfl⟩ : ∃ q, m = q + 1 := ⟨m - 1, by omega⟩
  repeat apply W_seq
  refine W_region (by simp; first | exact ⟨rfl, rfl⟩ | exact rfl) ?_
  try simp only [thenQ, blockQ, Ann.kill, List.find?_nil]
  repeat apply W_seq
  refine W_block ?_
  refine W_loop (I := fun m st τ => ∃ j l2 w2, m = j ∧ j ≤ i ∧ l2.length = l.length ∧ w2 ≤ g ∧ down j l2 = down i l' ∧ st.vars = [(0, .sl d g 0 l.length 1), (1, .t (I 0)), (2, .t (I l.length)), (6, .t (I i)), (7, .t (I j))] ∧ τ = σ.set d (.cells (ints l2) g w2)) ?_ i _ _ ⟨i, l', w', rfl, Nat.le_refl _, hl', hw', rfl, by simp, rfl⟩
  rintro m2 ⟨vars, scr⟩ τ ⟨j, l2, w2, rfl, hj, hl2, hw2, he2, hv, rfl⟩
  simp only at hv
  subst hv
  have hg : ∀ o, (σ.set d o)[d]? = some o := get_set hd
  cases m2 with
  | zero =>
   repeat apply W_seq
   refine W_region (by simp; first | exact ⟨rfl, rfl⟩ | exact rfl) ?_
   try simp only [thenQ, blockQ, Ann.kill, List.find?_nil]
   repeat apply W_seq
   refine W_cond (t := false) (by simp) ?_
   simp only [if_true, if_false, Bool.false_eq_true]
   repeat apply W_seq
   refine W_exit ?_
   try simp only [thenQ, blockQ, if_true, Ann.kill, List.find?_nil]
   repeat apply W_seq
   refine W_region (by simp [IntWalk.i64_in ((i : Int) + 1) (by omega)]; first | exact ⟨rfl, rfl⟩ | exact rfl) ?_
   try simp only [thenQ, blockQ, Ann.kill, List.find?_nil]
   refine ⟨k, by omega, i + 1, k, l2, w2, rfl, by omega, by omega, hl2, hw2, ?_, by simp, rfl⟩
   rw [← he, sortN, if_pos (by omega), ← he2]; rfl
  | succ j =>
   obtain ⟨a, ha⟩ := get_of_lt (show j + 1 < l2.length by omega)
   obtain ⟨b, hb⟩ := get_of_lt (show j < l2.length by omega)
   have e1 : IntKind.i64.wrap ((j : Int) + 1 - 1) = j := by rw [IntWalk.i64_in _ (by omega)]; omega
   have e2 : IntKind.i64.wrap (j : Int) = j := IntWalk.i64_in _ (by omega)
   have f1 : (0 : Int) ≤ (j : Int) + 1 := by omega
   have f2 : (j : Int) + 1 < l.length := by omega
   have f3 : (j : Int) < l.length := by omega
   have f4 : j + 1 + 1 ≤ l.length := by omega
   have f5 : j + 1 ≤ l.length := by omega
   have f6 : j < l.length := by omega
   have f7 : (0 : Int) < (j : Int) + 1 := by omega
   repeat apply W_seq
   refine W_region (by simp [hg, e1, e2, ha, hb, less_ld, f1, f2, f3, f4, f5, f6, f7, hw2, hl2]; first | exact ⟨rfl, rfl⟩ | exact rfl) ?_
   try simp only [thenQ, blockQ, Ann.kill, List.find?_nil]
   by_cases c2 : a < b
   ·repeat apply W_seq
    refine W_cond (t := true) (by simp [c2]) ?_
    simp only [if_true, if_false, Bool.false_eq_true]
    refine W_skip ?_
    try simp only [thenQ, blockQ, Ann.kill, List.find?_nil]
    repeat apply W_seq
    refine W_block ?_
    repeat apply W_seq
    refine W_region (by simp [hg, e1, e2, ha, hb, less_ld, f1, f2, f3, f4, f5, f6, f7, hw2, hl2, ints_set]; first | exact ⟨rfl, rfl⟩ | exact rfl) ?_
    try simp only [thenQ, blockQ, Ann.kill, List.find?_nil]
    repeat apply W_seq
    refine W_region (by simp [e1, e2]; first | exact ⟨rfl, rfl⟩ | exact rfl) ?_
    try simp only [thenQ, blockQ, Ann.kill, List.find?_nil]
    refine ⟨j, by omega, j, (l2.set (j + 1) b).set j a, g, rfl, by omega, by simp [hl2], Nat.le_refl _, ?_, by simp, by simp⟩
    rw [← he2, down, ha, hb]
    simp [c2]
   ·repeat apply W_seq
    refine W_cond (t := false) (by simp [c2]) ?_
    simp only [if_true, if_false, Bool.false_eq_true]
    repeat apply W_seq
    refine W_exit ?_
    try simp only [thenQ, blockQ, if_true, Ann.kill, List.find?_nil]
    repeat apply W_seq
    refine W_region (by simp [IntWalk.i64_in ((i : Int) + 1) (by omega)]; first | exact ⟨rfl, rfl⟩ | exact rfl) ?_
    try simp only [thenQ, blockQ, Ann.kill, List.find?_nil]
    refine ⟨k, by omega, i + 1, k, l2, w2, rfl, by omega, by omega, hl2, hw2, ?_, by simp, rfl⟩
    rw [← he, sortN, if_pos (by omega), ← he2, down, ha, hb]
    simp [c2]
 ·repeat apply W_seq
  refine W_cond (t := false) (by simp [c1]) ?_
  simp only [if_true, if_false, Bool.false_eq_true]
  repeat apply W_seq
  refine W_exit ?_
  try simp only [thenQ, blockQ, if_true, Ann.kill, List.find?_nil]
  refine ⟨trivial, _, (by simp [Tryz.f119]), rfl, w', hw', ?_⟩
  have : sortF l = l' := by
   rw [← he]
   cases m with
   | zero => rfl
   | succ m => rw [sortN, if_neg (by omega)]
  rw [this]

/-- What bits.Len says of few (looked up). -/
def LenOk (n : Nat) : Prop := ∃ k, ∀ σ, LD S 95 [.t (.int .u64 n)] σ = some (.t (I k), σ)
theorem pdq_lv {σ : Store} {d g w : Nat} {l : List Nat} (h : σ[d]? = some (.cells (ints l) g w)) (hw : w ≤ g) (hn : l.length ≤ 12) (k : Int) :
  ∃ v σ', LV S 94 [.sl d g 0 l.length 1, .t (I 0), .t (I l.length), .t (I k)] σ = some (v, σ') ∧ v = .t (.tup []) ∧ ∃ w', w' ≤ g ∧ σ' = σ.set d (.cells (ints (sortF l)) g w') := by
 refine LV_bodyX (A := A94) rfl Tryz.func94 rfl ?_
 obtain ⟨v, σ', h1, rfl, h2⟩ := isort_lv h hw (by omega)
 have hI : ∀ (args : List V) (σ : Store), LD S 119 args σ = LV S 119 args σ := fun args σ => LD_inl (A := A119) rfl rfl rfl args σ
 repeat apply W_seq
 refine W_region (by simp; first | exact ⟨rfl, rfl⟩ | exact rfl) ?_
 try simp only [thenQ, blockQ, Ann.kill, List.find?_nil]
 repeat apply W_seq
 refine W_region (by simp; first | exact ⟨rfl, rfl⟩ | exact rfl) ?_
 try simp only [thenQ, blockQ, Ann.kill, List.find?_nil]
 repeat apply W_seq
 refine W_block ?_
 refine W_loop_step ?_
 repeat apply W_seq
 refine W_block ?_
 repeat apply W_seq
 refine W_region (by simp [IntWalk.i64_in (l.length : Int) (by omega)]; first | exact ⟨rfl, rfl⟩ | exact rfl) ?_
 try simp only [thenQ, blockQ, Ann.kill, List.find?_nil]
 repeat apply W_seq
 refine W_region (by simp [show (l.length : Int) ≤ 12 by omega]; first | exact ⟨rfl, rfl⟩ | exact rfl) ?_
 try simp only [thenQ, blockQ, Ann.kill, List.find?_nil]
 repeat apply W_seq
 refine W_cond (t := true) (by simp) ?_
 simp only [if_true, if_false, Bool.false_eq_true]
 repeat apply W_seq
 refine W_region (by simp [hI, h1]; first | exact ⟨rfl, rfl⟩ | exact rfl) ?_
 try simp only [thenQ, blockQ, Ann.kill, List.find?_nil]
 refine W_ret ?_
 simp only [thenQ, blockQ]
 exact ⟨trivial, _, (by simp [Tryz.f94]), rfl, h2⟩
theorem sort_ld {σ : Store} {v : V} {l : List Nat} (h : Rd σ v l) (hn : l.length ≤ 12) (hL : LenOk l.length) :
  ∃ σ', LD S 65 [v] σ = some (.t (.tup []), σ') ∧ ((v = .t .nils ∧ σ' = σ ∧ l = []) ∨ ∃ d g w w', v = .sl d g 0 l.length 1 ∧ σ[d]? = some (.cells (ints l) g w) ∧ w ≤ g ∧ w' ≤ g ∧ σ' = σ.set d (.cells (ints (sortF l)) g w')) := by
 have hI : ∀ (args : List V) (σ : Store), LD S 94 args σ = LV S 94 args σ := fun args σ => LD_inl (A := A94) rfl rfl rfl args σ
 have hI2 : ∀ (args : List V) (σ : Store), LD S 119 args σ = LV S 119 args σ := fun args σ => LD_inl (A := A119) rfl rfl rfl args σ
 obtain ⟨k, hL⟩ := hL
 rcases h with ⟨rfl, rfl⟩ | ⟨d, g, w, rfl, h1, h2, _⟩
 ·refine ⟨σ, ?_, .inl ⟨rfl, rfl, rfl⟩⟩
  refine (LD_inl (A := A65) rfl rfl rfl _ σ).trans ?_
  have e1 : LV S 119 [.t .nils, .t (I 0), .t (I 0)] σ = some (.t (.tup []), σ) := by
   refine LV_body (A := A119) rfl Tryz.func119 rfl ?_
   repeat apply W_seq
   refine W_region (by simp; first | exact ⟨rfl, rfl⟩ | exact rfl) ?_
   try simp only [thenQ, blockQ, Ann.kill, List.find?_nil]
   repeat apply W_seq
   refine W_block ?_
   refine W_loop_step ?_
   repeat apply W_seq
   refine W_region (by simp; first | exact ⟨rfl, rfl⟩ | exact rfl) ?_
   try simp only [thenQ, blockQ, Ann.kill, List.find?_nil]
   repeat apply W_seq
   refine W_cond (t := false) (by simp [show IntKind.i64.wrap 1 = 1 from rfl]) ?_
   simp only [if_true, if_false, Bool.false_eq_true]
   repeat apply W_seq
   refine W_exit ?_
   try simp only [thenQ, blockQ, if_true, Ann.kill, List.find?_nil]
   simp [Tryz.f119]
  have e2 : LV S 94 [.t .nils, .t (I 0), .t (I 0), .t (I k)] σ = some (.t (.tup []), σ) := by
   refine LV_body (A := A94) rfl Tryz.func94 rfl ?_
   repeat apply W_seq
   refine W_region (by simp; first | exact ⟨rfl, rfl⟩ | exact rfl) ?_
   try simp only [thenQ, blockQ, Ann.kill, List.find?_nil]
   repeat apply W_seq
   refine W_region (by simp; first | exact ⟨rfl, rfl⟩ | exact rfl) ?_
   try simp only [thenQ, blockQ, Ann.kill, List.find?_nil]
   repeat apply W_seq
   refine W_block ?_
   refine W_loop_step ?_
   repeat apply W_seq
   refine W_block ?_
   repeat apply W_seq
   refine W_region (by simp; first | exact ⟨rfl, rfl⟩ | exact rfl) ?_
   try simp only [thenQ, blockQ, Ann.kill, List.find?_nil]
   repeat apply W_seq
   refine W_region (by simp; first | exact ⟨rfl, rfl⟩ | exact rfl) ?_
   try simp only [thenQ, blockQ, Ann.kill, List.find?_nil]
   repeat apply W_seq
   refine W_cond (t := true) (by simp [show IntKind.i64.wrap 0 = 0 from rfl]) ?_
   simp only [if_true, if_false, Bool.false_eq_true]
   repeat apply W_seq
   refine W_region (by simp [hI2, e1]; first | exact ⟨rfl, rfl⟩ | exact rfl) ?_
   try simp only [thenQ, blockQ, Ann.kill, List.find?_nil]
   refine W_ret ?_
   try simp only [thenQ, blockQ]
   simp [Tryz.f94]
  have hL0 : ∀ σ, LD S 95 [.t (.int .u64 0)] σ = some (.t (I k), σ) := hL
  refine LV_body (A := A65) rfl Tryz.func65 rfl ?_
  repeat apply W_seq
  refine W_region (by simp; first | exact ⟨rfl, rfl⟩ | exact rfl) ?_
  try simp only [thenQ, blockQ, Ann.kill, List.find?_nil]
  repeat apply W_seq
  refine W_region (by simp [convV, show IntKind.u64.wrap 0 = 0 from rfl, hL0, hI, e2]; first | exact ⟨rfl, rfl⟩ | exact rfl) ?_
  try simp only [thenQ, blockQ, Ann.kill, List.find?_nil]
  simp [Tryz.f65]
 ·obtain ⟨v, σ', e1, rfl, w', hw', rfl⟩ := pdq_lv h1 h2 hn k
  refine ⟨_, ?_, .inr ⟨d, g, w, w', rfl, h1, h2, hw', rfl⟩⟩
  refine (LD_inl (A := A65) rfl rfl rfl _ σ).trans ?_
  refine LV_body (A := A65) rfl Tryz.func65 rfl ?_
  repeat apply W_seq
  refine W_region (by simp; first | exact ⟨rfl, rfl⟩ | exact rfl) ?_
  try simp only [thenQ, blockQ, Ann.kill, List.find?_nil]
  repeat apply W_seq
  refine W_region (by simp [convV, IntWalk.u64_in (l.length : Int) (by omega), hL, hI, e1]; first | exact ⟨rfl, rfl⟩ | exact rfl) ?_
  try simp only [thenQ, blockQ, Ann.kill, List.find?_nil]
  simp [Tryz.f65]
end X
