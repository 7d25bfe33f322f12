/- A part of the proof. No statement of the claim is in it. -/
import Derived.Test.YthfjcnjdcljhmaaGreatDoorTzLaw
import Derived.Test.YthfjcnjdcljhmaaGreatDoorTzLoR
open Go Go.V Go.Proofs
namespace X
set_option maxRecDepth 100000
set_option maxHeartbeats 4000000
set_option linter.unusedSimpArgs false
set_option linter.unusedVariables false

theorem loPlain_ld (σ : Store) : LD S 17 [.t (.str [83, 32, 45, 62, 32, 34, 97, 34, 32, 83, 32, 124, 32, 34, 97, 34, 32, 59])] σ = some (.t (.agg [gLo]), σ) :=
  run_ld e17 rfl (A := A17) rfl rfl (ts := [_]) loPlain σ
/-- What the calls of one case give. -/
def LoCase (n : Nat) (r : List Nat) : Prop :=
  r.length ≤ 9 ∧ (∀ σ, LD S 19 [.t (I (1 + n)), .t (.str [97])] σ = some (.t (.str r), σ)) ∧
  (∀ σ, LD S 25 [.t (.agg [gLo]), .t (.str (98 :: (r ++ [98])))] σ = some (.t (.list [.agg [I 1, I (1 + n + 1)]]), σ)) ∧
  (∀ σ, LD S 26 [.t (.str (98 :: (r ++ [98]))), .t (.list [.agg [I 1, I (1 + n + 1)]]), .t (.str [120])] σ = some (.t (.tup [.str [98, 120, 98], .bool true]), σ)) ∧
  (∀ σ, LD S 27 [.t (.agg [gLo]), .t (.str (98 :: (r ++ [98]))), .t (I 1)] σ = some (.t (I (1 + n + 1)), σ)) ∧
  (∀ σ, LD S 27 [.t (.agg [gLo]), .t (.str (98 :: (r ++ [98]))), .t (I 0)] σ = some (.t (I (-1)), σ))
theorem loCase1 : LoCase 0 [97] :=
  ⟨by decide, run_ld e19 rfl (A := A19) rfl rfl (ts := [_, _]) loRow1, run_ld e25 rfl (A := A25) rfl rfl (ts := [_, _]) loSpans1, run_ld e26 rfl (A := A26) rfl rfl (ts := [_, _, _]) loRep1, run_ld e27 rfl (A := A27) rfl rfl (ts := [_, _, _]) loAt1, run_ld e27 rfl (A := A27) rfl rfl (ts := [_, _, _]) loNo1⟩
theorem loCase2 : LoCase 1 [97, 97] :=
  ⟨by decide, run_ld e19 rfl (A := A19) rfl rfl (ts := [_, _]) loRow2, run_ld e25 rfl (A := A25) rfl rfl (ts := [_, _]) loSpans2, run_ld e26 rfl (A := A26) rfl rfl (ts := [_, _, _]) loRep2, run_ld e27 rfl (A := A27) rfl rfl (ts := [_, _, _]) loAt2, run_ld e27 rfl (A := A27) rfl rfl (ts := [_, _, _]) loNo2⟩
theorem loCase3 : LoCase 2 [97, 97, 97] :=
  ⟨by decide, run_ld e19 rfl (A := A19) rfl rfl (ts := [_, _]) loRow3, run_ld e25 rfl (A := A25) rfl rfl (ts := [_, _]) loSpans3, run_ld e26 rfl (A := A26) rfl rfl (ts := [_, _, _]) loRep3, run_ld e27 rfl (A := A27) rfl rfl (ts := [_, _, _]) loAt3, run_ld e27 rfl (A := A27) rfl rfl (ts := [_, _, _]) loNo3⟩
theorem loCase4 : LoCase 3 [97, 97, 97, 97] :=
  ⟨by decide, run_ld e19 rfl (A := A19) rfl rfl (ts := [_, _]) loRow4, run_ld e25 rfl (A := A25) rfl rfl (ts := [_, _]) loSpans4, run_ld e26 rfl (A := A26) rfl rfl (ts := [_, _, _]) loRep4, run_ld e27 rfl (A := A27) rfl rfl (ts := [_, _, _]) loAt4, run_ld e27 rfl (A := A27) rfl rfl (ts := [_, _, _]) loNo4⟩
theorem loCase5 : LoCase 4 [97, 97, 97, 97, 97] :=
  ⟨by decide, run_ld e19 rfl (A := A19) rfl rfl (ts := [_, _]) loRow5, run_ld e25 rfl (A := A25) rfl rfl (ts := [_, _]) loSpans5, run_ld e26 rfl (A := A26) rfl rfl (ts := [_, _, _]) loRep5, run_ld e27 rfl (A := A27) rfl rfl (ts := [_, _, _]) loAt5, run_ld e27 rfl (A := A27) rfl rfl (ts := [_, _, _]) loNo5⟩
theorem loCase6 : LoCase 5 [97, 97, 97, 97, 97, 97] :=
  ⟨by decide, run_ld e19 rfl (A := A19) rfl rfl (ts := [_, _]) loRow6, run_ld e25 rfl (A := A25) rfl rfl (ts := [_, _]) loSpans6, run_ld e26 rfl (A := A26) rfl rfl (ts := [_, _, _]) loRep6, run_ld e27 rfl (A := A27) rfl rfl (ts := [_, _, _]) loAt6, run_ld e27 rfl (A := A27) rfl rfl (ts := [_, _, _]) loNo6⟩
theorem loCase7 : LoCase 6 [97, 97, 97, 97, 97, 97, 97] :=
  ⟨by decide, run_ld e19 rfl (A := A19) rfl rfl (ts := [_, _]) loRow7, run_ld e25 rfl (A := A25) rfl rfl (ts := [_, _]) loSpans7, run_ld e26 rfl (A := A26) rfl rfl (ts := [_, _, _]) loRep7, run_ld e27 rfl (A := A27) rfl rfl (ts := [_, _, _]) loAt7, run_ld e27 rfl (A := A27) rfl rfl (ts := [_, _, _]) loNo7⟩
theorem loCase8 : LoCase 7 [97, 97, 97, 97, 97, 97, 97, 97] :=
  ⟨by decide, run_ld e19 rfl (A := A19) rfl rfl (ts := [_, _]) loRow8, run_ld e25 rfl (A := A25) rfl rfl (ts := [_, _]) loSpans8, run_ld e26 rfl (A := A26) rfl rfl (ts := [_, _, _]) loRep8, run_ld e27 rfl (A := A27) rfl rfl (ts := [_, _, _]) loAt8, run_ld e27 rfl (A := A27) rfl rfl (ts := [_, _, _]) loNo8⟩
theorem loCase9 : LoCase 8 [97, 97, 97, 97, 97, 97, 97, 97, 97] :=
  ⟨by decide, run_ld e19 rfl (A := A19) rfl rfl (ts := [_, _]) loRow9, run_ld e25 rfl (A := A25) rfl rfl (ts := [_, _]) loSpans9, run_ld e26 rfl (A := A26) rfl rfl (ts := [_, _, _]) loRep9, run_ld e27 rfl (A := A27) rfl rfl (ts := [_, _, _]) loAt9, run_ld e27 rfl (A := A27) rfl rfl (ts := [_, _, _]) loNo9⟩
theorem lt9 {n : Nat} (h : n < 9) : n = 0 ∨ n = 1 ∨ n = 2 ∨ n = 3 ∨ n = 4 ∨ n = 5 ∨ n = 6 ∨ n = 7 ∨ n = 8 := by omega
theorem loCases (n : Nat) (h : n < 9) : ∃ r, LoCase n r := by
  rcases lt9 h with rfl | rfl | rfl | rfl | rfl | rfl | rfl | rfl | rfl
  · exact ⟨_, loCase1⟩
  · exact ⟨_, loCase2⟩
  · exact ⟨_, loCase3⟩
  · exact ⟨_, loCase4⟩
  · exact ⟨_, loCase5⟩
  · exact ⟨_, loCase6⟩
  · exact ⟨_, loCase7⟩
  · exact ⟨_, loCase8⟩
  · exact ⟨_, loCase9⟩

theorem long_lv {x : T} {l : List Int} (hx : BytesT x l) : ∃ σ', LV S 8 [.t x] [] = some (.t (B true), σ') := by
  refine LV_bodyE (A := A8) rfl Tryz.func8 rfl ?_
  repeat apply W_seq
  refine W_region (by simp; first | exact ⟨rfl, rfl⟩ | exact rfl) ?_
  try simp only [thenQ, blockQ, Ann.kill, List.find?_nil]
  repeat apply W_seq
  refine W_region (by simp [big_ld hx]; first | exact ⟨rfl, rfl⟩ | exact rfl) ?_
  try simp only [thenQ, blockQ, Ann.kill, List.find?_nil]
  by_cases h1 : (1048576 : Int) < l.length
  · repeat apply W_seq
    refine W_cond (t := true) (by simp [h1]) ?_
    simp only [if_true, if_false, Bool.false_eq_true]
    repeat apply W_seq
    refine W_region (by simp; first | exact ⟨rfl, rfl⟩ | exact rfl) ?_
    try simp only [thenQ, blockQ, Ann.kill, List.find?_nil]
    refine W_ret ?_
    try simp only [thenQ, blockQ]
    simp [Tryz.f8]
  repeat apply W_seq
  refine W_cond (t := false) (by simp [h1]) ?_
  simp only [if_true, if_false, Bool.false_eq_true]
  refine W_skip ?_
  try simp only [thenQ, blockQ, Ann.kill, List.find?_nil]
  obtain ⟨p, pl, pb, hp⟩ := places_ld hx (by omega)
  obtain ⟨q0, g0, a0', b0⟩ := get_place pl pb 0 (by decide)
  obtain ⟨n, hn, en⟩ := tmod_nat a0' 9 (by decide)
  have en : q0.tmod 9 = (n : Int) := en
  obtain ⟨r, hr, f1, f2, f3, f4, f5⟩ := loCases n hn
  have w1 : IntKind.i64.wrap (1 + (n : Int)) = 1 + n := IntWalk.i64_in _ (by omega)
  have w2 : IntKind.i64.wrap (1 + (n : Int) + 1) = 1 + n + 1 := IntWalk.i64_in _ (by omega)
  repeat apply W_seq
  refine W_region (by simp [hp, g0, en, w1]; first | exact ⟨rfl, rfl⟩ | exact rfl) ?_
  try simp only [thenQ, blockQ, Ann.kill, List.find?_nil]
  repeat apply W_seq
  refine W_region (by simp [loPlain_ld]; first | exact ⟨rfl, rfl⟩ | exact rfl) ?_
  try simp only [thenQ, blockQ, Ann.kill, List.find?_nil]
  repeat apply W_seq
  refine W_region (by simp [f1, show 1 + r.length ≤ 9223372036854775807 by omega, show r.length + 1 ≤ 9223372036854775807 by omega, show r.length + 1 + 1 ≤ 9223372036854775807 by omega]; first | exact ⟨rfl, rfl⟩ | exact rfl) ?_
  try simp only [thenQ, blockQ, Ann.kill, List.find?_nil]
  repeat apply W_seq
  refine W_region (by simp [f2]; first | exact ⟨rfl, rfl⟩ | exact rfl) ?_
  try simp only [thenQ, blockQ, Ann.kill, List.find?_nil]
  repeat apply W_seq
  refine W_region (by simp [f3]; first | exact ⟨rfl, rfl⟩ | exact rfl) ?_
  try simp only [thenQ, blockQ, Ann.kill, List.find?_nil]
  repeat apply W_seq
  refine W_region (by simp [f4, f5, w1, w2, show eqL [98, 120, 98] [98, 120, 98] = true from rfl]; first | exact ⟨rfl, rfl⟩ | exact rfl) ?_
  try simp only [thenQ, blockQ, Ann.kill, List.find?_nil]
  refine W_ret ?_
  try simp only [thenQ, blockQ]
  simp [Tryz.f8]
end X
