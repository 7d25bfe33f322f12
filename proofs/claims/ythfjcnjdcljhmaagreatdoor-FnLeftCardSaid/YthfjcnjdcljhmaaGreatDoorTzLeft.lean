/- A part of the proof. No statement of the claim is in it. -/
import Derived.Test.YthfjcnjdcljhmaaGreatDoorTzLeftA
import Derived.Test.YthfjcnjdcljhmaaGreatDoorTzLeftB
import Derived.Test.YthfjcnjdcljhmaaGreatDoorTzLeftC
import Derived.Test.YthfjcnjdcljhmaaGreatDoorTzLeftD
import Derived.Test.YthfjcnjdcljhmaaGreatDoorTzLeftE
open Go Go.V Go.Proofs
namespace X
set_option maxRecDepth 100000
set_option maxHeartbeats 4000000
set_option linter.unusedSimpArgs false
set_option linter.unusedVariables false
theorem lt13 {n : Nat} (h : n < 13) : n = 0 ∨ n = 1 ∨ n = 2 ∨ n = 3 ∨ n = 4 ∨ n = 5 ∨ n = 6 ∨ n = 7 ∨ n = 8 ∨ n = 9 ∨ n = 10 ∨ n = 11 ∨ n = 12 := by omega
theorem leftRun (n : Nat) (h : n < 13) (a b c d e f g : V) : ftail ixf S tab 100000 A7 Tryz.f7.results.toList leftC (leftEnv a b c d e f g n) ⟨0, .e⟩ = some (B true) := by
  rcases lt13 h with rfl | rfl | rfl | rfl | rfl | rfl | rfl | rfl | rfl | rfl | rfl | rfl | rfl
  · exact leftRun0 a b c d e f g
  · exact leftRun1 a b c d e f g
  · exact leftRun2 a b c d e f g
  · exact leftRun3 a b c d e f g
  · exact leftRun4 a b c d e f g
  · exact leftRun5 a b c d e f g
  · exact leftRun6 a b c d e f g
  · exact leftRun7 a b c d e f g
  · exact leftRun8 a b c d e f g
  · exact leftRun9 a b c d e f g
  · exact leftRun10 a b c d e f g
  · exact leftRun11 a b c d e f g
  · exact leftRun12 a b c d e f g
theorem left_lv {x : T} {l : List Int} (hx : BytesT x l) : ∃ σ', LV S 7 [.t x] [] = some (.t (B true), σ') := by
  refine LV_bodyE (A := A7) rfl Tryz.func7 rfl ?_
  repeat apply W_seq
  refine W_region (by simp; first | exact ⟨rfl, rfl⟩ | exact rfl) ?_
  try simp only [thenQ, blockQ, Ann.kill, List.find?_nil]
  repeat apply W_seq
  refine W_region (by simp [big_ld hx]; first | exact ⟨rfl, rfl⟩ | exact rfl) ?_
  try simp only [thenQ, blockQ, Ann.kill, List.find?_nil]
  by_cases h1 : (1048576 : Int) < l.length
  · repeat apply W_seq
    refine W_cond (t := true) (by simp [h1]) ?_
    simp only [if_true, if_false, Bool.false_eq_true]
    repeat apply W_seq
    refine W_region (by simp; first | exact ⟨rfl, rfl⟩ | exact rfl) ?_
    try simp only [thenQ, blockQ, Ann.kill, List.find?_nil]
    refine W_ret ?_
    try simp only [thenQ, blockQ]
    simp [Tryz.f7]
  repeat apply W_seq
  refine W_cond (t := false) (by simp [h1]) ?_
  simp only [if_true, if_false, Bool.false_eq_true]
  refine W_skip ?_
  try simp only [thenQ, blockQ, Ann.kill, List.find?_nil]
  obtain ⟨p, pl, pb, hp⟩ := places_ld hx (by omega)
  obtain ⟨q0, g0, a0', b0⟩ := get_place pl pb 0 (by decide)
  obtain ⟨n, hn, en⟩ := tmod_nat a0' 13 (by decide)
  have en : q0.tmod 13 = (n : Int) := en
  repeat apply W_seq
  refine W_region (by simp [hp, g0, en]; first | exact ⟨rfl, rfl⟩ | exact rfl) ?_
  try simp only [thenQ, blockQ, Ann.kill, List.find?_nil]
  exact ftail_W tab_ok 100000 rfl (fs := ⟨0, .e⟩) Sto.nil (leftRun n hn _ _ _ _ _ _ _)
end X
