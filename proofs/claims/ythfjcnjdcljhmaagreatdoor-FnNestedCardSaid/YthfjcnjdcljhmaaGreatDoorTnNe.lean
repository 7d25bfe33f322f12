/- A part of the proof. No statement of the claim is in it. -/
import Derived.Test.YthfjcnjdcljhmaaGreatDoorTnNeA
import Derived.Test.YthfjcnjdcljhmaaGreatDoorTnNeB
import Derived.Test.YthfjcnjdcljhmaaGreatDoorTnNeC
import Derived.Test.YthfjcnjdcljhmaaGreatDoorTnNeD
open Go Go.V Go.Proofs
namespace X
set_option maxRecDepth 100000
set_option maxHeartbeats 4000000
set_option linter.unusedSimpArgs false
set_option linter.unusedVariables false
namespace TzNe
theorem lt30 {n : Nat} (h : n < 30) : n = 0 ∨ n = 1 ∨ n = 2 ∨ n = 3 ∨ n = 4 ∨ n = 5 ∨ n = 6 ∨ n = 7 ∨ n = 8 ∨ n = 9 ∨ n = 10 ∨ n = 11 ∨ n = 12 ∨ n = 13 ∨ n = 14 ∨ n = 15 ∨ n = 16 ∨ n = 17 ∨ n = 18 ∨ n = 19 ∨ n = 20 ∨ n = 21 ∨ n = 22 ∨ n = 23 ∨ n = 24 ∨ n = 25 ∨ n = 26 ∨ n = 27 ∨ n = 28 ∨ n = 29 := by omega
theorem run (n : Nat) (h : n < 30) (a b c d e f g : V) : ftail ixf S tab 100000 A9 Tryz.f9.results.toList restC (env a b c d e f g n) ⟨0, .e⟩ = some (B true) := by
  rcases lt30 h with rfl | rfl | rfl | rfl | rfl | rfl | rfl | rfl | rfl | rfl | rfl | rfl | rfl | rfl | rfl | rfl | rfl | rfl | rfl | rfl | rfl | rfl | rfl | rfl | rfl | rfl | rfl | rfl | rfl | rfl
  · exact run0 a b c d e f g
  · exact run1 a b c d e f g
  · exact run2 a b c d e f g
  · exact run3 a b c d e f g
  · exact run4 a b c d e f g
  · exact run5 a b c d e f g
  · exact run6 a b c d e f g
  · exact run7 a b c d e f g
  · exact run8 a b c d e f g
  · exact run9 a b c d e f g
  · exact run10 a b c d e f g
  · exact run11 a b c d e f g
  · exact run12 a b c d e f g
  · exact run13 a b c d e f g
  · exact run14 a b c d e f g
  · exact run15 a b c d e f g
  · exact run16 a b c d e f g
  · exact run17 a b c d e f g
  · exact run18 a b c d e f g
  · exact run19 a b c d e f g
  · exact run20 a b c d e f g
  · exact run21 a b c d e f g
  · exact run22 a b c d e f g
  · exact run23 a b c d e f g
  · exact run24 a b c d e f g
  · exact run25 a b c d e f g
  · exact run26 a b c d e f g
  · exact run27 a b c d e f g
  · exact run28 a b c d e f g
  · exact run29 a b c d e f g
theorem ne_lv {x : T} {l : List Int} (hx : BytesT x l) : ∃ σ', LV S 9 [.t x] [] = some (.t (B true), σ') := by
  refine LV_bodyE (A := A9) rfl Tryz.func9 rfl ?_
  repeat apply W_seq
  refine W_region (by simp; first | exact ⟨rfl, rfl⟩ | exact rfl) ?_
  try simp only [thenQ, blockQ, Ann.kill, List.find?_nil]
  repeat apply W_seq
  refine W_region (by simp [big_ld hx]; first | exact ⟨rfl, rfl⟩ | exact rfl) ?_
  try simp only [thenQ, blockQ, Ann.kill, List.find?_nil]
  by_cases h1 : (1048576 : Int) < l.length
  · repeat apply W_seq
    refine W_cond (t := true) (by simp [h1]) ?_
    simp only [if_true, if_false, Bool.false_eq_true]
    repeat apply W_seq
    refine W_region (by simp; first | exact ⟨rfl, rfl⟩ | exact rfl) ?_
    try simp only [thenQ, blockQ, Ann.kill, List.find?_nil]
    refine W_ret ?_
    try simp only [thenQ, blockQ]
    simp [Tryz.f9]
  repeat apply W_seq
  refine W_cond (t := false) (by simp [h1]) ?_
  simp only [if_true, if_false, Bool.false_eq_true]
  refine W_skip ?_
  try simp only [thenQ, blockQ, Ann.kill, List.find?_nil]
  obtain ⟨p, pl, pb, hp⟩ := places_ld hx (by omega)
  obtain ⟨q0, g0, a0', b0⟩ := get_place pl pb 0 (by decide)
  obtain ⟨n, hn, en⟩ := tmod_nat a0' 30 (by decide)
  have en : q0.tmod 30 = (n : Int) := en
  repeat apply W_seq
  refine W_region (by simp [hp, g0, en]; first | exact ⟨rfl, rfl⟩ | exact rfl) ?_
  try simp only [thenQ, blockQ, Ann.kill, List.find?_nil]
  exact ftail_W tab_ok 100000 rfl (fs := ⟨0, .e⟩) Sto.nil (run n hn _ _ _ _ _ _ _)
end TzNe
end X
