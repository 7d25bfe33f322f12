/- A part of the proof. No statement of the claim is in it. -/
import Derived.Test.YthfjcnjdcljhmaaGreatDoorTzGrR
open Go Go.V Go.Proofs
namespace X
set_option maxRecDepth 100000
set_option maxHeartbeats 4000000
set_option linter.unusedSimpArgs false
set_option linter.unusedVariables false
namespace TzGr
theorem lt4 {n : Nat} (h : n < 4) : n = 0 ∨ n = 1 ∨ n = 2 ∨ n = 3 := by omega
theorem lt3 {n : Nat} (h : n < 3) : n = 0 ∨ n = 1 ∨ n = 2 := by omega
@[simp] theorem litA : sliceCells S.ty 30 4 [(0, .t (.str [97])), (1, .t (.str [98, 98])), (2, .t (.str [])), (3, .t (.str [99]))] = some (1, [.t (.str [97]), .t (.str [98, 98]), .t (.str []), .t (.str [99])]) := by kernel_rfl
@[simp] theorem litB : sliceCells S.ty 30 3 [(0, .t (.str [99])), (1, .t (.str [97])), (2, .t (.str [98]))] = some (1, [.t (.str [99]), .t (.str [97]), .t (.str [98])]) := by kernel_rfl
theorem gr_lv {x : T} {l : List Int} (hx : BytesT x l) : ∃ σ', LV S 3 [.t x] [] = some (.t (B true), σ') := by
  refine LV_bodyE (A := A3) rfl Tryz.func3 rfl ?_
  repeat apply W_seq
  refine W_region (by simp; first | exact ⟨rfl, rfl⟩ | exact rfl) ?_
  try simp only [thenQ, blockQ, Ann.kill, List.find?_nil]
  repeat apply W_seq
  refine W_region (by simp [big_ld hx]; first | exact ⟨rfl, rfl⟩ | exact rfl) ?_
  try simp only [thenQ, blockQ, Ann.kill, List.find?_nil]
  by_cases h1 : (1048576 : Int) < l.length
  · repeat apply W_seq
    refine W_cond (t := true) (by simp [h1]) ?_
    simp only [if_true, if_false, Bool.false_eq_true]
    repeat apply W_seq
    refine W_region (by simp; first | exact ⟨rfl, rfl⟩ | exact rfl) ?_
    try simp only [thenQ, blockQ, Ann.kill, List.find?_nil]
    refine W_ret ?_
    try simp only [thenQ, blockQ]
    simp [Tryz.f3]
  repeat apply W_seq
  refine W_cond (t := false) (by simp [h1]) ?_
  simp only [if_true, if_false, Bool.false_eq_true]
  refine W_skip ?_
  try simp only [thenQ, blockQ, Ann.kill, List.find?_nil]
  obtain ⟨p, pl, pb, hp⟩ := places_ld hx (by omega)
  obtain ⟨q0, g0, a0', b0⟩ := get_place pl pb 0 (by decide)
  obtain ⟨q1, g1, a1', b1⟩ := get_place pl pb 1 (by decide)
  obtain ⟨n, hn, en⟩ := tmod_nat a0' 4 (by decide)
  obtain ⟨m, hm, em⟩ := tmod_nat a1' 3 (by decide)
  repeat apply W_seq
  refine W_region (by simp [hp]; first | exact ⟨rfl, rfl⟩ | exact rfl) ?_
  try simp only [thenQ, blockQ, Ann.kill, List.find?_nil]
  repeat apply W_seq
  refine W_region (by simp [plain_ld]; first | exact ⟨rfl, rfl⟩ | exact rfl) ?_
  try simp only [thenQ, blockQ, Ann.kill, List.find?_nil]
  rcases lt4 hn with rfl | rfl | rfl | rfl <;> rcases lt3 hm with rfl | rfl | rfl
  · have en : q0.tmod 4 = 0 := en
    have em : q1.tmod 3 = 0 := em
    repeat apply W_seq
    refine W_region (by simp [g0, en]; first | exact ⟨rfl, rfl⟩ | exact rfl) ?_
    try simp only [thenQ, blockQ, Ann.kill, List.find?_nil]
    repeat apply W_seq
    refine W_region (by simp [g1, em]; first | exact ⟨rfl, rfl⟩ | exact rfl) ?_
    try simp only [thenQ, blockQ, Ann.kill, List.find?_nil]
    repeat apply W_seq
    refine W_region (by simp [g0, g1, en, em]; first | exact ⟨rfl, rfl⟩ | exact rfl) ?_
    try simp only [thenQ, blockQ, Ann.kill, List.find?_nil]
    repeat apply W_seq
    refine W_region (by simp [acc0, acc1, acc2]; first | exact ⟨rfl, rfl⟩ | exact rfl) ?_
    try simp only [thenQ, blockQ, Ann.kill, List.find?_nil]
    refine W_ret ?_
    try simp only [thenQ, blockQ]
    simp [Tryz.f3]
  · have en : q0.tmod 4 = 0 := en
    have em : q1.tmod 3 = 1 := em
    repeat apply W_seq
    refine W_region (by simp [g0, en]; first | exact ⟨rfl, rfl⟩ | exact rfl) ?_
    try simp only [thenQ, blockQ, Ann.kill, List.find?_nil]
    repeat apply W_seq
    refine W_region (by simp [g1, em]; first | exact ⟨rfl, rfl⟩ | exact rfl) ?_
    try simp only [thenQ, blockQ, Ann.kill, List.find?_nil]
    repeat apply W_seq
    refine W_region (by simp [g0, g1, en, em]; first | exact ⟨rfl, rfl⟩ | exact rfl) ?_
    try simp only [thenQ, blockQ, Ann.kill, List.find?_nil]
    repeat apply W_seq
    refine W_region (by simp [acc2, acc3, acc2]; first | exact ⟨rfl, rfl⟩ | exact rfl) ?_
    try simp only [thenQ, blockQ, Ann.kill, List.find?_nil]
    refine W_ret ?_
    try simp only [thenQ, blockQ]
    simp [Tryz.f3]
  · have en : q0.tmod 4 = 0 := en
    have em : q1.tmod 3 = 2 := em
    repeat apply W_seq
    refine W_region (by simp [g0, en]; first | exact ⟨rfl, rfl⟩ | exact rfl) ?_
    try simp only [thenQ, blockQ, Ann.kill, List.find?_nil]
    repeat apply W_seq
    refine W_region (by simp [g1, em]; first | exact ⟨rfl, rfl⟩ | exact rfl) ?_
    try simp only [thenQ, blockQ, Ann.kill, List.find?_nil]
    repeat apply W_seq
    refine W_region (by simp [g0, g1, en, em]; first | exact ⟨rfl, rfl⟩ | exact rfl) ?_
    try simp only [thenQ, blockQ, Ann.kill, List.find?_nil]
    repeat apply W_seq
    refine W_region (by simp [acc4, acc5, acc2]; first | exact ⟨rfl, rfl⟩ | exact rfl) ?_
    try simp only [thenQ, blockQ, Ann.kill, List.find?_nil]
    refine W_ret ?_
    try simp only [thenQ, blockQ]
    simp [Tryz.f3]
  · have en : q0.tmod 4 = 1 := en
    have em : q1.tmod 3 = 0 := em
    repeat apply W_seq
    refine W_region (by simp [g0, en]; first | exact ⟨rfl, rfl⟩ | exact rfl) ?_
    try simp only [thenQ, blockQ, Ann.kill, List.find?_nil]
    repeat apply W_seq
    refine W_region (by simp [g1, em]; first | exact ⟨rfl, rfl⟩ | exact rfl) ?_
    try simp only [thenQ, blockQ, Ann.kill, List.find?_nil]
    repeat apply W_seq
    refine W_region (by simp [g0, g1, en, em]; first | exact ⟨rfl, rfl⟩ | exact rfl) ?_
    try simp only [thenQ, blockQ, Ann.kill, List.find?_nil]
    repeat apply W_seq
    refine W_region (by simp [acc6, acc7, acc2]; first | exact ⟨rfl, rfl⟩ | exact rfl) ?_
    try simp only [thenQ, blockQ, Ann.kill, List.find?_nil]
    refine W_ret ?_
    try simp only [thenQ, blockQ]
    simp [Tryz.f3]
  · have en : q0.tmod 4 = 1 := en
    have em : q1.tmod 3 = 1 := em
    repeat apply W_seq
    refine W_region (by simp [g0, en]; first | exact ⟨rfl, rfl⟩ | exact rfl) ?_
    try simp only [thenQ, blockQ, Ann.kill, List.find?_nil]
    repeat apply W_seq
    refine W_region (by simp [g1, em]; first | exact ⟨rfl, rfl⟩ | exact rfl) ?_
    try simp only [thenQ, blockQ, Ann.kill, List.find?_nil]
    repeat apply W_seq
    refine W_region (by simp [g0, g1, en, em]; first | exact ⟨rfl, rfl⟩ | exact rfl) ?_
    try simp only [thenQ, blockQ, Ann.kill, List.find?_nil]
    repeat apply W_seq
    refine W_region (by simp [acc8, acc9, acc2]; first | exact ⟨rfl, rfl⟩ | exact rfl) ?_
    try simp only [thenQ, blockQ, Ann.kill, List.find?_nil]
    refine W_ret ?_
    try simp only [thenQ, blockQ]
    simp [Tryz.f3]
  · have en : q0.tmod 4 = 1 := en
    have em : q1.tmod 3 = 2 := em
    repeat apply W_seq
    refine W_region (by simp [g0, en]; first | exact ⟨rfl, rfl⟩ | exact rfl) ?_
    try simp only [thenQ, blockQ, Ann.kill, List.find?_nil]
    repeat apply W_seq
    refine W_region (by simp [g1, em]; first | exact ⟨rfl, rfl⟩ | exact rfl) ?_
    try simp only [thenQ, blockQ, Ann.kill, List.find?_nil]
    repeat apply W_seq
    refine W_region (by simp [g0, g1, en, em]; first | exact ⟨rfl, rfl⟩ | exact rfl) ?_
    try simp only [thenQ, blockQ, Ann.kill, List.find?_nil]
    repeat apply W_seq
    refine W_region (by simp [acc10, acc11, acc2]; first | exact ⟨rfl, rfl⟩ | exact rfl) ?_
    try simp only [thenQ, blockQ, Ann.kill, List.find?_nil]
    refine W_ret ?_
    try simp only [thenQ, blockQ]
    simp [Tryz.f3]
  · have en : q0.tmod 4 = 2 := en
    have em : q1.tmod 3 = 0 := em
    repeat apply W_seq
    refine W_region (by simp [g0, en]; first | exact ⟨rfl, rfl⟩ | exact rfl) ?_
    try simp only [thenQ, blockQ, Ann.kill, List.find?_nil]
    repeat apply W_seq
    refine W_region (by simp [g1, em]; first | exact ⟨rfl, rfl⟩ | exact rfl) ?_
    try simp only [thenQ, blockQ, Ann.kill, List.find?_nil]
    repeat apply W_seq
    refine W_region (by simp [g0, g1, en, em]; first | exact ⟨rfl, rfl⟩ | exact rfl) ?_
    try simp only [thenQ, blockQ, Ann.kill, List.find?_nil]
    repeat apply W_seq
    refine W_region (by simp [acc12, acc13, acc2]; first | exact ⟨rfl, rfl⟩ | exact rfl) ?_
    try simp only [thenQ, blockQ, Ann.kill, List.find?_nil]
    refine W_ret ?_
    try simp only [thenQ, blockQ]
    simp [Tryz.f3]
  · have en : q0.tmod 4 = 2 := en
    have em : q1.tmod 3 = 1 := em
    repeat apply W_seq
    refine W_region (by simp [g0, en]; first | exact ⟨rfl, rfl⟩ | exact rfl) ?_
    try simp only [thenQ, blockQ, Ann.kill, List.find?_nil]
    repeat apply W_seq
    refine W_region (by simp [g1, em]; first | exact ⟨rfl, rfl⟩ | exact rfl) ?_
    try simp only [thenQ, blockQ, Ann.kill, List.find?_nil]
    repeat apply W_seq
    refine W_region (by simp [g0, g1, en, em]; first | exact ⟨rfl, rfl⟩ | exact rfl) ?_
    try simp only [thenQ, blockQ, Ann.kill, List.find?_nil]
    repeat apply W_seq
    refine W_region (by simp [acc14, acc15, acc2]; first | exact ⟨rfl, rfl⟩ | exact rfl) ?_
    try simp only [thenQ, blockQ, Ann.kill, List.find?_nil]
    refine W_ret ?_
    try simp only [thenQ, blockQ]
    simp [Tryz.f3]
  · have en : q0.tmod 4 = 2 := en
    have em : q1.tmod 3 = 2 := em
    repeat apply W_seq
    refine W_region (by simp [g0, en]; first | exact ⟨rfl, rfl⟩ | exact rfl) ?_
    try simp only [thenQ, blockQ, Ann.kill, List.find?_nil]
    repeat apply W_seq
    refine W_region (by simp [g1, em]; first | exact ⟨rfl, rfl⟩ | exact rfl) ?_
    try simp only [thenQ, blockQ, Ann.kill, List.find?_nil]
    repeat apply W_seq
    refine W_region (by simp [g0, g1, en, em]; first | exact ⟨rfl, rfl⟩ | exact rfl) ?_
    try simp only [thenQ, blockQ, Ann.kill, List.find?_nil]
    repeat apply W_seq
    refine W_region (by simp [acc16, acc17, acc2]; first | exact ⟨rfl, rfl⟩ | exact rfl) ?_
    try simp only [thenQ, blockQ, Ann.kill, List.find?_nil]
    refine W_ret ?_
    try simp only [thenQ, blockQ]
    simp [Tryz.f3]
  · have en : q0.tmod 4 = 3 := en
    have em : q1.tmod 3 = 0 := em
    repeat apply W_seq
    refine W_region (by simp [g0, en]; first | exact ⟨rfl, rfl⟩ | exact rfl) ?_
    try simp only [thenQ, blockQ, Ann.kill, List.find?_nil]
    repeat apply W_seq
    refine W_region (by simp [g1, em]; first | exact ⟨rfl, rfl⟩ | exact rfl) ?_
    try simp only [thenQ, blockQ, Ann.kill, List.find?_nil]
    repeat apply W_seq
    refine W_region (by simp [g0, g1, en, em]; first | exact ⟨rfl, rfl⟩ | exact rfl) ?_
    try simp only [thenQ, blockQ, Ann.kill, List.find?_nil]
    repeat apply W_seq
    refine W_region (by simp [acc18, acc19, acc2]; first | exact ⟨rfl, rfl⟩ | exact rfl) ?_
    try simp only [thenQ, blockQ, Ann.kill, List.find?_nil]
    refine W_ret ?_
    try simp only [thenQ, blockQ]
    simp [Tryz.f3]
  · have en : q0.tmod 4 = 3 := en
    have em : q1.tmod 3 = 1 := em
    repeat apply W_seq
    refine W_region (by simp [g0, en]; first | exact ⟨rfl, rfl⟩ | exact rfl) ?_
    try simp only [thenQ, blockQ, Ann.kill, List.find?_nil]
    repeat apply W_seq
    refine W_region (by simp [g1, em]; first | exact ⟨rfl, rfl⟩ | exact rfl) ?_
    try simp only [thenQ, blockQ, Ann.kill, List.find?_nil]
    repeat apply W_seq
    refine W_region (by simp [g0, g1, en, em]; first | exact ⟨rfl, rfl⟩ | exact rfl) ?_
    try simp only [thenQ, blockQ, Ann.kill, List.find?_nil]
    repeat apply W_seq
    refine W_region (by simp [acc20, acc21, acc2]; first | exact ⟨rfl, rfl⟩ | exact rfl) ?_
    try simp only [thenQ, blockQ, Ann.kill, List.find?_nil]
    refine W_ret ?_
    try simp only [thenQ, blockQ]
    simp [Tryz.f3]
  · have en : q0.tmod 4 = 3 := en
    have em : q1.tmod 3 = 2 := em
    repeat apply W_seq
    refine W_region (by simp [g0, en]; first | exact ⟨rfl, rfl⟩ | exact rfl) ?_
    try simp only [thenQ, blockQ, Ann.kill, List.find?_nil]
    repeat apply W_seq
    refine W_region (by simp [g1, em]; first | exact ⟨rfl, rfl⟩ | exact rfl) ?_
    try simp only [thenQ, blockQ, Ann.kill, List.find?_nil]
    repeat apply W_seq
    refine W_region (by simp [g0, g1, en, em]; first | exact ⟨rfl, rfl⟩ | exact rfl) ?_
    try simp only [thenQ, blockQ, Ann.kill, List.find?_nil]
    repeat apply W_seq
    refine W_region (by simp [acc22, acc23, acc2]; first | exact ⟨rfl, rfl⟩ | exact rfl) ?_
    try simp only [thenQ, blockQ, Ann.kill, List.find?_nil]
    refine W_ret ?_
    try simp only [thenQ, blockQ]
    simp [Tryz.f3]
end TzGr
end X
