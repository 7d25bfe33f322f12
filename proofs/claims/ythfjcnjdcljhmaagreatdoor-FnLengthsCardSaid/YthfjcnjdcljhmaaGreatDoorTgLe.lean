/- A part of the proof. No statement of the claim is in it. -/
import Derived.Test.YthfjcnjdcljhmaaGreatDoorTgLeN0
import Derived.Test.YthfjcnjdcljhmaaGreatDoorTgLeN1
import Derived.Test.YthfjcnjdcljhmaaGreatDoorTgLeN2
import Derived.Test.YthfjcnjdcljhmaaGreatDoorTgLeN3
import Derived.Test.YthfjcnjdcljhmaaGreatDoorTgLeN4
import Derived.Test.YthfjcnjdcljhmaaGreatDoorTgLeN5
import Derived.Test.YthfjcnjdcljhmaaGreatDoorTgLeN6
import Derived.Test.YthfjcnjdcljhmaaGreatDoorTgLeN7
import Derived.Test.YthfjcnjdcljhmaaGreatDoorTgLeN8
import Derived.Test.YthfjcnjdcljhmaaGreatDoorTgLeN9
open Go Go.V Go.Proofs
namespace X
set_option maxRecDepth 100000
set_option maxHeartbeats 4000000
set_option linter.unusedSimpArgs false
set_option linter.unusedVariables false
namespace TzLe
theorem acc_ld (n m : Nat) (hn : n < 10) (hm : m < 10) (σ : Store) : LD S 18 [.t (.agg [gL]), .t (.str ((48 + n) :: 58 :: List.replicate m 97))] σ = some (.t (B (Nat.beq n m)), σ) := by
  rcases lt10 hn with rfl | rfl | rfl | rfl | rfl | rfl | rfl | rfl | rfl | rfl
  · exact acc0 m hm σ
  · exact acc1 m hm σ
  · exact acc2 m hm σ
  · exact acc3 m hm σ
  · exact acc4 m hm σ
  · exact acc5 m hm σ
  · exact acc6 m hm σ
  · exact acc7 m hm σ
  · exact acc8 m hm σ
  · exact acc9 m hm σ
theorem ei_ld (n m c : Nat) (hn : n < 10) (hm : m < 10) (hc : c < 4) (σ : Store) : LD S 23 [.t (.agg [gL]), .t (.str ((48 + n) :: 58 :: List.replicate m 97)), .t (.str [66]), .t (.list [.agg [I c]]), .t (I 2)] σ = some (.t (eR m c), σ) := by
  rcases lt10 hn with rfl | rfl | rfl | rfl | rfl | rfl | rfl | rfl | rfl | rfl
  · exact ei0 m c hm hc σ
  · exact ei1 m c hm hc σ
  · exact ei2 m c hm hc σ
  · exact ei3 m c hm hc σ
  · exact ei4 m c hm hc σ
  · exact ei5 m c hm hc σ
  · exact ei6 m c hm hc σ
  · exact ei7 m c hm hc σ
  · exact ei8 m c hm hc σ
  · exact ei9 m c hm hc σ
theorem es_ld (n m c : Nat) (hn : n < 10) (hm : m < 10) (hc : c < 4) (σ : Store) : LD S 36 [.t (.agg [gL]), .t (.str ((48 + n) :: 58 :: List.replicate m 97)), .t (.str [66]), .t (.list [.agg [I c]]), .t (I 2)] σ = some (.t (eR m c), σ) := by
  rcases lt10 hn with rfl | rfl | rfl | rfl | rfl | rfl | rfl | rfl | rfl | rfl
  · exact es0 m c hm hc σ
  · exact es1 m c hm hc σ
  · exact es2 m c hm hc σ
  · exact es3 m c hm hc σ
  · exact es4 m c hm hc σ
  · exact es5 m c hm hc σ
  · exact es6 m c hm hc σ
  · exact es7 m c hm hc σ
  · exact es8 m c hm hc σ
  · exact es9 m c hm hc σ
@[simp] theorem lit1 (c : Int) : sliceCells S.ty 24 1 [(0, .t (I c))] = some (1, [.t (I c)]) := by kernel_rfl
theorem le_lv {x : T} {l : List Int} (hx : BytesT x l) : ∃ σ', LV S 12 [.t x] [] = some (.t (B true), σ') := by
  refine LV_bodyE (A := A12) rfl Tryz.func12 rfl ?_
  repeat apply W_seq
  refine W_region (by simp; first | exact ⟨rfl, rfl⟩ | exact rfl) ?_
  try simp only [thenQ, blockQ, Ann.kill, List.find?_nil]
  repeat apply W_seq
  refine W_region (by simp [big_ld hx]; first | exact ⟨rfl, rfl⟩ | exact rfl) ?_
  try simp only [thenQ, blockQ, Ann.kill, List.find?_nil]
  by_cases h1 : (1048576 : Int) < l.length
  · repeat apply W_seq
    refine W_cond (t := true) (by simp [h1]) ?_
    simp only [if_true, if_false, Bool.false_eq_true]
    repeat apply W_seq
    refine W_region (by simp; first | exact ⟨rfl, rfl⟩ | exact rfl) ?_
    try simp only [thenQ, blockQ, Ann.kill, List.find?_nil]
    refine W_ret ?_
    try simp only [thenQ, blockQ]
    simp [Tryz.f12]
  repeat apply W_seq
  refine W_cond (t := false) (by simp [h1]) ?_
  simp only [if_true, if_false, Bool.false_eq_true]
  refine W_skip ?_
  try simp only [thenQ, blockQ, Ann.kill, List.find?_nil]
  obtain ⟨p, pl, pb, hp⟩ := places_ld hx (by omega)
  obtain ⟨q0, g0, a0', b0⟩ := get_place pl pb 0 (by decide)
  obtain ⟨q1, g1, a1', b1⟩ := get_place pl pb 1 (by decide)
  obtain ⟨q2, g2, a2', b2⟩ := get_place pl pb 2 (by decide)
  obtain ⟨n, hn, en⟩ := tmod_nat a0' 10 (by decide)
  obtain ⟨m, hm, em⟩ := tmod_nat a1' 10 (by decide)
  obtain ⟨c, hc, ec⟩ := tmod_nat a2' 4 (by decide)
  have en : q0.tmod 10 = (n : Int) := en
  have em : q1.tmod 10 = (m : Int) := em
  have ec : q2.tmod 4 = (c : Int) := ec
  repeat apply W_seq
  refine W_region (by simp [hp]; first | exact ⟨rfl, rfl⟩ | exact rfl) ?_
  try simp only [thenQ, blockQ, Ann.kill, List.find?_nil]
  repeat apply W_seq
  refine W_region (by simp [plain_ld]; first | exact ⟨rfl, rfl⟩ | exact rfl) ?_
  try simp only [thenQ, blockQ, Ann.kill, List.find?_nil]
  repeat apply W_seq
  refine W_region (by simp [g0, en]; first | exact ⟨rfl, rfl⟩ | exact rfl) ?_
  try simp only [thenQ, blockQ, Ann.kill, List.find?_nil]
  repeat apply W_seq
  refine W_region (by simp [g1, em]; first | exact ⟨rfl, rfl⟩ | exact rfl) ?_
  try simp only [thenQ, blockQ, Ann.kill, List.find?_nil]
  repeat apply W_seq
  refine W_region (by simp [dec_ld n hn, rowa_ld m hm, show 1 + 1 + m ≤ 9223372036854775807 by omega, show m + 1 + 1 ≤ 9223372036854775807 by omega, show 2 + m ≤ 9223372036854775807 by omega]; first | exact ⟨rfl, rfl⟩ | exact rfl) ?_
  try simp only [thenQ, blockQ, Ann.kill, List.find?_nil]
  by_cases hnm : n = m
  · subst hnm
    repeat apply W_seq
    refine W_region (by simp [acc_ld n n hn hn, rowb_ld n hn, accb_ld n hn, g2, ec, chunk, ei_ld n n c hn hn hc, es_ld n n c hn hn hc, same_ld n c hn hc]; first | exact ⟨rfl, rfl⟩ | exact rfl) ?_
    try simp only [thenQ, blockQ, Ann.kill, List.find?_nil]
    refine W_ret ?_
    try simp only [thenQ, blockQ]
    simp [Tryz.f12]
  · have hb : Nat.beq n m = false := by
      cases e : Nat.beq n m with
      | false => rfl
      | true => exact absurd (Nat.eq_of_beq_eq_true e) hnm
    have hnm' : ((n : Int) == (m : Int)) = false := by
      cases e : ((n : Int) == (m : Int)) with
      | false => rfl
      | true => exact absurd (by have := eq_of_beq e; omega) hnm
    repeat apply W_seq
    refine W_region (by simp [acc_ld n m hn hm, hb, hnm, hnm', rowb_ld m hm, accb_ld m hm, g2, ec, chunk, ei_ld n m c hn hm hc, es_ld n m c hn hm hc, same_ld m c hm hc]; first | exact ⟨rfl, rfl⟩ | exact rfl) ?_
    try simp only [thenQ, blockQ, Ann.kill, List.find?_nil]
    refine W_ret ?_
    try simp only [thenQ, blockQ]
    simp [Tryz.f12]
end TzLe
end X
