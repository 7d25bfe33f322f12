/- A part of the proof. No statement of the claim is in it. -/
import Derived.Test.YthfjcnjdcljhmaaGreatDoorTzDraw
import Derived.Test.YthfjcnjdcljhmaaGreatDoorTzEqR
open Go Go.V Go.Proofs
namespace X
set_option maxRecDepth 100000
set_option maxHeartbeats 4000000
set_option linter.unusedSimpArgs false
set_option linter.unusedVariables false
@[simp] theorem bytes_mk (a : Array UInt8) : V.bytes ⟨a⟩ = a.toList.map UInt8.toNat := rfl
attribute [simp] eqOp

theorem big_ld {x : T} {l : List Int} (hx : BytesT x l) (σ : Store) : LD S 15 [.t x] σ = some (.t (B (decide ((1048576 : Int) < l.length))), σ) := by
  refine LD_pure (A := A15) (v := .t (B (decide ((1048576 : Int) < l.length)))) (σ0 := []) rfl rfl rfl ?_ rfl σ
  rcases hx with ⟨rfl, rfl⟩ | rfl
  · refine LV_body (A := A15) rfl Tryz.func15 rfl ?_
    repeat apply W_seq
    refine W_region (by simp; first | exact ⟨rfl, rfl⟩ | exact rfl) ?_
    try simp only [thenQ, blockQ, Ann.kill, List.find?_nil]
    repeat apply W_seq
    refine W_region (by simp; first | exact ⟨rfl, rfl⟩ | exact rfl) ?_
    try simp only [thenQ, blockQ, Ann.kill, List.find?_nil]
    refine W_ret ?_
    try simp only [thenQ, blockQ]
    simp [Tryz.f15]
  · refine LV_body (A := A15) rfl Tryz.func15 rfl ?_
    repeat apply W_seq
    refine W_region (by simp; first | exact ⟨rfl, rfl⟩ | exact rfl) ?_
    try simp only [thenQ, blockQ, Ann.kill, List.find?_nil]
    repeat apply W_seq
    refine W_region (by simp; first | exact ⟨rfl, rfl⟩ | exact rfl) ?_
    try simp only [thenQ, blockQ, Ann.kill, List.find?_nil]
    refine W_ret ?_
    try simp only [thenQ, blockQ]
    simp [Tryz.f15]

theorem run_ld {f : FuncId} {x : FFn} (hx : Entry ixf S x) (hf : x.tag = some f) {A : Ann} (hA : S.ann f = some A) (hp : A.isPure = true) {ts : List T} {r : T} (h : frunX tab 100000 x (ts.map V.t) = some r) (σ : Store) : LD S f (ts.map V.t) σ = some (.t r, σ) :=
  frunX_ld tab_ok hx hf hA hp h σ

theorem eqPlain_ld (σ : Store) : LD S 17 [.t (.str [83, 32, 45, 62, 32, 34, 97, 34, 32, 83, 32, 34, 98, 34, 32, 124, 32, 59])] σ = some (.t (.agg [gEq]), σ) :=
  run_ld e17 rfl (A := A17) rfl rfl (ts := [_]) eqPlain σ
theorem lt7 {n : Nat} (h : n < 7) : n = 0 ∨ n = 1 ∨ n = 2 ∨ n = 3 ∨ n = 4 ∨ n = 5 ∨ n = 6 := by omega
theorem eqRowa_ld (n : Nat) (h : n < 7) (σ : Store) : LD S 19 [.t (I n), .t (.str [97])] σ = some (.t (.str (List.replicate n 97)), σ) := by
  rcases lt7 h with rfl | rfl | rfl | rfl | rfl | rfl | rfl
  · exact run_ld e19 rfl (A := A19) rfl rfl (ts := [_, _]) eqRowa0 σ
  · exact run_ld e19 rfl (A := A19) rfl rfl (ts := [_, _]) eqRowa1 σ
  · exact run_ld e19 rfl (A := A19) rfl rfl (ts := [_, _]) eqRowa2 σ
  · exact run_ld e19 rfl (A := A19) rfl rfl (ts := [_, _]) eqRowa3 σ
  · exact run_ld e19 rfl (A := A19) rfl rfl (ts := [_, _]) eqRowa4 σ
  · exact run_ld e19 rfl (A := A19) rfl rfl (ts := [_, _]) eqRowa5 σ
  · exact run_ld e19 rfl (A := A19) rfl rfl (ts := [_, _]) eqRowa6 σ
theorem eqRowb_ld (n : Nat) (h : n < 7) (σ : Store) : LD S 19 [.t (I n), .t (.str [98])] σ = some (.t (.str (List.replicate n 98)), σ) := by
  rcases lt7 h with rfl | rfl | rfl | rfl | rfl | rfl | rfl
  · exact run_ld e19 rfl (A := A19) rfl rfl (ts := [_, _]) eqRowb0 σ
  · exact run_ld e19 rfl (A := A19) rfl rfl (ts := [_, _]) eqRowb1 σ
  · exact run_ld e19 rfl (A := A19) rfl rfl (ts := [_, _]) eqRowb2 σ
  · exact run_ld e19 rfl (A := A19) rfl rfl (ts := [_, _]) eqRowb3 σ
  · exact run_ld e19 rfl (A := A19) rfl rfl (ts := [_, _]) eqRowb4 σ
  · exact run_ld e19 rfl (A := A19) rfl rfl (ts := [_, _]) eqRowb5 σ
  · exact run_ld e19 rfl (A := A19) rfl rfl (ts := [_, _]) eqRowb6 σ
theorem eqAcc_ld (n m : Nat) (h : n < 7) (h' : m < 7) (σ : Store) : LD S 18 [.t (.agg [gEq]), .t (.str (List.replicate n 97 ++ List.replicate m 98))] σ = some (.t (B (Nat.beq n m)), σ) := by
  rcases lt7 h with rfl | rfl | rfl | rfl | rfl | rfl | rfl <;> rcases lt7 h' with rfl | rfl | rfl | rfl | rfl | rfl | rfl
  · exact run_ld e18 rfl (A := A18) rfl rfl (ts := [_, _]) eqAcc0_0 σ
  · exact run_ld e18 rfl (A := A18) rfl rfl (ts := [_, _]) eqAcc0_1 σ
  · exact run_ld e18 rfl (A := A18) rfl rfl (ts := [_, _]) eqAcc0_2 σ
  · exact run_ld e18 rfl (A := A18) rfl rfl (ts := [_, _]) eqAcc0_3 σ
  · exact run_ld e18 rfl (A := A18) rfl rfl (ts := [_, _]) eqAcc0_4 σ
  · exact run_ld e18 rfl (A := A18) rfl rfl (ts := [_, _]) eqAcc0_5 σ
  · exact run_ld e18 rfl (A := A18) rfl rfl (ts := [_, _]) eqAcc0_6 σ
  · exact run_ld e18 rfl (A := A18) rfl rfl (ts := [_, _]) eqAcc1_0 σ
  · exact run_ld e18 rfl (A := A18) rfl rfl (ts := [_, _]) eqAcc1_1 σ
  · exact run_ld e18 rfl (A := A18) rfl rfl (ts := [_, _]) eqAcc1_2 σ
  · exact run_ld e18 rfl (A := A18) rfl rfl (ts := [_, _]) eqAcc1_3 σ
  · exact run_ld e18 rfl (A := A18) rfl rfl (ts := [_, _]) eqAcc1_4 σ
  · exact run_ld e18 rfl (A := A18) rfl rfl (ts := [_, _]) eqAcc1_5 σ
  · exact run_ld e18 rfl (A := A18) rfl rfl (ts := [_, _]) eqAcc1_6 σ
  · exact run_ld e18 rfl (A := A18) rfl rfl (ts := [_, _]) eqAcc2_0 σ
  · exact run_ld e18 rfl (A := A18) rfl rfl (ts := [_, _]) eqAcc2_1 σ
  · exact run_ld e18 rfl (A := A18) rfl rfl (ts := [_, _]) eqAcc2_2 σ
  · exact run_ld e18 rfl (A := A18) rfl rfl (ts := [_, _]) eqAcc2_3 σ
  · exact run_ld e18 rfl (A := A18) rfl rfl (ts := [_, _]) eqAcc2_4 σ
  · exact run_ld e18 rfl (A := A18) rfl rfl (ts := [_, _]) eqAcc2_5 σ
  · exact run_ld e18 rfl (A := A18) rfl rfl (ts := [_, _]) eqAcc2_6 σ
  · exact run_ld e18 rfl (A := A18) rfl rfl (ts := [_, _]) eqAcc3_0 σ
  · exact run_ld e18 rfl (A := A18) rfl rfl (ts := [_, _]) eqAcc3_1 σ
  · exact run_ld e18 rfl (A := A18) rfl rfl (ts := [_, _]) eqAcc3_2 σ
  · exact run_ld e18 rfl (A := A18) rfl rfl (ts := [_, _]) eqAcc3_3 σ
  · exact run_ld e18 rfl (A := A18) rfl rfl (ts := [_, _]) eqAcc3_4 σ
  · exact run_ld e18 rfl (A := A18) rfl rfl (ts := [_, _]) eqAcc3_5 σ
  · exact run_ld e18 rfl (A := A18) rfl rfl (ts := [_, _]) eqAcc3_6 σ
  · exact run_ld e18 rfl (A := A18) rfl rfl (ts := [_, _]) eqAcc4_0 σ
  · exact run_ld e18 rfl (A := A18) rfl rfl (ts := [_, _]) eqAcc4_1 σ
  · exact run_ld e18 rfl (A := A18) rfl rfl (ts := [_, _]) eqAcc4_2 σ
  · exact run_ld e18 rfl (A := A18) rfl rfl (ts := [_, _]) eqAcc4_3 σ
  · exact run_ld e18 rfl (A := A18) rfl rfl (ts := [_, _]) eqAcc4_4 σ
  · exact run_ld e18 rfl (A := A18) rfl rfl (ts := [_, _]) eqAcc4_5 σ
  · exact run_ld e18 rfl (A := A18) rfl rfl (ts := [_, _]) eqAcc4_6 σ
  · exact run_ld e18 rfl (A := A18) rfl rfl (ts := [_, _]) eqAcc5_0 σ
  · exact run_ld e18 rfl (A := A18) rfl rfl (ts := [_, _]) eqAcc5_1 σ
  · exact run_ld e18 rfl (A := A18) rfl rfl (ts := [_, _]) eqAcc5_2 σ
  · exact run_ld e18 rfl (A := A18) rfl rfl (ts := [_, _]) eqAcc5_3 σ
  · exact run_ld e18 rfl (A := A18) rfl rfl (ts := [_, _]) eqAcc5_4 σ
  · exact run_ld e18 rfl (A := A18) rfl rfl (ts := [_, _]) eqAcc5_5 σ
  · exact run_ld e18 rfl (A := A18) rfl rfl (ts := [_, _]) eqAcc5_6 σ
  · exact run_ld e18 rfl (A := A18) rfl rfl (ts := [_, _]) eqAcc6_0 σ
  · exact run_ld e18 rfl (A := A18) rfl rfl (ts := [_, _]) eqAcc6_1 σ
  · exact run_ld e18 rfl (A := A18) rfl rfl (ts := [_, _]) eqAcc6_2 σ
  · exact run_ld e18 rfl (A := A18) rfl rfl (ts := [_, _]) eqAcc6_3 σ
  · exact run_ld e18 rfl (A := A18) rfl rfl (ts := [_, _]) eqAcc6_4 σ
  · exact run_ld e18 rfl (A := A18) rfl rfl (ts := [_, _]) eqAcc6_5 σ
  · exact run_ld e18 rfl (A := A18) rfl rfl (ts := [_, _]) eqAcc6_6 σ
theorem eqAcce_ld (σ : Store) : LD S 18 [.t (.agg [gEq]), .t (.str [])] σ = some (.t (B true), σ) := run_ld e18 rfl (A := A18) rfl rfl (ts := [_, _]) eqAcc_e σ
theorem eqAccba_ld (σ : Store) : LD S 18 [.t (.agg [gEq]), .t (.str [98, 97])] σ = some (.t (B false), σ) := run_ld e18 rfl (A := A18) rfl rfl (ts := [_, _]) eqAcc_ba σ

theorem get_place {p : List Int} (hl : p.length = 12) (hb : ∀ q ∈ p, 0 ≤ q ∧ q < 10000) (i : Nat) (hi : i < 12) : ∃ q, p[i]? = some q ∧ 0 ≤ q ∧ q < 10000 := by
  have : i < p.length := by omega
  exact ⟨p[i], List.getElem?_eq_getElem this, hb _ (List.getElem_mem this)⟩
theorem tmod_nat {q : Int} (h : 0 ≤ q) (k : Nat) (hk : 0 < k) : ∃ n : Nat, n < k ∧ q.tmod k = n := by
  refine ⟨(q % k).toNat, ?_, ?_⟩
  · have := Int.emod_lt_of_pos q (show (0 : Int) < k by omega)
    have := Int.emod_nonneg q (show (k : Int) ≠ 0 by omega)
    omega
  · rw [Int.tmod_eq_emod_of_nonneg h]
    have := Int.emod_nonneg q (show (k : Int) ≠ 0 by omega)
    omega

theorem eq_lv {x : T} {l : List Int} (hx : BytesT x l) : ∃ σ', LV S 4 [.t x] [] = some (.t (B true), σ') := by
  refine LV_bodyE (A := A4) rfl Tryz.func4 rfl ?_
  repeat apply W_seq
  refine W_region (by simp; first | exact ⟨rfl, rfl⟩ | exact rfl) ?_
  try simp only [thenQ, blockQ, Ann.kill, List.find?_nil]
  repeat apply W_seq
  refine W_region (by simp [big_ld hx]; first | exact ⟨rfl, rfl⟩ | exact rfl) ?_
  try simp only [thenQ, blockQ, Ann.kill, List.find?_nil]
  by_cases h1 : (1048576 : Int) < l.length
  · repeat apply W_seq
    refine W_cond (t := true) (by simp [h1]) ?_
    simp only [if_true, if_false, Bool.false_eq_true]
    repeat apply W_seq
    refine W_region (by simp; first | exact ⟨rfl, rfl⟩ | exact rfl) ?_
    try simp only [thenQ, blockQ, Ann.kill, List.find?_nil]
    refine W_ret ?_
    try simp only [thenQ, blockQ]
    simp [Tryz.f4]
  repeat apply W_seq
  refine W_cond (t := false) (by simp [h1]) ?_
  simp only [if_true, if_false, Bool.false_eq_true]
  refine W_skip ?_
  try simp only [thenQ, blockQ, Ann.kill, List.find?_nil]
  obtain ⟨p, pl, pb, hp⟩ := places_ld hx (by omega)
  obtain ⟨q0, g0, a0', b0⟩ := get_place pl pb 0 (by decide)
  obtain ⟨q1, g1, a1', b1⟩ := get_place pl pb 1 (by decide)
  obtain ⟨n, hn, en⟩ := tmod_nat a0' 7 (by decide)
  obtain ⟨m, hm, em⟩ := tmod_nat a1' 7 (by decide)
  have en : q0.tmod 7 = (n : Int) := en
  have em : q1.tmod 7 = (m : Int) := em
  repeat apply W_seq
  refine W_region (by simp [hp]; first | exact ⟨rfl, rfl⟩ | exact rfl) ?_
  try simp only [thenQ, blockQ, Ann.kill, List.find?_nil]
  repeat apply W_seq
  refine W_region (by simp [eqPlain_ld]; first | exact ⟨rfl, rfl⟩ | exact rfl) ?_
  try simp only [thenQ, blockQ, Ann.kill, List.find?_nil]
  repeat apply W_seq
  refine W_region (by simp [g0, en]; first | exact ⟨rfl, rfl⟩ | exact rfl) ?_
  try simp only [thenQ, blockQ, Ann.kill, List.find?_nil]
  repeat apply W_seq
  refine W_region (by simp [g1, em]; first | exact ⟨rfl, rfl⟩ | exact rfl) ?_
  try simp only [thenQ, blockQ, Ann.kill, List.find?_nil]
  repeat apply W_seq
  refine W_region (by simp [eqRowa_ld n hn, eqRowb_ld m hm, show n + m ≤ 9223372036854775807 by omega]; first | exact ⟨rfl, rfl⟩ | exact rfl) ?_
  try simp only [thenQ, blockQ, Ann.kill, List.find?_nil]
  by_cases hnm : n = m
  · subst hnm
    repeat apply W_seq
    refine W_region (by simp [eqAcc_ld n n hn hn, eqAcce_ld, eqAccba_ld, IntWalk.i64_in ((n : Int) + n) (by omega), show (n : Int) + n ≤ 12 by omega]; first | exact ⟨rfl, rfl⟩ | exact rfl) ?_
    try simp only [thenQ, blockQ, Ann.kill, List.find?_nil]
    refine W_ret ?_
    try simp only [thenQ, blockQ]
    simp [Tryz.f4]
  · have hb : Nat.beq n m = false := by
      cases e : Nat.beq n m with
      | false => rfl
      | true => exact absurd (Nat.eq_of_beq_eq_true e) hnm
    have hnm' : ((n : Int) == (m : Int)) = false := by
      cases e : ((n : Int) == (m : Int)) with
      | false => rfl
      | true => exact absurd (by have := eq_of_beq e; omega) hnm
    repeat apply W_seq
    refine W_region (by simp [eqAcc_ld n m hn hm, hb, eqAcce_ld, eqAccba_ld, hnm, hnm']; first | exact ⟨rfl, rfl⟩ | exact rfl) ?_
    try simp only [thenQ, blockQ, Ann.kill, List.find?_nil]
    refine W_ret ?_
    try simp only [thenQ, blockQ]
    simp [Tryz.f4]
end X
