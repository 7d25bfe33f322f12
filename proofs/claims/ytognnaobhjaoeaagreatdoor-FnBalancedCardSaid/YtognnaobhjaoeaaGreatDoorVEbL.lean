/- A part of the proof. No statement of the claim is in it. -/
import Derived.Test.YtognnaobhjaoeaaGreatDoorVEb0
import Derived.Test.YtognnaobhjaoeaaGreatDoorVEb6x0
import Derived.Test.YtognnaobhjaoeaaGreatDoorVEb7x0
import Derived.Test.YtognnaobhjaoeaaGreatDoorVEb8x0
import Derived.Test.YtognnaobhjaoeaaGreatDoorVEb8x1
import Derived.Test.YtognnaobhjaoeaaGreatDoorVEb9x0
import Derived.Test.YtognnaobhjaoeaaGreatDoorVEb9x1
import Derived.Test.YtognnaobhjaoeaaGreatDoorVEb9x2
import Derived.Test.YtognnaobhjaoeaaGreatDoorVEb9x3
import Derived.Test.YtognnaobhjaoeaaGreatDoorVEb10x0
import Derived.Test.YtognnaobhjaoeaaGreatDoorVEb10x1
import Derived.Test.YtognnaobhjaoeaaGreatDoorVEb10x2
import Derived.Test.YtognnaobhjaoeaaGreatDoorVEb10x3
import Derived.Test.YtognnaobhjaoeaaGreatDoorVEb10x4
import Derived.Test.YtognnaobhjaoeaaGreatDoorVEb10x5
import Derived.Test.YtognnaobhjaoeaaGreatDoorVEb10x6
import Derived.Test.YtognnaobhjaoeaaGreatDoorVEb10x7
open Go Go.V Go.Proofs
namespace X
set_option maxRecDepth 100000
set_option maxHeartbeats 4000000
set_option linter.unusedSimpArgs false
set_option linter.unusedVariables false
attribute [-simp] lenV idxV getElem?_pos
attribute [simp] List.getElem?_cons_zero List.getElem?_cons_succ eqOp
theorem lt5 {n : Nat} (h : n < 5) : n = 0 ∨ n = 1 ∨ n = 2 ∨ n = 3 ∨ n = 4 := by omega
theorem par {n : Nat} (h : n < 2) : n = 0 ∨ n = 1 := by omega
theorem cut_b_6 : ∀ p ∈ txt 40 41 1, (txt 40 41 5).all (fun r => ck_b (p ++ r)) = true := by
 intro p hp
 have e : txt 40 41 1 = [[40], [41]] := rfl
 rw [e] at hp
 simp only [List.mem_cons, List.not_mem_nil, or_false] at hp
 rcases hp with rfl | rfl
 ·exact c_b_6_0
 ·exact c_b_6_1
theorem cut_b_7 : ∀ p ∈ txt 40 41 2, (txt 40 41 5).all (fun r => ck_b (p ++ r)) = true := by
 intro p hp
 have e : txt 40 41 2 = [[40, 40], [41, 40], [40, 41], [41, 41]] := rfl
 rw [e] at hp
 simp only [List.mem_cons, List.not_mem_nil, or_false] at hp
 rcases hp with rfl | rfl | rfl | rfl
 ·exact c_b_7_0
 ·exact c_b_7_2
 ·exact c_b_7_1
 ·exact c_b_7_3
theorem cut_b_8 : ∀ p ∈ txt 40 41 3, (txt 40 41 5).all (fun r => ck_b (p ++ r)) = true := by
 intro p hp
 have e : txt 40 41 3 = [[40, 40, 40], [41, 40, 40], [40, 41, 40], [41, 41, 40], [40, 40, 41], [41, 40, 41], [40, 41, 41], [41, 41, 41]] := rfl
 rw [e] at hp
 simp only [List.mem_cons, List.not_mem_nil, or_false] at hp
 rcases hp with rfl | rfl | rfl | rfl | rfl | rfl | rfl | rfl
 ·exact c_b_8_0
 ·exact c_b_8_4
 ·exact c_b_8_2
 ·exact c_b_8_6
 ·exact c_b_8_1
 ·exact c_b_8_5
 ·exact c_b_8_3
 ·exact c_b_8_7
theorem cut_b_9 : ∀ p ∈ txt 40 41 4, (txt 40 41 5).all (fun r => ck_b (p ++ r)) = true := by
 intro p hp
 have e : txt 40 41 4 = [[40, 40, 40, 40], [41, 40, 40, 40], [40, 41, 40, 40], [41, 41, 40, 40], [40, 40, 41, 40], [41, 40, 41, 40], [40, 41, 41, 40], [41, 41, 41, 40], [40, 40, 40, 41], [41, 40, 40, 41], [40, 41, 40, 41], [41, 41, 40, 41], [40, 40, 41, 41], [41, 40, 41, 41], [40, 41, 41, 41], [41, 41, 41, 41]] := rfl
 rw [e] at hp
 simp only [List.mem_cons, List.not_mem_nil, or_false] at hp
 rcases hp with rfl | rfl | rfl | rfl | rfl | rfl | rfl | rfl | rfl | rfl | rfl | rfl | rfl | rfl | rfl | rfl
 ·exact c_b_9_0
 ·exact c_b_9_8
 ·exact c_b_9_4
 ·exact c_b_9_12
 ·exact c_b_9_2
 ·exact c_b_9_10
 ·exact c_b_9_6
 ·exact c_b_9_14
 ·exact c_b_9_1
 ·exact c_b_9_9
 ·exact c_b_9_5
 ·exact c_b_9_13
 ·exact c_b_9_3
 ·exact c_b_9_11
 ·exact c_b_9_7
 ·exact c_b_9_15
theorem cut_b_10 : ∀ p ∈ txt 40 41 5, (txt 40 41 5).all (fun r => ck_b (p ++ r)) = true := by
 intro p hp
 have e : txt 40 41 5 = [[40, 40, 40, 40, 40], [41, 40, 40, 40, 40], [40, 41, 40, 40, 40], [41, 41, 40, 40, 40], [40, 40, 41, 40, 40], [41, 40, 41, 40, 40], [40, 41, 41, 40, 40], [41, 41, 41, 40, 40], [40, 40, 40, 41, 40], [41, 40, 40, 41, 40], [40, 41, 40, 41, 40], [41, 41, 40, 41, 40], [40, 40, 41, 41, 40], [41, 40, 41, 41, 40], [40, 41, 41, 41, 40], [41, 41, 41, 41, 40], [40, 40, 40, 40, 41], [41, 40, 40, 40, 41], [40, 41, 40, 40, 41], [41, 41, 40, 40, 41], [40, 40, 41, 40, 41], [41, 40, 41, 40, 41], [40, 41, 41, 40, 41], [41, 41, 41, 40, 41], [40, 40, 40, 41, 41], [41, 40, 40, 41, 41], [40, 41, 40, 41, 41], [41, 41, 40, 41, 41], [40, 40, 41, 41, 41], [41, 40, 41, 41, 41], [40, 41, 41, 41, 41], [41, 41, 41, 41, 41]] := rfl
 rw [e] at hp
 simp only [List.mem_cons, List.not_mem_nil, or_false] at hp
 rcases hp with rfl | rfl | rfl | rfl | rfl | rfl | rfl | rfl | rfl | rfl | rfl | rfl | rfl | rfl | rfl | rfl | rfl | rfl | rfl | rfl | rfl | rfl | rfl | rfl | rfl | rfl | rfl | rfl | rfl | rfl | rfl | rfl
 ·exact c_b_10_0
 ·exact c_b_10_16
 ·exact c_b_10_8
 ·exact c_b_10_24
 ·exact c_b_10_4
 ·exact c_b_10_20
 ·exact c_b_10_12
 ·exact c_b_10_28
 ·exact c_b_10_2
 ·exact c_b_10_18
 ·exact c_b_10_10
 ·exact c_b_10_26
 ·exact c_b_10_6
 ·exact c_b_10_22
 ·exact c_b_10_14
 ·exact c_b_10_30
 ·exact c_b_10_1
 ·exact c_b_10_17
 ·exact c_b_10_9
 ·exact c_b_10_25
 ·exact c_b_10_5
 ·exact c_b_10_21
 ·exact c_b_10_13
 ·exact c_b_10_29
 ·exact c_b_10_3
 ·exact c_b_10_19
 ·exact c_b_10_11
 ·exact c_b_10_27
 ·exact c_b_10_7
 ·exact c_b_10_23
 ·exact c_b_10_15
 ·exact c_b_10_31
theorem ca_b (t : List Nat) (h : Two 40 41 t) (hn : t.length ≤ 10) : ck_b t = true := by
 have : t.length = 0 ∨ t.length = 1 ∨ t.length = 2 ∨ t.length = 3 ∨ t.length = 4 ∨ t.length = 5 ∨ t.length = 6 ∨ t.length = 7 ∨ t.length = 8 ∨ t.length = 9 ∨ t.length = 10 := by omega
 rcases this with e | e | e | e | e | e | e | e | e | e | e
 ·exact all_txt c_b_0 e h
 ·exact all_txt c_b_1 e h
 ·exact all_txt c_b_2 e h
 ·exact all_txt c_b_3 e h
 ·exact all_txt c_b_4 e h
 ·exact all_txt c_b_5 e h
 ·exact all_cut (k := 1) (n := 5) cut_b_6 e h
 ·exact all_cut (k := 2) (n := 5) cut_b_7 e h
 ·exact all_cut (k := 3) (n := 5) cut_b_8 e h
 ·exact all_cut (k := 4) (n := 5) cut_b_9 e h
 ·exact all_cut (k := 5) (n := 5) cut_b_10 e h
theorem acc_b (t : List Nat) (h : Two 40 41 t) (hn : t.length ≤ 10) (σ : Store) : LD S 9 [.t (.agg [.list g_b]), .t (.str t)] σ = some (.t (B (bal t)), σ) := acc_of nat_b (ca_b t h hn) σ
theorem balS_app : ∀ (t : List Nat) (c : Nat) (s : Int × Bool), balS (t ++ [c]) s = balS [c] (balS t s)
 | [], c, s => rfl
 | a :: t, c, s => by simp only [List.cons_append, balS]; exact balS_app t c _
theorem row_ld (c n : Nat) (h : n < 5) (hc : c = 40 ∨ c = 41) (σ : Store) : LD S 10 [.t (I n), .t (.str [c])] σ = some (.t (.str (List.replicate n c)), σ) := by
 rcases hc with rfl | rfl <;> rcases lt5 h with rfl | rfl | rfl | rfl | rfl
 ·exact run_ld e10 rfl (A := A10) rfl rfl (ts := [_, _]) row40_0 σ
 ·exact run_ld e10 rfl (A := A10) rfl rfl (ts := [_, _]) row40_1 σ
 ·exact run_ld e10 rfl (A := A10) rfl rfl (ts := [_, _]) row40_2 σ
 ·exact run_ld e10 rfl (A := A10) rfl rfl (ts := [_, _]) row40_3 σ
 ·exact run_ld e10 rfl (A := A10) rfl rfl (ts := [_, _]) row40_4 σ
 ·exact run_ld e10 rfl (A := A10) rfl rfl (ts := [_, _]) row41_0 σ
 ·exact run_ld e10 rfl (A := A10) rfl rfl (ts := [_, _]) row41_1 σ
 ·exact run_ld e10 rfl (A := A10) rfl rfl (ts := [_, _]) row41_2 σ
 ·exact run_ld e10 rfl (A := A10) rfl rfl (ts := [_, _]) row41_3 σ
 ·exact run_ld e10 rfl (A := A10) rfl rfl (ts := [_, _]) row41_4 σ
theorem ba_lv {x : T} {l : List Int} (hx : BytesT x l) : ∃ σ', LV S 4 [.t x] [] = some (.t (B true), σ') := by
 refine LV_bodyE (A := A4) rfl Tryz.func4 rfl ?_
 repeat apply W_seq
 refine W_region (by simp; first | exact ⟨rfl, rfl⟩ | exact rfl) ?_
 try simp only [thenQ, blockQ, Ann.kill, List.find?_nil]
 repeat apply W_seq
 refine W_region (by simp [big_ld hx]; first | exact ⟨rfl, rfl⟩ | exact rfl) ?_
 try simp only [thenQ, blockQ, Ann.kill, List.find?_nil]
 by_cases h1 : (1048576 : Int) < l.length
 ·repeat apply W_seq
  refine W_cond (t := true) (by simp [h1]) ?_
  simp only [if_true, if_false, Bool.false_eq_true]
  repeat apply W_seq
  refine W_region (by simp; first | exact ⟨rfl, rfl⟩ | exact rfl) ?_
  try simp only [thenQ, blockQ, Ann.kill, List.find?_nil]
  refine W_ret ?_
  try simp only [thenQ, blockQ]
  simp [Tryz.f4]
 repeat apply W_seq
 refine W_cond (t := false) (by simp [h1]) ?_
 simp only [if_true, if_false, Bool.false_eq_true]
 refine W_skip ?_
 try simp only [thenQ, blockQ, Ann.kill, List.find?_nil]
 obtain ⟨p, pl, pb, hp⟩ := places_ld hx (by omega)
 obtain ⟨q0, g0, a0', b0⟩ := get_place pl pb 0 (by decide)
 obtain ⟨n, hn, en⟩ := tmod_nat a0' 11 (by decide)
 obtain ⟨n5, hn5, en5⟩ := tmod_nat a0' 5 (by decide)
 have en : q0.tmod 11 = (n : Int) := en
 have en5 : q0.tmod 5 = (n5 : Int) := en5
 repeat apply W_seq
 refine W_region (by simp [hp]; first | exact ⟨rfl, rfl⟩ | exact rfl) ?_
 try simp only [thenQ, blockQ, Ann.kill, List.find?_nil]
 repeat apply W_seq
 refine W_region (by simp; first | exact ⟨rfl, rfl⟩ | exact rfl) ?_
 try simp only [thenQ, blockQ, Ann.kill, List.find?_nil]
 repeat apply W_seq
 refine W_region (by simp; first | exact ⟨rfl, rfl⟩ | exact rfl) ?_
 try simp only [thenQ, blockQ, Ann.kill, List.find?_nil]
 repeat apply W_seq
 refine W_region (by simp; first | exact ⟨rfl, rfl⟩ | exact rfl) ?_
 try simp only [thenQ, blockQ, Ann.kill, List.find?_nil]
 repeat apply W_seq
 refine W_region (by simp; first | exact ⟨rfl, rfl⟩ | exact rfl) ?_
 try simp only [thenQ, blockQ, Ann.kill, List.find?_nil]
 repeat apply W_seq
 refine W_block ?_
 refine W_loop (I := fun m st τ => ∃ (k : Nat) (t : List Nat) (d : Int) (fi : Bool), m = n - k ∧ k ≤ n ∧ t.length = k ∧ Two 40 41 t ∧ balS t (0, true) = (d, fi) ∧ -(k : Int) ≤ d ∧ d ≤ k ∧ st.vars = [(0, V.t x), (2, .t (B false)), (3, .t (.list (p.map fun q => .agg [I q]))), (4, .t (.str t)), (5, .t (I d)), (6, .t (B fi)), (7, .t (I k))] ∧ τ = []) ?_ n _ _ ⟨0, [], 0, true, rfl, Nat.zero_le _, rfl, (fun c hc => by simp at hc), rfl, by omega, by omega, by simp, rfl⟩
 rintro m ⟨vars, scr⟩ τ ⟨k, t, d, fi, rfl, hk, htl, htw, hba, hd1, hd2, hv, rfl⟩
 simp only at hv
 subst hv
 repeat apply W_seq
 refine W_region (by simp [g0, en]; first | exact ⟨rfl, rfl⟩ | exact rfl) ?_
 try simp only [thenQ, blockQ, Ann.kill, List.find?_nil]
 by_cases c1 : k < n
 ·repeat apply W_seq
  refine W_cond (t := true) (by simp [c1]) ?_
  simp only [if_true, if_false, Bool.false_eq_true]
  refine W_skip ?_
  try simp only [thenQ, blockQ, Ann.kill, List.find?_nil]
  repeat apply W_seq
  refine W_block ?_
  obtain ⟨q3, g3, a3', b3⟩ := get_place pl pb (k + 1) (by omega)
  obtain ⟨e, he, ee⟩ := tmod_nat a3' 2 (by decide)
  have ee : q3.tmod 2 = (e : Int) := ee
  have w1 : IntKind.i64.wrap ((k : Int) + 1) = (k : Int) + 1 := IntWalk.i64_in _ (by omega)
  have w2 : (0 : Int) ≤ (k : Int) + 1 := by omega
  have w3 : ((k : Int) + 1).toNat = k + 1 := by omega
  have w4 : t.length + 1 ≤ 9223372036854775807 := by omega
  have w5 : IntKind.i64.wrap (d + 1) = d + 1 := IntWalk.i64_in _ (by omega)
  have w6 : IntKind.i64.wrap (d - 1) = d - 1 := IntWalk.i64_in _ (by omega)
  rcases par he with rfl | rfl
  ·repeat apply W_seq
   refine W_region (by simp [w1, w2, w3, g3, ee]; first | exact ⟨rfl, rfl⟩ | exact rfl) ?_
   try simp only [thenQ, blockQ, Ann.kill, List.find?_nil]
   repeat apply W_seq
   refine W_cond (t := true) (by simp) ?_
   simp only [if_true, if_false, Bool.false_eq_true]
   repeat apply W_seq
   refine W_region (by simp [w4]; first | exact ⟨rfl, rfl⟩ | exact rfl) ?_
   try simp only [thenQ, blockQ, Ann.kill, List.find?_nil]
   repeat apply W_seq
   refine W_region (by simp [w5]; first | exact ⟨rfl, rfl⟩ | exact rfl) ?_
   try simp only [thenQ, blockQ, Ann.kill, List.find?_nil]
   cases fi with
   | true =>
    repeat apply W_seq
    refine W_region (by simp; first | exact ⟨rfl, rfl⟩ | exact rfl) ?_
    try simp only [thenQ, blockQ, Ann.kill, List.find?_nil]
    repeat apply W_seq
    refine W_region (by simp [w1]; first | exact ⟨rfl, rfl⟩ | exact rfl) ?_
    try simp only [thenQ, blockQ, Ann.kill, List.find?_nil]
    exact ⟨n - (k + 1), by omega, k + 1, t ++ [40], d + 1, decide (0 ≤ d + 1), rfl, c1, by simp [htl], htw.app (.inl rfl), by rw [balS_app, hba]; simp [balS], by omega, by omega, by simp, by simp⟩
   | false =>
    repeat apply W_seq
    refine W_region (by simp; first | exact ⟨rfl, rfl⟩ | exact rfl) ?_
    try simp only [thenQ, blockQ, Ann.kill, List.find?_nil]
    repeat apply W_seq
    refine W_region (by simp [w1]; first | exact ⟨rfl, rfl⟩ | exact rfl) ?_
    try simp only [thenQ, blockQ, Ann.kill, List.find?_nil]
    exact ⟨n - (k + 1), by omega, k + 1, t ++ [40], d + 1, false, rfl, c1, by simp [htl], htw.app (.inl rfl), by rw [balS_app, hba]; simp [balS], by omega, by omega, by simp, by simp⟩
  ·repeat apply W_seq
   refine W_region (by simp [w1, w2, w3, g3, ee]; first | exact ⟨rfl, rfl⟩ | exact rfl) ?_
   try simp only [thenQ, blockQ, Ann.kill, List.find?_nil]
   repeat apply W_seq
   refine W_cond (t := false) (by simp) ?_
   simp only [if_true, if_false, Bool.false_eq_true]
   repeat apply W_seq
   refine W_region (by simp [w4]; first | exact ⟨rfl, rfl⟩ | exact rfl) ?_
   try simp only [thenQ, blockQ, Ann.kill, List.find?_nil]
   repeat apply W_seq
   refine W_region (by simp [w6]; first | exact ⟨rfl, rfl⟩ | exact rfl) ?_
   try simp only [thenQ, blockQ, Ann.kill, List.find?_nil]
   cases fi with
   | true =>
    repeat apply W_seq
    refine W_region (by simp; first | exact ⟨rfl, rfl⟩ | exact rfl) ?_
    try simp only [thenQ, blockQ, Ann.kill, List.find?_nil]
    repeat apply W_seq
    refine W_region (by simp [w1]; first | exact ⟨rfl, rfl⟩ | exact rfl) ?_
    try simp only [thenQ, blockQ, Ann.kill, List.find?_nil]
    exact ⟨n - (k + 1), by omega, k + 1, t ++ [41], d - 1, decide (0 ≤ d - 1), rfl, c1, by simp [htl], htw.app (.inr rfl), by rw [balS_app, hba]; simp [balS], by omega, by omega, by simp, by simp⟩
   | false =>
    repeat apply W_seq
    refine W_region (by simp; first | exact ⟨rfl, rfl⟩ | exact rfl) ?_
    try simp only [thenQ, blockQ, Ann.kill, List.find?_nil]
    repeat apply W_seq
    refine W_region (by simp [w1]; first | exact ⟨rfl, rfl⟩ | exact rfl) ?_
    try simp only [thenQ, blockQ, Ann.kill, List.find?_nil]
    exact ⟨n - (k + 1), by omega, k + 1, t ++ [41], d - 1, false, rfl, c1, by simp [htl], htw.app (.inr rfl), by rw [balS_app, hba]; simp [balS], by omega, by omega, by simp, by simp⟩
 ·repeat apply W_seq
  refine W_cond (t := false) (by simp [c1]) ?_
  simp only [if_true, if_false, Bool.false_eq_true]
  repeat apply W_seq
  refine W_exit ?_
  try simp only [thenQ, blockQ, if_true, Ann.kill, List.find?_nil]
  have f1 := acc_b t htw (by omega)
  have hb : bal t = (fi && d == 0) := by simp only [bal, hba]
  rw [hb] at f1
  have ra := row_ld 40 n5 hn5 (.inl rfl)
  have rb := row_ld 41 n5 hn5 (.inr rfl)
  have f2 := acc_b (List.replicate n5 40 ++ List.replicate n5 41) (by
   intro c hc
   rcases List.mem_append.1 hc with q | q
   ·exact .inl (List.eq_of_mem_replicate q)
   ·exact .inr (List.eq_of_mem_replicate q)) (by simp; omega)
  have hb2 : bal (List.replicate n5 40 ++ List.replicate n5 41) = true := by
   rcases lt5 hn5 with rfl | rfl | rfl | rfl | rfl <;> rfl
  rw [hb2] at f2
  have lr : n5 + n5 ≤ 9223372036854775807 := by omega
  repeat apply W_seq
  refine W_region (by simp [plain_b]; first | exact ⟨rfl, rfl⟩ | exact rfl) ?_
  try simp only [thenQ, blockQ, Ann.kill, List.find?_nil]
  repeat apply W_seq
  refine W_region (by simp [g0, en5]; first | exact ⟨rfl, rfl⟩ | exact rfl) ?_
  try simp only [thenQ, blockQ, Ann.kill, List.find?_nil]
  cases fi with
  | false =>
   simp only [Bool.false_and] at f1
   repeat apply W_seq
   refine W_region (by simp [f1, ra, rb, f2, lr]; first | exact ⟨rfl, rfl⟩ | exact rfl) ?_
   try simp only [thenQ, blockQ, Ann.kill, List.find?_nil]
   refine W_ret ?_
   try simp only [thenQ, blockQ]
   simp [Tryz.f4]
  | true =>
   simp only [Bool.true_and] at f1
   by_cases hd : d = 0
   ·subst hd
    repeat apply W_seq
    refine W_region (by simp [f1, ra, rb, f2, lr]; first | exact ⟨rfl, rfl⟩ | exact rfl) ?_
    try simp only [thenQ, blockQ, Ann.kill, List.find?_nil]
    refine W_ret ?_
    try simp only [thenQ, blockQ]
    simp [Tryz.f4]
   ·have hd' : (d == 0) = false := by simp [hd]
    rw [hd'] at f1
    repeat apply W_seq
    refine W_region (by simp [f1, ra, rb, f2, lr, hd, hd']; first | exact ⟨rfl, rfl⟩ | exact rfl) ?_
    try simp only [thenQ, blockQ, Ann.kill, List.find?_nil]
    refine W_ret ?_
    try simp only [thenQ, blockQ]
    simp [Tryz.f4]
end X
