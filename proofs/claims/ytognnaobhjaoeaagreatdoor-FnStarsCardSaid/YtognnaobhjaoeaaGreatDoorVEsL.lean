/- A part of the proof. No statement of the claim is in it. -/
import Derived.Test.YtognnaobhjaoeaaGreatDoorVEs0a
import Derived.Test.YtognnaobhjaoeaaGreatDoorVEs0c0
import Derived.Test.YtognnaobhjaoeaaGreatDoorVEs0c1
import Derived.Test.YtognnaobhjaoeaaGreatDoorVEs1a
import Derived.Test.YtognnaobhjaoeaaGreatDoorVEs1c0
import Derived.Test.YtognnaobhjaoeaaGreatDoorVEs1c1
import Derived.Test.YtognnaobhjaoeaaGreatDoorVEs2a
import Derived.Test.YtognnaobhjaoeaaGreatDoorVEs2c0
import Derived.Test.YtognnaobhjaoeaaGreatDoorVEs2c1
import Derived.Test.YtognnaobhjaoeaaGreatDoorVEs3a
import Derived.Test.YtognnaobhjaoeaaGreatDoorVEs3c0
import Derived.Test.YtognnaobhjaoeaaGreatDoorVEs3c1
import Derived.Test.YtognnaobhjaoeaaGreatDoorVEs4a
import Derived.Test.YtognnaobhjaoeaaGreatDoorVEs4c0
import Derived.Test.YtognnaobhjaoeaaGreatDoorVEs4c1
open Go Go.V Go.Proofs
namespace X
set_option maxRecDepth 100000
set_option maxHeartbeats 4000000
set_option linter.unusedSimpArgs false
set_option linter.unusedVariables false
attribute [-simp] lenV idxV getElem?_pos
attribute [simp] List.getElem?_cons_zero List.getElem?_cons_succ eqOp
theorem lt5 {n : Nat} (h : n < 5) : n = 0 ∨ n = 1 ∨ n = 2 ∨ n = 3 ∨ n = 4 := by omega
theorem par {n : Nat} (h : n < 2) : n = 0 ∨ n = 1 := by omega
theorem gB1 (σ r : Store) : (σ ++ r)[σ.length + 1]? = r[1]? := getB σ r 1
theorem sB1 (σ r : Store) (x : V.Obj) : (σ ++ r).set (σ.length + 1) x = σ ++ r.set 1 x := setB σ r 1 x
theorem gB2 (σ r : Store) : (σ ++ r)[σ.length + 1 + 1]? = r[2]? := getB σ r 2
theorem sB2 (σ r : Store) (x : V.Obj) : (σ ++ r).set (σ.length + 1 + 1) x = σ ++ r.set 2 x := setB σ r 2 x
theorem gB3 (σ r : Store) : (σ ++ r)[σ.length + 1 + 1 + 1]? = r[3]? := getB σ r 3
theorem sB3 (σ r : Store) (x : V.Obj) : (σ ++ r).set (σ.length + 1 + 1 + 1) x = σ ++ r.set 3 x := setB σ r 3 x
theorem gB4 (σ r : Store) : (σ ++ r)[σ.length + 1 + 1 + 1 + 1]? = r[4]? := getB σ r 4
theorem sB4 (σ r : Store) (x : V.Obj) : (σ ++ r).set (σ.length + 1 + 1 + 1 + 1) x = σ ++ r.set 4 x := setB σ r 4 x
theorem bxor {a b : Bool} (h : (Bool.rec (Bool.rec true false a) a b : Bool) = true) : b = a := by
 cases a <;> cases b <;> first | rfl | cases h
theorem lawB_some {x1 x2 x3 x4 x5 : Option (List Nat)} {n : Nat} (h : lawB x1 x2 x3 x4 x5 n = true) : ∃ a b c d e, x1 = some a ∧ x2 = some b ∧ x3 = some c ∧ x4 = some d ∧ x5 = some e ∧ a.length + b.length + c.length + d.length + e.length ≤ 1000 ∧
  ∀ i, i ≤ n → a.contains i = (i == 0 || b.contains i) ∧ c.contains i = (i == 0 || d.contains i) ∧ b.contains i = e.contains i := by
 unfold lawB at h
 split at h
 rotate_left
 ·cases h
 rename_i a b c d e
 split at h
 rotate_left
 ·cases h
 rename_i hl
 refine ⟨a, b, c, d, e, rfl, rfl, rfl, rfl, rfl, Nat.le_of_ble_eq_true hl, fun i hi => ?_⟩
 have h := List.all_eq_true.1 h i (List.mem_range.2 (by omega))
 rw [Bool.and_eq_true, Bool.and_eq_true] at h
 exact ⟨bxor h.1.1, bxor h.1.2, bxor h.2⟩
theorem cut_s0_4 : ∀ p ∈ txt 97 98 1, (txt 97 98 3).all (fun r => cks0 (p ++ r)) = true := by
 intro p hp
 have e : txt 97 98 1 = [[97], [98]] := rfl
 rw [e] at hp
 simp only [List.mem_cons, List.not_mem_nil, or_false] at hp
 rcases hp with rfl | rfl
 ·exact cs_0_4_0
 ·exact cs_0_4_1
theorem cut_s0_5 : ∀ p ∈ txt 97 98 2, (txt 97 98 3).all (fun r => cks0 (p ++ r)) = true := by
 intro p hp
 have e : txt 97 98 2 = [[97, 97], [98, 97], [97, 98], [98, 98]] := rfl
 rw [e] at hp
 simp only [List.mem_cons, List.not_mem_nil, or_false] at hp
 rcases hp with rfl | rfl | rfl | rfl
 ·exact cs_0_5_0
 ·exact cs_0_5_2
 ·exact cs_0_5_1
 ·exact cs_0_5_3
theorem cut_s0_6 : ∀ p ∈ txt 97 98 3, (txt 97 98 3).all (fun r => cks0 (p ++ r)) = true := by
 intro p hp
 have e : txt 97 98 3 = [[97, 97, 97], [98, 97, 97], [97, 98, 97], [98, 98, 97], [97, 97, 98], [98, 97, 98], [97, 98, 98], [98, 98, 98]] := rfl
 rw [e] at hp
 simp only [List.mem_cons, List.not_mem_nil, or_false] at hp
 rcases hp with rfl | rfl | rfl | rfl | rfl | rfl | rfl | rfl
 ·exact cs_0_6_0
 ·exact cs_0_6_4
 ·exact cs_0_6_2
 ·exact cs_0_6_6
 ·exact cs_0_6_1
 ·exact cs_0_6_5
 ·exact cs_0_6_3
 ·exact cs_0_6_7
theorem ca_s0 (t : List Nat) (h : Two 97 98 t) (hn : t.length ≤ 6) : cks0 t = true := by
 have : t.length = 0 ∨ t.length = 1 ∨ t.length = 2 ∨ t.length = 3 ∨ t.length = 4 ∨ t.length = 5 ∨ t.length = 6 := by omega
 rcases this with e | e | e | e | e | e | e
 ·exact all_txt cs_0_0 e h
 ·exact all_txt cs_0_1 e h
 ·exact all_txt cs_0_2 e h
 ·exact all_txt cs_0_3 e h
 ·exact all_cut (k := 1) (n := 3) cut_s0_4 e h
 ·exact all_cut (k := 2) (n := 3) cut_s0_5 e h
 ·exact all_cut (k := 3) (n := 3) cut_s0_6 e h
theorem cut_s1_4 : ∀ p ∈ txt 97 98 1, (txt 97 98 3).all (fun r => cks1 (p ++ r)) = true := by
 intro p hp
 have e : txt 97 98 1 = [[97], [98]] := rfl
 rw [e] at hp
 simp only [List.mem_cons, List.not_mem_nil, or_false] at hp
 rcases hp with rfl | rfl
 ·exact cs_1_4_0
 ·exact cs_1_4_1
theorem cut_s1_5 : ∀ p ∈ txt 97 98 2, (txt 97 98 3).all (fun r => cks1 (p ++ r)) = true := by
 intro p hp
 have e : txt 97 98 2 = [[97, 97], [98, 97], [97, 98], [98, 98]] := rfl
 rw [e] at hp
 simp only [List.mem_cons, List.not_mem_nil, or_false] at hp
 rcases hp with rfl | rfl | rfl | rfl
 ·exact cs_1_5_0
 ·exact cs_1_5_2
 ·exact cs_1_5_1
 ·exact cs_1_5_3
theorem cut_s1_6 : ∀ p ∈ txt 97 98 3, (txt 97 98 3).all (fun r => cks1 (p ++ r)) = true := by
 intro p hp
 have e : txt 97 98 3 = [[97, 97, 97], [98, 97, 97], [97, 98, 97], [98, 98, 97], [97, 97, 98], [98, 97, 98], [97, 98, 98], [98, 98, 98]] := rfl
 rw [e] at hp
 simp only [List.mem_cons, List.not_mem_nil, or_false] at hp
 rcases hp with rfl | rfl | rfl | rfl | rfl | rfl | rfl | rfl
 ·exact cs_1_6_0
 ·exact cs_1_6_4
 ·exact cs_1_6_2
 ·exact cs_1_6_6
 ·exact cs_1_6_1
 ·exact cs_1_6_5
 ·exact cs_1_6_3
 ·exact cs_1_6_7
theorem ca_s1 (t : List Nat) (h : Two 97 98 t) (hn : t.length ≤ 6) : cks1 t = true := by
 have : t.length = 0 ∨ t.length = 1 ∨ t.length = 2 ∨ t.length = 3 ∨ t.length = 4 ∨ t.length = 5 ∨ t.length = 6 := by omega
 rcases this with e | e | e | e | e | e | e
 ·exact all_txt cs_1_0 e h
 ·exact all_txt cs_1_1 e h
 ·exact all_txt cs_1_2 e h
 ·exact all_txt cs_1_3 e h
 ·exact all_cut (k := 1) (n := 3) cut_s1_4 e h
 ·exact all_cut (k := 2) (n := 3) cut_s1_5 e h
 ·exact all_cut (k := 3) (n := 3) cut_s1_6 e h
theorem cut_s2_4 : ∀ p ∈ txt 97 98 1, (txt 97 98 3).all (fun r => cks2 (p ++ r)) = true := by
 intro p hp
 have e : txt 97 98 1 = [[97], [98]] := rfl
 rw [e] at hp
 simp only [List.mem_cons, List.not_mem_nil, or_false] at hp
 rcases hp with rfl | rfl
 ·exact cs_2_4_0
 ·exact cs_2_4_1
theorem cut_s2_5 : ∀ p ∈ txt 97 98 2, (txt 97 98 3).all (fun r => cks2 (p ++ r)) = true := by
 intro p hp
 have e : txt 97 98 2 = [[97, 97], [98, 97], [97, 98], [98, 98]] := rfl
 rw [e] at hp
 simp only [List.mem_cons, List.not_mem_nil, or_false] at hp
 rcases hp with rfl | rfl | rfl | rfl
 ·exact cs_2_5_0
 ·exact cs_2_5_2
 ·exact cs_2_5_1
 ·exact cs_2_5_3
theorem cut_s2_6 : ∀ p ∈ txt 97 98 3, (txt 97 98 3).all (fun r => cks2 (p ++ r)) = true := by
 intro p hp
 have e : txt 97 98 3 = [[97, 97, 97], [98, 97, 97], [97, 98, 97], [98, 98, 97], [97, 97, 98], [98, 97, 98], [97, 98, 98], [98, 98, 98]] := rfl
 rw [e] at hp
 simp only [List.mem_cons, List.not_mem_nil, or_false] at hp
 rcases hp with rfl | rfl | rfl | rfl | rfl | rfl | rfl | rfl
 ·exact cs_2_6_0
 ·exact cs_2_6_4
 ·exact cs_2_6_2
 ·exact cs_2_6_6
 ·exact cs_2_6_1
 ·exact cs_2_6_5
 ·exact cs_2_6_3
 ·exact cs_2_6_7
theorem ca_s2 (t : List Nat) (h : Two 97 98 t) (hn : t.length ≤ 6) : cks2 t = true := by
 have : t.length = 0 ∨ t.length = 1 ∨ t.length = 2 ∨ t.length = 3 ∨ t.length = 4 ∨ t.length = 5 ∨ t.length = 6 := by omega
 rcases this with e | e | e | e | e | e | e
 ·exact all_txt cs_2_0 e h
 ·exact all_txt cs_2_1 e h
 ·exact all_txt cs_2_2 e h
 ·exact all_txt cs_2_3 e h
 ·exact all_cut (k := 1) (n := 3) cut_s2_4 e h
 ·exact all_cut (k := 2) (n := 3) cut_s2_5 e h
 ·exact all_cut (k := 3) (n := 3) cut_s2_6 e h
theorem cut_s3_4 : ∀ p ∈ txt 97 98 1, (txt 97 98 3).all (fun r => cks3 (p ++ r)) = true := by
 intro p hp
 have e : txt 97 98 1 = [[97], [98]] := rfl
 rw [e] at hp
 simp only [List.mem_cons, List.not_mem_nil, or_false] at hp
 rcases hp with rfl | rfl
 ·exact cs_3_4_0
 ·exact cs_3_4_1
theorem cut_s3_5 : ∀ p ∈ txt 97 98 2, (txt 97 98 3).all (fun r => cks3 (p ++ r)) = true := by
 intro p hp
 have e : txt 97 98 2 = [[97, 97], [98, 97], [97, 98], [98, 98]] := rfl
 rw [e] at hp
 simp only [List.mem_cons, List.not_mem_nil, or_false] at hp
 rcases hp with rfl | rfl | rfl | rfl
 ·exact cs_3_5_0
 ·exact cs_3_5_2
 ·exact cs_3_5_1
 ·exact cs_3_5_3
theorem cut_s3_6 : ∀ p ∈ txt 97 98 3, (txt 97 98 3).all (fun r => cks3 (p ++ r)) = true := by
 intro p hp
 have e : txt 97 98 3 = [[97, 97, 97], [98, 97, 97], [97, 98, 97], [98, 98, 97], [97, 97, 98], [98, 97, 98], [97, 98, 98], [98, 98, 98]] := rfl
 rw [e] at hp
 simp only [List.mem_cons, List.not_mem_nil, or_false] at hp
 rcases hp with rfl | rfl | rfl | rfl | rfl | rfl | rfl | rfl
 ·exact cs_3_6_0
 ·exact cs_3_6_4
 ·exact cs_3_6_2
 ·exact cs_3_6_6
 ·exact cs_3_6_1
 ·exact cs_3_6_5
 ·exact cs_3_6_3
 ·exact cs_3_6_7
theorem ca_s3 (t : List Nat) (h : Two 97 98 t) (hn : t.length ≤ 6) : cks3 t = true := by
 have : t.length = 0 ∨ t.length = 1 ∨ t.length = 2 ∨ t.length = 3 ∨ t.length = 4 ∨ t.length = 5 ∨ t.length = 6 := by omega
 rcases this with e | e | e | e | e | e | e
 ·exact all_txt cs_3_0 e h
 ·exact all_txt cs_3_1 e h
 ·exact all_txt cs_3_2 e h
 ·exact all_txt cs_3_3 e h
 ·exact all_cut (k := 1) (n := 3) cut_s3_4 e h
 ·exact all_cut (k := 2) (n := 3) cut_s3_5 e h
 ·exact all_cut (k := 3) (n := 3) cut_s3_6 e h
theorem cut_s4_4 : ∀ p ∈ txt 97 98 1, (txt 97 98 3).all (fun r => cks4 (p ++ r)) = true := by
 intro p hp
 have e : txt 97 98 1 = [[97], [98]] := rfl
 rw [e] at hp
 simp only [List.mem_cons, List.not_mem_nil, or_false] at hp
 rcases hp with rfl | rfl
 ·exact cs_4_4_0
 ·exact cs_4_4_1
theorem cut_s4_5 : ∀ p ∈ txt 97 98 2, (txt 97 98 3).all (fun r => cks4 (p ++ r)) = true := by
 intro p hp
 have e : txt 97 98 2 = [[97, 97], [98, 97], [97, 98], [98, 98]] := rfl
 rw [e] at hp
 simp only [List.mem_cons, List.not_mem_nil, or_false] at hp
 rcases hp with rfl | rfl | rfl | rfl
 ·exact cs_4_5_0
 ·exact cs_4_5_2
 ·exact cs_4_5_1
 ·exact cs_4_5_3
theorem cut_s4_6 : ∀ p ∈ txt 97 98 3, (txt 97 98 3).all (fun r => cks4 (p ++ r)) = true := by
 intro p hp
 have e : txt 97 98 3 = [[97, 97, 97], [98, 97, 97], [97, 98, 97], [98, 98, 97], [97, 97, 98], [98, 97, 98], [97, 98, 98], [98, 98, 98]] := rfl
 rw [e] at hp
 simp only [List.mem_cons, List.not_mem_nil, or_false] at hp
 rcases hp with rfl | rfl | rfl | rfl | rfl | rfl | rfl | rfl
 ·exact cs_4_6_0
 ·exact cs_4_6_4
 ·exact cs_4_6_2
 ·exact cs_4_6_6
 ·exact cs_4_6_1
 ·exact cs_4_6_5
 ·exact cs_4_6_3
 ·exact cs_4_6_7
theorem ca_s4 (t : List Nat) (h : Two 97 98 t) (hn : t.length ≤ 6) : cks4 t = true := by
 have : t.length = 0 ∨ t.length = 1 ∨ t.length = 2 ∨ t.length = 3 ∨ t.length = 4 ∨ t.length = 5 ∨ t.length = 6 := by omega
 rcases this with e | e | e | e | e | e | e
 ·exact all_txt cs_4_0 e h
 ·exact all_txt cs_4_1 e h
 ·exact all_txt cs_4_2 e h
 ·exact all_txt cs_4_3 e h
 ·exact all_cut (k := 1) (n := 3) cut_s4_4 e h
 ·exact all_cut (k := 2) (n := 3) cut_s4_5 e h
 ·exact all_cut (k := 3) (n := 3) cut_s4_6 e h
def bxs : List V := [.t (.str [34, 97, 34]), .t (.str [34, 97, 34, 32, 124, 32, 34, 98, 34]), .t (.str [34, 97, 98, 34, 32, 124, 32, 34, 97, 34]), .t (.str [91, 97, 98, 93, 32, 91, 97, 98, 93]), .t (.str [34, 97, 34, 32, 124, 32])]
structure Sta (i : Nat) (sb : List Nat) (g1 g2 g3 g4 g5 : List T) : Prop where
 b : bxs[i]? = some (.t (.str sb))
 lb : sb.length ≤ 100
 p1 : ∀ σ, LD S 8 [.t (.str ([83, 32, 45, 62, 32, 40, 32] ++ sb ++ [32, 41, 42, 32, 59]))] σ = some (.t (.agg [.list g1]), σ)
 p2 : ∀ σ, LD S 8 [.t (.str ([83, 32, 45, 62, 32, 40, 32] ++ sb ++ [32, 41, 43, 32, 59]))] σ = some (.t (.agg [.list g2]), σ)
 p3 : ∀ σ, LD S 8 [.t (.str ([83, 32, 45, 62, 32, 40, 32] ++ sb ++ [32, 41, 63, 32, 59]))] σ = some (.t (.agg [.list g3]), σ)
 p4 : ∀ σ, LD S 8 [.t (.str ([83, 32, 45, 62, 32] ++ sb ++ [32, 59]))] σ = some (.t (.agg [.list g4]), σ)
 p5 : ∀ σ, LD S 8 [.t (.str ([83, 32, 45, 62, 32, 40, 32] ++ sb ++ [32, 41, 32, 40, 32] ++ sb ++ [32, 41, 42, 32, 59]))] σ = some (.t (.agg [.list g5]), σ)
 run : ∀ t, Two 97 98 t → t.length ≤ 6 → ∃ a b c d e : List Nat, (∀ σ, LD S 12 [.t (.agg [.list g1]), .t (.str t), .t (.str [83]), .t (.list []), .t (I 0)] σ = some (.t (lT a), σ)) ∧ (∀ σ, LD S 12 [.t (.agg [.list g2]), .t (.str t), .t (.str [83]), .t (.list []), .t (I 0)] σ = some (.t (lT b), σ)) ∧ (∀ σ, LD S 12 [.t (.agg [.list g3]), .t (.str t), .t (.str [83]), .t (.list []), .t (I 0)] σ = some (.t (lT c), σ)) ∧ (∀ σ, LD S 12 [.t (.agg [.list g4]), .t (.str t), .t (.str [83]), .t (.list []), .t (I 0)] σ = some (.t (lT d), σ)) ∧ (∀ σ, LD S 12 [.t (.agg [.list g5]), .t (.str t), .t (.str [83]), .t (.list []), .t (I 0)] σ = some (.t (lT e), σ)) ∧ a.length + b.length + c.length + d.length + e.length ≤ 1000 ∧
  ∀ i, i ≤ t.length → a.contains i = (i == 0 || b.contains i) ∧ c.contains i = (i == 0 || d.contains i) ∧ b.contains i = e.contains i
 nothing : ∀ σ, LD S 9 [.t (.agg [.list g1]), .t (.str [])] σ = some (.t (B true), σ)
 ok : ∀ σ, LD S 13 [.t (.agg [.list g5])] σ = some (.t (B true), σ)
theorem sta_all (i : Nat) (hi : i < 5) : ∃ sb g1 g2 g3 g4 g5, Sta i sb g1 g2 g3 g4 g5 := by
 rcases lt5 hi with rfl | rfl | rfl | rfl | rfl
 ·refine ⟨_, _, _, _, _, _, rfl, by decide, plain_s0star, plain_s0plus, plain_s0opt, plain_s0one, plain_s0more, fun t h hn => ?_, acc_of nat_s0star star0_0, run_ld e13 rfl (A := A13) rfl rfl (ts := [_]) gok_s0more⟩
  obtain ⟨a, b, c, d, e, h1, h2, h3, h4, h5, h6, h7⟩ := lawB_some (ca_s0 t h hn)
  exact ⟨a, b, c, d, e, end_of nat_s0star h1, end_of nat_s0plus h2, end_of nat_s0opt h3, end_of nat_s0one h4, end_of nat_s0more h5, h6, h7⟩
 ·refine ⟨_, _, _, _, _, _, rfl, by decide, plain_s1star, plain_s1plus, plain_s1opt, plain_s1one, plain_s1more, fun t h hn => ?_, acc_of nat_s1star star0_1, run_ld e13 rfl (A := A13) rfl rfl (ts := [_]) gok_s1more⟩
  obtain ⟨a, b, c, d, e, h1, h2, h3, h4, h5, h6, h7⟩ := lawB_some (ca_s1 t h hn)
  exact ⟨a, b, c, d, e, end_of nat_s1star h1, end_of nat_s1plus h2, end_of nat_s1opt h3, end_of nat_s1one h4, end_of nat_s1more h5, h6, h7⟩
 ·refine ⟨_, _, _, _, _, _, rfl, by decide, plain_s2star, plain_s2plus, plain_s2opt, plain_s2one, plain_s2more, fun t h hn => ?_, acc_of nat_s2star star0_2, run_ld e13 rfl (A := A13) rfl rfl (ts := [_]) gok_s2more⟩
  obtain ⟨a, b, c, d, e, h1, h2, h3, h4, h5, h6, h7⟩ := lawB_some (ca_s2 t h hn)
  exact ⟨a, b, c, d, e, end_of nat_s2star h1, end_of nat_s2plus h2, end_of nat_s2opt h3, end_of nat_s2one h4, end_of nat_s2more h5, h6, h7⟩
 ·refine ⟨_, _, _, _, _, _, rfl, by decide, plain_s3star, plain_s3plus, plain_s3opt, plain_s3one, plain_s3more, fun t h hn => ?_, acc_of nat_s3star star0_3, run_ld e13 rfl (A := A13) rfl rfl (ts := [_]) gok_s3more⟩
  obtain ⟨a, b, c, d, e, h1, h2, h3, h4, h5, h6, h7⟩ := lawB_some (ca_s3 t h hn)
  exact ⟨a, b, c, d, e, end_of nat_s3star h1, end_of nat_s3plus h2, end_of nat_s3opt h3, end_of nat_s3one h4, end_of nat_s3more h5, h6, h7⟩
 ·refine ⟨_, _, _, _, _, _, rfl, by decide, plain_s4star, plain_s4plus, plain_s4opt, plain_s4one, plain_s4more, fun t h hn => ?_, acc_of nat_s4star star0_4, run_ld e13 rfl (A := A13) rfl rfl (ts := [_]) gok_s4more⟩
  obtain ⟨a, b, c, d, e, h1, h2, h3, h4, h5, h6, h7⟩ := lawB_some (ca_s4 t h hn)
  exact ⟨a, b, c, d, e, end_of nat_s4star h1, end_of nat_s4plus h2, end_of nat_s4opt h3, end_of nat_s4one h4, end_of nat_s4more h5, h6, h7⟩
theorem st_lv {x : T} {l : List Int} (hx : BytesT x l) : ∃ σ', LV S 5 [.t x] [] = some (.t (B true), σ') := by
 refine LV_bodyE (A := A5) rfl Tryz.func5 rfl ?_
 repeat apply W_seq
 refine W_region (by simp; first | exact ⟨rfl, rfl⟩ | exact rfl) ?_
 try simp only [thenQ, blockQ, Ann.kill, List.find?_nil]
 repeat apply W_seq
 refine W_region (by simp [big_ld hx]; first | exact ⟨rfl, rfl⟩ | exact rfl) ?_
 try simp only [thenQ, blockQ, Ann.kill, List.find?_nil]
 by_cases h1 : (1048576 : Int) < l.length
 ·repeat apply W_seq
  refine W_cond (t := true) (by simp [h1]) ?_
  simp only [if_true, if_false, Bool.false_eq_true]
  repeat apply W_seq
  refine W_region (by simp; first | exact ⟨rfl, rfl⟩ | exact rfl) ?_
  try simp only [thenQ, blockQ, Ann.kill, List.find?_nil]
  refine W_ret ?_
  try simp only [thenQ, blockQ]
  simp [Tryz.f5]
 repeat apply W_seq
 refine W_cond (t := false) (by simp [h1]) ?_
 simp only [if_true, if_false, Bool.false_eq_true]
 refine W_skip ?_
 try simp only [thenQ, blockQ, Ann.kill, List.find?_nil]
 obtain ⟨p, pl, pb, hp⟩ := places_ld hx (by omega)
 obtain ⟨q0, g0, a0', b0⟩ := get_place pl pb 0 (by decide)
 obtain ⟨q1, g1, a1', b1⟩ := get_place pl pb 1 (by decide)
 obtain ⟨x1, hx1, ex1⟩ := tmod_nat a0' 5 (by decide)
 obtain ⟨n, hn, en⟩ := tmod_nat a1' 7 (by decide)
 have ex1 : q0.tmod 5 = (x1 : Int) := ex1
 have en : q1.tmod 7 = (n : Int) := en
 obtain ⟨sb, G1, G2, G3, G4, G5, E⟩ := sta_all x1 hx1
 have eb := E.b
 have lb := E.lb
 have p1 := E.p1
 have p2 := E.p2
 have p3 := E.p3
 have p4 := E.p4
 have p5 := E.p5
 simp at p1 p2 p3 p4 p5
 have hel : bxs.length = 5 := rfl
 have c1x : (x1 : Int) < 5 := by omega
 have c2x : x1 + 1 ≤ 5 := by omega
 have ebl : ([V.t (.str [34, 97, 34]), V.t (.str [34, 97, 34, 32, 124, 32, 34, 98, 34]), V.t (.str [34, 97, 98, 34, 32, 124, 32, 34, 97, 34]), V.t (.str [91, 97, 98, 93, 32, 91, 97, 98, 93]), V.t (.str [34, 97, 34, 32, 124, 32])] : List V)[x1]? = some (.t (.str sb)) := eb
 have rg0 : (List.range 5)[0]? = some 0 := rfl
 have rg1 : (List.range 5)[1]? = some 1 := rfl
 have rg2 : (List.range 5)[2]? = some 2 := rfl
 have rg3 : (List.range 5)[3]? = some 3 := rfl
 have rg4 : (List.range 5)[4]? = some 4 := rfl
 have lf0 : 7 + sb.length ≤ 9223372036854775807 := by omega
 have lf1 : 5 + sb.length ≤ 9223372036854775807 := by omega
 have lf2 : sb.length + 1 + 1 + 1 + 1 + 1 + 1 + 1 + 5 ≤ 9223372036854775807 := by omega
 have lf3 : sb.length + 1 + 1 + 1 + 1 + 1 + 2 ≤ 9223372036854775807 := by omega
 have lf4 : sb.length + 5 + 1 + 1 + 1 + 1 + 1 + 1 + 1 + sb.length ≤ 9223372036854775807 := by omega
 have lf5 : sb.length + (sb.length + 1 + 1 + 1 + 1 + 1) + 1 + 1 + 1 + 1 + 1 + 1 + 1 + 5 ≤ 9223372036854775807 := by omega
 have lf6 : sb.length + (5 + sb.length) + 1 + 1 + 1 + 1 + 1 + 1 + 1 + 5 ≤ 9223372036854775807 := by omega
 repeat apply W_seq
 refine W_region (by simp [hp]; first | exact ⟨rfl, rfl⟩ | exact rfl) ?_
 try simp only [thenQ, blockQ, Ann.kill, List.find?_nil]
 repeat apply W_seq
 refine W_region (by simp [sliceCells, repZero, fillV, rg0, rg1, rg2, rg3, rg4, ebl, g0, ex1, eb, hel, hx1, c1x, c2x]; first | exact ⟨rfl, rfl⟩ | exact rfl) ?_
 try simp only [thenQ, blockQ, Ann.kill, List.find?_nil]
 change W S A5 _ _ _ [V.Obj.cells bxs 0 0]
 repeat apply W_seq
 refine W_region (by simp; first | exact ⟨rfl, rfl⟩ | exact rfl) ?_
 try simp only [thenQ, blockQ, Ann.kill, List.find?_nil]
 repeat apply W_seq
 refine W_region (by simp; first | exact ⟨rfl, rfl⟩ | exact rfl) ?_
 try simp only [thenQ, blockQ, Ann.kill, List.find?_nil]
 repeat apply W_seq
 refine W_block ?_
 refine W_loop (I := fun m st τ => ∃ k t G, m = n - k ∧ k ≤ n ∧ t.length = k ∧ Two 97 98 t ∧ st.vars = [(0, V.t x), (2, .t (B false)), (3, .t (.list (p.map fun q => .agg [I q]))), (4, .t (.str sb)), (5, .t (.str t)), (6, .t (I k))] ∧ τ = V.Obj.cells bxs 0 0 :: G) ?_ n _ _ ⟨0, [], [], rfl, Nat.zero_le _, rfl, (fun c hc => by simp at hc), by simp, rfl⟩
 rintro m ⟨vars, scr⟩ τ ⟨k, t, G, rfl, hk, htl, htw, hv, rfl⟩
 simp only at hv
 subst hv
 repeat apply W_seq
 refine W_region (by simp [g1, en]; first | exact ⟨rfl, rfl⟩ | exact rfl) ?_
 try simp only [thenQ, blockQ, Ann.kill, List.find?_nil]
 by_cases c1 : k < n
 ·repeat apply W_seq
  refine W_cond (t := true) (by simp [c1]) ?_
  simp only [if_true, if_false, Bool.false_eq_true]
  refine W_skip ?_
  try simp only [thenQ, blockQ, Ann.kill, List.find?_nil]
  repeat apply W_seq
  refine W_block ?_
  obtain ⟨q3, g3, a3', b3⟩ := get_place pl pb (k + 2) (by omega)
  obtain ⟨d, hd, ed⟩ := tmod_nat a3' 2 (by decide)
  have ed : q3.tmod 2 = (d : Int) := ed
  have w1 : IntKind.i64.wrap ((k : Int) + 2) = (k : Int) + 2 := IntWalk.i64_in _ (by omega)
  have w2 : (0 : Int) ≤ (k : Int) + 2 := by omega
  have w3 : ((k : Int) + 2).toNat = k + 2 := by omega
  have w4 : t.length + 1 ≤ 9223372036854775807 := by omega
  have r0 : (List.range 2)[0]? = some 0 := rfl
  have r1 : (List.range 2)[1]? = some 1 := rfl
  rcases par hd with rfl | rfl
  ·repeat apply W_seq
   refine W_region (by simp [w1, w2, w3, g3, ed, w4, r0, r1, sliceCells, repZero, fillV, setRange, getA]; first | exact ⟨rfl, rfl⟩ | exact rfl) ?_
   try simp only [thenQ, blockQ, Ann.kill, List.find?_nil]
   repeat apply W_seq
   refine W_region (by simp [IntWalk.i64_in ((k : Int) + 1) (by omega)]; first | exact ⟨rfl, rfl⟩ | exact rfl) ?_
   try simp only [thenQ, blockQ, Ann.kill, List.find?_nil]
   exact ⟨n - (k + 1), by omega, k + 1, t ++ [97], _, rfl, c1, by simp [htl], htw.app (.inl rfl), by simp, rfl⟩
  ·repeat apply W_seq
   refine W_region (by simp [w1, w2, w3, g3, ed, w4, r0, r1, sliceCells, repZero, fillV, setRange, getA]; first | exact ⟨rfl, rfl⟩ | exact rfl) ?_
   try simp only [thenQ, blockQ, Ann.kill, List.find?_nil]
   repeat apply W_seq
   refine W_region (by simp [IntWalk.i64_in ((k : Int) + 1) (by omega)]; first | exact ⟨rfl, rfl⟩ | exact rfl) ?_
   try simp only [thenQ, blockQ, Ann.kill, List.find?_nil]
   exact ⟨n - (k + 1), by omega, k + 1, t ++ [98], _, rfl, c1, by simp [htl], htw.app (.inr rfl), by simp, rfl⟩
 ·repeat apply W_seq
  refine W_cond (t := false) (by simp [c1]) ?_
  simp only [if_true, if_false, Bool.false_eq_true]
  repeat apply W_seq
  refine W_exit ?_
  try simp only [thenQ, blockQ, if_true, Ann.kill, List.find?_nil]
  obtain ⟨a, b, c, d, e, f1, f2, f3, f4, f5, hlen, hall⟩ := E.run t htw (by omega)
  repeat apply W_seq
  refine W_region (by simp [p1, getA, setA, gB1, gB2, gB3, gB4, sB1, sB2, sB3, sB4, lf0, lf1, lf2, lf3, lf4, lf5, lf6]; first | exact ⟨rfl, rfl⟩ | exact rfl) ?_
  try simp only [thenQ, blockQ, Ann.kill, List.find?_nil]
  repeat apply W_seq
  refine W_region (by simp [p2, getA, setA, gB1, gB2, gB3, gB4, sB1, sB2, sB3, sB4, lf0, lf1, lf2, lf3, lf4, lf5, lf6]; first | exact ⟨rfl, rfl⟩ | exact rfl) ?_
  try simp only [thenQ, blockQ, Ann.kill, List.find?_nil]
  repeat apply W_seq
  refine W_region (by simp [p3, getA, setA, gB1, gB2, gB3, gB4, sB1, sB2, sB3, sB4, lf0, lf1, lf2, lf3, lf4, lf5, lf6]; first | exact ⟨rfl, rfl⟩ | exact rfl) ?_
  try simp only [thenQ, blockQ, Ann.kill, List.find?_nil]
  repeat apply W_seq
  refine W_region (by simp [p4, getA, setA, gB1, gB2, gB3, gB4, sB1, sB2, sB3, sB4, lf0, lf1, lf2, lf3, lf4, lf5, lf6]; first | exact ⟨rfl, rfl⟩ | exact rfl) ?_
  try simp only [thenQ, blockQ, Ann.kill, List.find?_nil]
  repeat apply W_seq
  refine W_region (by simp [p5, getA, setA, gB1, gB2, gB3, gB4, sB1, sB2, sB3, sB4, lf0, lf1, lf2, lf3, lf4, lf5, lf6]; first | exact ⟨rfl, rfl⟩ | exact rfl) ?_
  try simp only [thenQ, blockQ, Ann.kill, List.find?_nil]
  repeat apply W_seq
  refine W_region (by simp; first | exact ⟨rfl, rfl⟩ | exact rfl) ?_
  try simp only [thenQ, blockQ, Ann.kill, List.find?_nil]
  repeat apply W_seq
  refine W_block ?_
  refine W_loop (I := fun m st τ => ∃ i, m = t.length + 1 - i ∧ i ≤ t.length + 1 ∧ st.vars = [(0, V.t x), (2, .t (B false)), (3, .t (.list (p.map fun q => .agg [I q]))), (4, .t (.str sb)), (5, .t (.str t)), (7, .ptr (G.length + 1) 0 0 1), (8, .ptr (G.length + 1 + 1) 0 0 1), (9, .ptr (G.length + 1 + 1 + 1) 0 0 1), (10, .ptr (G.length + 1 + 1 + 1 + 1) 0 0 1), (11, .ptr (G.length + 1 + 1 + 1 + 1 + 1) 0 0 1), (12, .t (I i))] ∧ τ = V.Obj.cells bxs 0 0 :: (G ++ [V.Obj.cells [.t (.list G1)] 0 0, V.Obj.cells [.t (.list G2)] 0 0, V.Obj.cells [.t (.list G3)] 0 0, V.Obj.cells [.t (.list G4)] 0 0, V.Obj.cells [.t (.list G5)] 0 0])) ?_ (t.length + 1) _ _ ⟨0, rfl, Nat.zero_le _, by simp, rfl⟩
  rintro m ⟨vars, scr⟩ τ ⟨i, rfl, hi, hv, rfl⟩
  simp only at hv
  subst hv
  repeat apply W_seq
  refine W_region (by simp; first | exact ⟨rfl, rfl⟩ | exact rfl) ?_
  try simp only [thenQ, blockQ, Ann.kill, List.find?_nil]
  by_cases c2 : i ≤ t.length
  ·repeat apply W_seq
   refine W_cond (t := true) (by simp [c2]) ?_
   simp only [if_true, if_false, Bool.false_eq_true]
   refine W_skip ?_
   try simp only [thenQ, blockQ, Ann.kill, List.find?_nil]
   repeat apply W_seq
   refine W_block ?_
   obtain ⟨e1, e2, e3⟩ := hall i c2
   have i1 := in_ld (l := a) i (by omega)
   have i2 := in_ld (l := b) i (by omega)
   have i3 := in_ld (l := c) i (by omega)
   have i4 := in_ld (l := d) i (by omega)
   have i5 := in_ld (l := e) i (by omega)
   rw [e1] at i1
   rw [e2] at i3
   rw [← e3] at i5
   have hz : ((i : Int) == 0) = (i == 0) := by
    cases i with
    | zero => rfl
    | succ j => simp; omega
   revert i1 i2 i3 i4 i5 hz
   generalize (i == 0) = Z
   generalize b.contains i = Bb
   generalize d.contains i = Dd
   intro i1 i2 i3 i4 i5 hz
   repeat apply W_seq
   refine W_region (by simp [getA, gB1, gB2, gB3, gB4, sB1, sB2, sB3, sB4, f1, i1, sliceCells, repZero, chunk]; first | exact ⟨rfl, rfl⟩ | exact rfl) ?_
   try simp only [thenQ, blockQ, Ann.kill, List.find?_nil]
   repeat apply W_seq
   refine W_region (by simp [getA, gB1, gB2, gB3, gB4, sB1, sB2, sB3, sB4, f2, i2, sliceCells, repZero, chunk]; first | exact ⟨rfl, rfl⟩ | exact rfl) ?_
   try simp only [thenQ, blockQ, Ann.kill, List.find?_nil]
   repeat apply W_seq
   refine W_region (by simp [getA, gB1, gB2, gB3, gB4, sB1, sB2, sB3, sB4, f3, i3, sliceCells, repZero, chunk]; first | exact ⟨rfl, rfl⟩ | exact rfl) ?_
   try simp only [thenQ, blockQ, Ann.kill, List.find?_nil]
   repeat apply W_seq
   refine W_region (by simp [getA, gB1, gB2, gB3, gB4, sB1, sB2, sB3, sB4, f4, i4, sliceCells, repZero, chunk]; first | exact ⟨rfl, rfl⟩ | exact rfl) ?_
   try simp only [thenQ, blockQ, Ann.kill, List.find?_nil]
   repeat apply W_seq
   refine W_region (by simp [getA, gB1, gB2, gB3, gB4, sB1, sB2, sB3, sB4, f5, i5, sliceCells, repZero, chunk]; first | exact ⟨rfl, rfl⟩ | exact rfl) ?_
   try simp only [thenQ, blockQ, Ann.kill, List.find?_nil]
   have wi : IntKind.i64.wrap ((i : Int) + 1) = (i : Int) + 1 := IntWalk.i64_in _ (by omega)
   cases Z <;> cases Bb <;> cases Dd
   ·repeat apply W_seq
    refine W_region (by simp [hz]; first | exact ⟨rfl, rfl⟩ | exact rfl) ?_
    try simp only [thenQ, blockQ, Ann.kill, List.find?_nil]
    repeat apply W_seq
    refine W_cond (t := false) (by simp) ?_
    simp only [if_true, if_false, Bool.false_eq_true]
    refine W_skip ?_
    try simp only [thenQ, blockQ, Ann.kill, List.find?_nil]
    repeat apply W_seq
    refine W_region (by simp [wi]; first | exact ⟨rfl, rfl⟩ | exact rfl) ?_
    try simp only [thenQ, blockQ, Ann.kill, List.find?_nil]
    exact ⟨t.length + 1 - (i + 1), by omega, i + 1, rfl, by omega, by simp, by simp⟩
   ·repeat apply W_seq
    refine W_region (by simp [hz]; first | exact ⟨rfl, rfl⟩ | exact rfl) ?_
    try simp only [thenQ, blockQ, Ann.kill, List.find?_nil]
    repeat apply W_seq
    refine W_cond (t := false) (by simp) ?_
    simp only [if_true, if_false, Bool.false_eq_true]
    refine W_skip ?_
    try simp only [thenQ, blockQ, Ann.kill, List.find?_nil]
    repeat apply W_seq
    refine W_region (by simp [wi]; first | exact ⟨rfl, rfl⟩ | exact rfl) ?_
    try simp only [thenQ, blockQ, Ann.kill, List.find?_nil]
    exact ⟨t.length + 1 - (i + 1), by omega, i + 1, rfl, by omega, by simp, by simp⟩
   ·repeat apply W_seq
    refine W_region (by simp [hz]; first | exact ⟨rfl, rfl⟩ | exact rfl) ?_
    try simp only [thenQ, blockQ, Ann.kill, List.find?_nil]
    repeat apply W_seq
    refine W_cond (t := false) (by simp) ?_
    simp only [if_true, if_false, Bool.false_eq_true]
    refine W_skip ?_
    try simp only [thenQ, blockQ, Ann.kill, List.find?_nil]
    repeat apply W_seq
    refine W_region (by simp [wi]; first | exact ⟨rfl, rfl⟩ | exact rfl) ?_
    try simp only [thenQ, blockQ, Ann.kill, List.find?_nil]
    exact ⟨t.length + 1 - (i + 1), by omega, i + 1, rfl, by omega, by simp, by simp⟩
   ·repeat apply W_seq
    refine W_region (by simp [hz]; first | exact ⟨rfl, rfl⟩ | exact rfl) ?_
    try simp only [thenQ, blockQ, Ann.kill, List.find?_nil]
    repeat apply W_seq
    refine W_cond (t := false) (by simp) ?_
    simp only [if_true, if_false, Bool.false_eq_true]
    refine W_skip ?_
    try simp only [thenQ, blockQ, Ann.kill, List.find?_nil]
    repeat apply W_seq
    refine W_region (by simp [wi]; first | exact ⟨rfl, rfl⟩ | exact rfl) ?_
    try simp only [thenQ, blockQ, Ann.kill, List.find?_nil]
    exact ⟨t.length + 1 - (i + 1), by omega, i + 1, rfl, by omega, by simp, by simp⟩
   ·repeat apply W_seq
    refine W_region (by simp [hz]; first | exact ⟨rfl, rfl⟩ | exact rfl) ?_
    try simp only [thenQ, blockQ, Ann.kill, List.find?_nil]
    repeat apply W_seq
    refine W_cond (t := false) (by simp) ?_
    simp only [if_true, if_false, Bool.false_eq_true]
    refine W_skip ?_
    try simp only [thenQ, blockQ, Ann.kill, List.find?_nil]
    repeat apply W_seq
    refine W_region (by simp [wi]; first | exact ⟨rfl, rfl⟩ | exact rfl) ?_
    try simp only [thenQ, blockQ, Ann.kill, List.find?_nil]
    exact ⟨t.length + 1 - (i + 1), by omega, i + 1, rfl, by omega, by simp, by simp⟩
   ·repeat apply W_seq
    refine W_region (by simp [hz]; first | exact ⟨rfl, rfl⟩ | exact rfl) ?_
    try simp only [thenQ, blockQ, Ann.kill, List.find?_nil]
    repeat apply W_seq
    refine W_cond (t := false) (by simp) ?_
    simp only [if_true, if_false, Bool.false_eq_true]
    refine W_skip ?_
    try simp only [thenQ, blockQ, Ann.kill, List.find?_nil]
    repeat apply W_seq
    refine W_region (by simp [wi]; first | exact ⟨rfl, rfl⟩ | exact rfl) ?_
    try simp only [thenQ, blockQ, Ann.kill, List.find?_nil]
    exact ⟨t.length + 1 - (i + 1), by omega, i + 1, rfl, by omega, by simp, by simp⟩
   ·repeat apply W_seq
    refine W_region (by simp [hz]; first | exact ⟨rfl, rfl⟩ | exact rfl) ?_
    try simp only [thenQ, blockQ, Ann.kill, List.find?_nil]
    repeat apply W_seq
    refine W_cond (t := false) (by simp) ?_
    simp only [if_true, if_false, Bool.false_eq_true]
    refine W_skip ?_
    try simp only [thenQ, blockQ, Ann.kill, List.find?_nil]
    repeat apply W_seq
    refine W_region (by simp [wi]; first | exact ⟨rfl, rfl⟩ | exact rfl) ?_
    try simp only [thenQ, blockQ, Ann.kill, List.find?_nil]
    exact ⟨t.length + 1 - (i + 1), by omega, i + 1, rfl, by omega, by simp, by simp⟩
   ·repeat apply W_seq
    refine W_region (by simp [hz]; first | exact ⟨rfl, rfl⟩ | exact rfl) ?_
    try simp only [thenQ, blockQ, Ann.kill, List.find?_nil]
    repeat apply W_seq
    refine W_cond (t := false) (by simp) ?_
    simp only [if_true, if_false, Bool.false_eq_true]
    refine W_skip ?_
    try simp only [thenQ, blockQ, Ann.kill, List.find?_nil]
    repeat apply W_seq
    refine W_region (by simp [wi]; first | exact ⟨rfl, rfl⟩ | exact rfl) ?_
    try simp only [thenQ, blockQ, Ann.kill, List.find?_nil]
    exact ⟨t.length + 1 - (i + 1), by omega, i + 1, rfl, by omega, by simp, by simp⟩
  ·repeat apply W_seq
   refine W_cond (t := false) (by simp [c2]) ?_
   simp only [if_true, if_false, Bool.false_eq_true]
   repeat apply W_seq
   refine W_exit ?_
   try simp only [thenQ, blockQ, if_true, Ann.kill, List.find?_nil]
   have g5 := E.ok
   have g9 := E.nothing
   repeat apply W_seq
   refine W_region (by simp [getA, gB1, gB2, gB3, gB4, sB1, sB2, sB3, sB4, g9, g5]; first | exact ⟨rfl, rfl⟩ | exact rfl) ?_
   try simp only [thenQ, blockQ, Ann.kill, List.find?_nil]
   refine W_ret ?_
   try simp only [thenQ, blockQ]
   simp [Tryz.f5]
end X
