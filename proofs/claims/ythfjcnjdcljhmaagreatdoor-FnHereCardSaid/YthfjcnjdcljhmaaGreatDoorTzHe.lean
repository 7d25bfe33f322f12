/- A part of the proof. No statement of the claim is in it. -/
import Derived.Test.YthfjcnjdcljhmaaGreatDoorTzHeA
import Derived.Test.YthfjcnjdcljhmaaGreatDoorTzHeB
import Derived.Test.YthfjcnjdcljhmaaGreatDoorTzHeC
import Derived.Test.YthfjcnjdcljhmaaGreatDoorTzHeD
open Go Go.V Go.Proofs
namespace X
set_option maxRecDepth 100000
set_option maxHeartbeats 4000000
set_option linter.unusedSimpArgs false
set_option linter.unusedVariables false
namespace TzHe
theorem lt9 {n : Nat} (h : n < 9) : n = 0 ∨ n = 1 ∨ n = 2 ∨ n = 3 ∨ n = 4 ∨ n = 5 ∨ n = 6 ∨ n = 7 ∨ n = 8 := by omega
theorem lt3 {n : Nat} (h : n < 3) : n = 0 ∨ n = 1 ∨ n = 2 := by omega
theorem dec_ld (k : Nat) (h : k < 9) (σ : Store) : LD S 20 [.t (I k)] σ = some (.t (.str [48 + k]), σ) := by
  rcases lt9 h with rfl | rfl | rfl | rfl | rfl | rfl | rfl | rfl | rfl
  · exact run_ld e20 rfl (A := A20) rfl rfl (ts := [_]) dec0 σ
  · exact run_ld e20 rfl (A := A20) rfl rfl (ts := [_]) dec1 σ
  · exact run_ld e20 rfl (A := A20) rfl rfl (ts := [_]) dec2 σ
  · exact run_ld e20 rfl (A := A20) rfl rfl (ts := [_]) dec3 σ
  · exact run_ld e20 rfl (A := A20) rfl rfl (ts := [_]) dec4 σ
  · exact run_ld e20 rfl (A := A20) rfl rfl (ts := [_]) dec5 σ
  · exact run_ld e20 rfl (A := A20) rfl rfl (ts := [_]) dec6 σ
  · exact run_ld e20 rfl (A := A20) rfl rfl (ts := [_]) dec7 σ
  · exact run_ld e20 rfl (A := A20) rfl rfl (ts := [_]) dec8 σ
theorem plain_ld (k : Nat) (h : k < 9) (σ : Store) : LD S 17 [.t (.str [83, 32, 45, 62, 32, 40, 32, 34, 97, 34, 32, 41, 42, 32, 123, 32, 64, 32, 61, 32, 48 + k, 32, 125, 32, 40, 32, 34, 98, 34, 32, 41, 42, 32, 59])] σ = some (.t (.agg [gH k]), σ) := by
  rcases lt9 h with rfl | rfl | rfl | rfl | rfl | rfl | rfl | rfl | rfl
  · exact run_ld e17 rfl (A := A17) rfl rfl (ts := [_]) plain0 σ
  · exact run_ld e17 rfl (A := A17) rfl rfl (ts := [_]) plain1 σ
  · exact run_ld e17 rfl (A := A17) rfl rfl (ts := [_]) plain2 σ
  · exact run_ld e17 rfl (A := A17) rfl rfl (ts := [_]) plain3 σ
  · exact run_ld e17 rfl (A := A17) rfl rfl (ts := [_]) plain4 σ
  · exact run_ld e17 rfl (A := A17) rfl rfl (ts := [_]) plain5 σ
  · exact run_ld e17 rfl (A := A17) rfl rfl (ts := [_]) plain6 σ
  · exact run_ld e17 rfl (A := A17) rfl rfl (ts := [_]) plain7 σ
  · exact run_ld e17 rfl (A := A17) rfl rfl (ts := [_]) plain8 σ
theorem gok_ld (k : Nat) (h : k < 9) (σ : Store) : LD S 21 [.t (.agg [gH k])] σ = some (.t (B true), σ) := by
  rcases lt9 h with rfl | rfl | rfl | rfl | rfl | rfl | rfl | rfl | rfl
  · exact run_ld e21 rfl (A := A21) rfl rfl (ts := [_]) gok0 σ
  · exact run_ld e21 rfl (A := A21) rfl rfl (ts := [_]) gok1 σ
  · exact run_ld e21 rfl (A := A21) rfl rfl (ts := [_]) gok2 σ
  · exact run_ld e21 rfl (A := A21) rfl rfl (ts := [_]) gok3 σ
  · exact run_ld e21 rfl (A := A21) rfl rfl (ts := [_]) gok4 σ
  · exact run_ld e21 rfl (A := A21) rfl rfl (ts := [_]) gok5 σ
  · exact run_ld e21 rfl (A := A21) rfl rfl (ts := [_]) gok6 σ
  · exact run_ld e21 rfl (A := A21) rfl rfl (ts := [_]) gok7 σ
  · exact run_ld e21 rfl (A := A21) rfl rfl (ts := [_]) gok8 σ
theorem rowa_ld (k : Nat) (h : k < 9) (σ : Store) : LD S 19 [.t (I k), .t (.str [97])] σ = some (.t (.str (List.replicate k 97)), σ) := by
  rcases lt9 h with rfl | rfl | rfl | rfl | rfl | rfl | rfl | rfl | rfl
  · exact run_ld e19 rfl (A := A19) rfl rfl (ts := [_, _]) rowa0 σ
  · exact run_ld e19 rfl (A := A19) rfl rfl (ts := [_, _]) rowa1 σ
  · exact run_ld e19 rfl (A := A19) rfl rfl (ts := [_, _]) rowa2 σ
  · exact run_ld e19 rfl (A := A19) rfl rfl (ts := [_, _]) rowa3 σ
  · exact run_ld e19 rfl (A := A19) rfl rfl (ts := [_, _]) rowa4 σ
  · exact run_ld e19 rfl (A := A19) rfl rfl (ts := [_, _]) rowa5 σ
  · exact run_ld e19 rfl (A := A19) rfl rfl (ts := [_, _]) rowa6 σ
  · exact run_ld e19 rfl (A := A19) rfl rfl (ts := [_, _]) rowa7 σ
  · exact run_ld e19 rfl (A := A19) rfl rfl (ts := [_, _]) rowa8 σ
theorem rowb_ld (k : Nat) (h : k < 3) (σ : Store) : LD S 19 [.t (I k), .t (.str [98])] σ = some (.t (.str (List.replicate k 98)), σ) := by
  rcases lt3 h with rfl | rfl | rfl
  · exact run_ld e19 rfl (A := A19) rfl rfl (ts := [_, _]) rowb0 σ
  · exact run_ld e19 rfl (A := A19) rfl rfl (ts := [_, _]) rowb1 σ
  · exact run_ld e19 rfl (A := A19) rfl rfl (ts := [_, _]) rowb2 σ
theorem acc_ld (n k m : Nat) (hn : n < 9) (hk : k < 9) (hm : m < 3) (hc : n = k ∨ m = k % 3) (σ : Store) : LD S 18 [.t (.agg [gH k]), .t (.str (List.replicate n 97 ++ List.replicate m 98))] σ = some (.t (B (Nat.beq n k)), σ) := by
  rcases lt9 hn with rfl | rfl | rfl | rfl | rfl | rfl | rfl | rfl | rfl <;> rcases lt9 hk with rfl | rfl | rfl | rfl | rfl | rfl | rfl | rfl | rfl <;> rcases lt3 hm with rfl | rfl | rfl
  · exact run_ld e18 rfl (A := A18) rfl rfl (ts := [_, _]) acc0_0_0 σ
  · exact run_ld e18 rfl (A := A18) rfl rfl (ts := [_, _]) acc0_0_1 σ
  · exact run_ld e18 rfl (A := A18) rfl rfl (ts := [_, _]) acc0_0_2 σ
  · exact absurd hc (by decide)
  · exact run_ld e18 rfl (A := A18) rfl rfl (ts := [_, _]) acc0_1_1 σ
  · exact absurd hc (by decide)
  · exact absurd hc (by decide)
  · exact absurd hc (by decide)
  · exact run_ld e18 rfl (A := A18) rfl rfl (ts := [_, _]) acc0_2_2 σ
  · exact run_ld e18 rfl (A := A18) rfl rfl (ts := [_, _]) acc0_3_0 σ
  · exact absurd hc (by decide)
  · exact absurd hc (by decide)
  · exact absurd hc (by decide)
  · exact run_ld e18 rfl (A := A18) rfl rfl (ts := [_, _]) acc0_4_1 σ
  · exact absurd hc (by decide)
  · exact absurd hc (by decide)
  · exact absurd hc (by decide)
  · exact run_ld e18 rfl (A := A18) rfl rfl (ts := [_, _]) acc0_5_2 σ
  · exact run_ld e18 rfl (A := A18) rfl rfl (ts := [_, _]) acc0_6_0 σ
  · exact absurd hc (by decide)
  · exact absurd hc (by decide)
  · exact absurd hc (by decide)
  · exact run_ld e18 rfl (A := A18) rfl rfl (ts := [_, _]) acc0_7_1 σ
  · exact absurd hc (by decide)
  · exact absurd hc (by decide)
  · exact absurd hc (by decide)
  · exact run_ld e18 rfl (A := A18) rfl rfl (ts := [_, _]) acc0_8_2 σ
  · exact run_ld e18 rfl (A := A18) rfl rfl (ts := [_, _]) acc1_0_0 σ
  · exact absurd hc (by decide)
  · exact absurd hc (by decide)
  · exact run_ld e18 rfl (A := A18) rfl rfl (ts := [_, _]) acc1_1_0 σ
  · exact run_ld e18 rfl (A := A18) rfl rfl (ts := [_, _]) acc1_1_1 σ
  · exact run_ld e18 rfl (A := A18) rfl rfl (ts := [_, _]) acc1_1_2 σ
  · exact absurd hc (by decide)
  · exact absurd hc (by decide)
  · exact run_ld e18 rfl (A := A18) rfl rfl (ts := [_, _]) acc1_2_2 σ
  · exact run_ld e18 rfl (A := A18) rfl rfl (ts := [_, _]) acc1_3_0 σ
  · exact absurd hc (by decide)
  · exact absurd hc (by decide)
  · exact absurd hc (by decide)
  · exact run_ld e18 rfl (A := A18) rfl rfl (ts := [_, _]) acc1_4_1 σ
  · exact absurd hc (by decide)
  · exact absurd hc (by decide)
  · exact absurd hc (by decide)
  · exact run_ld e18 rfl (A := A18) rfl rfl (ts := [_, _]) acc1_5_2 σ
  · exact run_ld e18 rfl (A := A18) rfl rfl (ts := [_, _]) acc1_6_0 σ
  · exact absurd hc (by decide)
  · exact absurd hc (by decide)
  · exact absurd hc (by decide)
  · exact run_ld e18 rfl (A := A18) rfl rfl (ts := [_, _]) acc1_7_1 σ
  · exact absurd hc (by decide)
  · exact absurd hc (by decide)
  · exact absurd hc (by decide)
  · exact run_ld e18 rfl (A := A18) rfl rfl (ts := [_, _]) acc1_8_2 σ
  · exact run_ld e18 rfl (A := A18) rfl rfl (ts := [_, _]) acc2_0_0 σ
  · exact absurd hc (by decide)
  · exact absurd hc (by decide)
  · exact absurd hc (by decide)
  · exact run_ld e18 rfl (A := A18) rfl rfl (ts := [_, _]) acc2_1_1 σ
  · exact absurd hc (by decide)
  · exact run_ld e18 rfl (A := A18) rfl rfl (ts := [_, _]) acc2_2_0 σ
  · exact run_ld e18 rfl (A := A18) rfl rfl (ts := [_, _]) acc2_2_1 σ
  · exact run_ld e18 rfl (A := A18) rfl rfl (ts := [_, _]) acc2_2_2 σ
  · exact run_ld e18 rfl (A := A18) rfl rfl (ts := [_, _]) acc2_3_0 σ
  · exact absurd hc (by decide)
  · exact absurd hc (by decide)
  · exact absurd hc (by decide)
  · exact run_ld e18 rfl (A := A18) rfl rfl (ts := [_, _]) acc2_4_1 σ
  · exact absurd hc (by decide)
  · exact absurd hc (by decide)
  · exact absurd hc (by decide)
  · exact run_ld e18 rfl (A := A18) rfl rfl (ts := [_, _]) acc2_5_2 σ
  · exact run_ld e18 rfl (A := A18) rfl rfl (ts := [_, _]) acc2_6_0 σ
  · exact absurd hc (by decide)
  · exact absurd hc (by decide)
  · exact absurd hc (by decide)
  · exact run_ld e18 rfl (A := A18) rfl rfl (ts := [_, _]) acc2_7_1 σ
  · exact absurd hc (by decide)
  · exact absurd hc (by decide)
  · exact absurd hc (by decide)
  · exact run_ld e18 rfl (A := A18) rfl rfl (ts := [_, _]) acc2_8_2 σ
  · exact run_ld e18 rfl (A := A18) rfl rfl (ts := [_, _]) acc3_0_0 σ
  · exact absurd hc (by decide)
  · exact absurd hc (by decide)
  · exact absurd hc (by decide)
  · exact run_ld e18 rfl (A := A18) rfl rfl (ts := [_, _]) acc3_1_1 σ
  · exact absurd hc (by decide)
  · exact absurd hc (by decide)
  · exact absurd hc (by decide)
  · exact run_ld e18 rfl (A := A18) rfl rfl (ts := [_, _]) acc3_2_2 σ
  · exact run_ld e18 rfl (A := A18) rfl rfl (ts := [_, _]) acc3_3_0 σ
  · exact run_ld e18 rfl (A := A18) rfl rfl (ts := [_, _]) acc3_3_1 σ
  · exact run_ld e18 rfl (A := A18) rfl rfl (ts := [_, _]) acc3_3_2 σ
  · exact absurd hc (by decide)
  · exact run_ld e18 rfl (A := A18) rfl rfl (ts := [_, _]) acc3_4_1 σ
  · exact absurd hc (by decide)
  · exact absurd hc (by decide)
  · exact absurd hc (by decide)
  · exact run_ld e18 rfl (A := A18) rfl rfl (ts := [_, _]) acc3_5_2 σ
  · exact run_ld e18 rfl (A := A18) rfl rfl (ts := [_, _]) acc3_6_0 σ
  · exact absurd hc (by decide)
  · exact absurd hc (by decide)
  · exact absurd hc (by decide)
  · exact run_ld e18 rfl (A := A18) rfl rfl (ts := [_, _]) acc3_7_1 σ
  · exact absurd hc (by decide)
  · exact absurd hc (by decide)
  · exact absurd hc (by decide)
  · exact run_ld e18 rfl (A := A18) rfl rfl (ts := [_, _]) acc3_8_2 σ
  · exact run_ld e18 rfl (A := A18) rfl rfl (ts := [_, _]) acc4_0_0 σ
  · exact absurd hc (by decide)
  · exact absurd hc (by decide)
  · exact absurd hc (by decide)
  · exact run_ld e18 rfl (A := A18) rfl rfl (ts := [_, _]) acc4_1_1 σ
  · exact absurd hc (by decide)
  · exact absurd hc (by decide)
  · exact absurd hc (by decide)
  · exact run_ld e18 rfl (A := A18) rfl rfl (ts := [_, _]) acc4_2_2 σ
  · exact run_ld e18 rfl (A := A18) rfl rfl (ts := [_, _]) acc4_3_0 σ
  · exact absurd hc (by decide)
  · exact absurd hc (by decide)
  · exact run_ld e18 rfl (A := A18) rfl rfl (ts := [_, _]) acc4_4_0 σ
  · exact run_ld e18 rfl (A := A18) rfl rfl (ts := [_, _]) acc4_4_1 σ
  · exact run_ld e18 rfl (A := A18) rfl rfl (ts := [_, _]) acc4_4_2 σ
  · exact absurd hc (by decide)
  · exact absurd hc (by decide)
  · exact run_ld e18 rfl (A := A18) rfl rfl (ts := [_, _]) acc4_5_2 σ
  · exact run_ld e18 rfl (A := A18) rfl rfl (ts := [_, _]) acc4_6_0 σ
  · exact absurd hc (by decide)
  · exact absurd hc (by decide)
  · exact absurd hc (by decide)
  · exact run_ld e18 rfl (A := A18) rfl rfl (ts := [_, _]) acc4_7_1 σ
  · exact absurd hc (by decide)
  · exact absurd hc (by decide)
  · exact absurd hc (by decide)
  · exact run_ld e18 rfl (A := A18) rfl rfl (ts := [_, _]) acc4_8_2 σ
  · exact run_ld e18 rfl (A := A18) rfl rfl (ts := [_, _]) acc5_0_0 σ
  · exact absurd hc (by decide)
  · exact absurd hc (by decide)
  · exact absurd hc (by decide)
  · exact run_ld e18 rfl (A := A18) rfl rfl (ts := [_, _]) acc5_1_1 σ
  · exact absurd hc (by decide)
  · exact absurd hc (by decide)
  · exact absurd hc (by decide)
  · exact run_ld e18 rfl (A := A18) rfl rfl (ts := [_, _]) acc5_2_2 σ
  · exact run_ld e18 rfl (A := A18) rfl rfl (ts := [_, _]) acc5_3_0 σ
  · exact absurd hc (by decide)
  · exact absurd hc (by decide)
  · exact absurd hc (by decide)
  · exact run_ld e18 rfl (A := A18) rfl rfl (ts := [_, _]) acc5_4_1 σ
  · exact absurd hc (by decide)
  · exact run_ld e18 rfl (A := A18) rfl rfl (ts := [_, _]) acc5_5_0 σ
  · exact run_ld e18 rfl (A := A18) rfl rfl (ts := [_, _]) acc5_5_1 σ
  · exact run_ld e18 rfl (A := A18) rfl rfl (ts := [_, _]) acc5_5_2 σ
  · exact run_ld e18 rfl (A := A18) rfl rfl (ts := [_, _]) acc5_6_0 σ
  · exact absurd hc (by decide)
  · exact absurd hc (by decide)
  · exact absurd hc (by decide)
  · exact run_ld e18 rfl (A := A18) rfl rfl (ts := [_, _]) acc5_7_1 σ
  · exact absurd hc (by decide)
  · exact absurd hc (by decide)
  · exact absurd hc (by decide)
  · exact run_ld e18 rfl (A := A18) rfl rfl (ts := [_, _]) acc5_8_2 σ
  · exact run_ld e18 rfl (A := A18) rfl rfl (ts := [_, _]) acc6_0_0 σ
  · exact absurd hc (by decide)
  · exact absurd hc (by decide)
  · exact absurd hc (by decide)
  · exact run_ld e18 rfl (A := A18) rfl rfl (ts := [_, _]) acc6_1_1 σ
  · exact absurd hc (by decide)
  · exact absurd hc (by decide)
  · exact absurd hc (by decide)
  · exact run_ld e18 rfl (A := A18) rfl rfl (ts := [_, _]) acc6_2_2 σ
  · exact run_ld e18 rfl (A := A18) rfl rfl (ts := [_, _]) acc6_3_0 σ
  · exact absurd hc (by decide)
  · exact absurd hc (by decide)
  · exact absurd hc (by decide)
  · exact run_ld e18 rfl (A := A18) rfl rfl (ts := [_, _]) acc6_4_1 σ
  · exact absurd hc (by decide)
  · exact absurd hc (by decide)
  · exact absurd hc (by decide)
  · exact run_ld e18 rfl (A := A18) rfl rfl (ts := [_, _]) acc6_5_2 σ
  · exact run_ld e18 rfl (A := A18) rfl rfl (ts := [_, _]) acc6_6_0 σ
  · exact run_ld e18 rfl (A := A18) rfl rfl (ts := [_, _]) acc6_6_1 σ
  · exact run_ld e18 rfl (A := A18) rfl rfl (ts := [_, _]) acc6_6_2 σ
  · exact absurd hc (by decide)
  · exact run_ld e18 rfl (A := A18) rfl rfl (ts := [_, _]) acc6_7_1 σ
  · exact absurd hc (by decide)
  · exact absurd hc (by decide)
  · exact absurd hc (by decide)
  · exact run_ld e18 rfl (A := A18) rfl rfl (ts := [_, _]) acc6_8_2 σ
  · exact run_ld e18 rfl (A := A18) rfl rfl (ts := [_, _]) acc7_0_0 σ
  · exact absurd hc (by decide)
  · exact absurd hc (by decide)
  · exact absurd hc (by decide)
  · exact run_ld e18 rfl (A := A18) rfl rfl (ts := [_, _]) acc7_1_1 σ
  · exact absurd hc (by decide)
  · exact absurd hc (by decide)
  · exact absurd hc (by decide)
  · exact run_ld e18 rfl (A := A18) rfl rfl (ts := [_, _]) acc7_2_2 σ
  · exact run_ld e18 rfl (A := A18) rfl rfl (ts := [_, _]) acc7_3_0 σ
  · exact absurd hc (by decide)
  · exact absurd hc (by decide)
  · exact absurd hc (by decide)
  · exact run_ld e18 rfl (A := A18) rfl rfl (ts := [_, _]) acc7_4_1 σ
  · exact absurd hc (by decide)
  · exact absurd hc (by decide)
  · exact absurd hc (by decide)
  · exact run_ld e18 rfl (A := A18) rfl rfl (ts := [_, _]) acc7_5_2 σ
  · exact run_ld e18 rfl (A := A18) rfl rfl (ts := [_, _]) acc7_6_0 σ
  · exact absurd hc (by decide)
  · exact absurd hc (by decide)
  · exact run_ld e18 rfl (A := A18) rfl rfl (ts := [_, _]) acc7_7_0 σ
  · exact run_ld e18 rfl (A := A18) rfl rfl (ts := [_, _]) acc7_7_1 σ
  · exact run_ld e18 rfl (A := A18) rfl rfl (ts := [_, _]) acc7_7_2 σ
  · exact absurd hc (by decide)
  · exact absurd hc (by decide)
  · exact run_ld e18 rfl (A := A18) rfl rfl (ts := [_, _]) acc7_8_2 σ
  · exact run_ld e18 rfl (A := A18) rfl rfl (ts := [_, _]) acc8_0_0 σ
  · exact absurd hc (by decide)
  · exact absurd hc (by decide)
  · exact absurd hc (by decide)
  · exact run_ld e18 rfl (A := A18) rfl rfl (ts := [_, _]) acc8_1_1 σ
  · exact absurd hc (by decide)
  · exact absurd hc (by decide)
  · exact absurd hc (by decide)
  · exact run_ld e18 rfl (A := A18) rfl rfl (ts := [_, _]) acc8_2_2 σ
  · exact run_ld e18 rfl (A := A18) rfl rfl (ts := [_, _]) acc8_3_0 σ
  · exact absurd hc (by decide)
  · exact absurd hc (by decide)
  · exact absurd hc (by decide)
  · exact run_ld e18 rfl (A := A18) rfl rfl (ts := [_, _]) acc8_4_1 σ
  · exact absurd hc (by decide)
  · exact absurd hc (by decide)
  · exact absurd hc (by decide)
  · exact run_ld e18 rfl (A := A18) rfl rfl (ts := [_, _]) acc8_5_2 σ
  · exact run_ld e18 rfl (A := A18) rfl rfl (ts := [_, _]) acc8_6_0 σ
  · exact absurd hc (by decide)
  · exact absurd hc (by decide)
  · exact absurd hc (by decide)
  · exact run_ld e18 rfl (A := A18) rfl rfl (ts := [_, _]) acc8_7_1 σ
  · exact absurd hc (by decide)
  · exact run_ld e18 rfl (A := A18) rfl rfl (ts := [_, _]) acc8_8_0 σ
  · exact run_ld e18 rfl (A := A18) rfl rfl (ts := [_, _]) acc8_8_1 σ
  · exact run_ld e18 rfl (A := A18) rfl rfl (ts := [_, _]) acc8_8_2 σ
theorem he_lv {x : T} {l : List Int} (hx : BytesT x l) : ∃ σ', LV S 5 [.t x] [] = some (.t (B true), σ') := by
  refine LV_bodyE (A := A5) rfl Tryz.func5 rfl ?_
  repeat apply W_seq
  refine W_region (by simp; first | exact ⟨rfl, rfl⟩ | exact rfl) ?_
  try simp only [thenQ, blockQ, Ann.kill, List.find?_nil]
  repeat apply W_seq
  refine W_region (by simp [big_ld hx]; first | exact ⟨rfl, rfl⟩ | exact rfl) ?_
  try simp only [thenQ, blockQ, Ann.kill, List.find?_nil]
  by_cases h1 : (1048576 : Int) < l.length
  · repeat apply W_seq
    refine W_cond (t := true) (by simp [h1]) ?_
    simp only [if_true, if_false, Bool.false_eq_true]
    repeat apply W_seq
    refine W_region (by simp; first | exact ⟨rfl, rfl⟩ | exact rfl) ?_
    try simp only [thenQ, blockQ, Ann.kill, List.find?_nil]
    refine W_ret ?_
    try simp only [thenQ, blockQ]
    simp [Tryz.f5]
  repeat apply W_seq
  refine W_cond (t := false) (by simp [h1]) ?_
  simp only [if_true, if_false, Bool.false_eq_true]
  refine W_skip ?_
  try simp only [thenQ, blockQ, Ann.kill, List.find?_nil]
  obtain ⟨p, pl, pb, hp⟩ := places_ld hx (by omega)
  obtain ⟨q0, g0, a0', b0⟩ := get_place pl pb 0 (by decide)
  obtain ⟨q1, g1, a1', b1⟩ := get_place pl pb 1 (by decide)
  obtain ⟨q2, g2, a2', b2⟩ := get_place pl pb 2 (by decide)
  obtain ⟨n, hn, en⟩ := tmod_nat a0' 9 (by decide)
  obtain ⟨k2, hk2, ek⟩ := tmod_nat a2' 9 (by decide)
  obtain ⟨m, hm, em⟩ := tmod_nat a2' 3 (by decide)
  have en : q0.tmod 9 = (n : Int) := en
  have ek : q2.tmod 9 = (k2 : Int) := ek
  have em : q2.tmod 3 = (m : Int) := em
  have hmk : m = k2 % 3 := by
    have e1 := Int.tmod_eq_emod_of_nonneg (b := 9) a2'
    have e2 := Int.tmod_eq_emod_of_nonneg (b := 3) a2'
    omega
  repeat apply W_seq
  refine W_region (by simp [hp]; first | exact ⟨rfl, rfl⟩ | exact rfl) ?_
  try simp only [thenQ, blockQ, Ann.kill, List.find?_nil]
  repeat apply W_seq
  refine W_region (by simp [g0, en]; first | exact ⟨rfl, rfl⟩ | exact rfl) ?_
  try simp only [thenQ, blockQ, Ann.kill, List.find?_nil]
  repeat apply W_seq
  refine W_region (by simp; first | exact ⟨rfl, rfl⟩ | exact rfl) ?_
  try simp only [thenQ, blockQ, Ann.kill, List.find?_nil]
  repeat apply W_seq
  refine W_region (by simp [g1]; first | exact ⟨rfl, rfl⟩ | exact rfl) ?_
  try simp only [thenQ, blockQ, Ann.kill, List.find?_nil]
  by_cases h4 : q1.tmod 4 = 0
  · repeat apply W_seq
    refine W_cond (t := true) (by simp [h4]) ?_
    simp only [if_true, if_false, Bool.false_eq_true]
    repeat apply W_seq
    refine W_region (by simp [g2, ek]; first | exact ⟨rfl, rfl⟩ | exact rfl) ?_
    try simp only [thenQ, blockQ, Ann.kill, List.find?_nil]
    repeat apply W_seq
    refine W_region (by simp [dec_ld k2 hk2, plain_ld k2 hk2]; first | exact ⟨rfl, rfl⟩ | exact rfl) ?_
    try simp only [thenQ, blockQ, Ann.kill, List.find?_nil]
    have hk := hk2
    have hc : n = k2 ∨ m = k2 % 3 := .inr hmk
    repeat apply W_seq
    refine W_region (by simp [g2, em, rowa_ld n hn, rowb_ld m hm, show n + m ≤ 9223372036854775807 by omega]; first | exact ⟨rfl, rfl⟩ | exact rfl) ?_
    try simp only [thenQ, blockQ, Ann.kill, List.find?_nil]
    by_cases hnm : n = k2
    · subst hnm
      repeat apply W_seq
      refine W_region (by simp [acc_ld n n m hn hn hm (.inl rfl), gok_ld n hn]; first | exact ⟨rfl, rfl⟩ | exact rfl) ?_
      try simp only [thenQ, blockQ, Ann.kill, List.find?_nil]
      refine W_ret ?_
      try simp only [thenQ, blockQ]
      simp [Tryz.f5]
    · have hb : Nat.beq n k2 = false := by
        cases e : Nat.beq n k2 with
        | false => rfl
        | true => exact absurd (Nat.eq_of_beq_eq_true e) hnm
      have hnm' : ((n : Int) == (k2 : Int)) = false := by
        cases e : ((n : Int) == (k2 : Int)) with
        | false => rfl
        | true => exact absurd (by have := eq_of_beq e; omega) hnm
      repeat apply W_seq
      refine W_region (by simp [acc_ld n k2 m hn hk hm hc, hb, gok_ld k2 hk, hnm, hnm']; first | exact ⟨rfl, rfl⟩ | exact rfl) ?_
      try simp only [thenQ, blockQ, Ann.kill, List.find?_nil]
      refine W_ret ?_
      try simp only [thenQ, blockQ]
      simp [Tryz.f5]
  · repeat apply W_seq
    refine W_cond (t := false) (by simp [h4]) ?_
    simp only [if_true, if_false, Bool.false_eq_true]
    refine W_skip ?_
    try simp only [thenQ, blockQ, Ann.kill, List.find?_nil]
    repeat apply W_seq
    refine W_region (by simp [dec_ld n hn, plain_ld n hn]; first | exact ⟨rfl, rfl⟩ | exact rfl) ?_
    try simp only [thenQ, blockQ, Ann.kill, List.find?_nil]
    repeat apply W_seq
    refine W_region (by simp [g2, em, rowa_ld n hn, rowb_ld m hm, show n + m ≤ 9223372036854775807 by omega]; first | exact ⟨rfl, rfl⟩ | exact rfl) ?_
    try simp only [thenQ, blockQ, Ann.kill, List.find?_nil]
    repeat apply W_seq
    refine W_region (by simp [acc_ld n n m hn hn hm (.inl rfl), gok_ld n hn]; first | exact ⟨rfl, rfl⟩ | exact rfl) ?_
    try simp only [thenQ, blockQ, Ann.kill, List.find?_nil]
    refine W_ret ?_
    try simp only [thenQ, blockQ]
    simp [Tryz.f5]
end TzHe
end X
