/- Runs of the engine at the grammars of a law. By a printer of this session's. No statement of the claim is in it. -/
import Derived.Test.YtognnaobhjaoeaaGreatDoorVEeD
open Go Go.V Go.Proofs
namespace X
set_option maxRecDepth 100000
set_option linter.unusedVariables false
def g_ec20 : List T := [(.agg [(.str [83]), (.list []), (.list [(.agg [(.list [(sy 3 [65])])]), (.agg [(.list [(sy 3 [66])])])])]), (.agg [(.str [65]), (.list []), (.list [(.agg [(.list [(sy 1 [97, 98])])]), (.agg [(.list [(sy 1 [98, 97])])])])]), (.agg [(.str [66]), (.list []), (.list [(.agg [(.list [(sy 1 [97]), (sy 3 [120, 48])])])])]), (.agg [(.str [120, 48]), (.list []), (.list [(.agg [.nils]), (.agg [(.list [(sy 1 [98]), (sy 3 [120, 48])])])])])]
def ra_ec20 : List (List Nat × Nat) := [([83], 0), ([65], 1), ([66], 2), ([120, 48], 3)]
def m15_ec20 : List (List T × T) := []
def m16_ec20 : List (List T × T) := []
theorem gok_ec20 : frunX tab 100000 x13 [.t (.agg [.list g_ec20])] = some (.bool true) := by kernel_rfl
theorem rl_ec20_0 : frunX tab 100000 x23 [.t (.agg [.list g_ec20]), .t (.str [83])] = some (.int .i64 (.ofNat 0)) := by kernel_rfl
theorem rl_ec20_1 : frunX tab 100000 x23 [.t (.agg [.list g_ec20]), .t (.str [65])] = some (.int .i64 (.ofNat 1)) := by kernel_rfl
theorem rl_ec20_2 : frunX tab 100000 x23 [.t (.agg [.list g_ec20]), .t (.str [66])] = some (.int .i64 (.ofNat 2)) := by kernel_rfl
theorem rl_ec20_3 : frunX tab 100000 x23 [.t (.agg [.list g_ec20]), .t (.str [120, 48])] = some (.int .i64 (.ofNat 3)) := by kernel_rfl
theorem kok_ec20 : KOk g_ec20 ra_ec20 m15_ec20 m16_ec20 where
 gok := gok_ec20
 rule := fun p hp => by
  simp only [ra_ec20, List.mem_cons, List.not_mem_nil, or_false] at hp
  rcases hp with rfl | rfl | rfl | rfl
  ·exact rl_ec20_0
  ·exact rl_ec20_1
  ·exact rl_ec20_2
  ·exact rl_ec20_3

 sets := fun p hp => by simp [m15_ec20] at hp
 exprs := fun p hp => by simp [m16_ec20] at hp
noncomputable def K_ec20 : Nats := KG g_ec20 ra_ec20 m15_ec20 m16_ec20
theorem nat_ec20 : NatOk K_ec20 := KG_ok kok_ec20
theorem pl_ec20 : frunX tab 100000 x8 [.t (.str [83, 32, 45, 62, 32, 65, 32, 124, 32, 66, 32, 59, 32, 65, 32, 45, 62, 32, 34, 97, 98, 34, 32, 124, 32, 34, 98, 97, 34, 32, 59, 32, 66, 32, 45, 62, 32, 34, 97, 34, 32, 40, 32, 34, 98, 34, 32, 41, 42, 32, 59])] = some (.agg [.list g_ec20]) := by kernel_rfl
theorem plain_ec20 (σ : Store) : LD S 8 [.t (.str [83, 32, 45, 62, 32, 65, 32, 124, 32, 66, 32, 59, 32, 65, 32, 45, 62, 32, 34, 97, 98, 34, 32, 124, 32, 34, 98, 97, 34, 32, 59, 32, 66, 32, 45, 62, 32, 34, 97, 34, 32, 40, 32, 34, 98, 34, 32, 41, 42, 32, 59])] σ = some (.t (.agg [.list g_ec20]), σ) := run_ld e8 rfl (A := A8) rfl rfl (ts := [_]) pl_ec20 σ
noncomputable def ck_ec20 (t : List Nat) : Bool := accB K_ec20 g_ec20 [83] t (accX 2 t || accX 0 t)
theorem c_ec20_0 : (txt 97 98 0).all ck_ec20 = true := by kernel_rfl
theorem c_ec20_1 : (txt 97 98 1).all ck_ec20 = true := by kernel_rfl
theorem c_ec20_2 : (txt 97 98 2).all ck_ec20 = true := by kernel_rfl
theorem c_ec20_3 : (txt 97 98 3).all ck_ec20 = true := by kernel_rfl
theorem c_ec20_4 : (txt 97 98 4).all ck_ec20 = true := by kernel_rfl
theorem c_ec20_5 : (txt 97 98 5).all ck_ec20 = true := by kernel_rfl
theorem ca_ec20 (t : List Nat) (h : Two 97 98 t) (hn : t.length ≤ 5) : ck_ec20 t = true := by
 have : t.length = 0 ∨ t.length = 1 ∨ t.length = 2 ∨ t.length = 3 ∨ t.length = 4 ∨ t.length = 5 := by omega
 rcases this with e | e | e | e | e | e
 ·exact all_txt c_ec20_0 e h
 ·exact all_txt c_ec20_1 e h
 ·exact all_txt c_ec20_2 e h
 ·exact all_txt c_ec20_3 e h
 ·exact all_txt c_ec20_4 e h
 ·exact all_txt c_ec20_5 e h
theorem acc_ec20 (t : List Nat) (h : Two 97 98 t) (hn : t.length ≤ 5) (σ : Store) : LD S 9 [.t (.agg [.list g_ec20]), .t (.str t)] σ = some (.t (B (accX 2 t || accX 0 t)), σ) := acc_of nat_ec20 (ca_ec20 t h hn) σ
end X
