/- Runs of the engine at the grammars of a law. By a printer of this session's. No statement of the claim is in it. -/
import Derived.Test.YtognnaobhjaoeaaGreatDoorVEeD
open Go Go.V Go.Proofs
namespace X
set_option maxRecDepth 100000
set_option linter.unusedVariables false
def g_ea0 : List T := [(.agg [(.str [83]), (.list []), (.list [(.agg [(.list [(sy 1 [97]), (sy 3 [120, 48])])])])]), (.agg [(.str [120, 48]), (.list []), (.list [(.agg [.nils]), (.agg [(.list [(sy 1 [98]), (sy 3 [120, 48])])])])])]
def ra_ea0 : List (List Nat × Nat) := [([83], 0), ([120, 48], 1)]
def m15_ea0 : List (List T × T) := []
def m16_ea0 : List (List T × T) := []
theorem gok_ea0 : frunX tab 100000 x13 [.t (.agg [.list g_ea0])] = some (.bool true) := by kernel_rfl
theorem rl_ea0_0 : frunX tab 100000 x23 [.t (.agg [.list g_ea0]), .t (.str [83])] = some (.int .i64 (.ofNat 0)) := by kernel_rfl
theorem rl_ea0_1 : frunX tab 100000 x23 [.t (.agg [.list g_ea0]), .t (.str [120, 48])] = some (.int .i64 (.ofNat 1)) := by kernel_rfl
theorem kok_ea0 : KOk g_ea0 ra_ea0 m15_ea0 m16_ea0 where
 gok := gok_ea0
 rule := fun p hp => by
  simp only [ra_ea0, List.mem_cons, List.not_mem_nil, or_false] at hp
  rcases hp with rfl | rfl
  ·exact rl_ea0_0
  ·exact rl_ea0_1

 sets := fun p hp => by simp [m15_ea0] at hp
 exprs := fun p hp => by simp [m16_ea0] at hp
noncomputable def K_ea0 : Nats := KG g_ea0 ra_ea0 m15_ea0 m16_ea0
theorem nat_ea0 : NatOk K_ea0 := KG_ok kok_ea0
theorem pl_ea0 : frunX tab 100000 x8 [.t (.str [83, 32, 45, 62, 32, 34, 97, 34, 32, 40, 32, 34, 98, 34, 32, 41, 42, 32, 59])] = some (.agg [.list g_ea0]) := by kernel_rfl
theorem plain_ea0 (σ : Store) : LD S 8 [.t (.str [83, 32, 45, 62, 32, 34, 97, 34, 32, 40, 32, 34, 98, 34, 32, 41, 42, 32, 59])] σ = some (.t (.agg [.list g_ea0]), σ) := run_ld e8 rfl (A := A8) rfl rfl (ts := [_]) pl_ea0 σ
noncomputable def ck_ea0 (t : List Nat) : Bool := accB K_ea0 g_ea0 [83] t (accX 0 t)
theorem c_ea0_0 : (txt 97 98 0).all ck_ea0 = true := by kernel_rfl
theorem c_ea0_1 : (txt 97 98 1).all ck_ea0 = true := by kernel_rfl
theorem c_ea0_2 : (txt 97 98 2).all ck_ea0 = true := by kernel_rfl
theorem c_ea0_3 : (txt 97 98 3).all ck_ea0 = true := by kernel_rfl
theorem c_ea0_4 : (txt 97 98 4).all ck_ea0 = true := by kernel_rfl
theorem c_ea0_5 : (txt 97 98 5).all ck_ea0 = true := by kernel_rfl
theorem ca_ea0 (t : List Nat) (h : Two 97 98 t) (hn : t.length ≤ 5) : ck_ea0 t = true := by
 have : t.length = 0 ∨ t.length = 1 ∨ t.length = 2 ∨ t.length = 3 ∨ t.length = 4 ∨ t.length = 5 := by omega
 rcases this with e | e | e | e | e | e
 ·exact all_txt c_ea0_0 e h
 ·exact all_txt c_ea0_1 e h
 ·exact all_txt c_ea0_2 e h
 ·exact all_txt c_ea0_3 e h
 ·exact all_txt c_ea0_4 e h
 ·exact all_txt c_ea0_5 e h
theorem acc_ea0 (t : List Nat) (h : Two 97 98 t) (hn : t.length ≤ 5) (σ : Store) : LD S 9 [.t (.agg [.list g_ea0]), .t (.str t)] σ = some (.t (B (accX 0 t)), σ) := acc_of nat_ea0 (ca_ea0 t h hn) σ
end X
