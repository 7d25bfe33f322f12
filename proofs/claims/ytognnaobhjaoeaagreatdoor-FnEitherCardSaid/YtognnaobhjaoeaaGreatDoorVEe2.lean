/- Runs of the engine at the grammars of a law. By a printer of this session's. No statement of the claim is in it. -/
import Derived.Test.YtognnaobhjaoeaaGreatDoorVEeD
open Go Go.V Go.Proofs
namespace X
set_option maxRecDepth 100000
set_option linter.unusedVariables false
def g_ea2 : List T := [(.agg [(.str [83]), (.list []), (.list [(.agg [(.list [(sy 1 [97, 98])])]), (.agg [(.list [(sy 1 [98, 97])])])])])]
def ra_ea2 : List (List Nat × Nat) := [([83], 0)]
def m15_ea2 : List (List T × T) := []
def m16_ea2 : List (List T × T) := []
theorem gok_ea2 : frunX tab 100000 x13 [.t (.agg [.list g_ea2])] = some (.bool true) := by kernel_rfl
theorem rl_ea2_0 : frunX tab 100000 x23 [.t (.agg [.list g_ea2]), .t (.str [83])] = some (.int .i64 (.ofNat 0)) := by kernel_rfl
theorem kok_ea2 : KOk g_ea2 ra_ea2 m15_ea2 m16_ea2 where
 gok := gok_ea2
 rule := fun p hp => by
  simp only [ra_ea2, List.mem_cons, List.not_mem_nil, or_false] at hp
  rcases hp with rfl
  ·exact rl_ea2_0

 sets := fun p hp => by simp [m15_ea2] at hp
 exprs := fun p hp => by simp [m16_ea2] at hp
noncomputable def K_ea2 : Nats := KG g_ea2 ra_ea2 m15_ea2 m16_ea2
theorem nat_ea2 : NatOk K_ea2 := KG_ok kok_ea2
theorem pl_ea2 : frunX tab 100000 x8 [.t (.str [83, 32, 45, 62, 32, 34, 97, 98, 34, 32, 124, 32, 34, 98, 97, 34, 32, 59])] = some (.agg [.list g_ea2]) := by kernel_rfl
theorem plain_ea2 (σ : Store) : LD S 8 [.t (.str [83, 32, 45, 62, 32, 34, 97, 98, 34, 32, 124, 32, 34, 98, 97, 34, 32, 59])] σ = some (.t (.agg [.list g_ea2]), σ) := run_ld e8 rfl (A := A8) rfl rfl (ts := [_]) pl_ea2 σ
noncomputable def ck_ea2 (t : List Nat) : Bool := accB K_ea2 g_ea2 [83] t (accX 2 t)
theorem c_ea2_0 : (txt 97 98 0).all ck_ea2 = true := by kernel_rfl
theorem c_ea2_1 : (txt 97 98 1).all ck_ea2 = true := by kernel_rfl
theorem c_ea2_2 : (txt 97 98 2).all ck_ea2 = true := by kernel_rfl
theorem c_ea2_3 : (txt 97 98 3).all ck_ea2 = true := by kernel_rfl
theorem c_ea2_4 : (txt 97 98 4).all ck_ea2 = true := by kernel_rfl
theorem c_ea2_5 : (txt 97 98 5).all ck_ea2 = true := by kernel_rfl
theorem ca_ea2 (t : List Nat) (h : Two 97 98 t) (hn : t.length ≤ 5) : ck_ea2 t = true := by
 have : t.length = 0 ∨ t.length = 1 ∨ t.length = 2 ∨ t.length = 3 ∨ t.length = 4 ∨ t.length = 5 := by omega
 rcases this with e | e | e | e | e | e
 ·exact all_txt c_ea2_0 e h
 ·exact all_txt c_ea2_1 e h
 ·exact all_txt c_ea2_2 e h
 ·exact all_txt c_ea2_3 e h
 ·exact all_txt c_ea2_4 e h
 ·exact all_txt c_ea2_5 e h
theorem acc_ea2 (t : List Nat) (h : Two 97 98 t) (hn : t.length ≤ 5) (σ : Store) : LD S 9 [.t (.agg [.list g_ea2]), .t (.str t)] σ = some (.t (B (accX 2 t)), σ) := acc_of nat_ea2 (ca_ea2 t h hn) σ
end X
