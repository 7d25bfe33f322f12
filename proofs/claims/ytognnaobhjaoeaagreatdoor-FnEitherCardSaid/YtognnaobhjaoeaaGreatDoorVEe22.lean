/- Runs of the engine at the grammars of a law. By a printer of this session's. No statement of the claim is in it. -/
import Derived.Test.YtognnaobhjaoeaaGreatDoorVEeD
open Go Go.V Go.Proofs
namespace X
set_option maxRecDepth 100000
set_option linter.unusedVariables false
def g_ec22 : List T := [(.agg [(.str [83]), (.list []), (.list [(.agg [(.list [(sy 3 [65])])]), (.agg [(.list [(sy 3 [66])])])])]), (.agg [(.str [65]), (.list []), (.list [(.agg [(.list [(sy 1 [97, 98])])]), (.agg [(.list [(sy 1 [98, 97])])])])]), (.agg [(.str [66]), (.list []), (.list [(.agg [(.list [(sy 1 [97, 98])])]), (.agg [(.list [(sy 1 [98, 97])])])])])]
def ra_ec22 : List (List Nat × Nat) := [([83], 0), ([65], 1), ([66], 2)]
def m15_ec22 : List (List T × T) := []
def m16_ec22 : List (List T × T) := []
theorem gok_ec22 : frunX tab 100000 x13 [.t (.agg [.list g_ec22])] = some (.bool true) := by kernel_rfl
theorem rl_ec22_0 : frunX tab 100000 x23 [.t (.agg [.list g_ec22]), .t (.str [83])] = some (.int .i64 (.ofNat 0)) := by kernel_rfl
theorem rl_ec22_1 : frunX tab 100000 x23 [.t (.agg [.list g_ec22]), .t (.str [65])] = some (.int .i64 (.ofNat 1)) := by kernel_rfl
theorem rl_ec22_2 : frunX tab 100000 x23 [.t (.agg [.list g_ec22]), .t (.str [66])] = some (.int .i64 (.ofNat 2)) := by kernel_rfl
theorem kok_ec22 : KOk g_ec22 ra_ec22 m15_ec22 m16_ec22 where
 gok := gok_ec22
 rule := fun p hp => by
  simp only [ra_ec22, List.mem_cons, List.not_mem_nil, or_false] at hp
  rcases hp with rfl | rfl | rfl
  ·exact rl_ec22_0
  ·exact rl_ec22_1
  ·exact rl_ec22_2

 sets := fun p hp => by simp [m15_ec22] at hp
 exprs := fun p hp => by simp [m16_ec22] at hp
noncomputable def K_ec22 : Nats := KG g_ec22 ra_ec22 m15_ec22 m16_ec22
theorem nat_ec22 : NatOk K_ec22 := KG_ok kok_ec22
theorem pl_ec22 : frunX tab 100000 x8 [.t (.str [83, 32, 45, 62, 32, 65, 32, 124, 32, 66, 32, 59, 32, 65, 32, 45, 62, 32, 34, 97, 98, 34, 32, 124, 32, 34, 98, 97, 34, 32, 59, 32, 66, 32, 45, 62, 32, 34, 97, 98, 34, 32, 124, 32, 34, 98, 97, 34, 32, 59])] = some (.agg [.list g_ec22]) := by kernel_rfl
theorem plain_ec22 (σ : Store) : LD S 8 [.t (.str [83, 32, 45, 62, 32, 65, 32, 124, 32, 66, 32, 59, 32, 65, 32, 45, 62, 32, 34, 97, 98, 34, 32, 124, 32, 34, 98, 97, 34, 32, 59, 32, 66, 32, 45, 62, 32, 34, 97, 98, 34, 32, 124, 32, 34, 98, 97, 34, 32, 59])] σ = some (.t (.agg [.list g_ec22]), σ) := run_ld e8 rfl (A := A8) rfl rfl (ts := [_]) pl_ec22 σ
noncomputable def ck_ec22 (t : List Nat) : Bool := accB K_ec22 g_ec22 [83] t (accX 2 t || accX 2 t)
theorem c_ec22_0 : (txt 97 98 0).all ck_ec22 = true := by kernel_rfl
theorem c_ec22_1 : (txt 97 98 1).all ck_ec22 = true := by kernel_rfl
theorem c_ec22_2 : (txt 97 98 2).all ck_ec22 = true := by kernel_rfl
theorem c_ec22_3 : (txt 97 98 3).all ck_ec22 = true := by kernel_rfl
theorem c_ec22_4 : (txt 97 98 4).all ck_ec22 = true := by kernel_rfl
theorem c_ec22_5 : (txt 97 98 5).all ck_ec22 = true := by kernel_rfl
theorem ca_ec22 (t : List Nat) (h : Two 97 98 t) (hn : t.length ≤ 5) : ck_ec22 t = true := by
 have : t.length = 0 ∨ t.length = 1 ∨ t.length = 2 ∨ t.length = 3 ∨ t.length = 4 ∨ t.length = 5 := by omega
 rcases this with e | e | e | e | e | e
 ·exact all_txt c_ec22_0 e h
 ·exact all_txt c_ec22_1 e h
 ·exact all_txt c_ec22_2 e h
 ·exact all_txt c_ec22_3 e h
 ·exact all_txt c_ec22_4 e h
 ·exact all_txt c_ec22_5 e h
theorem acc_ec22 (t : List Nat) (h : Two 97 98 t) (hn : t.length ≤ 5) (σ : Store) : LD S 9 [.t (.agg [.list g_ec22]), .t (.str t)] σ = some (.t (B (accX 2 t || accX 2 t)), σ) := acc_of nat_ec22 (ca_ec22 t h hn) σ
end X
