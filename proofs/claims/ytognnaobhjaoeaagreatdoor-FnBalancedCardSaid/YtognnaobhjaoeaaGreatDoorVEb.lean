/- Runs of the engine at the grammars of a law. By a printer of this session's. No statement of the claim is in it. -/
import Derived.Test.YtognnaobhjaoeaaGreatDoorVEg19
open Go Go.V Go.Proofs
namespace X
set_option maxRecDepth 100000
set_option linter.unusedVariables false
def sy (k : Nat) (s : List Nat) : T := .agg [.int .i64 (.ofNat k), .str s, .list [], .str []]
def balS : List Nat → Int × Bool → Int × Bool
 | [], s => s
 | c :: r, s => balS r (match Nat.beq c 40 with
  | true => (s.1 + 1, s.2 && decide (0 ≤ s.1 + 1))
  | false => (s.1 - 1, s.2 && decide (0 ≤ s.1 - 1)))
def bal (t : List Nat) : Bool := (balS t (0, true)).2 && (balS t (0, true)).1 == 0
def g_b : List T := [(.agg [(.str [83]), (.list []), (.list [(.agg [(.list [(sy 3 [120, 48])])])])]), (.agg [(.str [120, 48]), (.list []), (.list [(.agg [.nils]), (.agg [(.list [(sy 1 [40]), (sy 3 [83]), (sy 1 [41]), (sy 3 [120, 48])])])])])]
def ra_b : List (List Nat × Nat) := [([83], 0), ([120, 48], 1)]
def m15_b : List (List T × T) := []
def m16_b : List (List T × T) := []
theorem gok_b : frunX tab 100000 x13 [.t (.agg [.list g_b])] = some (.bool true) := by kernel_rfl
theorem rl_b_0 : frunX tab 100000 x23 [.t (.agg [.list g_b]), .t (.str [83])] = some (.int .i64 (.ofNat 0)) := by kernel_rfl
theorem rl_b_1 : frunX tab 100000 x23 [.t (.agg [.list g_b]), .t (.str [120, 48])] = some (.int .i64 (.ofNat 1)) := by kernel_rfl
theorem kok_b : KOk g_b ra_b m15_b m16_b where
 gok := gok_b
 rule := fun p hp => by
  simp only [ra_b, List.mem_cons, List.not_mem_nil, or_false] at hp
  rcases hp with rfl | rfl
  ·exact rl_b_0
  ·exact rl_b_1

 sets := fun p hp => by simp [m15_b] at hp
 exprs := fun p hp => by simp [m16_b] at hp
noncomputable def K_b : Nats := KG g_b ra_b m15_b m16_b
theorem nat_b : NatOk K_b := KG_ok kok_b
theorem pl_b : frunX tab 100000 x8 [.t (.str [83, 32, 45, 62, 32, 40, 32, 34, 40, 34, 32, 83, 32, 34, 41, 34, 32, 41, 42, 32, 59])] = some (.agg [.list g_b]) := by kernel_rfl
theorem plain_b (σ : Store) : LD S 8 [.t (.str [83, 32, 45, 62, 32, 40, 32, 34, 40, 34, 32, 83, 32, 34, 41, 34, 32, 41, 42, 32, 59])] σ = some (.t (.agg [.list g_b]), σ) := run_ld e8 rfl (A := A8) rfl rfl (ts := [_]) pl_b σ
noncomputable def ck_b (t : List Nat) : Bool := accB K_b g_b [83] t (bal t)
theorem row40_0 : frunX tab 100000 x10 [.t (.int .i64 (.ofNat 0)), .t (.str [40])] = some (.str []) := by kernel_rfl
theorem row40_1 : frunX tab 100000 x10 [.t (.int .i64 (.ofNat 1)), .t (.str [40])] = some (.str [40]) := by kernel_rfl
theorem row40_2 : frunX tab 100000 x10 [.t (.int .i64 (.ofNat 2)), .t (.str [40])] = some (.str [40, 40]) := by kernel_rfl
theorem row40_3 : frunX tab 100000 x10 [.t (.int .i64 (.ofNat 3)), .t (.str [40])] = some (.str [40, 40, 40]) := by kernel_rfl
theorem row40_4 : frunX tab 100000 x10 [.t (.int .i64 (.ofNat 4)), .t (.str [40])] = some (.str [40, 40, 40, 40]) := by kernel_rfl
theorem row41_0 : frunX tab 100000 x10 [.t (.int .i64 (.ofNat 0)), .t (.str [41])] = some (.str []) := by kernel_rfl
theorem row41_1 : frunX tab 100000 x10 [.t (.int .i64 (.ofNat 1)), .t (.str [41])] = some (.str [41]) := by kernel_rfl
theorem row41_2 : frunX tab 100000 x10 [.t (.int .i64 (.ofNat 2)), .t (.str [41])] = some (.str [41, 41]) := by kernel_rfl
theorem row41_3 : frunX tab 100000 x10 [.t (.int .i64 (.ofNat 3)), .t (.str [41])] = some (.str [41, 41, 41]) := by kernel_rfl
theorem row41_4 : frunX tab 100000 x10 [.t (.int .i64 (.ofNat 4)), .t (.str [41])] = some (.str [41, 41, 41, 41]) := by kernel_rfl
end X
