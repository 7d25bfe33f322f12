/- Runs of the engine at the grammars of a law. By a printer of this session's. No statement of the claim is in it. -/
import Derived.Test.YtognnaobhjaoeaaGreatDoorVEsD
open Go Go.V Go.Proofs
namespace X
set_option maxRecDepth 100000
set_option linter.unusedVariables false
def g_s0star : List T := [(.agg [(.str [83]), (.list []), (.list [(.agg [(.list [(sy 3 [120, 48])])])])]), (.agg [(.str [120, 48]), (.list []), (.list [(.agg [.nils]), (.agg [(.list [(sy 1 [97]), (sy 3 [120, 48])])])])])]
def ra_s0star : List (List Nat × Nat) := [([83], 0), ([120, 48], 1)]
def m15_s0star : List (List T × T) := []
def m16_s0star : List (List T × T) := []
theorem gok_s0star : frunX tab 100000 x13 [.t (.agg [.list g_s0star])] = some (.bool true) := by kernel_rfl
theorem rl_s0star_0 : frunX tab 100000 x23 [.t (.agg [.list g_s0star]), .t (.str [83])] = some (.int .i64 (.ofNat 0)) := by kernel_rfl
theorem rl_s0star_1 : frunX tab 100000 x23 [.t (.agg [.list g_s0star]), .t (.str [120, 48])] = some (.int .i64 (.ofNat 1)) := by kernel_rfl
theorem kok_s0star : KOk g_s0star ra_s0star m15_s0star m16_s0star where
 gok := gok_s0star
 rule := fun p hp => by
  simp only [ra_s0star, List.mem_cons, List.not_mem_nil, or_false] at hp
  rcases hp with rfl | rfl
  ·exact rl_s0star_0
  ·exact rl_s0star_1

 sets := fun p hp => by simp [m15_s0star] at hp
 exprs := fun p hp => by simp [m16_s0star] at hp
noncomputable def K_s0star : Nats := KG g_s0star ra_s0star m15_s0star m16_s0star
theorem nat_s0star : NatOk K_s0star := KG_ok kok_s0star
theorem pl_s0star : frunX tab 100000 x8 [.t (.str [83, 32, 45, 62, 32, 40, 32, 34, 97, 34, 32, 41, 42, 32, 59])] = some (.agg [.list g_s0star]) := by kernel_rfl
theorem plain_s0star (σ : Store) : LD S 8 [.t (.str [83, 32, 45, 62, 32, 40, 32, 34, 97, 34, 32, 41, 42, 32, 59])] σ = some (.t (.agg [.list g_s0star]), σ) := run_ld e8 rfl (A := A8) rfl rfl (ts := [_]) pl_s0star σ
def g_s0plus : List T := [(.agg [(.str [83]), (.list []), (.list [(.agg [(.list [(sy 3 [120, 48])])])])]), (.agg [(.str [120, 48]), (.list []), (.list [(.agg [(.list [(sy 1 [97])])]), (.agg [(.list [(sy 1 [97]), (sy 3 [120, 48])])])])])]
def ra_s0plus : List (List Nat × Nat) := [([83], 0), ([120, 48], 1)]
def m15_s0plus : List (List T × T) := []
def m16_s0plus : List (List T × T) := []
theorem gok_s0plus : frunX tab 100000 x13 [.t (.agg [.list g_s0plus])] = some (.bool true) := by kernel_rfl
theorem rl_s0plus_0 : frunX tab 100000 x23 [.t (.agg [.list g_s0plus]), .t (.str [83])] = some (.int .i64 (.ofNat 0)) := by kernel_rfl
theorem rl_s0plus_1 : frunX tab 100000 x23 [.t (.agg [.list g_s0plus]), .t (.str [120, 48])] = some (.int .i64 (.ofNat 1)) := by kernel_rfl
theorem kok_s0plus : KOk g_s0plus ra_s0plus m15_s0plus m16_s0plus where
 gok := gok_s0plus
 rule := fun p hp => by
  simp only [ra_s0plus, List.mem_cons, List.not_mem_nil, or_false] at hp
  rcases hp with rfl | rfl
  ·exact rl_s0plus_0
  ·exact rl_s0plus_1

 sets := fun p hp => by simp [m15_s0plus] at hp
 exprs := fun p hp => by simp [m16_s0plus] at hp
noncomputable def K_s0plus : Nats := KG g_s0plus ra_s0plus m15_s0plus m16_s0plus
theorem nat_s0plus : NatOk K_s0plus := KG_ok kok_s0plus
theorem pl_s0plus : frunX tab 100000 x8 [.t (.str [83, 32, 45, 62, 32, 40, 32, 34, 97, 34, 32, 41, 43, 32, 59])] = some (.agg [.list g_s0plus]) := by kernel_rfl
theorem plain_s0plus (σ : Store) : LD S 8 [.t (.str [83, 32, 45, 62, 32, 40, 32, 34, 97, 34, 32, 41, 43, 32, 59])] σ = some (.t (.agg [.list g_s0plus]), σ) := run_ld e8 rfl (A := A8) rfl rfl (ts := [_]) pl_s0plus σ
def g_s0opt : List T := [(.agg [(.str [83]), (.list []), (.list [(.agg [(.list [(sy 3 [120, 48])])])])]), (.agg [(.str [120, 48]), (.list []), (.list [(.agg [(.list [(sy 1 [97])])]), (.agg [.nils])])])]
def ra_s0opt : List (List Nat × Nat) := [([83], 0), ([120, 48], 1)]
def m15_s0opt : List (List T × T) := []
def m16_s0opt : List (List T × T) := []
theorem gok_s0opt : frunX tab 100000 x13 [.t (.agg [.list g_s0opt])] = some (.bool true) := by kernel_rfl
theorem rl_s0opt_0 : frunX tab 100000 x23 [.t (.agg [.list g_s0opt]), .t (.str [83])] = some (.int .i64 (.ofNat 0)) := by kernel_rfl
theorem rl_s0opt_1 : frunX tab 100000 x23 [.t (.agg [.list g_s0opt]), .t (.str [120, 48])] = some (.int .i64 (.ofNat 1)) := by kernel_rfl
theorem kok_s0opt : KOk g_s0opt ra_s0opt m15_s0opt m16_s0opt where
 gok := gok_s0opt
 rule := fun p hp => by
  simp only [ra_s0opt, List.mem_cons, List.not_mem_nil, or_false] at hp
  rcases hp with rfl | rfl
  ·exact rl_s0opt_0
  ·exact rl_s0opt_1

 sets := fun p hp => by simp [m15_s0opt] at hp
 exprs := fun p hp => by simp [m16_s0opt] at hp
noncomputable def K_s0opt : Nats := KG g_s0opt ra_s0opt m15_s0opt m16_s0opt
theorem nat_s0opt : NatOk K_s0opt := KG_ok kok_s0opt
theorem pl_s0opt : frunX tab 100000 x8 [.t (.str [83, 32, 45, 62, 32, 40, 32, 34, 97, 34, 32, 41, 63, 32, 59])] = some (.agg [.list g_s0opt]) := by kernel_rfl
theorem plain_s0opt (σ : Store) : LD S 8 [.t (.str [83, 32, 45, 62, 32, 40, 32, 34, 97, 34, 32, 41, 63, 32, 59])] σ = some (.t (.agg [.list g_s0opt]), σ) := run_ld e8 rfl (A := A8) rfl rfl (ts := [_]) pl_s0opt σ
def g_s0one : List T := [(.agg [(.str [83]), (.list []), (.list [(.agg [(.list [(sy 1 [97])])])])])]
def ra_s0one : List (List Nat × Nat) := [([83], 0)]
def m15_s0one : List (List T × T) := []
def m16_s0one : List (List T × T) := []
theorem gok_s0one : frunX tab 100000 x13 [.t (.agg [.list g_s0one])] = some (.bool true) := by kernel_rfl
theorem rl_s0one_0 : frunX tab 100000 x23 [.t (.agg [.list g_s0one]), .t (.str [83])] = some (.int .i64 (.ofNat 0)) := by kernel_rfl
theorem kok_s0one : KOk g_s0one ra_s0one m15_s0one m16_s0one where
 gok := gok_s0one
 rule := fun p hp => by
  simp only [ra_s0one, List.mem_cons, List.not_mem_nil, or_false] at hp
  rcases hp with rfl
  ·exact rl_s0one_0

 sets := fun p hp => by simp [m15_s0one] at hp
 exprs := fun p hp => by simp [m16_s0one] at hp
noncomputable def K_s0one : Nats := KG g_s0one ra_s0one m15_s0one m16_s0one
theorem nat_s0one : NatOk K_s0one := KG_ok kok_s0one
theorem pl_s0one : frunX tab 100000 x8 [.t (.str [83, 32, 45, 62, 32, 34, 97, 34, 32, 59])] = some (.agg [.list g_s0one]) := by kernel_rfl
theorem plain_s0one (σ : Store) : LD S 8 [.t (.str [83, 32, 45, 62, 32, 34, 97, 34, 32, 59])] σ = some (.t (.agg [.list g_s0one]), σ) := run_ld e8 rfl (A := A8) rfl rfl (ts := [_]) pl_s0one σ
def g_s0more : List T := [(.agg [(.str [83]), (.list []), (.list [(.agg [(.list [(sy 3 [120, 48]), (sy 3 [120, 49])])])])]), (.agg [(.str [120, 48]), (.list []), (.list [(.agg [(.list [(sy 1 [97])])])])]), (.agg [(.str [120, 49]), (.list []), (.list [(.agg [.nils]), (.agg [(.list [(sy 1 [97]), (sy 3 [120, 49])])])])])]
def ra_s0more : List (List Nat × Nat) := [([83], 0), ([120, 48], 1), ([120, 49], 2)]
def m15_s0more : List (List T × T) := []
def m16_s0more : List (List T × T) := []
theorem gok_s0more : frunX tab 100000 x13 [.t (.agg [.list g_s0more])] = some (.bool true) := by kernel_rfl
theorem rl_s0more_0 : frunX tab 100000 x23 [.t (.agg [.list g_s0more]), .t (.str [83])] = some (.int .i64 (.ofNat 0)) := by kernel_rfl
theorem rl_s0more_1 : frunX tab 100000 x23 [.t (.agg [.list g_s0more]), .t (.str [120, 48])] = some (.int .i64 (.ofNat 1)) := by kernel_rfl
theorem rl_s0more_2 : frunX tab 100000 x23 [.t (.agg [.list g_s0more]), .t (.str [120, 49])] = some (.int .i64 (.ofNat 2)) := by kernel_rfl
theorem kok_s0more : KOk g_s0more ra_s0more m15_s0more m16_s0more where
 gok := gok_s0more
 rule := fun p hp => by
  simp only [ra_s0more, List.mem_cons, List.not_mem_nil, or_false] at hp
  rcases hp with rfl | rfl | rfl
  ·exact rl_s0more_0
  ·exact rl_s0more_1
  ·exact rl_s0more_2

 sets := fun p hp => by simp [m15_s0more] at hp
 exprs := fun p hp => by simp [m16_s0more] at hp
noncomputable def K_s0more : Nats := KG g_s0more ra_s0more m15_s0more m16_s0more
theorem nat_s0more : NatOk K_s0more := KG_ok kok_s0more
theorem pl_s0more : frunX tab 100000 x8 [.t (.str [83, 32, 45, 62, 32, 40, 32, 34, 97, 34, 32, 41, 32, 40, 32, 34, 97, 34, 32, 41, 42, 32, 59])] = some (.agg [.list g_s0more]) := by kernel_rfl
theorem plain_s0more (σ : Store) : LD S 8 [.t (.str [83, 32, 45, 62, 32, 40, 32, 34, 97, 34, 32, 41, 32, 40, 32, 34, 97, 34, 32, 41, 42, 32, 59])] σ = some (.t (.agg [.list g_s0more]), σ) := run_ld e8 rfl (A := A8) rfl rfl (ts := [_]) pl_s0more σ
noncomputable def cks0 (t : List Nat) : Bool := lawB (endR K_s0star g_s0star [83] t) (endR K_s0plus g_s0plus [83] t) (endR K_s0opt g_s0opt [83] t) (endR K_s0one g_s0one [83] t) (endR K_s0more g_s0more [83] t) t.length
theorem star0_0 : accB K_s0star g_s0star [83] [] true = true := by kernel_rfl
end X
