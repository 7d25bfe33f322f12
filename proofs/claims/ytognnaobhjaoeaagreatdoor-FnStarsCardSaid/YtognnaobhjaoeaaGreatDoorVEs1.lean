/- Runs of the engine at the grammars of a law. By a printer of this session's. No statement of the claim is in it. -/
import Derived.Test.YtognnaobhjaoeaaGreatDoorVEsD
open Go Go.V Go.Proofs
namespace X
set_option maxRecDepth 100000
set_option linter.unusedVariables false
def g_s1star : List T := [(.agg [(.str [83]), (.list []), (.list [(.agg [(.list [(sy 3 [120, 48])])])])]), (.agg [(.str [120, 48]), (.list []), (.list [(.agg [.nils]), (.agg [(.list [(sy 1 [97]), (sy 3 [120, 48])])]), (.agg [(.list [(sy 1 [98]), (sy 3 [120, 48])])])])])]
def ra_s1star : List (List Nat × Nat) := [([83], 0), ([120, 48], 1)]
def m15_s1star : List (List T × T) := []
def m16_s1star : List (List T × T) := []
theorem gok_s1star : frunX tab 100000 x13 [.t (.agg [.list g_s1star])] = some (.bool true) := by kernel_rfl
theorem rl_s1star_0 : frunX tab 100000 x23 [.t (.agg [.list g_s1star]), .t (.str [83])] = some (.int .i64 (.ofNat 0)) := by kernel_rfl
theorem rl_s1star_1 : frunX tab 100000 x23 [.t (.agg [.list g_s1star]), .t (.str [120, 48])] = some (.int .i64 (.ofNat 1)) := by kernel_rfl
theorem kok_s1star : KOk g_s1star ra_s1star m15_s1star m16_s1star where
 gok := gok_s1star
 rule := fun p hp => by
  simp only [ra_s1star, List.mem_cons, List.not_mem_nil, or_false] at hp
  rcases hp with rfl | rfl
  ·exact rl_s1star_0
  ·exact rl_s1star_1

 sets := fun p hp => by simp [m15_s1star] at hp
 exprs := fun p hp => by simp [m16_s1star] at hp
noncomputable def K_s1star : Nats := KG g_s1star ra_s1star m15_s1star m16_s1star
theorem nat_s1star : NatOk K_s1star := KG_ok kok_s1star
theorem pl_s1star : frunX tab 100000 x8 [.t (.str [83, 32, 45, 62, 32, 40, 32, 34, 97, 34, 32, 124, 32, 34, 98, 34, 32, 41, 42, 32, 59])] = some (.agg [.list g_s1star]) := by kernel_rfl
theorem plain_s1star (σ : Store) : LD S 8 [.t (.str [83, 32, 45, 62, 32, 40, 32, 34, 97, 34, 32, 124, 32, 34, 98, 34, 32, 41, 42, 32, 59])] σ = some (.t (.agg [.list g_s1star]), σ) := run_ld e8 rfl (A := A8) rfl rfl (ts := [_]) pl_s1star σ
def g_s1plus : List T := [(.agg [(.str [83]), (.list []), (.list [(.agg [(.list [(sy 3 [120, 48])])])])]), (.agg [(.str [120, 48]), (.list []), (.list [(.agg [(.list [(sy 1 [97])])]), (.agg [(.list [(sy 1 [98])])]), (.agg [(.list [(sy 1 [97]), (sy 3 [120, 48])])]), (.agg [(.list [(sy 1 [98]), (sy 3 [120, 48])])])])])]
def ra_s1plus : List (List Nat × Nat) := [([83], 0), ([120, 48], 1)]
def m15_s1plus : List (List T × T) := []
def m16_s1plus : List (List T × T) := []
theorem gok_s1plus : frunX tab 100000 x13 [.t (.agg [.list g_s1plus])] = some (.bool true) := by kernel_rfl
theorem rl_s1plus_0 : frunX tab 100000 x23 [.t (.agg [.list g_s1plus]), .t (.str [83])] = some (.int .i64 (.ofNat 0)) := by kernel_rfl
theorem rl_s1plus_1 : frunX tab 100000 x23 [.t (.agg [.list g_s1plus]), .t (.str [120, 48])] = some (.int .i64 (.ofNat 1)) := by kernel_rfl
theorem kok_s1plus : KOk g_s1plus ra_s1plus m15_s1plus m16_s1plus where
 gok := gok_s1plus
 rule := fun p hp => by
  simp only [ra_s1plus, List.mem_cons, List.not_mem_nil, or_false] at hp
  rcases hp with rfl | rfl
  ·exact rl_s1plus_0
  ·exact rl_s1plus_1

 sets := fun p hp => by simp [m15_s1plus] at hp
 exprs := fun p hp => by simp [m16_s1plus] at hp
noncomputable def K_s1plus : Nats := KG g_s1plus ra_s1plus m15_s1plus m16_s1plus
theorem nat_s1plus : NatOk K_s1plus := KG_ok kok_s1plus
theorem pl_s1plus : frunX tab 100000 x8 [.t (.str [83, 32, 45, 62, 32, 40, 32, 34, 97, 34, 32, 124, 32, 34, 98, 34, 32, 41, 43, 32, 59])] = some (.agg [.list g_s1plus]) := by kernel_rfl
theorem plain_s1plus (σ : Store) : LD S 8 [.t (.str [83, 32, 45, 62, 32, 40, 32, 34, 97, 34, 32, 124, 32, 34, 98, 34, 32, 41, 43, 32, 59])] σ = some (.t (.agg [.list g_s1plus]), σ) := run_ld e8 rfl (A := A8) rfl rfl (ts := [_]) pl_s1plus σ
def g_s1opt : List T := [(.agg [(.str [83]), (.list []), (.list [(.agg [(.list [(sy 3 [120, 48])])])])]), (.agg [(.str [120, 48]), (.list []), (.list [(.agg [(.list [(sy 1 [97])])]), (.agg [(.list [(sy 1 [98])])]), (.agg [.nils])])])]
def ra_s1opt : List (List Nat × Nat) := [([83], 0), ([120, 48], 1)]
def m15_s1opt : List (List T × T) := []
def m16_s1opt : List (List T × T) := []
theorem gok_s1opt : frunX tab 100000 x13 [.t (.agg [.list g_s1opt])] = some (.bool true) := by kernel_rfl
theorem rl_s1opt_0 : frunX tab 100000 x23 [.t (.agg [.list g_s1opt]), .t (.str [83])] = some (.int .i64 (.ofNat 0)) := by kernel_rfl
theorem rl_s1opt_1 : frunX tab 100000 x23 [.t (.agg [.list g_s1opt]), .t (.str [120, 48])] = some (.int .i64 (.ofNat 1)) := by kernel_rfl
theorem kok_s1opt : KOk g_s1opt ra_s1opt m15_s1opt m16_s1opt where
 gok := gok_s1opt
 rule := fun p hp => by
  simp only [ra_s1opt, List.mem_cons, List.not_mem_nil, or_false] at hp
  rcases hp with rfl | rfl
  ·exact rl_s1opt_0
  ·exact rl_s1opt_1

 sets := fun p hp => by simp [m15_s1opt] at hp
 exprs := fun p hp => by simp [m16_s1opt] at hp
noncomputable def K_s1opt : Nats := KG g_s1opt ra_s1opt m15_s1opt m16_s1opt
theorem nat_s1opt : NatOk K_s1opt := KG_ok kok_s1opt
theorem pl_s1opt : frunX tab 100000 x8 [.t (.str [83, 32, 45, 62, 32, 40, 32, 34, 97, 34, 32, 124, 32, 34, 98, 34, 32, 41, 63, 32, 59])] = some (.agg [.list g_s1opt]) := by kernel_rfl
theorem plain_s1opt (σ : Store) : LD S 8 [.t (.str [83, 32, 45, 62, 32, 40, 32, 34, 97, 34, 32, 124, 32, 34, 98, 34, 32, 41, 63, 32, 59])] σ = some (.t (.agg [.list g_s1opt]), σ) := run_ld e8 rfl (A := A8) rfl rfl (ts := [_]) pl_s1opt σ
def g_s1one : List T := [(.agg [(.str [83]), (.list []), (.list [(.agg [(.list [(sy 1 [97])])]), (.agg [(.list [(sy 1 [98])])])])])]
def ra_s1one : List (List Nat × Nat) := [([83], 0)]
def m15_s1one : List (List T × T) := []
def m16_s1one : List (List T × T) := []
theorem gok_s1one : frunX tab 100000 x13 [.t (.agg [.list g_s1one])] = some (.bool true) := by kernel_rfl
theorem rl_s1one_0 : frunX tab 100000 x23 [.t (.agg [.list g_s1one]), .t (.str [83])] = some (.int .i64 (.ofNat 0)) := by kernel_rfl
theorem kok_s1one : KOk g_s1one ra_s1one m15_s1one m16_s1one where
 gok := gok_s1one
 rule := fun p hp => by
  simp only [ra_s1one, List.mem_cons, List.not_mem_nil, or_false] at hp
  rcases hp with rfl
  ·exact rl_s1one_0

 sets := fun p hp => by simp [m15_s1one] at hp
 exprs := fun p hp => by simp [m16_s1one] at hp
noncomputable def K_s1one : Nats := KG g_s1one ra_s1one m15_s1one m16_s1one
theorem nat_s1one : NatOk K_s1one := KG_ok kok_s1one
theorem pl_s1one : frunX tab 100000 x8 [.t (.str [83, 32, 45, 62, 32, 34, 97, 34, 32, 124, 32, 34, 98, 34, 32, 59])] = some (.agg [.list g_s1one]) := by kernel_rfl
theorem plain_s1one (σ : Store) : LD S 8 [.t (.str [83, 32, 45, 62, 32, 34, 97, 34, 32, 124, 32, 34, 98, 34, 32, 59])] σ = some (.t (.agg [.list g_s1one]), σ) := run_ld e8 rfl (A := A8) rfl rfl (ts := [_]) pl_s1one σ
def g_s1more : List T := [(.agg [(.str [83]), (.list []), (.list [(.agg [(.list [(sy 3 [120, 48]), (sy 3 [120, 49])])])])]), (.agg [(.str [120, 48]), (.list []), (.list [(.agg [(.list [(sy 1 [97])])]), (.agg [(.list [(sy 1 [98])])])])]), (.agg [(.str [120, 49]), (.list []), (.list [(.agg [.nils]), (.agg [(.list [(sy 1 [97]), (sy 3 [120, 49])])]), (.agg [(.list [(sy 1 [98]), (sy 3 [120, 49])])])])])]
def ra_s1more : List (List Nat × Nat) := [([83], 0), ([120, 48], 1), ([120, 49], 2)]
def m15_s1more : List (List T × T) := []
def m16_s1more : List (List T × T) := []
theorem gok_s1more : frunX tab 100000 x13 [.t (.agg [.list g_s1more])] = some (.bool true) := by kernel_rfl
theorem rl_s1more_0 : frunX tab 100000 x23 [.t (.agg [.list g_s1more]), .t (.str [83])] = some (.int .i64 (.ofNat 0)) := by kernel_rfl
theorem rl_s1more_1 : frunX tab 100000 x23 [.t (.agg [.list g_s1more]), .t (.str [120, 48])] = some (.int .i64 (.ofNat 1)) := by kernel_rfl
theorem rl_s1more_2 : frunX tab 100000 x23 [.t (.agg [.list g_s1more]), .t (.str [120, 49])] = some (.int .i64 (.ofNat 2)) := by kernel_rfl
theorem kok_s1more : KOk g_s1more ra_s1more m15_s1more m16_s1more where
 gok := gok_s1more
 rule := fun p hp => by
  simp only [ra_s1more, List.mem_cons, List.not_mem_nil, or_false] at hp
  rcases hp with rfl | rfl | rfl
  ·exact rl_s1more_0
  ·exact rl_s1more_1
  ·exact rl_s1more_2

 sets := fun p hp => by simp [m15_s1more] at hp
 exprs := fun p hp => by simp [m16_s1more] at hp
noncomputable def K_s1more : Nats := KG g_s1more ra_s1more m15_s1more m16_s1more
theorem nat_s1more : NatOk K_s1more := KG_ok kok_s1more
theorem pl_s1more : frunX tab 100000 x8 [.t (.str [83, 32, 45, 62, 32, 40, 32, 34, 97, 34, 32, 124, 32, 34, 98, 34, 32, 41, 32, 40, 32, 34, 97, 34, 32, 124, 32, 34, 98, 34, 32, 41, 42, 32, 59])] = some (.agg [.list g_s1more]) := by kernel_rfl
theorem plain_s1more (σ : Store) : LD S 8 [.t (.str [83, 32, 45, 62, 32, 40, 32, 34, 97, 34, 32, 124, 32, 34, 98, 34, 32, 41, 32, 40, 32, 34, 97, 34, 32, 124, 32, 34, 98, 34, 32, 41, 42, 32, 59])] σ = some (.t (.agg [.list g_s1more]), σ) := run_ld e8 rfl (A := A8) rfl rfl (ts := [_]) pl_s1more σ
noncomputable def cks1 (t : List Nat) : Bool := lawB (endR K_s1star g_s1star [83] t) (endR K_s1plus g_s1plus [83] t) (endR K_s1opt g_s1opt [83] t) (endR K_s1one g_s1one [83] t) (endR K_s1more g_s1more [83] t) t.length
theorem star0_1 : accB K_s1star g_s1star [83] [] true = true := by kernel_rfl
end X
