/- Runs of the engine at the grammars of a law. By a printer of this session's. No statement of the claim is in it. -/
import Derived.Test.YtognnaobhjaoeaaGreatDoorVEsD
open Go Go.V Go.Proofs
namespace X
set_option maxRecDepth 100000
set_option linter.unusedVariables false
def g_s2star : List T := [(.agg [(.str [83]), (.list []), (.list [(.agg [(.list [(sy 3 [120, 48])])])])]), (.agg [(.str [120, 48]), (.list []), (.list [(.agg [.nils]), (.agg [(.list [(sy 1 [97, 98]), (sy 3 [120, 48])])]), (.agg [(.list [(sy 1 [97]), (sy 3 [120, 48])])])])])]
def ra_s2star : List (List Nat × Nat) := [([83], 0), ([120, 48], 1)]
def m15_s2star : List (List T × T) := []
def m16_s2star : List (List T × T) := []
theorem gok_s2star : frunX tab 100000 x13 [.t (.agg [.list g_s2star])] = some (.bool true) := by kernel_rfl
theorem rl_s2star_0 : frunX tab 100000 x23 [.t (.agg [.list g_s2star]), .t (.str [83])] = some (.int .i64 (.ofNat 0)) := by kernel_rfl
theorem rl_s2star_1 : frunX tab 100000 x23 [.t (.agg [.list g_s2star]), .t (.str [120, 48])] = some (.int .i64 (.ofNat 1)) := by kernel_rfl
theorem kok_s2star : KOk g_s2star ra_s2star m15_s2star m16_s2star where
 gok := gok_s2star
 rule := fun p hp => by
  simp only [ra_s2star, List.mem_cons, List.not_mem_nil, or_false] at hp
  rcases hp with rfl | rfl
  ·exact rl_s2star_0
  ·exact rl_s2star_1

 sets := fun p hp => by simp [m15_s2star] at hp
 exprs := fun p hp => by simp [m16_s2star] at hp
noncomputable def K_s2star : Nats := KG g_s2star ra_s2star m15_s2star m16_s2star
theorem nat_s2star : NatOk K_s2star := KG_ok kok_s2star
theorem pl_s2star : frunX tab 100000 x8 [.t (.str [83, 32, 45, 62, 32, 40, 32, 34, 97, 98, 34, 32, 124, 32, 34, 97, 34, 32, 41, 42, 32, 59])] = some (.agg [.list g_s2star]) := by kernel_rfl
theorem plain_s2star (σ : Store) : LD S 8 [.t (.str [83, 32, 45, 62, 32, 40, 32, 34, 97, 98, 34, 32, 124, 32, 34, 97, 34, 32, 41, 42, 32, 59])] σ = some (.t (.agg [.list g_s2star]), σ) := run_ld e8 rfl (A := A8) rfl rfl (ts := [_]) pl_s2star σ
def g_s2plus : List T := [(.agg [(.str [83]), (.list []), (.list [(.agg [(.list [(sy 3 [120, 48])])])])]), (.agg [(.str [120, 48]), (.list []), (.list [(.agg [(.list [(sy 1 [97, 98])])]), (.agg [(.list [(sy 1 [97])])]), (.agg [(.list [(sy 1 [97, 98]), (sy 3 [120, 48])])]), (.agg [(.list [(sy 1 [97]), (sy 3 [120, 48])])])])])]
def ra_s2plus : List (List Nat × Nat) := [([83], 0), ([120, 48], 1)]
def m15_s2plus : List (List T × T) := []
def m16_s2plus : List (List T × T) := []
theorem gok_s2plus : frunX tab 100000 x13 [.t (.agg [.list g_s2plus])] = some (.bool true) := by kernel_rfl
theorem rl_s2plus_0 : frunX tab 100000 x23 [.t (.agg [.list g_s2plus]), .t (.str [83])] = some (.int .i64 (.ofNat 0)) := by kernel_rfl
theorem rl_s2plus_1 : frunX tab 100000 x23 [.t (.agg [.list g_s2plus]), .t (.str [120, 48])] = some (.int .i64 (.ofNat 1)) := by kernel_rfl
theorem kok_s2plus : KOk g_s2plus ra_s2plus m15_s2plus m16_s2plus where
 gok := gok_s2plus
 rule := fun p hp => by
  simp only [ra_s2plus, List.mem_cons, List.not_mem_nil, or_false] at hp
  rcases hp with rfl | rfl
  ·exact rl_s2plus_0
  ·exact rl_s2plus_1

 sets := fun p hp => by simp [m15_s2plus] at hp
 exprs := fun p hp => by simp [m16_s2plus] at hp
noncomputable def K_s2plus : Nats := KG g_s2plus ra_s2plus m15_s2plus m16_s2plus
theorem nat_s2plus : NatOk K_s2plus := KG_ok kok_s2plus
theorem pl_s2plus : frunX tab 100000 x8 [.t (.str [83, 32, 45, 62, 32, 40, 32, 34, 97, 98, 34, 32, 124, 32, 34, 97, 34, 32, 41, 43, 32, 59])] = some (.agg [.list g_s2plus]) := by kernel_rfl
theorem plain_s2plus (σ : Store) : LD S 8 [.t (.str [83, 32, 45, 62, 32, 40, 32, 34, 97, 98, 34, 32, 124, 32, 34, 97, 34, 32, 41, 43, 32, 59])] σ = some (.t (.agg [.list g_s2plus]), σ) := run_ld e8 rfl (A := A8) rfl rfl (ts := [_]) pl_s2plus σ
def g_s2opt : List T := [(.agg [(.str [83]), (.list []), (.list [(.agg [(.list [(sy 3 [120, 48])])])])]), (.agg [(.str [120, 48]), (.list []), (.list [(.agg [(.list [(sy 1 [97, 98])])]), (.agg [(.list [(sy 1 [97])])]), (.agg [.nils])])])]
def ra_s2opt : List (List Nat × Nat) := [([83], 0), ([120, 48], 1)]
def m15_s2opt : List (List T × T) := []
def m16_s2opt : List (List T × T) := []
theorem gok_s2opt : frunX tab 100000 x13 [.t (.agg [.list g_s2opt])] = some (.bool true) := by kernel_rfl
theorem rl_s2opt_0 : frunX tab 100000 x23 [.t (.agg [.list g_s2opt]), .t (.str [83])] = some (.int .i64 (.ofNat 0)) := by kernel_rfl
theorem rl_s2opt_1 : frunX tab 100000 x23 [.t (.agg [.list g_s2opt]), .t (.str [120, 48])] = some (.int .i64 (.ofNat 1)) := by kernel_rfl
theorem kok_s2opt : KOk g_s2opt ra_s2opt m15_s2opt m16_s2opt where
 gok := gok_s2opt
 rule := fun p hp => by
  simp only [ra_s2opt, List.mem_cons, List.not_mem_nil, or_false] at hp
  rcases hp with rfl | rfl
  ·exact rl_s2opt_0
  ·exact rl_s2opt_1

 sets := fun p hp => by simp [m15_s2opt] at hp
 exprs := fun p hp => by simp [m16_s2opt] at hp
noncomputable def K_s2opt : Nats := KG g_s2opt ra_s2opt m15_s2opt m16_s2opt
theorem nat_s2opt : NatOk K_s2opt := KG_ok kok_s2opt
theorem pl_s2opt : frunX tab 100000 x8 [.t (.str [83, 32, 45, 62, 32, 40, 32, 34, 97, 98, 34, 32, 124, 32, 34, 97, 34, 32, 41, 63, 32, 59])] = some (.agg [.list g_s2opt]) := by kernel_rfl
theorem plain_s2opt (σ : Store) : LD S 8 [.t (.str [83, 32, 45, 62, 32, 40, 32, 34, 97, 98, 34, 32, 124, 32, 34, 97, 34, 32, 41, 63, 32, 59])] σ = some (.t (.agg [.list g_s2opt]), σ) := run_ld e8 rfl (A := A8) rfl rfl (ts := [_]) pl_s2opt σ
def g_s2one : List T := [(.agg [(.str [83]), (.list []), (.list [(.agg [(.list [(sy 1 [97, 98])])]), (.agg [(.list [(sy 1 [97])])])])])]
def ra_s2one : List (List Nat × Nat) := [([83], 0)]
def m15_s2one : List (List T × T) := []
def m16_s2one : List (List T × T) := []
theorem gok_s2one : frunX tab 100000 x13 [.t (.agg [.list g_s2one])] = some (.bool true) := by kernel_rfl
theorem rl_s2one_0 : frunX tab 100000 x23 [.t (.agg [.list g_s2one]), .t (.str [83])] = some (.int .i64 (.ofNat 0)) := by kernel_rfl
theorem kok_s2one : KOk g_s2one ra_s2one m15_s2one m16_s2one where
 gok := gok_s2one
 rule := fun p hp => by
  simp only [ra_s2one, List.mem_cons, List.not_mem_nil, or_false] at hp
  rcases hp with rfl
  ·exact rl_s2one_0

 sets := fun p hp => by simp [m15_s2one] at hp
 exprs := fun p hp => by simp [m16_s2one] at hp
noncomputable def K_s2one : Nats := KG g_s2one ra_s2one m15_s2one m16_s2one
theorem nat_s2one : NatOk K_s2one := KG_ok kok_s2one
theorem pl_s2one : frunX tab 100000 x8 [.t (.str [83, 32, 45, 62, 32, 34, 97, 98, 34, 32, 124, 32, 34, 97, 34, 32, 59])] = some (.agg [.list g_s2one]) := by kernel_rfl
theorem plain_s2one (σ : Store) : LD S 8 [.t (.str [83, 32, 45, 62, 32, 34, 97, 98, 34, 32, 124, 32, 34, 97, 34, 32, 59])] σ = some (.t (.agg [.list g_s2one]), σ) := run_ld e8 rfl (A := A8) rfl rfl (ts := [_]) pl_s2one σ
def g_s2more : List T := [(.agg [(.str [83]), (.list []), (.list [(.agg [(.list [(sy 3 [120, 48]), (sy 3 [120, 49])])])])]), (.agg [(.str [120, 48]), (.list []), (.list [(.agg [(.list [(sy 1 [97, 98])])]), (.agg [(.list [(sy 1 [97])])])])]), (.agg [(.str [120, 49]), (.list []), (.list [(.agg [.nils]), (.agg [(.list [(sy 1 [97, 98]), (sy 3 [120, 49])])]), (.agg [(.list [(sy 1 [97]), (sy 3 [120, 49])])])])])]
def ra_s2more : List (List Nat × Nat) := [([83], 0), ([120, 48], 1), ([120, 49], 2)]
def m15_s2more : List (List T × T) := []
def m16_s2more : List (List T × T) := []
theorem gok_s2more : frunX tab 100000 x13 [.t (.agg [.list g_s2more])] = some (.bool true) := by kernel_rfl
theorem rl_s2more_0 : frunX tab 100000 x23 [.t (.agg [.list g_s2more]), .t (.str [83])] = some (.int .i64 (.ofNat 0)) := by kernel_rfl
theorem rl_s2more_1 : frunX tab 100000 x23 [.t (.agg [.list g_s2more]), .t (.str [120, 48])] = some (.int .i64 (.ofNat 1)) := by kernel_rfl
theorem rl_s2more_2 : frunX tab 100000 x23 [.t (.agg [.list g_s2more]), .t (.str [120, 49])] = some (.int .i64 (.ofNat 2)) := by kernel_rfl
theorem kok_s2more : KOk g_s2more ra_s2more m15_s2more m16_s2more where
 gok := gok_s2more
 rule := fun p hp => by
  simp only [ra_s2more, List.mem_cons, List.not_mem_nil, or_false] at hp
  rcases hp with rfl | rfl | rfl
  ·exact rl_s2more_0
  ·exact rl_s2more_1
  ·exact rl_s2more_2

 sets := fun p hp => by simp [m15_s2more] at hp
 exprs := fun p hp => by simp [m16_s2more] at hp
noncomputable def K_s2more : Nats := KG g_s2more ra_s2more m15_s2more m16_s2more
theorem nat_s2more : NatOk K_s2more := KG_ok kok_s2more
theorem pl_s2more : frunX tab 100000 x8 [.t (.str [83, 32, 45, 62, 32, 40, 32, 34, 97, 98, 34, 32, 124, 32, 34, 97, 34, 32, 41, 32, 40, 32, 34, 97, 98, 34, 32, 124, 32, 34, 97, 34, 32, 41, 42, 32, 59])] = some (.agg [.list g_s2more]) := by kernel_rfl
theorem plain_s2more (σ : Store) : LD S 8 [.t (.str [83, 32, 45, 62, 32, 40, 32, 34, 97, 98, 34, 32, 124, 32, 34, 97, 34, 32, 41, 32, 40, 32, 34, 97, 98, 34, 32, 124, 32, 34, 97, 34, 32, 41, 42, 32, 59])] σ = some (.t (.agg [.list g_s2more]), σ) := run_ld e8 rfl (A := A8) rfl rfl (ts := [_]) pl_s2more σ
noncomputable def cks2 (t : List Nat) : Bool := lawB (endR K_s2star g_s2star [83] t) (endR K_s2plus g_s2plus [83] t) (endR K_s2opt g_s2opt [83] t) (endR K_s2one g_s2one [83] t) (endR K_s2more g_s2more [83] t) t.length
theorem star0_2 : accB K_s2star g_s2star [83] [] true = true := by kernel_rfl
end X
