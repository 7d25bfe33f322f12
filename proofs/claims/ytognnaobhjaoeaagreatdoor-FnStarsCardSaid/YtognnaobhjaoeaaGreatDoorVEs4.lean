/- Runs of the engine at the grammars of a law. By a printer of this session's. No statement of the claim is in it. -/
import Derived.Test.YtognnaobhjaoeaaGreatDoorVEsD
open Go Go.V Go.Proofs
namespace X
set_option maxRecDepth 100000
set_option linter.unusedVariables false
def g_s4star : List T := [(.agg [(.str [83]), (.list []), (.list [(.agg [(.list [(sy 3 [120, 48])])])])]), (.agg [(.str [120, 48]), (.list []), (.list [(.agg [.nils]), (.agg [(.list [(sy 1 [97]), (sy 3 [120, 48])])]), (.agg [(.list [(sy 3 [120, 48])])])])])]
def ra_s4star : List (List Nat × Nat) := [([83], 0), ([120, 48], 1)]
def m15_s4star : List (List T × T) := []
def m16_s4star : List (List T × T) := []
theorem gok_s4star : frunX tab 100000 x13 [.t (.agg [.list g_s4star])] = some (.bool true) := by kernel_rfl
theorem rl_s4star_0 : frunX tab 100000 x23 [.t (.agg [.list g_s4star]), .t (.str [83])] = some (.int .i64 (.ofNat 0)) := by kernel_rfl
theorem rl_s4star_1 : frunX tab 100000 x23 [.t (.agg [.list g_s4star]), .t (.str [120, 48])] = some (.int .i64 (.ofNat 1)) := by kernel_rfl
theorem kok_s4star : KOk g_s4star ra_s4star m15_s4star m16_s4star where
 gok := gok_s4star
 rule := fun p hp => by
  simp only [ra_s4star, List.mem_cons, List.not_mem_nil, or_false] at hp
  rcases hp with rfl | rfl
  ·exact rl_s4star_0
  ·exact rl_s4star_1

 sets := fun p hp => by simp [m15_s4star] at hp
 exprs := fun p hp => by simp [m16_s4star] at hp
noncomputable def K_s4star : Nats := KG g_s4star ra_s4star m15_s4star m16_s4star
theorem nat_s4star : NatOk K_s4star := KG_ok kok_s4star
theorem pl_s4star : frunX tab 100000 x8 [.t (.str [83, 32, 45, 62, 32, 40, 32, 34, 97, 34, 32, 124, 32, 32, 41, 42, 32, 59])] = some (.agg [.list g_s4star]) := by kernel_rfl
theorem plain_s4star (σ : Store) : LD S 8 [.t (.str [83, 32, 45, 62, 32, 40, 32, 34, 97, 34, 32, 124, 32, 32, 41, 42, 32, 59])] σ = some (.t (.agg [.list g_s4star]), σ) := run_ld e8 rfl (A := A8) rfl rfl (ts := [_]) pl_s4star σ
def g_s4plus : List T := [(.agg [(.str [83]), (.list []), (.list [(.agg [(.list [(sy 3 [120, 48])])])])]), (.agg [(.str [120, 48]), (.list []), (.list [(.agg [(.list [(sy 1 [97])])]), (.agg [(.list [])]), (.agg [(.list [(sy 1 [97]), (sy 3 [120, 48])])]), (.agg [(.list [(sy 3 [120, 48])])])])])]
def ra_s4plus : List (List Nat × Nat) := [([83], 0), ([120, 48], 1)]
def m15_s4plus : List (List T × T) := []
def m16_s4plus : List (List T × T) := []
theorem gok_s4plus : frunX tab 100000 x13 [.t (.agg [.list g_s4plus])] = some (.bool true) := by kernel_rfl
theorem rl_s4plus_0 : frunX tab 100000 x23 [.t (.agg [.list g_s4plus]), .t (.str [83])] = some (.int .i64 (.ofNat 0)) := by kernel_rfl
theorem rl_s4plus_1 : frunX tab 100000 x23 [.t (.agg [.list g_s4plus]), .t (.str [120, 48])] = some (.int .i64 (.ofNat 1)) := by kernel_rfl
theorem kok_s4plus : KOk g_s4plus ra_s4plus m15_s4plus m16_s4plus where
 gok := gok_s4plus
 rule := fun p hp => by
  simp only [ra_s4plus, List.mem_cons, List.not_mem_nil, or_false] at hp
  rcases hp with rfl | rfl
  ·exact rl_s4plus_0
  ·exact rl_s4plus_1

 sets := fun p hp => by simp [m15_s4plus] at hp
 exprs := fun p hp => by simp [m16_s4plus] at hp
noncomputable def K_s4plus : Nats := KG g_s4plus ra_s4plus m15_s4plus m16_s4plus
theorem nat_s4plus : NatOk K_s4plus := KG_ok kok_s4plus
theorem pl_s4plus : frunX tab 100000 x8 [.t (.str [83, 32, 45, 62, 32, 40, 32, 34, 97, 34, 32, 124, 32, 32, 41, 43, 32, 59])] = some (.agg [.list g_s4plus]) := by kernel_rfl
theorem plain_s4plus (σ : Store) : LD S 8 [.t (.str [83, 32, 45, 62, 32, 40, 32, 34, 97, 34, 32, 124, 32, 32, 41, 43, 32, 59])] σ = some (.t (.agg [.list g_s4plus]), σ) := run_ld e8 rfl (A := A8) rfl rfl (ts := [_]) pl_s4plus σ
def g_s4opt : List T := [(.agg [(.str [83]), (.list []), (.list [(.agg [(.list [(sy 3 [120, 48])])])])]), (.agg [(.str [120, 48]), (.list []), (.list [(.agg [(.list [(sy 1 [97])])]), (.agg [(.list [])]), (.agg [.nils])])])]
def ra_s4opt : List (List Nat × Nat) := [([83], 0), ([120, 48], 1)]
def m15_s4opt : List (List T × T) := []
def m16_s4opt : List (List T × T) := []
theorem gok_s4opt : frunX tab 100000 x13 [.t (.agg [.list g_s4opt])] = some (.bool true) := by kernel_rfl
theorem rl_s4opt_0 : frunX tab 100000 x23 [.t (.agg [.list g_s4opt]), .t (.str [83])] = some (.int .i64 (.ofNat 0)) := by kernel_rfl
theorem rl_s4opt_1 : frunX tab 100000 x23 [.t (.agg [.list g_s4opt]), .t (.str [120, 48])] = some (.int .i64 (.ofNat 1)) := by kernel_rfl
theorem kok_s4opt : KOk g_s4opt ra_s4opt m15_s4opt m16_s4opt where
 gok := gok_s4opt
 rule := fun p hp => by
  simp only [ra_s4opt, List.mem_cons, List.not_mem_nil, or_false] at hp
  rcases hp with rfl | rfl
  ·exact rl_s4opt_0
  ·exact rl_s4opt_1

 sets := fun p hp => by simp [m15_s4opt] at hp
 exprs := fun p hp => by simp [m16_s4opt] at hp
noncomputable def K_s4opt : Nats := KG g_s4opt ra_s4opt m15_s4opt m16_s4opt
theorem nat_s4opt : NatOk K_s4opt := KG_ok kok_s4opt
theorem pl_s4opt : frunX tab 100000 x8 [.t (.str [83, 32, 45, 62, 32, 40, 32, 34, 97, 34, 32, 124, 32, 32, 41, 63, 32, 59])] = some (.agg [.list g_s4opt]) := by kernel_rfl
theorem plain_s4opt (σ : Store) : LD S 8 [.t (.str [83, 32, 45, 62, 32, 40, 32, 34, 97, 34, 32, 124, 32, 32, 41, 63, 32, 59])] σ = some (.t (.agg [.list g_s4opt]), σ) := run_ld e8 rfl (A := A8) rfl rfl (ts := [_]) pl_s4opt σ
def g_s4one : List T := [(.agg [(.str [83]), (.list []), (.list [(.agg [(.list [(sy 1 [97])])]), (.agg [(.list [])])])])]
def ra_s4one : List (List Nat × Nat) := [([83], 0)]
def m15_s4one : List (List T × T) := []
def m16_s4one : List (List T × T) := []
theorem gok_s4one : frunX tab 100000 x13 [.t (.agg [.list g_s4one])] = some (.bool true) := by kernel_rfl
theorem rl_s4one_0 : frunX tab 100000 x23 [.t (.agg [.list g_s4one]), .t (.str [83])] = some (.int .i64 (.ofNat 0)) := by kernel_rfl
theorem kok_s4one : KOk g_s4one ra_s4one m15_s4one m16_s4one where
 gok := gok_s4one
 rule := fun p hp => by
  simp only [ra_s4one, List.mem_cons, List.not_mem_nil, or_false] at hp
  rcases hp with rfl
  ·exact rl_s4one_0

 sets := fun p hp => by simp [m15_s4one] at hp
 exprs := fun p hp => by simp [m16_s4one] at hp
noncomputable def K_s4one : Nats := KG g_s4one ra_s4one m15_s4one m16_s4one
theorem nat_s4one : NatOk K_s4one := KG_ok kok_s4one
theorem pl_s4one : frunX tab 100000 x8 [.t (.str [83, 32, 45, 62, 32, 34, 97, 34, 32, 124, 32, 32, 59])] = some (.agg [.list g_s4one]) := by kernel_rfl
theorem plain_s4one (σ : Store) : LD S 8 [.t (.str [83, 32, 45, 62, 32, 34, 97, 34, 32, 124, 32, 32, 59])] σ = some (.t (.agg [.list g_s4one]), σ) := run_ld e8 rfl (A := A8) rfl rfl (ts := [_]) pl_s4one σ
def g_s4more : List T := [(.agg [(.str [83]), (.list []), (.list [(.agg [(.list [(sy 3 [120, 48]), (sy 3 [120, 49])])])])]), (.agg [(.str [120, 48]), (.list []), (.list [(.agg [(.list [(sy 1 [97])])]), (.agg [(.list [])])])]), (.agg [(.str [120, 49]), (.list []), (.list [(.agg [.nils]), (.agg [(.list [(sy 1 [97]), (sy 3 [120, 49])])]), (.agg [(.list [(sy 3 [120, 49])])])])])]
def ra_s4more : List (List Nat × Nat) := [([83], 0), ([120, 48], 1), ([120, 49], 2)]
def m15_s4more : List (List T × T) := []
def m16_s4more : List (List T × T) := []
theorem gok_s4more : frunX tab 100000 x13 [.t (.agg [.list g_s4more])] = some (.bool true) := by kernel_rfl
theorem rl_s4more_0 : frunX tab 100000 x23 [.t (.agg [.list g_s4more]), .t (.str [83])] = some (.int .i64 (.ofNat 0)) := by kernel_rfl
theorem rl_s4more_1 : frunX tab 100000 x23 [.t (.agg [.list g_s4more]), .t (.str [120, 48])] = some (.int .i64 (.ofNat 1)) := by kernel_rfl
theorem rl_s4more_2 : frunX tab 100000 x23 [.t (.agg [.list g_s4more]), .t (.str [120, 49])] = some (.int .i64 (.ofNat 2)) := by kernel_rfl
theorem kok_s4more : KOk g_s4more ra_s4more m15_s4more m16_s4more where
 gok := gok_s4more
 rule := fun p hp => by
  simp only [ra_s4more, List.mem_cons, List.not_mem_nil, or_false] at hp
  rcases hp with rfl | rfl | rfl
  ·exact rl_s4more_0
  ·exact rl_s4more_1
  ·exact rl_s4more_2

 sets := fun p hp => by simp [m15_s4more] at hp
 exprs := fun p hp => by simp [m16_s4more] at hp
noncomputable def K_s4more : Nats := KG g_s4more ra_s4more m15_s4more m16_s4more
theorem nat_s4more : NatOk K_s4more := KG_ok kok_s4more
theorem pl_s4more : frunX tab 100000 x8 [.t (.str [83, 32, 45, 62, 32, 40, 32, 34, 97, 34, 32, 124, 32, 32, 41, 32, 40, 32, 34, 97, 34, 32, 124, 32, 32, 41, 42, 32, 59])] = some (.agg [.list g_s4more]) := by kernel_rfl
theorem plain_s4more (σ : Store) : LD S 8 [.t (.str [83, 32, 45, 62, 32, 40, 32, 34, 97, 34, 32, 124, 32, 32, 41, 32, 40, 32, 34, 97, 34, 32, 124, 32, 32, 41, 42, 32, 59])] σ = some (.t (.agg [.list g_s4more]), σ) := run_ld e8 rfl (A := A8) rfl rfl (ts := [_]) pl_s4more σ
noncomputable def cks4 (t : List Nat) : Bool := lawB (endR K_s4star g_s4star [83] t) (endR K_s4plus g_s4plus [83] t) (endR K_s4opt g_s4opt [83] t) (endR K_s4one g_s4one [83] t) (endR K_s4more g_s4more [83] t) t.length
theorem star0_4 : accB K_s4star g_s4star [83] [] true = true := by kernel_rfl
end X
