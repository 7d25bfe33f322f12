/- Runs of the engine at the grammars of a law. By a printer of this session's. No statement of the claim is in it. -/
import Derived.Test.YtognnaobhjaoeaaGreatDoorVEsD
open Go Go.V Go.Proofs
namespace X
set_option maxRecDepth 100000
set_option linter.unusedVariables false
def g_s3star : List T := [(.agg [(.str [83]), (.list []), (.list [(.agg [(.list [(sy 3 [120, 48])])])])]), (.agg [(.str [120, 48]), (.list []), (.list [(.agg [.nils]), (.agg [(.list [(sy 2 [97, 98]), (sy 2 [97, 98]), (sy 3 [120, 48])])])])])]
def ra_s3star : List (List Nat × Nat) := [([83], 0), ([120, 48], 1)]
def m15_s3star : List (List T × T) := [([.str [97, 98], .int .u8 (.ofNat 97)], .bool true), ([.str [97, 98], .int .u8 (.ofNat 98)], .bool true)]
def m16_s3star : List (List T × T) := []
theorem gok_s3star : frunX tab 100000 x13 [.t (.agg [.list g_s3star])] = some (.bool true) := by kernel_rfl
theorem rl_s3star_0 : frunX tab 100000 x23 [.t (.agg [.list g_s3star]), .t (.str [83])] = some (.int .i64 (.ofNat 0)) := by kernel_rfl
theorem rl_s3star_1 : frunX tab 100000 x23 [.t (.agg [.list g_s3star]), .t (.str [120, 48])] = some (.int .i64 (.ofNat 1)) := by kernel_rfl
theorem s15_s3star_0 : frunX tab 100000 x115 ([.str [97, 98], .int .u8 (.ofNat 97)].map V.t) = some (.bool true) := by kernel_rfl
theorem s15_s3star_1 : frunX tab 100000 x115 ([.str [97, 98], .int .u8 (.ofNat 98)].map V.t) = some (.bool true) := by kernel_rfl
theorem kok_s3star : KOk g_s3star ra_s3star m15_s3star m16_s3star where
 gok := gok_s3star
 rule := fun p hp => by
  simp only [ra_s3star, List.mem_cons, List.not_mem_nil, or_false] at hp
  rcases hp with rfl | rfl
  ·exact rl_s3star_0
  ·exact rl_s3star_1

 sets := fun p hp => by
  simp only [m15_s3star, List.mem_cons, List.not_mem_nil, or_false] at hp
  rcases hp with rfl | rfl
  ·exact s15_s3star_0
  ·exact s15_s3star_1

 exprs := fun p hp => by simp [m16_s3star] at hp
noncomputable def K_s3star : Nats := KG g_s3star ra_s3star m15_s3star m16_s3star
theorem nat_s3star : NatOk K_s3star := KG_ok kok_s3star
theorem pl_s3star : frunX tab 100000 x8 [.t (.str [83, 32, 45, 62, 32, 40, 32, 91, 97, 98, 93, 32, 91, 97, 98, 93, 32, 41, 42, 32, 59])] = some (.agg [.list g_s3star]) := by kernel_rfl
theorem plain_s3star (σ : Store) : LD S 8 [.t (.str [83, 32, 45, 62, 32, 40, 32, 91, 97, 98, 93, 32, 91, 97, 98, 93, 32, 41, 42, 32, 59])] σ = some (.t (.agg [.list g_s3star]), σ) := run_ld e8 rfl (A := A8) rfl rfl (ts := [_]) pl_s3star σ
def g_s3plus : List T := [(.agg [(.str [83]), (.list []), (.list [(.agg [(.list [(sy 3 [120, 48])])])])]), (.agg [(.str [120, 48]), (.list []), (.list [(.agg [(.list [(sy 2 [97, 98]), (sy 2 [97, 98])])]), (.agg [(.list [(sy 2 [97, 98]), (sy 2 [97, 98]), (sy 3 [120, 48])])])])])]
def ra_s3plus : List (List Nat × Nat) := [([83], 0), ([120, 48], 1)]
def m15_s3plus : List (List T × T) := [([.str [97, 98], .int .u8 (.ofNat 97)], .bool true), ([.str [97, 98], .int .u8 (.ofNat 98)], .bool true)]
def m16_s3plus : List (List T × T) := []
theorem gok_s3plus : frunX tab 100000 x13 [.t (.agg [.list g_s3plus])] = some (.bool true) := by kernel_rfl
theorem rl_s3plus_0 : frunX tab 100000 x23 [.t (.agg [.list g_s3plus]), .t (.str [83])] = some (.int .i64 (.ofNat 0)) := by kernel_rfl
theorem rl_s3plus_1 : frunX tab 100000 x23 [.t (.agg [.list g_s3plus]), .t (.str [120, 48])] = some (.int .i64 (.ofNat 1)) := by kernel_rfl
theorem s15_s3plus_0 : frunX tab 100000 x115 ([.str [97, 98], .int .u8 (.ofNat 97)].map V.t) = some (.bool true) := by kernel_rfl
theorem s15_s3plus_1 : frunX tab 100000 x115 ([.str [97, 98], .int .u8 (.ofNat 98)].map V.t) = some (.bool true) := by kernel_rfl
theorem kok_s3plus : KOk g_s3plus ra_s3plus m15_s3plus m16_s3plus where
 gok := gok_s3plus
 rule := fun p hp => by
  simp only [ra_s3plus, List.mem_cons, List.not_mem_nil, or_false] at hp
  rcases hp with rfl | rfl
  ·exact rl_s3plus_0
  ·exact rl_s3plus_1

 sets := fun p hp => by
  simp only [m15_s3plus, List.mem_cons, List.not_mem_nil, or_false] at hp
  rcases hp with rfl | rfl
  ·exact s15_s3plus_0
  ·exact s15_s3plus_1

 exprs := fun p hp => by simp [m16_s3plus] at hp
noncomputable def K_s3plus : Nats := KG g_s3plus ra_s3plus m15_s3plus m16_s3plus
theorem nat_s3plus : NatOk K_s3plus := KG_ok kok_s3plus
theorem pl_s3plus : frunX tab 100000 x8 [.t (.str [83, 32, 45, 62, 32, 40, 32, 91, 97, 98, 93, 32, 91, 97, 98, 93, 32, 41, 43, 32, 59])] = some (.agg [.list g_s3plus]) := by kernel_rfl
theorem plain_s3plus (σ : Store) : LD S 8 [.t (.str [83, 32, 45, 62, 32, 40, 32, 91, 97, 98, 93, 32, 91, 97, 98, 93, 32, 41, 43, 32, 59])] σ = some (.t (.agg [.list g_s3plus]), σ) := run_ld e8 rfl (A := A8) rfl rfl (ts := [_]) pl_s3plus σ
def g_s3opt : List T := [(.agg [(.str [83]), (.list []), (.list [(.agg [(.list [(sy 3 [120, 48])])])])]), (.agg [(.str [120, 48]), (.list []), (.list [(.agg [(.list [(sy 2 [97, 98]), (sy 2 [97, 98])])]), (.agg [.nils])])])]
def ra_s3opt : List (List Nat × Nat) := [([83], 0), ([120, 48], 1)]
def m15_s3opt : List (List T × T) := [([.str [97, 98], .int .u8 (.ofNat 97)], .bool true), ([.str [97, 98], .int .u8 (.ofNat 98)], .bool true)]
def m16_s3opt : List (List T × T) := []
theorem gok_s3opt : frunX tab 100000 x13 [.t (.agg [.list g_s3opt])] = some (.bool true) := by kernel_rfl
theorem rl_s3opt_0 : frunX tab 100000 x23 [.t (.agg [.list g_s3opt]), .t (.str [83])] = some (.int .i64 (.ofNat 0)) := by kernel_rfl
theorem rl_s3opt_1 : frunX tab 100000 x23 [.t (.agg [.list g_s3opt]), .t (.str [120, 48])] = some (.int .i64 (.ofNat 1)) := by kernel_rfl
theorem s15_s3opt_0 : frunX tab 100000 x115 ([.str [97, 98], .int .u8 (.ofNat 97)].map V.t) = some (.bool true) := by kernel_rfl
theorem s15_s3opt_1 : frunX tab 100000 x115 ([.str [97, 98], .int .u8 (.ofNat 98)].map V.t) = some (.bool true) := by kernel_rfl
theorem kok_s3opt : KOk g_s3opt ra_s3opt m15_s3opt m16_s3opt where
 gok := gok_s3opt
 rule := fun p hp => by
  simp only [ra_s3opt, List.mem_cons, List.not_mem_nil, or_false] at hp
  rcases hp with rfl | rfl
  ·exact rl_s3opt_0
  ·exact rl_s3opt_1

 sets := fun p hp => by
  simp only [m15_s3opt, List.mem_cons, List.not_mem_nil, or_false] at hp
  rcases hp with rfl | rfl
  ·exact s15_s3opt_0
  ·exact s15_s3opt_1

 exprs := fun p hp => by simp [m16_s3opt] at hp
noncomputable def K_s3opt : Nats := KG g_s3opt ra_s3opt m15_s3opt m16_s3opt
theorem nat_s3opt : NatOk K_s3opt := KG_ok kok_s3opt
theorem pl_s3opt : frunX tab 100000 x8 [.t (.str [83, 32, 45, 62, 32, 40, 32, 91, 97, 98, 93, 32, 91, 97, 98, 93, 32, 41, 63, 32, 59])] = some (.agg [.list g_s3opt]) := by kernel_rfl
theorem plain_s3opt (σ : Store) : LD S 8 [.t (.str [83, 32, 45, 62, 32, 40, 32, 91, 97, 98, 93, 32, 91, 97, 98, 93, 32, 41, 63, 32, 59])] σ = some (.t (.agg [.list g_s3opt]), σ) := run_ld e8 rfl (A := A8) rfl rfl (ts := [_]) pl_s3opt σ
def g_s3one : List T := [(.agg [(.str [83]), (.list []), (.list [(.agg [(.list [(sy 2 [97, 98]), (sy 2 [97, 98])])])])])]
def ra_s3one : List (List Nat × Nat) := [([83], 0)]
def m15_s3one : List (List T × T) := [([.str [97, 98], .int .u8 (.ofNat 97)], .bool true), ([.str [97, 98], .int .u8 (.ofNat 98)], .bool true)]
def m16_s3one : List (List T × T) := []
theorem gok_s3one : frunX tab 100000 x13 [.t (.agg [.list g_s3one])] = some (.bool true) := by kernel_rfl
theorem rl_s3one_0 : frunX tab 100000 x23 [.t (.agg [.list g_s3one]), .t (.str [83])] = some (.int .i64 (.ofNat 0)) := by kernel_rfl
theorem s15_s3one_0 : frunX tab 100000 x115 ([.str [97, 98], .int .u8 (.ofNat 97)].map V.t) = some (.bool true) := by kernel_rfl
theorem s15_s3one_1 : frunX tab 100000 x115 ([.str [97, 98], .int .u8 (.ofNat 98)].map V.t) = some (.bool true) := by kernel_rfl
theorem kok_s3one : KOk g_s3one ra_s3one m15_s3one m16_s3one where
 gok := gok_s3one
 rule := fun p hp => by
  simp only [ra_s3one, List.mem_cons, List.not_mem_nil, or_false] at hp
  rcases hp with rfl
  ·exact rl_s3one_0

 sets := fun p hp => by
  simp only [m15_s3one, List.mem_cons, List.not_mem_nil, or_false] at hp
  rcases hp with rfl | rfl
  ·exact s15_s3one_0
  ·exact s15_s3one_1

 exprs := fun p hp => by simp [m16_s3one] at hp
noncomputable def K_s3one : Nats := KG g_s3one ra_s3one m15_s3one m16_s3one
theorem nat_s3one : NatOk K_s3one := KG_ok kok_s3one
theorem pl_s3one : frunX tab 100000 x8 [.t (.str [83, 32, 45, 62, 32, 91, 97, 98, 93, 32, 91, 97, 98, 93, 32, 59])] = some (.agg [.list g_s3one]) := by kernel_rfl
theorem plain_s3one (σ : Store) : LD S 8 [.t (.str [83, 32, 45, 62, 32, 91, 97, 98, 93, 32, 91, 97, 98, 93, 32, 59])] σ = some (.t (.agg [.list g_s3one]), σ) := run_ld e8 rfl (A := A8) rfl rfl (ts := [_]) pl_s3one σ
def g_s3more : List T := [(.agg [(.str [83]), (.list []), (.list [(.agg [(.list [(sy 3 [120, 48]), (sy 3 [120, 49])])])])]), (.agg [(.str [120, 48]), (.list []), (.list [(.agg [(.list [(sy 2 [97, 98]), (sy 2 [97, 98])])])])]), (.agg [(.str [120, 49]), (.list []), (.list [(.agg [.nils]), (.agg [(.list [(sy 2 [97, 98]), (sy 2 [97, 98]), (sy 3 [120, 49])])])])])]
def ra_s3more : List (List Nat × Nat) := [([83], 0), ([120, 48], 1), ([120, 49], 2)]
def m15_s3more : List (List T × T) := [([.str [97, 98], .int .u8 (.ofNat 97)], .bool true), ([.str [97, 98], .int .u8 (.ofNat 98)], .bool true)]
def m16_s3more : List (List T × T) := []
theorem gok_s3more : frunX tab 100000 x13 [.t (.agg [.list g_s3more])] = some (.bool true) := by kernel_rfl
theorem rl_s3more_0 : frunX tab 100000 x23 [.t (.agg [.list g_s3more]), .t (.str [83])] = some (.int .i64 (.ofNat 0)) := by kernel_rfl
theorem rl_s3more_1 : frunX tab 100000 x23 [.t (.agg [.list g_s3more]), .t (.str [120, 48])] = some (.int .i64 (.ofNat 1)) := by kernel_rfl
theorem rl_s3more_2 : frunX tab 100000 x23 [.t (.agg [.list g_s3more]), .t (.str [120, 49])] = some (.int .i64 (.ofNat 2)) := by kernel_rfl
theorem s15_s3more_0 : frunX tab 100000 x115 ([.str [97, 98], .int .u8 (.ofNat 97)].map V.t) = some (.bool true) := by kernel_rfl
theorem s15_s3more_1 : frunX tab 100000 x115 ([.str [97, 98], .int .u8 (.ofNat 98)].map V.t) = some (.bool true) := by kernel_rfl
theorem kok_s3more : KOk g_s3more ra_s3more m15_s3more m16_s3more where
 gok := gok_s3more
 rule := fun p hp => by
  simp only [ra_s3more, List.mem_cons, List.not_mem_nil, or_false] at hp
  rcases hp with rfl | rfl | rfl
  ·exact rl_s3more_0
  ·exact rl_s3more_1
  ·exact rl_s3more_2

 sets := fun p hp => by
  simp only [m15_s3more, List.mem_cons, List.not_mem_nil, or_false] at hp
  rcases hp with rfl | rfl
  ·exact s15_s3more_0
  ·exact s15_s3more_1

 exprs := fun p hp => by simp [m16_s3more] at hp
noncomputable def K_s3more : Nats := KG g_s3more ra_s3more m15_s3more m16_s3more
theorem nat_s3more : NatOk K_s3more := KG_ok kok_s3more
theorem pl_s3more : frunX tab 100000 x8 [.t (.str [83, 32, 45, 62, 32, 40, 32, 91, 97, 98, 93, 32, 91, 97, 98, 93, 32, 41, 32, 40, 32, 91, 97, 98, 93, 32, 91, 97, 98, 93, 32, 41, 42, 32, 59])] = some (.agg [.list g_s3more]) := by kernel_rfl
theorem plain_s3more (σ : Store) : LD S 8 [.t (.str [83, 32, 45, 62, 32, 40, 32, 91, 97, 98, 93, 32, 91, 97, 98, 93, 32, 41, 32, 40, 32, 91, 97, 98, 93, 32, 91, 97, 98, 93, 32, 41, 42, 32, 59])] σ = some (.t (.agg [.list g_s3more]), σ) := run_ld e8 rfl (A := A8) rfl rfl (ts := [_]) pl_s3more σ
noncomputable def cks3 (t : List Nat) : Bool := lawB (endR K_s3star g_s3star [83] t) (endR K_s3plus g_s3plus [83] t) (endR K_s3opt g_s3opt [83] t) (endR K_s3one g_s3one [83] t) (endR K_s3more g_s3more [83] t) t.length
theorem star0_3 : accB K_s3star g_s3star [83] [] true = true := by kernel_rfl
end X
