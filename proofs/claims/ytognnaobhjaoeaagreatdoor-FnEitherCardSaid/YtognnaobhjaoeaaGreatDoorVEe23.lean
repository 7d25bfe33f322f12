/- Runs of the engine at the grammars of a law. By a printer of this session's. No statement of the claim is in it. -/
import Derived.Test.YtognnaobhjaoeaaGreatDoorVEeD
open Go Go.V Go.Proofs
namespace X
set_option maxRecDepth 100000
set_option linter.unusedVariables false
def g_ec23 : List T := [(.agg [(.str [83]), (.list []), (.list [(.agg [(.list [(sy 3 [65])])]), (.agg [(.list [(sy 3 [66])])])])]), (.agg [(.str [65]), (.list []), (.list [(.agg [(.list [(sy 1 [97, 98])])]), (.agg [(.list [(sy 1 [98, 97])])])])]), (.agg [(.str [66]), (.list []), (.list [(.agg [(.list [(sy 2 [97, 98]), (.agg [(.int .i64 (.ofNat 4)), (.str []), (.list [(.agg [(.list [(.agg [(.int .i64 (.ofNat 3)), (.int .i64 (.ofNat 0)), (.str []), (.list [])]), (.agg [(.int .i64 (.ofNat 1)), (.int .i64 (.ofNat 1)), (.str []), (.list [])]), (.agg [(.int .i64 (.ofNat 9)), (.int .i64 (.ofNat 0)), (.str []), (.list [(.agg [(.int .i64 (.ofNat 0))]), (.agg [(.int .i64 (.ofNat 1))])])])])])]), (.str [])])])])])])]
def ra_ec23 : List (List Nat × Nat) := [([83], 0), ([65], 1), ([66], 2)]
def m15_ec23 : List (List T × T) := [([.str [97, 98], .int .u8 (.ofNat 97)], .bool true), ([.str [97, 98], .int .u8 (.ofNat 98)], .bool true)]
def m16_ec23 : List (List T × T) := [([(.agg [(.list [(.agg [(.int .i64 (.ofNat 3)), (.int .i64 (.ofNat 0)), (.str []), (.list [])]), (.agg [(.int .i64 (.ofNat 1)), (.int .i64 (.ofNat 1)), (.str []), (.list [])]), (.agg [(.int .i64 (.ofNat 9)), (.int .i64 (.ofNat 0)), (.str []), (.list [(.agg [(.int .i64 (.ofNat 0))]), (.agg [(.int .i64 (.ofNat 1))])])])])]), .list [], .int .i64 (.ofNat 0)], .tup [.int .i64 (.ofNat 0), .bool true]), ([(.agg [(.list [(.agg [(.int .i64 (.ofNat 3)), (.int .i64 (.ofNat 0)), (.str []), (.list [])]), (.agg [(.int .i64 (.ofNat 1)), (.int .i64 (.ofNat 1)), (.str []), (.list [])]), (.agg [(.int .i64 (.ofNat 9)), (.int .i64 (.ofNat 0)), (.str []), (.list [(.agg [(.int .i64 (.ofNat 0))]), (.agg [(.int .i64 (.ofNat 1))])])])])]), .list [], .int .i64 (.ofNat 1)], .tup [.int .i64 (.ofNat 1), .bool true]), ([(.agg [(.list [(.agg [(.int .i64 (.ofNat 3)), (.int .i64 (.ofNat 0)), (.str []), (.list [])]), (.agg [(.int .i64 (.ofNat 1)), (.int .i64 (.ofNat 1)), (.str []), (.list [])]), (.agg [(.int .i64 (.ofNat 9)), (.int .i64 (.ofNat 0)), (.str []), (.list [(.agg [(.int .i64 (.ofNat 0))]), (.agg [(.int .i64 (.ofNat 1))])])])])]), .list [], .int .i64 (.ofNat 2)], .tup [.int .i64 (.ofNat 0), .bool true]), ([(.agg [(.list [(.agg [(.int .i64 (.ofNat 3)), (.int .i64 (.ofNat 0)), (.str []), (.list [])]), (.agg [(.int .i64 (.ofNat 1)), (.int .i64 (.ofNat 1)), (.str []), (.list [])]), (.agg [(.int .i64 (.ofNat 9)), (.int .i64 (.ofNat 0)), (.str []), (.list [(.agg [(.int .i64 (.ofNat 0))]), (.agg [(.int .i64 (.ofNat 1))])])])])]), .list [], .int .i64 (.ofNat 3)], .tup [.int .i64 (.ofNat 0), .bool true]), ([(.agg [(.list [(.agg [(.int .i64 (.ofNat 3)), (.int .i64 (.ofNat 0)), (.str []), (.list [])]), (.agg [(.int .i64 (.ofNat 1)), (.int .i64 (.ofNat 1)), (.str []), (.list [])]), (.agg [(.int .i64 (.ofNat 9)), (.int .i64 (.ofNat 0)), (.str []), (.list [(.agg [(.int .i64 (.ofNat 0))]), (.agg [(.int .i64 (.ofNat 1))])])])])]), .list [], .int .i64 (.ofNat 4)], .tup [.int .i64 (.ofNat 0), .bool true]), ([(.agg [(.list [(.agg [(.int .i64 (.ofNat 3)), (.int .i64 (.ofNat 0)), (.str []), (.list [])]), (.agg [(.int .i64 (.ofNat 1)), (.int .i64 (.ofNat 1)), (.str []), (.list [])]), (.agg [(.int .i64 (.ofNat 9)), (.int .i64 (.ofNat 0)), (.str []), (.list [(.agg [(.int .i64 (.ofNat 0))]), (.agg [(.int .i64 (.ofNat 1))])])])])]), .list [], .int .i64 (.ofNat 5)], .tup [.int .i64 (.ofNat 0), .bool true])]
theorem gok_ec23 : frunX tab 100000 x13 [.t (.agg [.list g_ec23])] = some (.bool true) := by kernel_rfl
theorem rl_ec23_0 : frunX tab 100000 x23 [.t (.agg [.list g_ec23]), .t (.str [83])] = some (.int .i64 (.ofNat 0)) := by kernel_rfl
theorem rl_ec23_1 : frunX tab 100000 x23 [.t (.agg [.list g_ec23]), .t (.str [65])] = some (.int .i64 (.ofNat 1)) := by kernel_rfl
theorem rl_ec23_2 : frunX tab 100000 x23 [.t (.agg [.list g_ec23]), .t (.str [66])] = some (.int .i64 (.ofNat 2)) := by kernel_rfl
theorem s15_ec23_0 : frunX tab 100000 x115 ([.str [97, 98], .int .u8 (.ofNat 97)].map V.t) = some (.bool true) := by kernel_rfl
theorem s15_ec23_1 : frunX tab 100000 x115 ([.str [97, 98], .int .u8 (.ofNat 98)].map V.t) = some (.bool true) := by kernel_rfl
theorem s16_ec23_0 : frunX tab 100000 x116 ([(.agg [(.list [(.agg [(.int .i64 (.ofNat 3)), (.int .i64 (.ofNat 0)), (.str []), (.list [])]), (.agg [(.int .i64 (.ofNat 1)), (.int .i64 (.ofNat 1)), (.str []), (.list [])]), (.agg [(.int .i64 (.ofNat 9)), (.int .i64 (.ofNat 0)), (.str []), (.list [(.agg [(.int .i64 (.ofNat 0))]), (.agg [(.int .i64 (.ofNat 1))])])])])]), .list [], .int .i64 (.ofNat 0)].map V.t) = some (.tup [.int .i64 (.ofNat 0), .bool true]) := by kernel_rfl
theorem s16_ec23_1 : frunX tab 100000 x116 ([(.agg [(.list [(.agg [(.int .i64 (.ofNat 3)), (.int .i64 (.ofNat 0)), (.str []), (.list [])]), (.agg [(.int .i64 (.ofNat 1)), (.int .i64 (.ofNat 1)), (.str []), (.list [])]), (.agg [(.int .i64 (.ofNat 9)), (.int .i64 (.ofNat 0)), (.str []), (.list [(.agg [(.int .i64 (.ofNat 0))]), (.agg [(.int .i64 (.ofNat 1))])])])])]), .list [], .int .i64 (.ofNat 1)].map V.t) = some (.tup [.int .i64 (.ofNat 1), .bool true]) := by kernel_rfl
theorem s16_ec23_2 : frunX tab 100000 x116 ([(.agg [(.list [(.agg [(.int .i64 (.ofNat 3)), (.int .i64 (.ofNat 0)), (.str []), (.list [])]), (.agg [(.int .i64 (.ofNat 1)), (.int .i64 (.ofNat 1)), (.str []), (.list [])]), (.agg [(.int .i64 (.ofNat 9)), (.int .i64 (.ofNat 0)), (.str []), (.list [(.agg [(.int .i64 (.ofNat 0))]), (.agg [(.int .i64 (.ofNat 1))])])])])]), .list [], .int .i64 (.ofNat 2)].map V.t) = some (.tup [.int .i64 (.ofNat 0), .bool true]) := by kernel_rfl
theorem s16_ec23_3 : frunX tab 100000 x116 ([(.agg [(.list [(.agg [(.int .i64 (.ofNat 3)), (.int .i64 (.ofNat 0)), (.str []), (.list [])]), (.agg [(.int .i64 (.ofNat 1)), (.int .i64 (.ofNat 1)), (.str []), (.list [])]), (.agg [(.int .i64 (.ofNat 9)), (.int .i64 (.ofNat 0)), (.str []), (.list [(.agg [(.int .i64 (.ofNat 0))]), (.agg [(.int .i64 (.ofNat 1))])])])])]), .list [], .int .i64 (.ofNat 3)].map V.t) = some (.tup [.int .i64 (.ofNat 0), .bool true]) := by kernel_rfl
theorem s16_ec23_4 : frunX tab 100000 x116 ([(.agg [(.list [(.agg [(.int .i64 (.ofNat 3)), (.int .i64 (.ofNat 0)), (.str []), (.list [])]), (.agg [(.int .i64 (.ofNat 1)), (.int .i64 (.ofNat 1)), (.str []), (.list [])]), (.agg [(.int .i64 (.ofNat 9)), (.int .i64 (.ofNat 0)), (.str []), (.list [(.agg [(.int .i64 (.ofNat 0))]), (.agg [(.int .i64 (.ofNat 1))])])])])]), .list [], .int .i64 (.ofNat 4)].map V.t) = some (.tup [.int .i64 (.ofNat 0), .bool true]) := by kernel_rfl
theorem s16_ec23_5 : frunX tab 100000 x116 ([(.agg [(.list [(.agg [(.int .i64 (.ofNat 3)), (.int .i64 (.ofNat 0)), (.str []), (.list [])]), (.agg [(.int .i64 (.ofNat 1)), (.int .i64 (.ofNat 1)), (.str []), (.list [])]), (.agg [(.int .i64 (.ofNat 9)), (.int .i64 (.ofNat 0)), (.str []), (.list [(.agg [(.int .i64 (.ofNat 0))]), (.agg [(.int .i64 (.ofNat 1))])])])])]), .list [], .int .i64 (.ofNat 5)].map V.t) = some (.tup [.int .i64 (.ofNat 0), .bool true]) := by kernel_rfl
theorem kok_ec23 : KOk g_ec23 ra_ec23 m15_ec23 m16_ec23 where
 gok := gok_ec23
 rule := fun p hp => by
  simp only [ra_ec23, List.mem_cons, List.not_mem_nil, or_false] at hp
  rcases hp with rfl | rfl | rfl
  ·exact rl_ec23_0
  ·exact rl_ec23_1
  ·exact rl_ec23_2

 sets := fun p hp => by
  simp only [m15_ec23, List.mem_cons, List.not_mem_nil, or_false] at hp
  rcases hp with rfl | rfl
  ·exact s15_ec23_0
  ·exact s15_ec23_1

 exprs := fun p hp => by
  simp only [m16_ec23, List.mem_cons, List.not_mem_nil, or_false] at hp
  rcases hp with rfl | rfl | rfl | rfl | rfl | rfl
  ·exact s16_ec23_0
  ·exact s16_ec23_1
  ·exact s16_ec23_2
  ·exact s16_ec23_3
  ·exact s16_ec23_4
  ·exact s16_ec23_5

noncomputable def K_ec23 : Nats := KG g_ec23 ra_ec23 m15_ec23 m16_ec23
theorem nat_ec23 : NatOk K_ec23 := KG_ok kok_ec23
theorem pl_ec23 : frunX tab 100000 x8 [.t (.str [83, 32, 45, 62, 32, 65, 32, 124, 32, 66, 32, 59, 32, 65, 32, 45, 62, 32, 34, 97, 98, 34, 32, 124, 32, 34, 98, 97, 34, 32, 59, 32, 66, 32, 45, 62, 32, 91, 97, 98, 93, 32, 123, 32, 64, 32, 61, 32, 49, 32, 125, 32, 59])] = some (.agg [.list g_ec23]) := by kernel_rfl
theorem plain_ec23 (σ : Store) : LD S 8 [.t (.str [83, 32, 45, 62, 32, 65, 32, 124, 32, 66, 32, 59, 32, 65, 32, 45, 62, 32, 34, 97, 98, 34, 32, 124, 32, 34, 98, 97, 34, 32, 59, 32, 66, 32, 45, 62, 32, 91, 97, 98, 93, 32, 123, 32, 64, 32, 61, 32, 49, 32, 125, 32, 59])] σ = some (.t (.agg [.list g_ec23]), σ) := run_ld e8 rfl (A := A8) rfl rfl (ts := [_]) pl_ec23 σ
noncomputable def ck_ec23 (t : List Nat) : Bool := accB K_ec23 g_ec23 [83] t (accX 2 t || accX 3 t)
theorem c_ec23_0 : (txt 97 98 0).all ck_ec23 = true := by kernel_rfl
theorem c_ec23_1 : (txt 97 98 1).all ck_ec23 = true := by kernel_rfl
theorem c_ec23_2 : (txt 97 98 2).all ck_ec23 = true := by kernel_rfl
theorem c_ec23_3 : (txt 97 98 3).all ck_ec23 = true := by kernel_rfl
theorem c_ec23_4 : (txt 97 98 4).all ck_ec23 = true := by kernel_rfl
theorem c_ec23_5 : (txt 97 98 5).all ck_ec23 = true := by kernel_rfl
theorem ca_ec23 (t : List Nat) (h : Two 97 98 t) (hn : t.length ≤ 5) : ck_ec23 t = true := by
 have : t.length = 0 ∨ t.length = 1 ∨ t.length = 2 ∨ t.length = 3 ∨ t.length = 4 ∨ t.length = 5 := by omega
 rcases this with e | e | e | e | e | e
 ·exact all_txt c_ec23_0 e h
 ·exact all_txt c_ec23_1 e h
 ·exact all_txt c_ec23_2 e h
 ·exact all_txt c_ec23_3 e h
 ·exact all_txt c_ec23_4 e h
 ·exact all_txt c_ec23_5 e h
theorem acc_ec23 (t : List Nat) (h : Two 97 98 t) (hn : t.length ≤ 5) (σ : Store) : LD S 9 [.t (.agg [.list g_ec23]), .t (.str t)] σ = some (.t (B (accX 2 t || accX 3 t)), σ) := acc_of nat_ec23 (ca_ec23 t h hn) σ
end X
