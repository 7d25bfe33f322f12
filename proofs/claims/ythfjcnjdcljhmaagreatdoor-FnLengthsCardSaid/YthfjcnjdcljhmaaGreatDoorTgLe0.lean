/- FnLengths's grammar and small closed runs. By a printer of this session's. -/
import Derived.Test.YthfjcnjdcljhmaaGreatDoorTgLaw
open Go Go.V Go.Proofs
namespace X
set_option maxRecDepth 100000
set_option maxHeartbeats 4000000
set_option linter.unusedSimpArgs false
set_option linter.unusedVariables false
namespace TzLe
def gL : T := (.list [(.agg [(.str [83]), (.list []), (.list [(.agg [(.list [(.agg [(.int .i64 (.ofNat 3)), (.str [78]), (.list []), (.str [110])]), (.agg [(.int .i64 (.ofNat 1)), (.str [58]), (.list []), (.str [])]), (.agg [(.int .i64 (.ofNat 3)), (.str [66]), (.list [(.agg [(.list [(.agg [(.int .i64 (.ofNat 2)), (.int .i64 (.ofNat 0)), (.str [110]), (.list [])])])])]), (.str [])])])])])]), (.agg [(.str [78]), (.list []), (.list [(.agg [(.list [(.agg [(.int .i64 (.ofNat 2)), (.str [48, 45, 57]), (.list []), (.str [])])])])])]), (.agg [(.str [66]), (.list [(.agg [(.str [107])])]), (.list [(.agg [(.list [(.agg [(.int .i64 (.ofNat 4)), (.str []), (.list [(.agg [(.list [(.agg [(.int .i64 (.ofNat 2)), (.int .i64 (.ofNat 0)), (.str [107]), (.list [])]), (.agg [(.int .i64 (.ofNat 1)), (.int .i64 (.ofNat 0)), (.str []), (.list [])]), (.agg [(.int .i64 (.ofNat 9)), (.int .i64 (.ofNat 0)), (.str []), (.list [(.agg [(.int .i64 (.ofNat 0))]), (.agg [(.int .i64 (.ofNat 1))])])])])])]), (.str [])])])]), (.agg [(.list [(.agg [(.int .i64 (.ofNat 4)), (.str []), (.list [(.agg [(.list [(.agg [(.int .i64 (.ofNat 1)), (.int .i64 (.ofNat 0)), (.str []), (.list [])]), (.agg [(.int .i64 (.ofNat 2)), (.int .i64 (.ofNat 0)), (.str [107]), (.list [])]), (.agg [(.int .i64 (.ofNat 8)), (.int .i64 (.ofNat 0)), (.str []), (.list [(.agg [(.int .i64 (.ofNat 0))]), (.agg [(.int .i64 (.ofNat 1))])])])])])]), (.str [])]), (.agg [(.int .i64 (.ofNat 2)), (.str [97, 98]), (.list []), (.str [])]), (.agg [(.int .i64 (.ofNat 3)), (.str [66]), (.list [(.agg [(.list [(.agg [(.int .i64 (.ofNat 2)), (.int .i64 (.ofNat 0)), (.str [107]), (.list [])]), (.agg [(.int .i64 (.ofNat 1)), (.int .i64 (.ofNat 1)), (.str []), (.list [])]), (.agg [(.int .i64 (.ofNat 5)), (.int .i64 (.ofNat 0)), (.str []), (.list [(.agg [(.int .i64 (.ofNat 0))]), (.agg [(.int .i64 (.ofNat 1))])])])])])]), (.str [])])])])])])])
def eR (m c : Nat) : T := match Nat.ble c m with
  | true => .list [.agg [I (2 + c)]]
  | false => .nils
theorem plain : frunX tab 100000 x17 [.t (.str [83, 32, 45, 62, 32, 110, 58, 78, 32, 34, 58, 34, 32, 66, 40, 110, 41, 32, 59, 32, 78, 32, 45, 62, 32, 91, 48, 45, 57, 93, 32, 59, 32, 66, 40, 107, 41, 32, 45, 62, 32, 123, 32, 107, 32, 61, 32, 48, 32, 125, 32, 124, 32, 123, 32, 48, 32, 60, 32, 107, 32, 125, 32, 91, 97, 98, 93, 32, 66, 40, 107, 32, 45, 32, 49, 41, 32, 59])] = some (.agg [gL]) := by kernel_rfl
theorem plain_ld (σ : Store) : LD S 17 [.t (.str [83, 32, 45, 62, 32, 110, 58, 78, 32, 34, 58, 34, 32, 66, 40, 110, 41, 32, 59, 32, 78, 32, 45, 62, 32, 91, 48, 45, 57, 93, 32, 59, 32, 66, 40, 107, 41, 32, 45, 62, 32, 123, 32, 107, 32, 61, 32, 48, 32, 125, 32, 124, 32, 123, 32, 48, 32, 60, 32, 107, 32, 125, 32, 91, 97, 98, 93, 32, 66, 40, 107, 32, 45, 32, 49, 41, 32, 59])] σ = some (.t (.agg [gL]), σ) := run_ld e17 rfl (A := A17) rfl rfl (ts := [_]) plain σ
theorem dec0 : frunX tab 100000 x20 [.t (.int .i64 0)] = some (.str [48]) := by kernel_rfl
theorem rowa0 : frunX tab 100000 x19 [.t (.int .i64 0), .t (.str [97])] = some (.str []) := by kernel_rfl
theorem rowb0 : frunX tab 100000 x19 [.t (.int .i64 0), .t (.str [98])] = some (.str []) := by kernel_rfl
theorem accb0 : frunX tab 100000 x18 [.t (.agg [gL]), .t (.str [])] = some (.bool false) := by kernel_rfl
theorem dec1 : frunX tab 100000 x20 [.t (.int .i64 1)] = some (.str [49]) := by kernel_rfl
theorem rowa1 : frunX tab 100000 x19 [.t (.int .i64 1), .t (.str [97])] = some (.str [97]) := by kernel_rfl
theorem rowb1 : frunX tab 100000 x19 [.t (.int .i64 1), .t (.str [98])] = some (.str [98]) := by kernel_rfl
theorem accb1 : frunX tab 100000 x18 [.t (.agg [gL]), .t (.str [98])] = some (.bool false) := by kernel_rfl
theorem dec2 : frunX tab 100000 x20 [.t (.int .i64 2)] = some (.str [50]) := by kernel_rfl
theorem rowa2 : frunX tab 100000 x19 [.t (.int .i64 2), .t (.str [97])] = some (.str [97, 97]) := by kernel_rfl
theorem rowb2 : frunX tab 100000 x19 [.t (.int .i64 2), .t (.str [98])] = some (.str [98, 98]) := by kernel_rfl
theorem accb2 : frunX tab 100000 x18 [.t (.agg [gL]), .t (.str [98, 98])] = some (.bool false) := by kernel_rfl
theorem dec3 : frunX tab 100000 x20 [.t (.int .i64 3)] = some (.str [51]) := by kernel_rfl
theorem rowa3 : frunX tab 100000 x19 [.t (.int .i64 3), .t (.str [97])] = some (.str [97, 97, 97]) := by kernel_rfl
theorem rowb3 : frunX tab 100000 x19 [.t (.int .i64 3), .t (.str [98])] = some (.str [98, 98, 98]) := by kernel_rfl
theorem accb3 : frunX tab 100000 x18 [.t (.agg [gL]), .t (.str [98, 98, 98])] = some (.bool false) := by kernel_rfl
theorem dec4 : frunX tab 100000 x20 [.t (.int .i64 4)] = some (.str [52]) := by kernel_rfl
theorem rowa4 : frunX tab 100000 x19 [.t (.int .i64 4), .t (.str [97])] = some (.str [97, 97, 97, 97]) := by kernel_rfl
theorem rowb4 : frunX tab 100000 x19 [.t (.int .i64 4), .t (.str [98])] = some (.str [98, 98, 98, 98]) := by kernel_rfl
theorem accb4 : frunX tab 100000 x18 [.t (.agg [gL]), .t (.str [98, 98, 98, 98])] = some (.bool false) := by kernel_rfl
theorem dec5 : frunX tab 100000 x20 [.t (.int .i64 5)] = some (.str [53]) := by kernel_rfl
theorem rowa5 : frunX tab 100000 x19 [.t (.int .i64 5), .t (.str [97])] = some (.str [97, 97, 97, 97, 97]) := by kernel_rfl
theorem rowb5 : frunX tab 100000 x19 [.t (.int .i64 5), .t (.str [98])] = some (.str [98, 98, 98, 98, 98]) := by kernel_rfl
theorem accb5 : frunX tab 100000 x18 [.t (.agg [gL]), .t (.str [98, 98, 98, 98, 98])] = some (.bool false) := by kernel_rfl
theorem dec6 : frunX tab 100000 x20 [.t (.int .i64 6)] = some (.str [54]) := by kernel_rfl
theorem rowa6 : frunX tab 100000 x19 [.t (.int .i64 6), .t (.str [97])] = some (.str [97, 97, 97, 97, 97, 97]) := by kernel_rfl
theorem rowb6 : frunX tab 100000 x19 [.t (.int .i64 6), .t (.str [98])] = some (.str [98, 98, 98, 98, 98, 98]) := by kernel_rfl
theorem accb6 : frunX tab 100000 x18 [.t (.agg [gL]), .t (.str [98, 98, 98, 98, 98, 98])] = some (.bool false) := by kernel_rfl
theorem dec7 : frunX tab 100000 x20 [.t (.int .i64 7)] = some (.str [55]) := by kernel_rfl
theorem rowa7 : frunX tab 100000 x19 [.t (.int .i64 7), .t (.str [97])] = some (.str [97, 97, 97, 97, 97, 97, 97]) := by kernel_rfl
theorem rowb7 : frunX tab 100000 x19 [.t (.int .i64 7), .t (.str [98])] = some (.str [98, 98, 98, 98, 98, 98, 98]) := by kernel_rfl
theorem accb7 : frunX tab 100000 x18 [.t (.agg [gL]), .t (.str [98, 98, 98, 98, 98, 98, 98])] = some (.bool false) := by kernel_rfl
theorem dec8 : frunX tab 100000 x20 [.t (.int .i64 8)] = some (.str [56]) := by kernel_rfl
theorem rowa8 : frunX tab 100000 x19 [.t (.int .i64 8), .t (.str [97])] = some (.str [97, 97, 97, 97, 97, 97, 97, 97]) := by kernel_rfl
theorem rowb8 : frunX tab 100000 x19 [.t (.int .i64 8), .t (.str [98])] = some (.str [98, 98, 98, 98, 98, 98, 98, 98]) := by kernel_rfl
theorem accb8 : frunX tab 100000 x18 [.t (.agg [gL]), .t (.str [98, 98, 98, 98, 98, 98, 98, 98])] = some (.bool false) := by kernel_rfl
theorem dec9 : frunX tab 100000 x20 [.t (.int .i64 9)] = some (.str [57]) := by kernel_rfl
theorem rowa9 : frunX tab 100000 x19 [.t (.int .i64 9), .t (.str [97])] = some (.str [97, 97, 97, 97, 97, 97, 97, 97, 97]) := by kernel_rfl
theorem rowb9 : frunX tab 100000 x19 [.t (.int .i64 9), .t (.str [98])] = some (.str [98, 98, 98, 98, 98, 98, 98, 98, 98]) := by kernel_rfl
theorem accb9 : frunX tab 100000 x18 [.t (.agg [gL]), .t (.str [98, 98, 98, 98, 98, 98, 98, 98, 98])] = some (.bool false) := by kernel_rfl
theorem same0 : frunX tab 100000 x24 [.t (.list [.agg [.int .i64 2]]), .t (.list [.agg [.int .i64 2]])] = some (.bool true) := by kernel_rfl
theorem same1 : frunX tab 100000 x24 [.t (.list [.agg [.int .i64 3]]), .t (.list [.agg [.int .i64 3]])] = some (.bool true) := by kernel_rfl
theorem same2 : frunX tab 100000 x24 [.t (.list [.agg [.int .i64 4]]), .t (.list [.agg [.int .i64 4]])] = some (.bool true) := by kernel_rfl
theorem same3 : frunX tab 100000 x24 [.t (.list [.agg [.int .i64 5]]), .t (.list [.agg [.int .i64 5]])] = some (.bool true) := by kernel_rfl
theorem samen : frunX tab 100000 x24 [.t .nils, .t .nils] = some (.bool true) := by kernel_rfl
theorem lt10 {n : Nat} (h : n < 10) : n = 0 ∨ n = 1 ∨ n = 2 ∨ n = 3 ∨ n = 4 ∨ n = 5 ∨ n = 6 ∨ n = 7 ∨ n = 8 ∨ n = 9 := by omega
theorem lt4 {n : Nat} (h : n < 4) : n = 0 ∨ n = 1 ∨ n = 2 ∨ n = 3 := by omega
theorem dec_ld (k : Nat) (h : k < 10) (σ : Store) : LD S 20 [.t (I k)] σ = some (.t (.str [48 + k]), σ) := by
  rcases lt10 h with rfl | rfl | rfl | rfl | rfl | rfl | rfl | rfl | rfl | rfl
  · exact run_ld e20 rfl (A := A20) rfl rfl (ts := [_]) dec0 σ
  · exact run_ld e20 rfl (A := A20) rfl rfl (ts := [_]) dec1 σ
  · exact run_ld e20 rfl (A := A20) rfl rfl (ts := [_]) dec2 σ
  · exact run_ld e20 rfl (A := A20) rfl rfl (ts := [_]) dec3 σ
  · exact run_ld e20 rfl (A := A20) rfl rfl (ts := [_]) dec4 σ
  · exact run_ld e20 rfl (A := A20) rfl rfl (ts := [_]) dec5 σ
  · exact run_ld e20 rfl (A := A20) rfl rfl (ts := [_]) dec6 σ
  · exact run_ld e20 rfl (A := A20) rfl rfl (ts := [_]) dec7 σ
  · exact run_ld e20 rfl (A := A20) rfl rfl (ts := [_]) dec8 σ
  · exact run_ld e20 rfl (A := A20) rfl rfl (ts := [_]) dec9 σ
theorem rowa_ld (k : Nat) (h : k < 10) (σ : Store) : LD S 19 [.t (I k), .t (.str [97])] σ = some (.t (.str (List.replicate k 97)), σ) := by
  rcases lt10 h with rfl | rfl | rfl | rfl | rfl | rfl | rfl | rfl | rfl | rfl
  · exact run_ld e19 rfl (A := A19) rfl rfl (ts := [_, _]) rowa0 σ
  · exact run_ld e19 rfl (A := A19) rfl rfl (ts := [_, _]) rowa1 σ
  · exact run_ld e19 rfl (A := A19) rfl rfl (ts := [_, _]) rowa2 σ
  · exact run_ld e19 rfl (A := A19) rfl rfl (ts := [_, _]) rowa3 σ
  · exact run_ld e19 rfl (A := A19) rfl rfl (ts := [_, _]) rowa4 σ
  · exact run_ld e19 rfl (A := A19) rfl rfl (ts := [_, _]) rowa5 σ
  · exact run_ld e19 rfl (A := A19) rfl rfl (ts := [_, _]) rowa6 σ
  · exact run_ld e19 rfl (A := A19) rfl rfl (ts := [_, _]) rowa7 σ
  · exact run_ld e19 rfl (A := A19) rfl rfl (ts := [_, _]) rowa8 σ
  · exact run_ld e19 rfl (A := A19) rfl rfl (ts := [_, _]) rowa9 σ
theorem rowb_ld (k : Nat) (h : k < 10) (σ : Store) : LD S 19 [.t (I k), .t (.str [98])] σ = some (.t (.str (List.replicate k 98)), σ) := by
  rcases lt10 h with rfl | rfl | rfl | rfl | rfl | rfl | rfl | rfl | rfl | rfl
  · exact run_ld e19 rfl (A := A19) rfl rfl (ts := [_, _]) rowb0 σ
  · exact run_ld e19 rfl (A := A19) rfl rfl (ts := [_, _]) rowb1 σ
  · exact run_ld e19 rfl (A := A19) rfl rfl (ts := [_, _]) rowb2 σ
  · exact run_ld e19 rfl (A := A19) rfl rfl (ts := [_, _]) rowb3 σ
  · exact run_ld e19 rfl (A := A19) rfl rfl (ts := [_, _]) rowb4 σ
  · exact run_ld e19 rfl (A := A19) rfl rfl (ts := [_, _]) rowb5 σ
  · exact run_ld e19 rfl (A := A19) rfl rfl (ts := [_, _]) rowb6 σ
  · exact run_ld e19 rfl (A := A19) rfl rfl (ts := [_, _]) rowb7 σ
  · exact run_ld e19 rfl (A := A19) rfl rfl (ts := [_, _]) rowb8 σ
  · exact run_ld e19 rfl (A := A19) rfl rfl (ts := [_, _]) rowb9 σ
theorem accb_ld (k : Nat) (h : k < 10) (σ : Store) : LD S 18 [.t (.agg [gL]), .t (.str (List.replicate k 98))] σ = some (.t (B false), σ) := by
  rcases lt10 h with rfl | rfl | rfl | rfl | rfl | rfl | rfl | rfl | rfl | rfl
  · exact run_ld e18 rfl (A := A18) rfl rfl (ts := [_, _]) accb0 σ
  · exact run_ld e18 rfl (A := A18) rfl rfl (ts := [_, _]) accb1 σ
  · exact run_ld e18 rfl (A := A18) rfl rfl (ts := [_, _]) accb2 σ
  · exact run_ld e18 rfl (A := A18) rfl rfl (ts := [_, _]) accb3 σ
  · exact run_ld e18 rfl (A := A18) rfl rfl (ts := [_, _]) accb4 σ
  · exact run_ld e18 rfl (A := A18) rfl rfl (ts := [_, _]) accb5 σ
  · exact run_ld e18 rfl (A := A18) rfl rfl (ts := [_, _]) accb6 σ
  · exact run_ld e18 rfl (A := A18) rfl rfl (ts := [_, _]) accb7 σ
  · exact run_ld e18 rfl (A := A18) rfl rfl (ts := [_, _]) accb8 σ
  · exact run_ld e18 rfl (A := A18) rfl rfl (ts := [_, _]) accb9 σ
theorem same_ld (m c : Nat) (hm : m < 10) (hc : c < 4) (σ : Store) : LD S 24 [.t (eR m c), .t (eR m c)] σ = some (.t (B true), σ) := by
  rcases lt10 hm with rfl | rfl | rfl | rfl | rfl | rfl | rfl | rfl | rfl | rfl <;> rcases lt4 hc with rfl | rfl | rfl | rfl
  · exact run_ld e24 rfl (A := A24) rfl rfl (ts := [_, _]) same0 σ
  · exact run_ld e24 rfl (A := A24) rfl rfl (ts := [_, _]) samen σ
  · exact run_ld e24 rfl (A := A24) rfl rfl (ts := [_, _]) samen σ
  · exact run_ld e24 rfl (A := A24) rfl rfl (ts := [_, _]) samen σ
  · exact run_ld e24 rfl (A := A24) rfl rfl (ts := [_, _]) same0 σ
  · exact run_ld e24 rfl (A := A24) rfl rfl (ts := [_, _]) same1 σ
  · exact run_ld e24 rfl (A := A24) rfl rfl (ts := [_, _]) samen σ
  · exact run_ld e24 rfl (A := A24) rfl rfl (ts := [_, _]) samen σ
  · exact run_ld e24 rfl (A := A24) rfl rfl (ts := [_, _]) same0 σ
  · exact run_ld e24 rfl (A := A24) rfl rfl (ts := [_, _]) same1 σ
  · exact run_ld e24 rfl (A := A24) rfl rfl (ts := [_, _]) same2 σ
  · exact run_ld e24 rfl (A := A24) rfl rfl (ts := [_, _]) samen σ
  · exact run_ld e24 rfl (A := A24) rfl rfl (ts := [_, _]) same0 σ
  · exact run_ld e24 rfl (A := A24) rfl rfl (ts := [_, _]) same1 σ
  · exact run_ld e24 rfl (A := A24) rfl rfl (ts := [_, _]) same2 σ
  · exact run_ld e24 rfl (A := A24) rfl rfl (ts := [_, _]) same3 σ
  · exact run_ld e24 rfl (A := A24) rfl rfl (ts := [_, _]) same0 σ
  · exact run_ld e24 rfl (A := A24) rfl rfl (ts := [_, _]) same1 σ
  · exact run_ld e24 rfl (A := A24) rfl rfl (ts := [_, _]) same2 σ
  · exact run_ld e24 rfl (A := A24) rfl rfl (ts := [_, _]) same3 σ
  · exact run_ld e24 rfl (A := A24) rfl rfl (ts := [_, _]) same0 σ
  · exact run_ld e24 rfl (A := A24) rfl rfl (ts := [_, _]) same1 σ
  · exact run_ld e24 rfl (A := A24) rfl rfl (ts := [_, _]) same2 σ
  · exact run_ld e24 rfl (A := A24) rfl rfl (ts := [_, _]) same3 σ
  · exact run_ld e24 rfl (A := A24) rfl rfl (ts := [_, _]) same0 σ
  · exact run_ld e24 rfl (A := A24) rfl rfl (ts := [_, _]) same1 σ
  · exact run_ld e24 rfl (A := A24) rfl rfl (ts := [_, _]) same2 σ
  · exact run_ld e24 rfl (A := A24) rfl rfl (ts := [_, _]) same3 σ
  · exact run_ld e24 rfl (A := A24) rfl rfl (ts := [_, _]) same0 σ
  · exact run_ld e24 rfl (A := A24) rfl rfl (ts := [_, _]) same1 σ
  · exact run_ld e24 rfl (A := A24) rfl rfl (ts := [_, _]) same2 σ
  · exact run_ld e24 rfl (A := A24) rfl rfl (ts := [_, _]) same3 σ
  · exact run_ld e24 rfl (A := A24) rfl rfl (ts := [_, _]) same0 σ
  · exact run_ld e24 rfl (A := A24) rfl rfl (ts := [_, _]) same1 σ
  · exact run_ld e24 rfl (A := A24) rfl rfl (ts := [_, _]) same2 σ
  · exact run_ld e24 rfl (A := A24) rfl rfl (ts := [_, _]) same3 σ
  · exact run_ld e24 rfl (A := A24) rfl rfl (ts := [_, _]) same0 σ
  · exact run_ld e24 rfl (A := A24) rfl rfl (ts := [_, _]) same1 σ
  · exact run_ld e24 rfl (A := A24) rfl rfl (ts := [_, _]) same2 σ
  · exact run_ld e24 rfl (A := A24) rfl rfl (ts := [_, _]) same3 σ
abbrev tx (n m : Nat) : List Nat := (48 + n) :: 58 :: List.replicate m 97
noncomputable abbrev gA (t : List Nat) : O := frunX tab 100000 x18 [.t (.agg [gL]), .t (.str t)]
noncomputable abbrev gE (x : FFn) (t : List Nat) (c : Int) : O := frunX tab 100000 x [.t (.agg [gL]), .t (.str t), .t (.str [66]), .t (.list [.agg [.int .i64 c]]), .t (.int .i64 2)]
theorem hA {t : List Nat} {b : Bool} (h : gA t = some (.bool b)) (σ : Store) : LD S 18 [.t (.agg [gL]), .t (.str t)] σ = some (.t (B b), σ) := run_ld e18 rfl (A := A18) rfl rfl (ts := [_, _]) h σ
theorem hI {t : List Nat} {c : Int} {r : T} (h : gE x23 t c = some r) (σ : Store) : LD S 23 [.t (.agg [gL]), .t (.str t), .t (.str [66]), .t (.list [.agg [I c]]), .t (I 2)] σ = some (.t r, σ) := run_ld e23 rfl (A := A23) rfl rfl (ts := [_, _, _, _, _]) h σ
theorem hS {t : List Nat} {c : Int} {r : T} (h : gE x36 t c = some r) (σ : Store) : LD S 36 [.t (.agg [gL]), .t (.str t), .t (.str [66]), .t (.list [.agg [I c]]), .t (I 2)] σ = some (.t r, σ) := run_ld e36 rfl (A := A36) rfl rfl (ts := [_, _, _, _, _]) h σ
end TzLe
end X
