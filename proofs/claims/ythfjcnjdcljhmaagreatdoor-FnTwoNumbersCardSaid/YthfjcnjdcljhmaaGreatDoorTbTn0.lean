/- FnTwoNumbers's grammar and small closed runs. By a printer of this session's. -/
import Derived.Test.YthfjcnjdcljhmaaGreatDoorTbLaw
open Go Go.V Go.Proofs
namespace X
set_option maxRecDepth 100000
set_option maxHeartbeats 4000000
set_option linter.unusedSimpArgs false
set_option linter.unusedVariables false
namespace TzTn
def gT : T := (.list [(.agg [(.str [83]), (.list []), (.list [(.agg [(.list [(.agg [(.int .i64 (.ofNat 3)), (.str [65]), (.list []), (.str [110])]), (.agg [(.int .i64 (.ofNat 1)), (.str [58]), (.list []), (.str [])]), (.agg [(.int .i64 (.ofNat 3)), (.str [65]), (.list []), (.str [109])]), (.agg [(.int .i64 (.ofNat 4)), (.str []), (.list [(.agg [(.list [(.agg [(.int .i64 (.ofNat 2)), (.int .i64 (.ofNat 0)), (.str [110]), (.list [])]), (.agg [(.int .i64 (.ofNat 2)), (.int .i64 (.ofNat 0)), (.str [109]), (.list [])]), (.agg [(.int .i64 (.ofNat 8)), (.int .i64 (.ofNat 0)), (.str []), (.list [(.agg [(.int .i64 (.ofNat 0))]), (.agg [(.int .i64 (.ofNat 1))])])]), (.agg [(.int .i64 (.ofNat 2)), (.int .i64 (.ofNat 0)), (.str [109]), (.list [])]), (.agg [(.int .i64 (.ofNat 1)), (.int .i64 (.ofNat 5)), (.str []), (.list [])]), (.agg [(.int .i64 (.ofNat 9)), (.int .i64 (.ofNat 0)), (.str []), (.list [(.agg [(.int .i64 (.ofNat 3))]), (.agg [(.int .i64 (.ofNat 4))])])]), (.agg [(.int .i64 (.ofNat 11)), (.int .i64 (.ofNat 0)), (.str []), (.list [(.agg [(.int .i64 (.ofNat 5))])])]), (.agg [(.int .i64 (.ofNat 10)), (.int .i64 (.ofNat 0)), (.str []), (.list [(.agg [(.int .i64 (.ofNat 2))]), (.agg [(.int .i64 (.ofNat 6))])])])])])]), (.str [])])])])])]), (.agg [(.str [65]), (.list []), (.list [(.agg [(.list [(.agg [(.int .i64 (.ofNat 3)), (.str [120, 48]), (.list []), (.str [])])])])])]), (.agg [(.str [120, 48]), (.list []), (.list [(.agg [.nils]), (.agg [(.list [(.agg [(.int .i64 (.ofNat 1)), (.str [97]), (.list []), (.str [])]), (.agg [(.int .i64 (.ofNat 3)), (.str [120, 48]), (.list []), (.str [])])])])])])])
theorem plain : frunX tab 100000 x17 [.t (.str [83, 32, 45, 62, 32, 110, 58, 65, 32, 34, 58, 34, 32, 109, 58, 65, 32, 123, 32, 110, 32, 60, 32, 109, 32, 38, 32, 33, 40, 109, 32, 61, 32, 53, 41, 32, 125, 32, 59, 32, 65, 32, 45, 62, 32, 40, 32, 34, 97, 34, 32, 41, 42, 32, 59])] = some (.agg [gT]) := by kernel_rfl
theorem plain_ld (σ : Store) : LD S 17 [.t (.str [83, 32, 45, 62, 32, 110, 58, 65, 32, 34, 58, 34, 32, 109, 58, 65, 32, 123, 32, 110, 32, 60, 32, 109, 32, 38, 32, 33, 40, 109, 32, 61, 32, 53, 41, 32, 125, 32, 59, 32, 65, 32, 45, 62, 32, 40, 32, 34, 97, 34, 32, 41, 42, 32, 59])] σ = some (.t (.agg [gT]), σ) := run_ld e17 rfl (A := A17) rfl rfl (ts := [_]) plain σ
theorem row0' : frunX tab 100000 x19 [.t (.int .i64 0), .t (.str [97])] = some (.str []) := by kernel_rfl
theorem row0 (σ : Store) : LD S 19 [.t (I 0), .t (.str [97])] σ = some (.t (.str []), σ) := run_ld e19 rfl (A := A19) rfl rfl (ts := [_, _]) row0' σ
theorem bind0' : frunX tab 100000 x22 [.t (.str [])] = some (.int .i64 0) := by kernel_rfl
theorem bind0 (σ : Store) : LD S 22 [.t (.str [])] σ = some (.t (I 0), σ) := run_ld e22 rfl (A := A22) rfl rfl (ts := [_]) bind0' σ
theorem row1' : frunX tab 100000 x19 [.t (.int .i64 1), .t (.str [97])] = some (.str [97]) := by kernel_rfl
theorem row1 (σ : Store) : LD S 19 [.t (I 1), .t (.str [97])] σ = some (.t (.str [97]), σ) := run_ld e19 rfl (A := A19) rfl rfl (ts := [_, _]) row1' σ
theorem bind1' : frunX tab 100000 x22 [.t (.str [97])] = some (.int .i64 1) := by kernel_rfl
theorem bind1 (σ : Store) : LD S 22 [.t (.str [97])] σ = some (.t (I 1), σ) := run_ld e22 rfl (A := A22) rfl rfl (ts := [_]) bind1' σ
theorem row2' : frunX tab 100000 x19 [.t (.int .i64 2), .t (.str [97])] = some (.str [97, 97]) := by kernel_rfl
theorem row2 (σ : Store) : LD S 19 [.t (I 2), .t (.str [97])] σ = some (.t (.str [97, 97]), σ) := run_ld e19 rfl (A := A19) rfl rfl (ts := [_, _]) row2' σ
theorem bind2' : frunX tab 100000 x22 [.t (.str [97, 97])] = some (.int .i64 2) := by kernel_rfl
theorem bind2 (σ : Store) : LD S 22 [.t (.str [97, 97])] σ = some (.t (I 2), σ) := run_ld e22 rfl (A := A22) rfl rfl (ts := [_]) bind2' σ
theorem row3' : frunX tab 100000 x19 [.t (.int .i64 3), .t (.str [97])] = some (.str [97, 97, 97]) := by kernel_rfl
theorem row3 (σ : Store) : LD S 19 [.t (I 3), .t (.str [97])] σ = some (.t (.str [97, 97, 97]), σ) := run_ld e19 rfl (A := A19) rfl rfl (ts := [_, _]) row3' σ
theorem bind3' : frunX tab 100000 x22 [.t (.str [97, 97, 97])] = some (.int .i64 3) := by kernel_rfl
theorem bind3 (σ : Store) : LD S 22 [.t (.str [97, 97, 97])] σ = some (.t (I 3), σ) := run_ld e22 rfl (A := A22) rfl rfl (ts := [_]) bind3' σ
theorem row4' : frunX tab 100000 x19 [.t (.int .i64 4), .t (.str [97])] = some (.str [97, 97, 97, 97]) := by kernel_rfl
theorem row4 (σ : Store) : LD S 19 [.t (I 4), .t (.str [97])] σ = some (.t (.str [97, 97, 97, 97]), σ) := run_ld e19 rfl (A := A19) rfl rfl (ts := [_, _]) row4' σ
theorem bind4' : frunX tab 100000 x22 [.t (.str [97, 97, 97, 97])] = some (.int .i64 4) := by kernel_rfl
theorem bind4 (σ : Store) : LD S 22 [.t (.str [97, 97, 97, 97])] σ = some (.t (I 4), σ) := run_ld e22 rfl (A := A22) rfl rfl (ts := [_]) bind4' σ
theorem row5' : frunX tab 100000 x19 [.t (.int .i64 5), .t (.str [97])] = some (.str [97, 97, 97, 97, 97]) := by kernel_rfl
theorem row5 (σ : Store) : LD S 19 [.t (I 5), .t (.str [97])] σ = some (.t (.str [97, 97, 97, 97, 97]), σ) := run_ld e19 rfl (A := A19) rfl rfl (ts := [_, _]) row5' σ
theorem bind5' : frunX tab 100000 x22 [.t (.str [97, 97, 97, 97, 97])] = some (.int .i64 5) := by kernel_rfl
theorem bind5 (σ : Store) : LD S 22 [.t (.str [97, 97, 97, 97, 97])] σ = some (.t (I 5), σ) := run_ld e22 rfl (A := A22) rfl rfl (ts := [_]) bind5' σ
end TzTn
end X
