/- Closed runs of FnGroups's calls. By a printer of this session's. -/
import Derived.Test.YthfjcnjdcljhmaaGreatDoorTzLaw
open Go Go.V Go.Proofs
namespace X
set_option maxRecDepth 100000
set_option maxHeartbeats 4000000
set_option linter.unusedSimpArgs false
set_option linter.unusedVariables false
namespace TzGr
def gr : T := (.list [(.agg [(.str [83]), (.list []), (.list [(.agg [(.list [(.agg [(.int .i64 (.ofNat 1)), (.str [120]), (.list []), (.str [])]), (.agg [(.int .i64 (.ofNat 3)), (.str [120, 48]), (.list []), (.str [])]), (.agg [(.int .i64 (.ofNat 3)), (.str [120, 49]), (.list []), (.str [])]), (.agg [(.int .i64 (.ofNat 1)), (.str [121]), (.list []), (.str [])])])])])]), (.agg [(.str [120, 48]), (.list []), (.list [(.agg [(.list [(.agg [(.int .i64 (.ofNat 1)), (.str [97]), (.list []), (.str [])])])]), (.agg [(.list [(.agg [(.int .i64 (.ofNat 1)), (.str [98, 98]), (.list []), (.str [])])])]), (.agg [(.list [])])])]), (.agg [(.str [120, 49]), (.list []), (.list [(.agg [(.list [(.agg [(.int .i64 (.ofNat 1)), (.str [99]), (.list []), (.str [])])])]), (.agg [(.list [(.agg [(.int .i64 (.ofNat 1)), (.str [97]), (.list []), (.str [])])])])])])])
theorem plain : frunX tab 100000 x17 [.t (.str [83, 32, 45, 62, 32, 34, 120, 34, 32, 40, 32, 34, 97, 34, 32, 124, 32, 34, 98, 98, 34, 32, 124, 32, 41, 32, 40, 32, 34, 99, 34, 32, 124, 32, 34, 97, 34, 32, 41, 32, 34, 121, 34, 32, 59])] = some (.agg [gr]) := by kernel_rfl
theorem plain_ld (σ : Store) : LD S 17 [.t (.str [83, 32, 45, 62, 32, 34, 120, 34, 32, 40, 32, 34, 97, 34, 32, 124, 32, 34, 98, 98, 34, 32, 124, 32, 41, 32, 40, 32, 34, 99, 34, 32, 124, 32, 34, 97, 34, 32, 41, 32, 34, 121, 34, 32, 59])] σ = some (.t (.agg [gr]), σ) := run_ld e17 rfl (A := A17) rfl rfl (ts := [_]) plain σ
theorem acc0' : frunX tab 100000 x18 [.t (.agg [gr]), .t (.str [120, 97, 99, 121])] = some (.bool true) := by kernel_rfl
theorem acc0 (σ : Store) : LD S 18 [.t (.agg [gr]), .t (.str [120, 97, 99, 121])] σ = some (.t (B true), σ) := run_ld e18 rfl (A := A18) rfl rfl (ts := [_, _]) acc0' σ
theorem acc1' : frunX tab 100000 x18 [.t (.agg [gr]), .t (.str [120, 97, 99])] = some (.bool false) := by kernel_rfl
theorem acc1 (σ : Store) : LD S 18 [.t (.agg [gr]), .t (.str [120, 97, 99])] σ = some (.t (B false), σ) := run_ld e18 rfl (A := A18) rfl rfl (ts := [_, _]) acc1' σ
theorem acc2' : frunX tab 100000 x18 [.t (.agg [gr]), .t (.str [120, 97, 97, 121])] = some (.bool true) := by kernel_rfl
theorem acc2 (σ : Store) : LD S 18 [.t (.agg [gr]), .t (.str [120, 97, 97, 121])] σ = some (.t (B true), σ) := run_ld e18 rfl (A := A18) rfl rfl (ts := [_, _]) acc2' σ
theorem acc3' : frunX tab 100000 x18 [.t (.agg [gr]), .t (.str [120, 97, 97])] = some (.bool false) := by kernel_rfl
theorem acc3 (σ : Store) : LD S 18 [.t (.agg [gr]), .t (.str [120, 97, 97])] σ = some (.t (B false), σ) := run_ld e18 rfl (A := A18) rfl rfl (ts := [_, _]) acc3' σ
theorem acc4' : frunX tab 100000 x18 [.t (.agg [gr]), .t (.str [120, 97, 98, 121])] = some (.bool false) := by kernel_rfl
theorem acc4 (σ : Store) : LD S 18 [.t (.agg [gr]), .t (.str [120, 97, 98, 121])] σ = some (.t (B false), σ) := run_ld e18 rfl (A := A18) rfl rfl (ts := [_, _]) acc4' σ
theorem acc5' : frunX tab 100000 x18 [.t (.agg [gr]), .t (.str [120, 97, 98])] = some (.bool false) := by kernel_rfl
theorem acc5 (σ : Store) : LD S 18 [.t (.agg [gr]), .t (.str [120, 97, 98])] σ = some (.t (B false), σ) := run_ld e18 rfl (A := A18) rfl rfl (ts := [_, _]) acc5' σ
theorem acc6' : frunX tab 100000 x18 [.t (.agg [gr]), .t (.str [120, 98, 98, 99, 121])] = some (.bool true) := by kernel_rfl
theorem acc6 (σ : Store) : LD S 18 [.t (.agg [gr]), .t (.str [120, 98, 98, 99, 121])] σ = some (.t (B true), σ) := run_ld e18 rfl (A := A18) rfl rfl (ts := [_, _]) acc6' σ
theorem acc7' : frunX tab 100000 x18 [.t (.agg [gr]), .t (.str [120, 98, 98, 99])] = some (.bool false) := by kernel_rfl
theorem acc7 (σ : Store) : LD S 18 [.t (.agg [gr]), .t (.str [120, 98, 98, 99])] σ = some (.t (B false), σ) := run_ld e18 rfl (A := A18) rfl rfl (ts := [_, _]) acc7' σ
theorem acc8' : frunX tab 100000 x18 [.t (.agg [gr]), .t (.str [120, 98, 98, 97, 121])] = some (.bool true) := by kernel_rfl
theorem acc8 (σ : Store) : LD S 18 [.t (.agg [gr]), .t (.str [120, 98, 98, 97, 121])] σ = some (.t (B true), σ) := run_ld e18 rfl (A := A18) rfl rfl (ts := [_, _]) acc8' σ
theorem acc9' : frunX tab 100000 x18 [.t (.agg [gr]), .t (.str [120, 98, 98, 97])] = some (.bool false) := by kernel_rfl
theorem acc9 (σ : Store) : LD S 18 [.t (.agg [gr]), .t (.str [120, 98, 98, 97])] σ = some (.t (B false), σ) := run_ld e18 rfl (A := A18) rfl rfl (ts := [_, _]) acc9' σ
theorem acc10' : frunX tab 100000 x18 [.t (.agg [gr]), .t (.str [120, 98, 98, 98, 121])] = some (.bool false) := by kernel_rfl
theorem acc10 (σ : Store) : LD S 18 [.t (.agg [gr]), .t (.str [120, 98, 98, 98, 121])] σ = some (.t (B false), σ) := run_ld e18 rfl (A := A18) rfl rfl (ts := [_, _]) acc10' σ
theorem acc11' : frunX tab 100000 x18 [.t (.agg [gr]), .t (.str [120, 98, 98, 98])] = some (.bool false) := by kernel_rfl
theorem acc11 (σ : Store) : LD S 18 [.t (.agg [gr]), .t (.str [120, 98, 98, 98])] σ = some (.t (B false), σ) := run_ld e18 rfl (A := A18) rfl rfl (ts := [_, _]) acc11' σ
theorem acc12' : frunX tab 100000 x18 [.t (.agg [gr]), .t (.str [120, 99, 121])] = some (.bool true) := by kernel_rfl
theorem acc12 (σ : Store) : LD S 18 [.t (.agg [gr]), .t (.str [120, 99, 121])] σ = some (.t (B true), σ) := run_ld e18 rfl (A := A18) rfl rfl (ts := [_, _]) acc12' σ
theorem acc13' : frunX tab 100000 x18 [.t (.agg [gr]), .t (.str [120, 99])] = some (.bool false) := by kernel_rfl
theorem acc13 (σ : Store) : LD S 18 [.t (.agg [gr]), .t (.str [120, 99])] σ = some (.t (B false), σ) := run_ld e18 rfl (A := A18) rfl rfl (ts := [_, _]) acc13' σ
theorem acc14' : frunX tab 100000 x18 [.t (.agg [gr]), .t (.str [120, 97, 121])] = some (.bool true) := by kernel_rfl
theorem acc14 (σ : Store) : LD S 18 [.t (.agg [gr]), .t (.str [120, 97, 121])] σ = some (.t (B true), σ) := run_ld e18 rfl (A := A18) rfl rfl (ts := [_, _]) acc14' σ
theorem acc15' : frunX tab 100000 x18 [.t (.agg [gr]), .t (.str [120, 97])] = some (.bool false) := by kernel_rfl
theorem acc15 (σ : Store) : LD S 18 [.t (.agg [gr]), .t (.str [120, 97])] σ = some (.t (B false), σ) := run_ld e18 rfl (A := A18) rfl rfl (ts := [_, _]) acc15' σ
theorem acc16' : frunX tab 100000 x18 [.t (.agg [gr]), .t (.str [120, 98, 121])] = some (.bool false) := by kernel_rfl
theorem acc16 (σ : Store) : LD S 18 [.t (.agg [gr]), .t (.str [120, 98, 121])] σ = some (.t (B false), σ) := run_ld e18 rfl (A := A18) rfl rfl (ts := [_, _]) acc16' σ
theorem acc17' : frunX tab 100000 x18 [.t (.agg [gr]), .t (.str [120, 98])] = some (.bool false) := by kernel_rfl
theorem acc17 (σ : Store) : LD S 18 [.t (.agg [gr]), .t (.str [120, 98])] σ = some (.t (B false), σ) := run_ld e18 rfl (A := A18) rfl rfl (ts := [_, _]) acc17' σ
theorem acc18' : frunX tab 100000 x18 [.t (.agg [gr]), .t (.str [120, 99, 99, 121])] = some (.bool false) := by kernel_rfl
theorem acc18 (σ : Store) : LD S 18 [.t (.agg [gr]), .t (.str [120, 99, 99, 121])] σ = some (.t (B false), σ) := run_ld e18 rfl (A := A18) rfl rfl (ts := [_, _]) acc18' σ
theorem acc19' : frunX tab 100000 x18 [.t (.agg [gr]), .t (.str [120, 99, 99])] = some (.bool false) := by kernel_rfl
theorem acc19 (σ : Store) : LD S 18 [.t (.agg [gr]), .t (.str [120, 99, 99])] σ = some (.t (B false), σ) := run_ld e18 rfl (A := A18) rfl rfl (ts := [_, _]) acc19' σ
theorem acc20' : frunX tab 100000 x18 [.t (.agg [gr]), .t (.str [120, 99, 97, 121])] = some (.bool false) := by kernel_rfl
theorem acc20 (σ : Store) : LD S 18 [.t (.agg [gr]), .t (.str [120, 99, 97, 121])] σ = some (.t (B false), σ) := run_ld e18 rfl (A := A18) rfl rfl (ts := [_, _]) acc20' σ
theorem acc21' : frunX tab 100000 x18 [.t (.agg [gr]), .t (.str [120, 99, 97])] = some (.bool false) := by kernel_rfl
theorem acc21 (σ : Store) : LD S 18 [.t (.agg [gr]), .t (.str [120, 99, 97])] σ = some (.t (B false), σ) := run_ld e18 rfl (A := A18) rfl rfl (ts := [_, _]) acc21' σ
theorem acc22' : frunX tab 100000 x18 [.t (.agg [gr]), .t (.str [120, 99, 98, 121])] = some (.bool false) := by kernel_rfl
theorem acc22 (σ : Store) : LD S 18 [.t (.agg [gr]), .t (.str [120, 99, 98, 121])] σ = some (.t (B false), σ) := run_ld e18 rfl (A := A18) rfl rfl (ts := [_, _]) acc22' σ
theorem acc23' : frunX tab 100000 x18 [.t (.agg [gr]), .t (.str [120, 99, 98])] = some (.bool false) := by kernel_rfl
theorem acc23 (σ : Store) : LD S 18 [.t (.agg [gr]), .t (.str [120, 99, 98])] σ = some (.t (B false), σ) := run_ld e18 rfl (A := A18) rfl rfl (ts := [_, _]) acc23' σ
end TzGr
end X
