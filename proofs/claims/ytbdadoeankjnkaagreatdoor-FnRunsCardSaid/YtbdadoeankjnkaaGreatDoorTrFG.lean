import Derived.Test.YtbdadoeankjnkaaGreatDoorRows
import Derived.Test.YtbdadoeankjnkaaGreatDoorCards
import Derived.ProofKit
import Derived.SevenTiedAt
import Derived.KernelRfl
/- The closed facts that the card asks, each by the kernel. No statement of the claim is in it. -/
namespace Go.Proofs.YtbdadoeankjnkaaGreatDoor
open Go
set_option maxRecDepth 100000
theorem cardWf : OpenClaim.wfByText (OpenSpec.ofChange Rows.fnRunsSpec) Rows.fnRunsRow = true := by kernel_rfl
theorem cardMain : Tryz.pinned.checked.prog.mainIs = some (true, "b2c1205fe6f8ae1d6669c46681d7ecde488c8242ec0bfb2b769ce5b06e40df8e".toList) := by kernel_rfl
theorem q2j : false = Tryz.pinned.checked.prog.looks [] := by kernel_rfl
theorem cardName : Tryz.prog.funcNamed "loop.example/g00243/laws.FnRuns" = some 3 := by kernel_rfl
theorem q3l : ([22].all fun u => !Tryz.prog.wantsStandIn u) = true := by kernel_rfl
theorem cardGoes : false = Rows.fnRunsRow.goesBy Tryz.pinned.checked.prog := by kernel_rfl
end Go.Proofs.YtbdadoeankjnkaaGreatDoor
