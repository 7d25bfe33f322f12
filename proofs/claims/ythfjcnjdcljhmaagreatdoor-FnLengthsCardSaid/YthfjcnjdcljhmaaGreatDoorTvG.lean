/- The closed facts that the card asks, each by the kernel. No statement of the claim is in it. -/
import Derived.Test.YthfjcnjdcljhmaaGreatDoorRows
import Derived.Test.YthfjcnjdcljhmaaGreatDoorCards
import Derived.ProofKit
import Derived.SevenTiedAt
import Derived.KernelRfl
namespace Go.Proofs.YthfjcnjdcljhmaaGreatDoor
open Go
set_option maxRecDepth 100000
theorem cardWf : OpenClaim.wfByText (OpenSpec.ofChange Rows.fnLengthsSpec) Rows.fnLengthsRow = true := by kernel_rfl
theorem cardMain : Tryz.pinned.checked.prog.mainIs = some (true, "15bfd0509b554fe199753be216872978a68918e8d5323865b366ab2cf4e13584".toList) := by kernel_rfl
theorem cardLooks : false = Tryz.pinned.checked.prog.looks [] := by kernel_rfl
theorem cardName : Tryz.prog.funcNamed "loop.example/g00243/laws.FnLengths" = some 12 := by kernel_rfl
theorem cardStand : ([22].all fun u => !Tryz.prog.wantsStandIn u) = true := by kernel_rfl
theorem cardGoes : false = Rows.fnLengthsRow.goesBy Tryz.pinned.checked.prog := by kernel_rfl
end Go.Proofs.YthfjcnjdcljhmaaGreatDoor
