/- The closed facts that the card asks, each by the kernel. No statement of the claim is in it. -/
import Derived.Test.YtognnaobhjaoeaaGreatDoorRows
import Derived.Test.YtognnaobhjaoeaaGreatDoorCards
import Derived.ProofKit
import Derived.SevenTiedAt
import Derived.KernelRfl
namespace Go.Proofs.YtognnaobhjaoeaaGreatDoor
open Go
set_option maxRecDepth 100000
theorem cardWf : OpenClaim.wfByText (OpenSpec.ofChange Rows.fnStarsSpec) Rows.fnStarsRow = true := by kernel_rfl
theorem cardMain : Tryz.pinned.checked.prog.mainIs = some (true, "a26a14eda782613efd71f8c23d4fd45ed492d03b1bf9e76f955828e73ae9cb6b".toList) := by kernel_rfl
theorem cardLooks : false = Tryz.pinned.checked.prog.looks [] := by kernel_rfl
theorem cardName : Tryz.prog.funcNamed "loop.example/g00243/laws.FnStars" = some 5 := by kernel_rfl
theorem cardStand : ([22].all fun u => !Tryz.prog.wantsStandIn u) = true := by kernel_rfl
theorem cardGoes : false = Rows.fnStarsRow.goesBy Tryz.pinned.checked.prog := by kernel_rfl
end Go.Proofs.YtognnaobhjaoeaaGreatDoor
