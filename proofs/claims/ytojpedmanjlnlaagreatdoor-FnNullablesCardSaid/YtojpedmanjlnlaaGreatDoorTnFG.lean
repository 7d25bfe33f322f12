import Derived.Test.YtojpedmanjlnlaaGreatDoorRows
import Derived.Test.YtojpedmanjlnlaaGreatDoorCards
import Derived.ProofKit
import Derived.SevenTiedAt
import Derived.KernelRfl
/- The closed facts that the card asks, each by the kernel. No statement of the claim is in it. -/
namespace Go.Proofs.YtojpedmanjlnlaaGreatDoor
open Go
set_option maxRecDepth 100000
theorem cardWf : OpenClaim.wfByText (OpenSpec.ofChange Rows.fnNullablesSpec) Rows.fnNullablesRow = true := by kernel_rfl
theorem cardMain : Tryz.pinned.checked.prog.mainIs = some (true, "de45f99c41ea43e33ee22c89b099b6fdf93b7c2326c8fc6a677a8a23e4f5e47e".toList) := by kernel_rfl
theorem cardLooks : false = Tryz.pinned.checked.prog.looks [] := by kernel_rfl
theorem cardName : Tryz.prog.funcNamed "loop.example/g00243/laws.FnNullables" = some 3 := by kernel_rfl
theorem cardStand : ([22].all fun u => !Tryz.prog.wantsStandIn u) = true := by kernel_rfl
theorem cardGoes : false = Rows.fnNullablesRow.goesBy Tryz.pinned.checked.prog := by kernel_rfl
end Go.Proofs.YtojpedmanjlnlaaGreatDoor
