/- A part of the proof. No statement of the claim is in it. -/
import Derived.Test.YtojpedmanjlnlaaGreatTpS
import Derived.Test.YtojpedmanjlnlaaGreatA
import Derived.Test.YtojpedmanjlnlaaGreatTpG3
import Derived.Test.YtojpedmanjlnlaaGreatTpM12
open Go Go.V Go.Proofs F
namespace X
set_option maxRecDepth 100000
set_option maxHeartbeats 4000000
set_option linter.all false
def nl12 : List (List Nat) := [[83], [67]]
def nu12 (i : Nat) : Bool := [true, true].getD i false
def fb12 (i : Nat) : List Nat := [[97], [97]].getD i []
abbrev Q12 : T := .agg [.list (.agg [.str [83], .list [], Az12] :: G12)]
theorem r12_0 : run1 Q12 0 [97] = some (.bool true) := by kernel_rfl
theorem r12_1 : run1 Q12 1 [97] = some (.bool true) := by kernel_rfl
theorem first12 : FirstG SRf (qav qug) (.agg [.str [83], .list [], Az12] :: G12) nl12 nu12 fb12 :=
 qcl (by kernel_rfl) (by decide) (by kernel_rfl) (fl := [(0, [97]), (1, [97])]) ⟨r12_0, r12_1, trivial⟩ (by decide) (by kernel_rfl)
theorem qf12 : QF (.agg [.list (.agg [.str [83], .list [], Az12] :: G12)]) := ⟨⟨SRf, MKf, VNf, qav qug, [83], .list [], Az12, G12, nl12, nu12, fb12, rfl, gram12, first12⟩, any12⟩
end X
