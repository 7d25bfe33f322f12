/- A part of the proof. No statement of the claim is in it. -/
import Derived.Test.YtojpedmanjlnlaaGreatTpS
import Derived.Test.YtojpedmanjlnlaaGreatA
import Derived.Test.YtojpedmanjlnlaaGreatTpG1
import Derived.Test.YtojpedmanjlnlaaGreatTpM4
import Derived.Test.YtojpedmanjlnlaaGreatTpM5
import Derived.Test.YtojpedmanjlnlaaGreatTpM6
import Derived.Test.YtojpedmanjlnlaaGreatTpM7
open Go Go.V Go.Proofs F
namespace X
set_option maxRecDepth 100000
set_option maxHeartbeats 4000000
set_option linter.all false
def nl4 : List (List Nat) := []
def nu4 (i : Nat) : Bool := [false, false].getD i false
def fb4 (i : Nat) : List Nat := [[40, 48, 49, 50, 51, 52, 53, 54, 55, 56, 57], [40, 48, 49, 50, 51, 52, 53, 54, 55, 56, 57]].getD i []
abbrev Q4 : T := .agg [.list (.agg [.str [83], .list [], Az4] :: G4)]
theorem r4_0 : run1 Q4 0 [40, 48, 49, 50, 51, 52, 53, 54, 55, 56, 57] = some (.bool true) := by kernel_rfl
theorem r4_1 : run1 Q4 1 [40, 48, 49, 50, 51, 52, 53, 54, 55, 56, 57] = some (.bool true) := by kernel_rfl
theorem first4 : FirstG SRf (qav raT4) (.agg [.str [83], .list [], Az4] :: G4) nl4 nu4 fb4 :=
 qcl (by kernel_rfl) (by decide) (by kernel_rfl) (fl := [(0, [40, 48, 49, 50, 51, 52, 53, 54, 55, 56, 57]), (1, [40, 48, 49, 50, 51, 52, 53, 54, 55, 56, 57])]) ⟨r4_0, r4_1, trivial⟩ (by decide) (by kernel_rfl)
theorem qf4 : QF (.agg [.list (.agg [.str [83], .list [], Az4] :: G4)]) := ⟨⟨SRf, MKf, VNf, qav raT4, [83], .list [], Az4, G4, nl4, nu4, fb4, rfl, gram4, first4⟩, any4⟩
def nl5 : List (List Nat) := [[83]]
def nu5 (i : Nat) : Bool := [true].getD i false
def fb5 (i : Nat) : List Nat := [[97]].getD i []
abbrev Q5 : T := .agg [.list (.agg [.str [83], .list [], Az5] :: G5)]
theorem r5_0 : run1 Q5 0 [97] = some (.bool true) := by kernel_rfl
theorem first5 : FirstG SRf (qav raT5) (.agg [.str [83], .list [], Az5] :: G5) nl5 nu5 fb5 :=
 qcl (by kernel_rfl) (by decide) (by kernel_rfl) (fl := [(0, [97])]) ⟨r5_0, trivial⟩ (by decide) (by kernel_rfl)
theorem qf5 : QF (.agg [.list (.agg [.str [83], .list [], Az5] :: G5)]) := ⟨⟨SRf, MKf, VNf, qav raT5, [83], .list [], Az5, G5, nl5, nu5, fb5, rfl, gram5, first5⟩, any5⟩
def nl6 : List (List Nat) := [[120, 49]]
def nu6 (i : Nat) : Bool := [false, false, true].getD i false
def fb6 (i : Nat) : List Nat := [[97, 98], [97, 98], [49]].getD i []
abbrev Q6 : T := .agg [.list (.agg [.str [83], .list [], Az6] :: G6)]
theorem r6_0 : run1 Q6 0 [97, 98] = some (.bool true) := by kernel_rfl
theorem r6_1 : run1 Q6 1 [97, 98] = some (.bool true) := by kernel_rfl
theorem r6_2 : run1 Q6 2 [49] = some (.bool true) := by kernel_rfl
theorem first6 : FirstG SRf (qav raT6) (.agg [.str [83], .list [], Az6] :: G6) nl6 nu6 fb6 :=
 qcl (by kernel_rfl) (by decide) (by kernel_rfl) (fl := [(0, [97, 98]), (1, [97, 98]), (2, [49])]) ⟨r6_0, r6_1, r6_2, trivial⟩ (by decide) (by kernel_rfl)
theorem qf6 : QF (.agg [.list (.agg [.str [83], .list [], Az6] :: G6)]) := ⟨⟨SRf, MKf, VNf, qav raT6, [83], .list [], Az6, G6, nl6, nu6, fb6, rfl, gram6, first6⟩, any6⟩
def nl7 : List (List Nat) := []
def nu7 (i : Nat) : Bool := [false, false, false].getD i false
def fb7 (i : Nat) : List Nat := [[97], [97], [97]].getD i []
abbrev Q7 : T := .agg [.list (.agg [.str [83], .list [], Az7] :: G7)]
theorem r7_0 : run1 Q7 0 [97] = some (.bool true) := by kernel_rfl
theorem r7_1 : run1 Q7 1 [97] = some (.bool true) := by kernel_rfl
theorem r7_2 : run1 Q7 2 [97] = some (.bool true) := by kernel_rfl
theorem first7 : FirstG SRf (qav raT7) (.agg [.str [83], .list [], Az7] :: G7) nl7 nu7 fb7 :=
 qcl (by kernel_rfl) (by decide) (by kernel_rfl) (fl := [(0, [97]), (1, [97]), (2, [97])]) ⟨r7_0, r7_1, r7_2, trivial⟩ (by decide) (by kernel_rfl)
theorem qf7 : QF (.agg [.list (.agg [.str [83], .list [], Az7] :: G7)]) := ⟨⟨SRf, MKf, VNf, qav raT7, [83], .list [], Az7, G7, nl7, nu7, fb7, rfl, gram7, first7⟩, any7⟩
end X
