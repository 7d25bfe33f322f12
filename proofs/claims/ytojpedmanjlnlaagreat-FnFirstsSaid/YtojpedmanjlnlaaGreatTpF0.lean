/- A part of the proof. No statement of the claim is in it. -/
import Derived.Test.YtojpedmanjlnlaaGreatTpS
import Derived.Test.YtojpedmanjlnlaaGreatA
import Derived.Test.YtojpedmanjlnlaaGreatTpG0
import Derived.Test.YtojpedmanjlnlaaGreatTpM0
import Derived.Test.YtojpedmanjlnlaaGreatTpM1
import Derived.Test.YtojpedmanjlnlaaGreatTpM2
import Derived.Test.YtojpedmanjlnlaaGreatTpM3
open Go Go.V Go.Proofs F
namespace X
set_option maxRecDepth 100000
set_option maxHeartbeats 4000000
set_option linter.all false
def nl0 : List (List Nat) := [[83]]
def nu0 (i : Nat) : Bool := [true].getD i false
def fb0 (i : Nat) : List Nat := [[97]].getD i []
abbrev Q0 : T := .agg [.list (.agg [.str [83], .list [], Az0] :: G0)]
theorem r0_0 : run1 Q0 0 [97] = some (.bool true) := by kernel_rfl
theorem first0 : FirstG SRf (qav raT0) (.agg [.str [83], .list [], Az0] :: G0) nl0 nu0 fb0 :=
 qcl (by kernel_rfl) (by decide) (by kernel_rfl) (fl := [(0, [97])]) ⟨r0_0, trivial⟩ (by decide) (by kernel_rfl)
theorem qf0 : QF (.agg [.list (.agg [.str [83], .list [], Az0] :: G0)]) := ⟨⟨SRf, MKf, VNf, qav raT0, [83], .list [], Az0, G0, nl0, nu0, fb0, rfl, gram0, first0⟩, any0⟩
def nl1 : List (List Nat) := []
def nu1 (i : Nat) : Bool := [false].getD i false
def fb1 (i : Nat) : List Nat := [[97]].getD i []
abbrev Q1 : T := .agg [.list (.agg [.str [83], .list [], Az1] :: G1)]
theorem r1_0 : run1 Q1 0 [97] = some (.bool true) := by kernel_rfl
theorem first1 : FirstG SRf (qav raT1) (.agg [.str [83], .list [], Az1] :: G1) nl1 nu1 fb1 :=
 qcl (by kernel_rfl) (by decide) (by kernel_rfl) (fl := [(0, [97])]) ⟨r1_0, trivial⟩ (by decide) (by kernel_rfl)
theorem qf1 : QF (.agg [.list (.agg [.str [83], .list [], Az1] :: G1)]) := ⟨⟨SRf, MKf, VNf, qav raT1, [83], .list [], Az1, G1, nl1, nu1, fb1, rfl, gram1, first1⟩, any1⟩
def nl2 : List (List Nat) := [[66]]
def nu2 (i : Nat) : Bool := [false, false, true].getD i false
def fb2 (i : Nat) : List Nat := [[48, 49, 50, 51, 52, 53, 54, 55, 56, 57], [48, 49, 50, 51, 52, 53, 54, 55, 56, 57], [97, 98]].getD i []
abbrev Q2 : T := .agg [.list (.agg [.str [83], .list [], Az2] :: G2)]
theorem r2_0 : run1 Q2 0 [48, 49, 50, 51, 52, 53, 54, 55, 56, 57] = some (.bool true) := by kernel_rfl
theorem r2_1 : run1 Q2 1 [48, 49, 50, 51, 52, 53, 54, 55, 56, 57] = some (.bool true) := by kernel_rfl
theorem r2_2 : run1 Q2 2 [97, 98] = some (.bool true) := by kernel_rfl
theorem first2 : FirstG SRf (qav raT2) (.agg [.str [83], .list [], Az2] :: G2) nl2 nu2 fb2 :=
 qcl (by kernel_rfl) (by decide) (by kernel_rfl) (fl := [(0, [48, 49, 50, 51, 52, 53, 54, 55, 56, 57]), (1, [48, 49, 50, 51, 52, 53, 54, 55, 56, 57]), (2, [97, 98])]) ⟨r2_0, r2_1, r2_2, trivial⟩ (by decide) (by kernel_rfl)
theorem qf2 : QF (.agg [.list (.agg [.str [83], .list [], Az2] :: G2)]) := ⟨⟨SRf, MKf, VNf, qav raT2, [83], .list [], Az2, G2, nl2, nu2, fb2, rfl, gram2, first2⟩, any2⟩
def nl3 : List (List Nat) := [[120, 48]]
def nu3 (i : Nat) : Bool := [false, true].getD i false
def fb3 (i : Nat) : List Nat := [[97, 98], [97, 98]].getD i []
abbrev Q3 : T := .agg [.list (.agg [.str [83], .list [], Az3] :: G3)]
theorem r3_0 : run1 Q3 0 [97, 98] = some (.bool true) := by kernel_rfl
theorem r3_1 : run1 Q3 1 [97, 98] = some (.bool true) := by kernel_rfl
theorem first3 : FirstG SRf (qav raT3) (.agg [.str [83], .list [], Az3] :: G3) nl3 nu3 fb3 :=
 qcl (by kernel_rfl) (by decide) (by kernel_rfl) (fl := [(0, [97, 98]), (1, [97, 98])]) ⟨r3_0, r3_1, trivial⟩ (by decide) (by kernel_rfl)
theorem qf3 : QF (.agg [.list (.agg [.str [83], .list [], Az3] :: G3)]) := ⟨⟨SRf, MKf, VNf, qav raT3, [83], .list [], Az3, G3, nl3, nu3, fb3, rfl, gram3, first3⟩, any3⟩
end X
