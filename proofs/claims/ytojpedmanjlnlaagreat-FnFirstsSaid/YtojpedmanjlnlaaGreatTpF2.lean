/- A part of the proof. No statement of the claim is in it. -/
import Derived.Test.YtojpedmanjlnlaaGreatTpS
import Derived.Test.YtojpedmanjlnlaaGreatA
import Derived.Test.YtojpedmanjlnlaaGreatTpG2
import Derived.Test.YtojpedmanjlnlaaGreatTpM8
import Derived.Test.YtojpedmanjlnlaaGreatTpM9
import Derived.Test.YtojpedmanjlnlaaGreatTpM10
import Derived.Test.YtojpedmanjlnlaaGreatTpM11
open Go Go.V Go.Proofs F
namespace X
set_option maxRecDepth 100000
set_option maxHeartbeats 4000000
set_option linter.all false
def nl8 : List (List Nat) := [[83], [80], [120, 48]]
def nu8 (i : Nat) : Bool := [true, true, true].getD i false
def fb8 (i : Nat) : List Nat := [[40, 97], [40, 97], [40]].getD i []
abbrev Q8 : T := .agg [.list (.agg [.str [83], .list [], Az8] :: G8)]
theorem r8_0 : run1 Q8 0 [40, 97] = some (.bool true) := by kernel_rfl
theorem r8_1 : run1 Q8 1 [40, 97] = some (.bool true) := by kernel_rfl
theorem r8_2 : run1 Q8 2 [40] = some (.bool true) := by kernel_rfl
theorem first8 : FirstG SRf (qav raT8) (.agg [.str [83], .list [], Az8] :: G8) nl8 nu8 fb8 :=
 qcl (by kernel_rfl) (by decide) (by kernel_rfl) (fl := [(0, [40, 97]), (1, [40, 97]), (2, [40])]) ⟨r8_0, r8_1, r8_2, trivial⟩ (by decide) (by kernel_rfl)
theorem qf8 : QF (.agg [.list (.agg [.str [83], .list [], Az8] :: G8)]) := ⟨⟨SRf, MKf, VNf, qav raT8, [83], .list [], Az8, G8, nl8, nu8, fb8, rfl, gram8, first8⟩, any8⟩
def nl9 : List (List Nat) := [[83], [65], [120, 48]]
def nu9 (i : Nat) : Bool := [true, true, true].getD i false
def fb9 (i : Nat) : List Nat := [[97], [97], [97]].getD i []
abbrev Q9 : T := .agg [.list (.agg [.str [83], .list [], Az9] :: G9)]
theorem r9_0 : run1 Q9 0 [97] = some (.bool true) := by kernel_rfl
theorem r9_1 : run1 Q9 1 [97] = some (.bool true) := by kernel_rfl
theorem r9_2 : run1 Q9 2 [97] = some (.bool true) := by kernel_rfl
theorem first9 : FirstG SRf (qav raT9) (.agg [.str [83], .list [], Az9] :: G9) nl9 nu9 fb9 :=
 qcl (by kernel_rfl) (by decide) (by kernel_rfl) (fl := [(0, [97]), (1, [97]), (2, [97])]) ⟨r9_0, r9_1, r9_2, trivial⟩ (by decide) (by kernel_rfl)
theorem qf9 : QF (.agg [.list (.agg [.str [83], .list [], Az9] :: G9)]) := ⟨⟨SRf, MKf, VNf, qav raT9, [83], .list [], Az9, G9, nl9, nu9, fb9, rfl, gram9, first9⟩, any9⟩
def nl10 : List (List Nat) := [[83], [120, 48], [120, 49]]
def nu10 (i : Nat) : Bool := [true, true, true].getD i false
def fb10 (i : Nat) : List Nat := [[97], [97], [98]].getD i []
abbrev Q10 : T := .agg [.list (.agg [.str [83], .list [], Az10] :: G10)]
theorem r10_0 : run1 Q10 0 [97] = some (.bool true) := by kernel_rfl
theorem r10_1 : run1 Q10 1 [97] = some (.bool true) := by kernel_rfl
theorem r10_2 : run1 Q10 2 [98] = some (.bool true) := by kernel_rfl
theorem first10 : FirstG SRf (qav qux) (.agg [.str [83], .list [], Az10] :: G10) nl10 nu10 fb10 :=
 qcl (by kernel_rfl) (by decide) (by kernel_rfl) (fl := [(0, [97]), (1, [97]), (2, [98])]) ⟨r10_0, r10_1, r10_2, trivial⟩ (by decide) (by kernel_rfl)
theorem qf10 : QF (.agg [.list (.agg [.str [83], .list [], Az10] :: G10)]) := ⟨⟨SRf, MKf, VNf, qav qux, [83], .list [], Az10, G10, nl10, nu10, fb10, rfl, gram10, first10⟩, any10⟩
def nl11 : List (List Nat) := []
def nu11 (i : Nat) : Bool := [false, false, false].getD i false
def fb11 (i : Nat) : List Nat := [[48, 49, 50, 51, 52, 53, 54, 55, 56, 57], [48, 49, 50, 51, 52, 53, 54, 55, 56, 57], [97, 98]].getD i []
abbrev Q11 : T := .agg [.list (.agg [.str [83], .list [], Az11] :: G11)]
theorem r11_0 : run1 Q11 0 [48, 49, 50, 51, 52, 53, 54, 55, 56, 57] = some (.bool true) := by kernel_rfl
theorem r11_1 : run1 Q11 1 [48, 49, 50, 51, 52, 53, 54, 55, 56, 57] = some (.bool true) := by kernel_rfl
theorem r11_2 : run1 Q11 2 [97, 98] = some (.bool true) := by kernel_rfl
theorem first11 : FirstG SRf (qav qul) (.agg [.str [83], .list [], Az11] :: G11) nl11 nu11 fb11 :=
 qcl (by kernel_rfl) (by decide) (by kernel_rfl) (fl := [(0, [48, 49, 50, 51, 52, 53, 54, 55, 56, 57]), (1, [48, 49, 50, 51, 52, 53, 54, 55, 56, 57]), (2, [97, 98])]) ⟨r11_0, r11_1, r11_2, trivial⟩ (by decide) (by kernel_rfl)
theorem qf11 : QF (.agg [.list (.agg [.str [83], .list [], Az11] :: G11)]) := ⟨⟨SRf, MKf, VNf, qav qul, [83], .list [], Az11, G11, nl11, nu11, fb11, rfl, gram11, first11⟩, any11⟩
end X
