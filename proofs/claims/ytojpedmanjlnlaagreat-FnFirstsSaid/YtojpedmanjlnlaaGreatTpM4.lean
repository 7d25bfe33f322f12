/- A part of the proof. No statement of the claim is in it. -/
import Derived.Test.YtojpedmanjlnlaaGreatA
import Derived.Test.YtojpedmanjlnlaaGreatTpG1
open Go Go.V Go.Proofs
namespace X
set_option maxRecDepth 100000
set_option maxHeartbeats 4000000
def m4_0 : T := .agg [(iN 1), (iN 0), (.str []), .list []]
def m4_1 : T := .agg [(iN 3), (.str [69]), .list [.agg [.list [m4_0]]], (.str [])]
def m4_2 : T := .agg [(.str [83]), .list [], .list [.agg [.list [m4_1]]]]
def m4_3 : T := .agg [(iN 1), (iN 1), (.str []), .list []]
def m4_4 : T := .agg [(iN 2), (iN 0), (.str [112]), .list []]
def m4_5 : T := .list [.agg [(iN 0)], .agg [(iN 1)]]
def m4_6 : T := .agg [(iN 8), (iN 0), (.str []), m4_5]
def m4_7 : T := .agg [(iN 11), (iN 0), (.str []), .list [.agg [(iN 2)]]]
def m4_8 : T := .list [.agg [.list [m4_3, m4_4, m4_6, m4_7]]]
def m4_9 : T := .agg [(iN 4), (.str []), m4_8, (.str [])]
def qog : T := .agg [(iN 3), (.str [69]), .list [.agg [.list [m4_3]]], (.str [])]
def qoa : T := .agg [(iN 1), (.str [43]), .list [], (.str [])]
def m4_12 : T := .agg [(iN 1), (iN 2), (.str []), .list []]
def qoh : T := .agg [(iN 3), (.str [69]), .list [.agg [.list [m4_12]]], (.str [])]
def qqt : T := .agg [(iN 2), (.str [48,45,57]), .list [], (.str [])]
def qqf : T := .agg [(iN 1), (.str [40]), .list [], (.str [])]
def qoe : T := .agg [(iN 1), (.str [41]), .list [], (.str [])]
def qxw : T := .list [.agg [.list [m4_9, qog, qoa, qoh]], .agg [.list [qqt]], .agg [.list [qqf, m4_1, qoe]]]
def qgu : T := .agg [(.str [69]), .list [.agg [(.str [112])]], qxw]
def N4_0 : T := .agg [.list [.agg [(.str []), .list [], .list [.agg [.list [m4_1]]]], qgu]]
def N4_1 : T := .agg [.list [m4_2, .agg [(.str [49,97]), .list [.agg [(.str [112])]], qxw]]]
def N4_2 : T := .agg [.list [.agg [(.str [84,111,111,108,111,110,103]), .list [], .list [.agg [.list [m4_1]]]], qgu]]
def N4_3 : T := .agg [.list [m4_2, .agg [(.str [83]), .list [.agg [(.str [112])]], qxw]]]
def N4_4 : T := .agg [.list [.agg [(.str [83]), .list [.agg [(.str [97])]], .list [.agg [.list [m4_1]]]], qgu]]
def N4_5 : T := .agg [.list [m4_2, .agg [(.str [69]), .list [.agg [(.str [112])], .agg [(.str [122,122])]], qxw]]]
def N4_6 : T := .agg [.list [.agg [(.str [83]), .list [.agg [(.str [66])]], .list [.agg [.list [m4_1]]]], qgu]]
def N4_7 : T := .agg [.list [m4_2, .agg [(.str [69]), .list [.agg [(.str [112])], .agg [(.str [97])]], qxw]]]
def N4_8 : T := .agg [.list [.agg [(.str [83]), .list [.agg [(.str [122,122])]], .list [.agg [.list [m4_1]]]], qgu]]
def N4_9 : T := .agg [.list [m4_2, .agg [(.str [69]), .list [.agg [(.str [112])], .agg [(.str [66])]], qxw]]]
def N4_10 : T := .agg [.list [.agg [(.str [83]), .list [], .list []], qgu]]
def N4_11 : T := .agg [.list [m4_2, .agg [(.str [69]), .list [.agg [(.str [112])]], .list []]]]
def N4_12 : T := .agg [.list [.agg [(.str [83]), .list [], .list [.agg [.list [m4_1, .agg [(iN 0), (.str [120]), .nils, (.str [])]]]]], qgu]]
def N4_13 : T := .agg [.list [m4_2, .agg [(.str [69]), .list [.agg [(.str [112])]], .list [.agg [.list [m4_9, qog, qoa, qoh]], .agg [.list [qqt, .agg [(iN 1), (.str [120]), .nils, (.str [])]]], .agg [.list [qqf, m4_1, qoe]]]]]]
def N4_14 : T := .agg [.list [.agg [(.str [83]), .list [], .list [.agg [.list [m4_1, .agg [(iN 2), (.str [120]), .nils, (.str [])]]]]], qgu]]
def N4_15 : T := .agg [.list [m4_2, .agg [(.str [69]), .list [.agg [(.str [112])]], .list [.agg [.list [m4_9, qog, qoa, qoh, .agg [(iN 3), (.str [120]), .nils, (.str [])]]], .agg [.list [qqt]], .agg [.list [qqf, m4_1, qoe]]]]]]
def N4_16 : T := .agg [.list [.agg [(.str [83]), .list [], .list [.agg [.list [m4_1, .agg [(iN 4), (.str [120]), .nils, (.str [])]]]]], qgu]]
def N4_17 : T := .agg [.list [m4_2, .agg [(.str [69]), .list [.agg [(.str [112])]], .list [.agg [.list [m4_9, qog, qoa, qoh]], .agg [.list [qqt]], .agg [.list [qqf, m4_1, qoe, .agg [(iN 5), (.str [120]), .nils, (.str [])]]]]]]]
def N4_18 : T := .agg [.list [.agg [(.str [83]), .list [], .list [.agg [.list [m4_1, .agg [(iN 4), (.str []), .list [.agg [.list [.agg [(iN 2), (iN 0), (.str [97]), .nils]]]], (.str [])]]]]], qgu]]
def N4_19 : T := .agg [.list [m4_2, .agg [(.str [69]), .list [.agg [(.str [112])]], .list [.agg [.list [m4_9, qog, qoa, qoh]], .agg [.list [qqt, .agg [(iN 4), (.str []), .list [.agg [.list [.agg [(iN 2), (iN 0), (.str [110]), .nils]]]], (.str [])]]], .agg [.list [qqf, m4_1, qoe]]]]]]
def N4_20 : T := .agg [.list [.agg [(.str [83]), .list [], .list [.agg [.list [m4_1, .agg [(iN 4), (.str []), .list [.agg [.list [.agg [(iN 2), (iN 0), (.str [113]), .nils]]]], (.str [])]]]]], qgu]]
def N4_21 : T := .agg [.list [m4_2, .agg [(.str [69]), .list [.agg [(.str [112])]], .list [.agg [.list [m4_9, qog, qoa, qoh, .agg [(iN 4), (.str []), .list [.agg [.list [.agg [(iN 2), (iN 0), (.str [97]), .nils]]]], (.str [])]]], .agg [.list [qqt]], .agg [.list [qqf, m4_1, qoe]]]]]]
def N4_22 : T := .agg [.list [.agg [(.str [83]), .list [], .list [.agg [.list [m4_1, .agg [(iN 4), (.str []), .list [.agg [.list [.agg [(iN 2), (iN 0), (.str [110]), .nils]]]], (.str [])]]]]], qgu]]
def N4_23 : T := .agg [.list [m4_2, .agg [(.str [69]), .list [.agg [(.str [112])]], .list [.agg [.list [m4_9, qog, qoa, qoh]], .agg [.list [qqt]], .agg [.list [qqf, m4_1, qoe, .agg [(iN 4), (.str []), .list [.agg [.list [.agg [(iN 2), (iN 0), (.str [113]), .nils]]]], (.str [])]]]]]]]
def N4_24 : T := .agg [.list [.agg [(.str [83]), .list [], .list [.agg [.list [.agg [(iN 3), (.str [69]), .list [.agg [.list [m4_0]]], (.str [97])]]]]], qgu]]
def N4_25 : T := .agg [.list [m4_2, .agg [(.str [69]), .list [.agg [(.str [112])]], .list [.agg [.list [m4_9, qog, qoa, qoh]], .agg [.list [.agg [(iN 2), (.str [48,45,57]), .list [], (.str [110])]]], .agg [.list [qqf, m4_1, qoe]]]]]]
def N4_26 : T := .agg [.list [.agg [(.str [83]), .list [], .list [.agg [.list [.agg [(iN 3), (.str [69]), .list [.agg [.list [m4_0]]], (.str [81])]]]]], qgu]]
def N4_27 : T := .agg [.list [m4_2, .agg [(.str [69]), .list [.agg [(.str [112])]], .list [.agg [.list [.agg [(iN 4), (.str []), m4_8, (.str [97])], qog, qoa, qoh]], .agg [.list [qqt]], .agg [.list [qqf, m4_1, qoe]]]]]]
def N4_28 : T := .agg [.list [.agg [(.str [83]), .list [], .list [.agg [.list [.agg [(iN 3), (.str [69]), .list [.agg [.list [m4_0]]], (.str [110])]]]]], qgu]]
def N4_29 : T := .agg [.list [m4_2, .agg [(.str [69]), .list [.agg [(.str [112])]], .list [.agg [.list [m4_9, qog, qoa, qoh]], .agg [.list [qqt]], .agg [.list [.agg [(iN 1), (.str [40]), .list [], (.str [81])], m4_1, qoe]]]]]]
def N4_30 : T := .agg [.list [qgu]]
def N4_31 : T := .agg [.list [m4_2, qgu]]
def NN4 : List T := [N4_0, N4_1, N4_2, N4_3, N4_4, N4_5, N4_6, N4_7, N4_8, N4_9, N4_10, N4_11, N4_12, N4_13, N4_14, N4_15, N4_16, N4_17, N4_18, N4_19, N4_20, N4_21, N4_22, N4_23, N4_24, N4_25, N4_26, N4_27, N4_28, N4_29, N4_30, N4_31]
def PP4 : List (List Nat) := [[0, 1, 2, 3], [4, 5, 6, 7, 8, 9], [10, 11], [12, 13, 14, 15, 16, 17], [18, 19, 20, 21, 22, 23], [24, 25, 26, 27, 28, 29], [30], [31]]
theorem chk4 : ∀ o b1 b2 b3, qcg (csOf (rowsOf NN4 PP4)) (.agg [.list (.agg [.str [83], .list [], Az4] :: G4)]) o b1 b2 b3 = some (.bool true) := by
 intro o b1 b2 b3
 kernel_rfl
theorem nn4 : allN NN4 = some (.bool true) := by kernel_rfl
theorem any4 : AnyG qhm (.agg [.list (.agg [.str [83], .list [], Az4] :: G4)]) := qdo rfl (by decide) nn4 chk4
end X
