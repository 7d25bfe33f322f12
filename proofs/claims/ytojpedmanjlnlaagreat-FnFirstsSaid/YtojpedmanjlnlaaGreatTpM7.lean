/- A part of the proof. No statement of the claim is in it. -/
import Derived.Test.YtojpedmanjlnlaaGreatA
import Derived.Test.YtojpedmanjlnlaaGreatTpG1
open Go Go.V Go.Proofs
namespace X
set_option maxRecDepth 100000
set_option maxHeartbeats 4000000
def m7_0 : T := .agg [(iN 3), (.str [65]), .list [], (.str [])]
def m7_1 : T := .agg [(iN 3), (.str [66]), .list [], (.str [])]
def m7_2 : T := .list [.agg [.list [m7_0]], .agg [.list [m7_1]]]
def m7_3 : T := .agg [(iN 1), (.str [97]), .list [], (.str [])]
def m7_4 : T := .list [.agg [.list [m7_3, m7_0]], .agg [.list [m7_3]]]
def m7_5 : T := .list [.agg [.list [m7_1, m7_3]], .agg [.list [m7_3]]]
def N7_0 : T := .agg [.list [.agg [(.str []), .list [], m7_2], .agg [(.str [65]), .list [], m7_4], .agg [(.str [66]), .list [], m7_5]]]
def N7_1 : T := .agg [.list [.agg [(.str [83]), .list [], m7_2], .agg [(.str [49,97]), .list [], m7_4], .agg [(.str [66]), .list [], m7_5]]]
def N7_2 : T := .agg [.list [.agg [(.str [83]), .list [], m7_2], .agg [(.str [65]), .list [], m7_4], .agg [(.str [84,111,111,108,111,110,103]), .list [], m7_5]]]
def N7_3 : T := .agg [.list [.agg [(.str [83]), .list [], m7_2], .agg [(.str [65]), .list [], m7_4], .agg [(.str [66]), .list [], m7_5]]]
def N7_4 : T := .agg [.list [.agg [(.str [83]), .list [], m7_2], .agg [(.str []), .list [], m7_4], .agg [(.str [66]), .list [], m7_5]]]
def N7_5 : T := .agg [.list [.agg [(.str [83]), .list [], m7_2], .agg [(.str [65]), .list [], m7_4], .agg [(.str [49,97]), .list [], m7_5]]]
def N7_6 : T := .agg [.list [.agg [(.str [84,111,111,108,111,110,103]), .list [], m7_2], .agg [(.str [65]), .list [], m7_4], .agg [(.str [66]), .list [], m7_5]]]
def N7_7 : T := .agg [.list [.agg [(.str [83]), .list [], m7_2], .agg [(.str [83]), .list [], m7_4], .agg [(.str [66]), .list [], m7_5]]]
def N7_8 : T := .agg [.list [.agg [(.str [83]), .list [], m7_2], .agg [(.str [65]), .list [], m7_4], .agg [(.str []), .list [], m7_5]]]
def N7_9 : T := .agg [.list [.agg [(.str [49,97]), .list [], m7_2], .agg [(.str [65]), .list [], m7_4], .agg [(.str [66]), .list [], m7_5]]]
def N7_10 : T := .agg [.list [.agg [(.str [83]), .list [], m7_2], .agg [(.str [84,111,111,108,111,110,103]), .list [], m7_4], .agg [(.str [66]), .list [], m7_5]]]
def N7_11 : T := .agg [.list [.agg [(.str [83]), .list [], m7_2], .agg [(.str [65]), .list [], m7_4], .agg [(.str [83]), .list [], m7_5]]]
def N7_12 : T := .agg [.list [.agg [(.str [83]), .list [.agg [(.str [97])]], m7_2], .agg [(.str [65]), .list [], m7_4], .agg [(.str [66]), .list [], m7_5]]]
def N7_13 : T := .agg [.list [.agg [(.str [83]), .list [], m7_2], .agg [(.str [65]), .list [.agg [(.str [122,122])]], m7_4], .agg [(.str [66]), .list [], m7_5]]]
def N7_14 : T := .agg [.list [.agg [(.str [83]), .list [], m7_2], .agg [(.str [65]), .list [], m7_4], .agg [(.str [66]), .list [.agg [(.str [66])]], m7_5]]]
def N7_15 : T := .agg [.list [.agg [(.str [83]), .list [], .list []], .agg [(.str [65]), .list [], m7_4], .agg [(.str [66]), .list [], m7_5]]]
def N7_16 : T := .agg [.list [.agg [(.str [83]), .list [], m7_2], .agg [(.str [65]), .list [], .list []], .agg [(.str [66]), .list [], m7_5]]]
def N7_17 : T := .agg [.list [.agg [(.str [83]), .list [], m7_2], .agg [(.str [65]), .list [], m7_4], .agg [(.str [66]), .list [], .list []]]]
def N7_18 : T := .agg [.list [.agg [(.str [83]), .list [], .list [.agg [.list [m7_0, .agg [(iN 0), (.str [120]), .nils, (.str [])]]], .agg [.list [m7_1]]]], .agg [(.str [65]), .list [], m7_4], .agg [(.str [66]), .list [], m7_5]]]
def N7_19 : T := .agg [.list [.agg [(.str [83]), .list [], m7_2], .agg [(.str [65]), .list [], .list [.agg [.list [m7_3, m7_0]], .agg [.list [m7_3, .agg [(iN 1), (.str [120]), .nils, (.str [])]]]]], .agg [(.str [66]), .list [], m7_5]]]
def N7_20 : T := .agg [.list [.agg [(.str [83]), .list [], m7_2], .agg [(.str [65]), .list [], m7_4], .agg [(.str [66]), .list [], .list [.agg [.list [m7_1, m7_3, .agg [(iN 2), (.str [120]), .nils, (.str [])]]], .agg [.list [m7_3]]]]]]
def N7_21 : T := .agg [.list [.agg [(.str [83]), .list [], .list [.agg [.list [m7_0]], .agg [.list [m7_1, .agg [(iN 3), (.str [120]), .nils, (.str [])]]]]], .agg [(.str [65]), .list [], m7_4], .agg [(.str [66]), .list [], m7_5]]]
def N7_22 : T := .agg [.list [.agg [(.str [83]), .list [], m7_2], .agg [(.str [65]), .list [], .list [.agg [.list [m7_3, m7_0, .agg [(iN 4), (.str [120]), .nils, (.str [])]]], .agg [.list [m7_3]]]], .agg [(.str [66]), .list [], m7_5]]]
def N7_23 : T := .agg [.list [.agg [(.str [83]), .list [], m7_2], .agg [(.str [65]), .list [], m7_4], .agg [(.str [66]), .list [], .list [.agg [.list [m7_1, m7_3]], .agg [.list [m7_3, .agg [(iN 5), (.str [120]), .nils, (.str [])]]]]]]]
def N7_24 : T := .agg [.list [.agg [(.str [83]), .list [], .list [.agg [.list [m7_0, .agg [(iN 4), (.str []), .list [.agg [.list [.agg [(iN 2), (iN 0), (.str [97]), .nils]]]], (.str [])]]], .agg [.list [m7_1]]]], .agg [(.str [65]), .list [], m7_4], .agg [(.str [66]), .list [], m7_5]]]
def N7_25 : T := .agg [.list [.agg [(.str [83]), .list [], m7_2], .agg [(.str [65]), .list [], .list [.agg [.list [m7_3, m7_0]], .agg [.list [m7_3, .agg [(iN 4), (.str []), .list [.agg [.list [.agg [(iN 2), (iN 0), (.str [110]), .nils]]]], (.str [])]]]]], .agg [(.str [66]), .list [], m7_5]]]
def N7_26 : T := .agg [.list [.agg [(.str [83]), .list [], m7_2], .agg [(.str [65]), .list [], m7_4], .agg [(.str [66]), .list [], .list [.agg [.list [m7_1, m7_3, .agg [(iN 4), (.str []), .list [.agg [.list [.agg [(iN 2), (iN 0), (.str [113]), .nils]]]], (.str [])]]], .agg [.list [m7_3]]]]]]
def N7_27 : T := .agg [.list [.agg [(.str [83]), .list [], .list [.agg [.list [m7_0]], .agg [.list [m7_1, .agg [(iN 4), (.str []), .list [.agg [.list [.agg [(iN 2), (iN 0), (.str [97]), .nils]]]], (.str [])]]]]], .agg [(.str [65]), .list [], m7_4], .agg [(.str [66]), .list [], m7_5]]]
def N7_28 : T := .agg [.list [.agg [(.str [83]), .list [], m7_2], .agg [(.str [65]), .list [], .list [.agg [.list [m7_3, m7_0, .agg [(iN 4), (.str []), .list [.agg [.list [.agg [(iN 2), (iN 0), (.str [110]), .nils]]]], (.str [])]]], .agg [.list [m7_3]]]], .agg [(.str [66]), .list [], m7_5]]]
def N7_29 : T := .agg [.list [.agg [(.str [83]), .list [], m7_2], .agg [(.str [65]), .list [], m7_4], .agg [(.str [66]), .list [], .list [.agg [.list [m7_1, m7_3]], .agg [.list [m7_3, .agg [(iN 4), (.str []), .list [.agg [.list [.agg [(iN 2), (iN 0), (.str [113]), .nils]]]], (.str [])]]]]]]]
def N7_30 : T := .agg [.list [.agg [(.str [83]), .list [], .list [.agg [.list [.agg [(iN 3), (.str [65]), .list [], (.str [97])]]], .agg [.list [m7_1]]]], .agg [(.str [65]), .list [], m7_4], .agg [(.str [66]), .list [], m7_5]]]
def N7_31 : T := .agg [.list [.agg [(.str [83]), .list [], m7_2], .agg [(.str [65]), .list [], .list [.agg [.list [m7_3, m7_0]], .agg [.list [.agg [(iN 1), (.str [97]), .list [], (.str [110])]]]]], .agg [(.str [66]), .list [], m7_5]]]
def N7_32 : T := .agg [.list [.agg [(.str [83]), .list [], m7_2], .agg [(.str [65]), .list [], m7_4], .agg [(.str [66]), .list [], .list [.agg [.list [.agg [(iN 3), (.str [66]), .list [], (.str [81])], m7_3]], .agg [.list [m7_3]]]]]]
def N7_33 : T := .agg [.list [.agg [(.str [83]), .list [], .list [.agg [.list [m7_0]], .agg [.list [.agg [(iN 3), (.str [66]), .list [], (.str [97])]]]]], .agg [(.str [65]), .list [], m7_4], .agg [(.str [66]), .list [], m7_5]]]
def N7_34 : T := .agg [.list [.agg [(.str [83]), .list [], m7_2], .agg [(.str [65]), .list [], .list [.agg [.list [.agg [(iN 1), (.str [97]), .list [], (.str [110])], m7_0]], .agg [.list [m7_3]]]], .agg [(.str [66]), .list [], m7_5]]]
def N7_35 : T := .agg [.list [.agg [(.str [83]), .list [], m7_2], .agg [(.str [65]), .list [], m7_4], .agg [(.str [66]), .list [], .list [.agg [.list [m7_1, m7_3]], .agg [.list [.agg [(iN 1), (.str [97]), .list [], (.str [81])]]]]]]]
def N7_36 : T := .agg [.list [.agg [(.str [65]), .list [], m7_4], .agg [(.str [66]), .list [], m7_5]]]
def NN7 : List T := [N7_0, N7_1, N7_2, N7_3, N7_4, N7_5, N7_6, N7_7, N7_8, N7_9, N7_10, N7_11, N7_12, N7_13, N7_14, N7_15, N7_16, N7_17, N7_18, N7_19, N7_20, N7_21, N7_22, N7_23, N7_24, N7_25, N7_26, N7_27, N7_28, N7_29, N7_30, N7_31, N7_32, N7_33, N7_34, N7_35, N7_36]
def PP7 : List (List Nat) := [[0, 1, 2, 3, 4, 5, 6, 7, 8, 9, 10, 11], [12, 13, 14], [15, 16, 17], [18, 19, 20, 21, 22, 23], [24, 25, 26, 27, 28, 29], [30, 31, 32, 33, 34, 35], [36], [3]]
theorem chk7 : ∀ o b1 b2 b3, qcg (csOf (rowsOf NN7 PP7)) (.agg [.list (.agg [.str [83], .list [], Az7] :: G7)]) o b1 b2 b3 = some (.bool true) := by
 intro o b1 b2 b3
 kernel_rfl
theorem nn7 : allN NN7 = some (.bool true) := by kernel_rfl
theorem any7 : AnyG qhm (.agg [.list (.agg [.str [83], .list [], Az7] :: G7)]) := qdo rfl (by decide) nn7 chk7
end X
