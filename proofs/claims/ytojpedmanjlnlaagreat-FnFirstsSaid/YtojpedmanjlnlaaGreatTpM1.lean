/- A part of the proof. No statement of the claim is in it. -/
import Derived.Test.YtojpedmanjlnlaaGreatA
import Derived.Test.YtojpedmanjlnlaaGreatTpG0
open Go Go.V Go.Proofs
namespace X
set_option maxRecDepth 100000
set_option maxHeartbeats 4000000
def m1_0 : T := .agg [(iN 3), (.str [83]), .list [], (.str [])]
def m1_1 : T := .agg [(iN 1), (.str [97]), .list [], (.str [])]
def m1_2 : T := .list [.agg [.list [m1_0, m1_1]], .agg [.list [m1_1]]]
def N1_0 : T := .agg [.list [.agg [(.str []), .list [], m1_2]]]
def N1_1 : T := .agg [.list [.agg [(.str [49,97]), .list [], m1_2]]]
def N1_2 : T := .agg [.list [.agg [(.str [84,111,111,108,111,110,103]), .list [], m1_2]]]
def N1_3 : T := .agg [.list [.agg [(.str [83]), .list [], m1_2]]]
def N1_4 : T := .agg [.list [.agg [(.str [83]), .list [.agg [(.str [97])]], m1_2]]]
def N1_5 : T := .agg [.list [.agg [(.str [83]), .list [.agg [(.str [122,122])]], m1_2]]]
def N1_6 : T := .agg [.list [.agg [(.str [83]), .list [.agg [(.str [66])]], m1_2]]]
def N1_7 : T := .agg [.list [.agg [(.str [83]), .list [], .list []]]]
def N1_8 : T := .agg [.list [.agg [(.str [83]), .list [], .list [.agg [.list [m1_0, m1_1, .agg [(iN 0), (.str [120]), .nils, (.str [])]]], .agg [.list [m1_1]]]]]]
def N1_9 : T := .agg [.list [.agg [(.str [83]), .list [], .list [.agg [.list [m1_0, m1_1]], .agg [.list [m1_1, .agg [(iN 1), (.str [120]), .nils, (.str [])]]]]]]]
def N1_10 : T := .agg [.list [.agg [(.str [83]), .list [], .list [.agg [.list [m1_0, m1_1, .agg [(iN 2), (.str [120]), .nils, (.str [])]]], .agg [.list [m1_1]]]]]]
def N1_11 : T := .agg [.list [.agg [(.str [83]), .list [], .list [.agg [.list [m1_0, m1_1]], .agg [.list [m1_1, .agg [(iN 3), (.str [120]), .nils, (.str [])]]]]]]]
def N1_12 : T := .agg [.list [.agg [(.str [83]), .list [], .list [.agg [.list [m1_0, m1_1, .agg [(iN 4), (.str [120]), .nils, (.str [])]]], .agg [.list [m1_1]]]]]]
def N1_13 : T := .agg [.list [.agg [(.str [83]), .list [], .list [.agg [.list [m1_0, m1_1]], .agg [.list [m1_1, .agg [(iN 5), (.str [120]), .nils, (.str [])]]]]]]]
def N1_14 : T := .agg [.list [.agg [(.str [83]), .list [], .list [.agg [.list [m1_0, m1_1, .agg [(iN 4), (.str []), .list [.agg [.list [.agg [(iN 2), (iN 0), (.str [97]), .nils]]]], (.str [])]]], .agg [.list [m1_1]]]]]]
def N1_15 : T := .agg [.list [.agg [(.str [83]), .list [], .list [.agg [.list [m1_0, m1_1]], .agg [.list [m1_1, .agg [(iN 4), (.str []), .list [.agg [.list [.agg [(iN 2), (iN 0), (.str [110]), .nils]]]], (.str [])]]]]]]]
def N1_16 : T := .agg [.list [.agg [(.str [83]), .list [], .list [.agg [.list [m1_0, m1_1, .agg [(iN 4), (.str []), .list [.agg [.list [.agg [(iN 2), (iN 0), (.str [113]), .nils]]]], (.str [])]]], .agg [.list [m1_1]]]]]]
def N1_17 : T := .agg [.list [.agg [(.str [83]), .list [], .list [.agg [.list [m1_0, m1_1]], .agg [.list [m1_1, .agg [(iN 4), (.str []), .list [.agg [.list [.agg [(iN 2), (iN 0), (.str [97]), .nils]]]], (.str [])]]]]]]]
def N1_18 : T := .agg [.list [.agg [(.str [83]), .list [], .list [.agg [.list [m1_0, m1_1, .agg [(iN 4), (.str []), .list [.agg [.list [.agg [(iN 2), (iN 0), (.str [110]), .nils]]]], (.str [])]]], .agg [.list [m1_1]]]]]]
def N1_19 : T := .agg [.list [.agg [(.str [83]), .list [], .list [.agg [.list [m1_0, m1_1]], .agg [.list [m1_1, .agg [(iN 4), (.str []), .list [.agg [.list [.agg [(iN 2), (iN 0), (.str [113]), .nils]]]], (.str [])]]]]]]]
def N1_20 : T := .agg [.list [.agg [(.str [83]), .list [], .list [.agg [.list [.agg [(iN 3), (.str [83]), .list [], (.str [97])], m1_1]], .agg [.list [m1_1]]]]]]
def N1_21 : T := .agg [.list [.agg [(.str [83]), .list [], .list [.agg [.list [m1_0, m1_1]], .agg [.list [.agg [(iN 1), (.str [97]), .list [], (.str [110])]]]]]]]
def N1_22 : T := .agg [.list [.agg [(.str [83]), .list [], .list [.agg [.list [.agg [(iN 3), (.str [83]), .list [], (.str [81])], m1_1]], .agg [.list [m1_1]]]]]]
def N1_23 : T := .agg [.list [.agg [(.str [83]), .list [], .list [.agg [.list [m1_0, m1_1]], .agg [.list [.agg [(iN 1), (.str [97]), .list [], (.str [97])]]]]]]]
def N1_24 : T := .agg [.list [.agg [(.str [83]), .list [], .list [.agg [.list [.agg [(iN 3), (.str [83]), .list [], (.str [110])], m1_1]], .agg [.list [m1_1]]]]]]
def N1_25 : T := .agg [.list [.agg [(.str [83]), .list [], .list [.agg [.list [m1_0, m1_1]], .agg [.list [.agg [(iN 1), (.str [97]), .list [], (.str [81])]]]]]]]
def N1_26 : T := .agg [.list []]
def NN1 : List T := [N1_0, N1_1, N1_2, N1_3, N1_4, N1_5, N1_6, N1_7, N1_8, N1_9, N1_10, N1_11, N1_12, N1_13, N1_14, N1_15, N1_16, N1_17, N1_18, N1_19, N1_20, N1_21, N1_22, N1_23, N1_24, N1_25, N1_26]
def PP1 : List (List Nat) := [[0, 1, 2, 3], [4, 5, 6], [7], [8, 9, 10, 11, 12, 13], [14, 15, 16, 17, 18, 19], [20, 21, 22, 23, 24, 25], [26], [3]]
theorem chk1 : ∀ o b1 b2 b3, qcg (csOf (rowsOf NN1 PP1)) (.agg [.list (.agg [.str [83], .list [], Az1] :: G1)]) o b1 b2 b3 = some (.bool true) := by
 intro o b1 b2 b3
 kernel_rfl
theorem nn1 : allN NN1 = some (.bool true) := by kernel_rfl
theorem any1 : AnyG qhm (.agg [.list (.agg [.str [83], .list [], Az1] :: G1)]) := qdo rfl (by decide) nn1 chk1
end X
