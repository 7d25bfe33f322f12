/- A part of the proof. No statement of the claim is in it. -/
import Derived.Test.YtojpedmanjlnlaaGreatA
import Derived.Test.YtojpedmanjlnlaaGreatTpG1
open Go Go.V Go.Proofs
namespace X
set_option maxRecDepth 100000
set_option maxHeartbeats 4000000
def m6_0 : T := .agg [(iN 3), (.str [120,48]), .list [], (.str [])]
def m6_1 : T := .agg [(iN 3), (.str [120,49]), .list [], (.str [])]
def m6_2 : T := .agg [(.str [83]), .list [], .list [.agg [.list [m6_0, m6_1]]]]
def m6_3 : T := .agg [(iN 2), (.str [97,98]), .list [], (.str [])]
def m6_4 : T := .list [.agg [.list [m6_3]], .agg [.list [m6_3, m6_0]]]
def m6_5 : T := .agg [(iN 1), (.str [49]), .list [], (.str [])]
def m6_6 : T := .list [.agg [.list [m6_5]], .agg [.nils]]
def N6_0 : T := .agg [.list [.agg [(.str []), .list [], .list [.agg [.list [m6_0, m6_1]]]], .agg [(.str [120,48]), .list [], m6_4], .agg [(.str [120,49]), .list [], m6_6]]]
def N6_1 : T := .agg [.list [m6_2, .agg [(.str [49,97]), .list [], m6_4], .agg [(.str [120,49]), .list [], m6_6]]]
def N6_2 : T := .agg [.list [m6_2, .agg [(.str [120,48]), .list [], m6_4], .agg [(.str [84,111,111,108,111,110,103]), .list [], m6_6]]]
def N6_3 : T := .agg [.list [m6_2, .agg [(.str [120,48]), .list [], m6_4], .agg [(.str [120,49]), .list [], m6_6]]]
def N6_4 : T := .agg [.list [m6_2, .agg [(.str []), .list [], m6_4], .agg [(.str [120,49]), .list [], m6_6]]]
def N6_5 : T := .agg [.list [m6_2, .agg [(.str [120,48]), .list [], m6_4], .agg [(.str [49,97]), .list [], m6_6]]]
def N6_6 : T := .agg [.list [.agg [(.str [84,111,111,108,111,110,103]), .list [], .list [.agg [.list [m6_0, m6_1]]]], .agg [(.str [120,48]), .list [], m6_4], .agg [(.str [120,49]), .list [], m6_6]]]
def N6_7 : T := .agg [.list [m6_2, .agg [(.str [83]), .list [], m6_4], .agg [(.str [120,49]), .list [], m6_6]]]
def N6_8 : T := .agg [.list [m6_2, .agg [(.str [120,48]), .list [], m6_4], .agg [(.str []), .list [], m6_6]]]
def N6_9 : T := .agg [.list [.agg [(.str [49,97]), .list [], .list [.agg [.list [m6_0, m6_1]]]], .agg [(.str [120,48]), .list [], m6_4], .agg [(.str [120,49]), .list [], m6_6]]]
def N6_10 : T := .agg [.list [m6_2, .agg [(.str [84,111,111,108,111,110,103]), .list [], m6_4], .agg [(.str [120,49]), .list [], m6_6]]]
def N6_11 : T := .agg [.list [m6_2, .agg [(.str [120,48]), .list [], m6_4], .agg [(.str [83]), .list [], m6_6]]]
def N6_12 : T := .agg [.list [.agg [(.str [83]), .list [.agg [(.str [97])]], .list [.agg [.list [m6_0, m6_1]]]], .agg [(.str [120,48]), .list [], m6_4], .agg [(.str [120,49]), .list [], m6_6]]]
def N6_13 : T := .agg [.list [m6_2, .agg [(.str [120,48]), .list [.agg [(.str [122,122])]], m6_4], .agg [(.str [120,49]), .list [], m6_6]]]
def N6_14 : T := .agg [.list [m6_2, .agg [(.str [120,48]), .list [], m6_4], .agg [(.str [120,49]), .list [.agg [(.str [66])]], m6_6]]]
def N6_15 : T := .agg [.list [.agg [(.str [83]), .list [], .list []], .agg [(.str [120,48]), .list [], m6_4], .agg [(.str [120,49]), .list [], m6_6]]]
def N6_16 : T := .agg [.list [m6_2, .agg [(.str [120,48]), .list [], .list []], .agg [(.str [120,49]), .list [], m6_6]]]
def N6_17 : T := .agg [.list [m6_2, .agg [(.str [120,48]), .list [], m6_4], .agg [(.str [120,49]), .list [], .list []]]]
def N6_18 : T := .agg [.list [.agg [(.str [83]), .list [], .list [.agg [.list [m6_0, m6_1, .agg [(iN 0), (.str [120]), .nils, (.str [])]]]]], .agg [(.str [120,48]), .list [], m6_4], .agg [(.str [120,49]), .list [], m6_6]]]
def N6_19 : T := .agg [.list [m6_2, .agg [(.str [120,48]), .list [], .list [.agg [.list [m6_3]], .agg [.list [m6_3, m6_0, .agg [(iN 1), (.str [120]), .nils, (.str [])]]]]], .agg [(.str [120,49]), .list [], m6_6]]]
def N6_20 : T := .agg [.list [m6_2, .agg [(.str [120,48]), .list [], m6_4], .agg [(.str [120,49]), .list [], .list [.agg [.list [m6_5, .agg [(iN 2), (.str [120]), .nils, (.str [])]]], .agg [.nils]]]]]
def N6_21 : T := .agg [.list [.agg [(.str [83]), .list [], .list [.agg [.list [m6_0, m6_1, .agg [(iN 3), (.str [120]), .nils, (.str [])]]]]], .agg [(.str [120,48]), .list [], m6_4], .agg [(.str [120,49]), .list [], m6_6]]]
def N6_22 : T := .agg [.list [m6_2, .agg [(.str [120,48]), .list [], .list [.agg [.list [m6_3, .agg [(iN 4), (.str [120]), .nils, (.str [])]]], .agg [.list [m6_3, m6_0]]]], .agg [(.str [120,49]), .list [], m6_6]]]
def N6_23 : T := .agg [.list [m6_2, .agg [(.str [120,48]), .list [], m6_4], .agg [(.str [120,49]), .list [], .list [.agg [.list [m6_5]], .agg [.list [.agg [(iN 5), (.str [120]), .nils, (.str [])]]]]]]]
def N6_24 : T := .agg [.list [.agg [(.str [83]), .list [], .list [.agg [.list [m6_0, m6_1, .agg [(iN 4), (.str []), .list [.agg [.list [.agg [(iN 2), (iN 0), (.str [97]), .nils]]]], (.str [])]]]]], .agg [(.str [120,48]), .list [], m6_4], .agg [(.str [120,49]), .list [], m6_6]]]
def N6_25 : T := .agg [.list [m6_2, .agg [(.str [120,48]), .list [], .list [.agg [.list [m6_3]], .agg [.list [m6_3, m6_0, .agg [(iN 4), (.str []), .list [.agg [.list [.agg [(iN 2), (iN 0), (.str [110]), .nils]]]], (.str [])]]]]], .agg [(.str [120,49]), .list [], m6_6]]]
def N6_26 : T := .agg [.list [m6_2, .agg [(.str [120,48]), .list [], m6_4], .agg [(.str [120,49]), .list [], .list [.agg [.list [m6_5, .agg [(iN 4), (.str []), .list [.agg [.list [.agg [(iN 2), (iN 0), (.str [113]), .nils]]]], (.str [])]]], .agg [.nils]]]]]
def N6_27 : T := .agg [.list [m6_2, .agg [(.str [120,48]), .list [], .list [.agg [.list [m6_3, .agg [(iN 4), (.str []), .list [.agg [.list [.agg [(iN 2), (iN 0), (.str [110]), .nils]]]], (.str [])]]], .agg [.list [m6_3, m6_0]]]], .agg [(.str [120,49]), .list [], m6_6]]]
def N6_28 : T := .agg [.list [m6_2, .agg [(.str [120,48]), .list [], m6_4], .agg [(.str [120,49]), .list [], .list [.agg [.list [m6_5]], .agg [.list [.agg [(iN 4), (.str []), .list [.agg [.list [.agg [(iN 2), (iN 0), (.str [113]), .nils]]]], (.str [])]]]]]]]
def N6_29 : T := .agg [.list [.agg [(.str [83]), .list [], .list [.agg [.list [.agg [(iN 3), (.str [120,48]), .list [], (.str [97])], m6_1]]]], .agg [(.str [120,48]), .list [], m6_4], .agg [(.str [120,49]), .list [], m6_6]]]
def N6_30 : T := .agg [.list [m6_2, .agg [(.str [120,48]), .list [], .list [.agg [.list [m6_3]], .agg [.list [.agg [(iN 2), (.str [97,98]), .list [], (.str [110])], m6_0]]]], .agg [(.str [120,49]), .list [], m6_6]]]
def N6_31 : T := .agg [.list [m6_2, .agg [(.str [120,48]), .list [], m6_4], .agg [(.str [120,49]), .list [], .list [.agg [.list [.agg [(iN 1), (.str [49]), .list [], (.str [81])]]], .agg [.nils]]]]]
def N6_32 : T := .agg [.list [m6_2, .agg [(.str [120,48]), .list [], .list [.agg [.list [.agg [(iN 2), (.str [97,98]), .list [], (.str [110])]]], .agg [.list [m6_3, m6_0]]]], .agg [(.str [120,49]), .list [], m6_6]]]
def N6_33 : T := .agg [.list [.agg [(.str [120,48]), .list [], m6_4], .agg [(.str [120,49]), .list [], m6_6]]]
def NN6 : List T := [N6_0, N6_1, N6_2, N6_3, N6_4, N6_5, N6_6, N6_7, N6_8, N6_9, N6_10, N6_11, N6_12, N6_13, N6_14, N6_15, N6_16, N6_17, N6_18, N6_19, N6_20, N6_21, N6_22, N6_23, N6_24, N6_25, N6_26, N6_27, N6_28, N6_29, N6_30, N6_31, N6_32, N6_33]
def PP6 : List (List Nat) := [[0, 1, 2, 3, 4, 5, 6, 7, 8, 9, 10, 11], [12, 13, 14], [15, 16, 17], [18, 19, 20, 21, 22, 23], [24, 25, 26, 24, 27, 28], [29, 30, 31, 29, 32, 3], [33], [3]]
theorem chk6 : ∀ o b1 b2 b3, qcg (csOf (rowsOf NN6 PP6)) (.agg [.list (.agg [.str [83], .list [], Az6] :: G6)]) o b1 b2 b3 = some (.bool true) := by
 intro o b1 b2 b3
 kernel_rfl
theorem nn6 : allN NN6 = some (.bool true) := by kernel_rfl
theorem any6 : AnyG qhm (.agg [.list (.agg [.str [83], .list [], Az6] :: G6)]) := qdo rfl (by decide) nn6 chk6
end X
