/- A part of the proof. No statement of the claim is in it. -/
import Derived.Test.YtojpedmanjlnlaaGreatA
import Derived.Test.YtojpedmanjlnlaaGreatTpG0
open Go Go.V Go.Proofs
namespace X
set_option maxRecDepth 100000
set_option maxHeartbeats 4000000
def m2_0 : T := .agg [(iN 3), (.str [78]), .list [], (.str [110])]
def m2_1 : T := .agg [(iN 1), (.str [58]), .list [], (.str [])]
def m2_2 : T := .agg [(iN 2), (iN 0), (.str [110]), .list []]
def m2_3 : T := .agg [(iN 3), (.str [66]), .list [.agg [.list [m2_2]]], (.str [])]
def m2_4 : T := .agg [(.str [83]), .list [], .list [.agg [.list [m2_0, m2_1, m2_3]]]]
def m2_5 : T := .agg [(iN 2), (.str [48,45,57]), .list [], (.str [])]
def m2_6 : T := .agg [(.str [78]), .list [], .list [.agg [.list [m2_5]]]]
def m2_7 : T := .agg [(iN 2), (iN 0), (.str [107]), .list []]
def m2_8 : T := .agg [(iN 1), (iN 0), (.str []), .list []]
def m2_9 : T := .list [.agg [(iN 0)], .agg [(iN 1)]]
def m2_10 : T := .agg [(iN 9), (iN 0), (.str []), m2_9]
def qya : T := .agg [(iN 4), (.str []), .list [.agg [.list [m2_7, m2_8, m2_10]]], (.str [])]
def m2_12 : T := .agg [(iN 8), (iN 0), (.str []), m2_9]
def qyt : T := .agg [(iN 4), (.str []), .list [.agg [.list [m2_8, m2_7, m2_12]]], (.str [])]
def quf : T := .agg [(iN 2), (.str [97,98]), .list [], (.str [])]
def m2_15 : T := .agg [(iN 1), (iN 1), (.str []), .list []]
def m2_16 : T := .agg [(iN 5), (iN 0), (.str []), m2_9]
def m2_17 : T := .list [.agg [.list [m2_7, m2_15, m2_16]]]
def qup : T := .agg [(iN 3), (.str [66]), m2_17, (.str [])]
def qxx : T := .list [.agg [.list [qya]], .agg [.list [qyt, quf, qup]]]
def qfb : T := .agg [(.str [66]), .list [.agg [(.str [107])]], qxx]
def N2_0 : T := .agg [.list [.agg [(.str []), .list [], .list [.agg [.list [m2_0, m2_1, m2_3]]]], m2_6, qfb]]
def N2_1 : T := .agg [.list [m2_4, .agg [(.str [49,97]), .list [], .list [.agg [.list [m2_5]]]], qfb]]
def N2_2 : T := .agg [.list [m2_4, m2_6, .agg [(.str [84,111,111,108,111,110,103]), .list [.agg [(.str [107])]], qxx]]]
def N2_3 : T := .agg [.list [m2_4, m2_6, qfb]]
def N2_4 : T := .agg [.list [m2_4, .agg [(.str []), .list [], .list [.agg [.list [m2_5]]]], qfb]]
def N2_5 : T := .agg [.list [m2_4, m2_6, .agg [(.str [49,97]), .list [.agg [(.str [107])]], qxx]]]
def N2_6 : T := .agg [.list [.agg [(.str [84,111,111,108,111,110,103]), .list [], .list [.agg [.list [m2_0, m2_1, m2_3]]]], m2_6, qfb]]
def N2_7 : T := .agg [.list [m2_4, .agg [(.str [83]), .list [], .list [.agg [.list [m2_5]]]], qfb]]
def N2_8 : T := .agg [.list [m2_4, m2_6, .agg [(.str []), .list [.agg [(.str [107])]], qxx]]]
def N2_9 : T := .agg [.list [.agg [(.str [49,97]), .list [], .list [.agg [.list [m2_0, m2_1, m2_3]]]], m2_6, qfb]]
def N2_10 : T := .agg [.list [m2_4, .agg [(.str [84,111,111,108,111,110,103]), .list [], .list [.agg [.list [m2_5]]]], qfb]]
def N2_11 : T := .agg [.list [m2_4, m2_6, .agg [(.str [83]), .list [.agg [(.str [107])]], qxx]]]
def N2_12 : T := .agg [.list [.agg [(.str [83]), .list [.agg [(.str [97])]], .list [.agg [.list [m2_0, m2_1, m2_3]]]], m2_6, qfb]]
def N2_13 : T := .agg [.list [m2_4, .agg [(.str [78]), .list [.agg [(.str [122,122])]], .list [.agg [.list [m2_5]]]], qfb]]
def N2_14 : T := .agg [.list [m2_4, m2_6, .agg [(.str [66]), .list [.agg [(.str [107])], .agg [(.str [66])]], qxx]]]
def N2_15 : T := .agg [.list [.agg [(.str [83]), .list [], .list []], m2_6, qfb]]
def N2_16 : T := .agg [.list [m2_4, .agg [(.str [78]), .list [], .list []], qfb]]
def N2_17 : T := .agg [.list [m2_4, m2_6, .agg [(.str [66]), .list [.agg [(.str [107])]], .list []]]]
def N2_18 : T := .agg [.list [.agg [(.str [83]), .list [], .list [.agg [.list [m2_0, m2_1, m2_3, .agg [(iN 0), (.str [120]), .nils, (.str [])]]]]], m2_6, qfb]]
def N2_19 : T := .agg [.list [m2_4, .agg [(.str [78]), .list [], .list [.agg [.list [m2_5, .agg [(iN 1), (.str [120]), .nils, (.str [])]]]]], qfb]]
def N2_20 : T := .agg [.list [m2_4, m2_6, .agg [(.str [66]), .list [.agg [(.str [107])]], .list [.agg [.list [qya, .agg [(iN 2), (.str [120]), .nils, (.str [])]]], .agg [.list [qyt, quf, qup]]]]]]
def N2_21 : T := .agg [.list [.agg [(.str [83]), .list [], .list [.agg [.list [m2_0, m2_1, m2_3, .agg [(iN 3), (.str [120]), .nils, (.str [])]]]]], m2_6, qfb]]
def N2_22 : T := .agg [.list [m2_4, .agg [(.str [78]), .list [], .list [.agg [.list [m2_5, .agg [(iN 4), (.str [120]), .nils, (.str [])]]]]], qfb]]
def N2_23 : T := .agg [.list [m2_4, m2_6, .agg [(.str [66]), .list [.agg [(.str [107])]], .list [.agg [.list [qya]], .agg [.list [qyt, quf, qup, .agg [(iN 5), (.str [120]), .nils, (.str [])]]]]]]]
def N2_24 : T := .agg [.list [.agg [(.str [83]), .list [], .list [.agg [.list [m2_0, m2_1, m2_3, .agg [(iN 4), (.str []), .list [.agg [.list [.agg [(iN 2), (iN 0), (.str [97]), .nils]]]], (.str [])]]]]], m2_6, qfb]]
def N2_25 : T := .agg [.list [m2_4, .agg [(.str [78]), .list [], .list [.agg [.list [m2_5, .agg [(iN 4), (.str []), .list [.agg [.list [.agg [(iN 2), (iN 0), (.str [110]), .nils]]]], (.str [])]]]]], qfb]]
def N2_26 : T := .agg [.list [m2_4, m2_6, .agg [(.str [66]), .list [.agg [(.str [107])]], .list [.agg [.list [qya, .agg [(iN 4), (.str []), .list [.agg [.list [.agg [(iN 2), (iN 0), (.str [113]), .nils]]]], (.str [])]]], .agg [.list [qyt, quf, qup]]]]]]
def N2_27 : T := .agg [.list [m2_4, m2_6, .agg [(.str [66]), .list [.agg [(.str [107])]], .list [.agg [.list [qya]], .agg [.list [qyt, quf, qup, .agg [(iN 4), (.str []), .list [.agg [.list [.agg [(iN 2), (iN 0), (.str [113]), .nils]]]], (.str [])]]]]]]]
def N2_28 : T := .agg [.list [.agg [(.str [83]), .list [], .list [.agg [.list [.agg [(iN 3), (.str [78]), .list [], (.str [97])], m2_1, m2_3]]]], m2_6, qfb]]
def N2_29 : T := .agg [.list [m2_4, .agg [(.str [78]), .list [], .list [.agg [.list [.agg [(iN 2), (.str [48,45,57]), .list [], (.str [110])]]]]], qfb]]
def N2_30 : T := .agg [.list [m2_4, m2_6, .agg [(.str [66]), .list [.agg [(.str [107])]], .list [.agg [.list [.agg [(iN 4), (.str []), .list [.agg [.list [m2_7, m2_8, m2_10]]], (.str [81])]]], .agg [.list [qyt, quf, qup]]]]]]
def N2_31 : T := .agg [.list [m2_4, m2_6, .agg [(.str [66]), .list [.agg [(.str [107])]], .list [.agg [.list [qya]], .agg [.list [.agg [(iN 4), (.str []), .list [.agg [.list [m2_8, m2_7, m2_12]]], (.str [81])], quf, qup]]]]]]
def N2_32 : T := .agg [.list [m2_6, qfb]]
def NN2 : List T := [N2_0, N2_1, N2_2, N2_3, N2_4, N2_5, N2_6, N2_7, N2_8, N2_9, N2_10, N2_11, N2_12, N2_13, N2_14, N2_15, N2_16, N2_17, N2_18, N2_19, N2_20, N2_21, N2_22, N2_23, N2_24, N2_25, N2_26, N2_27, N2_28, N2_29, N2_30, N2_31, N2_32]
def PP2 : List (List Nat) := [[0, 1, 2, 3, 4, 5, 6, 7, 8, 9, 10, 11], [12, 13, 14], [15, 16, 17], [18, 19, 20, 21, 22, 23], [24, 25, 26, 24, 25, 27], [28, 29, 30, 28, 29, 31], [32], [3]]
theorem chk2 : ∀ o b1 b2 b3, qcg (csOf (rowsOf NN2 PP2)) (.agg [.list (.agg [.str [83], .list [], Az2] :: G2)]) o b1 b2 b3 = some (.bool true) := by
 intro o b1 b2 b3
 kernel_rfl
theorem nn2 : allN NN2 = some (.bool true) := by kernel_rfl
theorem any2 : AnyG qhm (.agg [.list (.agg [.str [83], .list [], Az2] :: G2)]) := qdo rfl (by decide) nn2 chk2
end X
