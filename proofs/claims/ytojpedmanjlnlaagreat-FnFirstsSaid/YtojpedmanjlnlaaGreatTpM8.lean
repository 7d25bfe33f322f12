/- A part of the proof. No statement of the claim is in it. -/
import Derived.Test.YtojpedmanjlnlaaGreatA
import Derived.Test.YtojpedmanjlnlaaGreatTpG2
open Go Go.V Go.Proofs
namespace X
set_option maxRecDepth 100000
set_option maxHeartbeats 4000000
def m8_0 : T := .agg [(iN 1), (iN 0), (.str []), .list []]
def m8_1 : T := .agg [(iN 3), (.str [80]), .list [.agg [.list [m8_0]]], (.str [])]
def m8_2 : T := .agg [(.str [83]), .list [], .list [.agg [.list [m8_1]]]]
def m8_3 : T := .agg [(iN 2), (iN 0), (.str [100]), .list []]
def m8_4 : T := .agg [(iN 3), (.str [120,48]), .list [.agg [.list [m8_3]]], (.str [])]
def m8_5 : T := .agg [(iN 1), (iN 2), (.str []), .list []]
def m8_6 : T := .list [.agg [(iN 0)], .agg [(iN 1)]]
def m8_7 : T := .agg [(iN 9), (iN 0), (.str []), m8_6]
def m8_8 : T := .agg [(iN 4), (.str []), .list [.agg [.list [m8_3, m8_5, m8_7]]], (.str [])]
def m8_9 : T := .agg [(iN 1), (.str [97]), .list [], (.str [])]
def qxy : T := .list [.agg [.list [m8_4]], .agg [.list [m8_8, m8_9]]]
def qev : T := .agg [(.str [80]), .list [.agg [(.str [100])]], qxy]
def q2k : T := .agg [(iN 1), (.str [40]), .list [], (.str [])]
def m8_13 : T := .agg [(iN 1), (iN 1), (.str []), .list []]
def m8_14 : T := .agg [(iN 4), (iN 0), (.str []), m8_6]
def m8_15 : T := .list [.agg [.list [m8_3, m8_13, m8_14]]]
def qyc : T := .agg [(iN 3), (.str [80]), m8_15, (.str [])]
def qxj : T := .agg [(iN 1), (.str [41]), .list [], (.str [])]
def qww : T := .list [.agg [.nils], .agg [.list [q2k, qyc, qxj, m8_4]]]
def qeq : T := .agg [(.str [120,48]), .list [.agg [(.str [100])]], qww]
def N8_0 : T := .agg [.list [.agg [(.str []), .list [], .list [.agg [.list [m8_1]]]], qev, qeq]]
def N8_1 : T := .agg [.list [m8_2, .agg [(.str [49,97]), .list [.agg [(.str [100])]], qxy], qeq]]
def N8_2 : T := .agg [.list [m8_2, qev, .agg [(.str [84,111,111,108,111,110,103]), .list [.agg [(.str [100])]], qww]]]
def N8_3 : T := .agg [.list [m8_2, qev, qeq]]
def N8_4 : T := .agg [.list [m8_2, .agg [(.str []), .list [.agg [(.str [100])]], qxy], qeq]]
def N8_5 : T := .agg [.list [m8_2, qev, .agg [(.str [49,97]), .list [.agg [(.str [100])]], qww]]]
def N8_6 : T := .agg [.list [.agg [(.str [84,111,111,108,111,110,103]), .list [], .list [.agg [.list [m8_1]]]], qev, qeq]]
def N8_7 : T := .agg [.list [m8_2, .agg [(.str [83]), .list [.agg [(.str [100])]], qxy], qeq]]
def N8_8 : T := .agg [.list [m8_2, qev, .agg [(.str []), .list [.agg [(.str [100])]], qww]]]
def N8_9 : T := .agg [.list [.agg [(.str [49,97]), .list [], .list [.agg [.list [m8_1]]]], qev, qeq]]
def N8_10 : T := .agg [.list [m8_2, .agg [(.str [84,111,111,108,111,110,103]), .list [.agg [(.str [100])]], qxy], qeq]]
def N8_11 : T := .agg [.list [m8_2, qev, .agg [(.str [83]), .list [.agg [(.str [100])]], qww]]]
def N8_12 : T := .agg [.list [.agg [(.str [83]), .list [.agg [(.str [97])]], .list [.agg [.list [m8_1]]]], qev, qeq]]
def N8_13 : T := .agg [.list [m8_2, .agg [(.str [80]), .list [.agg [(.str [100])], .agg [(.str [122,122])]], qxy], qeq]]
def N8_14 : T := .agg [.list [m8_2, qev, .agg [(.str [120,48]), .list [.agg [(.str [100])], .agg [(.str [66])]], qww]]]
def N8_15 : T := .agg [.list [.agg [(.str [83]), .list [], .list []], qev, qeq]]
def N8_16 : T := .agg [.list [m8_2, .agg [(.str [80]), .list [.agg [(.str [100])]], .list []], qeq]]
def N8_17 : T := .agg [.list [m8_2, qev, .agg [(.str [120,48]), .list [.agg [(.str [100])]], .list []]]]
def N8_18 : T := .agg [.list [.agg [(.str [83]), .list [], .list [.agg [.list [m8_1, .agg [(iN 0), (.str [120]), .nils, (.str [])]]]]], qev, qeq]]
def N8_19 : T := .agg [.list [m8_2, .agg [(.str [80]), .list [.agg [(.str [100])]], .list [.agg [.list [m8_4]], .agg [.list [m8_8, m8_9, .agg [(iN 1), (.str [120]), .nils, (.str [])]]]]], qeq]]
def N8_20 : T := .agg [.list [m8_2, qev, .agg [(.str [120,48]), .list [.agg [(.str [100])]], .list [.agg [.list [.agg [(iN 2), (.str [120]), .nils, (.str [])]]], .agg [.list [q2k, qyc, qxj, m8_4]]]]]]
def N8_21 : T := .agg [.list [.agg [(.str [83]), .list [], .list [.agg [.list [m8_1, .agg [(iN 3), (.str [120]), .nils, (.str [])]]]]], qev, qeq]]
def N8_22 : T := .agg [.list [m8_2, .agg [(.str [80]), .list [.agg [(.str [100])]], .list [.agg [.list [m8_4, .agg [(iN 4), (.str [120]), .nils, (.str [])]]], .agg [.list [m8_8, m8_9]]]], qeq]]
def N8_23 : T := .agg [.list [m8_2, qev, .agg [(.str [120,48]), .list [.agg [(.str [100])]], .list [.agg [.nils], .agg [.list [q2k, qyc, qxj, m8_4, .agg [(iN 5), (.str [120]), .nils, (.str [])]]]]]]]
def N8_24 : T := .agg [.list [.agg [(.str [83]), .list [], .list [.agg [.list [m8_1, .agg [(iN 4), (.str []), .list [.agg [.list [.agg [(iN 2), (iN 0), (.str [97]), .nils]]]], (.str [])]]]]], qev, qeq]]
def N8_25 : T := .agg [.list [m8_2, .agg [(.str [80]), .list [.agg [(.str [100])]], .list [.agg [.list [m8_4]], .agg [.list [m8_8, m8_9, .agg [(iN 4), (.str []), .list [.agg [.list [.agg [(iN 2), (iN 0), (.str [110]), .nils]]]], (.str [])]]]]], qeq]]
def N8_26 : T := .agg [.list [m8_2, qev, .agg [(.str [120,48]), .list [.agg [(.str [100])]], .list [.agg [.list [.agg [(iN 4), (.str []), .list [.agg [.list [.agg [(iN 2), (iN 0), (.str [113]), .nils]]]], (.str [])]]], .agg [.list [q2k, qyc, qxj, m8_4]]]]]]
def N8_27 : T := .agg [.list [m8_2, .agg [(.str [80]), .list [.agg [(.str [100])]], .list [.agg [.list [m8_4, .agg [(iN 4), (.str []), .list [.agg [.list [.agg [(iN 2), (iN 0), (.str [110]), .nils]]]], (.str [])]]], .agg [.list [m8_8, m8_9]]]], qeq]]
def N8_28 : T := .agg [.list [m8_2, qev, .agg [(.str [120,48]), .list [.agg [(.str [100])]], .list [.agg [.nils], .agg [.list [q2k, qyc, qxj, m8_4, .agg [(iN 4), (.str []), .list [.agg [.list [.agg [(iN 2), (iN 0), (.str [113]), .nils]]]], (.str [])]]]]]]]
def N8_29 : T := .agg [.list [.agg [(.str [83]), .list [], .list [.agg [.list [.agg [(iN 3), (.str [80]), .list [.agg [.list [m8_0]]], (.str [97])]]]]], qev, qeq]]
def N8_30 : T := .agg [.list [m8_2, .agg [(.str [80]), .list [.agg [(.str [100])]], .list [.agg [.list [m8_4]], .agg [.list [.agg [(iN 4), (.str []), .list [.agg [.list [m8_3, m8_5, m8_7]]], (.str [110])], m8_9]]]], qeq]]
def N8_31 : T := .agg [.list [m8_2, .agg [(.str [80]), .list [.agg [(.str [100])]], .list [.agg [.list [.agg [(iN 3), (.str [120,48]), .list [.agg [.list [m8_3]]], (.str [110])]]], .agg [.list [m8_8, m8_9]]]], qeq]]
def N8_32 : T := .agg [.list [m8_2, qev, .agg [(.str [120,48]), .list [.agg [(.str [100])]], .list [.agg [.nils], .agg [.list [.agg [(iN 1), (.str [40]), .list [], (.str [81])], qyc, qxj, m8_4]]]]]]
def N8_33 : T := .agg [.list [qev, qeq]]
def NN8 : List T := [N8_0, N8_1, N8_2, N8_3, N8_4, N8_5, N8_6, N8_7, N8_8, N8_9, N8_10, N8_11, N8_12, N8_13, N8_14, N8_15, N8_16, N8_17, N8_18, N8_19, N8_20, N8_21, N8_22, N8_23, N8_24, N8_25, N8_26, N8_27, N8_28, N8_29, N8_30, N8_31, N8_32, N8_33]
def PP8 : List (List Nat) := [[0, 1, 2, 3, 4, 5, 6, 7, 8, 9, 10, 11], [12, 13, 14], [15, 16, 17], [18, 19, 20, 21, 22, 23], [24, 25, 26, 24, 27, 28], [29, 30, 3, 29, 31, 32], [33], [3]]
theorem chk8 : ∀ o b1 b2 b3, qcg (csOf (rowsOf NN8 PP8)) (.agg [.list (.agg [.str [83], .list [], Az8] :: G8)]) o b1 b2 b3 = some (.bool true) := by
 intro o b1 b2 b3
 kernel_rfl
theorem nn8 : allN NN8 = some (.bool true) := by kernel_rfl
theorem any8 : AnyG qhm (.agg [.list (.agg [.str [83], .list [], Az8] :: G8)]) := qdo rfl (by decide) nn8 chk8
end X
