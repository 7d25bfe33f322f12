/- A part of the proof. No statement of the claim is in it. -/
import Derived.Test.YtojpedmanjlnlaaGreatA
import Derived.Test.YtojpedmanjlnlaaGreatTpG2
open Go Go.V Go.Proofs
namespace X
set_option maxRecDepth 100000
set_option maxHeartbeats 4000000
def m9_0 : T := .agg [(iN 3), (.str [65]), .list [], (.str [110])]
def m9_1 : T := .agg [(iN 3), (.str [65]), .list [], (.str [109])]
def m9_2 : T := .agg [(iN 2), (iN 0), (.str [110]), .list []]
def m9_3 : T := .agg [(iN 2), (iN 0), (.str [109]), .list []]
def m9_4 : T := .list [.agg [(iN 0)], .agg [(iN 1)]]
def m9_5 : T := .agg [(iN 9), (iN 0), (.str []), m9_4]
def m9_6 : T := .agg [(iN 4), (.str []), .list [.agg [.list [m9_2, m9_3, m9_5]]], (.str [])]
def m9_7 : T := .agg [(.str [83]), .list [], .list [.agg [.list [m9_0, m9_1, m9_6]]]]
def m9_8 : T := .agg [(iN 3), (.str [120,48]), .list [], (.str [])]
def m9_9 : T := .agg [(.str [65]), .list [], .list [.agg [.list [m9_8]]]]
def q0t : T := .agg [(iN 1), (.str [97]), .list [], (.str [])]
def qdz : T := .list [.agg [.nils], .agg [.list [q0t, m9_8]]]
def N9_0 : T := .agg [.list [.agg [(.str []), .list [], .list [.agg [.list [m9_0, m9_1, m9_6]]]], m9_9, .agg [(.str [120,48]), .list [], qdz]]]
def N9_1 : T := .agg [.list [m9_7, .agg [(.str [49,97]), .list [], .list [.agg [.list [m9_8]]]], .agg [(.str [120,48]), .list [], qdz]]]
def N9_2 : T := .agg [.list [m9_7, m9_9, .agg [(.str [84,111,111,108,111,110,103]), .list [], qdz]]]
def N9_3 : T := .agg [.list [m9_7, m9_9, .agg [(.str [120,48]), .list [], qdz]]]
def N9_4 : T := .agg [.list [m9_7, .agg [(.str []), .list [], .list [.agg [.list [m9_8]]]], .agg [(.str [120,48]), .list [], qdz]]]
def N9_5 : T := .agg [.list [m9_7, m9_9, .agg [(.str [49,97]), .list [], qdz]]]
def N9_6 : T := .agg [.list [.agg [(.str [84,111,111,108,111,110,103]), .list [], .list [.agg [.list [m9_0, m9_1, m9_6]]]], m9_9, .agg [(.str [120,48]), .list [], qdz]]]
def N9_7 : T := .agg [.list [m9_7, .agg [(.str [83]), .list [], .list [.agg [.list [m9_8]]]], .agg [(.str [120,48]), .list [], qdz]]]
def N9_8 : T := .agg [.list [m9_7, m9_9, .agg [(.str []), .list [], qdz]]]
def N9_9 : T := .agg [.list [.agg [(.str [49,97]), .list [], .list [.agg [.list [m9_0, m9_1, m9_6]]]], m9_9, .agg [(.str [120,48]), .list [], qdz]]]
def N9_10 : T := .agg [.list [m9_7, .agg [(.str [84,111,111,108,111,110,103]), .list [], .list [.agg [.list [m9_8]]]], .agg [(.str [120,48]), .list [], qdz]]]
def N9_11 : T := .agg [.list [m9_7, m9_9, .agg [(.str [83]), .list [], qdz]]]
def N9_12 : T := .agg [.list [.agg [(.str [83]), .list [.agg [(.str [97])]], .list [.agg [.list [m9_0, m9_1, m9_6]]]], m9_9, .agg [(.str [120,48]), .list [], qdz]]]
def N9_13 : T := .agg [.list [m9_7, .agg [(.str [65]), .list [.agg [(.str [122,122])]], .list [.agg [.list [m9_8]]]], .agg [(.str [120,48]), .list [], qdz]]]
def N9_14 : T := .agg [.list [m9_7, m9_9, .agg [(.str [120,48]), .list [.agg [(.str [66])]], qdz]]]
def N9_15 : T := .agg [.list [.agg [(.str [83]), .list [], .list []], m9_9, .agg [(.str [120,48]), .list [], qdz]]]
def N9_16 : T := .agg [.list [m9_7, .agg [(.str [65]), .list [], .list []], .agg [(.str [120,48]), .list [], qdz]]]
def N9_17 : T := .agg [.list [m9_7, m9_9, .agg [(.str [120,48]), .list [], .list []]]]
def N9_18 : T := .agg [.list [.agg [(.str [83]), .list [], .list [.agg [.list [m9_0, m9_1, m9_6, .agg [(iN 0), (.str [120]), .nils, (.str [])]]]]], m9_9, .agg [(.str [120,48]), .list [], qdz]]]
def N9_19 : T := .agg [.list [m9_7, .agg [(.str [65]), .list [], .list [.agg [.list [m9_8, .agg [(iN 1), (.str [120]), .nils, (.str [])]]]]], .agg [(.str [120,48]), .list [], qdz]]]
def N9_20 : T := .agg [.list [m9_7, m9_9, .agg [(.str [120,48]), .list [], .list [.agg [.list [.agg [(iN 2), (.str [120]), .nils, (.str [])]]], .agg [.list [q0t, m9_8]]]]]]
def N9_21 : T := .agg [.list [.agg [(.str [83]), .list [], .list [.agg [.list [m9_0, m9_1, m9_6, .agg [(iN 3), (.str [120]), .nils, (.str [])]]]]], m9_9, .agg [(.str [120,48]), .list [], qdz]]]
def N9_22 : T := .agg [.list [m9_7, .agg [(.str [65]), .list [], .list [.agg [.list [m9_8, .agg [(iN 4), (.str [120]), .nils, (.str [])]]]]], .agg [(.str [120,48]), .list [], qdz]]]
def N9_23 : T := .agg [.list [m9_7, m9_9, .agg [(.str [120,48]), .list [], .list [.agg [.nils], .agg [.list [q0t, m9_8, .agg [(iN 5), (.str [120]), .nils, (.str [])]]]]]]]
def N9_24 : T := .agg [.list [.agg [(.str [83]), .list [], .list [.agg [.list [m9_0, m9_1, m9_6, .agg [(iN 4), (.str []), .list [.agg [.list [.agg [(iN 2), (iN 0), (.str [97]), .nils]]]], (.str [])]]]]], m9_9, .agg [(.str [120,48]), .list [], qdz]]]
def N9_25 : T := .agg [.list [m9_7, .agg [(.str [65]), .list [], .list [.agg [.list [m9_8, .agg [(iN 4), (.str []), .list [.agg [.list [.agg [(iN 2), (iN 0), (.str [110]), .nils]]]], (.str [])]]]]], .agg [(.str [120,48]), .list [], qdz]]]
def N9_26 : T := .agg [.list [m9_7, m9_9, .agg [(.str [120,48]), .list [], .list [.agg [.list [.agg [(iN 4), (.str []), .list [.agg [.list [.agg [(iN 2), (iN 0), (.str [113]), .nils]]]], (.str [])]]], .agg [.list [q0t, m9_8]]]]]]
def N9_27 : T := .agg [.list [m9_7, m9_9, .agg [(.str [120,48]), .list [], .list [.agg [.nils], .agg [.list [q0t, m9_8, .agg [(iN 4), (.str []), .list [.agg [.list [.agg [(iN 2), (iN 0), (.str [113]), .nils]]]], (.str [])]]]]]]]
def N9_28 : T := .agg [.list [.agg [(.str [83]), .list [], .list [.agg [.list [.agg [(iN 3), (.str [65]), .list [], (.str [97])], m9_1, m9_6]]]], m9_9, .agg [(.str [120,48]), .list [], qdz]]]
def N9_29 : T := .agg [.list [m9_7, .agg [(.str [65]), .list [], .list [.agg [.list [.agg [(iN 3), (.str [120,48]), .list [], (.str [110])]]]]], .agg [(.str [120,48]), .list [], qdz]]]
def N9_30 : T := .agg [.list [m9_7, m9_9, .agg [(.str [120,48]), .list [], .list [.agg [.nils], .agg [.list [.agg [(iN 1), (.str [97]), .list [], (.str [81])], m9_8]]]]]]
def N9_31 : T := .agg [.list [m9_9, .agg [(.str [120,48]), .list [], qdz]]]
def NN9 : List T := [N9_0, N9_1, N9_2, N9_3, N9_4, N9_5, N9_6, N9_7, N9_8, N9_9, N9_10, N9_11, N9_12, N9_13, N9_14, N9_15, N9_16, N9_17, N9_18, N9_19, N9_20, N9_21, N9_22, N9_23, N9_24, N9_25, N9_26, N9_27, N9_28, N9_29, N9_30, N9_31]
def PP9 : List (List Nat) := [[0, 1, 2, 3, 4, 5, 6, 7, 8, 9, 10, 11], [12, 13, 14], [15, 16, 17], [18, 19, 20, 21, 22, 23], [24, 25, 26, 24, 25, 27], [28, 29, 3, 28, 29, 30], [31], [3]]
theorem chk9 : ∀ o b1 b2 b3, qcg (csOf (rowsOf NN9 PP9)) (.agg [.list (.agg [.str [83], .list [], Az9] :: G9)]) o b1 b2 b3 = some (.bool true) := by
 intro o b1 b2 b3
 kernel_rfl
theorem nn9 : allN NN9 = some (.bool true) := by kernel_rfl
theorem any9 : AnyG qhm (.agg [.list (.agg [.str [83], .list [], Az9] :: G9)]) := qdo rfl (by decide) nn9 chk9
end X
