/- A part of the proof. No statement of the claim is in it. -/
import Derived.Test.YtojpedmanjlnlaaGreatA
import Derived.Test.YtojpedmanjlnlaaGreatTpG0
open Go Go.V Go.Proofs
namespace X
set_option maxRecDepth 100000
set_option maxHeartbeats 4000000
def m3_0 : T := .agg [(iN 3), (.str [120,48]), .list [], (.str [])]
def m3_1 : T := .agg [(iN 1), (.str [97]), .list [], (.str [])]
def m3_2 : T := .agg [(.str [83]), .list [], .list [.agg [.list [m3_0, m3_1]]]]
def m3_3 : T := .agg [(iN 1), (.str [98]), .list [], (.str [])]
def m3_4 : T := .list [.agg [.nils], .agg [.list [m3_1, m3_0]], .agg [.list [m3_3, m3_0]]]
def N3_0 : T := .agg [.list [.agg [(.str []), .list [], .list [.agg [.list [m3_0, m3_1]]]], .agg [(.str [120,48]), .list [], m3_4]]]
def N3_1 : T := .agg [.list [m3_2, .agg [(.str [49,97]), .list [], m3_4]]]
def N3_2 : T := .agg [.list [.agg [(.str [84,111,111,108,111,110,103]), .list [], .list [.agg [.list [m3_0, m3_1]]]], .agg [(.str [120,48]), .list [], m3_4]]]
def N3_3 : T := .agg [.list [m3_2, .agg [(.str [83]), .list [], m3_4]]]
def N3_4 : T := .agg [.list [.agg [(.str [83]), .list [.agg [(.str [97])]], .list [.agg [.list [m3_0, m3_1]]]], .agg [(.str [120,48]), .list [], m3_4]]]
def N3_5 : T := .agg [.list [m3_2, .agg [(.str [120,48]), .list [.agg [(.str [122,122])]], m3_4]]]
def N3_6 : T := .agg [.list [.agg [(.str [83]), .list [.agg [(.str [66])]], .list [.agg [.list [m3_0, m3_1]]]], .agg [(.str [120,48]), .list [], m3_4]]]
def N3_7 : T := .agg [.list [m3_2, .agg [(.str [120,48]), .list [.agg [(.str [97])]], m3_4]]]
def N3_8 : T := .agg [.list [.agg [(.str [83]), .list [.agg [(.str [122,122])]], .list [.agg [.list [m3_0, m3_1]]]], .agg [(.str [120,48]), .list [], m3_4]]]
def N3_9 : T := .agg [.list [m3_2, .agg [(.str [120,48]), .list [.agg [(.str [66])]], m3_4]]]
def N3_10 : T := .agg [.list [.agg [(.str [83]), .list [], .list []], .agg [(.str [120,48]), .list [], m3_4]]]
def N3_11 : T := .agg [.list [m3_2, .agg [(.str [120,48]), .list [], .list []]]]
def N3_12 : T := .agg [.list [.agg [(.str [83]), .list [], .list [.agg [.list [m3_0, m3_1, .agg [(iN 0), (.str [120]), .nils, (.str [])]]]]], .agg [(.str [120,48]), .list [], m3_4]]]
def N3_13 : T := .agg [.list [m3_2, .agg [(.str [120,48]), .list [], .list [.agg [.nils], .agg [.list [m3_1, m3_0, .agg [(iN 1), (.str [120]), .nils, (.str [])]]], .agg [.list [m3_3, m3_0]]]]]]
def N3_14 : T := .agg [.list [.agg [(.str [83]), .list [], .list [.agg [.list [m3_0, m3_1, .agg [(iN 2), (.str [120]), .nils, (.str [])]]]]], .agg [(.str [120,48]), .list [], m3_4]]]
def N3_15 : T := .agg [.list [m3_2, .agg [(.str [120,48]), .list [], .list [.agg [.list [.agg [(iN 3), (.str [120]), .nils, (.str [])]]], .agg [.list [m3_1, m3_0]], .agg [.list [m3_3, m3_0]]]]]]
def N3_16 : T := .agg [.list [.agg [(.str [83]), .list [], .list [.agg [.list [m3_0, m3_1, .agg [(iN 4), (.str [120]), .nils, (.str [])]]]]], .agg [(.str [120,48]), .list [], m3_4]]]
def N3_17 : T := .agg [.list [m3_2, .agg [(.str [120,48]), .list [], .list [.agg [.nils], .agg [.list [m3_1, m3_0]], .agg [.list [m3_3, m3_0, .agg [(iN 5), (.str [120]), .nils, (.str [])]]]]]]]
def N3_18 : T := .agg [.list [.agg [(.str [83]), .list [], .list [.agg [.list [m3_0, m3_1, .agg [(iN 4), (.str []), .list [.agg [.list [.agg [(iN 2), (iN 0), (.str [97]), .nils]]]], (.str [])]]]]], .agg [(.str [120,48]), .list [], m3_4]]]
def N3_19 : T := .agg [.list [m3_2, .agg [(.str [120,48]), .list [], .list [.agg [.nils], .agg [.list [m3_1, m3_0, .agg [(iN 4), (.str []), .list [.agg [.list [.agg [(iN 2), (iN 0), (.str [110]), .nils]]]], (.str [])]]], .agg [.list [m3_3, m3_0]]]]]]
def N3_20 : T := .agg [.list [.agg [(.str [83]), .list [], .list [.agg [.list [m3_0, m3_1, .agg [(iN 4), (.str []), .list [.agg [.list [.agg [(iN 2), (iN 0), (.str [113]), .nils]]]], (.str [])]]]]], .agg [(.str [120,48]), .list [], m3_4]]]
def N3_21 : T := .agg [.list [m3_2, .agg [(.str [120,48]), .list [], .list [.agg [.list [.agg [(iN 4), (.str []), .list [.agg [.list [.agg [(iN 2), (iN 0), (.str [97]), .nils]]]], (.str [])]]], .agg [.list [m3_1, m3_0]], .agg [.list [m3_3, m3_0]]]]]]
def N3_22 : T := .agg [.list [.agg [(.str [83]), .list [], .list [.agg [.list [m3_0, m3_1, .agg [(iN 4), (.str []), .list [.agg [.list [.agg [(iN 2), (iN 0), (.str [110]), .nils]]]], (.str [])]]]]], .agg [(.str [120,48]), .list [], m3_4]]]
def N3_23 : T := .agg [.list [m3_2, .agg [(.str [120,48]), .list [], .list [.agg [.nils], .agg [.list [m3_1, m3_0]], .agg [.list [m3_3, m3_0, .agg [(iN 4), (.str []), .list [.agg [.list [.agg [(iN 2), (iN 0), (.str [113]), .nils]]]], (.str [])]]]]]]]
def N3_24 : T := .agg [.list [.agg [(.str [83]), .list [], .list [.agg [.list [.agg [(iN 3), (.str [120,48]), .list [], (.str [97])], m3_1]]]], .agg [(.str [120,48]), .list [], m3_4]]]
def N3_25 : T := .agg [.list [m3_2, .agg [(.str [120,48]), .list [], .list [.agg [.nils], .agg [.list [.agg [(iN 1), (.str [97]), .list [], (.str [110])], m3_0]], .agg [.list [m3_3, m3_0]]]]]]
def N3_26 : T := .agg [.list [.agg [(.str [83]), .list [], .list [.agg [.list [.agg [(iN 3), (.str [120,48]), .list [], (.str [81])], m3_1]]]], .agg [(.str [120,48]), .list [], m3_4]]]
def N3_27 : T := .agg [.list [m3_2, .agg [(.str [120,48]), .list [], m3_4]]]
def N3_28 : T := .agg [.list [.agg [(.str [83]), .list [], .list [.agg [.list [.agg [(iN 3), (.str [120,48]), .list [], (.str [110])], m3_1]]]], .agg [(.str [120,48]), .list [], m3_4]]]
def N3_29 : T := .agg [.list [m3_2, .agg [(.str [120,48]), .list [], .list [.agg [.nils], .agg [.list [m3_1, m3_0]], .agg [.list [.agg [(iN 1), (.str [98]), .list [], (.str [81])], m3_0]]]]]]
def N3_30 : T := .agg [.list [.agg [(.str [120,48]), .list [], m3_4]]]
def NN3 : List T := [N3_0, N3_1, N3_2, N3_3, N3_4, N3_5, N3_6, N3_7, N3_8, N3_9, N3_10, N3_11, N3_12, N3_13, N3_14, N3_15, N3_16, N3_17, N3_18, N3_19, N3_20, N3_21, N3_22, N3_23, N3_24, N3_25, N3_26, N3_27, N3_28, N3_29, N3_30]
def PP3 : List (List Nat) := [[0, 1, 2, 3], [4, 5, 6, 7, 8, 9], [10, 11], [12, 13, 14, 15, 16, 17], [18, 19, 20, 21, 22, 23], [24, 25, 26, 27, 28, 29], [30], [27]]
theorem chk3 : ∀ o b1 b2 b3, qcg (csOf (rowsOf NN3 PP3)) (.agg [.list (.agg [.str [83], .list [], Az3] :: G3)]) o b1 b2 b3 = some (.bool true) := by
 intro o b1 b2 b3
 kernel_rfl
theorem nn3 : allN NN3 = some (.bool true) := by kernel_rfl
theorem any3 : AnyG qhm (.agg [.list (.agg [.str [83], .list [], Az3] :: G3)]) := qdo rfl (by decide) nn3 chk3
end X
