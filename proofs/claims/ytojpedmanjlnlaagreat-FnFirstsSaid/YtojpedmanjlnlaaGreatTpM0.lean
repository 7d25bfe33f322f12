/- A part of the proof. No statement of the claim is in it. -/
import Derived.Test.YtojpedmanjlnlaaGreatA
import Derived.Test.YtojpedmanjlnlaaGreatTpG0
open Go Go.V Go.Proofs
namespace X
set_option maxRecDepth 100000
set_option maxHeartbeats 4000000
def m0_0 : T := .agg [(iN 1), (.str [97]), .list [], (.str [])]
def m0_1 : T := .agg [(iN 3), (.str [83]), .list [], (.str [])]
def m0_2 : T := .agg [(iN 1), (.str [98]), .list [], (.str [])]
def m0_3 : T := .list [.agg [.list [m0_0, m0_1, m0_2]], .agg [.nils]]
def N0_0 : T := .agg [.list [.agg [(.str []), .list [], m0_3]]]
def N0_1 : T := .agg [.list [.agg [(.str [49,97]), .list [], m0_3]]]
def N0_2 : T := .agg [.list [.agg [(.str [84,111,111,108,111,110,103]), .list [], m0_3]]]
def N0_3 : T := .agg [.list [.agg [(.str [83]), .list [], m0_3]]]
def N0_4 : T := .agg [.list [.agg [(.str [83]), .list [.agg [(.str [97])]], m0_3]]]
def N0_5 : T := .agg [.list [.agg [(.str [83]), .list [.agg [(.str [122,122])]], m0_3]]]
def N0_6 : T := .agg [.list [.agg [(.str [83]), .list [.agg [(.str [66])]], m0_3]]]
def N0_7 : T := .agg [.list [.agg [(.str [83]), .list [], .list []]]]
def N0_8 : T := .agg [.list [.agg [(.str [83]), .list [], .list [.agg [.list [m0_0, m0_1, m0_2, .agg [(iN 0), (.str [120]), .nils, (.str [])]]], .agg [.nils]]]]]
def N0_9 : T := .agg [.list [.agg [(.str [83]), .list [], .list [.agg [.list [m0_0, m0_1, m0_2]], .agg [.list [.agg [(iN 1), (.str [120]), .nils, (.str [])]]]]]]]
def N0_10 : T := .agg [.list [.agg [(.str [83]), .list [], .list [.agg [.list [m0_0, m0_1, m0_2, .agg [(iN 2), (.str [120]), .nils, (.str [])]]], .agg [.nils]]]]]
def N0_11 : T := .agg [.list [.agg [(.str [83]), .list [], .list [.agg [.list [m0_0, m0_1, m0_2]], .agg [.list [.agg [(iN 3), (.str [120]), .nils, (.str [])]]]]]]]
def N0_12 : T := .agg [.list [.agg [(.str [83]), .list [], .list [.agg [.list [m0_0, m0_1, m0_2, .agg [(iN 4), (.str [120]), .nils, (.str [])]]], .agg [.nils]]]]]
def N0_13 : T := .agg [.list [.agg [(.str [83]), .list [], .list [.agg [.list [m0_0, m0_1, m0_2]], .agg [.list [.agg [(iN 5), (.str [120]), .nils, (.str [])]]]]]]]
def N0_14 : T := .agg [.list [.agg [(.str [83]), .list [], .list [.agg [.list [m0_0, m0_1, m0_2, .agg [(iN 4), (.str []), .list [.agg [.list [.agg [(iN 2), (iN 0), (.str [97]), .nils]]]], (.str [])]]], .agg [.nils]]]]]
def N0_15 : T := .agg [.list [.agg [(.str [83]), .list [], .list [.agg [.list [m0_0, m0_1, m0_2]], .agg [.list [.agg [(iN 4), (.str []), .list [.agg [.list [.agg [(iN 2), (iN 0), (.str [110]), .nils]]]], (.str [])]]]]]]]
def N0_16 : T := .agg [.list [.agg [(.str [83]), .list [], .list [.agg [.list [m0_0, m0_1, m0_2, .agg [(iN 4), (.str []), .list [.agg [.list [.agg [(iN 2), (iN 0), (.str [113]), .nils]]]], (.str [])]]], .agg [.nils]]]]]
def N0_17 : T := .agg [.list [.agg [(.str [83]), .list [], .list [.agg [.list [m0_0, m0_1, m0_2]], .agg [.list [.agg [(iN 4), (.str []), .list [.agg [.list [.agg [(iN 2), (iN 0), (.str [97]), .nils]]]], (.str [])]]]]]]]
def N0_18 : T := .agg [.list [.agg [(.str [83]), .list [], .list [.agg [.list [m0_0, m0_1, m0_2, .agg [(iN 4), (.str []), .list [.agg [.list [.agg [(iN 2), (iN 0), (.str [110]), .nils]]]], (.str [])]]], .agg [.nils]]]]]
def N0_19 : T := .agg [.list [.agg [(.str [83]), .list [], .list [.agg [.list [m0_0, m0_1, m0_2]], .agg [.list [.agg [(iN 4), (.str []), .list [.agg [.list [.agg [(iN 2), (iN 0), (.str [113]), .nils]]]], (.str [])]]]]]]]
def N0_20 : T := .agg [.list [.agg [(.str [83]), .list [], .list [.agg [.list [.agg [(iN 1), (.str [97]), .list [], (.str [97])], m0_1, m0_2]], .agg [.nils]]]]]
def N0_21 : T := .agg [.list [.agg [(.str [83]), .list [], .list [.agg [.list [.agg [(iN 1), (.str [97]), .list [], (.str [81])], m0_1, m0_2]], .agg [.nils]]]]]
def N0_22 : T := .agg [.list [.agg [(.str [83]), .list [], .list [.agg [.list [.agg [(iN 1), (.str [97]), .list [], (.str [110])], m0_1, m0_2]], .agg [.nils]]]]]
def N0_23 : T := .agg [.list []]
def NN0 : List T := [N0_0, N0_1, N0_2, N0_3, N0_4, N0_5, N0_6, N0_7, N0_8, N0_9, N0_10, N0_11, N0_12, N0_13, N0_14, N0_15, N0_16, N0_17, N0_18, N0_19, N0_20, N0_21, N0_22, N0_23]
def PP0 : List (List Nat) := [[0, 1, 2, 3], [4, 5, 6], [7], [8, 9, 10, 11, 12, 13], [14, 15, 16, 17, 18, 19], [20, 3, 21, 3, 22, 3], [23], [3]]
theorem chk0 : ∀ o b1 b2 b3, qcg (csOf (rowsOf NN0 PP0)) (.agg [.list (.agg [.str [83], .list [], Az0] :: G0)]) o b1 b2 b3 = some (.bool true) := by
 intro o b1 b2 b3
 kernel_rfl
theorem nn0 : allN NN0 = some (.bool true) := by kernel_rfl
theorem any0 : AnyG qhm (.agg [.list (.agg [.str [83], .list [], Az0] :: G0)]) := qdo rfl (by decide) nn0 chk0
end X
