/- A part of the proof. No statement of the claim is in it. -/
import Derived.Test.YtojpedmanjlnlaaGreatA
import Derived.Test.YtojpedmanjlnlaaGreatTpG1
open Go Go.V Go.Proofs
namespace X
set_option maxRecDepth 100000
set_option maxHeartbeats 4000000
def m5_0 : T := .agg [(iN 3), (.str [83]), .list [], (.str [])]
def m5_1 : T := .agg [(iN 1), (.str [97]), .list [], (.str [])]
def m5_2 : T := .list [.agg [.list [m5_0, m5_0]], .agg [.list [m5_1]], .agg [.nils]]
def N5_0 : T := .agg [.list [.agg [(.str []), .list [], m5_2]]]
def N5_1 : T := .agg [.list [.agg [(.str [49,97]), .list [], m5_2]]]
def N5_2 : T := .agg [.list [.agg [(.str [84,111,111,108,111,110,103]), .list [], m5_2]]]
def N5_3 : T := .agg [.list [.agg [(.str [83]), .list [], m5_2]]]
def N5_4 : T := .agg [.list [.agg [(.str [83]), .list [.agg [(.str [97])]], m5_2]]]
def N5_5 : T := .agg [.list [.agg [(.str [83]), .list [.agg [(.str [122,122])]], m5_2]]]
def N5_6 : T := .agg [.list [.agg [(.str [83]), .list [.agg [(.str [66])]], m5_2]]]
def N5_7 : T := .agg [.list [.agg [(.str [83]), .list [], .list []]]]
def N5_8 : T := .agg [.list [.agg [(.str [83]), .list [], .list [.agg [.list [m5_0, m5_0, .agg [(iN 0), (.str [120]), .nils, (.str [])]]], .agg [.list [m5_1]], .agg [.nils]]]]]
def N5_9 : T := .agg [.list [.agg [(.str [83]), .list [], .list [.agg [.list [m5_0, m5_0]], .agg [.list [m5_1, .agg [(iN 1), (.str [120]), .nils, (.str [])]]], .agg [.nils]]]]]
def N5_10 : T := .agg [.list [.agg [(.str [83]), .list [], .list [.agg [.list [m5_0, m5_0]], .agg [.list [m5_1]], .agg [.list [.agg [(iN 2), (.str [120]), .nils, (.str [])]]]]]]]
def N5_11 : T := .agg [.list [.agg [(.str [83]), .list [], .list [.agg [.list [m5_0, m5_0, .agg [(iN 3), (.str [120]), .nils, (.str [])]]], .agg [.list [m5_1]], .agg [.nils]]]]]
def N5_12 : T := .agg [.list [.agg [(.str [83]), .list [], .list [.agg [.list [m5_0, m5_0]], .agg [.list [m5_1, .agg [(iN 4), (.str [120]), .nils, (.str [])]]], .agg [.nils]]]]]
def N5_13 : T := .agg [.list [.agg [(.str [83]), .list [], .list [.agg [.list [m5_0, m5_0]], .agg [.list [m5_1]], .agg [.list [.agg [(iN 5), (.str [120]), .nils, (.str [])]]]]]]]
def N5_14 : T := .agg [.list [.agg [(.str [83]), .list [], .list [.agg [.list [m5_0, m5_0, .agg [(iN 4), (.str []), .list [.agg [.list [.agg [(iN 2), (iN 0), (.str [97]), .nils]]]], (.str [])]]], .agg [.list [m5_1]], .agg [.nils]]]]]
def N5_15 : T := .agg [.list [.agg [(.str [83]), .list [], .list [.agg [.list [m5_0, m5_0]], .agg [.list [m5_1, .agg [(iN 4), (.str []), .list [.agg [.list [.agg [(iN 2), (iN 0), (.str [110]), .nils]]]], (.str [])]]], .agg [.nils]]]]]
def N5_16 : T := .agg [.list [.agg [(.str [83]), .list [], .list [.agg [.list [m5_0, m5_0]], .agg [.list [m5_1]], .agg [.list [.agg [(iN 4), (.str []), .list [.agg [.list [.agg [(iN 2), (iN 0), (.str [113]), .nils]]]], (.str [])]]]]]]]
def N5_17 : T := .agg [.list [.agg [(.str [83]), .list [], .list [.agg [.list [.agg [(iN 3), (.str [83]), .list [], (.str [97])], m5_0]], .agg [.list [m5_1]], .agg [.nils]]]]]
def N5_18 : T := .agg [.list [.agg [(.str [83]), .list [], .list [.agg [.list [m5_0, m5_0]], .agg [.list [.agg [(iN 1), (.str [97]), .list [], (.str [110])]]], .agg [.nils]]]]]
def N5_19 : T := .agg [.list []]
def NN5 : List T := [N5_0, N5_1, N5_2, N5_3, N5_4, N5_5, N5_6, N5_7, N5_8, N5_9, N5_10, N5_11, N5_12, N5_13, N5_14, N5_15, N5_16, N5_17, N5_18, N5_19]
def PP5 : List (List Nat) := [[0, 1, 2, 3], [4, 5, 6], [7], [8, 9, 10, 11, 12, 13], [14, 15, 16], [17, 18, 3], [19], [3]]
theorem chk5 : ∀ o b1 b2 b3, qcg (csOf (rowsOf NN5 PP5)) (.agg [.list (.agg [.str [83], .list [], Az5] :: G5)]) o b1 b2 b3 = some (.bool true) := by
 intro o b1 b2 b3
 kernel_rfl
theorem nn5 : allN NN5 = some (.bool true) := by kernel_rfl
theorem any5 : AnyG qhm (.agg [.list (.agg [.str [83], .list [], Az5] :: G5)]) := qdo rfl (by decide) nn5 chk5
end X
