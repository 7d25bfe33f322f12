/- A part of the proof. No statement of the claim is in it. -/
import Derived.Test.YtojpedmanjlnlaaGreatA
import Derived.Test.YtojpedmanjlnlaaGreatTpG3
open Go Go.V Go.Proofs
namespace X
set_option maxRecDepth 100000
set_option maxHeartbeats 4000000
def m12_0 : T := .agg [(iN 1), (iN 3), (.str []), .list []]
def qln : T := .agg [(iN 3), (.str [67]), .list [.agg [.list [m12_0]]], (.str [])]
def qhk : T := .agg [(.str [83]), .list [], .list [.agg [.list [qln]]]]
def qqg : T := .agg [(iN 1), (.str [97]), .list [], (.str [])]
def m12_4 : T := .agg [(iN 2), (iN 0), (.str [110]), .list []]
def m12_5 : T := .agg [(iN 1), (iN 2), (.str []), .list []]
def m12_6 : T := .list [.agg [(iN 0)], .agg [(iN 1)]]
def m12_7 : T := .agg [(iN 7), (iN 0), (.str []), m12_6]
def m12_8 : T := .list [.agg [.list [m12_4, m12_5, m12_7]]]
def qom : T := .agg [(iN 3), (.str [67]), m12_8, (.str [])]
def m12_10 : T := .agg [(iN 1), (iN 0), (.str []), .list []]
def m12_11 : T := .agg [(iN 9), (iN 0), (.str []), m12_6]
def m12_12 : T := .list [.agg [.list [m12_4, m12_10, m12_11]]]
def qij : T := .agg [(iN 4), (.str []), m12_12, (.str [])]
def m12_14 : T := .agg [(iN 1), (iN 9), (.str []), .list []]
def m12_15 : T := .agg [(iN 6), (iN 0), (.str []), m12_6]
def m12_16 : T := .list [.agg [.list [m12_4, m12_14, m12_15]]]
def qiy : T := .agg [(iN 3), (.str [67]), m12_16, (.str [])]
def qpg : T := .list [.agg [.list [qqg, qom]], .agg [.list [qij]], .agg [.list [qiy]]]
def qeb : T := .agg [(.str [67]), .list [.agg [(.str [110])]], qpg]
def N12_0 : T := .agg [.list [.agg [(.str []), .list [], .list [.agg [.list [qln]]]], qeb]]
def N12_1 : T := .agg [.list [qhk, .agg [(.str [49,97]), .list [.agg [(.str [110])]], qpg]]]
def N12_2 : T := .agg [.list [.agg [(.str [84,111,111,108,111,110,103]), .list [], .list [.agg [.list [qln]]]], qeb]]
def N12_3 : T := .agg [.list [qhk, .agg [(.str [83]), .list [.agg [(.str [110])]], qpg]]]
def N12_4 : T := .agg [.list [.agg [(.str [83]), .list [.agg [(.str [97])]], .list [.agg [.list [qln]]]], qeb]]
def N12_5 : T := .agg [.list [qhk, .agg [(.str [67]), .list [.agg [(.str [110])], .agg [(.str [122,122])]], qpg]]]
def N12_6 : T := .agg [.list [.agg [(.str [83]), .list [.agg [(.str [66])]], .list [.agg [.list [qln]]]], qeb]]
def N12_7 : T := .agg [.list [qhk, .agg [(.str [67]), .list [.agg [(.str [110])], .agg [(.str [97])]], qpg]]]
def N12_8 : T := .agg [.list [.agg [(.str [83]), .list [.agg [(.str [122,122])]], .list [.agg [.list [qln]]]], qeb]]
def N12_9 : T := .agg [.list [qhk, .agg [(.str [67]), .list [.agg [(.str [110])], .agg [(.str [66])]], qpg]]]
def N12_10 : T := .agg [.list [.agg [(.str [83]), .list [], .list []], qeb]]
def N12_11 : T := .agg [.list [qhk, .agg [(.str [67]), .list [.agg [(.str [110])]], .list []]]]
def N12_12 : T := .agg [.list [.agg [(.str [83]), .list [], .list [.agg [.list [qln, .agg [(iN 0), (.str [120]), .nils, (.str [])]]]]], qeb]]
def N12_13 : T := .agg [.list [qhk, .agg [(.str [67]), .list [.agg [(.str [110])]], .list [.agg [.list [qqg, qom]], .agg [.list [qij, .agg [(iN 1), (.str [120]), .nils, (.str [])]]], .agg [.list [qiy]]]]]]
def N12_14 : T := .agg [.list [.agg [(.str [83]), .list [], .list [.agg [.list [qln, .agg [(iN 2), (.str [120]), .nils, (.str [])]]]]], qeb]]
def N12_15 : T := .agg [.list [qhk, .agg [(.str [67]), .list [.agg [(.str [110])]], .list [.agg [.list [qqg, qom, .agg [(iN 3), (.str [120]), .nils, (.str [])]]], .agg [.list [qij]], .agg [.list [qiy]]]]]]
def N12_16 : T := .agg [.list [.agg [(.str [83]), .list [], .list [.agg [.list [qln, .agg [(iN 4), (.str [120]), .nils, (.str [])]]]]], qeb]]
def N12_17 : T := .agg [.list [qhk, .agg [(.str [67]), .list [.agg [(.str [110])]], .list [.agg [.list [qqg, qom]], .agg [.list [qij]], .agg [.list [qiy, .agg [(iN 5), (.str [120]), .nils, (.str [])]]]]]]]
def N12_18 : T := .agg [.list [.agg [(.str [83]), .list [], .list [.agg [.list [qln, .agg [(iN 4), (.str []), .list [.agg [.list [.agg [(iN 2), (iN 0), (.str [97]), .nils]]]], (.str [])]]]]], qeb]]
def N12_19 : T := .agg [.list [qhk, .agg [(.str [67]), .list [.agg [(.str [110])]], .list [.agg [.list [qqg, qom]], .agg [.list [qij, .agg [(iN 4), (.str []), .list [.agg [.list [.agg [(iN 2), (iN 0), (.str [110]), .nils]]]], (.str [])]]], .agg [.list [qiy]]]]]]
def N12_20 : T := .agg [.list [.agg [(.str [83]), .list [], .list [.agg [.list [qln, .agg [(iN 4), (.str []), .list [.agg [.list [.agg [(iN 2), (iN 0), (.str [113]), .nils]]]], (.str [])]]]]], qeb]]
def N12_21 : T := .agg [.list [qhk, .agg [(.str [67]), .list [.agg [(.str [110])]], .list [.agg [.list [qqg, qom, .agg [(iN 4), (.str []), .list [.agg [.list [.agg [(iN 2), (iN 0), (.str [97]), .nils]]]], (.str [])]]], .agg [.list [qij]], .agg [.list [qiy]]]]]]
def N12_22 : T := .agg [.list [.agg [(.str [83]), .list [], .list [.agg [.list [qln, .agg [(iN 4), (.str []), .list [.agg [.list [.agg [(iN 2), (iN 0), (.str [110]), .nils]]]], (.str [])]]]]], qeb]]
def N12_23 : T := .agg [.list [qhk, .agg [(.str [67]), .list [.agg [(.str [110])]], .list [.agg [.list [qqg, qom]], .agg [.list [qij]], .agg [.list [qiy, .agg [(iN 4), (.str []), .list [.agg [.list [.agg [(iN 2), (iN 0), (.str [113]), .nils]]]], (.str [])]]]]]]]
def N12_24 : T := .agg [.list [.agg [(.str [83]), .list [], .list [.agg [.list [.agg [(iN 3), (.str [67]), .list [.agg [.list [m12_0]]], (.str [97])]]]]], qeb]]
def N12_25 : T := .agg [.list [qhk, .agg [(.str [67]), .list [.agg [(.str [110])]], .list [.agg [.list [qqg, qom]], .agg [.list [.agg [(iN 4), (.str []), m12_12, (.str [110])]]], .agg [.list [qiy]]]]]]
def N12_26 : T := .agg [.list [.agg [(.str [83]), .list [], .list [.agg [.list [.agg [(iN 3), (.str [67]), .list [.agg [.list [m12_0]]], (.str [81])]]]]], qeb]]
def N12_27 : T := .agg [.list [qhk, .agg [(.str [67]), .list [.agg [(.str [110])]], .list [.agg [.list [.agg [(iN 1), (.str [97]), .list [], (.str [97])], qom]], .agg [.list [qij]], .agg [.list [qiy]]]]]]
def N12_28 : T := .agg [.list [.agg [(.str [83]), .list [], .list [.agg [.list [.agg [(iN 3), (.str [67]), .list [.agg [.list [m12_0]]], (.str [110])]]]]], qeb]]
def N12_29 : T := .agg [.list [qhk, .agg [(.str [67]), .list [.agg [(.str [110])]], .list [.agg [.list [qqg, qom]], .agg [.list [qij]], .agg [.list [.agg [(iN 3), (.str [67]), m12_16, (.str [81])]]]]]]]
def N12_30 : T := .agg [.list [qeb]]
def N12_31 : T := .agg [.list [qhk, qeb]]
def NN12 : List T := [N12_0, N12_1, N12_2, N12_3, N12_4, N12_5, N12_6, N12_7, N12_8, N12_9, N12_10, N12_11, N12_12, N12_13, N12_14, N12_15, N12_16, N12_17, N12_18, N12_19, N12_20, N12_21, N12_22, N12_23, N12_24, N12_25, N12_26, N12_27, N12_28, N12_29, N12_30, N12_31]
def PP12 : List (List Nat) := [[0, 1, 2, 3], [4, 5, 6, 7, 8, 9], [10, 11], [12, 13, 14, 15, 16, 17], [18, 19, 20, 21, 22, 23], [24, 25, 26, 27, 28, 29], [30], [31]]
theorem chk12 : ∀ o b1 b2 b3, qcg (csOf (rowsOf NN12 PP12)) (.agg [.list (.agg [.str [83], .list [], Az12] :: G12)]) o b1 b2 b3 = some (.bool true) := by
 intro o b1 b2 b3
 kernel_rfl
theorem nn12 : allN NN12 = some (.bool true) := by kernel_rfl
theorem any12 : AnyG qhm (.agg [.list (.agg [.str [83], .list [], Az12] :: G12)]) := qdo rfl (by decide) nn12 chk12
end X
