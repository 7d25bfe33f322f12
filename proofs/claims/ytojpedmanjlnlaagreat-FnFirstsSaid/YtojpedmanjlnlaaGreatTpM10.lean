/- A part of the proof. No statement of the claim is in it. -/
import Derived.Test.YtojpedmanjlnlaaGreatA
import Derived.Test.YtojpedmanjlnlaaGreatTpG2
open Go Go.V Go.Proofs
namespace X
set_option maxRecDepth 100000
set_option maxHeartbeats 4000000
def m10_0 : T := .agg [(iN 3), (iN 0), (.str []), .list []]
def m10_1 : T := .agg [(iN 1), (iN 0), (.str []), .list []]
def m10_2 : T := .list [.agg [(iN 0)], .agg [(iN 1)]]
def m10_3 : T := .agg [(iN 9), (iN 0), (.str []), m10_2]
def m10_4 : T := .list [.agg [.list [m10_0, m10_1, m10_3]]]
def qrk : T := .agg [(iN 4), (.str []), m10_4, (.str [])]
def qie : T := .agg [(iN 3), (.str [120,48]), .list [], (.str [])]
def qei : T := .agg [(.str [83]), .list [], .list [.agg [.list [qrk, qie]]]]
def qzz : T := .agg [(iN 1), (.str [97]), .list [], (.str [])]
def qzf : T := .agg [(iN 3), (.str [120,49]), .list [], (.str [])]
def qbu : T := .list [.agg [.nils], .agg [.list [qzz, qzf, qie]]]
def qox : T := .agg [(iN 1), (.str [98]), .list [], (.str [])]
def m10_12 : T := .agg [(iN 1), (iN 3), (.str []), .list []]
def m10_13 : T := .agg [(iN 8), (iN 0), (.str []), m10_2]
def m10_14 : T := .list [.agg [.list [m10_0, m10_12, m10_13]]]
def qpo : T := .agg [(iN 4), (.str []), m10_14, (.str [])]
def qbw : T := .list [.agg [.list [qox]], .agg [.list [qpo]]]
def N10_0 : T := .agg [.list [.agg [(.str []), .list [], .list [.agg [.list [qrk, qie]]]], .agg [(.str [120,48]), .list [], qbu], .agg [(.str [120,49]), .list [], qbw]]]
def N10_1 : T := .agg [.list [qei, .agg [(.str [49,97]), .list [], qbu], .agg [(.str [120,49]), .list [], qbw]]]
def N10_2 : T := .agg [.list [qei, .agg [(.str [120,48]), .list [], qbu], .agg [(.str [84,111,111,108,111,110,103]), .list [], qbw]]]
def N10_3 : T := .agg [.list [qei, .agg [(.str [120,48]), .list [], qbu], .agg [(.str [120,49]), .list [], qbw]]]
def N10_4 : T := .agg [.list [qei, .agg [(.str []), .list [], qbu], .agg [(.str [120,49]), .list [], qbw]]]
def N10_5 : T := .agg [.list [qei, .agg [(.str [120,48]), .list [], qbu], .agg [(.str [49,97]), .list [], qbw]]]
def N10_6 : T := .agg [.list [.agg [(.str [84,111,111,108,111,110,103]), .list [], .list [.agg [.list [qrk, qie]]]], .agg [(.str [120,48]), .list [], qbu], .agg [(.str [120,49]), .list [], qbw]]]
def N10_7 : T := .agg [.list [qei, .agg [(.str [83]), .list [], qbu], .agg [(.str [120,49]), .list [], qbw]]]
def N10_8 : T := .agg [.list [qei, .agg [(.str [120,48]), .list [], qbu], .agg [(.str []), .list [], qbw]]]
def N10_9 : T := .agg [.list [.agg [(.str [49,97]), .list [], .list [.agg [.list [qrk, qie]]]], .agg [(.str [120,48]), .list [], qbu], .agg [(.str [120,49]), .list [], qbw]]]
def N10_10 : T := .agg [.list [qei, .agg [(.str [84,111,111,108,111,110,103]), .list [], qbu], .agg [(.str [120,49]), .list [], qbw]]]
def N10_11 : T := .agg [.list [qei, .agg [(.str [120,48]), .list [], qbu], .agg [(.str [83]), .list [], qbw]]]
def N10_12 : T := .agg [.list [.agg [(.str [83]), .list [.agg [(.str [97])]], .list [.agg [.list [qrk, qie]]]], .agg [(.str [120,48]), .list [], qbu], .agg [(.str [120,49]), .list [], qbw]]]
def N10_13 : T := .agg [.list [qei, .agg [(.str [120,48]), .list [.agg [(.str [122,122])]], qbu], .agg [(.str [120,49]), .list [], qbw]]]
def N10_14 : T := .agg [.list [qei, .agg [(.str [120,48]), .list [], qbu], .agg [(.str [120,49]), .list [.agg [(.str [66])]], qbw]]]
def N10_15 : T := .agg [.list [.agg [(.str [83]), .list [], .list []], .agg [(.str [120,48]), .list [], qbu], .agg [(.str [120,49]), .list [], qbw]]]
def N10_16 : T := .agg [.list [qei, .agg [(.str [120,48]), .list [], .list []], .agg [(.str [120,49]), .list [], qbw]]]
def N10_17 : T := .agg [.list [qei, .agg [(.str [120,48]), .list [], qbu], .agg [(.str [120,49]), .list [], .list []]]]
def N10_18 : T := .agg [.list [.agg [(.str [83]), .list [], .list [.agg [.list [qrk, qie, .agg [(iN 0), (.str [120]), .nils, (.str [])]]]]], .agg [(.str [120,48]), .list [], qbu], .agg [(.str [120,49]), .list [], qbw]]]
def N10_19 : T := .agg [.list [qei, .agg [(.str [120,48]), .list [], .list [.agg [.nils], .agg [.list [qzz, qzf, qie, .agg [(iN 1), (.str [120]), .nils, (.str [])]]]]], .agg [(.str [120,49]), .list [], qbw]]]
def N10_20 : T := .agg [.list [qei, .agg [(.str [120,48]), .list [], qbu], .agg [(.str [120,49]), .list [], .list [.agg [.list [qox, .agg [(iN 2), (.str [120]), .nils, (.str [])]]], .agg [.list [qpo]]]]]]
def N10_21 : T := .agg [.list [.agg [(.str [83]), .list [], .list [.agg [.list [qrk, qie, .agg [(iN 3), (.str [120]), .nils, (.str [])]]]]], .agg [(.str [120,48]), .list [], qbu], .agg [(.str [120,49]), .list [], qbw]]]
def N10_22 : T := .agg [.list [qei, .agg [(.str [120,48]), .list [], .list [.agg [.list [.agg [(iN 4), (.str [120]), .nils, (.str [])]]], .agg [.list [qzz, qzf, qie]]]], .agg [(.str [120,49]), .list [], qbw]]]
def N10_23 : T := .agg [.list [qei, .agg [(.str [120,48]), .list [], qbu], .agg [(.str [120,49]), .list [], .list [.agg [.list [qox]], .agg [.list [qpo, .agg [(iN 5), (.str [120]), .nils, (.str [])]]]]]]]
def N10_24 : T := .agg [.list [.agg [(.str [83]), .list [], .list [.agg [.list [qrk, qie, .agg [(iN 4), (.str []), .list [.agg [.list [.agg [(iN 2), (iN 0), (.str [97]), .nils]]]], (.str [])]]]]], .agg [(.str [120,48]), .list [], qbu], .agg [(.str [120,49]), .list [], qbw]]]
def N10_25 : T := .agg [.list [qei, .agg [(.str [120,48]), .list [], .list [.agg [.nils], .agg [.list [qzz, qzf, qie, .agg [(iN 4), (.str []), .list [.agg [.list [.agg [(iN 2), (iN 0), (.str [110]), .nils]]]], (.str [])]]]]], .agg [(.str [120,49]), .list [], qbw]]]
def N10_26 : T := .agg [.list [qei, .agg [(.str [120,48]), .list [], qbu], .agg [(.str [120,49]), .list [], .list [.agg [.list [qox, .agg [(iN 4), (.str []), .list [.agg [.list [.agg [(iN 2), (iN 0), (.str [113]), .nils]]]], (.str [])]]], .agg [.list [qpo]]]]]]
def N10_27 : T := .agg [.list [qei, .agg [(.str [120,48]), .list [], .list [.agg [.list [.agg [(iN 4), (.str []), .list [.agg [.list [.agg [(iN 2), (iN 0), (.str [110]), .nils]]]], (.str [])]]], .agg [.list [qzz, qzf, qie]]]], .agg [(.str [120,49]), .list [], qbw]]]
def N10_28 : T := .agg [.list [qei, .agg [(.str [120,48]), .list [], qbu], .agg [(.str [120,49]), .list [], .list [.agg [.list [qox]], .agg [.list [qpo, .agg [(iN 4), (.str []), .list [.agg [.list [.agg [(iN 2), (iN 0), (.str [113]), .nils]]]], (.str [])]]]]]]]
def N10_29 : T := .agg [.list [.agg [(.str [83]), .list [], .list [.agg [.list [.agg [(iN 4), (.str []), m10_4, (.str [97])], qie]]]], .agg [(.str [120,48]), .list [], qbu], .agg [(.str [120,49]), .list [], qbw]]]
def N10_30 : T := .agg [.list [qei, .agg [(.str [120,48]), .list [], .list [.agg [.nils], .agg [.list [.agg [(iN 1), (.str [97]), .list [], (.str [110])], qzf, qie]]]], .agg [(.str [120,49]), .list [], qbw]]]
def N10_31 : T := .agg [.list [qei, .agg [(.str [120,48]), .list [], qbu], .agg [(.str [120,49]), .list [], .list [.agg [.list [.agg [(iN 1), (.str [98]), .list [], (.str [81])]]], .agg [.list [qpo]]]]]]
def N10_32 : T := .agg [.list [qei, .agg [(.str [120,48]), .list [], qbu], .agg [(.str [120,49]), .list [], .list [.agg [.list [qox]], .agg [.list [.agg [(iN 4), (.str []), m10_14, (.str [81])]]]]]]]
def N10_33 : T := .agg [.list [.agg [(.str [120,48]), .list [], qbu], .agg [(.str [120,49]), .list [], qbw]]]
def NN10 : List T := [N10_0, N10_1, N10_2, N10_3, N10_4, N10_5, N10_6, N10_7, N10_8, N10_9, N10_10, N10_11, N10_12, N10_13, N10_14, N10_15, N10_16, N10_17, N10_18, N10_19, N10_20, N10_21, N10_22, N10_23, N10_24, N10_25, N10_26, N10_27, N10_28, N10_29, N10_30, N10_31, N10_32, N10_33]
def PP10 : List (List Nat) := [[0, 1, 2, 3, 4, 5, 6, 7, 8, 9, 10, 11], [12, 13, 14], [15, 16, 17], [18, 19, 20, 21, 22, 23], [24, 25, 26, 24, 27, 28], [29, 30, 31, 29, 3, 32], [33], [3]]
theorem chk10 : ∀ o b1 b2 b3, qcg (csOf (rowsOf NN10 PP10)) (.agg [.list (.agg [.str [83], .list [], Az10] :: G10)]) o b1 b2 b3 = some (.bool true) := by
 intro o b1 b2 b3
 kernel_rfl
theorem nn10 : allN NN10 = some (.bool true) := by kernel_rfl
theorem any10 : AnyG qhm (.agg [.list (.agg [.str [83], .list [], Az10] :: G10)]) := qdo rfl (by decide) nn10 chk10
end X
