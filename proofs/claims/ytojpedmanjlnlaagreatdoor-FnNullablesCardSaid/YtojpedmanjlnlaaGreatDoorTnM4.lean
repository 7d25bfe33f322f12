/- A part of the proof. No statement of the claim is in it. -/
import Derived.Test.YtojpedmanjlnlaaGreatDoorTnP1
open Go Go.V Go.Proofs
namespace X
set_option maxRecDepth 100000
set_option maxHeartbeats 4000000
set_option linter.all false
def m4_0 : T := .agg [(iN 1), (iN 0), (.str []), .list []]
def m4_1 : T := .agg [(iN 3), (.str [69]), .list [.agg [.list [m4_0]]], (.str [])]
def m4_2 : T := .agg [(.str [83]), .list [], .list [.agg [.list [m4_1]]]]
def m4_3 : T := .agg [(iN 1), (iN 1), (.str []), .list []]
def m4_4 : T := .agg [(iN 2), (iN 0), (.str [112]), .list []]
def m4_5 : T := .list [.agg [(iN 0)], .agg [(iN 1)]]
def m4_6 : T := .agg [(iN 8), (iN 0), (.str []), m4_5]
def m4_7 : T := .agg [(iN 11), (iN 0), (.str []), .list [.agg [(iN 2)]]]
def m4_8 : T := .list [.agg [.list [m4_3, m4_4, m4_6, m4_7]]]
def m4_9 : T := .agg [(iN 4), (.str []), m4_8, (.str [])]
def m4_10 : T := .agg [(iN 3), (.str [69]), .list [.agg [.list [m4_3]]], (.str [])]
def m4_11 : T := .agg [(iN 1), (.str [43]), .list [], (.str [])]
def m4_12 : T := .agg [(iN 1), (iN 2), (.str []), .list []]
def m4_13 : T := .agg [(iN 3), (.str [69]), .list [.agg [.list [m4_12]]], (.str [])]
def m4_14 : T := .agg [(iN 2), (.str [48,45,57]), .list [], (.str [])]
def m4_15 : T := .agg [(iN 1), (.str [40]), .list [], (.str [])]
def m4_16 : T := .agg [(iN 1), (.str [41]), .list [], (.str [])]
def m4_17 : T := .list [.agg [.list [m4_9, m4_10, m4_11, m4_13]], .agg [.list [m4_14]], .agg [.list [m4_15, m4_1, m4_16]]]
def m4_18 : T := .agg [(.str [69]), .list [.agg [(.str [112])]], m4_17]
def WW4 : List T := [.agg [.list [.agg [(.str []), .list [], .list [.agg [.list [m4_1]]]], m4_18]], .agg [.list [m4_2, .agg [(.str [49,97]), .list [.agg [(.str [112])]], m4_17]]], .agg [.list [.agg [(.str [84,111,111,108,111,110,103]), .list [], .list [.agg [.list [m4_1]]]], m4_18]], .agg [.list [m4_2, .agg [(.str [83]), .list [.agg [(.str [112])]], m4_17]]], .agg [.list [.agg [(.str [83]), .list [.agg [(.str [97])]], .list [.agg [.list [m4_1]]]], m4_18]], .agg [.list [m4_2, .agg [(.str [69]), .list [.agg [(.str [112])], .agg [(.str [122,122])]], m4_17]]], .agg [.list [.agg [(.str [83]), .list [.agg [(.str [66])]], .list [.agg [.list [m4_1]]]], m4_18]], .agg [.list [m4_2, .agg [(.str [69]), .list [.agg [(.str [112])], .agg [(.str [97])]], m4_17]]], .agg [.list [.agg [(.str [83]), .list [.agg [(.str [122,122])]], .list [.agg [.list [m4_1]]]], m4_18]], .agg [.list [m4_2, .agg [(.str [69]), .list [.agg [(.str [112])], .agg [(.str [66])]], m4_17]]], .agg [.list [.agg [(.str [83]), .list [], .list []], m4_18]], .agg [.list [m4_2, .agg [(.str [69]), .list [.agg [(.str [112])]], .list []]]], .agg [.list [.agg [(.str [83]), .list [], .list [.agg [.list [m4_1, .agg [(iN 0), (.str [120]), .nils, (.str [])]]]]], m4_18]], .agg [.list [m4_2, .agg [(.str [69]), .list [.agg [(.str [112])]], .list [.agg [.list [m4_9, m4_10, m4_11, m4_13, .agg [(iN 3), (.str [120]), .nils, (.str [])]]], .agg [.list [m4_14]], .agg [.list [m4_15, m4_1, m4_16]]]]]], .agg [.list [.agg [(.str [83]), .list [], .list [.agg [.list [m4_1, .agg [(iN 4), (.str [120]), .nils, (.str [])]]]]], m4_18]], .agg [.list [m4_2, .agg [(.str [69]), .list [.agg [(.str [112])]], .list [.agg [.list [m4_9, m4_10, m4_11, m4_13]], .agg [.list [m4_14]], .agg [.list [m4_15, m4_1, m4_16, .agg [(iN 5), (.str [120]), .nils, (.str [])]]]]]]], .agg [.list [.agg [(.str [83]), .list [], .list [.agg [.list [m4_1, .agg [(iN 4), (.str []), .list [.agg [.list [.agg [(iN 2), (iN 0), (.str [97]), .nils]]]], (.str [])]]]]], m4_18]], .agg [.list [m4_2, .agg [(.str [69]), .list [.agg [(.str [112])]], .list [.agg [.list [m4_9, m4_10, m4_11, m4_13]], .agg [.list [m4_14, .agg [(iN 4), (.str []), .list [.agg [.list [.agg [(iN 2), (iN 0), (.str [110]), .nils]]]], (.str [])]]], .agg [.list [m4_15, m4_1, m4_16]]]]]], .agg [.list [.agg [(.str [83]), .list [], .list [.agg [.list [m4_1, .agg [(iN 4), (.str []), .list [.agg [.list [.agg [(iN 2), (iN 0), (.str [113]), .nils]]]], (.str [])]]]]], m4_18]], .agg [.list [m4_2, .agg [(.str [69]), .list [.agg [(.str [112])]], .list [.agg [.list [m4_9, m4_10, m4_11, m4_13, .agg [(iN 4), (.str []), .list [.agg [.list [.agg [(iN 2), (iN 0), (.str [97]), .nils]]]], (.str [])]]], .agg [.list [m4_14]], .agg [.list [m4_15, m4_1, m4_16]]]]]], .agg [.list [.agg [(.str [83]), .list [], .list [.agg [.list [m4_1, .agg [(iN 4), (.str []), .list [.agg [.list [.agg [(iN 2), (iN 0), (.str [110]), .nils]]]], (.str [])]]]]], m4_18]], .agg [.list [m4_2, .agg [(.str [69]), .list [.agg [(.str [112])]], .list [.agg [.list [m4_9, m4_10, m4_11, m4_13]], .agg [.list [m4_14]], .agg [.list [m4_15, m4_1, m4_16, .agg [(iN 4), (.str []), .list [.agg [.list [.agg [(iN 2), (iN 0), (.str [113]), .nils]]]], (.str [])]]]]]]], .agg [.list [m4_2, .agg [(.str [69]), .list [.agg [(.str [112])]], .list [.agg [.list [m4_9, m4_10, m4_11, m4_13]], .agg [.list [.agg [(iN 2), (.str [48,45,57]), .list [], (.str [110])]]], .agg [.list [m4_15, m4_1, m4_16]]]]]], .agg [.list [.agg [(.str [83]), .list [], .list [.agg [.list [.agg [(iN 3), (.str [69]), .list [.agg [.list [m4_0]]], (.str [81])]]]]], m4_18]], .agg [.list [m4_2, .agg [(.str [69]), .list [.agg [(.str [112])]], .list [.agg [.list [.agg [(iN 4), (.str []), m4_8, (.str [97])], m4_10, m4_11, m4_13]], .agg [.list [m4_14]], .agg [.list [m4_15, m4_1, m4_16]]]]]], .agg [.list [m4_2, .agg [(.str [69]), .list [.agg [(.str [112])]], .list [.agg [.list [m4_9, m4_10, m4_11, m4_13]], .agg [.list [m4_14]], .agg [.list [.agg [(iN 1), (.str [40]), .list [], (.str [81])], m4_1, m4_16]]]]]], .agg [.list [m4_18]]]
theorem ww4 : allW WW4 = some (.bool true) := by kernel_rfl
def R4_0 : List T := [m4_2, .agg [(.str [69]), .list [.agg [(.str [112])]], .list [.agg [.list [m4_9, m4_10, m4_11, m4_13]], .agg [.list [m4_14, .agg [(iN 1), (.str [120]), .nils, (.str [])]]], .agg [.list [m4_15, m4_1, m4_16]]]]]
theorem r4_0 : chkR SBf R4_0 [false, false] [([69], 1)] [(0, [40, 48, 49, 50, 51, 52, 53, 54, 55, 56, 57]), (1, [40, 48, 49, 50, 51, 52, 53, 54, 55, 56, 57])] = some (.bool true) := by kernel_rfl
def R4_1 : List T := [.agg [(.str [83]), .list [], .list [.agg [.list [m4_1, .agg [(iN 2), (.str [120]), .nils, (.str [])]]]]], m4_18]
theorem r4_1 : chkR SBf R4_1 [false, false] [([69], 1)] [(0, [40, 48, 49, 50, 51, 52, 53, 54, 55, 56, 57]), (1, [40, 48, 49, 50, 51, 52, 53, 54, 55, 56, 57])] = some (.bool true) := by kernel_rfl
def R4_2 : List T := [.agg [(.str [83]), .list [], .list [.agg [.list [.agg [(iN 3), (.str [69]), .list [.agg [.list [m4_0]]], (.str [97])]]]]], m4_18]
theorem r4_2 : chkR SBf R4_2 [false, false] [([69], 1)] [(0, [40, 48, 49, 50, 51, 52, 53, 54, 55, 56, 57]), (1, [40, 48, 49, 50, 51, 52, 53, 54, 55, 56, 57])] = some (.bool true) := by kernel_rfl
def R4_3 : List T := [.agg [(.str [83]), .list [], .list [.agg [.list [.agg [(iN 3), (.str [69]), .list [.agg [.list [m4_0]]], (.str [110])]]]]], m4_18]
theorem r4_3 : chkR SBf R4_3 [false, false] [([69], 1)] [(0, [40, 48, 49, 50, 51, 52, 53, 54, 55, 56, 57]), (1, [40, 48, 49, 50, 51, 52, 53, 54, 55, 56, 57])] = some (.bool true) := by kernel_rfl
def R4_4 : List T := [m4_2, m4_18]
theorem r4_4 : chkR SBf R4_4 [false, false] [([69], 1)] [(0, [40, 48, 49, 50, 51, 52, 53, 54, 55, 56, 57]), (1, [40, 48, 49, 50, 51, 52, 53, 54, 55, 56, 57])] = some (.bool true) := by kernel_rfl
def RR4 : List T := [.agg [.list R4_0], .agg [.list R4_1], .agg [.list R4_2], .agg [.list R4_3], .agg [.list R4_4]]
theorem rr4 : ∀ X ∈ RR4, FbOk X := by
 intro X h
 simp only [RR4, List.mem_cons, List.not_mem_nil, or_false] at h
 rcases h with rfl | rfl | rfl | rfl | rfl
 ·exact chkR_ok sb_ok r4_0
 ·exact chkR_ok sb_ok r4_1
 ·exact chkR_ok sb_ok r4_2
 ·exact chkR_ok sb_ok r4_3
 ·exact chkR_ok sb_ok r4_4
def PP4 : List (List Nat) := [[0, 1, 2, 3], [4, 5, 6, 7, 8, 9], [10, 11], [12, 27, 28, 13, 14, 15], [16, 17, 18, 19, 20, 21], [29, 22, 23, 24, 30, 25], [26], [31]]
theorem chk4 : ∀ o b1 b2 b3, copyChk (csOf (rowsOf (WW4 ++ RR4) PP4)) (.agg [L4]) o b1 b2 b3 = some (.bool true) := by
 intro o b1 b2 b3
 kernel_rfl
theorem any4 : AnyG FbOk (.agg [L4]) := anyFb_of rfl (by decide) (fun X h => (List.mem_append.1 h).elim (allW_ok ww4 X) (rr4 X)) chk4
end X
