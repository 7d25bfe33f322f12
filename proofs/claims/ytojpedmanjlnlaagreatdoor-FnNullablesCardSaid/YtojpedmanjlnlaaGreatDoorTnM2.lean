/- A part of the proof. No statement of the claim is in it. -/
import Derived.Test.YtojpedmanjlnlaaGreatDoorTnP0
open Go Go.V Go.Proofs
namespace X
set_option maxRecDepth 100000
set_option maxHeartbeats 4000000
set_option linter.all false
def m2_0 : T := .agg [(iN 3), (.str [78]), .list [], (.str [110])]
def m2_1 : T := .agg [(iN 1), (.str [58]), .list [], (.str [])]
def m2_2 : T := .agg [(iN 2), (iN 0), (.str [110]), .list []]
def m2_3 : T := .agg [(iN 3), (.str [66]), .list [.agg [.list [m2_2]]], (.str [])]
def m2_4 : T := .agg [(.str [83]), .list [], .list [.agg [.list [m2_0, m2_1, m2_3]]]]
def m2_5 : T := .agg [(iN 2), (.str [48,45,57]), .list [], (.str [])]
def m2_6 : T := .agg [(.str [78]), .list [], .list [.agg [.list [m2_5]]]]
def m2_7 : T := .agg [(iN 2), (iN 0), (.str [107]), .list []]
def m2_8 : T := .agg [(iN 1), (iN 0), (.str []), .list []]
def m2_9 : T := .list [.agg [(iN 0)], .agg [(iN 1)]]
def m2_10 : T := .agg [(iN 9), (iN 0), (.str []), m2_9]
def m2_11 : T := .agg [(iN 4), (.str []), .list [.agg [.list [m2_7, m2_8, m2_10]]], (.str [])]
def m2_12 : T := .agg [(iN 8), (iN 0), (.str []), m2_9]
def m2_13 : T := .agg [(iN 4), (.str []), .list [.agg [.list [m2_8, m2_7, m2_12]]], (.str [])]
def m2_14 : T := .agg [(iN 2), (.str [97,98]), .list [], (.str [])]
def m2_15 : T := .agg [(iN 1), (iN 1), (.str []), .list []]
def m2_16 : T := .agg [(iN 5), (iN 0), (.str []), m2_9]
def m2_17 : T := .list [.agg [.list [m2_7, m2_15, m2_16]]]
def m2_18 : T := .agg [(iN 3), (.str [66]), m2_17, (.str [])]
def m2_19 : T := .list [.agg [.list [m2_11]], .agg [.list [m2_13, m2_14, m2_18]]]
def m2_20 : T := .agg [(.str [66]), .list [.agg [(.str [107])]], m2_19]
def WW2 : List T := [.agg [.list [.agg [(.str []), .list [], .list [.agg [.list [m2_0, m2_1, m2_3]]]], m2_6, m2_20]], .agg [.list [m2_4, .agg [(.str [49,97]), .list [], .list [.agg [.list [m2_5]]]], m2_20]], .agg [.list [m2_4, m2_6, .agg [(.str [84,111,111,108,111,110,103]), .list [.agg [(.str [107])]], m2_19]]], .agg [.list [m2_4, .agg [(.str []), .list [], .list [.agg [.list [m2_5]]]], m2_20]], .agg [.list [m2_4, m2_6, .agg [(.str [49,97]), .list [.agg [(.str [107])]], m2_19]]], .agg [.list [.agg [(.str [84,111,111,108,111,110,103]), .list [], .list [.agg [.list [m2_0, m2_1, m2_3]]]], m2_6, m2_20]], .agg [.list [m2_4, .agg [(.str [83]), .list [], .list [.agg [.list [m2_5]]]], m2_20]], .agg [.list [m2_4, m2_6, .agg [(.str []), .list [.agg [(.str [107])]], m2_19]]], .agg [.list [.agg [(.str [49,97]), .list [], .list [.agg [.list [m2_0, m2_1, m2_3]]]], m2_6, m2_20]], .agg [.list [m2_4, .agg [(.str [84,111,111,108,111,110,103]), .list [], .list [.agg [.list [m2_5]]]], m2_20]], .agg [.list [m2_4, m2_6, .agg [(.str [83]), .list [.agg [(.str [107])]], m2_19]]], .agg [.list [.agg [(.str [83]), .list [.agg [(.str [97])]], .list [.agg [.list [m2_0, m2_1, m2_3]]]], m2_6, m2_20]], .agg [.list [m2_4, .agg [(.str [78]), .list [.agg [(.str [122,122])]], .list [.agg [.list [m2_5]]]], m2_20]], .agg [.list [m2_4, m2_6, .agg [(.str [66]), .list [.agg [(.str [107])], .agg [(.str [66])]], m2_19]]], .agg [.list [.agg [(.str [83]), .list [], .list []], m2_6, m2_20]], .agg [.list [m2_4, .agg [(.str [78]), .list [], .list []], m2_20]], .agg [.list [m2_4, m2_6, .agg [(.str [66]), .list [.agg [(.str [107])]], .list []]]], .agg [.list [.agg [(.str [83]), .list [], .list [.agg [.list [m2_0, m2_1, m2_3, .agg [(iN 0), (.str [120]), .nils, (.str [])]]]]], m2_6, m2_20]], .agg [.list [.agg [(.str [83]), .list [], .list [.agg [.list [m2_0, m2_1, m2_3, .agg [(iN 3), (.str [120]), .nils, (.str [])]]]]], m2_6, m2_20]], .agg [.list [m2_4, .agg [(.str [78]), .list [], .list [.agg [.list [m2_5, .agg [(iN 4), (.str [120]), .nils, (.str [])]]]]], m2_20]], .agg [.list [m2_4, m2_6, .agg [(.str [66]), .list [.agg [(.str [107])]], .list [.agg [.list [m2_11]], .agg [.list [m2_13, m2_14, m2_18, .agg [(iN 5), (.str [120]), .nils, (.str [])]]]]]]], .agg [.list [.agg [(.str [83]), .list [], .list [.agg [.list [m2_0, m2_1, m2_3, .agg [(iN 4), (.str []), .list [.agg [.list [.agg [(iN 2), (iN 0), (.str [97]), .nils]]]], (.str [])]]]]], m2_6, m2_20]], .agg [.list [m2_4, .agg [(.str [78]), .list [], .list [.agg [.list [m2_5, .agg [(iN 4), (.str []), .list [.agg [.list [.agg [(iN 2), (iN 0), (.str [110]), .nils]]]], (.str [])]]]]], m2_20]], .agg [.list [m2_4, m2_6, .agg [(.str [66]), .list [.agg [(.str [107])]], .list [.agg [.list [m2_11, .agg [(iN 4), (.str []), .list [.agg [.list [.agg [(iN 2), (iN 0), (.str [113]), .nils]]]], (.str [])]]], .agg [.list [m2_13, m2_14, m2_18]]]]]], .agg [.list [m2_4, m2_6, .agg [(.str [66]), .list [.agg [(.str [107])]], .list [.agg [.list [m2_11]], .agg [.list [m2_13, m2_14, m2_18, .agg [(iN 4), (.str []), .list [.agg [.list [.agg [(iN 2), (iN 0), (.str [113]), .nils]]]], (.str [])]]]]]]], .agg [.list [.agg [(.str [83]), .list [], .list [.agg [.list [.agg [(iN 3), (.str [78]), .list [], (.str [97])], m2_1, m2_3]]]], m2_6, m2_20]], .agg [.list [m2_4, .agg [(.str [78]), .list [], .list [.agg [.list [.agg [(iN 2), (.str [48,45,57]), .list [], (.str [110])]]]]], m2_20]], .agg [.list [m2_4, m2_6, .agg [(.str [66]), .list [.agg [(.str [107])]], .list [.agg [.list [.agg [(iN 4), (.str []), .list [.agg [.list [m2_7, m2_8, m2_10]]], (.str [81])]]], .agg [.list [m2_13, m2_14, m2_18]]]]]], .agg [.list [m2_4, m2_6, .agg [(.str [66]), .list [.agg [(.str [107])]], .list [.agg [.list [m2_11]], .agg [.list [.agg [(iN 4), (.str []), .list [.agg [.list [m2_8, m2_7, m2_12]]], (.str [81])], m2_14, m2_18]]]]]]]
theorem ww2 : allW WW2 = some (.bool true) := by kernel_rfl
def R2_0 : List T := [m2_4, m2_6, m2_20]
theorem r2_0 : chkR SBf R2_0 [false, false, true] [([78], 1), ([66], 2)] [(0, [48, 49, 50, 51, 52, 53, 54, 55, 56, 57]), (1, [48, 49, 50, 51, 52, 53, 54, 55, 56, 57]), (2, [97, 98])] = some (.bool true) := by kernel_rfl
def R2_1 : List T := [m2_4, .agg [(.str [78]), .list [], .list [.agg [.list [m2_5, .agg [(iN 1), (.str [120]), .nils, (.str [])]]]]], m2_20]
theorem r2_1 : chkR SBf R2_1 [false, false, true] [([78], 1), ([66], 2)] [(0, [48, 49, 50, 51, 52, 53, 54, 55, 56, 57]), (1, [48, 49, 50, 51, 52, 53, 54, 55, 56, 57]), (2, [97, 98])] = some (.bool true) := by kernel_rfl
def R2_2 : List T := [m2_4, m2_6, .agg [(.str [66]), .list [.agg [(.str [107])]], .list [.agg [.list [m2_11, .agg [(iN 2), (.str [120]), .nils, (.str [])]]], .agg [.list [m2_13, m2_14, m2_18]]]]]
theorem r2_2 : chkR SBf R2_2 [false, false, false] [([78], 1), ([66], 2)] [(0, [48, 49, 50, 51, 52, 53, 54, 55, 56, 57]), (1, [48, 49, 50, 51, 52, 53, 54, 55, 56, 57]), (2, [97, 98, 120])] = some (.bool true) := by kernel_rfl
def R2_3 : List T := [m2_6, m2_20]
theorem r2_3 : chkR SBf R2_3 [false, true] [([66], 1)] [(0, [48, 49, 50, 51, 52, 53, 54, 55, 56, 57]), (1, [97, 98])] = some (.bool true) := by kernel_rfl
def RR2 : List T := [.agg [.list R2_0], .agg [.list R2_1], .agg [.list R2_2], .agg [.list R2_3]]
theorem rr2 : ∀ X ∈ RR2, FbOk X := by
 intro X h
 simp only [RR2, List.mem_cons, List.not_mem_nil, or_false] at h
 rcases h with rfl | rfl | rfl | rfl
 ·exact chkR_ok sb_ok r2_0
 ·exact chkR_ok sb_ok r2_1
 ·exact chkR_ok sb_ok r2_2
 ·exact chkR_ok sb_ok r2_3
def PP2 : List (List Nat) := [[0, 1, 2, 29, 3, 4, 5, 6, 7, 8, 9, 10], [11, 12, 13], [14, 15, 16], [17, 30, 31, 18, 19, 20], [21, 22, 23, 21, 22, 24], [25, 26, 27, 25, 26, 28], [32], [29]]
theorem chk2 : ∀ o b1 b2 b3, copyChk (csOf (rowsOf (WW2 ++ RR2) PP2)) (.agg [L2]) o b1 b2 b3 = some (.bool true) := by
 intro o b1 b2 b3
 kernel_rfl
theorem any2 : AnyG FbOk (.agg [L2]) := anyFb_of rfl (by decide) (fun X h => (List.mem_append.1 h).elim (allW_ok ww2 X) (rr2 X)) chk2
end X
