/- A part of the proof. No statement of the claim is in it. -/
import Derived.Test.YtojpedmanjlnlaaGreatDoorTnP2
open Go Go.V Go.Proofs
namespace X
set_option maxRecDepth 100000
set_option maxHeartbeats 4000000
set_option linter.all false
def m11_0 : T := .agg [(iN 3), (.str [68]), .list [], (.str [120])]
def m11_1 : T := .agg [(iN 2), (iN 0), (.str [120]), .list []]
def m11_2 : T := .agg [(iN 3), (.str [120,48]), .list [.agg [.list [m11_1]]], (.str [])]
def m11_3 : T := .agg [(.str [83]), .list [], .list [.agg [.list [m11_0, m11_2]]]]
def m11_4 : T := .agg [(iN 2), (.str [48,45,57]), .list [], (.str [])]
def m11_5 : T := .agg [(.str [68]), .list [], .list [.agg [.list [m11_4]]]]
def m11_6 : T := .agg [(iN 1), (iN 5), (.str []), .list []]
def m11_7 : T := .list [.agg [(iN 0)], .agg [(iN 1)]]
def m11_8 : T := .agg [(iN 8), (iN 0), (.str []), m11_7]
def m11_9 : T := .list [.agg [.list [m11_1, m11_6, m11_8]]]
def m11_10 : T := .agg [(iN 4), (.str []), m11_9, (.str [])]
def m11_11 : T := .agg [(iN 1), (.str [97]), .list [], (.str [])]
def m11_12 : T := .agg [(iN 1), (iN 4), (.str []), .list []]
def m11_13 : T := .list [.agg [.list [m11_12, m11_1, m11_8]]]
def m11_14 : T := .agg [(iN 4), (.str []), m11_13, (.str [])]
def m11_15 : T := .agg [(iN 1), (.str [98]), .list [], (.str [])]
def m11_16 : T := .list [.agg [.list [m11_10, m11_11]], .agg [.list [m11_14, m11_15]], .agg [.list [m11_10, m11_11, m11_2]], .agg [.list [m11_14, m11_15, m11_2]]]
def m11_17 : T := .agg [(.str [120,48]), .list [.agg [(.str [120])]], m11_16]
def WW11 : List T := [.agg [.list [.agg [(.str []), .list [], .list [.agg [.list [m11_0, m11_2]]]], m11_5, m11_17]], .agg [.list [m11_3, .agg [(.str [49,97]), .list [], .list [.agg [.list [m11_4]]]], m11_17]], .agg [.list [m11_3, m11_5, .agg [(.str [84,111,111,108,111,110,103]), .list [.agg [(.str [120])]], m11_16]]], .agg [.list [m11_3, .agg [(.str []), .list [], .list [.agg [.list [m11_4]]]], m11_17]], .agg [.list [m11_3, m11_5, .agg [(.str [49,97]), .list [.agg [(.str [120])]], m11_16]]], .agg [.list [.agg [(.str [84,111,111,108,111,110,103]), .list [], .list [.agg [.list [m11_0, m11_2]]]], m11_5, m11_17]], .agg [.list [m11_3, .agg [(.str [83]), .list [], .list [.agg [.list [m11_4]]]], m11_17]], .agg [.list [m11_3, m11_5, .agg [(.str []), .list [.agg [(.str [120])]], m11_16]]], .agg [.list [.agg [(.str [49,97]), .list [], .list [.agg [.list [m11_0, m11_2]]]], m11_5, m11_17]], .agg [.list [m11_3, .agg [(.str [84,111,111,108,111,110,103]), .list [], .list [.agg [.list [m11_4]]]], m11_17]], .agg [.list [m11_3, m11_5, .agg [(.str [83]), .list [.agg [(.str [120])]], m11_16]]], .agg [.list [.agg [(.str [83]), .list [.agg [(.str [97])]], .list [.agg [.list [m11_0, m11_2]]]], m11_5, m11_17]], .agg [.list [m11_3, .agg [(.str [68]), .list [.agg [(.str [122,122])]], .list [.agg [.list [m11_4]]]], m11_17]], .agg [.list [m11_3, m11_5, .agg [(.str [120,48]), .list [.agg [(.str [120])], .agg [(.str [66])]], m11_16]]], .agg [.list [.agg [(.str [83]), .list [], .list []], m11_5, m11_17]], .agg [.list [m11_3, .agg [(.str [68]), .list [], .list []], m11_17]], .agg [.list [m11_3, m11_5, .agg [(.str [120,48]), .list [.agg [(.str [120])]], .list []]]], .agg [.list [.agg [(.str [83]), .list [], .list [.agg [.list [m11_0, m11_2, .agg [(iN 0), (.str [120]), .nils, (.str [])]]]]], m11_5, m11_17]], .agg [.list [.agg [(.str [83]), .list [], .list [.agg [.list [m11_0, m11_2, .agg [(iN 3), (.str [120]), .nils, (.str [])]]]]], m11_5, m11_17]], .agg [.list [m11_3, .agg [(.str [68]), .list [], .list [.agg [.list [m11_4, .agg [(iN 4), (.str [120]), .nils, (.str [])]]]]], m11_17]], .agg [.list [m11_3, m11_5, .agg [(.str [120,48]), .list [.agg [(.str [120])]], .list [.agg [.list [m11_10, m11_11]], .agg [.list [m11_14, m11_15, .agg [(iN 5), (.str [120]), .nils, (.str [])]]], .agg [.list [m11_10, m11_11, m11_2]], .agg [.list [m11_14, m11_15, m11_2]]]]]], .agg [.list [m11_3, m11_5, .agg [(.str [120,48]), .list [.agg [(.str [120])]], .list [.agg [.list [m11_10, m11_11]], .agg [.list [m11_14, m11_15]], .agg [.list [m11_10, m11_11, m11_2]], .agg [.list [m11_14, m11_15, m11_2, .agg [(iN 5), (.str [120]), .nils, (.str [])]]]]]]], .agg [.list [.agg [(.str [83]), .list [], .list [.agg [.list [m11_0, m11_2, .agg [(iN 4), (.str []), .list [.agg [.list [.agg [(iN 2), (iN 0), (.str [97]), .nils]]]], (.str [])]]]]], m11_5, m11_17]], .agg [.list [m11_3, .agg [(.str [68]), .list [], .list [.agg [.list [m11_4, .agg [(iN 4), (.str []), .list [.agg [.list [.agg [(iN 2), (iN 0), (.str [110]), .nils]]]], (.str [])]]]]], m11_17]], .agg [.list [m11_3, m11_5, .agg [(.str [120,48]), .list [.agg [(.str [120])]], .list [.agg [.list [m11_10, m11_11]], .agg [.list [m11_14, m11_15]], .agg [.list [m11_10, m11_11, m11_2, .agg [(iN 4), (.str []), .list [.agg [.list [.agg [(iN 2), (iN 0), (.str [113]), .nils]]]], (.str [])]]], .agg [.list [m11_14, m11_15, m11_2]]]]]], .agg [.list [m11_3, m11_5, .agg [(.str [120,48]), .list [.agg [(.str [120])]], .list [.agg [.list [m11_10, m11_11]], .agg [.list [m11_14, m11_15, .agg [(iN 4), (.str []), .list [.agg [.list [.agg [(iN 2), (iN 0), (.str [113]), .nils]]]], (.str [])]]], .agg [.list [m11_10, m11_11, m11_2]], .agg [.list [m11_14, m11_15, m11_2]]]]]], .agg [.list [m11_3, m11_5, .agg [(.str [120,48]), .list [.agg [(.str [120])]], .list [.agg [.list [m11_10, m11_11, .agg [(iN 4), (.str []), .list [.agg [.list [.agg [(iN 2), (iN 0), (.str [113]), .nils]]]], (.str [])]]], .agg [.list [m11_14, m11_15]], .agg [.list [m11_10, m11_11, m11_2]], .agg [.list [m11_14, m11_15, m11_2]]]]]], .agg [.list [m11_3, m11_5, .agg [(.str [120,48]), .list [.agg [(.str [120])]], .list [.agg [.list [m11_10, m11_11]], .agg [.list [m11_14, m11_15]], .agg [.list [m11_10, m11_11, m11_2]], .agg [.list [m11_14, m11_15, m11_2, .agg [(iN 4), (.str []), .list [.agg [.list [.agg [(iN 2), (iN 0), (.str [113]), .nils]]]], (.str [])]]]]]]], .agg [.list [.agg [(.str [83]), .list [], .list [.agg [.list [.agg [(iN 3), (.str [68]), .list [], (.str [97])], m11_2]]]], m11_5, m11_17]], .agg [.list [m11_3, .agg [(.str [68]), .list [], .list [.agg [.list [.agg [(iN 2), (.str [48,45,57]), .list [], (.str [110])]]]]], m11_17]], .agg [.list [m11_3, m11_5, .agg [(.str [120,48]), .list [.agg [(.str [120])]], .list [.agg [.list [m11_10, m11_11]], .agg [.list [m11_14, m11_15]], .agg [.list [.agg [(iN 4), (.str []), m11_9, (.str [81])], m11_11, m11_2]], .agg [.list [m11_14, m11_15, m11_2]]]]]], .agg [.list [m11_3, m11_5, .agg [(.str [120,48]), .list [.agg [(.str [120])]], .list [.agg [.list [m11_10, m11_11]], .agg [.list [.agg [(iN 4), (.str []), m11_13, (.str [81])], m11_15]], .agg [.list [m11_10, m11_11, m11_2]], .agg [.list [m11_14, m11_15, m11_2]]]]]], .agg [.list [m11_3, m11_5, .agg [(.str [120,48]), .list [.agg [(.str [120])]], .list [.agg [.list [.agg [(iN 4), (.str []), m11_9, (.str [81])], m11_11]], .agg [.list [m11_14, m11_15]], .agg [.list [m11_10, m11_11, m11_2]], .agg [.list [m11_14, m11_15, m11_2]]]]]], .agg [.list [m11_3, m11_5, .agg [(.str [120,48]), .list [.agg [(.str [120])]], .list [.agg [.list [m11_10, m11_11]], .agg [.list [m11_14, m11_15]], .agg [.list [m11_10, m11_11, m11_2]], .agg [.list [.agg [(iN 4), (.str []), m11_13, (.str [81])], m11_15, m11_2]]]]]]]
theorem ww11 : allW WW11 = some (.bool true) := by kernel_rfl
def R11_0 : List T := [m11_3, m11_5, m11_17]
theorem r11_0 : chkR SBf R11_0 [false, false, false] [([68], 1), ([120, 48], 2)] [(0, [48, 49, 50, 51, 52, 53, 54, 55, 56, 57]), (1, [48, 49, 50, 51, 52, 53, 54, 55, 56, 57]), (2, [97, 98])] = some (.bool true) := by kernel_rfl
def R11_1 : List T := [m11_3, .agg [(.str [68]), .list [], .list [.agg [.list [m11_4, .agg [(iN 1), (.str [120]), .nils, (.str [])]]]]], m11_17]
theorem r11_1 : chkR SBf R11_1 [false, false, false] [([68], 1), ([120, 48], 2)] [(0, [48, 49, 50, 51, 52, 53, 54, 55, 56, 57]), (1, [48, 49, 50, 51, 52, 53, 54, 55, 56, 57]), (2, [97, 98])] = some (.bool true) := by kernel_rfl
def R11_2 : List T := [m11_3, m11_5, .agg [(.str [120,48]), .list [.agg [(.str [120])]], .list [.agg [.list [m11_10, m11_11]], .agg [.list [m11_14, m11_15]], .agg [.list [m11_10, m11_11, m11_2, .agg [(iN 2), (.str [120]), .nils, (.str [])]]], .agg [.list [m11_14, m11_15, m11_2]]]]]
theorem r11_2 : chkR SBf R11_2 [false, false, false] [([68], 1), ([120, 48], 2)] [(0, [48, 49, 50, 51, 52, 53, 54, 55, 56, 57]), (1, [48, 49, 50, 51, 52, 53, 54, 55, 56, 57]), (2, [97, 98])] = some (.bool true) := by kernel_rfl
def R11_3 : List T := [m11_3, m11_5, .agg [(.str [120,48]), .list [.agg [(.str [120])]], .list [.agg [.list [m11_10, m11_11, .agg [(iN 2), (.str [120]), .nils, (.str [])]]], .agg [.list [m11_14, m11_15]], .agg [.list [m11_10, m11_11, m11_2]], .agg [.list [m11_14, m11_15, m11_2]]]]]
theorem r11_3 : chkR SBf R11_3 [false, false, false] [([68], 1), ([120, 48], 2)] [(0, [48, 49, 50, 51, 52, 53, 54, 55, 56, 57]), (1, [48, 49, 50, 51, 52, 53, 54, 55, 56, 57]), (2, [97, 98])] = some (.bool true) := by kernel_rfl
def R11_4 : List T := [m11_5, m11_17]
theorem r11_4 : chkR SBf R11_4 [false, false] [([120, 48], 1)] [(0, [48, 49, 50, 51, 52, 53, 54, 55, 56, 57]), (1, [97, 98])] = some (.bool true) := by kernel_rfl
def RR11 : List T := [.agg [.list R11_0], .agg [.list R11_1], .agg [.list R11_2], .agg [.list R11_3], .agg [.list R11_4]]
theorem rr11 : ∀ X ∈ RR11, FbOk X := by
 intro X h
 simp only [RR11, List.mem_cons, List.not_mem_nil, or_false] at h
 rcases h with rfl | rfl | rfl | rfl | rfl
 ·exact chkR_ok sb_ok r11_0
 ·exact chkR_ok sb_ok r11_1
 ·exact chkR_ok sb_ok r11_2
 ·exact chkR_ok sb_ok r11_3
 ·exact chkR_ok sb_ok r11_4
def PP11 : List (List Nat) := [[0, 1, 2, 34, 3, 4, 5, 6, 7, 8, 9, 10], [11, 12, 13], [14, 15, 16], [17, 35, 36, 18, 19, 20, 17, 35, 37, 18, 19, 21], [22, 23, 24, 22, 23, 25, 22, 23, 26, 22, 23, 27], [28, 29, 30, 28, 29, 31, 28, 29, 32, 28, 29, 33], [38], [34]]
theorem chk11 : ∀ o b1 b2 b3, copyChk (csOf (rowsOf (WW11 ++ RR11) PP11)) (.agg [L11]) o b1 b2 b3 = some (.bool true) := by
 intro o b1 b2 b3
 kernel_rfl
theorem any11 : AnyG FbOk (.agg [L11]) := anyFb_of rfl (by decide) (fun X h => (List.mem_append.1 h).elim (allW_ok ww11 X) (rr11 X)) chk11
end X
