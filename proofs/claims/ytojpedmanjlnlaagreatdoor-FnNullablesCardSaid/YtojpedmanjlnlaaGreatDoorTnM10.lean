/- A part of the proof. No statement of the claim is in it. -/
import Derived.Test.YtojpedmanjlnlaaGreatDoorTnP2
open Go Go.V Go.Proofs
namespace X
set_option maxRecDepth 100000
set_option maxHeartbeats 4000000
set_option linter.all false
def m10_0 : T := .agg [(iN 3), (iN 0), (.str []), .list []]
def m10_1 : T := .agg [(iN 1), (iN 0), (.str []), .list []]
def m10_2 : T := .list [.agg [(iN 0)], .agg [(iN 1)]]
def m10_3 : T := .agg [(iN 9), (iN 0), (.str []), m10_2]
def m10_4 : T := .list [.agg [.list [m10_0, m10_1, m10_3]]]
def m10_5 : T := .agg [(iN 4), (.str []), m10_4, (.str [])]
def m10_6 : T := .agg [(iN 3), (.str [120,48]), .list [], (.str [])]
def m10_7 : T := .agg [(.str [83]), .list [], .list [.agg [.list [m10_5, m10_6]]]]
def m10_8 : T := .agg [(iN 1), (.str [97]), .list [], (.str [])]
def m10_9 : T := .agg [(iN 3), (.str [120,49]), .list [], (.str [])]
def m10_10 : T := .list [.agg [.nils], .agg [.list [m10_8, m10_9, m10_6]]]
def m10_11 : T := .agg [(iN 1), (.str [98]), .list [], (.str [])]
def m10_12 : T := .agg [(iN 1), (iN 3), (.str []), .list []]
def m10_13 : T := .agg [(iN 8), (iN 0), (.str []), m10_2]
def m10_14 : T := .list [.agg [.list [m10_0, m10_12, m10_13]]]
def m10_15 : T := .agg [(iN 4), (.str []), m10_14, (.str [])]
def m10_16 : T := .list [.agg [.list [m10_11]], .agg [.list [m10_15]]]
def WW10 : List T := [.agg [.list [.agg [(.str []), .list [], .list [.agg [.list [m10_5, m10_6]]]], .agg [(.str [120,48]), .list [], m10_10], .agg [(.str [120,49]), .list [], m10_16]]], .agg [.list [m10_7, .agg [(.str [49,97]), .list [], m10_10], .agg [(.str [120,49]), .list [], m10_16]]], .agg [.list [m10_7, .agg [(.str [120,48]), .list [], m10_10], .agg [(.str [84,111,111,108,111,110,103]), .list [], m10_16]]], .agg [.list [m10_7, .agg [(.str []), .list [], m10_10], .agg [(.str [120,49]), .list [], m10_16]]], .agg [.list [m10_7, .agg [(.str [120,48]), .list [], m10_10], .agg [(.str [49,97]), .list [], m10_16]]], .agg [.list [.agg [(.str [84,111,111,108,111,110,103]), .list [], .list [.agg [.list [m10_5, m10_6]]]], .agg [(.str [120,48]), .list [], m10_10], .agg [(.str [120,49]), .list [], m10_16]]], .agg [.list [m10_7, .agg [(.str [83]), .list [], m10_10], .agg [(.str [120,49]), .list [], m10_16]]], .agg [.list [m10_7, .agg [(.str [120,48]), .list [], m10_10], .agg [(.str []), .list [], m10_16]]], .agg [.list [.agg [(.str [49,97]), .list [], .list [.agg [.list [m10_5, m10_6]]]], .agg [(.str [120,48]), .list [], m10_10], .agg [(.str [120,49]), .list [], m10_16]]], .agg [.list [m10_7, .agg [(.str [84,111,111,108,111,110,103]), .list [], m10_10], .agg [(.str [120,49]), .list [], m10_16]]], .agg [.list [m10_7, .agg [(.str [120,48]), .list [], m10_10], .agg [(.str [83]), .list [], m10_16]]], .agg [.list [.agg [(.str [83]), .list [.agg [(.str [97])]], .list [.agg [.list [m10_5, m10_6]]]], .agg [(.str [120,48]), .list [], m10_10], .agg [(.str [120,49]), .list [], m10_16]]], .agg [.list [m10_7, .agg [(.str [120,48]), .list [.agg [(.str [122,122])]], m10_10], .agg [(.str [120,49]), .list [], m10_16]]], .agg [.list [m10_7, .agg [(.str [120,48]), .list [], m10_10], .agg [(.str [120,49]), .list [.agg [(.str [66])]], m10_16]]], .agg [.list [.agg [(.str [83]), .list [], .list []], .agg [(.str [120,48]), .list [], m10_10], .agg [(.str [120,49]), .list [], m10_16]]], .agg [.list [m10_7, .agg [(.str [120,48]), .list [], .list []], .agg [(.str [120,49]), .list [], m10_16]]], .agg [.list [m10_7, .agg [(.str [120,48]), .list [], m10_10], .agg [(.str [120,49]), .list [], .list []]]], .agg [.list [.agg [(.str [83]), .list [], .list [.agg [.list [m10_5, m10_6, .agg [(iN 0), (.str [120]), .nils, (.str [])]]]]], .agg [(.str [120,48]), .list [], m10_10], .agg [(.str [120,49]), .list [], m10_16]]], .agg [.list [.agg [(.str [83]), .list [], .list [.agg [.list [m10_5, m10_6, .agg [(iN 3), (.str [120]), .nils, (.str [])]]]]], .agg [(.str [120,48]), .list [], m10_10], .agg [(.str [120,49]), .list [], m10_16]]], .agg [.list [m10_7, .agg [(.str [120,48]), .list [], .list [.agg [.list [.agg [(iN 4), (.str [120]), .nils, (.str [])]]], .agg [.list [m10_8, m10_9, m10_6]]]], .agg [(.str [120,49]), .list [], m10_16]]], .agg [.list [m10_7, .agg [(.str [120,48]), .list [], m10_10], .agg [(.str [120,49]), .list [], .list [.agg [.list [m10_11]], .agg [.list [m10_15, .agg [(iN 5), (.str [120]), .nils, (.str [])]]]]]]], .agg [.list [.agg [(.str [83]), .list [], .list [.agg [.list [m10_5, m10_6, .agg [(iN 4), (.str []), .list [.agg [.list [.agg [(iN 2), (iN 0), (.str [97]), .nils]]]], (.str [])]]]]], .agg [(.str [120,48]), .list [], m10_10], .agg [(.str [120,49]), .list [], m10_16]]], .agg [.list [m10_7, .agg [(.str [120,48]), .list [], .list [.agg [.nils], .agg [.list [m10_8, m10_9, m10_6, .agg [(iN 4), (.str []), .list [.agg [.list [.agg [(iN 2), (iN 0), (.str [110]), .nils]]]], (.str [])]]]]], .agg [(.str [120,49]), .list [], m10_16]]], .agg [.list [m10_7, .agg [(.str [120,48]), .list [], m10_10], .agg [(.str [120,49]), .list [], .list [.agg [.list [m10_11, .agg [(iN 4), (.str []), .list [.agg [.list [.agg [(iN 2), (iN 0), (.str [113]), .nils]]]], (.str [])]]], .agg [.list [m10_15]]]]]], .agg [.list [m10_7, .agg [(.str [120,48]), .list [], .list [.agg [.list [.agg [(iN 4), (.str []), .list [.agg [.list [.agg [(iN 2), (iN 0), (.str [110]), .nils]]]], (.str [])]]], .agg [.list [m10_8, m10_9, m10_6]]]], .agg [(.str [120,49]), .list [], m10_16]]], .agg [.list [m10_7, .agg [(.str [120,48]), .list [], m10_10], .agg [(.str [120,49]), .list [], .list [.agg [.list [m10_11]], .agg [.list [m10_15, .agg [(iN 4), (.str []), .list [.agg [.list [.agg [(iN 2), (iN 0), (.str [113]), .nils]]]], (.str [])]]]]]]], .agg [.list [.agg [(.str [83]), .list [], .list [.agg [.list [.agg [(iN 4), (.str []), m10_4, (.str [97])], m10_6]]]], .agg [(.str [120,48]), .list [], m10_10], .agg [(.str [120,49]), .list [], m10_16]]], .agg [.list [m10_7, .agg [(.str [120,48]), .list [], .list [.agg [.nils], .agg [.list [.agg [(iN 1), (.str [97]), .list [], (.str [110])], m10_9, m10_6]]]], .agg [(.str [120,49]), .list [], m10_16]]], .agg [.list [m10_7, .agg [(.str [120,48]), .list [], m10_10], .agg [(.str [120,49]), .list [], .list [.agg [.list [.agg [(iN 1), (.str [98]), .list [], (.str [81])]]], .agg [.list [m10_15]]]]]], .agg [.list [m10_7, .agg [(.str [120,48]), .list [], m10_10], .agg [(.str [120,49]), .list [], .list [.agg [.list [m10_11]], .agg [.list [.agg [(iN 4), (.str []), m10_14, (.str [81])]]]]]]]]
theorem ww10 : allW WW10 = some (.bool true) := by kernel_rfl
def R10_0 : List T := [m10_7, .agg [(.str [120,48]), .list [], m10_10], .agg [(.str [120,49]), .list [], m10_16]]
theorem r10_0 : chkR SBf R10_0 [true, true, true] [([120, 48], 1), ([120, 49], 2)] [(0, [97]), (1, [97]), (2, [98])] = some (.bool true) := by kernel_rfl
def R10_1 : List T := [m10_7, .agg [(.str [120,48]), .list [], .list [.agg [.nils], .agg [.list [m10_8, m10_9, m10_6, .agg [(iN 1), (.str [120]), .nils, (.str [])]]]]], .agg [(.str [120,49]), .list [], m10_16]]
theorem r10_1 : chkR SBf R10_1 [true, true, true] [([120, 48], 1), ([120, 49], 2)] [(0, [97]), (1, [97]), (2, [98])] = some (.bool true) := by kernel_rfl
def R10_2 : List T := [m10_7, .agg [(.str [120,48]), .list [], m10_10], .agg [(.str [120,49]), .list [], .list [.agg [.list [m10_11, .agg [(iN 2), (.str [120]), .nils, (.str [])]]], .agg [.list [m10_15]]]]]
theorem r10_2 : chkR SBf R10_2 [true, true, true] [([120, 48], 1), ([120, 49], 2)] [(0, [97]), (1, [97]), (2, [98])] = some (.bool true) := by kernel_rfl
def R10_3 : List T := [.agg [(.str [120,48]), .list [], m10_10], .agg [(.str [120,49]), .list [], m10_16]]
theorem r10_3 : chkR SBf R10_3 [true, true] [([120, 49], 1), ([120, 48], 0)] [(0, [97]), (1, [98])] = some (.bool true) := by kernel_rfl
def RR10 : List T := [.agg [.list R10_0], .agg [.list R10_1], .agg [.list R10_2], .agg [.list R10_3]]
theorem rr10 : ∀ X ∈ RR10, FbOk X := by
 intro X h
 simp only [RR10, List.mem_cons, List.not_mem_nil, or_false] at h
 rcases h with rfl | rfl | rfl | rfl
 ·exact chkR_ok sb_ok r10_0
 ·exact chkR_ok sb_ok r10_1
 ·exact chkR_ok sb_ok r10_2
 ·exact chkR_ok sb_ok r10_3
def PP10 : List (List Nat) := [[0, 1, 2, 30, 3, 4, 5, 6, 7, 8, 9, 10], [11, 12, 13], [14, 15, 16], [17, 31, 32, 18, 19, 20], [21, 22, 23, 21, 24, 25], [26, 27, 28, 26, 30, 29], [33], [30]]
theorem chk10 : ∀ o b1 b2 b3, copyChk (csOf (rowsOf (WW10 ++ RR10) PP10)) (.agg [L10]) o b1 b2 b3 = some (.bool true) := by
 intro o b1 b2 b3
 kernel_rfl
theorem any10 : AnyG FbOk (.agg [L10]) := anyFb_of rfl (by decide) (fun X h => (List.mem_append.1 h).elim (allW_ok ww10 X) (rr10 X)) chk10
end X
