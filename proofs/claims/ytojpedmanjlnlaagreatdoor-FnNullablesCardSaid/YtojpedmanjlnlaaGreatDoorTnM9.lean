/- A part of the proof. No statement of the claim is in it. -/
import Derived.Test.YtojpedmanjlnlaaGreatDoorTnP2
open Go Go.V Go.Proofs
namespace X
set_option maxRecDepth 100000
set_option maxHeartbeats 4000000
set_option linter.all false
def m9_0 : T := .agg [(iN 3), (.str [65]), .list [], (.str [110])]
def m9_1 : T := .agg [(iN 3), (.str [65]), .list [], (.str [109])]
def m9_2 : T := .agg [(iN 2), (iN 0), (.str [110]), .list []]
def m9_3 : T := .agg [(iN 2), (iN 0), (.str [109]), .list []]
def m9_4 : T := .list [.agg [(iN 0)], .agg [(iN 1)]]
def m9_5 : T := .agg [(iN 9), (iN 0), (.str []), m9_4]
def m9_6 : T := .agg [(iN 4), (.str []), .list [.agg [.list [m9_2, m9_3, m9_5]]], (.str [])]
def m9_7 : T := .agg [(.str [83]), .list [], .list [.agg [.list [m9_0, m9_1, m9_6]]]]
def m9_8 : T := .agg [(iN 3), (.str [120,48]), .list [], (.str [])]
def m9_9 : T := .agg [(.str [65]), .list [], .list [.agg [.list [m9_8]]]]
def m9_10 : T := .agg [(iN 1), (.str [97]), .list [], (.str [])]
def m9_11 : T := .list [.agg [.nils], .agg [.list [m9_10, m9_8]]]
def WW9 : List T := [.agg [.list [.agg [(.str []), .list [], .list [.agg [.list [m9_0, m9_1, m9_6]]]], m9_9, .agg [(.str [120,48]), .list [], m9_11]]], .agg [.list [m9_7, .agg [(.str [49,97]), .list [], .list [.agg [.list [m9_8]]]], .agg [(.str [120,48]), .list [], m9_11]]], .agg [.list [m9_7, m9_9, .agg [(.str [84,111,111,108,111,110,103]), .list [], m9_11]]], .agg [.list [m9_7, .agg [(.str []), .list [], .list [.agg [.list [m9_8]]]], .agg [(.str [120,48]), .list [], m9_11]]], .agg [.list [m9_7, m9_9, .agg [(.str [49,97]), .list [], m9_11]]], .agg [.list [.agg [(.str [84,111,111,108,111,110,103]), .list [], .list [.agg [.list [m9_0, m9_1, m9_6]]]], m9_9, .agg [(.str [120,48]), .list [], m9_11]]], .agg [.list [m9_7, .agg [(.str [83]), .list [], .list [.agg [.list [m9_8]]]], .agg [(.str [120,48]), .list [], m9_11]]], .agg [.list [m9_7, m9_9, .agg [(.str []), .list [], m9_11]]], .agg [.list [.agg [(.str [49,97]), .list [], .list [.agg [.list [m9_0, m9_1, m9_6]]]], m9_9, .agg [(.str [120,48]), .list [], m9_11]]], .agg [.list [m9_7, .agg [(.str [84,111,111,108,111,110,103]), .list [], .list [.agg [.list [m9_8]]]], .agg [(.str [120,48]), .list [], m9_11]]], .agg [.list [m9_7, m9_9, .agg [(.str [83]), .list [], m9_11]]], .agg [.list [.agg [(.str [83]), .list [.agg [(.str [97])]], .list [.agg [.list [m9_0, m9_1, m9_6]]]], m9_9, .agg [(.str [120,48]), .list [], m9_11]]], .agg [.list [m9_7, .agg [(.str [65]), .list [.agg [(.str [122,122])]], .list [.agg [.list [m9_8]]]], .agg [(.str [120,48]), .list [], m9_11]]], .agg [.list [m9_7, m9_9, .agg [(.str [120,48]), .list [.agg [(.str [66])]], m9_11]]], .agg [.list [.agg [(.str [83]), .list [], .list []], m9_9, .agg [(.str [120,48]), .list [], m9_11]]], .agg [.list [m9_7, .agg [(.str [65]), .list [], .list []], .agg [(.str [120,48]), .list [], m9_11]]], .agg [.list [m9_7, m9_9, .agg [(.str [120,48]), .list [], .list []]]], .agg [.list [.agg [(.str [83]), .list [], .list [.agg [.list [m9_0, m9_1, m9_6, .agg [(iN 0), (.str [120]), .nils, (.str [])]]]]], m9_9, .agg [(.str [120,48]), .list [], m9_11]]], .agg [.list [.agg [(.str [83]), .list [], .list [.agg [.list [m9_0, m9_1, m9_6, .agg [(iN 3), (.str [120]), .nils, (.str [])]]]]], m9_9, .agg [(.str [120,48]), .list [], m9_11]]], .agg [.list [m9_7, .agg [(.str [65]), .list [], .list [.agg [.list [m9_8, .agg [(iN 4), (.str [120]), .nils, (.str [])]]]]], .agg [(.str [120,48]), .list [], m9_11]]], .agg [.list [m9_7, m9_9, .agg [(.str [120,48]), .list [], .list [.agg [.nils], .agg [.list [m9_10, m9_8, .agg [(iN 5), (.str [120]), .nils, (.str [])]]]]]]], .agg [.list [.agg [(.str [83]), .list [], .list [.agg [.list [m9_0, m9_1, m9_6, .agg [(iN 4), (.str []), .list [.agg [.list [.agg [(iN 2), (iN 0), (.str [97]), .nils]]]], (.str [])]]]]], m9_9, .agg [(.str [120,48]), .list [], m9_11]]], .agg [.list [m9_7, .agg [(.str [65]), .list [], .list [.agg [.list [m9_8, .agg [(iN 4), (.str []), .list [.agg [.list [.agg [(iN 2), (iN 0), (.str [110]), .nils]]]], (.str [])]]]]], .agg [(.str [120,48]), .list [], m9_11]]], .agg [.list [m9_7, m9_9, .agg [(.str [120,48]), .list [], .list [.agg [.list [.agg [(iN 4), (.str []), .list [.agg [.list [.agg [(iN 2), (iN 0), (.str [113]), .nils]]]], (.str [])]]], .agg [.list [m9_10, m9_8]]]]]], .agg [.list [m9_7, m9_9, .agg [(.str [120,48]), .list [], .list [.agg [.nils], .agg [.list [m9_10, m9_8, .agg [(iN 4), (.str []), .list [.agg [.list [.agg [(iN 2), (iN 0), (.str [113]), .nils]]]], (.str [])]]]]]]], .agg [.list [.agg [(.str [83]), .list [], .list [.agg [.list [.agg [(iN 3), (.str [65]), .list [], (.str [97])], m9_1, m9_6]]]], m9_9, .agg [(.str [120,48]), .list [], m9_11]]], .agg [.list [m9_7, m9_9, .agg [(.str [120,48]), .list [], .list [.agg [.nils], .agg [.list [.agg [(iN 1), (.str [97]), .list [], (.str [81])], m9_8]]]]]]]
theorem ww9 : allW WW9 = some (.bool true) := by kernel_rfl
def R9_0 : List T := [m9_7, m9_9, .agg [(.str [120,48]), .list [], m9_11]]
theorem r9_0 : chkR SBf R9_0 [true, true, true] [([65], 1), ([120, 48], 2)] [(0, [97]), (1, [97]), (2, [97])] = some (.bool true) := by kernel_rfl
def R9_1 : List T := [m9_7, .agg [(.str [65]), .list [], .list [.agg [.list [m9_8, .agg [(iN 1), (.str [120]), .nils, (.str [])]]]]], .agg [(.str [120,48]), .list [], m9_11]]
theorem r9_1 : chkR SBf R9_1 [false, false, true] [([65], 1), ([120, 48], 2)] [(0, [97, 120]), (1, [97, 120]), (2, [97])] = some (.bool true) := by kernel_rfl
def R9_2 : List T := [m9_7, m9_9, .agg [(.str [120,48]), .list [], .list [.agg [.list [.agg [(iN 2), (.str [120]), .nils, (.str [])]]], .agg [.list [m9_10, m9_8]]]]]
theorem r9_2 : chkR SBf R9_2 [false, false, false] [([65], 1), ([120, 48], 2)] [(0, [97, 120]), (1, [97, 120]), (2, [97, 120])] = some (.bool true) := by kernel_rfl
def R9_3 : List T := [m9_7, .agg [(.str [65]), .list [], .list [.agg [.list [.agg [(iN 3), (.str [120,48]), .list [], (.str [110])]]]]], .agg [(.str [120,48]), .list [], m9_11]]
theorem r9_3 : chkR SBf R9_3 [true, true, true] [([65], 1), ([120, 48], 2)] [(0, [97]), (1, [97]), (2, [97])] = some (.bool true) := by kernel_rfl
def R9_4 : List T := [m9_9, .agg [(.str [120,48]), .list [], m9_11]]
theorem r9_4 : chkR SBf R9_4 [true, true] [([120, 48], 1)] [(0, [97]), (1, [97])] = some (.bool true) := by kernel_rfl
def RR9 : List T := [.agg [.list R9_0], .agg [.list R9_1], .agg [.list R9_2], .agg [.list R9_3], .agg [.list R9_4]]
theorem rr9 : ∀ X ∈ RR9, FbOk X := by
 intro X h
 simp only [RR9, List.mem_cons, List.not_mem_nil, or_false] at h
 rcases h with rfl | rfl | rfl | rfl | rfl
 ·exact chkR_ok sb_ok r9_0
 ·exact chkR_ok sb_ok r9_1
 ·exact chkR_ok sb_ok r9_2
 ·exact chkR_ok sb_ok r9_3
 ·exact chkR_ok sb_ok r9_4
def PP9 : List (List Nat) := [[0, 1, 2, 27, 3, 4, 5, 6, 7, 8, 9, 10], [11, 12, 13], [14, 15, 16], [17, 28, 29, 18, 19, 20], [21, 22, 23, 21, 22, 24], [25, 30, 27, 25, 30, 26], [31], [27]]
theorem chk9 : ∀ o b1 b2 b3, copyChk (csOf (rowsOf (WW9 ++ RR9) PP9)) (.agg [L9]) o b1 b2 b3 = some (.bool true) := by
 intro o b1 b2 b3
 kernel_rfl
theorem any9 : AnyG FbOk (.agg [L9]) := anyFb_of rfl (by decide) (fun X h => (List.mem_append.1 h).elim (allW_ok ww9 X) (rr9 X)) chk9
end X
