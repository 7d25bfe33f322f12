/- A part of the proof. No statement of the claim is in it. -/
import Derived.Test.YtojpedmanjlnlaaGreatDoorTnP1
open Go Go.V Go.Proofs
namespace X
set_option maxRecDepth 100000
set_option maxHeartbeats 4000000
set_option linter.all false
def m6_0 : T := .agg [(iN 3), (.str [120,48]), .list [], (.str [])]
def m6_1 : T := .agg [(iN 3), (.str [120,49]), .list [], (.str [])]
def m6_2 : T := .agg [(.str [83]), .list [], .list [.agg [.list [m6_0, m6_1]]]]
def m6_3 : T := .agg [(iN 2), (.str [97,98]), .list [], (.str [])]
def m6_4 : T := .list [.agg [.list [m6_3]], .agg [.list [m6_3, m6_0]]]
def m6_5 : T := .agg [(iN 1), (.str [49]), .list [], (.str [])]
def m6_6 : T := .list [.agg [.list [m6_5]], .agg [.nils]]
def WW6 : List T := [.agg [.list [.agg [(.str []), .list [], .list [.agg [.list [m6_0, m6_1]]]], .agg [(.str [120,48]), .list [], m6_4], .agg [(.str [120,49]), .list [], m6_6]]], .agg [.list [m6_2, .agg [(.str [49,97]), .list [], m6_4], .agg [(.str [120,49]), .list [], m6_6]]], .agg [.list [m6_2, .agg [(.str [120,48]), .list [], m6_4], .agg [(.str [84,111,111,108,111,110,103]), .list [], m6_6]]], .agg [.list [m6_2, .agg [(.str []), .list [], m6_4], .agg [(.str [120,49]), .list [], m6_6]]], .agg [.list [m6_2, .agg [(.str [120,48]), .list [], m6_4], .agg [(.str [49,97]), .list [], m6_6]]], .agg [.list [.agg [(.str [84,111,111,108,111,110,103]), .list [], .list [.agg [.list [m6_0, m6_1]]]], .agg [(.str [120,48]), .list [], m6_4], .agg [(.str [120,49]), .list [], m6_6]]], .agg [.list [m6_2, .agg [(.str [83]), .list [], m6_4], .agg [(.str [120,49]), .list [], m6_6]]], .agg [.list [m6_2, .agg [(.str [120,48]), .list [], m6_4], .agg [(.str []), .list [], m6_6]]], .agg [.list [.agg [(.str [49,97]), .list [], .list [.agg [.list [m6_0, m6_1]]]], .agg [(.str [120,48]), .list [], m6_4], .agg [(.str [120,49]), .list [], m6_6]]], .agg [.list [m6_2, .agg [(.str [84,111,111,108,111,110,103]), .list [], m6_4], .agg [(.str [120,49]), .list [], m6_6]]], .agg [.list [m6_2, .agg [(.str [120,48]), .list [], m6_4], .agg [(.str [83]), .list [], m6_6]]], .agg [.list [.agg [(.str [83]), .list [.agg [(.str [97])]], .list [.agg [.list [m6_0, m6_1]]]], .agg [(.str [120,48]), .list [], m6_4], .agg [(.str [120,49]), .list [], m6_6]]], .agg [.list [m6_2, .agg [(.str [120,48]), .list [.agg [(.str [122,122])]], m6_4], .agg [(.str [120,49]), .list [], m6_6]]], .agg [.list [m6_2, .agg [(.str [120,48]), .list [], m6_4], .agg [(.str [120,49]), .list [.agg [(.str [66])]], m6_6]]], .agg [.list [.agg [(.str [83]), .list [], .list []], .agg [(.str [120,48]), .list [], m6_4], .agg [(.str [120,49]), .list [], m6_6]]], .agg [.list [m6_2, .agg [(.str [120,48]), .list [], .list []], .agg [(.str [120,49]), .list [], m6_6]]], .agg [.list [m6_2, .agg [(.str [120,48]), .list [], m6_4], .agg [(.str [120,49]), .list [], .list []]]], .agg [.list [.agg [(.str [83]), .list [], .list [.agg [.list [m6_0, m6_1, .agg [(iN 0), (.str [120]), .nils, (.str [])]]]]], .agg [(.str [120,48]), .list [], m6_4], .agg [(.str [120,49]), .list [], m6_6]]], .agg [.list [.agg [(.str [83]), .list [], .list [.agg [.list [m6_0, m6_1, .agg [(iN 3), (.str [120]), .nils, (.str [])]]]]], .agg [(.str [120,48]), .list [], m6_4], .agg [(.str [120,49]), .list [], m6_6]]], .agg [.list [m6_2, .agg [(.str [120,48]), .list [], .list [.agg [.list [m6_3, .agg [(iN 4), (.str [120]), .nils, (.str [])]]], .agg [.list [m6_3, m6_0]]]], .agg [(.str [120,49]), .list [], m6_6]]], .agg [.list [m6_2, .agg [(.str [120,48]), .list [], m6_4], .agg [(.str [120,49]), .list [], .list [.agg [.list [m6_5]], .agg [.list [.agg [(iN 5), (.str [120]), .nils, (.str [])]]]]]]], .agg [.list [.agg [(.str [83]), .list [], .list [.agg [.list [m6_0, m6_1, .agg [(iN 4), (.str []), .list [.agg [.list [.agg [(iN 2), (iN 0), (.str [97]), .nils]]]], (.str [])]]]]], .agg [(.str [120,48]), .list [], m6_4], .agg [(.str [120,49]), .list [], m6_6]]], .agg [.list [m6_2, .agg [(.str [120,48]), .list [], .list [.agg [.list [m6_3]], .agg [.list [m6_3, m6_0, .agg [(iN 4), (.str []), .list [.agg [.list [.agg [(iN 2), (iN 0), (.str [110]), .nils]]]], (.str [])]]]]], .agg [(.str [120,49]), .list [], m6_6]]], .agg [.list [m6_2, .agg [(.str [120,48]), .list [], m6_4], .agg [(.str [120,49]), .list [], .list [.agg [.list [m6_5, .agg [(iN 4), (.str []), .list [.agg [.list [.agg [(iN 2), (iN 0), (.str [113]), .nils]]]], (.str [])]]], .agg [.nils]]]]], .agg [.list [m6_2, .agg [(.str [120,48]), .list [], .list [.agg [.list [m6_3, .agg [(iN 4), (.str []), .list [.agg [.list [.agg [(iN 2), (iN 0), (.str [110]), .nils]]]], (.str [])]]], .agg [.list [m6_3, m6_0]]]], .agg [(.str [120,49]), .list [], m6_6]]], .agg [.list [m6_2, .agg [(.str [120,48]), .list [], m6_4], .agg [(.str [120,49]), .list [], .list [.agg [.list [m6_5]], .agg [.list [.agg [(iN 4), (.str []), .list [.agg [.list [.agg [(iN 2), (iN 0), (.str [113]), .nils]]]], (.str [])]]]]]]], .agg [.list [m6_2, .agg [(.str [120,48]), .list [], .list [.agg [.list [m6_3]], .agg [.list [.agg [(iN 2), (.str [97,98]), .list [], (.str [110])], m6_0]]]], .agg [(.str [120,49]), .list [], m6_6]]], .agg [.list [m6_2, .agg [(.str [120,48]), .list [], m6_4], .agg [(.str [120,49]), .list [], .list [.agg [.list [.agg [(iN 1), (.str [49]), .list [], (.str [81])]]], .agg [.nils]]]]], .agg [.list [m6_2, .agg [(.str [120,48]), .list [], .list [.agg [.list [.agg [(iN 2), (.str [97,98]), .list [], (.str [110])]]], .agg [.list [m6_3, m6_0]]]], .agg [(.str [120,49]), .list [], m6_6]]]]
theorem ww6 : allW WW6 = some (.bool true) := by kernel_rfl
def R6_0 : List T := [m6_2, .agg [(.str [120,48]), .list [], m6_4], .agg [(.str [120,49]), .list [], m6_6]]
theorem r6_0 : chkR SBf R6_0 [false, false, true] [([120, 48], 1), ([120, 49], 2)] [(0, [97, 98]), (1, [97, 98]), (2, [49])] = some (.bool true) := by kernel_rfl
def R6_1 : List T := [m6_2, .agg [(.str [120,48]), .list [], .list [.agg [.list [m6_3]], .agg [.list [m6_3, m6_0, .agg [(iN 1), (.str [120]), .nils, (.str [])]]]]], .agg [(.str [120,49]), .list [], m6_6]]
theorem r6_1 : chkR SBf R6_1 [false, false, true] [([120, 48], 1), ([120, 49], 2)] [(0, [97, 98]), (1, [97, 98]), (2, [49])] = some (.bool true) := by kernel_rfl
def R6_2 : List T := [m6_2, .agg [(.str [120,48]), .list [], m6_4], .agg [(.str [120,49]), .list [], .list [.agg [.list [m6_5, .agg [(iN 2), (.str [120]), .nils, (.str [])]]], .agg [.nils]]]]
theorem r6_2 : chkR SBf R6_2 [false, false, true] [([120, 48], 1), ([120, 49], 2)] [(0, [97, 98]), (1, [97, 98]), (2, [49])] = some (.bool true) := by kernel_rfl
def R6_3 : List T := [.agg [(.str [83]), .list [], .list [.agg [.list [.agg [(iN 3), (.str [120,48]), .list [], (.str [97])], m6_1]]]], .agg [(.str [120,48]), .list [], m6_4], .agg [(.str [120,49]), .list [], m6_6]]
theorem r6_3 : chkR SBf R6_3 [false, false, true] [([120, 48], 1), ([120, 49], 2)] [(0, [97, 98]), (1, [97, 98]), (2, [49])] = some (.bool true) := by kernel_rfl
def R6_4 : List T := [.agg [(.str [120,48]), .list [], m6_4], .agg [(.str [120,49]), .list [], m6_6]]
theorem r6_4 : chkR SBf R6_4 [false, true] [([120, 48], 0)] [(0, [97, 98]), (1, [49])] = some (.bool true) := by kernel_rfl
def RR6 : List T := [.agg [.list R6_0], .agg [.list R6_1], .agg [.list R6_2], .agg [.list R6_3], .agg [.list R6_4]]
theorem rr6 : ∀ X ∈ RR6, FbOk X := by
 intro X h
 simp only [RR6, List.mem_cons, List.not_mem_nil, or_false] at h
 rcases h with rfl | rfl | rfl | rfl | rfl
 ·exact chkR_ok sb_ok r6_0
 ·exact chkR_ok sb_ok r6_1
 ·exact chkR_ok sb_ok r6_2
 ·exact chkR_ok sb_ok r6_3
 ·exact chkR_ok sb_ok r6_4
def PP6 : List (List Nat) := [[0, 1, 2, 29, 3, 4, 5, 6, 7, 8, 9, 10], [11, 12, 13], [14, 15, 16], [17, 30, 31, 18, 19, 20], [21, 22, 23, 21, 24, 25], [32, 26, 27, 32, 28, 29], [33], [29]]
theorem chk6 : ∀ o b1 b2 b3, copyChk (csOf (rowsOf (WW6 ++ RR6) PP6)) (.agg [L6]) o b1 b2 b3 = some (.bool true) := by
 intro o b1 b2 b3
 kernel_rfl
theorem any6 : AnyG FbOk (.agg [L6]) := anyFb_of rfl (by decide) (fun X h => (List.mem_append.1 h).elim (allW_ok ww6 X) (rr6 X)) chk6
end X
