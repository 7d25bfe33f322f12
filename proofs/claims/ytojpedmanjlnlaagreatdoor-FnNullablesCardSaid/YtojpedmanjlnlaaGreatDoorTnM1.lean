/- A part of the proof. No statement of the claim is in it. -/
import Derived.Test.YtojpedmanjlnlaaGreatDoorTnP0
open Go Go.V Go.Proofs
namespace X
set_option maxRecDepth 100000
set_option maxHeartbeats 4000000
set_option linter.all false
def m1_0 : T := .agg [(iN 3), (.str [83]), .list [], (.str [])]
def m1_1 : T := .agg [(iN 1), (.str [97]), .list [], (.str [])]
def m1_2 : T := .list [.agg [.list [m1_0, m1_1]], .agg [.list [m1_1]]]
def WW1 : List T := [.agg [.list [.agg [(.str []), .list [], m1_2]]], .agg [.list [.agg [(.str [49,97]), .list [], m1_2]]], .agg [.list [.agg [(.str [84,111,111,108,111,110,103]), .list [], m1_2]]], .agg [.list [.agg [(.str [83]), .list [.agg [(.str [97])]], m1_2]]], .agg [.list [.agg [(.str [83]), .list [.agg [(.str [122,122])]], m1_2]]], .agg [.list [.agg [(.str [83]), .list [.agg [(.str [66])]], m1_2]]], .agg [.list [.agg [(.str [83]), .list [], .list []]]], .agg [.list [.agg [(.str [83]), .list [], .list [.agg [.list [m1_0, m1_1, .agg [(iN 0), (.str [120]), .nils, (.str [])]]], .agg [.list [m1_1]]]]]], .agg [.list [.agg [(.str [83]), .list [], .list [.agg [.list [m1_0, m1_1]], .agg [.list [m1_1, .agg [(iN 3), (.str [120]), .nils, (.str [])]]]]]]], .agg [.list [.agg [(.str [83]), .list [], .list [.agg [.list [m1_0, m1_1, .agg [(iN 4), (.str [120]), .nils, (.str [])]]], .agg [.list [m1_1]]]]]], .agg [.list [.agg [(.str [83]), .list [], .list [.agg [.list [m1_0, m1_1]], .agg [.list [m1_1, .agg [(iN 5), (.str [120]), .nils, (.str [])]]]]]]], .agg [.list [.agg [(.str [83]), .list [], .list [.agg [.list [m1_0, m1_1, .agg [(iN 4), (.str []), .list [.agg [.list [.agg [(iN 2), (iN 0), (.str [97]), .nils]]]], (.str [])]]], .agg [.list [m1_1]]]]]], .agg [.list [.agg [(.str [83]), .list [], .list [.agg [.list [m1_0, m1_1]], .agg [.list [m1_1, .agg [(iN 4), (.str []), .list [.agg [.list [.agg [(iN 2), (iN 0), (.str [110]), .nils]]]], (.str [])]]]]]]], .agg [.list [.agg [(.str [83]), .list [], .list [.agg [.list [m1_0, m1_1, .agg [(iN 4), (.str []), .list [.agg [.list [.agg [(iN 2), (iN 0), (.str [113]), .nils]]]], (.str [])]]], .agg [.list [m1_1]]]]]], .agg [.list [.agg [(.str [83]), .list [], .list [.agg [.list [m1_0, m1_1]], .agg [.list [m1_1, .agg [(iN 4), (.str []), .list [.agg [.list [.agg [(iN 2), (iN 0), (.str [97]), .nils]]]], (.str [])]]]]]]], .agg [.list [.agg [(.str [83]), .list [], .list [.agg [.list [m1_0, m1_1, .agg [(iN 4), (.str []), .list [.agg [.list [.agg [(iN 2), (iN 0), (.str [110]), .nils]]]], (.str [])]]], .agg [.list [m1_1]]]]]], .agg [.list [.agg [(.str [83]), .list [], .list [.agg [.list [m1_0, m1_1]], .agg [.list [m1_1, .agg [(iN 4), (.str []), .list [.agg [.list [.agg [(iN 2), (iN 0), (.str [113]), .nils]]]], (.str [])]]]]]]], .agg [.list [.agg [(.str [83]), .list [], .list [.agg [.list [m1_0, m1_1]], .agg [.list [.agg [(iN 1), (.str [97]), .list [], (.str [110])]]]]]]], .agg [.list [.agg [(.str [83]), .list [], .list [.agg [.list [.agg [(iN 3), (.str [83]), .list [], (.str [81])], m1_1]], .agg [.list [m1_1]]]]]], .agg [.list [.agg [(.str [83]), .list [], .list [.agg [.list [m1_0, m1_1]], .agg [.list [.agg [(iN 1), (.str [97]), .list [], (.str [97])]]]]]]], .agg [.list [.agg [(.str [83]), .list [], .list [.agg [.list [m1_0, m1_1]], .agg [.list [.agg [(iN 1), (.str [97]), .list [], (.str [81])]]]]]]], .agg [.list []]]
theorem ww1 : allW WW1 = some (.bool true) := by kernel_rfl
def R1_0 : List T := [.agg [(.str [83]), .list [], m1_2]]
theorem r1_0 : chkR SBf R1_0 [false] [([83], 0)] [(0, [97])] = some (.bool true) := by kernel_rfl
def R1_1 : List T := [.agg [(.str [83]), .list [], .list [.agg [.list [m1_0, m1_1]], .agg [.list [m1_1, .agg [(iN 1), (.str [120]), .nils, (.str [])]]]]]]
theorem r1_1 : chkR SBf R1_1 [false] [([83], 0)] [(0, [97])] = some (.bool true) := by kernel_rfl
def R1_2 : List T := [.agg [(.str [83]), .list [], .list [.agg [.list [m1_0, m1_1, .agg [(iN 2), (.str [120]), .nils, (.str [])]]], .agg [.list [m1_1]]]]]
theorem r1_2 : chkR SBf R1_2 [false] [([83], 0)] [(0, [97])] = some (.bool true) := by kernel_rfl
def R1_3 : List T := [.agg [(.str [83]), .list [], .list [.agg [.list [.agg [(iN 3), (.str [83]), .list [], (.str [97])], m1_1]], .agg [.list [m1_1]]]]]
theorem r1_3 : chkR SBf R1_3 [false] [([83], 0)] [(0, [97])] = some (.bool true) := by kernel_rfl
def R1_4 : List T := [.agg [(.str [83]), .list [], .list [.agg [.list [.agg [(iN 3), (.str [83]), .list [], (.str [110])], m1_1]], .agg [.list [m1_1]]]]]
theorem r1_4 : chkR SBf R1_4 [false] [([83], 0)] [(0, [97])] = some (.bool true) := by kernel_rfl
def RR1 : List T := [.agg [.list R1_0], .agg [.list R1_1], .agg [.list R1_2], .agg [.list R1_3], .agg [.list R1_4]]
theorem rr1 : ∀ X ∈ RR1, FbOk X := by
 intro X h
 simp only [RR1, List.mem_cons, List.not_mem_nil, or_false] at h
 rcases h with rfl | rfl | rfl | rfl | rfl
 ·exact chkR_ok sb_ok r1_0
 ·exact chkR_ok sb_ok r1_1
 ·exact chkR_ok sb_ok r1_2
 ·exact chkR_ok sb_ok r1_3
 ·exact chkR_ok sb_ok r1_4
def PP1 : List (List Nat) := [[0, 1, 2, 22], [3, 4, 5], [6], [7, 23, 24, 8, 9, 10], [11, 12, 13, 14, 15, 16], [25, 17, 18, 19, 26, 20], [21], [22]]
theorem chk1 : ∀ o b1 b2 b3, copyChk (csOf (rowsOf (WW1 ++ RR1) PP1)) (.agg [L1]) o b1 b2 b3 = some (.bool true) := by
 intro o b1 b2 b3
 kernel_rfl
theorem any1 : AnyG FbOk (.agg [L1]) := anyFb_of rfl (by decide) (fun X h => (List.mem_append.1 h).elim (allW_ok ww1 X) (rr1 X)) chk1
end X
