/- A part of the proof. No statement of the claim is in it. -/
import Derived.Test.YtojpedmanjlnlaaGreatDoorTnP0
open Go Go.V Go.Proofs
namespace X
set_option maxRecDepth 100000
set_option maxHeartbeats 4000000
set_option linter.all false
def m3_0 : T := .agg [(iN 3), (.str [120,48]), .list [], (.str [])]
def m3_1 : T := .agg [(iN 1), (.str [97]), .list [], (.str [])]
def m3_2 : T := .agg [(.str [83]), .list [], .list [.agg [.list [m3_0, m3_1]]]]
def m3_3 : T := .agg [(iN 1), (.str [98]), .list [], (.str [])]
def m3_4 : T := .list [.agg [.nils], .agg [.list [m3_1, m3_0]], .agg [.list [m3_3, m3_0]]]
def WW3 : List T := [.agg [.list [.agg [(.str []), .list [], .list [.agg [.list [m3_0, m3_1]]]], .agg [(.str [120,48]), .list [], m3_4]]], .agg [.list [m3_2, .agg [(.str [49,97]), .list [], m3_4]]], .agg [.list [.agg [(.str [84,111,111,108,111,110,103]), .list [], .list [.agg [.list [m3_0, m3_1]]]], .agg [(.str [120,48]), .list [], m3_4]]], .agg [.list [m3_2, .agg [(.str [83]), .list [], m3_4]]], .agg [.list [.agg [(.str [83]), .list [.agg [(.str [97])]], .list [.agg [.list [m3_0, m3_1]]]], .agg [(.str [120,48]), .list [], m3_4]]], .agg [.list [m3_2, .agg [(.str [120,48]), .list [.agg [(.str [122,122])]], m3_4]]], .agg [.list [.agg [(.str [83]), .list [.agg [(.str [66])]], .list [.agg [.list [m3_0, m3_1]]]], .agg [(.str [120,48]), .list [], m3_4]]], .agg [.list [m3_2, .agg [(.str [120,48]), .list [.agg [(.str [97])]], m3_4]]], .agg [.list [.agg [(.str [83]), .list [.agg [(.str [122,122])]], .list [.agg [.list [m3_0, m3_1]]]], .agg [(.str [120,48]), .list [], m3_4]]], .agg [.list [m3_2, .agg [(.str [120,48]), .list [.agg [(.str [66])]], m3_4]]], .agg [.list [.agg [(.str [83]), .list [], .list []], .agg [(.str [120,48]), .list [], m3_4]]], .agg [.list [m3_2, .agg [(.str [120,48]), .list [], .list []]]], .agg [.list [.agg [(.str [83]), .list [], .list [.agg [.list [m3_0, m3_1, .agg [(iN 0), (.str [120]), .nils, (.str [])]]]]], .agg [(.str [120,48]), .list [], m3_4]]], .agg [.list [m3_2, .agg [(.str [120,48]), .list [], .list [.agg [.list [.agg [(iN 3), (.str [120]), .nils, (.str [])]]], .agg [.list [m3_1, m3_0]], .agg [.list [m3_3, m3_0]]]]]], .agg [.list [.agg [(.str [83]), .list [], .list [.agg [.list [m3_0, m3_1, .agg [(iN 4), (.str [120]), .nils, (.str [])]]]]], .agg [(.str [120,48]), .list [], m3_4]]], .agg [.list [m3_2, .agg [(.str [120,48]), .list [], .list [.agg [.nils], .agg [.list [m3_1, m3_0]], .agg [.list [m3_3, m3_0, .agg [(iN 5), (.str [120]), .nils, (.str [])]]]]]]], .agg [.list [.agg [(.str [83]), .list [], .list [.agg [.list [m3_0, m3_1, .agg [(iN 4), (.str []), .list [.agg [.list [.agg [(iN 2), (iN 0), (.str [97]), .nils]]]], (.str [])]]]]], .agg [(.str [120,48]), .list [], m3_4]]], .agg [.list [m3_2, .agg [(.str [120,48]), .list [], .list [.agg [.nils], .agg [.list [m3_1, m3_0, .agg [(iN 4), (.str []), .list [.agg [.list [.agg [(iN 2), (iN 0), (.str [110]), .nils]]]], (.str [])]]], .agg [.list [m3_3, m3_0]]]]]], .agg [.list [.agg [(.str [83]), .list [], .list [.agg [.list [m3_0, m3_1, .agg [(iN 4), (.str []), .list [.agg [.list [.agg [(iN 2), (iN 0), (.str [113]), .nils]]]], (.str [])]]]]], .agg [(.str [120,48]), .list [], m3_4]]], .agg [.list [m3_2, .agg [(.str [120,48]), .list [], .list [.agg [.list [.agg [(iN 4), (.str []), .list [.agg [.list [.agg [(iN 2), (iN 0), (.str [97]), .nils]]]], (.str [])]]], .agg [.list [m3_1, m3_0]], .agg [.list [m3_3, m3_0]]]]]], .agg [.list [.agg [(.str [83]), .list [], .list [.agg [.list [m3_0, m3_1, .agg [(iN 4), (.str []), .list [.agg [.list [.agg [(iN 2), (iN 0), (.str [110]), .nils]]]], (.str [])]]]]], .agg [(.str [120,48]), .list [], m3_4]]], .agg [.list [m3_2, .agg [(.str [120,48]), .list [], .list [.agg [.nils], .agg [.list [m3_1, m3_0]], .agg [.list [m3_3, m3_0, .agg [(iN 4), (.str []), .list [.agg [.list [.agg [(iN 2), (iN 0), (.str [113]), .nils]]]], (.str [])]]]]]]], .agg [.list [m3_2, .agg [(.str [120,48]), .list [], .list [.agg [.nils], .agg [.list [.agg [(iN 1), (.str [97]), .list [], (.str [110])], m3_0]], .agg [.list [m3_3, m3_0]]]]]], .agg [.list [.agg [(.str [83]), .list [], .list [.agg [.list [.agg [(iN 3), (.str [120,48]), .list [], (.str [81])], m3_1]]]], .agg [(.str [120,48]), .list [], m3_4]]], .agg [.list [m3_2, .agg [(.str [120,48]), .list [], .list [.agg [.nils], .agg [.list [m3_1, m3_0]], .agg [.list [.agg [(iN 1), (.str [98]), .list [], (.str [81])], m3_0]]]]]]]
theorem ww3 : allW WW3 = some (.bool true) := by kernel_rfl
def R3_0 : List T := [m3_2, .agg [(.str [120,48]), .list [], .list [.agg [.nils], .agg [.list [m3_1, m3_0, .agg [(iN 1), (.str [120]), .nils, (.str [])]]], .agg [.list [m3_3, m3_0]]]]]
theorem r3_0 : chkR SBf R3_0 [false, true] [([120, 48], 1)] [(0, [97, 98]), (1, [97, 98])] = some (.bool true) := by kernel_rfl
def R3_1 : List T := [.agg [(.str [83]), .list [], .list [.agg [.list [m3_0, m3_1, .agg [(iN 2), (.str [120]), .nils, (.str [])]]]]], .agg [(.str [120,48]), .list [], m3_4]]
theorem r3_1 : chkR SBf R3_1 [false, true] [([120, 48], 1)] [(0, [97, 98]), (1, [97, 98])] = some (.bool true) := by kernel_rfl
def R3_2 : List T := [.agg [(.str [83]), .list [], .list [.agg [.list [.agg [(iN 3), (.str [120,48]), .list [], (.str [97])], m3_1]]]], .agg [(.str [120,48]), .list [], m3_4]]
theorem r3_2 : chkR SBf R3_2 [false, true] [([120, 48], 1)] [(0, [97, 98]), (1, [97, 98])] = some (.bool true) := by kernel_rfl
def R3_3 : List T := [m3_2, .agg [(.str [120,48]), .list [], m3_4]]
theorem r3_3 : chkR SBf R3_3 [false, true] [([120, 48], 1)] [(0, [97, 98]), (1, [97, 98])] = some (.bool true) := by kernel_rfl
def R3_4 : List T := [.agg [(.str [83]), .list [], .list [.agg [.list [.agg [(iN 3), (.str [120,48]), .list [], (.str [110])], m3_1]]]], .agg [(.str [120,48]), .list [], m3_4]]
theorem r3_4 : chkR SBf R3_4 [false, true] [([120, 48], 1)] [(0, [97, 98]), (1, [97, 98])] = some (.bool true) := by kernel_rfl
def R3_5 : List T := [.agg [(.str [120,48]), .list [], m3_4]]
theorem r3_5 : chkR SBf R3_5 [true] [([120, 48], 0)] [(0, [97, 98])] = some (.bool true) := by kernel_rfl
def RR3 : List T := [.agg [.list R3_0], .agg [.list R3_1], .agg [.list R3_2], .agg [.list R3_3], .agg [.list R3_4], .agg [.list R3_5]]
theorem rr3 : ∀ X ∈ RR3, FbOk X := by
 intro X h
 simp only [RR3, List.mem_cons, List.not_mem_nil, or_false] at h
 rcases h with rfl | rfl | rfl | rfl | rfl | rfl
 ·exact chkR_ok sb_ok r3_0
 ·exact chkR_ok sb_ok r3_1
 ·exact chkR_ok sb_ok r3_2
 ·exact chkR_ok sb_ok r3_3
 ·exact chkR_ok sb_ok r3_4
 ·exact chkR_ok sb_ok r3_5
def PP3 : List (List Nat) := [[0, 1, 2, 3], [4, 5, 6, 7, 8, 9], [10, 11], [12, 25, 26, 13, 14, 15], [16, 17, 18, 19, 20, 21], [27, 22, 23, 28, 29, 24], [30], [28]]
theorem chk3 : ∀ o b1 b2 b3, copyChk (csOf (rowsOf (WW3 ++ RR3) PP3)) (.agg [L3]) o b1 b2 b3 = some (.bool true) := by
 intro o b1 b2 b3
 kernel_rfl
theorem any3 : AnyG FbOk (.agg [L3]) := anyFb_of rfl (by decide) (fun X h => (List.mem_append.1 h).elim (allW_ok ww3 X) (rr3 X)) chk3
end X
