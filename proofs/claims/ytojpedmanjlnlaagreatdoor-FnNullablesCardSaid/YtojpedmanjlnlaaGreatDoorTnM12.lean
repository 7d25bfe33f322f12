/- A part of the proof. No statement of the claim is in it. -/
import Derived.Test.YtojpedmanjlnlaaGreatDoorTnP3
open Go Go.V Go.Proofs
namespace X
set_option maxRecDepth 100000
set_option maxHeartbeats 4000000
set_option linter.all false
def m12_0 : T := .agg [(iN 1), (iN 3), (.str []), .list []]
def m12_1 : T := .agg [(iN 3), (.str [67]), .list [.agg [.list [m12_0]]], (.str [])]
def m12_2 : T := .agg [(.str [83]), .list [], .list [.agg [.list [m12_1]]]]
def m12_3 : T := .agg [(iN 1), (.str [97]), .list [], (.str [])]
def m12_4 : T := .agg [(iN 2), (iN 0), (.str [110]), .list []]
def m12_5 : T := .agg [(iN 1), (iN 2), (.str []), .list []]
def m12_6 : T := .list [.agg [(iN 0)], .agg [(iN 1)]]
def m12_7 : T := .agg [(iN 7), (iN 0), (.str []), m12_6]
def m12_8 : T := .list [.agg [.list [m12_4, m12_5, m12_7]]]
def m12_9 : T := .agg [(iN 3), (.str [67]), m12_8, (.str [])]
def m12_10 : T := .agg [(iN 1), (iN 0), (.str []), .list []]
def m12_11 : T := .agg [(iN 9), (iN 0), (.str []), m12_6]
def m12_12 : T := .list [.agg [.list [m12_4, m12_10, m12_11]]]
def m12_13 : T := .agg [(iN 4), (.str []), m12_12, (.str [])]
def m12_14 : T := .agg [(iN 1), (iN 9), (.str []), .list []]
def m12_15 : T := .agg [(iN 6), (iN 0), (.str []), m12_6]
def m12_16 : T := .list [.agg [.list [m12_4, m12_14, m12_15]]]
def m12_17 : T := .agg [(iN 3), (.str [67]), m12_16, (.str [])]
def m12_18 : T := .list [.agg [.list [m12_3, m12_9]], .agg [.list [m12_13]], .agg [.list [m12_17]]]
def m12_19 : T := .agg [(.str [67]), .list [.agg [(.str [110])]], m12_18]
def WW12 : List T := [.agg [.list [.agg [(.str []), .list [], .list [.agg [.list [m12_1]]]], m12_19]], .agg [.list [m12_2, .agg [(.str [49,97]), .list [.agg [(.str [110])]], m12_18]]], .agg [.list [.agg [(.str [84,111,111,108,111,110,103]), .list [], .list [.agg [.list [m12_1]]]], m12_19]], .agg [.list [m12_2, .agg [(.str [83]), .list [.agg [(.str [110])]], m12_18]]], .agg [.list [.agg [(.str [83]), .list [.agg [(.str [97])]], .list [.agg [.list [m12_1]]]], m12_19]], .agg [.list [m12_2, .agg [(.str [67]), .list [.agg [(.str [110])], .agg [(.str [122,122])]], m12_18]]], .agg [.list [.agg [(.str [83]), .list [.agg [(.str [66])]], .list [.agg [.list [m12_1]]]], m12_19]], .agg [.list [m12_2, .agg [(.str [67]), .list [.agg [(.str [110])], .agg [(.str [97])]], m12_18]]], .agg [.list [.agg [(.str [83]), .list [.agg [(.str [122,122])]], .list [.agg [.list [m12_1]]]], m12_19]], .agg [.list [m12_2, .agg [(.str [67]), .list [.agg [(.str [110])], .agg [(.str [66])]], m12_18]]], .agg [.list [.agg [(.str [83]), .list [], .list []], m12_19]], .agg [.list [m12_2, .agg [(.str [67]), .list [.agg [(.str [110])]], .list []]]], .agg [.list [.agg [(.str [83]), .list [], .list [.agg [.list [m12_1, .agg [(iN 0), (.str [120]), .nils, (.str [])]]]]], m12_19]], .agg [.list [m12_2, .agg [(.str [67]), .list [.agg [(.str [110])]], .list [.agg [.list [m12_3, m12_9, .agg [(iN 3), (.str [120]), .nils, (.str [])]]], .agg [.list [m12_13]], .agg [.list [m12_17]]]]]], .agg [.list [.agg [(.str [83]), .list [], .list [.agg [.list [m12_1, .agg [(iN 4), (.str [120]), .nils, (.str [])]]]]], m12_19]], .agg [.list [m12_2, .agg [(.str [67]), .list [.agg [(.str [110])]], .list [.agg [.list [m12_3, m12_9]], .agg [.list [m12_13]], .agg [.list [m12_17, .agg [(iN 5), (.str [120]), .nils, (.str [])]]]]]]], .agg [.list [.agg [(.str [83]), .list [], .list [.agg [.list [m12_1, .agg [(iN 4), (.str []), .list [.agg [.list [.agg [(iN 2), (iN 0), (.str [97]), .nils]]]], (.str [])]]]]], m12_19]], .agg [.list [.agg [(.str [83]), .list [], .list [.agg [.list [m12_1, .agg [(iN 4), (.str []), .list [.agg [.list [.agg [(iN 2), (iN 0), (.str [113]), .nils]]]], (.str [])]]]]], m12_19]], .agg [.list [m12_2, .agg [(.str [67]), .list [.agg [(.str [110])]], .list [.agg [.list [m12_3, m12_9, .agg [(iN 4), (.str []), .list [.agg [.list [.agg [(iN 2), (iN 0), (.str [97]), .nils]]]], (.str [])]]], .agg [.list [m12_13]], .agg [.list [m12_17]]]]]], .agg [.list [.agg [(.str [83]), .list [], .list [.agg [.list [m12_1, .agg [(iN 4), (.str []), .list [.agg [.list [.agg [(iN 2), (iN 0), (.str [110]), .nils]]]], (.str [])]]]]], m12_19]], .agg [.list [m12_2, .agg [(.str [67]), .list [.agg [(.str [110])]], .list [.agg [.list [m12_3, m12_9]], .agg [.list [m12_13]], .agg [.list [m12_17, .agg [(iN 4), (.str []), .list [.agg [.list [.agg [(iN 2), (iN 0), (.str [113]), .nils]]]], (.str [])]]]]]]], .agg [.list [m12_2, .agg [(.str [67]), .list [.agg [(.str [110])]], .list [.agg [.list [m12_3, m12_9]], .agg [.list [.agg [(iN 4), (.str []), m12_12, (.str [110])]]], .agg [.list [m12_17]]]]]], .agg [.list [.agg [(.str [83]), .list [], .list [.agg [.list [.agg [(iN 3), (.str [67]), .list [.agg [.list [m12_0]]], (.str [81])]]]]], m12_19]], .agg [.list [m12_2, .agg [(.str [67]), .list [.agg [(.str [110])]], .list [.agg [.list [.agg [(iN 1), (.str [97]), .list [], (.str [97])], m12_9]], .agg [.list [m12_13]], .agg [.list [m12_17]]]]]], .agg [.list [m12_2, .agg [(.str [67]), .list [.agg [(.str [110])]], .list [.agg [.list [m12_3, m12_9]], .agg [.list [m12_13]], .agg [.list [.agg [(iN 3), (.str [67]), m12_16, (.str [81])]]]]]]], .agg [.list [m12_19]]]
theorem ww12 : allW WW12 = some (.bool true) := by kernel_rfl
def R12_0 : List T := [m12_2, .agg [(.str [67]), .list [.agg [(.str [110])]], .list [.agg [.list [m12_3, m12_9]], .agg [.list [m12_13, .agg [(iN 1), (.str [120]), .nils, (.str [])]]], .agg [.list [m12_17]]]]]
theorem r12_0 : chkR SBf R12_0 [false, false] [([67], 1)] [(0, [97, 120]), (1, [97, 120])] = some (.bool true) := by kernel_rfl
def R12_1 : List T := [.agg [(.str [83]), .list [], .list [.agg [.list [m12_1, .agg [(iN 2), (.str [120]), .nils, (.str [])]]]]], m12_19]
theorem r12_1 : chkR SBf R12_1 [false, true] [([67], 1)] [(0, [97, 120]), (1, [97])] = some (.bool true) := by kernel_rfl
def R12_2 : List T := [m12_2, .agg [(.str [67]), .list [.agg [(.str [110])]], .list [.agg [.list [m12_3, m12_9]], .agg [.list [m12_13, .agg [(iN 4), (.str []), .list [.agg [.list [.agg [(iN 2), (iN 0), (.str [110]), .nils]]]], (.str [])]]], .agg [.list [m12_17]]]]]
theorem r12_2 : chkR SBf R12_2 [true, true] [([67], 1)] [(0, [97]), (1, [97])] = some (.bool true) := by kernel_rfl
def R12_3 : List T := [.agg [(.str [83]), .list [], .list [.agg [.list [.agg [(iN 3), (.str [67]), .list [.agg [.list [m12_0]]], (.str [97])]]]]], m12_19]
theorem r12_3 : chkR SBf R12_3 [true, true] [([67], 1)] [(0, [97]), (1, [97])] = some (.bool true) := by kernel_rfl
def R12_4 : List T := [.agg [(.str [83]), .list [], .list [.agg [.list [.agg [(iN 3), (.str [67]), .list [.agg [.list [m12_0]]], (.str [110])]]]]], m12_19]
theorem r12_4 : chkR SBf R12_4 [true, true] [([67], 1)] [(0, [97]), (1, [97])] = some (.bool true) := by kernel_rfl
def R12_5 : List T := [m12_2, m12_19]
theorem r12_5 : chkR SBf R12_5 [true, true] [([67], 1)] [(0, [97]), (1, [97])] = some (.bool true) := by kernel_rfl
def RR12 : List T := [.agg [.list R12_0], .agg [.list R12_1], .agg [.list R12_2], .agg [.list R12_3], .agg [.list R12_4], .agg [.list R12_5]]
theorem rr12 : ∀ X ∈ RR12, FbOk X := by
 intro X h
 simp only [RR12, List.mem_cons, List.not_mem_nil, or_false] at h
 rcases h with rfl | rfl | rfl | rfl | rfl | rfl
 ·exact chkR_ok sb_ok r12_0
 ·exact chkR_ok sb_ok r12_1
 ·exact chkR_ok sb_ok r12_2
 ·exact chkR_ok sb_ok r12_3
 ·exact chkR_ok sb_ok r12_4
 ·exact chkR_ok sb_ok r12_5
def PP12 : List (List Nat) := [[0, 1, 2, 3], [4, 5, 6, 7, 8, 9], [10, 11], [12, 26, 27, 13, 14, 15], [16, 28, 17, 18, 19, 20], [29, 21, 22, 23, 30, 24], [25], [31]]
theorem chk12 : ∀ o b1 b2 b3, copyChk (csOf (rowsOf (WW12 ++ RR12) PP12)) (.agg [L12]) o b1 b2 b3 = some (.bool true) := by
 intro o b1 b2 b3
 kernel_rfl
theorem any12 : AnyG FbOk (.agg [L12]) := anyFb_of rfl (by decide) (fun X h => (List.mem_append.1 h).elim (allW_ok ww12 X) (rr12 X)) chk12
end X
