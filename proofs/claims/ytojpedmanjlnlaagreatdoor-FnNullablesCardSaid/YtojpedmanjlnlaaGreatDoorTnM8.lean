/- A part of the proof. No statement of the claim is in it. -/
import Derived.Test.YtojpedmanjlnlaaGreatDoorTnP2
open Go Go.V Go.Proofs
namespace X
set_option maxRecDepth 100000
set_option maxHeartbeats 4000000
set_option linter.all false
def m8_0 : T := .agg [(iN 1), (iN 0), (.str []), .list []]
def m8_1 : T := .agg [(iN 3), (.str [80]), .list [.agg [.list [m8_0]]], (.str [])]
def m8_2 : T := .agg [(.str [83]), .list [], .list [.agg [.list [m8_1]]]]
def m8_3 : T := .agg [(iN 2), (iN 0), (.str [100]), .list []]
def m8_4 : T := .agg [(iN 3), (.str [120,48]), .list [.agg [.list [m8_3]]], (.str [])]
def m8_5 : T := .agg [(iN 1), (iN 2), (.str []), .list []]
def m8_6 : T := .list [.agg [(iN 0)], .agg [(iN 1)]]
def m8_7 : T := .agg [(iN 9), (iN 0), (.str []), m8_6]
def m8_8 : T := .agg [(iN 4), (.str []), .list [.agg [.list [m8_3, m8_5, m8_7]]], (.str [])]
def m8_9 : T := .agg [(iN 1), (.str [97]), .list [], (.str [])]
def m8_10 : T := .list [.agg [.list [m8_4]], .agg [.list [m8_8, m8_9]]]
def m8_11 : T := .agg [(.str [80]), .list [.agg [(.str [100])]], m8_10]
def m8_12 : T := .agg [(iN 1), (.str [40]), .list [], (.str [])]
def m8_13 : T := .agg [(iN 1), (iN 1), (.str []), .list []]
def m8_14 : T := .agg [(iN 4), (iN 0), (.str []), m8_6]
def m8_15 : T := .list [.agg [.list [m8_3, m8_13, m8_14]]]
def m8_16 : T := .agg [(iN 3), (.str [80]), m8_15, (.str [])]
def m8_17 : T := .agg [(iN 1), (.str [41]), .list [], (.str [])]
def m8_18 : T := .list [.agg [.nils], .agg [.list [m8_12, m8_16, m8_17, m8_4]]]
def m8_19 : T := .agg [(.str [120,48]), .list [.agg [(.str [100])]], m8_18]
def WW8 : List T := [.agg [.list [.agg [(.str []), .list [], .list [.agg [.list [m8_1]]]], m8_11, m8_19]], .agg [.list [m8_2, .agg [(.str [49,97]), .list [.agg [(.str [100])]], m8_10], m8_19]], .agg [.list [m8_2, m8_11, .agg [(.str [84,111,111,108,111,110,103]), .list [.agg [(.str [100])]], m8_18]]], .agg [.list [m8_2, .agg [(.str []), .list [.agg [(.str [100])]], m8_10], m8_19]], .agg [.list [m8_2, m8_11, .agg [(.str [49,97]), .list [.agg [(.str [100])]], m8_18]]], .agg [.list [.agg [(.str [84,111,111,108,111,110,103]), .list [], .list [.agg [.list [m8_1]]]], m8_11, m8_19]], .agg [.list [m8_2, .agg [(.str [83]), .list [.agg [(.str [100])]], m8_10], m8_19]], .agg [.list [m8_2, m8_11, .agg [(.str []), .list [.agg [(.str [100])]], m8_18]]], .agg [.list [.agg [(.str [49,97]), .list [], .list [.agg [.list [m8_1]]]], m8_11, m8_19]], .agg [.list [m8_2, .agg [(.str [84,111,111,108,111,110,103]), .list [.agg [(.str [100])]], m8_10], m8_19]], .agg [.list [m8_2, m8_11, .agg [(.str [83]), .list [.agg [(.str [100])]], m8_18]]], .agg [.list [.agg [(.str [83]), .list [.agg [(.str [97])]], .list [.agg [.list [m8_1]]]], m8_11, m8_19]], .agg [.list [m8_2, .agg [(.str [80]), .list [.agg [(.str [100])], .agg [(.str [122,122])]], m8_10], m8_19]], .agg [.list [m8_2, m8_11, .agg [(.str [120,48]), .list [.agg [(.str [100])], .agg [(.str [66])]], m8_18]]], .agg [.list [.agg [(.str [83]), .list [], .list []], m8_11, m8_19]], .agg [.list [m8_2, .agg [(.str [80]), .list [.agg [(.str [100])]], .list []], m8_19]], .agg [.list [m8_2, m8_11, .agg [(.str [120,48]), .list [.agg [(.str [100])]], .list []]]], .agg [.list [.agg [(.str [83]), .list [], .list [.agg [.list [m8_1, .agg [(iN 0), (.str [120]), .nils, (.str [])]]]]], m8_11, m8_19]], .agg [.list [.agg [(.str [83]), .list [], .list [.agg [.list [m8_1, .agg [(iN 3), (.str [120]), .nils, (.str [])]]]]], m8_11, m8_19]], .agg [.list [m8_2, .agg [(.str [80]), .list [.agg [(.str [100])]], .list [.agg [.list [m8_4, .agg [(iN 4), (.str [120]), .nils, (.str [])]]], .agg [.list [m8_8, m8_9]]]], m8_19]], .agg [.list [m8_2, m8_11, .agg [(.str [120,48]), .list [.agg [(.str [100])]], .list [.agg [.nils], .agg [.list [m8_12, m8_16, m8_17, m8_4, .agg [(iN 5), (.str [120]), .nils, (.str [])]]]]]]], .agg [.list [.agg [(.str [83]), .list [], .list [.agg [.list [m8_1, .agg [(iN 4), (.str []), .list [.agg [.list [.agg [(iN 2), (iN 0), (.str [97]), .nils]]]], (.str [])]]]]], m8_11, m8_19]], .agg [.list [m8_2, .agg [(.str [80]), .list [.agg [(.str [100])]], .list [.agg [.list [m8_4]], .agg [.list [m8_8, m8_9, .agg [(iN 4), (.str []), .list [.agg [.list [.agg [(iN 2), (iN 0), (.str [110]), .nils]]]], (.str [])]]]]], m8_19]], .agg [.list [m8_2, m8_11, .agg [(.str [120,48]), .list [.agg [(.str [100])]], .list [.agg [.list [.agg [(iN 4), (.str []), .list [.agg [.list [.agg [(iN 2), (iN 0), (.str [113]), .nils]]]], (.str [])]]], .agg [.list [m8_12, m8_16, m8_17, m8_4]]]]]], .agg [.list [m8_2, .agg [(.str [80]), .list [.agg [(.str [100])]], .list [.agg [.list [m8_4, .agg [(iN 4), (.str []), .list [.agg [.list [.agg [(iN 2), (iN 0), (.str [110]), .nils]]]], (.str [])]]], .agg [.list [m8_8, m8_9]]]], m8_19]], .agg [.list [m8_2, m8_11, .agg [(.str [120,48]), .list [.agg [(.str [100])]], .list [.agg [.nils], .agg [.list [m8_12, m8_16, m8_17, m8_4, .agg [(iN 4), (.str []), .list [.agg [.list [.agg [(iN 2), (iN 0), (.str [113]), .nils]]]], (.str [])]]]]]]], .agg [.list [m8_2, .agg [(.str [80]), .list [.agg [(.str [100])]], .list [.agg [.list [m8_4]], .agg [.list [.agg [(iN 4), (.str []), .list [.agg [.list [m8_3, m8_5, m8_7]]], (.str [110])], m8_9]]]], m8_19]], .agg [.list [m8_2, m8_11, .agg [(.str [120,48]), .list [.agg [(.str [100])]], .list [.agg [.nils], .agg [.list [.agg [(iN 1), (.str [40]), .list [], (.str [81])], m8_16, m8_17, m8_4]]]]]], .agg [.list [m8_11, m8_19]]]
theorem ww8 : allW WW8 = some (.bool true) := by kernel_rfl
def R8_0 : List T := [m8_2, m8_11, m8_19]
theorem r8_0 : chkR SBf R8_0 [true, true, true] [([80], 1), ([120, 48], 2)] [(0, [40, 97]), (1, [40, 97]), (2, [40])] = some (.bool true) := by kernel_rfl
def R8_1 : List T := [m8_2, .agg [(.str [80]), .list [.agg [(.str [100])]], .list [.agg [.list [m8_4]], .agg [.list [m8_8, m8_9, .agg [(iN 1), (.str [120]), .nils, (.str [])]]]]], m8_19]
theorem r8_1 : chkR SBf R8_1 [true, true, true] [([80], 1), ([120, 48], 2)] [(0, [40, 97]), (1, [40, 97]), (2, [40])] = some (.bool true) := by kernel_rfl
def R8_2 : List T := [m8_2, m8_11, .agg [(.str [120,48]), .list [.agg [(.str [100])]], .list [.agg [.list [.agg [(iN 2), (.str [120]), .nils, (.str [])]]], .agg [.list [m8_12, m8_16, m8_17, m8_4]]]]]
theorem r8_2 : chkR SBf R8_2 [false, false, false] [([80], 1), ([120, 48], 2)] [(0, [40, 97, 120]), (1, [40, 97, 120]), (2, [40, 120])] = some (.bool true) := by kernel_rfl
def R8_3 : List T := [.agg [(.str [83]), .list [], .list [.agg [.list [.agg [(iN 3), (.str [80]), .list [.agg [.list [m8_0]]], (.str [97])]]]]], m8_11, m8_19]
theorem r8_3 : chkR SBf R8_3 [true, true, true] [([80], 1), ([120, 48], 2)] [(0, [40, 97]), (1, [40, 97]), (2, [40])] = some (.bool true) := by kernel_rfl
def R8_4 : List T := [m8_2, .agg [(.str [80]), .list [.agg [(.str [100])]], .list [.agg [.list [.agg [(iN 3), (.str [120,48]), .list [.agg [.list [m8_3]]], (.str [110])]]], .agg [.list [m8_8, m8_9]]]], m8_19]
theorem r8_4 : chkR SBf R8_4 [true, true, true] [([80], 1), ([120, 48], 2)] [(0, [40, 97]), (1, [40, 97]), (2, [40])] = some (.bool true) := by kernel_rfl
def RR8 : List T := [.agg [.list R8_0], .agg [.list R8_1], .agg [.list R8_2], .agg [.list R8_3], .agg [.list R8_4]]
theorem rr8 : ∀ X ∈ RR8, FbOk X := by
 intro X h
 simp only [RR8, List.mem_cons, List.not_mem_nil, or_false] at h
 rcases h with rfl | rfl | rfl | rfl | rfl
 ·exact chkR_ok sb_ok r8_0
 ·exact chkR_ok sb_ok r8_1
 ·exact chkR_ok sb_ok r8_2
 ·exact chkR_ok sb_ok r8_3
 ·exact chkR_ok sb_ok r8_4
def PP8 : List (List Nat) := [[0, 1, 2, 29, 3, 4, 5, 6, 7, 8, 9, 10], [11, 12, 13], [14, 15, 16], [17, 30, 31, 18, 19, 20], [21, 22, 23, 21, 24, 25], [32, 26, 29, 32, 33, 27], [28], [29]]
theorem chk8 : ∀ o b1 b2 b3, copyChk (csOf (rowsOf (WW8 ++ RR8) PP8)) (.agg [L8]) o b1 b2 b3 = some (.bool true) := by
 intro o b1 b2 b3
 kernel_rfl
theorem any8 : AnyG FbOk (.agg [L8]) := anyFb_of rfl (by decide) (fun X h => (List.mem_append.1 h).elim (allW_ok ww8 X) (rr8 X)) chk8
end X
