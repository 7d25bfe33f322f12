/- A part of the proof. No statement of the claim is in it. -/
import Derived.Test.YtojpedmanjlnlaaGreatDoorTnP1
open Go Go.V Go.Proofs
namespace X
set_option maxRecDepth 100000
set_option maxHeartbeats 4000000
set_option linter.all false
def m5_0 : T := .agg [(iN 3), (.str [83]), .list [], (.str [])]
def m5_1 : T := .agg [(iN 1), (.str [97]), .list [], (.str [])]
def m5_2 : T := .list [.agg [.list [m5_0, m5_0]], .agg [.list [m5_1]], .agg [.nils]]
def WW5 : List T := [.agg [.list [.agg [(.str []), .list [], m5_2]]], .agg [.list [.agg [(.str [49,97]), .list [], m5_2]]], .agg [.list [.agg [(.str [84,111,111,108,111,110,103]), .list [], m5_2]]], .agg [.list [.agg [(.str [83]), .list [.agg [(.str [97])]], m5_2]]], .agg [.list [.agg [(.str [83]), .list [.agg [(.str [122,122])]], m5_2]]], .agg [.list [.agg [(.str [83]), .list [.agg [(.str [66])]], m5_2]]], .agg [.list [.agg [(.str [83]), .list [], .list []]]], .agg [.list [.agg [(.str [83]), .list [], .list [.agg [.list [m5_0, m5_0, .agg [(iN 0), (.str [120]), .nils, (.str [])]]], .agg [.list [m5_1]], .agg [.nils]]]]], .agg [.list [.agg [(.str [83]), .list [], .list [.agg [.list [m5_0, m5_0, .agg [(iN 3), (.str [120]), .nils, (.str [])]]], .agg [.list [m5_1]], .agg [.nils]]]]], .agg [.list [.agg [(.str [83]), .list [], .list [.agg [.list [m5_0, m5_0]], .agg [.list [m5_1, .agg [(iN 4), (.str [120]), .nils, (.str [])]]], .agg [.nils]]]]], .agg [.list [.agg [(.str [83]), .list [], .list [.agg [.list [m5_0, m5_0]], .agg [.list [m5_1]], .agg [.list [.agg [(iN 5), (.str [120]), .nils, (.str [])]]]]]]], .agg [.list [.agg [(.str [83]), .list [], .list [.agg [.list [m5_0, m5_0, .agg [(iN 4), (.str []), .list [.agg [.list [.agg [(iN 2), (iN 0), (.str [97]), .nils]]]], (.str [])]]], .agg [.list [m5_1]], .agg [.nils]]]]], .agg [.list [.agg [(.str [83]), .list [], .list [.agg [.list [m5_0, m5_0]], .agg [.list [m5_1, .agg [(iN 4), (.str []), .list [.agg [.list [.agg [(iN 2), (iN 0), (.str [110]), .nils]]]], (.str [])]]], .agg [.nils]]]]], .agg [.list [.agg [(.str [83]), .list [], .list [.agg [.list [m5_0, m5_0]], .agg [.list [m5_1]], .agg [.list [.agg [(iN 4), (.str []), .list [.agg [.list [.agg [(iN 2), (iN 0), (.str [113]), .nils]]]], (.str [])]]]]]]], .agg [.list [.agg [(.str [83]), .list [], .list [.agg [.list [m5_0, m5_0]], .agg [.list [.agg [(iN 1), (.str [97]), .list [], (.str [110])]]], .agg [.nils]]]]], .agg [.list []]]
theorem ww5 : allW WW5 = some (.bool true) := by kernel_rfl
def R5_0 : List T := [.agg [(.str [83]), .list [], m5_2]]
theorem r5_0 : chkR SBf R5_0 [true] [([83], 0)] [(0, [97])] = some (.bool true) := by kernel_rfl
def R5_1 : List T := [.agg [(.str [83]), .list [], .list [.agg [.list [m5_0, m5_0]], .agg [.list [m5_1, .agg [(iN 1), (.str [120]), .nils, (.str [])]]], .agg [.nils]]]]
theorem r5_1 : chkR SBf R5_1 [true] [([83], 0)] [(0, [97])] = some (.bool true) := by kernel_rfl
def R5_2 : List T := [.agg [(.str [83]), .list [], .list [.agg [.list [m5_0, m5_0]], .agg [.list [m5_1]], .agg [.list [.agg [(iN 2), (.str [120]), .nils, (.str [])]]]]]]
theorem r5_2 : chkR SBf R5_2 [false] [([83], 0)] [(0, [97, 120])] = some (.bool true) := by kernel_rfl
def R5_3 : List T := [.agg [(.str [83]), .list [], .list [.agg [.list [.agg [(iN 3), (.str [83]), .list [], (.str [97])], m5_0]], .agg [.list [m5_1]], .agg [.nils]]]]
theorem r5_3 : chkR SBf R5_3 [true] [([83], 0)] [(0, [97])] = some (.bool true) := by kernel_rfl
def RR5 : List T := [.agg [.list R5_0], .agg [.list R5_1], .agg [.list R5_2], .agg [.list R5_3]]
theorem rr5 : ∀ X ∈ RR5, FbOk X := by
 intro X h
 simp only [RR5, List.mem_cons, List.not_mem_nil, or_false] at h
 rcases h with rfl | rfl | rfl | rfl
 ·exact chkR_ok sb_ok r5_0
 ·exact chkR_ok sb_ok r5_1
 ·exact chkR_ok sb_ok r5_2
 ·exact chkR_ok sb_ok r5_3
def PP5 : List (List Nat) := [[0, 1, 2, 16], [3, 4, 5], [6], [7, 17, 18, 8, 9, 10], [11, 12, 13], [19, 14, 16], [15], [16]]
theorem chk5 : ∀ o b1 b2 b3, copyChk (csOf (rowsOf (WW5 ++ RR5) PP5)) (.agg [L5]) o b1 b2 b3 = some (.bool true) := by
 intro o b1 b2 b3
 kernel_rfl
theorem any5 : AnyG FbOk (.agg [L5]) := anyFb_of rfl (by decide) (fun X h => (List.mem_append.1 h).elim (allW_ok ww5 X) (rr5 X)) chk5
end X
