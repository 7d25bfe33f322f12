/- A part of the proof. No statement of the claim is in it. -/
import Derived.Test.YtojpedmanjlnlaaGreatDoorTnP0
open Go Go.V Go.Proofs
namespace X
set_option maxRecDepth 100000
set_option maxHeartbeats 4000000
set_option linter.all false
def m0_0 : T := .agg [(iN 1), (.str [97]), .list [], (.str [])]
def m0_1 : T := .agg [(iN 3), (.str [83]), .list [], (.str [])]
def m0_2 : T := .agg [(iN 1), (.str [98]), .list [], (.str [])]
def m0_3 : T := .list [.agg [.list [m0_0, m0_1, m0_2]], .agg [.nils]]
def WW0 : List T := [.agg [.list [.agg [(.str []), .list [], m0_3]]], .agg [.list [.agg [(.str [49,97]), .list [], m0_3]]], .agg [.list [.agg [(.str [84,111,111,108,111,110,103]), .list [], m0_3]]], .agg [.list [.agg [(.str [83]), .list [.agg [(.str [97])]], m0_3]]], .agg [.list [.agg [(.str [83]), .list [.agg [(.str [122,122])]], m0_3]]], .agg [.list [.agg [(.str [83]), .list [.agg [(.str [66])]], m0_3]]], .agg [.list [.agg [(.str [83]), .list [], .list []]]], .agg [.list [.agg [(.str [83]), .list [], .list [.agg [.list [m0_0, m0_1, m0_2, .agg [(iN 0), (.str [120]), .nils, (.str [])]]], .agg [.nils]]]]], .agg [.list [.agg [(.str [83]), .list [], .list [.agg [.list [m0_0, m0_1, m0_2]], .agg [.list [.agg [(iN 3), (.str [120]), .nils, (.str [])]]]]]]], .agg [.list [.agg [(.str [83]), .list [], .list [.agg [.list [m0_0, m0_1, m0_2, .agg [(iN 4), (.str [120]), .nils, (.str [])]]], .agg [.nils]]]]], .agg [.list [.agg [(.str [83]), .list [], .list [.agg [.list [m0_0, m0_1, m0_2]], .agg [.list [.agg [(iN 5), (.str [120]), .nils, (.str [])]]]]]]], .agg [.list [.agg [(.str [83]), .list [], .list [.agg [.list [m0_0, m0_1, m0_2, .agg [(iN 4), (.str []), .list [.agg [.list [.agg [(iN 2), (iN 0), (.str [97]), .nils]]]], (.str [])]]], .agg [.nils]]]]], .agg [.list [.agg [(.str [83]), .list [], .list [.agg [.list [m0_0, m0_1, m0_2]], .agg [.list [.agg [(iN 4), (.str []), .list [.agg [.list [.agg [(iN 2), (iN 0), (.str [110]), .nils]]]], (.str [])]]]]]]], .agg [.list [.agg [(.str [83]), .list [], .list [.agg [.list [m0_0, m0_1, m0_2, .agg [(iN 4), (.str []), .list [.agg [.list [.agg [(iN 2), (iN 0), (.str [113]), .nils]]]], (.str [])]]], .agg [.nils]]]]], .agg [.list [.agg [(.str [83]), .list [], .list [.agg [.list [m0_0, m0_1, m0_2]], .agg [.list [.agg [(iN 4), (.str []), .list [.agg [.list [.agg [(iN 2), (iN 0), (.str [97]), .nils]]]], (.str [])]]]]]]], .agg [.list [.agg [(.str [83]), .list [], .list [.agg [.list [m0_0, m0_1, m0_2, .agg [(iN 4), (.str []), .list [.agg [.list [.agg [(iN 2), (iN 0), (.str [110]), .nils]]]], (.str [])]]], .agg [.nils]]]]], .agg [.list [.agg [(.str [83]), .list [], .list [.agg [.list [m0_0, m0_1, m0_2]], .agg [.list [.agg [(iN 4), (.str []), .list [.agg [.list [.agg [(iN 2), (iN 0), (.str [113]), .nils]]]], (.str [])]]]]]]], .agg [.list [.agg [(.str [83]), .list [], .list [.agg [.list [.agg [(iN 1), (.str [97]), .list [], (.str [97])], m0_1, m0_2]], .agg [.nils]]]]], .agg [.list [.agg [(.str [83]), .list [], .list [.agg [.list [.agg [(iN 1), (.str [97]), .list [], (.str [81])], m0_1, m0_2]], .agg [.nils]]]]], .agg [.list [.agg [(.str [83]), .list [], .list [.agg [.list [.agg [(iN 1), (.str [97]), .list [], (.str [110])], m0_1, m0_2]], .agg [.nils]]]]], .agg [.list []]]
theorem ww0 : allW WW0 = some (.bool true) := by kernel_rfl
def R0_0 : List T := [.agg [(.str [83]), .list [], m0_3]]
theorem r0_0 : chkR SBf R0_0 [true] [([83], 0)] [(0, [97])] = some (.bool true) := by kernel_rfl
def R0_1 : List T := [.agg [(.str [83]), .list [], .list [.agg [.list [m0_0, m0_1, m0_2]], .agg [.list [.agg [(iN 1), (.str [120]), .nils, (.str [])]]]]]]
theorem r0_1 : chkR SBf R0_1 [false] [([83], 0)] [(0, [97, 120])] = some (.bool true) := by kernel_rfl
def R0_2 : List T := [.agg [(.str [83]), .list [], .list [.agg [.list [m0_0, m0_1, m0_2, .agg [(iN 2), (.str [120]), .nils, (.str [])]]], .agg [.nils]]]]
theorem r0_2 : chkR SBf R0_2 [true] [([83], 0)] [(0, [97])] = some (.bool true) := by kernel_rfl
def RR0 : List T := [.agg [.list R0_0], .agg [.list R0_1], .agg [.list R0_2]]
theorem rr0 : ∀ X ∈ RR0, FbOk X := by
 intro X h
 simp only [RR0, List.mem_cons, List.not_mem_nil, or_false] at h
 rcases h with rfl | rfl | rfl
 ·exact chkR_ok sb_ok r0_0
 ·exact chkR_ok sb_ok r0_1
 ·exact chkR_ok sb_ok r0_2
def PP0 : List (List Nat) := [[0, 1, 2, 21], [3, 4, 5], [6], [7, 22, 23, 8, 9, 10], [11, 12, 13, 14, 15, 16], [17, 21, 18, 21, 19, 21], [20], [21]]
theorem chk0 : ∀ o b1 b2 b3, copyChk (csOf (rowsOf (WW0 ++ RR0) PP0)) (.agg [L0]) o b1 b2 b3 = some (.bool true) := by
 intro o b1 b2 b3
 kernel_rfl
theorem any0 : AnyG FbOk (.agg [L0]) := anyFb_of rfl (by decide) (fun X h => (List.mem_append.1 h).elim (allW_ok ww0 X) (rr0 X)) chk0
end X
