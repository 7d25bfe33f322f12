/- A part of the proof. No statement of the claim is in it. -/
import Derived.Test.YtbdadoeankjnkaaGreatDoorC
open Go Go.V Go.Proofs X E
namespace C
set_option maxRecDepth 100000
set_option maxHeartbeats 4000000
theorem sp0 : spanC 0 = some (.bool true) := by kernel_rfl
theorem sp1 : spanC 1 = some (.bool true) := by kernel_rfl
theorem sp2 : spanC 2 = some (.bool true) := by kernel_rfl
theorem sp3 : spanC 3 = some (.bool true) := by kernel_rfl
theorem sp4 : spanC 4 = some (.bool true) := by kernel_rfl
theorem sp5 : spanC 5 = some (.bool true) := by kernel_rfl
theorem sp6 : spanC 6 = some (.bool true) := by kernel_rfl
theorem sp7 : spanC 7 = some (.bool true) := by kernel_rfl
theorem sp8 : spanC 8 = some (.bool true) := by kernel_rfl
theorem sp9 : spanC 9 = some (.bool true) := by kernel_rfl
theorem sp10 : spanC 10 = some (.bool true) := by kernel_rfl
theorem sp11 : spanC 11 = some (.bool true) := by kernel_rfl
theorem sp12 : spanC 12 = some (.bool true) := by kernel_rfl
theorem pairs_ok : PairsOk QS := fun i hi => by
 rcases (show i = 0 ∨ i = 1 ∨ i = 2 ∨ i = 3 ∨ i = 4 ∨ i = 5 ∨ i = 6 ∨ i = 7 ∨ i = 8 ∨ i = 9 ∨ i = 10 ∨ i = 11 ∨ i = 12 by omega) with rfl | rfl | rfl | rfl | rfl | rfl | rfl | rfl | rfl | rfl | rfl | rfl | rfl
 ·exact span_ok sp0
 ·exact span_ok sp1
 ·exact span_ok sp2
 ·exact span_ok sp3
 ·exact span_ok sp4
 ·exact span_ok sp5
 ·exact span_ok sp6
 ·exact span_ok sp7
 ·exact span_ok sp8
 ·exact span_ok sp9
 ·exact span_ok sp10
 ·exact span_ok sp11
 ·exact span_ok sp12
theorem long14 (σ : Store) : LD S 35 [.t (I 14), .t (.int .u8 97)] σ = some (.t (.str (List.replicate 14 97)), σ) := (runB_some e35 rfl (A := A35) rfl rfl (show runB x35 [.int .i64 (.ofNat 14), .int .u8 (.ofNat 97)] (.str (List.replicate 14 97)) (some (.bool true)) = some (.bool true) by kernel_rfl)).1 σ
end C
namespace X
theorem given_lv {x : T} {l : List Int} (hx : BytesT x l) : ∃ σ', LV S 4 [.t x] [] = some (.t (B true), σ') := E.law_lv C.pairs_ok C.long14 hx
end X
