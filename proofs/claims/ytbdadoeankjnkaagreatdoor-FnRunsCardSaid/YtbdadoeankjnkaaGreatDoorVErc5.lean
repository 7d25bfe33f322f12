/- A part of the proof. No statement of the claim is in it. -/
import Derived.Test.YtbdadoeankjnkaaGreatDoorC
open Go Go.V Go.Proofs X E
namespace C
set_option maxRecDepth 100000
set_option maxHeartbeats 4000000
theorem ru0 : runC 0 = some (.bool true) := by kernel_rfl
theorem ru1 : runC 1 = some (.bool true) := by kernel_rfl
theorem ru2 : runC 2 = some (.bool true) := by kernel_rfl
theorem ru3 : runC 3 = some (.bool true) := by kernel_rfl
theorem ru4 : runC 4 = some (.bool true) := by kernel_rfl
theorem ru5 : runC 5 = some (.bool true) := by kernel_rfl
theorem ru6 : runC 6 = some (.bool true) := by kernel_rfl
theorem ru7 : runC 7 = some (.bool true) := by kernel_rfl
theorem ru8 : runC 8 = some (.bool true) := by kernel_rfl
theorem ru9 : runC 9 = some (.bool true) := by kernel_rfl
theorem ru10 : runC 10 = some (.bool true) := by kernel_rfl
theorem ru11 : runC 11 = some (.bool true) := by kernel_rfl
theorem ru12 : runC 12 = some (.bool true) := by kernel_rfl
theorem lng : lngC 14 = some (.bool true) := by kernel_rfl
theorem runs_ok : qng QR := fun i hi => by
 rcases (show i = 0 ∨ i = 1 ∨ i = 2 ∨ i = 3 ∨ i = 4 ∨ i = 5 ∨ i = 6 ∨ i = 7 ∨ i = 8 ∨ i = 9 ∨ i = 10 ∨ i = 11 ∨ i = 12 by omega) with rfl | rfl | rfl | rfl | rfl | rfl | rfl | rfl | rfl | rfl | rfl | rfl | rfl
 ·exact qet ru0
 ·exact qet ru1
 ·exact qet ru2
 ·exact qet ru3
 ·exact qet ru4
 ·exact qet ru5
 ·exact qet ru6
 ·exact qet ru7
 ·exact qet ru8
 ·exact qet ru9
 ·exact qet ru10
 ·exact qet ru11
 ·exact qet ru12
end C
namespace X
theorem given_lv {x : T} {l : List Int} (hx : BytesT x l) : ∃ σ', LV S 3 [.t x] [] = some (.t (B true), σ') := E.law_runs C.runs_ok (C.lngC_some C.lng) hx
end X
