/- A part of the proof. No statement of the claim is in it. -/
import Derived.Test.YthfjcnjdcljhmaaGreatDoorTgLe0
open Go Go.V Go.Proofs
namespace X
set_option maxRecDepth 100000
namespace TzLe
theorem a50 : gA (tx 5 0) = some (.bool false) := by kernel_rfl
theorem i500 : gE x23 (tx 5 0) 0 = some (eR 0 0) := by kernel_rfl
theorem s500 : gE x36 (tx 5 0) 0 = some (eR 0 0) := by kernel_rfl
theorem i501 : gE x23 (tx 5 0) 1 = some (eR 0 1) := by kernel_rfl
theorem s501 : gE x36 (tx 5 0) 1 = some (eR 0 1) := by kernel_rfl
theorem i502 : gE x23 (tx 5 0) 2 = some (eR 0 2) := by kernel_rfl
theorem s502 : gE x36 (tx 5 0) 2 = some (eR 0 2) := by kernel_rfl
theorem i503 : gE x23 (tx 5 0) 3 = some (eR 0 3) := by kernel_rfl
theorem s503 : gE x36 (tx 5 0) 3 = some (eR 0 3) := by kernel_rfl
theorem a51 : gA (tx 5 1) = some (.bool false) := by kernel_rfl
theorem i510 : gE x23 (tx 5 1) 0 = some (eR 1 0) := by kernel_rfl
theorem s510 : gE x36 (tx 5 1) 0 = some (eR 1 0) := by kernel_rfl
theorem i511 : gE x23 (tx 5 1) 1 = some (eR 1 1) := by kernel_rfl
theorem s511 : gE x36 (tx 5 1) 1 = some (eR 1 1) := by kernel_rfl
theorem i512 : gE x23 (tx 5 1) 2 = some (eR 1 2) := by kernel_rfl
theorem s512 : gE x36 (tx 5 1) 2 = some (eR 1 2) := by kernel_rfl
theorem i513 : gE x23 (tx 5 1) 3 = some (eR 1 3) := by kernel_rfl
theorem s513 : gE x36 (tx 5 1) 3 = some (eR 1 3) := by kernel_rfl
theorem a52 : gA (tx 5 2) = some (.bool false) := by kernel_rfl
theorem i520 : gE x23 (tx 5 2) 0 = some (eR 2 0) := by kernel_rfl
theorem s520 : gE x36 (tx 5 2) 0 = some (eR 2 0) := by kernel_rfl
theorem i521 : gE x23 (tx 5 2) 1 = some (eR 2 1) := by kernel_rfl
theorem s521 : gE x36 (tx 5 2) 1 = some (eR 2 1) := by kernel_rfl
theorem i522 : gE x23 (tx 5 2) 2 = some (eR 2 2) := by kernel_rfl
theorem s522 : gE x36 (tx 5 2) 2 = some (eR 2 2) := by kernel_rfl
theorem i523 : gE x23 (tx 5 2) 3 = some (eR 2 3) := by kernel_rfl
theorem s523 : gE x36 (tx 5 2) 3 = some (eR 2 3) := by kernel_rfl
theorem a53 : gA (tx 5 3) = some (.bool false) := by kernel_rfl
theorem i530 : gE x23 (tx 5 3) 0 = some (eR 3 0) := by kernel_rfl
theorem s530 : gE x36 (tx 5 3) 0 = some (eR 3 0) := by kernel_rfl
theorem i531 : gE x23 (tx 5 3) 1 = some (eR 3 1) := by kernel_rfl
theorem s531 : gE x36 (tx 5 3) 1 = some (eR 3 1) := by kernel_rfl
theorem i532 : gE x23 (tx 5 3) 2 = some (eR 3 2) := by kernel_rfl
theorem s532 : gE x36 (tx 5 3) 2 = some (eR 3 2) := by kernel_rfl
theorem i533 : gE x23 (tx 5 3) 3 = some (eR 3 3) := by kernel_rfl
theorem s533 : gE x36 (tx 5 3) 3 = some (eR 3 3) := by kernel_rfl
theorem a54 : gA (tx 5 4) = some (.bool false) := by kernel_rfl
theorem i540 : gE x23 (tx 5 4) 0 = some (eR 4 0) := by kernel_rfl
theorem s540 : gE x36 (tx 5 4) 0 = some (eR 4 0) := by kernel_rfl
theorem i541 : gE x23 (tx 5 4) 1 = some (eR 4 1) := by kernel_rfl
theorem s541 : gE x36 (tx 5 4) 1 = some (eR 4 1) := by kernel_rfl
theorem i542 : gE x23 (tx 5 4) 2 = some (eR 4 2) := by kernel_rfl
theorem s542 : gE x36 (tx 5 4) 2 = some (eR 4 2) := by kernel_rfl
theorem i543 : gE x23 (tx 5 4) 3 = some (eR 4 3) := by kernel_rfl
theorem s543 : gE x36 (tx 5 4) 3 = some (eR 4 3) := by kernel_rfl
theorem a55 : gA (tx 5 5) = some (.bool true) := by kernel_rfl
theorem i550 : gE x23 (tx 5 5) 0 = some (eR 5 0) := by kernel_rfl
theorem s550 : gE x36 (tx 5 5) 0 = some (eR 5 0) := by kernel_rfl
theorem i551 : gE x23 (tx 5 5) 1 = some (eR 5 1) := by kernel_rfl
theorem s551 : gE x36 (tx 5 5) 1 = some (eR 5 1) := by kernel_rfl
theorem i552 : gE x23 (tx 5 5) 2 = some (eR 5 2) := by kernel_rfl
theorem s552 : gE x36 (tx 5 5) 2 = some (eR 5 2) := by kernel_rfl
theorem i553 : gE x23 (tx 5 5) 3 = some (eR 5 3) := by kernel_rfl
theorem s553 : gE x36 (tx 5 5) 3 = some (eR 5 3) := by kernel_rfl
theorem a56 : gA (tx 5 6) = some (.bool false) := by kernel_rfl
theorem i560 : gE x23 (tx 5 6) 0 = some (eR 6 0) := by kernel_rfl
theorem s560 : gE x36 (tx 5 6) 0 = some (eR 6 0) := by kernel_rfl
theorem i561 : gE x23 (tx 5 6) 1 = some (eR 6 1) := by kernel_rfl
theorem s561 : gE x36 (tx 5 6) 1 = some (eR 6 1) := by kernel_rfl
theorem i562 : gE x23 (tx 5 6) 2 = some (eR 6 2) := by kernel_rfl
theorem s562 : gE x36 (tx 5 6) 2 = some (eR 6 2) := by kernel_rfl
theorem i563 : gE x23 (tx 5 6) 3 = some (eR 6 3) := by kernel_rfl
theorem s563 : gE x36 (tx 5 6) 3 = some (eR 6 3) := by kernel_rfl
theorem a57 : gA (tx 5 7) = some (.bool false) := by kernel_rfl
theorem i570 : gE x23 (tx 5 7) 0 = some (eR 7 0) := by kernel_rfl
theorem s570 : gE x36 (tx 5 7) 0 = some (eR 7 0) := by kernel_rfl
theorem i571 : gE x23 (tx 5 7) 1 = some (eR 7 1) := by kernel_rfl
theorem s571 : gE x36 (tx 5 7) 1 = some (eR 7 1) := by kernel_rfl
theorem i572 : gE x23 (tx 5 7) 2 = some (eR 7 2) := by kernel_rfl
theorem s572 : gE x36 (tx 5 7) 2 = some (eR 7 2) := by kernel_rfl
theorem i573 : gE x23 (tx 5 7) 3 = some (eR 7 3) := by kernel_rfl
theorem s573 : gE x36 (tx 5 7) 3 = some (eR 7 3) := by kernel_rfl
theorem a58 : gA (tx 5 8) = some (.bool false) := by kernel_rfl
theorem i580 : gE x23 (tx 5 8) 0 = some (eR 8 0) := by kernel_rfl
theorem s580 : gE x36 (tx 5 8) 0 = some (eR 8 0) := by kernel_rfl
theorem i581 : gE x23 (tx 5 8) 1 = some (eR 8 1) := by kernel_rfl
theorem s581 : gE x36 (tx 5 8) 1 = some (eR 8 1) := by kernel_rfl
theorem i582 : gE x23 (tx 5 8) 2 = some (eR 8 2) := by kernel_rfl
theorem s582 : gE x36 (tx 5 8) 2 = some (eR 8 2) := by kernel_rfl
theorem i583 : gE x23 (tx 5 8) 3 = some (eR 8 3) := by kernel_rfl
theorem s583 : gE x36 (tx 5 8) 3 = some (eR 8 3) := by kernel_rfl
theorem a59 : gA (tx 5 9) = some (.bool false) := by kernel_rfl
theorem i590 : gE x23 (tx 5 9) 0 = some (eR 9 0) := by kernel_rfl
theorem s590 : gE x36 (tx 5 9) 0 = some (eR 9 0) := by kernel_rfl
theorem i591 : gE x23 (tx 5 9) 1 = some (eR 9 1) := by kernel_rfl
theorem s591 : gE x36 (tx 5 9) 1 = some (eR 9 1) := by kernel_rfl
theorem i592 : gE x23 (tx 5 9) 2 = some (eR 9 2) := by kernel_rfl
theorem s592 : gE x36 (tx 5 9) 2 = some (eR 9 2) := by kernel_rfl
theorem i593 : gE x23 (tx 5 9) 3 = some (eR 9 3) := by kernel_rfl
theorem s593 : gE x36 (tx 5 9) 3 = some (eR 9 3) := by kernel_rfl
theorem acc5 (m : Nat) (hm : m < 10) (σ : Store) : LD S 18 [.t (.agg [gL]), .t (.str (tx 5 m))] σ = some (.t (B (Nat.beq 5 m)), σ) := by
  rcases lt10 hm with rfl | rfl | rfl | rfl | rfl | rfl | rfl | rfl | rfl | rfl
  · exact hA a50 σ
  · exact hA a51 σ
  · exact hA a52 σ
  · exact hA a53 σ
  · exact hA a54 σ
  · exact hA a55 σ
  · exact hA a56 σ
  · exact hA a57 σ
  · exact hA a58 σ
  · exact hA a59 σ
theorem ei5 (m c : Nat) (hm : m < 10) (hc : c < 4) (σ : Store) : LD S 23 [.t (.agg [gL]), .t (.str (tx 5 m)), .t (.str [66]), .t (.list [.agg [I c]]), .t (I 2)] σ = some (.t (eR m c), σ) := by
  rcases lt10 hm with rfl | rfl | rfl | rfl | rfl | rfl | rfl | rfl | rfl | rfl <;> rcases lt4 hc with rfl | rfl | rfl | rfl
  · exact hI i500 σ
  · exact hI i501 σ
  · exact hI i502 σ
  · exact hI i503 σ
  · exact hI i510 σ
  · exact hI i511 σ
  · exact hI i512 σ
  · exact hI i513 σ
  · exact hI i520 σ
  · exact hI i521 σ
  · exact hI i522 σ
  · exact hI i523 σ
  · exact hI i530 σ
  · exact hI i531 σ
  · exact hI i532 σ
  · exact hI i533 σ
  · exact hI i540 σ
  · exact hI i541 σ
  · exact hI i542 σ
  · exact hI i543 σ
  · exact hI i550 σ
  · exact hI i551 σ
  · exact hI i552 σ
  · exact hI i553 σ
  · exact hI i560 σ
  · exact hI i561 σ
  · exact hI i562 σ
  · exact hI i563 σ
  · exact hI i570 σ
  · exact hI i571 σ
  · exact hI i572 σ
  · exact hI i573 σ
  · exact hI i580 σ
  · exact hI i581 σ
  · exact hI i582 σ
  · exact hI i583 σ
  · exact hI i590 σ
  · exact hI i591 σ
  · exact hI i592 σ
  · exact hI i593 σ
theorem es5 (m c : Nat) (hm : m < 10) (hc : c < 4) (σ : Store) : LD S 36 [.t (.agg [gL]), .t (.str (tx 5 m)), .t (.str [66]), .t (.list [.agg [I c]]), .t (I 2)] σ = some (.t (eR m c), σ) := by
  rcases lt10 hm with rfl | rfl | rfl | rfl | rfl | rfl | rfl | rfl | rfl | rfl <;> rcases lt4 hc with rfl | rfl | rfl | rfl
  · exact hS s500 σ
  · exact hS s501 σ
  · exact hS s502 σ
  · exact hS s503 σ
  · exact hS s510 σ
  · exact hS s511 σ
  · exact hS s512 σ
  · exact hS s513 σ
  · exact hS s520 σ
  · exact hS s521 σ
  · exact hS s522 σ
  · exact hS s523 σ
  · exact hS s530 σ
  · exact hS s531 σ
  · exact hS s532 σ
  · exact hS s533 σ
  · exact hS s540 σ
  · exact hS s541 σ
  · exact hS s542 σ
  · exact hS s543 σ
  · exact hS s550 σ
  · exact hS s551 σ
  · exact hS s552 σ
  · exact hS s553 σ
  · exact hS s560 σ
  · exact hS s561 σ
  · exact hS s562 σ
  · exact hS s563 σ
  · exact hS s570 σ
  · exact hS s571 σ
  · exact hS s572 σ
  · exact hS s573 σ
  · exact hS s580 σ
  · exact hS s581 σ
  · exact hS s582 σ
  · exact hS s583 σ
  · exact hS s590 σ
  · exact hS s591 σ
  · exact hS s592 σ
  · exact hS s593 σ
end TzLe
end X
