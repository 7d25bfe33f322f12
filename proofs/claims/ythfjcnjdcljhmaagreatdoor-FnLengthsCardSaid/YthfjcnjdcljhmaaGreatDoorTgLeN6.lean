/- A part of the proof. No statement of the claim is in it. -/
import Derived.Test.YthfjcnjdcljhmaaGreatDoorTgLe0
open Go Go.V Go.Proofs
namespace X
set_option maxRecDepth 100000
namespace TzLe
theorem a60 : gA (tx 6 0) = some (.bool false) := by kernel_rfl
theorem i600 : gE x23 (tx 6 0) 0 = some (eR 0 0) := by kernel_rfl
theorem s600 : gE x36 (tx 6 0) 0 = some (eR 0 0) := by kernel_rfl
theorem i601 : gE x23 (tx 6 0) 1 = some (eR 0 1) := by kernel_rfl
theorem s601 : gE x36 (tx 6 0) 1 = some (eR 0 1) := by kernel_rfl
theorem i602 : gE x23 (tx 6 0) 2 = some (eR 0 2) := by kernel_rfl
theorem s602 : gE x36 (tx 6 0) 2 = some (eR 0 2) := by kernel_rfl
theorem i603 : gE x23 (tx 6 0) 3 = some (eR 0 3) := by kernel_rfl
theorem s603 : gE x36 (tx 6 0) 3 = some (eR 0 3) := by kernel_rfl
theorem a61 : gA (tx 6 1) = some (.bool false) := by kernel_rfl
theorem i610 : gE x23 (tx 6 1) 0 = some (eR 1 0) := by kernel_rfl
theorem s610 : gE x36 (tx 6 1) 0 = some (eR 1 0) := by kernel_rfl
theorem i611 : gE x23 (tx 6 1) 1 = some (eR 1 1) := by kernel_rfl
theorem s611 : gE x36 (tx 6 1) 1 = some (eR 1 1) := by kernel_rfl
theorem i612 : gE x23 (tx 6 1) 2 = some (eR 1 2) := by kernel_rfl
theorem s612 : gE x36 (tx 6 1) 2 = some (eR 1 2) := by kernel_rfl
theorem i613 : gE x23 (tx 6 1) 3 = some (eR 1 3) := by kernel_rfl
theorem s613 : gE x36 (tx 6 1) 3 = some (eR 1 3) := by kernel_rfl
theorem a62 : gA (tx 6 2) = some (.bool false) := by kernel_rfl
theorem i620 : gE x23 (tx 6 2) 0 = some (eR 2 0) := by kernel_rfl
theorem s620 : gE x36 (tx 6 2) 0 = some (eR 2 0) := by kernel_rfl
theorem i621 : gE x23 (tx 6 2) 1 = some (eR 2 1) := by kernel_rfl
theorem s621 : gE x36 (tx 6 2) 1 = some (eR 2 1) := by kernel_rfl
theorem i622 : gE x23 (tx 6 2) 2 = some (eR 2 2) := by kernel_rfl
theorem s622 : gE x36 (tx 6 2) 2 = some (eR 2 2) := by kernel_rfl
theorem i623 : gE x23 (tx 6 2) 3 = some (eR 2 3) := by kernel_rfl
theorem s623 : gE x36 (tx 6 2) 3 = some (eR 2 3) := by kernel_rfl
theorem a63 : gA (tx 6 3) = some (.bool false) := by kernel_rfl
theorem i630 : gE x23 (tx 6 3) 0 = some (eR 3 0) := by kernel_rfl
theorem s630 : gE x36 (tx 6 3) 0 = some (eR 3 0) := by kernel_rfl
theorem i631 : gE x23 (tx 6 3) 1 = some (eR 3 1) := by kernel_rfl
theorem s631 : gE x36 (tx 6 3) 1 = some (eR 3 1) := by kernel_rfl
theorem i632 : gE x23 (tx 6 3) 2 = some (eR 3 2) := by kernel_rfl
theorem s632 : gE x36 (tx 6 3) 2 = some (eR 3 2) := by kernel_rfl
theorem i633 : gE x23 (tx 6 3) 3 = some (eR 3 3) := by kernel_rfl
theorem s633 : gE x36 (tx 6 3) 3 = some (eR 3 3) := by kernel_rfl
theorem a64 : gA (tx 6 4) = some (.bool false) := by kernel_rfl
theorem i640 : gE x23 (tx 6 4) 0 = some (eR 4 0) := by kernel_rfl
theorem s640 : gE x36 (tx 6 4) 0 = some (eR 4 0) := by kernel_rfl
theorem i641 : gE x23 (tx 6 4) 1 = some (eR 4 1) := by kernel_rfl
theorem s641 : gE x36 (tx 6 4) 1 = some (eR 4 1) := by kernel_rfl
theorem i642 : gE x23 (tx 6 4) 2 = some (eR 4 2) := by kernel_rfl
theorem s642 : gE x36 (tx 6 4) 2 = some (eR 4 2) := by kernel_rfl
theorem i643 : gE x23 (tx 6 4) 3 = some (eR 4 3) := by kernel_rfl
theorem s643 : gE x36 (tx 6 4) 3 = some (eR 4 3) := by kernel_rfl
theorem a65 : gA (tx 6 5) = some (.bool false) := by kernel_rfl
theorem i650 : gE x23 (tx 6 5) 0 = some (eR 5 0) := by kernel_rfl
theorem s650 : gE x36 (tx 6 5) 0 = some (eR 5 0) := by kernel_rfl
theorem i651 : gE x23 (tx 6 5) 1 = some (eR 5 1) := by kernel_rfl
theorem s651 : gE x36 (tx 6 5) 1 = some (eR 5 1) := by kernel_rfl
theorem i652 : gE x23 (tx 6 5) 2 = some (eR 5 2) := by kernel_rfl
theorem s652 : gE x36 (tx 6 5) 2 = some (eR 5 2) := by kernel_rfl
theorem i653 : gE x23 (tx 6 5) 3 = some (eR 5 3) := by kernel_rfl
theorem s653 : gE x36 (tx 6 5) 3 = some (eR 5 3) := by kernel_rfl
theorem a66 : gA (tx 6 6) = some (.bool true) := by kernel_rfl
theorem i660 : gE x23 (tx 6 6) 0 = some (eR 6 0) := by kernel_rfl
theorem s660 : gE x36 (tx 6 6) 0 = some (eR 6 0) := by kernel_rfl
theorem i661 : gE x23 (tx 6 6) 1 = some (eR 6 1) := by kernel_rfl
theorem s661 : gE x36 (tx 6 6) 1 = some (eR 6 1) := by kernel_rfl
theorem i662 : gE x23 (tx 6 6) 2 = some (eR 6 2) := by kernel_rfl
theorem s662 : gE x36 (tx 6 6) 2 = some (eR 6 2) := by kernel_rfl
theorem i663 : gE x23 (tx 6 6) 3 = some (eR 6 3) := by kernel_rfl
theorem s663 : gE x36 (tx 6 6) 3 = some (eR 6 3) := by kernel_rfl
theorem a67 : gA (tx 6 7) = some (.bool false) := by kernel_rfl
theorem i670 : gE x23 (tx 6 7) 0 = some (eR 7 0) := by kernel_rfl
theorem s670 : gE x36 (tx 6 7) 0 = some (eR 7 0) := by kernel_rfl
theorem i671 : gE x23 (tx 6 7) 1 = some (eR 7 1) := by kernel_rfl
theorem s671 : gE x36 (tx 6 7) 1 = some (eR 7 1) := by kernel_rfl
theorem i672 : gE x23 (tx 6 7) 2 = some (eR 7 2) := by kernel_rfl
theorem s672 : gE x36 (tx 6 7) 2 = some (eR 7 2) := by kernel_rfl
theorem i673 : gE x23 (tx 6 7) 3 = some (eR 7 3) := by kernel_rfl
theorem s673 : gE x36 (tx 6 7) 3 = some (eR 7 3) := by kernel_rfl
theorem a68 : gA (tx 6 8) = some (.bool false) := by kernel_rfl
theorem i680 : gE x23 (tx 6 8) 0 = some (eR 8 0) := by kernel_rfl
theorem s680 : gE x36 (tx 6 8) 0 = some (eR 8 0) := by kernel_rfl
theorem i681 : gE x23 (tx 6 8) 1 = some (eR 8 1) := by kernel_rfl
theorem s681 : gE x36 (tx 6 8) 1 = some (eR 8 1) := by kernel_rfl
theorem i682 : gE x23 (tx 6 8) 2 = some (eR 8 2) := by kernel_rfl
theorem s682 : gE x36 (tx 6 8) 2 = some (eR 8 2) := by kernel_rfl
theorem i683 : gE x23 (tx 6 8) 3 = some (eR 8 3) := by kernel_rfl
theorem s683 : gE x36 (tx 6 8) 3 = some (eR 8 3) := by kernel_rfl
theorem a69 : gA (tx 6 9) = some (.bool false) := by kernel_rfl
theorem i690 : gE x23 (tx 6 9) 0 = some (eR 9 0) := by kernel_rfl
theorem s690 : gE x36 (tx 6 9) 0 = some (eR 9 0) := by kernel_rfl
theorem i691 : gE x23 (tx 6 9) 1 = some (eR 9 1) := by kernel_rfl
theorem s691 : gE x36 (tx 6 9) 1 = some (eR 9 1) := by kernel_rfl
theorem i692 : gE x23 (tx 6 9) 2 = some (eR 9 2) := by kernel_rfl
theorem s692 : gE x36 (tx 6 9) 2 = some (eR 9 2) := by kernel_rfl
theorem i693 : gE x23 (tx 6 9) 3 = some (eR 9 3) := by kernel_rfl
theorem s693 : gE x36 (tx 6 9) 3 = some (eR 9 3) := by kernel_rfl
theorem acc6 (m : Nat) (hm : m < 10) (σ : Store) : LD S 18 [.t (.agg [gL]), .t (.str (tx 6 m))] σ = some (.t (B (Nat.beq 6 m)), σ) := by
  rcases lt10 hm with rfl | rfl | rfl | rfl | rfl | rfl | rfl | rfl | rfl | rfl
  · exact hA a60 σ
  · exact hA a61 σ
  · exact hA a62 σ
  · exact hA a63 σ
  · exact hA a64 σ
  · exact hA a65 σ
  · exact hA a66 σ
  · exact hA a67 σ
  · exact hA a68 σ
  · exact hA a69 σ
theorem ei6 (m c : Nat) (hm : m < 10) (hc : c < 4) (σ : Store) : LD S 23 [.t (.agg [gL]), .t (.str (tx 6 m)), .t (.str [66]), .t (.list [.agg [I c]]), .t (I 2)] σ = some (.t (eR m c), σ) := by
  rcases lt10 hm with rfl | rfl | rfl | rfl | rfl | rfl | rfl | rfl | rfl | rfl <;> rcases lt4 hc with rfl | rfl | rfl | rfl
  · exact hI i600 σ
  · exact hI i601 σ
  · exact hI i602 σ
  · exact hI i603 σ
  · exact hI i610 σ
  · exact hI i611 σ
  · exact hI i612 σ
  · exact hI i613 σ
  · exact hI i620 σ
  · exact hI i621 σ
  · exact hI i622 σ
  · exact hI i623 σ
  · exact hI i630 σ
  · exact hI i631 σ
  · exact hI i632 σ
  · exact hI i633 σ
  · exact hI i640 σ
  · exact hI i641 σ
  · exact hI i642 σ
  · exact hI i643 σ
  · exact hI i650 σ
  · exact hI i651 σ
  · exact hI i652 σ
  · exact hI i653 σ
  · exact hI i660 σ
  · exact hI i661 σ
  · exact hI i662 σ
  · exact hI i663 σ
  · exact hI i670 σ
  · exact hI i671 σ
  · exact hI i672 σ
  · exact hI i673 σ
  · exact hI i680 σ
  · exact hI i681 σ
  · exact hI i682 σ
  · exact hI i683 σ
  · exact hI i690 σ
  · exact hI i691 σ
  · exact hI i692 σ
  · exact hI i693 σ
theorem es6 (m c : Nat) (hm : m < 10) (hc : c < 4) (σ : Store) : LD S 36 [.t (.agg [gL]), .t (.str (tx 6 m)), .t (.str [66]), .t (.list [.agg [I c]]), .t (I 2)] σ = some (.t (eR m c), σ) := by
  rcases lt10 hm with rfl | rfl | rfl | rfl | rfl | rfl | rfl | rfl | rfl | rfl <;> rcases lt4 hc with rfl | rfl | rfl | rfl
  · exact hS s600 σ
  · exact hS s601 σ
  · exact hS s602 σ
  · exact hS s603 σ
  · exact hS s610 σ
  · exact hS s611 σ
  · exact hS s612 σ
  · exact hS s613 σ
  · exact hS s620 σ
  · exact hS s621 σ
  · exact hS s622 σ
  · exact hS s623 σ
  · exact hS s630 σ
  · exact hS s631 σ
  · exact hS s632 σ
  · exact hS s633 σ
  · exact hS s640 σ
  · exact hS s641 σ
  · exact hS s642 σ
  · exact hS s643 σ
  · exact hS s650 σ
  · exact hS s651 σ
  · exact hS s652 σ
  · exact hS s653 σ
  · exact hS s660 σ
  · exact hS s661 σ
  · exact hS s662 σ
  · exact hS s663 σ
  · exact hS s670 σ
  · exact hS s671 σ
  · exact hS s672 σ
  · exact hS s673 σ
  · exact hS s680 σ
  · exact hS s681 σ
  · exact hS s682 σ
  · exact hS s683 σ
  · exact hS s690 σ
  · exact hS s691 σ
  · exact hS s692 σ
  · exact hS s693 σ
end TzLe
end X
