/- A part of the proof. No statement of the claim is in it. -/
import Derived.Test.YthfjcnjdcljhmaaGreatDoorTgLe0
open Go Go.V Go.Proofs
namespace X
set_option maxRecDepth 100000
namespace TzLe
theorem a70 : gA (tx 7 0) = some (.bool false) := by kernel_rfl
theorem i700 : gE x23 (tx 7 0) 0 = some (eR 0 0) := by kernel_rfl
theorem s700 : gE x36 (tx 7 0) 0 = some (eR 0 0) := by kernel_rfl
theorem i701 : gE x23 (tx 7 0) 1 = some (eR 0 1) := by kernel_rfl
theorem s701 : gE x36 (tx 7 0) 1 = some (eR 0 1) := by kernel_rfl
theorem i702 : gE x23 (tx 7 0) 2 = some (eR 0 2) := by kernel_rfl
theorem s702 : gE x36 (tx 7 0) 2 = some (eR 0 2) := by kernel_rfl
theorem i703 : gE x23 (tx 7 0) 3 = some (eR 0 3) := by kernel_rfl
theorem s703 : gE x36 (tx 7 0) 3 = some (eR 0 3) := by kernel_rfl
theorem a71 : gA (tx 7 1) = some (.bool false) := by kernel_rfl
theorem i710 : gE x23 (tx 7 1) 0 = some (eR 1 0) := by kernel_rfl
theorem s710 : gE x36 (tx 7 1) 0 = some (eR 1 0) := by kernel_rfl
theorem i711 : gE x23 (tx 7 1) 1 = some (eR 1 1) := by kernel_rfl
theorem s711 : gE x36 (tx 7 1) 1 = some (eR 1 1) := by kernel_rfl
theorem i712 : gE x23 (tx 7 1) 2 = some (eR 1 2) := by kernel_rfl
theorem s712 : gE x36 (tx 7 1) 2 = some (eR 1 2) := by kernel_rfl
theorem i713 : gE x23 (tx 7 1) 3 = some (eR 1 3) := by kernel_rfl
theorem s713 : gE x36 (tx 7 1) 3 = some (eR 1 3) := by kernel_rfl
theorem a72 : gA (tx 7 2) = some (.bool false) := by kernel_rfl
theorem i720 : gE x23 (tx 7 2) 0 = some (eR 2 0) := by kernel_rfl
theorem s720 : gE x36 (tx 7 2) 0 = some (eR 2 0) := by kernel_rfl
theorem i721 : gE x23 (tx 7 2) 1 = some (eR 2 1) := by kernel_rfl
theorem s721 : gE x36 (tx 7 2) 1 = some (eR 2 1) := by kernel_rfl
theorem i722 : gE x23 (tx 7 2) 2 = some (eR 2 2) := by kernel_rfl
theorem s722 : gE x36 (tx 7 2) 2 = some (eR 2 2) := by kernel_rfl
theorem i723 : gE x23 (tx 7 2) 3 = some (eR 2 3) := by kernel_rfl
theorem s723 : gE x36 (tx 7 2) 3 = some (eR 2 3) := by kernel_rfl
theorem a73 : gA (tx 7 3) = some (.bool false) := by kernel_rfl
theorem i730 : gE x23 (tx 7 3) 0 = some (eR 3 0) := by kernel_rfl
theorem s730 : gE x36 (tx 7 3) 0 = some (eR 3 0) := by kernel_rfl
theorem i731 : gE x23 (tx 7 3) 1 = some (eR 3 1) := by kernel_rfl
theorem s731 : gE x36 (tx 7 3) 1 = some (eR 3 1) := by kernel_rfl
theorem i732 : gE x23 (tx 7 3) 2 = some (eR 3 2) := by kernel_rfl
theorem s732 : gE x36 (tx 7 3) 2 = some (eR 3 2) := by kernel_rfl
theorem i733 : gE x23 (tx 7 3) 3 = some (eR 3 3) := by kernel_rfl
theorem s733 : gE x36 (tx 7 3) 3 = some (eR 3 3) := by kernel_rfl
theorem a74 : gA (tx 7 4) = some (.bool false) := by kernel_rfl
theorem i740 : gE x23 (tx 7 4) 0 = some (eR 4 0) := by kernel_rfl
theorem s740 : gE x36 (tx 7 4) 0 = some (eR 4 0) := by kernel_rfl
theorem i741 : gE x23 (tx 7 4) 1 = some (eR 4 1) := by kernel_rfl
theorem s741 : gE x36 (tx 7 4) 1 = some (eR 4 1) := by kernel_rfl
theorem i742 : gE x23 (tx 7 4) 2 = some (eR 4 2) := by kernel_rfl
theorem s742 : gE x36 (tx 7 4) 2 = some (eR 4 2) := by kernel_rfl
theorem i743 : gE x23 (tx 7 4) 3 = some (eR 4 3) := by kernel_rfl
theorem s743 : gE x36 (tx 7 4) 3 = some (eR 4 3) := by kernel_rfl
theorem a75 : gA (tx 7 5) = some (.bool false) := by kernel_rfl
theorem i750 : gE x23 (tx 7 5) 0 = some (eR 5 0) := by kernel_rfl
theorem s750 : gE x36 (tx 7 5) 0 = some (eR 5 0) := by kernel_rfl
theorem i751 : gE x23 (tx 7 5) 1 = some (eR 5 1) := by kernel_rfl
theorem s751 : gE x36 (tx 7 5) 1 = some (eR 5 1) := by kernel_rfl
theorem i752 : gE x23 (tx 7 5) 2 = some (eR 5 2) := by kernel_rfl
theorem s752 : gE x36 (tx 7 5) 2 = some (eR 5 2) := by kernel_rfl
theorem i753 : gE x23 (tx 7 5) 3 = some (eR 5 3) := by kernel_rfl
theorem s753 : gE x36 (tx 7 5) 3 = some (eR 5 3) := by kernel_rfl
theorem a76 : gA (tx 7 6) = some (.bool false) := by kernel_rfl
theorem i760 : gE x23 (tx 7 6) 0 = some (eR 6 0) := by kernel_rfl
theorem s760 : gE x36 (tx 7 6) 0 = some (eR 6 0) := by kernel_rfl
theorem i761 : gE x23 (tx 7 6) 1 = some (eR 6 1) := by kernel_rfl
theorem s761 : gE x36 (tx 7 6) 1 = some (eR 6 1) := by kernel_rfl
theorem i762 : gE x23 (tx 7 6) 2 = some (eR 6 2) := by kernel_rfl
theorem s762 : gE x36 (tx 7 6) 2 = some (eR 6 2) := by kernel_rfl
theorem i763 : gE x23 (tx 7 6) 3 = some (eR 6 3) := by kernel_rfl
theorem s763 : gE x36 (tx 7 6) 3 = some (eR 6 3) := by kernel_rfl
theorem a77 : gA (tx 7 7) = some (.bool true) := by kernel_rfl
theorem i770 : gE x23 (tx 7 7) 0 = some (eR 7 0) := by kernel_rfl
theorem s770 : gE x36 (tx 7 7) 0 = some (eR 7 0) := by kernel_rfl
theorem i771 : gE x23 (tx 7 7) 1 = some (eR 7 1) := by kernel_rfl
theorem s771 : gE x36 (tx 7 7) 1 = some (eR 7 1) := by kernel_rfl
theorem i772 : gE x23 (tx 7 7) 2 = some (eR 7 2) := by kernel_rfl
theorem s772 : gE x36 (tx 7 7) 2 = some (eR 7 2) := by kernel_rfl
theorem i773 : gE x23 (tx 7 7) 3 = some (eR 7 3) := by kernel_rfl
theorem s773 : gE x36 (tx 7 7) 3 = some (eR 7 3) := by kernel_rfl
theorem a78 : gA (tx 7 8) = some (.bool false) := by kernel_rfl
theorem i780 : gE x23 (tx 7 8) 0 = some (eR 8 0) := by kernel_rfl
theorem s780 : gE x36 (tx 7 8) 0 = some (eR 8 0) := by kernel_rfl
theorem i781 : gE x23 (tx 7 8) 1 = some (eR 8 1) := by kernel_rfl
theorem s781 : gE x36 (tx 7 8) 1 = some (eR 8 1) := by kernel_rfl
theorem i782 : gE x23 (tx 7 8) 2 = some (eR 8 2) := by kernel_rfl
theorem s782 : gE x36 (tx 7 8) 2 = some (eR 8 2) := by kernel_rfl
theorem i783 : gE x23 (tx 7 8) 3 = some (eR 8 3) := by kernel_rfl
theorem s783 : gE x36 (tx 7 8) 3 = some (eR 8 3) := by kernel_rfl
theorem a79 : gA (tx 7 9) = some (.bool false) := by kernel_rfl
theorem i790 : gE x23 (tx 7 9) 0 = some (eR 9 0) := by kernel_rfl
theorem s790 : gE x36 (tx 7 9) 0 = some (eR 9 0) := by kernel_rfl
theorem i791 : gE x23 (tx 7 9) 1 = some (eR 9 1) := by kernel_rfl
theorem s791 : gE x36 (tx 7 9) 1 = some (eR 9 1) := by kernel_rfl
theorem i792 : gE x23 (tx 7 9) 2 = some (eR 9 2) := by kernel_rfl
theorem s792 : gE x36 (tx 7 9) 2 = some (eR 9 2) := by kernel_rfl
theorem i793 : gE x23 (tx 7 9) 3 = some (eR 9 3) := by kernel_rfl
theorem s793 : gE x36 (tx 7 9) 3 = some (eR 9 3) := by kernel_rfl
theorem acc7 (m : Nat) (hm : m < 10) (σ : Store) : LD S 18 [.t (.agg [gL]), .t (.str (tx 7 m))] σ = some (.t (B (Nat.beq 7 m)), σ) := by
  rcases lt10 hm with rfl | rfl | rfl | rfl | rfl | rfl | rfl | rfl | rfl | rfl
  · exact hA a70 σ
  · exact hA a71 σ
  · exact hA a72 σ
  · exact hA a73 σ
  · exact hA a74 σ
  · exact hA a75 σ
  · exact hA a76 σ
  · exact hA a77 σ
  · exact hA a78 σ
  · exact hA a79 σ
theorem ei7 (m c : Nat) (hm : m < 10) (hc : c < 4) (σ : Store) : LD S 23 [.t (.agg [gL]), .t (.str (tx 7 m)), .t (.str [66]), .t (.list [.agg [I c]]), .t (I 2)] σ = some (.t (eR m c), σ) := by
  rcases lt10 hm with rfl | rfl | rfl | rfl | rfl | rfl | rfl | rfl | rfl | rfl <;> rcases lt4 hc with rfl | rfl | rfl | rfl
  · exact hI i700 σ
  · exact hI i701 σ
  · exact hI i702 σ
  · exact hI i703 σ
  · exact hI i710 σ
  · exact hI i711 σ
  · exact hI i712 σ
  · exact hI i713 σ
  · exact hI i720 σ
  · exact hI i721 σ
  · exact hI i722 σ
  · exact hI i723 σ
  · exact hI i730 σ
  · exact hI i731 σ
  · exact hI i732 σ
  · exact hI i733 σ
  · exact hI i740 σ
  · exact hI i741 σ
  · exact hI i742 σ
  · exact hI i743 σ
  · exact hI i750 σ
  · exact hI i751 σ
  · exact hI i752 σ
  · exact hI i753 σ
  · exact hI i760 σ
  · exact hI i761 σ
  · exact hI i762 σ
  · exact hI i763 σ
  · exact hI i770 σ
  · exact hI i771 σ
  · exact hI i772 σ
  · exact hI i773 σ
  · exact hI i780 σ
  · exact hI i781 σ
  · exact hI i782 σ
  · exact hI i783 σ
  · exact hI i790 σ
  · exact hI i791 σ
  · exact hI i792 σ
  · exact hI i793 σ
theorem es7 (m c : Nat) (hm : m < 10) (hc : c < 4) (σ : Store) : LD S 36 [.t (.agg [gL]), .t (.str (tx 7 m)), .t (.str [66]), .t (.list [.agg [I c]]), .t (I 2)] σ = some (.t (eR m c), σ) := by
  rcases lt10 hm with rfl | rfl | rfl | rfl | rfl | rfl | rfl | rfl | rfl | rfl <;> rcases lt4 hc with rfl | rfl | rfl | rfl
  · exact hS s700 σ
  · exact hS s701 σ
  · exact hS s702 σ
  · exact hS s703 σ
  · exact hS s710 σ
  · exact hS s711 σ
  · exact hS s712 σ
  · exact hS s713 σ
  · exact hS s720 σ
  · exact hS s721 σ
  · exact hS s722 σ
  · exact hS s723 σ
  · exact hS s730 σ
  · exact hS s731 σ
  · exact hS s732 σ
  · exact hS s733 σ
  · exact hS s740 σ
  · exact hS s741 σ
  · exact hS s742 σ
  · exact hS s743 σ
  · exact hS s750 σ
  · exact hS s751 σ
  · exact hS s752 σ
  · exact hS s753 σ
  · exact hS s760 σ
  · exact hS s761 σ
  · exact hS s762 σ
  · exact hS s763 σ
  · exact hS s770 σ
  · exact hS s771 σ
  · exact hS s772 σ
  · exact hS s773 σ
  · exact hS s780 σ
  · exact hS s781 σ
  · exact hS s782 σ
  · exact hS s783 σ
  · exact hS s790 σ
  · exact hS s791 σ
  · exact hS s792 σ
  · exact hS s793 σ
end TzLe
end X
