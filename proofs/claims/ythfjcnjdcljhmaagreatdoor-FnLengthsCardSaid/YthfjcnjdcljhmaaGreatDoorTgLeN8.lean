/- A part of the proof. No statement of the claim is in it. -/
import Derived.Test.YthfjcnjdcljhmaaGreatDoorTgLe0
open Go Go.V Go.Proofs
namespace X
set_option maxRecDepth 100000
namespace TzLe
theorem a80 : gA (tx 8 0) = some (.bool false) := by kernel_rfl
theorem i800 : gE x23 (tx 8 0) 0 = some (eR 0 0) := by kernel_rfl
theorem s800 : gE x36 (tx 8 0) 0 = some (eR 0 0) := by kernel_rfl
theorem i801 : gE x23 (tx 8 0) 1 = some (eR 0 1) := by kernel_rfl
theorem s801 : gE x36 (tx 8 0) 1 = some (eR 0 1) := by kernel_rfl
theorem i802 : gE x23 (tx 8 0) 2 = some (eR 0 2) := by kernel_rfl
theorem s802 : gE x36 (tx 8 0) 2 = some (eR 0 2) := by kernel_rfl
theorem i803 : gE x23 (tx 8 0) 3 = some (eR 0 3) := by kernel_rfl
theorem s803 : gE x36 (tx 8 0) 3 = some (eR 0 3) := by kernel_rfl
theorem a81 : gA (tx 8 1) = some (.bool false) := by kernel_rfl
theorem i810 : gE x23 (tx 8 1) 0 = some (eR 1 0) := by kernel_rfl
theorem s810 : gE x36 (tx 8 1) 0 = some (eR 1 0) := by kernel_rfl
theorem i811 : gE x23 (tx 8 1) 1 = some (eR 1 1) := by kernel_rfl
theorem s811 : gE x36 (tx 8 1) 1 = some (eR 1 1) := by kernel_rfl
theorem i812 : gE x23 (tx 8 1) 2 = some (eR 1 2) := by kernel_rfl
theorem s812 : gE x36 (tx 8 1) 2 = some (eR 1 2) := by kernel_rfl
theorem i813 : gE x23 (tx 8 1) 3 = some (eR 1 3) := by kernel_rfl
theorem s813 : gE x36 (tx 8 1) 3 = some (eR 1 3) := by kernel_rfl
theorem a82 : gA (tx 8 2) = some (.bool false) := by kernel_rfl
theorem i820 : gE x23 (tx 8 2) 0 = some (eR 2 0) := by kernel_rfl
theorem s820 : gE x36 (tx 8 2) 0 = some (eR 2 0) := by kernel_rfl
theorem i821 : gE x23 (tx 8 2) 1 = some (eR 2 1) := by kernel_rfl
theorem s821 : gE x36 (tx 8 2) 1 = some (eR 2 1) := by kernel_rfl
theorem i822 : gE x23 (tx 8 2) 2 = some (eR 2 2) := by kernel_rfl
theorem s822 : gE x36 (tx 8 2) 2 = some (eR 2 2) := by kernel_rfl
theorem i823 : gE x23 (tx 8 2) 3 = some (eR 2 3) := by kernel_rfl
theorem s823 : gE x36 (tx 8 2) 3 = some (eR 2 3) := by kernel_rfl
theorem a83 : gA (tx 8 3) = some (.bool false) := by kernel_rfl
theorem i830 : gE x23 (tx 8 3) 0 = some (eR 3 0) := by kernel_rfl
theorem s830 : gE x36 (tx 8 3) 0 = some (eR 3 0) := by kernel_rfl
theorem i831 : gE x23 (tx 8 3) 1 = some (eR 3 1) := by kernel_rfl
theorem s831 : gE x36 (tx 8 3) 1 = some (eR 3 1) := by kernel_rfl
theorem i832 : gE x23 (tx 8 3) 2 = some (eR 3 2) := by kernel_rfl
theorem s832 : gE x36 (tx 8 3) 2 = some (eR 3 2) := by kernel_rfl
theorem i833 : gE x23 (tx 8 3) 3 = some (eR 3 3) := by kernel_rfl
theorem s833 : gE x36 (tx 8 3) 3 = some (eR 3 3) := by kernel_rfl
theorem a84 : gA (tx 8 4) = some (.bool false) := by kernel_rfl
theorem i840 : gE x23 (tx 8 4) 0 = some (eR 4 0) := by kernel_rfl
theorem s840 : gE x36 (tx 8 4) 0 = some (eR 4 0) := by kernel_rfl
theorem i841 : gE x23 (tx 8 4) 1 = some (eR 4 1) := by kernel_rfl
theorem s841 : gE x36 (tx 8 4) 1 = some (eR 4 1) := by kernel_rfl
theorem i842 : gE x23 (tx 8 4) 2 = some (eR 4 2) := by kernel_rfl
theorem s842 : gE x36 (tx 8 4) 2 = some (eR 4 2) := by kernel_rfl
theorem i843 : gE x23 (tx 8 4) 3 = some (eR 4 3) := by kernel_rfl
theorem s843 : gE x36 (tx 8 4) 3 = some (eR 4 3) := by kernel_rfl
theorem a85 : gA (tx 8 5) = some (.bool false) := by kernel_rfl
theorem i850 : gE x23 (tx 8 5) 0 = some (eR 5 0) := by kernel_rfl
theorem s850 : gE x36 (tx 8 5) 0 = some (eR 5 0) := by kernel_rfl
theorem i851 : gE x23 (tx 8 5) 1 = some (eR 5 1) := by kernel_rfl
theorem s851 : gE x36 (tx 8 5) 1 = some (eR 5 1) := by kernel_rfl
theorem i852 : gE x23 (tx 8 5) 2 = some (eR 5 2) := by kernel_rfl
theorem s852 : gE x36 (tx 8 5) 2 = some (eR 5 2) := by kernel_rfl
theorem i853 : gE x23 (tx 8 5) 3 = some (eR 5 3) := by kernel_rfl
theorem s853 : gE x36 (tx 8 5) 3 = some (eR 5 3) := by kernel_rfl
theorem a86 : gA (tx 8 6) = some (.bool false) := by kernel_rfl
theorem i860 : gE x23 (tx 8 6) 0 = some (eR 6 0) := by kernel_rfl
theorem s860 : gE x36 (tx 8 6) 0 = some (eR 6 0) := by kernel_rfl
theorem i861 : gE x23 (tx 8 6) 1 = some (eR 6 1) := by kernel_rfl
theorem s861 : gE x36 (tx 8 6) 1 = some (eR 6 1) := by kernel_rfl
theorem i862 : gE x23 (tx 8 6) 2 = some (eR 6 2) := by kernel_rfl
theorem s862 : gE x36 (tx 8 6) 2 = some (eR 6 2) := by kernel_rfl
theorem i863 : gE x23 (tx 8 6) 3 = some (eR 6 3) := by kernel_rfl
theorem s863 : gE x36 (tx 8 6) 3 = some (eR 6 3) := by kernel_rfl
theorem a87 : gA (tx 8 7) = some (.bool false) := by kernel_rfl
theorem i870 : gE x23 (tx 8 7) 0 = some (eR 7 0) := by kernel_rfl
theorem s870 : gE x36 (tx 8 7) 0 = some (eR 7 0) := by kernel_rfl
theorem i871 : gE x23 (tx 8 7) 1 = some (eR 7 1) := by kernel_rfl
theorem s871 : gE x36 (tx 8 7) 1 = some (eR 7 1) := by kernel_rfl
theorem i872 : gE x23 (tx 8 7) 2 = some (eR 7 2) := by kernel_rfl
theorem s872 : gE x36 (tx 8 7) 2 = some (eR 7 2) := by kernel_rfl
theorem i873 : gE x23 (tx 8 7) 3 = some (eR 7 3) := by kernel_rfl
theorem s873 : gE x36 (tx 8 7) 3 = some (eR 7 3) := by kernel_rfl
theorem a88 : gA (tx 8 8) = some (.bool true) := by kernel_rfl
theorem i880 : gE x23 (tx 8 8) 0 = some (eR 8 0) := by kernel_rfl
theorem s880 : gE x36 (tx 8 8) 0 = some (eR 8 0) := by kernel_rfl
theorem i881 : gE x23 (tx 8 8) 1 = some (eR 8 1) := by kernel_rfl
theorem s881 : gE x36 (tx 8 8) 1 = some (eR 8 1) := by kernel_rfl
theorem i882 : gE x23 (tx 8 8) 2 = some (eR 8 2) := by kernel_rfl
theorem s882 : gE x36 (tx 8 8) 2 = some (eR 8 2) := by kernel_rfl
theorem i883 : gE x23 (tx 8 8) 3 = some (eR 8 3) := by kernel_rfl
theorem s883 : gE x36 (tx 8 8) 3 = some (eR 8 3) := by kernel_rfl
theorem a89 : gA (tx 8 9) = some (.bool false) := by kernel_rfl
theorem i890 : gE x23 (tx 8 9) 0 = some (eR 9 0) := by kernel_rfl
theorem s890 : gE x36 (tx 8 9) 0 = some (eR 9 0) := by kernel_rfl
theorem i891 : gE x23 (tx 8 9) 1 = some (eR 9 1) := by kernel_rfl
theorem s891 : gE x36 (tx 8 9) 1 = some (eR 9 1) := by kernel_rfl
theorem i892 : gE x23 (tx 8 9) 2 = some (eR 9 2) := by kernel_rfl
theorem s892 : gE x36 (tx 8 9) 2 = some (eR 9 2) := by kernel_rfl
theorem i893 : gE x23 (tx 8 9) 3 = some (eR 9 3) := by kernel_rfl
theorem s893 : gE x36 (tx 8 9) 3 = some (eR 9 3) := by kernel_rfl
theorem acc8 (m : Nat) (hm : m < 10) (σ : Store) : LD S 18 [.t (.agg [gL]), .t (.str (tx 8 m))] σ = some (.t (B (Nat.beq 8 m)), σ) := by
  rcases lt10 hm with rfl | rfl | rfl | rfl | rfl | rfl | rfl | rfl | rfl | rfl
  · exact hA a80 σ
  · exact hA a81 σ
  · exact hA a82 σ
  · exact hA a83 σ
  · exact hA a84 σ
  · exact hA a85 σ
  · exact hA a86 σ
  · exact hA a87 σ
  · exact hA a88 σ
  · exact hA a89 σ
theorem ei8 (m c : Nat) (hm : m < 10) (hc : c < 4) (σ : Store) : LD S 23 [.t (.agg [gL]), .t (.str (tx 8 m)), .t (.str [66]), .t (.list [.agg [I c]]), .t (I 2)] σ = some (.t (eR m c), σ) := by
  rcases lt10 hm with rfl | rfl | rfl | rfl | rfl | rfl | rfl | rfl | rfl | rfl <;> rcases lt4 hc with rfl | rfl | rfl | rfl
  · exact hI i800 σ
  · exact hI i801 σ
  · exact hI i802 σ
  · exact hI i803 σ
  · exact hI i810 σ
  · exact hI i811 σ
  · exact hI i812 σ
  · exact hI i813 σ
  · exact hI i820 σ
  · exact hI i821 σ
  · exact hI i822 σ
  · exact hI i823 σ
  · exact hI i830 σ
  · exact hI i831 σ
  · exact hI i832 σ
  · exact hI i833 σ
  · exact hI i840 σ
  · exact hI i841 σ
  · exact hI i842 σ
  · exact hI i843 σ
  · exact hI i850 σ
  · exact hI i851 σ
  · exact hI i852 σ
  · exact hI i853 σ
  · exact hI i860 σ
  · exact hI i861 σ
  · exact hI i862 σ
  · exact hI i863 σ
  · exact hI i870 σ
  · exact hI i871 σ
  · exact hI i872 σ
  · exact hI i873 σ
  · exact hI i880 σ
  · exact hI i881 σ
  · exact hI i882 σ
  · exact hI i883 σ
  · exact hI i890 σ
  · exact hI i891 σ
  · exact hI i892 σ
  · exact hI i893 σ
theorem es8 (m c : Nat) (hm : m < 10) (hc : c < 4) (σ : Store) : LD S 36 [.t (.agg [gL]), .t (.str (tx 8 m)), .t (.str [66]), .t (.list [.agg [I c]]), .t (I 2)] σ = some (.t (eR m c), σ) := by
  rcases lt10 hm with rfl | rfl | rfl | rfl | rfl | rfl | rfl | rfl | rfl | rfl <;> rcases lt4 hc with rfl | rfl | rfl | rfl
  · exact hS s800 σ
  · exact hS s801 σ
  · exact hS s802 σ
  · exact hS s803 σ
  · exact hS s810 σ
  · exact hS s811 σ
  · exact hS s812 σ
  · exact hS s813 σ
  · exact hS s820 σ
  · exact hS s821 σ
  · exact hS s822 σ
  · exact hS s823 σ
  · exact hS s830 σ
  · exact hS s831 σ
  · exact hS s832 σ
  · exact hS s833 σ
  · exact hS s840 σ
  · exact hS s841 σ
  · exact hS s842 σ
  · exact hS s843 σ
  · exact hS s850 σ
  · exact hS s851 σ
  · exact hS s852 σ
  · exact hS s853 σ
  · exact hS s860 σ
  · exact hS s861 σ
  · exact hS s862 σ
  · exact hS s863 σ
  · exact hS s870 σ
  · exact hS s871 σ
  · exact hS s872 σ
  · exact hS s873 σ
  · exact hS s880 σ
  · exact hS s881 σ
  · exact hS s882 σ
  · exact hS s883 σ
  · exact hS s890 σ
  · exact hS s891 σ
  · exact hS s892 σ
  · exact hS s893 σ
end TzLe
end X
