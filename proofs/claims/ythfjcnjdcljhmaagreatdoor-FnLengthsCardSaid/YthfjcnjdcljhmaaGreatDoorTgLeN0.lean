/- A part of the proof. No statement of the claim is in it. -/
import Derived.Test.YthfjcnjdcljhmaaGreatDoorTgLe0
open Go Go.V Go.Proofs
namespace X
set_option maxRecDepth 100000
namespace TzLe
theorem a00 : gA (tx 0 0) = some (.bool true) := by kernel_rfl
theorem i000 : gE x23 (tx 0 0) 0 = some (eR 0 0) := by kernel_rfl
theorem s000 : gE x36 (tx 0 0) 0 = some (eR 0 0) := by kernel_rfl
theorem i001 : gE x23 (tx 0 0) 1 = some (eR 0 1) := by kernel_rfl
theorem s001 : gE x36 (tx 0 0) 1 = some (eR 0 1) := by kernel_rfl
theorem i002 : gE x23 (tx 0 0) 2 = some (eR 0 2) := by kernel_rfl
theorem s002 : gE x36 (tx 0 0) 2 = some (eR 0 2) := by kernel_rfl
theorem i003 : gE x23 (tx 0 0) 3 = some (eR 0 3) := by kernel_rfl
theorem s003 : gE x36 (tx 0 0) 3 = some (eR 0 3) := by kernel_rfl
theorem a01 : gA (tx 0 1) = some (.bool false) := by kernel_rfl
theorem i010 : gE x23 (tx 0 1) 0 = some (eR 1 0) := by kernel_rfl
theorem s010 : gE x36 (tx 0 1) 0 = some (eR 1 0) := by kernel_rfl
theorem i011 : gE x23 (tx 0 1) 1 = some (eR 1 1) := by kernel_rfl
theorem s011 : gE x36 (tx 0 1) 1 = some (eR 1 1) := by kernel_rfl
theorem i012 : gE x23 (tx 0 1) 2 = some (eR 1 2) := by kernel_rfl
theorem s012 : gE x36 (tx 0 1) 2 = some (eR 1 2) := by kernel_rfl
theorem i013 : gE x23 (tx 0 1) 3 = some (eR 1 3) := by kernel_rfl
theorem s013 : gE x36 (tx 0 1) 3 = some (eR 1 3) := by kernel_rfl
theorem a02 : gA (tx 0 2) = some (.bool false) := by kernel_rfl
theorem i020 : gE x23 (tx 0 2) 0 = some (eR 2 0) := by kernel_rfl
theorem s020 : gE x36 (tx 0 2) 0 = some (eR 2 0) := by kernel_rfl
theorem i021 : gE x23 (tx 0 2) 1 = some (eR 2 1) := by kernel_rfl
theorem s021 : gE x36 (tx 0 2) 1 = some (eR 2 1) := by kernel_rfl
theorem i022 : gE x23 (tx 0 2) 2 = some (eR 2 2) := by kernel_rfl
theorem s022 : gE x36 (tx 0 2) 2 = some (eR 2 2) := by kernel_rfl
theorem i023 : gE x23 (tx 0 2) 3 = some (eR 2 3) := by kernel_rfl
theorem s023 : gE x36 (tx 0 2) 3 = some (eR 2 3) := by kernel_rfl
theorem a03 : gA (tx 0 3) = some (.bool false) := by kernel_rfl
theorem i030 : gE x23 (tx 0 3) 0 = some (eR 3 0) := by kernel_rfl
theorem s030 : gE x36 (tx 0 3) 0 = some (eR 3 0) := by kernel_rfl
theorem i031 : gE x23 (tx 0 3) 1 = some (eR 3 1) := by kernel_rfl
theorem s031 : gE x36 (tx 0 3) 1 = some (eR 3 1) := by kernel_rfl
theorem i032 : gE x23 (tx 0 3) 2 = some (eR 3 2) := by kernel_rfl
theorem s032 : gE x36 (tx 0 3) 2 = some (eR 3 2) := by kernel_rfl
theorem i033 : gE x23 (tx 0 3) 3 = some (eR 3 3) := by kernel_rfl
theorem s033 : gE x36 (tx 0 3) 3 = some (eR 3 3) := by kernel_rfl
theorem a04 : gA (tx 0 4) = some (.bool false) := by kernel_rfl
theorem i040 : gE x23 (tx 0 4) 0 = some (eR 4 0) := by kernel_rfl
theorem s040 : gE x36 (tx 0 4) 0 = some (eR 4 0) := by kernel_rfl
theorem i041 : gE x23 (tx 0 4) 1 = some (eR 4 1) := by kernel_rfl
theorem s041 : gE x36 (tx 0 4) 1 = some (eR 4 1) := by kernel_rfl
theorem i042 : gE x23 (tx 0 4) 2 = some (eR 4 2) := by kernel_rfl
theorem s042 : gE x36 (tx 0 4) 2 = some (eR 4 2) := by kernel_rfl
theorem i043 : gE x23 (tx 0 4) 3 = some (eR 4 3) := by kernel_rfl
theorem s043 : gE x36 (tx 0 4) 3 = some (eR 4 3) := by kernel_rfl
theorem a05 : gA (tx 0 5) = some (.bool false) := by kernel_rfl
theorem i050 : gE x23 (tx 0 5) 0 = some (eR 5 0) := by kernel_rfl
theorem s050 : gE x36 (tx 0 5) 0 = some (eR 5 0) := by kernel_rfl
theorem i051 : gE x23 (tx 0 5) 1 = some (eR 5 1) := by kernel_rfl
theorem s051 : gE x36 (tx 0 5) 1 = some (eR 5 1) := by kernel_rfl
theorem i052 : gE x23 (tx 0 5) 2 = some (eR 5 2) := by kernel_rfl
theorem s052 : gE x36 (tx 0 5) 2 = some (eR 5 2) := by kernel_rfl
theorem i053 : gE x23 (tx 0 5) 3 = some (eR 5 3) := by kernel_rfl
theorem s053 : gE x36 (tx 0 5) 3 = some (eR 5 3) := by kernel_rfl
theorem a06 : gA (tx 0 6) = some (.bool false) := by kernel_rfl
theorem i060 : gE x23 (tx 0 6) 0 = some (eR 6 0) := by kernel_rfl
theorem s060 : gE x36 (tx 0 6) 0 = some (eR 6 0) := by kernel_rfl
theorem i061 : gE x23 (tx 0 6) 1 = some (eR 6 1) := by kernel_rfl
theorem s061 : gE x36 (tx 0 6) 1 = some (eR 6 1) := by kernel_rfl
theorem i062 : gE x23 (tx 0 6) 2 = some (eR 6 2) := by kernel_rfl
theorem s062 : gE x36 (tx 0 6) 2 = some (eR 6 2) := by kernel_rfl
theorem i063 : gE x23 (tx 0 6) 3 = some (eR 6 3) := by kernel_rfl
theorem s063 : gE x36 (tx 0 6) 3 = some (eR 6 3) := by kernel_rfl
theorem a07 : gA (tx 0 7) = some (.bool false) := by kernel_rfl
theorem i070 : gE x23 (tx 0 7) 0 = some (eR 7 0) := by kernel_rfl
theorem s070 : gE x36 (tx 0 7) 0 = some (eR 7 0) := by kernel_rfl
theorem i071 : gE x23 (tx 0 7) 1 = some (eR 7 1) := by kernel_rfl
theorem s071 : gE x36 (tx 0 7) 1 = some (eR 7 1) := by kernel_rfl
theorem i072 : gE x23 (tx 0 7) 2 = some (eR 7 2) := by kernel_rfl
theorem s072 : gE x36 (tx 0 7) 2 = some (eR 7 2) := by kernel_rfl
theorem i073 : gE x23 (tx 0 7) 3 = some (eR 7 3) := by kernel_rfl
theorem s073 : gE x36 (tx 0 7) 3 = some (eR 7 3) := by kernel_rfl
theorem a08 : gA (tx 0 8) = some (.bool false) := by kernel_rfl
theorem i080 : gE x23 (tx 0 8) 0 = some (eR 8 0) := by kernel_rfl
theorem s080 : gE x36 (tx 0 8) 0 = some (eR 8 0) := by kernel_rfl
theorem i081 : gE x23 (tx 0 8) 1 = some (eR 8 1) := by kernel_rfl
theorem s081 : gE x36 (tx 0 8) 1 = some (eR 8 1) := by kernel_rfl
theorem i082 : gE x23 (tx 0 8) 2 = some (eR 8 2) := by kernel_rfl
theorem s082 : gE x36 (tx 0 8) 2 = some (eR 8 2) := by kernel_rfl
theorem i083 : gE x23 (tx 0 8) 3 = some (eR 8 3) := by kernel_rfl
theorem s083 : gE x36 (tx 0 8) 3 = some (eR 8 3) := by kernel_rfl
theorem a09 : gA (tx 0 9) = some (.bool false) := by kernel_rfl
theorem i090 : gE x23 (tx 0 9) 0 = some (eR 9 0) := by kernel_rfl
theorem s090 : gE x36 (tx 0 9) 0 = some (eR 9 0) := by kernel_rfl
theorem i091 : gE x23 (tx 0 9) 1 = some (eR 9 1) := by kernel_rfl
theorem s091 : gE x36 (tx 0 9) 1 = some (eR 9 1) := by kernel_rfl
theorem i092 : gE x23 (tx 0 9) 2 = some (eR 9 2) := by kernel_rfl
theorem s092 : gE x36 (tx 0 9) 2 = some (eR 9 2) := by kernel_rfl
theorem i093 : gE x23 (tx 0 9) 3 = some (eR 9 3) := by kernel_rfl
theorem s093 : gE x36 (tx 0 9) 3 = some (eR 9 3) := by kernel_rfl
theorem acc0 (m : Nat) (hm : m < 10) (σ : Store) : LD S 18 [.t (.agg [gL]), .t (.str (tx 0 m))] σ = some (.t (B (Nat.beq 0 m)), σ) := by
  rcases lt10 hm with rfl | rfl | rfl | rfl | rfl | rfl | rfl | rfl | rfl | rfl
  · exact hA a00 σ
  · exact hA a01 σ
  · exact hA a02 σ
  · exact hA a03 σ
  · exact hA a04 σ
  · exact hA a05 σ
  · exact hA a06 σ
  · exact hA a07 σ
  · exact hA a08 σ
  · exact hA a09 σ
theorem ei0 (m c : Nat) (hm : m < 10) (hc : c < 4) (σ : Store) : LD S 23 [.t (.agg [gL]), .t (.str (tx 0 m)), .t (.str [66]), .t (.list [.agg [I c]]), .t (I 2)] σ = some (.t (eR m c), σ) := by
  rcases lt10 hm with rfl | rfl | rfl | rfl | rfl | rfl | rfl | rfl | rfl | rfl <;> rcases lt4 hc with rfl | rfl | rfl | rfl
  · exact hI i000 σ
  · exact hI i001 σ
  · exact hI i002 σ
  · exact hI i003 σ
  · exact hI i010 σ
  · exact hI i011 σ
  · exact hI i012 σ
  · exact hI i013 σ
  · exact hI i020 σ
  · exact hI i021 σ
  · exact hI i022 σ
  · exact hI i023 σ
  · exact hI i030 σ
  · exact hI i031 σ
  · exact hI i032 σ
  · exact hI i033 σ
  · exact hI i040 σ
  · exact hI i041 σ
  · exact hI i042 σ
  · exact hI i043 σ
  · exact hI i050 σ
  · exact hI i051 σ
  · exact hI i052 σ
  · exact hI i053 σ
  · exact hI i060 σ
  · exact hI i061 σ
  · exact hI i062 σ
  · exact hI i063 σ
  · exact hI i070 σ
  · exact hI i071 σ
  · exact hI i072 σ
  · exact hI i073 σ
  · exact hI i080 σ
  · exact hI i081 σ
  · exact hI i082 σ
  · exact hI i083 σ
  · exact hI i090 σ
  · exact hI i091 σ
  · exact hI i092 σ
  · exact hI i093 σ
theorem es0 (m c : Nat) (hm : m < 10) (hc : c < 4) (σ : Store) : LD S 36 [.t (.agg [gL]), .t (.str (tx 0 m)), .t (.str [66]), .t (.list [.agg [I c]]), .t (I 2)] σ = some (.t (eR m c), σ) := by
  rcases lt10 hm with rfl | rfl | rfl | rfl | rfl | rfl | rfl | rfl | rfl | rfl <;> rcases lt4 hc with rfl | rfl | rfl | rfl
  · exact hS s000 σ
  · exact hS s001 σ
  · exact hS s002 σ
  · exact hS s003 σ
  · exact hS s010 σ
  · exact hS s011 σ
  · exact hS s012 σ
  · exact hS s013 σ
  · exact hS s020 σ
  · exact hS s021 σ
  · exact hS s022 σ
  · exact hS s023 σ
  · exact hS s030 σ
  · exact hS s031 σ
  · exact hS s032 σ
  · exact hS s033 σ
  · exact hS s040 σ
  · exact hS s041 σ
  · exact hS s042 σ
  · exact hS s043 σ
  · exact hS s050 σ
  · exact hS s051 σ
  · exact hS s052 σ
  · exact hS s053 σ
  · exact hS s060 σ
  · exact hS s061 σ
  · exact hS s062 σ
  · exact hS s063 σ
  · exact hS s070 σ
  · exact hS s071 σ
  · exact hS s072 σ
  · exact hS s073 σ
  · exact hS s080 σ
  · exact hS s081 σ
  · exact hS s082 σ
  · exact hS s083 σ
  · exact hS s090 σ
  · exact hS s091 σ
  · exact hS s092 σ
  · exact hS s093 σ
end TzLe
end X
