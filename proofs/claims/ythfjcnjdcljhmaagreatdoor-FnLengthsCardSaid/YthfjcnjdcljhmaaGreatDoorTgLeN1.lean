/- A part of the proof. No statement of the claim is in it. -/
import Derived.Test.YthfjcnjdcljhmaaGreatDoorTgLe0
open Go Go.V Go.Proofs
namespace X
set_option maxRecDepth 100000
namespace TzLe
theorem a10 : gA (tx 1 0) = some (.bool false) := by kernel_rfl
theorem i100 : gE x23 (tx 1 0) 0 = some (eR 0 0) := by kernel_rfl
theorem s100 : gE x36 (tx 1 0) 0 = some (eR 0 0) := by kernel_rfl
theorem i101 : gE x23 (tx 1 0) 1 = some (eR 0 1) := by kernel_rfl
theorem s101 : gE x36 (tx 1 0) 1 = some (eR 0 1) := by kernel_rfl
theorem i102 : gE x23 (tx 1 0) 2 = some (eR 0 2) := by kernel_rfl
theorem s102 : gE x36 (tx 1 0) 2 = some (eR 0 2) := by kernel_rfl
theorem i103 : gE x23 (tx 1 0) 3 = some (eR 0 3) := by kernel_rfl
theorem s103 : gE x36 (tx 1 0) 3 = some (eR 0 3) := by kernel_rfl
theorem a11 : gA (tx 1 1) = some (.bool true) := by kernel_rfl
theorem i110 : gE x23 (tx 1 1) 0 = some (eR 1 0) := by kernel_rfl
theorem s110 : gE x36 (tx 1 1) 0 = some (eR 1 0) := by kernel_rfl
theorem i111 : gE x23 (tx 1 1) 1 = some (eR 1 1) := by kernel_rfl
theorem s111 : gE x36 (tx 1 1) 1 = some (eR 1 1) := by kernel_rfl
theorem i112 : gE x23 (tx 1 1) 2 = some (eR 1 2) := by kernel_rfl
theorem s112 : gE x36 (tx 1 1) 2 = some (eR 1 2) := by kernel_rfl
theorem i113 : gE x23 (tx 1 1) 3 = some (eR 1 3) := by kernel_rfl
theorem s113 : gE x36 (tx 1 1) 3 = some (eR 1 3) := by kernel_rfl
theorem a12 : gA (tx 1 2) = some (.bool false) := by kernel_rfl
theorem i120 : gE x23 (tx 1 2) 0 = some (eR 2 0) := by kernel_rfl
theorem s120 : gE x36 (tx 1 2) 0 = some (eR 2 0) := by kernel_rfl
theorem i121 : gE x23 (tx 1 2) 1 = some (eR 2 1) := by kernel_rfl
theorem s121 : gE x36 (tx 1 2) 1 = some (eR 2 1) := by kernel_rfl
theorem i122 : gE x23 (tx 1 2) 2 = some (eR 2 2) := by kernel_rfl
theorem s122 : gE x36 (tx 1 2) 2 = some (eR 2 2) := by kernel_rfl
theorem i123 : gE x23 (tx 1 2) 3 = some (eR 2 3) := by kernel_rfl
theorem s123 : gE x36 (tx 1 2) 3 = some (eR 2 3) := by kernel_rfl
theorem a13 : gA (tx 1 3) = some (.bool false) := by kernel_rfl
theorem i130 : gE x23 (tx 1 3) 0 = some (eR 3 0) := by kernel_rfl
theorem s130 : gE x36 (tx 1 3) 0 = some (eR 3 0) := by kernel_rfl
theorem i131 : gE x23 (tx 1 3) 1 = some (eR 3 1) := by kernel_rfl
theorem s131 : gE x36 (tx 1 3) 1 = some (eR 3 1) := by kernel_rfl
theorem i132 : gE x23 (tx 1 3) 2 = some (eR 3 2) := by kernel_rfl
theorem s132 : gE x36 (tx 1 3) 2 = some (eR 3 2) := by kernel_rfl
theorem i133 : gE x23 (tx 1 3) 3 = some (eR 3 3) := by kernel_rfl
theorem s133 : gE x36 (tx 1 3) 3 = some (eR 3 3) := by kernel_rfl
theorem a14 : gA (tx 1 4) = some (.bool false) := by kernel_rfl
theorem i140 : gE x23 (tx 1 4) 0 = some (eR 4 0) := by kernel_rfl
theorem s140 : gE x36 (tx 1 4) 0 = some (eR 4 0) := by kernel_rfl
theorem i141 : gE x23 (tx 1 4) 1 = some (eR 4 1) := by kernel_rfl
theorem s141 : gE x36 (tx 1 4) 1 = some (eR 4 1) := by kernel_rfl
theorem i142 : gE x23 (tx 1 4) 2 = some (eR 4 2) := by kernel_rfl
theorem s142 : gE x36 (tx 1 4) 2 = some (eR 4 2) := by kernel_rfl
theorem i143 : gE x23 (tx 1 4) 3 = some (eR 4 3) := by kernel_rfl
theorem s143 : gE x36 (tx 1 4) 3 = some (eR 4 3) := by kernel_rfl
theorem a15 : gA (tx 1 5) = some (.bool false) := by kernel_rfl
theorem i150 : gE x23 (tx 1 5) 0 = some (eR 5 0) := by kernel_rfl
theorem s150 : gE x36 (tx 1 5) 0 = some (eR 5 0) := by kernel_rfl
theorem i151 : gE x23 (tx 1 5) 1 = some (eR 5 1) := by kernel_rfl
theorem s151 : gE x36 (tx 1 5) 1 = some (eR 5 1) := by kernel_rfl
theorem i152 : gE x23 (tx 1 5) 2 = some (eR 5 2) := by kernel_rfl
theorem s152 : gE x36 (tx 1 5) 2 = some (eR 5 2) := by kernel_rfl
theorem i153 : gE x23 (tx 1 5) 3 = some (eR 5 3) := by kernel_rfl
theorem s153 : gE x36 (tx 1 5) 3 = some (eR 5 3) := by kernel_rfl
theorem a16 : gA (tx 1 6) = some (.bool false) := by kernel_rfl
theorem i160 : gE x23 (tx 1 6) 0 = some (eR 6 0) := by kernel_rfl
theorem s160 : gE x36 (tx 1 6) 0 = some (eR 6 0) := by kernel_rfl
theorem i161 : gE x23 (tx 1 6) 1 = some (eR 6 1) := by kernel_rfl
theorem s161 : gE x36 (tx 1 6) 1 = some (eR 6 1) := by kernel_rfl
theorem i162 : gE x23 (tx 1 6) 2 = some (eR 6 2) := by kernel_rfl
theorem s162 : gE x36 (tx 1 6) 2 = some (eR 6 2) := by kernel_rfl
theorem i163 : gE x23 (tx 1 6) 3 = some (eR 6 3) := by kernel_rfl
theorem s163 : gE x36 (tx 1 6) 3 = some (eR 6 3) := by kernel_rfl
theorem a17 : gA (tx 1 7) = some (.bool false) := by kernel_rfl
theorem i170 : gE x23 (tx 1 7) 0 = some (eR 7 0) := by kernel_rfl
theorem s170 : gE x36 (tx 1 7) 0 = some (eR 7 0) := by kernel_rfl
theorem i171 : gE x23 (tx 1 7) 1 = some (eR 7 1) := by kernel_rfl
theorem s171 : gE x36 (tx 1 7) 1 = some (eR 7 1) := by kernel_rfl
theorem i172 : gE x23 (tx 1 7) 2 = some (eR 7 2) := by kernel_rfl
theorem s172 : gE x36 (tx 1 7) 2 = some (eR 7 2) := by kernel_rfl
theorem i173 : gE x23 (tx 1 7) 3 = some (eR 7 3) := by kernel_rfl
theorem s173 : gE x36 (tx 1 7) 3 = some (eR 7 3) := by kernel_rfl
theorem a18 : gA (tx 1 8) = some (.bool false) := by kernel_rfl
theorem i180 : gE x23 (tx 1 8) 0 = some (eR 8 0) := by kernel_rfl
theorem s180 : gE x36 (tx 1 8) 0 = some (eR 8 0) := by kernel_rfl
theorem i181 : gE x23 (tx 1 8) 1 = some (eR 8 1) := by kernel_rfl
theorem s181 : gE x36 (tx 1 8) 1 = some (eR 8 1) := by kernel_rfl
theorem i182 : gE x23 (tx 1 8) 2 = some (eR 8 2) := by kernel_rfl
theorem s182 : gE x36 (tx 1 8) 2 = some (eR 8 2) := by kernel_rfl
theorem i183 : gE x23 (tx 1 8) 3 = some (eR 8 3) := by kernel_rfl
theorem s183 : gE x36 (tx 1 8) 3 = some (eR 8 3) := by kernel_rfl
theorem a19 : gA (tx 1 9) = some (.bool false) := by kernel_rfl
theorem i190 : gE x23 (tx 1 9) 0 = some (eR 9 0) := by kernel_rfl
theorem s190 : gE x36 (tx 1 9) 0 = some (eR 9 0) := by kernel_rfl
theorem i191 : gE x23 (tx 1 9) 1 = some (eR 9 1) := by kernel_rfl
theorem s191 : gE x36 (tx 1 9) 1 = some (eR 9 1) := by kernel_rfl
theorem i192 : gE x23 (tx 1 9) 2 = some (eR 9 2) := by kernel_rfl
theorem s192 : gE x36 (tx 1 9) 2 = some (eR 9 2) := by kernel_rfl
theorem i193 : gE x23 (tx 1 9) 3 = some (eR 9 3) := by kernel_rfl
theorem s193 : gE x36 (tx 1 9) 3 = some (eR 9 3) := by kernel_rfl
theorem acc1 (m : Nat) (hm : m < 10) (σ : Store) : LD S 18 [.t (.agg [gL]), .t (.str (tx 1 m))] σ = some (.t (B (Nat.beq 1 m)), σ) := by
  rcases lt10 hm with rfl | rfl | rfl | rfl | rfl | rfl | rfl | rfl | rfl | rfl
  · exact hA a10 σ
  · exact hA a11 σ
  · exact hA a12 σ
  · exact hA a13 σ
  · exact hA a14 σ
  · exact hA a15 σ
  · exact hA a16 σ
  · exact hA a17 σ
  · exact hA a18 σ
  · exact hA a19 σ
theorem ei1 (m c : Nat) (hm : m < 10) (hc : c < 4) (σ : Store) : LD S 23 [.t (.agg [gL]), .t (.str (tx 1 m)), .t (.str [66]), .t (.list [.agg [I c]]), .t (I 2)] σ = some (.t (eR m c), σ) := by
  rcases lt10 hm with rfl | rfl | rfl | rfl | rfl | rfl | rfl | rfl | rfl | rfl <;> rcases lt4 hc with rfl | rfl | rfl | rfl
  · exact hI i100 σ
  · exact hI i101 σ
  · exact hI i102 σ
  · exact hI i103 σ
  · exact hI i110 σ
  · exact hI i111 σ
  · exact hI i112 σ
  · exact hI i113 σ
  · exact hI i120 σ
  · exact hI i121 σ
  · exact hI i122 σ
  · exact hI i123 σ
  · exact hI i130 σ
  · exact hI i131 σ
  · exact hI i132 σ
  · exact hI i133 σ
  · exact hI i140 σ
  · exact hI i141 σ
  · exact hI i142 σ
  · exact hI i143 σ
  · exact hI i150 σ
  · exact hI i151 σ
  · exact hI i152 σ
  · exact hI i153 σ
  · exact hI i160 σ
  · exact hI i161 σ
  · exact hI i162 σ
  · exact hI i163 σ
  · exact hI i170 σ
  · exact hI i171 σ
  · exact hI i172 σ
  · exact hI i173 σ
  · exact hI i180 σ
  · exact hI i181 σ
  · exact hI i182 σ
  · exact hI i183 σ
  · exact hI i190 σ
  · exact hI i191 σ
  · exact hI i192 σ
  · exact hI i193 σ
theorem es1 (m c : Nat) (hm : m < 10) (hc : c < 4) (σ : Store) : LD S 36 [.t (.agg [gL]), .t (.str (tx 1 m)), .t (.str [66]), .t (.list [.agg [I c]]), .t (I 2)] σ = some (.t (eR m c), σ) := by
  rcases lt10 hm with rfl | rfl | rfl | rfl | rfl | rfl | rfl | rfl | rfl | rfl <;> rcases lt4 hc with rfl | rfl | rfl | rfl
  · exact hS s100 σ
  · exact hS s101 σ
  · exact hS s102 σ
  · exact hS s103 σ
  · exact hS s110 σ
  · exact hS s111 σ
  · exact hS s112 σ
  · exact hS s113 σ
  · exact hS s120 σ
  · exact hS s121 σ
  · exact hS s122 σ
  · exact hS s123 σ
  · exact hS s130 σ
  · exact hS s131 σ
  · exact hS s132 σ
  · exact hS s133 σ
  · exact hS s140 σ
  · exact hS s141 σ
  · exact hS s142 σ
  · exact hS s143 σ
  · exact hS s150 σ
  · exact hS s151 σ
  · exact hS s152 σ
  · exact hS s153 σ
  · exact hS s160 σ
  · exact hS s161 σ
  · exact hS s162 σ
  · exact hS s163 σ
  · exact hS s170 σ
  · exact hS s171 σ
  · exact hS s172 σ
  · exact hS s173 σ
  · exact hS s180 σ
  · exact hS s181 σ
  · exact hS s182 σ
  · exact hS s183 σ
  · exact hS s190 σ
  · exact hS s191 σ
  · exact hS s192 σ
  · exact hS s193 σ
end TzLe
end X
