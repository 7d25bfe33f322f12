/- A part of the proof. No statement of the claim is in it. -/
import Derived.Test.YthfjcnjdcljhmaaGreatDoorTgLe0
open Go Go.V Go.Proofs
namespace X
set_option maxRecDepth 100000
namespace TzLe
theorem a20 : gA (tx 2 0) = some (.bool false) := by kernel_rfl
theorem i200 : gE x23 (tx 2 0) 0 = some (eR 0 0) := by kernel_rfl
theorem s200 : gE x36 (tx 2 0) 0 = some (eR 0 0) := by kernel_rfl
theorem i201 : gE x23 (tx 2 0) 1 = some (eR 0 1) := by kernel_rfl
theorem s201 : gE x36 (tx 2 0) 1 = some (eR 0 1) := by kernel_rfl
theorem i202 : gE x23 (tx 2 0) 2 = some (eR 0 2) := by kernel_rfl
theorem s202 : gE x36 (tx 2 0) 2 = some (eR 0 2) := by kernel_rfl
theorem i203 : gE x23 (tx 2 0) 3 = some (eR 0 3) := by kernel_rfl
theorem s203 : gE x36 (tx 2 0) 3 = some (eR 0 3) := by kernel_rfl
theorem a21 : gA (tx 2 1) = some (.bool false) := by kernel_rfl
theorem i210 : gE x23 (tx 2 1) 0 = some (eR 1 0) := by kernel_rfl
theorem s210 : gE x36 (tx 2 1) 0 = some (eR 1 0) := by kernel_rfl
theorem i211 : gE x23 (tx 2 1) 1 = some (eR 1 1) := by kernel_rfl
theorem s211 : gE x36 (tx 2 1) 1 = some (eR 1 1) := by kernel_rfl
theorem i212 : gE x23 (tx 2 1) 2 = some (eR 1 2) := by kernel_rfl
theorem s212 : gE x36 (tx 2 1) 2 = some (eR 1 2) := by kernel_rfl
theorem i213 : gE x23 (tx 2 1) 3 = some (eR 1 3) := by kernel_rfl
theorem s213 : gE x36 (tx 2 1) 3 = some (eR 1 3) := by kernel_rfl
theorem a22 : gA (tx 2 2) = some (.bool true) := by kernel_rfl
theorem i220 : gE x23 (tx 2 2) 0 = some (eR 2 0) := by kernel_rfl
theorem s220 : gE x36 (tx 2 2) 0 = some (eR 2 0) := by kernel_rfl
theorem i221 : gE x23 (tx 2 2) 1 = some (eR 2 1) := by kernel_rfl
theorem s221 : gE x36 (tx 2 2) 1 = some (eR 2 1) := by kernel_rfl
theorem i222 : gE x23 (tx 2 2) 2 = some (eR 2 2) := by kernel_rfl
theorem s222 : gE x36 (tx 2 2) 2 = some (eR 2 2) := by kernel_rfl
theorem i223 : gE x23 (tx 2 2) 3 = some (eR 2 3) := by kernel_rfl
theorem s223 : gE x36 (tx 2 2) 3 = some (eR 2 3) := by kernel_rfl
theorem a23 : gA (tx 2 3) = some (.bool false) := by kernel_rfl
theorem i230 : gE x23 (tx 2 3) 0 = some (eR 3 0) := by kernel_rfl
theorem s230 : gE x36 (tx 2 3) 0 = some (eR 3 0) := by kernel_rfl
theorem i231 : gE x23 (tx 2 3) 1 = some (eR 3 1) := by kernel_rfl
theorem s231 : gE x36 (tx 2 3) 1 = some (eR 3 1) := by kernel_rfl
theorem i232 : gE x23 (tx 2 3) 2 = some (eR 3 2) := by kernel_rfl
theorem s232 : gE x36 (tx 2 3) 2 = some (eR 3 2) := by kernel_rfl
theorem i233 : gE x23 (tx 2 3) 3 = some (eR 3 3) := by kernel_rfl
theorem s233 : gE x36 (tx 2 3) 3 = some (eR 3 3) := by kernel_rfl
theorem a24 : gA (tx 2 4) = some (.bool false) := by kernel_rfl
theorem i240 : gE x23 (tx 2 4) 0 = some (eR 4 0) := by kernel_rfl
theorem s240 : gE x36 (tx 2 4) 0 = some (eR 4 0) := by kernel_rfl
theorem i241 : gE x23 (tx 2 4) 1 = some (eR 4 1) := by kernel_rfl
theorem s241 : gE x36 (tx 2 4) 1 = some (eR 4 1) := by kernel_rfl
theorem i242 : gE x23 (tx 2 4) 2 = some (eR 4 2) := by kernel_rfl
theorem s242 : gE x36 (tx 2 4) 2 = some (eR 4 2) := by kernel_rfl
theorem i243 : gE x23 (tx 2 4) 3 = some (eR 4 3) := by kernel_rfl
theorem s243 : gE x36 (tx 2 4) 3 = some (eR 4 3) := by kernel_rfl
theorem a25 : gA (tx 2 5) = some (.bool false) := by kernel_rfl
theorem i250 : gE x23 (tx 2 5) 0 = some (eR 5 0) := by kernel_rfl
theorem s250 : gE x36 (tx 2 5) 0 = some (eR 5 0) := by kernel_rfl
theorem i251 : gE x23 (tx 2 5) 1 = some (eR 5 1) := by kernel_rfl
theorem s251 : gE x36 (tx 2 5) 1 = some (eR 5 1) := by kernel_rfl
theorem i252 : gE x23 (tx 2 5) 2 = some (eR 5 2) := by kernel_rfl
theorem s252 : gE x36 (tx 2 5) 2 = some (eR 5 2) := by kernel_rfl
theorem i253 : gE x23 (tx 2 5) 3 = some (eR 5 3) := by kernel_rfl
theorem s253 : gE x36 (tx 2 5) 3 = some (eR 5 3) := by kernel_rfl
theorem a26 : gA (tx 2 6) = some (.bool false) := by kernel_rfl
theorem i260 : gE x23 (tx 2 6) 0 = some (eR 6 0) := by kernel_rfl
theorem s260 : gE x36 (tx 2 6) 0 = some (eR 6 0) := by kernel_rfl
theorem i261 : gE x23 (tx 2 6) 1 = some (eR 6 1) := by kernel_rfl
theorem s261 : gE x36 (tx 2 6) 1 = some (eR 6 1) := by kernel_rfl
theorem i262 : gE x23 (tx 2 6) 2 = some (eR 6 2) := by kernel_rfl
theorem s262 : gE x36 (tx 2 6) 2 = some (eR 6 2) := by kernel_rfl
theorem i263 : gE x23 (tx 2 6) 3 = some (eR 6 3) := by kernel_rfl
theorem s263 : gE x36 (tx 2 6) 3 = some (eR 6 3) := by kernel_rfl
theorem a27 : gA (tx 2 7) = some (.bool false) := by kernel_rfl
theorem i270 : gE x23 (tx 2 7) 0 = some (eR 7 0) := by kernel_rfl
theorem s270 : gE x36 (tx 2 7) 0 = some (eR 7 0) := by kernel_rfl
theorem i271 : gE x23 (tx 2 7) 1 = some (eR 7 1) := by kernel_rfl
theorem s271 : gE x36 (tx 2 7) 1 = some (eR 7 1) := by kernel_rfl
theorem i272 : gE x23 (tx 2 7) 2 = some (eR 7 2) := by kernel_rfl
theorem s272 : gE x36 (tx 2 7) 2 = some (eR 7 2) := by kernel_rfl
theorem i273 : gE x23 (tx 2 7) 3 = some (eR 7 3) := by kernel_rfl
theorem s273 : gE x36 (tx 2 7) 3 = some (eR 7 3) := by kernel_rfl
theorem a28 : gA (tx 2 8) = some (.bool false) := by kernel_rfl
theorem i280 : gE x23 (tx 2 8) 0 = some (eR 8 0) := by kernel_rfl
theorem s280 : gE x36 (tx 2 8) 0 = some (eR 8 0) := by kernel_rfl
theorem i281 : gE x23 (tx 2 8) 1 = some (eR 8 1) := by kernel_rfl
theorem s281 : gE x36 (tx 2 8) 1 = some (eR 8 1) := by kernel_rfl
theorem i282 : gE x23 (tx 2 8) 2 = some (eR 8 2) := by kernel_rfl
theorem s282 : gE x36 (tx 2 8) 2 = some (eR 8 2) := by kernel_rfl
theorem i283 : gE x23 (tx 2 8) 3 = some (eR 8 3) := by kernel_rfl
theorem s283 : gE x36 (tx 2 8) 3 = some (eR 8 3) := by kernel_rfl
theorem a29 : gA (tx 2 9) = some (.bool false) := by kernel_rfl
theorem i290 : gE x23 (tx 2 9) 0 = some (eR 9 0) := by kernel_rfl
theorem s290 : gE x36 (tx 2 9) 0 = some (eR 9 0) := by kernel_rfl
theorem i291 : gE x23 (tx 2 9) 1 = some (eR 9 1) := by kernel_rfl
theorem s291 : gE x36 (tx 2 9) 1 = some (eR 9 1) := by kernel_rfl
theorem i292 : gE x23 (tx 2 9) 2 = some (eR 9 2) := by kernel_rfl
theorem s292 : gE x36 (tx 2 9) 2 = some (eR 9 2) := by kernel_rfl
theorem i293 : gE x23 (tx 2 9) 3 = some (eR 9 3) := by kernel_rfl
theorem s293 : gE x36 (tx 2 9) 3 = some (eR 9 3) := by kernel_rfl
theorem acc2 (m : Nat) (hm : m < 10) (σ : Store) : LD S 18 [.t (.agg [gL]), .t (.str (tx 2 m))] σ = some (.t (B (Nat.beq 2 m)), σ) := by
  rcases lt10 hm with rfl | rfl | rfl | rfl | rfl | rfl | rfl | rfl | rfl | rfl
  · exact hA a20 σ
  · exact hA a21 σ
  · exact hA a22 σ
  · exact hA a23 σ
  · exact hA a24 σ
  · exact hA a25 σ
  · exact hA a26 σ
  · exact hA a27 σ
  · exact hA a28 σ
  · exact hA a29 σ
theorem ei2 (m c : Nat) (hm : m < 10) (hc : c < 4) (σ : Store) : LD S 23 [.t (.agg [gL]), .t (.str (tx 2 m)), .t (.str [66]), .t (.list [.agg [I c]]), .t (I 2)] σ = some (.t (eR m c), σ) := by
  rcases lt10 hm with rfl | rfl | rfl | rfl | rfl | rfl | rfl | rfl | rfl | rfl <;> rcases lt4 hc with rfl | rfl | rfl | rfl
  · exact hI i200 σ
  · exact hI i201 σ
  · exact hI i202 σ
  · exact hI i203 σ
  · exact hI i210 σ
  · exact hI i211 σ
  · exact hI i212 σ
  · exact hI i213 σ
  · exact hI i220 σ
  · exact hI i221 σ
  · exact hI i222 σ
  · exact hI i223 σ
  · exact hI i230 σ
  · exact hI i231 σ
  · exact hI i232 σ
  · exact hI i233 σ
  · exact hI i240 σ
  · exact hI i241 σ
  · exact hI i242 σ
  · exact hI i243 σ
  · exact hI i250 σ
  · exact hI i251 σ
  · exact hI i252 σ
  · exact hI i253 σ
  · exact hI i260 σ
  · exact hI i261 σ
  · exact hI i262 σ
  · exact hI i263 σ
  · exact hI i270 σ
  · exact hI i271 σ
  · exact hI i272 σ
  · exact hI i273 σ
  · exact hI i280 σ
  · exact hI i281 σ
  · exact hI i282 σ
  · exact hI i283 σ
  · exact hI i290 σ
  · exact hI i291 σ
  · exact hI i292 σ
  · exact hI i293 σ
theorem es2 (m c : Nat) (hm : m < 10) (hc : c < 4) (σ : Store) : LD S 36 [.t (.agg [gL]), .t (.str (tx 2 m)), .t (.str [66]), .t (.list [.agg [I c]]), .t (I 2)] σ = some (.t (eR m c), σ) := by
  rcases lt10 hm with rfl | rfl | rfl | rfl | rfl | rfl | rfl | rfl | rfl | rfl <;> rcases lt4 hc with rfl | rfl | rfl | rfl
  · exact hS s200 σ
  · exact hS s201 σ
  · exact hS s202 σ
  · exact hS s203 σ
  · exact hS s210 σ
  · exact hS s211 σ
  · exact hS s212 σ
  · exact hS s213 σ
  · exact hS s220 σ
  · exact hS s221 σ
  · exact hS s222 σ
  · exact hS s223 σ
  · exact hS s230 σ
  · exact hS s231 σ
  · exact hS s232 σ
  · exact hS s233 σ
  · exact hS s240 σ
  · exact hS s241 σ
  · exact hS s242 σ
  · exact hS s243 σ
  · exact hS s250 σ
  · exact hS s251 σ
  · exact hS s252 σ
  · exact hS s253 σ
  · exact hS s260 σ
  · exact hS s261 σ
  · exact hS s262 σ
  · exact hS s263 σ
  · exact hS s270 σ
  · exact hS s271 σ
  · exact hS s272 σ
  · exact hS s273 σ
  · exact hS s280 σ
  · exact hS s281 σ
  · exact hS s282 σ
  · exact hS s283 σ
  · exact hS s290 σ
  · exact hS s291 σ
  · exact hS s292 σ
  · exact hS s293 σ
end TzLe
end X
