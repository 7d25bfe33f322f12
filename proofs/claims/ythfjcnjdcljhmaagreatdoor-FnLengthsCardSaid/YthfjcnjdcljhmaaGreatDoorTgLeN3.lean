/- A part of the proof. No statement of the claim is in it. -/
import Derived.Test.YthfjcnjdcljhmaaGreatDoorTgLe0
open Go Go.V Go.Proofs
namespace X
set_option maxRecDepth 100000
namespace TzLe
theorem a30 : gA (tx 3 0) = some (.bool false) := by kernel_rfl
theorem i300 : gE x23 (tx 3 0) 0 = some (eR 0 0) := by kernel_rfl
theorem s300 : gE x36 (tx 3 0) 0 = some (eR 0 0) := by kernel_rfl
theorem i301 : gE x23 (tx 3 0) 1 = some (eR 0 1) := by kernel_rfl
theorem s301 : gE x36 (tx 3 0) 1 = some (eR 0 1) := by kernel_rfl
theorem i302 : gE x23 (tx 3 0) 2 = some (eR 0 2) := by kernel_rfl
theorem s302 : gE x36 (tx 3 0) 2 = some (eR 0 2) := by kernel_rfl
theorem i303 : gE x23 (tx 3 0) 3 = some (eR 0 3) := by kernel_rfl
theorem s303 : gE x36 (tx 3 0) 3 = some (eR 0 3) := by kernel_rfl
theorem a31 : gA (tx 3 1) = some (.bool false) := by kernel_rfl
theorem i310 : gE x23 (tx 3 1) 0 = some (eR 1 0) := by kernel_rfl
theorem s310 : gE x36 (tx 3 1) 0 = some (eR 1 0) := by kernel_rfl
theorem i311 : gE x23 (tx 3 1) 1 = some (eR 1 1) := by kernel_rfl
theorem s311 : gE x36 (tx 3 1) 1 = some (eR 1 1) := by kernel_rfl
theorem i312 : gE x23 (tx 3 1) 2 = some (eR 1 2) := by kernel_rfl
theorem s312 : gE x36 (tx 3 1) 2 = some (eR 1 2) := by kernel_rfl
theorem i313 : gE x23 (tx 3 1) 3 = some (eR 1 3) := by kernel_rfl
theorem s313 : gE x36 (tx 3 1) 3 = some (eR 1 3) := by kernel_rfl
theorem a32 : gA (tx 3 2) = some (.bool false) := by kernel_rfl
theorem i320 : gE x23 (tx 3 2) 0 = some (eR 2 0) := by kernel_rfl
theorem s320 : gE x36 (tx 3 2) 0 = some (eR 2 0) := by kernel_rfl
theorem i321 : gE x23 (tx 3 2) 1 = some (eR 2 1) := by kernel_rfl
theorem s321 : gE x36 (tx 3 2) 1 = some (eR 2 1) := by kernel_rfl
theorem i322 : gE x23 (tx 3 2) 2 = some (eR 2 2) := by kernel_rfl
theorem s322 : gE x36 (tx 3 2) 2 = some (eR 2 2) := by kernel_rfl
theorem i323 : gE x23 (tx 3 2) 3 = some (eR 2 3) := by kernel_rfl
theorem s323 : gE x36 (tx 3 2) 3 = some (eR 2 3) := by kernel_rfl
theorem a33 : gA (tx 3 3) = some (.bool true) := by kernel_rfl
theorem i330 : gE x23 (tx 3 3) 0 = some (eR 3 0) := by kernel_rfl
theorem s330 : gE x36 (tx 3 3) 0 = some (eR 3 0) := by kernel_rfl
theorem i331 : gE x23 (tx 3 3) 1 = some (eR 3 1) := by kernel_rfl
theorem s331 : gE x36 (tx 3 3) 1 = some (eR 3 1) := by kernel_rfl
theorem i332 : gE x23 (tx 3 3) 2 = some (eR 3 2) := by kernel_rfl
theorem s332 : gE x36 (tx 3 3) 2 = some (eR 3 2) := by kernel_rfl
theorem i333 : gE x23 (tx 3 3) 3 = some (eR 3 3) := by kernel_rfl
theorem s333 : gE x36 (tx 3 3) 3 = some (eR 3 3) := by kernel_rfl
theorem a34 : gA (tx 3 4) = some (.bool false) := by kernel_rfl
theorem i340 : gE x23 (tx 3 4) 0 = some (eR 4 0) := by kernel_rfl
theorem s340 : gE x36 (tx 3 4) 0 = some (eR 4 0) := by kernel_rfl
theorem i341 : gE x23 (tx 3 4) 1 = some (eR 4 1) := by kernel_rfl
theorem s341 : gE x36 (tx 3 4) 1 = some (eR 4 1) := by kernel_rfl
theorem i342 : gE x23 (tx 3 4) 2 = some (eR 4 2) := by kernel_rfl
theorem s342 : gE x36 (tx 3 4) 2 = some (eR 4 2) := by kernel_rfl
theorem i343 : gE x23 (tx 3 4) 3 = some (eR 4 3) := by kernel_rfl
theorem s343 : gE x36 (tx 3 4) 3 = some (eR 4 3) := by kernel_rfl
theorem a35 : gA (tx 3 5) = some (.bool false) := by kernel_rfl
theorem i350 : gE x23 (tx 3 5) 0 = some (eR 5 0) := by kernel_rfl
theorem s350 : gE x36 (tx 3 5) 0 = some (eR 5 0) := by kernel_rfl
theorem i351 : gE x23 (tx 3 5) 1 = some (eR 5 1) := by kernel_rfl
theorem s351 : gE x36 (tx 3 5) 1 = some (eR 5 1) := by kernel_rfl
theorem i352 : gE x23 (tx 3 5) 2 = some (eR 5 2) := by kernel_rfl
theorem s352 : gE x36 (tx 3 5) 2 = some (eR 5 2) := by kernel_rfl
theorem i353 : gE x23 (tx 3 5) 3 = some (eR 5 3) := by kernel_rfl
theorem s353 : gE x36 (tx 3 5) 3 = some (eR 5 3) := by kernel_rfl
theorem a36 : gA (tx 3 6) = some (.bool false) := by kernel_rfl
theorem i360 : gE x23 (tx 3 6) 0 = some (eR 6 0) := by kernel_rfl
theorem s360 : gE x36 (tx 3 6) 0 = some (eR 6 0) := by kernel_rfl
theorem i361 : gE x23 (tx 3 6) 1 = some (eR 6 1) := by kernel_rfl
theorem s361 : gE x36 (tx 3 6) 1 = some (eR 6 1) := by kernel_rfl
theorem i362 : gE x23 (tx 3 6) 2 = some (eR 6 2) := by kernel_rfl
theorem s362 : gE x36 (tx 3 6) 2 = some (eR 6 2) := by kernel_rfl
theorem i363 : gE x23 (tx 3 6) 3 = some (eR 6 3) := by kernel_rfl
theorem s363 : gE x36 (tx 3 6) 3 = some (eR 6 3) := by kernel_rfl
theorem a37 : gA (tx 3 7) = some (.bool false) := by kernel_rfl
theorem i370 : gE x23 (tx 3 7) 0 = some (eR 7 0) := by kernel_rfl
theorem s370 : gE x36 (tx 3 7) 0 = some (eR 7 0) := by kernel_rfl
theorem i371 : gE x23 (tx 3 7) 1 = some (eR 7 1) := by kernel_rfl
theorem s371 : gE x36 (tx 3 7) 1 = some (eR 7 1) := by kernel_rfl
theorem i372 : gE x23 (tx 3 7) 2 = some (eR 7 2) := by kernel_rfl
theorem s372 : gE x36 (tx 3 7) 2 = some (eR 7 2) := by kernel_rfl
theorem i373 : gE x23 (tx 3 7) 3 = some (eR 7 3) := by kernel_rfl
theorem s373 : gE x36 (tx 3 7) 3 = some (eR 7 3) := by kernel_rfl
theorem a38 : gA (tx 3 8) = some (.bool false) := by kernel_rfl
theorem i380 : gE x23 (tx 3 8) 0 = some (eR 8 0) := by kernel_rfl
theorem s380 : gE x36 (tx 3 8) 0 = some (eR 8 0) := by kernel_rfl
theorem i381 : gE x23 (tx 3 8) 1 = some (eR 8 1) := by kernel_rfl
theorem s381 : gE x36 (tx 3 8) 1 = some (eR 8 1) := by kernel_rfl
theorem i382 : gE x23 (tx 3 8) 2 = some (eR 8 2) := by kernel_rfl
theorem s382 : gE x36 (tx 3 8) 2 = some (eR 8 2) := by kernel_rfl
theorem i383 : gE x23 (tx 3 8) 3 = some (eR 8 3) := by kernel_rfl
theorem s383 : gE x36 (tx 3 8) 3 = some (eR 8 3) := by kernel_rfl
theorem a39 : gA (tx 3 9) = some (.bool false) := by kernel_rfl
theorem i390 : gE x23 (tx 3 9) 0 = some (eR 9 0) := by kernel_rfl
theorem s390 : gE x36 (tx 3 9) 0 = some (eR 9 0) := by kernel_rfl
theorem i391 : gE x23 (tx 3 9) 1 = some (eR 9 1) := by kernel_rfl
theorem s391 : gE x36 (tx 3 9) 1 = some (eR 9 1) := by kernel_rfl
theorem i392 : gE x23 (tx 3 9) 2 = some (eR 9 2) := by kernel_rfl
theorem s392 : gE x36 (tx 3 9) 2 = some (eR 9 2) := by kernel_rfl
theorem i393 : gE x23 (tx 3 9) 3 = some (eR 9 3) := by kernel_rfl
theorem s393 : gE x36 (tx 3 9) 3 = some (eR 9 3) := by kernel_rfl
theorem acc3 (m : Nat) (hm : m < 10) (σ : Store) : LD S 18 [.t (.agg [gL]), .t (.str (tx 3 m))] σ = some (.t (B (Nat.beq 3 m)), σ) := by
  rcases lt10 hm with rfl | rfl | rfl | rfl | rfl | rfl | rfl | rfl | rfl | rfl
  · exact hA a30 σ
  · exact hA a31 σ
  · exact hA a32 σ
  · exact hA a33 σ
  · exact hA a34 σ
  · exact hA a35 σ
  · exact hA a36 σ
  · exact hA a37 σ
  · exact hA a38 σ
  · exact hA a39 σ
theorem ei3 (m c : Nat) (hm : m < 10) (hc : c < 4) (σ : Store) : LD S 23 [.t (.agg [gL]), .t (.str (tx 3 m)), .t (.str [66]), .t (.list [.agg [I c]]), .t (I 2)] σ = some (.t (eR m c), σ) := by
  rcases lt10 hm with rfl | rfl | rfl | rfl | rfl | rfl | rfl | rfl | rfl | rfl <;> rcases lt4 hc with rfl | rfl | rfl | rfl
  · exact hI i300 σ
  · exact hI i301 σ
  · exact hI i302 σ
  · exact hI i303 σ
  · exact hI i310 σ
  · exact hI i311 σ
  · exact hI i312 σ
  · exact hI i313 σ
  · exact hI i320 σ
  · exact hI i321 σ
  · exact hI i322 σ
  · exact hI i323 σ
  · exact hI i330 σ
  · exact hI i331 σ
  · exact hI i332 σ
  · exact hI i333 σ
  · exact hI i340 σ
  · exact hI i341 σ
  · exact hI i342 σ
  · exact hI i343 σ
  · exact hI i350 σ
  · exact hI i351 σ
  · exact hI i352 σ
  · exact hI i353 σ
  · exact hI i360 σ
  · exact hI i361 σ
  · exact hI i362 σ
  · exact hI i363 σ
  · exact hI i370 σ
  · exact hI i371 σ
  · exact hI i372 σ
  · exact hI i373 σ
  · exact hI i380 σ
  · exact hI i381 σ
  · exact hI i382 σ
  · exact hI i383 σ
  · exact hI i390 σ
  · exact hI i391 σ
  · exact hI i392 σ
  · exact hI i393 σ
theorem es3 (m c : Nat) (hm : m < 10) (hc : c < 4) (σ : Store) : LD S 36 [.t (.agg [gL]), .t (.str (tx 3 m)), .t (.str [66]), .t (.list [.agg [I c]]), .t (I 2)] σ = some (.t (eR m c), σ) := by
  rcases lt10 hm with rfl | rfl | rfl | rfl | rfl | rfl | rfl | rfl | rfl | rfl <;> rcases lt4 hc with rfl | rfl | rfl | rfl
  · exact hS s300 σ
  · exact hS s301 σ
  · exact hS s302 σ
  · exact hS s303 σ
  · exact hS s310 σ
  · exact hS s311 σ
  · exact hS s312 σ
  · exact hS s313 σ
  · exact hS s320 σ
  · exact hS s321 σ
  · exact hS s322 σ
  · exact hS s323 σ
  · exact hS s330 σ
  · exact hS s331 σ
  · exact hS s332 σ
  · exact hS s333 σ
  · exact hS s340 σ
  · exact hS s341 σ
  · exact hS s342 σ
  · exact hS s343 σ
  · exact hS s350 σ
  · exact hS s351 σ
  · exact hS s352 σ
  · exact hS s353 σ
  · exact hS s360 σ
  · exact hS s361 σ
  · exact hS s362 σ
  · exact hS s363 σ
  · exact hS s370 σ
  · exact hS s371 σ
  · exact hS s372 σ
  · exact hS s373 σ
  · exact hS s380 σ
  · exact hS s381 σ
  · exact hS s382 σ
  · exact hS s383 σ
  · exact hS s390 σ
  · exact hS s391 σ
  · exact hS s392 σ
  · exact hS s393 σ
end TzLe
end X
