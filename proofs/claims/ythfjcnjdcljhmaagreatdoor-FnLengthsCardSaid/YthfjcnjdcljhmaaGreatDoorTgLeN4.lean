/- A part of the proof. No statement of the claim is in it. -/
import Derived.Test.YthfjcnjdcljhmaaGreatDoorTgLe0
open Go Go.V Go.Proofs
namespace X
set_option maxRecDepth 100000
namespace TzLe
theorem a40 : gA (tx 4 0) = some (.bool false) := by kernel_rfl
theorem i400 : gE x23 (tx 4 0) 0 = some (eR 0 0) := by kernel_rfl
theorem s400 : gE x36 (tx 4 0) 0 = some (eR 0 0) := by kernel_rfl
theorem i401 : gE x23 (tx 4 0) 1 = some (eR 0 1) := by kernel_rfl
theorem s401 : gE x36 (tx 4 0) 1 = some (eR 0 1) := by kernel_rfl
theorem i402 : gE x23 (tx 4 0) 2 = some (eR 0 2) := by kernel_rfl
theorem s402 : gE x36 (tx 4 0) 2 = some (eR 0 2) := by kernel_rfl
theorem i403 : gE x23 (tx 4 0) 3 = some (eR 0 3) := by kernel_rfl
theorem s403 : gE x36 (tx 4 0) 3 = some (eR 0 3) := by kernel_rfl
theorem a41 : gA (tx 4 1) = some (.bool false) := by kernel_rfl
theorem i410 : gE x23 (tx 4 1) 0 = some (eR 1 0) := by kernel_rfl
theorem s410 : gE x36 (tx 4 1) 0 = some (eR 1 0) := by kernel_rfl
theorem i411 : gE x23 (tx 4 1) 1 = some (eR 1 1) := by kernel_rfl
theorem s411 : gE x36 (tx 4 1) 1 = some (eR 1 1) := by kernel_rfl
theorem i412 : gE x23 (tx 4 1) 2 = some (eR 1 2) := by kernel_rfl
theorem s412 : gE x36 (tx 4 1) 2 = some (eR 1 2) := by kernel_rfl
theorem i413 : gE x23 (tx 4 1) 3 = some (eR 1 3) := by kernel_rfl
theorem s413 : gE x36 (tx 4 1) 3 = some (eR 1 3) := by kernel_rfl
theorem a42 : gA (tx 4 2) = some (.bool false) := by kernel_rfl
theorem i420 : gE x23 (tx 4 2) 0 = some (eR 2 0) := by kernel_rfl
theorem s420 : gE x36 (tx 4 2) 0 = some (eR 2 0) := by kernel_rfl
theorem i421 : gE x23 (tx 4 2) 1 = some (eR 2 1) := by kernel_rfl
theorem s421 : gE x36 (tx 4 2) 1 = some (eR 2 1) := by kernel_rfl
theorem i422 : gE x23 (tx 4 2) 2 = some (eR 2 2) := by kernel_rfl
theorem s422 : gE x36 (tx 4 2) 2 = some (eR 2 2) := by kernel_rfl
theorem i423 : gE x23 (tx 4 2) 3 = some (eR 2 3) := by kernel_rfl
theorem s423 : gE x36 (tx 4 2) 3 = some (eR 2 3) := by kernel_rfl
theorem a43 : gA (tx 4 3) = some (.bool false) := by kernel_rfl
theorem i430 : gE x23 (tx 4 3) 0 = some (eR 3 0) := by kernel_rfl
theorem s430 : gE x36 (tx 4 3) 0 = some (eR 3 0) := by kernel_rfl
theorem i431 : gE x23 (tx 4 3) 1 = some (eR 3 1) := by kernel_rfl
theorem s431 : gE x36 (tx 4 3) 1 = some (eR 3 1) := by kernel_rfl
theorem i432 : gE x23 (tx 4 3) 2 = some (eR 3 2) := by kernel_rfl
theorem s432 : gE x36 (tx 4 3) 2 = some (eR 3 2) := by kernel_rfl
theorem i433 : gE x23 (tx 4 3) 3 = some (eR 3 3) := by kernel_rfl
theorem s433 : gE x36 (tx 4 3) 3 = some (eR 3 3) := by kernel_rfl
theorem a44 : gA (tx 4 4) = some (.bool true) := by kernel_rfl
theorem i440 : gE x23 (tx 4 4) 0 = some (eR 4 0) := by kernel_rfl
theorem s440 : gE x36 (tx 4 4) 0 = some (eR 4 0) := by kernel_rfl
theorem i441 : gE x23 (tx 4 4) 1 = some (eR 4 1) := by kernel_rfl
theorem s441 : gE x36 (tx 4 4) 1 = some (eR 4 1) := by kernel_rfl
theorem i442 : gE x23 (tx 4 4) 2 = some (eR 4 2) := by kernel_rfl
theorem s442 : gE x36 (tx 4 4) 2 = some (eR 4 2) := by kernel_rfl
theorem i443 : gE x23 (tx 4 4) 3 = some (eR 4 3) := by kernel_rfl
theorem s443 : gE x36 (tx 4 4) 3 = some (eR 4 3) := by kernel_rfl
theorem a45 : gA (tx 4 5) = some (.bool false) := by kernel_rfl
theorem i450 : gE x23 (tx 4 5) 0 = some (eR 5 0) := by kernel_rfl
theorem s450 : gE x36 (tx 4 5) 0 = some (eR 5 0) := by kernel_rfl
theorem i451 : gE x23 (tx 4 5) 1 = some (eR 5 1) := by kernel_rfl
theorem s451 : gE x36 (tx 4 5) 1 = some (eR 5 1) := by kernel_rfl
theorem i452 : gE x23 (tx 4 5) 2 = some (eR 5 2) := by kernel_rfl
theorem s452 : gE x36 (tx 4 5) 2 = some (eR 5 2) := by kernel_rfl
theorem i453 : gE x23 (tx 4 5) 3 = some (eR 5 3) := by kernel_rfl
theorem s453 : gE x36 (tx 4 5) 3 = some (eR 5 3) := by kernel_rfl
theorem a46 : gA (tx 4 6) = some (.bool false) := by kernel_rfl
theorem i460 : gE x23 (tx 4 6) 0 = some (eR 6 0) := by kernel_rfl
theorem s460 : gE x36 (tx 4 6) 0 = some (eR 6 0) := by kernel_rfl
theorem i461 : gE x23 (tx 4 6) 1 = some (eR 6 1) := by kernel_rfl
theorem s461 : gE x36 (tx 4 6) 1 = some (eR 6 1) := by kernel_rfl
theorem i462 : gE x23 (tx 4 6) 2 = some (eR 6 2) := by kernel_rfl
theorem s462 : gE x36 (tx 4 6) 2 = some (eR 6 2) := by kernel_rfl
theorem i463 : gE x23 (tx 4 6) 3 = some (eR 6 3) := by kernel_rfl
theorem s463 : gE x36 (tx 4 6) 3 = some (eR 6 3) := by kernel_rfl
theorem a47 : gA (tx 4 7) = some (.bool false) := by kernel_rfl
theorem i470 : gE x23 (tx 4 7) 0 = some (eR 7 0) := by kernel_rfl
theorem s470 : gE x36 (tx 4 7) 0 = some (eR 7 0) := by kernel_rfl
theorem i471 : gE x23 (tx 4 7) 1 = some (eR 7 1) := by kernel_rfl
theorem s471 : gE x36 (tx 4 7) 1 = some (eR 7 1) := by kernel_rfl
theorem i472 : gE x23 (tx 4 7) 2 = some (eR 7 2) := by kernel_rfl
theorem s472 : gE x36 (tx 4 7) 2 = some (eR 7 2) := by kernel_rfl
theorem i473 : gE x23 (tx 4 7) 3 = some (eR 7 3) := by kernel_rfl
theorem s473 : gE x36 (tx 4 7) 3 = some (eR 7 3) := by kernel_rfl
theorem a48 : gA (tx 4 8) = some (.bool false) := by kernel_rfl
theorem i480 : gE x23 (tx 4 8) 0 = some (eR 8 0) := by kernel_rfl
theorem s480 : gE x36 (tx 4 8) 0 = some (eR 8 0) := by kernel_rfl
theorem i481 : gE x23 (tx 4 8) 1 = some (eR 8 1) := by kernel_rfl
theorem s481 : gE x36 (tx 4 8) 1 = some (eR 8 1) := by kernel_rfl
theorem i482 : gE x23 (tx 4 8) 2 = some (eR 8 2) := by kernel_rfl
theorem s482 : gE x36 (tx 4 8) 2 = some (eR 8 2) := by kernel_rfl
theorem i483 : gE x23 (tx 4 8) 3 = some (eR 8 3) := by kernel_rfl
theorem s483 : gE x36 (tx 4 8) 3 = some (eR 8 3) := by kernel_rfl
theorem a49 : gA (tx 4 9) = some (.bool false) := by kernel_rfl
theorem i490 : gE x23 (tx 4 9) 0 = some (eR 9 0) := by kernel_rfl
theorem s490 : gE x36 (tx 4 9) 0 = some (eR 9 0) := by kernel_rfl
theorem i491 : gE x23 (tx 4 9) 1 = some (eR 9 1) := by kernel_rfl
theorem s491 : gE x36 (tx 4 9) 1 = some (eR 9 1) := by kernel_rfl
theorem i492 : gE x23 (tx 4 9) 2 = some (eR 9 2) := by kernel_rfl
theorem s492 : gE x36 (tx 4 9) 2 = some (eR 9 2) := by kernel_rfl
theorem i493 : gE x23 (tx 4 9) 3 = some (eR 9 3) := by kernel_rfl
theorem s493 : gE x36 (tx 4 9) 3 = some (eR 9 3) := by kernel_rfl
theorem acc4 (m : Nat) (hm : m < 10) (σ : Store) : LD S 18 [.t (.agg [gL]), .t (.str (tx 4 m))] σ = some (.t (B (Nat.beq 4 m)), σ) := by
  rcases lt10 hm with rfl | rfl | rfl | rfl | rfl | rfl | rfl | rfl | rfl | rfl
  · exact hA a40 σ
  · exact hA a41 σ
  · exact hA a42 σ
  · exact hA a43 σ
  · exact hA a44 σ
  · exact hA a45 σ
  · exact hA a46 σ
  · exact hA a47 σ
  · exact hA a48 σ
  · exact hA a49 σ
theorem ei4 (m c : Nat) (hm : m < 10) (hc : c < 4) (σ : Store) : LD S 23 [.t (.agg [gL]), .t (.str (tx 4 m)), .t (.str [66]), .t (.list [.agg [I c]]), .t (I 2)] σ = some (.t (eR m c), σ) := by
  rcases lt10 hm with rfl | rfl | rfl | rfl | rfl | rfl | rfl | rfl | rfl | rfl <;> rcases lt4 hc with rfl | rfl | rfl | rfl
  · exact hI i400 σ
  · exact hI i401 σ
  · exact hI i402 σ
  · exact hI i403 σ
  · exact hI i410 σ
  · exact hI i411 σ
  · exact hI i412 σ
  · exact hI i413 σ
  · exact hI i420 σ
  · exact hI i421 σ
  · exact hI i422 σ
  · exact hI i423 σ
  · exact hI i430 σ
  · exact hI i431 σ
  · exact hI i432 σ
  · exact hI i433 σ
  · exact hI i440 σ
  · exact hI i441 σ
  · exact hI i442 σ
  · exact hI i443 σ
  · exact hI i450 σ
  · exact hI i451 σ
  · exact hI i452 σ
  · exact hI i453 σ
  · exact hI i460 σ
  · exact hI i461 σ
  · exact hI i462 σ
  · exact hI i463 σ
  · exact hI i470 σ
  · exact hI i471 σ
  · exact hI i472 σ
  · exact hI i473 σ
  · exact hI i480 σ
  · exact hI i481 σ
  · exact hI i482 σ
  · exact hI i483 σ
  · exact hI i490 σ
  · exact hI i491 σ
  · exact hI i492 σ
  · exact hI i493 σ
theorem es4 (m c : Nat) (hm : m < 10) (hc : c < 4) (σ : Store) : LD S 36 [.t (.agg [gL]), .t (.str (tx 4 m)), .t (.str [66]), .t (.list [.agg [I c]]), .t (I 2)] σ = some (.t (eR m c), σ) := by
  rcases lt10 hm with rfl | rfl | rfl | rfl | rfl | rfl | rfl | rfl | rfl | rfl <;> rcases lt4 hc with rfl | rfl | rfl | rfl
  · exact hS s400 σ
  · exact hS s401 σ
  · exact hS s402 σ
  · exact hS s403 σ
  · exact hS s410 σ
  · exact hS s411 σ
  · exact hS s412 σ
  · exact hS s413 σ
  · exact hS s420 σ
  · exact hS s421 σ
  · exact hS s422 σ
  · exact hS s423 σ
  · exact hS s430 σ
  · exact hS s431 σ
  · exact hS s432 σ
  · exact hS s433 σ
  · exact hS s440 σ
  · exact hS s441 σ
  · exact hS s442 σ
  · exact hS s443 σ
  · exact hS s450 σ
  · exact hS s451 σ
  · exact hS s452 σ
  · exact hS s453 σ
  · exact hS s460 σ
  · exact hS s461 σ
  · exact hS s462 σ
  · exact hS s463 σ
  · exact hS s470 σ
  · exact hS s471 σ
  · exact hS s472 σ
  · exact hS s473 σ
  · exact hS s480 σ
  · exact hS s481 σ
  · exact hS s482 σ
  · exact hS s483 σ
  · exact hS s490 σ
  · exact hS s491 σ
  · exact hS s492 σ
  · exact hS s493 σ
end TzLe
end X
