/- A part of the proof. No statement of the claim is in it. -/
import Derived.Test.YtbdadoeankjnkaaGreatDoorK
import Derived.Test.YtbdadoeankjnkaaGreatDoorSc
set_option maxRecDepth 100000
set_option maxHeartbeats 4000000
set_option linter.all false
open Go Go.V Go.Proofs
namespace E
open X
attribute [-simp] lenV idxV getElem?_pos
/-! ### Ends and the longest, in both -/
/-- what is known of a grammar for the program -/
structure GramI (SR : List Nat → Option (List Nat)) (MK : T → Option (List Bool)) (VN : List Nat → Bool) (RA : List Nat → Option Nat) (rules : List T) : Prop where
 fx : Fx SR MK VN RA rules
 two : qtm rules = true
 c : gramC rules = true
 gok : ∀ σ, LD S 23 [.t (.agg [.list rules])] σ = some (.t (B true), σ)
/-- no run: too long a text, or a place that is none -/
theorem endsI_no {gr tx nm ax ft : T} (hr : ∀ σ, LD S 7 [.t (.agg [gr]), .t tx, .t nm, .t ax, .t ft] σ = some (.t (.tup [.agg [.nils], B false]), σ)) (σ : Store) :
  LD S 11 [.t (.agg [gr]), .t tx, .t nm, .t ax, .t ft] σ = some (.t .nils, σ) := by
 suffices hh : ∃ σ', LV S 11 [.t (.agg [gr]), .t tx, .t nm, .t ax, .t ft] [] = some (.t .nils, σ') by
  obtain ⟨σ', hh⟩ := hh
  exact qaj (A := A11) rfl rfl rfl hh rfl σ
 refine qbm (A := A11) rfl Tryz.func11 rfl ?_
 refine wR rfl (by simp; rfl) ?_
 refine wR rfl (by simp [hr]; rfl) ?_
 refine wR rfl (by simp; rfl) ?_
 refine wT rfl (by simp) ?_
 refine wR rfl (by simp; rfl) ?_
 refine wX ?_
 try simp only [tq]
 simp [Tryz.f11]
section
variable {SR : List Nat → Option (List Nat)} {MK : T → Option (List Bool)} {VN : List Nat → Bool} {RA : List Nat → Option Nat} {n0 : List Nat} {ps0 az0 : T} {gr : List T} {text : List Nat}
end
end E
namespace E
open X
attribute [-simp] lenV idxV getElem?_pos
/-! ### Spans of the program -/
/-- what is found: spans one behind the other, each as long as may be, nothing found between -/
def Fnd (long : Nat → Int) (n : Nat) : Nat → List (Nat × Nat) → Prop
 | k, [] => k ≤ n ∧ ∀ j, k ≤ j → j < n → long j ≤ j
 | k, p :: r => k ≤ p.1 ∧ p.1 < p.2 ∧ long p.1 = p.2 ∧ (∀ j, k ≤ j → j < p.1 → long j ≤ j) ∧ Fnd long n p.2 r
theorem Fnd.more {long : Nat → Int} {n k : Nat} (hk : long k ≤ k) (hn : k < n) : ∀ {l : List (Nat × Nat)}, Fnd long n (k + 1) l → Fnd long n k l
 | [], h => ⟨by omega, fun j h1 h2 => by
  by_cases e : j = k
  ·subst e; exact hk
  ·exact h.2 j (by omega) h2⟩
 | p :: r, h => ⟨by have := h.1; omega, h.2.1, h.2.2.1, fun j h1 h2 => by
  by_cases e : j = k
  ·subst e; exact hk
  ·exact h.2.2.2.1 j (by omega) h2, h.2.2.2.2⟩
section
variable {SR : List Nat → Option (List Nat)} {MK : T → Option (List Bool)} {VN : List Nat → Bool} {RA : List Nat → Option Nat} {n0 : List Nat} {ps0 az0 : T} {gr : List T} {text : List Nat}
end
end E
namespace E
open X
attribute [-simp] getElem?_pos
/-! ### The draws of the law -/
end E
namespace E
open X
attribute [-simp] getElem?_pos
attribute [simp] eqOp
/-! ### The law FnSpans -/
/-- a grammar of which all is known in both -/
def QS (G : T) : Prop := ∃ SR MK VN RA n0 ps0 az0 gr, G = .agg [.list (.agg [.str n0, ps0, az0] :: gr)] ∧ GramOk SR MK VN RA n0 ps0 az0 gr ∧ GramI SR MK VN RA (.agg [.str n0, ps0, az0] :: gr)
theorem big_ld {x : T} {l : List Int} (hx : BytesT x l) (σ : Store) : LD S 5 [.t x] σ = some (.t (B (decide ((1048576 : Int) < l.length))), σ) := by
 refine qaj (A := A5) (v := .t (B (decide ((1048576 : Int) < l.length)))) (σ0 := []) rfl rfl rfl ?_ rfl σ
 rcases hx with ⟨rfl, rfl⟩ | rfl
 ·refine qas (A := A5) rfl Tryz.func5 rfl ?_
  refine wR rfl (by simp [lenV]; rfl) ?_
  refine wR rfl (by simp; rfl) ?_
  refine wX ?_
  try simp only [tq]
  simp [Tryz.f5]
 ·refine qas (A := A5) rfl Tryz.func5 rfl ?_
  refine wR rfl (by simp [lenV]; rfl) ?_
  refine wR rfl (by simp; rfl) ?_
  refine wX ?_
  try simp only [tq]
  simp [Tryz.f5]
def strsT (l : List (List Nat)) : T := .list (l.map fun s => .agg [.str s])
end E
