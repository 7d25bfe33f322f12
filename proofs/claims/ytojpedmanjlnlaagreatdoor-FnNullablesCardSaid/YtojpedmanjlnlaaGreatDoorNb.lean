/- A part of the proof. No statement of the claim is in it. -/
import Derived.Test.YtojpedmanjlnlaaGreatDoorNa
set_option maxRecDepth 100000
set_option maxHeartbeats 4000000
set_option linter.all false
open Go Go.V Go.Proofs
namespace X
attribute [-simp] lenV idxV getElem?_pos
/-! ### Bytes as bits of a number -/
def bM (m : Nat) : List V := (List.range 256).map fun b => V.t (B (m.testBit b))
theorem bM_len (m : Nat) : (bM m).length = 256 := by simp [bM]
theorem bM_get (m : Nat) {b : Nat} (h : b < 256) : (bM m)[b]? = some (V.t (B (m.testBit b))) := by simp [bM, List.getElem?_range h]
theorem bM_set {m m' b : Nat} {c : Bool} (h : ∀ j, j < 256 → m'.testBit j = if j = b then c else m.testBit j) : (bM m).set b (V.t (B c)) = bM m' := by
 apply List.ext_getElem?
 intro j
 by_cases hj : j < 256
 ·rw [bM_get m' hj, h j hj]
  by_cases e : b = j
  ·subst e
   rw [List.getElem?_set_self (by rw [bM_len]; exact hj), if_pos rfl]
  ·rw [List.getElem?_set_ne e, bM_get m hj, if_neg (fun q => e q.symm)]
 ·rw [List.getElem?_eq_none (by rw [List.length_set, bM_len]; omega), List.getElem?_eq_none (by rw [bM_len]; omega)]
def bit1 (m b : Nat) : Nat := m ||| (1 <<< b)
theorem bit1_test (m b j : Nat) : (bit1 m b).testBit j = if j = b then true else m.testBit j := by
 unfold bit1
 rw [Nat.testBit_or, Nat.one_shiftLeft, Nat.testBit_two_pow]
 by_cases e : j = b
 ·subst e; simp
 ·rw [if_neg e, decide_eq_false (fun q => e q.symm), Bool.or_false]
theorem rep_bM (n : Nat) : n = 256 → repZero [V.t (B false)] n = bM 0 := by
 rintro rfl
 have : ∀ n, repZero [V.t (B false)] n = List.replicate n (V.t (B false)) := fun n => by
  induction n with
  | zero => rfl
  | succ n ih => simp [repZero, ih, List.replicate_succ]
 rw [this]
 apply List.ext_getElem?
 intro j
 by_cases hj : j < 256
 ·rw [bM_get 0 hj, List.getElem?_replicate, if_pos hj]; simp
 ·rw [List.getElem?_eq_none (by simp; omega), List.getElem?_eq_none (by rw [bM_len]; omega)]
/-! ### What an alternative marks -/
def symF (nR : Nat) (nu : List Bool) (RA : List Nat → Option Nat) (SB : List Nat → Option (List Nat)) : T → Bool
 | .agg [.int .i64 (.ofNat kind), .str tx, _, .str _] =>
  if kind = 3 then match RA tx with
   | some k => decide (k < nR) && decide (k < nu.length)
   | none => false
  else if kind = 1 then match tx with
   | b :: _ => decide (b < 256)
   | [] => false
  else if kind = 2 then match SB tx with
   | some bs => bs.all (fun b => decide (b < 256)) && decide (bs.length ≤ 1000)
   | none => false
  else true
 | _ => false
def altM (nu : List Bool) (RA : List Nat → Option Nat) (SB : List Nat → Option (List Nat)) (i : Nat) : List T → List Nat → List Nat
 | .agg [.int .i64 (.ofNat kind), .str tx, _, .str _] :: r, M =>
  if kind = 3 then match RA tx with
   | some k => if nu.getD k false then altM nu RA SB i r (M.set i (M.getD i 0 ||| M.getD k 0 % 2 ^ 256)) else M.set i (M.getD i 0 ||| M.getD k 0 % 2 ^ 256)
   | none => M
  else if kind = 1 then M.set i (bit1 (M.getD i 0) (tx.headD 0))
  else if kind = 2 then match SB tx with
   | some bs => M.set i (bs.foldl bit1 (M.getD i 0))
   | none => M
  else altM nu RA SB i r M
 | _, M => M
structure Rp (σ : Store) (df gf : Nat) (ds M : List Nat) : Prop where
 first : ∃ w, w ≤ gf ∧ σ[df]? = some (.cells (ds.map fun d => V.sl d 0 0 256 1) gf w)
 rows : ∀ (j d m : Nat), ds[j]? = some d → M[j]? = some m → σ[d]? = some (.cells (bM m) 0 0)
 len : ds.length = M.length
 inj : ∀ (j k d : Nat), ds[j]? = some d → ds[k]? = some d → j = k
 out : df ∉ ds
end X
