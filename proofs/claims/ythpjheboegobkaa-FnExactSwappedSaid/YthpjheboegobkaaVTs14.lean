/- A part of the proof. No statement of the claim is in it. -/
import Derived.Test.YthpjheboegobkaaVTs13
open Go Go.V Go.Proofs
namespace X
set_option maxRecDepth 100000
set_option maxHeartbeats 4000000
set_option linter.unusedSimpArgs false
set_option linter.unusedVariables false
attribute [-simp] lenV idxV setRange
/-! ### Regions whose loads are looked at again -/
theorem eqL_self : ∀ l : List Nat, eqL l l = true
  | [] => rfl
  | a :: r => by simp only [eqL, Go.V.beq_self, eqL_self r, Bool.and_self]
mutual
theorem beqT_self : ∀ x : T, beqT x x = true
  | .undef => rfl
  | .bool b => by cases b <;> rfl
  | .int k n => by
    have h1 : beqK k k = true := by cases k <;> rfl
    have h2 : beqI n n = true := by cases n <;> simp only [beqI, Go.V.beq_self]
    simp only [beqT, h1, h2, Bool.and_self]
  | .str s => by simp only [beqT, eqL_self]
  | .nilp => rfl
  | .nils => rfl
  | .nilm => rfl
  | .nilf => rfl
  | .agg a => by simp only [beqT, beqTs_self a]
  | .tup a => by simp only [beqT, beqTs_self a]
  | .list a => by simp only [beqT, beqTs_self a]
  | .snap a => by simp only [beqT, beqTs_self a]
theorem beqTs_self : ∀ x : List T, beqTs x x = true
  | [] => rfl
  | x :: r => by simp only [beqTs, beqT_self x, beqTs_self r, Bool.and_self]
end
mutual
theorem beqV_self : ∀ x : V, beqV x x = true
  | .t x => by simp only [beqV, beqT_self x]
  | .sl .. => by simp only [beqV, Go.V.beq_self, Bool.and_self]
  | .ptr .. => by simp only [beqV, Go.V.beq_self, Bool.and_self]
  | .mp _ => by simp only [beqV, Go.V.beq_self]
  | .fn f a => by simp only [beqV, Go.V.beq_self, beqVs_self a, Bool.and_self]
  | .bm f a => by simp only [beqV, Go.V.beq_self, beqVs_self a, Bool.and_self]
  | .agg a => by simp only [beqV, beqVs_self a]
  | .tup a => by simp only [beqV, beqVs_self a]
theorem beqVs_self : ∀ x : List V, beqVs x x = true
  | [] => rfl
  | x :: r => by simp only [beqVs, beqV_self x, beqVs_self r, Bool.and_self]
end
def okL (stop : List Nat) (f : Nat × TI × V × V → Bool) (ls : Lds) : Bool := ls.all fun l => memN l.1 stop || f l
theorem okL_live {s stop : List Nat} {f : Nat × TI × V × V → Bool} : ∀ {ls : Lds}, okL stop f ls = true → okL stop f (liveL s ls) = true
  | [], h => h
  | l :: r, h => by
    simp only [okL, List.all_cons, Bool.and_eq_true] at h
    simp only [liveL]
    split
    · exact okL_live h.2
    · simp only [okL, List.all_cons, Bool.and_eq_true]
      exact ⟨h.1, okL_live h.2⟩
theorem live_all {stop : List Nat} {f : Nat × TI × V × V → Bool} : ∀ {ls : Lds}, okL stop f ls = true → (liveL stop ls).all f = true
  | [], _ => rfl
  | l :: r, h => by
    simp only [okL, List.all_cons, Bool.and_eq_true, Bool.or_eq_true] at h
    simp only [liveL]
    split
    · exact live_all h.2
    · rename_i e
      simp only [List.all_cons, Bool.and_eq_true]
      refine ⟨?_, live_all h.2⟩
      rcases h.1 with h1 | h1
      · rw [e] at h1; cases h1
      · exact h1
theorem okL_nil (stop : List Nat) (f : Nat × TI × V × V → Bool) : okL stop f [] = true := rfl
theorem okL_cons (stop : List Nat) (f : Nat × TI × V × V → Bool) (l : Nat × TI × V × V) (r : Lds) : okL stop f (l :: r) = ((memN l.1 stop || f l) && okL stop f r) := rfl
theorem okAt_load {σ : Store} {i : TI} {x v : V} (h : loadV σ i x = some v) : okAt σ i x v = true := by
  unfold okAt
  split
  · split
    · rw [h]; exact beqV_self v
    · rfl
  · rfl
theorem W_regD {S : Sy} {A : Ann} {id : Nat} {ops : Array Oper} {Q : Ex → St → Store → Prop} {st st' : St} {σ σ' : Store} (P : Array Nat → Bool) (hs : P (Region.before ops) = true) (hbad : A.bad.contains id = false) (hdyn : A.dyn.contains id = true)
    (h : ∀ b : Array Nat, P b = true → runOpsD (LD S) S.pf S.ty A id ops b 0 ops.toList { st with scr := [] } σ [(ops.size, σ)] [] = some (st', σ')) (hq : Q .normal st' σ') : W S A (.region id ops true) Q st σ := by
  refine W_region ?_ hq
  unfold runReg
  rw [if_neg (by rw [hbad]; simp), if_pos (by rw [hdyn]; rfl)]
  exact h _ hs
