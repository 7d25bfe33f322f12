/- A part of the proof. No statement of the claim is in it. -/
import Derived.Test.YtojpedmanjlnlaaGreatDoorNf
set_option maxRecDepth 100000
set_option maxHeartbeats 4000000
set_option linter.all false
open Go Go.V Go.Proofs
namespace X
attribute [-simp] lenV idxV getElem?_pos
/-! ### Right grammars that l06Any makes -/
def lookL {α : Type} : List (List Nat × α) → List Nat → Option α
 | [], _ => none
 | p :: r, x => match eqL x p.1 with
  | true => some p.2
  | false => lookL r x
theorem lookL_some {α : Type} {x : List Nat} : ∀ {l : List (List Nat × α)} {y : α}, lookL l x = some y → (x, y) ∈ l
 | [], y, h => by cases h
 | p :: r, y, h => by
  simp only [lookL] at h
  split at h
  ·rename_i e
   cases h
   have := eqL_same e
   subst this
   exact List.mem_cons_self ..
  ·exact List.mem_cons_of_mem _ (lookL_some h)
def SbOk (SB : List Nat → Option (List Nat)) : Prop := ∀ s bs, SB s = some bs → ∀ σ, LD S 55 [.t (.str s)] σ = some (.t (.str bs), σ)
noncomputable def raC (X : T) (k : O) : List (List Nat × Nat) → O := List.rec k fun p _ ih => frunC tab 100000 x53 [.t X, .t (.str p.1)] fun a => ifB (beqT a (.int .i64 (.ofNat p.2))) ih none
theorem raC_get {X : T} {k : O} : ∀ {l : List (List Nat × Nat)} {r : T}, raC X k l = some r → k = some r ∧ ∀ p ∈ l, ∀ σ, LD S 53 [.t X, .t (.str p.1)] σ = some (.t (I (p.2 : Nat)), σ)
 | [], r, h => ⟨h, fun p hp => by cases hp⟩
 | q :: l, r, h => by
  obtain ⟨a, h1, h'⟩ := frunC_ld (ts := [X, .str q.1]) tab_ok e53 rfl (A := A53) rfl rfl (show frunC tab 100000 x53 ([X, .str q.1].map V.t) _ = some r from h)
  obtain ⟨e1, h'⟩ := ifB_some h'
  obtain ⟨h2, h3⟩ := raC_get h'
  rw [beqT_eq e1] at h1
  refine ⟨h2, fun p hp => ?_⟩
  rcases List.mem_cons.1 hp with rfl | hp
  ·exact h1
  ·exact h3 p hp
noncomputable def fiC (X : T) : List (Nat × List Nat) → O := List.rec (some (.bool true)) fun p _ ih => frunC tab 100000 x10 [.t X, .t (.int .i64 (.ofNat p.1))] fun a => ifB (beqT a (.str p.2)) ih none
theorem fiC_get {X : T} : ∀ {l : List (Nat × List Nat)}, fiC X l = some (.bool true) → ∀ p ∈ l, ∀ σ, LD S 10 [.t X, .t (I (p.1 : Nat))] σ = some (.t (.str p.2), σ)
 | [], h, p, hp => by cases hp
 | q :: l, h, p, hp => by
  obtain ⟨a, h1, h'⟩ := frunC_ld (ts := [X, .int .i64 (.ofNat q.1)]) tab_ok e10 rfl (A := A10) rfl rfl (show frunC tab 100000 x10 ([X, .int .i64 (.ofNat q.1)].map V.t) _ = some (.bool true) from h)
  obtain ⟨e1, h'⟩ := ifB_some h'
  rw [beqT_eq e1] at h1
  rcases List.mem_cons.1 hp with rfl | hp
  ·exact h1
  ·exact fiC_get h' p hp
def flB (nu : List Bool) (RA : List Nat → Option Nat) (SB : List Nat → Option (List Nat)) (rules : List T) : Nat → List (Nat × List Nat) → Bool
 | i, [] => Nat.beq i rules.length
 | i, p :: l => Nat.beq p.1 i && (eqL (fbS nu RA SB rules i) p.2 && flB nu RA SB rules (i + 1) l)
theorem flB_get {nu : List Bool} {RA : List Nat → Option Nat} {SB : List Nat → Option (List Nat)} {rules : List T} : ∀ {l : List (Nat × List Nat)} {i : Nat}, flB nu RA SB rules i l = true → ∀ k, i ≤ k → k < rules.length → (k, fbS nu RA SB rules k) ∈ l
 | [], i, h, k, h1, h2 => by
  have := Nat.eq_of_beq_eq_true h
  omega
 | p :: l, i, h, k, h1, h2 => by
  simp only [flB, Bool.and_eq_true] at h
  by_cases e : k = i
  ·subst e
   have a1 := Nat.eq_of_beq_eq_true h.1
   have a2 := eqL_same h.2.1
   have : p = (k, fbS nu RA SB rules k) := by rw [← a1, a1, a2, ← a1]
   rw [← this]
   exact List.mem_cons_self ..
  ·exact List.mem_cons_of_mem _ (flB_get h.2.2 k (by omega) h2)
noncomputable def chkR (SB : List Nat → Option (List Nat)) (rules : List T) (nu : List Bool) (ra : List (List Nat × Nat)) (fl : List (Nat × List Nat)) : O :=
 frunC tab 100000 x17 [.t (.agg [.list rules])] fun a => ifB (beqT a (.bool true)) (frunC tab 100000 x23 [.t (.agg [.list rules])] fun b => ifB (beqT b (.bool true)) (frunC tab 100000 x25 [.t (.agg [.list rules])] fun c => ifB (beqT c (.list (rowsB nu)))
  (raC (.agg [.list rules]) (ifB (Nat.ble rules.length 1000) (ifB (rules.all (ruleF rules.length nu (lookL ra) SB)) (ifB (flB nu (lookL ra) SB rules 0 fl) (fiC (.agg [.list rules]) fl) none) none) none) ra) none) none) none
theorem chkR_ok {SB : List Nat → Option (List Nat)} (hS : SbOk SB) {rules : List T} {nu : List Bool} {ra : List (List Nat × Nat)} {fl : List (Nat × List Nat)} (h : chkR SB rules nu ra fl = some (.bool true)) : FbOk (.agg [.list rules]) := by
 obtain ⟨a, h1, h'⟩ := frunC_ld (ts := [.agg [.list rules]]) tab_ok e17 rfl (A := A17) rfl rfl (show frunC tab 100000 x17 ([T.agg [.list rules]].map V.t) _ = some (.bool true) from h)
 obtain ⟨e1, h'⟩ := ifB_some h'
 obtain ⟨b, h2, h'⟩ := frunC_ld (ts := [.agg [.list rules]]) tab_ok e23 rfl (A := A23) rfl rfl (show frunC tab 100000 x23 ([T.agg [.list rules]].map V.t) _ = some (.bool true) from h')
 obtain ⟨e2, h'⟩ := ifB_some h'
 obtain ⟨c, h3, h'⟩ := frunC_ld (ts := [.agg [.list rules]]) tab_ok e25 rfl (A := A25) rfl rfl (show frunC tab 100000 x25 ([T.agg [.list rules]].map V.t) _ = some (.bool true) from h')
 obtain ⟨e3, h'⟩ := ifB_some h'
 obtain ⟨h', h4⟩ := raC_get h'
 obtain ⟨e5, h'⟩ := ifB_some h'
 obtain ⟨e6, h'⟩ := ifB_some h'
 obtain ⟨e7, h'⟩ := ifB_some h'
 have h8 := fiC_get h'
 rw [beqT_eq e1] at h1
 rw [beqT_eq e2] at h2
 rw [beqT_eq e3] at h3
 rw [Nat.ble_eq] at e5
 intro i _
 by_cases hi : 0 ≤ i ∧ i < rules.length
 ·obtain ⟨k, rfl⟩ : ∃ k : Nat, i = k := ⟨i.toNat, by omega⟩
  have hk : k < rules.length := by omega
  have K : KnF (.list rules) (lookL ra) SB := ⟨fun nm j hj σ => h4 _ (lookL_some hj) σ, hS⟩
  exact ⟨_, h8 _ (flB_get e7 k (Nat.zero_le _) hk), fun σ => fb_ld K h2 h3 e6 e5 hk σ⟩
 ·exact ⟨[], implFb_no rfl h1 e5 (.inr hi), specFb_no rfl h2 e5 (.inr hi)⟩
def rowsOf (l : List T) (r : List (List Nat)) : List (List T) := r.map fun r => r.map fun i => l.getD i .nils
theorem anyFb_of {G : T} {r : List (List Nat)} {l : List T} (hl : r.length = 8) (hr : r.all (fun r => decide (0 < r.length) && r.all fun i => decide (i < l.length)) = true) (hn : ∀ X ∈ l, FbOk X) (hc : ∀ o b1 b2 b3, copyChk (csOf (rowsOf l r)) G o b1 b2 b3 = some (.bool true)) : AnyG FbOk G := by
 have key : ∀ s ∈ r, 0 < s.length ∧ ∀ i ∈ s, i < l.length := fun s hs => by
  have h1 := List.all_eq_true.1 hr s hs
  simp only [Bool.and_eq_true, decide_eq_true_eq, List.all_eq_true] at h1
  exact h1
 refine anyG_of (by simpa [rowsOf] using hl) (fun s hs => ?_) (fun s hs X hX => ?_) hc
 ·obtain ⟨q, hq, rfl⟩ := List.mem_map.1 hs
  simpa using (key q hq).1
 ·obtain ⟨q, hq, rfl⟩ := List.mem_map.1 hs
  obtain ⟨i, hi, rfl⟩ := List.mem_map.1 hX
  exact hn _ (getD_mem _ ((key q hq).2 i hi))
end X
