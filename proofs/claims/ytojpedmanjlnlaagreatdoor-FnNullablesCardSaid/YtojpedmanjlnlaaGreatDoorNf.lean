/- A part of the proof. No statement of the claim is in it. -/
import Derived.Test.YtojpedmanjlnlaaGreatDoorNc
import Derived.Test.YtojpedmanjlnlaaGreatDoorNd
set_option maxRecDepth 100000
set_option maxHeartbeats 4000000
set_option linter.all false
open Go Go.V Go.Proofs
namespace X
attribute [-simp] lenV idxV getElem?_pos
/-! ### FirstBytes of what is no grammar, or has no such rule -/
theorem within_ld (n low high : Int) (σ : Store) : LD S 21 [.t (I n), .t (I low), .t (I high)] σ = some (.t (B (inF n low high)), σ) := by
 suffices h : LV S 21 [.t (I n), .t (I low), .t (I high)] [] = some (.t (B (inF n low high)), []) from LD_pure (A := A21) (v := .t (B (inF n low high))) rfl rfl rfl h rfl σ
 refine LV_body (A := A21) rfl Tryz.func21 rfl ?_
 repeat apply wS
 refine wR (by simp [A21]; constructor <;> rfl) ?_
 try simp only [tq]
 by_cases h : low ≤ n
 ·repeat apply wS
  refine wR (by simp [h, A21]; constructor <;> rfl) ?_
  try simp only [tq]
  refine W_ret ?_
  try simp only [tq]
  simp [Tryz.f21, inF, h]
 ·repeat apply wS
  refine wR (by simp [h, A21]; constructor <;> rfl) ?_
  try simp only [tq]
  refine W_ret ?_
  try simp only [tq]
  simp [Tryz.f21, inF, h]
theorem implFb_no {L : T} {l : List T} (hL : symsL L = some l) {b : Bool} (hg : ∀ σ, LD S 17 [.t (.agg [L])] σ = some (.t (B b), σ)) (hl : l.length ≤ 1000) {i : Int} (hi : b = false ∨ ¬ (0 ≤ i ∧ i < l.length)) (σ : Store) : LD S 10 [.t (.agg [L]), .t (I i)] σ = some (.t (.str []), σ) := by
 suffices hh : ∃ v σ', LV S 10 [.t (.agg [L]), .t (I i)] [] = some (v, σ') ∧ v = .t (.str []) by
  obtain ⟨v, σ', q1, rfl⟩ := hh
  exact LD_pure (A := A10) (args := [.t (.agg [L]), .t (I i)]) rfl rfl rfl q1 rfl σ
 have lL : ∀ (σ : Store) (e : TypeId), lenV σ (.slice e) (.t L) = some (l.length : Int) := fun σ e => by
  rcases symsL_eq hL with ⟨rfl, rfl⟩ | rfl <;> simp [lenV]
 have hw := within_ld i 0 ((l.length : Int) - 1)
 refine LV_bodyX (A := A10) rfl Tryz.func10 rfl ?_
 repeat apply wS
 refine wR (by simp [A10]; constructor <;> rfl) ?_
 try simp only [tq]
 cases b with
 | false =>
  repeat apply wS
  refine wR (by simp [A10, hg]; constructor <;> rfl) ?_
  try simp only [tq]
  repeat apply wS
  refine wC (t := true) (by simp) ?_
  simp only [iq]
  repeat apply wS
  refine wR (by simp [A10]; constructor <;> rfl) ?_
  try simp only [tq]
  refine W_ret ?_
  exact ⟨trivial, _, (by simp [Tryz.f10]), rfl⟩
 | true =>
  have hf : inF i 0 ((l.length : Int) - 1) = false := by
   simp [inF]
   intro h
   rcases hi with h2 | h2
   ·cases h2
   ·omega
  rw [hf] at hw
  repeat apply wS
  refine wR (by simp [A10, hg, lL, IntWalk.i64_in ((l.length : Int) - 1) (by omega), hw]; constructor <;> rfl) ?_
  try simp only [tq]
  repeat apply wS
  refine wC (t := true) (by simp) ?_
  simp only [iq]
  repeat apply wS
  refine wR (by simp [A10]; constructor <;> rfl) ?_
  try simp only [tq]
  refine W_ret ?_
  exact ⟨trivial, _, (by simp [Tryz.f10]), rfl⟩
theorem specFb_no {L : T} {l : List T} (hL : symsL L = some l) {b : Bool} (hg : ∀ σ, LD S 23 [.t (.agg [L])] σ = some (.t (B b), σ)) (hl : l.length ≤ 1000) {i : Int} (hi : b = false ∨ ¬ (0 ≤ i ∧ i < l.length)) (σ : Store) : LD S 11 [.t (.agg [L]), .t (I i)] σ = some (.t (.str []), σ) := by
 suffices hh : ∃ v σ', LV S 11 [.t (.agg [L]), .t (I i)] [] = some (v, σ') ∧ v = .t (.str []) by
  obtain ⟨v, σ', q1, rfl⟩ := hh
  exact LD_pure (A := A11) (args := [.t (.agg [L]), .t (I i)]) rfl rfl rfl q1 rfl σ
 have lL : ∀ (σ : Store) (e : TypeId), lenV σ (.slice e) (.t L) = some (l.length : Int) := fun σ e => by
  rcases symsL_eq hL with ⟨rfl, rfl⟩ | rfl <;> simp [lenV]
 have hw := in_ld i 0 ((l.length : Int) - 1)
 refine LV_bodyX (A := A11) rfl Tryz.func11 rfl ?_
 repeat apply wS
 refine wR (by simp; constructor <;> rfl) ?_
 try simp only [tq]
 cases b with
 | false =>
  repeat apply wS
  refine wR (by simp [hg]; constructor <;> rfl) ?_
  try simp only [tq]
  repeat apply wS
  refine wC (t := true) (by simp) ?_
  simp only [iq]
  repeat apply wS
  refine wR (by simp; constructor <;> rfl) ?_
  try simp only [tq]
  refine W_ret ?_
  exact ⟨trivial, _, (by simp [Tryz.f11]), rfl⟩
 | true =>
  have hf : inF i 0 ((l.length : Int) - 1) = false := by
   simp [inF]
   intro h
   rcases hi with h2 | h2
   ·cases h2
   ·omega
  rw [hf] at hw
  repeat apply wS
  refine wR (by simp [hg, lL, IntWalk.i64_in ((l.length : Int) - 1) (by omega), hw]; constructor <;> rfl) ?_
  try simp only [tq]
  repeat apply wS
  refine wC (t := true) (by simp) ?_
  simp only [iq]
  repeat apply wS
  refine wR (by simp; constructor <;> rfl) ?_
  try simp only [tq]
  refine W_ret ?_
  exact ⟨trivial, _, (by simp [Tryz.f11]), rfl⟩
/-! ### What is asked of a grammar that l06Any makes -/
def FbOk (X : T) : Prop := ∀ i : Int, -9223372036854775808 ≤ i ∧ i ≤ 9223372036854775807 → ∃ s, (∀ σ, LD S 10 [.t X, .t (I i)] σ = some (.t (.str s), σ)) ∧ ∀ σ, LD S 11 [.t X, .t (I i)] σ = some (.t (.str s), σ)
def listB : T → Bool
 | .agg [L] => match symsL L with
  | some l => Nat.ble l.length 1000
  | none => false
 | _ => false
/-- no grammars, one behind the other -/
noncomputable def allW : List T → O := List.rec (some (.bool true)) fun X _ ih => frunC tab 100000 x17 [.t X] fun a => ifB (beqT a (.bool false)) (frunC tab 100000 x23 [.t X] fun b => ifB (beqT b (.bool false)) (ifB (listB X) ih none) none) none
theorem allW_ok : ∀ {l : List T}, allW l = some (.bool true) → ∀ X ∈ l, FbOk X
 | X :: l, h, Y, hY => by
  obtain ⟨a, h1, h'⟩ := frunC_ld (ts := [X]) tab_ok e17 rfl (A := A17) rfl rfl (show frunC tab 100000 x17 ([X].map V.t) _ = some (.bool true) from h)
  obtain ⟨e1, h'⟩ := ifB_some h'
  obtain ⟨b, h2, h'⟩ := frunC_ld (ts := [X]) tab_ok e23 rfl (A := A23) rfl rfl (show frunC tab 100000 x23 ([X].map V.t) _ = some (.bool true) from h')
  obtain ⟨e2, h'⟩ := ifB_some h'
  obtain ⟨e3, h'⟩ := ifB_some h'
  rcases List.mem_cons.1 hY with rfl | hY
  ·rw [beqT_eq e1] at h1
   rw [beqT_eq e2] at h2
   unfold listB at e3
   split at e3
   ·rename_i L
    split at e3
    ·rename_i l hl
     rw [Nat.ble_eq] at e3
     exact fun i _ => ⟨[], implFb_no hl h1 e3 (.inl rfl), specFb_no hl h2 e3 (.inl rfl)⟩
    ·cases e3
   ·cases e3
  ·exact allW_ok h' Y hY
 | [], h, Y, hY => by cases hY
end X
