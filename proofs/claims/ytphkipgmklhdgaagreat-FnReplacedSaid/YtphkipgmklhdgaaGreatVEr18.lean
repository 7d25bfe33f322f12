/- A part of the proof. No statement of the claim is in it. -/
import Derived.Test.YtphkipgmklhdgaaGreatVEr17
open Go Go.V Go.Proofs
namespace X
set_option maxRecDepth 100000
set_option maxHeartbeats 4000000
set_option linter.unusedSimpArgs false
set_option linter.unusedVariables false
/-- A grammar of which all that the engine asks is known. -/
structure GramOk (SR : List Nat → Option (List Nat)) (MK : T → Option (List Bool)) (VN : List Nat → Bool) (RA : List Nat → Option Nat) (n0 : List Nat) (ps0 az0 : T) (gr : List T) : Prop where
  sets : SetsOk SR
  marks : MkOk MK
  names : NmOk VN
  rules : RaOk RA (.list (.agg [.str n0, ps0, az0] :: gr))
  gok : ∀ σ, LD S 49 [.t (.agg [.list (.agg [.str n0, ps0, az0] :: gr)])] σ = some (.t (B true), σ)
  right : grOk SR MK VN RA (.agg [.str n0, ps0, az0] :: gr) = true
  first : RA n0 = some 0
  none_ : symsL ps0 = some []
theorem long_tot {SR : List Nat → Option (List Nat)} {MK : T → Option (List Bool)} {VN : List Nat → Bool} {RA : List Nat → Option Nat} {n0 : List Nat} {ps0 az0 : T} {gr : List T} (H : GramOk SR MK VN RA n0 ps0 az0 gr) {text : List Nat} (ht : bsB text = true) {k : Nat} (hk : k < text.length) :
    ∃ v : Int, v ≤ text.length ∧ ∀ σ, LD S 14 [.t (.agg [.list (.agg [.str n0, ps0, az0] :: gr)]), .t (.str text), .t (I k)] σ = some (.t (I v), σ) := by
  have hra := H.rules n0 0 H.first
  by_cases hn : text.length ≤ 12
  · obtain ⟨s', h1, h2, h3⟩ := run_tot H.right ht hn (ru := 0) (by simp) (al := []) (by simp) (fr := k) (by omega)
    have hrun : RunOk (mkK SR MK VN RA text) (.agg [.str n0, ps0, az0] :: gr) text n0 0 [] k :=
      { k := mkK_ok H.sets H.marks H.names H.rules text
        gok := H.gok
        ruleAt := H.first
        rule := ⟨_, ps0, az0, [], rfl, H.none_, rfl⟩
        len := hn
        from_ := by omega
        args := ⟨by simp, fun a ha => by cases ha⟩ }
    obtain ⟨y, r1, r2⟩ := run_ld hrun (x := .list []) (.inr rfl) h1
    obtain ⟨x, e1, e2⟩ := ends_ld r1 r2 h2
    have hlen : (endsR (outS s')).length ≤ 1048576 := by
      cases he : endsR (outS s') with
      | nil => simp
      | cons a r =>
        have := (h3 a (by rw [he]; simp)).2
        rw [he] at this
        omega
    refine ⟨lastR (endsR (outS s')), ?_, fun σ => long_ld e2 e1 hlen σ⟩
    unfold lastR
    split
    · rename_i e he
      have := (h3 e (List.mem_of_getLast? he)).1
      omega
    · omega
  · have r1 := run_long (text := text) (nm := n0) (.list []) k H.gok hra (by omega)
    obtain ⟨x, e1, e2⟩ := ends_ld (o := none) r1 rfl (by simp)
    refine ⟨lastR [], ?_, fun σ => long_ld e2 e1 (by simp [endsR]) σ⟩
    simp only [lastR, List.getLast?_nil]
    omega
theorem spans_tot {SR : List Nat → Option (List Nat)} {MK : T → Option (List Bool)} {VN : List Nat → Bool} {RA : List Nat → Option Nat} {n0 : List Nat} {ps0 az0 : T} {gr : List T} (H : GramOk SR MK VN RA n0 ps0 az0 gr) {text : List Nat} (ht : bsB text = true) (hl : text.length ≤ 1000) :
    ∃ l, Asc text.length 0 l ∧ ∀ σ, LD S 6 [.t (.agg [.list (.agg [.str n0, ps0, az0] :: gr)]), .t (.str text)] σ = some (.t (.list (rows2 l)), σ) := by
  have h : ∀ k : Nat, ∃ v : Int, k < text.length → v ≤ text.length ∧ ∀ σ, LD S 14 [.t (.agg [.list (.agg [.str n0, ps0, az0] :: gr)]), .t (.str text), .t (I k)] σ = some (.t (I v), σ) := fun k => by
    by_cases hk : k < text.length
    · obtain ⟨v, hv⟩ := long_tot H ht hk
      exact ⟨v, fun _ => hv⟩
    · exact ⟨0, fun h => absurd h hk⟩
  refine ⟨spansS (fun k => Classical.choose (h k)) text.length text.length 0, spansS_asc (fun k hk => (Classical.choose_spec (h k) hk).1) _ 0 (Nat.zero_le _) 0 (Nat.le_refl _), fun σ => spans_ld hl (fun k hk => Classical.choose_spec (h k) hk) σ⟩
end X
