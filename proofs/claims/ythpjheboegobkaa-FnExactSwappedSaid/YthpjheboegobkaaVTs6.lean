/- A part of the proof. No statement of the claim is in it. -/
import Derived.Test.YthpjheboegobkaaVTs5
open Go Go.V Go.Proofs
namespace X
set_option maxRecDepth 100000
set_option maxHeartbeats 4000000
set_option linter.unusedSimpArgs false
set_option linter.unusedVariables false
attribute [-simp] lenV idxV setRange
theorem setRange_mid : ∀ (vs A B C : List V), B.length = vs.length → setRange (A ++ B ++ C) A.length vs = A ++ vs ++ C
  | [], A, B, C, h => by
    have : B = [] := List.length_eq_zero_iff.1 h
    subst this
    simp [setRange]
  | v :: r, A, [], C, h => by simp at h
  | v :: r, A, b :: B, C, h => by
    have e : (A ++ (b :: B) ++ C).set A.length v = (A ++ [v]) ++ B ++ C := by
      simp [List.set_append]
    have := setRange_mid r (A ++ [v]) B C (by simpa using h)
    simp only [setRange]
    rw [e]
    rw [show A.length + 1 = (A ++ [v]).length by simp, this]
    simp

theorem setRange1 (cs : List V) (off : Nat) (v : V) : setRange cs off [v] = cs.set off v := rfl

/-! ### Trees in a store -/
structure Sl where
  loc : Nat
  gen : Nat
  l : List Int
def ints (l : List Int) : List V := l.map fun i => V.t (I i)
@[simp] theorem ints_length (l : List Int) : (ints l).length = l.length := by simp [ints]
abbrev Sl.v (s : Sl) : V := .sl s.loc s.gen 0 s.l.length 1
def Sl.In (σ : Store) (s : Sl) : Prop := ∃ wgen, wgen ≤ s.gen ∧ σ[s.loc]? = some (.cells (ints s.l) s.gen wgen)
structure Nd where
  rule : Int
  alt : Int
  args : Sl
  fr : Int
  to : Int
  kids : Sl
abbrev Nd.cs (m : Nd) : List V := [.t (I m.rule), .t (I m.alt), m.args.v, .t (I m.fr), .t (I m.to), m.kids.v]
abbrev Nd.n (m : Nd) : N := ⟨m.rule, m.alt, m.args.l, m.fr, m.to, m.kids.l⟩
def Nd.In (σ : Store) (m : Nd) : Prop := m.args.In σ ∧ m.kids.In σ
def flat : List Nd → List V
  | [] => []
  | m :: r => m.cs ++ flat r
def locs : List Nd → List Nat
  | [] => []
  | m :: r => m.args.loc :: m.kids.loc :: locs r
theorem flat_append (a b : List Nd) : flat (a ++ b) = flat a ++ flat b := by
  induction a with
  | nil => rfl
  | cons m r ih => simp only [List.cons_append, flat, ih, List.append_assoc]
theorem locs_append (a b : List Nd) : locs (a ++ b) = locs a ++ locs b := by
  induction a with
  | nil => rfl
  | cons m r ih => simp only [List.cons_append, locs, ih]
theorem flat_length (a : List Nd) : (flat a).length = a.length * 6 := by
  induction a with
  | nil => rfl
  | cons m r ih => simp only [flat, List.length_append, ih, List.length_cons, List.length_nil]; omega
structure Tr where
  loc : Nat
  gen : Nat
  nodes : List Nd
def Tr.In (σ : Store) (t : Tr) : Prop := (∃ wgen, wgen ≤ t.gen ∧ σ[t.loc]? = some (.cells (flat t.nodes) t.gen wgen)) ∧ ∀ m ∈ t.nodes, m.In σ
def Tr.locs (t : Tr) : List Nat := t.loc :: X.locs t.nodes
abbrev Tr.sl (t : Tr) : V := .sl t.loc t.gen 0 t.nodes.length 6
def same (lo hi : Nat) (σ σ' : Store) : Prop := ∀ i, lo ≤ i → i < hi → σ'[i]? = σ[i]?
theorem same.trans {lo hi : Nat} {a b c : Store} (h1 : same lo hi a b) (h2 : same lo hi b c) : same lo hi a c := fun i x y => (h2 i x y).trans (h1 i x y)
def inR (lo hi : Nat) (l : List Nat) : Prop := ∀ x ∈ l, lo ≤ x ∧ x < hi
/-- A slice of nodes, each of its parts an object of its own between two places of the store; or nil. -/
def TS (σ : Store) (v : V) (l : List N) (lo hi : Nat) : Prop :=
  (v = .t .nils ∧ l = []) ∨ ∃ t : Tr, v = t.sl ∧ t.In σ ∧ t.locs.Nodup ∧ inR lo hi t.locs ∧ t.nodes.map Nd.n = l

theorem Sl.In.keep {s : Sl} {σ σ' : Store} (h : s.In σ) (e : σ'[s.loc]? = σ[s.loc]?) : s.In σ' := by
  obtain ⟨w, h1, h2⟩ := h
  exact ⟨w, h1, e.trans h2⟩
theorem locs_mem {l : List Nd} {m : Nd} (h : m ∈ l) : m.args.loc ∈ locs l ∧ m.kids.loc ∈ locs l := by
  induction l with
  | nil => cases h
  | cons a r ih =>
    simp only [locs]
    rcases List.mem_cons.1 h with rfl | h
    · simp
    · have := ih h
      simp [this.1, this.2]
theorem nodes_keep {l : List Nd} {σ σ' : Store} (h : ∀ m ∈ l, m.In σ) (e : ∀ x ∈ locs l, σ'[x]? = σ[x]?) : ∀ m ∈ l, m.In σ' := by
  intro m hm
  exact ⟨(h m hm).1.keep (e _ (locs_mem hm).1), (h m hm).2.keep (e _ (locs_mem hm).2)⟩
theorem Tr.In.keep {t : Tr} {σ σ' : Store} (h : t.In σ) (e : ∀ x ∈ t.locs, σ'[x]? = σ[x]?) : t.In σ' := by
  obtain ⟨⟨w, h1, h2⟩, h3⟩ := h
  exact ⟨⟨w, h1, (e _ (by simp [Tr.locs])).trans h2⟩, nodes_keep h3 fun x hx => e x (by simp [Tr.locs, hx])⟩
theorem TS.keep {σ σ' : Store} {v : V} {l : List N} {lo hi : Nat} (h : TS σ v l lo hi) (e : same lo hi σ σ') : TS σ' v l lo hi := by
  rcases h with h | ⟨t, h1, h2, h3, h4, h5⟩
  · exact .inl h
  · exact .inr ⟨t, h1, h2.keep fun x hx => e x (h4 x hx).1 (h4 x hx).2, h3, h4, h5⟩
theorem TS.wide {σ : Store} {v : V} {l : List N} {lo hi lo' hi' : Nat} (h : TS σ v l lo hi) (h1 : lo' ≤ lo) (h2 : hi ≤ hi') : TS σ v l lo' hi' := by
  rcases h with h | ⟨t, q1, q2, q3, q4, q5⟩
  · exact .inl h
  · exact .inr ⟨t, q1, q2, q3, fun x hx => ⟨Nat.le_trans h1 (q4 x hx).1, Nat.lt_of_lt_of_le (q4 x hx).2 h2⟩, q5⟩

/-! #### As trees -/
theorem frzs_ints (d : Nat) (σ : Store) (l : List Int) : frzs (frz (d + 1) σ) (ints l) = some (l.map I) := by
  induction l with
  | nil => rfl
  | cons p l ih => simp only [ints, List.map_cons] at ih ⊢; simp only [frzs, frz_t, ih]
theorem chunk_ints (l : List Int) : chunk 1 l.length (l.map I) = l.map R1 := by
  induction l with
  | nil => rfl
  | cons p l ih => simp [chunk, ih]
theorem Sl.In.frz {s : Sl} {σ : Store} (h : s.In σ) (d : Nat) : Go.V.frz (d + 2) σ s.v = some (L s.l) := by
  obtain ⟨w, h1, h2⟩ := h
  rw [frz_sl (d := d + 1) h2 h1 (Nat.le_refl _) (by decide) (by simp) (ts := s.l.map I)]
  · rw [chunk_ints]
  · rw [List.drop_zero, List.take_of_length_le (by simp)]
    exact frzs_ints d σ s.l
theorem frzs_append (f : V → Option T) (a b : List V) (x y : List T) (h1 : frzs f a = some x) (h2 : frzs f b = some y) : frzs f (a ++ b) = some (x ++ y) := by
  induction a generalizing x with
  | nil => cases h1; exact h2
  | cons v r ih =>
    simp only [List.cons_append, frzs] at h1 ⊢
    split at h1
    · rename_i x0 xs e1 e2
      cases h1
      rw [e1, ih xs e2]
      rfl
    · cases h1
theorem Nd.In.frzs {m : Nd} {σ : Store} (h : m.In σ) (d : Nat) : Go.V.frzs (frz (d + 2) σ) m.cs = some (encC m.n) := by
  simp only [Go.V.frzs, frz_t, h.1.frz d, h.2.frz d]
theorem frzs_nodes {σ : Store} (d : Nat) : ∀ (l : List Nd), (∀ m ∈ l, m.In σ) → frzs (frz (d + 2) σ) (flat l) = some ((l.map Nd.n).flatMap encC)
  | [], _ => rfl
  | m :: r, h => by
    simp only [flat, List.map_cons, List.flatMap_cons]
    exact frzs_append _ _ _ _ _ (Nd.In.frzs (h m (by simp)) d) (frzs_nodes d r fun x hx => h x (by simp [hx]))
theorem chunk_nodes (l : List N) : chunk 6 l.length (l.flatMap encC) = l.map encN := by
  induction l with
  | nil => rfl
  | cons p l ih => simp [chunk, ih]
theorem Tr.In.frz {t : Tr} {σ : Store} (h : t.In σ) (d : Nat) : Go.V.frz (d + 3) σ t.sl = some (Ls (t.nodes.map Nd.n)) := by
  obtain ⟨⟨w, h1, h2⟩, h3⟩ := h
  rw [frz_sl (d := d + 2) h2 h1 (Nat.le_refl _) (by decide) (by rw [flat_length]; omega) (ts := (t.nodes.map Nd.n).flatMap encC)]
  · have := chunk_nodes (t.nodes.map Nd.n)
    rw [List.length_map] at this
    rw [this]
  · rw [List.drop_zero, List.take_of_length_le (by rw [flat_length]; omega)]
    exact frzs_nodes d t.nodes h3
theorem frz_agg (d : Nat) (σ : Store) (cs : List V) : Go.V.frz (d + 1) σ (.agg cs) = (Go.V.frzs (Go.V.frz d σ) cs).map .agg := rfl
theorem TS.frz {σ : Store} {v : V} {l : List N} {lo hi : Nat} (h : TS σ v l lo hi) : ∃ x, isTree x l ∧ Go.V.frz 40 σ (mkAgg [v]) = some (.agg [x]) := by
  rcases h with ⟨rfl, rfl⟩ | ⟨t, rfl, h2, h3, h4, rfl⟩
  · exact ⟨.nils, .inr ⟨rfl, rfl⟩, rfl⟩
  · refine ⟨_, .inl rfl, ?_⟩
    have e : mkAgg [t.sl] = .agg [t.sl] := rfl
    have : Go.V.frz (36 + 3) σ t.sl = some (Ls (t.nodes.map Nd.n)) := h2.frz 36
    rw [e, frz_agg 39, frzs, this]
    simp only [frzs, Option.map_some]

