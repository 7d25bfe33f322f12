/- A part of the proof. No statement of the claim is in it. -/
import Derived.Test.YthpjheboegobkaaVTs15
open Go Go.V Go.Proofs
namespace X
set_option maxRecDepth 100000
set_option maxHeartbeats 4000000
set_option linter.unusedSimpArgs false
set_option linter.unusedVariables false
attribute [-simp] lenV idxV setRange
/-! ### A callee's store behind the caller's -/
def Sl.sh (n : Nat) (s : Sl) : Sl := { s with loc := n + s.loc }
def Nd.sh (n : Nat) (m : Nd) : Nd := { m with args := m.args.sh n, kids := m.kids.sh n }
def Tr.sh (n : Nat) (t : Tr) : Tr := { t with loc := n + t.loc, nodes := t.nodes.map (Nd.sh n) }
theorem shVs_ints (n : Nat) (l : List Int) : shVs n (ints l) = ints l := by
  induction l with
  | nil => rfl
  | cons x r ih =>
    simp only [ints, List.map_cons] at ih ⊢
    simp only [shVs, ih]
    rfl
theorem shVs_append (n : Nat) (a b : List V) : shVs n (a ++ b) = shVs n a ++ shVs n b := by
  induction a with
  | nil => rfl
  | cons x r ih => simp only [List.cons_append, shVs, ih]
theorem shVs_flat (n : Nat) (l : List Nd) : shVs n (flat l) = flat (l.map (Nd.sh n)) := by
  induction l with
  | nil => rfl
  | cons m r ih =>
    simp only [flat, List.map_cons, shVs_append, ih]
    rfl
theorem sh_get {σ σ0 : Store} {i : Nat} {x : Go.V.Obj} (h : σ0[i]? = some x) : (σ ++ σ0.map (shO σ.length))[σ.length + i]? = some (shO σ.length x) := by
  rw [getB, List.getElem?_map, h]; rfl
theorem Sl.In.sh {s : Sl} {σ σ0 : Store} (h : s.In σ0) : (s.sh σ.length).In (σ ++ σ0.map (shO σ.length)) := by
  obtain ⟨w, h1, h2⟩ := h
  refine ⟨w, h1, ?_⟩
  show (σ ++ σ0.map (shO σ.length))[σ.length + s.loc]? = _
  rw [sh_get h2]
  simp only [shO, shVs_ints]
  rfl
theorem locs_sh (n : Nat) (l : List Nd) : locs (l.map (Nd.sh n)) = (locs l).map (n + ·) := by
  induction l with
  | nil => rfl
  | cons m r ih => simp only [List.map_cons, locs, ih]; rfl
theorem Tr.locs_sh (n : Nat) (t : Tr) : (t.sh n).locs = t.locs.map (n + ·) := by
  simp only [Tr.locs, Tr.sh, X.locs_sh, List.map_cons]
theorem Tr.In.sh {t : Tr} {σ σ0 : Store} (h : t.In σ0) : (t.sh σ.length).In (σ ++ σ0.map (shO σ.length)) := by
  obtain ⟨⟨w, h1, h2⟩, h3⟩ := h
  refine ⟨⟨w, h1, ?_⟩, ?_⟩
  · show (σ ++ σ0.map (shO σ.length))[σ.length + t.loc]? = _
    rw [sh_get h2]
    simp only [shO, shVs_flat]
    rfl
  · intro m hm
    obtain ⟨m0, h4, rfl⟩ := List.mem_map.1 hm
    exact ⟨(h3 m0 h4).1.sh, (h3 m0 h4).2.sh⟩
theorem nodup_add (n : Nat) {l : List Nat} (h : l.Nodup) : (l.map (n + ·)).Nodup := by
  induction l with
  | nil => simp
  | cons a r ih =>
    rw [List.nodup_cons] at h
    rw [List.map_cons, List.nodup_cons]
    refine ⟨fun hm => ?_, ih h.2⟩
    obtain ⟨b, h1, h2⟩ := List.mem_map.1 hm
    exact h.1 (by rw [show a = b by omega]; exact h1)
theorem TS.sh {v : V} {l : List N} {lo : Nat} {σ σ0 : Store} (h : TS σ0 v l lo σ0.length) : TS (σ ++ σ0.map (shO σ.length)) (shV σ.length v) l σ.length (σ ++ σ0.map (shO σ.length)).length := by
  rcases h with ⟨rfl, rfl⟩ | ⟨t, rfl, h2, h3, h4, rfl⟩
  · exact .inl ⟨rfl, rfl⟩
  · refine .inr ⟨t.sh σ.length, ?_, h2.sh, ?_, ?_, ?_⟩
    · simp [Tr.sl, Tr.sh, shV]
    · rw [Tr.locs_sh]; exact nodup_add _ h3
    · rw [Tr.locs_sh]
      intro x hx
      obtain ⟨y, h5, rfl⟩ := List.mem_map.1 hx
      have := h4 y h5
      simp only [List.length_append, List.length_map]
      omega
    · simp only [Tr.sh, List.map_map]
      rfl

/-! ### The functions -/
def inT (at_ : Int) (l : List N) : Bool := decide (0 ≤ at_) && decide (at_ ≤ (l.length : Int) - 1)
/-- what SubTree gives -/
def sub (l : List N) (at_ : Int) : Option (List N) :=
  if rightFrom 0 l && inT at_ l then ex l (-1) (fun _ => none) l.length at_ [] else none
def swp (l : List N) (at_ : Int) (m : List N) : Option (List N) :=
  if rightFrom 0 l && rightFrom 0 m && !m.isEmpty && inT at_ l then ex l at_ (ex m (-1) (fun _ => none) m.length ((m.length : Int) - 1)) l.length ((l.length : Int) - 1) [] else none
/-- A result: a tree that stands in a store, and whether there is one. -/
def Out (σ : Store) (v : V) (lo : Nat) (r : Option (List N)) : Prop :=
  ∃ w, v = .tup [mkAgg [w], .t (B r.isSome)] ∧ TS σ w (r.getD []) lo σ.length
def Out0 (σ : Store) (v : V) (r : Option (List N)) : Prop :=
  ∃ w, v = mkTup [mkAgg [w], .t (B r.isSome)] ∧ TS σ w (r.getD []) 0 σ.length ∧ (r = none → w = .t .nils)
