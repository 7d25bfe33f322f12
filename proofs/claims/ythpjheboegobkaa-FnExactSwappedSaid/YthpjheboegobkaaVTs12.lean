/- A part of the proof. No statement of the claim is in it. -/
import Derived.Test.YthpjheboegobkaaVTs11
open Go Go.V Go.Proofs
namespace X
set_option maxRecDepth 100000
set_option maxHeartbeats 4000000
set_option linter.unusedSimpArgs false
set_option linter.unusedVariables false
attribute [-simp] lenV idxV setRange
/-! ### What is put -/
def kidsF (f : Int → List N → Option (List N)) : List Int → List N → List Int → Option (List N × List Int)
  | [], l, ks => some (l, ks)
  | k :: r, l, ks => match f k l with
    | none => none
    | some l' => kidsF f r l' (ks ++ [(l'.length : Int) - 1])
def ex (nodes : List N) (swap : Int) (g : List N → Option (List N)) : Nat → Int → List N → Option (List N)
  | 0, _, _ => none
  | n + 1, at_, l => if at_ = swap then g l else match nodes[at_.toNat]? with
    | none => none
    | some x => match kidsF (ex nodes swap g n) x.kids l [] with
      | none => none
      | some (l', ks) => if l'.length + 1 ≤ 60 then some (l' ++ [{ x with kids := ks }]) else none

/-- Nodes that were put so far; 'ls': where they lie. -/
def Acc (σ : Store) (v : V) (l : List N) (lo : Nat) (ls : List Nat) : Prop :=
  (v = .t .nils ∧ l = [] ∧ ls = []) ∨ ∃ t : Tr, v = t.sl ∧ ls = t.locs ∧ t.In σ ∧ t.locs.Nodup ∧ inR lo σ.length t.locs ∧ t.nodes.map Nd.n = l
theorem Acc.len {σ : Store} {v : V} {l : List N} {lo : Nat} {ls : List Nat} (h : Acc σ v l lo ls) (τ : Store) (e : TypeId) : lenV τ (.slice e) v = some (l.length : Int) := by
  rcases h with ⟨rfl, rfl, rfl⟩ | ⟨t, rfl, rfl, h1, h2, h3, rfl⟩
  · simp
  · simp
theorem Acc.lt {σ : Store} {v : V} {l : List N} {lo : Nat} {ls : List Nat} (h : Acc σ v l lo ls) {j : Nat} (e : j ∈ ls) : lo ≤ j ∧ j < σ.length := by
  rcases h with ⟨rfl, rfl, rfl⟩ | ⟨t, rfl, rfl, h1, h2, h3, rfl⟩
  · cases e
  · exact h3 _ e
theorem Acc.keep {σ σ' : Store} {v : V} {l : List N} {lo : Nat} {ls : List Nat} (h : Acc σ v l lo ls) (hl : σ.length ≤ σ'.length) (e : ∀ i, i ∈ ls → σ'[i]? = σ[i]?) : Acc σ' v l lo ls := by
  rcases h with ⟨rfl, rfl, rfl⟩ | ⟨t, rfl, rfl, h1, h2, h3, rfl⟩
  · exact .inl ⟨rfl, rfl, rfl⟩
  · exact .inr ⟨t, rfl, rfl, h1.keep fun x hx => e x hx, h2, fun x hx => ⟨(h3 x hx).1, Nat.lt_of_lt_of_le (h3 x hx).2 hl⟩, rfl⟩
theorem Acc.ts {σ : Store} {v : V} {l : List N} {lo : Nat} {ls : List Nat} (h : Acc σ v l lo ls) : TS σ v l lo σ.length := by
  rcases h with ⟨rfl, rfl, rfl⟩ | ⟨t, rfl, rfl, h1, h2, h3, rfl⟩
  · exact .inl ⟨rfl, rfl⟩
  · exact .inr ⟨t, rfl, h1, h2, h3, rfl⟩

theorem appendN {σ : Store} {v : V} {l : List N} {lo : Nat} {ls : List Nat} (h : Acc σ v l lo ls) {q : Nat} {m : Nd} (hq : σ[q]? = some (.cells m.cs 0 0)) (hm : m.In σ) (hlo : lo ≤ σ.length)
    (h1 : m.args.loc ≠ m.kids.loc) (h2 : lo ≤ m.args.loc ∧ m.args.loc < σ.length) (h3 : lo ≤ m.kids.loc ∧ m.kids.loc < σ.length)
    (d1 : m.args.loc ∉ ls) (d2 : m.kids.loc ∉ ls) (hl : l.length ≤ 60) :
    ∃ v' σ' ls', appendV S.ty σ [34, 34] v (.sl q 0 0 1 6) = some (v', σ') ∧ σ.length ≤ σ'.length ∧ Acc σ' v' (l ++ [m.n]) lo ls' ∧ (∀ x ∈ ls', x ∈ ls ∨ x = σ.length ∨ x = m.args.loc ∨ x = m.kids.loc) ∧ ∀ i, i < σ.length → i ∉ ls → σ'[i]? = σ[i]? := by
  rcases h with ⟨rfl, rfl, rfl⟩ | ⟨t, rfl, rfl, i1, i2, i3, rfl⟩
  · refine ⟨.sl σ.length 0 0 1 6, σ ++ [.cells m.cs 0 0], _, ?_, by simp, .inr ⟨⟨σ.length, 0, [m]⟩, rfl, rfl, ⟨⟨0, Nat.le_refl _, ?_⟩, ?_⟩, ?_, ?_, rfl⟩, ?_, fun i hi _ => List.getElem?_append_left hi⟩
    · simp [appendV, srcCells, hq, repZero]
    · simp [flat]
    · intro x hx
      simp only [List.mem_singleton] at hx
      subst hx
      exact ⟨hm.1.keep (List.getElem?_append_left h2.2), hm.2.keep (List.getElem?_append_left h3.2)⟩
    · simp only [Tr.locs, locs, List.nodup_cons, List.mem_cons, List.not_mem_nil, or_false, not_or, not_false_eq_true, List.nodup_nil, and_true]
      exact ⟨⟨by omega, by omega⟩, h1⟩
    · intro x hx
      simp only [Tr.locs, locs, List.mem_cons, List.not_mem_nil, or_false] at hx
      simp only [List.length_append, List.length_cons, List.length_nil]
      omega
    · intro x hx
      simp only [Tr.locs, locs, List.mem_cons, List.not_mem_nil, or_false] at hx
      exact .inr hx
  · obtain ⟨⟨w, hw, hσ⟩, hin⟩ := i1
    have hlt := get_lt hσ
    simp only [List.length_map] at hl
    have hb : (t.nodes.length + 1) * 80 ≤ 140737488355328 := by omega
    have hls : ({ loc := t.loc, gen := t.gen + 1, nodes := t.nodes ++ [m] } : Tr).locs = t.locs ++ [m.args.loc, m.kids.loc] := by
      simp [Tr.locs, locs_append, locs]
    refine ⟨.sl t.loc (t.gen + 1) 0 (t.nodes.length + 1) 6, σ.set t.loc (.cells (flat t.nodes ++ m.cs) (t.gen + 1) w), _, ?_, by simp, .inr ⟨⟨t.loc, t.gen + 1, t.nodes ++ [m]⟩, by simp [Tr.sl], rfl, ⟨⟨w, by simp only; omega, ?_⟩, ?_⟩, ?_, ?_, by simp⟩, ?_, fun i hi he => ?_⟩
    · simp [appendV, srcCells, hq, hσ, flat_length, hb]
    · rw [List.getElem?_set_self hlt, flat_append]
      simp [flat]
    · intro x hx
      have nl : ∀ y ∈ locs t.nodes, y ≠ t.loc := by
        intro y hy e
        rw [Tr.locs, List.nodup_cons] at i2
        exact i2.1 (e ▸ hy)
      rcases List.mem_append.1 hx with hx | hx
      · exact nodes_keep hin (fun y hy => List.getElem?_set_ne (Ne.symm (nl y hy))) x hx
      · simp only [List.mem_singleton] at hx
        subst hx
        refine ⟨hm.1.keep (List.getElem?_set_ne fun e => d1 (by rw [← e]; simp [Tr.locs])), hm.2.keep (List.getElem?_set_ne fun e => d2 (by rw [← e]; simp [Tr.locs]))⟩
    · rw [hls]
      refine List.nodup_append.2 ⟨i2, by simp [h1], ?_⟩
      intro a ha b hb e
      simp only [List.mem_cons, List.not_mem_nil, or_false] at hb
      rcases hb with rfl | rfl
      · exact d1 (e ▸ ha)
      · exact d2 (e ▸ ha)
    · rw [hls]
      intro x hx
      simp only [List.length_set]
      rcases List.mem_append.1 hx with hx | hx
      · exact i3 _ hx
      · simp only [List.mem_cons, List.not_mem_nil, or_false] at hx
        rcases hx with rfl | rfl
        · exact h2
        · exact h3
    · rw [hls]
      intro x hx
      rcases List.mem_append.1 hx with hx | hx
      · exact .inl hx
      · simp only [List.mem_cons, List.not_mem_nil, or_false] at hx
        exact .inr (.inr hx)
    · rw [List.getElem?_set_ne (fun e => he (by rw [← e]; simp [Tr.locs]))]

/-- How a store stands behind nodes were put: 'c' the cells of who puts, by the slice. -/
def Post (c : V → List V) (p lo : Nat) (σ : Store) (ls : List Nat) (l' : List N) (σ' : Store) : Prop :=
  0 < l'.length ∧ l'.length ≤ 60 ∧ ∃ v' ls', σ'[p]? = some (.cells (c v') 0 0) ∧ Acc σ' v' l' lo ls' ∧ σ.length ≤ σ'.length ∧ (∀ i, i < σ.length → i ≠ p → i ∉ ls → σ'[i]? = σ[i]?) ∧ ∀ x ∈ ls', x ∈ ls ∨ σ.length ≤ x
abbrev cS (v : V) : List V := [v]
def Fr (p : Nat) (σ : Store) (ls : List Nat) (σ' : Store) : Prop := σ.length ≤ σ'.length ∧ ∀ i, i < σ.length → i ≠ p → i ∉ ls → σ'[i]? = σ[i]?
def Res (c : V → List V) (p lo : Nat) (σ : Store) (ls : List Nat) (r : Option (List N)) (b : Bool) (σ' : Store) : Prop := match r with
  | none => b = false ∧ Fr p σ ls σ'
  | some l' => b = true ∧ Post c p lo σ ls l' σ'
/-- what a call of l20Put gives -/
def PutOk (p lo : Nat) (tt : T) (at_ swap : Int) (oth : T) (r : List N → Option (List N)) : Prop :=
  ∀ (σ : Store) (v : V) (l : List N) (ls : List Nat), p ∉ ls → lo ≤ σ.length → l.length ≤ 60 → σ[p]? = some (.cells [v] 0 0) → Acc σ v l lo ls →
    ∃ b σ', LD S 26 [.ptr p 0 0 1, .t tt, .t (I at_), .t (I swap), .t oth] σ = some (.t (B b), σ') ∧ Res cS p lo σ ls (r l) b σ'
def N.fit (n : N) : Prop := n.args.length ≤ 1048576 ∧ n.kids.length ≤ 1048576
theorem N.fit.ok {n : N} (h : n.fit) : n.ok := ⟨by have := h.1; omega, by have := h.2; omega⟩
