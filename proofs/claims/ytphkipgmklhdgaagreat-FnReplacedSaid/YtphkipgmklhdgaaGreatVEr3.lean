/- A part of the proof. No statement of the claim is in it. -/
import Derived.Test.YtphkipgmklhdgaaGreatVEr2
open Go Go.V Go.Proofs
namespace X
set_option maxRecDepth 100000
set_option maxHeartbeats 4000000
set_option linter.unusedSimpArgs false
set_option linter.unusedVariables false
attribute [-simp] lenV idxV getElem?_pos
/-! ### The chart, as numbers and as it lies -/
/-- A goal. -/
structure Gl where
 rule : Nat
 args : List Nat
 from_ : Nat
 ends : List Nat
 ranks : List Nat
 deriving Inhabited
structure Rs where
 goals : List Gl
 rank : Nat
 fresh : Bool
 full : Bool
abbrev V3 := V × V × V
def gcells : List Gl → List V3 → List V
 | g :: gs, p :: vs => [.t (I g.rule), p.1, .t (I g.from_), p.2.1, p.2.2] ++ gcells gs vs
 | _, _ => []
theorem gcells_len : ∀ (gs : List Gl) (vs : List V3), vs.length = gs.length → (gcells gs vs).length = gs.length * 5
 | [], [], _ => rfl
 | g :: gs, p :: vs, h => by
  simp only [List.length_cons, Nat.add_right_cancel_iff] at h
  simp only [gcells, List.length_append, List.length_cons, List.length_nil, gcells_len gs vs h]
  omega
theorem gcells_app : ∀ (gs : List Gl) (vs : List V3) (gs2 : List Gl) (vs2 : List V3), vs.length = gs.length → gcells (gs ++ gs2) (vs ++ vs2) = gcells gs vs ++ gcells gs2 vs2
 | [], [], _, _, _ => rfl
 | g :: gs, p :: vs, gs2, vs2, h => by
  simp only [List.length_cons, Nat.add_right_cancel_iff] at h
  simp only [gcells, List.cons_append, gcells_app gs vs gs2 vs2 h, List.append_assoc, List.nil_append]
theorem gcells_get : ∀ {gs : List Gl} {vs : List V3} {i : Nat} {g : Gl} {p : V3}, gs[i]? = some g → vs[i]? = some p → (gcells gs vs)[i * 5]? = some (.t (I g.rule)) ∧ (gcells gs vs)[i * 5 + 1]? = some p.1 ∧ (gcells gs vs)[i * 5 + 2]? = some (.t (I g.from_)) ∧ (gcells gs vs)[i * 5 + 3]? = some p.2.1 ∧ (gcells gs vs)[i * 5 + 4]? = some p.2.2
 | g :: gs, p :: vs, 0, g', p', h1, h2 => by
  simp only [List.getElem?_cons_zero, Option.some.injEq] at h1 h2
  subst h1 h2
  exact ⟨rfl, rfl, rfl, rfl, rfl⟩
 | g :: gs, p :: vs, i + 1, g', p', h1, h2 => by
  simp only [List.getElem?_cons_succ] at h1 h2
  obtain ⟨e1, e2, e3, e4, e5⟩ := gcells_get (gs := gs) (vs := vs) (i := i) h1 h2
  have a (k : Nat) : (i + 1) * 5 + k = (i * 5 + k) + 5 := by omega
  have a3 : (i + 1) * 5 = i * 5 + 5 := by omega
  rw [a, a, a, a, a3]
  refine ⟨?_, ?_, ?_, ?_, ?_⟩
  ·simpa [gcells] using e1
  ·simpa [gcells] using e2
  ·simpa [gcells] using e3
  ·simpa [gcells] using e4
  ·simpa [gcells] using e5
 | [], _, _, _, _, h1, _ => by simp at h1
 | _ :: _, [], _, _, _, _, h2 => by simp at h2
theorem gcells_set : ∀ {gs : List Gl} {vs : List V3} {i : Nat} {g g' : Gl} {p q : V3}, gs[i]? = some g → vs[i]? = some p → g'.rule = g.rule → q.1 = p.1 → g'.from_ = g.from_ → gcells (gs.set i g') (vs.set i q) = ((gcells gs vs).set (i * 5 + 3) q.2.1).set (i * 5 + 4) q.2.2
 | g :: gs, p :: vs, 0, _, g', _, q, h1, h2, e1, e2, e3 => by
  simp only [List.getElem?_cons_zero, Option.some.injEq] at h1 h2
  subst h1 h2
  simp only [List.set_cons_zero, gcells, e1, e2, e3]
  rfl
 | g :: gs, p :: vs, i + 1, g0, g', p0, q, h1, h2, e1, e2, e3 => by
  simp only [List.getElem?_cons_succ] at h1 h2
  have a (k : Nat) : (i + 1) * 5 + k = (i * 5 + k) + 1 + 1 + 1 + 1 + 1 := by omega
  rw [a, a]
  simp only [List.set_cons_succ, gcells, gcells_set h1 h2 e1 e2 e3, List.cons_append, List.nil_append]
 | [], _, _, _, _, _, _, h1, _, _, _, _ => by simp at h1
 | _ :: _, [], _, _, _, _, _, _, h2, _, _, _ => by simp at h2
def locV : V → List Nat
 | .sl d _ _ _ _ => [d]
 | _ => []
def locsP (vs : List V3) : List Nat := vs.flatMap fun p => locV p.1 ++ (locV p.2.1 ++ locV p.2.2)
/-- the goals' args, ends and ranks lie where they say -/
def RdP (σ : Store) (gs : List Gl) (vs : List V3) : Prop := vs.length = gs.length ∧ ∀ (i : Nat) (g : Gl) (p : V3), gs[i]? = some g → vs[i]? = some p → Rd σ p.1 g.args ∧ Rd σ p.2.1 g.ends ∧ Rd σ p.2.2 g.ranks
def rnObj (rules : T) (text : List Nat) (gv : V) (s : Rs) : V.Obj := .cells [.t rules, .t (.str text), gv, .t (I s.rank), .t (B s.fresh), .t (B s.full)] 0 0
def OkG (gs : List Gl) : Prop := ∀ g ∈ gs, g.args.length ≤ 1048576
structure Rep (rules : T) (text : List Nat) (r gl : Nat) (σ : Store) (vs : List V3) (s : Rs) : Prop where
 run : ∃ gg gw, gw ≤ gg ∧ σ[r]? = some (rnObj rules text (.sl gl gg 0 s.goals.length 5) s) ∧ σ[gl]? = some (.cells (gcells s.goals vs) gg gw)
 rd : RdP σ s.goals vs
 ne : r ≠ gl
 apart : ∀ j ∈ locsP vs, j ≠ r ∧ j ≠ gl
 args : OkG s.goals

/-- What is not among some places is as it was. -/
def Fr (own : List Nat) (σ σ' : Store) : Prop := σ.length ≤ σ'.length ∧ ∀ i, i < σ.length → i ∉ own → σ'[i]? = σ[i]?
theorem Fr.refl (own : List Nat) (σ : Store) : Fr own σ σ := ⟨Nat.le_refl _, fun _ _ _ => rfl⟩
theorem Fr.trans {own own2 : List Nat} {σ σ1 σ2 : Store} (h1 : Fr own σ σ1) (h2 : Fr own2 σ1 σ2) (ho : ∀ i ∈ own2, i ∈ own ∨ σ.length ≤ i) : Fr own σ σ2 := by
 refine ⟨Nat.le_trans h1.1 h2.1, fun i hi hn => ?_⟩
 rw [h2.2 i (by have := h1.1; omega) (fun hm => (ho i hm).elim hn (fun h => by omega)), h1.2 i hi hn]
theorem Fr.app (own : List Nat) (σ l : Store) : Fr own σ (σ ++ l) := ⟨by simp, fun i hi _ => List.getElem?_append_left hi⟩
theorem Rd.keep {σ σ' : Store} {v : V} {l : List Nat} (h : Rd σ v l) (hk : ∀ i ∈ locV v, σ'[i]? = σ[i]?) : Rd σ' v l := by
 rcases h with h | h | ⟨d, g, w, rfl, h1, h2⟩
 ·exact .inl h
 ·exact .inr (.inl h)
 ·exact .inr (.inr ⟨d, g, w, rfl, by rw [hk d (by simp [locV])]; exact h1, h2⟩)
theorem Rd.locs {σ : Store} {v : V} {l : List Nat} (h : Rd σ v l) : ∀ i ∈ locV v, i < σ.length := by
 rcases h with ⟨rfl, _⟩ | rfl | ⟨d, g, w, rfl, h1, h2⟩
 ·intro i hi; simp [locV] at hi
 ·intro i hi; simp [locV] at hi
 ·intro i hi
  simp only [locV, List.mem_singleton] at hi
  subst hi
  exact lt_of_get h1
theorem mem_locsP {vs : List V3} {i : Nat} {p : V3} (h : vs[i]? = some p) : ∀ j, j ∈ locV p.1 ∨ j ∈ locV p.2.1 ∨ j ∈ locV p.2.2 → j ∈ locsP vs := by
 have hm := List.mem_of_getElem? h
 intro j hj
 refine List.mem_flatMap.2 ⟨p, hm, ?_⟩
 simp only [List.mem_append]
 exact hj
theorem RdP.locs {σ : Store} {gs : List Gl} {vs : List V3} (h : RdP σ gs vs) : ∀ j ∈ locsP vs, j < σ.length := by
 intro j hj
 obtain ⟨p, hp, hj⟩ := List.mem_flatMap.1 hj
 obtain ⟨i, hi⟩ := List.getElem?_of_mem hp
 obtain ⟨g, hg⟩ := get_of_lt (show i < gs.length by rw [← h.1]; exact lt_of_get hi)
 obtain ⟨h1, h2, h3⟩ := h.2 i g p hg hi
 simp only [List.mem_append] at hj
 rcases hj with hj | hj | hj
 ·exact h1.locs j hj
 ·exact h2.locs j hj
 ·exact h3.locs j hj
theorem RdP.keep {σ σ' : Store} {gs : List Gl} {vs : List V3} (h : RdP σ gs vs) (hk : ∀ j ∈ locsP vs, σ'[j]? = σ[j]?) : RdP σ' gs vs :=
 ⟨h.1, fun i g p hg hp => ⟨(h.2 i g p hg hp).1.keep fun j hj => hk j (mem_locsP hp j (.inl hj)), (h.2 i g p hg hp).2.1.keep fun j hj => hk j (mem_locsP hp j (.inr (.inl hj))), (h.2 i g p hg hp).2.2.keep fun j hj => hk j (mem_locsP hp j (.inr (.inr hj)))⟩⟩
theorem Rep.lt {rules : T} {text : List Nat} {r gl : Nat} {σ : Store} {vs : List V3} {s : Rs} (R : Rep rules text r gl σ vs s) : r < σ.length ∧ gl < σ.length := by
 obtain ⟨gg, gw, _, h1, h2⟩ := R.run
 exact ⟨lt_of_get h1, lt_of_get h2⟩
/-- all else as it was: it lies as it lay -/
theorem Rep.fr {rules : T} {text : List Nat} {r gl : Nat} {σ σ' : Store} {vs : List V3} {s : Rs} (R : Rep rules text r gl σ vs s) (hf : ∀ i, i < σ.length → σ'[i]? = σ[i]?) : Rep rules text r gl σ' vs s := by
 obtain ⟨gg, gw, h0, h1, h2⟩ := R.run
 exact ⟨⟨gg, gw, h0, by rw [hf r (lt_of_get h1)]; exact h1, by rw [hf gl (lt_of_get h2)]; exact h2⟩, R.rd.keep fun j hj => hf j (R.rd.locs j hj), R.ne, R.apart, R.args⟩

theorem Rep.fr1 {rules : T} {text : List Nat} {r gl d : Nat} {σ σ' : Store} {vs : List V3} {s : Rs} (R : Rep rules text r gl σ vs s) (hf : ∀ i, i < σ.length → i ≠ d → σ'[i]? = σ[i]?) (h1 : r ≠ d) (h2 : gl ≠ d) (h3 : d ∉ locsP vs) : Rep rules text r gl σ' vs s := by
 obtain ⟨gg, gw, h0, h4, h5⟩ := R.run
 exact ⟨⟨gg, gw, h0, by rw [hf r (lt_of_get h4) h1]; exact h4, by rw [hf gl (lt_of_get h5) h2]; exact h5⟩, R.rd.keep fun j hj => hf j (R.rd.locs j hj) (fun e => h3 (e ▸ hj)), R.ne, R.apart, R.args⟩

/-! ### The chart, frozen -/
def rowT (g : Gl) (x e k : T) : T := .agg [I g.rule, x, I g.from_, e, k]
/-- The rows of a chart, as trees. -/
def GRows (gs : List Gl) (rows : List T) : Prop := rows.length = gs.length ∧ ∀ (i : Nat) (g : Gl), gs[i]? = some g → ∃ x e k, rows[i]? = some (rowT g x e k) ∧ Is x g.args ∧ Is e g.ends ∧ Is k g.ranks
theorem frz_gcells (n : Nat) {σ : Store} : ∀ (gs : List Gl) (vs : List V3), RdP σ gs vs → ∃ ts, frzs (frz (n + 2) σ) (gcells gs vs) = some ts ∧ GRows gs (chunk 5 gs.length ts)
 | [], [], _ => ⟨[], rfl, rfl, fun i g h => by simp at h⟩
 | g :: gs, [], h => by have := h.1; simp at this
 | [], p :: vs, h => by have := h.1; simp at this
 | g :: gs, p :: vs, h => by
  obtain ⟨e0, e1, e2⟩ := h.2 0 g p rfl rfl
  obtain ⟨a, ha, ia⟩ := frz_rd n e0
  obtain ⟨x, hx, ix⟩ := frz_rd n e1
  obtain ⟨y, hy, iy⟩ := frz_rd n e2
  have h' : RdP σ gs vs := ⟨by have := h.1; simpa using this, fun i g p hg hp => h.2 (i + 1) g p (by simpa using hg) (by simpa using hp)⟩
  obtain ⟨ts, h1, h2, h3⟩ := frz_gcells n gs vs h'
  refine ⟨I g.rule :: a :: I g.from_ :: x :: y :: ts, ?_, ?_, ?_⟩
  ·have t1 : ∀ z : T, frz (n + 2) σ (.t z) = some z := fun z => rfl
   simp only [gcells, List.cons_append, List.nil_append, frzs, t1, ha, hx, hy, h1]
  ·simp only [List.length_cons, chunk, List.take_succ_cons, List.take_zero, List.drop_succ_cons, List.drop_zero, h2]
  ·intro i g' hg'
   simp only [List.length_cons, chunk, List.take_succ_cons, List.take_zero, List.drop_succ_cons, List.drop_zero]
   cases i with
   | zero =>
    simp only [List.getElem?_cons_zero, Option.some.injEq] at hg'
    subst hg'
    exact ⟨a, x, y, rfl, ia, ix, iy⟩
   | succ i =>
    simp only [List.getElem?_cons_succ] at hg' ⊢
    exact h3 i g' hg'
theorem frz_chart {σ : Store} {gl : Nat} {vs : List V3} {gs : List Gl} {gg gw : Nat} (hR : RdP σ gs vs) (h : σ[gl]? = some (.cells (gcells gs vs) gg gw)) (hw : gw ≤ gg) :
  ∃ rows, frz 40 σ (.sl gl gg 0 gs.length 5) = some (.list rows) ∧ GRows gs rows := by
 obtain ⟨ts, h1, h2⟩ := frz_gcells 37 gs vs hR
 have hl := gcells_len gs vs hR.1
 refine ⟨_, frz_sl (d := 39) h hw (Nat.le_refl _) (by omega) (by omega) (ts := ts) ?_, h2⟩
 rw [List.drop_zero, List.take_of_length_le (by omega)]
 exact h1
end X
