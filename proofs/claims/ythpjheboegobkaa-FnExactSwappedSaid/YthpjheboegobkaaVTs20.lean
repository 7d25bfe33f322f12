/- A part of the proof. No statement of the claim is in it. -/
import Derived.Test.YthpjheboegobkaaVTs19
open Go Go.V Go.Proofs
namespace X
set_option maxRecDepth 100000
set_option maxHeartbeats 4000000
set_option linter.unusedSimpArgs false
set_option linter.unusedVariables false
attribute [-simp] lenV idxV setRange
def Grow (σ σ' : Store) : Prop := σ.length ≤ σ'.length ∧ same 0 σ.length σ σ'
theorem Grow.app (σ r : Store) : Grow σ (σ ++ r) := ⟨by simp, fun i _ hi => List.getElem?_append_left hi⟩
theorem Grow.get {σ σ' : Store} (h : Grow σ σ') {i : Nat} {x : Go.V.Obj} (hx : σ[i]? = some x) : σ'[i]? = some x := (h.2 i (Nat.zero_le _) (get_lt hx)).trans hx
theorem Grow.trans {a b c : Store} (h1 : Grow a b) (h2 : Grow b c) : Grow a c := ⟨Nat.le_trans h1.1 h2.1, fun i h0 hi => (h2.2 i h0 (Nat.lt_of_lt_of_le hi h1.1)).trans (h1.2 i h0 hi)⟩
theorem Grow.ts {σ σ' : Store} (h : Grow σ σ') {v : V} {l : List N} {lo hi : Nat} (t : TS σ v l lo hi) (hh : hi ≤ σ.length) : TS σ' v l lo hi := t.keep fun i _ h2 => h.2 i (Nat.zero_le _) (Nat.lt_of_lt_of_le h2 hh)
/-- A box that holds a tree, whose parts lie between 'a' and it. -/
def Bx (σ : Store) (a p : Nat) (v : V) (l : List N) : Prop := σ[p]? = some (.cells [v] 0 0) ∧ TS σ v l a p
theorem Bx.grow {σ σ' : Store} {a p : Nat} {v : V} {l : List N} (h : Bx σ a p v l) (g : Grow σ σ') : Bx σ' a p v l := ⟨g.get h.1, g.ts h.2 (Nat.le_of_lt (get_lt h.1))⟩
theorem Bx.new {σ : Store} {a : Nat} {v : V} {l : List N} (h : TS σ v l a σ.length) : Bx (σ ++ [.cells [v] 0 0]) a σ.length v l := ⟨by rw [getA]; rfl, (Grow.app σ _).ts h (Nat.le_refl _)⟩
/-- What stands outside is as it was. -/
def Out8 (lo hi : Nat) (σ σ' : Store) : Prop := σ.length ≤ σ'.length ∧ ∀ i, i < σ.length → ¬ (lo ≤ i ∧ i < hi) → σ'[i]? = σ[i]?
theorem Bx.far {σ σ' : Store} {a p lo hi : Nat} {v : V} {l : List N} (h : Bx σ a p v l) (g : Out8 lo hi σ σ') (hd : p < lo ∨ hi ≤ a) (hap : a ≤ p) : Bx σ' a p v l := by
  have hp := get_lt h.1
  refine ⟨(g.2 p hp (by omega)).trans h.1, h.2.keep fun i h1 h2 => g.2 i (by omega) (by omega)⟩
theorem Bx.self {σ σ' : Store} {a p : Nat} {v : V} {l l' : List N} (h : Bx σ a p v l) (g : Out8 a p σ σ') (t : TS σ' v l' a p) : Bx σ' a p v l' :=
  ⟨(g.2 p (get_lt h.1) (by omega)).trans h.1, t⟩
theorem Out8.get {lo hi i : Nat} {σ σ' : Store} {x : Go.V.Obj} (g : Out8 lo hi σ σ') (h : σ[i]? = some x) (hd : i < lo ∨ hi ≤ i) : σ'[i]? = some x := (g.2 i (get_lt h) (by omega)).trans h

/-! ### Calls, as the laws use them -/
theorem TS.frz_v {σ : Store} {t : Tr} {l : List N} {lo hi : Nat} (h : TS σ t.sl l lo hi) : Go.V.frz 40 σ t.sl = some (Ls l) := by
  rcases h with ⟨h1, _⟩ | ⟨t', h1, h2, h3, h4, rfl⟩
  · cases h1
  · have : Go.V.frz (37 + 3) σ t'.sl = some (Ls (t'.nodes.map Nd.n)) := h2.frz 37
    rw [h1]; exact this
theorem eq_sl {σ : Store} {a b : Tr} {l : List N} {lo hi lo' hi' : Nat} (ha : TS σ a.sl l lo hi) (hb : TS σ b.sl l lo' hi') (h1 : hi ≤ σ.length) (h2 : hi' ≤ σ.length) (hl : l.length ≤ 1048576) (hn : ∀ n ∈ l, n.fit) :
    ∃ σ', LD S 15 [.agg [a.sl], .agg [b.sl]] σ = some (.t (B true), σ') ∧ Grow σ σ' := by
  refine ⟨σ ++ [.cells [a.sl] 0 0, .cells [b.sl] 0 0], ?_, Grow.app _ _⟩
  rw [LD_inl (A := A15) rfl rfl rfl]
  refine LV_body (A := A15) rfl Try.func15 rfl ?_
  have key : LD S 30 [a.sl, b.sl] (σ ++ [.cells [a.sl] 0 0, .cells [b.sl] 0 0]) = some (.t (B true), σ ++ [.cells [a.sl] 0 0, .cells [b.sl] 0 0]) := by
    have g := Grow.app σ [.cells [a.sl] 0 0, .cells [b.sl] 0 0]
    refine LD_borrow (A := A30) rfl rfl (ts := [Ls l, Ls l]) (by simp only [frzs, (g.ts ha h1).frz_v, (g.ts hb h2).frz_v]) (eqTreeNodeS_lv l (by omega) (fun n h => (hn n h).ok)) rfl
  repeat apply W_seq
  refine W_region (by simp; first | exact ⟨rfl, rfl⟩ | exact rfl) ?_
  try simp only [thenQ, blockQ, Ann.kill, List.find?_nil]
  repeat apply W_seq
  refine W_region (by simp [getA, getB, key]; first | exact ⟨rfl, rfl⟩ | exact rfl) ?_
  try simp only [thenQ, blockQ, Ann.kill, List.find?_nil]
  repeat apply W_seq
  refine W_cond (t := false) (by simp) ?_
  simp only [if_true, if_false, Bool.false_eq_true]
  refine W_skip ?_
  try simp only [thenQ, blockQ, Ann.kill, List.find?_nil]
  repeat apply W_seq
  refine W_region (by simp; first | exact ⟨rfl, rfl⟩ | exact rfl) ?_
  try simp only [thenQ, blockQ, Ann.kill, List.find?_nil]
  refine W_ret ?_
  try simp only [thenQ, blockQ]
  simp [Try.f15]
theorem eq_nil (σ : Store) : ∃ σ', LD S 15 [.t (.agg [.nils]), .t (.agg [.nils])] σ = some (.t (B true), σ') ∧ Grow σ σ' := by
  refine ⟨σ ++ [.cells [.t .nils] 0 0, .cells [.t .nils] 0 0], ?_, Grow.app _ _⟩
  rw [LD_inl (A := A15) rfl rfl rfl]
  refine LV_body (A := A15) rfl Try.func15 rfl ?_
  repeat apply W_seq
  refine W_region (by simp; first | exact ⟨rfl, rfl⟩ | exact rfl) ?_
  try simp only [thenQ, blockQ, Ann.kill, List.find?_nil]
  repeat apply W_seq
  refine W_region (by simp [getA, getB, eqNils_ld]; first | exact ⟨rfl, rfl⟩ | exact rfl) ?_
  try simp only [thenQ, blockQ, Ann.kill, List.find?_nil]
  repeat apply W_seq
  refine W_cond (t := false) (by simp) ?_
  simp only [if_true, if_false, Bool.false_eq_true]
  refine W_skip ?_
  try simp only [thenQ, blockQ, Ann.kill, List.find?_nil]
  repeat apply W_seq
  refine W_region (by simp; first | exact ⟨rfl, rfl⟩ | exact rfl) ?_
  try simp only [thenQ, blockQ, Ann.kill, List.find?_nil]
  refine W_ret ?_
  try simp only [thenQ, blockQ]
  simp [Try.f15]

theorem to_sl {x : T} {l : List LN} (h : IsL x LN.enc l) (hok : ∀ m ∈ l, m.ok) (hn : ∀ n ∈ LNs l, n.fit) (hl : l.length ≤ 1048576) (σ : Store) :
    ∃ (t : Tr) (σ' : Store), LD S 13 [.t (.agg [x])] σ = some (.agg [t.sl], σ') ∧ TS σ' t.sl (LNs l) σ.length σ'.length ∧ Grow σ σ' := by
  have hf : ∀ m ∈ l, m.fit := fun m hm => by
    have := hn m.n (List.mem_map.2 ⟨m, hm, rfl⟩)
    exact ⟨hok m hm, by have := this.1; omega, by have := this.2; omega⟩
  obtain ⟨t, σ', h1, h2, h3, h4⟩ := toTree_ld h hf (by omega) σ
  exact ⟨t, σ', h1, h2, h3, h4⟩
theorem mark_sl {σ : Store} {t : Tr} {l : List N} {a p : Nat} (h : TS σ t.sl l a p) (hp : p ≤ σ.length) (hl : l.length ≤ 1048576) (hn : ∀ n ∈ l, n.fit) :
    ∃ σ', LD S 16 [.agg [t.sl], .t (I 1)] σ = some (.t (I (endL 1 l)), σ') ∧ TS σ' t.sl (mkL 1 l) a p ∧ Out8 a p σ σ' := by
  have hb := endL_bound l 1 hn
  obtain ⟨σ', h1, h2, h3, h4⟩ := markTree_ld h hp 1 (by omega) (fun n h => (hn n h).ok) (by omega) (by omega)
  exact ⟨σ', h1, h2, h3, h4⟩
theorem held_sl {σ : Store} {t : Tr} {l : List N} {a p : Nat} (h : TS σ t.sl (mkL 1 l) a p) (hl : l.length ≤ 1048576) (hn : ∀ n ∈ l, n.fit) :
    LD S 17 [.agg [t.sl], .t (I 1)] σ = some (.t (I (endL 1 l)), σ) := by
  have hb := endL_bound l 1 hn
  exact heldTree_ld 1 l (.inl rfl) h.frz_sl (by omega) (fun n h => (hn n h).ok) (by omega) (by omega)
theorem sub_spec {σ : Store} {t : Tr} {l : List N} {a p : Nat} (h : TS σ t.sl l a p) (hl : l.length ≤ 1048576) (hn : ∀ n ∈ l, n.fit) (at_ : Int) :
    ∃ v σ', LD S 12 [.agg [t.sl], .t (I at_)] σ = some (v, σ') ∧ OutF σ σ' v (sub l at_) :=
  fresh_of (A := A12) rfl rfl rfl (ts := [encT l, I at_]) (by simp only [frzs, h.frz_sl, frz_t]) (specSub_lv l at_ hl hn) (fun _ e => (sub_fit hn e).2)
theorem sub_impl {σ : Store} {t : Tr} {l : List N} {a p : Nat} (h : TS σ t.sl l a p) (hl : l.length ≤ 1048576) (hn : ∀ n ∈ l, n.fit) (at_ : Int) :
    ∃ v σ', LD S 14 [.agg [t.sl], .t (I at_)] σ = some (v, σ') ∧ OutF σ σ' v (sub l at_) :=
  fresh_of (A := A14) rfl rfl rfl (ts := [encT l, I at_]) (by simp only [frzs, h.frz_sl, frz_t]) (implSub_lv l at_ hl hn) (fun _ e => (sub_fit hn e).2)
theorem swp_spec {σ : Store} {t u : Tr} {l m : List N} {a p b q : Nat} (h : TS σ t.sl l a p) (hu : TS σ u.sl m b q) (hl : l.length ≤ 1048576) (hn : ∀ n ∈ l, n.fit) (hm : m.length ≤ 1048576) (hmn : ∀ n ∈ m, n.fit) (at_ : Int) :
    ∃ v σ', LD S 18 [.agg [t.sl], .t (I at_), .agg [u.sl]] σ = some (v, σ') ∧ OutF σ σ' v (swp l at_ m) :=
  fresh_of (A := A18) rfl rfl rfl (ts := [encT l, I at_, encT m]) (by simp only [frzs, h.frz_sl, hu.frz_sl, frz_t]) (specSwp_lv l m at_ hl hn hm hmn) (fun _ e => (swp_fit hn hmn e).2)
theorem swp_impl {σ : Store} {t u : Tr} {l m : List N} {a p b q : Nat} (h : TS σ t.sl l a p) (hu : TS σ u.sl m b q) (hl : l.length ≤ 1048576) (hn : ∀ n ∈ l, n.fit) (hm : m.length ≤ 1048576) (hmn : ∀ n ∈ m, n.fit) (at_ : Int) :
    ∃ v σ', LD S 19 [.agg [t.sl], .t (I at_), .agg [u.sl]] σ = some (v, σ') ∧ OutF σ σ' v (swp l at_ m) :=
  fresh_of (A := A19) rfl rfl rfl (ts := [encT l, I at_, encT m]) (by simp only [frzs, h.frz_sl, hu.frz_sl, frz_t]) (implSwp_lv l m at_ hl hn hm hmn) (fun _ e => (swp_fit hn hmn e).2)
theorem mark_nil (σ : Store) : ∃ σ', LD S 16 [.t (.agg [.nils]), .t (I 1)] σ = some (.t (I 1), σ') ∧ Grow σ σ' := by
  obtain ⟨σ', h1, _, h3, h4⟩ := markTree_ld (σ := σ) (v := .t .nils) (l := []) (lo := 0) (hi := 0) (.inl ⟨rfl, rfl⟩) (Nat.zero_le _) 1 (by simp) (by simp) (by omega) (by simp [endL])
  exact ⟨σ', h1, h3, fun i _ hi => h4 i hi (by omega)⟩
theorem held_nil (σ : Store) : LD S 17 [.t (.agg [.nils]), .t (I 1)] σ = some (.t (I 1), σ) :=
  heldTree_ld (σ := σ) (x := .nils) 1 [] (.inr ⟨rfl, rfl⟩) rfl (by simp) (by simp) (by omega) (by simp [endL])
