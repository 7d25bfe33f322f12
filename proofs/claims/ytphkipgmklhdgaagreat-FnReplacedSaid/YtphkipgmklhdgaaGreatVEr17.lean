/- A part of the proof. No statement of the claim is in it. -/
import Derived.Test.YtphkipgmklhdgaaGreatVEr16
open Go Go.V Go.Proofs
namespace X
set_option maxRecDepth 100000
set_option maxHeartbeats 4000000
set_option linter.unusedSimpArgs false
set_option linter.unusedVariables false
/-! ### Ends ascend -/
def Asc1 (lo hi : Nat) : List Nat → Prop
 | [] => True
 | x :: r => lo ≤ x ∧ x ≤ hi ∧ Asc1 (x + 1) hi r
theorem Asc1.len {hi : Nat} : ∀ {l : List Nat} {lo : Nat}, Asc1 lo hi l → l.length ≤ hi + 1 - lo
 | [], lo, h => by simp
 | x :: r, lo, h => by
  obtain ⟨h1, h2, h3⟩ := h
  have := Asc1.len h3
  simp only [List.length_cons]
  omega
theorem Asc1.mem {hi : Nat} : ∀ {l : List Nat} {lo : Nat}, Asc1 lo hi l → ∀ e ∈ l, lo ≤ e ∧ e ≤ hi
 | [], lo, h, e, he => by cases he
 | x :: r, lo, h, e, he => by
  obtain ⟨h1, h2, h3⟩ := h
  rcases List.mem_cons.1 he with rfl | he
  ·exact ⟨h1, h2⟩
  ·have := Asc1.mem h3 e he
   omega
theorem Asc1.hi {hi e : Nat} : ∀ {l q : List Nat} {lo : Nat}, Asc1 lo hi l → e < lo → q.length = l.length → lowE e l q = ([], []) ∧ hiE e l q = (l, q)
 | [], [], lo, h, he, hq => ⟨rfl, rfl⟩
 | x :: r, k :: q, lo, h, he, hq => by
  obtain ⟨h1, h2, h3⟩ := h
  obtain ⟨e1, e2⟩ := Asc1.hi (q := q) h3 (e := e) (by omega) (by simpa using hq)
  simp only [lowE, hiE, e1, e2]
  rw [if_neg (by omega), if_pos (by omega)]
  exact ⟨rfl, rfl⟩
 | [], k :: q, lo, h, he, hq => by simp at hq
 | x :: r, [], lo, h, he, hq => by simp at hq
theorem Asc1.ins {hi e k0 : Nat} : ∀ {l q : List Nat} {lo : Nat}, Asc1 lo hi l → q.length = l.length → e ∉ l → lo ≤ e → e ≤ hi →
  Asc1 lo hi ((lowE e l q).1 ++ [e] ++ (hiE e l q).1) ∧ ((lowE e l q).1 ++ [e] ++ (hiE e l q).1).length = l.length + 1 ∧ ((lowE e l q).2 ++ [k0] ++ (hiE e l q).2).length = l.length + 1 ∧ ∀ x ∈ (lowE e l q).1 ++ [e] ++ (hiE e l q).1, x ∈ l ∨ x = e
 | [], [], lo, h, hq, hn, h1, h2 => by simp [lowE, hiE, Asc1, h1, h2]
 | x :: r, k :: q, lo, h, hq, hn, h1, h2 => by
  obtain ⟨a1, a2, a3⟩ := h
  have hq' : q.length = r.length := by simpa using hq
  have hne : x ≠ e := fun e' => hn (by simp [e'])
  by_cases c : x < e
  ·obtain ⟨i1, i2, i3, i4⟩ := Asc1.ins (k0 := k0) a3 hq' (fun hm => hn (List.mem_cons_of_mem _ hm)) (show x + 1 ≤ e by omega) h2
   simp only [lowE, hiE]
   rw [if_pos c, if_neg (by omega)]
   simp only [List.cons_append, Asc1, List.length_cons]
   refine ⟨⟨a1, a2, i1⟩, by omega, by omega, fun y hy => ?_⟩
   rcases List.mem_cons.1 hy with rfl | hy
   ·simp
   ·rcases i4 y hy with h | h
    ·exact .inl (List.mem_cons_of_mem _ h)
    ·exact .inr h
  ·obtain ⟨e1, e2⟩ := Asc1.hi (q := q) a3 (e := e) (by omega) hq'
   simp only [lowE, hiE]
   rw [if_neg c, if_pos (by omega), e1, e2]
   simp only [List.nil_append, List.cons_append, Asc1, List.length_cons, List.length_nil, List.length_append]
   refine ⟨⟨h1, h2, by omega, a2, a3⟩, by simp, by simp [hq'], fun y hy => ?_⟩
   simp only [List.mem_cons] at hy
   rcases hy with rfl | rfl | hy
   ·exact .inr rfl
   ·simp
   ·exact .inl (List.mem_cons_of_mem _ hy)
 | [], k :: q, lo, h, hq, _, _, _ => by simp at hq
 | x :: r, [], lo, h, hq, _, _, _ => by simp at hq

/-! ### The chart is right -/
def tot (gs : List Gl) : Nat := (gs.map fun g => g.ends.length).sum
theorem tot_set : ∀ {gs : List Gl} {i : Nat} {g g' : Gl}, gs[i]? = some g → tot (gs.set i g') + g.ends.length = tot gs + g'.ends.length
 | g0 :: gs, 0, g, g', h => by
  simp only [List.getElem?_cons_zero, Option.some.injEq] at h
  subst h
  simp only [tot, List.set_cons_zero, List.map_cons, List.sum_cons]
  omega
 | g0 :: gs, i + 1, g, g', h => by
  simp only [List.getElem?_cons_succ] at h
  have := tot_set (g' := g') h
  simp only [tot, List.set_cons_succ, List.map_cons, List.sum_cons] at this ⊢
  omega
 | [], i, g, g', h => by simp at h
theorem tot_app (gs : List Gl) (g : Gl) : tot (gs ++ [g]) = tot gs + g.ends.length := by simp [tot]
theorem tot_le : ∀ {gs : List Gl}, (∀ g ∈ gs, g.ends.length ≤ 13) → tot gs ≤ 13 * gs.length
 | [], h => by simp [tot]
 | g :: gs, h => by
  have h1 := h g (by simp)
  have h2 := tot_le fun g hg => h g (List.mem_cons_of_mem _ hg)
  simp only [tot, List.map_cons, List.sum_cons, List.length_cons] at h2 ⊢
  omega
structure GI (n R : Nat) (g : Gl) : Prop where
 rule : g.rule < R
 fr : g.from_ ≤ n
 asc : Asc1 g.from_ n g.ends
 rk : g.ranks.length = g.ends.length
 args : g.args.length ≤ 1000
theorem GI.len {n R : Nat} (hn : n ≤ 12) {g : Gl} (h : GI n R g) : g.ends.length ≤ 13 := by
 have := h.asc.len
 omega
structure RI (n R : Nat) (s : Rs) : Prop where
 len : s.goals.length ≤ 300
 gi : ∀ g ∈ s.goals, GI n R g
 rank : s.rank = tot s.goals
def mu (s : Rs) : Nat := s.goals.length + tot s.goals
theorem RI.mu {n R : Nat} (hn : n ≤ 12) {s : Rs} (h : RI n R s) : mu s ≤ 4200 ∧ s.rank ≤ 3900 := by
 have h1 := tot_le fun g hg => (h.gi g hg).len hn
 have h2 := h.len
 have h3 := h.rank
 unfold X.mu
 omega
/-- goals are kept, and what is new is told -/
structure Ext (s s' : Rs) : Prop where
 keep : ∀ (i : Nat) (g : Gl), s.goals[i]? = some g → s'.goals[i]? = some g
 len : s.goals.length ≤ s'.goals.length
 mu : mu s ≤ mu s'
 fresh : s'.fresh = true → s.fresh = true ∨ X.mu s < X.mu s'
theorem Ext.refl (s : Rs) : Ext s s := ⟨fun i g h => h, Nat.le_refl _, Nat.le_refl _, fun h => .inl h⟩
theorem Ext.trans {a b c : Rs} (h1 : Ext a b) (h2 : Ext b c) : Ext a c := by
 refine ⟨fun i g h => h2.keep i g (h1.keep i g h), Nat.le_trans h1.len h2.len, Nat.le_trans h1.mu h2.mu, fun h => ?_⟩
 have m1 := h1.mu
 have m2 := h2.mu
 rcases h2.fresh h with h | h
 ·rcases h1.fresh h with h | h
  ·exact .inl h
  ·exact .inr (by omega)
 ·exact .inr (by omega)
theorem gIx_get {ru : Nat} {al : List Nat} {fr : Nat} : ∀ {gs : List Gl} {k i : Nat}, gIx ru al fr gs k = .ofNat i → ∃ g, k ≤ i ∧ gs[i - k]? = some g ∧ isG g ru al fr = true
 | [], k, i, h => by simp only [gIx] at h; cases h
 | g :: gs, k, i, h => by
  simp only [gIx] at h
  split at h
  ·rename_i hg
   have : k = i := by
    have : (k : Int) = (i : Int) := h
    omega
   subst this
   exact ⟨g, Nat.le_refl _, by simp, hg⟩
  ·obtain ⟨g', h1, h2, h3⟩ := gIx_get h
   refine ⟨g', by omega, ?_, h3⟩
   have : i - k = (i - (k + 1)) + 1 := by omega
   rw [this, List.getElem?_cons_succ]
   exact h2
theorem goalS_tot {n R : Nat} {s : Rs} (h : RI n R s) {ru : Nat} (hru : ru < R) {al : List Nat} (hal : al.length ≤ 1000) {here : Nat} (hh : here ≤ n) :
  RI n R (goalS s ru al here).1 ∧ Ext s (goalS s ru al here).1 ∧ ∀ i, (goalS s ru al here).2 = .ofNat i → ∃ g, (goalS s ru al here).1.goals[i]? = some g ∧ g.from_ = here := by
 cases hix : gIx ru al here s.goals 0 with
 | ofNat i =>
  have e1 : goalS s ru al here = (s, (.ofNat i : Int)) := by simp only [goalS, hix]
  rw [e1]
  refine ⟨h, Ext.refl s, fun j hj => ?_⟩
  obtain ⟨g, _, h2, h3⟩ := gIx_get hix
  have hij : i = j := by
   have : (i : Int) = (j : Int) := hj
   omega
  subst hij
  refine ⟨g, by simpa using h2, ?_⟩
  simp only [isG, Bool.and_eq_true, beq_iff_eq] at h3
  exact h3.2.1
 | negSucc m =>
  by_cases c0 : 300 ≤ s.goals.length
  ·have e1 : goalS s ru al here = ({ s with full := true }, -1) := by simp only [goalS, hix, c0, if_true]
   rw [e1]
   exact ⟨⟨h.len, h.gi, h.rank⟩, ⟨fun i g h => h, Nat.le_refl _, Nat.le_refl _, fun h => .inl h⟩, fun j hj => by cases hj⟩
  ·have e1 : goalS s ru al here = ({ s with goals := s.goals ++ [⟨ru, al, here, [], []⟩], fresh := true }, ((s.goals.length : Nat) : Int)) := by simp only [goalS, hix, c0, if_false]
   rw [e1]
   refine ⟨⟨by simp; omega, fun g hg => ?_, ?_⟩, ⟨fun i g hg => ?_, by simp, ?_, fun _ => .inr ?_⟩, fun j hj => ?_⟩
   ·rcases List.mem_append.1 hg with hg | hg
    ·exact h.gi g hg
    ·simp only [List.mem_singleton] at hg
     subst hg
     exact ⟨hru, hh, trivial, rfl, hal⟩
   ·simp only [tot_app, List.length_nil, Nat.add_zero]; exact h.rank
   ·rw [List.getElem?_append_left (lt_of_get hg)]; exact hg
   ·simp only [mu, tot_app, List.length_append, List.length_cons, List.length_nil]; omega
   ·simp only [mu, tot_app, List.length_append, List.length_cons, List.length_nil]; omega
   ·have hij : s.goals.length = j := by
     have : ((s.goals.length : Nat) : Int) = (j : Int) := hj
     omega
    subst hij
    exact ⟨⟨ru, al, here, [], []⟩, by simp, rfl⟩
/-! ### Steps -/
def LP (VN : List Nat → Bool) (lo n : Nat) (l : List At) : Prop := ∀ a ∈ l, lo ≤ a.1 ∧ a.1 ≤ n ∧ GE VN a.2
theorem putS_len (l : List At) (x : At) : (putS l x).length ≤ l.length + 1 := by
 unfold putS
 split <;> simp
theorem LP.put {VN : List Nat → Bool} {lo n : Nat} {l : List At} (h : LP VN lo n l) {x : At} (h1 : lo ≤ x.1) (h2 : x.1 ≤ n) (h3 : GE VN x.2) : LP VN lo n (putS l x) := by
 intro a ha
 unfold putS at ha
 split at ha
 ·exact h a ha
 ·rcases List.mem_append.1 ha with ha | ha
  ·exact h a ha
  ·simp only [List.mem_singleton] at ha
   subst ha; exact ⟨h1, h2, h3⟩
theorem bsB_sub {text : List Nat} (h : bsB text = true) (e a : Nat) : bsB ((text.take e).drop a) = true := by
 refine List.all_eq_true.2 fun c hc => List.all_eq_true.1 h c (List.mem_of_mem_take (List.mem_of_mem_drop hc))
section
variable {SR : List Nat → Option (List Nat)} {MK : T → Option (List Bool)} {VN : List Nat → Bool} {RA : List Nat → Option Nat} {text : List Nat}
theorem endsS_tot (ht : bsB text = true) (hn : text.length ≤ 12) {lo : Nat} {a : At} (hlo : lo ≤ a.1) (ha : GE VN a.2) {bs : List Nat} (hb : (decide (bs = []) || VN bs) = true) : ∀ (l : List Nat) (nx : List At), (∀ e ∈ l, a.1 ≤ e ∧ e ≤ text.length) → LP VN lo text.length nx → nx.length + l.length ≤ 1000000000000 → ∃ nx', endsS (mkK SR MK VN RA text) text bs a l nx = some nx' ∧ LP VN lo text.length nx' ∧ nx'.length ≤ nx.length + l.length
 | [], nx, _, h, _ => ⟨nx, rfl, h, by simp⟩
 | e :: r, nx, he, h, hl => by
  have h1 := he e (by simp)
  simp only [List.length_cons] at hl
  obtain ⟨env, hb1, hb2⟩ := bindS_tot ha hb (bsB_sub ht e a.1) (by simp; omega)
  have hp := putS_len nx (e, env)
  obtain ⟨nx', q1, q2, q3⟩ := endsS_tot ht hn hlo ha hb r (putS nx (e, env)) (fun x hx => he x (List.mem_cons_of_mem _ hx)) (h.put (by simp only; omega) h1.2 hb2) (by omega)
  refine ⟨nx', ?_, q2, by simp only [List.length_cons]; omega⟩
  simp only [endsS]
  rw [if_pos ⟨h1.1, h1.2, by omega⟩]
  have : (mkK SR MK VN RA text).bind = bindS VN := rfl
  rw [this, hb1]
  exact q1
theorem plainS_tot (hn : text.length ≤ 12) {R kind : Nat} {tx bs : List Nat} {ax : T} (hs : symOk SR MK VN RA R (.agg [.int .i64 (.ofNat kind), .str tx, ax, .str bs]) = true) (hk : ¬ kind = 3) {env : Env} (he : GE VN env) {pos : Nat} (hp : pos ≤ text.length) : ∃ r, plainS SR MK text (.agg [.int .i64 (.ofNat kind), .str tx, ax, .str bs]) env pos = some r ∧ ∀ p, r = some p → pos ≤ p ∧ p ≤ text.length := by
 simp only [symOk] at hs
 rw [if_neg hk] at hs
 simp only [plainS]
 rw [if_neg (by omega)]
 by_cases k1 : kind = 1
 ·rw [if_pos k1] at hs ⊢
  rw [if_pos (by simpa using hs)]
  refine ⟨_, rfl, fun p h => ?_⟩
  split at h
  ·rename_i h1
   cases h
   omega
  ·cases h
 ·rw [if_neg k1] at hs ⊢
  by_cases k2 : kind = 2
  ·rw [if_pos k2] at hs ⊢
   split
   ·exact ⟨_, rfl, fun p h => by cases h⟩
   ·rename_i b hb
    have := lt_of_get hb
    obtain ⟨rows, hr⟩ := Option.isSome_iff_exists.1 hs
    rw [hr]
    refine ⟨_, rfl, fun p h => ?_⟩
    split at h
    ·cases h; omega
    ·cases h
  ·rw [if_neg k2] at hs ⊢
   split at hs
   ·rename_i c r hax
    rw [hax]
    obtain ⟨o, ho⟩ := evalS_tot hs he pos
    simp only [ho]
    cases o with
    | none => exact ⟨_, rfl, fun p h => by cases h⟩
    | some v =>
     refine ⟨_, rfl, fun p h => ?_⟩
     split at h
     ·cases h
     ·cases h; omega
   ·cases hs
theorem oneS_tot (ht : bsB text = true) (hn : text.length ≤ 12) {R : Nat} {y : T} (hs : symOk SR MK VN RA R y = true) {lo : Nat} {a : At} (hlo : lo ≤ a.1) (ha1 : a.1 ≤ text.length) (ha2 : GE VN a.2) {nx : List At} (hN : LP VN lo text.length nx) (hl : nx.length + 13 ≤ 1000000000000) {s : Rs} (hR : RI text.length R s) :
  ∃ o s', oneS (mkK SR MK VN RA text) text y a nx s = some (o, s') ∧ RI text.length R s' ∧ Ext s s' ∧ ∀ nx', o = some nx' → LP VN lo text.length nx' ∧ nx'.length ≤ nx.length + 13 := by
 have hs0 := hs
 unfold symOk at hs
 split at hs
 rotate_left
 ·cases hs
 rename_i kind tx ax bs
 simp only [oneS]
 by_cases k3 : kind = 3
 ·rw [if_pos k3] at hs ⊢
  simp only [Bool.and_eq_true] at hs
  obtain ⟨h1, h2, h3⟩ := hs
  split at h1
  rotate_left
  ·cases h1
  rename_i l hax
  simp only [Bool.and_eq_true, decide_eq_true_eq] at h1
  obtain ⟨h11, h12, h13⟩ := h1
  split at h2
  rotate_left
  ·cases h2
  rename_i ru hru
  have hruR : ru < R := by simpa using h2
  obtain ⟨o, ho, hol⟩ := argsL_tot ha2 a.1 l [] h13
  have hargs : (mkK SR MK VN RA text).args ax a.2 a.1 = some o := by
   show argsS MK ax a.2 a.1 = some o
   simp only [argsS, hax]
   rw [if_pos ⟨h11, h12⟩]
   exact ho
  simp only [callS, hargs]
  cases o with
  | none => exact ⟨_, _, rfl, hR, Ext.refl s, fun nx' h => by cases h; exact ⟨hN, by omega⟩⟩
  | some al =>
   have hal := hol al rfl
   simp only [List.length_nil, Nat.zero_add] at hal
   simp only
   rw [if_pos ⟨by omega, by have := hR.len; omega⟩]
   have hra : (mkK SR MK VN RA text).ruleAt tx = some ru := hru
   rw [hra]
   simp only
   obtain ⟨g1, g2, g3⟩ := goalS_tot hR hruR (al := al) (by omega) ha1
   split
   ·exact ⟨_, _, rfl, g1, g2, fun nx' h => by cases h⟩
   ·rename_i i hi
    obtain ⟨g, hg, hfr⟩ := g3 i hi
    rw [hg]
    have hgi := g1.gi g (List.mem_of_getElem? hg)
    have hgl := hgi.len hn
    simp only
    rw [if_pos (by omega)]
    obtain ⟨nx', q1, q2, q3⟩ := endsS_tot (SR := SR) (MK := MK) (RA := RA) ht hn hlo ha2 h3 g.ends nx (fun e he => by have := hgi.asc.mem e he; omega) hN (by omega)
    rw [q1]
    exact ⟨_, _, rfl, g1, g2, fun nx2 h => by cases h; exact ⟨q2, by omega⟩⟩
 ·rw [if_neg k3]
  obtain ⟨r, hr, hrp⟩ := plainS_tot hn hs0 k3 ha2 ha1
  have hpl : (mkK SR MK VN RA text).plain (.agg [.int .i64 (.ofNat kind), .str tx, ax, .str bs]) a.2 a.1 = some r := hr
  rw [hpl]
  cases r with
  | none => exact ⟨_, _, rfl, hR, Ext.refl s, fun nx' h => by cases h; exact ⟨hN, by omega⟩⟩
  | some p =>
   have hp := hrp p rfl
   simp only
   rw [if_pos (by omega)]
   refine ⟨_, _, rfl, hR, Ext.refl s, fun nx' h => ?_⟩
   cases h
   have := putS_len nx (p, a.2)
   exact ⟨hN.put (by simp only; omega) hp.2 ha2, by omega⟩
theorem stepS_tot (ht : bsB text = true) (hn : text.length ≤ 12) {R : Nat} {y : T} (hs : symOk SR MK VN RA R y = true) {lo : Nat} : ∀ (l : List At) (nx : List At) (s : Rs), LP VN lo text.length l → LP VN lo text.length nx → nx.length + 13 * l.length ≤ 1000000000000 → RI text.length R s →
  ∃ o s', stepS (mkK SR MK VN RA text) text y l nx s = some (o, s') ∧ RI text.length R s' ∧ Ext s s' ∧ ∀ nx', o = some nx' → LP VN lo text.length nx' ∧ nx'.length ≤ nx.length + 13 * l.length
 | [], nx, s, hL, hN, hl, hR => ⟨_, _, rfl, hR, Ext.refl s, fun nx' h => by cases h; exact ⟨hN, by simp⟩⟩
 | a :: r, nx, s, hL, hN, hl, hR => by
  simp only [List.length_cons] at hl
  obtain ⟨a1, a2, a3⟩ := hL a (by simp)
  obtain ⟨o, s1, q1, q2, q3, q4⟩ := oneS_tot ht hn hs a1 a2 a3 hN (by omega) hR
  simp only [stepS, q1]
  cases o with
  | none => exact ⟨_, _, rfl, q2, q3, fun nx' h => by cases h⟩
  | some nx1 =>
   obtain ⟨n1, n2⟩ := q4 nx1 rfl
   obtain ⟨o2, s2, p1, p2, p3, p4⟩ := stepS_tot ht hn hs r nx1 s1 (fun b hb => hL b (List.mem_cons_of_mem _ hb)) n1 (by omega) q2
   refine ⟨o2, s2, p1, p2, q3.trans p3, fun nx' h => ?_⟩
   obtain ⟨m1, m2⟩ := p4 nx' h
   exact ⟨m1, by simp only [List.length_cons]; omega⟩
theorem altS_tot (ht : bsB text = true) (hn : text.length ≤ 12) {R : Nat} {lo : Nat} : ∀ (syms : List T) (k : Nat) (l : List At) (s : Rs), syms.all (symOk SR MK VN RA R) = true → k + syms.length ≤ 10 → l.length ≤ 13 ^ k → LP VN lo text.length l → RI text.length R s →
  ∃ l' s', altS (mkK SR MK VN RA text) text syms l s = some (l', s') ∧ RI text.length R s' ∧ Ext s s' ∧ LP VN lo text.length l' ∧ l'.length ≤ 13 ^ 10
 | [], k, l, s, _, hk, hl, hL, hR => ⟨_, _, rfl, hR, Ext.refl s, hL, Nat.le_trans hl (Nat.pow_le_pow_right (by omega) (by simpa using hk))⟩
 | x :: r, k, l, s, ha, hk, hl, hL, hR => by
  simp only [List.all_cons, Bool.and_eq_true] at ha
  simp only [List.length_cons] at hk
  have hpow : 13 ^ (k + 1) ≤ 13 ^ 10 := Nat.pow_le_pow_right (by omega) (by omega)
  have hpe : 13 ^ (k + 1) = 13 ^ k * 13 := Nat.pow_succ 13 k
  have h10 : (13 : Nat) ^ 10 = 137858491849 := by decide
  obtain ⟨o, s1, q1, q2, q3, q4⟩ := stepS_tot ht hn ha.1 l [] s hL (fun a ha => by cases ha) (by simp only [List.length_nil]; omega) hR
  simp only [altS]
  rw [if_neg (by omega), q1]
  cases o with
  | none => exact ⟨[], s1, rfl, q2, q3, (fun a ha => by cases ha), by simp⟩
  | some nx =>
   obtain ⟨n1, n2⟩ := q4 nx rfl
   simp only [List.length_nil] at n2
   obtain ⟨l', s2, p1, p2, p3, p4, p5⟩ := altS_tot ht hn r (k + 1) nx s1 ha.2 (by omega) (by omega) n1 q2
   exact ⟨l', s2, p1, p2, q3.trans p3, p4, p5⟩
end

/-! ### Looks -/
theorem altOne_tot {SR : List Nat → Option (List Nat)} {MK : T → Option (List Bool)} {VN : List Nat → Bool} {RA : List Nat → Option Nat} {text : List Nat} (ht : bsB text = true) (hn : text.length ≤ 12) {R : Nat} {ps : T} {pl : List (List Nat)} (hps : strsL ps = some pl) (hpl : pl.length ≤ 1000 ∧ pl.all VN = true) {g : Gl} (hg : GI text.length R g) {x : T} (hx : altOk SR MK VN RA R x = true) {f : List Bool} (hf : f.length = text.length + 1) (hfl : ∀ p, f[p]? = some true → g.from_ ≤ p) {s : Rs} (hR : RI text.length R s) :
  ∃ f' s', altOne (mkK SR MK VN RA text) text ps g x f s = some (f', s') ∧ RI text.length R s' ∧ Ext s s' ∧ f'.length = text.length + 1 ∧ ∀ p, f'[p]? = some true → g.from_ ≤ p := by
 unfold altOk at hx
 split at hx
 rotate_left
 ·cases hx
 rename_i xs
 split at hx
 rotate_left
 ·cases hx
 rename_i syms hsy
 simp only [Bool.and_eq_true, decide_eq_true_eq] at hx
 simp only [altOne, hsy]
 rw [if_pos (by omega)]
 obtain ⟨env, e1, e2⟩ := env0L_tot (VN := VN) pl g.args [] hpl.2 ⟨rfl, by simp⟩
 have he : (mkK SR MK VN RA text).env0 ps g.args = some env := by
  show env0S VN ps g.args = some env
  simp only [env0S, hps]
  rw [if_pos ⟨hpl.1, hg.args⟩]
  exact e1
 rw [he]
 simp only
 obtain ⟨l, s', q1, q2, q3, q4, q5⟩ := altS_tot (SR := SR) (MK := MK) (VN := VN) (RA := RA) ht hn (lo := g.from_) syms 0 [(g.from_, env)] s hx.2 (by omega) (by simp) (fun a ha => by
  simp only [List.mem_singleton] at ha
  subst ha
  exact ⟨Nat.le_refl _, hg.fr, e2⟩) hR
 rw [q1]
 have h10 : (13 : Nat) ^ 10 = 137858491849 := by decide
 simp only
 rw [if_pos (by omega)]
 have key : ∀ (l : List At) (f : List Bool), LP VN g.from_ text.length l → f.length = text.length + 1 → (∀ p, f[p]? = some true → g.from_ ≤ p) → ∃ f', markS l f = some f' ∧ f'.length = text.length + 1 ∧ ∀ p, f'[p]? = some true → g.from_ ≤ p := by
  intro l
  induction l with
  | nil => intro f _ h1 h2; exact ⟨f, rfl, h1, h2⟩
  | cons a r ih =>
   intro f hL h1 h2
   obtain ⟨a1, a2, _⟩ := hL a (by simp)
   simp only [markS]
   rw [if_pos (by omega)]
   refine ih _ (fun b hb => hL b (List.mem_cons_of_mem _ hb)) (by simpa using h1) (fun p hp => ?_)
   by_cases h : a.1 = p
   ·omega
   ·rw [List.getElem?_set_ne h] at hp
    exact h2 p hp
 obtain ⟨f', m1, m2, m3⟩ := key l f q4 hf hfl
 rw [m1]
 exact ⟨f', s', rfl, q2, q3, m2, m3⟩
theorem looksS_tot {SR : List Nat → Option (List Nat)} {MK : T → Option (List Bool)} {VN : List Nat → Bool} {RA : List Nat → Option Nat} {text : List Nat} (ht : bsB text = true) (hn : text.length ≤ 12) {R : Nat} {ps : T} {pl : List (List Nat)} (hps : strsL ps = some pl) (hpl : pl.length ≤ 1000 ∧ pl.all VN = true) {g : Gl} (hg : GI text.length R g) : ∀ (al : List T) (f : List Bool) (s : Rs), al.all (altOk SR MK VN RA R) = true → f.length = text.length + 1 → (∀ p, f[p]? = some true → g.from_ ≤ p) → RI text.length R s →
  ∃ f' s', looksS (mkK SR MK VN RA text) text ps g al f s = some (f', s') ∧ RI text.length R s' ∧ Ext s s' ∧ f'.length = text.length + 1 ∧ ∀ p, f'[p]? = some true → g.from_ ≤ p
 | [], f, s, _, hf, hfl, hR => ⟨f, s, rfl, hR, Ext.refl s, hf, hfl⟩
 | x :: r, f, s, ha, hf, hfl, hR => by
  simp only [List.all_cons, Bool.and_eq_true] at ha
  obtain ⟨f1, s1, q1, q2, q3, q4, q5⟩ := altOne_tot ht hn hps hpl hg ha.1 hf hfl hR
  obtain ⟨f2, s2, p1, p2, p3, p4, p5⟩ := looksS_tot ht hn hps hpl hg r f1 s1 ha.2 q4 q5 q2
  refine ⟨f2, s2, ?_, p2, q3.trans p3, p4, p5⟩
  simp only [looksS, q1]
  exact p1
/-- the chart grows -/
structure Ex2 (s s' : Rs) : Prop where
 len : s.goals.length ≤ s'.goals.length
 mu : mu s ≤ mu s'
 fresh : s'.fresh = true → s.fresh = true ∨ X.mu s < X.mu s'
theorem Ex2.refl (s : Rs) : Ex2 s s := ⟨Nat.le_refl _, Nat.le_refl _, fun h => .inl h⟩
theorem Ex2.trans {a b c : Rs} (h1 : Ex2 a b) (h2 : Ex2 b c) : Ex2 a c := by
 refine ⟨Nat.le_trans h1.len h2.len, Nat.le_trans h1.mu h2.mu, fun h => ?_⟩
 have m1 := h1.mu
 have m2 := h2.mu
 rcases h2.fresh h with h | h
 ·rcases h1.fresh h with h | h
  ·exact .inl h
  ·exact .inr (by omega)
 ·exact .inr (by omega)
theorem Ext.ex2 {a b : Rs} (h : Ext a b) : Ex2 a b := ⟨h.len, h.mu, h.fresh⟩
theorem addS_tot {n R : Nat} (hn : n ≤ 12) {s : Rs} (h : RI n R s) {i : Nat} {g : Gl} (hg : s.goals[i]? = some g) {e : Nat} (he1 : g.from_ ≤ e) (he2 : e ≤ n) (hne : e ∉ g.ends) :
  ∃ s' g', addS s i e = some s' ∧ RI n R s' ∧ Ex2 s s' ∧ s'.goals[i]? = some g' ∧ g'.from_ = g.from_ ∧ ∀ x ∈ g'.ends, x ∈ g.ends ∨ x = e := by
 have hi := h.gi g (List.mem_of_getElem? hg)
 have hl := hi.len hn
 have hm := h.mu hn
 obtain ⟨i1, i2, i3, i4⟩ := Asc1.ins (e := e) (k0 := s.rank) hi.asc hi.rk hne he1 he2
 have ht := tot_set (g' := { g with ends := endsA g e, ranks := ranksA g e s.rank }) hg
 have hil := lt_of_get hg
 simp only [addS, hg]
 rw [if_pos ⟨hi.rk.symm, by omega, by omega⟩]
 have el : (endsA g e).length = g.ends.length + 1 := i2
 simp only [el] at ht
 refine ⟨_, { g with ends := endsA g e, ranks := ranksA g e s.rank }, rfl, ⟨by simp only [List.length_set]; exact h.len, fun g' hg' => ?_, ?_⟩, ⟨by simp, ?_, fun _ => .inr ?_⟩, List.getElem?_set_self hil, rfl, i4⟩
 ·rcases List.mem_or_eq_of_mem_set hg' with q | rfl
  ·exact h.gi g' q
  ·exact ⟨hi.rule, hi.fr, i1, by
    show (ranksA g e s.rank).length = (endsA g e).length
    rw [el]; exact i3, hi.args⟩
 ·have := h.rank
  simp only
  omega
 ·simp only [mu, List.length_set]; omega
 ·simp only [mu, List.length_set]; omega
theorem addsS_tot {n R : Nat} (hn : n ≤ 12) {i : Nat} {ends : List Nat} {fr : Nat} : ∀ (f : List Bool) (p : Nat) (s : Rs) (g : Gl), RI n R s → s.goals[i]? = some g → g.from_ = fr → (∀ k, f[k]? = some true → fr ≤ p + k) → p + f.length = n + 1 → (∀ x ∈ g.ends, x ∈ ends ∨ x < p) → ∃ s', addsS i ends f p s = some s' ∧ RI n R s' ∧ Ex2 s s'
 | [], p, s, g, h, _, _, _, _, _ => ⟨s, rfl, h, Ex2.refl s⟩
 | b :: r, p, s, g, h, hg, hfr, hf, hp, hx => by
  simp only [List.length_cons] at hp
  have hf' : ∀ k, r[k]? = some true → fr ≤ (p + 1) + k := fun k hk => by
   have := hf (k + 1) (by simpa using hk)
   omega
  simp only [addsS]
  by_cases c : (b && !ends.contains p) = true
  ·rw [if_pos c]
   simp only [Bool.and_eq_true, Bool.not_eq_true', ] at c
   obtain ⟨rfl, c2⟩ := c
   have hne : p ∉ g.ends := fun hm => by
    rcases hx p hm with q | q
    ·have : ends.contains p = true := by simpa using q
     rw [this] at c2; cases c2
    ·omega
   obtain ⟨s1, g1, q1, q2, q3, q4, q5, q6⟩ := addS_tot hn h hg (e := p) (by have := hf 0 rfl; omega) (by omega) hne
   rw [q1]
   obtain ⟨s2, p1, p2, p3⟩ := addsS_tot hn r (p + 1) s1 g1 q2 q4 (by omega) hf' (by omega) (fun x hx' => by
    rcases q6 x hx' with q | q
    ·rcases hx x q with z | z
     ·exact .inl z
     ·exact .inr (by omega)
    ·exact .inr (by omega))
   exact ⟨s2, p1, p2, q3.trans p3⟩
  ·rw [if_neg c]
   exact addsS_tot hn r (p + 1) s g h hg hfr hf' (by omega) (fun x hx' => by
    rcases hx x hx' with z | z
    ·exact .inl z
    ·exact .inr (by omega))
theorem lookS_tot {SR : List Nat → Option (List Nat)} {MK : T → Option (List Bool)} {VN : List Nat → Bool} {RA : List Nat → Option Nat} {rules : List T} (hG : grOk SR MK VN RA rules = true) {text : List Nat} (ht : bsB text = true) (hn : text.length ≤ 12) {s : Rs} (hR : RI text.length rules.length s) {i : Nat} (hi : i < s.goals.length) :
  ∃ s', lookS (mkK SR MK VN RA text) rules text s i = some s' ∧ RI text.length rules.length s' ∧ Ex2 s s' := by
 obtain ⟨g, hg⟩ := get_of_lt hi
 have hgi := hR.gi g (List.mem_of_getElem? hg)
 obtain ⟨x, hx⟩ := get_of_lt hgi.rule
 have hxo : ruleOk SR MK VN RA rules.length x = true := List.all_eq_true.1 hG x (List.mem_of_getElem? hx)
 unfold ruleOk at hxo
 split at hxo
 rotate_left
 ·cases hxo
 rename_i nm ps az
 simp only [Bool.and_eq_true] at hxo
 obtain ⟨h1, h2⟩ := hxo
 split at h1
 rotate_left
 ·cases h1
 rename_i pl hpl
 simp only [Bool.and_eq_true, decide_eq_true_eq] at h1
 split at h2
 rotate_left
 ·cases h2
 rename_i al hal
 simp only [Bool.and_eq_true, decide_eq_true_eq] at h2
 have hl := hgi.len hn
 simp only [lookS, hg, hx, hal]
 rw [if_pos ⟨by omega, by omega, by omega⟩]
 obtain ⟨f1, s1, q1, q2, q3, q4, q5⟩ := looksS_tot ht hn hpl h1 hgi al (List.replicate (text.length + 1) false) s h2.2 (by simp) (fun p hp => by
  rw [List.getElem?_replicate] at hp
  split at hp <;> cases hp) hR
 rw [q1]
 obtain ⟨s2, p1, p2, p3⟩ := addsS_tot hn (i := i) (ends := g.ends) (fr := g.from_) f1 0 s1 g q2 (q3.keep i g hg) rfl (fun k hk => by have := q5 k hk; omega) (by omega) (fun x hx' => .inl hx')
 exact ⟨s2, p1, p2, q3.ex2.trans p3⟩
theorem passS_tot {SR : List Nat → Option (List Nat)} {MK : T → Option (List Bool)} {VN : List Nat → Bool} {RA : List Nat → Option Nat} {rules : List T} (hG : grOk SR MK VN RA rules = true) {text : List Nat} (ht : bsB text = true) (hn : text.length ≤ 12) : ∀ (f i : Nat) (s : Rs), RI text.length rules.length s → 301 ≤ f + i → i ≤ s.goals.length → ∃ s', passS (mkK SR MK VN RA text) rules text f i s = some s' ∧ RI text.length rules.length s' ∧ Ex2 s s'
 | 0, i, s, hR, hf, hi => by have := hR.len; omega
 | f + 1, i, s, hR, hf, hi => by
  simp only [passS]
  by_cases c : i < s.goals.length ∧ s.full = false
  ·rw [if_pos c, if_pos (by have := hR.len; omega)]
   obtain ⟨s1, q1, q2, q3⟩ := lookS_tot hG ht hn hR c.1
   rw [q1]
   obtain ⟨s2, p1, p2, p3⟩ := passS_tot hG ht hn f (i + 1) s1 q2 (by omega) (by have := q3.len; omega)
   exact ⟨s2, p1, p2, q3.trans p3⟩
  ·rw [if_neg c]
   exact ⟨s, rfl, hR, Ex2.refl s⟩
theorem roundS_tot {SR : List Nat → Option (List Nat)} {MK : T → Option (List Bool)} {VN : List Nat → Bool} {RA : List Nat → Option Nat} {rules : List T} (hG : grOk SR MK VN RA rules = true) {text : List Nat} (ht : bsB text = true) (hn : text.length ≤ 12) {f : Nat} (hf : 301 ≤ f) : ∀ (n : Nat) (s : Rs), RI text.length rules.length s → 4202 ≤ n + mu s ∨ (1 ≤ n ∧ s.fresh = false) → ∃ s', roundS (mkK SR MK VN RA text) rules text f n s = some s' ∧ RI text.length rules.length s' ∧ s.goals.length ≤ s'.goals.length
 | 0, s, hR, h => by
  have := (hR.mu hn).1
  omega
 | n + 1, s, hR, h => by
  simp only [roundS]
  by_cases c : s.fresh = true ∧ s.full = false
  ·rw [if_pos c]
   have hm : 4202 ≤ n + 1 + mu s := by
    rcases h with h | h
    ·exact h
    ·rw [c.1] at h; cases h.2
   have hR0 : RI text.length rules.length { s with fresh := false } := ⟨hR.len, hR.gi, hR.rank⟩
   obtain ⟨s1, q1, q2, q3⟩ := passS_tot hG ht hn f 0 { s with fresh := false } hR0 (by omega) (Nat.zero_le _)
   rw [q1]
   have hmm : mu { s with fresh := false } = mu s := rfl
   have hl := q3.len
   have hmu := (hR.mu hn).1
   obtain ⟨s2, p1, p2, p3⟩ := roundS_tot hG ht hn hf n s1 q2 (by
    cases hfr : s1.fresh with
    | false => exact .inr ⟨by omega, rfl⟩
    | true =>
     rcases q3.fresh hfr with z | z
     ·cases z
     ·rw [hmm] at z
      exact .inl (by omega))
   exact ⟨s2, p1, p2, by simp only at hl; omega⟩
  ·rw [if_neg c]
   exact ⟨s, rfl, hR, Nat.le_refl _⟩
/-- A run comes to its end. -/
theorem run_tot {SR : List Nat → Option (List Nat)} {MK : T → Option (List Bool)} {VN : List Nat → Bool} {RA : List Nat → Option Nat} {rules : List T} (hG : grOk SR MK VN RA rules = true) {text : List Nat} (ht : bsB text = true) (hn : text.length ≤ 12) {ru : Nat} (hru : ru < rules.length) {al : List Nat} (hal : al.length ≤ 1000) {fr : Nat} (hfr : fr ≤ text.length) :
  ∃ s', roundS (mkK SR MK VN RA text) rules text 5000 5000 ⟨[⟨ru, al, fr, [], []⟩], 0, true, false⟩ = some s' ∧ outS s' ≠ some [] ∧ ∀ e ∈ endsR (outS s'), e ≤ text.length ∧ (endsR (outS s')).length ≤ 13 := by
 have hR : RI text.length rules.length ⟨[⟨ru, al, fr, [], []⟩], 0, true, false⟩ := by
  refine ⟨by simp, fun g hg => ?_, by simp [tot]⟩
  simp only [List.mem_singleton] at hg
  subst hg
  exact ⟨hru, hfr, trivial, rfl, hal⟩
 obtain ⟨s', h1, h2, h3⟩ := roundS_tot hG ht hn (f := 5000) (by omega) 5000 _ hR (.inl (by simp [mu, tot]))
 refine ⟨s', h1, ?_, ?_⟩
 ·unfold outS
  split
  ·simp
  ·intro e
   simp only [Option.some.injEq] at e
   rw [e] at h3
   simp at h3
 ·intro e he
  unfold outS at he ⊢
  split at he
  ·simp [endsR] at he
  ·rename_i hfull
   rw [if_neg hfull]
   cases hgs : s'.goals with
   | nil => rw [hgs] at he; simp [endsR] at he
   | cons g gs =>
    rw [hgs] at he
    have hgi := h2.gi g (by rw [hgs]; simp)
    exact ⟨(hgi.asc.mem e he).2, hgi.len hn⟩
end X
