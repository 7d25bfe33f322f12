/- A part of the proof. No statement of the claim is in it. -/
import Derived.Test.YtbdadoeankjnkaaGreatDoorE
import Derived.Test.YtbdadoeankjnkaaGreatDoorL
import Derived.Test.YtbdadoeankjnkaaGreatDoorSc
set_option maxRecDepth 100000
set_option maxHeartbeats 4000000
set_option linter.all false
open Go Go.V Go.Proofs
namespace E
open X
/-! ### What each step keeps, a run keeps -/
structure Kept (J : Rs → Prop) : Prop where
 full : ∀ s, J s → J { s with full := true }
 stale : ∀ s, J s → J { s with fresh := false }
 new : ∀ s ru al fr, J s → J { s with goals := s.goals ++ [⟨ru, al, fr, [], []⟩], fresh := true }
 add : ∀ s s' i e, J s → addS s i e = some s' → J s'
section
variable {J : Rs → Prop} {K : Kn} {text : List Nat} {rules : List T}
theorem q1d (H : Kept J) {s : Rs} (h : J s) (ru : Nat) (al : List Nat) (here : Nat) : J (qbf s ru al here).1 := by
 rcases qpz s ru al here with ⟨i, g, h1, h2, h3⟩ | ⟨n, h1, h2, h3⟩ | ⟨n, h1, h2, h3⟩ <;> rw [h3]
 ·exact h
 ·exact H.full s h
 ·exact H.new s ru al here h
theorem oneS_j (H : Kept J) {x : T} {a : At} {nx : List At} {s : Rs} {o : Option (List At)} {s' : Rs} (h : J s) (e : oneS K text x a nx s = some (o, s')) : J s' := by
 unfold oneS at e
 split at e
 rotate_left
 ·cases e
 split at e
 ·unfold qun at e
  split at e
  ·cases e
  ·cases e; exact h
  split at e
  rotate_left
  ·cases e
  split at e
  ·cases e
  split at e
  ·cases e; exact q1d H h _ _ _
  split at e
  ·cases e
  split at e
  rotate_left
  ·cases e
  split at e
  ·cases e
  cases e
  exact q1d H h _ _ _
 ·split at e
  ·cases e
  ·cases e; exact h
  ·split at e
   rotate_left
   ·cases e
   cases e
   exact h
theorem quu (H : Kept J) {x : T} : ∀ (l nx : List At) (s : Rs) (o : Option (List At)) (s' : Rs), J s → qds K text x l nx s = some (o, s') → J s'
 | [], nx, s, o, s', h, e => by
  simp only [qds] at e
  cases e
  exact h
 | a :: l, nx, s, o, s', h, e => by
  simp only [qds] at e
  split at e
  ·cases e
  ·rename_i s1 h1
   cases e
   exact oneS_j H h h1
  ·rename_i nx1 s1 h1
   exact quu H l nx1 s1 o s' (oneS_j H h h1) e
theorem altS_j (H : Kept J) : ∀ (r : List T) (l : List At) (s : Rs) (l' : List At) (s' : Rs), J s → altS K text r l s = some (l', s') → J s'
 | [], l, s, l', s', h, e => by
  simp only [altS] at e
  cases e
  exact h
 | x :: r, l, s, l', s', h, e => by
  simp only [altS] at e
  split at e
  ·cases e
  split at e
  ·cases e
  ·rename_i s1 h1
   cases e
   exact quu H _ _ _ _ _ h h1
  ·rename_i nx s1 h1
   exact altS_j H r nx s1 l' s' (quu H _ _ _ _ _ h h1) e
theorem qwc (H : Kept J) {ps : T} {g : Gl} : ∀ (al : List T) (f : List Bool) (s : Rs) (f' : List Bool) (s' : Rs), J s → qfb K text ps g al f s = some (f', s') → J s'
 | [], f, s, f', s', h, e => by
  simp only [qfb] at e
  cases e
  exact h
 | x :: al, f, s, f', s', h, e => by
  simp only [qfb] at e
  split at e
  ·cases e
  rename_i f1 s1 h1
  refine qwc H al f1 s1 f' s' ?_ e
  unfold qlf at h1
  split at h1
  rotate_left
  ·cases h1
  split at h1
  ·cases h1
  split at h1
  rotate_left
  ·cases h1
  split at h1
  ·cases h1
  split at h1
  ·cases h1
  rename_i l s2 h2
  split at h1
  rotate_left
  ·cases h1
  split at h1
  ·cases h1
  cases h1
  exact altS_j H _ _ _ _ _ h h2
theorem qti (H : Kept J) {i : Nat} {ends : List Nat} : ∀ (f : List Bool) (p : Nat) (s s' : Rs), J s → qgd i ends f p s = some s' → J s'
 | [], p, s, s', h, e => by
  simp only [qgd] at e
  cases e
  exact h
 | b :: f, p, s, s', h, e => by
  simp only [qgd] at e
  split at e
  ·split at e
   ·cases e
   rename_i s1 h1
   exact qti H f (p + 1) s1 s' (H.add s s1 i p h h1) e
  ·exact qti H f (p + 1) s s' h e
theorem lookS_j (H : Kept J) {s s' : Rs} {i : Nat} (h : J s) (e : qpg K rules text s i = some s') : J s' := by
 unfold qpg at e
 split at e
 ·cases e
 split at e
 rotate_left
 ·cases e
 split at e
 ·cases e
 split at e
 rotate_left
 ·cases e
 split at e
 ·cases e
 rename_i f s1 h1
 exact qti H f 0 s1 s' (qwc H _ _ _ _ _ h h1) e
theorem q4m (H : Kept J) : ∀ (f i : Nat) (s s' : Rs), J s → qkq K rules text f i s = some s' → J s'
 | 0, i, s, s', h, e => by cases e
 | f + 1, i, s, s', h, e => by
  simp only [qkq] at e
  split at e
  ·split at e
   rotate_left
   ·cases e
   split at e
   ·cases e
   rename_i s1 h1
   exact q4m H f (i + 1) s1 s' (lookS_j H h h1) e
  ·cases e
   exact h
theorem qwi (H : Kept J) {f : Nat} : ∀ (n : Nat) (s s' : Rs), J s → qdq K rules text f n s = some s' → J s'
 | 0, s, s', h, e => by cases e
 | n + 1, s, s', h, e => by
  simp only [qdq] at e
  split at e
  ·split at e
   ·cases e
   rename_i s1 h1
   exact qwi H n s1 s' (q4m H f 0 _ s1 (H.stale s h) h1) e
  ·cases e
   exact h
end
/-! ### The first goal stays; each end has a rank of its own -/
def rks (l : List Gl) : List Nat := l.flatMap Gl.ranks
theorem rks_ok {g g' : Gl} {k : Nat} (h1 : g'.ranks.Nodup) (h2 : ∀ r ∈ g'.ranks, r ∈ g.ranks ∨ r = k) : ∀ {l : List Gl} {i : Nat}, l[i]? = some g → (rks l).Nodup → k ∉ rks l → (rks (l.set i g')).Nodup ∧ ∀ r ∈ rks (l.set i g'), r ∈ rks l ∨ r = k
 | a :: l, 0, h, hn, hk => by
  simp only [List.getElem?_cons_zero, Option.some.injEq] at h
  subst h
  simp only [rks, List.set_cons_zero, List.flatMap_cons, List.nodup_append, List.mem_append, not_or] at hn hk ⊢
  refine ⟨⟨h1, hn.2.1, fun x hx y hy => ?_⟩, fun r hr => ?_⟩
  ·rcases h2 x hx with hx | rfl
   ·exact hn.2.2 x hx y hy
   ·exact fun e => hk.2 (e ▸ hy)
  ·rcases hr with hr | hr
   ·rcases h2 r hr with hr | rfl
    ·exact .inl (.inl hr)
    ·exact .inr rfl
   ·exact .inl (.inr hr)
 | a :: l, i + 1, h, hn, hk => by
  simp only [List.getElem?_cons_succ] at h
  simp only [rks, List.set_cons_succ, List.flatMap_cons, List.nodup_append, List.mem_append, not_or] at hn hk ⊢
  obtain ⟨q1, q2⟩ := rks_ok h1 h2 h hn.2.1 hk.2
  refine ⟨⟨hn.1, q1, fun x hx y hy => ?_⟩, fun r hr => ?_⟩
  ·rcases q2 y hy with hy | rfl
   ·exact hn.2.2 x hx y hy
   ·exact fun e => hk.1 (e ▸ hx)
  ·rcases hr with hr | hr
   ·exact .inl (.inl hr)
   ·rcases q2 r hr with hr | rfl
    ·exact .inl (.inr hr)
    ·exact .inr rfl
 | [], i, h, _, _ => by simp at h
theorem qwk (e : Nat) : ∀ (l q : List Nat), q.Nodup → ((lowE e l q).2 ++ (hiE e l q).2).Nodup ∧ ∀ r ∈ (lowE e l q).2 ++ (hiE e l q).2, r ∈ q
 | [], [], _ => by simp [lowE, hiE]
 | x :: l, [], _ => by simp [lowE, hiE]
 | [], k :: q, _ => by simp [lowE, hiE]
 | x :: l, k :: q, h => by
  obtain ⟨h1, h2⟩ := List.nodup_cons.1 h
  obtain ⟨i1, i2⟩ := qwk e l q h2
  simp only [lowE, hiE]
  by_cases c : x < e
  ·rw [if_pos c, if_neg (by omega)]
   refine ⟨List.nodup_cons.2 ⟨fun hm => h1 (i2 k hm), i1⟩, fun r hr => ?_⟩
   rcases List.mem_cons.1 hr with rfl | hr
   ·exact List.mem_cons_self ..
   ·exact List.mem_cons_of_mem _ (i2 r hr)
  ·rw [if_neg c]
   by_cases c2 : e < x
   ·rw [if_pos c2]
    have hp : ((lowE e l q).2 ++ k :: (hiE e l q).2).Perm (k :: ((lowE e l q).2 ++ (hiE e l q).2)) := List.perm_middle
    refine ⟨hp.nodup_iff.2 (List.nodup_cons.2 ⟨fun hm => h1 (i2 k hm), i1⟩), fun r hr => ?_⟩
    rcases List.mem_cons.1 (hp.mem_iff.1 hr) with rfl | hr
    ·exact List.mem_cons_self ..
    ·exact List.mem_cons_of_mem _ (i2 r hr)
   ·rw [if_neg c2]
    exact ⟨i1, fun r hr => List.mem_cons_of_mem _ (i2 r hr)⟩
/-- ranks are told apart -/
def RkOk (s : Rs) : Prop := (rks s.goals).Nodup ∧ ∀ r ∈ rks s.goals, r < s.rank
theorem rk_kept : Kept RkOk where
 full := fun s h => h
 stale := fun s h => h
 new := fun s _ _ _ h => by
  unfold RkOk rks at h ⊢
  simpa using h
 add := fun s s' i e h ha => by
  unfold addS at ha
  split at ha
  ·cases ha
  rename_i g hg
  split at ha
  rotate_left
  ·cases ha
  cases ha
  obtain ⟨n1, n2⟩ := h
  have hgr : ∀ r ∈ g.ranks, r ∈ rks s.goals := fun r hr => List.mem_flatMap.2 ⟨g, List.mem_of_getElem? hg, hr⟩
  have hgn : g.ranks.Nodup := by
   have := List.mem_of_getElem? hg
   obtain ⟨a, b, e⟩ := List.append_of_mem this
   rw [e] at n1
   simp only [rks, List.flatMap_append, List.flatMap_cons, List.nodup_append] at n1
   exact n1.2.1.1
  obtain ⟨l1, l2⟩ := qwk e g.ends g.ranks hgn
  have hk : s.rank ∉ rks s.goals := fun hm => Nat.lt_irrefl _ (n2 _ hm)
  have hp : (qcs g e s.rank).Perm (s.rank :: ((lowE e g.ends g.ranks).2 ++ (hiE e g.ends g.ranks).2)) := by
   unfold qcs
   rw [List.append_assoc, List.singleton_append]
   exact List.perm_middle
  obtain ⟨q1, q2⟩ := rks_ok (g := g) (g' := { g with ends := qdu g e, ranks := qcs g e s.rank }) (k := s.rank) (hp.nodup_iff.2 (List.nodup_cons.2 ⟨fun hm => hk (hgr _ (l2 _ hm)), l1⟩)) (fun r hr => by
   rcases List.mem_cons.1 (hp.mem_iff.1 hr) with rfl | hr
   ·exact .inr rfl
   ·exact .inl (l2 r hr)) hg n1 hk
  refine ⟨q1, fun r hr => ?_⟩
  rcases q2 r hr with hr | rfl
  ·have := n2 r hr
   show r < s.rank + 1
   omega
  ·exact Nat.lt_succ_self _
end E
namespace E
open X
attribute [-simp] getElem?_pos
/-! ### laws.in, laws.sameInts, laws.sameChart -/
section
attribute [-simp] lenV idxV
theorem lawIn_ld {σ : Store} {d g w : Nat} {l : List Nat} (hd : σ[d]? = some (.cells (ints l) g w)) (hw : w ≤ g) (y : Nat) (hl : l.length ≤ 1048576) : LD S 10 [.sl d g 0 l.length 1, .t (I y)] σ = some (.t (B (l.contains y)), σ) := by
 rw [qbt (A := A10) rfl rfl rfl]
 refine qas (A := A10) rfl Tryz.func10 rfl ?_
 refine wR rfl (by simp; rfl) ?_
 refine wR rfl (by simp; rfl) ?_
 refine wB rfl ?_
 try simp only [tq]
 refine qat (I := fun m st τ => ∃ k, m = l.length - k ∧ k ≤ l.length ∧ l.contains y = (l.drop k).contains y ∧ st.vars = [(0, .sl d g 0 l.length 1), (1, .t (I y)), (4, .t (B false)), (5, .t (I k))] ∧ τ = σ) ?_ l.length _ _ ⟨0, rfl, Nat.zero_le _, rfl, by simp, rfl⟩
 rintro m ⟨vars, scr⟩ τ ⟨k, rfl, hk, he, hv, rfl⟩
 simp only at hv
 subst hv
 refine wR rfl (by simp [lenV]; rfl) ?_
 by_cases c1 : k < l.length
 ·refine wT rfl (by simp [c1]) ?_
  refine wK ?_
  refine wB rfl ?_
  obtain ⟨z, hz⟩ := get_of_lt c1
  have h1 : k + 1 ≤ l.length := c1
  refine wR rfl (by simp [idxV, c1, hd, hw, hz, h1]; rfl) ?_
  rw [qak hz] at he
  by_cases c2 : y = z
  ·subst c2
   refine wT rfl (by simp) ?_
   refine wR rfl (by simp; rfl) ?_
   try simp only [tq]
   have : l.contains y = true := by rw [he]; simp
   rw [this]
   refine wX ?_
   try simp only [tq]
   simp [Tryz.f10]
  ·refine wF rfl (by simp [show ¬ ((z : Int) = (y : Int)) by omega]) ?_
   refine wK ?_
   refine wR rfl (by simp [IntWalk.i64_in ((k : Int) + 1) (by omega)]; rfl) ?_
   try simp only [tq]
   refine ⟨l.length - (k + 1), by omega, k + 1, rfl, c1, ?_, by simp, by simp⟩
   rw [he]; simp [c2]
 ·refine wF rfl (by simp [c1]) ?_
  repeat apply qaw
  refine qal ?_
  try simp only [tq, if_true]
  have hk2 : k = l.length := by omega
  subst hk2
  have : l.contains y = false := by rw [he]; simp
  refine wR rfl (by simp; rfl) ?_
  try simp only [tq]
  rw [this]
  refine wX ?_
  try simp only [tq]
  simp [Tryz.f10]
theorem lawEq_lv {x y : T} {a b : List Nat} (hx : Is x a) (hy : Is y b) (hl : a.length ≤ 1048576) : LV S 12 [.t x, .t y] [] = some (.t (B (decide (a = b))), []) := by
 refine qas (A := A12) rfl Tryz.func12 rfl ?_
 refine wR rfl (by simp; rfl) ?_
 by_cases c0 : a.length = b.length
 ·refine wR rfl (by simp [hx.len, hy.len]; rfl) ?_
  refine wF rfl (by simp [c0]) ?_
  refine wK ?_
  refine wR rfl (by simp; rfl) ?_
  refine wB rfl ?_
  try simp only [tq]
  refine qat (I := fun m st τ => ∃ k, m = a.length - k ∧ k ≤ a.length ∧ a.take k = b.take k ∧ st.vars = [(0, .t x), (1, .t y), (4, .t (B false)), (5, .t (I k))] ∧ τ = []) ?_ a.length _ _ ⟨0, rfl, Nat.zero_le _, rfl, by simp, rfl⟩
  rintro m ⟨vars, scr⟩ τ ⟨k, rfl, hk, he, hv, rfl⟩
  simp only at hv
  subst hv
  refine wR rfl (by simp [hx.len]; rfl) ?_
  by_cases c1 : k < a.length
  ·refine wT rfl (by simp [c1]) ?_
   refine wK ?_
   refine wB rfl ?_
   obtain ⟨p, hp⟩ := get_of_lt c1
   obtain ⟨q, hq⟩ := get_of_lt (show k < b.length by omega)
   have h1 := hx.idx hp
   have h2 := hy.idx hq
   refine wR rfl (by simp [h1, h2]; rfl) ?_
   by_cases c2 : p = q
   ·subst c2
    refine wF rfl (by simp) ?_
    refine wK ?_
    refine wR rfl (by simp [IntWalk.i64_in ((k : Int) + 1) (by omega)]; rfl) ?_
    try simp only [tq]
    exact ⟨a.length - (k + 1), by omega, k + 1, rfl, c1, qkz he hp hq, by simp, by simp⟩
   ·refine wT rfl (by simp [show ¬ ((p : Int) = (q : Int)) by omega]) ?_
    refine wR rfl (by simp; rfl) ?_
    have : ¬ a = b := fun e => by subst e; rw [hp] at hq; cases hq; exact c2 rfl
    refine wX ?_
    try simp only [tq]
    simp [Tryz.f12, this]
  ·refine wF rfl (by simp [c1]) ?_
   repeat apply qaw
   refine qal ?_
   try simp only [tq, if_true]
   have hk2 : k = a.length := by omega
   have : a = b := by
    rw [hk2, List.take_length, c0, List.take_length] at he; exact he
   refine wR rfl (by simp; rfl) ?_
   refine wX ?_
   try simp only [tq]
   simp [Tryz.f12, this]
 ·refine wR rfl (by simp [hx.len, hy.len]; rfl) ?_
  refine wT rfl (by simp [show ¬ ((a.length : Int) = (b.length : Int)) by omega]) ?_
  refine wR rfl (by simp; rfl) ?_
  have : ¬ a = b := fun e => c0 (congrArg List.length e)
  refine wX ?_
  try simp only [tq]
  simp [Tryz.f12, this]

theorem qgs {x y : T} {a b : List Nat} (hx : Is x a) (hy : Is y b) (hl : a.length ≤ 1048576) (σ : Store) : LD S 12 [.t x, .t y] σ = some (.t (B (decide (a = b))), σ) :=
 qaj (A := A12) (v := .t (B (decide (a = b)))) rfl rfl rfl (lawEq_lv hx hy hl) rfl σ
end
theorem qqx {gs : List Gl} {r1 r2 : List T} (h1 : qks gs r1) (h2 : qks gs r2) (hl : gs.length ≤ 1000) (hb : ∀ g ∈ gs, g.args.length ≤ 1000 ∧ g.ends.length ≤ 1000 ∧ g.ranks.length ≤ 1000) (σ : Store) :
  LD S 9 [.t (.agg [.list r1]), .t (.agg [.list r2])] σ = some (.t (B true), σ) := by
 suffices hh : ∃ σ', LV S 9 [.t (.agg [.list r1]), .t (.agg [.list r2])] [] = some (.t (B true), σ') by
  obtain ⟨σ', hh⟩ := hh
  exact qaj (A := A9) (v := .t (B true)) rfl rfl rfl hh rfl σ
 obtain ⟨l1, q1⟩ := h1
 obtain ⟨l2, q2⟩ := h2
 refine qbm (A := A9) rfl Tryz.func9 rfl ?_
 refine wR rfl (by simp; rfl) ?_
 refine wR rfl (by simp [l1, l2]; rfl) ?_
 refine wF rfl (by simp) ?_
 refine wK ?_
 refine wR rfl (by simp; rfl) ?_
 refine wB rfl ?_
 try simp only [tq]
 refine qat (I := fun m st τ => ∃ (k : Nat) (rest : Store), m = gs.length - k ∧ k ≤ gs.length ∧ st.vars = [(0, .t (.agg [.list r1])), (1, .t (.agg [.list r2])), (2, .ptr 0 0 0 1), (3, .ptr 1 0 0 1), (4, .t (B false)), (5, .t (I k))] ∧ τ = .cells [.t (.list r1)] 0 0 :: .cells [.t (.list r2)] 0 0 :: rest) ?_ gs.length _ _ ⟨0, [], rfl, Nat.zero_le _, by simp, rfl⟩
 rintro m ⟨vars, scr⟩ τ ⟨k, rest, rfl, hk, hv, rfl⟩
 simp only at hv
 subst hv
 refine wR rfl (by simp [l1]; rfl) ?_
 by_cases c1 : k < gs.length
 ·refine wT rfl (by simp [c1]) ?_
  refine wK ?_
  refine wB rfl ?_
  obtain ⟨g, hg⟩ := X.get_of_lt c1
  obtain ⟨x1, e1, k1, a1, a2, a3, a4⟩ := q1 k g hg
  obtain ⟨x2, e2, k2, b1, b2, b3, b4⟩ := q2 k g hg
  obtain ⟨n1, n2, n3⟩ := hb g (List.mem_of_getElem? hg)
  have t1 := qgs a2 b2 (by omega)
  have t2 := qgs a3 b3 (by omega)
  have t3 := qgs a4 b4 (by omega)
  simp only [decide_true] at t1 t2 t3
  simp only [X.rowT] at a1 b1
  refine wR rfl (by simp [a1, getA, setA, qao, qac]; rfl) ?_
  refine wR rfl (by simp [b1, getA, getB, setA, setB, qao, qac]; rfl) ?_
  refine wR rfl (by simp [getA, getB, t1, t2, t3]; rfl) ?_
  refine wF rfl (by simp) ?_
  refine wK ?_
  refine wR rfl (by simp [IntWalk.i64_in ((k : Int) + 1) (by omega)]; rfl) ?_
  try simp only [tq]
  exact ⟨gs.length - (k + 1), by omega, k + 1, _, rfl, c1, by simp, rfl⟩
 ·refine wF rfl (by simp [c1]) ?_
  repeat apply qaw
  refine qal ?_
  try simp only [tq, if_true]
  refine wR rfl (by simp; rfl) ?_
  refine wX ?_
  try simp only [tq]
  simp [Tryz.f9]
end E
namespace E
open X

attribute [-simp] getElem?_pos
/-! ### A drawn goal -/
theorem tmN (a b : Nat) : ((a : Int).tmod b) = ((a % b : Nat) : Int) := by
 rw [Int.tmod_eq_emod_of_nonneg (by omega)]
 rfl
def qnn : List Nat := [110, 111, 110, 101]
/-- what l07Goal may draw -/
structure DGoal (Q : T → Prop) (G : T) (t nm al : List Nat) (fr : Nat) : Prop where
 good : Good G
 q : Q G
 bs : bsB t = true
 len : t.length ≤ 13
 rule : ∃ (rules : List T) (ru : Nat) (nm0 : List Nat) (ps az : T) (pl : List T), G = T.agg [.list rules] ∧ rules[ru]? = some (.agg [.str nm0, ps, az]) ∧ qce ps = some pl ∧ (nm = nm0 ∨ nm = qnn) ∧ (al.length = pl.length → ∀ a ∈ al, a ≤ 99)
 al : al.length ≤ 1000
/-- the rules of a right grammar have names and parameters -/
def Rows (G : T) : Prop := ∃ rules : List T, G = .agg [.list rules] ∧ 0 < rules.length ∧ rules.length ≤ 1000 ∧ ∀ y ∈ rules, ∃ nm ps az pl, y = .agg [.str nm, ps, az] ∧ qce ps = some pl ∧ pl.length ≤ 6
theorem goal_lv {Q : T → Prop} (hP : qng Q) (hQ : ∀ G, Q G → Rows G) (hlong : ∀ n : Nat, n < 14 → ∀ σ, LD S 35 [.t (I n), .t (.int .u8 97)] σ = some (.t (.str (List.replicate n 97)), σ)) {x : T} {l : List Int} (hx : BytesT x l) (hl : (l.length : Int) ≤ 1048576) {σ : Store} {c : Nat} (hC : CurAt σ c x l) :
  ∃ v σ', LV S 20 [.ptr c 0 0 3] σ = some (v, σ') ∧ ∃ G t nm al fr d g w, v = .tup [.t G, .t (.str t), .t (.str nm), .sl d g 0 al.length 1, .t (I (fr : Nat))] ∧ DGoal Q G t nm al fr ∧ σ'[d]? = some (.cells (ints al) g w) ∧ w ≤ g ∧ ∀ j, j < σ.length → j ≠ c → σ'[j]? = σ[j]? := by
 suffices hh : ∃ v σ', LV S 20 [.ptr c 0 0 3] σ = some (v, σ') ∧ ∃ G t nm al fr d g w, v = .tup [.t G, .t (.str t), .t (.str nm), .sl d g 0 al.length 1, .t (I (fr : Nat))] ∧ DGoal Q G t nm al fr ∧ σ'[d]? = some (.cells (ints al) g w) ∧ w ≤ g ∧ ∀ j, j < σ.length → j ≠ c → σ'[j]? = σ[j]? from hh
 refine qaq (A := A20) rfl Tryz.func20 rfl ?_
 have lc := hC.lt
 obtain ⟨oc, hc0, hoc⟩ := hC
 refine wR rfl (by simp; rfl) ?_
 try simp only [tq]
 have hC1 : CurAt (σ ++ [.cells [.t .nils] 0 0]) c x l := ⟨oc, by rw [List.getElem?_append_left lc]; exact hc0, hoc⟩
 have h2 : (σ ++ [V.Obj.cells [V.t .nils] 0 0])[σ.length]? = some (.cells [.t .nils] 0 0) := by rw [getA]; rfl
 have hL1 : (σ ++ [V.Obj.cells [V.t .nils] 0 0]).length = σ.length + 1 := by simp
 have hfr : ∀ j, j < σ.length → j ≠ c → (σ ++ [V.Obj.cells [V.t .nils] 0 0])[j]? = σ[j]? := fun j hj _ => List.getElem?_append_left hj
 revert hC1 h2 hL1 hfr
 generalize (σ ++ [V.Obj.cells [V.t .nils] 0 0]) = τ
 intro hC1 h2 hL1 hfr
 obtain ⟨r, o1, b1, b2, b3⟩ := qek hx hl hC1 (n := 16) (by omega) (by omega)
 have b1' : LD S 33 [.ptr c 0 0 3, .t (I 16)] τ = some (.t (I r), τ.set c o1) := b1
 obtain ⟨k, o2, d1, d2, d3⟩ := qek hx hl (hC1.set b3) (n := 60) (by omega) (by omega)
 rw [List.set_set] at d1
 have d1' : LD S 33 [.ptr c 0 0 3, .t (I 60)] (τ.set c o1) = some (.t (I k), τ.set c o2) := d1
 refine wR rfl (by simp [b1']; rfl) ?_
 refine wR rfl (by simp [d1']; rfl) ?_
 try simp only [tq]
 have hC2 := hC1.set d3
 have h3 : (τ.set c o2)[σ.length]? = some (.cells [.t .nils] 0 0) := by rw [List.getElem?_set_ne (by omega)]; exact h2
 have hL2 : (τ.set c o2).length = σ.length + 1 := by simp [hL1]
 have hfr2 : ∀ j, j < σ.length → j ≠ c → (τ.set c o2)[j]? = σ[j]? := fun j hj hn => by rw [List.getElem?_set_ne (Ne.symm hn)]; exact hfr j hj hn
 revert hC2 h3 hL2 hfr2
 generalize τ.set c o2 = τ2
 intro hC2 h3 hL2 hfr2
 obtain ⟨G, t, σ1, p1, ⟨p2, pQ⟩, p3, p4, p5⟩ := pair_ld hP hx hl hC2
 obtain ⟨rules, rfl, hr0, hr1, hrs⟩ := hQ G pQ
 have q0 : σ1[σ.length]? = some (.cells [.t .nils] 0 0) := by rw [p5 _ (by omega) (by omega)]; exact h3
 have hfr3 : ∀ j, j < σ.length → j ≠ c → σ1[j]? = σ[j]? := fun j hj hn => by rw [p5 j (by omega) hn]; exact hfr2 j hj hn
 have lq := lt_of_get q0
 refine wR rfl (by simp [p1, getA, setA, qao, qac]; rfl) ?_
 try simp only [tq]
 have q1 : (σ1 ++ [V.Obj.cells [V.t (.list rules)] 0 0])[σ.length]? = some (.cells [.t .nils] 0 0) := by rw [List.getElem?_append_left lq]; exact q0
 have q3 : (σ1 ++ [V.Obj.cells [V.t (.list rules)] 0 0])[σ1.length]? = some (.cells [V.t (.list rules)] 0 0) := by rw [getA]; rfl
 have hL3 : (σ1 ++ [V.Obj.cells [V.t (.list rules)] 0 0]).length = σ1.length + 1 := by simp
 have hfr4 : ∀ j, j < σ.length → j ≠ c → (σ1 ++ [V.Obj.cells [V.t (.list rules)] 0 0])[j]? = σ[j]? := fun j hj hn => by rw [List.getElem?_append_left (by omega)]; exact hfr3 j hj hn
 revert q1 q3 hL3 hfr4
 generalize (σ1 ++ [V.Obj.cells [V.t (.list rules)] 0 0]) = σ2
 intro q1 q3 hL3 hfr4
 have e3 : (k : Int).tmod 3 = ((k % 3 : Nat) : Int) := tmN k 3
 have e4 : (k : Int).tmod 4 = ((k % 4 : Nat) : Int) := tmN k 4
 have e5 : (k : Int).tmod 5 = ((k % 5 : Nat) : Int) := tmN k 5
 have e2 : (k : Int).tmod 2 = ((k % 2 : Nat) : Int) := tmN k 2
 have er : (k : Int).tmod rules.length = ((k % rules.length : Nat) : Int) := tmN k rules.length
 have hne : ¬ rules.length = 0 := by omega
 have hne2 : ¬ rules = [] := fun h => by rw [h] at hr0; simp at hr0
 obtain ⟨ru, hru, hb⟩ : ∃ ru, ru < rules.length ∧ ((0 < k % 3 ∧ ru = k % rules.length) ∨ (¬ 0 < k % 3 ∧ ru = 0)) := by
  by_cases c : 0 < k % 3
  ·exact ⟨k % rules.length, Nat.mod_lt _ hr0, .inl ⟨c, rfl⟩⟩
  ·exact ⟨0, hr0, .inr ⟨c, rfl⟩⟩
 obtain ⟨y, hy⟩ := X.get_of_lt hru
 obtain ⟨nm0, ps, az, pl, rfl, hps, hpl⟩ := hrs y (List.mem_of_getElem? hy)
 have hlp : ∀ (σ : Store) (e : TypeId), lenV σ (.slice e) (.t ps) = some (pl.length : Int) := fun σ e => by
  rcases qdt hps with ⟨rfl, rfl⟩ | rfl <;> simp [lenV]
 refine wR rfl (by simp; rfl) ?_
 refine wR rfl (by simp [e3]; rfl) ?_
 try simp only [tq]
 rcases hb with ⟨c1, e⟩ | ⟨c1, e⟩
 case' inl =>
  refine wT rfl (by simp [show 0 < (k : Int) % 3 by omega]) ?_
  refine wR rfl (by simp [q3, er, hne, hne2]; rfl) ?_
  try simp only [tq]
  rw [show (k : Int) % rules.length = (ru : Int) by rw [e]; simp]
 case' inr =>
  refine wF rfl (by simp [show ¬ 0 < (k : Int) % 3 by omega]) ?_
  refine wK ?_
  try simp only [tq]
 all_goals
  refine wR rfl (by simp [qaa, qab, chunk, qao, hL3]; rfl) ?_
  refine wR rfl (by simp; rfl) ?_
  refine wB rfl ?_
  try simp only [tq]
  refine qat (I := fun m st τ' => ∃ (i g w : Nat), m = pl.length - i ∧ i ≤ pl.length ∧ w ≤ g ∧ st.vars = [(0, .ptr c 0 0 3), (2, .ptr σ.length 0 0 1), (3, .t (.str [])), (4, .t (.str [])), (5, .t .nils), (6, .t (I 0)), (7, .t (I r)), (8, .t (I k)), (9, .ptr σ1.length 0 0 1), (10, .t (.str t)), (11, .t (I ru)), (12, .sl (σ1.length + 1) g 0 i 1), (13, .t (I i))] ∧ τ' = σ2 ++ [.cells (ints (List.replicate i (k % 4))) g w]) ?_ pl.length _ _ ⟨0, 0, 0, rfl, Nat.zero_le _, Nat.le_refl _, by simp [e], by simp [ints]⟩
  rintro m ⟨vars, scr⟩ τ' ⟨i, g, w, rfl, hi, hw, hv, rfl⟩
  simp only at hv
  subst hv
  have q3' : ∀ o, (σ2 ++ [o])[σ1.length]? = some (.cells [V.t (.list rules)] 0 0) := fun o => by rw [List.getElem?_append_left (by omega)]; exact q3
  have q4 : ∀ o, (σ2 ++ [o])[σ1.length + 1]? = some o := fun o => by rw [← hL3, getA]; rfl
  have q5 : ∀ o o', (σ2 ++ [o]).set (σ1.length + 1) o' = σ2 ++ [o'] := fun o o' => by rw [← hL3, setA]; rfl
  refine wR rfl (by simp [-lenV, q3', hy, hlp]; rfl) ?_
  by_cases c2 : i < pl.length
  ·refine wT rfl (by simp [c2]) ?_
   refine wK ?_
   refine wB rfl ?_
   have hbn : (i + 1) * 8 ≤ 140737488355328 := by omega
   have hcl : (ints (List.replicate i (k % 4))).length = i := by simp
   refine wR rfl (by simp [e4, q4, q5, qaa, qab, chunk, qao, qap, qaf, qag, hcl, hbn, hw]; rfl) ?_
   refine wR rfl (by simp [IntWalk.i64_in ((i : Int) + 1) (by omega)]; rfl) ?_
   try simp only [tq]
   refine ⟨pl.length - (i + 1), by omega, i + 1, g + 1, w, rfl, c2, by omega, by simp, ?_⟩
   simp [ints, List.replicate_succ']
  ·refine wF rfl (by simp [c2]) ?_
   repeat apply qaw
   refine qal ?_
   try simp only [tq, if_true]
   have hi2 : i = pl.length := by omega
   subst hi2
   refine wR rfl (by simp; rfl) ?_
   try simp only [tq]
   obtain ⟨fr, hfrl, hb5⟩ : ∃ fr, fr ≤ t.length ∧ ((k % 5 = 0 ∧ 0 < t.length ∧ fr = k % t.length) ∨ (k % 5 = 0 ∧ t.length = 0 ∧ fr = 0) ∨ (¬ k % 5 = 0 ∧ fr = 0)) := by
    by_cases c5 : k % 5 = 0
    ·by_cases c6 : 0 < t.length
     ·exact ⟨k % t.length, Nat.le_of_lt (Nat.mod_lt _ c6), .inl ⟨c5, c6, rfl⟩⟩
     ·exact ⟨0, by omega, .inr (.inl ⟨c5, by omega, rfl⟩)⟩
    ·exact ⟨0, by omega, .inr (.inr ⟨c5, rfl⟩)⟩
   have et : (k : Int).tmod t.length = ((k % t.length : Nat) : Int) := tmN k t.length
   have g1 : ∀ o o', ((σ2 ++ [o]).set σ.length o')[σ.length]? = some o' := fun o o' => List.getElem?_set_self (by simp; omega)
   have g2 : ∀ o o', ((σ2 ++ [o]).set σ.length o')[σ1.length + 1]? = some o := fun o o' => by rw [List.getElem?_set_ne (by omega)]; exact q4 o
   have g3 : ∀ o o' j, j < σ.length → j ≠ c → ((σ2 ++ [o]).set σ.length o')[j]? = σ[j]? := fun o o' j hj hn => by
    rw [List.getElem?_set_ne (by omega), List.getElem?_append_left (by omega)]
    exact hfr4 j hj hn
   have g4 : ∀ o, (σ2 ++ [o])[σ.length]? = some (.cells [.t .nils] 0 0) := fun o => by rw [List.getElem?_append_left (by omega)]; exact q1
   have hmk : ∀ (t' nm' al' : List Nat) (fr' : Nat), bsB t' = true → t'.length ≤ 13 → (nm' = nm0 ∨ nm' = qnn) → (al'.length = pl.length → ∀ a ∈ al', a ≤ 99) → al'.length ≤ 1000 → DGoal Q (.agg [.list rules]) t' nm' al' fr' := fun t' nm' al' fr' a1 a2 a3 a4 a5 => ⟨p2, pQ, a1, a2, ⟨rules, ru, nm0, ps, az, pl, rfl, hy, hps, a3, a4⟩, a5⟩
   have hal : ∀ a ∈ List.replicate pl.length (k % 4), a ≤ 99 := fun a ha => by
    have := List.eq_of_mem_replicate ha
    omega
   have w2 := IntWalk.i64_in (12 + (k : Int) % 2) (by omega)
   have hl2 : ∀ σ, LD S 35 [.t (I (12 + (k : Int) % 2)), .t (.int .u8 97)] σ = some (.t (.str (List.replicate (12 + k % 2) 97)), σ) := fun σ => by
    have := hlong (12 + k % 2) (by omega) σ
    simpa using this
   have hb9 : bsB (List.replicate (12 + k % 2) 97) = true := List.all_eq_true.2 fun y hy => by rw [List.eq_of_mem_replicate hy]; rfl
   have hcl : (ints (List.replicate pl.length (k % 4))).length = pl.length := by simp
   rcases hb5 with ⟨c5, c6, e6⟩ | ⟨c5, c6, e6⟩ | ⟨c5, e6⟩
   case' inl =>
    refine wR rfl (by simp [e5, show ((k : Int) % 5 == 0) = true by simp; omega]; rfl) ?_
    refine wT rfl (by simp [show 0 < t.length by omega]) ?_
    refine wR rfl (by simp [et, show ¬ t.length = 0 by omega, show ¬ t = [] from fun h => by rw [h] at c6; simp at c6]; rfl) ?_
    try simp only [tq]
    rw [show (k : Int) % t.length = (fr : Int) by rw [e6]; simp]
   case' inr.inl =>
    refine wR rfl (by simp [e5, show ((k : Int) % 5 == 0) = true by simp; omega]; rfl) ?_
    refine wF rfl (by simp [show t = [] from List.length_eq_zero_iff.1 c6]) ?_
    refine wK ?_
    try simp only [tq]
   case' inr.inr =>
    refine wR rfl (by simp [e5, show ((k : Int) % 5 == 0) = false by simp; omega]; rfl) ?_
    refine wF rfl (by simp) ?_
    refine wK ?_
    try simp only [tq]
   all_goals
    refine wR rfl (by simp [q3', hy]; rfl) ?_
    refine wR rfl (by simp; rfl) ?_
    refine wB rfl ?_
    by_cases r0 : r = 0
    ·refine wR rfl (by simp [r0]; rfl) ?_
     refine wT rfl (by simp) ?_
     refine wR rfl (by simp [e2, w2, hl2]; rfl) ?_
     refine wR rfl (by simp [q3', g4, qac]; rfl) ?_
     try simp only [tq]
     refine wX ?_
     exact ⟨trivial, .tup [.t (.agg [.list rules]), .t (.str (List.replicate (12 + k % 2) 97)), .t (.str nm0), .sl (σ1.length + 1) g 0 pl.length 1, .t (I (fr : Nat))], (by simp [Tryz.f20, g1, qcc, allT, qjh, e6]), _, (List.replicate (12 + k % 2) 97), nm0, (List.replicate pl.length (k % 4)), fr, σ1.length + 1, g, w, by simp, hmk _ _ _ _ hb9 (by simp; omega) (.inl rfl) (fun _ => hal) (by simp; omega), by rw [g2], by omega, g3 _ _⟩
    ·refine wR rfl (by simp [show ((r : Int) == 0) = false by simp; omega]; rfl) ?_
     refine wF rfl (by simp) ?_
     by_cases r1 : r = 1
     ·refine wR rfl (by simp [r1]; rfl) ?_
      refine wT rfl (by simp) ?_
      refine wR rfl (by simp; rfl) ?_
      refine wR rfl (by simp [q3', g4, qac]; rfl) ?_
      try simp only [tq]
      refine wX ?_
      exact ⟨trivial, .tup [.t (.agg [.list rules]), .t (.str t), .t (.str qnn), .sl (σ1.length + 1) g 0 pl.length 1, .t (I (fr : Nat))], (by simp [Tryz.f20, g1, qcc, allT, qjh, e6, qnn]), _, t, qnn, (List.replicate pl.length (k % 4)), fr, σ1.length + 1, g, w, by simp [qnn], hmk _ _ _ _ p3 (by omega) (.inr rfl) (fun _ => hal) (by simp; omega), by rw [g2], by omega, g3 _ _⟩
     ·refine wR rfl (by simp [show ((r : Int) == 1) = false by simp; omega]; rfl) ?_
      refine wF rfl (by simp) ?_
      by_cases r2 : r = 2
      ·refine wR rfl (by simp [r2]; rfl) ?_
       refine wT rfl (by simp) ?_
       refine wR rfl (by simp [e2, IntWalk.i64_in (100 * ((k : Int) % 2)) (by omega), q4, q5, qaa, qab, chunk, qao, qap, qaf, qag, hcl, show (pl.length + 1) * 8 ≤ 140737488355328 by omega, show w ≤ g from hw]; rfl) ?_
       refine wR rfl (by simp [q3', g4, qac]; rfl) ?_
       try simp only [tq]
       refine wX ?_
       exact ⟨trivial, .tup [.t (.agg [.list rules]), .t (.str t), .t (.str nm0), .sl (σ1.length + 1) (g + 1) 0 (pl.length + 1) 1, .t (I (fr : Nat))], (by simp [Tryz.f20, g1, qcc, allT, qjh, e6]), _, t, nm0, (List.replicate pl.length (k % 4) ++ [100 * (k % 2)]), fr, σ1.length + 1, (g + 1), w, by simp, hmk _ _ _ _ p3 (by omega) (.inl rfl) (fun h => by simp at h) (by simp; omega), by rw [g2]; simp [ints], by omega, g3 _ _⟩
      ·refine wR rfl (by simp [show ((r : Int) == 2) = false by simp; omega]; rfl) ?_
       refine wF rfl (by simp) ?_
       by_cases r3 : r = 3
       ·refine wR rfl (by simp [r3]; rfl) ?_
        refine wT rfl (by simp) ?_
        refine wR rfl (by simp [e2, IntWalk.i64_in ((t.length : Int) + (k : Int) % 2) (by omega)]; rfl) ?_
        refine wR rfl (by simp [q3', g4, qac]; rfl) ?_
        try simp only [tq]
        refine wX ?_
        exact ⟨trivial, .tup [.t (.agg [.list rules]), .t (.str t), .t (.str nm0), .sl (σ1.length + 1) g 0 pl.length 1, .t (I ((t.length + k % 2) : Nat))], (by simp [Tryz.f20, g1, qcc, allT, qjh, e6]), _, t, nm0, (List.replicate pl.length (k % 4)), (t.length + k % 2), σ1.length + 1, g, w, by simp, hmk _ _ _ _ p3 (by omega) (.inl rfl) (fun _ => hal) (by simp; omega), by rw [g2], by omega, g3 _ _⟩
       ·refine wR rfl (by simp [show ((r : Int) == 3) = false by simp; omega]; rfl) ?_
        refine wF rfl (by simp) ?_
        refine wK ?_
        refine wR rfl (by simp [q3', g4, qac]; rfl) ?_
        try simp only [tq]
        refine wX ?_
        exact ⟨trivial, .tup [.t (.agg [.list rules]), .t (.str t), .t (.str nm0), .sl (σ1.length + 1) g 0 pl.length 1, .t (I (fr : Nat))], (by simp [Tryz.f20, g1, qcc, allT, qjh, e6]), _, t, nm0, (List.replicate pl.length (k % 4)), fr, σ1.length + 1, g, w, by simp, hmk _ _ _ _ p3 (by omega) (.inl rfl) (fun _ => hal) (by simp; omega), by rw [g2], by omega, g3 _ _⟩
theorem qxr {Q : T → Prop} (hP : qng Q) (hQ : ∀ G, Q G → Rows G) (hlong : ∀ n : Nat, n < 14 → ∀ σ, LD S 35 [.t (I n), .t (.int .u8 97)] σ = some (.t (.str (List.replicate n 97)), σ)) {x : T} {l : List Int} (hx : BytesT x l) (hl : (l.length : Int) ≤ 1048576) :
  ∃ G t nm al fr, (∀ σ, LD S 6 [.t x] σ = some (.t (.tup [G, .str t, .str nm, .list (qax al), I (fr : Nat)]), σ)) ∧ DGoal Q G t nm al fr := by
 suffices hh : ∃ v σ', LV S 6 [.t x] [] = some (v, σ') ∧ ∃ G t nm al fr, frz 40 σ' v = some (.tup [G, .str t, .str nm, .list (qax al), I (fr : Nat)]) ∧ DGoal Q G t nm al fr by
  obtain ⟨v, σ', h1, G, t, nm, al, fr, h2, h3⟩ := hh
  exact ⟨G, t, nm, al, fr, fun σ => qaj (A := A6) (args := [.t x]) rfl rfl rfl h1 h2 σ, h3⟩
 obtain ⟨h0, hnew⟩ := new_lv hx hl [.cells [.t .nils] 0 0]
 have hC : CurAt ([V.Obj.cells [V.t .nils] 0 0] ++ [Cur x 0 h0]) 1 x l := ⟨_, rfl, 0, h0, rfl, by omega, by omega⟩
 obtain ⟨v, σ1, p1, G, t, nm, al, fr, d, g, w, rfl, p2, p3, p4, p5⟩ := goal_lv hP hQ hlong hx hl hC
 have hnew' : LD S 21 [.t x] [.cells [.t .nils] 0 0] = some (.ptr 1 0 0 3, [.cells [.t .nils] 0 0, Cur x 0 h0]) := hnew
 have p1' : LD S 20 [.ptr 1 0 0 3] [.cells [.t .nils] 0 0, Cur x 0 h0] = some (.tup [.t G, .t (.str t), .t (.str nm), .sl d g 0 al.length 1, .t (I (fr : Nat))], σ1) := by rw [qbt (A := A20) rfl rfl rfl]; exact p1
 have q0 : σ1[0]? = some (.cells [.t .nils] 0 0) := by rw [p5 0 (by simp) (by decide)]; rfl
 have lq := lt_of_get q0
 obtain ⟨rules, ru, nm0, ps, az, pl, rfl, p6⟩ := p2.rule
 have hd0 : d ≠ 0 := fun e => by
  subst e
  rw [q0] at p3
  cases al with
  | nil => simp [ints] at p3
  | cons a r => simp [ints] at p3
 have q2 : ∀ o', (σ1.set 0 o')[0]? = some o' := fun o' => List.getElem?_set_self lq
 refine qaq (A := A6) rfl Tryz.func6 rfl ?_
 refine wR rfl (by simp; rfl) ?_
 refine wR rfl (by simp [hnew', p1', q0, qao, qac]; rfl) ?_
 try simp only [tq]
 refine wX ?_
 refine ⟨trivial, .tup [.t (.agg [.list rules]), .t (.str t), .t (.str nm), .sl d g 0 al.length 1, .t (I (fr : Nat))], (by simp [Tryz.f6, q2, qcc, allT, qjh]), _, t, nm, al, fr, ?_, p2⟩
 have z := qhe 37 (σ := σ1.set 0 (.cells [.t (.list rules)] 0 0)) (by rw [List.getElem?_set_ne (Ne.symm hd0)]; exact p3) p4
 rw [frz]
 simp only [frzs, z]
 rfl
end E
namespace E
open X
attribute [-simp] lenV idxV getElem?_pos
/-! ### A drawn goal's run, in both -/
structure GramN (RA : List Nat → Option Nat) (rules : List T) : Prop where
 named : ∀ i nm ps az, rules[i]? = some (.agg [.str nm, ps, az]) → RA nm = some i
 noneS : ∀ σ, LD S 28 [.t (.agg [.list rules]), .t (.str qnn)] σ = some (.t (I (-1)), σ)
 noneI : ∀ σ, LD S 22 [.t (.agg [.list rules]), .t (.str qnn)] σ = some (.t (I (-1)), σ)
/-- what bars a run -/
def Bad (rules : List T) (text : List Nat) (r : Int) (al : List Nat) (fr : Int) : Prop := 12 < text.length ∨ r < 0 ∨ ∃ (ru : Nat) (nz ps az : T) (pl : List T), r = ru ∧ rules[ru]? = some (.agg [nz, ps, az]) ∧ qce ps = some pl ∧ (pl.length ≠ al.length ∨ (pl.length = al.length ∧ inF fr 0 text.length = false))
theorem runS_bad {rules : List T} {text nm al : List Nat} {r : Int} {x : T} {fr : Int} (gok : ∀ σ, LD S 29 [.t (.agg [.list rules])] σ = some (.t (B true), σ)) (hru : ∀ σ, LD S 28 [.t (.agg [.list rules]), .t (.str nm)] σ = some (.t (I r), σ)) (hx : Is x al) (hb : Bad rules text r al fr) (σ : Store) :
  LD S 8 [.t (.agg [.list rules]), .t (.str text), .t (.str nm), .t x, .t (I fr)] σ = some (.t (.tup [.agg [.nils], B false]), σ) := by
 suffices hh : ∃ v σ', LV S 8 [.t (.agg [.list rules]), .t (.str text), .t (.str nm), .t x, .t (I fr)] [] = some (v, σ') ∧ frz 40 σ' v = some (.tup [.agg [.nils], B false]) by
  obtain ⟨v, σ', h1, h2⟩ := hh
  exact qaj (A := A8) (args := [.t (.agg [.list rules]), .t (.str text), .t (.str nm), .t x, .t (I fr)]) rfl rfl rfl h1 h2 σ
 have hin := qqo fr 0 text.length
 have hlx := hx.len
 refine qaq (A := A8) rfl Tryz.func8 rfl ?_
 refine wR rfl (by simp; rfl) ?_
 refine wR rfl (by simp [hru]; rfl) ?_
 try simp only [tq]
 by_cases ht : (12 : Int) < (text.length : Int)
 case' pos =>
  refine wR rfl (by simp [gok, ht]; rfl) ?_
  refine wT rfl (by simp) ?_
  try simp only [tq]
 case' neg =>
  by_cases hr : r < 0
  case' pos =>
   refine wR rfl (by simp [gok, ht, hr]; rfl) ?_
   refine wT rfl (by simp) ?_
   try simp only [tq]
  case' neg =>
   obtain ⟨ru, nz, ps, az, pl, rfl, hrl, hps, hbad⟩ := (hb.resolve_left (by omega)).resolve_left hr
   have hlp : ∀ (σ : Store) (e : TypeId), lenV σ (.slice e) (.t ps) = some (pl.length : Int) := fun σ e => by
    rcases qdt hps with ⟨rfl, rfl⟩ | rfl <;> simp [lenV]
   by_cases hl : al.length = pl.length
   case' pos =>
    have hf : inF fr 0 text.length = false := by
     rcases hbad with h | h
     ·exact absurd hl.symm h
     ·exact h.2
    rw [hf] at hin
    refine wR rfl (by simp [gok, ht, hin, hr, hlx, hlp, hrl, hl, idxV]; rfl) ?_
    refine wT rfl (by simp) ?_
    try simp only [tq]
   case' neg =>
    refine wR rfl (by simp [gok, ht, hr, hlx, hlp, hrl, idxV, show ((al.length : Int) != pl.length) = true by simp; omega]; rfl) ?_
    refine wT rfl (by simp) ?_
    try simp only [tq]
 all_goals
  refine wR rfl (by simp [qbz, qar, qao, qab]; rfl) ?_
  try simp only [tq]
  refine wX ?_
  exact ⟨trivial, .t (.tup [.agg [.nils], B false]), (by simp [Tryz.f8]), rfl⟩
theorem runI_bad {rules : List T} {text nm al : List Nat} {r : Int} {x : T} {fr : Int} (gok : ∀ σ, LD S 23 [.t (.agg [.list rules])] σ = some (.t (B true), σ)) (hru : ∀ σ, LD S 22 [.t (.agg [.list rules]), .t (.str nm)] σ = some (.t (I r), σ)) (hx : Is x al) (hb : Bad rules text r al fr) (hal : al.length ≤ 1000) (h99 : ∀ (ru : Nat) (nz ps az : T) (pl : List T), r = ru → rules[ru]? = some (.agg [nz, ps, az]) → qce ps = some pl → al.length = pl.length → ∀ a ∈ al, a ≤ 99) (σ : Store) :
  LD S 7 [.t (.agg [.list rules]), .t (.str text), .t (.str nm), .t x, .t (I fr)] σ = some (.t (.tup [.agg [.nils], B false]), σ) := by
 suffices hh : ∃ v σ', LV S 7 [.t (.agg [.list rules]), .t (.str text), .t (.str nm), .t x, .t (I fr)] [] = some (v, σ') ∧ frz 40 σ' v = some (.tup [.agg [.nils], B false]) by
  obtain ⟨v, σ', h1, h2⟩ := hh
  exact qaj (A := A7) (args := [.t (.agg [.list rules]), .t (.str text), .t (.str nm), .t x, .t (I fr)]) rfl rfl rfl h1 h2 σ
 have hin := G.within_ld fr 0 text.length
 have hlx := hx.len
 refine qaq (A := A7) rfl Tryz.func7 rfl ?_
 refine wR rfl (by simp; rfl) ?_
 refine wR rfl (by simp [hru]; rfl) ?_
 try simp only [tq]
 by_cases ht : (12 : Int) < (text.length : Int)
 case' pos =>
  refine wR rfl (by simp [gok, ht]; rfl) ?_
  refine wT rfl (by simp) ?_
  try simp only [tq]
 case' neg =>
  by_cases hr : r < 0
  case' pos =>
   refine wR rfl (by simp [gok, ht, hr]; rfl) ?_
   refine wT rfl (by simp) ?_
   try simp only [tq]
  case' neg =>
   obtain ⟨ru, nz, ps, az, pl, rfl, hrl, hps, hbad⟩ := (hb.resolve_left (by omega)).resolve_left hr
   have hlp : ∀ (σ : Store) (e : TypeId), lenV σ (.slice e) (.t ps) = some (pl.length : Int) := fun σ e => by
    rcases qdt hps with ⟨rfl, rfl⟩ | rfl <;> simp [lenV]
   by_cases hl : al.length = pl.length
   case' pos =>
    have hf : inF fr 0 text.length = false := by
     rcases hbad with h | h
     ·exact absurd hl.symm h
     ·exact h.2
    rw [hf] at hin
    have hnum := G.numbersIn_ld hx (h99 ru nz ps az pl rfl hrl hps hl) hal
    refine wR rfl (by simp [gok, ht, hin, hnum, hr, hlx, hlp, hrl, hl, idxV]; rfl) ?_
    refine wT rfl (by simp) ?_
    try simp only [tq]
   case' neg =>
    refine wR rfl (by simp [gok, ht, hr, hlx, hlp, hrl, idxV, show ((al.length : Int) != pl.length) = true by simp; omega]; rfl) ?_
    refine wT rfl (by simp) ?_
    try simp only [tq]
 all_goals
  refine wR rfl (by simp [qbz, qar, qao, qab]; rfl) ?_
  try simp only [tq]
  refine wX ?_
  exact ⟨trivial, .t (.tup [.agg [.nils], B false]), (by simp [Tryz.f7]), rfl⟩
theorem qyq (σ : Store) : LD S 9 [.t (.agg [.nils]), .t (.agg [.nils])] σ = some (.t (B true), σ) := by
 suffices hh : ∃ σ', LV S 9 [.t (.agg [.nils]), .t (.agg [.nils])] [] = some (.t (B true), σ') by
  obtain ⟨σ', hh⟩ := hh
  exact qaj (A := A9) (v := .t (B true)) rfl rfl rfl hh rfl σ
 refine qbm (A := A9) rfl Tryz.func9 rfl ?_
 refine wR rfl (by simp; rfl) ?_
 refine wR rfl (by simp [lenV]; rfl) ?_
 refine wF rfl (by simp) ?_
 refine wK ?_
 refine wR rfl (by simp; rfl) ?_
 refine wB rfl ?_
 try simp only [tq]
 refine qay ?_
 refine wR rfl (by simp [lenV]; rfl) ?_
 refine wF rfl (by simp) ?_
 repeat apply qaw
 refine qal ?_
 try simp only [tq, if_true]
 refine wR rfl (by simp; rfl) ?_
 refine wX ?_
 try simp only [tq]
 simp [Tryz.f9]
/-- what a chart is good for -/
structure Chart (n : Nat) (gs : List Gl) : Prop where
 ne : gs ≠ []
 len : gs.length ≤ 300
 gi : ∀ g ∈ gs, Asc1 g.from_ n g.ends ∧ g.ranks.length = g.ends.length ∧ g.args.length ≤ 1000 ∧ g.ends.length ≤ 13
 rk : (rks gs).Nodup
theorem rows_I (gs : List Gl) : qks gs (G.rowsT gs) := by
 refine ⟨by simp [G.rowsT], fun i g hg => ⟨.list (qax g.args), G.lT g.ends, G.lT g.ranks, ?_, .inr rfl, G.lT_is _, G.lT_is _⟩⟩
 simp only [G.rowsT, List.getElem?_map, hg, Option.map_some]
 rfl
/-- The run of a drawn goal: the same in both. -/
theorem run_both {SR : List Nat → Option (List Nat)} {MK : T → Option (List Bool)} {VN : List Nat → Bool} {RA : List Nat → Option Nat} {n0 : List Nat} {ps0 az0 : T} {gr : List T} (H : GramOk SR MK VN RA n0 ps0 az0 gr) (J : GramI SR MK VN RA (.agg [.str n0, ps0, az0] :: gr)) (N : GramN RA (.agg [.str n0, ps0, az0] :: gr))
  {Q : T → Prop} {t nm al : List Nat} {fr : Nat} (hD : DGoal Q (.agg [.list (.agg [.str n0, ps0, az0] :: gr)]) t nm al fr) :
  ∃ (o : Option (List Gl)) (y1 y2 e1 e2 : T), X.chartT o y1 ∧ X.chartT o y2 ∧ Is e1 (qiu o) ∧ Is e2 (qiu o) ∧ (∀ gs, o = some gs → Chart t.length gs) ∧
    (∀ σ, LD S 7 [.t (.agg [.list (.agg [.str n0, ps0, az0] :: gr)]), .t (.str t), .t (.str nm), .t (.list (qax al)), .t (I fr)] σ = some (.t y1, σ)) ∧
    (∀ σ, LD S 8 [.t (.agg [.list (.agg [.str n0, ps0, az0] :: gr)]), .t (.str t), .t (.str nm), .t (.list (qax al)), .t (I fr)] σ = some (.t y2, σ)) ∧
    (∀ σ, LD S 11 [.t (.agg [.list (.agg [.str n0, ps0, az0] :: gr)]), .t (.str t), .t (.str nm), .t (.list (qax al)), .t (I fr)] σ = some (.t e1, σ)) ∧
    ∀ σ, LD S 13 [.t (.agg [.list (.agg [.str n0, ps0, az0] :: gr)]), .t (.str t), .t (.str nm), .t (.list (qax al)), .t (I fr)] σ = some (.t e2, σ) := by
 obtain ⟨rules, ru, nm0, ps, az, pl, hG, hrl, hps, hnm, h99⟩ := hD.rule
 simp only [T.agg.injEq, List.cons.injEq, T.list.injEq, and_true] at hG
 have hIs : Is (.list (qax al)) al := .inr rfl
 have hra := N.named ru nm0 ps az (by rw [hG]; exact hrl)
 have hrS := H.rules nm0 ru hra
 have hrI := J.fx.ra nm0 ru hra
 obtain ⟨r, hr1, hr2, hr3⟩ : ∃ r : Int, (∀ σ, LD S 28 [.t (.agg [.list (.agg [.str n0, ps0, az0] :: gr)]), .t (.str nm)] σ = some (.t (I r), σ)) ∧ (∀ σ, LD S 22 [.t (.agg [.list (.agg [.str n0, ps0, az0] :: gr)]), .t (.str nm)] σ = some (.t (I r), σ)) ∧ (r < 0 ∨ (r = ru ∧ nm = nm0)) := by
  rcases hnm with rfl | rfl
  ·exact ⟨ru, hrS, hrI, .inr ⟨rfl, rfl⟩⟩
  ·exact ⟨-1, N.noneS, N.noneI, .inl (by omega)⟩
 by_cases hb : Bad rules t r al fr
 ·rw [← hG] at hb
  have s1 := runS_bad H.gok hr1 hIs hb
  have s2 := runI_bad J.gok hr2 hIs hb hD.al (fun ru' nz' ps' az' pl' e1 e2 e3 e4 => by
   rcases hr3 with hr3 | ⟨rfl, -⟩
   ·omega
   ·have : ru' = ru := by omega
    subst this
    rw [hG, hrl] at e2
    cases e2
    rw [hps] at e3
    cases e3
    exact h99 e4)
  obtain ⟨x, z1, z2⟩ := q0p (o := none) s1 rfl (by simp)
  exact ⟨none, _, _, _, _, rfl, rfl, .inl ⟨rfl, rfl⟩, z1, fun gs h => (by cases h), s2, s1, endsI_no s2, z2⟩
 ·have b1 : t.length ≤ 12 := by
   rcases Nat.lt_or_ge 12 t.length with h | h
   ·exact absurd (.inl h) hb
   ·exact h
  have hr4 : r = ru ∧ nm = nm0 := hr3.resolve_left fun h => hb (.inr (.inl h))
  obtain ⟨rfl, rfl⟩ := hr4
  have b2 : pl.length = al.length := Decidable.byContradiction fun h => hb (.inr (.inr ⟨ru, _, ps, az, pl, rfl, hrl, hps, .inl h⟩))
  have b3 : inF fr 0 t.length = true := by
   cases h : inF fr 0 t.length with
   | true => rfl
   | false => exact absurd (.inr (.inr ⟨ru, _, ps, az, pl, rfl, hrl, hps, .inr ⟨b2, h⟩⟩)) hb
  simp only [inF, Bool.and_eq_true, decide_eq_true_eq] at b3
  have b4 := h99 b2.symm
  rw [← hG] at hrl
  have hru : ru < (T.agg [.str n0, ps0, az0] :: gr).length := X.lt_of_get hrl
  obtain ⟨s', h1, h2, h3⟩ := run_tot H.right hD.bs b1 hru hD.al (fr := fr) (by omega)
  have hrun : RunOk (mkK SR MK VN RA t) (.agg [.str n0, ps0, az0] :: gr) t nm ru al fr :=
   { k := mkK_ok H.sets H.marks H.names H.rules t
     gok := H.gok
     ruleAt := hra
     rule := ⟨_, ps, az, pl, hrl, hps, b2⟩
     len := b1
     from_ := by omega
     args := ⟨hD.al, b4⟩ }
  obtain ⟨y, r1, r2⟩ := run_ld hrun (x := .list (qax al)) (.inr rfl) h1
  obtain ⟨x, e1, e2⟩ := q0p r1 r2 h2
  obtain ⟨s2, o, g1, g2, g3⟩ := qzn J.fx ⟨H.right, J.two, H.ar, J.c⟩ hD.bs b1 J.gok hra hrl hps hIs b2 hD.al b4 (fr := fr) (by omega)
  rw [h1] at g1
  cases g1
  obtain ⟨z, z1, z2⟩ : ∃ z, G.endsT o = some z ∧ Is z (qiu (outS s')) := by
   rw [← g3]
   cases o with
   | none => exact ⟨.nils, rfl, .inl ⟨rfl, rfl⟩⟩
   | some s =>
    cases hg : s.goals with
    | nil => exact absurd (by rw [← g3, Option.map_some, hg]) h2
    | cons g gs => exact ⟨G.lT g.ends, by simp [G.endsT, hg], by simp only [Option.map_some, hg, qiu]; exact G.lT_is _⟩
  refine ⟨outS s', _, y, z, x, ?_, r2, z2, e1, fun gs hgs => ?_, fun σ => G.runGoal_ld NN_ok hIs g2 σ, r1, fun σ => G.endsOf_ld NN_ok hIs g2 z1 σ, e2⟩
  ·rw [← g3]
   cases o with
   | none => rfl
   | some s => exact ⟨_, rfl, rows_I _⟩
  ·have hR : RI t.length (T.agg [.str n0, ps0, az0] :: gr).length ⟨[⟨ru, al, fr, [], []⟩], 0, true, false⟩ := by
    refine ⟨by simp, fun g hg => ?_, by simp [tot]⟩
    simp only [List.mem_singleton] at hg
    subst hg
    exact ⟨hru, by show fr ≤ _; omega, trivial, rfl, hD.al⟩
   obtain ⟨s3, q1, q2, _⟩ := qgi (SR := SR) (MK := MK) (VN := VN) (RA := RA) H.right hD.bs b1 (f := 5000) (by omega) 5000 _ hR (.inl (by simp [X.mu, tot]))
   rw [h1] at q1
   cases q1
   have hk := qwi rk_kept 5000 _ s' (by simp [RkOk, rks]) h1
   have hgg : gs = s'.goals := by
    unfold outS at hgs
    split at hgs
    ·cases hgs
    ·cases hgs; rfl
   subst hgg
   refine ⟨fun e => h2 (by rw [hgs, e]), q2.len, fun g hg => ?_, hk.1⟩
   have hi := q2.gi g hg
   exact ⟨hi.asc, hi.rk, hi.args, hi.len b1⟩
end E
namespace E
open X
attribute [-simp] lenV idxV getElem?_pos
/-! ### The law FnRuns -/
def QR (G : T) : Prop := ∃ SR MK VN RA n0 ps0 az0 gr, G = .agg [.list (.agg [.str n0, ps0, az0] :: gr)] ∧ GramOk SR MK VN RA n0 ps0 az0 gr ∧ GramI SR MK VN RA (.agg [.str n0, ps0, az0] :: gr) ∧ GramN RA (.agg [.str n0, ps0, az0] :: gr)
theorem qr_rows (G : T) (h : QR G) : Rows G := by
 obtain ⟨SR, MK, VN, RA, n0, ps0, az0, gr, rfl, H, J, -⟩ := h
 refine ⟨_, rfl, by simp, H.few, fun y hy => ?_⟩
 have hc := List.all_eq_true.1 J.c y hy
 unfold ruleC at hc
 split at hc
 rotate_left
 ·cases hc
 rename_i nm ps az
 simp only [Bool.and_eq_true] at hc
 obtain ⟨hc, -⟩ := hc
 split at hc
 rotate_left
 ·cases hc
 rename_i pl hpl
 simp only [Bool.and_eq_true, decide_eq_true_eq] at hc
 rcases qkv hpl with ⟨rfl, rfl⟩ | rfl
 ·exact ⟨nm, _, az, [], rfl, rfl, by simp⟩
 ·exact ⟨nm, _, az, _, rfl, rfl, by simpa using hc.2⟩
theorem q3i {hi : Nat} : ∀ {l : List Nat} {lo k a b : Nat}, Asc1 lo hi l → l[k]? = some a → l[k + 1]? = some b → a < b
 | x :: r, lo, 0, a, b, h, h1, h2 => by
  simp only [List.getElem?_cons_zero, Option.some.injEq] at h1
  subst h1
  exact (qqh h.2.2).2 b (List.mem_of_getElem? (by simpa using h2))
 | x :: r, lo, k + 1, a, b, h, h1, h2 => q3i h.2.2 (by simpa using h1) (by simpa using h2)
 | [], lo, k, a, b, h, h1, h2 => by simp at h1
theorem q0b : ∀ {l : List Gl}, (∀ g ∈ l, g.ranks.length ≤ 13) → (rks l).length ≤ l.length * 13
 | [], _ => by simp [rks]
 | g :: l, h => by
  have h1 := h g (List.mem_cons_self ..)
  have h2 := q0b (l := l) fun g' hg' => h g' (List.mem_cons_of_mem _ hg')
  simp only [rks, List.flatMap_cons, List.length_append, List.length_cons] at h2 ⊢
  omega
theorem law_runs (hP : qng QR) (hlong : ∀ n : Nat, n < 14 → ∀ σ, LD S 35 [.t (I n), .t (.int .u8 97)] σ = some (.t (.str (List.replicate n 97)), σ)) {x : T} {l : List Int} (hx : BytesT x l) :
  ∃ σ', LV S 3 [.t x] [] = some (.t (B true), σ') := by
 refine qbm (A := A3) rfl Tryz.func3 rfl ?_
 have hbig := big_ld hx
 refine wR rfl (by simp; rfl) ?_
 refine wR rfl (by simp [hbig]; rfl) ?_
 by_cases c0 : (1048576 : Int) < l.length
 ·refine wT rfl (by simp [c0]) ?_
  refine wR rfl (by simp; rfl) ?_
  refine wX ?_
  try simp only [tq]
  simp [Tryz.f3]
 refine wF rfl (by simp [c0]) ?_
 refine wK ?_
 obtain ⟨G, t, nm, al, fr, d1, hD⟩ := qxr hP qr_rows hlong hx (by omega)
 obtain ⟨SR, MK, VN, RA, n0, ps0, az0, gr, rfl, H, J, N⟩ := hD.q
 obtain ⟨o, y1, y2, e1, e2, hy1, hy2, he1, he2, hch, r1, r2, r3, r4⟩ := run_both H J N hD
 refine wR rfl (by simp [d1, qao, qac]; rfl) ?_
 cases o with
 | none =>
  simp only [X.chartT] at hy1 hy2
  subst hy1 hy2
  refine wR rfl (by simp [r1, qao, qac]; rfl) ?_
  refine wR rfl (by simp [r2, qao, qac]; rfl) ?_
  refine wR rfl (by simp [qyq]; rfl) ?_
  refine wF rfl (by simp) ?_
  refine wK ?_
  refine wR rfl (by simp [qaa, qab, chunk, qao]; rfl) ?_
  refine wR rfl (by simp; rfl) ?_
  refine wB rfl ?_
  try simp only [tq]
  refine qay ?_
  refine wR rfl (by simp [lenV]; rfl) ?_
  refine wF rfl (by simp) ?_
  repeat apply qaw
  refine qal ?_
  try simp only [tq, if_true]
  refine wR rfl (by simp [r3]; rfl) ?_
  have q := qgs he1 he2 (by simp [qiu])
  simp only [decide_true] at q
  refine wR rfl (by simp [r4, q]; rfl) ?_
  refine wX ?_
  try simp only [tq]
  simp [Tryz.f3]
 | some gs =>
  have C := hch gs rfl
  obtain ⟨rows1', rfl, hr1⟩ := hy1
  obtain ⟨rows2', rfl, hr2⟩ := hy2
  have hlen := C.len
  have hsame := qqx hr1 hr2 (by omega) (fun g hg => by have := C.gi g hg; omega)
  refine wR rfl (by simp [r1, qao, qac]; rfl) ?_
  refine wR rfl (by simp [r2, qao, qac]; rfl) ?_
  refine wR rfl (by simp [hsame]; rfl) ?_
  refine wF rfl (by simp) ?_
  refine wK ?_
  refine wR rfl (by simp [qaa, qab, chunk, qao]; rfl) ?_
  refine wR rfl (by simp; rfl) ?_
  refine wB rfl ?_
  try simp only [tq]
  have hrl : rows1'.length = gs.length := hr1.1
  refine qat (I := fun m st τ => ∃ (i g w : Nat) (L : List Nat) (rest : Store), m = gs.length - i ∧ i ≤ gs.length ∧ w ≤ g ∧ L = rks (gs.take i) ∧ st.vars = [(0, .t x), (2, .t (B false)), (3, .ptr 0 0 0 1), (4, .t (.str t)), (5, .t (.str nm)), (6, .t (.list (qax al))), (7, .t (I fr)), (8, .ptr 1 0 0 1), (9, .t (B true)), (10, .ptr 2 0 0 1), (11, .t (B true)), (12, .sl 3 g 0 L.length 1), (13, .t (I i))] ∧ τ = .cells [.t (.list (.agg [.str n0, ps0, az0] :: gr))] 0 0 :: .cells [.t (.list rows1')] 0 0 :: .cells [.t (.list rows2')] 0 0 :: .cells (ints L) g w :: rest) ?_ gs.length _ _ ⟨0, 0, 0, [], [], rfl, Nat.zero_le _, Nat.le_refl _, by simp [rks], by simp, by simp [ints]⟩
  rintro m ⟨vars, scr⟩ τ ⟨i, g, w, L, rest, rfl, hi, hw, hL, hv, rfl⟩
  simp only at hv
  subst hv
  refine wR rfl (by simp [hrl, lenV]; rfl) ?_
  by_cases c1 : i < gs.length
  ·refine wT rfl (by simp [c1]) ?_
   refine wK ?_
   refine wB rfl ?_
   obtain ⟨g0, hg0⟩ := X.get_of_lt c1
   obtain ⟨xa, e, k, a1, a2, a3, a4⟩ := hr1.2 i g0 hg0
   obtain ⟨ga, gb, gc, gd⟩ := C.gi g0 (List.mem_of_getElem? hg0)
   simp only [X.rowT] at a1
   have htk : gs.take (i + 1) = gs.take i ++ [g0] := by rw [List.take_add_one, hg0]; rfl
   have hrk : (rks (gs.take i) ++ g0.ranks).Nodup := by
    have h1 : gs = gs.take (i + 1) ++ gs.drop (i + 1) := (List.take_append_drop _ _).symm
    have h2 := C.rk
    rw [h1, htk] at h2
    simp only [rks, List.flatMap_append, List.flatMap_cons, List.flatMap_nil, List.append_nil, List.nodup_append] at h2
    unfold rks
    rw [List.nodup_append]
    exact h2.1
   refine wR rfl (by simp [a1, idxV, getA, setA, qao, qac]; rfl) ?_
   refine wR rfl (by simp; rfl) ?_
   refine wB rfl ?_
   try simp only [tq]
   refine qat (I := fun m st τ => ∃ (j g w : Nat) (L : List Nat), m = g0.ends.length - j ∧ j ≤ g0.ends.length ∧ w ≤ g ∧ L = rks (gs.take i) ++ g0.ranks.take j ∧ st.vars = [(0, .t x), (2, .t (B false)), (3, .ptr 0 0 0 1), (4, .t (.str t)), (5, .t (.str nm)), (6, .t (.list (qax al))), (7, .t (I fr)), (8, .ptr 1 0 0 1), (9, .t (B true)), (10, .ptr 2 0 0 1), (11, .t (B true)), (12, .sl 3 g 0 L.length 1), (13, .t (I i)), (14, .ptr (rest.length + 4) 0 0 5), (15, .t (I j))] ∧ τ = .cells [.t (.list (.agg [.str n0, ps0, az0] :: gr))] 0 0 :: .cells [.t (.list rows1')] 0 0 :: .cells [.t (.list rows2')] 0 0 :: .cells (ints L) g w :: (rest ++ [.cells [.t (I g0.rule), .t xa, .t (I g0.from_), .t e, .t k] 0 0])) ?_ g0.ends.length _ _ ⟨0, g, w, L, rfl, Nat.zero_le _, hw, by simpa using hL, by simp, by simp⟩
   clear hL hw
   rintro m ⟨vars, scr⟩ τ ⟨j, g, w, L, rfl, hj, hw, hL, hv, rfl⟩
   simp only at hv
   subst hv
   refine wR rfl (by simp [getA, a3.len]; rfl) ?_
   by_cases c2 : j < g0.ends.length
   ·refine wT rfl (by simp [c2]) ?_
    refine wK ?_
    refine wB rfl ?_
    obtain ⟨eb, heb⟩ := X.get_of_lt c2
    obtain ⟨rb, hrb⟩ := X.get_of_lt (show j < g0.ranks.length by omega)
    have ie := a3.idx heb
    have ir := a4.idx hrb
    have hfr0 := (qqh ga).2 eb (List.mem_of_getElem? heb)
    have hnin : L.contains rb = false := by
     rw [hL]
     simp only [List.contains_eq_mem, decide_eq_false_iff_not]
     intro hm
     have h1 : g0.ranks = g0.ranks.take j ++ rb :: g0.ranks.drop (j + 1) := by rw [← qak hrb, List.take_append_drop]
     rw [h1, ← List.append_assoc] at hrk
     exact (List.nodup_append.1 hrk).2.2 rb hm rb (List.mem_cons_self ..) rfl
    have hLl : L.length ≤ 4000 := by
     rw [hL, List.length_append, List.length_take]
     have h1 := q0b (l := gs.take i) (fun g hg => by have := C.gi g (List.mem_of_mem_take hg); omega)
     rw [List.length_take] at h1
     omega
    have hin : ∀ σ : Store, σ[3]? = some (.cells (ints L) g w) → LD S 10 [.sl 3 g 0 L.length 1, .t (I rb)] σ = some (.t (B false), σ) := fun σ h => by
     have := lawIn_ld h hw rb (by omega)
     rw [hnin] at this
     exact this
    have hpf : S.pf 10 = false := rfl
    have hcl : (ints L).length = L.length := by simp
    have hbn : (L.length + 1) * 8 ≤ 140737488355328 := by omega
    have hLn : L ++ [rb] = rks (gs.take i) ++ g0.ranks.take (j + 1) := by
     rw [hL, List.take_add_one, hrb, List.append_assoc]
     rfl
    by_cases c3 : j = 0
    ·have ie' : idxV 1 (.t e) 0 = some (.t (.snap [I eb])) := by rw [c3] at ie; exact ie
     have ir' : idxV 1 (.t k) 0 = some (.t (.snap [I rb])) := by rw [c3] at ir; exact ir
     refine wR rfl (by simp [hpf, c3, getA, ie', ir', hin, show ¬ (eb : Int) < g0.from_ by omega]; rfl) ?_
     refine wF rfl (by simp) ?_
     refine wK ?_
     refine wR rfl (by simp [getA, ir', qaa, qab, chunk, qao, qap, qaf, qag, hcl, hbn, hw]; rfl) ?_
     refine wR rfl (by simp [show IntKind.i64.wrap 1 = 1 from IntWalk.i64_in 1 (by omega)]; rfl) ?_
     try simp only [tq]
     exact ⟨g0.ends.length - (j + 1), by omega, j + 1, g + 1, w, L ++ [rb], rfl, by omega, by omega, hLn, by simp [c3], by simp [ints]⟩
    ·obtain ⟨j2, hj2⟩ : ∃ j2, j = j2 + 1 := ⟨j - 1, by omega⟩
     obtain ⟨ec, hec⟩ := X.get_of_lt (show j2 < g0.ends.length by omega)
     have ic := a3.idx hec
     have hlt := q3i ga hec (by rw [← hj2]; exact heb)
     have ie' : idxV 1 (.t e) ((j2 : Int) + 1) = some (.t (.snap [I eb])) := by rw [hj2] at ie; exact ie
     have ir' : idxV 1 (.t k) ((j2 : Int) + 1) = some (.t (.snap [I rb])) := by rw [hj2] at ir; exact ir
     refine wR rfl (by simp [hpf, hj2, getA, ie', ir', ic, hin, IntWalk.i64_in ((j2 : Int)) (by omega), show (0 : Int) < (j2 : Int) + 1 by omega, show ¬ eb ≤ ec by omega, show ¬ (eb : Int) < g0.from_ by omega]; rfl) ?_
     refine wF rfl (by simp) ?_
     refine wK ?_
     refine wR rfl (by simp [getA, ir', qaa, qab, chunk, qao, qap, qaf, qag, hcl, hbn, hw]; rfl) ?_
     refine wR rfl (by simp [IntWalk.i64_in ((j2 : Int) + 1 + 1) (by omega)]; rfl) ?_
     try simp only [tq]
     exact ⟨g0.ends.length - (j + 1), by omega, j + 1, g + 1, w, L ++ [rb], rfl, by omega, by omega, hLn, by simp [hj2], by simp [ints]⟩
   ·refine wF rfl (by simp [c2]) ?_
    repeat apply qaw
    refine qal ?_
    try simp only [tq, if_true]
    refine wR rfl (by simp [IntWalk.i64_in ((i : Int) + 1) (by omega)]; rfl) ?_
    try simp only [tq]
    have hje : j = g0.ends.length := by omega
    refine ⟨gs.length - (i + 1), by omega, i + 1, g, w, L, _, rfl, c1, hw, ?_, by simp, rfl⟩
    rw [hL, htk, hje, ← gb, List.take_length]
    simp [rks]
  ·refine wF rfl (by simp [c1]) ?_
   repeat apply qaw
   refine qal ?_
   try simp only [tq, if_true]
   cases gs with
   | nil => exact absurd rfl C.ne
   | cons g0 gr0 =>
   obtain ⟨xa, e, k, a1, a2, a3, a4⟩ := hr1.2 0 g0 rfl
   simp only [X.rowT] at a1
   have hb0 := (C.gi g0 (List.mem_cons_self ..)).2.2.2
   have q1 := qgs he1 he2 (by simp only [qiu]; omega)
   have q2 := qgs he1 a3 (by simp only [qiu]; omega)
   simp only [qiu, decide_true] at q1 q2
   refine wR rfl (by simp [r3]; rfl) ?_
   refine wR rfl (by simp [r4, q1, a1, idxV, q2]; rfl) ?_
   refine wX ?_
   try simp only [tq]
   simp [Tryz.f3]
end E
