/- A part of the proof. No statement of the claim is in it. -/
import Derived.Test.YtbdadoeankjnkaaGreatDoorSc
set_option maxRecDepth 100000
set_option maxHeartbeats 4000000
set_option linter.all false
open Go Go.V Go.Proofs
namespace E
open X
/-! ### A way through an Alt, place by place -/
abbrev Vis := Option (List Nat × Rs)
/-- a run's chart has grown: goals that are new have no ends -/
structure Gx (s s' : Rs) : Prop where
 goals : ∃ new, s'.goals = s.goals ++ new ∧ ∀ g ∈ new, g.ends = []
 rank : s'.rank = s.rank
theorem Gx.refl (s : Rs) : Gx s s := ⟨⟨[], by simp, fun g hg => by cases hg⟩, rfl⟩
theorem Gx.trans {a b c : Rs} (h1 : Gx a b) (h2 : Gx b c) : Gx a c := by
 obtain ⟨n1, e1, p1⟩ := h1.goals
 obtain ⟨n2, e2, p2⟩ := h2.goals
 refine ⟨⟨n1 ++ n2, by rw [e2, e1, List.append_assoc], fun g hg => ?_⟩, by rw [h2.rank, h1.rank]⟩
 rcases List.mem_append.1 hg with h | h
 ·exact p1 g h
 ·exact p2 g h
theorem Gx.get {s s' : Rs} (h : Gx s s') {i : Nat} {g : Gl} (hg : s.goals[i]? = some g) : s'.goals[i]? = some g := by
 obtain ⟨n1, e1, p1⟩ := h.goals
 rw [e1, List.getElem?_append_left (lt_of_get hg)]
 exact hg
def visE (rec : At → Rs → Vis) (K : Kn) (text : List Nat) (bs : List Nat) (a : At) : List Nat → Rs → Vis
 | [], s => some ([], s)
 | e :: r, s => if a.1 ≤ e ∧ e ≤ text.length then match K.bind a.2 bs ((text.take e).drop a.1) with
     | none => none
     | some env => match rec (e, env) s with
      | none => none
      | some (p1, s1) => match visE rec K text bs a r s1 with
       | none => none
       | some (p2, s2) => some (p1 ++ p2, s2)
  else none
def visV (K : Kn) (text : List Nat) : List T → At → Rs → Vis
 | [], a, s => some (if s.full then [] else [a.1], s)
 | x :: r, a, s => if s.full then some ([], s) else match x with
  | .agg [.int .i64 (.ofNat kind), .str nm, ax, .str bs] =>
   if kind = 3 then match K.args ax a.2 a.1 with
    | none => none
    | some none => some ([], s)
    | some (some al) => match K.ruleAt nm with
     | none => none
     | some ru => match (qbf s ru al a.1).2 with
      | .negSucc _ => some ([], (qbf s ru al a.1).1)
      | .ofNat i => match (qbf s ru al a.1).1.goals[i]? with
       | none => none
       | some g => visE (visV K text r) K text bs a g.ends (qbf s ru al a.1).1
   else match K.plain x a.2 a.1 with
    | none => none
    | some none => some ([], s)
    | some (some p) => visV K text r (p, a.2) s
  | _ => none
def visL (K : Kn) (text : List Nat) (r : List T) : List At → Rs → Vis
 | [], s => some ([], s)
 | a :: l, s => match visV K text r a s with
  | none => none
  | some (p1, s1) => match visL K text r l s1 with
   | none => none
   | some (p2, s2) => some (p1 ++ p2, s2)
/-! ### The chart along a way -/
theorem q1f {ru : Nat} {al : List Nat} {fr : Nat} (new : List Gl) : ∀ {gs : List Gl} {k i : Nat}, gIx ru al fr gs k = .ofNat i → gIx ru al fr (gs ++ new) k = .ofNat i
 | [], k, i, h => by simp only [gIx] at h; cases h
 | g :: gs, k, i, h => by
  simp only [gIx, List.cons_append] at h ⊢
  split at h
  ·rename_i c; rw [if_pos c]; exact h
  ·rename_i c; rw [if_neg c]; exact q1f new h
theorem q3m {ru : Nat} {al : List Nat} {fr : Nat} {g : Gl} (hg : isG g ru al fr = true) (new : List Gl) : ∀ {gs : List Gl} {k n : Nat}, gIx ru al fr gs k = .negSucc n → gIx ru al fr (gs ++ g :: new) k = .ofNat (k + gs.length)
 | [], k, n, h => by
  simp only [gIx, List.nil_append, hg, if_true, List.length_nil, Nat.add_zero]
  rfl
 | g' :: gs, k, n, h => by
  simp only [gIx, List.cons_append] at h ⊢
  split at h
  ·cases h
  ·rename_i c
   rw [if_neg c, q3m hg new h]
   simp only [List.length_cons]
   congr 1
   omega
inductive GoalR (s : Rs) (ru : Nat) (al : List Nat) (here : Nat) : Prop
 | old (i : Nat) (g : Gl) (h1 : gIx ru al here s.goals 0 = .ofNat i) (h2 : s.goals[i]? = some g) (h3 : qbf s ru al here = (s, (i : Int)))
 | full (n : Nat) (h1 : gIx ru al here s.goals 0 = .negSucc n) (h2 : 300 ≤ s.goals.length) (h3 : qbf s ru al here = ({ s with full := true }, -1))
 | new (n : Nat) (h1 : gIx ru al here s.goals 0 = .negSucc n) (h2 : s.goals.length < 300) (h3 : qbf s ru al here = ({ s with goals := s.goals ++ [(⟨ru, al, here, [], []⟩ : Gl)], fresh := true }, ((s.goals.length : Nat) : Int)))
theorem qpz (s : Rs) (ru : Nat) (al : List Nat) (here : Nat) : GoalR s ru al here := by
 cases hix : gIx ru al here s.goals 0 with
 | ofNat i =>
  obtain ⟨g, _, h2, h3⟩ := qtp hix
  exact .old i g hix (by simpa using h2) (by simp only [qbf, hix]; rfl)
 | negSucc n =>
  by_cases c0 : 300 ≤ s.goals.length
  ·exact .full n hix c0 (by simp only [qbf, hix, c0, if_true])
  ·exact .new n hix (by omega) (by simp only [qbf, hix, c0, if_false])
theorem qlt {rec : At → Rs → Vis} {K : Kn} {text bs : List Nat} {a : At} (hr : ∀ b s ps s', rec b s = some (ps, s') → Gx s s' ∧ (s.full = true → s'.full = true ∧ ps = [])) : ∀ (l : List Nat) (s : Rs) (ps : List Nat) (s' : Rs), visE rec K text bs a l s = some (ps, s') → Gx s s' ∧ (s.full = true → s'.full = true ∧ ps = [])
 | [], s, ps, s', h => by simp only [visE] at h; cases h; exact ⟨Gx.refl s, fun h => ⟨h, rfl⟩⟩
 | e :: r, s, ps, s', h => by
  simp only [visE] at h
  split at h
  rotate_left
  ·cases h
  split at h
  ·cases h
  split at h
  ·cases h
  rename_i p1 s1 h1
  split at h
  ·cases h
  rename_i p2 s2 h2
  cases h
  obtain ⟨a1, a2⟩ := hr _ _ _ _ h1
  obtain ⟨b1, b2⟩ := qlt hr r _ _ _ h2
  refine ⟨a1.trans b1, fun hf => ?_⟩
  obtain ⟨c1, rfl⟩ := a2 hf
  obtain ⟨c2, rfl⟩ := b2 c1
  exact ⟨c2, rfl⟩
theorem qfd {K : Kn} {text : List Nat} : ∀ (r : List T) (a : At) (s : Rs) (ps : List Nat) (s' : Rs), visV K text r a s = some (ps, s') → Gx s s' ∧ (s.full = true → s'.full = true ∧ ps = [])
 | [], a, s, ps, s', h => by
  simp only [visV] at h
  cases h
  exact ⟨Gx.refl s, fun h => ⟨h, by rw [if_pos h]⟩⟩
 | x :: r, a, s, ps, s', h => by
  simp only [visV] at h
  split at h
  ·rename_i hf
   cases h
   exact ⟨Gx.refl s, fun h => ⟨h, rfl⟩⟩
  rename_i hf
  refine ⟨?_, fun h => absurd h hf⟩
  split at h
  rotate_left
  ·cases h
  rename_i kind nm ax bs
  split at h
  ·split at h
   ·cases h
   ·cases h; exact Gx.refl s
   ·rename_i al hal
    split at h
    ·cases h
    rename_i ru hru
    rcases qpz s ru al a.1 with ⟨i, g, h1, h2, h3⟩ | ⟨n, h1, h2, h3⟩ | ⟨n, h1, h2, h3⟩
    ·rw [h3] at h
     rw [show ((i : Nat) : Int) = Int.ofNat i from rfl] at h
     simp only [h2] at h
     exact (qlt (qfd r) _ _ _ _ h).1
    ·rw [h3] at h
     have : (-1 : Int) = Int.negSucc 0 := rfl
     rw [this] at h
     simp only at h
     cases h
     exact ⟨⟨[], by simp, fun g hg => by cases hg⟩, rfl⟩
    ·rw [h3] at h
     rw [show ((s.goals.length : Nat) : Int) = Int.ofNat s.goals.length from rfl] at h
     simp only at h
     have e1 : (s.goals ++ [(⟨ru, al, a.1, [], []⟩ : Gl)])[s.goals.length]? = some ⟨ru, al, a.1, [], []⟩ := by simp
     simp only [e1, visE] at h
     cases h
     exact ⟨⟨[⟨ru, al, a.1, [], []⟩], rfl, fun g hg => by simp only [List.mem_singleton] at hg; subst hg; rfl⟩, rfl⟩
  ·split at h
   ·cases h
   ·cases h; exact Gx.refl s
   ·exact (qfd r _ _ _ _ h).1
theorem q1t {K : Kn} {text : List Nat} {r : List T} {a : At} {s : Rs} {ps : List Nat} {s' : Rs} (h : visV K text r a s = some (ps, s')) (hf : s.full = true) : s' = s ∧ ps = [] := by
 cases r with
 | nil => simp only [visV] at h; cases h; exact ⟨rfl, by rw [if_pos hf]⟩
 | cons x r => simp only [visV, hf, if_true] at h; cases h; exact ⟨rfl, rfl⟩
/-! ### What was gone once brings nothing new -/
theorem qny {rec : At → Rs → Vis} {K : Kn} {text bs : List Nat} {a : At} (hx : ∀ b s ps s', rec b s = some (ps, s') → Gx s s' ∧ (s.full = true → s'.full = true ∧ ps = [])) (hr : ∀ b s ps s' s2, rec b s = some (ps, s') → s'.full = false → Gx s' s2 → s2.full = false → rec b s2 = some (ps, s2)) : ∀ (l : List Nat) (s : Rs) (ps : List Nat) (s' s2 : Rs), visE rec K text bs a l s = some (ps, s') → s'.full = false → Gx s' s2 → s2.full = false → visE rec K text bs a l s2 = some (ps, s2)
 | [], s, ps, s', s2, h, hf, hg, hf2 => by simp only [visE] at h ⊢; cases h; rfl
 | e :: r, s, ps, s', s2, h, hf, hg, hf2 => by
  simp only [visE] at h ⊢
  split at h
  rotate_left
  ·cases h
  rename_i c
  rw [if_pos c]
  split at h
  ·cases h
  rename_i env henv
  try simp only [henv]
  split at h
  ·cases h
  rename_i p1 s1 h1
  split at h
  ·cases h
  rename_i p2 s3 h2
  cases h
  obtain ⟨x1, x2⟩ := qlt hx r _ _ _ h2
  have hf1 : s1.full = false := by
   cases hs : s1.full with
   | false => rfl
   | true => have := (x2 hs).1; rw [hf] at this; cases this
  rw [hr _ _ _ _ s2 h1 hf1 (x1.trans hg) hf2]
  simp only
  rw [qny hx hr r _ _ _ s2 h2 hf hg hf2]
theorem qcz {K : Kn} {text : List Nat} : ∀ (r : List T) (a : At) (s : Rs) (ps : List Nat) (s' s2 : Rs), visV K text r a s = some (ps, s') → s'.full = false → Gx s' s2 → s2.full = false → visV K text r a s2 = some (ps, s2)
 | [], a, s, ps, s', s2, h, hf, hg, hf2 => by
  simp only [visV] at h ⊢
  cases h
  rw [hf, hf2]
 | x :: r, a, s, ps, s', s2, h, hf, hg, hf2 => by
  have hfs : s.full = false := by
   cases hs : s.full with
   | false => rfl
   | true => have := ((qfd (x :: r) a s ps s' h).2 hs).1; rw [hf] at this; cases this
  simp only [visV, hfs, hf2, Bool.false_eq_true, if_false] at h ⊢
  split at h
  rotate_left
  ·cases h
  rename_i kind nm ax bs
  try simp only
  split at h
  ·rename_i k3
   rw [if_pos k3]
   split at h
   ·cases h
   ·rename_i ha
    cases h
    try simp only [ha]
   ·rename_i al hal
    try simp only [hal]
    split at h
    ·cases h
    rename_i ru hru
    try simp only [hru]
    rcases qpz s ru al a.1 with ⟨i, g, h1, h2, h3⟩ | ⟨n, h1, h2, h3⟩ | ⟨n, h1, h2, h3⟩
    ·rw [h3] at h
     rw [show ((i : Nat) : Int) = Int.ofNat i from rfl] at h
     simp only [h2] at h
     obtain ⟨x1, x2⟩ := qlt (qfd r) _ _ _ _ h
     have hgx := x1.trans hg
     obtain ⟨new, en, _⟩ := hgx.goals
     have h4 : gIx ru al a.1 s2.goals 0 = .ofNat i := by rw [en]; exact q1f new h1
     have h5 : qbf s2 ru al a.1 = (s2, (i : Int)) := by simp only [qbf, h4]; rfl
     rw [h5]
     rw [show ((i : Nat) : Int) = Int.ofNat i from rfl]
     simp only [hgx.get h2]
     exact qny (qfd r) (qcz r) _ _ _ _ s2 h hf hg hf2
    ·rw [h3] at h
     have : (-1 : Int) = Int.negSucc 0 := rfl
     rw [this] at h
     simp only at h
     cases h
     cases hf
    ·rw [h3] at h
     rw [show ((s.goals.length : Nat) : Int) = Int.ofNat s.goals.length from rfl] at h
     simp only at h
     have e1 : (s.goals ++ [(⟨ru, al, a.1, [], []⟩ : Gl)])[s.goals.length]? = some ⟨ru, al, a.1, [], []⟩ := by simp
     simp only [e1, visE] at h
     cases h
     obtain ⟨new, en, _⟩ := hg.goals
     simp only [List.append_assoc, List.singleton_append] at en
     have h4 : gIx ru al a.1 s2.goals 0 = .ofNat (0 + s.goals.length) := by
      rw [en]
      exact q3m (by simp [isG]) new h1
     rw [Nat.zero_add] at h4
     have h5 : qbf s2 ru al a.1 = (s2, (s.goals.length : Int)) := by simp only [qbf, h4]; rfl
     rw [h5]
     rw [show ((s.goals.length : Nat) : Int) = Int.ofNat s.goals.length from rfl]
     have e2 : s2.goals[s.goals.length]? = some ⟨ru, al, a.1, [], []⟩ := by rw [en]; simp
     simp only [e2, visE]
  ·rename_i k3
   rw [if_neg k3]
   split at h
   ·cases h
   ·rename_i hp
    cases h
    try simp only [hp]
   ·rename_i p hp
    try simp only [hp]
    exact qcz r _ _ _ _ s2 h hf hg hf2
end E
namespace E
open X
/-! ### Places of a list -/
theorem qlb {K : Kn} {text : List Nat} {r : List T} : ∀ (l1 l2 : List At) (s : Rs), visL K text r (l1 ++ l2) s = match visL K text r l1 s with
  | none => none
  | some (p1, s1) => match visL K text r l2 s1 with
   | none => none
   | some (p2, s2) => some (p1 ++ p2, s2)
 | [], l2, s => by
  simp only [List.nil_append, visL]
  cases visL K text r l2 s with
  | none => rfl
  | some p => rfl
 | a :: l1, l2, s => by
  simp only [List.cons_append, visL]
  cases visV K text r a s with
  | none => rfl
  | some p =>
   simp only
   rw [qlb l1 l2 p.2]
   cases visL K text r l1 p.2 with
   | none => rfl
   | some q =>
    simp only
    cases visL K text r l2 q.2 with
    | none => rfl
    | some w => simp [List.append_assoc]
theorem q4a {K : Kn} {text : List Nat} {r : List T} : ∀ (l : List At) (s : Rs) (ps : List Nat) (s' : Rs), visL K text r l s = some (ps, s') → Gx s s' ∧ (s.full = true → s' = s ∧ ps = [])
 | [], s, ps, s', h => by simp only [visL] at h; cases h; exact ⟨Gx.refl s, fun _ => ⟨rfl, rfl⟩⟩
 | a :: l, s, ps, s', h => by
  simp only [visL] at h
  split at h
  ·cases h
  rename_i p1 s1 h1
  split at h
  ·cases h
  rename_i p2 s2 h2
  cases h
  obtain ⟨a1, _⟩ := qfd r _ _ _ _ h1
  obtain ⟨b1, b2⟩ := q4a l _ _ _ h2
  refine ⟨a1.trans b1, fun hf => ?_⟩
  obtain ⟨rfl, rfl⟩ := q1t h1 hf
  obtain ⟨rfl, rfl⟩ := b2 hf
  exact ⟨rfl, rfl⟩
theorem qer (K : Kn) (text : List Nat) (r : List T) (a : At) {s : Rs} (hf : s.full = true) : visV K text r a s = some ([], s) := by
 cases r with
 | nil => simp only [visV, hf, if_true]
 | cons x r => simp only [visV, hf, if_true]
theorem qri (K : Kn) (text : List Nat) (r : List T) {s : Rs} (hf : s.full = true) : ∀ l : List At, visL K text r l s = some ([], s)
 | [] => rfl
 | a :: l => by simp only [visL, qer K text r a hf, qri K text r hf l, List.append_nil]
theorem nfull {s s' : Rs} (h : s.full = true → s'.full = true) (h' : s'.full = false) : s.full = false := by
 cases hs : s.full with
 | false => rfl
 | true => rw [h hs] at h'; cases h'
theorem qxf {K : Kn} {text : List Nat} {r : List T} {b : At} : ∀ (l : List At) (s : Rs) (ps : List Nat) (s' : Rs), visL K text r l s = some (ps, s') → s'.full = false → b ∈ l → ∃ pb, visV K text r b s' = some (pb, s') ∧ ∀ p ∈ pb, p ∈ ps
 | [], s, ps, s', h, hf, hb => by cases hb
 | a :: l, s, ps, s', h, hf, hb => by
  simp only [visL] at h
  split at h
  ·cases h
  rename_i p1 s1 h1
  split at h
  ·cases h
  rename_i p2 s2 h2
  cases h
  obtain ⟨b1, b2⟩ := q4a l _ _ _ h2
  rcases List.mem_cons.1 hb with rfl | hb
  ·have hf1 : s1.full = false := nfull (fun hs => by rw [(b2 hs).1]; exact hs) hf
   exact ⟨p1, qcz r _ _ _ _ _ h1 hf1 b1 hf, fun p hp => List.mem_append_left _ hp⟩
  ·obtain ⟨pb, q1, q2⟩ := qxf l _ _ _ h2 hf hb
   exact ⟨pb, q1, fun p hp => List.mem_append_right _ (q2 p hp)⟩
/-! ### Sym by Sym is place by place, where at most two Syms are calls -/
def qen (x : T) : Bool := match x with
 | .agg [.int .i64 (.ofNat kind), .str _, _, .str _] => decide (kind = 3)
 | _ => false
theorem qjj {K : Kn} {text : List Nat} {x : T} (hx : qen x = false) : ∀ (l nx : List At) (s : Rs) (o : Option (List At)) (s' : Rs), qds K text x l nx s = some (o, s') → s' = s ∧ ∃ m, o = some (m.foldl putS nx) ∧ ∀ r s, visL K text (x :: r) l s = visL K text r m s
 | [], nx, s, o, s', h => by
  simp only [qds] at h
  cases h
  exact ⟨rfl, [], rfl, fun r s => rfl⟩
 | a :: l, nx, s, o, s', h => by
  simp only [qds] at h
  have key : ∀ {o1 : Option (List At)} {s1 : Rs}, oneS K text x a nx s = some (o1, s1) → s1 = s ∧ ∃ m, o1 = some (m.foldl putS nx) ∧ ∀ r s, visV K text (x :: r) a s = visL K text r m s := by
   intro o1 s1 h1
   unfold oneS at h1
   split at h1
   rotate_left
   ·cases h1
   rename_i kind nm ax bs
   have k3 : ¬ kind = 3 := by simpa [qen] using hx
   rw [if_neg k3] at h1
   split at h1
   ·cases h1
   ·rename_i hp
    cases h1
    refine ⟨rfl, [], rfl, fun r s => ?_⟩
    simp only [visV, k3, if_false, hp, visL]
    split <;> rfl
   ·rename_i p hp
    split at h1
    rotate_left
    ·cases h1
    cases h1
    refine ⟨rfl, [(p, a.2)], rfl, fun r s => ?_⟩
    simp only [visV, k3, if_false, hp, visL]
    split
    ·rename_i hf
     rw [qer K text r (p, a.2) hf]
     rfl
    ·cases visV K text r (p, a.2) s with
     | none => rfl
     | some w => simp
  split at h
  ·cases h
  ·rename_i s1 h1
   obtain ⟨_, m, e, _⟩ := key h1
   cases e
  ·rename_i nx1 s1 h1
   obtain ⟨rfl, m, e, hm⟩ := key h1
   cases e
   obtain ⟨rfl, m2, rfl, hm2⟩ := qjj hx l _ _ _ _ h
   refine ⟨rfl, m ++ m2, by simp [List.foldl_append], fun r s => ?_⟩
   rw [qlb]
   simp only [visL, hm]
   cases visL K text r m s with
   | none => rfl
   | some w =>
    first
     | (simp only [hm2]; done)
     | (simp only [hm2]; cases visL K text r m2 w.2 <;> rfl)
theorem q3s {K : Kn} {text : List Nat} : ∀ (r : List T), (∀ x ∈ r, qen x = false) → ∀ (a : At) (s : Rs) (ps : List Nat) (s' : Rs), visV K text r a s = some (ps, s') → s' = s ∧ (s.full = false → ∀ s2 : Rs, s2.full = false → visV K text r a s2 = some (ps, s2))
 | [], hr, a, s, ps, s', h => by
  simp only [visV] at h
  cases h
  refine ⟨rfl, fun hf s2 hf2 => ?_⟩
  simp only [visV, hf, hf2]
 | x :: r, hr, a, s, ps, s', h => by
  cases hf : s.full with
  | true =>
   rw [qer K text _ a hf] at h
   cases h
   exact ⟨rfl, fun h => by cases h⟩
  | false =>
   simp only [visV, hf, Bool.false_eq_true, if_false] at h
   have hx := hr x (by simp)
   split at h
   rotate_left
   ·cases h
   rename_i kind nm ax bs
   have k3 : ¬ kind = 3 := by simpa [qen] using hx
   rw [if_neg k3] at h
   split at h
   ·cases h
   ·rename_i hp
    cases h
    exact ⟨rfl, fun _ s2 hf2 => by simp only [visV, hf2, Bool.false_eq_true, if_false, k3, hp]⟩
   ·rename_i p hp
    obtain ⟨q1, q2⟩ := q3s r (fun y hy => hr y (List.mem_cons_of_mem _ hy)) _ _ _ _ h
    exact ⟨q1, fun _ s2 hf2 => by simp only [visV, hf2, Bool.false_eq_true, if_false, k3, hp]; exact q2 hf s2 hf2⟩
theorem qvq {K : Kn} {text : List Nat} {s : Rs} (hf : s.full = false) : ∀ l : List At, visL K text [] l s = some (l.map (·.1), s)
 | [] => rfl
 | a :: l => by simp [visL, visV, hf, qvq hf l]
theorem qju {K : Kn} {text bs : List Nat} {a : At} : ∀ (l : List Nat) (nx nx' : List At), qnk K text bs a l nx = some nx' → ∃ m, nx' = m.foldl putS nx ∧ ∀ r s, visE (visV K text r) K text bs a l s = visL K text r m s
 | [], nx, nx', h => by
  simp only [qnk] at h
  cases h
  exact ⟨[], rfl, fun r s => rfl⟩
 | e :: l, nx, nx', h => by
  simp only [qnk] at h
  split at h
  rotate_left
  ·cases h
  rename_i c
  split at h
  rotate_left
  ·cases h
  rename_i env henv
  obtain ⟨m, rfl, hm⟩ := qju l _ _ h
  refine ⟨(e, env) :: m, rfl, fun r s => ?_⟩
  simp only [visE, visL]
  rw [if_pos ⟨c.1, c.2.1⟩]
  simp only [henv, hm]
section
variable {SR : List Nat → Option (List Nat)} {MK : T → Option (List Bool)} {VN : List Nat → Bool} {RA : List Nat → Option Nat} {text : List Nat}
/-- All of a way is known. -/
theorem qvu (ht : bsB text = true) (hn : text.length ≤ 12) {R : Nat} {rec : At → Rs → Vis} (hrec : ∀ (a : At) (s : Rs), a.1 ≤ text.length → GE VN a.2 → RI text.length R s → ∃ ps s', rec a s = some (ps, s') ∧ RI text.length R s') {a : At} (ha2 : GE VN a.2) {bs : List Nat} (hb : (decide (bs = []) || VN bs) = true) : ∀ (l : List Nat) (s : Rs), (∀ e ∈ l, a.1 ≤ e ∧ e ≤ text.length) → RI text.length R s → ∃ ps s', visE rec (mkK SR MK VN RA text) text bs a l s = some (ps, s') ∧ RI text.length R s'
 | [], s, he, hR => ⟨[], s, rfl, hR⟩
 | e :: l, s, he, hR => by
  have h1 := he e (by simp)
  obtain ⟨env, hb1, hb2⟩ := qlc ha2 hb (qui ht e a.1) (by simp; omega)
  obtain ⟨p1, s1, q1, q2⟩ := hrec (e, env) s h1.2 hb2 hR
  obtain ⟨p2, s2, r1, r2⟩ := qvu ht hn hrec ha2 hb l s1 (fun x hx => he x (List.mem_cons_of_mem _ hx)) q2
  refine ⟨p1 ++ p2, s2, ?_, r2⟩
  simp only [visE]
  rw [if_pos h1]
  have : (mkK SR MK VN RA text).bind = qkt VN := rfl
  simp only [this, hb1, q1, r1]
theorem qpo (ht : bsB text = true) (hn : text.length ≤ 12) {R : Nat} : ∀ (r : List T), r.all (qhu SR MK VN RA R) = true → ∀ (a : At) (s : Rs), a.1 ≤ text.length → GE VN a.2 → RI text.length R s → ∃ ps s', visV (mkK SR MK VN RA text) text r a s = some (ps, s') ∧ RI text.length R s'
 | [], hs, a, s, ha1, ha2, hR => ⟨_, s, rfl, hR⟩
 | x :: r, hs, a, s, ha1, ha2, hR => by
  simp only [List.all_cons, Bool.and_eq_true] at hs
  obtain ⟨hs, hsr⟩ := hs
  cases hf : s.full with
  | true => exact ⟨_, s, qer _ _ _ a hf, hR⟩
  | false =>
   have hs0 := hs
   unfold qhu at hs
   split at hs
   rotate_left
   ·cases hs
   rename_i kind tx ax bs
   simp only [visV, hf, Bool.false_eq_true, if_false]
   by_cases k3 : kind = 3
   ·rw [if_pos k3] at hs ⊢
    simp only [Bool.and_eq_true] at hs
    obtain ⟨h1, h2, h3⟩ := hs
    split at h1
    rotate_left
    ·cases h1
    rename_i l hax
    simp only [Bool.and_eq_true, decide_eq_true_eq] at h1
    obtain ⟨h11, h12, h13⟩ := h1
    split at h2
    rotate_left
    ·cases h2
    rename_i ru hru
    have hruR : ru < R := by simpa using h2
    obtain ⟨o, ho, hol⟩ := qik ha2 a.1 l [] h13
    have hargs : (mkK SR MK VN RA text).args ax a.2 a.1 = some o := by
     show qiz MK ax a.2 a.1 = some o
     simp only [qiz, hax]
     rw [if_pos ⟨h11, h12⟩]
     exact ho
    simp only [hargs]
    cases o with
    | none => exact ⟨_, _, rfl, hR⟩
    | some al =>
     have hal := hol al rfl
     simp only [List.length_nil, Nat.zero_add] at hal
     have hra : (mkK SR MK VN RA text).ruleAt tx = some ru := hru
     simp only [hra]
     obtain ⟨g1, g2, g3⟩ := qhy hR hruR (al := al) (by omega) ha1
     split
     ·exact ⟨_, _, rfl, g1⟩
     ·rename_i i hi
      obtain ⟨g, hg, hfr⟩ := g3 i hi
      simp only [hg]
      have hgi := g1.gi g (List.mem_of_getElem? hg)
      exact qvu ht hn (qpo ht hn r hsr) ha2 h3 g.ends _ (fun e he => by have := hgi.asc.mem e he; omega) g1
   ·rw [if_neg k3]
    obtain ⟨o, hr, hrp⟩ := qgp hn hs0 k3 ha2 ha1
    have hpl : (mkK SR MK VN RA text).plain (.agg [.int .i64 (.ofNat kind), .str tx, ax, .str bs]) a.2 a.1 = some o := hr
    simp only [hpl]
    cases o with
    | none => exact ⟨_, _, rfl, hR⟩
    | some p => exact qpo ht hn r hsr (p, a.2) s (hrp p rfl).2 ha2 hR
end
end E
namespace E
open X
/-! ### Sym by Sym is place by place -/
/-- A list without what comes again, and the list. -/
theorem qdd {K : Kn} {text : List Nat} {r : List T} {s : Rs} {s' : Rs} : ∀ (m n0 : List At) (p0 pm : List Nat) (s0 : Rs), visL K text r n0 s = some (p0, s0) → visL K text r m s0 = some (pm, s') → ∃ ps, visL K text r (m.foldl putS n0) s = some (ps, s') ∧ (s'.full = false → ∀ p, p ∈ ps ↔ p ∈ p0 ∨ p ∈ pm)
 | [], n0, p0, pm, s0, h0, h => by
  simp only [visL] at h
  cases h
  exact ⟨p0, h0, fun _ p => by simp⟩
 | b :: m, n0, p0, pm, s0, h0, h => by
  simp only [List.foldl_cons]
  simp only [visL] at h
  split at h
  ·cases h
  rename_i pb sb hb
  split at h
  ·cases h
  rename_i pm' s'' hm
  cases h
  by_cases c : n0.contains b = true
  ·rw [show putS n0 b = n0 by simp only [putS, c, if_true]]
   cases hf : s0.full with
   | true =>
    rw [qer K text r b hf] at hb
    cases hb
    obtain ⟨ps, q1, q2⟩ := qdd m n0 p0 pm' s0 h0 hm
    exact ⟨ps, q1, fun hf' p => by rw [q2 hf' p, List.nil_append]⟩
   | false =>
    obtain ⟨pb', q1, q2⟩ := qxf n0 _ _ _ h0 hf (by simpa using c)
    rw [q1] at hb
    cases hb
    obtain ⟨ps, r1, r2⟩ := qdd m n0 p0 pm' s0 h0 hm
    refine ⟨ps, r1, fun hf' p => ?_⟩
    rw [r2 hf' p, List.mem_append]
    constructor
    ·rintro (h | h)
     ·exact .inl h
     ·exact .inr (.inr h)
    ·rintro (h | h | h)
     ·exact .inl h
     ·exact .inl (q2 p h)
     ·exact .inr h
  ·rw [show putS n0 b = n0 ++ [b] by simp only [putS, c]; rfl]
   have h1 : visL K text r (n0 ++ [b]) s = some (p0 ++ pb, sb) := by
    rw [qlb, h0]
    simp only [visL, hb, List.append_nil]
   obtain ⟨ps, q1, q2⟩ := qdd m (n0 ++ [b]) _ pm' sb h1 hm
   refine ⟨ps, q1, fun hf' p => ?_⟩
   rw [q2 hf' p]
   simp only [List.mem_append, or_assoc]
theorem q1i {K : Kn} {text : List Nat} {r : List T} (hr : ∀ x ∈ r, qen x = false) : ∀ (l : List At) (s : Rs) (ps : List Nat) (s' : Rs), visL K text r l s = some (ps, s') → s' = s ∧ (s.full = false → ∀ s2 : Rs, s2.full = false → visL K text r l s2 = some (ps, s2))
 | [], s, ps, s', h => by simp only [visL] at h; cases h; exact ⟨rfl, fun _ s2 _ => rfl⟩
 | a :: l, s, ps, s', h => by
  simp only [visL] at h
  split at h
  ·cases h
  rename_i p1 s1 h1
  split at h
  ·cases h
  rename_i p2 s2 h2
  cases h
  obtain ⟨rfl, a2⟩ := q3s r hr _ _ _ _ h1
  obtain ⟨rfl, b2⟩ := q1i hr l _ _ _ h2
  exact ⟨rfl, fun hf s2 hf2 => by simp only [visL, a2 hf s2 hf2, b2 hf s2 hf2]⟩
theorem qfc {s : Rs} {ru : Nat} {al : List Nat} {here : Nat} (hf : s.full = false) : (∀ n, (qbf s ru al here).2 = .negSucc n → (qbf s ru al here).1.full = true) ∧ ∀ i, (qbf s ru al here).2 = .ofNat i → (qbf s ru al here).1.full = false := by
 rcases qpz s ru al here with ⟨i, g, h1, h2, h3⟩ | ⟨n, h1, h2, h3⟩ | ⟨n, h1, h2, h3⟩
 ·rw [h3]
  exact ⟨fun n h => (by cases h), fun i h => hf⟩
 ·rw [h3]
  exact ⟨fun n h => rfl, fun i h => (by cases h)⟩
 ·rw [h3]
  exact ⟨fun n h => (by cases h), fun i h => hf⟩
/-- one call more, behind which none is -/
theorem qib {K : Kn} {text : List Nat} {x : T} (hx : qen x = true) {r : List T} (hr : ∀ y ∈ r, qen y = false) : ∀ (l nx : List At) (s : Rs) (o : Option (List At)) (s' : Rs) (ps : List Nat) (s2 : Rs), s.full = false → qds K text x l nx s = some (o, s') → visL K text (x :: r) l s = some (ps, s2) →
  s2 = s' ∧ (o = none → s'.full = true) ∧ ∀ nx', o = some nx' → s'.full = false ∧ ∃ m, nx' = m.foldl putS nx ∧ visL K text r m s' = some (ps, s')
 | [], nx, s, o, s', ps, s2, hf, h, hv => by
  simp only [qds] at h
  simp only [visL] at hv
  cases h
  cases hv
  exact ⟨rfl, fun h => (by cases h), fun nx' e => by cases e; exact ⟨hf, [], rfl, rfl⟩⟩
 | a :: l, nx, s, o, s', ps, s2, hf, h, hv => by
  simp only [qds] at h
  simp only [visL] at hv
  have hx3 : ∃ nm ax bs, x = .agg [.int .i64 (.ofNat 3), .str nm, ax, .str bs] := by
   unfold qen at hx
   split at hx
   ·rename_i kind nm ax bs
    have : kind = 3 := by simpa using hx
    subst this
    exact ⟨nm, ax, bs, rfl⟩
   ·cases hx
  obtain ⟨nm, ax, bs, rfl⟩ := hx3
  simp only [oneS, if_true, qun] at h
  simp only [visV, hf, Bool.false_eq_true, if_false, if_true] at hv
  cases ha : K.args ax a.2 a.1 with
  | none => rw [ha] at h; cases h
  | some oa =>
   cases oa with
   | none =>
    simp only [ha] at h hv
    cases hl : visL K text (.agg [.int .i64 (.ofNat 3), .str nm, ax, .str bs] :: r) l s with
    | none => rw [hl] at hv; cases hv
    | some w =>
     rw [hl] at hv
     simp only [List.nil_append, Option.some.injEq, Prod.mk.injEq] at hv
     obtain ⟨rfl, rfl⟩ := hv
     exact qib hx hr l nx s o s' _ _ hf h hl
   | some al =>
    simp only [ha] at h hv
    cases hra : K.ruleAt nm with
    | none =>
     simp only [hra] at hv
     cases hv
    | some ru =>
     simp only [hra] at h hv
     split at h
     ·cases h
     ·rename_i h1
      split at h1
      rotate_left
      ·cases h1
      split at h1
      ·rename_i n hn
       cases h1
       cases h
       have hfull := (qfc (ru := ru) (al := al) (here := a.1) hf).1 n hn
       simp only [hn] at hv
       rw [qri K text _ hfull] at hv
       cases hv
       exact ⟨rfl, fun _ => hfull, fun nx' e => by cases e⟩
      ·split at h1
       ·cases h1
       ·split at h1
        ·split at h1
         ·cases h1
         ·cases h1
        ·cases h1
     ·rename_i nx1 s1 h1
      split at h1
      rotate_left
      ·cases h1
      split at h1
      ·cases h1
      ·rename_i i hi
       split at h1
       ·cases h1
       rename_i g hg
       split at h1
       rotate_left
       ·cases h1
       split at h1
       ·cases h1
       rename_i nx2 hnx
       cases h1
       have hnf := (qfc (ru := ru) (al := al) (here := a.1) hf).2 i hi
       simp only [hi, hg] at hv
       obtain ⟨m1, rfl, hm1⟩ := qju _ _ _ hnx
       rw [hm1] at hv
       split at hv
       ·cases hv
       rename_i p1 s1 hp1
       split at hv
       ·cases hv
       rename_i p2 s3 hp2
       cases hv
       obtain ⟨rfl, c2⟩ := q1i hr _ _ _ _ hp1
       obtain ⟨d1, d2, d3⟩ := qib hx hr l _ _ o s' _ _ hnf h hp2
       refine ⟨d1, d2, fun nx' e => ?_⟩
       obtain ⟨e1, m2, e2, e3⟩ := d3 nx' e
       refine ⟨e1, m1 ++ m2, by rw [e2, List.foldl_append], ?_⟩
       rw [qlb, c2 hnf s' e1]
       simp only [e3]
def calls (r : List T) : Nat := r.countP qen
theorem calls0 {r : List T} (h : calls r = 0) : ∀ x ∈ r, qen x = false := fun x hx => by
 have := List.countP_eq_zero.1 h x hx
 simpa using this
/-- positions alike -/
def Same (ps : List Nat) (l : List At) : Prop := ∀ p, p ∈ ps ↔ p ∈ l.map (·.1)
theorem qpq {K : Kn} {text : List Nat} : ∀ (r : List T), calls r ≤ 1 → ∀ (l : List At) (s : Rs) (l' : List At) (s' : Rs) (ps : List Nat) (s2 : Rs), s.full = false → altS K text r l s = some (l', s') → visL K text r l s = some (ps, s2) → s2 = s' ∧ (s'.full = false → Same ps l')
 | [], _, l, s, l', s', ps, s2, hf, h, hv => by
  simp only [altS] at h
  cases h
  rw [qvq hf] at hv
  cases hv
  exact ⟨rfl, fun _ p => Iff.rfl⟩
 | x :: r, hc, l, s, l', s', ps, s2, hf, h, hv => by
  simp only [altS] at h
  split at h
  ·cases h
  cases hx : qen x with
  | false =>
   have hcr : calls r ≤ 1 := by
    unfold calls at hc ⊢
    rw [List.countP_cons, hx] at hc
    simpa using hc
   split at h
   ·cases h
   ·rename_i s1 h1
    obtain ⟨_, m, e, _⟩ := qjj hx _ _ _ _ _ h1
    cases e
   ·rename_i nx s1 h1
    obtain ⟨rfl, m, e, hm⟩ := qjj hx _ _ _ _ _ h1
    cases e
    rw [hm] at hv
    obtain ⟨ps', q1, q2⟩ := qdd m [] [] ps s1 rfl hv
    obtain ⟨r1, r2⟩ := qpq r hcr _ _ _ _ _ _ hf h q1
    refine ⟨r1, fun hf' p => ?_⟩
    rw [← r2 hf' p, q2 (by rw [r1]; exact hf') p]
    simp
  | true =>
   have hcr : calls r = 0 := by
    unfold calls at hc ⊢
    rw [List.countP_cons, hx] at hc
    simp only [if_true] at hc
    omega
   split at h
   ·cases h
   ·rename_i s1 h1
    cases h
    obtain ⟨a1, a2, a3⟩ := qib hx (calls0 hcr) _ _ _ _ _ _ _ hf h1 hv
    exact ⟨a1, fun hf' => by rw [a2 rfl] at hf'; cases hf'⟩
   ·rename_i nx s1 h1
    obtain ⟨rfl, a2, a3⟩ := qib hx (calls0 hcr) _ _ _ _ _ _ _ hf h1 hv
    obtain ⟨b1, m, rfl, b3⟩ := a3 nx rfl
    obtain ⟨ps', q1, q2⟩ := qdd m [] [] ps s2 rfl b3
    obtain ⟨r1, r2⟩ := qpq r (by omega) _ _ _ _ _ _ b1 h q1
    refine ⟨r1, fun hf' p => ?_⟩
    rw [← r2 hf' p, q2 (by rw [r1]; exact hf') p]
    simp
theorem qpa {K : Kn} {text : List Nat} : ∀ (r : List T) (s : Rs), altS K text r [] s = some ([], s)
 | [], s => rfl
 | x :: r, s => by simp only [altS, qds, List.length_nil]; rw [if_neg (by omega)]; exact qpa r s
/-- two calls, from one place -/
theorem qvm {K : Kn} {text : List Nat} : ∀ (r : List T), calls r ≤ 2 → ∀ (a : At) (s : Rs) (l' : List At) (s' : Rs) (ps : List Nat) (s2 : Rs), s.full = false → altS K text r [a] s = some (l', s') → visV K text r a s = some (ps, s2) → s2 = s' ∧ (s'.full = false → Same ps l')
 | [], _, a, s, l', s', ps, s2, hf, h, hv => by
  simp only [altS] at h
  cases h
  simp only [visV, hf, Bool.false_eq_true, if_false] at hv
  cases hv
  exact ⟨rfl, fun _ p => Iff.rfl⟩
 | x :: r, hc, a, s, l', s', ps, s2, hf, h, hv => by
  simp only [altS] at h
  split at h
  ·cases h
  cases hx : qen x with
  | false =>
   have hcr : calls r ≤ 2 := by
    unfold calls at hc ⊢
    rw [List.countP_cons, hx] at hc
    simpa using hc
   simp only [visV, hf, Bool.false_eq_true, if_false] at hv
   simp only [qds, oneS] at h
   split at hv
   rotate_left
   ·cases hv
   rename_i kind nm ax bs
   have k3 : ¬ kind = 3 := by simpa [qen] using hx
   rw [if_neg k3] at hv
   simp only [if_neg k3] at h
   cases hp : K.plain (.agg [.int .i64 (.ofNat kind), .str nm, ax, .str bs]) a.2 a.1 with
   | none => rw [hp] at hv; cases hv
   | some o =>
    cases o with
    | none =>
     simp only [hp] at h hv
     cases hv
     rw [qpa] at h
     cases h
     exact ⟨rfl, fun _ p => Iff.rfl⟩
    | some p =>
     simp only [hp, List.length_nil] at h hv
     rw [if_pos (by omega)] at h
     exact qvm r hcr (p, a.2) s l' s' ps s2 hf h hv
  | true =>
   have hcr : calls r ≤ 1 := by
    unfold calls at hc ⊢
    rw [List.countP_cons, hx] at hc
    simp only [if_true] at hc
    omega
   have hx3 : ∃ nm ax bs, x = .agg [.int .i64 (.ofNat 3), .str nm, ax, .str bs] := by
    unfold qen at hx
    split at hx
    ·rename_i kind nm ax bs
     have : kind = 3 := by simpa using hx
     subst this
     exact ⟨nm, ax, bs, rfl⟩
    ·cases hx
   obtain ⟨nm, ax, bs, rfl⟩ := hx3
   simp only [qds, oneS, if_true, qun] at h
   simp only [visV, hf, Bool.false_eq_true, if_false, if_true] at hv
   cases ha : K.args ax a.2 a.1 with
   | none => rw [ha] at hv; cases hv
   | some oa =>
    cases oa with
    | none =>
     simp only [ha] at h hv
     cases hv
     rw [qpa] at h
     cases h
     exact ⟨rfl, fun _ p => Iff.rfl⟩
    | some al =>
     simp only [ha] at h hv
     cases hra : K.ruleAt nm with
     | none => simp only [hra] at hv; cases hv
     | some ru =>
      simp only [hra] at h hv
      split at h
      ·cases h
      ·rename_i s1 h1
       cases h
       split at h1
       ·cases h1
       ·rename_i s3 h3
        cases h1
        split at h3
        rotate_left
        ·cases h3
        split at h3
        ·rename_i n hn
         cases h3
         have hfull := (qfc (ru := ru) (al := al) (here := a.1) hf).1 n hn
         simp only [hn] at hv
         cases hv
         exact ⟨rfl, fun hf' => by rw [hfull] at hf'; cases hf'⟩
        ·split at h3
         ·cases h3
         ·split at h3
          ·split at h3
           ·cases h3
           ·cases h3
          ·cases h3
       ·cases h1
      ·rename_i nx s1 h1
       split at h1
       ·cases h1
       ·cases h1
       ·rename_i nx1 s3 h3
        cases h1
        split at h3
        rotate_left
        ·cases h3
        split at h3
        ·cases h3
        ·rename_i i hi
         split at h3
         ·cases h3
         rename_i g hg
         split at h3
         rotate_left
         ·cases h3
         split at h3
         ·cases h3
         rename_i nx2 hnx
         cases h3
         have hnf := (qfc (ru := ru) (al := al) (here := a.1) hf).2 i hi
         simp only [hi, hg] at hv
         obtain ⟨m1, rfl, hm1⟩ := qju _ _ _ hnx
         rw [hm1] at hv
         obtain ⟨ps', q1, q2⟩ := qdd m1 [] [] ps _ rfl hv
         obtain ⟨r1, r2⟩ := qpq r hcr _ _ _ _ _ _ hnf h q1
         refine ⟨r1, fun hf' p => ?_⟩
         rw [← r2 hf' p, q2 (by rw [r1]; exact hf') p]
         simp
end E
namespace E
open X
/-! ### The program's look: what was seen is not gone again -/
structure Im where
 s : Rs
 done : List Nat
 seen : List (Nat × At)
def putD (l : List Nat) (p : Nat) : List Nat := if l.contains p then l else l ++ [p]
theorem qig {l : List Nat} {p q : Nat} : q ∈ putD l p ↔ q ∈ l ∨ q = p := by
 unfold putD
 split
 ·rename_i h
  constructor
  ·exact .inl
  ·rintro (h2 | rfl)
   ·exact h2
   ·simpa using h
 ·simp
def qgu (rec : At → Im → Option Im) (K : Kn) (text bs : List Nat) (a : At) : List Nat → Im → Option Im
 | [], m => some m
 | e :: r, m => if a.1 ≤ e ∧ e ≤ text.length then match K.bind a.2 bs ((text.take e).drop a.1) with
     | none => none
     | some env => match rec (e, env) m with
      | none => none
      | some m1 => qgu rec K text bs a r m1
  else none
def altI (K : Kn) (text : List Nat) : List T → Nat → At → Im → Option Im
 | [], j, a, m => if m.s.full || m.seen.contains (j, a) then some m else some ⟨m.s, putD m.done a.1, (j, a) :: m.seen⟩
 | x :: r, j, a, m => if m.s.full || m.seen.contains (j, a) then some m else match x with
  | .agg [.int .i64 (.ofNat kind), .str nm, ax, .str bs] =>
   if kind = 3 then match K.args ax a.2 a.1 with
    | none => none
    | some none => some ⟨m.s, m.done, (j, a) :: m.seen⟩
    | some (some al) => match K.ruleAt nm with
     | none => none
     | some ru => match (qbf m.s ru al a.1).2 with
      | .negSucc _ => some ⟨(qbf m.s ru al a.1).1, m.done, (j, a) :: m.seen⟩
      | .ofNat i => match (qbf m.s ru al a.1).1.goals[i]? with
       | none => none
       | some g => qgu (altI K text r (j + 1)) K text bs a g.ends ⟨(qbf m.s ru al a.1).1, m.done, (j, a) :: m.seen⟩
   else match K.plain x a.2 a.1 with
    | none => none
    | some none => some ⟨m.s, m.done, (j, a) :: m.seen⟩
    | some (some p) => altI K text r (j + 1) (p, a.2) ⟨m.s, m.done, (j, a) :: m.seen⟩
  | _ => none
/-- what a visit keeps -/
structure Ke (j : Nat) (m m' : Im) : Prop where
 done : ∀ p ∈ m.done, p ∈ m'.done
 seen : ∀ q ∈ m'.seen, q ∈ m.seen ∨ j ≤ q.1
theorem Ke.refl (j : Nat) (m : Im) : Ke j m m := ⟨fun p h => h, fun q h => .inl h⟩
theorem Ke.trans {j : Nat} {a b c : Im} (h1 : Ke j a b) (h2 : Ke j b c) : Ke j a c := ⟨fun p h => h2.done p (h1.done p h), fun q h => by
 rcases h2.seen q h with h | h
 ·exact h1.seen q h
 ·exact .inr h⟩
/-- what was seen from a Sym on is gone to its end -/
def Cl (K : Kn) (text : List Nat) (syms : List T) (j : Nat) (m : Im) : Prop := m.s.full = false → ∀ q ∈ m.seen, j ≤ q.1 → ∃ pb, visV K text (syms.drop q.1) q.2 m.s = some (pb, m.s) ∧ ∀ p ∈ pb, p ∈ m.done
/-- what a visit of a place does, told by visV -/
structure Vd (K : Kn) (text : List Nat) (syms : List T) (j : Nat) (m m' : Im) (ps : List Nat) (s2 : Rs) : Prop where
 s : m'.s = s2
 done : s2.full = false → ∀ p, p ∈ m'.done ↔ p ∈ m.done ∨ p ∈ ps
 ke : Ke j m m'
 cl : Cl K text syms j m'
/-- places of a list of ends -/
theorem qqj {K : Kn} {text : List Nat} {syms r : List T} {j : Nat} (hrec : ∀ (a : At) (m m' : Im) (ps : List Nat) (s2 : Rs), Cl K text syms j m → altI K text r j a m = some m' → visV K text r a m.s = some (ps, s2) → Vd K text syms j m m' ps s2) {bs : List Nat} {a : At} : ∀ (l : List Nat) (m m' : Im) (ps : List Nat) (s2 : Rs), Cl K text syms j m →
  qgu (altI K text r j) K text bs a l m = some m' → visE (visV K text r) K text bs a l m.s = some (ps, s2) → Vd K text syms j m m' ps s2
 | [], m, m', ps, s2, hc, h, hv => by
  simp only [qgu] at h
  simp only [visE] at hv
  cases h
  cases hv
  exact ⟨rfl, fun _ p => by simp, Ke.refl j m, hc⟩
 | e :: l, m, m', ps, s2, hc, h, hv => by
  simp only [qgu] at h
  simp only [visE] at hv
  split at h
  rotate_left
  ·cases h
  rename_i hcnd
  rw [if_pos hcnd] at hv
  split at h
  ·cases h
  rename_i env henv
  simp only [henv] at hv
  split at h
  ·cases h
  rename_i m1 hm1
  split at hv
  ·cases hv
  rename_i p1 s1 hp1
  split at hv
  ·cases hv
  rename_i p2 s3 hp2
  cases hv
  have v1 := hrec _ _ _ _ _ hc hm1 hp1
  have hs1 := v1.s
  rw [← hs1] at hp2
  have v2 := qqj hrec l m1 m' p2 s2 v1.cl h hp2
  refine ⟨v2.s, fun hf p => ?_, v1.ke.trans v2.ke, v2.cl⟩
  have hf1 : s1.full = false := by
   rw [← hs1]
   exact nfull (fun hs => by
    have := qlt (rec := visV K text r) (fun b s ps s' h => qfd r b s ps s' h) l _ _ _ hp2
    exact (this.2 hs).1) hf
  rw [v2.done hf p, v1.done hf1 p, List.mem_append, or_assoc]
theorem qpm {K : Kn} {text : List Nat} {syms : List T} : ∀ (n : Nat) (r : List T) (j : Nat), r.length ≤ n → syms.drop j = r → ∀ (a : At) (m m' : Im) (ps : List Nat) (s2 : Rs), Cl K text syms j m → altI K text r j a m = some m' → visV K text r a m.s = some (ps, s2) → Vd K text syms j m m' ps s2
 | n, r, j, hn0, hd, a, m, m', ps, s2, hc, h, hv => by
  cases hfm : m.s.full with
  | true =>
   have h2 : altI K text r j a m = some m := by cases r <;> simp only [altI, hfm, Bool.true_or, if_true]
   rw [h2] at h
   cases h
   rw [qer K text r a hfm] at hv
   cases hv
   exact ⟨rfl, (fun hf => by rw [hfm] at hf; cases hf), Ke.refl j m, hc⟩
  | false =>
  cases hs : m.seen.contains (j, a) with
  | true =>
   have h2 : altI K text r j a m = some m := by cases r <;> simp only [altI, hs, Bool.or_true, if_true]
   rw [h2] at h
   cases h
   obtain ⟨pb, q1, q2⟩ := hc hfm (j, a) (by simpa using hs) (Nat.le_refl _)
   rw [show syms.drop (j, a).1 = r from hd] at q1
   rw [q1] at hv
   cases hv
   refine ⟨rfl, fun _ p => ⟨.inl, ?_⟩, Ke.refl j m, hc⟩
   rintro (h | h)
   ·exact h
   ·exact q2 p h
  | false =>
  -- what was seen at this Sym or behind stays so
  have keep : ∀ (m2 : Im), Gx m.s m2.s → (∀ p ∈ m.done, p ∈ m2.done) → (∀ q ∈ m2.seen, q ∈ (j, a) :: m.seen ∨ j + 1 ≤ q.1) → (m2.s.full = false → ∃ pb, visV K text r a m2.s = some (pb, m2.s) ∧ ∀ p ∈ pb, p ∈ m2.done) → Cl K text syms (j + 1) m2 → Cl K text syms j m2 := fun m2 hg hdn hsn hnew hc1 hf2 q hq hjq => by
   by_cases e : j + 1 ≤ q.1
   ·exact hc1 hf2 q hq e
   ·rcases hsn q hq with h1 | h1
    ·rcases List.mem_cons.1 h1 with rfl | h1
     ·obtain ⟨pb, q1, q2⟩ := hnew hf2
      exact ⟨pb, by rw [show syms.drop (j, a).1 = r from hd]; exact q1, q2⟩
     ·obtain ⟨pb, q1, q2⟩ := hc hfm q h1 hjq
      exact ⟨pb, qcz _ _ _ _ _ _ q1 hfm hg hf2, fun p hp => hdn p (q2 p hp)⟩
    ·exact absurd h1 e
  have hc1 : ∀ s1 : Rs, Gx m.s s1 → Cl K text syms (j + 1) ⟨s1, m.done, (j, a) :: m.seen⟩ := fun s1 hg hf q hq hjq => by
   rcases List.mem_cons.1 hq with rfl | hq
   ·exact absurd hjq (by simp)
   ·obtain ⟨pb, q1, q2⟩ := hc hfm q hq (by omega)
    exact ⟨pb, qcz _ _ _ _ _ _ q1 hfm hg hf, q2⟩
  have kej : ∀ (m2 : Im), Ke (j + 1) ⟨m2.s, m.done, (j, a) :: m.seen⟩ m2 → Ke j m m2 := fun m2 hk => ⟨hk.done, fun q hq => by
   rcases hk.seen q hq with h | h
   ·rcases List.mem_cons.1 h with rfl | h
    ·exact .inr (Nat.le_refl _)
    ·exact .inl h
   ·exact .inr (by omega)⟩
  cases r with
  | nil =>
   simp only [altI, hfm, hs, Bool.or_self, Bool.false_eq_true, if_false] at h
   simp only [visV, hfm, Bool.false_eq_true, if_false] at hv
   cases h
   cases hv
   refine ⟨rfl, fun _ p => by rw [qig]; simp, ⟨fun p hp => qig.2 (.inl hp), fun q hq => ?_⟩, ?_⟩
   ·rcases List.mem_cons.1 hq with rfl | hq
    ·exact .inr (Nat.le_refl _)
    ·exact .inl hq
   ·refine keep _ (Gx.refl _) (fun p hp => qig.2 (.inl hp)) (fun q hq => .inl hq) (fun _ => ⟨[a.1], by simp only [visV, hfm, Bool.false_eq_true, if_false], fun p hp => by simp only [List.mem_singleton] at hp; exact qig.2 (.inr hp)⟩) ?_
    intro hf q hq hjq
    rcases List.mem_cons.1 hq with rfl | hq
    ·exact absurd hjq (by simp)
    ·obtain ⟨pb, q1, q2⟩ := hc hfm q hq (by omega)
     exact ⟨pb, q1, fun p hp => qig.2 (.inl (q2 p hp))⟩
  | cons x r =>
   have hd1 : syms.drop (j + 1) = r := by
    have : (syms.drop j).drop 1 = r := by rw [hd]; rfl
    rw [List.drop_drop] at this
    exact this
   cases n with
   | zero => simp at hn0
   | succ n0 =>
   have hn1 : r.length ≤ n0 := by simpa using hn0
   have hv0 := hv
   simp only [altI, hfm, hs, Bool.or_self, Bool.false_eq_true, if_false] at h
   simp only [visV, hfm, Bool.false_eq_true, if_false] at hv
   split at h
   rotate_left
   ·cases h
   rename_i kind nm ax bs
   -- nothing is gone on to
   have stop : ∀ s1 : Rs, Gx m.s s1 → visV K text (.agg [.int .i64 (.ofNat kind), .str nm, ax, .str bs] :: r) a m.s = some ([], s1) → Vd K text syms j m ⟨s1, m.done, (j, a) :: m.seen⟩ [] s1 := fun s1 hg hvv =>
    ⟨rfl, fun _ p => by simp, kej ⟨s1, m.done, (j, a) :: m.seen⟩ (Ke.refl _ _), keep ⟨s1, m.done, (j, a) :: m.seen⟩ hg (fun p hp => hp) (fun q hq => .inl hq) (fun hf => ⟨[], qcz _ _ _ _ _ _ hvv hf (Gx.refl _) hf, fun p hp => by cases hp⟩) (hc1 s1 hg)⟩
   -- it is gone on to a visit
   have go : ∀ (s1 : Rs) (m2 : Im), Gx m.s s1 → Vd K text syms (j + 1) ⟨s1, m.done, (j, a) :: m.seen⟩ m2 ps s2 → Vd K text syms j m m2 ps s2 := fun s1 m2 hg v => by
    have hg2 : Gx m.s m2.s := by
     rw [v.s]
     exact (qfd _ _ _ _ _ hv0).1
    have hk : Ke (j + 1) ⟨m2.s, m.done, (j, a) :: m.seen⟩ m2 := ⟨v.ke.done, v.ke.seen⟩
    refine ⟨v.s, v.done, kej m2 hk, keep m2 hg2 v.ke.done v.ke.seen (fun hf => ?_) v.cl⟩
    have hf2 : s2.full = false := by rw [← v.s]; exact hf
    refine ⟨ps, ?_, fun p hp => (v.done hf2 p).2 (.inr hp)⟩
    rw [v.s]
    exact qcz _ _ _ _ _ _ hv0 hf2 (Gx.refl _) hf2
   split at h
   ·rename_i k3
    simp only [if_pos k3] at hv
    split at h
    ·cases h
    ·rename_i ha
     cases h
     simp only [ha] at hv
     cases hv
     exact stop _ (Gx.refl _) hv0
    ·rename_i al ha
     simp only [ha] at hv
     split at h
     ·cases h
     rename_i ru hru
     simp only [hru] at hv
     split at h
     ·rename_i n hn
      cases h
      simp only [hn] at hv
      cases hv
      exact stop _ (qfd _ _ _ _ _ hv0).1 hv0
     ·rename_i i hi
      split at h
      ·cases h
      rename_i g hg
      simp only [hi, hg] at hv
      have hgx : Gx m.s (qbf m.s ru al a.1).1 := by
       rcases qpz m.s ru al a.1 with ⟨i2, g2, e1, e2, e3⟩ | ⟨n, e1, e2, e3⟩ | ⟨n, e1, e2, e3⟩
       ·rw [e3]; exact Gx.refl _
       ·rw [e3]; exact ⟨⟨[], by simp, fun g hg => by cases hg⟩, rfl⟩
       ·rw [e3]; exact ⟨⟨_, rfl, fun g hg => by simp only [List.mem_singleton] at hg; subst hg; rfl⟩, rfl⟩
      exact go _ m' hgx (qqj (fun b m m' ps s2 q1 q2 q3 => qpm n0 r (j + 1) hn1 hd1 b m m' ps s2 q1 q2 q3) g.ends _ m' ps s2 (hc1 _ hgx) h hv)
   ·rename_i k3
    simp only [if_neg k3] at hv
    split at h
    ·cases h
    ·rename_i hp
     cases h
     simp only [hp] at hv
     cases hv
     exact stop _ (Gx.refl _) hv0
    ·rename_i p hp
     simp only [hp] at hv
     exact go _ m' (Gx.refl _) (qpm n0 r (j + 1) hn1 hd1 _ _ m' ps s2 (hc1 _ (Gx.refl _)) h hv)
end E
namespace E
open X
/-! ### A full chart stays full -/
theorem qoo {s : Rs} {ru : Nat} {al : List Nat} {here : Nat} (hf : s.full = true) : (qbf s ru al here).1.full = true := by
 rcases qpz s ru al here with ⟨i, g, h1, h2, h3⟩ | ⟨n, h1, h2, h3⟩ | ⟨n, h1, h2, h3⟩ <;> rw [h3]
 ·exact hf
 ·exact hf
theorem qsm {K : Kn} {text : List Nat} {x : T} {a : At} {nx : List At} {s : Rs} {o : Option (List At)} {s' : Rs} (hf : s.full = true) (e : oneS K text x a nx s = some (o, s')) : s'.full = true := by
 unfold oneS at e
 split at e
 rotate_left
 ·cases e
 rename_i kind nm ax bs
 split at e
 ·unfold qun at e
  split at e
  ·cases e
  ·cases e; exact hf
  ·split at e
   rotate_left
   ·cases e
   split at e
   ·cases e
   ·split at e
    ·cases e; exact qoo hf
    ·split at e
     ·cases e
     ·split at e
      ·split at e
       ·cases e
       ·cases e; exact qoo hf
      ·cases e
 ·split at e
  ·cases e
  ·cases e; exact hf
  ·split at e
   ·cases e; exact hf
   ·cases e
theorem qjo {K : Kn} {text : List Nat} {x : T} : ∀ (l nx : List At) (s : Rs) (o : Option (List At)) (s' : Rs), s.full = true → qds K text x l nx s = some (o, s') → s'.full = true
 | [], nx, s, o, s', hf, e => by simp only [qds] at e; cases e; exact hf
 | a :: l, nx, s, o, s', hf, e => by
  simp only [qds] at e
  split at e
  ·cases e
  ·rename_i h1; cases e; exact qsm hf h1
  ·rename_i h1; exact qjo l _ _ o s' (qsm hf h1) e
theorem qsl {K : Kn} {text : List Nat} : ∀ (r : List T) (l : List At) (s : Rs) (l' : List At) (s' : Rs), s.full = true → altS K text r l s = some (l', s') → s'.full = true
 | [], l, s, l', s', hf, e => by simp only [altS] at e; cases e; exact hf
 | x :: r, l, s, l', s', hf, e => by
  simp only [altS] at e
  split at e
  ·cases e
  ·split at e
   ·cases e
   ·rename_i h1; cases e; exact qjo _ _ _ _ _ hf h1
   ·rename_i h1; exact qsl r _ _ _ _ (qjo _ _ _ _ _ hf h1) e
theorem q2r {s s' : Rs} {i e : Nat} (h : addS s i e = some s') : s'.full = s.full := by
 unfold addS at h
 split at h
 ·cases h
 split at h
 ·cases h; rfl
 ·cases h
theorem qjl {i : Nat} {ends : List Nat} : ∀ (f : List Bool) (p : Nat) (s s' : Rs), qgd i ends f p s = some s' → s'.full = s.full
 | [], p, s, s', h => by simp only [qgd] at h; cases h; rfl
 | b :: r, p, s, s', h => by
  simp only [qgd] at h
  split at h
  ·split at h
   ·cases h
   ·rename_i s1 h1
    rw [qjl r _ _ _ h, q2r h1]
  ·exact qjl r _ _ _ h
/-! ### All alternatives -/
def qhs (K : Kn) (text : List Nat) (ps : T) (g : Gl) : List T → Im → Option Im
 | [], m => some m
 | x :: r, m => match x with
  | .agg [xs] => match qce xs with
   | none => none
   | some syms => match K.env0 ps g.args with
    | none => none
    | some env => match altI K text syms 0 (g.from_, env) ⟨m.s, m.done, []⟩ with
     | none => none
     | some m' => qhs K text ps g r m'
  | _ => none
def twoB (x : T) : Bool := match x with
 | .agg [xs] => match qce xs with
  | some syms => decide (calls syms ≤ 2)
  | none => false
 | _ => false
def qtm (rules : List T) : Bool := rules.all fun x => match x with
 | .agg [_, _, az] => match qce az with
  | some al => al.all twoB
  | none => false
 | _ => false
theorem qrw : ∀ (l : List At) (f f' : List Bool), qnj l f = some f' → ∀ p : Nat, f'[p]? = some true ↔ (f[p]? = some true ∨ p ∈ l.map (·.1))
 | [], f, f', h, p => by simp only [qnj, Option.some.injEq] at h; subst h; simp
 | a :: l, f, f', h, p => by
  simp only [qnj] at h
  split at h
  ·rename_i hlt
   rw [qrw l _ _ h p]
   by_cases e : a.1 = p
   ·subst e
    rw [List.getElem?_set_self hlt]
    simp
   ·rw [List.getElem?_set_ne e]
    simp only [List.map_cons, List.mem_cons]
    constructor
    ·rintro (h | h)
     ·exact .inl h
     ·exact .inr (.inr h)
    ·rintro (h | h | h)
     ·exact .inl h
     ·exact absurd h.symm e
     ·exact .inr h
  ·cases h
section
variable {SR : List Nat → Option (List Nat)} {MK : T → Option (List Bool)} {VN : List Nat → Bool} {RA : List Nat → Option Nat} {text : List Nat}
theorem qrp (ht : bsB text = true) (hn : text.length ≤ 12) {R : Nat} {rec : At → Im → Option Im} (hrec : ∀ (a : At) (m : Im), a.1 ≤ text.length → GE VN a.2 → RI text.length R m.s → ∃ m', rec a m = some m' ∧ RI text.length R m'.s) {a : At} (ha2 : GE VN a.2) {bs : List Nat} (hb : (decide (bs = []) || VN bs) = true) : ∀ (l : List Nat) (m : Im), (∀ e ∈ l, a.1 ≤ e ∧ e ≤ text.length) → RI text.length R m.s → ∃ m', qgu rec (mkK SR MK VN RA text) text bs a l m = some m' ∧ RI text.length R m'.s
 | [], m, he, hR => ⟨m, rfl, hR⟩
 | e :: l, m, he, hR => by
  have h1 := he e (by simp)
  obtain ⟨env, hb1, hb2⟩ := qlc ha2 hb (qui ht e a.1) (by simp; omega)
  obtain ⟨m1, q1, q2⟩ := hrec (e, env) m h1.2 hb2 hR
  obtain ⟨m2, r1, r2⟩ := qrp ht hn hrec ha2 hb l m1 (fun x hx => he x (List.mem_cons_of_mem _ hx)) q2
  refine ⟨m2, ?_, r2⟩
  simp only [qgu]
  rw [if_pos h1]
  have : (mkK SR MK VN RA text).bind = qkt VN := rfl
  simp only [this, hb1, q1, r1]
theorem qic (ht : bsB text = true) (hn : text.length ≤ 12) {R : Nat} : ∀ (r : List T), r.all (qhu SR MK VN RA R) = true → ∀ (j : Nat) (a : At) (m : Im), a.1 ≤ text.length → GE VN a.2 → RI text.length R m.s → ∃ m', altI (mkK SR MK VN RA text) text r j a m = some m' ∧ RI text.length R m'.s
 | [], hs, j, a, m, ha1, ha2, hR => by
  simp only [altI]
  split
  ·exact ⟨m, rfl, hR⟩
  ·exact ⟨_, rfl, hR⟩
 | x :: r, hs, j, a, m, ha1, ha2, hR => by
  simp only [List.all_cons, Bool.and_eq_true] at hs
  obtain ⟨hs, hsr⟩ := hs
  simp only [altI]
  split
  ·exact ⟨m, rfl, hR⟩
  ·have hs0 := hs
   unfold qhu at hs
   split at hs
   rotate_left
   ·cases hs
   rename_i kind tx ax bs
   simp only
   by_cases k3 : kind = 3
   ·rw [if_pos k3] at hs ⊢
    simp only [Bool.and_eq_true] at hs
    obtain ⟨h1, h2, h3⟩ := hs
    split at h1
    rotate_left
    ·cases h1
    rename_i l hax
    simp only [Bool.and_eq_true, decide_eq_true_eq] at h1
    obtain ⟨h11, h12, h13⟩ := h1
    split at h2
    rotate_left
    ·cases h2
    rename_i ru hru
    have hruR : ru < R := by simpa using h2
    obtain ⟨o, ho, hol⟩ := qik ha2 a.1 l [] h13
    have hargs : (mkK SR MK VN RA text).args ax a.2 a.1 = some o := by
     show qiz MK ax a.2 a.1 = some o
     simp only [qiz, hax]
     rw [if_pos ⟨h11, h12⟩]
     exact ho
    simp only [hargs]
    cases o with
    | none => exact ⟨_, rfl, hR⟩
    | some al =>
     have hal := hol al rfl
     simp only [List.length_nil, Nat.zero_add] at hal
     have hra : (mkK SR MK VN RA text).ruleAt tx = some ru := hru
     simp only [hra]
     obtain ⟨g1, g2, g3⟩ := qhy hR hruR (al := al) (by omega) ha1
     split
     ·exact ⟨_, rfl, g1⟩
     ·rename_i i hi
      obtain ⟨g, hg, hfr⟩ := g3 i hi
      simp only [hg]
      have hgi := g1.gi g (List.mem_of_getElem? hg)
      exact qrp ht hn (fun b m q1 q2 q3 => qic ht hn r hsr (j + 1) b m q1 q2 q3) ha2 h3 g.ends _ (fun e he => by have := hgi.asc.mem e he; omega) g1
   ·rw [if_neg k3]
    obtain ⟨o, hr, hrp⟩ := qgp hn hs0 k3 ha2 ha1
    have hpl : (mkK SR MK VN RA text).plain (.agg [.int .i64 (.ofNat kind), .str tx, ax, .str bs]) a.2 a.1 = some o := hr
    simp only [hpl]
    cases o with
    | none => exact ⟨_, rfl, hR⟩
    | some p => exact qic ht hn r hsr (j + 1) (p, a.2) _ (hrp p rfl).2 ha2 hR
/-- what the alternatives of a goal come to, on both sides -/
structure Lk (R : Nat) (text : List Nat) (f : List Bool) (s : Rs) (m : Im) : Prop where
 ri : RI text.length R m.s
 ful : m.s.full = s.full
 st : s.full = false → m.s = s
 done : s.full = false → ∀ p, p ∈ m.done ↔ f[p]? = some true
theorem alt_same (ht : bsB text = true) (hn : text.length ≤ 12) {R : Nat} {ps : T} {pl : List (List Nat)} (hps : qmh ps = some pl) (hpl : pl.length ≤ 1000 ∧ pl.all VN = true) {g : Gl} (hg : GI text.length R g) {x : T} (hx : qpc SR MK VN RA R x = true) (h2 : twoB x = true) {f : List Bool} {s : Rs} {m : Im} (L : Lk R text f s m) {f' : List Bool} {s' : Rs} (e : qlf (mkK SR MK VN RA text) text ps g x f s = some (f', s')) :
  ∃ m', (∀ r, qhs (mkK SR MK VN RA text) text ps g (x :: r) m = qhs (mkK SR MK VN RA text) text ps g r m') ∧ Lk R text f' s' m' := by
 unfold qpc at hx
 split at hx
 rotate_left
 ·cases hx
 rename_i xs
 split at hx
 rotate_left
 ·cases hx
 rename_i syms hsy
 simp only [Bool.and_eq_true, decide_eq_true_eq] at hx
 simp only [twoB, hsy, decide_eq_true_eq] at h2
 obtain ⟨env, e1, e2⟩ := qlk (VN := VN) pl g.args [] hpl.2 ⟨rfl, by simp⟩
 have he : (mkK SR MK VN RA text).env0 ps g.args = some env := by
  show qpj VN ps g.args = some env
  simp only [qpj, hps]
  rw [if_pos ⟨hpl.1, hg.args⟩]
  exact e1
 simp only [qlf, hsy, he] at e
 split at e
 rotate_left
 ·cases e
 split at e
 ·cases e
 rename_i l s1 hal
 split at e
 rotate_left
 ·cases e
 split at e
 ·cases e
 rename_i f1 hmk
 cases e
 obtain ⟨m', q1, q2⟩ := qic (SR := SR) (MK := MK) (RA := RA) ht hn syms hx.2 0 (g.from_, env) ⟨m.s, m.done, []⟩ hg.fr e2 L.ri
 refine ⟨m', fun r => by simp only [qhs, hsy, he, q1], ?_⟩
 cases hf : s.full with
 | true =>
  have h3 : altI (mkK SR MK VN RA text) text syms 0 (g.from_, env) ⟨m.s, m.done, []⟩ = some ⟨m.s, m.done, []⟩ := by
   have : m.s.full = true := by rw [L.ful]; exact hf
   cases syms <;> simp only [altI, this, Bool.true_or, if_true]
  rw [h3] at q1
  cases q1
  have h4 := qsl _ _ _ _ _ hf hal
  exact ⟨L.ri, by rw [h4]; exact L.ful.trans hf, (fun h => by rw [h4] at h; cases h), (fun h => by rw [h4] at h; cases h)⟩
 | false =>
  have hms := L.st hf
  obtain ⟨pv, s2, v1, v2⟩ := qpo (SR := SR) (MK := MK) (RA := RA) ht hn syms hx.2 (g.from_, env) m.s hg.fr e2 L.ri
  have hfm : m.s.full = false := by rw [hms]; exact hf
  rw [hms] at v1
  obtain ⟨w1, w2⟩ := qvm syms h2 _ _ _ _ _ _ hf hal v1
  rw [← hms] at v1
  have V := qpm syms.length syms 0 (Nat.le_refl _) rfl (g.from_, env) ⟨m.s, m.done, []⟩ m' pv s2 (fun _ q hq => by cases hq) q1 v1
  have hsm : m'.s = s' := by rw [V.s, w1]
  refine ⟨q2, by rw [hsm], fun _ => hsm, fun h p => ?_⟩
  rw [V.done (by rw [w1]; exact h) p, qrw l f f' hmk p, L.done hf p, w2 h p]
theorem qoi (ht : bsB text = true) (hn : text.length ≤ 12) {R : Nat} {ps : T} {pl : List (List Nat)} (hps : qmh ps = some pl) (hpl : pl.length ≤ 1000 ∧ pl.all VN = true) {g : Gl} (hg : GI text.length R g) : ∀ (al : List T), al.all (qpc SR MK VN RA R) = true → al.all twoB = true → ∀ (f : List Bool) (s : Rs) (m : Im), Lk R text f s m → ∀ (f' : List Bool) (s' : Rs), qfb (mkK SR MK VN RA text) text ps g al f s = some (f', s') →
  ∃ m', qhs (mkK SR MK VN RA text) text ps g al m = some m' ∧ Lk R text f' s' m'
 | [], _, _, f, s, m, L, f', s', e => by
  simp only [qfb] at e
  cases e
  exact ⟨m, rfl, L⟩
 | x :: r, h1, h2, f, s, m, L, f', s', e => by
  simp only [List.all_cons, Bool.and_eq_true] at h1 h2
  simp only [qfb] at e
  split at e
  ·cases e
  rename_i f1 s1 ha
  obtain ⟨m1, a1, a2⟩ := alt_same ht hn hps hpl hg h1.1 h2.1 L ha
  obtain ⟨m2, b1, b2⟩ := qoi ht hn hps hpl hg r h1.2 h2.2 f1 s1 m1 a2 f' s' e
  exact ⟨m2, by rw [a1]; exact b1, b2⟩
end
end E
namespace E
open X
/-! ### Ends are put alike -/
def ascF : List Bool → Nat → List Nat
 | [], _ => []
 | b :: r, p => if b then p :: ascF r (p + 1) else ascF r (p + 1)
theorem qwm : ∀ (f : List Bool) (p : Nat), (ascF f p).length ≤ f.length
 | [], p => Nat.le_refl _
 | b :: r, p => by
  have := qwm r (p + 1)
  simp only [ascF]
  split <;> simp only [List.length_cons] <;> omega
/-- what is in a list, ascending -/
def srt (n : Nat) (d : List Nat) : List Nat := ascF ((List.range (n + 1)).map fun p => d.contains p) 0
theorem srt_of {n : Nat} {d : List Nat} {f : List Bool} (hl : f.length = n + 1) (h : ∀ p, p ∈ d ↔ f[p]? = some true) : srt n d = ascF f 0 := by
 have : (List.range (n + 1)).map (fun p => d.contains p) = f := by
  apply List.ext_getElem?
  intro p
  by_cases hp : p < n + 1
  ·have e1 : f[p]? = some (f[p]'(by omega)) := List.getElem?_eq_getElem _
   rw [List.getElem?_map, List.getElem?_range hp]
   simp only [Option.map_some]
   rw [e1]
   have h1 := h p
   rw [e1] at h1
   congr 1
   cases hb : f[p]'(by omega) with
   | true => rw [hb] at h1; simpa using h1.2 rfl
   | false =>
    rw [hb] at h1
    cases hc : d.contains p with
    | false => rfl
    | true =>
     have := h1.1 (by simpa using hc)
     cases this
  ·rw [List.getElem?_eq_none (by simp; omega), List.getElem?_eq_none (by omega)]
 unfold srt
 rw [this]
def endI (s : Rs) (i e : Nat) : Option Rs := match s.goals[i]? with
 | none => none
 | some g => if g.ends.contains e then some s else addS s i e
def qdr (i : Nat) : List Nat → Rs → Option Rs
 | [], s => some s
 | e :: l, s => match endI s i e with
  | none => none
  | some s' => qdr i l s'
theorem q1m {e x : Nat} : ∀ {l q : List Nat}, q.length = l.length → x ∈ l → x < e → x ∈ (lowE e l q).1
 | y :: l, k :: q, hl, hx, hlt => by
  have ih := fun h => q1m (e := e) (x := x) (l := l) (q := q) (by simpa using hl) h hlt
  simp only [lowE]
  rcases List.mem_cons.1 hx with rfl | hx
  ·rw [if_pos hlt]; exact List.mem_cons_self ..
  ·split
   ·exact List.mem_cons_of_mem _ (ih hx)
   ·exact ih hx
 | [], q, hl, hx, hlt => by cases hx
 | y :: l, [], hl, hx, hlt => by simp at hl
theorem hiE_in {e x : Nat} : ∀ {l q : List Nat}, q.length = l.length → x ∈ l → e < x → x ∈ (hiE e l q).1
 | y :: l, k :: q, hl, hx, hlt => by
  have ih := fun h => hiE_in (e := e) (x := x) (l := l) (q := q) (by simpa using hl) h hlt
  simp only [hiE]
  rcases List.mem_cons.1 hx with rfl | hx
  ·rw [if_pos hlt]; exact List.mem_cons_self ..
  ·split
   ·exact List.mem_cons_of_mem _ (ih hx)
   ·exact ih hx
 | [], q, hl, hx, hlt => by cases hx
 | y :: l, [], hl, hx, hlt => by simp at hl
theorem endsA_in {g : Gl} {e x : Nat} (hl : g.ranks.length = g.ends.length) (hx : x ∈ g.ends) : x ∈ qdu g e := by
 unfold qdu
 simp only [List.mem_append, List.mem_singleton]
 rcases Nat.lt_trichotomy x e with h | h | h
 ·exact .inl (.inl (q1m hl hx h))
 ·exact .inl (.inr h)
 ·exact .inr (hiE_in hl hx h)
theorem qif {n R : Nat} (hn : n ≤ 12) {i : Nat} {ends : List Nat} {fr : Nat} : ∀ (f : List Bool) (p : Nat) (s s' : Rs) (g : Gl), RI n R s → s.goals[i]? = some g → g.from_ = fr → (∀ k : Nat, f[k]? = some true → fr ≤ p + k) → p + f.length = n + 1 → (∀ x ∈ g.ends, x ∈ ends ∨ x < p) → (∀ x ∈ ends, x ∈ g.ends) → qgd i ends f p s = some s' → qdr i (ascF f p) s = some s'
 | [], p, s, s', g, h, hg, hfr, hf, hp, hx, hy, e => by simp only [qgd] at e; cases e; rfl
 | b :: r, p, s, s', g, h, hg, hfr, hf, hp, hx, hy, e => by
  simp only [List.length_cons] at hp
  have hf' : ∀ k : Nat, r[k]? = some true → fr ≤ (p + 1) + k := fun k hk => by
   have := hf (k + 1) (by simpa using hk)
   omega
  have hx' : ∀ x ∈ g.ends, x ∈ ends ∨ x < p + 1 := fun x hm => by
   rcases hx x hm with z | z
   ·exact .inl z
   ·exact .inr (by omega)
  simp only [qgd] at e
  cases b with
  | false =>
   simp only [Bool.false_and, Bool.false_eq_true, if_false] at e
   simp only [ascF, Bool.false_eq_true, if_false]
   exact qif hn r (p + 1) s s' g h hg hfr hf' (by omega) hx' hy e
  | true =>
   simp only [ascF, if_true, qdr, endI, hg]
   cases hc : ends.contains p with
   | true =>
    have hin : g.ends.contains p = true := by simpa using hy p (by simpa using hc)
    simp only [hc, Bool.not_true, Bool.and_false, Bool.false_eq_true, if_false] at e
    rw [hin]
    simp only [if_true]
    exact qif hn r (p + 1) s s' g h hg hfr hf' (by omega) hx' hy e
   | false =>
    have hne : p ∉ g.ends := fun hm => by
     rcases hx p hm with q | q
     ·have : ends.contains p = true := by simpa using q
      rw [this] at hc; cases hc
     ·omega
    have hin : g.ends.contains p = false := by simpa using hne
    simp only [hc, Bool.not_false, Bool.and_self, if_true] at e
    rw [hin]
    simp only [Bool.false_eq_true, if_false]
    obtain ⟨s1, g1, q1, q2, q3, q4, q5, q6⟩ := qve hn h hg (e := p) (by have := hf 0 rfl; omega) (by omega) hne
    rw [q1] at e ⊢
    simp only at e ⊢
    have hg1 : g1.ends = qdu g p := by
     unfold addS at q1
     rw [hg] at q1
     simp only at q1
     split at q1
     ·cases q1
      have : (s.goals.set i { g with ends := qdu g p, ranks := qcs g p s.rank })[i]? = some g1 := q4
      rw [List.getElem?_set_self (lt_of_get hg)] at this
      cases this
      rfl
     ·cases q1
    refine qif hn r (p + 1) s1 s' g1 q2 q4 (by omega) hf' (by omega) (fun x hm => ?_) (fun x hm => ?_) e
    ·rcases q6 x hm with q | q
     ·exact hx' x q
     ·exact .inr (by omega)
    ·rw [hg1]
     exact endsA_in (h.gi g (List.mem_of_getElem? hg)).rk (hy x hm)
/-! ### Ends may be put into a full chart too -/
theorem low_hi (e : Nat) : ∀ (l q : List Nat), (lowE e l q).1.length + (hiE e l q).1.length ≤ l.length ∧ (lowE e l q).1.length = (lowE e l q).2.length ∧ (hiE e l q).1.length = (hiE e l q).2.length
 | [], q => by simp [lowE, hiE]
 | x :: r, [] => by simp [lowE, hiE]
 | x :: r, k :: q => by
  obtain ⟨h1, h2, h3⟩ := low_hi e r q
  simp only [lowE, hiE]
  refine ⟨?_, ?_, ?_⟩
  ·split <;> split <;> (try simp only [List.length_cons]) <;> omega
  ·split <;> (try simp only [List.length_cons]) <;> omega
  ·split <;> (try simp only [List.length_cons]) <;> omega
theorem qmz {i : Nat} : ∀ (l : List Nat) (s : Rs) (g : Gl), s.goals[i]? = some g → g.ranks.length = g.ends.length → g.ends.length + l.length ≤ 1000 → s.rank + l.length ≤ 1000000000000 → ∃ s', qdr i l s = some s' ∧ s'.full = s.full
 | [], s, g, _, _, _, _ => ⟨s, rfl, rfl⟩
 | e :: l, s, g, hg, h1, h2, h3 => by
  try simp only [List.length_cons] at h2
  try simp only [List.length_cons] at h3
  simp only [qdr, endI, hg]
  split
  ·rename_i hq
   split at hq
   ·cases hq
   ·unfold addS at hq
    rw [hg] at hq
    simp only at hq
    rw [if_pos ⟨by omega, by omega, by omega⟩] at hq
    cases hq
  ·rename_i s1 hq
   split at hq
   ·cases hq
    exact qmz l s g hg h1 (by omega) (by omega)
   ·unfold addS at hq
    rw [hg] at hq
    simp only at hq
    rw [if_pos ⟨by omega, by omega, by omega⟩] at hq
    cases hq
    obtain ⟨a1, a2, a3⟩ := low_hi e g.ends g.ranks
    exact qmz l _ { g with ends := qdu g e, ranks := qcs g e s.rank } (List.getElem?_set_self (lt_of_get hg)) (by simp only [qdu, qcs, List.length_append, List.length_singleton]; omega) (by simp only [qdu, List.length_append, List.length_singleton]; omega) (by show s.rank + 1 + l.length ≤ _; omega)
/-! ### A chart never shrinks -/
theorem qsz (s : Rs) (ru : Nat) (al : List Nat) (here : Nat) : s.goals.length ≤ (qbf s ru al here).1.goals.length := by
 rcases qpz s ru al here with ⟨i, g, h1, h2, h3⟩ | ⟨n, h1, h2, h3⟩ | ⟨n, h1, h2, h3⟩ <;> rw [h3]
 ·exact Nat.le_refl _
 ·exact Nat.le_refl _
 ·simp
theorem qtf {rec : At → Im → Option Im} (hrec : ∀ a m m', rec a m = some m' → m.s.goals.length ≤ m'.s.goals.length) {K : Kn} {text bs : List Nat} {a : At} : ∀ (l : List Nat) (m m' : Im), qgu rec K text bs a l m = some m' → m.s.goals.length ≤ m'.s.goals.length
 | [], m, m', h => by simp only [qgu] at h; cases h; exact Nat.le_refl _
 | e :: l, m, m', h => by
  simp only [qgu] at h
  split at h
  rotate_left
  ·cases h
  split at h
  ·cases h
  split at h
  ·cases h
  ·rename_i m1 h1
   exact Nat.le_trans (hrec _ _ _ h1) (qtf hrec l _ _ h)
theorem qpy {K : Kn} {text : List Nat} : ∀ (r : List T) (j : Nat) (a : At) (m m' : Im), altI K text r j a m = some m' → m.s.goals.length ≤ m'.s.goals.length
 | [], j, a, m, m', h => by
  simp only [altI] at h
  split at h <;> (cases h; exact Nat.le_refl _)
 | x :: r, j, a, m, m', h => by
  simp only [altI] at h
  split at h
  ·cases h; exact Nat.le_refl _
  ·split at h
   rotate_left
   ·cases h
   split at h
   ·split at h
    ·cases h
    ·cases h; exact Nat.le_refl _
    ·split at h
     ·cases h
     ·split at h
      ·cases h; exact qsz _ _ _ _
      ·split at h
       ·cases h
       ·have := qtf (fun a m m' h => qpy r (j + 1) a m m' h) _ _ _ h
        exact Nat.le_trans (qsz _ _ _ _) this
   ·split at h
    ·cases h
    ·cases h; exact Nat.le_refl _
    ·have := qpy r (j + 1) _ ⟨m.s, m.done, (j, a) :: m.seen⟩ _ h
     exact this
theorem qrl {K : Kn} {text : List Nat} {ps : T} {g : Gl} : ∀ (al : List T) (m m' : Im), qhs K text ps g al m = some m' → m.s.goals.length ≤ m'.s.goals.length
 | [], m, m', h => by simp only [qhs] at h; cases h; exact Nat.le_refl _
 | x :: r, m, m', h => by
  simp only [qhs] at h
  split at h
  rotate_left
  ·cases h
  split at h
  ·cases h
  split at h
  ·cases h
  split at h
  ·cases h
  ·rename_i m1 h1
   have := qpy _ _ _ ⟨m.s, m.done, []⟩ _ h1
   exact Nat.le_trans this (qrl r _ _ h)
/-! ### Looks, rounds, runs -/
def qyj (K : Kn) (rules : List T) (text : List Nat) (s : Rs) (i : Nat) : Option Rs :=
 match s.goals[i]? with
 | none => none
 | some g => match rules[g.rule]? with
  | some (.agg [.str nm, ps, az]) => match qce az with
   | none => none
   | some al => match qhs K text ps g al ⟨s, [], []⟩ with
    | none => none
    | some m => qdr i (srt text.length m.done) m.s
  | _ => none
def qsy (K : Kn) (rules : List T) (text : List Nat) : Nat → Nat → Rs → Option Rs
 | 0, _, _ => none
 | f + 1, i, s => if i < s.goals.length ∧ s.full = false then match qyj K rules text s i with
       | none => none
       | some s' => qsy K rules text f (i + 1) s'
  else some s
def qkd (K : Kn) (rules : List T) (text : List Nat) (f : Nat) : Nat → Rs → Option Rs
 | 0, _ => none
 | n + 1, s => if s.fresh = true ∧ s.full = false then match qsy K rules text f 0 { s with fresh := false } with
     | none => none
     | some s' => qkd K rules text f n s'
  else some s
section
variable {SR : List Nat → Option (List Nat)} {MK : T → Option (List Bool)} {VN : List Nat → Bool} {RA : List Nat → Option Nat} {text : List Nat}
def Al (s s2 : Rs) : Prop := s2.full = s.full ∧ (s.full = false → s2 = s)
theorem qst {rules : List T} (hG : grOk SR MK VN RA rules = true) (hB : qtm rules = true) (ht : bsB text = true) (hn : text.length ≤ 12) {s : Rs} (hf : s.full = false) (hR : RI text.length rules.length s) {i : Nat} {s' : Rs} (e : qpg (mkK SR MK VN RA text) rules text s i = some s') : ∃ s2, qyj (mkK SR MK VN RA text) rules text s i = some s2 ∧ Al s' s2 := by
 unfold qpg at e
 split at e
 ·cases e
 rename_i g hg
 split at e
 rotate_left
 ·cases e
 rename_i nm ps az hx
 split at e
 ·cases e
 rename_i al hal
 split at e
 rotate_left
 ·cases e
 split at e
 ·cases e
 rename_i f1 s1 hl
 have hgi := hR.gi g (List.mem_of_getElem? hg)
 have hxo : qnw SR MK VN RA rules.length _ = true := List.all_eq_true.1 hG _ (List.mem_of_getElem? hx)
 unfold qnw at hxo
 simp only [Bool.and_eq_true, hal] at hxo
 obtain ⟨h1, h2⟩ := hxo
 split at h1
 rotate_left
 ·cases h1
 rename_i pl hpl
 simp only [Bool.and_eq_true, decide_eq_true_eq] at h1 h2
 have hb := List.all_eq_true.1 hB _ (List.mem_of_getElem? hx)
 simp only [hal] at hb
 have hrep : ∀ p : Nat, (List.replicate (text.length + 1) false)[p]? = some true ↔ False := fun p => by
  rw [List.getElem?_replicate]
  split <;> simp
 obtain ⟨m, a1, L⟩ := qoi ht hn hpl h1 hgi al h2.2 hb (List.replicate (text.length + 1) false) s ⟨s, [], []⟩ ⟨hR, rfl, fun _ => rfl, fun _ p => by rw [hrep]; simp⟩ f1 s1 hl
 obtain ⟨f2, s3, q1, q2, q3, q4, q5⟩ := qjn ht hn hpl h1 hgi al (List.replicate (text.length + 1) false) s h2.2 (by simp) (fun p hp => absurd hp (by rw [hrep]; simp)) hR
 rw [hl] at q1
 cases q1
 simp only [qyj, hg, hx, hal, a1]
 cases hf1 : s1.full with
 | true =>
  have hfl := qjl _ _ _ _ e
  -- the goal is there, whatever else
  have hm : m.s.full = true := by rw [L.ful]; exact hf1
  have hlen : i < m.s.goals.length := Nat.lt_of_lt_of_le (lt_of_get hg) (qrl al _ _ a1)
  obtain ⟨g2, hg2⟩ := X.get_of_lt hlen
  have hg2i := L.ri.gi g2 (List.mem_of_getElem? hg2)
  have hl13 := hg2i.len hn
  have hsl : (srt text.length m.done).length ≤ text.length + 1 := by
   have := qwm ((List.range (text.length + 1)).map fun p => m.done.contains p) 0
   simpa [srt] using this
  have hmu := (L.ri.mu hn).2
  obtain ⟨s2, b1, b2⟩ := qmz (srt text.length m.done) m.s g2 hg2 hg2i.rk (by omega) (by omega)
  exact ⟨s2, b1, by rw [b2, hm, hfl, hf1], fun h => by rw [hfl, hf1] at h; cases h⟩
 | false =>
  have hms := L.st hf1
  rw [srt_of q4 (L.done hf1), hms]
  have := qif hn (i := i) (ends := g.ends) (fr := g.from_) f1 0 s1 s' g q2 (q3.keep i g hg) rfl (fun k hk => by have := q5 k hk; omega) (by omega) (fun x hx' => .inl hx') (fun x hx' => hx') e
  exact ⟨s', this, rfl, fun _ => rfl⟩
theorem qsp {rules : List T} (hG : grOk SR MK VN RA rules = true) (hB : qtm rules = true) (ht : bsB text = true) (hn : text.length ≤ 12) : ∀ (f i : Nat) (s s' : Rs), RI text.length rules.length s → qkq (mkK SR MK VN RA text) rules text f i s = some s' → ∃ s2, qsy (mkK SR MK VN RA text) rules text f i s = some s2 ∧ Al s' s2
 | 0, i, s, s', hR, e => by cases e
 | f + 1, i, s, s', hR, e => by
  simp only [qkq] at e
  simp only [qsy]
  by_cases c : i < s.goals.length ∧ s.full = false
  ·rw [if_pos c] at e ⊢
   split at e
   rotate_left
   ·cases e
   split at e
   ·cases e
   rename_i s1 h1
   obtain ⟨s2, a1, a2, a3⟩ := qst hG hB ht hn c.2 hR h1
   obtain ⟨s3, b1, b2, _⟩ := qmf hG ht hn hR c.1
   rw [h1] at b1
   cases b1
   rw [a1]
   simp only
   cases hf : s1.full with
   | false =>
    have := a3 hf
    subst this
    exact qsp hG hB ht hn f (i + 1) s2 s' b2 e
   | true =>
    have hf2 : s2.full = true := by rw [a2]; exact hf
    have e2 : qkq (mkK SR MK VN RA text) rules text f (i + 1) s1 = some s1 := by
     cases f with
     | zero => cases e
     | succ f => simp only [qkq, hf, Bool.true_eq_false, and_false, if_false]
    rw [e2] at e
    cases e
    refine ⟨s2, ?_, a2, fun h => by rw [hf] at h; cases h⟩
    cases f with
    | zero => cases e2
    | succ f => simp only [qsy, hf2, Bool.true_eq_false, and_false, if_false]
  ·rw [if_neg c] at e ⊢
   cases e
   exact ⟨s, rfl, rfl, fun _ => rfl⟩
theorem qnu {rules : List T} (hG : grOk SR MK VN RA rules = true) (hB : qtm rules = true) (ht : bsB text = true) (hn : text.length ≤ 12) {f : Nat} (hf : 301 ≤ f) : ∀ (n : Nat) (s s' : Rs), RI text.length rules.length s → qdq (mkK SR MK VN RA text) rules text f n s = some s' → ∃ s2, qkd (mkK SR MK VN RA text) rules text f n s = some s2 ∧ Al s' s2
 | 0, s, s', hR, e => by cases e
 | n + 1, s, s', hR, e => by
  simp only [qdq] at e
  simp only [qkd]
  by_cases c : s.fresh = true ∧ s.full = false
  ·rw [if_pos c] at e ⊢
   split at e
   ·cases e
   rename_i s1 h1
   have hR0 : RI text.length rules.length { s with fresh := false } := ⟨hR.len, hR.gi, hR.rank⟩
   obtain ⟨s2, a1, a2, a3⟩ := qsp hG hB ht hn f 0 _ s1 hR0 h1
   obtain ⟨s3, b1, b2, _⟩ := qlv hG ht hn f 0 { s with fresh := false } hR0 (by omega) (Nat.zero_le _)
   rw [h1] at b1
   cases b1
   rw [a1]
   simp only
   cases hf1 : s1.full with
   | false =>
    have := a3 hf1
    subst this
    exact qnu hG hB ht hn hf n s2 s' b2 e
   | true =>
    have hf2 : s2.full = true := by rw [a2]; exact hf1
    have e2 : qdq (mkK SR MK VN RA text) rules text f n s1 = some s1 := by
     cases n with
     | zero => cases e
     | succ n => simp only [qdq, hf1, Bool.true_eq_false, and_false, if_false]
    rw [e2] at e
    cases e
    refine ⟨s2, ?_, a2, fun h => by rw [hf1] at h; cases h⟩
    cases n with
    | zero => cases e2
    | succ n => simp only [qkd, hf2, Bool.true_eq_false, and_false, if_false]
  ·rw [if_neg c] at e ⊢
   cases e
   exact ⟨s, rfl, rfl, fun _ => rfl⟩
/-- The program's run and the reference's come to the same chart. -/
theorem run_same {rules : List T} (hG : grOk SR MK VN RA rules = true) (hB : qtm rules = true) (ht : bsB text = true) (hn : text.length ≤ 12) {ru : Nat} (hru : ru < rules.length) {al : List Nat} (hal : al.length ≤ 1000) {fr : Nat} (hfr : fr ≤ text.length) :
  ∃ s' s2, qdq (mkK SR MK VN RA text) rules text 5000 5000 ⟨[⟨ru, al, fr, [], []⟩], 0, true, false⟩ = some s' ∧ qkd (mkK SR MK VN RA text) rules text 5000 5000 ⟨[⟨ru, al, fr, [], []⟩], 0, true, false⟩ = some s2 ∧ s2.full = s'.full ∧ outS s2 = outS s' := by
 have hR : RI text.length rules.length ⟨[⟨ru, al, fr, [], []⟩], 0, true, false⟩ := by
  refine ⟨by simp, fun g hg => ?_, by simp [tot]⟩
  simp only [List.mem_singleton] at hg
  subst hg
  exact ⟨hru, hfr, trivial, rfl, hal⟩
 obtain ⟨s', h1, _, _⟩ := qgi (SR := SR) (MK := MK) (VN := VN) (RA := RA) hG ht hn (f := 5000) (by omega) 5000 _ hR (.inl (by simp [X.mu, tot]))
 obtain ⟨s2, a1, a2, a3⟩ := qnu hG hB ht hn (f := 5000) (by omega) 5000 _ s' hR h1
 refine ⟨s', s2, h1, a1, a2, ?_⟩
 unfold outS
 rw [a2]
 cases hf : s'.full with
 | true => rfl
 | false => rw [a3 hf]
end
end E
