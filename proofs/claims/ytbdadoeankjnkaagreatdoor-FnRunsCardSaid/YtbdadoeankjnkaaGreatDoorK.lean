/- A part of the proof. No statement of the claim is in it. -/
import Derived.Test.YtbdadoeankjnkaaGreatDoorE
import Derived.Test.YtbdadoeankjnkaaGreatDoorJ
import Derived.Test.YtbdadoeankjnkaaGreatDoorIb
set_option maxRecDepth 100000
set_option maxHeartbeats 4000000
set_option linter.all false
open Go Go.V Go.Proofs
/- The program's engine by plain Lean is the reference's: keys, goals, alternatives. -/
namespace E
open X
open Classical in
/-- all that is so of the program's functions of trees -/
noncomputable def NN : G.Nats := fun f ts => if h : ∃ x, ∀ σ, LD S f (ts.map V.t) σ = some (.t x, σ) then some h.choose else none
theorem NN_ok : G.NatOk NN := by
 intro f ts x h σ
 unfold NN at h
 split at h
 ·rename_i hx
  cases h
  exact hx.choose_spec σ
 ·cases h
theorem qhv {f : FuncId} {ts : List T} {x : T} (h : ∀ σ, LD S f (ts.map V.t) σ = some (.t x, σ)) : NN f ts = some x := by
 unfold NN
 have hx : ∃ x, ∀ σ, LD S f (ts.map V.t) σ = some (.t x, σ) := ⟨x, h⟩
 rw [dif_pos hx]
 have h1 := hx.choose_spec []
 rw [h []] at h1
 simp only [Option.some.injEq, Prod.mk.injEq, and_true, V.t.injEq] at h1
 rw [← h1]
/-! ### Keys -/
theorem qse {c : Nat} : ∀ {a a' b b' : List Nat}, c ∉ a → c ∉ a' → a ++ c :: b = a' ++ c :: b' → a = a' ∧ b = b'
 | [], [], b, b', _, _, h => by simpa using h
 | [], x :: a', b, b', _, h2, h => by
  simp only [List.nil_append, List.cons_append, List.cons.injEq] at h
  exact absurd (by simp [h.1]) h2
 | x :: a, [], b, b', h1, _, h => by
  simp only [List.nil_append, List.cons_append, List.cons.injEq] at h
  exact absurd (by simp [← h.1]) h1
 | x :: a, y :: a', b, b', h1, h2, h => by
  simp only [List.cons_append, List.cons.injEq] at h
  obtain ⟨e1, e2⟩ := qse (fun hm => h1 (List.mem_cons_of_mem _ hm)) (fun hm => h2 (List.mem_cons_of_mem _ hm)) h.2
  exact ⟨by rw [h.1, e1], e2⟩
theorem qvw {n c : Nat} (h : c ∈ G.decS n) : 48 ≤ c := by
 unfold G.decS at h
 split at h
 ·simp only [List.mem_singleton] at h; omega
 ·simp only [List.mem_cons, List.not_mem_nil, or_false] at h; omega
theorem qou {a b : Nat} (ha : a ≤ 99) (hb : b ≤ 99) (h : G.decS a = G.decS b) : a = b := by
 unfold G.decS at h
 split at h <;> split at h <;> simp only [List.cons.injEq, and_true, reduceCtorEq, and_false] at h <;> omega
/-- names that are told apart -/
def NmB (VN : List Nat → Bool) : Prop := ∀ s, VN s = true → s.length ≤ 100 ∧ 61 ∉ s ∧ 44 ∉ s
structure EV (VN : List Nat → Bool) (e : X.Env) : Prop where
 ge : GE VN e
 num : ∀ p ∈ e, 0 ≤ p.2 ∧ p.2 ≤ 99
theorem EV.enb {VN : List Nat → Bool} (hB : NmB VN) {e : X.Env} (h : EV VN e) : G.EnB e :=
 ⟨fun p hp => ⟨(hB p.1 (List.all_eq_true.1 h.ge.1 p hp)).1, h.num p hp⟩, h.ge.2⟩
theorem qvy {VN : List Nat → Bool} (hB : NmB VN) {p : List Nat × Int} (h : VN p.1 = true) : 44 ∉ G.itm p := by
 obtain ⟨_, _, h3⟩ := hB _ h
 intro hm
 simp only [G.itm, List.mem_append, List.mem_cons] at hm
 rcases hm with hm | hm | hm
 ·exact h3 hm
 ·cases hm
 ·have := qvw hm; omega
theorem qzx {VN : List Nat → Bool} (hB : NmB VN) {p q : List Nat × Int} (hp : VN p.1 = true) (hq : VN q.1 = true) (np : 0 ≤ p.2 ∧ p.2 ≤ 99) (nq : 0 ≤ q.2 ∧ q.2 ≤ 99) (h : G.itm p = G.itm q) : p = q := by
 obtain ⟨e1, e2⟩ := qse (hB _ hp).2.1 (hB _ hq).2.1 h
 have := qou (by omega) (by omega) e2
 exact Prod.ext e1 (by omega)
theorem itm_ne (p : List Nat × Int) : G.itm p ≠ [] := by simp [G.itm]
theorem qdy (p q : List Nat × Int) (r : X.Env) : G.envS (p :: q :: r) = G.itm p ++ 44 :: G.envS (q :: r) := by
 simp [G.envS, joinL, qqf]
theorem qgn (p : List Nat × Int) : G.envS [p] = G.itm p := by simp [G.envS, joinL, qqf]
theorem qxb {VN : List Nat → Bool} (hB : NmB VN) : ∀ {e e' : X.Env}, (∀ p ∈ e, VN p.1 = true ∧ 0 ≤ p.2 ∧ p.2 ≤ 99) → (∀ p ∈ e', VN p.1 = true ∧ 0 ≤ p.2 ∧ p.2 ≤ 99) → G.envS e = G.envS e' → e = e'
 | [], [], _, _, _ => rfl
 | [], [q], _, _, h => by
  rw [qgn] at h
  exact absurd h.symm (itm_ne q)
 | [], q :: q2 :: r, _, _, h => by
  rw [qdy] at h
  simp [G.envS, joinL] at h
 | [p], [], _, _, h => by
  rw [qgn] at h
  exact absurd h (itm_ne p)
 | p :: p2 :: r, [], _, _, h => by
  rw [qdy] at h
  simp [G.envS, joinL] at h
 | [p], [q], h1, h2, h => by
  rw [qgn, qgn] at h
  have a := h1 p (by simp)
  have b := h2 q (by simp)
  rw [qzx hB a.1 b.1 a.2 b.2 h]
 | [p], q :: q2 :: r, h1, h2, h => by
  rw [qgn, qdy] at h
  exact absurd (by rw [h]; simp) (qvy hB (h1 p (by simp)).1)
 | p :: p2 :: r, [q], h1, h2, h => by
  rw [qgn, qdy] at h
  exact absurd (by rw [← h]; simp) (qvy hB (h2 q (by simp)).1)
 | p :: p2 :: r, q :: q2 :: r', h1, h2, h => by
  rw [qdy, qdy] at h
  have a := h1 p (by simp)
  have b := h2 q (by simp)
  obtain ⟨e1, e2⟩ := qse (qvy hB a.1) (qvy hB b.1) h
  have e3 := qxb hB (fun x hx => h1 x (List.mem_cons_of_mem _ hx)) (fun x hx => h2 x (List.mem_cons_of_mem _ hx)) e2
  rw [qzx hB a.1 b.1 a.2 b.2 e1, e3]
def keyS (q : Nat × At) : List Nat := G.decS q.1 ++ 32 :: (G.decS q.2.1 ++ 32 :: G.envS q.2.2)
structure KV (VN : List Nat → Bool) (q : Nat × At) : Prop where
 j : q.1 ≤ 99
 p : q.2.1 ≤ 99
 e : EV VN q.2.2
theorem EV.all {VN : List Nat → Bool} {e : X.Env} (h : EV VN e) : ∀ p ∈ e, VN p.1 = true ∧ 0 ≤ p.2 ∧ p.2 ≤ 99 := fun p hp => ⟨List.all_eq_true.1 h.ge.1 p hp, h.num p hp⟩
theorem keyS_inj {VN : List Nat → Bool} (hB : NmB VN) {q q' : Nat × At} (h : KV VN q) (h' : KV VN q') (e : keyS q = keyS q') : q = q' := by
 obtain ⟨j, p, env⟩ := q
 obtain ⟨j', p', env'⟩ := q'
 have no : ∀ n, 32 ∉ G.decS n := fun n hm => by have := qvw hm; omega
 obtain ⟨e1, e2⟩ := qse (no _) (no _) e
 obtain ⟨e3, e4⟩ := qse (no _) (no _) e2
 have := qou h.j h'.j e1
 have := qou h.p h'.p e3
 have := qxb hB h.e.all h'.e.all e4
 simp only at *
 subst_vars
 rfl
theorem envS_len {VN : List Nat → Bool} (hB : NmB VN) {e : X.Env} (h : EV VN e) : (G.envS e).length ≤ 104000 := by
 have h1 := (G.join_le [44] (e.map G.itm) 103 (fun s hs => by
  obtain ⟨p, hp, rfl⟩ := List.mem_map.1 hs
  have := ((h.enb hB).1 p hp).1
  have := G.decS_len p.2.toNat
  simp only [G.itm, List.length_append, List.length_cons]
  omega)).2
 rw [List.length_map] at h1
 have : e.length * ([44].length + 103) ≤ 1000 * 104 := Nat.mul_le_mul h.ge.2 (by simp)
 unfold G.envS
 omega
theorem q2l {VN : List Nat → Bool} (hB : NmB VN) (hD : G.DecOk) {q : Nat × At} (h : KV VN q) : G.keyF NN q.1 (envT q.2.2) q.2.1 = some (keyS q) := by
 have h1 : NN 104 [I q.1] = some (.str (G.decS q.1)) := qhv (hD q.1 h.j)
 have h2 : NN 104 [I q.2.1] = some (.str (G.decS q.2.1)) := qhv (hD q.2.1 h.p)
 have h3 : NN 105 [envT q.2.2] = some (.str (G.envS q.2.2)) := qhv (G.envText_ld hD (h.e.enb hB))
 have l1 := G.decS_len q.1
 have l2 := G.decS_len q.2.1
 have l3 := envS_len hB h.e
 unfold G.keyF
 simp only [h1, h2, h3]
 rw [if_pos (by omega)]
 rfl
end E
namespace E
open X
/-! ### What the program knows is what the reference knows -/
structure Fx (SR : List Nat → Option (List Nat)) (MK : T → Option (List Bool)) (VN : List Nat → Bool) (RA : List Nat → Option Nat) (rules : List T) : Prop where
 sets : G.SetsI SR
 mks : G.MkI MK
 nm : G.NmI VN
 nb : NmB VN
 ra : ∀ nm i, RA nm = some i → ∀ σ, LD S 22 [.t (.agg [.list rules]), .t (.str nm)] σ = some (.t (I (i : Nat)), σ)
 dec : G.DecOk
section
variable {SR : List Nat → Option (List Nat)} {MK : T → Option (List Bool)} {VN : List Nat → Bool} {RA : List Nat → Option Nat} {text : List Nat} {rules : List T}
theorem q1r (t : List Nat) (p k : Nat) : (t.take (p + k)).drop p = (t.drop p).take k := by
 rw [List.drop_take, Nat.add_sub_cancel_left]
def isLs (x : T) : Bool := match x with
 | .nils => true
 | .list _ => true
 | _ => false
def symB (x : T) : Bool := match x with
 | .agg [.int .i64 (.ofNat _), .str nm, ax, .str _] => decide (nm.length ≤ 1000) && isLs ax
 | _ => false
def OkP (r : Option Nat) (n : Nat) (b : Bool) : Prop := match r with
 | some p' => b = true ∧ n = p'
 | none => b = false
theorem q3j (F : Fx SR MK VN RA rules) (ht : bsB text = true) (hn : text.length ≤ 12) {kind : Nat} {nm bs : List Nat} {ax : T} {env : X.Env} {p : Nat} {r : Option Nat} (hp : p ≤ text.length) (hl : nm.length ≤ 1000) (h : qio SR MK text (.agg [.int .i64 (.ofNat kind), .str nm, ax, .str bs]) env p = some r) :
  ∃ n b, G.passF NN text kind nm ax (envT env) p = some (n, b) ∧ OkP r n b := by
 simp only [qio] at h
 rw [if_neg (by omega)] at h
 unfold G.passF
 rw [if_pos (by omega)]
 by_cases k1 : kind = 1
 ·subst k1
  simp only [if_true] at h ⊢
  rw [if_pos (by omega)] at h
  cases h
  refine ⟨_, _, rfl, ?_⟩
  rw [q1r]
  unfold G.hpF
  rw [X.eqL_eq]
  simp only [List.length_drop]
  by_cases c1 : p + nm.length ≤ text.length
  ·by_cases c2 : (text.drop p).take nm.length = nm
   ·rw [if_pos ⟨c1, c2⟩]
    simp only [OkP, c2, decide_true, Bool.and_true, decide_eq_true_eq, and_true]
    omega
   ·rw [if_neg (fun e => c2 e.2)]
    simp [OkP, c2]
  ·rw [if_neg (fun e => c1 e.1)]
   have : ¬ nm.length ≤ text.length - p := by omega
   simp [OkP, this]
 ·rw [if_neg k1] at h ⊢
  by_cases k2 : kind = 2
  ·subst k2
   simp only [if_true] at h ⊢
   split at h
   ·rename_i hb
    cases h
    simp only [hb]
    exact ⟨_, _, rfl, rfl⟩
   ·rename_i b hb
    split at h
    ·cases h
    rename_i rows hr
    cases h
    have hb2 : b < 256 := q0v ht b (List.mem_of_getElem? hb)
    have hi : NN 108 [.str nm, .int .u8 b] = some (.bool (setR rows b rows.length 0)) := qhv (G.inSet2_ld F.sets hr hb2)
    simp only [hb, hi]
    refine ⟨_, _, rfl, ?_⟩
    cases setR rows b rows.length 0 <;> simp [OkP]
  ·rw [if_neg k2] at h ⊢
   split at h
   rotate_left
   ·cases h
   rename_i c l hsl
   have hax : ax = .list (.agg [c] :: l) := by
    unfold qce at hsl
    split at hsl
    ·cases hsl
    ·cases hsl; rfl
    ·cases hsl
   subst hax
   split at h
   ·cases h
   ·rename_i hev
    cases h
    have he : NN 109 [.agg [c], envT env, I p] = some (getT none) := qhv (G.eval2_ld F.mks hev)
    simp only [getT] at he
    simp only [he]
    exact ⟨_, _, rfl, rfl⟩
   ·rename_i n hev
    cases h
    have he : NN 109 [.agg [c], envT env, I p] = some (getT (some n)) := qhv (G.eval2_ld F.mks hev)
    simp only [getT] at he
    simp only [he]
    refine ⟨_, _, rfl, ?_⟩
    by_cases hz : n = 0
    ·subst hz; rfl
    ·rw [if_neg hz]; simp [OkP, hz]
theorem qhw : ∀ l : List Nat, G.natRows (qax l) = some l
 | [] => rfl
 | n :: r => by
  have ih := qhw r
  simp only [qax, List.map_cons] at ih ⊢
  show Option.map _ (G.natRows _) = _
  rw [ih]; rfl
/-! ### The runner's states -/
def AOk (rules : List T) (ru : Nat) (al : List Nat) : Prop := (∃ a ps az pl, rules[ru]? = some (T.agg [a, ps, az]) ∧ qce ps = some pl ∧ pl.length = al.length) ∧ al.length ≤ 1000 ∧ ∀ a ∈ al, a ≤ 99
structure Rel (rules : List T) (VN : List Nat → Bool) (n : Nat) (m : Im) (s : G.Rn) : Prop where
 done : s.done = m.done
 nd : m.done.Nodup ∧ ∀ p ∈ m.done, p ≤ n
 rank : s.ends = m.s.rank
 ag : ∀ g ∈ m.s.goals, AOk rules g.rule g.args
 go : m.s.full = false → s.goals = m.s.goals ∧ s.came = m.s.fresh ∧ ∀ q, KV VN q → G.hasKey (keyS q) s.seen = m.seen.contains q
 gf : m.s.full = true → ∃ g : Gl, g.ends = [] ∧ g.ranks = [] ∧ s.goals = m.s.goals ++ [g] ∧ 300 ≤ m.s.goals.length
theorem qvh : ∀ (n : Nat) (l : List Nat), l.Nodup → (∀ p ∈ l, p < n) → l.length ≤ n
 | 0, l, _, h => by
  cases l with
  | nil => simp
  | cons a r => exact absurd (h a (by simp)) (by omega)
 | n + 1, l, hd, h => by
  have h1 := qvh n (l.erase n) (hd.erase n) (fun p hp => by
   have h2 := h p (List.mem_of_mem_erase hp)
   have h3 : p ≠ n := fun e => by
    subst e
    exact (List.Nodup.mem_erase_iff hd).1 hp |>.1 rfl
   omega)
  have := List.length_erase (a := n) (l := l)
  split at this <;> omega
theorem Rel.dl {n : Nat} {m : Im} {s : G.Rn} (h : Rel rules VN n m s) : m.done.length ≤ n + 1 := qvh (n + 1) _ h.nd.1 fun p hp => by have := h.nd.2 p hp; omega
theorem qyh (k : List Nat) (l : List (List Nat)) (x : List Nat) : G.hasKey k (l ++ [x]) = (G.hasKey k l || decide (k = x)) := by
 simp only [G.hasKey, List.any_append, List.any_cons, List.any_nil, Bool.or_false, X.eqL_eq]
/-- one look more -/
theorem Rel.look (hB : NmB VN) {n : Nat} {m : Im} {s : G.Rn} (h : Rel rules VN n m s) (hf : m.s.full = false) {q : Nat × At} (hq : KV VN q) : Rel rules VN n ⟨m.s, m.done, q :: m.seen⟩ { s with seen := s.seen ++ [keyS q] } :=
 ⟨h.done, h.nd, h.rank, h.ag, fun _ => ⟨(h.go hf).1, (h.go hf).2.1, fun q' hq' => by
  rw [qyh, (h.go hf).2.2 q' hq', List.contains_cons]
  by_cases e : q' = q
  ·subst e; simp
  ·have : ¬ keyS q' = keyS q := fun e' => e (keyS_inj hB hq' hq e')
   have e2 : (q' == q) = false := by simpa using e
   simp [this, e2]⟩, fun hf' => (by
    have : m.s.full = true := hf'
    rw [hf] at this; cases this)⟩
theorem Rel.put {n : Nat} {m : Im} {s : G.Rn} (h : Rel rules VN n m s) (hn : n ≤ 12) {p : Nat} (hp : p ≤ n) : ∃ s', G.doneF s p = some s' ∧ Rel rules VN n ⟨m.s, putD m.done p, m.seen⟩ s' := by
 have hl := h.dl
 unfold G.doneF
 rw [h.done, if_neg (by omega)]
 unfold putD
 cases hc : m.done.contains p with
 | true =>
  simp only [if_true]
  exact ⟨s, rfl, h.done, h.nd, h.rank, h.ag, h.go, h.gf⟩
 | false =>
  simp only [Bool.false_eq_true, if_false]
  refine ⟨_, rfl, rfl, ⟨?_, ?_⟩, h.rank, h.ag, h.go, h.gf⟩
  ·have : p ∉ m.done := by
    intro hm
    have : m.done.contains p = true := by simpa using hm
    rw [hc] at this; cases this
   rw [List.nodup_append]
   refine ⟨h.nd.1, by simp, fun a ha b hb => ?_⟩
   simp only [List.mem_singleton] at hb
   subst hb
   exact fun e => this (e ▸ ha)
  ·intro a ha
   rcases List.mem_append.1 ha with ha | ha
   ·exact h.nd.2 a ha
   ·simp only [List.mem_singleton] at ha; omega
end
end E
namespace E
open X
section
variable {SR : List Nat → Option (List Nat)} {MK : T → Option (List Bool)} {VN : List Nat → Bool} {RA : List Nat → Option Nat} {text : List Nat} {rules : List T}
theorem bindN_b (t : List Nat) : 0 ≤ qee t ∧ qee t ≤ 99 := by
 unfold qee
 split
 ·rename_i h
  obtain ⟨⟨h1, h2⟩, h3⟩ := h
  match t, h1, h2, h3 with
  | [a], _, _, h3 =>
   simp only [bnL, Bool.true_and, Bool.and_eq_true, decide_eq_true_eq] at h3 ⊢
   omega
  | [a, b], _, _, h3 =>
   simp only [bnL, Bool.true_and, Bool.and_eq_true, decide_eq_true_eq] at h3 ⊢
   omega
 ·split <;> omega
theorem EV.set {e : X.Env} (h : EV VN e) {nm : List Nat} (hn : VN nm = true) {n : Int} (h0 : 0 ≤ n ∧ n ≤ 99) : EV VN (setN e nm n) := by
 refine ⟨h.ge.set hn n, fun p hp => ?_⟩
 unfold setN at hp
 split at hp
 ·simp only [outN, lowN, hiN, List.mem_append, List.mem_filter, List.mem_singleton] at hp
  rcases hp with (hp | hp) | hp
  ·exact h.num p hp.1
  ·subst hp; exact h0
  ·exact h.num p hp.1
 ·exact h.num p hp
theorem EV.bind {e e' : X.Env} (h : EV VN e) {bs t : List Nat} (hb : qkt VN e bs t = some e') : EV VN e' := by
 unfold qkt at hb
 split at hb
 rotate_left
 ·cases hb
 split at hb
 ·cases hb; exact h
 ·split at hb
  ·rename_i hn
   cases hb
   exact h.set hn (bindN_b t)
  ·cases hb
theorem qwt {env : X.Env} {here : Nat} : ∀ (l : List T) (acc al : List Nat), qhr MK env here l acc = some (some al) → (∀ a ∈ acc, a ≤ 99) → al.length = acc.length + l.length ∧ ∀ a ∈ al, a ≤ 99
 | [], acc, al, h, ha => by
  simp only [qhr] at h
  cases h
  exact ⟨by simp, ha⟩
 | x :: l, acc, al, h, ha => by
  simp only [qhr] at h
  split at h
  ·cases h
  ·cases h
  ·cases h
  ·rename_i n hev
   split at h
   rotate_left
   ·cases h
   rename_i hn
   obtain ⟨h1, h2⟩ := qwt l _ al h (fun a hm => by
    rcases List.mem_append.1 hm with hm | hm
    ·exact ha a hm
    ·simp only [List.mem_singleton] at hm; omega)
   refine ⟨?_, h2⟩
   simp only [List.length_append, List.length_cons, List.length_nil] at h1 ⊢
   omega
theorem q0g (F : Fx SR MK VN RA rules) {kz tz bz ax : T} {env : X.Env} {here : Nat} {o : Option (List Nat)} (h : qiz MK ax env here = some o) : NN 73 [.agg [kz, tz, ax, bz], envT env, I here] = some (G.argsT o) ∧ ∀ al, o = some al → (∃ l, qce ax = some l ∧ al.length = l.length) ∧ al.length ≤ 1000 ∧ ∀ a ∈ al, a ≤ 99 := by
 refine ⟨qhv (G.args2_ld F.mks h), fun al ho => ?_⟩
 subst ho
 unfold qiz at h
 split at h
 rotate_left
 ·cases h
 split at h
 rotate_left
 ·cases h
 rename_i l hl hb
 obtain ⟨h1, h2⟩ := qwt l [] al h (fun a ha => by cases ha)
 simp only [List.length_nil] at h1
 exact ⟨⟨l, hl, by omega⟩, by omega, h2⟩
/-- the goal of a call, in both -/
theorem goal_of {n : Nat} {m : Im} {s : G.Rn} (h : Rel rules VN n m s) (hf : m.s.full = false) (q : List (Nat × At)) (ru : Nat) {al : List Nat} (hal : AOk rules ru al) (here : Nat) :
  (∃ i g, (qbf m.s ru al here).2 = .ofNat i ∧ (qbf m.s ru al here).1.goals[i]? = some g ∧ (G.goalF s ru al here).2 = i ∧ (G.goalF s ru al here).1.goals[i]? = some g ∧ (qbf m.s ru al here).1.full = false ∧ Rel rules VN n ⟨(qbf m.s ru al here).1, m.done, m.seen⟩ (G.goalF s ru al here).1) ∨
  (∃ k g, (qbf m.s ru al here).2 = .negSucc k ∧ (G.goalF s ru al here).1.goals[(G.goalF s ru al here).2]? = some g ∧ g.ends = [] ∧ Rel rules VN n ⟨(qbf m.s ru al here).1, m.done, q⟩ (G.goalF s ru al here).1) := by
 obtain ⟨hg, hc, hs⟩ := h.go hf
 rcases qpz m.s ru al here with ⟨i, g, h1, h2, h3⟩ | ⟨k, h1, h2, h3⟩ | ⟨k, h1, h2, h3⟩
 ·left
  have e : G.goalF s ru al here = (s, i) := by unfold G.goalF; rw [hg, h1]
  rw [h3, e]
  exact ⟨i, g, rfl, h2, rfl, by rw [hg]; exact h2, hf, h⟩
 ·right
  have e : G.goalF s ru al here = ({ s with goals := s.goals ++ [⟨ru, al, here, [], []⟩], came := true }, s.goals.length) := by unfold G.goalF; rw [hg, h1]
  rw [h3, e]
  refine ⟨0, ⟨ru, al, here, [], []⟩, rfl, by simp, rfl, h.done, h.nd, h.rank, h.ag, fun hf' => (by cases hf'), fun _ => ⟨⟨ru, al, here, [], []⟩, rfl, rfl, by simp only [hg], h2⟩⟩
 ·left
  have e : G.goalF s ru al here = ({ s with goals := s.goals ++ [⟨ru, al, here, [], []⟩], came := true }, s.goals.length) := by unfold G.goalF; rw [hg, h1]
  rw [h3, e]
  refine ⟨m.s.goals.length, ⟨ru, al, here, [], []⟩, rfl, by simp, by simp only [hg], by simp only [hg]; simp, hf, h.done, h.nd, h.rank, ?_, fun _ => ⟨by simp only [hg], rfl, hs⟩, fun hf' => ?_⟩
  ·intro g hgm
   rcases List.mem_append.1 hgm with hgm | hgm
   ·exact h.ag g hgm
   ·simp only [List.mem_singleton] at hgm
    subst hgm
    exact hal
  ·have : m.s.full = true := hf'
   rw [hf] at this; cases this
theorem q0x {x : T} (h : isLs x = true) : x = .nils ∨ ∃ l, x = .list l := by
 unfold isLs at h
 split at h
 ·exact .inl rfl
 ·exact .inr ⟨_, rfl⟩
 ·cases h
theorem q2e (F : Fx SR MK VN RA rules) (ht : bsB text = true) (hn : text.length ≤ 12) {R f j : Nat} {syms r : List T} (hr : r.all (qhu SR MK VN RA R) = true)
  (hrec : ∀ (b : At) (m m' : Im) (s : G.Rn), b.1 ≤ text.length → EV VN b.2 → RI text.length R m.s → Rel rules VN text.length m s → altI (mkK SR MK VN RA text) text r j b m = some m' → ∃ s', G.altF NN rules text f syms j (envT b.2) b.1 s = some s' ∧ Rel rules VN text.length m' s')
  {kind : Nat} {nm bs : List Nat} {ax : T} {a : At} (ha : a.1 ≤ text.length) (hE : EV VN a.2) : ∀ (l : List Nat) (m m' : Im) (s : G.Rn), RI text.length R m.s → Rel rules VN text.length m s → qgu (altI (mkK SR MK VN RA text) text r j) (mkK SR MK VN RA text) text bs a l m = some m' →
  ∃ s', G.endsF NN text (G.symT kind nm ax (.str bs)) (envT a.2) a.1 (G.altF NN rules text f syms j) l s = some s' ∧ Rel rules VN text.length m' s'
 | [], m, m', s, hR, h, e => by
  simp only [qgu] at e
  cases e
  exact ⟨s, rfl, h⟩
 | x :: l, m, m', s, hR, h, e => by
  simp only [qgu] at e
  split at e
  rotate_left
  ·cases e
  rename_i hx
  split at e
  ·cases e
  rename_i env hb
  split at e
  ·cases e
  rename_i m1 h1
  have hE' : EV VN env := hE.bind hb
  obtain ⟨m1', z1, z2⟩ := qic (SR := SR) (MK := MK) (VN := VN) (RA := RA) ht hn r hr j (x, env) m hx.2 hE'.ge hR
  rw [h1] at z1
  cases z1
  obtain ⟨s1, y1, y2⟩ := hrec (x, env) m m1 s hx.2 hE' hR h h1
  obtain ⟨s', y3, y4⟩ := q2e F ht hn hr hrec ha hE l m1 m' s1 z2 y2 e
  have hbd : NN 74 [G.symT kind nm ax (.str bs), envT a.2, .str ((text.take x).drop a.1)] = some (envT env) := qhv (G.bound_ld F.nm hb)
  simp only [G.endsF]
  rw [if_pos hx, hbd]
  simp only [y1]
  exact ⟨s', y3, y4⟩
theorem alt_of (F : Fx SR MK VN RA rules) (ht : bsB text = true) (hn : text.length ≤ 12) {R : Nat} {syms : List T} (hsl : syms.length ≤ 50) : ∀ (r : List T), r.all (qhu SR MK VN RA R) = true → r.all symB = true → r.all (symAr RA rules) = true → ∀ (j f : Nat), syms.drop j = r → j + r.length = syms.length → r.length < f → ∀ (a : At) (m m' : Im) (s : G.Rn), a.1 ≤ text.length → EV VN a.2 → RI text.length R m.s → Rel rules VN text.length m s → altI (mkK SR MK VN RA text) text r j a m = some m' →
  ∃ s', G.altF NN rules text f syms j (envT a.2) a.1 s = some s' ∧ Rel rules VN text.length m' s'
 | [], _, _, _, j, f, hd, hj, hf, a, m, m', s, ha, hE, hR, h, e => by
  obtain ⟨f, rfl⟩ : ∃ q, f = q + 1 := ⟨f - 1, by simp at hf; omega⟩
  have hlen := hR.len
  simp only [altI] at e
  simp only [List.length_nil, Nat.add_zero] at hj
  have hq : KV VN (j, a) := ⟨by show j ≤ 99; omega, by show a.1 ≤ 99; omega, hE⟩
  have hk := q2l F.nb F.dec hq
  simp only [G.altF]
  cases hfm : m.s.full with
  | true =>
   simp only [hfm, Bool.true_or, if_true] at e
   cases e
   obtain ⟨g, _, _, g3, g4⟩ := h.gf hfm
   rw [if_pos (by rw [g3]; simp; omega)]
   exact ⟨s, rfl, h⟩
  | false =>
   obtain ⟨hg, hc, hs⟩ := h.go hfm
   rw [if_neg (by rw [hg]; omega), hk]
   simp only [hs _ hq]
   simp only [hfm, Bool.false_or] at e
   cases hcn : m.seen.contains (j, a) with
   | true =>
    simp only [hcn, if_true] at e
    cases e
    simp only [if_true]
    exact ⟨s, rfl, h⟩
   | false =>
    simp only [hcn, Bool.false_eq_true, if_false] at e
    cases e
    simp only [Bool.false_eq_true, if_false]
    rw [if_pos hj]
    exact (h.look F.nb hfm hq).put hn ha
 | x :: r, hr, hb, hra0, j, f, hd, hj, hf, a, m, m', s, ha, hE, hR, h, e => by
  obtain ⟨f, rfl⟩ : ∃ q, f = q + 1 := ⟨f - 1, by simp at hf; omega⟩
  have hlen := hR.len
  simp only [List.length_cons] at hj hf
  simp only [List.all_cons, Bool.and_eq_true] at hr hb hra0
  have hd' : syms.drop (j + 1) = r := by
   have := congrArg List.tail hd
   simpa [List.tail_drop] using this
  have hx : syms[j]? = some x := by
   have : (syms.drop j)[0]? = some x := by rw [hd]; rfl
   simpa using this
  simp only [altI] at e
  have hq : KV VN (j, a) := ⟨by show j ≤ 99; omega, by show a.1 ≤ 99; omega, hE⟩
  have hk := q2l F.nb F.dec hq
  have hrec : ∀ (b : At) (m m' : Im) (s : G.Rn), b.1 ≤ text.length → EV VN b.2 → RI text.length R m.s → Rel rules VN text.length m s → altI (mkK SR MK VN RA text) text r (j + 1) b m = some m' → ∃ s', G.altF NN rules text f syms (j + 1) (envT b.2) b.1 s = some s' ∧ Rel rules VN text.length m' s' :=
   fun b m m' s hb1 hb2 hb3 hb4 hb5 => alt_of F ht hn hsl r hr.2 hb.2 hra0.2 (j + 1) f hd' (by omega) (by omega) b m m' s hb1 hb2 hb3 hb4 hb5
  simp only [G.altF]
  cases hfm : m.s.full with
  | true =>
   simp only [hfm, Bool.true_or, if_true] at e
   cases e
   obtain ⟨g, _, _, g3, g4⟩ := h.gf hfm
   rw [if_pos (by rw [g3]; simp; omega)]
   exact ⟨s, rfl, h⟩
  | false =>
   obtain ⟨hg, hc, hs⟩ := h.go hfm
   rw [if_neg (by rw [hg]; omega), hk]
   simp only [hs _ hq]
   simp only [hfm, Bool.false_or] at e
   cases hcn : m.seen.contains (j, a) with
   | true =>
    simp only [hcn, if_true] at e
    cases e
    simp only [if_true]
    exact ⟨s, rfl, h⟩
   | false =>
    simp only [hcn, Bool.false_eq_true, if_false] at e
    simp only [Bool.false_eq_true, if_false]
    rw [if_neg (by omega), if_neg (by omega), hx]
    simp only
    have hL := h.look F.nb hfm hq
    split at e
    rotate_left
    ·cases e
    rename_i kind nm ax bs
    have hsb := hb.1
    simp only [symB, Bool.and_eq_true, decide_eq_true_eq] at hsb
    simp only [G.symF]
    by_cases hk3 : kind = 3
    ·subst hk3
     simp only [if_true] at e ⊢
     unfold G.callF
     split at e
     ·cases e
     ·rename_i har
      cases e
      obtain ⟨a1, a2⟩ := q0g F (kz := I (3 : Nat)) (tz := .str nm) (bz := .str bs) har
      simp only [G.argsT] at a1
      simp only [G.symT, a1]
      exact ⟨_, rfl, hL⟩
     ·rename_i al har
      obtain ⟨a1, a2⟩ := q0g F (kz := I (3 : Nat)) (tz := .str nm) (bz := .str bs) har
      simp only [G.argsT] at a1
      simp only [G.symT, a1, qhw]
      obtain ⟨⟨l, hl1, hl2⟩, hal1, hal2⟩ := a2 al rfl
      rw [if_pos hal1]
      split at e
      ·cases e
      rename_i ru hra
      have hal : AOk rules ru al := by
       have hso := hra0.1
       simp only [symAr, if_true] at hso
       have hra2 : RA nm = some ru := hra
       rw [hl1, hra2] at hso
       simp only at hso
       split at hso
       ·rename_i a0 ps az hru
        split at hso
        ·rename_i pl hpl
         simp only [decide_eq_true_eq] at hso
         exact ⟨⟨a0, ps, az, pl, hru, hpl, by omega⟩, hal1, hal2⟩
        ·cases hso
       ·cases hso
      have hra' : NN 22 [.agg [.list rules], .str nm] = some (I ru) := qhv (F.ra nm ru hra)
      simp only [hra']
      have hRu : ru < R := by
       have hso := hr.1
       simp only [qhu, if_true] at hso
       have hra2 : RA nm = some ru := hra
       rw [hra2] at hso
       simp only [Bool.and_eq_true, decide_eq_true_eq] at hso
       exact hso.2.1
      have hgt := qhy hR hRu hal1 (here := a.1) ha
      have gfull := (qfc (s := m.s) (ru := ru) (al := al) (here := a.1) hfm)
      rcases goal_of hL hfm ((j, a) :: m.seen) ru hal a.1 with ⟨i, g, g1, g2, g3, g4, g5, g6⟩ | ⟨k, g, g1, g2, g3, g4⟩
      ·simp only [g1, g2] at e
       simp only [g3, g4]
       have hgi := hgt.1.gi g (List.mem_of_getElem? g2)
       have hgl := hgi.len hn
       rw [if_pos (by omega)]
       exact q2e F ht hn hr.2 hrec ha hE g.ends _ m' _ hgt.1 g6 e
      ·simp only [g1] at e
       cases e
       simp only [g2, g3, List.length_nil]
       rw [if_pos (by omega)]
       exact ⟨_, rfl, g4⟩
    ·rw [if_neg hk3] at e ⊢
     split at e
     ·cases e
     ·rename_i hpl
      cases e
      obtain ⟨n, b, p1, p2⟩ := q3j (bs := bs) F ht hn ha hsb.1 hpl
      have : b = false := p2
      subst this
      rcases q0x hsb.2 with hax | ⟨l, hax⟩ <;> (rw [hax] at p1 ⊢; simp only [p1]; exact ⟨_, rfl, hL⟩)
     ·rename_i p hpl
      obtain ⟨n, b, p1, p2⟩ := q3j (bs := bs) F ht hn ha hsb.1 hpl
      obtain ⟨rfl, rfl⟩ := p2
      obtain ⟨r', pr, hp⟩ := qgp (SR := SR) (MK := MK) (VN := VN) (RA := RA) hn hr.1 hk3 hE.ge ha
      have hpl' : qio SR MK text (.agg [.int .i64 (.ofNat kind), .str nm, ax, .str bs]) a.2 a.1 = some (some n) := hpl
      rw [hpl'] at pr
      cases pr
      obtain ⟨s', y1, y2⟩ := hrec (n, a.2) ⟨m.s, m.done, (j, a) :: m.seen⟩ m' _ (hp n rfl).2 hE hR hL e
      rcases q0x hsb.2 with hax | ⟨l, hax⟩ <;> (rw [hax] at p1 ⊢; simp only [p1]; exact ⟨s', y1, y2⟩)
end
end E
namespace E
open X
/-! ### Sorted lists -/
abbrev As (l : List Nat) : Prop := l.Pairwise (· < ·)
theorem q2a : ∀ {a b : List Nat}, As a → As b → (∀ x, x ∈ a ↔ x ∈ b) → a = b
 | [], [], _, _, _ => rfl
 | [], y :: b, _, _, h => absurd ((h y).2 (by simp)) (by simp)
 | x :: a, [], _, _, h => absurd ((h x).1 (by simp)) (by simp)
 | x :: a, y :: b, h1, h2, h => by
  replace h1 := List.pairwise_cons.1 h1
  replace h2 := List.pairwise_cons.1 h2
  have hxy : x = y := by
   rcases List.mem_cons.1 ((h x).1 (by simp)) with e | e
   ·exact e
   ·rcases List.mem_cons.1 ((h y).2 (by simp)) with e2 | e2
    ·exact e2.symm
    ·have := h2.1 x e; have := h1.1 y e2; omega
  subst hxy
  rw [q2a h1.2 h2.2 fun z => ⟨fun hz => by
   rcases List.mem_cons.1 ((h z).1 (List.mem_cons_of_mem _ hz)) with e | e
   ·subst e; have := h1.1 z hz; omega
   ·exact e, fun hz => by
   rcases List.mem_cons.1 ((h z).2 (List.mem_cons_of_mem _ hz)) with e | e
   ·subst e; have := h2.1 z hz; omega
   ·exact e⟩]
theorem q4l : ∀ (f : List Bool) (p : Nat), As (ascF f p) ∧ ∀ x, x ∈ ascF f p ↔ p ≤ x ∧ f[x - p]? = some true
 | [], p => ⟨by simp [ascF], fun x => by simp [ascF]⟩
 | b :: r, p => by
  obtain ⟨h1, h2⟩ := q4l r (p + 1)
  have key : ∀ x, x ∈ ascF r (p + 1) ↔ p + 1 ≤ x ∧ (b :: r)[x - p]? = some true := fun x => by
   rw [h2]
   constructor
   ·rintro ⟨a, c⟩
    exact ⟨a, by rw [show x - p = (x - (p + 1)) + 1 by omega]; simpa using c⟩
   ·rintro ⟨a, c⟩
    rw [show x - p = (x - (p + 1)) + 1 by omega] at c
    exact ⟨a, by simpa using c⟩
  simp only [ascF]
  cases b with
  | true =>
   simp only [if_true, List.mem_cons, List.pairwise_cons]
   refine ⟨⟨fun x hx => by have := ((h2 x).1 hx).1; omega, h1⟩, fun x => ?_⟩
   rw [key x]
   constructor
   ·rintro (rfl | ⟨a, c⟩)
    ·simp
    ·exact ⟨by omega, c⟩
   ·rintro ⟨a, c⟩
    by_cases e : x = p
    ·exact .inl e
    ·exact .inr ⟨by omega, c⟩
  | false =>
   simp only [Bool.false_eq_true, if_false]
   refine ⟨h1, fun x => ?_⟩
   rw [key x]
   constructor
   ·rintro ⟨a, c⟩; exact ⟨by omega, c⟩
   ·rintro ⟨a, c⟩
    by_cases e : x = p
    ·subst e; simp at c
    ·exact ⟨by omega, c⟩
theorem srt_ok {n : Nat} {d : List Nat} (h : ∀ p ∈ d, p ≤ n) : As (srt n d) ∧ ∀ x, x ∈ srt n d ↔ x ∈ d := by
 obtain ⟨h1, h2⟩ := q4l ((List.range (n + 1)).map fun p => d.contains p) 0
 refine ⟨h1, fun x => ?_⟩
 unfold srt
 rw [h2]
 simp only [Nat.zero_le, true_and, Nat.sub_zero, List.getElem?_map]
 by_cases hx : x < n + 1
 ·rw [List.getElem?_range hx]
  simp
 ·rw [List.getElem?_eq_none (by simp; omega)]
  simp only [Option.map_none, reduceCtorEq, false_iff]
  intro hm
  have := h x hm
  omega
theorem sort_srt {n : Nat} {d : List Nat} (hd : d.Nodup) (h : ∀ p ∈ d, p ≤ n) : G.sortF d = srt n d := by
 obtain ⟨h1, h2⟩ := srt_ok h
 have hp : (G.sortF d).Perm d := List.mergeSort_perm d _
 have hs := List.pairwise_mergeSort (le := fun x y : Nat => decide (x ≤ y)) (fun a b c h1 h2 => by simp only [decide_eq_true_eq] at h1 h2 ⊢; omega) (fun a b => by simp only [Bool.or_eq_true, decide_eq_true_eq]; omega) d
 have h3 : As (G.sortF d) := by
  have hn : (G.sortF d).Nodup := hp.nodup_iff.2 hd
  refine List.Pairwise.imp₂ (fun a b h1 h2 => ?_) hs hn
  simp only [decide_eq_true_eq] at h1
  have : a ≠ b := h2
  omega
 exact q2a h3 h1 fun x => by rw [h2]; exact hp.mem_iff
/-! ### Where a number would stand -/
theorem q2f {l : List Nat} (hl : As l) (t : Nat) : ∀ (f i j : Nat), i ≤ j → j ≤ l.length → j - i < f → (∀ k x, l[k]? = some x → k < i → x < t) → (∀ k x, l[k]? = some x → j ≤ k → t ≤ x) →
  G.bsL l t f i j ≤ l.length ∧ ∀ k x, l[k]? = some x → (k < G.bsL l t f i j ↔ x < t)
 | 0, i, j, h1, h2, h3, _, _ => by omega
 | f + 1, i, j, h1, h2, h3, lo, hi => by
  simp only [G.bsL]
  by_cases c : i < j
  ·rw [if_pos c]
   obtain ⟨y, hy⟩ := get_of_lt (show (i + j) / 2 < l.length by omega)
   simp only [hy]
   have asc : ∀ (k k' : Nat) (x x' : Nat), l[k]? = some x → l[k']? = some x' → k < k' → x < x' := fun k k' x x' e e' hk => by
    have l1 := lt_of_get e
    have l2 := lt_of_get e'
    rw [List.getElem?_eq_getElem l1] at e
    rw [List.getElem?_eq_getElem l2] at e'
    cases e; cases e'
    exact List.pairwise_iff_getElem.1 hl k k' l1 l2 hk
   by_cases c2 : y < t
   ·rw [if_pos c2]
    refine q2f hl t f ((i + j) / 2 + 1) j (by omega) h2 (by omega) (fun k x e hk => ?_) hi
    by_cases e2 : k = (i + j) / 2
    ·subst e2; rw [hy] at e; cases e; exact c2
    ·have := asc k _ x y e hy (by omega); omega
   ·rw [if_neg c2]
    refine q2f hl t f i ((i + j) / 2) (by omega) (by omega) (by omega) lo (fun k x e hk => ?_)
    by_cases e2 : k = (i + j) / 2
    ·subst e2; rw [hy] at e; cases e; omega
    ·have := asc _ k y x hy e (by omega); omega
  ·rw [if_neg c]
   refine ⟨by omega, fun k x e => ⟨fun h => lo k x e h, fun h => ?_⟩⟩
   have := hi k x e
   omega
theorem bs_ok {l : List Nat} (hl : As l) (t : Nat) : G.bs l t ≤ l.length ∧ ∀ k x, l[k]? = some x → (k < G.bs l t ↔ x < t) :=
 q2f hl t _ 0 l.length (Nat.zero_le _) (Nat.le_refl _) (by omega) (fun k x _ h => by omega) (fun k x e h => by have := lt_of_get e; omega)
theorem bs_found {l : List Nat} (hl : As l) (t : Nat) : G.bsFound l t = l.contains t := by
 obtain ⟨h1, h2⟩ := bs_ok hl t
 unfold G.bsFound
 cases hc : l.contains t with
 | true =>
  have hm : t ∈ l := by simpa using hc
  obtain ⟨k, hk⟩ := List.getElem?_of_mem hm
  have hk1 : ¬ k < G.bs l t := fun h => by have := (h2 k t hk).1 h; omega
  have hk2 : k = G.bs l t := by
   rcases Nat.lt_or_ge (G.bs l t) k with h | h
   ·have lk := lt_of_get hk
    obtain ⟨y, hy⟩ := get_of_lt (show G.bs l t < l.length by omega)
    have h3 : ¬ y < t := fun e => by have := (h2 _ y hy).2 e; omega
    have l1 := lt_of_get hy
    rw [List.getElem?_eq_getElem l1] at hy
    rw [List.getElem?_eq_getElem lk] at hk
    cases hy; cases hk
    have := List.pairwise_iff_getElem.1 hl _ k l1 lk h
    omega
   ·omega
  rw [← hk2, hk]
  simp
 | false =>
  split
  ·rename_i y hy
   cases he : y == t with
   | false => rfl
   | true =>
    have : y = t := by simpa using he
    subst this
    have : l.contains y = true := by simpa using List.mem_of_getElem? hy
    rw [hc] at this; cases this
  ·rfl
theorem lowhi {e : Nat} : ∀ {l q : List Nat} {r : Nat}, q.length = l.length → r ≤ l.length → (∀ k x, l[k]? = some x → (k < r ↔ x < e)) → e ∉ l → lowE e l q = (l.take r, q.take r) ∧ hiE e l q = (l.drop r, q.drop r)
 | [], [], r, _, hr, _, _ => by
  have : r = 0 := by simpa using hr
  subst this
  simp [lowE, hiE]
 | x :: l, k :: q, r, hq, hr, h, hn => by
  have hx := h 0 x rfl
  have hq' : q.length = l.length := by simpa using hq
  have hn' : e ∉ l := fun hm => hn (List.mem_cons_of_mem _ hm)
  have hne : ¬ x = e := fun e' => hn (by simp [e'])
  cases r with
  | zero =>
   have h0 : ¬ x < e := fun c => by have := hx.2 c; omega
   obtain ⟨i1, i2⟩ := lowhi (r := 0) hq' (Nat.zero_le _) (fun k x hk => by
    have := h (k + 1) x (by simpa using hk)
    exact ⟨fun c => by omega, fun c => by have := this.2 c; omega⟩) hn'
   simp only [lowE, hiE]
   rw [if_neg h0, if_pos (by omega), i1, i2]
   simp
  | succ r =>
   have h0 : x < e := hx.1 (by omega)
   obtain ⟨i1, i2⟩ := lowhi (r := r) hq' (by simpa using hr) (fun k x hk => by
    have := h (k + 1) x (by simpa using hk)
    rw [← this]; omega) hn'
   simp only [lowE, hiE]
   rw [if_pos h0, if_neg (by omega), i1, i2]
   simp
 | [], k :: q, _, hq, _, _, _ => by simp at hq
 | x :: l, [], _, hq, _, _, _ => by simp at hq
end E
namespace E
open X
/-! ### Ends, looks, rounds -/
structure RR (rules : List T) (ms : Rs) (s : G.Rn) : Prop where
 rank : s.ends = ms.rank
 ag : ∀ g ∈ ms.goals, AOk rules g.rule g.args
 go : ∃ tl, s.goals = ms.goals ++ tl ∧ (ms.full = false → tl = [] ∧ s.came = ms.fresh) ∧ (ms.full = true → tl ≠ [] ∧ 300 ≤ ms.goals.length)
theorem qqh {hi : Nat} : ∀ {l : List Nat} {lo : Nat}, Asc1 lo hi l → As l ∧ ∀ x ∈ l, lo ≤ x
 | [], lo, _ => ⟨List.Pairwise.nil, fun x hx => by cases hx⟩
 | x :: r, lo, h => by
  obtain ⟨h1, h2, h3⟩ := h
  obtain ⟨i1, i2⟩ := qqh h3
  refine ⟨List.pairwise_cons.2 ⟨fun y hy => by have := i2 y hy; omega, i1⟩, fun y hy => ?_⟩
  rcases List.mem_cons.1 hy with rfl | hy
  ·exact h1
  ·have := i2 y hy; omega
/-- a goal whose ends lie well, with room for so many more -/
structure Wl (g : Gl) (k : Nat) : Prop where
 as_ : As g.ends
 rk : g.ranks.length = g.ends.length
 len : g.ends.length + k ≤ 900
theorem ins_eq {g : Gl} {k e : Nat} (h : Wl g k) (hn : e ∉ g.ends) (c : Nat) : G.bs g.ends e ≤ g.ends.length ∧ G.insAt g.ends (G.bs g.ends e) e = qdu g e ∧ G.insAt g.ranks (G.bs g.ends e) c = qcs g e c := by
 obtain ⟨h1, h2⟩ := bs_ok h.as_ e
 obtain ⟨e1, e2⟩ := lowhi (q := g.ranks) h.rk h1 h2 hn
 unfold G.insAt qdu qcs
 rw [e1, e2]
 exact ⟨h1, rfl, rfl⟩
theorem endsA_as {g : Gl} {k e : Nat} (h : Wl g (k + 1)) (hn : e ∉ g.ends) (c : Nat) : Wl { g with ends := qdu g e, ranks := qcs g e c } k := by
 obtain ⟨h1, h2⟩ := bs_ok h.as_ e
 obtain ⟨e1, e2⟩ := lowhi (q := g.ranks) h.rk h1 h2 hn
 have hl := h.len
 have hr := h.rk
 refine ⟨?_, ?_, ?_⟩
 ·unfold qdu
  rw [e1, e2]
  simp only
  have g1 : ∀ x ∈ g.ends.take (G.bs g.ends e), x < e := fun x hx => by
   obtain ⟨j, hj⟩ := List.getElem?_of_mem hx
   have hlt := lt_of_get hj
   simp only [List.length_take] at hlt
   rw [List.getElem?_take] at hj
   split at hj
   ·exact (h2 j x hj).1 (by omega)
   ·cases hj
  have g2 : ∀ x ∈ g.ends.drop (G.bs g.ends e), e < x := fun x hx => by
   obtain ⟨j, hj⟩ := List.getElem?_of_mem hx
   rw [List.getElem?_drop] at hj
   have h3 : ¬ x < e := fun c => by have := (h2 _ x hj).2 c; omega
   have h4 : x ≠ e := fun c => hn (c ▸ List.mem_of_getElem? hj)
   omega
  rw [List.append_assoc]
  refine List.pairwise_append.2 ⟨h.as_.sublist (List.take_sublist _ _), ?_, fun x hx y hy => ?_⟩
  ·rw [List.singleton_append]
   exact List.pairwise_cons.2 ⟨g2, h.as_.sublist (List.drop_sublist _ _)⟩
  ·have := g1 x hx
   rw [List.singleton_append] at hy
   rcases List.mem_cons.1 hy with rfl | hy
   ·exact this
   ·have := g2 y hy; omega
 ·simp only [qdu, qcs, e1, e2, List.length_append, List.length_take, List.length_drop, List.length_cons, List.length_nil]
  omega
 ·simp only [qdu, e1, e2, List.length_append, List.length_take, List.length_drop, List.length_cons, List.length_nil]
  omega
section
variable {SR : List Nat → Option (List Nat)} {MK : T → Option (List Bool)} {VN : List Nat → Bool} {RA : List Nat → Option Nat} {text : List Nat} {rules : List T}
theorem end_of {ms ms' : Rs} {s : G.Rn} {i e k : Nat} {g : Gl} (h : RR rules ms s) (hg : ms.goals[i]? = some g) (hw : Wl g (k + 1)) (hr : ms.rank + 1 ≤ 1000000) (he : endI ms i e = some ms') :
  ∃ s', G.endF s i e = some s' ∧ RR rules ms' s' ∧ (∃ g', ms'.goals[i]? = some g' ∧ Wl g' k) ∧ ms'.rank ≤ ms.rank + 1 ∧ ms'.full = ms.full := by
 obtain ⟨tl, t1, t2, t3⟩ := h.go
 have hl := hw.len
 have hrk := hw.rk
 have li := lt_of_get hg
 have hsg : s.goals[i]? = some g := by rw [t1, List.getElem?_append_left li]; exact hg
 unfold endI at he
 rw [hg] at he
 simp only at he
 unfold G.endF
 simp only [hsg]
 rw [if_neg (by omega), bs_found hw.as_ e]
 cases hc : g.ends.contains e with
 | true =>
  rw [hc] at he
  simp only [if_true] at he ⊢
  cases he
  exact ⟨s, rfl, h, ⟨g, hg, hw.as_, hw.rk, by omega⟩, by omega, rfl⟩
 | false =>
  rw [hc] at he
  simp only [Bool.false_eq_true, if_false] at he ⊢
  have hn : e ∉ g.ends := fun hm => by
   have : g.ends.contains e = true := by simpa using hm
   rw [hc] at this; cases this
  obtain ⟨q1, q2, q3⟩ := ins_eq hw hn s.ends
  unfold addS at he
  rw [hg] at he
  simp only at he
  rw [if_pos ⟨hrk.symm, by omega, by omega⟩] at he
  cases he
  rw [if_pos ⟨q1, by omega, by omega, by omega, by have := h.rank; omega⟩, q2, q3, h.rank]
  refine ⟨_, rfl, ⟨by simp only [h.rank], ?_, tl, ?_, fun hf => ⟨(t2 hf).1, rfl⟩, fun hf => ⟨(t3 hf).1, by simpa using (t3 hf).2⟩⟩, ⟨_, by rw [List.getElem?_set_self li], endsA_as hw hn ms.rank⟩, by simp, rfl⟩
  ·intro g' hg'
   rcases List.mem_or_eq_of_mem_set hg' with hg' | rfl
   ·exact h.ag g' hg'
   ·exact h.ag g (List.mem_of_getElem? hg)
  ·simp only [t1]
   rw [List.set_append_left _ _ li]
theorem qnb {i : Nat} : ∀ (l : List Nat) (ms ms' : Rs) (s : G.Rn) (g : Gl), RR rules ms s → ms.goals[i]? = some g → Wl g l.length → ms.rank + l.length ≤ 1000000 → qdr i l ms = some ms' →
  ∃ s', G.endsAll i l s = some s' ∧ RR rules ms' s'
 | [], ms, ms', s, g, h, hg, hw, hr, he => by
  simp only [qdr] at he
  cases he
  exact ⟨s, rfl, h⟩
 | e :: l, ms, ms', s, g, h, hg, hw, hr, he => by
  simp only [qdr] at he
  split at he
  ·cases he
  rename_i m1 h1
  simp only [List.length_cons] at hr
  obtain ⟨s1, a1, a2, ⟨g', a3, a4⟩, a5, _⟩ := end_of h hg hw (by omega) h1
  obtain ⟨s', b1, b2⟩ := qnb l m1 ms' s1 g' a2 a3 a4 (by omega) he
  simp only [G.endsAll, a1]
  exact ⟨s', b1, b2⟩
/-! ### Where a rule begins -/
def ascB : List (List Nat) → Bool
 | [] => true
 | p :: r => r.all (fun q => qdn p q) && ascB r
theorem qlh : ∀ (e : X.Env) (pv : Option (List Nat)) (x : List Nat × Int), qeh pv e = true → inF x.2 (-9999) 9999 = true → (∀ p ∈ e, qdn p.1 x.1 = true) → (∀ q, pv = some q → qdn q x.1 = true) → qeh pv (e ++ [x]) = true
 | [], pv, x, _, hx, _, hq => by
  simp only [List.nil_append, qeh, hx, Bool.true_and, Bool.and_true]
  cases pv with
  | none => rfl
  | some q => exact hq q rfl
 | p :: r, pv, x, h, hx, hl, hq => by
  simp only [qeh, Bool.and_eq_true] at h
  simp only [List.cons_append, qeh, Bool.and_eq_true]
  exact ⟨h.1, h.2.1, qlh r (some p.1) x h.2.2 hx (fun y hy => hl y (List.mem_cons_of_mem _ hy)) (fun q e => by cases e; exact hl p (by simp))⟩
theorem qvp : ∀ (ps : List (List Nat)) (al : List Nat) (e : X.Env), ps.all VN = true → ascB ps = true → al.length = ps.length → (∀ a ∈ al, a ≤ 99) → EV VN e → qeh none e = true → e.length + ps.length ≤ 6 → (∀ p ∈ e, ∀ q ∈ ps, qdn p.1 q = true) →
  qjg VN ps al e = some (e ++ G.zipE ps al) ∧ EV VN (e ++ G.zipE ps al)
 | [], [], e, _, _, _, _, hE, _, _, _ => by simp [qjg, G.zipE, hE]
 | p :: ps, a :: al, e, hv, hs, hl, ha, hE, hok, hn, hlt => by
  simp only [List.all_cons, Bool.and_eq_true] at hv
  simp only [ascB, Bool.and_eq_true] at hs
  simp only [List.length_cons] at hn
  have h99 := ha a (by simp)
  have lo : lowN p e = e := List.filter_eq_self.2 fun q hq => hlt q hq p (by simp)
  have hi : hiN p e = [] := List.filter_eq_nil_iff.2 fun q hq => by rw [hlt q hq p (by simp)]; simp
  have ho : outN e p (a : Int) = e ++ [(p, (a : Int))] := by simp [outN, lo, hi]
  have hk : qgf (e ++ [(p, (a : Int))]) = true := by
   simp only [qgf, Bool.and_eq_true, decide_eq_true_eq]
   exact ⟨qlh e none _ hok (by simp [inF]; omega) (fun q hq => hlt q hq p (by simp)) (fun q h => by cases h), by simp; omega⟩
  have hset : setN e p (a : Int) = e ++ [(p, (a : Int))] := by simp only [setN, ho, hk, if_true]
  have hE2 : EV VN (e ++ [(p, (a : Int))]) := by rw [← hset]; exact hE.set hv.1 (by omega)
  obtain ⟨i1, i2⟩ := qvp ps al (e ++ [(p, (a : Int))]) hv.2 hs.2 (by simpa using hl) (fun x hx => ha x (List.mem_cons_of_mem _ hx)) hE2 (by
   simp only [qgf, Bool.and_eq_true] at hk; exact hk.1) (by simp; omega) (fun q hq r hr => by
    rcases List.mem_append.1 hq with hq | hq
    ·exact hlt q hq r (by simp [hr])
    ·simp only [List.mem_singleton] at hq
     subst hq
     exact List.all_eq_true.1 hs.1 r hr)
  have hz : G.zipE (p :: ps) (a :: al) = (p, (a : Int)) :: G.zipE ps al := rfl
  simp only [qjg]
  rw [if_pos ⟨hv.1, hE.ge.1, by omega⟩, hset, i1, hz]
  exact ⟨by simp, by simpa using i2⟩
 | [], a :: al, e, _, _, hl, _, _, _, _, _ => by simp at hl
 | p :: ps, [], e, _, _, hl, _, _, _, _, _ => by simp at hl
def altC (y : T) : Bool := match y with
 | .agg [xs] => match qce xs with
  | some syms => syms.all symB
  | none => false
 | _ => false
def ruleC (x : T) : Bool := match x with
 | .agg [.str _, ps, az] => (match qmh ps with
   | some pl => ascB pl && decide (pl.length ≤ 6)
   | none => false) && (match qce az with
   | some al => decide (0 < al.length) && al.all altC
   | none => false)
 | _ => false
def gramC (rules : List T) : Bool := rules.all ruleC
theorem qjr (x : T) : G.symsOf x = qce x := by cases x <;> rfl
theorem Rel.new {n : Nat} {m : Im} {s : G.Rn} (h : Rel rules VN n m s) : Rel rules VN n ⟨m.s, m.done, []⟩ { s with seen := [] } :=
 ⟨h.done, h.nd, h.rank, h.ag, fun hf => ⟨(h.go hf).1, (h.go hf).2.1, fun q hq => rfl⟩, h.gf⟩
theorem q1w (F : Fx SR MK VN RA rules) (ht : bsB text = true) (hn : text.length ≤ 12) {R : Nat} {f : Nat} (hf : 52 ≤ f) {nm : List Nat} {ps az : T} {pl : List (List Nat)} (hps : qmh ps = some pl) (hv : pl.all VN = true) (hasc : ascB pl = true) (h6 : pl.length ≤ 6) {g : Gl} (hfr : g.from_ ≤ text.length) (hal : g.args.length = pl.length) (h99 : ∀ a ∈ g.args, a ≤ 99) :
  ∀ (al : List T), al.all (qpc SR MK VN RA R) = true → al.all altC = true → al.all (altAr RA rules) = true → ∀ (m m' : Im) (s : G.Rn), RI text.length R m.s → Rel rules VN text.length ⟨m.s, m.done, []⟩ { s with seen := [] } → qhs (mkK SR MK VN RA text) text ps g al m = some m' →
  ∃ s', G.altsF NN rules text f (.agg [.str nm, ps, az]) g.args g.from_ al s = some s' ∧ Rel rules VN text.length ⟨m'.s, m'.done, []⟩ { s' with seen := [] } ∧ RI text.length R m'.s
 | [], _, _, _, m, m', s, hR, h, e => by
  simp only [qhs] at e
  cases e
  exact ⟨s, rfl, h, hR⟩
 | x :: al, h1, h2, h3, m, m', s, hR, h, e => by
  simp only [List.all_cons, Bool.and_eq_true] at h1 h2 h3
  have hx := h1.1
  have hc := h2.1
  have hr := h3.1
  unfold qpc at hx
  split at hx
  rotate_left
  ·cases hx
  rename_i xs
  split at hx
  rotate_left
  ·cases hx
  rename_i syms hsy
  simp only [Bool.and_eq_true, decide_eq_true_eq] at hx
  simp only [altC, hsy] at hc
  simp only [altAr, hsy] at hr
  obtain ⟨z1, z2⟩ := qvp (VN := VN) pl g.args [] hv hasc hal h99 ⟨⟨rfl, by simp⟩, fun p hp => by cases hp⟩ rfl (by simpa using h6) (fun p hp => by cases hp)
  have he : (mkK SR MK VN RA text).env0 ps g.args = some (G.zipE pl g.args) := by
   show qpj VN ps g.args = some _
   simp only [qpj, hps]
   rw [if_pos (by omega)]
   simpa using z1
  simp only [List.nil_append] at z2
  simp only [qhs, hsy, he] at e
  split at e
  ·cases e
  rename_i m1 hm1
  obtain ⟨m1', y1, y2⟩ := qic (SR := SR) (MK := MK) (VN := VN) (RA := RA) ht hn syms hx.2 0 (g.from_, G.zipE pl g.args) ⟨m.s, m.done, []⟩ hfr z2.ge hR
  rw [hm1] at y1
  cases y1
  obtain ⟨s1, w1, w2⟩ := alt_of F ht hn (by omega) syms hx.2 hc hr 0 f rfl (by omega) (by omega) (g.from_, G.zipE pl g.args) ⟨m.s, m.done, []⟩ m1 _ hfr z2 hR h hm1
  have henv : NN 45 [.agg [.str nm, ps, az], .list (qax g.args)] = some (envT (G.zipE pl g.args)) := qhv (G.envOf_ld (qkv hps) hal (by omega))
  obtain ⟨s', v1, v2, v3⟩ := q1w F ht hn hf hps hv hasc h6 hfr hal h99 al h1.2 h2.2 h3.2 m1 m' s1 y2 w2.new e
  simp only [G.altsF, qjr, hsy, henv]
  simp only at w1
  rw [w1]
  exact ⟨s', v1, v2, v3⟩
end
end E
namespace E
open X
section
variable {SR : List Nat → Option (List Nat)} {MK : T → Option (List Bool)} {VN : List Nat → Bool} {RA : List Nat → Option Nat} {text : List Nat} {rules : List T}
theorem qwd (s : Rs) (ru : Nat) (al : List Nat) (here : Nat) : Gx s (qbf s ru al here).1 := by
 rcases qpz s ru al here with ⟨i, g, h1, h2, h3⟩ | ⟨n, h1, h2, h3⟩ | ⟨n, h1, h2, h3⟩ <;> rw [h3]
 ·exact Gx.refl _
 ·exact ⟨⟨[], by simp, fun g hg => by cases hg⟩, rfl⟩
 ·exact ⟨⟨[_], rfl, fun g hg => by simp only [List.mem_singleton] at hg; subst hg; rfl⟩, rfl⟩
theorem qxj {rec : At → Im → Option Im} (hrec : ∀ a m m', rec a m = some m' → Gx m.s m'.s) {K : Kn} {text bs : List Nat} {a : At} : ∀ (l : List Nat) (m m' : Im), qgu rec K text bs a l m = some m' → Gx m.s m'.s
 | [], m, m', h => by simp only [qgu] at h; cases h; exact Gx.refl _
 | e :: l, m, m', h => by
  simp only [qgu] at h
  split at h
  rotate_left
  ·cases h
  split at h
  ·cases h
  split at h
  ·cases h
  ·rename_i m1 h1
   exact Gx.trans (hrec _ _ _ h1) (qxj hrec l _ _ h)
theorem qug {K : Kn} {text : List Nat} : ∀ (r : List T) (j : Nat) (a : At) (m m' : Im), altI K text r j a m = some m' → Gx m.s m'.s
 | [], j, a, m, m', h => by
  simp only [altI] at h
  split at h <;> (cases h; exact Gx.refl _)
 | x :: r, j, a, m, m', h => by
  simp only [altI] at h
  split at h
  ·cases h; exact Gx.refl _
  ·split at h
   rotate_left
   ·cases h
   split at h
   ·split at h
    ·cases h
    ·cases h; exact Gx.refl _
    ·split at h
     ·cases h
     ·split at h
      ·cases h; exact qwd _ _ _ _
      ·split at h
       ·cases h
       ·have := qxj (fun a m m' h => qug r (j + 1) a m m' h) _ _ _ h
        exact Gx.trans (qwd _ _ _ _) this
   ·split at h
    ·cases h
    ·cases h; exact Gx.refl _
    ·have := qug r (j + 1) _ ⟨m.s, m.done, (j, a) :: m.seen⟩ _ h
     exact this
theorem qwz {K : Kn} {text : List Nat} {ps : T} {g : Gl} : ∀ (al : List T) (m m' : Im), qhs K text ps g al m = some m' → Gx m.s m'.s
 | [], m, m', h => by simp only [qhs] at h; cases h; exact Gx.refl _
 | x :: r, m, m', h => by
  simp only [qhs] at h
  split at h
  rotate_left
  ·cases h
  split at h
  ·cases h
  split at h
  ·cases h
  split at h
  ·cases h
  ·rename_i m1 h1
   have := qug _ _ _ ⟨m.s, m.done, []⟩ _ h1
   exact Gx.trans this (qwz r _ _ h)
/-- the checks of a grammar -/
structure Ck (SR : List Nat → Option (List Nat)) (MK : T → Option (List Bool)) (VN : List Nat → Bool) (RA : List Nat → Option Nat) (rules : List T) : Prop where
 right : grOk SR MK VN RA rules = true
 two : qtm rules = true
 ar : arOk RA rules = true
 c : gramC rules = true
theorem look_of (F : Fx SR MK VN RA rules) (C : Ck SR MK VN RA rules) (ht : bsB text = true) (hn : text.length ≤ 12) {f : Nat} (hf : 52 ≤ f) {ms ms' : Rs} {s : G.Rn} {i : Nat} (hR : RI text.length rules.length ms) (h : RR rules ms s) (hfl : ms.full = false) (e : qyj (mkK SR MK VN RA text) rules text ms i = some ms') :
  ∃ s', G.lookF NN rules text f s i = some s' ∧ RR rules ms' s' := by
 obtain ⟨tl, t1, t2, t3⟩ := h.go
 obtain ⟨rfl, t4⟩ := t2 hfl
 rw [List.append_nil] at t1
 unfold qyj at e
 split at e
 ·cases e
 rename_i g hg
 have hgi := hR.gi g (List.mem_of_getElem? hg)
 split at e
 rotate_left
 ·cases e
 rename_i nm ps az hrl
 have hmem := List.mem_of_getElem? hrl
 have o1 := List.all_eq_true.1 C.right _ hmem
 have o2 := List.all_eq_true.1 C.c _ hmem
 have o3 := List.all_eq_true.1 C.ar _ hmem
 split at e
 ·cases e
 rename_i al hal
 split at e
 ·cases e
 rename_i m hm
 simp only [qnw, hal] at o1
 simp only [ruleC, hal] at o2
 simp only [hal] at o3
 cases hps : qmh ps with
 | none => rw [hps] at o1; simp at o1
 | some pl =>
  rw [hps] at o1 o2
  simp only [Bool.and_eq_true, decide_eq_true_eq] at o1 o2
  have hg2 := h.ag g (List.mem_of_getElem? hg)
  have hlen : g.args.length = pl.length := by
   obtain ⟨⟨a, ps', az', pl', q1, q2, q3⟩, _⟩ := hg2
   rw [hrl] at q1
   cases q1
   have : pl'.length = pl.length := by
    have hs := qkv hps
    rcases hs with ⟨rfl, rfl⟩ | rfl
    ·simp only [qce] at q2; cases q2; rfl
    ·simp only [qce] at q2; cases q2; simp
   omega
  have h0 : Rel rules VN text.length ⟨ms, [], []⟩ { { s with done := [] } with seen := [] } :=
   ⟨rfl, ⟨List.nodup_nil, fun p hp => by cases hp⟩, h.rank, h.ag, fun _ => ⟨t1, t4, fun q hq => rfl⟩, fun hf' => (by
    have : ms.full = true := hf'
    rw [hfl] at this; cases this)⟩
  obtain ⟨s1, y1, y2, y3⟩ := q1w (nm := nm) (az := az) F ht (by omega) hf hps o1.1.2 o2.1.1 o2.1.2 hgi.fr hlen hg2.2.2 al o1.2.2 o2.2.2 o3 ⟨ms, [], []⟩ m { s with done := [] } hR h0 hm
  have hd : s1.done = m.done := y2.done
  have hdl := y2.dl
  simp only at hdl
  have hsort := sort_srt y2.nd.1 y2.nd.2
  simp only at hsort
  have hg' : m.s.goals[i]? = some g := (qwz al ⟨ms, [], []⟩ m hm).get hg
  have hgi2 := y3.gi g (List.mem_of_getElem? hg')
  have hw : Wl g (srt text.length m.done).length := by
   refine ⟨(qqh hgi2.asc).1, hgi2.rk, ?_⟩
   have l1 := hgi2.len (by omega)
   rw [← hsort]
   have := G.sortF_len m.done
   omega
  have hmu := (y3.mu (by omega)).2
  have h1 : RR rules m.s { s1 with done := G.sortF s1.done } :=
   ⟨y2.rank, y2.ag, by
    cases hmf : m.s.full with
    | false =>
     obtain ⟨a1, a2, _⟩ := y2.go hmf
     exact ⟨[], by simpa using a1, fun _ => ⟨rfl, a2⟩, fun h => by cases h⟩
    | true =>
     obtain ⟨g2, a1, a2, a3, a4⟩ := y2.gf hmf
     exact ⟨[g2], a3, fun h => (by cases h), fun _ => ⟨by simp, a4⟩⟩⟩
  have hsl : (srt text.length m.done).length = m.done.length := by
   rw [← hsort]
   exact G.sortF_len m.done
  obtain ⟨s', z1, z2⟩ := qnb (srt text.length m.done) m.s ms' _ g h1 hg' hw (by omega) e
  unfold G.lookF
  simp only [t1] at y1
  simp only [t1, hg, hrl, qjr, hal]
  rw [if_pos (by have := o2.2.1; have := o1.2.1; omega)]
  simp only [y1]
  rw [if_pos (by rw [hd]; omega), hd, hsort]
  rw [hd, hsort] at z1
  exact ⟨s', z1, z2⟩
end
end E
namespace E
open X
section
variable {SR : List Nat → Option (List Nat)} {MK : T → Option (List Bool)} {VN : List Nat → Bool} {RA : List Nat → Option Nat} {text : List Nat} {rules : List T}
/-- a look keeps the invariants -/
theorem lookI_ri (C : Ck SR MK VN RA rules) (ht : bsB text = true) (hn : text.length ≤ 12) {s s2 : Rs} (hf : s.full = false) (hR : RI text.length rules.length s) {i : Nat} (hi : i < s.goals.length) (e : qyj (mkK SR MK VN RA text) rules text s i = some s2) (h2 : s2.full = false) : RI text.length rules.length s2 := by
 obtain ⟨s', a1, a2, a3⟩ := qmf C.right ht hn hR hi
 obtain ⟨s3, b1, b2, b3⟩ := qst C.right C.two ht hn hf hR a1
 rw [e] at b1
 cases b1
 rw [b3 (by rw [← b2]; exact h2)]
 exact a2
theorem qwu (F : Fx SR MK VN RA rules) (C : Ck SR MK VN RA rules) (ht : bsB text = true) (hn : text.length ≤ 12) {f : Nat} (hf : 52 ≤ f) : ∀ (n i : Nat) (ms ms' : Rs) (s : G.Rn), RI text.length rules.length ms → RR rules ms s → ms.full = false → qsy (mkK SR MK VN RA text) rules text n i ms = some ms' →
  ∃ s', G.roundF NN rules text f n i s = some (s', ms'.full) ∧ RR rules ms' s' ∧ (ms'.full = false → RI text.length rules.length ms')
 | 0, i, ms, ms', s, hR, h, hfl, e => by cases e
 | n + 1, i, ms, ms', s, hR, h, hfl, e => by
  obtain ⟨tl, t1, t2, t3⟩ := h.go
  obtain ⟨rfl, t4⟩ := t2 hfl
  rw [List.append_nil] at t1
  have hlen := hR.len
  simp only [qsy] at e
  simp only [G.roundF, t1]
  by_cases c : i < ms.goals.length
  ·rw [if_pos ⟨c, hfl⟩] at e
   rw [if_pos c, if_neg (by omega)]
   split at e
   ·cases e
   rename_i m1 h1
   obtain ⟨s1, a1, a2⟩ := look_of F C ht hn hf hR h hfl h1
   rw [a1]
   simp only
   obtain ⟨tl1, u1, u2, u3⟩ := a2.go
   cases hm1 : m1.full with
   | true =>
    obtain ⟨v1, v2⟩ := u3 hm1
    have hlt : 300 < s1.goals.length := by
     rw [u1, List.length_append]
     have := List.length_pos_iff.2 v1
     omega
    rw [if_pos hlt]
    cases n with
    | zero => cases e
    | succ n =>
     simp only [qsy] at e
     rw [if_neg (fun hc => by rw [hm1] at hc; cases hc.2)] at e
     cases e
     rw [hm1]
     exact ⟨_, rfl, a2, fun hc => by cases hc⟩
   | false =>
    obtain ⟨rfl, _⟩ := u2 hm1
    rw [List.append_nil] at u1
    have hR1 := lookI_ri C ht (by omega) hfl hR c h1 hm1
    rw [if_neg (by rw [u1]; have := hR1.len; omega)]
    exact qwu F C ht hn hf n (i + 1) m1 ms' s1 hR1 a2 hm1 e
  ·rw [if_neg (fun hc => c hc.1)] at e
   rw [if_neg c]
   cases e
   rw [hfl]
   exact ⟨_, rfl, h, fun _ => hR⟩
theorem q1b (F : Fx SR MK VN RA rules) (C : Ck SR MK VN RA rules) (ht : bsB text = true) (hn : text.length ≤ 12) {f : Nat} (hf : 52 ≤ f) : ∀ (n : Nat) (ms ms' : Rs) (s : G.Rn), RI text.length rules.length ms → RR rules ms s → ms.full = false → qkd (mkK SR MK VN RA text) rules text f n ms = some ms' →
  ∃ s', G.runsF NN rules text f n s = some (s', ms'.full) ∧ (ms'.full = false → s'.goals = ms'.goals)
 | 0, ms, ms', s, hR, h, hfl, e => by cases e
 | n + 1, ms, ms', s, hR, h, hfl, e => by
  obtain ⟨tl, t1, t2, t3⟩ := h.go
  obtain ⟨rfl, t4⟩ := t2 hfl
  rw [List.append_nil] at t1
  simp only [qkd] at e
  simp only [G.runsF, t4]
  by_cases c : ms.fresh = true
  ·rw [if_pos ⟨c, hfl⟩] at e
   rw [if_pos c]
   split at e
   ·cases e
   rename_i m1 h1
   have hR0 : RI text.length rules.length { ms with fresh := false } := ⟨hR.len, hR.gi, hR.rank⟩
   have h0 : RR rules { ms with fresh := false } { s with came := false } := ⟨h.rank, h.ag, [], by simpa using t1, fun _ => ⟨rfl, rfl⟩, fun hc => by
    have : ms.full = true := hc
    rw [hfl] at this; cases this⟩
   obtain ⟨s1, a1, a2, a3⟩ := qwu F C ht hn hf f 0 _ m1 _ hR0 h0 hfl h1
   rw [a1]
   cases hm1 : m1.full with
   | true =>
    simp only
    cases n with
    | zero => cases e
    | succ n =>
     simp only [qkd] at e
     rw [if_neg (fun hc => by rw [hm1] at hc; cases hc.2)] at e
     cases e
     rw [hm1]
     exact ⟨_, rfl, fun hc => by cases hc⟩
   | false =>
    simp only
    exact q1b F C ht hn hf n m1 ms' s1 (a3 hm1) a2 hm1 e
  ·rw [if_neg (fun hc => c hc.1)] at e
   rw [if_neg c]
   cases e
   rw [hfl]
   exact ⟨_, rfl, fun _ => t1⟩
/-- The program's run comes to the reference's chart. -/
theorem qzn (F : Fx SR MK VN RA rules) (C : Ck SR MK VN RA rules) (ht : bsB text = true) (hn : text.length ≤ 12) (hgok : ∀ σ, LD S 23 [.t (.agg [.list rules])] σ = some (.t (B true), σ)) {name : List Nat} {ru : Nat} (hra : RA name = some ru) {nm : List Nat} {ps az : T} {pl : List T} (hrl : rules[ru]? = some (.agg [.str nm, ps, az])) (hps : qce ps = some pl) {y : T} {al : List Nat} (hy : Is y al) (hal : pl.length = al.length) (hl : al.length ≤ 1000) (h99 : ∀ a ∈ al, a ≤ 99) {fr : Nat} (hfr : fr ≤ text.length) :
  ∃ s' o, qdq (mkK SR MK VN RA text) rules text 5000 5000 ⟨[⟨ru, al, fr, [], []⟩], 0, true, false⟩ = some s' ∧ G.runGoalF NN rules text 5000 name y al fr = some o ∧ o.map (fun s => s.goals) = outS s' := by
 have hru : ru < rules.length := lt_of_get hrl
 obtain ⟨s', s2, h1, h2, h3, h4⟩ := run_same C.right C.two ht (by omega) hru hl hfr
 have hR : RI text.length rules.length ⟨[⟨ru, al, fr, [], []⟩], 0, true, false⟩ := by
  refine ⟨by simp, fun g hg => ?_, by simp [tot]⟩
  simp only [List.mem_singleton] at hg
  subst hg
  exact ⟨hru, hfr, trivial, rfl, hl⟩
 have hA : AOk rules ru al := ⟨⟨_, ps, az, pl, hrl, hps, hal⟩, hl, h99⟩
 have h0 : RR rules ⟨[⟨ru, al, fr, [], []⟩], 0, true, false⟩ { goals := [⟨ru, al, fr, [], []⟩], ends := 0, came := true, done := [], seen := [] } := ⟨rfl, fun g hg => by
  simp only [List.mem_singleton] at hg
  subst hg
  exact hA, [], rfl, fun _ => ⟨rfl, rfl⟩, fun hc => by cases hc⟩
 obtain ⟨s3, r1, r2⟩ := q1b F C ht hn (f := 5000) (by omega) 5000 _ s2 _ hR h0 rfl h2
 have k1 : NN 23 [.agg [.list rules]] = some (.bool true) := qhv hgok
 have k2 : NN 22 [.agg [.list rules], .str name] = some (I (ru : Nat)) := qhv (F.ra _ _ hra)
 have k3 : NN 24 [y] = some (.bool true) := qhv (G.numbersIn_ld hy h99 hl)
 have k4 : NN 25 [I fr, I 0, I text.length] = some (.bool true) := qhv fun σ => by
  have := G.within_ld fr 0 text.length σ
  rw [show inF fr 0 text.length = true by simp only [inF, Bool.and_eq_true, decide_eq_true_eq]; omega] at this
  exact this
 refine ⟨s', if s2.full then none else some s3, h1, ?_, ?_⟩
 ·unfold G.runGoalF
  simp only [k1, k2, k3, k4]
  rw [if_pos ⟨by omega, hl⟩]
  simp only [hrl, qjr, hps, hal, if_true, r1]
  cases hs2 : s2.full <;> rfl
 ·rw [← h4]
  unfold outS
  cases hs2 : s2.full with
  | true => rfl
  | false => simp only [Bool.false_eq_true, if_false, Option.map_some, r2 hs2]
end
end E
