/- A part of the proof. No statement of the claim is in it. -/
import Derived.Test.YtbdadoeankjnkaaGreatDoorSb
set_option maxRecDepth 100000
set_option maxHeartbeats 4000000
set_option linter.all false
open Go Go.V Go.Proofs
namespace X
/-! ### All of it together -/
def mkK (SR : List Nat → Option (List Nat)) (MK : T → Option (List Bool)) (VN : List Nat → Bool) (RA : List Nat → Option Nat) (text : List Nat) : Kn :=
 ⟨qio SR MK text, qiz MK, qkt VN, RA, qpj VN⟩
def RaOk (RA : List Nat → Option Nat) (rules : T) : Prop := ∀ nm i, RA nm = some i → ∀ σ, LD S 28 [.t (.agg [rules]), .t (.str nm)] σ = some (.t (I (i : Nat)), σ)
theorem mkK_ok {SR : List Nat → Option (List Nat)} (hS : qoh SR) {MK : T → Option (List Bool)} (hM : MkOk MK) {VN : List Nat → Bool} (hV : NmOk VN) {RA : List Nat → Option Nat} {rules : T} (hR : RaOk RA rules) (text : List Nat) : KnOk (mkK SR MK VN RA text) rules text :=
 { plain := fun x env pos r h => by
    obtain ⟨n, ok, h1, h2⟩ := plain_ld hS hM h
    exact ⟨n, ok, h1, by cases r <;> exact h2⟩
   args := fun ax env pos r h => by
    obtain ⟨y, ok, h1, h2⟩ := args_ld hM h
    exact ⟨y, ok, h1, by cases r <;> exact h2⟩
   bind := fun env bs t env' h => bind_ld hV h
   ruleAt := hR
   env0 := fun ps al env h => env0_ld hV h }

/-! ### What is right -/
def q1k (n op : Nat) (kids : List Nat) : Bool :=
 if op = 1 then true else if op = 2 then true else if op = 3 then true
 else if op = 11 then match kids[0]? with
  | some k => decide (k < n)
  | none => false
 else match kids[0]?, kids[1]? with
  | some k, some k2 => decide (k < n) && decide (k2 < n)
  | _, _ => false
def nodeOk (n : Nat) (x : T) (m : Bool) : Bool := match q3v x with
 | none => false
 | some (op, num, nm, kz) => if m then match qus kz with
   | some kids => q1k n op kids
   | none => false
  else true
def qlo (n : Nat) : List T → List Bool → Bool
 | [], _ => true
 | x :: r, m :: ms => nodeOk n x m && qlo n r ms
 | _ :: _, [] => false
def exOk (MK : T → Option (List Bool)) (e : T) : Bool := match e with
 | .agg [.list nodes] => match MK (.agg [.list nodes]) with
  | some ms => decide (ms.length = nodes.length) && (decide (0 < nodes.length) && (decide (nodes.length ≤ 100) && qlo nodes.length nodes ms))
  | none => false
 | _ => false
def qhu (SR : List Nat → Option (List Nat)) (MK : T → Option (List Bool)) (VN : List Nat → Bool) (RA : List Nat → Option Nat) (n : Nat) (y : T) : Bool := match y with
 | .agg [.int .i64 (.ofNat kind), .str tx, ax, .str bs] =>
  if kind = 3 then (match qce ax with
    | some l => decide (l.length ≤ 1000) && (szOk l && l.all (exOk MK))
    | none => false) && ((match RA tx with
    | some ru => decide (ru < n)
    | none => false) && (decide (bs = []) || VN bs))
  else if kind = 1 then decide (tx.length ≤ 1000000)
  else if kind = 2 then (SR tx).isSome
  else match qce ax with
   | some (.agg [c] :: _) => exOk MK (.agg [c])
   | _ => false
 | _ => false
def qpc (SR : List Nat → Option (List Nat)) (MK : T → Option (List Bool)) (VN : List Nat → Bool) (RA : List Nat → Option Nat) (n : Nat) (x : T) : Bool := match x with
 | .agg [xs] => match qce xs with
  | some syms => decide (syms.length ≤ 9) && syms.all (qhu SR MK VN RA n)
  | none => false
 | _ => false
def qnw (SR : List Nat → Option (List Nat)) (MK : T → Option (List Bool)) (VN : List Nat → Bool) (RA : List Nat → Option Nat) (n : Nat) (x : T) : Bool := match x with
 | .agg [.str _, ps, az] => (match qmh ps with
   | some pl => decide (pl.length ≤ 1000) && pl.all VN
   | none => false) && (match qce az with
   | some al => decide (al.length ≤ 1000) && al.all (qpc SR MK VN RA n)
   | none => false)
 | _ => false
/-- The rules of a grammar are right, and all that they name is known. -/
def grOk (SR : List Nat → Option (List Nat)) (MK : T → Option (List Bool)) (VN : List Nat → Bool) (RA : List Nat → Option Nat) (rules : List T) : Bool := rules.all (qnw SR MK VN RA rules.length)

/-! ### All of it is reckoned -/
def GE (VN : List Nat → Bool) (e : Env) : Prop := qgw VN e = true ∧ e.length ≤ 1000
theorem GE.set {VN : List Nat → Bool} {e : Env} (h : GE VN e) {nm : List Nat} (hn : VN nm = true) (n : Int) : GE VN (setN e nm n) := by
 refine ⟨?_, qpl e nm n h.2⟩
 unfold setN
 split
 ·exact qmj h.1 hn n
 ·exact h.1
theorem q2o {n op : Nat} {kids : List Nat} (h : q1k n op kids = true) {nums : List Int} (hl : nums.length = n) (env : Env) (here : Nat) (num : Int) (nm : List Nat) : ∃ v, qpr nums env here op num nm kids = some v := by
 have get : ∀ k, k < n → ∃ a, nums[k]? = some a := fun k hk => get_of_lt (by omega)
 unfold q1k at h
 unfold qpr
 by_cases h1 : op = 1
 ·rw [if_pos h1]; exact ⟨_, rfl⟩
 rw [if_neg h1] at h ⊢
 by_cases h2 : op = 2
 ·rw [if_pos h2]; exact ⟨_, rfl⟩
 rw [if_neg h2] at h ⊢
 by_cases h3 : op = 3
 ·rw [if_pos h3]; exact ⟨_, rfl⟩
 rw [if_neg h3] at h ⊢
 by_cases h4 : op = 11
 ·rw [if_pos h4] at h ⊢
  split at h
  ·rename_i k hk
   obtain ⟨a, ha⟩ := get k (by simpa using h)
   rw [hk]
   simp only [ha]
   exact ⟨_, rfl⟩
  ·cases h
 ·rw [if_neg h4] at h ⊢
  split at h
  ·rename_i k k2 hk hk2
   simp only [Bool.and_eq_true, decide_eq_true_eq] at h
   obtain ⟨a, ha⟩ := get k h.1
   obtain ⟨b, hb⟩ := get k2 h.2
   rw [hk, hk2]
   simp only [ha, hb]
   exact ⟨_, rfl⟩
  ·cases h
theorem qmi {n : Nat} (env : Env) (here : Nat) : ∀ (r : List T) (ms : List Bool) (i : Nat) (nums : List Int), qlo n r ms = true → nums.length = n → ∃ o, qho env here r ms i nums = some o ∧ ∀ l, o = some l → l.length = n
 | [], ms, i, nums, _, hl => ⟨_, rfl, fun l h => by cases h; exact hl⟩
 | x :: r, [], i, nums, h, hl => by simp [qlo] at h
 | x :: r, m :: ms, i, nums, h, hl => by
  simp only [qlo, Bool.and_eq_true] at h
  obtain ⟨h1, h2⟩ := h
  unfold nodeOk at h1
  simp only [qho]
  split at h1
  ·cases h1
  rename_i op num nm kz hnp
  simp only [hnp]
  cases m with
  | false =>
   simp only [Bool.false_eq_true, if_false]
   exact qmi env here r ms (i + 1) nums h2 hl
  | true =>
   simp only [if_true] at h1 ⊢
   split at h1
   rotate_left
   ·cases h1
   rename_i kids hk
   obtain ⟨v, hv⟩ := q2o h1 hl env here num nm
   have e : qsj nums env here op num nm kz = some v := by simp only [qsj, hk, hv]
   rw [e]
   cases v with
   | none => exact ⟨_, rfl, fun l h => by cases h⟩
   | some k =>
    simp only
    split
    ·exact qmi env here r ms (i + 1) _ h2 (by simpa using hl)
    ·exact ⟨_, rfl, fun l h => by cases h⟩
theorem qsi {MK : T → Option (List Bool)} {e : T} (h : exOk MK e = true) {VN : List Nat → Bool} {env : Env} (he : GE VN env) (here : Nat) : ∃ o, qnm MK e env here = some o := by
 unfold exOk at h
 split at h
 rotate_left
 ·cases h
 rename_i nodes
 split at h
 rotate_left
 ·cases h
 rename_i ms hms
 simp only [Bool.and_eq_true, decide_eq_true_eq] at h
 obtain ⟨h1, h2, h3, h4⟩ := h
 obtain ⟨o, ho, hol⟩ := qmi env here nodes ms 0 (List.replicate nodes.length 0) h4 (by simp)
 unfold qnm
 simp only [hms]
 rw [if_pos ⟨h1, h2, h3, he.2⟩, ho]
 cases o with
 | none => exact ⟨_, rfl⟩
 | some nums =>
  obtain ⟨a, ha⟩ := get_of_lt (show nodes.length - 1 < nums.length by rw [hol nums rfl]; omega)
  simp only [ha]
  exact ⟨_, rfl⟩
theorem qik {MK : T → Option (List Bool)} {VN : List Nat → Bool} {env : Env} (he : GE VN env) (here : Nat) : ∀ (l : List T) (acc : List Nat), l.all (exOk MK) = true → ∃ o, qhr MK env here l acc = some o ∧ ∀ r, o = some r → r.length = acc.length + l.length
 | [], acc, h => ⟨_, rfl, fun r h => by cases h; rfl⟩
 | x :: l, acc, h => by
  simp only [List.all_cons, Bool.and_eq_true] at h
  obtain ⟨o, ho⟩ := qsi h.1 he here
  simp only [qhr, ho]
  cases o with
  | none => exact ⟨_, rfl, fun r h => by cases h⟩
  | some n => cases n with
   | negSucc n => exact ⟨_, rfl, fun r h => by cases h⟩
   | ofNat n =>
    simp only
    split
    ·obtain ⟨o, h1, h2⟩ := qik he here l (acc ++ [n]) h.2
     exact ⟨o, h1, fun r hr => by rw [h2 r hr]; simp; omega⟩
    ·exact ⟨_, rfl, fun r h => by cases h⟩
theorem qlk {VN : List Nat → Bool} : ∀ (l : List (List Nat)) (al : List Nat) (e : Env), l.all VN = true → GE VN e → ∃ env, qjg VN l al e = some env ∧ GE VN env
 | [], al, e, _, he => by cases al <;> exact ⟨e, rfl, he⟩
 | p :: ps, [], e, _, he => ⟨e, rfl, he⟩
 | p :: ps, a :: as', e, h, he => by
  simp only [List.all_cons, Bool.and_eq_true] at h
  simp only [qjg]
  rw [if_pos ⟨h.1, he.1, he.2⟩]
  exact qlk ps as' _ h.2 (he.set h.1 a)
theorem qlc {VN : List Nat → Bool} {e : Env} (he : GE VN e) {bs : List Nat} (hb : (decide (bs = []) || VN bs) = true) {t : List Nat} (ht : bsB t = true) (hl : t.length ≤ 1000000) : ∃ e', qkt VN e bs t = some e' ∧ GE VN e' := by
 unfold qkt
 rw [if_pos ⟨he.1, he.2, hl, ht⟩]
 by_cases h : bs = []
 ·rw [if_pos h]; exact ⟨e, rfl, he⟩
 ·rw [if_neg h]
  have hv : VN bs = true := by simpa [h] using hb
  rw [if_pos hv]
  exact ⟨_, rfl, he.set hv _⟩
end X
namespace X
/-! ### Ends ascend -/
def Asc1 (lo hi : Nat) : List Nat → Prop
 | [] => True
 | x :: r => lo ≤ x ∧ x ≤ hi ∧ Asc1 (x + 1) hi r
theorem Asc1.len {hi : Nat} : ∀ {l : List Nat} {lo : Nat}, Asc1 lo hi l → l.length ≤ hi + 1 - lo
 | [], lo, h => by simp
 | x :: r, lo, h => by
  obtain ⟨h1, h2, h3⟩ := h
  have := Asc1.len h3
  simp only [List.length_cons]
  omega
theorem Asc1.mem {hi : Nat} : ∀ {l : List Nat} {lo : Nat}, Asc1 lo hi l → ∀ e ∈ l, lo ≤ e ∧ e ≤ hi
 | [], lo, h, e, he => by cases he
 | x :: r, lo, h, e, he => by
  obtain ⟨h1, h2, h3⟩ := h
  rcases List.mem_cons.1 he with rfl | he
  ·exact ⟨h1, h2⟩
  ·have := Asc1.mem h3 e he
   omega
theorem Asc1.hi {hi e : Nat} : ∀ {l q : List Nat} {lo : Nat}, Asc1 lo hi l → e < lo → q.length = l.length → lowE e l q = ([], []) ∧ hiE e l q = (l, q)
 | [], [], lo, h, he, hq => ⟨rfl, rfl⟩
 | x :: r, k :: q, lo, h, he, hq => by
  obtain ⟨h1, h2, h3⟩ := h
  obtain ⟨e1, e2⟩ := Asc1.hi (q := q) h3 (e := e) (by omega) (by simpa using hq)
  simp only [lowE, hiE, e1, e2]
  rw [if_neg (by omega), if_pos (by omega)]
  exact ⟨rfl, rfl⟩
 | [], k :: q, lo, h, he, hq => by simp at hq
 | x :: r, [], lo, h, he, hq => by simp at hq
theorem Asc1.ins {hi e k0 : Nat} : ∀ {l q : List Nat} {lo : Nat}, Asc1 lo hi l → q.length = l.length → e ∉ l → lo ≤ e → e ≤ hi →
  Asc1 lo hi ((lowE e l q).1 ++ [e] ++ (hiE e l q).1) ∧ ((lowE e l q).1 ++ [e] ++ (hiE e l q).1).length = l.length + 1 ∧ ((lowE e l q).2 ++ [k0] ++ (hiE e l q).2).length = l.length + 1 ∧ ∀ x ∈ (lowE e l q).1 ++ [e] ++ (hiE e l q).1, x ∈ l ∨ x = e
 | [], [], lo, h, hq, hn, h1, h2 => by simp [lowE, hiE, Asc1, h1, h2]
 | x :: r, k :: q, lo, h, hq, hn, h1, h2 => by
  obtain ⟨a1, a2, a3⟩ := h
  have hq' : q.length = r.length := by simpa using hq
  have hne : x ≠ e := fun e' => hn (by simp [e'])
  by_cases c : x < e
  ·obtain ⟨i1, i2, i3, i4⟩ := Asc1.ins (k0 := k0) a3 hq' (fun hm => hn (List.mem_cons_of_mem _ hm)) (show x + 1 ≤ e by omega) h2
   simp only [lowE, hiE]
   rw [if_pos c, if_neg (by omega)]
   simp only [List.cons_append, Asc1, List.length_cons]
   refine ⟨⟨a1, a2, i1⟩, by omega, by omega, fun y hy => ?_⟩
   rcases List.mem_cons.1 hy with rfl | hy
   ·simp
   ·rcases i4 y hy with h | h
    ·exact .inl (List.mem_cons_of_mem _ h)
    ·exact .inr h
  ·obtain ⟨e1, e2⟩ := Asc1.hi (q := q) a3 (e := e) (by omega) hq'
   simp only [lowE, hiE]
   rw [if_neg c, if_pos (by omega), e1, e2]
   simp only [List.nil_append, List.cons_append, Asc1, List.length_cons, List.length_nil, List.length_append]
   refine ⟨⟨h1, h2, by omega, a2, a3⟩, by simp, by simp [hq'], fun y hy => ?_⟩
   simp only [List.mem_cons] at hy
   rcases hy with rfl | rfl | hy
   ·exact .inr rfl
   ·simp
   ·exact .inl (List.mem_cons_of_mem _ hy)
 | [], k :: q, lo, h, hq, _, _, _ => by simp at hq
 | x :: r, [], lo, h, hq, _, _, _ => by simp at hq

/-! ### The chart is right -/
def tot (gs : List Gl) : Nat := (gs.map fun g => g.ends.length).sum
theorem qzy : ∀ {gs : List Gl} {i : Nat} {g g' : Gl}, gs[i]? = some g → tot (gs.set i g') + g.ends.length = tot gs + g'.ends.length
 | g0 :: gs, 0, g, g', h => by
  simp only [List.getElem?_cons_zero, Option.some.injEq] at h
  subst h
  simp only [tot, List.set_cons_zero, List.map_cons, List.sum_cons]
  omega
 | g0 :: gs, i + 1, g, g', h => by
  simp only [List.getElem?_cons_succ] at h
  have := qzy (g' := g') h
  simp only [tot, List.set_cons_succ, List.map_cons, List.sum_cons] at this ⊢
  omega
 | [], i, g, g', h => by simp at h
theorem quy (gs : List Gl) (g : Gl) : tot (gs ++ [g]) = tot gs + g.ends.length := by simp [tot]
theorem tot_le : ∀ {gs : List Gl}, (∀ g ∈ gs, g.ends.length ≤ 13) → tot gs ≤ 13 * gs.length
 | [], h => by simp [tot]
 | g :: gs, h => by
  have h1 := h g (by simp)
  have h2 := tot_le fun g hg => h g (List.mem_cons_of_mem _ hg)
  simp only [tot, List.map_cons, List.sum_cons, List.length_cons] at h2 ⊢
  omega
structure GI (n R : Nat) (g : Gl) : Prop where
 rule : g.rule < R
 fr : g.from_ ≤ n
 asc : Asc1 g.from_ n g.ends
 rk : g.ranks.length = g.ends.length
 args : g.args.length ≤ 1000
theorem GI.len {n R : Nat} (hn : n ≤ 12) {g : Gl} (h : GI n R g) : g.ends.length ≤ 13 := by
 have := h.asc.len
 omega
structure RI (n R : Nat) (s : Rs) : Prop where
 len : s.goals.length ≤ 300
 gi : ∀ g ∈ s.goals, GI n R g
 rank : s.rank = tot s.goals
def mu (s : Rs) : Nat := s.goals.length + tot s.goals
theorem RI.mu {n R : Nat} (hn : n ≤ 12) {s : Rs} (h : RI n R s) : mu s ≤ 4200 ∧ s.rank ≤ 3900 := by
 have h1 := tot_le fun g hg => (h.gi g hg).len hn
 have h2 := h.len
 have h3 := h.rank
 unfold X.mu
 omega
/-- goals are kept, and what is new is told -/
structure Ext (s s' : Rs) : Prop where
 keep : ∀ (i : Nat) (g : Gl), s.goals[i]? = some g → s'.goals[i]? = some g
 len : s.goals.length ≤ s'.goals.length
 mu : mu s ≤ mu s'
 fresh : s'.fresh = true → s.fresh = true ∨ X.mu s < X.mu s'
theorem Ext.refl (s : Rs) : Ext s s := ⟨fun i g h => h, Nat.le_refl _, Nat.le_refl _, fun h => .inl h⟩
theorem Ext.trans {a b c : Rs} (h1 : Ext a b) (h2 : Ext b c) : Ext a c := by
 refine ⟨fun i g h => h2.keep i g (h1.keep i g h), Nat.le_trans h1.len h2.len, Nat.le_trans h1.mu h2.mu, fun h => ?_⟩
 have m1 := h1.mu
 have m2 := h2.mu
 rcases h2.fresh h with h | h
 ·rcases h1.fresh h with h | h
  ·exact .inl h
  ·exact .inr (by omega)
 ·exact .inr (by omega)
theorem qtp {ru : Nat} {al : List Nat} {fr : Nat} : ∀ {gs : List Gl} {k i : Nat}, gIx ru al fr gs k = .ofNat i → ∃ g, k ≤ i ∧ gs[i - k]? = some g ∧ isG g ru al fr = true
 | [], k, i, h => by simp only [gIx] at h; cases h
 | g :: gs, k, i, h => by
  simp only [gIx] at h
  split at h
  ·rename_i hg
   have : k = i := by
    have : (k : Int) = (i : Int) := h
    omega
   subst this
   exact ⟨g, Nat.le_refl _, by simp, hg⟩
  ·obtain ⟨g', h1, h2, h3⟩ := qtp h
   refine ⟨g', by omega, ?_, h3⟩
   have : i - k = (i - (k + 1)) + 1 := by omega
   rw [this, List.getElem?_cons_succ]
   exact h2
theorem qhy {n R : Nat} {s : Rs} (h : RI n R s) {ru : Nat} (hru : ru < R) {al : List Nat} (hal : al.length ≤ 1000) {here : Nat} (hh : here ≤ n) :
  RI n R (qbf s ru al here).1 ∧ Ext s (qbf s ru al here).1 ∧ ∀ i, (qbf s ru al here).2 = .ofNat i → ∃ g, (qbf s ru al here).1.goals[i]? = some g ∧ g.from_ = here := by
 cases hix : gIx ru al here s.goals 0 with
 | ofNat i =>
  have e1 : qbf s ru al here = (s, (.ofNat i : Int)) := by simp only [qbf, hix]
  rw [e1]
  refine ⟨h, Ext.refl s, fun j hj => ?_⟩
  obtain ⟨g, _, h2, h3⟩ := qtp hix
  have hij : i = j := by
   have : (i : Int) = (j : Int) := hj
   omega
  subst hij
  refine ⟨g, by simpa using h2, ?_⟩
  simp only [isG, Bool.and_eq_true, beq_iff_eq] at h3
  exact h3.2.1
 | negSucc m =>
  by_cases c0 : 300 ≤ s.goals.length
  ·have e1 : qbf s ru al here = ({ s with full := true }, -1) := by simp only [qbf, hix, c0, if_true]
   rw [e1]
   exact ⟨⟨h.len, h.gi, h.rank⟩, ⟨fun i g h => h, Nat.le_refl _, Nat.le_refl _, fun h => .inl h⟩, fun j hj => by cases hj⟩
  ·have e1 : qbf s ru al here = ({ s with goals := s.goals ++ [⟨ru, al, here, [], []⟩], fresh := true }, ((s.goals.length : Nat) : Int)) := by simp only [qbf, hix, c0, if_false]
   rw [e1]
   refine ⟨⟨by simp; omega, fun g hg => ?_, ?_⟩, ⟨fun i g hg => ?_, by simp, ?_, fun _ => .inr ?_⟩, fun j hj => ?_⟩
   ·rcases List.mem_append.1 hg with hg | hg
    ·exact h.gi g hg
    ·simp only [List.mem_singleton] at hg
     subst hg
     exact ⟨hru, hh, trivial, rfl, hal⟩
   ·simp only [quy, List.length_nil, Nat.add_zero]; exact h.rank
   ·rw [List.getElem?_append_left (lt_of_get hg)]; exact hg
   ·simp only [mu, quy, List.length_append, List.length_cons, List.length_nil]; omega
   ·simp only [mu, quy, List.length_append, List.length_cons, List.length_nil]; omega
   ·have hij : s.goals.length = j := by
     have : ((s.goals.length : Nat) : Int) = (j : Int) := hj
     omega
    subst hij
    exact ⟨⟨ru, al, here, [], []⟩, by simp, rfl⟩
/-! ### Steps -/
def LP (VN : List Nat → Bool) (lo n : Nat) (l : List At) : Prop := ∀ a ∈ l, lo ≤ a.1 ∧ a.1 ≤ n ∧ GE VN a.2
theorem qwp (l : List At) (x : At) : (putS l x).length ≤ l.length + 1 := by
 unfold putS
 split <;> simp
theorem LP.put {VN : List Nat → Bool} {lo n : Nat} {l : List At} (h : LP VN lo n l) {x : At} (h1 : lo ≤ x.1) (h2 : x.1 ≤ n) (h3 : GE VN x.2) : LP VN lo n (putS l x) := by
 intro a ha
 unfold putS at ha
 split at ha
 ·exact h a ha
 ·rcases List.mem_append.1 ha with ha | ha
  ·exact h a ha
  ·simp only [List.mem_singleton] at ha
   subst ha; exact ⟨h1, h2, h3⟩
theorem qui {text : List Nat} (h : bsB text = true) (e a : Nat) : bsB ((text.take e).drop a) = true := by
 refine List.all_eq_true.2 fun c hc => List.all_eq_true.1 h c (List.mem_of_mem_take (List.mem_of_mem_drop hc))
section
variable {SR : List Nat → Option (List Nat)} {MK : T → Option (List Bool)} {VN : List Nat → Bool} {RA : List Nat → Option Nat} {text : List Nat}
theorem qqn (ht : bsB text = true) (hn : text.length ≤ 12) {lo : Nat} {a : At} (hlo : lo ≤ a.1) (ha : GE VN a.2) {bs : List Nat} (hb : (decide (bs = []) || VN bs) = true) : ∀ (l : List Nat) (nx : List At), (∀ e ∈ l, a.1 ≤ e ∧ e ≤ text.length) → LP VN lo text.length nx → nx.length + l.length ≤ 1000000000000 → ∃ nx', qnk (mkK SR MK VN RA text) text bs a l nx = some nx' ∧ LP VN lo text.length nx' ∧ nx'.length ≤ nx.length + l.length
 | [], nx, _, h, _ => ⟨nx, rfl, h, by simp⟩
 | e :: r, nx, he, h, hl => by
  have h1 := he e (by simp)
  simp only [List.length_cons] at hl
  obtain ⟨env, hb1, hb2⟩ := qlc ha hb (qui ht e a.1) (by simp; omega)
  have hp := qwp nx (e, env)
  obtain ⟨nx', q1, q2, q3⟩ := qqn ht hn hlo ha hb r (putS nx (e, env)) (fun x hx => he x (List.mem_cons_of_mem _ hx)) (h.put (by simp only; omega) h1.2 hb2) (by omega)
  refine ⟨nx', ?_, q2, by simp only [List.length_cons]; omega⟩
  simp only [qnk]
  rw [if_pos ⟨h1.1, h1.2, by omega⟩]
  have : (mkK SR MK VN RA text).bind = qkt VN := rfl
  rw [this, hb1]
  exact q1
theorem qgp (hn : text.length ≤ 12) {R kind : Nat} {tx bs : List Nat} {ax : T} (hs : qhu SR MK VN RA R (.agg [.int .i64 (.ofNat kind), .str tx, ax, .str bs]) = true) (hk : ¬ kind = 3) {env : Env} (he : GE VN env) {pos : Nat} (hp : pos ≤ text.length) : ∃ r, qio SR MK text (.agg [.int .i64 (.ofNat kind), .str tx, ax, .str bs]) env pos = some r ∧ ∀ p, r = some p → pos ≤ p ∧ p ≤ text.length := by
 simp only [qhu] at hs
 rw [if_neg hk] at hs
 simp only [qio]
 rw [if_neg (by omega)]
 by_cases k1 : kind = 1
 ·rw [if_pos k1] at hs ⊢
  rw [if_pos (by simpa using hs)]
  refine ⟨_, rfl, fun p h => ?_⟩
  split at h
  ·rename_i h1
   cases h
   omega
  ·cases h
 ·rw [if_neg k1] at hs ⊢
  by_cases k2 : kind = 2
  ·rw [if_pos k2] at hs ⊢
   split
   ·exact ⟨_, rfl, fun p h => by cases h⟩
   ·rename_i b hb
    have := lt_of_get hb
    obtain ⟨rows, hr⟩ := Option.isSome_iff_exists.1 hs
    rw [hr]
    refine ⟨_, rfl, fun p h => ?_⟩
    split at h
    ·cases h; omega
    ·cases h
  ·rw [if_neg k2] at hs ⊢
   split at hs
   ·rename_i c r hax
    rw [hax]
    obtain ⟨o, ho⟩ := qsi hs he pos
    simp only [ho]
    cases o with
    | none => exact ⟨_, rfl, fun p h => by cases h⟩
    | some v =>
     refine ⟨_, rfl, fun p h => ?_⟩
     split at h
     ·cases h
     ·cases h; omega
   ·cases hs
theorem oneS_tot (ht : bsB text = true) (hn : text.length ≤ 12) {R : Nat} {y : T} (hs : qhu SR MK VN RA R y = true) {lo : Nat} {a : At} (hlo : lo ≤ a.1) (ha1 : a.1 ≤ text.length) (ha2 : GE VN a.2) {nx : List At} (hN : LP VN lo text.length nx) (hl : nx.length + 13 ≤ 1000000000000) {s : Rs} (hR : RI text.length R s) :
  ∃ o s', oneS (mkK SR MK VN RA text) text y a nx s = some (o, s') ∧ RI text.length R s' ∧ Ext s s' ∧ ∀ nx', o = some nx' → LP VN lo text.length nx' ∧ nx'.length ≤ nx.length + 13 := by
 have hs0 := hs
 unfold qhu at hs
 split at hs
 rotate_left
 ·cases hs
 rename_i kind tx ax bs
 simp only [oneS]
 by_cases k3 : kind = 3
 ·rw [if_pos k3] at hs ⊢
  simp only [Bool.and_eq_true] at hs
  obtain ⟨h1, h2, h3⟩ := hs
  split at h1
  rotate_left
  ·cases h1
  rename_i l hax
  simp only [Bool.and_eq_true, decide_eq_true_eq] at h1
  obtain ⟨h11, h12, h13⟩ := h1
  split at h2
  rotate_left
  ·cases h2
  rename_i ru hru
  have hruR : ru < R := by simpa using h2
  obtain ⟨o, ho, hol⟩ := qik ha2 a.1 l [] h13
  have hargs : (mkK SR MK VN RA text).args ax a.2 a.1 = some o := by
   show qiz MK ax a.2 a.1 = some o
   simp only [qiz, hax]
   rw [if_pos ⟨h11, h12⟩]
   exact ho
  simp only [qun, hargs]
  cases o with
  | none => exact ⟨_, _, rfl, hR, Ext.refl s, fun nx' h => by cases h; exact ⟨hN, by omega⟩⟩
  | some al =>
   have hal := hol al rfl
   simp only [List.length_nil, Nat.zero_add] at hal
   simp only
   rw [if_pos ⟨by omega, by have := hR.len; omega⟩]
   have hra : (mkK SR MK VN RA text).ruleAt tx = some ru := hru
   rw [hra]
   simp only
   obtain ⟨g1, g2, g3⟩ := qhy hR hruR (al := al) (by omega) ha1
   split
   ·exact ⟨_, _, rfl, g1, g2, fun nx' h => by cases h⟩
   ·rename_i i hi
    obtain ⟨g, hg, hfr⟩ := g3 i hi
    rw [hg]
    have hgi := g1.gi g (List.mem_of_getElem? hg)
    have hgl := hgi.len hn
    simp only
    rw [if_pos (by omega)]
    obtain ⟨nx', q1, q2, q3⟩ := qqn (SR := SR) (MK := MK) (RA := RA) ht hn hlo ha2 h3 g.ends nx (fun e he => by have := hgi.asc.mem e he; omega) hN (by omega)
    rw [q1]
    exact ⟨_, _, rfl, g1, g2, fun nx2 h => by cases h; exact ⟨q2, by omega⟩⟩
 ·rw [if_neg k3]
  obtain ⟨r, hr, hrp⟩ := qgp hn hs0 k3 ha2 ha1
  have hpl : (mkK SR MK VN RA text).plain (.agg [.int .i64 (.ofNat kind), .str tx, ax, .str bs]) a.2 a.1 = some r := hr
  rw [hpl]
  cases r with
  | none => exact ⟨_, _, rfl, hR, Ext.refl s, fun nx' h => by cases h; exact ⟨hN, by omega⟩⟩
  | some p =>
   have hp := hrp p rfl
   simp only
   rw [if_pos (by omega)]
   refine ⟨_, _, rfl, hR, Ext.refl s, fun nx' h => ?_⟩
   cases h
   have := qwp nx (p, a.2)
   exact ⟨hN.put (by simp only; omega) hp.2 ha2, by omega⟩
theorem qqs (ht : bsB text = true) (hn : text.length ≤ 12) {R : Nat} {y : T} (hs : qhu SR MK VN RA R y = true) {lo : Nat} : ∀ (l : List At) (nx : List At) (s : Rs), LP VN lo text.length l → LP VN lo text.length nx → nx.length + 13 * l.length ≤ 1000000000000 → RI text.length R s →
  ∃ o s', qds (mkK SR MK VN RA text) text y l nx s = some (o, s') ∧ RI text.length R s' ∧ Ext s s' ∧ ∀ nx', o = some nx' → LP VN lo text.length nx' ∧ nx'.length ≤ nx.length + 13 * l.length
 | [], nx, s, hL, hN, hl, hR => ⟨_, _, rfl, hR, Ext.refl s, fun nx' h => by cases h; exact ⟨hN, by simp⟩⟩
 | a :: r, nx, s, hL, hN, hl, hR => by
  simp only [List.length_cons] at hl
  obtain ⟨a1, a2, a3⟩ := hL a (by simp)
  obtain ⟨o, s1, q1, q2, q3, q4⟩ := oneS_tot ht hn hs a1 a2 a3 hN (by omega) hR
  simp only [qds, q1]
  cases o with
  | none => exact ⟨_, _, rfl, q2, q3, fun nx' h => by cases h⟩
  | some nx1 =>
   obtain ⟨n1, n2⟩ := q4 nx1 rfl
   obtain ⟨o2, s2, p1, p2, p3, p4⟩ := qqs ht hn hs r nx1 s1 (fun b hb => hL b (List.mem_cons_of_mem _ hb)) n1 (by omega) q2
   refine ⟨o2, s2, p1, p2, q3.trans p3, fun nx' h => ?_⟩
   obtain ⟨m1, m2⟩ := p4 nx' h
   exact ⟨m1, by simp only [List.length_cons]; omega⟩
theorem qxh (ht : bsB text = true) (hn : text.length ≤ 12) {R : Nat} {lo : Nat} : ∀ (syms : List T) (k : Nat) (l : List At) (s : Rs), syms.all (qhu SR MK VN RA R) = true → k + syms.length ≤ 10 → l.length ≤ 13 ^ k → LP VN lo text.length l → RI text.length R s →
  ∃ l' s', altS (mkK SR MK VN RA text) text syms l s = some (l', s') ∧ RI text.length R s' ∧ Ext s s' ∧ LP VN lo text.length l' ∧ l'.length ≤ 13 ^ 10
 | [], k, l, s, _, hk, hl, hL, hR => ⟨_, _, rfl, hR, Ext.refl s, hL, Nat.le_trans hl (Nat.pow_le_pow_right (by omega) (by simpa using hk))⟩
 | x :: r, k, l, s, ha, hk, hl, hL, hR => by
  simp only [List.all_cons, Bool.and_eq_true] at ha
  simp only [List.length_cons] at hk
  have hpow : 13 ^ (k + 1) ≤ 13 ^ 10 := Nat.pow_le_pow_right (by omega) (by omega)
  have hpe : 13 ^ (k + 1) = 13 ^ k * 13 := Nat.pow_succ 13 k
  have h10 : (13 : Nat) ^ 10 = 137858491849 := by decide
  obtain ⟨o, s1, q1, q2, q3, q4⟩ := qqs ht hn ha.1 l [] s hL (fun a ha => by cases ha) (by simp only [List.length_nil]; omega) hR
  simp only [altS]
  rw [if_neg (by omega), q1]
  cases o with
  | none => exact ⟨[], s1, rfl, q2, q3, (fun a ha => by cases ha), by simp⟩
  | some nx =>
   obtain ⟨n1, n2⟩ := q4 nx rfl
   simp only [List.length_nil] at n2
   obtain ⟨l', s2, p1, p2, p3, p4, p5⟩ := qxh ht hn r (k + 1) nx s1 ha.2 (by omega) (by omega) n1 q2
   exact ⟨l', s2, p1, p2, q3.trans p3, p4, p5⟩
end

/-! ### Looks -/
theorem qzd {SR : List Nat → Option (List Nat)} {MK : T → Option (List Bool)} {VN : List Nat → Bool} {RA : List Nat → Option Nat} {text : List Nat} (ht : bsB text = true) (hn : text.length ≤ 12) {R : Nat} {ps : T} {pl : List (List Nat)} (hps : qmh ps = some pl) (hpl : pl.length ≤ 1000 ∧ pl.all VN = true) {g : Gl} (hg : GI text.length R g) {x : T} (hx : qpc SR MK VN RA R x = true) {f : List Bool} (hf : f.length = text.length + 1) (hfl : ∀ p, f[p]? = some true → g.from_ ≤ p) {s : Rs} (hR : RI text.length R s) :
  ∃ f' s', qlf (mkK SR MK VN RA text) text ps g x f s = some (f', s') ∧ RI text.length R s' ∧ Ext s s' ∧ f'.length = text.length + 1 ∧ ∀ p, f'[p]? = some true → g.from_ ≤ p := by
 unfold qpc at hx
 split at hx
 rotate_left
 ·cases hx
 rename_i xs
 split at hx
 rotate_left
 ·cases hx
 rename_i syms hsy
 simp only [Bool.and_eq_true, decide_eq_true_eq] at hx
 simp only [qlf, hsy]
 rw [if_pos (by omega)]
 obtain ⟨env, e1, e2⟩ := qlk (VN := VN) pl g.args [] hpl.2 ⟨rfl, by simp⟩
 have he : (mkK SR MK VN RA text).env0 ps g.args = some env := by
  show qpj VN ps g.args = some env
  simp only [qpj, hps]
  rw [if_pos ⟨hpl.1, hg.args⟩]
  exact e1
 rw [he]
 simp only
 obtain ⟨l, s', q1, q2, q3, q4, q5⟩ := qxh (SR := SR) (MK := MK) (VN := VN) (RA := RA) ht hn (lo := g.from_) syms 0 [(g.from_, env)] s hx.2 (by omega) (by simp) (fun a ha => by
  simp only [List.mem_singleton] at ha
  subst ha
  exact ⟨Nat.le_refl _, hg.fr, e2⟩) hR
 rw [q1]
 have h10 : (13 : Nat) ^ 10 = 137858491849 := by decide
 simp only
 rw [if_pos (by omega)]
 have key : ∀ (l : List At) (f : List Bool), LP VN g.from_ text.length l → f.length = text.length + 1 → (∀ p, f[p]? = some true → g.from_ ≤ p) → ∃ f', qnj l f = some f' ∧ f'.length = text.length + 1 ∧ ∀ p, f'[p]? = some true → g.from_ ≤ p := by
  intro l
  induction l with
  | nil => intro f _ h1 h2; exact ⟨f, rfl, h1, h2⟩
  | cons a r ih =>
   intro f hL h1 h2
   obtain ⟨a1, a2, _⟩ := hL a (by simp)
   simp only [qnj]
   rw [if_pos (by omega)]
   refine ih _ (fun b hb => hL b (List.mem_cons_of_mem _ hb)) (by simpa using h1) (fun p hp => ?_)
   by_cases h : a.1 = p
   ·omega
   ·rw [List.getElem?_set_ne h] at hp
    exact h2 p hp
 obtain ⟨f', m1, m2, m3⟩ := key l f q4 hf hfl
 rw [m1]
 exact ⟨f', s', rfl, q2, q3, m2, m3⟩
theorem qjn {SR : List Nat → Option (List Nat)} {MK : T → Option (List Bool)} {VN : List Nat → Bool} {RA : List Nat → Option Nat} {text : List Nat} (ht : bsB text = true) (hn : text.length ≤ 12) {R : Nat} {ps : T} {pl : List (List Nat)} (hps : qmh ps = some pl) (hpl : pl.length ≤ 1000 ∧ pl.all VN = true) {g : Gl} (hg : GI text.length R g) : ∀ (al : List T) (f : List Bool) (s : Rs), al.all (qpc SR MK VN RA R) = true → f.length = text.length + 1 → (∀ p, f[p]? = some true → g.from_ ≤ p) → RI text.length R s →
  ∃ f' s', qfb (mkK SR MK VN RA text) text ps g al f s = some (f', s') ∧ RI text.length R s' ∧ Ext s s' ∧ f'.length = text.length + 1 ∧ ∀ p, f'[p]? = some true → g.from_ ≤ p
 | [], f, s, _, hf, hfl, hR => ⟨f, s, rfl, hR, Ext.refl s, hf, hfl⟩
 | x :: r, f, s, ha, hf, hfl, hR => by
  simp only [List.all_cons, Bool.and_eq_true] at ha
  obtain ⟨f1, s1, q1, q2, q3, q4, q5⟩ := qzd ht hn hps hpl hg ha.1 hf hfl hR
  obtain ⟨f2, s2, p1, p2, p3, p4, p5⟩ := qjn ht hn hps hpl hg r f1 s1 ha.2 q4 q5 q2
  refine ⟨f2, s2, ?_, p2, q3.trans p3, p4, p5⟩
  simp only [qfb, q1]
  exact p1
/-- the chart grows -/
structure Ex2 (s s' : Rs) : Prop where
 len : s.goals.length ≤ s'.goals.length
 mu : mu s ≤ mu s'
 fresh : s'.fresh = true → s.fresh = true ∨ X.mu s < X.mu s'
theorem Ex2.refl (s : Rs) : Ex2 s s := ⟨Nat.le_refl _, Nat.le_refl _, fun h => .inl h⟩
theorem Ex2.trans {a b c : Rs} (h1 : Ex2 a b) (h2 : Ex2 b c) : Ex2 a c := by
 refine ⟨Nat.le_trans h1.len h2.len, Nat.le_trans h1.mu h2.mu, fun h => ?_⟩
 have m1 := h1.mu
 have m2 := h2.mu
 rcases h2.fresh h with h | h
 ·rcases h1.fresh h with h | h
  ·exact .inl h
  ·exact .inr (by omega)
 ·exact .inr (by omega)
theorem Ext.ex2 {a b : Rs} (h : Ext a b) : Ex2 a b := ⟨h.len, h.mu, h.fresh⟩
theorem qve {n R : Nat} (hn : n ≤ 12) {s : Rs} (h : RI n R s) {i : Nat} {g : Gl} (hg : s.goals[i]? = some g) {e : Nat} (he1 : g.from_ ≤ e) (he2 : e ≤ n) (hne : e ∉ g.ends) :
  ∃ s' g', addS s i e = some s' ∧ RI n R s' ∧ Ex2 s s' ∧ s'.goals[i]? = some g' ∧ g'.from_ = g.from_ ∧ ∀ x ∈ g'.ends, x ∈ g.ends ∨ x = e := by
 have hi := h.gi g (List.mem_of_getElem? hg)
 have hl := hi.len hn
 have hm := h.mu hn
 obtain ⟨i1, i2, i3, i4⟩ := Asc1.ins (e := e) (k0 := s.rank) hi.asc hi.rk hne he1 he2
 have ht := qzy (g' := { g with ends := qdu g e, ranks := qcs g e s.rank }) hg
 have hil := lt_of_get hg
 simp only [addS, hg]
 rw [if_pos ⟨hi.rk.symm, by omega, by omega⟩]
 have el : (qdu g e).length = g.ends.length + 1 := i2
 simp only [el] at ht
 refine ⟨_, { g with ends := qdu g e, ranks := qcs g e s.rank }, rfl, ⟨by simp only [List.length_set]; exact h.len, fun g' hg' => ?_, ?_⟩, ⟨by simp, ?_, fun _ => .inr ?_⟩, List.getElem?_set_self hil, rfl, i4⟩
 ·rcases List.mem_or_eq_of_mem_set hg' with q | rfl
  ·exact h.gi g' q
  ·exact ⟨hi.rule, hi.fr, i1, by
    show (qcs g e s.rank).length = (qdu g e).length
    rw [el]; exact i3, hi.args⟩
 ·have := h.rank
  simp only
  omega
 ·simp only [mu, List.length_set]; omega
 ·simp only [mu, List.length_set]; omega
theorem qme {n R : Nat} (hn : n ≤ 12) {i : Nat} {ends : List Nat} {fr : Nat} : ∀ (f : List Bool) (p : Nat) (s : Rs) (g : Gl), RI n R s → s.goals[i]? = some g → g.from_ = fr → (∀ k, f[k]? = some true → fr ≤ p + k) → p + f.length = n + 1 → (∀ x ∈ g.ends, x ∈ ends ∨ x < p) → ∃ s', qgd i ends f p s = some s' ∧ RI n R s' ∧ Ex2 s s'
 | [], p, s, g, h, _, _, _, _, _ => ⟨s, rfl, h, Ex2.refl s⟩
 | b :: r, p, s, g, h, hg, hfr, hf, hp, hx => by
  simp only [List.length_cons] at hp
  have hf' : ∀ k, r[k]? = some true → fr ≤ (p + 1) + k := fun k hk => by
   have := hf (k + 1) (by simpa using hk)
   omega
  simp only [qgd]
  by_cases c : (b && !ends.contains p) = true
  ·rw [if_pos c]
   simp only [Bool.and_eq_true, Bool.not_eq_true', ] at c
   obtain ⟨rfl, c2⟩ := c
   have hne : p ∉ g.ends := fun hm => by
    rcases hx p hm with q | q
    ·have : ends.contains p = true := by simpa using q
     rw [this] at c2; cases c2
    ·omega
   obtain ⟨s1, g1, q1, q2, q3, q4, q5, q6⟩ := qve hn h hg (e := p) (by have := hf 0 rfl; omega) (by omega) hne
   rw [q1]
   obtain ⟨s2, p1, p2, p3⟩ := qme hn r (p + 1) s1 g1 q2 q4 (by omega) hf' (by omega) (fun x hx' => by
    rcases q6 x hx' with q | q
    ·rcases hx x q with z | z
     ·exact .inl z
     ·exact .inr (by omega)
    ·exact .inr (by omega))
   exact ⟨s2, p1, p2, q3.trans p3⟩
  ·rw [if_neg c]
   exact qme hn r (p + 1) s g h hg hfr hf' (by omega) (fun x hx' => by
    rcases hx x hx' with z | z
    ·exact .inl z
    ·exact .inr (by omega))
theorem qmf {SR : List Nat → Option (List Nat)} {MK : T → Option (List Bool)} {VN : List Nat → Bool} {RA : List Nat → Option Nat} {rules : List T} (hG : grOk SR MK VN RA rules = true) {text : List Nat} (ht : bsB text = true) (hn : text.length ≤ 12) {s : Rs} (hR : RI text.length rules.length s) {i : Nat} (hi : i < s.goals.length) :
  ∃ s', qpg (mkK SR MK VN RA text) rules text s i = some s' ∧ RI text.length rules.length s' ∧ Ex2 s s' := by
 obtain ⟨g, hg⟩ := get_of_lt hi
 have hgi := hR.gi g (List.mem_of_getElem? hg)
 obtain ⟨x, hx⟩ := get_of_lt hgi.rule
 have hxo : qnw SR MK VN RA rules.length x = true := List.all_eq_true.1 hG x (List.mem_of_getElem? hx)
 unfold qnw at hxo
 split at hxo
 rotate_left
 ·cases hxo
 rename_i nm ps az
 simp only [Bool.and_eq_true] at hxo
 obtain ⟨h1, h2⟩ := hxo
 split at h1
 rotate_left
 ·cases h1
 rename_i pl hpl
 simp only [Bool.and_eq_true, decide_eq_true_eq] at h1
 split at h2
 rotate_left
 ·cases h2
 rename_i al hal
 simp only [Bool.and_eq_true, decide_eq_true_eq] at h2
 have hl := hgi.len hn
 simp only [qpg, hg, hx, hal]
 rw [if_pos ⟨by omega, by omega, by omega⟩]
 obtain ⟨f1, s1, q1, q2, q3, q4, q5⟩ := qjn ht hn hpl h1 hgi al (List.replicate (text.length + 1) false) s h2.2 (by simp) (fun p hp => by
  rw [List.getElem?_replicate] at hp
  split at hp <;> cases hp) hR
 rw [q1]
 obtain ⟨s2, p1, p2, p3⟩ := qme hn (i := i) (ends := g.ends) (fr := g.from_) f1 0 s1 g q2 (q3.keep i g hg) rfl (fun k hk => by have := q5 k hk; omega) (by omega) (fun x hx' => .inl hx')
 exact ⟨s2, p1, p2, q3.ex2.trans p3⟩
theorem qlv {SR : List Nat → Option (List Nat)} {MK : T → Option (List Bool)} {VN : List Nat → Bool} {RA : List Nat → Option Nat} {rules : List T} (hG : grOk SR MK VN RA rules = true) {text : List Nat} (ht : bsB text = true) (hn : text.length ≤ 12) : ∀ (f i : Nat) (s : Rs), RI text.length rules.length s → 301 ≤ f + i → i ≤ s.goals.length → ∃ s', qkq (mkK SR MK VN RA text) rules text f i s = some s' ∧ RI text.length rules.length s' ∧ Ex2 s s'
 | 0, i, s, hR, hf, hi => by have := hR.len; omega
 | f + 1, i, s, hR, hf, hi => by
  simp only [qkq]
  by_cases c : i < s.goals.length ∧ s.full = false
  ·rw [if_pos c, if_pos (by have := hR.len; omega)]
   obtain ⟨s1, q1, q2, q3⟩ := qmf hG ht hn hR c.1
   rw [q1]
   obtain ⟨s2, p1, p2, p3⟩ := qlv hG ht hn f (i + 1) s1 q2 (by omega) (by have := q3.len; omega)
   exact ⟨s2, p1, p2, q3.trans p3⟩
  ·rw [if_neg c]
   exact ⟨s, rfl, hR, Ex2.refl s⟩
theorem qgi {SR : List Nat → Option (List Nat)} {MK : T → Option (List Bool)} {VN : List Nat → Bool} {RA : List Nat → Option Nat} {rules : List T} (hG : grOk SR MK VN RA rules = true) {text : List Nat} (ht : bsB text = true) (hn : text.length ≤ 12) {f : Nat} (hf : 301 ≤ f) : ∀ (n : Nat) (s : Rs), RI text.length rules.length s → 4202 ≤ n + mu s ∨ (1 ≤ n ∧ s.fresh = false) → ∃ s', qdq (mkK SR MK VN RA text) rules text f n s = some s' ∧ RI text.length rules.length s' ∧ s.goals.length ≤ s'.goals.length
 | 0, s, hR, h => by
  have := (hR.mu hn).1
  omega
 | n + 1, s, hR, h => by
  simp only [qdq]
  by_cases c : s.fresh = true ∧ s.full = false
  ·rw [if_pos c]
   have hm : 4202 ≤ n + 1 + mu s := by
    rcases h with h | h
    ·exact h
    ·rw [c.1] at h; cases h.2
   have hR0 : RI text.length rules.length { s with fresh := false } := ⟨hR.len, hR.gi, hR.rank⟩
   obtain ⟨s1, q1, q2, q3⟩ := qlv hG ht hn f 0 { s with fresh := false } hR0 (by omega) (Nat.zero_le _)
   rw [q1]
   have hmm : mu { s with fresh := false } = mu s := rfl
   have hl := q3.len
   have hmu := (hR.mu hn).1
   obtain ⟨s2, p1, p2, p3⟩ := qgi hG ht hn hf n s1 q2 (by
    cases hfr : s1.fresh with
    | false => exact .inr ⟨by omega, rfl⟩
    | true =>
     rcases q3.fresh hfr with z | z
     ·cases z
     ·rw [hmm] at z
      exact .inl (by omega))
   exact ⟨s2, p1, p2, by simp only at hl; omega⟩
  ·rw [if_neg c]
   exact ⟨s, rfl, hR, Nat.le_refl _⟩
/-- A run comes to its end. -/
theorem run_tot {SR : List Nat → Option (List Nat)} {MK : T → Option (List Bool)} {VN : List Nat → Bool} {RA : List Nat → Option Nat} {rules : List T} (hG : grOk SR MK VN RA rules = true) {text : List Nat} (ht : bsB text = true) (hn : text.length ≤ 12) {ru : Nat} (hru : ru < rules.length) {al : List Nat} (hal : al.length ≤ 1000) {fr : Nat} (hfr : fr ≤ text.length) :
  ∃ s', qdq (mkK SR MK VN RA text) rules text 5000 5000 ⟨[⟨ru, al, fr, [], []⟩], 0, true, false⟩ = some s' ∧ outS s' ≠ some [] ∧ ∀ e ∈ qiu (outS s'), e ≤ text.length ∧ (qiu (outS s')).length ≤ 13 := by
 have hR : RI text.length rules.length ⟨[⟨ru, al, fr, [], []⟩], 0, true, false⟩ := by
  refine ⟨by simp, fun g hg => ?_, by simp [tot]⟩
  simp only [List.mem_singleton] at hg
  subst hg
  exact ⟨hru, hfr, trivial, rfl, hal⟩
 obtain ⟨s', h1, h2, h3⟩ := qgi hG ht hn (f := 5000) (by omega) 5000 _ hR (.inl (by simp [mu, tot]))
 refine ⟨s', h1, ?_, ?_⟩
 ·unfold outS
  split
  ·simp
  ·intro e
   simp only [Option.some.injEq] at e
   rw [e] at h3
   simp at h3
 ·intro e he
  unfold outS at he ⊢
  split at he
  ·simp [qiu] at he
  ·rename_i hfull
   rw [if_neg hfull]
   cases hgs : s'.goals with
   | nil => rw [hgs] at he; simp [qiu] at he
   | cons g gs =>
    rw [hgs] at he
    have hgi := h2.gi g (by rw [hgs]; simp)
    exact ⟨(hgi.asc.mem e he).2, hgi.len hn⟩
end X
namespace X
/-! ### Calls have as many args as the rule takes -/
def symAr (RA : List Nat → Option Nat) (rules : List T) (y : T) : Bool := match y with
 | .agg [.int .i64 (.ofNat kind), .str tx, ax, .str _] => if kind = 3 then (match qce ax, RA tx with
   | some l, some ru => match rules[ru]? with
    | some (.agg [_, ps, _]) => match qce ps with
     | some pl => decide (pl.length = l.length)
     | none => false
    | _ => false
   | _, _ => false) else true
 | _ => false
def altAr (RA : List Nat → Option Nat) (rules : List T) (y : T) : Bool := match y with
 | .agg [xs] => match qce xs with
  | some syms => syms.all (symAr RA rules)
  | none => false
 | _ => false
def arOk (RA : List Nat → Option Nat) (rules : List T) : Bool := rules.all fun x => match x with
 | .agg [_, _, az] => match qce az with
  | some al => al.all (altAr RA rules)
  | none => false
 | _ => false
/-- A grammar of which all that the engine asks is known. -/
structure GramOk (SR : List Nat → Option (List Nat)) (MK : T → Option (List Bool)) (VN : List Nat → Bool) (RA : List Nat → Option Nat) (n0 : List Nat) (ps0 az0 : T) (gr : List T) : Prop where
 sets : qoh SR
 marks : MkOk MK
 names : NmOk VN
 rules : RaOk RA (.list (.agg [.str n0, ps0, az0] :: gr))
 gok : ∀ σ, LD S 29 [.t (.agg [.list (.agg [.str n0, ps0, az0] :: gr)])] σ = some (.t (B true), σ)
 right : grOk SR MK VN RA (.agg [.str n0, ps0, az0] :: gr) = true
 ar : arOk RA (.agg [.str n0, ps0, az0] :: gr) = true
 few : (T.agg [.str n0, ps0, az0] :: gr).length ≤ 1000
 first : RA n0 = some 0
 none_ : qce ps0 = some []
end X
namespace X
attribute [simp] lenV idxV
/-! ### Draws -/
theorem qoz {α : Type} : ∀ {l : List α} {i : Nat} {a : α}, l[i]? = some a → l.set i a = l
 | x :: r, 0, a, h => by simp at h; simp [h]
 | x :: r, i + 1, a, h => by simp at h; simp [qoz h]
 | [], _, _, h => by simp at h
/-- Trees that are a slice of bytes. -/
def BytesT (x : T) (l : List Int) : Prop := (x = .nils ∧ l = []) ∨ x = .list (l.map fun b => .agg [.int .u8 b])
theorem wrap_u8 (n : Nat) (h : n ≤ 255) : IntKind.i64.wrap (n : Int) = n := IntWalk.i64_in _ (by omega)
@[simp] theorem and255s (n : Nat) : IntKind.i64.wrap ((n &&& 255 % 2 ^ IntKind.i64.bits : Nat) : Int) = ((n % 256 : Nat) : Int) := by
 have e : 255 % 2 ^ IntKind.i64.bits = 2 ^ 8 - 1 := by decide
 rw [e, Nat.and_two_pow_sub_one_eq_mod]
 exact wrap_u8 _ (by omega)
/-- The cursor in memory. -/
abbrev Cur (x : T) (i h : Int) : V.Obj := .cells [.t x, .t (I i), .t (I h)] 0 0
def CurO (x : T) (l : List Int) (o : V.Obj) : Prop := ∃ i h, o = Cur x i h ∧ 0 ≤ i ∧ i ≤ l.length
def CurAt (σ : Store) (c : Nat) (x : T) (l : List Int) : Prop := ∃ o, σ[c]? = some o ∧ CurO x l o
theorem CurAt.set {σ : Store} {c : Nat} {x : T} {l : List Int} (h : CurAt σ c x l) {o : V.Obj} (ho : CurO x l o) : CurAt (σ.set c o) c x l := by
 obtain ⟨o', h1, _⟩ := h
 exact ⟨o, List.getElem?_set_self (lt_of_get h1), ho⟩
theorem CurAt.lt {σ : Store} {c : Nat} {x : T} {l : List Int} (h : CurAt σ c x l) : c < σ.length := by
 obtain ⟨o', h1, _⟩ := h
 exact lt_of_get h1
theorem byte_ld {x : T} {l : List Int} (hx : BytesT x l) (hl : (l.length : Int) ≤ 1048576) {σ : Store} {c : Nat} (hC : CurAt σ c x l) :
  ∃ r o, LD S 54 [.ptr c 0 0 3] σ = some (.t (I r), σ.set c o) ∧ 0 ≤ r ∧ r ≤ 255 ∧ CurO x l o := by
 obtain ⟨_, hc, i, h, rfl, h0, h1⟩ := hC
 have lc := lt_of_get hc
 have hs : ∀ o, (σ.set c o)[c]? = some o := fun o => List.getElem?_set_self lc
 suffices hh : ∃ v σ', LV S 54 [.ptr c 0 0 3] σ = some (v, σ') ∧ ∃ r o, v = .t (I r) ∧ σ' = σ.set c o ∧ 0 ≤ r ∧ r ≤ 255 ∧ CurO x l o by
  obtain ⟨v, σ', q1, r, o, rfl, rfl, q2⟩ := hh
  exact ⟨r, o, by rw [qbt (A := A54) rfl rfl rfl]; exact q1, q2⟩
 rcases hx with ⟨rfl, rfl⟩ | rfl
 ·refine qaq (A := A54) rfl Tryz.func54 rfl ?_
  refine wR rfl (by simp; rfl) ?_
  refine wR rfl (by simp [hc, qac]; rfl) ?_
  refine wR rfl (by simp [hs]; rfl) ?_
  refine wR rfl (by simp [hs]; rfl) ?_
  refine wF rfl (by simp [show ¬ i < 0 by omega]) ?_
  refine wK ?_
  refine wR rfl (by simp; rfl) ?_
  try simp only [tq]
  refine wX ?_
  exact ⟨trivial, _, rfl, _, _, rfl, rfl, by omega, by omega, ⟨_, _, rfl, by omega, by omega⟩⟩
 ·refine qaq (A := A54) rfl Tryz.func54 rfl ?_
  refine wR rfl (by simp; rfl) ?_
  refine wR rfl (by simp [hc, qac]; rfl) ?_
  refine wR rfl (by simp [hs]; rfl) ?_
  refine wR rfl (by simp [hs]; rfl) ?_
  by_cases hi : i < l.length
  ·refine wT rfl (by simp [hi]) ?_
   obtain ⟨b, hb⟩ : ∃ b, l[i.toNat]? = some b := ⟨l[i.toNat]'(by omega), List.getElem?_eq_getElem _⟩
   refine wR rfl (by simp [hs, hb, h0, qkl]; rfl) ?_
   refine wR rfl (by simp [hs, qac, List.set_set]; rfl) ?_
   refine wR rfl (by simp; rfl) ?_
   try simp only [tq]
   refine wX ?_
   refine ⟨trivial, _, rfl, _, _, rfl, rfl, by omega, by omega, ⟨_, _, rfl, ?_, ?_⟩⟩
   ·rw [IntWalk.i64_in _ (by omega)]; omega
   ·rw [IntWalk.i64_in _ (by omega)]; omega
  ·refine wF rfl (by simp [hi]) ?_
   refine wK ?_
   refine wR rfl (by simp; rfl) ?_
   try simp only [tq]
   refine wX ?_
   exact ⟨trivial, _, rfl, _, _, rfl, rfl, by omega, by omega, ⟨_, _, rfl, by omega, by omega⟩⟩
/-- a number below another one -/
theorem qek {x : T} {l : List Int} (hx : BytesT x l) (hl : (l.length : Int) ≤ 1048576) {σ : Store} {c : Nat} (hC : CurAt σ c x l) {n : Nat} (hn : 0 < n) (hn2 : n ≤ 256) :
  ∃ (r : Nat) (o : V.Obj), LD S 33 [.ptr c 0 0 3, .t (I n)] σ = some (.t (I r), σ.set c o) ∧ r < n ∧ CurO x l o := by
 obtain ⟨r, o, b1, b2, b3, b4⟩ := byte_ld hx hl hC
 obtain ⟨m, hr, hlt⟩ : ∃ m : Nat, r.tmod n = (m : Int) ∧ m < n := by
  refine ⟨(r % n).toNat, ?_, ?_⟩
  ·rw [Int.tmod_eq_emod_of_nonneg b2]
   have := Int.emod_nonneg r (show (n : Int) ≠ 0 by omega)
   omega
  ·have := Int.emod_lt_of_pos r (show (0 : Int) < n by omega)
   have := Int.emod_nonneg r (show (n : Int) ≠ 0 by omega)
   omega
 suffices hh : ∃ v σ', LV S 33 [.ptr c 0 0 3, .t (I n)] σ = some (v, σ') ∧ v = .t (I m) ∧ σ' = σ.set c o by
  obtain ⟨v, σ', q1, rfl, rfl⟩ := hh
  exact ⟨m, o, by rw [qbt (A := A33) rfl rfl rfl]; exact q1, hlt, b4⟩
 refine qaq (A := A33) rfl Tryz.func33 rfl ?_
 refine wR rfl (by simp; rfl) ?_
 refine wR rfl (by simp; rfl) ?_
 refine wF rfl (by simp [show ¬ (n : Int) ≤ 0 by omega, show ¬ n = 0 by omega]) ?_
 refine wK ?_
 refine wR rfl (by simp; rfl) ?_
 refine wT rfl (by simp [show (n : Int) ≤ 256 by omega]) ?_
 refine wR rfl (by simp [b1, hr, show ¬ n = 0 by omega]; rfl) ?_
 try simp only [tq]
 refine wX ?_
 exact ⟨trivial, _, rfl, rfl, rfl⟩

theorem new_lv {x : T} {l : List Int} (hx : BytesT x l) (hl : (l.length : Int) ≤ 1048576) (σ : Store) : ∃ h, LD S 21 [.t x] σ = some (.ptr σ.length 0 0 3, σ ++ [Cur x 0 h]) := by
 suffices hh : ∃ v σ', LV S 21 [.t x] σ = some (v, σ') ∧ ∃ h, v = .ptr σ.length 0 0 3 ∧ σ' = σ ++ [Cur x 0 h] by
  obtain ⟨v, σ', q1, h, rfl, rfl⟩ := hh
  exact ⟨h, by rw [qbt (A := A21) rfl rfl rfl]; exact q1⟩
 rcases hx with ⟨rfl, rfl⟩ | rfl
 ·refine qaq (A := A21) rfl Tryz.func21 rfl ?_
  refine wR rfl (by simp; rfl) ?_
  refine wR rfl (by simp; rfl) ?_
  refine wR rfl (by simp; rfl) ?_
  refine wB rfl ?_
  try simp only [tq]
  refine qay ?_
  refine wR rfl (by simp; rfl) ?_
  refine wF rfl (by simp) ?_
  repeat apply qaw
  refine qal ?_
  try simp only [tq, if_true]
  refine wR rfl (by simp [qbz, qar, qao]; rfl) ?_
  try simp only [tq]
  refine wX ?_
  exact ⟨trivial, _, rfl, _, rfl, rfl⟩
 ·refine qaq (A := A21) rfl Tryz.func21 rfl ?_
  refine wR rfl (by simp; rfl) ?_
  refine wR rfl (by simp; rfl) ?_
  refine wR rfl (by simp; rfl) ?_
  refine wB rfl ?_
  try simp only [tq]
  refine qat (I := fun m st τ => ∃ (k : Nat) (h : Int), m = l.length - k ∧ k ≤ l.length ∧ st.vars = [(0, .t (.list (l.map fun b => .agg [.int .u8 b]))), (2, .t .nilp), (3, .t (I h)), (4, .t (I k))] ∧ τ = σ) ?_ l.length _ _ ⟨0, _, rfl, Nat.zero_le _, rfl, rfl⟩
  rintro m ⟨vars, scr⟩ τ ⟨k, h, rfl, hk, hv, rfl⟩
  simp only at hv
  subst hv
  by_cases h1 : k < l.length
  ·by_cases h2 : (k : Int) < 4000
   ·refine wR rfl (by simp [h1, h2]; rfl) ?_
    refine wT rfl (by simp) ?_
    refine wK ?_
    refine wB rfl ?_
    obtain ⟨b, hb⟩ : ∃ b, l[k]? = some b := ⟨l[k]'(by omega), List.getElem?_eq_getElem _⟩
    refine wR rfl (by simp [hb, h1, qkl]; rfl) ?_
    refine wR rfl (by simp [IntWalk.i64_in ((k : Int) + 1) (by omega)]; rfl) ?_
    try simp only [tq]
    exact ⟨l.length - (k + 1), by omega, k + 1, _, rfl, h1, rfl, by simp⟩
   ·refine wR rfl (by simp [h1, h2]; rfl) ?_
    refine wF rfl (by simp) ?_
    repeat apply qaw
    refine qal ?_
    try simp only [tq, if_true]
    refine wR rfl (by simp [qbz, qar, qao]; rfl) ?_
    try simp only [tq]
    refine wX ?_
    exact ⟨trivial, _, rfl, _, rfl, rfl⟩
  ·refine wR rfl (by simp [h1]; rfl) ?_
   refine wF rfl (by simp) ?_
   repeat apply qaw
   refine qal ?_
   try simp only [tq, if_true]
   refine wR rfl (by simp [qbz, qar, qao]; rfl) ?_
   try simp only [tq]
   refine wX ?_
   exact ⟨trivial, _, rfl, _, rfl, rfl⟩
/-- one of some texts -/
theorem pick_ld {x : T} {l : List Int} (hx : BytesT x l) (hl : (l.length : Int) ≤ 1048576) {σ : Store} {c : Nat} (hC : CurAt σ c x l) {L : List (List Nat)} (h0 : 0 < L.length) (h1 : L.length ≤ 256) :
  ∃ s o, LD S 97 [.ptr c 0 0 3, .t (.list (L.map fun s => .agg [.str s]))] σ = some (.t (.str s), σ.set c o) ∧ s ∈ L ∧ CurO x l o := by
 obtain ⟨r, o, b1, b2, b3⟩ := qek hx hl hC h0 h1
 obtain ⟨s, hs⟩ := get_of_lt b2
 suffices hh : ∃ v σ', LV S 97 [.ptr c 0 0 3, .t (.list (L.map fun s => .agg [.str s]))] σ = some (v, σ') ∧ v = .t (.str s) ∧ σ' = σ.set c o by
  obtain ⟨v, σ', q1, rfl, rfl⟩ := hh
  exact ⟨s, o, by rw [qbt (A := A97) rfl rfl rfl]; exact q1, List.mem_of_getElem? hs, b3⟩
 refine qaq (A := A97) rfl Tryz.func97 rfl ?_
 refine wR rfl (by simp; rfl) ?_
 refine wR rfl (by simp [b1, hs]; rfl) ?_
 try simp only [tq]
 refine wX ?_
 exact ⟨trivial, _, rfl, rfl, rfl⟩
theorem once_ld {x : T} {l : List Int} (hx : BytesT x l) (hl : (l.length : Int) ≤ 1048576) {σ : Store} {c : Nat} (hC : CurAt σ c x l) {n : Nat} (hn : 0 < n) (hn2 : n ≤ 256) :
  ∃ b o, LD S 58 [.ptr c 0 0 3, .t (I n)] σ = some (.t (B b), σ.set c o) ∧ CurO x l o := by
 obtain ⟨r, o, b1, b2, b3⟩ := qek hx hl hC hn hn2
 suffices hh : ∃ v σ', LV S 58 [.ptr c 0 0 3, .t (I n)] σ = some (v, σ') ∧ v = .t (B ((r : Int) == 0)) ∧ σ' = σ.set c o by
  obtain ⟨v, σ', q1, rfl, rfl⟩ := hh
  exact ⟨_, o, by rw [qbt (A := A58) rfl rfl rfl]; exact q1, b3⟩
 refine qaq (A := A58) rfl Tryz.func58 rfl ?_
 refine wR rfl (by simp; rfl) ?_
 refine wR rfl (by simp [b1]; rfl) ?_
 try simp only [tq]
 refine wX ?_
 exact ⟨trivial, _, rfl, rfl, rfl⟩
/-- a text of pieces -/
theorem text_ld {x : T} {l : List Int} (hx : BytesT x l) (hl : (l.length : Int) ≤ 1048576) {σ : Store} {c : Nat} (hC : CurAt σ c x l) :
  ∃ s o, LD S 59 [.ptr c 0 0 3] σ = some (.t (.str s), σ.set c o) ∧ CurO x l o ∧ s.length ≤ 8 ∧ bsB s = true := by
 suffices hh : ∃ v σ', LV S 59 [.ptr c 0 0 3] σ = some (v, σ') ∧ ∃ s o, v = .t (.str s) ∧ σ' = σ.set c o ∧ CurO x l o ∧ s.length ≤ 8 ∧ bsB s = true by
  obtain ⟨v, σ', q1, s, o, rfl, rfl, q2⟩ := hh
  exact ⟨s, o, by rw [qbt (A := A59) rfl rfl rfl]; exact q1, q2⟩
 refine qaq (A := A59) rfl Tryz.func59 rfl ?_
 obtain ⟨o0, hc0, ho0⟩ := hC
 have hset : σ.set c o0 = σ := qoz hc0
 refine wR rfl (by simp; rfl) ?_
 refine wR rfl (by simp; rfl) ?_
 refine wR rfl (by simp; rfl) ?_
 refine wB rfl ?_
 try simp only [tq]
 refine qat (I := fun m st τ => ∃ (k : Nat) (s : List Nat) (o : V.Obj), m = 7 - k ∧ k ≤ 7 ∧ s.length ≤ 2 * k ∧ bsB s = true ∧ CurO x l o ∧ st.vars = [(0, .ptr c 0 0 3), (2, .t (.str [])), (3, .t (.str s)), (4, .t (I k))] ∧ τ = σ.set c o) ?_ 7 _ _ ⟨0, [], o0, rfl, by omega, by simp, rfl, ho0, rfl, hset.symm⟩
 rintro m ⟨vars, scr⟩ τ ⟨k, s, o, rfl, hk, hs, hb, ho, hv, rfl⟩
 simp only at hv
 subst hv
 have hC1 : CurAt (σ.set c o) c x l := ⟨o, List.getElem?_set_self (lt_of_get hc0), ho⟩
 obtain ⟨r, o1, b1, b2, b3⟩ := qek hx hl hC1 (n := 7) (by omega) (by omega)
 rw [List.set_set] at b1
 have b1' : LD S 33 [.ptr c 0 0 3, .t (I 7)] (σ.set c o) = some (.t (I r), σ.set c o1) := b1
 refine wR rfl (by simp [b1']; rfl) ?_
 by_cases c1 : k < r
 ·refine wT rfl (by simp [c1]) ?_
  refine wK ?_
  refine wB rfl ?_
  have hC2 : CurAt (σ.set c o1) c x l := ⟨o1, List.getElem?_set_self (lt_of_get hc0), b3⟩
  obtain ⟨p, o2, d1, d2, d3⟩ := pick_ld hx hl hC2 (L := [[97], [98], [97], [97, 98], [49], [50], [43], [40], [41], [51], [58]]) (by decide) (by decide)
  rw [List.set_set] at d1
  simp only [List.map_cons, List.map_nil] at d1
  have hp : p.length ≤ 2 ∧ bsB p = true := by
   simp only [List.mem_cons, List.not_mem_nil, or_false] at d2
   rcases d2 with rfl | rfl | rfl | rfl | rfl | rfl | rfl | rfl | rfl | rfl | rfl <;> decide
  have hlen : (s.length : Int) + p.length ≤ 9223372036854775807 := by omega
  have hlen2 : s.length + p.length ≤ 9223372036854775807 := by omega
  refine wR rfl (by simp [qaa, qab, qao, qac, chunk, d1, hlen2]; rfl) ?_
  refine wR rfl (by simp [IntWalk.i64_in ((k : Int) + 1) (by omega)]; rfl) ?_
  try simp only [tq]
  refine ⟨7 - (k + 1), by omega, k + 1, s ++ p, o2, rfl, by omega, by simp; omega, ?_, d3, by simp, rfl⟩
  unfold bsB at hb hp ⊢
  rw [List.all_append, hb, hp.2]; rfl
 ·refine wF rfl (by simp [c1]) ?_
  repeat apply qaw
  refine qal ?_
  try simp only [tq, if_true]
  refine wR rfl (by simp; rfl) ?_
  by_cases c2 : 8 < s.length
  ·refine wT rfl (by simp [c2, show (8 : Int) < s.length by omega]) ?_
   have c2' : (8 : Int) ≤ s.length := by omega
   refine wR rfl (by simp [c2']; rfl) ?_
   refine wR rfl (by simp; rfl) ?_
   try simp only [tq]
   refine wX ?_
   refine ⟨trivial, _, rfl, s.take 8, o1, ?_, rfl, b3, by simp; omega, ?_⟩
   ·simp
   ·exact List.all_eq_true.2 fun y hy => List.all_eq_true.1 hb y (List.mem_of_mem_take hy)
  ·refine wF rfl (by simp [c2, show ¬ (8 : Int) < s.length by omega]) ?_
   refine wK ?_
   refine wR rfl (by simp; rfl) ?_
   try simp only [tq]
   refine wX ?_
   exact ⟨trivial, _, rfl, s, o1, rfl, rfl, b3, by omega, hb⟩
end X
namespace X
attribute [-simp] getElem?_pos
/-! ### A grammar and a text -/
/-- a grammar of which all is known -/
def Good (G : T) : Prop := ∃ SR MK VN RA n0 ps0 az0 gr, G = .agg [.list (.agg [.str n0, ps0, az0] :: gr)] ∧ GramOk SR MK VN RA n0 ps0 az0 gr
structure PairOk (i : Nat) (s le : List Nat) (sa sb e1 G e2 : T) : Prop where
 split : ∀ σ, LD S 55 [.t (I i)] σ = some (.t (.tup [.str s, .str le]), σ)
 read : ∀ σ, LD S 56 [.t (.str s)] σ = some (.t (.tup [.agg [sa, sb], e1]), σ)
 flat : ∀ σ, LD S 57 [.t (.agg [sa, sb])] σ = some (.t (.tup [G, e2]), σ)
 good : Good G
 len : 0 < le.length ∧ le.length ≤ 256 ∧ bsB le = true
/-- what is known of each of the 13 beside: Q -/
def qng (Q : T → Prop) : Prop := ∀ i, i < 13 → ∃ s le sa sb e1 G e2, PairOk i s le sa sb e1 G e2 ∧ Q G
theorem pair_ld {Q : T → Prop} (hP : qng Q) {x : T} {l : List Int} (hx : BytesT x l) (hl : (l.length : Int) ≤ 1048576) {σ : Store} {c : Nat} (hC : CurAt σ c x l) :
  ∃ G t σ', LD S 34 [.ptr c 0 0 3] σ = some (.t (.tup [G, .str t]), σ') ∧ (Good G ∧ Q G) ∧ bsB t = true ∧ t.length ≤ 8 ∧ ∀ j, j < σ.length → j ≠ c → σ'[j]? = σ[j]? := by
 suffices hh : ∃ v σ', LV S 34 [.ptr c 0 0 3] σ = some (v, σ') ∧ ∃ G t, v = .t (.tup [G, .str t]) ∧ (Good G ∧ Q G) ∧ bsB t = true ∧ t.length ≤ 8 ∧ ∀ j, j < σ.length → j ≠ c → σ'[j]? = σ[j]? by
  obtain ⟨v, σ', q1, G, t, rfl, q2⟩ := hh
  exact ⟨G, t, σ', by rw [qbt (A := A34) rfl rfl rfl]; exact q1, q2⟩
 refine qaq (A := A34) rfl Tryz.func34 rfl ?_
 have lc := hC.lt
 obtain ⟨oc, hc0, hoc⟩ := hC
 refine wR rfl (by simp; rfl) ?_
 try simp only [tq]
 have hC1 : CurAt (σ ++ [.cells [.t .nils] 0 0]) c x l := ⟨oc, by rw [List.getElem?_append_left lc]; exact hc0, hoc⟩
 have h2 : (σ ++ [V.Obj.cells [V.t .nils] 0 0])[σ.length]? = some (.cells [.t .nils] 0 0) := by rw [getA]; rfl
 have hL1 : (σ ++ [V.Obj.cells [V.t .nils] 0 0]).length = σ.length + 1 := by simp
 have hfr : ∀ j, j < σ.length → j ≠ c → (σ ++ [V.Obj.cells [V.t .nils] 0 0])[j]? = σ[j]? := fun j hj _ => List.getElem?_append_left hj
 revert hC1 h2 hL1 hfr
 generalize (σ ++ [V.Obj.cells [V.t .nils] 0 0]) = τ
 intro hC1 h2 hL1 hfr
 have hcur : ∀ o, CurO x l o → CurAt (τ.set c o) c x l := fun o ho => hC1.set ho
 obtain ⟨r, o1, b1, b2, b3⟩ := qek hx hl hC1 (n := 13) (by omega) (by omega)
 have b1' : LD S 33 [.ptr c 0 0 3, .t (I 13)] τ = some (.t (I r), τ.set c o1) := b1
 obtain ⟨s, le, sa, sb, e1, G, e2, hp, hQ⟩ := hP r b2
 refine wR rfl (by simp [b1', hp.split]; rfl) ?_
 refine wR rfl (by simp; rfl) ?_
 refine wR rfl (by simp; rfl) ?_
 refine wB rfl ?_
 try simp only [tq]
 refine qat (I := fun m st τ' => ∃ (k : Nat) (t : List Nat) (o : V.Obj), m = 7 - k ∧ k ≤ 7 ∧ t.length ≤ k ∧ (0 < k → k ≤ 6) ∧ bsB t = true ∧ CurO x l o ∧ st.vars = [(0, .ptr c 0 0 3), (2, .ptr σ.length 0 0 1), (3, .t (.str [])), (4, .t (.str s)), (5, .t (.str le)), (6, .t (.str t)), (7, .t (I k))] ∧ τ' = τ.set c o) ?_ 7 _ _ ⟨0, [], o1, rfl, by omega, by simp, by omega, rfl, b3, by simp, rfl⟩
 rintro m ⟨vars, scr⟩ τ' ⟨k, t, o, rfl, hk, ht, hk6, hbt, ho, hv, rfl⟩
 simp only at hv
 subst hv
 obtain ⟨r2, o2, d1, d2, d3⟩ := qek hx hl (hcur o ho) (n := 7) (by omega) (by omega)
 rw [List.set_set] at d1
 have d1' : LD S 33 [.ptr c 0 0 3, .t (I 7)] (τ.set c o) = some (.t (I r2), τ.set c o2) := d1
 refine wR rfl (by simp [d1']; rfl) ?_
 by_cases c1 : k < r2
 ·refine wT rfl (by simp [c1]) ?_
  refine wK ?_
  refine wB rfl ?_
  obtain ⟨r3, o3, f1, f2, f3⟩ := qek hx hl (hcur o2 d3) hp.len.1 hp.len.2.1
  rw [List.set_set] at f1
  have g1 : (r3 : Int) + 1 ≤ le.length := by omega
  have g2 : ((r3 : Int) + 1).toNat = r3 + 1 := by omega
  have g3 : (r3 : Int) ≤ (r3 : Int) + 1 := by omega
  have g4 : t.length + (min (r3 + 1) le.length - r3) ≤ 9223372036854775807 := by omega
  refine wR rfl (by simp [f1]; rfl) ?_
  refine wR rfl (by simp [g1, g2, g3, g4, IntWalk.i64_in ((r3 : Int) + 1) (by have := hp.len.2.1; omega)]; rfl) ?_
  refine wR rfl (by simp [IntWalk.i64_in ((k : Int) + 1) (by omega)]; rfl) ?_
  try simp only [tq]
  refine ⟨7 - (k + 1), by omega, k + 1, t ++ (le.take (r3 + 1)).drop r3, o3, rfl, by omega, by simp; omega, by omega, ?_, f3, by simp, rfl⟩
  have hle := hp.len.2.2
  unfold bsB at hbt hle ⊢
  rw [List.all_append, hbt]
  exact List.all_eq_true.2 fun y hy => List.all_eq_true.1 hle y (List.mem_of_mem_take (List.mem_of_mem_drop hy))
 ·refine wF rfl (by simp [c1]) ?_
  repeat apply qaw
  refine qal ?_
  try simp only [tq, if_true]
  have hC2 : CurAt (τ.set c o2) c x l := hcur o2 d3
  have h3 : (τ.set c o2)[σ.length]? = some (.cells [.t .nils] 0 0) := by rw [List.getElem?_set_ne (by omega)]; exact h2
  have hL2 : (τ.set c o2).length = σ.length + 1 := by simp [hL1]
  have hfr2 : ∀ j, j < σ.length → j ≠ c → (τ.set c o2)[j]? = σ[j]? := fun j hj hn => by rw [List.getElem?_set_ne (Ne.symm hn)]; exact hfr j hj hn
  revert hC2 h3 hL2 hfr2
  generalize τ.set c o2 = τ2
  intro hC2 h3 hL2 hfr2
  obtain ⟨SR, MK, VN, RA, n0, ps0, az0, gr, rfl, hgood⟩ := hp.good
  refine wR rfl (by simp [hp.read, getA, setA, qao, qac]; rfl) ?_
  refine wR rfl (by simp [hp.flat, getA, getB, setA, setB, qao, qac]; rfl) ?_
  try simp only [tq]
  have hC3 : CurAt (τ2 ++ [V.Obj.cells [V.t sa, V.t sb] 0 0, V.Obj.cells [V.t (.list (.agg [.str n0, ps0, az0] :: gr))] 0 0]) c x l := by
   obtain ⟨o, q1, q2⟩ := hC2
   exact ⟨o, by rw [List.getElem?_append_left (lt_of_get q1)]; exact q1, q2⟩
  have h4 : (τ2 ++ [V.Obj.cells [V.t sa, V.t sb] 0 0, V.Obj.cells [V.t (.list (.agg [.str n0, ps0, az0] :: gr))] 0 0])[σ.length]? = some (.cells [.t .nils] 0 0) := by
   rw [List.getElem?_append_left (lt_of_get h3)]; exact h3
  have h5 : (τ2 ++ [V.Obj.cells [V.t sa, V.t sb] 0 0, V.Obj.cells [V.t (.list (.agg [.str n0, ps0, az0] :: gr))] 0 0])[τ2.length + 1]? = some (.cells [V.t (.list (.agg [.str n0, ps0, az0] :: gr))] 0 0) := by
   rw [getB]; rfl
  have hfr3 : ∀ j, j < σ.length → j ≠ c → (τ2 ++ [V.Obj.cells [V.t sa, V.t sb] 0 0, V.Obj.cells [V.t (.list (.agg [.str n0, ps0, az0] :: gr))] 0 0])[j]? = σ[j]? := fun j hj hn => by rw [List.getElem?_append_left (by omega)]; exact hfr2 j hj hn
  revert hC3 h4 h5 hfr3
  generalize (τ2 ++ [V.Obj.cells [V.t sa, V.t sb] 0 0, V.Obj.cells [V.t (.list (.agg [.str n0, ps0, az0] :: gr))] 0 0]) = τ3
  intro hC3 h4 h5 hfr3
  obtain ⟨b, o4, u1, u2⟩ := once_ld hx hl hC3 (n := 8) (by omega) (by omega)
  have u1' : LD S 58 [.ptr c 0 0 3, .t (I 8)] τ3 = some (.t (B b), τ3.set c o4) := u1
  have hC4 := hC3.set u2
  have h6 : ∀ o, (τ3.set c o)[σ.length]? = some (.cells [.t .nils] 0 0) := fun o => by rw [List.getElem?_set_ne (by omega)]; exact h4
  have h7 : ∀ o, (τ3.set c o)[τ2.length + 1]? = some (.cells [V.t (.list (.agg [.str n0, ps0, az0] :: gr))] 0 0) := fun o => by rw [List.getElem?_set_ne (by omega)]; exact h5
  have h8 : ∀ o o', ((τ3.set c o).set σ.length o')[σ.length]? = some o' := fun o o' => List.getElem?_set_self (lt_of_get (h6 o))
  refine wR rfl (by simp [u1']; rfl) ?_
  cases b with
  | true =>
   refine wT rfl (by simp) ?_
   obtain ⟨t2, o5, v1, v2, v3, v4⟩ := text_ld hx hl hC4
   rw [List.set_set] at v1
   refine wR rfl (by simp [v1]; rfl) ?_
   refine wR rfl (by simp [h6, h7, qac]; rfl) ?_
   try simp only [tq]
   refine wX ?_
   exact ⟨trivial, .t (.tup [.agg [.list (.agg [.str n0, ps0, az0] :: gr)], .str t2]), (by simp [Tryz.f34, h8, qcc, allT]), _, t2, rfl, ⟨⟨SR, MK, VN, RA, n0, ps0, az0, gr, rfl, hgood⟩, hQ⟩, v4, v3, fun j hj hn => by rw [List.getElem?_set_ne (by omega), List.getElem?_set_ne (Ne.symm hn)]; exact hfr3 j hj hn⟩
  | false =>
   refine wF rfl (by simp) ?_
   refine wK ?_
   refine wR rfl (by simp [h6, h7, qac]; rfl) ?_
   try simp only [tq]
   refine wX ?_
   exact ⟨trivial, .t (.tup [.agg [.list (.agg [.str n0, ps0, az0] :: gr)], .str t]), (by simp [Tryz.f34, h8, qcc, allT]), _, t, rfl, ⟨⟨SR, MK, VN, RA, n0, ps0, az0, gr, rfl, hgood⟩, hQ⟩, hbt, by omega, fun j hj hn => by rw [List.getElem?_set_ne (by omega), List.getElem?_set_ne (Ne.symm hn)]; exact hfr3 j hj hn⟩
end X
