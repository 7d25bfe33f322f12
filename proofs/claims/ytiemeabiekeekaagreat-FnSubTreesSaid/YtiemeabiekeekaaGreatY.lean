/- A part of the proof. No statement of the claim is in it. -/
import Derived.Test.YtiemeabiekeekaaGreatSa
set_option maxRecDepth 100000
set_option maxHeartbeats 4000000
set_option linter.all false
open Go Go.V Go.Proofs
namespace Y
open X
attribute [-simp] lenV idxV
@[simp] theorem pfPut : S.pf 28 = false := rfl
@[simp] theorem pfTake : S.pf 20 = false := rfl
@[simp] theorem pfCopy : S.pf 42 = false := rfl
/-- a node, its slices as lists -/
structure N where
 rule : Int
 alt : Int
 args : List Int
 fr : Int
 to : Int
 kids : List Int
abbrev R1 (i : Int) : T := .agg [I i]
abbrev L (l : List Int) : T := .list (l.map R1)
abbrev encC (n : N) : List T := [I n.rule, I n.alt, L n.args, I n.fr, I n.to, L n.kids]
abbrev encN (n : N) : T := .agg (encC n)
abbrev Ls (l : List N) : T := .list (l.map encN)
abbrev encT (l : List N) : T := .agg [Ls l]
/-- a slice's tree is a list, or nil -/
def IsL {α : Type} (x : T) (f : α → T) (l : List α) : Prop := x = .list (l.map f) ∨ (x = .nils ∧ l = [])
theorem IsL.len {α : Type} {x : T} {f : α → T} {l : List α} (h : IsL x f l) (σ : Store) (e : TypeId) : lenV σ (.slice e) (.t x) = some (l.length : Int) := by
 rcases h with rfl | ⟨rfl, rfl⟩ <;> simp
theorem IsL.idx {α : Type} {x : T} {f : α → T} {l : List α} (h : IsL x f l) {k : Nat} {a : α} (hk : l[k]? = some a) {cs : List T} (hf : f a = .agg cs) : idxV cs.length (.t x) (k : Int) = some (.t (.snap cs)) := by
 rcases h with rfl | ⟨rfl, rfl⟩
 ·simp [hk, hf]
 ·simp at hk
theorem wr {x : Int} (h : -4611686018427387904 ≤ x ∧ x ≤ 4611686018427387904) : IntKind.i64.wrap x = x := IntWalk.i64_in _ (by omega)
def N.ok (n : N) : Prop := n.args.length ≤ 281474976710656 ∧ n.kids.length ≤ 281474976710656
/-- What a tree is, as a tree: its nodes, or none (nil). -/
def isTree (x : T) (l : List N) : Prop := x = Ls l ∨ (x = .nils ∧ l = [])
theorem within_ld (n lo hi : Int) (σ : Store) : LD S 18 [.t (I n), .t (I lo), .t (I hi)] σ = some (.t (B (decide (lo ≤ n) && decide (n ≤ hi))), σ) := by
 refine LD_pure (A := A18) (v := .t (B (decide (lo ≤ n) && decide (n ≤ hi)))) (σ0 := []) rfl rfl rfl ?_ rfl σ
 refine LV_body (A := A18) rfl Tryz.func18 rfl ?_
 repeat apply wS
 refine wR (by simp; constructor <;> rfl) ?_
 try simp only [tq]
 by_cases h1 : lo ≤ n <;> by_cases h2 : n ≤ hi
 all_goals
  repeat apply wS
  refine wR (by simp [h1, h2]; constructor <;> rfl) ?_
  try simp only [tq]
  refine W_ret ?_
  try simp only [tq]
  simp [Tryz.f18, h1, h2]
theorem l01In_ld (n lo hi : Int) (σ : Store) : LD S 22 [.t (I n), .t (I lo), .t (I hi)] σ = some (.t (B (decide (lo ≤ n) && decide (n ≤ hi))), σ) := X.in_ld n lo hi σ
def inB (k at_ : Int) : Bool := decide (0 ≤ k) && decide (k ≤ at_ - 1)
/-- kids from a place on are ahead of 'at_' -/
def ahead (at_ : Int) (l : List Int) : Bool := l.all fun k => inB k at_
theorem ahead_drop {at_ : Int} {l : List Int} {i : Nat} {x : Int} (h : l[i]? = some x) : ahead at_ (l.drop i) = (inB x at_ && ahead at_ (l.drop (i + 1))) := by
 have c1 : i < l.length := by
  rcases Nat.lt_or_ge i l.length with h1 | h1
  ·exact h1
  ·rw [List.getElem?_eq_none h1] at h; cases h
 rw [List.drop_eq_getElem_cons c1]
 rw [List.getElem?_eq_getElem c1] at h
 simp at h
 simp [ahead, h]
theorem kidsAhead_ld (l : List Int) (at_ : Int) (σ : Store) (hl : l.length ≤ 281474976710656) (h0 : 0 ≤ at_) (h1 : at_ ≤ 281474976710656) : LD S 41 [.t (L l), .t (I at_)] σ = some (.t (B (ahead at_ l)), σ) := by
 refine LD_pure (A := A41) (v := .t (B (ahead at_ l))) (σ0 := []) rfl rfl rfl ?_ rfl σ
 refine LV_body (A := A41) rfl Tryz.func41 rfl ?_
 repeat apply wS
 refine wR (by simp; constructor <;> rfl) ?_
 try simp only [tq]
 repeat apply wS
 refine wR (by simp; constructor <;> rfl) ?_
 try simp only [tq]
 repeat apply wS
 refine W_block ?_
 refine W_loop (I := fun m st σ => ∃ (i : Nat), m = l.length - i ∧ i ≤ l.length ∧ ahead at_ (l.drop i) = ahead at_ l ∧ st.vars = [(0, .t (L l)), (1, .t (I at_)), (4, .t (B false)), (7, .t (L l)), (8, .t (I l.length)), (9, .t (I i))] ∧ σ = []) ?_ l.length _ _ ⟨0, rfl, Nat.zero_le _, by simp, by simp, rfl⟩
 rintro m ⟨vars, scr⟩ σ ⟨i, rfl, hk, ha, hv, rfl⟩
 simp only at hv
 subst hv
 repeat apply wS
 refine wR (by simp; constructor <;> rfl) ?_
 try simp only [tq]
 by_cases c1 : i < l.length
 ·repeat apply wS
  refine wC (t := true) (by simp [c1]) ?_
  simp only [iq]
  refine W_skip ?_
  try simp only [tq]
  repeat apply wS
  refine W_block ?_
  obtain ⟨x, hp⟩ : ∃ x, l[i]? = some x := ⟨l[i], by simp [c1]⟩
  rw [ahead_drop hp] at ha
  repeat apply wS
  refine wR (by simp [hp]; constructor <;> rfl) ?_
  try simp only [tq]
  have hw : IntKind.i64.wrap (at_ - 1) = at_ - 1 := IntWalk.i64_in _ (by omega)
  repeat apply wS
  refine wR (by simp [hw, within_ld]; constructor <;> rfl) ?_
  try simp only [tq]
  by_cases c2 : inB x at_ = true
  ·have c2' := c2
   simp only [inB, Bool.and_eq_true, decide_eq_true_eq] at c2'
   repeat apply wS
   refine wC (t := false) (by simp [c2'.1, c2'.2]) ?_
   simp only [iq]
   refine W_skip ?_
   try simp only [tq]
   rw [c2, Bool.true_and] at ha
   repeat apply wS
   refine wR (by simp [IntWalk.i64_in ((i : Int) + 1) (by omega)]; constructor <;> rfl) ?_
   try simp only [tq]
   exact ⟨l.length - (i + 1), by omega, i + 1, rfl, c1, ha, by simp, by simp⟩
  ·simp only [Bool.not_eq_true] at c2
   rw [c2, Bool.false_and] at ha
   have c2' : x < 0 ∨ at_ - 1 < x := by
    simp only [inB, Bool.and_eq_false_iff, decide_eq_false_iff_not] at c2
    omega
   repeat apply wS
   refine wC (t := true) (by simp [c2']) ?_
   simp only [iq]
   repeat apply wS
   refine wR (by simp; constructor <;> rfl) ?_
   try simp only [tq]
   refine W_ret ?_
   try simp only [tq]
   simp [Tryz.f41, ← ha]
 ·repeat apply wS
  refine wC (t := false) (by simp [c1]) ?_
  simp only [iq]
  repeat apply wS
  refine W_exit ?_
  try simp only [tq, if_true]
  have : i = l.length := by omega
  subst this
  rw [List.drop_length] at ha
  have ha' : ahead at_ l = true := by rw [← ha]; rfl
  repeat apply wS
  refine wR (by simp; constructor <;> rfl) ?_
  try simp only [tq]
  refine W_ret ?_
  try simp only [tq]
  simp [Tryz.f41, ha']
/-- from a place on, each node's kids are ahead of it -/
def rightFrom : Int → List N → Bool
 | _, [] => true
 | i, n :: r => ahead i n.kids && rightFrom (i + 1) r
theorem rightFrom_drop {l : List N} {i : Nat} {x : N} (h : l[i]? = some x) : rightFrom i (l.drop i) = (ahead i x.kids && rightFrom ((i : Int) + 1) (l.drop (i + 1))) := by
 have c1 : i < l.length := by
  rcases Nat.lt_or_ge i l.length with h1 | h1
  ·exact h1
  ·rw [List.getElem?_eq_none h1] at h; cases h
 rw [List.drop_eq_getElem_cons c1]
 rw [List.getElem?_eq_getElem c1] at h
 simp at h
 simp [rightFrom, h]
theorem kidsRight_ld (l : List N) (σ : Store) (hl : l.length ≤ 281474976710656) (hn : ∀ n ∈ l, n.ok) : LD S 19 [.t (encT l)] σ = some (.t (B (rightFrom 0 l)), σ) := by
 obtain ⟨σ0, h⟩ : ∃ σ0, LV S 19 [.t (encT l)] [] = some (.t (B (rightFrom 0 l)), σ0) := by
  refine LV_bodyE (A := A19) rfl Tryz.func19 rfl ?_
  repeat apply wS
  refine wR (by simp; constructor <;> rfl) ?_
  try simp only [tq]
  repeat apply wS
  refine wR (by simp; constructor <;> rfl) ?_
  try simp only [tq]
  repeat apply wS
  refine W_block ?_
  refine W_loop (I := fun m st σ => ∃ (i : Nat), m = l.length - i ∧ i ≤ l.length ∧ rightFrom i (l.drop i) = rightFrom 0 l ∧ st.vars = [(0, .t (encT l)), (1, .ptr 0 0 0 1), (2, .t (B false)), (6, .t (Ls l)), (7, .t (I l.length)), (8, .t (I i))]) ?_ l.length _ _ ⟨0, rfl, Nat.zero_le _, by simp, by simp⟩
  rintro m ⟨vars, scr⟩ σ ⟨i, rfl, hk, ha, hv⟩
  simp only at hv
  subst hv
  repeat apply wS
  refine wR (by simp; constructor <;> rfl) ?_
  try simp only [tq]
  by_cases c1 : i < l.length
  ·repeat apply wS
   refine wC (t := true) (by simp [c1]) ?_
   simp only [iq]
   refine W_skip ?_
   try simp only [tq]
   repeat apply wS
   refine W_block ?_
   obtain ⟨x, hp⟩ : ∃ x, l[i]? = some x := ⟨l[i], by simp [c1]⟩
   rw [rightFrom_drop hp] at ha
   repeat apply wS
   refine wR (by simp [hp]; constructor <;> rfl) ?_
   try simp only [tq]
   have hok := hn x (List.mem_of_getElem? hp)
   repeat apply wS
   refine wR (by simp [kidsAhead_ld x.kids i _ hok.2 (by omega) (by omega)]; constructor <;> rfl) ?_
   try simp only [tq]
   by_cases c2 : ahead i x.kids = true
   ·rw [c2, Bool.true_and] at ha
    repeat apply wS
    refine wC (t := false) (by simp [c2]) ?_
    simp only [iq]
    refine W_skip ?_
    try simp only [tq]
    repeat apply wS
    refine wR (by simp [IntWalk.i64_in ((i : Int) + 1) (by omega)]; constructor <;> rfl) ?_
    try simp only [tq]
    exact ⟨l.length - (i + 1), by omega, i + 1, rfl, c1, by rw [← ha]; simp, by simp⟩
   ·simp only [Bool.not_eq_true] at c2
    rw [c2, Bool.false_and] at ha
    repeat apply wS
    refine wC (t := true) (by simp [c2]) ?_
    simp only [iq]
    repeat apply wS
    refine wR (by simp; constructor <;> rfl) ?_
    try simp only [tq]
    refine W_ret ?_
    try simp only [tq]
    simp [Tryz.f19, ← ha]
  ·repeat apply wS
   refine wC (t := false) (by simp [c1]) ?_
   simp only [iq]
   repeat apply wS
   refine W_exit ?_
   try simp only [tq, if_true]
   have : i = l.length := by omega
   subst this
   rw [List.drop_length] at ha
   have ha' : rightFrom 0 l = true := by rw [← ha]; rfl
   repeat apply wS
   refine wR (by simp; constructor <;> rfl) ?_
   try simp only [tq]
   refine W_ret ?_
   try simp only [tq]
   simp [Tryz.f19, ha']
 exact LD_pure (A := A19) rfl rfl rfl h rfl σ
theorem l20Right_ld (l : List N) (σ : Store) (hl : l.length ≤ 281474976710656) (hn : ∀ n ∈ l, n.ok) : LD S 27 [.t (encT l)] σ = some (.t (B (rightFrom 0 l)), σ) := by
 obtain ⟨σ0, h⟩ : ∃ σ0, LV S 27 [.t (encT l)] [] = some (.t (B (rightFrom 0 l)), σ0) := by
  refine LV_bodyE (A := A27) rfl Tryz.func27 rfl ?_
  repeat apply wS
  refine wR (by simp; constructor <;> rfl) ?_
  try simp only [tq]
  repeat apply wS
  refine wR (by simp; constructor <;> rfl) ?_
  try simp only [tq]
  repeat apply wS
  refine W_block ?_
  refine W_loop (I := fun m st σ => ∃ (i : Nat), m = l.length - i ∧ i ≤ l.length ∧ rightFrom i (l.drop i) = rightFrom 0 l ∧ st.vars = [(0, .t (encT l)), (1, .ptr 0 0 0 1), (2, .t (B false)), (3, .t (I i))] ∧ σ = [.cells [.t (Ls l)] 0 0]) ?_ l.length _ _ ⟨0, rfl, Nat.zero_le _, by simp, by simp, by simp⟩
  rintro m ⟨vars, scr⟩ σ ⟨i, rfl, hk, ha, hv, rfl⟩
  simp only at hv
  subst hv
  repeat apply wS
  refine wR (by simp; constructor <;> rfl) ?_
  try simp only [tq]
  by_cases c1 : i < l.length
  ·repeat apply wS
   refine wC (t := true) (by simp [c1]) ?_
   simp only [iq]
   refine W_skip ?_
   try simp only [tq]
   repeat apply wS
   refine W_block ?_
   obtain ⟨x, hp⟩ : ∃ x, l[i]? = some x := ⟨l[i], by simp [c1]⟩
   rw [rightFrom_drop hp] at ha
   have hok := hn x (List.mem_of_getElem? hp)
   have hk2 : x.kids.length ≤ 281474976710656 := hok.2
   have hw : IntKind.i64.wrap ((i : Int) - 1) = (i : Int) - 1 := IntWalk.i64_in _ (by omega)
   repeat apply wS
   refine wR (by simp; constructor <;> rfl) ?_
   try simp only [tq]
   repeat apply wS
   refine W_block ?_
   refine W_loop (I := fun m st σ => ∃ (j : Nat), m = x.kids.length - j ∧ j ≤ x.kids.length ∧ ahead i (x.kids.drop j) = ahead i x.kids ∧ st.vars = [(0, .t (encT l)), (1, .ptr 0 0 0 1), (2, .t (B false)), (3, .t (I i)), (4, .t (I j))] ∧ σ = [.cells [.t (Ls l)] 0 0]) ?_ x.kids.length _ _ ⟨0, rfl, Nat.zero_le _, by simp, by simp, by simp⟩
   rintro m ⟨vars, scr⟩ σ ⟨j, rfl, hj, hb, hv, rfl⟩
   simp only at hv
   subst hv
   repeat apply wS
   refine wR (by simp [hp]; constructor <;> rfl) ?_
   try simp only [tq]
   by_cases c3 : j < x.kids.length
   ·repeat apply wS
    refine wC (t := true) (by simp [c3]) ?_
    simp only [iq]
    refine W_skip ?_
    try simp only [tq]
    repeat apply wS
    refine W_block ?_
    obtain ⟨y, hy⟩ : ∃ y, x.kids[j]? = some y := ⟨x.kids[j], by simp [c3]⟩
    rw [ahead_drop hy] at hb
    repeat apply wS
    refine wR (by simp [hp, hy, hw, l01In_ld]; constructor <;> rfl) ?_
    try simp only [tq]
    by_cases c2 : inB y i = true
    ·have c2' := c2
     simp only [inB, Bool.and_eq_true, decide_eq_true_eq] at c2'
     repeat apply wS
     refine wC (t := false) (by simp [c2'.1, c2'.2]) ?_
     simp only [iq]
     refine W_skip ?_
     try simp only [tq]
     rw [c2, Bool.true_and] at hb
     repeat apply wS
     refine wR (by simp [IntWalk.i64_in ((j : Int) + 1) (by omega)]; constructor <;> rfl) ?_
     try simp only [tq]
     exact ⟨x.kids.length - (j + 1), by omega, j + 1, rfl, c3, hb, by simp, by simp⟩
    ·simp only [Bool.not_eq_true] at c2
     rw [c2, Bool.false_and] at hb
     have c2' : y < 0 ∨ (i : Int) - 1 < y := by
      simp only [inB, Bool.and_eq_false_iff, decide_eq_false_iff_not] at c2
      omega
     rw [← hb, Bool.false_and] at ha
     repeat apply wS
     refine wC (t := true) (by simp [c2']) ?_
     simp only [iq]
     repeat apply wS
     refine wR (by simp; constructor <;> rfl) ?_
     try simp only [tq]
     refine W_ret ?_
     try simp only [tq]
     simp [Tryz.f27, ← ha]
   ·repeat apply wS
    refine wC (t := false) (by simp [c3]) ?_
    simp only [iq]
    repeat apply wS
    refine W_exit ?_
    try simp only [tq, if_true]
    have : j = x.kids.length := by omega
    subst this
    rw [List.drop_length] at hb
    have hb' : ahead i x.kids = true := by rw [← hb]; rfl
    rw [hb', Bool.true_and] at ha
    repeat apply wS
    refine wR (by simp [IntWalk.i64_in ((i : Int) + 1) (by omega)]; constructor <;> rfl) ?_
    try simp only [tq]
    exact ⟨l.length - (i + 1), by omega, i + 1, rfl, c1, by rw [← ha]; simp, by simp, by simp⟩
  ·repeat apply wS
   refine wC (t := false) (by simp [c1]) ?_
   simp only [iq]
   repeat apply wS
   refine W_exit ?_
   try simp only [tq, if_true]
   have : i = l.length := by omega
   subst this
   rw [List.drop_length] at ha
   have ha' : rightFrom 0 l = true := by rw [← ha]; rfl
   repeat apply wS
   refine wR (by simp; constructor <;> rfl) ?_
   try simp only [tq]
   refine W_ret ?_
   try simp only [tq]
   simp [Tryz.f27, ha']
 exact LD_pure (A := A27) rfl rfl rfl h rfl σ
end Y
namespace Y
open X
attribute [-simp] lenV idxV
theorem setRange1 (cs : List V) (off : Nat) (v : V) : setRange cs off [v] = cs.set off v := rfl
structure Sl where
 loc : Nat
 gen : Nat
 l : List Int
def ints (l : List Int) : List V := l.map fun i => V.t (I i)
@[simp] theorem ints_length (l : List Int) : (ints l).length = l.length := by simp [ints]
abbrev Sl.v (s : Sl) : V := .sl s.loc s.gen 0 s.l.length 1
def Sl.In (σ : Store) (s : Sl) : Prop := ∃ wgen, wgen ≤ s.gen ∧ σ[s.loc]? = some (.cells (ints s.l) s.gen wgen)
structure Nd where
 rule : Int
 alt : Int
 args : Sl
 fr : Int
 to : Int
 kids : Sl
abbrev Nd.cs (m : Nd) : List V := [.t (I m.rule), .t (I m.alt), m.args.v, .t (I m.fr), .t (I m.to), m.kids.v]
abbrev Nd.n (m : Nd) : N := ⟨m.rule, m.alt, m.args.l, m.fr, m.to, m.kids.l⟩
def Nd.In (σ : Store) (m : Nd) : Prop := m.args.In σ ∧ m.kids.In σ
def flat : List Nd → List V
 | [] => []
 | m :: r => m.cs ++ flat r
def locs : List Nd → List Nat
 | [] => []
 | m :: r => m.args.loc :: m.kids.loc :: locs r
theorem flat_append (a b : List Nd) : flat (a ++ b) = flat a ++ flat b := by
 induction a with
 | nil => rfl
 | cons m r ih => simp only [List.cons_append, flat, ih, List.append_assoc]
theorem locs_append (a b : List Nd) : locs (a ++ b) = locs a ++ locs b := by
 induction a with
 | nil => rfl
 | cons m r ih => simp only [List.cons_append, locs, ih]
theorem flat_length (a : List Nd) : (flat a).length = a.length * 6 := by
 induction a with
 | nil => rfl
 | cons m r ih => simp only [flat, List.length_append, ih, List.length_cons, List.length_nil]; omega
structure Tr where
 loc : Nat
 gen : Nat
 nodes : List Nd
def Tr.In (σ : Store) (t : Tr) : Prop := (∃ wgen, wgen ≤ t.gen ∧ σ[t.loc]? = some (.cells (flat t.nodes) t.gen wgen)) ∧ ∀ m ∈ t.nodes, m.In σ
def Tr.locs (t : Tr) : List Nat := t.loc :: Y.locs t.nodes
abbrev Tr.sl (t : Tr) : V := .sl t.loc t.gen 0 t.nodes.length 6
def same (lo hi : Nat) (σ σ' : Store) : Prop := ∀ i, lo ≤ i → i < hi → σ'[i]? = σ[i]?
theorem same.trans {lo hi : Nat} {a b c : Store} (h1 : same lo hi a b) (h2 : same lo hi b c) : same lo hi a c := fun i x y => (h2 i x y).trans (h1 i x y)
def inR (lo hi : Nat) (l : List Nat) : Prop := ∀ x ∈ l, lo ≤ x ∧ x < hi
/-- A slice of nodes, each of its parts an object of its own between two places of the store; or nil. -/
def TS (σ : Store) (v : V) (l : List N) (lo hi : Nat) : Prop :=
 (v = .t .nils ∧ l = []) ∨ ∃ t : Tr, v = t.sl ∧ t.In σ ∧ t.locs.Nodup ∧ inR lo hi t.locs ∧ t.nodes.map Nd.n = l
theorem Sl.In.keep {s : Sl} {σ σ' : Store} (h : s.In σ) (e : σ'[s.loc]? = σ[s.loc]?) : s.In σ' := by
 obtain ⟨w, h1, h2⟩ := h
 exact ⟨w, h1, e.trans h2⟩
theorem locs_mem {l : List Nd} {m : Nd} (h : m ∈ l) : m.args.loc ∈ locs l ∧ m.kids.loc ∈ locs l := by
 induction l with
 | nil => cases h
 | cons a r ih =>
  simp only [locs]
  rcases List.mem_cons.1 h with rfl | h
  ·simp
  ·have := ih h
   simp [this.1, this.2]
theorem nodes_keep {l : List Nd} {σ σ' : Store} (h : ∀ m ∈ l, m.In σ) (e : ∀ x ∈ locs l, σ'[x]? = σ[x]?) : ∀ m ∈ l, m.In σ' := by
 intro m hm
 exact ⟨(h m hm).1.keep (e _ (locs_mem hm).1), (h m hm).2.keep (e _ (locs_mem hm).2)⟩
theorem Tr.In.keep {t : Tr} {σ σ' : Store} (h : t.In σ) (e : ∀ x ∈ t.locs, σ'[x]? = σ[x]?) : t.In σ' := by
 obtain ⟨⟨w, h1, h2⟩, h3⟩ := h
 exact ⟨⟨w, h1, (e _ (by simp [Tr.locs])).trans h2⟩, nodes_keep h3 fun x hx => e x (by simp [Tr.locs, hx])⟩
theorem TS.keep {σ σ' : Store} {v : V} {l : List N} {lo hi : Nat} (h : TS σ v l lo hi) (e : same lo hi σ σ') : TS σ' v l lo hi := by
 rcases h with h | ⟨t, h1, h2, h3, h4, h5⟩
 ·exact .inl h
 ·exact .inr ⟨t, h1, h2.keep fun x hx => e x (h4 x hx).1 (h4 x hx).2, h3, h4, h5⟩
theorem frzs_ints (d : Nat) (σ : Store) (l : List Int) : frzs (frz (d + 1) σ) (ints l) = some (l.map I) := by
 induction l with
 | nil => rfl
 | cons p l ih => simp only [ints, List.map_cons] at ih ⊢; simp only [frzs, frz_t, ih]
theorem chunk_ints (l : List Int) : chunk 1 l.length (l.map I) = l.map R1 := by
 induction l with
 | nil => rfl
 | cons p l ih => simp [chunk, ih]
theorem Sl.In.frz {s : Sl} {σ : Store} (h : s.In σ) (d : Nat) : Go.V.frz (d + 2) σ s.v = some (L s.l) := by
 obtain ⟨w, h1, h2⟩ := h
 rw [frz_sl (d := d + 1) h2 h1 (Nat.le_refl _) (by decide) (by simp) (ts := s.l.map I)]
 ·rw [chunk_ints]
 ·rw [List.drop_zero, List.take_of_length_le (by simp)]
  exact frzs_ints d σ s.l
theorem frzs_append (f : V → Option T) (a b : List V) (x y : List T) (h1 : frzs f a = some x) (h2 : frzs f b = some y) : frzs f (a ++ b) = some (x ++ y) := by
 induction a generalizing x with
 | nil => cases h1; exact h2
 | cons v r ih =>
  simp only [List.cons_append, frzs] at h1 ⊢
  split at h1
  ·rename_i x0 xs e1 e2
   cases h1
   rw [e1, ih xs e2]
   rfl
  ·cases h1
theorem Nd.In.frzs {m : Nd} {σ : Store} (h : m.In σ) (d : Nat) : Go.V.frzs (frz (d + 2) σ) m.cs = some (encC m.n) := by
 simp only [Go.V.frzs, frz_t, h.1.frz d, h.2.frz d]
theorem frzs_nodes {σ : Store} (d : Nat) : ∀ (l : List Nd), (∀ m ∈ l, m.In σ) → frzs (frz (d + 2) σ) (flat l) = some ((l.map Nd.n).flatMap encC)
 | [], _ => rfl
 | m :: r, h => by
  simp only [flat, List.map_cons, List.flatMap_cons]
  exact frzs_append _ _ _ _ _ (Nd.In.frzs (h m (by simp)) d) (frzs_nodes d r fun x hx => h x (by simp [hx]))
theorem chunk_nodes (l : List N) : chunk 6 l.length (l.flatMap encC) = l.map encN := by
 induction l with
 | nil => rfl
 | cons p l ih => simp [chunk, ih]
theorem Tr.In.frz {t : Tr} {σ : Store} (h : t.In σ) (d : Nat) : Go.V.frz (d + 3) σ t.sl = some (Ls (t.nodes.map Nd.n)) := by
 obtain ⟨⟨w, h1, h2⟩, h3⟩ := h
 rw [frz_sl (d := d + 2) h2 h1 (Nat.le_refl _) (by decide) (by rw [flat_length]; omega) (ts := (t.nodes.map Nd.n).flatMap encC)]
 ·have := chunk_nodes (t.nodes.map Nd.n)
  rw [List.length_map] at this
  rw [this]
 ·rw [List.drop_zero, List.take_of_length_le (by rw [flat_length]; omega)]
  exact frzs_nodes d t.nodes h3
theorem frz_agg (d : Nat) (σ : Store) (cs : List V) : Go.V.frz (d + 1) σ (.agg cs) = (Go.V.frzs (Go.V.frz d σ) cs).map .agg := rfl
theorem TS.frz {σ : Store} {v : V} {l : List N} {lo hi : Nat} (h : TS σ v l lo hi) : ∃ x, isTree x l ∧ Go.V.frz 40 σ (mkAgg [v]) = some (.agg [x]) := by
 rcases h with ⟨rfl, rfl⟩ | ⟨t, rfl, h2, h3, h4, rfl⟩
 ·exact ⟨.nils, .inr ⟨rfl, rfl⟩, rfl⟩
 ·refine ⟨_, .inl rfl, ?_⟩
  have e : mkAgg [t.sl] = .agg [t.sl] := rfl
  have : Go.V.frz (36 + 3) σ t.sl = some (Ls (t.nodes.map Nd.n)) := h2.frz 36
  rw [e, frz_agg 39, frzs, this]
  simp only [frzs, Option.map_some]
end Y
namespace Y
open X
attribute [-simp] lenV idxV setRange
theorem getA (σ r : Store) : (σ ++ r)[σ.length]? = r[0]? := by
 rw [List.getElem?_append_right (Nat.le_refl _), Nat.sub_self]
theorem getB (σ r : Store) (k : Nat) : (σ ++ r)[σ.length + k]? = r[k]? := by
 rw [List.getElem?_append_right (Nat.le_add_right _ _), Nat.add_sub_cancel_left]
theorem setA (σ r : Store) (x : Go.V.Obj) : (σ ++ r).set σ.length x = σ ++ r.set 0 x := by
 rw [List.set_append_right _ _ (Nat.le_refl _), Nat.sub_self]
theorem setB (σ r : Store) (k : Nat) (x : Go.V.Obj) : (σ ++ r).set (σ.length + k) x = σ ++ r.set k x := by
 rw [List.set_append_right _ _ (by omega), Nat.add_sub_cancel_left]
theorem getC {σ : Store} {q : Nat} (h : q < σ.length) (r : Store) : (σ ++ r)[q]? = σ[q]? := List.getElem?_append_left h
theorem setC {σ : Store} {q : Nat} (h : q < σ.length) (r : Store) (x : Go.V.Obj) : (σ ++ r).set q x = σ.set q x ++ r := List.set_append_left _ _ h
theorem LV_bodyP {S : Sy} {f : FuncId} {A : Ann} {fn : Func} {c : Code} (hA : S.ann f = some A) (hf : S.P.funcs[f]? = some fn) (hb : fn.body = some c) {args : List V} {σ : Store} {P : V → Store → Prop}
  (h : W S A c (fun e st τ => (match e with | .exit _ => False | _ => True) ∧ ∃ v, (resultsV S.ty st τ fn.results.toList).map joinV = some v ∧ P v τ) { vars := initEnv A 0 args, scr := [] } σ) : ∃ v σ', LV S f args σ = some (v, σ') ∧ P v σ' := by
 obtain ⟨n, ex, st', σ1, h1, h2, v, h3, h4⟩ := h
 exact ⟨v, σ1, LV_body hA hf hb ⟨n, ex, st', σ1, h1, h2, h3, rfl⟩, h4⟩
theorem get_lt {α : Type} {l : List α} {i : Nat} {x : α} (h : l[i]? = some x) : i < l.length := by
 rcases Nat.lt_or_ge i l.length with h1 | h1
 ·exact h1
 ·rw [List.getElem?_eq_none h1] at h; cases h
theorem rowCells_ints (l : List Int) : rowCells 1 (l.map R1) = some (ints l) := by
 induction l with
 | nil => rfl
 | cons x r ih =>
  simp only [List.map_cons, rowCells, List.length_cons, List.length_nil, if_true, ih, Option.map_some]
  rfl
theorem appendI {σ : Store} {p g w : Nat} {old l : List Int} (h : σ[p]? = some (.cells (ints old) g w)) (hl : (old.length + l.length) * 8 ≤ 140737488355328) (h0 : l ≠ []) :
  appendV S.ty σ [35, 35] (.sl p g 0 old.length 1) (.t (.list (l.map R1))) = some (.sl p (g + 1) 0 (old.length + l.length) 1, σ.set p (.cells (ints (old ++ l)) (g + 1) w)) := by
 have h0' : l.length ≠ 0 := fun e => h0 (List.length_eq_zero_iff.1 e)
 simp [appendV, srcCells, rowCells_ints, h, h0', hl, h0]
 simp [ints]
theorem appendI0 {σ : Store} {p g n : Nat} :
  appendV S.ty σ [35, 35] (.sl p g 0 n 1) (.t (.list [])) = some (.sl p g 0 n 1, σ) := by
 simp [appendV, srcCells, rowCells]
theorem copyInts_ld (l : List Int) (hl : l.length * 8 ≤ 140737488355328) (σ : Store) : ∃ g, LD S 42 [.t (L l)] σ = some (.sl σ.length g 0 l.length 1, σ ++ [.cells (ints l) g 0]) := by
 by_cases h0 : l = []
 ·subst h0
  refine ⟨0, ?_⟩
  rw [LD_inl (A := A42) rfl rfl rfl]
  refine LV_body (A := A42) rfl Tryz.func42 rfl ?_
  repeat apply wS
  refine wR (by simp; constructor <;> rfl) ?_
  try simp only [tq]
  repeat apply wS
  refine wR (by simp [sliceCells, appendI0]; constructor <;> rfl) ?_
  try simp only [tq]
  refine W_ret ?_
  try simp only [tq]
  simp [Tryz.f42, ints]
 ·refine ⟨1, ?_⟩
  have := appendI (σ := σ ++ [.cells [] 0 0]) (p := σ.length) (g := 0) (w := 0) (old := []) (l := l) (by rw [getA]; rfl) (by simpa using hl) h0
  simp only [List.length_nil, Nat.zero_add, List.nil_append] at this
  rw [LD_inl (A := A42) rfl rfl rfl]
  refine LV_body (A := A42) rfl Tryz.func42 rfl ?_
  repeat apply wS
  refine wR (by simp; constructor <;> rfl) ?_
  try simp only [tq]
  repeat apply wS
  refine wR (by simp [sliceCells, this]; constructor <;> rfl) ?_
  try simp only [tq]
  refine W_ret ?_
  try simp only [tq]
  simp [Tryz.f42, setA]
end Y
namespace Y
open X
attribute [-simp] lenV idxV setRange
def kidsF (f : Int → List N → Option (List N)) : List Int → List N → List Int → Option (List N × List Int)
 | [], l, ks => some (l, ks)
 | k :: r, l, ks => match f k l with
  | none => none
  | some l' => kidsF f r l' (ks ++ [(l'.length : Int) - 1])
def ex (nodes : List N) (swap : Int) (g : List N → Option (List N)) : Nat → Int → List N → Option (List N)
 | 0, _, _ => none
 | n + 1, at_, l => if at_ = swap then g l else match nodes[at_.toNat]? with
  | none => none
  | some x => match kidsF (ex nodes swap g n) x.kids l [] with
   | none => none
   | some (l', ks) => if l'.length + 1 ≤ 60 then some (l' ++ [{ x with kids := ks }]) else none
/-- Nodes that were put so far; 'ls': where they lie. -/
def Acc (σ : Store) (v : V) (l : List N) (lo : Nat) (ls : List Nat) : Prop :=
 (v = .t .nils ∧ l = [] ∧ ls = []) ∨ ∃ t : Tr, v = t.sl ∧ ls = t.locs ∧ t.In σ ∧ t.locs.Nodup ∧ inR lo σ.length t.locs ∧ t.nodes.map Nd.n = l
theorem Acc.len {σ : Store} {v : V} {l : List N} {lo : Nat} {ls : List Nat} (h : Acc σ v l lo ls) (τ : Store) (e : TypeId) : lenV τ (.slice e) v = some (l.length : Int) := by
 rcases h with ⟨rfl, rfl, rfl⟩ | ⟨t, rfl, rfl, h1, h2, h3, rfl⟩
 ·simp
 ·simp
theorem Acc.lt {σ : Store} {v : V} {l : List N} {lo : Nat} {ls : List Nat} (h : Acc σ v l lo ls) {j : Nat} (e : j ∈ ls) : lo ≤ j ∧ j < σ.length := by
 rcases h with ⟨rfl, rfl, rfl⟩ | ⟨t, rfl, rfl, h1, h2, h3, rfl⟩
 ·cases e
 ·exact h3 _ e
theorem Acc.keep {σ σ' : Store} {v : V} {l : List N} {lo : Nat} {ls : List Nat} (h : Acc σ v l lo ls) (hl : σ.length ≤ σ'.length) (e : ∀ i, i ∈ ls → σ'[i]? = σ[i]?) : Acc σ' v l lo ls := by
 rcases h with ⟨rfl, rfl, rfl⟩ | ⟨t, rfl, rfl, h1, h2, h3, rfl⟩
 ·exact .inl ⟨rfl, rfl, rfl⟩
 ·exact .inr ⟨t, rfl, rfl, h1.keep fun x hx => e x hx, h2, fun x hx => ⟨(h3 x hx).1, Nat.lt_of_lt_of_le (h3 x hx).2 hl⟩, rfl⟩
theorem Acc.ts {σ : Store} {v : V} {l : List N} {lo : Nat} {ls : List Nat} (h : Acc σ v l lo ls) : TS σ v l lo σ.length := by
 rcases h with ⟨rfl, rfl, rfl⟩ | ⟨t, rfl, rfl, h1, h2, h3, rfl⟩
 ·exact .inl ⟨rfl, rfl⟩
 ·exact .inr ⟨t, rfl, h1, h2, h3, rfl⟩
theorem appendN {σ : Store} {v : V} {l : List N} {lo : Nat} {ls : List Nat} (h : Acc σ v l lo ls) {q : Nat} {m : Nd} (hq : σ[q]? = some (.cells m.cs 0 0)) (hm : m.In σ) (hlo : lo ≤ σ.length)
  (h1 : m.args.loc ≠ m.kids.loc) (h2 : lo ≤ m.args.loc ∧ m.args.loc < σ.length) (h3 : lo ≤ m.kids.loc ∧ m.kids.loc < σ.length)
  (d1 : m.args.loc ∉ ls) (d2 : m.kids.loc ∉ ls) (hl : l.length ≤ 60) :
  ∃ v' σ' ls', appendV S.ty σ [29, 29] v (.sl q 0 0 1 6) = some (v', σ') ∧ σ.length ≤ σ'.length ∧ Acc σ' v' (l ++ [m.n]) lo ls' ∧ (∀ x ∈ ls', x ∈ ls ∨ x = σ.length ∨ x = m.args.loc ∨ x = m.kids.loc) ∧ ∀ i, i < σ.length → i ∉ ls → σ'[i]? = σ[i]? := by
 rcases h with ⟨rfl, rfl, rfl⟩ | ⟨t, rfl, rfl, i1, i2, i3, rfl⟩
 ·refine ⟨.sl σ.length 0 0 1 6, σ ++ [.cells m.cs 0 0], _, ?_, by simp, .inr ⟨⟨σ.length, 0, [m]⟩, rfl, rfl, ⟨⟨0, Nat.le_refl _, ?_⟩, ?_⟩, ?_, ?_, rfl⟩, ?_, fun i hi _ => List.getElem?_append_left hi⟩
  ·simp [appendV, srcCells, hq, repZero]
  ·simp [flat]
  ·intro x hx
   simp only [List.mem_singleton] at hx
   subst hx
   exact ⟨hm.1.keep (List.getElem?_append_left h2.2), hm.2.keep (List.getElem?_append_left h3.2)⟩
  ·simp only [Tr.locs, locs, List.nodup_cons, List.mem_cons, List.not_mem_nil, or_false, not_or, not_false_eq_true, List.nodup_nil, and_true]
   exact ⟨⟨by omega, by omega⟩, h1⟩
  ·intro x hx
   simp only [Tr.locs, locs, List.mem_cons, List.not_mem_nil, or_false] at hx
   simp only [List.length_append, List.length_cons, List.length_nil]
   omega
  ·intro x hx
   simp only [Tr.locs, locs, List.mem_cons, List.not_mem_nil, or_false] at hx
   exact .inr hx
 ·obtain ⟨⟨w, hw, hσ⟩, hin⟩ := i1
  have hlt := get_lt hσ
  simp only [List.length_map] at hl
  have hb : (t.nodes.length + 1) * 80 ≤ 140737488355328 := by omega
  have hls : ({ loc := t.loc, gen := t.gen + 1, nodes := t.nodes ++ [m] } : Tr).locs = t.locs ++ [m.args.loc, m.kids.loc] := by
   simp [Tr.locs, locs_append, locs]
  refine ⟨.sl t.loc (t.gen + 1) 0 (t.nodes.length + 1) 6, σ.set t.loc (.cells (flat t.nodes ++ m.cs) (t.gen + 1) w), _, ?_, by simp, .inr ⟨⟨t.loc, t.gen + 1, t.nodes ++ [m]⟩, by simp [Tr.sl], rfl, ⟨⟨w, by simp only; omega, ?_⟩, ?_⟩, ?_, ?_, by simp⟩, ?_, fun i hi he => ?_⟩
  ·simp [appendV, srcCells, hq, hσ, flat_length, hb]
  ·rw [List.getElem?_set_self hlt, flat_append]
   simp [flat]
  ·intro x hx
   have nl : ∀ y ∈ locs t.nodes, y ≠ t.loc := by
    intro y hy e
    rw [Tr.locs, List.nodup_cons] at i2
    exact i2.1 (e ▸ hy)
   rcases List.mem_append.1 hx with hx | hx
   ·exact nodes_keep hin (fun y hy => List.getElem?_set_ne (Ne.symm (nl y hy))) x hx
   ·simp only [List.mem_singleton] at hx
    subst hx
    refine ⟨hm.1.keep (List.getElem?_set_ne fun e => d1 (by rw [← e]; simp [Tr.locs])), hm.2.keep (List.getElem?_set_ne fun e => d2 (by rw [← e]; simp [Tr.locs]))⟩
  ·rw [hls]
   refine List.nodup_append.2 ⟨i2, by simp [h1], ?_⟩
   intro a ha b hb e
   simp only [List.mem_cons, List.not_mem_nil, or_false] at hb
   rcases hb with rfl | rfl
   ·exact d1 (e ▸ ha)
   ·exact d2 (e ▸ ha)
  ·rw [hls]
   intro x hx
   simp only [List.length_set]
   rcases List.mem_append.1 hx with hx | hx
   ·exact i3 _ hx
   ·simp only [List.mem_cons, List.not_mem_nil, or_false] at hx
    rcases hx with rfl | rfl
    ·exact h2
    ·exact h3
  ·rw [hls]
   intro x hx
   rcases List.mem_append.1 hx with hx | hx
   ·exact .inl hx
   ·simp only [List.mem_cons, List.not_mem_nil, or_false] at hx
    exact .inr (.inr hx)
  ·rw [List.getElem?_set_ne (fun e => he (by rw [← e]; simp [Tr.locs]))]
/-- How a store stands behind nodes were put: 'c' the cells of who puts, by the slice. -/
def Post (c : V → List V) (p lo : Nat) (σ : Store) (ls : List Nat) (l' : List N) (σ' : Store) : Prop :=
 0 < l'.length ∧ l'.length ≤ 60 ∧ ∃ v' ls', σ'[p]? = some (.cells (c v') 0 0) ∧ Acc σ' v' l' lo ls' ∧ σ.length ≤ σ'.length ∧ (∀ i, i < σ.length → i ≠ p → i ∉ ls → σ'[i]? = σ[i]?) ∧ ∀ x ∈ ls', x ∈ ls ∨ σ.length ≤ x
abbrev cS (v : V) : List V := [v]
def Fr (p : Nat) (σ : Store) (ls : List Nat) (σ' : Store) : Prop := σ.length ≤ σ'.length ∧ ∀ i, i < σ.length → i ≠ p → i ∉ ls → σ'[i]? = σ[i]?
def Res (c : V → List V) (p lo : Nat) (σ : Store) (ls : List Nat) (r : Option (List N)) (b : Bool) (σ' : Store) : Prop := match r with
 | none => b = false ∧ Fr p σ ls σ'
 | some l' => b = true ∧ Post c p lo σ ls l' σ'
/-- what a call of l20Put gives -/
def PutOk (p lo : Nat) (tt : T) (at_ swap : Int) (oth : T) (r : List N → Option (List N)) : Prop :=
 ∀ (σ : Store) (v : V) (l : List N) (ls : List Nat), p ∉ ls → lo ≤ σ.length → l.length ≤ 60 → σ[p]? = some (.cells [v] 0 0) → Acc σ v l lo ls →
   ∃ b σ', LD S 28 [.ptr p 0 0 1, .t tt, .t (I at_), .t (I swap), .t oth] σ = some (.t (B b), σ') ∧ Res cS p lo σ ls (r l) b σ'
def N.fit (n : N) : Prop := n.args.length ≤ 1048576 ∧ n.kids.length ≤ 1048576
theorem N.fit.ok {n : N} (h : n.fit) : n.ok := ⟨by have := h.1; omega, by have := h.2; omega⟩
end Y
namespace Y
open X
attribute [-simp] lenV idxV setRange
theorem right_get : ∀ (l : List N) (j : Int) (i : Nat) (x : N), rightFrom j l = true → l[i]? = some x → ahead (j + i) x.kids = true
 | [], j, i, x, _, h => by simp at h
 | n :: r, j, 0, x, hr, h => by
  simp only [List.getElem?_cons_zero, Option.some.injEq] at h
  subst h
  simp only [rightFrom, Bool.and_eq_true] at hr
  simpa using hr.1
 | n :: r, j, i + 1, x, hr, h => by
  simp only [rightFrom, Bool.and_eq_true] at hr
  have := right_get r (j + 1) i x hr.2 (by simpa using h)
  rw [show j + ((i + 1 : Nat) : Int) = j + 1 + i by omega]
  exact this
theorem ahead_get {at_ : Int} {l : List Int} {i : Nat} {x : Int} (h : ahead at_ l = true) (hx : l[i]? = some x) : 0 ≤ x ∧ x ≤ at_ - 1 := by
 have := List.all_eq_true.1 h x (List.mem_of_getElem? hx)
 simpa [inB] using this
theorem kidsF_drop {f : Int → List N → Option (List N)} {l : List Int} {i : Nat} {x : Int} (h : l[i]? = some x) (acc : List N) (ks : List Int) :
  kidsF f (l.drop i) acc ks = match f x acc with
   | none => none
   | some l' => kidsF f (l.drop (i + 1)) l' (ks ++ [(l'.length : Int) - 1]) := by
 have c1 := get_lt h
 rw [List.drop_eq_getElem_cons c1]
 rw [List.getElem?_eq_getElem c1] at h
 simp only [Option.some.injEq] at h
 rw [h]
 rfl
theorem Acc.isSl {σ : Store} {v : V} {l : List N} {lo : Nat} {ls : List Nat} (h : Acc σ v l lo ls) (hl : l ≠ []) : ∃ t : Tr, v = t.sl := by
 rcases h with ⟨rfl, rfl, rfl⟩ | ⟨t, rfl, _⟩
 ·exact absurd rfl hl
 ·exact ⟨t, rfl⟩
theorem appendA (l : List Int) (hl : l.length * 8 ≤ 140737488355328) (q : Nat) : ∃ g, ∀ ρ : Store, ρ.length = q → appendV S.ty (ρ ++ [.cells [] 0 0]) [35, 35] (.sl q 0 0 0 1) (.t (.list (l.map R1))) = some (.sl q g 0 l.length 1, ρ ++ [.cells (ints l) g 0]) := by
 by_cases h0 : l = []
 ·subst h0
  exact ⟨0, fun ρ _ => appendI0⟩
 ·refine ⟨1, fun ρ hρ => ?_⟩
  subst hρ
  have := appendI (σ := ρ ++ [.cells [] 0 0]) (p := ρ.length) (g := 0) (w := 0) (old := []) (l := l) (by rw [getA]; rfl) (by simpa using hl) h0
  simp only [List.length_nil, Nat.zero_add, List.nil_append] at this
  rw [this, setA]
  rfl
theorem put_ok (nodes : List N) (ox : T) (swap : Int) (g : List N → Option (List N)) (hl : nodes.length ≤ 1048576) (hn : ∀ n ∈ nodes, n.fit) (hr : rightFrom 0 nodes = true) (p lo : Nat)
  (hg : 0 ≤ swap → ∃ om : List N, ox = Ls om ∧ om.length ≤ 1048576 ∧ ∀ lo, PutOk p lo (.agg [ox]) ((om.length : Int) - 1) (-1) (.agg [.nils]) g) :
  ∀ (n : Nat) (at_ : Nat), at_ < n → at_ < nodes.length → PutOk p lo (encT nodes) at_ swap (.agg [ox]) (ex nodes swap g n at_) := by
 intro n
 induction n with
 | zero => intro at_ h; omega
 | succ n ih =>
  intro at_ hat hat2 σ v l ls hplo hlo hl60 hp hacc
  have hpl : p < σ.length := get_lt hp
  rw [LD_inl (A := A28) rfl rfl rfl]
  have key : ∃ v1 σ', LV S 28 [.ptr p 0 0 1, .t (encT nodes), .t (I at_), .t (I swap), .t (.agg [ox])] σ = some (v1, σ') ∧ ∃ b, v1 = .t (B b) ∧ Res cS p lo σ ls (ex nodes swap g (n + 1) at_ l) b σ' := by
   refine LV_bodyP (A := A28) rfl Tryz.func28 rfl ?_
   repeat apply wS
   refine wR (by simp; constructor <;> rfl) ?_
   try simp only [tq]
   repeat apply wS
   refine wR (by simp; constructor <;> rfl) ?_
   try simp only [tq]
   by_cases hsw : (at_ : Int) = swap
   ·repeat apply wS
    refine wC (t := true) (by simp [hsw]) ?_
    simp only [iq]
    obtain ⟨om, rfl, hol, hput⟩ := hg (by omega)
    have hput := hput lo
    obtain ⟨b, σ', e1, e2⟩ := hput (σ ++ [.cells [.t (Ls nodes)] 0 0, .cells [.t (Ls om)] 0 0]) v l ls hplo (by simp; omega) hl60 (by rw [getC hpl, hp]) (hacc.keep (by simp) fun i hi => List.getElem?_append_left (hacc.lt hi).2)
    repeat apply wS
    refine wR (by simp [getA, getB, IntWalk.i64_in ((om.length : Int) - 1) (by omega), buildV, fieldSizes, fillV, e1]; constructor <;> rfl) ?_
    try simp only [tq]
    refine W_ret ?_
    try simp only [tq]
    refine ⟨trivial, _, (by simp [Tryz.f28]), b, rfl, ?_⟩
    rw [ex, if_pos hsw]
    cases hgl : g l with
    | none =>
     rw [hgl] at e2
     obtain ⟨e3, h5, h6⟩ := e2
     simp only [List.length_append, List.length_cons, List.length_nil] at h5 h6
     exact ⟨e3, by omega, fun i hi a b => by rw [h6 i (by omega) a b, List.getElem?_append_left hi]⟩
    | some l' =>
     rw [hgl] at e2
     unfold Res at e2 ⊢
     simp only at e2 ⊢
     obtain ⟨rfl, h1, h2, v', ls', h3, h4, h5, h6, h7⟩ := e2
     simp only [List.length_append, List.length_cons, List.length_nil] at h5 h6 h7
     refine ⟨rfl, h1, h2, v', ls', h3, h4, by omega, fun i hi a b => ?_, fun y hy => ?_⟩
     ·rw [h6 i (by omega) a b, List.getElem?_append_left hi]
     ·rcases h7 y hy with h8 | h8
      ·exact .inl h8
      ·exact .inr (by omega)
   ·repeat apply wS
    refine wC (t := false) (by simp [hsw]) ?_
    simp only [iq]
    refine W_skip ?_
    try simp only [tq]
    obtain ⟨x, hx⟩ : ∃ x, nodes[at_]? = some x := ⟨nodes[at_], by simp [hat2]⟩
    have hxf := hn x (List.mem_of_getElem? hx)
    have hah := right_get nodes 0 at_ x hr hx
    rw [Int.zero_add] at hah
    have hex : ex nodes swap g (n + 1) at_ l = match kidsF (ex nodes swap g n) x.kids l [] with
      | none => none
      | some (l', ks) => if l'.length + 1 ≤ 60 then some (l' ++ [{ x with kids := ks }]) else none := by
     rw [ex, if_neg hsw]
     simp only [Int.toNat_natCast, hx]
     all_goals rfl
    repeat apply wS
    refine wR (by simp [getA, getB, setA, setB, hx, setRange]; constructor <;> rfl) ?_
    try simp only [tq]
    repeat apply wS
    refine wR (by simp [sliceCells]; constructor <;> rfl) ?_
    try simp only [tq]
    repeat apply wS
    refine wR (by simp; constructor <;> rfl) ?_
    try simp only [tq]
    rw [hex]
    repeat apply wS
    refine W_block ?_
    refine W_loop (I := fun q st τ => ∃ (j : Nat) (v' : V) (l' : List N) (ls' : List Nat) (ks : List Int), q = x.kids.length - j ∧ j ≤ x.kids.length ∧ ks.length = j ∧ l'.length ≤ 60 ∧ kidsF (ex nodes swap g n) (x.kids.drop j) l' ks = kidsF (ex nodes swap g n) x.kids l [] ∧
     st.vars = [(0, .ptr p 0 0 1), (1, .t (encT nodes)), (2, .t (I at_)), (3, .t (I swap)), (4, .t (.agg [ox])), (6, .ptr σ.length 0 0 1), (9, .ptr (σ.length + 1) 0 0 1), (10, .t (B false)), (11, .ptr (σ.length + 2) 0 0 6), (12, .sl (σ.length + 3) j 0 j 1), (13, .t (I j))] ∧
     τ[σ.length]? = some (.cells [.t (Ls nodes)] 0 0) ∧ τ[σ.length + 1]? = some (.cells [.t ox] 0 0) ∧ τ[σ.length + 2]? = some (.cells ((encC x).map V.t) 0 0) ∧ τ[σ.length + 3]? = some (.cells (ints ks) j 0) ∧
     τ[p]? = some (.cells [v'] 0 0) ∧ Acc τ v' l' lo ls' ∧ (∀ i, i < σ.length → i ≠ p → i ∉ ls → τ[i]? = σ[i]?) ∧ (∀ y ∈ ls', y ∈ ls ∨ σ.length + 4 ≤ y) ∧ σ.length + 4 ≤ τ.length) ?_ x.kids.length _ _
     ⟨0, v, l, ls, [], rfl, Nat.zero_le _, rfl, hl60, rfl, by simp, by rw [getA]; rfl, by rw [getB]; rfl, by rw [getB]; rfl, by rw [getB]; rfl, by rw [getC hpl, hp], hacc.keep (by simp) (fun i hi => List.getElem?_append_left (hacc.lt hi).2), fun i hi _ _ => List.getElem?_append_left hi, fun y hy => .inl hy, by simp⟩
    rintro q ⟨vars, scr⟩ τ ⟨j, v', l', ls', ks, rfl, hj, hks, hl'60, hkf, hv, t0, t1, t2, t3, tp, hacc', hfr, hls, hτl⟩
    simp only at hv
    subst hv
    have hfar : ∀ y ∈ ls', y < σ.length ∨ σ.length + 4 ≤ y := fun y hy => (hls y hy).elim (fun h => .inl (hacc.lt h).2) .inr
    have hpls : p ∉ ls' := fun h => (hls p h).elim (fun h => hplo h) fun h => by omega
    repeat apply wS
    refine wR (by simp [t2]; constructor <;> rfl) ?_
    try simp only [tq]
    by_cases c1 : j < x.kids.length
    ·repeat apply wS
     refine wC (t := true) (by simp [c1]) ?_
     simp only [iq]
     refine W_skip ?_
     try simp only [tq]
     repeat apply wS
     refine W_block ?_
     obtain ⟨y, hy⟩ : ∃ y, x.kids[j]? = some y := ⟨x.kids[j], by simp [c1]⟩
     have hyr := ahead_get hah hy
     obtain ⟨yn, rfl⟩ : ∃ yn : Nat, y = yn := ⟨y.toNat, by omega⟩
     obtain ⟨b, σ', e1, e2⟩ := ih yn (by omega) (by omega) τ v' l' ls' hpls (by omega) hl'60 tp hacc'
     have hkd := kidsF_drop (f := ex nodes swap g n) hy l' ks
     rw [hkf] at hkd
     repeat apply wS
     refine wR (by simp [t0, t1, t2, hy, e1]; constructor <;> rfl) ?_
     try simp only [tq]
     cases hf : ex nodes swap g n yn l' with
     | none =>
      rw [hf] at hkd e2
      obtain ⟨this, h5, h6⟩ := e2
      subst this
      repeat apply wS
      refine wC (t := true) (by simp) ?_
      simp only [iq]
      repeat apply wS
      refine wR (by simp; constructor <;> rfl) ?_
      try simp only [tq]
      refine W_ret ?_
      try simp only [tq]
      refine ⟨trivial, _, (by simp [Tryz.f28]), false, rfl, ?_⟩
      rw [hkd]
      refine ⟨rfl, by omega, fun i hi a b => ?_⟩
      rw [h6 i (by omega) a ?_, hfr i hi a b]
      intro h
      rcases hls i h with h8 | h8
      ·exact b h8
      ·omega
     | some l2 =>
      rw [hf] at hkd e2
      obtain ⟨rfl, h1, h2, v2, ls2, h3, h4, h5, h6, h7⟩ := e2
      simp only at hkd
      have hfar2 : ∀ y ∈ ls2, y < σ.length ∨ σ.length + 4 ≤ y := fun y hy => (h7 y hy).elim (fun h => hfar y h) fun h => .inr (by omega)
      have u : ∀ i, i < 4 → σ'[σ.length + i]? = τ[σ.length + i]? := fun i hi => h6 _ (by omega) (by omega) fun h => by have := hfar _ h; omega
      have u3 : σ'[σ.length + 3]? = some (.cells (ints ks) j 0) := by rw [u 3 (by omega), t3]
      have ea := appendI (σ := σ') (p := σ.length + 3) (g := j) (w := 0) (old := ks) (l := [(l2.length : Int) - 1]) u3 (by simp only [List.length_cons, List.length_nil, hks]; have := hxf.2; omega) (by simp)
      rw [hks] at ea
      simp only [List.map_cons, List.map_nil, List.length_cons, List.length_nil, Nat.zero_add] at ea
      repeat apply wS
      refine wC (t := false) (by simp) ?_
      simp only [iq]
      refine W_skip ?_
      try simp only [tq]
      repeat apply wS
      refine wR (by simp [h3, h4.len, IntWalk.i64_in ((l2.length : Int) - 1) (by omega), sliceCells, fillV, repZero, List.range, List.range.loop, setRange, chunk, ea]; constructor <;> rfl) ?_
      try simp only [tq]
      repeat apply wS
      refine wR (by simp [IntWalk.i64_in ((j : Int) + 1) (by have := hxf.2; omega)]; constructor <;> rfl) ?_
      try simp only [tq]
      have hne : ∀ i, i ≠ σ.length + 3 → (σ'.set (σ.length + 3) (.cells (ints (ks ++ [(l2.length : Int) - 1])) (j + 1) 0))[i]? = σ'[i]? := fun i hi => List.getElem?_set_ne (Ne.symm hi)
      refine ⟨x.kids.length - (j + 1), by omega, j + 1, v2, l2, ls2, ks ++ [(l2.length : Int) - 1], rfl, c1, by simp [hks], h2, hkd.symm, by simp, ?_, ?_, ?_, ?_, ?_, ?_, ?_, ?_, ?_⟩
      ·rw [hne _ (by omega)]; have := u 0 (by omega); rw [Nat.add_zero] at this; rw [this, t0]
      ·rw [hne _ (by omega), u 1 (by omega), t1]
      ·rw [hne _ (by omega), u 2 (by omega), t2]
      ·rw [List.getElem?_set_self (by omega)]
      ·rw [hne _ (by omega), h3]
      ·exact h4.keep (by simp) fun i hi => hne i (by have := hfar2 i hi; omega)
      ·intro i hi a b
       rw [hne i (by omega), h6 i (by omega) a ?_, hfr i hi a b]
       intro h
       rcases hls i h with h8 | h8
       ·exact b h8
       ·omega
      ·intro y hy
       rcases h7 y hy with h8 | h8
       ·exact hls y h8
       ·exact .inr (by omega)
      ·rw [List.length_set]; omega
    ·repeat apply wS
     refine wC (t := false) (by simp [c1]) ?_
     simp only [iq]
     repeat apply wS
     refine W_exit ?_
     try simp only [tq, if_true]
     have : j = x.kids.length := by omega
     subst this
     rw [List.drop_length] at hkf
     simp only [kidsF] at hkf
     rw [← hkf]
     have hkl : x.kids.length ≤ 1048576 := hxf.2
     have hal : x.args.length ≤ 1048576 := hxf.1
     obtain ⟨ga, hga⟩ := appendA x.args (by omega) τ.length
     have w2 : σ.length + 2 < τ.length := by omega
     have L1 : ∀ X r, (τ.set (σ.length + 2) X ++ r)[σ.length + 2]? = some X := fun X r => by
      rw [List.getElem?_append_left (by rw [List.length_set]; exact w2), List.getElem?_set_self w2]
     have S1 : ∀ X Y r, (τ.set (σ.length + 2) X ++ r).set (σ.length + 2) Y = τ.set (σ.length + 2) Y ++ r := fun X Y r => by
      rw [List.set_append_left _ _ (by rw [List.length_set]; exact w2), List.set_set]
     have O1 : ∀ X r i, i < τ.length → i ≠ σ.length + 2 → (τ.set (σ.length + 2) X ++ r)[i]? = τ[i]? := fun X r i h1 h2 => by
      rw [List.getElem?_append_left (by rw [List.length_set]; exact h1), List.getElem?_set_ne (Ne.symm h2)]
     have P1 : ∀ X r, (τ.set (σ.length + 2) X ++ r)[p]? = some (.cells [v'] 0 0) := fun X r => by rw [O1 X r p (by omega) (by omega), tp]
     repeat apply wS
     refine wR (by simp [t2, setRange1]; constructor <;> rfl) ?_
     try simp only [tq]
     repeat apply wS
     refine wR (by simp [sliceCells, L1, S1, hga, setRange1]; constructor <;> rfl) ?_
     try simp only [tq]
     obtain ⟨m, hm⟩ : ∃ m : Nd, m = { rule := x.rule, alt := x.alt, args := ⟨τ.length, ga, x.args⟩, fr := x.fr, to := x.to, kids := ⟨σ.length + 3, x.kids.length, ks⟩ } := ⟨_, rfl⟩
     have hmcs : m.cs = [.t (I x.rule), .t (I x.alt), .sl τ.length ga 0 x.args.length 1, .t (I x.fr), .t (I x.to), .sl (σ.length + 3) x.kids.length 0 x.kids.length 1] := by
      rw [hm]; simp [Nd.cs, Sl.v, hks]
     obtain ⟨τ3, hτ3⟩ : ∃ τ3, τ3 = τ.set (σ.length + 2) (.cells [.t (I x.rule), .t (I x.alt), .sl τ.length ga 0 x.args.length 1, .t (I x.fr), .t (I x.to), .sl (σ.length + 3) x.kids.length 0 x.kids.length 1] 0 0) ++ [.cells (ints x.args) ga 0, .cells [.t (I x.rule), .t (I x.alt), .sl τ.length ga 0 x.args.length 1, .t (I x.fr), .t (I x.to), .sl (σ.length + 3) x.kids.length 0 x.kids.length 1] 0 0] := ⟨_, rfl⟩
     have hlen3 : τ3.length = τ.length + 2 := by rw [hτ3]; simp
     have old3 : ∀ i, i < τ.length → i ≠ σ.length + 2 → τ3[i]? = τ[i]? := fun i h1 h2 => by rw [hτ3]; exact O1 _ _ i h1 h2
     have new3 : ∀ k, τ3[τ.length + k]? = ([.cells (ints x.args) ga 0, .cells [.t (I x.rule), .t (I x.alt), .sl τ.length ga 0 x.args.length 1, .t (I x.fr), .t (I x.to), .sl (σ.length + 3) x.kids.length 0 x.kids.length 1] 0 0] : Store)[k]? := fun k => by
      rw [hτ3, List.getElem?_append_right (by rw [List.length_set]; omega), List.length_set, Nat.add_sub_cancel_left]
     have hacc3 : Acc τ3 v' l' lo ls' := hacc'.keep (by omega) fun i hi => old3 i (hacc'.lt hi).2 (by have := hfar i hi; omega)
     have hmin : m.In τ3 := by
      subst hm
      exact ⟨⟨0, Nat.zero_le _, new3 0⟩, ⟨0, Nat.zero_le _, (old3 (σ.length + 3) (by omega) (by omega)).trans t3⟩⟩
     have hka : m.args.loc = τ.length := by rw [hm]
     have hkk : m.kids.loc = σ.length + 3 := by rw [hm]
     obtain ⟨v4, σ4, ls4, ea, el, eacc, els, efr⟩ := appendN hacc3 (q := τ.length + 1) (m := m) (by rw [new3 1, hmcs]; rfl) hmin (by omega)
      (by omega) (by omega) (by omega)
      (by intro h; have := (hacc'.lt h).2; omega) (by intro h; have := hfar _ h; omega) hl'60
     obtain ⟨t4, rfl⟩ := eacc.isSl (by simp)
     have hp4 : σ4[p]? = some (.cells [v'] 0 0) := by
      rw [efr p (by omega) hpls, old3 p (by omega) (by omega), tp]
     have hmn : m.n = { x with kids := ks } := by rw [hm]
     rw [hmn] at eacc
     rw [hτ3] at ea
     have hp5 : ∀ X, (σ4.set p X)[p]? = some X := fun X => List.getElem?_set_self (by omega)
     repeat apply wS
     refine wR (by simp [P1, L1, sliceCells, fillV, repZero, List.range, List.range.loop, setRange, ea, hp4, setRange1]; constructor <;> rfl) ?_
     try simp only [tq]
     repeat apply wS
     refine wR (by simp [hp5, eacc.len]; constructor <;> rfl) ?_
     try simp only [tq]
     refine W_ret ?_
     try simp only [tq]
     refine ⟨trivial, _, (by simp [Tryz.f28]; rfl), decide (l'.length + 1 ≤ 60), (by have e : decide ((l'.length : Int) + 1 ≤ 60) = decide (l'.length + 1 ≤ 60) := (by simp only [decide_eq_decide]; omega); rw [e]), ?_⟩
     have hfr5 : ∀ X, ∀ i, i < σ.length → i ≠ p → i ∉ ls → (σ4.set p X)[i]? = σ[i]? := fun X i h1 h2 h3 => by
      rw [List.getElem?_set_ne (Ne.symm h2), efr i (by omega) ?_, old3 i (by omega) (by omega), hfr i h1 h2 h3]
      intro h
      rcases hls i h with h8 | h8
      ·exact h3 h8
      ·omega
     by_cases h60 : l'.length + 1 ≤ 60
     ·rw [if_pos h60]
      refine ⟨by simp [h60], by simp, by simpa using h60, t4.sl, ls4, hp5 _, eacc.keep (by simp) fun i hi => ?_, by rw [List.length_set]; omega, fun i h1 h2 h3 => ?_, fun y hy => ?_⟩
      ·rw [List.getElem?_set_ne]
       intro e
       subst e
       rcases els _ hi with h8 | h8 | h8 | h8
       ·exact hpls h8
       ·omega
       ·omega
       ·omega
      ·rw [List.getElem?_set_ne (Ne.symm h2), efr i (by omega) ?_, old3 i (by omega) (by omega), hfr i h1 h2 h3]
       intro h
       rcases hls i h with h8 | h8
       ·exact h3 h8
       ·omega
      ·rcases els y hy with h8 | h8 | h8 | h8
       ·rcases hls y h8 with h9 | h9
        ·exact .inl h9
        ·exact .inr (by omega)
       ·exact .inr (by omega)
       ·exact .inr (by omega)
       ·exact .inr (by omega)
     ·rw [if_neg h60]
      exact ⟨by simp [h60], by rw [List.length_set]; omega, hfr5 _⟩
  obtain ⟨v1, σ', e1, b, rfl, e2⟩ := key
  exact ⟨b, σ', e1, e2⟩
end Y
namespace Y
open X
attribute [-simp] lenV idxV setRange
abbrev cT (v : V) : List V := [v, .t (B false)]
/-- There are too many. -/
def Full (p : Nat) (σ : Store) (ls : List Nat) (σ' : Store) : Prop :=
 ∃ v', σ'[p]? = some (.cells [v', .t (B true)] 0 0) ∧ (∀ τ e, lenV τ (.slice e) v' = some 60) ∧ σ.length ≤ σ'.length ∧ ∀ i, i < σ.length → i ≠ p → i ∉ ls → σ'[i]? = σ[i]?
def ResT (p lo : Nat) (σ : Store) (ls : List Nat) (r : Option (List N)) (k : Int) (σ' : Store) : Prop := match r with
 | none => Full p σ ls σ'
 | some l' => k = (l'.length : Int) - 1 ∧ Post cT p lo σ ls l' σ'
def TakeOk (p lo : Nat) (tt : T) (at_ swap : Int) (oth : T) (r : List N → Option (List N)) : Prop :=
 ∀ (σ : Store) (v : V) (l : List N) (ls : List Nat), p ∉ ls → lo ≤ σ.length → l.length ≤ 60 → σ[p]? = some (.cells (cT v) 0 0) → Acc σ v l lo ls →
   ∃ k σ', LD S 20 [.ptr p 0 0 2, .t tt, .t (I at_), .t (I swap), .t oth] σ = some (.t (I k), σ') ∧ ResT p lo σ ls (r l) k σ'
theorem take_ok (nodes : List N) (ox : T) (swap : Int) (g : List N → Option (List N)) (hl : nodes.length ≤ 1048576) (hn : ∀ n ∈ nodes, n.fit) (hr : rightFrom 0 nodes = true) (p lo : Nat)
  (hg : 0 ≤ swap → ∃ om : List N, ox = Ls om ∧ om.length ≤ 1048576 ∧ ∀ lo, TakeOk p lo (.agg [ox]) ((om.length : Int) - 1) (-1) (.agg [.nils]) g) :
  ∀ (n : Nat) (at_ : Nat), at_ < n → at_ < nodes.length → TakeOk p lo (encT nodes) at_ swap (.agg [ox]) (ex nodes swap g n at_) := by
 intro n
 induction n with
 | zero => intro at_ h; omega
 | succ n ih =>
  intro at_ hat hat2 σ v l ls hplo hlo hl60 hp hacc
  have hpl : p < σ.length := get_lt hp
  rw [LD_inl (A := A20) rfl rfl rfl]
  have key : ∃ v1 σ', LV S 20 [.ptr p 0 0 2, .t (encT nodes), .t (I at_), .t (I swap), .t (.agg [ox])] σ = some (v1, σ') ∧ ∃ b, v1 = .t (I b) ∧ ResT p lo σ ls (ex nodes swap g (n + 1) at_ l) b σ' := by
   refine LV_bodyP (A := A20) rfl Tryz.func20 rfl ?_
   repeat apply wS
   refine wR (by simp; constructor <;> rfl) ?_
   try simp only [tq]
   repeat apply wS
   refine wR (by simp; constructor <;> rfl) ?_
   try simp only [tq]
   by_cases hsw : (at_ : Int) = swap
   ·repeat apply wS
    refine wC (t := true) (by simp [hsw]) ?_
    simp only [iq]
    obtain ⟨om, rfl, hol, hput⟩ := hg (by omega)
    have hput := hput lo
    obtain ⟨b, σ', e1, e2⟩ := hput (σ ++ [.cells [.t (Ls nodes)] 0 0, .cells [.t (Ls om)] 0 0]) v l ls hplo (by simp; omega) hl60 (by rw [getC hpl, hp]) (hacc.keep (by simp) fun i hi => List.getElem?_append_left (hacc.lt hi).2)
    repeat apply wS
    refine wR (by simp [getA, getB, IntWalk.i64_in ((om.length : Int) - 1) (by omega), buildV, fieldSizes, fillV, e1]; constructor <;> rfl) ?_
    try simp only [tq]
    refine W_ret ?_
    try simp only [tq]
    refine ⟨trivial, _, (by simp [Tryz.f20]), b, rfl, ?_⟩
    rw [ex, if_pos hsw]
    cases hgl : g l with
    | none =>
     rw [hgl] at e2
     obtain ⟨v', h3, h4, h5, h6⟩ := e2
     simp only [List.length_append, List.length_cons, List.length_nil] at h5 h6
     exact ⟨v', h3, h4, by omega, fun i hi a b => by rw [h6 i (by omega) a b, List.getElem?_append_left hi]⟩
    | some l' =>
     rw [hgl] at e2
     obtain ⟨hk, h1, h2, v', ls', h3, h4, h5, h6, h7⟩ := e2
     simp only [List.length_append, List.length_cons, List.length_nil] at h5 h6 h7
     refine ⟨hk, h1, h2, v', ls', h3, h4, by omega, fun i hi a b => ?_, fun y hy => ?_⟩
     ·rw [h6 i (by omega) a b, List.getElem?_append_left hi]
     ·rcases h7 y hy with h8 | h8
      ·exact .inl h8
      ·exact .inr (by omega)
   ·repeat apply wS
    refine wC (t := false) (by simp [hsw]) ?_
    simp only [iq]
    refine W_skip ?_
    try simp only [tq]
    obtain ⟨x, hx⟩ : ∃ x, nodes[at_]? = some x := ⟨nodes[at_], by simp [hat2]⟩
    have hxf := hn x (List.mem_of_getElem? hx)
    have hkl : x.kids.length ≤ 1048576 := hxf.2
    have hal : x.args.length ≤ 1048576 := hxf.1
    have hah := right_get nodes 0 at_ x hr hx
    rw [Int.zero_add] at hah
    have hex : ex nodes swap g (n + 1) at_ l = match kidsF (ex nodes swap g n) x.kids l [] with
      | none => none
      | some (l', ks) => if l'.length + 1 ≤ 60 then some (l' ++ [{ x with kids := ks }]) else none := by
     rw [ex, if_neg hsw]
     simp only [Int.toNat_natCast, hx]
     all_goals rfl
    repeat apply wS
    refine wR (by simp [getA, getB, setA, setB, hx, setRange]; constructor <;> rfl) ?_
    try simp only [tq]
    repeat apply wS
    refine wR (by simp [sliceCells]; constructor <;> rfl) ?_
    try simp only [tq]
    repeat apply wS
    refine wR (by simp [getA, getB]; constructor <;> rfl) ?_
    try simp only [tq]
    rw [hex]
    repeat apply wS
    refine W_block ?_
    refine W_loop (I := fun q st τ => ∃ (j : Nat) (v' : V) (ks : List Int), q = x.kids.length - j ∧ j ≤ x.kids.length ∧ ks.length = j ∧
     st.vars = [(0, .ptr p 0 0 2), (1, .t (encT nodes)), (2, .t (I at_)), (3, .t (I swap)), (4, .t (.agg [ox])), (6, .ptr σ.length 0 0 1), (9, .ptr (σ.length + 1) 0 0 1), (10, .t (I 0)), (11, .ptr (σ.length + 2) 0 0 6), (12, .sl (σ.length + 3) j 0 j 1), (34, .t (L x.kids)), (35, .t (I x.kids.length)), (36, .t (I j))] ∧
     τ[σ.length]? = some (.cells [.t (Ls nodes)] 0 0) ∧ τ[σ.length + 1]? = some (.cells [.t ox] 0 0) ∧ τ[σ.length + 2]? = some (.cells ((encC x).map V.t) 0 0) ∧ τ[σ.length + 3]? = some (.cells (ints ks) j 0) ∧
     (∀ i, i < σ.length → i ≠ p → i ∉ ls → τ[i]? = σ[i]?) ∧ σ.length + 4 ≤ τ.length ∧
     ((∃ (l' : List N) (ls' : List Nat), τ[p]? = some (.cells (cT v') 0 0) ∧ l'.length ≤ 60 ∧ kidsF (ex nodes swap g n) (x.kids.drop j) l' ks = kidsF (ex nodes swap g n) x.kids l [] ∧ Acc τ v' l' lo ls' ∧ ∀ y ∈ ls', y ∈ ls ∨ σ.length + 4 ≤ y) ∨
      (τ[p]? = some (.cells [v', .t (B true)] 0 0) ∧ (∀ τ e, lenV τ (.slice e) v' = some 60) ∧ kidsF (ex nodes swap g n) x.kids l [] = none))) ?_ x.kids.length _ _
     ⟨0, v, [], rfl, Nat.zero_le _, rfl, by simp, by rw [getA]; rfl, by rw [getB]; rfl, by rw [getB]; rfl, by rw [getB]; rfl, fun i hi _ _ => List.getElem?_append_left hi, by simp, .inl ⟨l, ls, by rw [getC hpl, hp], hl60, rfl, hacc.keep (by simp) (fun i hi => List.getElem?_append_left (hacc.lt hi).2), fun y hy => .inl hy⟩⟩
    rintro q ⟨vars, scr⟩ τ ⟨j, v', ks, rfl, hj, hks, hv, t0, t1, t2, t3, hfr, hτl, hph⟩
    simp only at hv
    subst hv
    repeat apply wS
    refine wR (by simp; constructor <;> rfl) ?_
    try simp only [tq]
    by_cases c1 : j < x.kids.length
    ·repeat apply wS
     refine wC (t := true) (by simp [c1]) ?_
     simp only [iq]
     refine W_skip ?_
     try simp only [tq]
     repeat apply wS
     refine W_block ?_
     obtain ⟨y, hy⟩ : ∃ y, x.kids[j]? = some y := ⟨x.kids[j], by simp [c1]⟩
     have hyr := ahead_get hah hy
     obtain ⟨yn, rfl⟩ : ∃ yn : Nat, y = yn := ⟨y.toNat, by omega⟩
     repeat apply wS
     refine wR (by simp [hy]; constructor <;> rfl) ?_
     try simp only [tq]
     rcases hph with ⟨l', ls', tp, hl'60, hkf, hacc', hls⟩ | ⟨tp, hv60, hkf⟩
     ·have hfar : ∀ y ∈ ls', y < σ.length ∨ σ.length + 4 ≤ y := fun y hy => (hls y hy).elim (fun h => .inl (hacc.lt h).2) .inr
      have hpls : p ∉ ls' := fun h => (hls p h).elim (fun h => hplo h) fun h => by omega
      repeat apply wS
      refine wR (by simp [tp]; constructor <;> rfl) ?_
      try simp only [tq]
      repeat apply wS
      refine wC (t := false) (by simp) ?_
      simp only [iq]
      refine W_skip ?_
      try simp only [tq]
      obtain ⟨b, σ', e1, e2⟩ := ih yn (by omega) (by omega) τ v' l' ls' hpls (by omega) hl'60 tp hacc'
      have hkd := kidsF_drop (f := ex nodes swap g n) hy l' ks
      rw [hkf] at hkd
      repeat apply wS
      refine wR (by simp [t0, t1, t2, hy, e1]; constructor <;> rfl) ?_
      try simp only [tq]
      cases hf : ex nodes swap g n yn l' with
      | none =>
       rw [hf] at hkd e2
       obtain ⟨v2, h3, h60, h5, h6⟩ := e2
       have u : ∀ i, i < 4 → σ'[σ.length + i]? = τ[σ.length + i]? := fun i hi => h6 _ (by omega) (by omega) fun h => by have := hfar _ h; omega
       have u3 : σ'[σ.length + 3]? = some (.cells (ints ks) j 0) := by rw [u 3 (by omega), t3]
       have ea := appendI (σ := σ') (p := σ.length + 3) (g := j) (w := 0) (old := ks) (l := [b]) u3 (by simp only [List.length_cons, List.length_nil, hks]; omega) (by simp)
       rw [hks] at ea
       simp only [List.map_cons, List.map_nil, List.length_cons, List.length_nil, Nat.zero_add] at ea
       repeat apply wS
       refine wR (by simp [sliceCells, fillV, repZero, List.range, List.range.loop, setRange, chunk, ea]; constructor <;> rfl) ?_
       try simp only [tq]
       repeat apply wS
       refine wR (by simp [IntWalk.i64_in ((j : Int) + 1) (by omega)]; constructor <;> rfl) ?_
       try simp only [tq]
       have hne : ∀ i, i ≠ σ.length + 3 → (σ'.set (σ.length + 3) (.cells (ints (ks ++ [b])) (j + 1) 0))[i]? = σ'[i]? := fun i hi => List.getElem?_set_ne (Ne.symm hi)
       refine ⟨x.kids.length - (j + 1), by omega, j + 1, v2, ks ++ [b], rfl, c1, by simp [hks], by simp [Env.drop], ?_, ?_, ?_, ?_, ?_, ?_, .inr ⟨?_, h60, hkd⟩⟩
       ·rw [hne _ (by omega)]; have := u 0 (by omega); rw [Nat.add_zero] at this; rw [this, t0]
       ·rw [hne _ (by omega), u 1 (by omega), t1]
       ·rw [hne _ (by omega), u 2 (by omega), t2]
       ·rw [List.getElem?_set_self (by omega)]
       ·intro i hi a b
        rw [hne i (by omega), h6 i (by omega) a ?_, hfr i hi a b]
        intro h
        rcases hls i h with h8 | h8
        ·exact b h8
        ·omega
       ·rw [List.length_set]; omega
       ·rw [hne _ (by omega), h3]
      | some l2 =>
       rw [hf] at hkd e2
       obtain ⟨hb, h1, h2, v2, ls2, h3, h4, h5, h6, h7⟩ := e2
       simp only at hkd
       have hfar2 : ∀ y ∈ ls2, y < σ.length ∨ σ.length + 4 ≤ y := fun y hy => (h7 y hy).elim (fun h => hfar y h) fun h => .inr (by omega)
       have u : ∀ i, i < 4 → σ'[σ.length + i]? = τ[σ.length + i]? := fun i hi => h6 _ (by omega) (by omega) fun h => by have := hfar _ h; omega
       have u3 : σ'[σ.length + 3]? = some (.cells (ints ks) j 0) := by rw [u 3 (by omega), t3]
       have ea := appendI (σ := σ') (p := σ.length + 3) (g := j) (w := 0) (old := ks) (l := [b]) u3 (by simp only [List.length_cons, List.length_nil, hks]; omega) (by simp)
       rw [hks] at ea
       simp only [List.map_cons, List.map_nil, List.length_cons, List.length_nil, Nat.zero_add] at ea
       repeat apply wS
       refine wR (by simp [sliceCells, fillV, repZero, List.range, List.range.loop, setRange, chunk, ea]; constructor <;> rfl) ?_
       try simp only [tq]
       repeat apply wS
       refine wR (by simp [IntWalk.i64_in ((j : Int) + 1) (by omega)]; constructor <;> rfl) ?_
       try simp only [tq]
       have hne : ∀ i, i ≠ σ.length + 3 → (σ'.set (σ.length + 3) (.cells (ints (ks ++ [b])) (j + 1) 0))[i]? = σ'[i]? := fun i hi => List.getElem?_set_ne (Ne.symm hi)
       refine ⟨x.kids.length - (j + 1), by omega, j + 1, v2, ks ++ [b], rfl, c1, by simp [hks], by simp [Env.drop], ?_, ?_, ?_, ?_, ?_, ?_, .inl ⟨l2, ls2, ?_, h2, ?_, ?_, ?_⟩⟩
       ·rw [hne _ (by omega)]; have := u 0 (by omega); rw [Nat.add_zero] at this; rw [this, t0]
       ·rw [hne _ (by omega), u 1 (by omega), t1]
       ·rw [hne _ (by omega), u 2 (by omega), t2]
       ·rw [List.getElem?_set_self (by omega)]
       ·intro i hi a b
        rw [hne i (by omega), h6 i (by omega) a ?_, hfr i hi a b]
        intro h
        rcases hls i h with h8 | h8
        ·exact b h8
        ·omega
       ·rw [List.length_set]; omega
       ·rw [hne _ (by omega), h3]
       ·rw [hb]; exact hkd.symm
       ·exact h4.keep (by simp) fun i hi => hne i (by have := hfar2 i hi; omega)
       ·intro y hy
        rcases h7 y hy with h8 | h8
        ·exact hls y h8
        ·exact .inr (by omega)
     ·repeat apply wS
      refine wR (by simp [tp]; constructor <;> rfl) ?_
      try simp only [tq]
      repeat apply wS
      refine wC (t := true) (by simp) ?_
      simp only [iq]
      repeat apply wS
      refine wR (by simp; constructor <;> rfl) ?_
      try simp only [tq]
      refine W_ret ?_
      try simp only [tq]
      refine ⟨trivial, _, (by simp [Tryz.f20]), 0, rfl, ?_⟩
      rw [hkf]
      exact ⟨v', tp, hv60, by omega, hfr⟩
    ·repeat apply wS
     refine wC (t := false) (by simp [c1]) ?_
     simp only [iq]
     repeat apply wS
     refine W_exit ?_
     try simp only [tq, if_true]
     have : j = x.kids.length := by omega
     subst this
     have hpτ : p < τ.length := by omega
     have hps : ∀ X, (τ.set p X)[p]? = some X := fun X => List.getElem?_set_self hpτ
     rcases hph with ⟨l', ls', tp, hl'60, hkf, hacc', hls⟩ | ⟨tp, hv60, hkf⟩
     ·rw [List.drop_length] at hkf
      simp only [kidsF] at hkf
      rw [← hkf]
      have hfar : ∀ y ∈ ls', y < σ.length ∨ σ.length + 4 ≤ y := fun y hy => (hls y hy).elim (fun h => .inl (hacc.lt h).2) .inr
      have hpls : p ∉ ls' := fun h => (hls p h).elim (fun h => hplo h) fun h => by omega
      repeat apply wS
      refine wR (by simp [tp, hacc'.len]; constructor <;> rfl) ?_
      try simp only [tq]
      by_cases h60 : l'.length = 60
      ·repeat apply wS
       refine wC (t := true) (by simp [h60]) ?_
       simp only [iq]
       repeat apply wS
       refine wR (by simp [tp, setRange1]; constructor <;> rfl) ?_
       try simp only [tq]
       repeat apply wS
       refine wR (by simp; constructor <;> rfl) ?_
       try simp only [tq]
       refine W_ret ?_
       try simp only [tq]
       refine ⟨trivial, _, (by simp [Tryz.f20]), 0, rfl, ?_⟩
       rw [if_neg (by omega)]
       refine ⟨v', hps _, fun τ e => by rw [hacc'.len, h60]; rfl, by rw [List.length_set]; omega, fun i h1 h2 h3 => ?_⟩
       rw [List.getElem?_set_ne (Ne.symm h2), hfr i h1 h2 h3]
      ·have h60' : ¬ (l'.length : Int) = 60 := by omega
       repeat apply wS
       refine wC (t := false) (by simp [h60']) ?_
       simp only [iq]
       refine W_skip ?_
       try simp only [tq]
       rw [if_pos (by omega)]
       have w2 : σ.length + 2 < τ.length := by omega
       obtain ⟨ga, hga⟩ := copyInts_ld x.args (by omega) τ
       obtain ⟨m, hm⟩ : ∃ m : Nd, m = { rule := x.rule, alt := x.alt, args := ⟨τ.length, ga, x.args⟩, fr := x.fr, to := x.to, kids := ⟨σ.length + 3, x.kids.length, ks⟩ } := ⟨_, rfl⟩
       have hmcs : m.cs = [.t (I x.rule), .t (I x.alt), .sl τ.length ga 0 x.args.length 1, .t (I x.fr), .t (I x.to), .sl (σ.length + 3) x.kids.length 0 x.kids.length 1] := by
        rw [hm]; simp [Nd.cs, Sl.v, hks]
       obtain ⟨τ3, hτ3⟩ : ∃ τ3, τ3 = τ ++ [.cells (ints x.args) ga 0, .cells [.t (I x.rule), .t (I x.alt), .sl τ.length ga 0 x.args.length 1, .t (I x.fr), .t (I x.to), .sl (σ.length + 3) x.kids.length 0 x.kids.length 1] 0 0] := ⟨_, rfl⟩
       have hlen3 : τ3.length = τ.length + 2 := by rw [hτ3]; simp
       have old3 : ∀ i, i < τ.length → τ3[i]? = τ[i]? := fun i h1 => by rw [hτ3]; exact List.getElem?_append_left h1
       have new3 : ∀ k, τ3[τ.length + k]? = ([.cells (ints x.args) ga 0, .cells [.t (I x.rule), .t (I x.alt), .sl τ.length ga 0 x.args.length 1, .t (I x.fr), .t (I x.to), .sl (σ.length + 3) x.kids.length 0 x.kids.length 1] 0 0] : Store)[k]? := fun k => by
        rw [hτ3, getB]
       have hacc3 : Acc τ3 v' l' lo ls' := hacc'.keep (by omega) fun i hi => old3 i (hacc'.lt hi).2
       have hmin : m.In τ3 := by
        subst hm
        exact ⟨⟨0, Nat.zero_le _, new3 0⟩, ⟨0, Nat.zero_le _, (old3 (σ.length + 3) (by omega)).trans t3⟩⟩
       have hka : m.args.loc = τ.length := by rw [hm]
       have hkk : m.kids.loc = σ.length + 3 := by rw [hm]
       obtain ⟨v4, σ4, ls4, ea, el, eacc, els, efr⟩ := appendN hacc3 (q := τ.length + 1) (m := m) (by rw [new3 1, hmcs]; rfl) hmin (by omega)
        (by omega) (by omega) (by omega)
        (by intro h; have := (hacc'.lt h).2; omega) (by intro h; have := hfar _ h; omega) hl'60
       obtain ⟨t4, rfl⟩ := eacc.isSl (by simp)
       have hp4 : σ4[p]? = some (.cells [v', .t (B false)] 0 0) := by
        rw [efr p (by omega) hpls, old3 p (by omega), tp]
       have hx4 : σ4[σ.length + 2]? = some (.cells ((encC x).map V.t) 0 0) := by
        rw [efr _ (by omega) (fun h => by have := hfar _ h; omega), old3 _ (by omega), t2]
       have hmn : m.n = { x with kids := ks } := by rw [hm]
       rw [hmn] at eacc
       rw [hτ3] at ea
       have hp5 : ∀ X, (σ4.set p X)[p]? = some X := fun X => List.getElem?_set_self (by omega)
       have hx5 : ∀ X, (σ4.set p X)[σ.length + 2]? = some (.cells ((encC x).map V.t) 0 0) := fun X => by rw [List.getElem?_set_ne (by omega), hx4]
       have xa : ∀ r, (τ ++ r)[σ.length + 2]? = some (.cells ((encC x).map V.t) 0 0) := fun r => by rw [List.getElem?_append_left w2, t2]
       have pa : ∀ r, (τ ++ r)[p]? = some (.cells [v', .t (B false)] 0 0) := fun r => by rw [List.getElem?_append_left hpτ, tp]
       repeat apply wS
       refine W_regD (fun b => memN 4 (stops b 22)) (by kernel_rfl) rfl rfl (fun b hb => by
        simp (maxDischargeDepth := 12) [runOpsD, loadOf, chkH, live_all, okL_live, okL_nil, okL_cons, okAt_load, hb, t2, tp, hga, buildV, fieldSizes, sliceCells, fillV, repZero, List.range, List.range.loop, setRange, ea, hp4, hx4, hp5, hx5, xa, pa, setRange1]
        constructor <;> rfl) ?_
       try simp only [tq]
       repeat apply wS
       refine wR (by simp [hp5, eacc.len, IntWalk.i64_in (l'.length : Int) (by omega)]; constructor <;> rfl) ?_
       try simp only [tq]
       refine W_ret ?_
       try simp only [tq]
       refine ⟨trivial, _, (by simp [Tryz.f20]), l'.length, rfl, ?_⟩
       refine ⟨by simp, by simp, by simp; omega, t4.sl, ls4, hp5 _, eacc.keep (by simp) fun i hi => ?_, by rw [List.length_set]; omega, fun i h1 h2 h3 => ?_, fun y hy => ?_⟩
       ·rw [List.getElem?_set_ne]
        intro e
        subst e
        rcases els _ hi with h8 | h8 | h8 | h8
        ·exact hpls h8
        ·omega
        ·omega
        ·omega
       ·rw [List.getElem?_set_ne (Ne.symm h2), efr i (by omega) ?_, old3 i (by omega), hfr i h1 h2 h3]
        intro h
        rcases hls i h with h8 | h8
        ·exact h3 h8
        ·omega
       ·rcases els y hy with h8 | h8 | h8 | h8
        ·rcases hls y h8 with h9 | h9
         ·exact .inl h9
         ·exact .inr (by omega)
        ·exact .inr (by omega)
        ·exact .inr (by omega)
        ·exact .inr (by omega)
     ·repeat apply wS
      refine wR (by simp [tp, hv60]; constructor <;> rfl) ?_
      try simp only [tq]
      repeat apply wS
      refine wC (t := true) (by simp) ?_
      simp only [iq]
      repeat apply wS
      refine wR (by simp [tp, setRange1]; constructor <;> rfl) ?_
      try simp only [tq]
      repeat apply wS
      refine wR (by simp; constructor <;> rfl) ?_
      try simp only [tq]
      refine W_ret ?_
      try simp only [tq]
      refine ⟨trivial, _, (by simp [Tryz.f20]), 0, rfl, ?_⟩
      rw [hkf]
      refine ⟨v', hps _, hv60, by rw [List.length_set]; omega, fun i h1 h2 h3 => ?_⟩
      rw [List.getElem?_set_ne (Ne.symm h2), hfr i h1 h2 h3]
  obtain ⟨v1, σ', e1, b, rfl, e2⟩ := key
  exact ⟨b, σ', e1, e2⟩
end Y
namespace Y
open X
attribute [-simp] lenV idxV setRange
def inT (at_ : Int) (l : List N) : Bool := decide (0 ≤ at_) && decide (at_ ≤ (l.length : Int) - 1)
/-- what SubTree gives -/
def sub (l : List N) (at_ : Int) : Option (List N) :=
 if rightFrom 0 l && inT at_ l then ex l (-1) (fun _ => none) l.length at_ [] else none
def swp (l : List N) (at_ : Int) (m : List N) : Option (List N) :=
 if rightFrom 0 l && rightFrom 0 m && !m.isEmpty && inT at_ l then ex l at_ (ex m (-1) (fun _ => none) m.length ((m.length : Int) - 1)) l.length ((l.length : Int) - 1) [] else none
def Out0 (σ : Store) (v : V) (r : Option (List N)) : Prop :=
 ∃ w, v = mkTup [mkAgg [w], .t (B r.isSome)] ∧ TS σ w (r.getD []) 0 σ.length ∧ (r = none → w = .t .nils)
theorem Out0.none {σ : Store} : Out0 σ (.t (.tup [.agg [.nils], .bool false])) none := ⟨.t .nils, rfl, .inl ⟨rfl, rfl⟩, fun _ => rfl⟩
theorem TS.ne {σ : Store} {v : V} {l : List N} {lo hi : Nat} (h : TS σ v l lo hi) (hl : l ≠ []) : ∃ t : Tr, v = t.sl := by
 rcases h with ⟨rfl, rfl⟩ | ⟨t, rfl, _⟩
 ·exact absurd rfl hl
 ·exact ⟨t, rfl⟩
theorem specSub_lv (l : List N) (at_ : Int) (hl : l.length ≤ 1048576) (hn : ∀ n ∈ l, n.fit) : ∃ v σ0, LV S 13 [.t (encT l), .t (I at_)] [] = some (v, σ0) ∧ Out0 σ0 v (sub l at_) := by
 refine LV_bodyP (A := A13) rfl Tryz.func13 rfl ?_
 have hw : IntKind.i64.wrap ((l.length : Int) - 1) = (l.length : Int) - 1 := IntWalk.i64_in _ (by omega)
 repeat apply wS
 refine wR (by simp; constructor <;> rfl) ?_
 try simp only [tq]
 cases hr : rightFrom 0 l with
 | false =>
  repeat apply wS
  refine wR (by simp [l20Right_ld l _ (by omega) (fun n h => (hn n h).ok), hr]; constructor <;> rfl) ?_
  try simp only [tq]
  repeat apply wS
  refine wC (t := true) (by simp) ?_
  simp only [iq]
  repeat apply wS
  refine wR (by simp [buildV, fieldSizes, fillV, setRange1]; constructor <;> rfl) ?_
  try simp only [tq]
  refine W_ret ?_
  try simp only [tq]
  refine ⟨trivial, _, (by simp [Tryz.f13]; rfl), ?_⟩
  rw [sub, hr]
  exact Out0.none
 | true =>
  by_cases hi : inT at_ l = true
  ·have hi' := hi
   simp only [inT, Bool.and_eq_true, decide_eq_true_eq] at hi'
   repeat apply wS
   refine wR (by simp [l20Right_ld l _ (by omega) (fun n h => (hn n h).ok), hr, hw, l01In_ld]; constructor <;> rfl) ?_
   try simp only [tq]
   repeat apply wS
   refine wC (t := false) (by simp [hi'.1, hi'.2]) ?_
   simp only [iq]
   refine W_skip ?_
   try simp only [tq]
   repeat apply wS
   refine wR (by simp [sliceCells, setRange1]; constructor <;> rfl) ?_
   try simp only [tq]
   obtain ⟨a, rfl⟩ : ∃ a : Nat, at_ = a := ⟨at_.toNat, by omega⟩
   have hsub : sub l a = ex l (-1) (fun _ => none) l.length a [] := by rw [sub, if_pos (by rw [hr, hi]; rfl)]
   obtain ⟨b, σ', e1, e2⟩ := put_ok l .nils (-1) (fun _ => none) hl hn hr 3 0 (fun h => by omega) l.length a (by omega) (by omega) [.cells [.t (Ls l)] 0 0, .cells [.t .nils] 0 0, .cells [] 0 0, .cells [.sl 2 0 0 0 6] 0 0] (.sl 2 0 0 0 6) [] [2] (by simp) (by omega) (by simp) rfl
    (.inr ⟨⟨2, 0, []⟩, rfl, rfl, ⟨⟨0, Nat.le_refl _, rfl⟩, by simp⟩, by simp [Tr.locs, locs], by simp [Tr.locs, locs, inR], rfl⟩)
   repeat apply wS
   refine wR (by simp [buildV, fieldSizes, fillV, e1]; constructor <;> rfl) ?_
   try simp only [tq]
   rw [hsub]
   cases hx : ex l (-1) (fun _ => none) l.length a [] with
   | none =>
    rw [hx] at e2
    obtain ⟨rfl, h5, h6⟩ := e2
    have g1 : σ'[1]? = some (.cells [.t .nils] 0 0) := by rw [h6 1 (by simp) (by omega) (by simp)]; rfl
    have g2 : ∀ X, (σ'.set 1 X)[1]? = some X := fun X => List.getElem?_set_self (get_lt g1)
    repeat apply wS
    refine wC (t := true) (by simp) ?_
    simp only [iq]
    repeat apply wS
    refine wR (by simp [buildV, fieldSizes, fillV, setRange1, g1]; constructor <;> rfl) ?_
    try simp only [tq]
    refine W_ret ?_
    try simp only [tq]
    refine ⟨trivial, _, (by simp [Tryz.f13, g2]; rfl), ?_⟩
    exact Out0.none
   | some l' =>
    rw [hx] at e2
    obtain ⟨rfl, h1, h2, v', ls', h3, h4, h5, h6, h7⟩ := e2
    obtain ⟨t4, rfl⟩ := h4.isSl (by intro e; rw [e] at h1; simp at h1)
    have g1 : σ'[1]? = some (.cells [.t .nils] 0 0) := by rw [h6 1 (by simp) (by omega) (by simp)]; rfl
    have g2 : ∀ X, (σ'.set 1 X)[1]? = some X := fun X => List.getElem?_set_self (get_lt g1)
    repeat apply wS
    refine wC (t := false) (by simp) ?_
    simp only [iq]
    refine W_skip ?_
    try simp only [tq]
    repeat apply wS
    refine wR (by simp [h3, buildV, fieldSizes, fillV, setRange1, g1]; constructor <;> rfl) ?_
    try simp only [tq]
    refine W_ret ?_
    try simp only [tq]
    refine ⟨trivial, _, (by simp [Tryz.f13, g2]; rfl), ?_⟩
    refine ⟨t4.sl, rfl, (h4.keep (by simp) fun i hi => List.getElem?_set_ne ?_).ts, fun h => by cases h⟩
    rintro rfl
    rcases h7 _ hi with h8 | h8
    ·simp at h8
    ·simp at h8
  ·have hi' : (decide (0 ≤ at_) && decide (at_ ≤ (l.length : Int) - 1)) = false := by simpa [inT] using hi
   repeat apply wS
   refine wR (by simp [l20Right_ld l _ (by omega) (fun n h => (hn n h).ok), hr, hw, l01In_ld, hi']; constructor <;> rfl) ?_
   try simp only [tq]
   repeat apply wS
   refine wC (t := true) (by simp) ?_
   simp only [iq]
   repeat apply wS
   refine wR (by simp [buildV, fieldSizes, fillV, setRange1]; constructor <;> rfl) ?_
   try simp only [tq]
   refine W_ret ?_
   try simp only [tq]
   refine ⟨trivial, _, (by simp [Tryz.f13]; rfl), ?_⟩
   rw [sub, if_neg (by simp [hi])]
   exact Out0.none
theorem implSub_lv (l : List N) (at_ : Int) (hl : l.length ≤ 1048576) (hn : ∀ n ∈ l, n.fit) : ∃ v σ0, LV S 8 [.t (encT l), .t (I at_)] [] = some (v, σ0) ∧ Out0 σ0 v (sub l at_) := by
 refine LV_bodyP (A := A8) rfl Tryz.func8 rfl ?_
 have hw : IntKind.i64.wrap ((l.length : Int) - 1) = (l.length : Int) - 1 := IntWalk.i64_in _ (by omega)
 repeat apply wS
 refine wR (by simp; constructor <;> rfl) ?_
 try simp only [tq]
 by_cases hi : inT at_ l = true
 ·have hi' := hi
  simp only [inT, Bool.and_eq_true, decide_eq_true_eq] at hi'
  cases hr : rightFrom 0 l with
  | false =>
   repeat apply wS
   refine wR (by simp [kidsRight_ld l _ (by omega) (fun n h => (hn n h).ok), hr, hw, within_ld, hi'.1, hi'.2]; constructor <;> rfl) ?_
   try simp only [tq]
   repeat apply wS
   refine wC (t := true) (by simp) ?_
   simp only [iq]
   repeat apply wS
   refine wR (by simp [buildV, fieldSizes, fillV, setRange1]; constructor <;> rfl) ?_
   try simp only [tq]
   refine W_ret ?_
   try simp only [tq]
   refine ⟨trivial, _, (by simp [Tryz.f8]; rfl), ?_⟩
   rw [sub, hr]
   exact Out0.none
  | true =>
   repeat apply wS
   refine wR (by simp [kidsRight_ld l _ (by omega) (fun n h => (hn n h).ok), hr, hw, within_ld, hi'.1, hi'.2]; constructor <;> rfl) ?_
   try simp only [tq]
   repeat apply wS
   refine wC (t := false) (by simp) ?_
   simp only [iq]
   refine W_skip ?_
   try simp only [tq]
   repeat apply wS
   refine wR (by simp [buildV, fieldSizes, fillV, setRange1]; constructor <;> rfl) ?_
   try simp only [tq]
   obtain ⟨a, rfl⟩ : ∃ a : Nat, at_ = a := ⟨at_.toNat, by omega⟩
   have hsub : sub l a = ex l (-1) (fun _ => none) l.length a [] := by rw [sub, if_pos (by rw [hr, hi]; rfl)]
   obtain ⟨b, σ', e1, e2⟩ := take_ok l .nils (-1) (fun _ => none) hl hn hr 2 0 (fun h => by omega) l.length a (by omega) (by omega) [.cells [.t (Ls l)] 0 0, .cells [.t .nils] 0 0, .cells [.t .nils, .t (B false)] 0 0] (.t .nils) [] [] (by simp) (by omega) (by simp) rfl (.inl ⟨rfl, rfl, rfl⟩)
   repeat apply wS
   refine wR (by simp [buildV, fieldSizes, fillV, e1]; constructor <;> rfl) ?_
   try simp only [tq]
   rw [hsub]
   cases hx : ex l (-1) (fun _ => none) l.length a [] with
   | none =>
    rw [hx] at e2
    obtain ⟨v', h3, h4, h5, h6⟩ := e2
    have g1 : σ'[1]? = some (.cells [.t .nils] 0 0) := by rw [h6 1 (by simp) (by omega) (by simp)]; rfl
    have g2 : ∀ X, (σ'.set 1 X)[1]? = some X := fun X => List.getElem?_set_self (get_lt g1)
    repeat apply wS
    refine wR (by simp [h3]; constructor <;> rfl) ?_
    try simp only [tq]
    repeat apply wS
    refine wC (t := true) (by simp) ?_
    simp only [iq]
    repeat apply wS
    refine wR (by simp [buildV, fieldSizes, fillV, setRange1, g1]; constructor <;> rfl) ?_
    try simp only [tq]
    refine W_ret ?_
    try simp only [tq]
    refine ⟨trivial, _, (by simp [Tryz.f8, g2]; rfl), ?_⟩
    exact Out0.none
   | some l' =>
    rw [hx] at e2
    obtain ⟨hb, h1, h2, v', ls', h3, h4, h5, h6, h7⟩ := e2
    obtain ⟨t4, rfl⟩ := h4.isSl (by intro e; rw [e] at h1; simp at h1)
    have g1 : σ'[1]? = some (.cells [.t .nils] 0 0) := by rw [h6 1 (by simp) (by omega) (by simp)]; rfl
    have g2 : ∀ X, (σ'.set 1 X)[1]? = some X := fun X => List.getElem?_set_self (get_lt g1)
    repeat apply wS
    refine wR (by simp [h3]; constructor <;> rfl) ?_
    try simp only [tq]
    repeat apply wS
    refine wC (t := false) (by simp) ?_
    simp only [iq]
    refine W_skip ?_
    try simp only [tq]
    repeat apply wS
    refine wR (by simp [h3, buildV, fieldSizes, fillV, setRange1, g1]; constructor <;> rfl) ?_
    try simp only [tq]
    refine W_ret ?_
    try simp only [tq]
    refine ⟨trivial, _, (by simp [Tryz.f8, g2]; rfl), ?_⟩
    refine ⟨t4.sl, rfl, (h4.keep (by simp) fun i hi => List.getElem?_set_ne ?_).ts, fun h => by cases h⟩
    rintro rfl
    rcases h7 _ hi with h8 | h8
    ·simp at h8
    ·simp at h8
 ·have hi' : (decide (0 ≤ at_) && decide (at_ ≤ (l.length : Int) - 1)) = false := by simpa [inT] using hi
  repeat apply wS
  refine wR (by simp [hw, within_ld, hi']; constructor <;> rfl) ?_
  try simp only [tq]
  repeat apply wS
  refine wC (t := true) (by simp) ?_
  simp only [iq]
  repeat apply wS
  refine wR (by simp [buildV, fieldSizes, fillV, setRange1]; constructor <;> rfl) ?_
  try simp only [tq]
  refine W_ret ?_
  try simp only [tq]
  refine ⟨trivial, _, (by simp [Tryz.f8]; rfl), ?_⟩
  rw [sub, if_neg (by simp [hi])]
  exact Out0.none
theorem swp_false {l m : List N} {at_ : Int} (h : ¬ (rightFrom 0 l = true ∧ rightFrom 0 m = true ∧ m ≠ [] ∧ inT at_ l = true)) : swp l at_ m = none := by
 rw [swp, if_neg]
 intro h2
 simp only [Bool.and_eq_true, Bool.not_eq_true', List.isEmpty_eq_false_iff] at h2
 exact h ⟨h2.1.1.1, h2.1.1.2, h2.1.2, h2.2⟩
theorem implSwp_lv (l m : List N) (at_ : Int) (hl : l.length ≤ 1048576) (hn : ∀ n ∈ l, n.fit) (hml : m.length ≤ 1048576) (hmn : ∀ n ∈ m, n.fit) : ∃ v σ0, LV S 10 [.t (encT l), .t (I at_), .t (encT m)] [] = some (v, σ0) ∧ Out0 σ0 v (swp l at_ m) := by
 refine LV_bodyP (A := A10) rfl Tryz.func10 rfl ?_
 have hw : IntKind.i64.wrap ((l.length : Int) - 1) = (l.length : Int) - 1 := IntWalk.i64_in _ (by omega)
 have r1 := fun σ => kidsRight_ld l σ (by omega) (fun n h => (hn n h).ok)
 have r2 := fun σ => kidsRight_ld m σ (by omega) (fun n h => (hmn n h).ok)
 repeat apply wS
 refine wR (by simp; constructor <;> rfl) ?_
 try simp only [tq]
 by_cases ok : rightFrom 0 l = true ∧ rightFrom 0 m = true ∧ m ≠ [] ∧ inT at_ l = true
 ·obtain ⟨hr, hrm, hm0, hi⟩ := ok
  have hi' := hi
  simp only [inT, Bool.and_eq_true, decide_eq_true_eq] at hi'
  have hm1 : 0 < m.length := List.length_pos_iff.2 hm0
  have hme : ((m.length : Int) == 0) = false := by simp [hm0]
  repeat apply wS
  refine wR (by simp [r1, r2, hr, hrm, hme, hw, within_ld, hi'.1, hi'.2]; constructor <;> rfl) ?_
  try simp only [tq]
  repeat apply wS
  refine wC (t := false) (by simp) ?_
  simp only [iq]
  refine W_skip ?_
  try simp only [tq]
  repeat apply wS
  refine wR (by simp [buildV, fieldSizes, fillV, setRange1]; constructor <;> rfl) ?_
  try simp only [tq]
  obtain ⟨a, rfl⟩ : ∃ a : Nat, at_ = a := ⟨at_.toNat, by omega⟩
  have hsub : swp l a m = ex l a (ex m (-1) (fun _ => none) m.length ((m.length : Int) - 1)) l.length ((l.length : Int) - 1) [] := by
   rw [swp, if_pos]
   simp only [hr, hrm, hi, Bool.true_and, Bool.and_true, Bool.not_eq_true', List.isEmpty_eq_false_iff]
   exact hm0
  have hc1 : ((l.length - 1 : Nat) : Int) = (l.length : Int) - 1 := by omega
  have hc2 : ((m.length - 1 : Nat) : Int) = (m.length : Int) - 1 := by omega
  obtain ⟨b, σ', e1, e2⟩ := take_ok l (Ls m) a (ex m (-1) (fun _ => none) m.length ((m.length : Int) - 1)) hl hn hr 3 0
   (fun _ => ⟨m, rfl, hml, fun lo => by have := take_ok m .nils (-1) (fun _ => none) hml hmn hrm 3 lo (fun h => by omega) m.length (m.length - 1) (by omega) (by omega); rw [hc2] at this; exact this⟩)
   l.length (l.length - 1) (by omega) (by omega) [.cells [.t (Ls l)] 0 0, .cells [.t (Ls m)] 0 0, .cells [.t .nils] 0 0, .cells [.t .nils, .t (B false)] 0 0] (.t .nils) [] [] (by simp) (by omega) (by simp) rfl (.inl ⟨rfl, rfl, rfl⟩)
  rw [hc1] at e1 e2
  repeat apply wS
  refine wR (by simp [hw, e1]; constructor <;> rfl) ?_
  try simp only [tq]
  rw [hsub]
  cases hx : ex l a (ex m (-1) (fun _ => none) m.length ((m.length : Int) - 1)) l.length ((l.length : Int) - 1) [] with
  | none =>
   rw [hx] at e2
   obtain ⟨v', h3, h4, h5, h6⟩ := e2
   have g1 : σ'[2]? = some (.cells [.t .nils] 0 0) := by rw [h6 2 (by simp) (by omega) (by simp)]; rfl
   have g2 : ∀ X, (σ'.set 2 X)[2]? = some X := fun X => List.getElem?_set_self (get_lt g1)
   repeat apply wS
   refine wR (by simp [h3]; constructor <;> rfl) ?_
   try simp only [tq]
   repeat apply wS
   refine wC (t := true) (by simp) ?_
   simp only [iq]
   repeat apply wS
   refine wR (by simp [buildV, fieldSizes, fillV, setRange1, g1]; constructor <;> rfl) ?_
   try simp only [tq]
   refine W_ret ?_
   try simp only [tq]
   refine ⟨trivial, _, (by simp [Tryz.f10, g2]; rfl), ?_⟩
   exact Out0.none
  | some l' =>
   rw [hx] at e2
   obtain ⟨hb, h1, h2, v', ls', h3, h4, h5, h6, h7⟩ := e2
   obtain ⟨t4, rfl⟩ := h4.isSl (by intro e; rw [e] at h1; simp at h1)
   have g1 : σ'[2]? = some (.cells [.t .nils] 0 0) := by rw [h6 2 (by simp) (by omega) (by simp)]; rfl
   have g2 : ∀ X, (σ'.set 2 X)[2]? = some X := fun X => List.getElem?_set_self (get_lt g1)
   repeat apply wS
   refine wR (by simp [h3]; constructor <;> rfl) ?_
   try simp only [tq]
   repeat apply wS
   refine wC (t := false) (by simp) ?_
   simp only [iq]
   refine W_skip ?_
   try simp only [tq]
   repeat apply wS
   refine wR (by simp [h3, buildV, fieldSizes, fillV, setRange1, g1]; constructor <;> rfl) ?_
   try simp only [tq]
   refine W_ret ?_
   try simp only [tq]
   refine ⟨trivial, _, (by simp [Tryz.f10, g2]; rfl), ?_⟩
   refine ⟨t4.sl, rfl, (h4.keep (by simp) fun i hi => List.getElem?_set_ne ?_).ts, fun h => by cases h⟩
   rintro rfl
   rcases h7 _ hi with h8 | h8
   ·simp at h8
   ·simp at h8
 ·rw [swp_false ok]
  by_cases hi : inT at_ l = true
  ·have hi' := hi
   simp only [inT, Bool.and_eq_true, decide_eq_true_eq] at hi'
   by_cases hm0 : m = []
   ·subst hm0
    repeat apply wS
    refine wR (by simp [r1, r2, hw, within_ld, hi'.1, hi'.2]; constructor <;> rfl) ?_
    try simp only [tq]
    repeat apply wS
    refine wC (t := true) (by simp) ?_
    simp only [iq]
    repeat apply wS
    refine wR (by simp [buildV, fieldSizes, fillV, setRange1]; constructor <;> rfl) ?_
    try simp only [tq]
    refine W_ret ?_
    try simp only [tq]
    refine ⟨trivial, _, (by simp [Tryz.f10] <;> rfl), Out0.none⟩
   ·have hme : ((m.length : Int) == 0) = false := by simp [hm0]
    cases hr : rightFrom 0 l with
    | false =>
     repeat apply wS
     refine wR (by simp [r1, r2, hr, hw, hme, within_ld, hi'.1, hi'.2]; constructor <;> rfl) ?_
     try simp only [tq]
     repeat apply wS
     refine wC (t := true) (by simp) ?_
     simp only [iq]
     repeat apply wS
     refine wR (by simp [buildV, fieldSizes, fillV, setRange1]; constructor <;> rfl) ?_
     try simp only [tq]
     refine W_ret ?_
     try simp only [tq]
     refine ⟨trivial, _, (by simp [Tryz.f10] <;> rfl), Out0.none⟩
    | true =>
     have hrm : rightFrom 0 m = false := by
      cases h : rightFrom 0 m with
      | false => rfl
      | true => exact absurd ⟨hr, h, hm0, hi⟩ ok
     repeat apply wS
     refine wR (by simp [r1, r2, hr, hrm, hw, hme, within_ld, hi'.1, hi'.2]; constructor <;> rfl) ?_
     try simp only [tq]
     repeat apply wS
     refine wC (t := true) (by simp) ?_
     simp only [iq]
     repeat apply wS
     refine wR (by simp [buildV, fieldSizes, fillV, setRange1]; constructor <;> rfl) ?_
     try simp only [tq]
     refine W_ret ?_
     try simp only [tq]
     refine ⟨trivial, _, (by simp [Tryz.f10] <;> rfl), Out0.none⟩
  ·have hi' : (decide (0 ≤ at_) && decide (at_ ≤ (l.length : Int) - 1)) = false := by simpa [inT] using hi
   repeat apply wS
   refine wR (by simp [hw, within_ld, hi']; constructor <;> rfl) ?_
   try simp only [tq]
   repeat apply wS
   refine wC (t := true) (by simp) ?_
   simp only [iq]
   repeat apply wS
   refine wR (by simp [buildV, fieldSizes, fillV, setRange1]; constructor <;> rfl) ?_
   try simp only [tq]
   refine W_ret ?_
   try simp only [tq]
   refine ⟨trivial, _, (by simp [Tryz.f10] <;> rfl), Out0.none⟩
end Y
