/- A part of the proof. No statement of the claim is in it. -/
import Derived.Test.YtognnaobhjaoeaaGreatDoorVEg2
open Go Go.V Go.Proofs
namespace X
set_option maxRecDepth 100000
set_option maxHeartbeats 4000000
set_option linter.unusedSimpArgs false
set_option linter.unusedVariables false
attribute [-simp] lenV idxV
theorem take_ext {a b : List Nat} {k : Nat} {y : Nat} (h : a.take k = b.take k) (h1 : a[k]? = some y) (h2 : b[k]? = some y) : a.take (k + 1) = b.take (k + 1) := by
 rw [List.take_add_one, List.take_add_one, h, h1, h2]
theorem eq_lv {x y : T} {a b : List Nat} (hx : Is x a) (hy : Is y b) (hl : a.length ≤ 1048576) : LV S 111 [.t x, .t y] [] = some (.t (B (decide (a = b))), []) := by
 refine LV_body (A := A111) rfl Tryz.func111 rfl ?_
 repeat apply W_seq
 refine W_region (by simp; first | exact ⟨rfl, rfl⟩ | exact rfl) ?_
 try simp only [thenQ, blockQ, Ann.kill, List.find?_nil]
 by_cases c0 : a.length = b.length
 ·repeat apply W_seq
  refine W_region (by simp [hx.len, hy.len]; first | exact ⟨rfl, rfl⟩ | exact rfl) ?_
  try simp only [thenQ, blockQ, Ann.kill, List.find?_nil]
  repeat apply W_seq
  refine W_cond (t := false) (by simp [show ((a.length : Int) = (b.length : Int)) = True by simp [c0]]) ?_
  simp only [if_true, if_false, Bool.false_eq_true]
  refine W_skip ?_
  try simp only [thenQ, blockQ, Ann.kill, List.find?_nil]
  repeat apply W_seq
  refine W_region (by simp [hx.len, c0]; first | exact ⟨rfl, rfl⟩ | exact rfl) ?_
  try simp only [thenQ, blockQ, Ann.kill, List.find?_nil]
  repeat apply W_seq
  refine W_block ?_
  refine W_loop (I := fun m st τ => ∃ k, m = a.length - k ∧ k ≤ a.length ∧ a.take k = b.take k ∧ st.vars = [(0, .t x), (1, .t y), (4, .t (B false)), (12, .t (I b.length)), (13, .t (I k))] ∧ τ = []) ?_ a.length _ _ ⟨0, rfl, Nat.zero_le _, rfl, by simp, rfl⟩
  rintro m ⟨vars, scr⟩ τ ⟨k, rfl, hk, he, hv, rfl⟩
  simp only at hv
  subst hv
  repeat apply W_seq
  refine W_region (by simp; first | exact ⟨rfl, rfl⟩ | exact rfl) ?_
  try simp only [thenQ, blockQ, Ann.kill, List.find?_nil]
  by_cases c1 : k < a.length
  ·repeat apply W_seq
   refine W_cond (t := true) (by simp [show k < b.length by omega]) ?_
   simp only [if_true, if_false, Bool.false_eq_true]
   refine W_skip ?_
   try simp only [thenQ, blockQ, Ann.kill, List.find?_nil]
   repeat apply W_seq
   refine W_block ?_
   obtain ⟨p, hp⟩ := get_of_lt c1
   obtain ⟨q, hq⟩ := get_of_lt (show k < b.length by omega)
   have h1 := hx.idx hp
   have h2 := hy.idx hq
   repeat apply W_seq
   refine W_region (by simp; first | exact ⟨rfl, rfl⟩ | exact rfl) ?_
   try simp only [thenQ, blockQ, Ann.kill, List.find?_nil]
   repeat apply W_seq
   refine W_region (by simp [h1, h2]; first | exact ⟨rfl, rfl⟩ | exact rfl) ?_
   try simp only [thenQ, blockQ, Ann.kill, List.find?_nil]
   by_cases c2 : p = q
   ·subst c2
    repeat apply W_seq
    refine W_cond (t := false) (by simp) ?_
    simp only [if_true, if_false, Bool.false_eq_true]
    refine W_skip ?_
    try simp only [thenQ, blockQ, Ann.kill, List.find?_nil]
    repeat apply W_seq
    refine W_region (by simp [IntWalk.i64_in ((k : Int) + 1) (by omega)]; first | exact ⟨rfl, rfl⟩ | exact rfl) ?_
    try simp only [thenQ, blockQ, Ann.kill, List.find?_nil]
    exact ⟨a.length - (k + 1), by omega, k + 1, rfl, c1, take_ext he hp hq, by simp, by simp⟩
   ·repeat apply W_seq
    refine W_cond (t := true) (by simp [show ¬ ((p : Int) = (q : Int)) by omega]) ?_
    simp only [if_true, if_false, Bool.false_eq_true]
    repeat apply W_seq
    refine W_region (by simp; first | exact ⟨rfl, rfl⟩ | exact rfl) ?_
    try simp only [thenQ, blockQ, Ann.kill, List.find?_nil]
    have : ¬ a = b := fun e => by subst e; rw [hp] at hq; cases hq; exact c2 rfl
    refine W_ret ?_
    try simp only [thenQ, blockQ]
    simp [Tryz.f111, this]
  ·repeat apply W_seq
   refine W_cond (t := false) (by simp [show ¬ k < b.length by omega]) ?_
   simp only [if_true, if_false, Bool.false_eq_true]
   repeat apply W_seq
   refine W_exit ?_
   try simp only [thenQ, blockQ, if_true, Ann.kill, List.find?_nil]
   have hk2 : k = a.length := by omega
   have : a = b := by
    rw [hk2, List.take_length, c0, List.take_length] at he; exact he
   repeat apply W_seq
   refine W_region (by simp; first | exact ⟨rfl, rfl⟩ | exact rfl) ?_
   try simp only [thenQ, blockQ, Ann.kill, List.find?_nil]
   refine W_ret ?_
   try simp only [thenQ, blockQ]
   simp [Tryz.f111, this]
 ·repeat apply W_seq
  refine W_region (by simp [hx.len, hy.len]; first | exact ⟨rfl, rfl⟩ | exact rfl) ?_
  try simp only [thenQ, blockQ, Ann.kill, List.find?_nil]
  repeat apply W_seq
  refine W_cond (t := true) (by simp [show ¬ ((a.length : Int) = (b.length : Int)) by omega]) ?_
  simp only [if_true, if_false, Bool.false_eq_true]
  repeat apply W_seq
  refine W_region (by simp; first | exact ⟨rfl, rfl⟩ | exact rfl) ?_
  try simp only [thenQ, blockQ, Ann.kill, List.find?_nil]
  have : ¬ a = b := fun e => c0 (congrArg List.length e)
  refine W_ret ?_
  try simp only [thenQ, blockQ]
  simp [Tryz.f111, this]
theorem eq_ld {x y : T} {a b : List Nat} (hx : Is x a) (hy : Is y b) (hl : a.length ≤ 1048576) (σ : Store) : LD S 111 [.t x, .t y] σ = some (.t (B (decide (a = b))), σ) :=
 LD_pure (A := A111) (v := .t (B (decide (a = b)))) (σ0 := []) rfl rfl rfl (eq_lv hx hy hl) rfl σ

/-- A goal. -/
structure Gl where
 rule : Nat
 args : List Nat
 from_ : Nat
 ends : List Nat
 ranks : List Nat
 deriving Inhabited
def isG (g : Gl) (rule : Nat) (args : List Nat) (from_ : Nat) : Bool := g.rule == rule && (g.from_ == from_ && decide (g.args = args))
def rowT (g : Gl) (e k : T) : T := .agg [I g.rule, .list (rows1 g.args), I g.from_, e, k]

theorem isGoal_ld (g : Gl) (e k : T) (rule : Nat) {y : T} {args : List Nat} (hy : Is y args) (fr : Nat) (hl : g.args.length ≤ 1048576) (σ : Store) : LD S 89 [.t (rowT g e k), .t (I rule), .t y, .t (I fr)] σ = some (.t (B (isG g rule args fr)), σ) := by
 suffices h : ∃ σ0, LV S 89 [.t (rowT g e k), .t (I rule), .t y, .t (I fr)] [] = some (.t (B (isG g rule args fr)), σ0) by
  obtain ⟨σ0, h⟩ := h
  exact LD_pure (A := A89) (v := .t (B (isG g rule args fr))) rfl rfl rfl h rfl σ
 refine LV_bodyE (A := A89) rfl Tryz.func89 rfl ?_
 repeat apply W_seq
 refine W_region (by simp [rowT]; first | exact ⟨rfl, rfl⟩ | exact rfl) ?_
 try simp only [thenQ, blockQ, Ann.kill, List.find?_nil]
 by_cases c1 : g.rule = rule
 ·have e1 : ((g.rule : Int) == (rule : Int)) = true := by simp [c1]
  by_cases c2 : g.from_ = fr
  ·have e2 : ((g.from_ : Int) == (fr : Int)) = true := by simp [c2]
   repeat apply W_seq
   refine W_region (by simp [e1, e2, eq_ld (.inr rfl) hy hl]; first | exact ⟨rfl, rfl⟩ | exact rfl) ?_
   try simp only [thenQ, blockQ, Ann.kill, List.find?_nil]
   refine W_ret ?_
   try simp only [thenQ, blockQ]
   simp [Tryz.f89, isG, c1, c2]
  ·have e2 : ((g.from_ : Int) == (fr : Int)) = false := by simp; omega
   repeat apply W_seq
   refine W_region (by simp [e1, e2]; first | exact ⟨rfl, rfl⟩ | exact rfl) ?_
   try simp only [thenQ, blockQ, Ann.kill, List.find?_nil]
   refine W_ret ?_
   try simp only [thenQ, blockQ]
   simp [Tryz.f89, isG, c1, c2]
 ·have e1 : ((g.rule : Int) == (rule : Int)) = false := by simp; omega
  repeat apply W_seq
  refine W_region (by simp [e1]; first | exact ⟨rfl, rfl⟩ | exact rfl) ?_
  try simp only [thenQ, blockQ, Ann.kill, List.find?_nil]
  refine W_ret ?_
  try simp only [thenQ, blockQ]
  simp [Tryz.f89, isG, c1]

/-- what goalAt's closure is handed -/
def GBox (σ : Store) (rule : Nat) (y : T) (fr : Nat) : Prop := σ[1]? = some (.cells [.t (I rule)] 0 0) ∧ σ[2]? = some (.cells [.t y] 0 0) ∧ σ[3]? = some (.cells [.t (I fr)] 0 0)
theorem clo_ld (g : Gl) (e k : T) (rule : Nat) {y : T} {args : List Nat} (hy : Is y args) (fr : Nat) (hl : g.args.length ≤ 1048576) {σ : Store} (hb : GBox σ rule y fr) :
  LD S 88 [.t (rowT g e k), .ptr 1 0 0 1, .ptr 2 0 0 1, .ptr 3 0 0 1] σ = some (.t (B (isG g rule args fr)), σ ++ [.cells [.t (I g.rule), .t (.list (rows1 g.args)), .t (I g.from_), .t e, .t k] 0 0]) := by
 refine (LD_inl (A := A88) rfl rfl rfl _ σ).trans ?_
 refine LV_body (A := A88) rfl Tryz.func88 rfl ?_
 obtain ⟨b1, b2, b3⟩ := hb
 have g1 : ∀ o, (σ ++ [o])[1]? = some (.cells [.t (I rule)] 0 0) := fun o => by rw [List.getElem?_append_left (lt_of_get b1), b1]
 have g2 : ∀ o, (σ ++ [o])[2]? = some (.cells [.t y] 0 0) := fun o => by rw [List.getElem?_append_left (lt_of_get b2), b2]
 have g3 : ∀ o, (σ ++ [o])[3]? = some (.cells [.t (I fr)] 0 0) := fun o => by rw [List.getElem?_append_left (lt_of_get b3), b3]
 have hi := isGoal_ld g e k rule hy fr hl
 simp only [rowT] at hi
 repeat apply W_seq
 refine W_region (by simp [rowT]; first | exact ⟨rfl, rfl⟩ | exact rfl) ?_
 try simp only [thenQ, blockQ, Ann.kill, List.find?_nil]
 repeat apply W_seq
 refine W_region (by simp [g1, g2, g3, hi]; first | exact ⟨rfl, rfl⟩ | exact rfl) ?_
 try simp only [thenQ, blockQ, Ann.kill, List.find?_nil]
 refine W_ret ?_
 try simp only [thenQ, blockQ]
 simp [Tryz.f88]

def gIx (rule : Nat) (args : List Nat) (fr : Nat) : List Gl → Nat → Int
 | [], _ => -1
 | g :: r, k => if isG g rule args fr then (k : Int) else gIx rule args fr r (k + 1)
/-- The rows of a chart, as trees. -/
def GRows (gs : List Gl) (rows : List T) : Prop := rows.length = gs.length ∧ ∀ (i : Nat) (g : Gl), gs[i]? = some g → ∃ e k, rows[i]? = some (rowT g e k)

theorem indexF_lv {gs : List Gl} {rows : List T} (hr : GRows gs rows) (rule : Nat) {y : T} {args : List Nat} (hy : Is y args) (fr : Nat) (hg : ∀ g ∈ gs, g.args.length ≤ 1048576) (hn : gs.length ≤ 1048576) {σ : Store} (hb : GBox σ rule y fr) :
  ∃ v σ', LV S 87 [.t (.list rows), .fn 88 [.ptr 1 0 0 1, .ptr 2 0 0 1, .ptr 3 0 0 1]] σ = some (v, σ') ∧ v = .t (I (gIx rule args fr gs 0)) := by
 refine LV_bodyX (A := A87) rfl Tryz.func87 rfl ?_
 obtain ⟨hr1, hr2⟩ := hr
 repeat apply W_seq
 refine W_region (by simp; first | exact ⟨rfl, rfl⟩ | exact rfl) ?_
 try simp only [thenQ, blockQ, Ann.kill, List.find?_nil]
 repeat apply W_seq
 refine W_region (by simp; first | exact ⟨rfl, rfl⟩ | exact rfl) ?_
 try simp only [thenQ, blockQ, Ann.kill, List.find?_nil]
 repeat apply W_seq
 refine W_block ?_
 refine W_loop (I := fun m st τ => ∃ k, m = gs.length - k ∧ k ≤ gs.length ∧ gIx rule args fr gs 0 = gIx rule args fr (gs.drop k) k ∧ st.vars = [(0, .t (.list rows)), (1, .fn 88 [.ptr 1 0 0 1, .ptr 2 0 0 1, .ptr 3 0 0 1]), (4, .t (I 0)), (7, .t (I rows.length)), (8, .t (I k))] ∧ GBox τ rule y fr) ?_ gs.length _ _ ⟨0, rfl, Nat.zero_le _, rfl, by simp, hb⟩
 rintro m ⟨vars, scr⟩ τ ⟨k, rfl, hk, he, hv, hb⟩
 simp only at hv
 subst hv
 repeat apply W_seq
 refine W_region (by simp; first | exact ⟨rfl, rfl⟩ | exact rfl) ?_
 try simp only [thenQ, blockQ, Ann.kill, List.find?_nil]
 by_cases c1 : k < gs.length
 ·repeat apply W_seq
  refine W_cond (t := true) (by simp [show k < rows.length by omega]) ?_
  simp only [if_true, if_false, Bool.false_eq_true]
  refine W_skip ?_
  try simp only [thenQ, blockQ, Ann.kill, List.find?_nil]
  repeat apply W_seq
  refine W_block ?_
  obtain ⟨g, hgk⟩ := get_of_lt c1
  obtain ⟨e, w, hw⟩ := hr2 k g hgk
  have hc := clo_ld g e w rule hy fr (hg g (List.mem_of_getElem? hgk)) hb
  have hd : gs.drop k = g :: gs.drop (k + 1) := by
   rw [List.drop_eq_getElem_cons c1]
   rw [List.getElem?_eq_getElem c1] at hgk
   cases hgk; rfl
  rw [hd] at he
  have hb' : GBox (τ ++ [.cells [.t (I g.rule), .t (.list (rows1 g.args)), .t (I g.from_), .t e, .t w] 0 0]) rule y fr := by
   obtain ⟨b1, b2, b3⟩ := hb
   exact ⟨by rw [List.getElem?_append_left (lt_of_get b1), b1], by rw [List.getElem?_append_left (lt_of_get b2), b2], by rw [List.getElem?_append_left (lt_of_get b3), b3]⟩
  simp only [rowT] at hc hw
  repeat apply W_seq
  refine W_region (by simp; first | exact ⟨rfl, rfl⟩ | exact rfl) ?_
  try simp only [thenQ, blockQ, Ann.kill, List.find?_nil]
  repeat apply W_seq
  refine W_region (by simp [hw, hc]; first | exact ⟨rfl, rfl⟩ | exact rfl) ?_
  try simp only [thenQ, blockQ, Ann.kill, List.find?_nil]
  cases c2 : isG g rule args fr with
  | true =>
   repeat apply W_seq
   refine W_cond (t := true) (by simp [c2]) ?_
   simp only [if_true, if_false, Bool.false_eq_true]
   repeat apply W_seq
   refine W_region (by simp; first | exact ⟨rfl, rfl⟩ | exact rfl) ?_
   try simp only [thenQ, blockQ, Ann.kill, List.find?_nil]
   have e1 : gIx rule args fr gs 0 = k := by rw [he]; simp [gIx, c2]
   refine W_ret ?_
   simp only [thenQ, blockQ]
   exact ⟨trivial, _, (by simp [Tryz.f87]; rfl), by rw [e1]⟩
  | false =>
   repeat apply W_seq
   refine W_cond (t := false) (by simp [c2]) ?_
   simp only [if_true, if_false, Bool.false_eq_true]
   refine W_skip ?_
   try simp only [thenQ, blockQ, Ann.kill, List.find?_nil]
   repeat apply W_seq
   refine W_region (by simp [IntWalk.i64_in ((k : Int) + 1) (by omega)]; first | exact ⟨rfl, rfl⟩ | exact rfl) ?_
   try simp only [thenQ, blockQ, Ann.kill, List.find?_nil]
   refine ⟨gs.length - (k + 1), by omega, k + 1, rfl, c1, ?_, by simp, hb'⟩
   rw [he]; simp [gIx, c2]
 ·repeat apply W_seq
  refine W_cond (t := false) (by simp [show ¬ k < rows.length by omega]) ?_
  simp only [if_true, if_false, Bool.false_eq_true]
  repeat apply W_seq
  refine W_exit ?_
  try simp only [thenQ, blockQ, if_true, Ann.kill, List.find?_nil]
  have hk2 : k = gs.length := by omega
  subst hk2
  have e1 : gIx rule args fr gs 0 = -1 := by rw [he]; simp [gIx]
  repeat apply W_seq
  refine W_region (by simp; first | exact ⟨rfl, rfl⟩ | exact rfl) ?_
  try simp only [thenQ, blockQ, Ann.kill, List.find?_nil]
  refine W_ret ?_
  simp only [thenQ, blockQ]
  exact ⟨trivial, _, (by simp [Tryz.f87]; rfl), by rw [e1]⟩

theorem indexF_nil (c : V) (σ : Store) (hc : ∃ l, c = .fn 88 l) : LV S 87 [.t .nils, c] σ = some (.t (I (-1)), σ) := by
 obtain ⟨l, rfl⟩ := hc
 refine LV_body (A := A87) rfl Tryz.func87 rfl ?_
 repeat apply W_seq
 refine W_region (by simp; first | exact ⟨rfl, rfl⟩ | exact rfl) ?_
 try simp only [thenQ, blockQ, Ann.kill, List.find?_nil]
 repeat apply W_seq
 refine W_region (by simp; first | exact ⟨rfl, rfl⟩ | exact rfl) ?_
 try simp only [thenQ, blockQ, Ann.kill, List.find?_nil]
 repeat apply W_seq
 refine W_block ?_
 refine W_loop_step ?_
 repeat apply W_seq
 refine W_region (by simp; first | exact ⟨rfl, rfl⟩ | exact rfl) ?_
 try simp only [thenQ, blockQ, Ann.kill, List.find?_nil]
 repeat apply W_seq
 refine W_cond (t := false) (by simp) ?_
 simp only [if_true, if_false, Bool.false_eq_true]
 repeat apply W_seq
 refine W_exit ?_
 try simp only [thenQ, blockQ, if_true, Ann.kill, List.find?_nil]
 repeat apply W_seq
 refine W_region (by simp; first | exact ⟨rfl, rfl⟩ | exact rfl) ?_
 try simp only [thenQ, blockQ, Ann.kill, List.find?_nil]
 refine W_ret ?_
 try simp only [thenQ, blockQ]
 simp [Tryz.f87]

theorem goalAt_lv {gs : List Gl} {x : T} (hr : (x = .nils ∧ gs = []) ∨ ∃ rows, x = .list rows ∧ GRows gs rows) (rule : Nat) {y : T} {args : List Nat} (hy : Is y args) (fr : Nat) (hg : ∀ g ∈ gs, g.args.length ≤ 1048576) (hn : gs.length ≤ 1048576) :
  ∃ σ', LV S 61 [.t (.agg [x]), .t (I rule), .t y, .t (I fr)] [] = some (.t (I (gIx rule args fr gs 0)), σ') := by
 refine LV_bodyE (A := A61) rfl Tryz.func61 rfl ?_
 have hy0 := hy
 have hI : ∀ (args : List V) (σ : Store), LD S 87 args σ = LV S 87 args σ := fun args σ => LD_inl (A := A87) rfl rfl rfl args σ
 rcases hr with ⟨rfl, rfl⟩ | ⟨rows, rfl, hr⟩
 ·rcases hy with ⟨rfl, rfl⟩ | rfl
  ·repeat apply W_seq
   refine W_region (by simp; first | exact ⟨rfl, rfl⟩ | exact rfl) ?_
   try simp only [thenQ, blockQ, Ann.kill, List.find?_nil]
   repeat apply W_seq
   refine W_region (by simp [hI, indexF_nil _ _ ⟨_, rfl⟩]; first | exact ⟨rfl, rfl⟩ | exact rfl) ?_
   try simp only [thenQ, blockQ, Ann.kill, List.find?_nil]
   refine W_ret ?_
   try simp only [thenQ, blockQ]
   simp [Tryz.f61, gIx]
  ·repeat apply W_seq
   refine W_region (by simp; first | exact ⟨rfl, rfl⟩ | exact rfl) ?_
   try simp only [thenQ, blockQ, Ann.kill, List.find?_nil]
   repeat apply W_seq
   refine W_region (by simp [hI, indexF_nil _ _ ⟨_, rfl⟩]; first | exact ⟨rfl, rfl⟩ | exact rfl) ?_
   try simp only [thenQ, blockQ, Ann.kill, List.find?_nil]
   refine W_ret ?_
   try simp only [thenQ, blockQ]
   simp [Tryz.f61, gIx]
 ·obtain ⟨v, σ', h1, rfl⟩ := indexF_lv hr rule hy fr hg hn (σ := [.cells [.t (.list rows)] 0 0, .cells [.t (I rule)] 0 0, .cells [.t y] 0 0, .cells [.t (I fr)] 0 0]) ⟨rfl, rfl, rfl⟩
  rcases hy with ⟨rfl, rfl⟩ | rfl
  ·repeat apply W_seq
   refine W_region (by simp; first | exact ⟨rfl, rfl⟩ | exact rfl) ?_
   try simp only [thenQ, blockQ, Ann.kill, List.find?_nil]
   repeat apply W_seq
   refine W_region (by simp [hI, h1]; first | exact ⟨rfl, rfl⟩ | exact rfl) ?_
   try simp only [thenQ, blockQ, Ann.kill, List.find?_nil]
   refine W_ret ?_
   try simp only [thenQ, blockQ]
   simp [Tryz.f61]
  ·repeat apply W_seq
   refine W_region (by simp; first | exact ⟨rfl, rfl⟩ | exact rfl) ?_
   try simp only [thenQ, blockQ, Ann.kill, List.find?_nil]
   repeat apply W_seq
   refine W_region (by simp [hI, h1]; first | exact ⟨rfl, rfl⟩ | exact rfl) ?_
   try simp only [thenQ, blockQ, Ann.kill, List.find?_nil]
   refine W_ret ?_
   try simp only [thenQ, blockQ]
   simp [Tryz.f61]
end X
