/- A part of the proof. No statement of the claim is in it. -/
import Derived.Test.YtphkipgmklhdgaaGreatVEr14
open Go Go.V Go.Proofs
namespace X
set_option maxRecDepth 100000
set_option maxHeartbeats 4000000
set_option linter.unusedSimpArgs false
set_option linter.unusedVariables false
attribute [-simp] lenV idxV getElem?_pos
/-! ### What a text is bound as -/
def bnL : List Nat → Int → Bool → Int × Bool
 | [], n, ok => (n, ok)
 | c :: r, n, ok => bnL r (10 * n + c - 48) (ok && (decide (48 ≤ c) && decide (c ≤ 57)))
def bindN (s : List Nat) : Int := if (1 ≤ s.length ∧ s.length ≤ 2) ∧ (bnL s 0 true).2 = true then (bnL s 0 true).1 else if 99 < s.length then 99 else s.length
def Bs (s : List Nat) : Prop := ∀ c ∈ s, c < 256
theorem bindNum_lv (s : List Nat) (hb : Bs s) (hl : s.length ≤ 1048576) : LV S 94 [.t (.str s)] [] = some (.t (I (bindN s)), []) := by
 have hin := in_ld (s.length : Int) 1 2
 refine LV_body (A := A94) rfl Tryz.func94 rfl ?_
 by_cases c1 : 1 ≤ s.length ∧ s.length ≤ 2
 ·have ei : inF (s.length : Int) 1 2 = true := by simp [inF]; omega
  rw [ei] at hin
  repeat apply W_seq
  refine W_region (by simp; first | exact ⟨rfl, rfl⟩ | exact rfl) ?_
  try simp only [thenQ, blockQ, Ann.kill, List.find?_nil]
  repeat apply W_seq
  refine W_region (by simp [hin]; first | exact ⟨rfl, rfl⟩ | exact rfl) ?_
  try simp only [thenQ, blockQ, Ann.kill, List.find?_nil]
  repeat apply W_seq
  refine W_cond (t := true) (by simp) ?_
  simp only [if_true, if_false, Bool.false_eq_true]
  repeat apply W_seq
  refine W_region (by simp; first | exact ⟨rfl, rfl⟩ | exact rfl) ?_
  try simp only [thenQ, blockQ, Ann.kill, List.find?_nil]
  repeat apply W_seq
  refine W_region (by simp; first | exact ⟨rfl, rfl⟩ | exact rfl) ?_
  try simp only [thenQ, blockQ, Ann.kill, List.find?_nil]
  repeat apply W_seq
  refine W_region (by simp; first | exact ⟨rfl, rfl⟩ | exact rfl) ?_
  try simp only [thenQ, blockQ, Ann.kill, List.find?_nil]
  repeat apply W_seq
  refine W_block ?_
  refine W_loop (I := fun m st τ => ∃ (k : Nat) (n : Int) (ok : Bool), m = s.length - k ∧ k ≤ s.length ∧ ((k = 0 ∧ n = 0) ∨ (k = 1 ∧ -48 ≤ n ∧ n ≤ 207) ∨ (k = 2 ∧ -600 ≤ n ∧ n ≤ 3000)) ∧ bnL (s.drop k) n ok = bnL s 0 true ∧ st.vars = [(0, .t (.str s)), (2, .t (I 0)), (3, .t (I n)), (4, .t (B ok)), (5, .t (I k))] ∧ τ = []) ?_ s.length _ _ ⟨0, 0, true, rfl, Nat.zero_le _, .inl ⟨rfl, rfl⟩, rfl, by simp, rfl⟩
  rintro m ⟨vars, scr⟩ τ ⟨k, n, ok, rfl, hk, hn, he, hv, rfl⟩
  simp only at hv
  subst hv
  repeat apply W_seq
  refine W_region (by simp; first | exact ⟨rfl, rfl⟩ | exact rfl) ?_
  try simp only [thenQ, blockQ, Ann.kill, List.find?_nil]
  by_cases c2 : k < s.length
  ·repeat apply W_seq
   refine W_cond (t := true) (by simp [c2]) ?_
   simp only [if_true, if_false, Bool.false_eq_true]
   refine W_skip ?_
   try simp only [thenQ, blockQ, Ann.kill, List.find?_nil]
   repeat apply W_seq
   refine W_block ?_
   obtain ⟨c, hc⟩ := get_of_lt c2
   have hcb : c < 256 := hb c (List.mem_of_getElem? hc)
   rw [drop_get hc] at he
   simp only [bnL] at he
   have hci : (k : Int) < s.length := by omega
   have w1 := IntWalk.i64_in (10 * n) (by omega)
   have w2 := IntWalk.i64_in (10 * n + c) (by omega)
   have w3 := IntWalk.i64_in (10 * n + c - 48) (by omega)
   have w4 := IntWalk.i64_in (c : Int) (by omega)
   cases ok with
   | false =>
    repeat apply W_seq
    refine W_region (by simp [hc, hci]; first | exact ⟨rfl, rfl⟩ | exact rfl) ?_
    try simp only [thenQ, blockQ, Ann.kill, List.find?_nil]
    repeat apply W_seq
    refine W_region (by simp [hc, hci, w1, w2, w3, w4]; first | exact ⟨rfl, rfl⟩ | exact rfl) ?_
    try simp only [thenQ, blockQ, Ann.kill, List.find?_nil]
    repeat apply W_seq
    refine W_region (by simp [IntWalk.i64_in ((k : Int) + 1) (by omega)]; first | exact ⟨rfl, rfl⟩ | exact rfl) ?_
    try simp only [thenQ, blockQ, Ann.kill, List.find?_nil]
    exact ⟨s.length - (k + 1), by omega, k + 1, 10 * n + c - 48, false, rfl, c2, by omega, he, by simp [w1, w2, w3, w4], trivial⟩
   | true =>
    by_cases d1 : 48 ≤ c
    ·have d1' : (48 : Int) ≤ c := by omega
     by_cases d2 : c ≤ 57
     ·have d2' : (c : Int) ≤ 57 := by omega
      repeat apply W_seq
      refine W_region (by simp [hc, hci, d1', d2']; first | exact ⟨rfl, rfl⟩ | exact rfl) ?_
      try simp only [thenQ, blockQ, Ann.kill, List.find?_nil]
      repeat apply W_seq
      refine W_region (by simp [hc, hci, w1, w2, w3, w4]; first | exact ⟨rfl, rfl⟩ | exact rfl) ?_
      try simp only [thenQ, blockQ, Ann.kill, List.find?_nil]
      repeat apply W_seq
      refine W_region (by simp [IntWalk.i64_in ((k : Int) + 1) (by omega)]; first | exact ⟨rfl, rfl⟩ | exact rfl) ?_
      try simp only [thenQ, blockQ, Ann.kill, List.find?_nil]
      exact ⟨s.length - (k + 1), by omega, k + 1, 10 * n + c - 48, true, rfl, c2, by omega, by simpa [d1, d2] using he, by simp [w1, w2, w3, w4], trivial⟩
     ·have d2' : ¬ (c : Int) ≤ 57 := by omega
      repeat apply W_seq
      refine W_region (by simp [hc, hci, d1', d2']; first | exact ⟨rfl, rfl⟩ | exact rfl) ?_
      try simp only [thenQ, blockQ, Ann.kill, List.find?_nil]
      repeat apply W_seq
      refine W_region (by simp [hc, hci, w1, w2, w3, w4]; first | exact ⟨rfl, rfl⟩ | exact rfl) ?_
      try simp only [thenQ, blockQ, Ann.kill, List.find?_nil]
      repeat apply W_seq
      refine W_region (by simp [IntWalk.i64_in ((k : Int) + 1) (by omega)]; first | exact ⟨rfl, rfl⟩ | exact rfl) ?_
      try simp only [thenQ, blockQ, Ann.kill, List.find?_nil]
      exact ⟨s.length - (k + 1), by omega, k + 1, 10 * n + c - 48, false, rfl, c2, by omega, by simpa [d1, d2] using he, by simp [w1, w2, w3, w4], trivial⟩
    ·have d1' : ¬ (48 : Int) ≤ c := by omega
     repeat apply W_seq
     refine W_region (by simp [hc, hci, d1']; first | exact ⟨rfl, rfl⟩ | exact rfl) ?_
     try simp only [thenQ, blockQ, Ann.kill, List.find?_nil]
     repeat apply W_seq
     refine W_region (by simp [hc, hci, w1, w2, w3, w4]; first | exact ⟨rfl, rfl⟩ | exact rfl) ?_
     try simp only [thenQ, blockQ, Ann.kill, List.find?_nil]
     repeat apply W_seq
     refine W_region (by simp [IntWalk.i64_in ((k : Int) + 1) (by omega)]; first | exact ⟨rfl, rfl⟩ | exact rfl) ?_
     try simp only [thenQ, blockQ, Ann.kill, List.find?_nil]
     exact ⟨s.length - (k + 1), by omega, k + 1, 10 * n + c - 48, false, rfl, c2, by omega, by simpa [d1] using he, by simp [w1, w2, w3, w4], trivial⟩
  ·repeat apply W_seq
   refine W_cond (t := false) (by simp [c2]) ?_
   simp only [if_true, if_false, Bool.false_eq_true]
   repeat apply W_seq
   refine W_exit ?_
   try simp only [thenQ, blockQ, if_true, Ann.kill, List.find?_nil]
   have : k = s.length := by omega
   subst this
   rw [List.drop_length] at he
   simp only [bnL] at he
   repeat apply W_seq
   refine W_region (by simp; first | exact ⟨rfl, rfl⟩ | exact rfl) ?_
   try simp only [thenQ, blockQ, Ann.kill, List.find?_nil]
   cases ok with
   | true =>
    have hbn : bindN s = n := by simp only [bindN, c1, ← he, and_self, if_true]
    repeat apply W_seq
    refine W_cond (t := true) (by simp) ?_
    simp only [if_true, if_false, Bool.false_eq_true]
    repeat apply W_seq
    refine W_region (by simp; first | exact ⟨rfl, rfl⟩ | exact rfl) ?_
    try simp only [thenQ, blockQ, Ann.kill, List.find?_nil]
    refine W_ret ?_
    try simp only [thenQ, blockQ]
    simp [Tryz.f94, hbn]
   | false =>
    have hbn : bindN s = if 99 < s.length then 99 else (s.length : Int) := by simp [bindN, ← he]
    have hns : ¬ 99 < s.length := by omega
    rw [if_neg hns] at hbn
    have hns' : ¬ (99 : Int) < s.length := by omega
    repeat apply W_seq
    refine W_cond (t := false) (by simp) ?_
    simp only [if_true, if_false, Bool.false_eq_true]
    refine W_skip ?_
    try simp only [thenQ, blockQ, Ann.kill, List.find?_nil]
    repeat apply W_seq
    refine W_region (by simp [hns']; first | exact ⟨rfl, rfl⟩ | exact rfl) ?_
    try simp only [thenQ, blockQ, Ann.kill, List.find?_nil]
    repeat apply W_seq
    refine W_cond (t := false) (by simp) ?_
    simp only [if_true, if_false, Bool.false_eq_true]
    refine W_skip ?_
    try simp only [thenQ, blockQ, Ann.kill, List.find?_nil]
    repeat apply W_seq
    refine W_region (by simp; first | exact ⟨rfl, rfl⟩ | exact rfl) ?_
    try simp only [thenQ, blockQ, Ann.kill, List.find?_nil]
    refine W_ret ?_
    try simp only [thenQ, blockQ]
    simp [Tryz.f94, hbn]
 ·have ei : inF (s.length : Int) 1 2 = false := by
   simp only [inF, Bool.and_eq_false_iff, decide_eq_false_iff_not]
   omega
  rw [ei] at hin
  have hbn : bindN s = if 99 < s.length then 99 else (s.length : Int) := by simp only [bindN, c1, false_and, if_false]
  repeat apply W_seq
  refine W_region (by simp; first | exact ⟨rfl, rfl⟩ | exact rfl) ?_
  try simp only [thenQ, blockQ, Ann.kill, List.find?_nil]
  repeat apply W_seq
  refine W_region (by simp [hin]; first | exact ⟨rfl, rfl⟩ | exact rfl) ?_
  try simp only [thenQ, blockQ, Ann.kill, List.find?_nil]
  repeat apply W_seq
  refine W_cond (t := false) (by simp) ?_
  simp only [if_true, if_false, Bool.false_eq_true]
  refine W_skip ?_
  try simp only [thenQ, blockQ, Ann.kill, List.find?_nil]
  by_cases c3 : 99 < s.length
  ·have c3' : (99 : Int) < s.length := by omega
   rw [if_pos c3] at hbn
   repeat apply W_seq
   refine W_region (by simp [c3']; first | exact ⟨rfl, rfl⟩ | exact rfl) ?_
   try simp only [thenQ, blockQ, Ann.kill, List.find?_nil]
   repeat apply W_seq
   refine W_cond (t := true) (by simp) ?_
   simp only [if_true, if_false, Bool.false_eq_true]
   repeat apply W_seq
   refine W_region (by simp; first | exact ⟨rfl, rfl⟩ | exact rfl) ?_
   try simp only [thenQ, blockQ, Ann.kill, List.find?_nil]
   refine W_ret ?_
   try simp only [thenQ, blockQ]
   simp [Tryz.f94, hbn]
  ·have c3' : ¬ (99 : Int) < s.length := by omega
   rw [if_neg c3] at hbn
   repeat apply W_seq
   refine W_region (by simp [c3']; first | exact ⟨rfl, rfl⟩ | exact rfl) ?_
   try simp only [thenQ, blockQ, Ann.kill, List.find?_nil]
   repeat apply W_seq
   refine W_cond (t := false) (by simp) ?_
   simp only [if_true, if_false, Bool.false_eq_true]
   refine W_skip ?_
   try simp only [thenQ, blockQ, Ann.kill, List.find?_nil]
   repeat apply W_seq
   refine W_region (by simp; first | exact ⟨rfl, rfl⟩ | exact rfl) ?_
   try simp only [thenQ, blockQ, Ann.kill, List.find?_nil]
   refine W_ret ?_
   try simp only [thenQ, blockQ]
   simp [Tryz.f94, hbn]
theorem bindNum_ld (s : List Nat) (hb : Bs s) (hl : s.length ≤ 1048576) (σ : Store) : LD S 94 [.t (.str s)] σ = some (.t (I (bindN s)), σ) :=
 LD_pure (A := A94) (v := .t (I (bindN s))) (σ0 := []) rfl rfl rfl (bindNum_lv s hb hl) rfl σ
def bsB (s : List Nat) : Bool := s.all fun c => decide (c < 256)
theorem bsB_eq {s : List Nat} (h : bsB s = true) : Bs s := fun c hc => by simpa using List.all_eq_true.1 h c hc
/-- what is known behind a call -/
def bindS (VN : List Nat → Bool) (e : Env) (bs t : List Nat) : Option Env :=
 if allVN VN e = true ∧ e.length ≤ 1000 ∧ t.length ≤ 1000000 ∧ bsB t = true then
  if bs = [] then some e else if VN bs = true then some (setN e bs (bindN t)) else none
 else none
theorem setN_len (e : Env) (nm : List Nat) (n : Int) (h : e.length ≤ 1000) : (setN e nm n).length ≤ 1000 := by
 unfold setN
 split
 ·rename_i h1
  simp only [envOk, Bool.and_eq_true, decide_eq_true_eq] at h1
  omega
 ·exact h
theorem bind_ld {VN : List Nat → Bool} (hV : NmOk VN) {e e' : Env} {bs t : List Nat} (h : bindS VN e bs t = some e') : e'.length ≤ 1048576 ∧ ∀ σ, LD S 83 [.t (envT e), .t (.str bs), .t (.str t)] σ = some (.t (envT e'), σ) := by
 unfold bindS at h
 split at h
 rotate_left
 ·cases h
 rename_i hb
 obtain ⟨b1, b2, b3, b4⟩ := hb
 suffices hh : e'.length ≤ 1048576 ∧ ∃ σ', LV S 83 [.t (envT e), .t (.str bs), .t (.str t)] [] = some (.t (envT e'), σ') by
  obtain ⟨h0, σ', hh⟩ := hh
  exact ⟨h0, fun σ => LD_pure (A := A83) (args := [.t (envT e), .t (.str bs), .t (.str t)]) (v := .t (envT e')) rfl rfl rfl hh rfl σ⟩
 split at h
 ·rename_i hbs
  subst hbs
  cases h
  refine ⟨by omega, ?_⟩
  refine LV_bodyE (A := A83) rfl Tryz.func83 rfl ?_
  repeat apply W_seq
  refine W_region (by simp; first | exact ⟨rfl, rfl⟩ | exact rfl) ?_
  try simp only [thenQ, blockQ, Ann.kill, List.find?_nil]
  repeat apply W_seq
  refine W_region (by simp [eqL_eq]; first | exact ⟨rfl, rfl⟩ | exact rfl) ?_
  try simp only [thenQ, blockQ, Ann.kill, List.find?_nil]
  repeat apply W_seq
  refine W_cond (t := true) (by simp) ?_
  simp only [if_true, if_false, Bool.false_eq_true]
  repeat apply W_seq
  refine W_region (by simp; first | exact ⟨rfl, rfl⟩ | exact rfl) ?_
  try simp only [thenQ, blockQ, Ann.kill, List.find?_nil]
  refine W_ret ?_
  try simp only [thenQ, blockQ]
  simp [Tryz.f83]
 ·rename_i hbs
  split at h
  rotate_left
  ·cases h
  rename_i hn
  cases h
  have h0 := setN_len e bs (bindN t) b2
  have hbn := bindNum_ld t (bsB_eq b4) (by omega)
  have hes := envSet_ld hV b1 b2 hn (bindN t)
  refine ⟨by omega, ?_⟩
  refine LV_bodyE (A := A83) rfl Tryz.func83 rfl ?_
  repeat apply W_seq
  refine W_region (by simp; first | exact ⟨rfl, rfl⟩ | exact rfl) ?_
  try simp only [thenQ, blockQ, Ann.kill, List.find?_nil]
  repeat apply W_seq
  refine W_region (by simp [eqL_eq, hbs]; first | exact ⟨rfl, rfl⟩ | exact rfl) ?_
  try simp only [thenQ, blockQ, Ann.kill, List.find?_nil]
  repeat apply W_seq
  refine W_cond (t := false) (by simp) ?_
  simp only [if_true, if_false, Bool.false_eq_true]
  refine W_skip ?_
  try simp only [thenQ, blockQ, Ann.kill, List.find?_nil]
  repeat apply W_seq
  refine W_region (by simp [hbn, hes]; first | exact ⟨rfl, rfl⟩ | exact rfl) ?_
  try simp only [thenQ, blockQ, Ann.kill, List.find?_nil]
  repeat apply W_seq
  refine W_region (by simp; first | exact ⟨rfl, rfl⟩ | exact rfl) ?_
  try simp only [thenQ, blockQ, Ann.kill, List.find?_nil]
  refine W_ret ?_
  try simp only [thenQ, blockQ]
  simp [Tryz.f83]
/-! ### What is known where a rule begins -/
def strN : T → Option (List Nat)
 | .agg [.str s] => some s
 | _ => none
def strsG : List T → Option (List (List Nat))
 | [] => some []
 | x :: r => match strN x, strsG r with
  | some n, some l => some (n :: l)
  | _, _ => none
def strsL : T → Option (List (List Nat))
 | .nils => some []
 | .list rows => strsG rows
 | _ => none
def Strs (x : T) (l : List (List Nat)) : Prop := (x = .nils ∧ l = []) ∨ x = .list (l.map fun s => .agg [.str s])
theorem strsG_eq : ∀ {rows : List T} {l : List (List Nat)}, strsG rows = some l → rows = l.map fun s => .agg [.str s]
 | [], l, h => by cases h; rfl
 | x :: r, l, h => by
  simp only [strsG] at h
  split at h
  ·rename_i n l' h1 h2
   cases h
   have := strsG_eq h2
   subst this
   unfold strN at h1
   split at h1
   ·cases h1; rfl
   ·cases h1
  ·cases h
theorem strsL_eq {x : T} {l : List (List Nat)} (h : strsL x = some l) : Strs x l := by
 unfold strsL at h
 split at h
 ·cases h; exact .inl ⟨rfl, rfl⟩
 ·exact .inr (by rw [strsG_eq h])
 ·cases h
theorem Strs.len {x : T} {l : List (List Nat)} (h : Strs x l) (σ : Store) (e : TypeId) : lenV σ (.slice e) (.t x) = some (l.length : Int) := by
 rcases h with ⟨rfl, rfl⟩ | rfl <;> simp
theorem Strs.idx {x : T} {l : List (List Nat)} (h : Strs x l) {i : Nat} {s : List Nat} (hi : l[i]? = some s) : idxV 1 (.t x) (i : Int) = some (.t (.snap [.str s])) := by
 rcases h with ⟨rfl, rfl⟩ | rfl
 ·simp at hi
 ·simp [hi]
def env0L (VN : List Nat → Bool) : List (List Nat) → List Nat → Env → Option Env
 | p :: ps, a :: as', e => if VN p = true ∧ allVN VN e = true ∧ e.length ≤ 1000 then env0L VN ps as' (setN e p a) else none
 | _, _, e => some e
def env0S (VN : List Nat → Bool) (ps : T) (al : List Nat) : Option Env := match strsL ps with
 | some l => if l.length ≤ 1000 ∧ al.length ≤ 1000 then env0L VN l al [] else none
 | none => none
attribute [-simp] loadV
theorem env0_ld {VN : List Nat → Bool} (hV : NmOk VN) {ps : T} {al : List Nat} {env : Env} (h : env0S VN ps al = some env) : env.length ≤ 1048576 ∧ ∀ σ v, Rd σ v al → LD S 69 [.t ps, v] σ = some (.t (envT env), σ) := by
 unfold env0S at h
 split at h
 rotate_left
 ·cases h
 rename_i l hl
 split at h
 rotate_left
 ·cases h
 rename_i hb
 have hs := strsL_eq hl
 have key : ∀ (l : List (List Nat)) (al : List Nat) (e : Env), e.length ≤ 1000 → env0L VN l al e = some env → env.length ≤ 1000 := by
  intro l
  induction l with
  | nil => intro al e he h; cases al <;> (simp only [env0L] at h; cases h; exact he)
  | cons p ps ih =>
   intro al e he h
   cases al with
   | nil => simp only [env0L] at h; cases h; exact he
   | cons a as' =>
    simp only [env0L] at h
    split at h
    ·exact ih as' _ (setN_len e p a he) h
    ·cases h
 refine ⟨by have := key l al [] (by simp) h; omega, fun σ v hv => ?_⟩
 suffices hh : ∃ w σ', LV S 69 [.t ps, v] σ = some (w, σ') ∧ w = .t (envT env) ∧ σ' = σ by
  obtain ⟨w, σ', h1, rfl, rfl⟩ := hh
  rw [LD_inl (A := A69) rfl rfl rfl]; exact h1
 refine LV_bodyX (A := A69) rfl Tryz.func69 rfl ?_
 repeat apply W_seq
 refine W_region (by simp; first | exact ⟨rfl, rfl⟩ | exact rfl) ?_
 try simp only [thenQ, blockQ, Ann.kill, List.find?_nil]
 repeat apply W_seq
 refine W_region (by simp [sliceCells, repZero, chunk, fillV, allT]; first | exact ⟨rfl, rfl⟩ | exact rfl) ?_
 try simp only [thenQ, blockQ, Ann.kill, List.find?_nil]
 repeat apply W_seq
 refine W_region (by simp; first | exact ⟨rfl, rfl⟩ | exact rfl) ?_
 try simp only [thenQ, blockQ, Ann.kill, List.find?_nil]
 repeat apply W_seq
 refine W_block ?_
 refine W_loop (I := fun m st τ => ∃ k e, m = l.length - k ∧ k ≤ l.length ∧ k ≤ al.length ∧ env0L VN (l.drop k) (al.drop k) e = some env ∧ st.vars = [(0, .t ps), (1, v), (4, .t .nils), (5, .t (envT e)), (6, .t (I k))] ∧ τ = σ) ?_ l.length _ _ ⟨0, [], rfl, Nat.zero_le _, Nat.zero_le _, h, by simp [envT, rowsE], rfl⟩
 clear h key
 rintro m ⟨vars, scr⟩ τ ⟨k, e, rfl, hk, hk2, h, hvs, rfl⟩
 simp only at hvs
 subst hvs
 by_cases c1 : k < l.length
 ·have c1' : (k : Int) < l.length := by omega
  by_cases c2 : k < al.length
  ·have c2' : (k : Int) < al.length := by omega
   obtain ⟨p, hp⟩ := get_of_lt c1
   obtain ⟨a, hka⟩ := get_of_lt c2
   rw [drop_get hp, drop_get hka] at h
   simp only [env0L] at h
   split at h
   rotate_left
   ·cases h
   rename_i hc
   have hes := envSet_ld hV hc.2.1 hc.2.2 hc.1 a τ
   simp only [envT] at hes
   repeat apply W_seq
   refine W_region (by simp [hs.len, hv.len, c1', c2']; first | exact ⟨rfl, rfl⟩ | exact rfl) ?_
   try simp only [thenQ, blockQ, Ann.kill, List.find?_nil]
   repeat apply W_seq
   refine W_cond (t := true) (by simp) ?_
   simp only [if_true, if_false, Bool.false_eq_true]
   refine W_skip ?_
   try simp only [thenQ, blockQ, Ann.kill, List.find?_nil]
   repeat apply W_seq
   refine W_block ?_
   obtain ⟨q, hq, hq2⟩ := hv.idx hka
   repeat apply W_seq
   refine W_region (by simp [hs.idx hp, hq, hq2, hes, envT]; first | exact ⟨rfl, rfl⟩ | exact rfl) ?_
   try simp only [thenQ, blockQ, Ann.kill, List.find?_nil]
   repeat apply W_seq
   refine W_region (by simp [IntWalk.i64_in ((k : Int) + 1) (by omega)]; first | exact ⟨rfl, rfl⟩ | exact rfl) ?_
   try simp only [thenQ, blockQ, Ann.kill, List.find?_nil]
   exact ⟨l.length - (k + 1), by omega, k + 1, setN e p a, rfl, c1, c2, h, by simp [envT], trivial⟩
  ·have c2' : ¬ (k : Int) < al.length := by omega
   have : k = al.length := by omega
   rw [this, List.drop_length] at h
   have h' : some e = some env := by
    cases hd : l.drop al.length with
    | nil => rw [hd] at h; exact h
    | cons x y => rw [hd] at h; exact h
   cases h'
   repeat apply W_seq
   refine W_region (by simp [hs.len, hv.len, c1', c2']; first | exact ⟨rfl, rfl⟩ | exact rfl) ?_
   try simp only [thenQ, blockQ, Ann.kill, List.find?_nil]
   repeat apply W_seq
   refine W_cond (t := false) (by simp) ?_
   simp only [if_true, if_false, Bool.false_eq_true]
   repeat apply W_seq
   refine W_exit ?_
   try simp only [thenQ, blockQ, if_true, Ann.kill, List.find?_nil]
   repeat apply W_seq
   refine W_region (by simp; first | exact ⟨rfl, rfl⟩ | exact rfl) ?_
   try simp only [thenQ, blockQ, Ann.kill, List.find?_nil]
   refine W_ret ?_
   try simp only [thenQ, blockQ]
   exact ⟨trivial, _, (by simp [Tryz.f69]), rfl, trivial⟩
 ·have c1' : ¬ (k : Int) < l.length := by omega
  have : k = l.length := by omega
  rw [this, List.drop_length] at h
  have h' : some e = some env := by
   cases hd : al.drop l.length with
   | nil => rw [hd] at h; exact h
   | cons x y => rw [hd] at h; exact h
  cases h'
  repeat apply W_seq
  refine W_region (by simp [hs.len, hv.len, c1']; first | exact ⟨rfl, rfl⟩ | exact rfl) ?_
  try simp only [thenQ, blockQ, Ann.kill, List.find?_nil]
  repeat apply W_seq
  refine W_cond (t := false) (by simp) ?_
  simp only [if_true, if_false, Bool.false_eq_true]
  repeat apply W_seq
  refine W_exit ?_
  try simp only [thenQ, blockQ, if_true, Ann.kill, List.find?_nil]
  repeat apply W_seq
  refine W_region (by simp; first | exact ⟨rfl, rfl⟩ | exact rfl) ?_
  try simp only [thenQ, blockQ, Ann.kill, List.find?_nil]
  refine W_ret ?_
  try simp only [thenQ, blockQ]
  exact ⟨trivial, _, (by simp [Tryz.f69]), rfl, trivial⟩
end X
