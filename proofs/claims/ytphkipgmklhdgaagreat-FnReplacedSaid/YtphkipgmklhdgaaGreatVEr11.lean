/- A part of the proof. No statement of the claim is in it. -/
import Derived.Test.YtphkipgmklhdgaaGreatVEr10
open Go Go.V Go.Proofs
namespace X
set_option maxRecDepth 100000
set_option maxHeartbeats 4000000
set_option linter.unusedSimpArgs false
set_option linter.unusedVariables false
attribute [-simp] lenV idxV getElem?_pos
/-! ### Expressions -/
def getE : Env → List Nat → Option Int
 | [], _ => none
 | p :: r, nm => if p.1 = nm then some p.2 else getE r nm
def getT (o : Option Int) : T := match o with
 | some n => .tup [I n, B true]
 | none => .tup [I 0, B false]
theorem envGet_lv (e : Env) (nm : List Nat) (hl : e.length ≤ 1048576) : LV S 101 [.t (envT e), .t (.str nm)] [] = some (.t (getT (getE e nm)), []) := by
 refine LV_body (A := A101) rfl Tryz.func101 rfl ?_
 repeat apply W_seq
 refine W_region (by simp; first | exact ⟨rfl, rfl⟩ | exact rfl) ?_
 try simp only [thenQ, blockQ, Ann.kill, List.find?_nil]
 repeat apply W_seq
 refine W_region (by simp; first | exact ⟨rfl, rfl⟩ | exact rfl) ?_
 try simp only [thenQ, blockQ, Ann.kill, List.find?_nil]
 repeat apply W_seq
 refine W_block ?_
 refine W_loop (I := fun m st τ => ∃ k, m = e.length - k ∧ k ≤ e.length ∧ getE e nm = getE (e.drop k) nm ∧ st.vars = [(0, .t (envT e)), (1, .t (.str nm)), (4, .t (I 0)), (5, .t (B false)), (6, .t (I k))] ∧ τ = []) ?_ e.length _ _ ⟨0, rfl, Nat.zero_le _, rfl, by simp [envT], rfl⟩
 rintro m ⟨vars, scr⟩ τ ⟨k, rfl, hk, he, hv, rfl⟩
 simp only at hv
 subst hv
 repeat apply W_seq
 refine W_region (by simp [envT]; first | exact ⟨rfl, rfl⟩ | exact rfl) ?_
 try simp only [thenQ, blockQ, Ann.kill, List.find?_nil]
 by_cases c1 : k < e.length
 ·repeat apply W_seq
  refine W_cond (t := true) (by simp [c1]) ?_
  simp only [if_true, if_false, Bool.false_eq_true]
  refine W_skip ?_
  try simp only [thenQ, blockQ, Ann.kill, List.find?_nil]
  repeat apply W_seq
  refine W_block ?_
  obtain ⟨p, hp⟩ := get_of_lt c1
  rw [drop_get hp] at he
  simp only [getE] at he
  repeat apply W_seq
  refine W_region (by simp [envT, hp, rowE, eqL_eq]; first | exact ⟨rfl, rfl⟩ | exact rfl) ?_
  try simp only [thenQ, blockQ, Ann.kill, List.find?_nil]
  by_cases c2 : p.1 = nm
  ·rw [if_pos c2] at he
   repeat apply W_seq
   refine W_cond (t := true) (by simp [c2]) ?_
   simp only [if_true, if_false, Bool.false_eq_true]
   repeat apply W_seq
   refine W_region (by simp [envT, hp, rowE]; first | exact ⟨rfl, rfl⟩ | exact rfl) ?_
   try simp only [thenQ, blockQ, Ann.kill, List.find?_nil]
   refine W_ret ?_
   try simp only [thenQ, blockQ]
   simp [Tryz.f101, he, getT]
  ·rw [if_neg c2] at he
   repeat apply W_seq
   refine W_cond (t := false) (by simp [c2]) ?_
   simp only [if_true, if_false, Bool.false_eq_true]
   refine W_skip ?_
   try simp only [thenQ, blockQ, Ann.kill, List.find?_nil]
   repeat apply W_seq
   refine W_region (by simp [IntWalk.i64_in ((k : Int) + 1) (by omega)]; first | exact ⟨rfl, rfl⟩ | exact rfl) ?_
   try simp only [thenQ, blockQ, Ann.kill, List.find?_nil]
   exact ⟨e.length - (k + 1), by omega, k + 1, rfl, c1, he, by simp [envT], by simp⟩
 ·repeat apply W_seq
  refine W_cond (t := false) (by simp [c1]) ?_
  simp only [if_true, if_false, Bool.false_eq_true]
  repeat apply W_seq
  refine W_exit ?_
  try simp only [thenQ, blockQ, if_true, Ann.kill, List.find?_nil]
  have : k = e.length := by omega
  subst this
  rw [List.drop_length] at he
  simp only [getE] at he
  repeat apply W_seq
  refine W_region (by simp; first | exact ⟨rfl, rfl⟩ | exact rfl) ?_
  try simp only [thenQ, blockQ, Ann.kill, List.find?_nil]
  refine W_ret ?_
  try simp only [thenQ, blockQ]
  simp [Tryz.f101, he, getT]
theorem envGet_ld (e : Env) (nm : List Nat) (hl : e.length ≤ 1048576) (σ : Store) : LD S 101 [.t (envT e), .t (.str nm)] σ = some (.t (getT (getE e nm)), σ) :=
 LD_pure (A := A101) (v := .t (getT (getE e nm))) (σ0 := []) rfl rfl rfl (envGet_lv e nm hl) rfl σ
def flagF (b : Bool) : Int := if b then 1 else 0
theorem flag_ld (b : Bool) (σ : Store) : LD S 102 [.t (B b)] σ = some (.t (I (flagF b)), σ) := by
 suffices h : LV S 102 [.t (B b)] [] = some (.t (I (flagF b)), []) from LD_pure (A := A102) (v := .t (I (flagF b))) (σ0 := []) rfl rfl rfl h rfl σ
 refine LV_body (A := A102) rfl Tryz.func102 rfl ?_
 cases b with
 | true =>
  repeat apply W_seq
  refine W_region (by simp; first | exact ⟨rfl, rfl⟩ | exact rfl) ?_
  try simp only [thenQ, blockQ, Ann.kill, List.find?_nil]
  repeat apply W_seq
  refine W_region (by simp; first | exact ⟨rfl, rfl⟩ | exact rfl) ?_
  try simp only [thenQ, blockQ, Ann.kill, List.find?_nil]
  repeat apply W_seq
  refine W_cond (t := true) (by simp) ?_
  simp only [if_true, if_false, Bool.false_eq_true]
  repeat apply W_seq
  refine W_region (by simp; first | exact ⟨rfl, rfl⟩ | exact rfl) ?_
  try simp only [thenQ, blockQ, Ann.kill, List.find?_nil]
  refine W_ret ?_
  try simp only [thenQ, blockQ]
  simp [Tryz.f102, flagF]
 | false =>
  repeat apply W_seq
  refine W_region (by simp; first | exact ⟨rfl, rfl⟩ | exact rfl) ?_
  try simp only [thenQ, blockQ, Ann.kill, List.find?_nil]
  repeat apply W_seq
  refine W_region (by simp; first | exact ⟨rfl, rfl⟩ | exact rfl) ?_
  try simp only [thenQ, blockQ, Ann.kill, List.find?_nil]
  repeat apply W_seq
  refine W_cond (t := false) (by simp) ?_
  simp only [if_true, if_false, Bool.false_eq_true]
  refine W_skip ?_
  try simp only [thenQ, blockQ, Ann.kill, List.find?_nil]
  repeat apply W_seq
  refine W_region (by simp; first | exact ⟨rfl, rfl⟩ | exact rfl) ?_
  try simp only [thenQ, blockQ, Ann.kill, List.find?_nil]
  refine W_ret ?_
  try simp only [thenQ, blockQ]
  simp [Tryz.f102, flagF]
/-- what is reckoned of two numbers -/
def twoF (op : Nat) (a b : Int) : Option Int :=
 if op = 4 then some (a + b) else if op = 5 then some (a - b) else if op = 6 then some (a * b)
 else if op = 7 then (if b = 0 then none else some (a.tdiv b)) else if op = 8 then some (flagF (decide (a < b)))
 else if op = 9 then some (flagF (a == b)) else some (flagF (decide (a ≠ 0) && decide (b ≠ 0)))
def Nb (a : Int) : Prop := -9999 ≤ a ∧ a ≤ 9999
theorem mul_nb {a b : Int} (ha : Nb a) (hb : Nb b) : -99980001 ≤ a * b ∧ a * b ≤ 99980001 := by
 obtain ⟨a1, a2⟩ := ha
 obtain ⟨b1, b2⟩ := hb
 have h1 : a.natAbs ≤ 9999 := by omega
 have h2 : b.natAbs ≤ 9999 := by omega
 have h3 : (a * b).natAbs ≤ 9999 * 9999 := by rw [Int.natAbs_mul]; exact Nat.mul_le_mul h1 h2
 omega
theorem tdiv_nb {a b : Int} (ha : Nb a) : -9999 ≤ a.tdiv b ∧ a.tdiv b ≤ 9999 := by
 obtain ⟨a1, a2⟩ := ha
 have h3 : (a.tdiv b).natAbs ≤ a.natAbs := by rw [Int.natAbs_tdiv]; exact Nat.div_le_self _ _
 omega
theorem two_lv (op : Nat) (a b : Int) (ha : Nb a) (hb : Nb b) : LV S 103 [.t (I op), .t (I a), .t (I b)] [] = some (.t (getT (twoF op a b)), []) := by
 have hm := mul_nb ha hb
 have hd := tdiv_nb (b := b) ha
 obtain ⟨a1, a2⟩ := ha
 obtain ⟨b1, b2⟩ := hb
 refine LV_body (A := A103) rfl Tryz.func103 rfl ?_
 repeat apply W_seq
 refine W_region (by simp; first | exact ⟨rfl, rfl⟩ | exact rfl) ?_
 try simp only [thenQ, blockQ, Ann.kill, List.find?_nil]
 repeat apply W_seq
 refine W_region (by simp; first | exact ⟨rfl, rfl⟩ | exact rfl) ?_
 try simp only [thenQ, blockQ, Ann.kill, List.find?_nil]
 repeat apply W_seq
 refine W_block ?_
 repeat apply W_seq
 refine W_region (by simp; first | exact ⟨rfl, rfl⟩ | exact rfl) ?_
 try simp only [thenQ, blockQ, Ann.kill, List.find?_nil]
 by_cases c4 : op = 4
 ·subst c4
  repeat apply W_seq
  refine W_cond (t := true) (by simp) ?_
  simp only [if_true, if_false, Bool.false_eq_true]
  repeat apply W_seq
  refine W_region (by simp [IntWalk.i64_in (a + b) (by omega)]; first | exact ⟨rfl, rfl⟩ | exact rfl) ?_
  try simp only [thenQ, blockQ, Ann.kill, List.find?_nil]
  refine W_ret ?_
  try simp only [thenQ, blockQ]
  simp [Tryz.f103, getT, twoF]
 ·repeat apply W_seq
  refine W_cond (t := false) (by simp [show ¬ (op : Int) = 4 by omega]) ?_
  simp only [if_true, if_false, Bool.false_eq_true]
  repeat apply W_seq
  refine W_region (by simp; first | exact ⟨rfl, rfl⟩ | exact rfl) ?_
  try simp only [thenQ, blockQ, Ann.kill, List.find?_nil]
  by_cases c5 : op = 5
  ·subst c5
   repeat apply W_seq
   refine W_cond (t := true) (by simp) ?_
   simp only [if_true, if_false, Bool.false_eq_true]
   repeat apply W_seq
   refine W_region (by simp [IntWalk.i64_in (a - b) (by omega)]; first | exact ⟨rfl, rfl⟩ | exact rfl) ?_
   try simp only [thenQ, blockQ, Ann.kill, List.find?_nil]
   refine W_ret ?_
   try simp only [thenQ, blockQ]
   simp [Tryz.f103, getT, twoF]
  ·repeat apply W_seq
   refine W_cond (t := false) (by simp [show ¬ (op : Int) = 5 by omega]) ?_
   simp only [if_true, if_false, Bool.false_eq_true]
   repeat apply W_seq
   refine W_region (by simp; first | exact ⟨rfl, rfl⟩ | exact rfl) ?_
   try simp only [thenQ, blockQ, Ann.kill, List.find?_nil]
   by_cases c6 : op = 6
   ·subst c6
    repeat apply W_seq
    refine W_cond (t := true) (by simp) ?_
    simp only [if_true, if_false, Bool.false_eq_true]
    repeat apply W_seq
    refine W_region (by simp [IntWalk.i64_in (a * b) (by omega)]; first | exact ⟨rfl, rfl⟩ | exact rfl) ?_
    try simp only [thenQ, blockQ, Ann.kill, List.find?_nil]
    refine W_ret ?_
    try simp only [thenQ, blockQ]
    simp [Tryz.f103, getT, twoF]
   ·repeat apply W_seq
    refine W_cond (t := false) (by simp [show ¬ (op : Int) = 6 by omega]) ?_
    simp only [if_true, if_false, Bool.false_eq_true]
    repeat apply W_seq
    refine W_region (by simp; first | exact ⟨rfl, rfl⟩ | exact rfl) ?_
    try simp only [thenQ, blockQ, Ann.kill, List.find?_nil]
    by_cases c7 : op = 7
    ·subst c7
     repeat apply W_seq
     refine W_cond (t := true) (by simp) ?_
     simp only [if_true, if_false, Bool.false_eq_true]
     repeat apply W_seq
     refine W_region (by simp; first | exact ⟨rfl, rfl⟩ | exact rfl) ?_
     try simp only [thenQ, blockQ, Ann.kill, List.find?_nil]
     by_cases cb : b = 0
     ·subst cb
      repeat apply W_seq
      refine W_cond (t := true) (by simp) ?_
      simp only [if_true, if_false, Bool.false_eq_true]
      repeat apply W_seq
      refine W_region (by simp; first | exact ⟨rfl, rfl⟩ | exact rfl) ?_
      try simp only [thenQ, blockQ, Ann.kill, List.find?_nil]
      refine W_ret ?_
      try simp only [thenQ, blockQ]
      simp [Tryz.f103, getT, twoF]
     ·repeat apply W_seq
      refine W_cond (t := false) (by simp [cb]) ?_
      simp only [if_true, if_false, Bool.false_eq_true]
      refine W_skip ?_
      try simp only [thenQ, blockQ, Ann.kill, List.find?_nil]
      repeat apply W_seq
      refine W_region (by simp [cb, IntWalk.i64_in (a.tdiv b) (by omega)]; first | exact ⟨rfl, rfl⟩ | exact rfl) ?_
      try simp only [thenQ, blockQ, Ann.kill, List.find?_nil]
      refine W_ret ?_
      try simp only [thenQ, blockQ]
      simp [Tryz.f103, getT, twoF, cb]
    ·repeat apply W_seq
     refine W_cond (t := false) (by simp [show ¬ (op : Int) = 7 by omega]) ?_
     simp only [if_true, if_false, Bool.false_eq_true]
     repeat apply W_seq
     refine W_region (by simp; first | exact ⟨rfl, rfl⟩ | exact rfl) ?_
     try simp only [thenQ, blockQ, Ann.kill, List.find?_nil]
     by_cases c8 : op = 8
     ·subst c8
      repeat apply W_seq
      refine W_cond (t := true) (by simp) ?_
      simp only [if_true, if_false, Bool.false_eq_true]
      repeat apply W_seq
      refine W_region (by simp [flag_ld]; first | exact ⟨rfl, rfl⟩ | exact rfl) ?_
      try simp only [thenQ, blockQ, Ann.kill, List.find?_nil]
      refine W_ret ?_
      try simp only [thenQ, blockQ]
      simp [Tryz.f103, getT, twoF]
     ·repeat apply W_seq
      refine W_cond (t := false) (by simp [show ¬ (op : Int) = 8 by omega]) ?_
      simp only [if_true, if_false, Bool.false_eq_true]
      repeat apply W_seq
      refine W_region (by simp; first | exact ⟨rfl, rfl⟩ | exact rfl) ?_
      try simp only [thenQ, blockQ, Ann.kill, List.find?_nil]
      by_cases c9 : op = 9
      ·subst c9
       repeat apply W_seq
       refine W_cond (t := true) (by simp) ?_
       simp only [if_true, if_false, Bool.false_eq_true]
       have hf := flag_ld (a == b)
       repeat apply W_seq
       refine W_region (by simp [hf]; first | exact ⟨rfl, rfl⟩ | exact rfl) ?_
       try simp only [thenQ, blockQ, Ann.kill, List.find?_nil]
       refine W_ret ?_
       try simp only [thenQ, blockQ]
       simp [Tryz.f103, getT, twoF]
      ·repeat apply W_seq
       refine W_cond (t := false) (by simp [show ¬ (op : Int) = 9 by omega]) ?_
       simp only [if_true, if_false, Bool.false_eq_true]
       refine W_skip ?_
       try simp only [thenQ, blockQ, Ann.kill, List.find?_nil]
       by_cases ca : a = 0
       ·subst ca
        repeat apply W_seq
        refine W_region (by simp [flag_ld]; first | exact ⟨rfl, rfl⟩ | exact rfl) ?_
        try simp only [thenQ, blockQ, Ann.kill, List.find?_nil]
        refine W_ret ?_
        try simp only [thenQ, blockQ]
        simp [Tryz.f103, getT, twoF, c4, c5, c6, c7, c8, c9]
       ·have ca' : (a != 0) = true := by simp [ca]
        by_cases cb : b = 0
        ·subst cb
         repeat apply W_seq
         refine W_region (by simp [flag_ld, ca']; first | exact ⟨rfl, rfl⟩ | exact rfl) ?_
         try simp only [thenQ, blockQ, Ann.kill, List.find?_nil]
         refine W_ret ?_
         try simp only [thenQ, blockQ]
         simp [Tryz.f103, getT, twoF, c4, c5, c6, c7, c8, c9, ca]
        ·have cb' : (b != 0) = true := by simp [cb]
         repeat apply W_seq
         refine W_region (by simp [flag_ld, ca', cb']; first | exact ⟨rfl, rfl⟩ | exact rfl) ?_
         try simp only [thenQ, blockQ, Ann.kill, List.find?_nil]
         refine W_ret ?_
         try simp only [thenQ, blockQ]
         simp [Tryz.f103, getT, twoF, c4, c5, c6, c7, c8, c9, ca, cb]
theorem two_ld (op : Nat) (a b : Int) (ha : Nb a) (hb : Nb b) (σ : Store) : LD S 103 [.t (I op), .t (I a), .t (I b)] σ = some (.t (getT (twoF op a b)), σ) :=
 LD_pure (A := A103) (v := .t (getT (twoF op a b))) (σ0 := []) rfl rfl rfl (two_lv op a b ha hb) rfl σ

/-! a tree that is a list of numbers -/
def kidN : T → Option Nat
 | .agg [.int .i64 (.ofNat n)] => some n
 | _ => none
def kidsG : List T → Option (List Nat)
 | [] => some []
 | x :: r => match kidN x, kidsG r with
  | some n, some l => some (n :: l)
  | _, _ => none
def kidsL : T → Option (List Nat)
 | .nils => some []
 | .list rows => kidsG rows
 | _ => none
theorem kidsG_eq : ∀ {rows : List T} {l : List Nat}, kidsG rows = some l → rows = rows1 l
 | [], l, h => by cases h; rfl
 | x :: r, l, h => by
  simp only [kidsG] at h
  split at h
  ·rename_i n l' h1 h2
   cases h
   have := kidsG_eq h2
   subst this
   unfold kidN at h1
   split at h1
   ·cases h1; rfl
   ·cases h1
  ·cases h
theorem kidsL_is {x : T} {l : List Nat} (h : kidsL x = some l) : Is x l := by
 unfold kidsL at h
 split at h
 ·cases h; exact .inl ⟨rfl, rfl⟩
 ·exact .inr (by rw [kidsG_eq h])
 ·cases h
def rowsB (l : List Bool) : List T := l.map fun b => .agg [B b]
@[simp] theorem rowsB_len (l : List Bool) : (rowsB l).length = l.length := by simp [rowsB]
@[simp] theorem rowsB_get (l : List Bool) (i : Nat) : (rowsB l)[i]? = (l[i]?).map fun b => T.agg [B b] := by simp [rowsB]
def intsZ (l : List Int) : List V := l.map fun n => V.t (I n)
@[simp] theorem intsZ_len (l : List Int) : (intsZ l).length = l.length := by simp [intsZ]
@[simp] theorem intsZ_get (l : List Int) (i : Nat) : (intsZ l)[i]? = (l[i]?).map fun n => V.t (I n) := by simp [intsZ]
theorem intsZ_set (l : List Int) (i : Nat) (n : Int) : (intsZ l).set i (V.t (I n)) = intsZ (l.set i n) := by simp [intsZ, List.map_set]
theorem rep_intsZ : ∀ n, repZero [V.t (I 0)] n = intsZ (List.replicate n 0)
 | 0 => rfl
 | n + 1 => by
  simp only [repZero, rep_intsZ n, List.replicate_succ]
  rfl
/-- a node's number: none: stuck; some none: there is none -/
def nodeV (nums : List Int) (env : Env) (here : Nat) (op : Nat) (num : Int) (nm : List Nat) (kids : List Nat) : Option (Option Int) :=
 if op = 1 then some (some num) else if op = 2 then some (getE env nm) else if op = 3 then some (some here)
 else if op = 11 then match kids[0]? with
  | some k => match nums[k]? with
   | some a => some (some (flagF (a == 0)))
   | none => none
  | none => none
 else match kids[0]?, kids[1]? with
  | some k, some k2 => match nums[k]?, nums[k2]? with
   | some a, some b => some (twoF op a b)
   | _, _ => none
  | _, _ => none
def nodeS (nums : List Int) (env : Env) (here : Nat) (op : Nat) (num : Int) (nm : List Nat) (kz : T) : Option (Option Int) := match kidsL kz with
 | some kids => nodeV nums env here op num nm kids
 | none => none
def nodeP : T → Option (Nat × Int × List Nat × T)
 | .agg [.int .i64 (.ofNat op), .int .i64 num, .str nm, kz] => some (op, num, nm, kz)
 | _ => none
theorem nodeP_eq {x : T} {op : Nat} {num : Int} {nm : List Nat} {kz : T} (h : nodeP x = some (op, num, nm, kz)) : x = .agg [I op, I num, .str nm, kz] := by
 unfold nodeP at h
 split at h
 ·cases h; rfl
 ·cases h
def evalL (env : Env) (here : Nat) : List T → List Bool → Nat → List Int → Option (Option (List Int))
 | [], _, _, nums => some (some nums)
 | x :: r, m :: ms, i, nums => match nodeP x with
  | none => none
  | some (op, num, nm, kz) => if m then match nodeS nums env here op num nm kz with
    | none => none
    | some none => some none
    | some (some n) => if -9999 ≤ n ∧ n ≤ 9999 then evalL env here r ms (i + 1) (nums.set i n) else some none
   else evalL env here r ms (i + 1) nums
 | _ :: _, [], _, _ => none
/-- the marks of expressions that are right -/
structure MkOk (MK : T → Option (List Bool)) : Prop where
 ok : ∀ x ms, MK x = some ms → ∀ σ, LD S 99 [.t x] σ = some (.t (B true), σ)
 marks : ∀ x ms, MK x = some ms → ∀ σ, LD S 100 [.t x] σ = some (.t (.list (rowsB ms)), σ)
def evalS (MK : T → Option (List Bool)) (x : T) (env : Env) (here : Nat) : Option (Option Int) :=
 match x with
 | .agg [.list nodes] => match MK (.agg [.list nodes]) with
  | none => none
  | some ms => if ms.length = nodes.length ∧ 0 < nodes.length ∧ nodes.length ≤ 100 ∧ env.length ≤ 1000 then
    match evalL env here nodes ms 0 (List.replicate nodes.length 0) with
    | none => none
    | some none => some none
    | some (some nums) => match nums[nodes.length - 1]? with
     | some n => some (some n)
     | none => none
   else none
 | _ => none
def vOk (v : Option Int) (n : Int) (ok : Bool) : Prop := match v with
 | some k => n = k ∧ ok = true
 | none => ok = false
theorem eval_lv {MK : T → Option (List Bool)} (hM : MkOk MK) {x : T} {env : Env} {here : Nat} {o : Option Int} (h : evalS MK x env here = some o) :
  ∃ σ', LV S 92 [.t x, .t (envT env), .t (I here)] [] = some (.t (getT o), σ') := by
 unfold evalS at h
 split at h
 rotate_left
 ·cases h
 rename_i nodes
 split at h
 ·cases h
 rename_i ms hms
 split at h
 rotate_left
 ·cases h
 rename_i hb
 obtain ⟨b1, b2, b3, b4⟩ := hb
 have k1 := hM.ok _ _ hms
 have k2 := hM.marks _ _ hms
 have hg := fun nm σ => envGet_ld env nm (by omega) σ
 refine LV_bodyE (A := A92) rfl Tryz.func92 rfl ?_
 repeat apply W_seq
 refine W_region (by simp; first | exact ⟨rfl, rfl⟩ | exact rfl) ?_
 try simp only [thenQ, blockQ, Ann.kill, List.find?_nil]
 repeat apply W_seq
 refine W_region (by simp [k1]; first | exact ⟨rfl, rfl⟩ | exact rfl) ?_
 try simp only [thenQ, blockQ, Ann.kill, List.find?_nil]
 repeat apply W_seq
 refine W_cond (t := false) (by simp) ?_
 simp only [if_true, if_false, Bool.false_eq_true]
 refine W_skip ?_
 try simp only [thenQ, blockQ, Ann.kill, List.find?_nil]
 repeat apply W_seq
 refine W_region (by simp [k2]; first | exact ⟨rfl, rfl⟩ | exact rfl) ?_
 try simp only [thenQ, blockQ, Ann.kill, List.find?_nil]
 have hrp := rep_intsZ nodes.length
 have hnb : (nodes.length : Int) * 8 ≤ 140737488355328 := by omega
 repeat apply W_seq
 refine W_region (by simp [hrp, hnb]; first | exact ⟨rfl, rfl⟩ | exact rfl) ?_
 try simp only [thenQ, blockQ, Ann.kill, List.find?_nil]
 repeat apply W_seq
 refine W_region (by simp; first | exact ⟨rfl, rfl⟩ | exact rfl) ?_
 try simp only [thenQ, blockQ, Ann.kill, List.find?_nil]
 repeat apply W_seq
 refine W_block ?_
 obtain ⟨w, hw⟩ : ∃ w, evalL env here nodes ms 0 (List.replicate nodes.length 0) = some w := by
  cases hq : evalL env here nodes ms 0 (List.replicate nodes.length 0) with
  | none => rw [hq] at h; cases h
  | some w => exact ⟨w, rfl⟩
 rw [hw] at h
 refine W_loop (I := fun m st τ => ∃ i nums, m = nodes.length - i ∧ i ≤ nodes.length ∧ nums.length = nodes.length ∧ (∀ a ∈ nums, Nb a) ∧ evalL env here (nodes.drop i) (ms.drop i) i nums = some w ∧ st.vars = [(0, .t (.agg [.list nodes])), (1, .t (envT env)), (2, .t (I here)), (3, .ptr 0 0 0 1), (6, .t (I 0)), (7, .t (B false)), (8, .t (.list (rowsB ms))), (9, .sl 1 0 0 nodes.length 1), (10, .t (I i))] ∧ τ[0]? = some (.cells [.t (.list nodes)] 0 0) ∧ τ[1]? = some (.cells (intsZ nums) 0 0)) ?_ nodes.length _ _ ⟨0, _, rfl, Nat.zero_le _, by simp, by simp [Nb], hw, by simp, rfl, rfl⟩
 clear hw
 rintro m ⟨vars, scr⟩ τ ⟨i, nums, rfl, hi, hnl, hnb2, hw, hv, t0, t1⟩
 simp only at hv
 subst hv
 have l1 := lt_of_get t1
 repeat apply W_seq
 refine W_region (by simp [t0]; first | exact ⟨rfl, rfl⟩ | exact rfl) ?_
 try simp only [thenQ, blockQ, Ann.kill, List.find?_nil]
 by_cases c1 : i < nodes.length
 ·repeat apply W_seq
  refine W_cond (t := true) (by simp [c1]) ?_
  simp only [if_true, if_false, Bool.false_eq_true]
  refine W_skip ?_
  try simp only [thenQ, blockQ, Ann.kill, List.find?_nil]
  repeat apply W_seq
  refine W_block ?_
  obtain ⟨x, hx⟩ := get_of_lt c1
  obtain ⟨mk, hmk⟩ := get_of_lt (show i < ms.length by omega)
  rw [drop_get hx, drop_get hmk] at hw
  simp only [evalL] at hw
  split at hw
  ·cases hw
  rename_i op num nm kz hnp
  have := nodeP_eq hnp
  subst this
  clear hnp
  have hsb : ∀ c : V.Obj, (τ ++ [c])[0]? = some (.cells [.t (.list nodes)] 0 0) := fun c => by rw [List.getElem?_append_left (by omega)]; exact t0
  have hsc : ∀ c : V.Obj, (τ ++ [c])[1]? = some (.cells (intsZ nums) 0 0) := fun c => by rw [List.getElem?_append_left (by omega)]; exact t1
  repeat apply W_seq
  refine W_region (by simp [t0, hx, getA, setA, fillV, setRange]; first | exact ⟨rfl, rfl⟩ | exact rfl) ?_
  try simp only [thenQ, blockQ, Ann.kill, List.find?_nil]
  repeat apply W_seq
  refine W_region (by simp [hmk]; first | exact ⟨rfl, rfl⟩ | exact rfl) ?_
  try simp only [thenQ, blockQ, Ann.kill, List.find?_nil]
  cases mk with
  | false =>
   simp only [Bool.false_eq_true, if_false] at hw
   repeat apply W_seq
   refine W_cond (t := true) (by simp) ?_
   simp only [if_true, if_false, Bool.false_eq_true]
   repeat apply W_seq
   refine W_exit ?_
   try simp only [thenQ, blockQ, if_true, Ann.kill, List.find?_nil]
   repeat apply W_seq
   refine W_region (by simp [IntWalk.i64_in ((i : Int) + 1) (by omega)]; first | exact ⟨rfl, rfl⟩ | exact rfl) ?_
   try simp only [thenQ, blockQ, Ann.kill, List.find?_nil]
   exact ⟨nodes.length - (i + 1), by omega, i + 1, nums, rfl, c1, hnl, hnb2, hw, by simp [envT], hsb _, hsc _⟩
  | true =>
   simp only [if_true] at hw
   repeat apply W_seq
   refine W_cond (t := false) (by simp) ?_
   simp only [if_true, if_false, Bool.false_eq_true]
   refine W_skip ?_
   try simp only [thenQ, blockQ, Ann.kill, List.find?_nil]
   repeat apply W_seq
   refine W_region (by simp; first | exact ⟨rfl, rfl⟩ | exact rfl) ?_
   try simp only [thenQ, blockQ, Ann.kill, List.find?_nil]
   repeat apply W_seq
   refine W_region (by simp; first | exact ⟨rfl, rfl⟩ | exact rfl) ?_
   try simp only [thenQ, blockQ, Ann.kill, List.find?_nil]
   repeat apply W_seq
   refine W_region (by simp [getA]; first | exact ⟨rfl, rfl⟩ | exact rfl) ?_
   try simp only [thenQ, blockQ, Ann.kill, List.find?_nil]
   repeat apply W_seq
   refine W_block ?_
   obtain ⟨v, hvn⟩ : ∃ v, nodeS nums env here op num nm kz = some v := by
    cases hq : nodeS nums env here op num nm kz with
    | none => rw [hq] at hw; cases hw
    | some v => exact ⟨v, rfl⟩
   rw [hvn] at hw
   have hbx : (τ ++ [V.Obj.cells [V.t (I op), V.t (I num), V.t (.str nm), V.t kz] 0 0])[τ.length]? = some (.cells [V.t (I op), V.t (I num), V.t (.str nm), V.t kz] 0 0) := by rw [getA]; rfl
   have hsb := hsb (V.Obj.cells [V.t (I op), V.t (I num), V.t (.str nm), V.t kz] 0 0)
   have hsc := hsc (V.Obj.cells [V.t (I op), V.t (I num), V.t (.str nm), V.t kz] 0 0)
   revert hbx hsb hsc
   generalize (τ ++ [V.Obj.cells [V.t (I op), V.t (I num), V.t (.str nm), V.t kz] 0 0]) = τ2
   intro hbx hsb hsc
   refine W.mono (Q := fun e st τ' => e = .normal ∧ τ' = τ2 ∧ ∃ (n : Int) (ok : Bool), vOk v n ok ∧ st.vars = [(0, .t (.agg [.list nodes])), (1, .t (envT env)), (2, .t (I here)), (3, .ptr 0 0 0 1), (6, .t (I 0)), (7, .t (B false)), (8, .t (.list (rowsB ms))), (9, .sl 1 0 0 nodes.length 1), (10, .t (I i)), (11, .ptr τ.length 0 0 4), (12, .t (I n)), (13, .t (B ok)), (41, .t (I op))]) ?_ (fun e st τ' hq => ?_)
   ·unfold nodeS at hvn
    split at hvn
    rotate_left
    ·cases hvn
    rename_i kids hkids
    have hks := kidsL_is hkids
    unfold nodeV at hvn
    repeat apply W_seq
    refine W_region (by simp; first | exact ⟨rfl, rfl⟩ | exact rfl) ?_
    try simp only [thenQ, blockQ, Ann.kill, List.find?_nil]
    by_cases d1 : op = 1
    ·rw [if_pos d1] at hvn
     cases hvn
     repeat apply W_seq
     refine W_cond (t := true) (by simp [show (op : Int) = 1 by omega]) ?_
     simp only [if_true, if_false, Bool.false_eq_true]
     repeat apply W_seq
     refine W_region (by simp [hbx]; first | exact ⟨rfl, rfl⟩ | exact rfl) ?_
     try simp only [thenQ, blockQ, Ann.kill, List.find?_nil]
     exact ⟨trivial, trivial, num, true, ⟨rfl, rfl⟩, by simp⟩
    ·rw [if_neg d1] at hvn
     repeat apply W_seq
     refine W_cond (t := false) (by simp [show ¬ (op : Int) = 1 by omega]) ?_
     simp only [if_true, if_false, Bool.false_eq_true]
     repeat apply W_seq
     refine W_region (by simp; first | exact ⟨rfl, rfl⟩ | exact rfl) ?_
     try simp only [thenQ, blockQ, Ann.kill, List.find?_nil]
     by_cases d2 : op = 2
     ·rw [if_pos d2] at hvn
      cases hvn
      repeat apply W_seq
      refine W_cond (t := true) (by simp [show (op : Int) = 2 by omega]) ?_
      simp only [if_true, if_false, Bool.false_eq_true]
      cases hge : getE env nm with
      | none =>
       have hg' := hg nm τ2
       rw [hge] at hg'
       repeat apply W_seq
       refine W_region (by simp [hbx, hg', getT]; first | exact ⟨rfl, rfl⟩ | exact rfl) ?_
       try simp only [thenQ, blockQ, Ann.kill, List.find?_nil]
       exact ⟨trivial, trivial, 0, false, rfl, by simp⟩
      | some k =>
       have hg' := hg nm τ2
       rw [hge] at hg'
       repeat apply W_seq
       refine W_region (by simp [hbx, hg', getT]; first | exact ⟨rfl, rfl⟩ | exact rfl) ?_
       try simp only [thenQ, blockQ, Ann.kill, List.find?_nil]
       exact ⟨trivial, trivial, k, true, ⟨rfl, rfl⟩, by simp⟩
     ·rw [if_neg d2] at hvn
      repeat apply W_seq
      refine W_cond (t := false) (by simp [show ¬ (op : Int) = 2 by omega]) ?_
      simp only [if_true, if_false, Bool.false_eq_true]
      repeat apply W_seq
      refine W_region (by simp; first | exact ⟨rfl, rfl⟩ | exact rfl) ?_
      try simp only [thenQ, blockQ, Ann.kill, List.find?_nil]
      by_cases d3 : op = 3
      ·rw [if_pos d3] at hvn
       cases hvn
       repeat apply W_seq
       refine W_cond (t := true) (by simp [show (op : Int) = 3 by omega]) ?_
       simp only [if_true, if_false, Bool.false_eq_true]
       repeat apply W_seq
       refine W_region (by simp; first | exact ⟨rfl, rfl⟩ | exact rfl) ?_
       try simp only [thenQ, blockQ, Ann.kill, List.find?_nil]
       exact ⟨trivial, trivial, here, true, ⟨rfl, rfl⟩, by simp⟩
      ·rw [if_neg d3] at hvn
       repeat apply W_seq
       refine W_cond (t := false) (by simp [show ¬ (op : Int) = 3 by omega]) ?_
       simp only [if_true, if_false, Bool.false_eq_true]
       repeat apply W_seq
       refine W_region (by simp; first | exact ⟨rfl, rfl⟩ | exact rfl) ?_
       try simp only [thenQ, blockQ, Ann.kill, List.find?_nil]
       by_cases d4 : op = 11
       ·rw [if_pos d4] at hvn
        split at hvn
        rotate_left
        ·cases hvn
        rename_i k0 hk0
        split at hvn
        rotate_left
        ·cases hvn
        rename_i a0 ha0
        cases hvn
        repeat apply W_seq
        refine W_cond (t := true) (by simp [show (op : Int) = 11 by omega]) ?_
        simp only [if_true, if_false, Bool.false_eq_true]
        have hix : idxV 1 (.t kz) 0 = some (.t (.snap [I k0])) := hks.idx hk0
        have hlt := lt_of_get ha0
        have e1 : (k0 : Int) < nodes.length := by omega
        have e2 : k0 + 1 ≤ nodes.length := by omega
        repeat apply W_seq
        refine W_region (by simp [hbx, hix, hsc, e1, e2, hnl, ha0, flag_ld]; first | exact ⟨rfl, rfl⟩ | exact rfl) ?_
        try simp only [thenQ, blockQ, Ann.kill, List.find?_nil]
        exact ⟨trivial, trivial, flagF (a0 == 0), true, ⟨rfl, rfl⟩, by simp⟩
       ·rw [if_neg d4] at hvn
        repeat apply W_seq
        refine W_cond (t := false) (by simp [show ¬ (op : Int) = 11 by omega]) ?_
        simp only [if_true, if_false, Bool.false_eq_true]
        split at hvn
        rotate_left
        ·cases hvn
        rename_i k0 k1' hk0 hk1
        split at hvn
        rotate_left
        ·cases hvn
        rename_i a0 a1 ha0 ha1
        cases hvn
        have hix : idxV 1 (.t kz) 0 = some (.t (.snap [I k0])) := hks.idx hk0
        have hix1 : idxV 1 (.t kz) 1 = some (.t (.snap [I k1'])) := hks.idx hk1
        have hlt := lt_of_get ha0
        have hlt1 := lt_of_get ha1
        have e1 : (k0 : Int) < nodes.length := by omega
        have e2 : k0 + 1 ≤ nodes.length := by omega
        have e3 : (k1' : Int) < nodes.length := by omega
        have e4 : k1' + 1 ≤ nodes.length := by omega
        have htw := two_ld op a0 a1 (hnb2 _ (List.mem_of_getElem? ha0)) (hnb2 _ (List.mem_of_getElem? ha1)) τ2
        cases hge : twoF op a0 a1 with
        | none =>
         rw [hge] at htw
         repeat apply W_seq
         refine W_region (by simp [hbx, hix, hix1, hsc, e1, e2, e3, e4, hnl, ha0, ha1, htw, getT]; first | exact ⟨rfl, rfl⟩ | exact rfl) ?_
         try simp only [thenQ, blockQ, Ann.kill, List.find?_nil]
         exact ⟨trivial, trivial, 0, false, rfl, by simp⟩
        | some k =>
         rw [hge] at htw
         repeat apply W_seq
         refine W_region (by simp [hbx, hix, hix1, hsc, e1, e2, e3, e4, hnl, ha0, ha1, htw, getT]; first | exact ⟨rfl, rfl⟩ | exact rfl) ?_
         try simp only [thenQ, blockQ, Ann.kill, List.find?_nil]
         exact ⟨trivial, trivial, k, true, ⟨rfl, rfl⟩, by simp⟩
   ·obtain ⟨rfl, rfl, n, ok, hvk, hvars⟩ := hq
    obtain ⟨vars2, scr2⟩ := st
    simp only at hvars
    subst hvars
    try simp only [thenQ, blockQ, Ann.kill, List.find?_nil]
    have hlt : (i : Int) < nodes.length := by omega
    have hl2 : i + 1 ≤ nodes.length := c1
    cases v with
    | none =>
     simp only [vOk] at hvk
     subst hvk
     simp only [Option.some.injEq] at hw
     subst hw
     simp only [Option.some.injEq] at h
     subst h
     repeat apply W_seq
     refine W_region (by simp; first | exact ⟨rfl, rfl⟩ | exact rfl) ?_
     try simp only [thenQ, blockQ, Ann.kill, List.find?_nil]
     repeat apply W_seq
     refine W_cond (t := true) (by simp) ?_
     simp only [if_true, if_false, Bool.false_eq_true]
     repeat apply W_seq
     refine W_region (by simp; first | exact ⟨rfl, rfl⟩ | exact rfl) ?_
     try simp only [thenQ, blockQ, Ann.kill, List.find?_nil]
     refine W_ret ?_
     try simp only [thenQ, blockQ]
     exact ⟨trivial, (by simp [Tryz.f92, getT])⟩
    | some k0 =>
     simp only [vOk] at hvk
     obtain ⟨rfl, rfl⟩ := hvk
     have hin := in_ld n (-9999) 9999 τ'
     simp only at hw
     by_cases c3 : -9999 ≤ n ∧ n ≤ 9999
     ·rw [if_pos c3] at hw
      have ei : inF n (-9999) 9999 = true := by simp [inF, c3.1, c3.2]
      rw [ei] at hin
      repeat apply W_seq
      refine W_region (by simp [hin]; first | exact ⟨rfl, rfl⟩ | exact rfl) ?_
      try simp only [thenQ, blockQ, Ann.kill, List.find?_nil]
      repeat apply W_seq
      refine W_cond (t := false) (by simp) ?_
      simp only [if_true, if_false, Bool.false_eq_true]
      refine W_skip ?_
      try simp only [thenQ, blockQ, Ann.kill, List.find?_nil]
      repeat apply W_seq
      refine W_region (by simp [hsc, hlt, hl2, hnl, setRange]; first | exact ⟨rfl, rfl⟩ | exact rfl) ?_
      try simp only [thenQ, blockQ, Ann.kill, List.find?_nil]
      repeat apply W_seq
      refine W_region (by simp [IntWalk.i64_in ((i : Int) + 1) (by omega)]; first | exact ⟨rfl, rfl⟩ | exact rfl) ?_
      try simp only [thenQ, blockQ, Ann.kill, List.find?_nil]
      refine ⟨nodes.length - (i + 1), by omega, i + 1, nums.set i n, rfl, c1, by simpa using hnl, fun a ha => ?_, hw, by simp [envT], ?_, ?_⟩
      ·rcases List.mem_or_eq_of_mem_set ha with q | rfl
       ·exact hnb2 a q
       ·exact c3
      ·rw [List.getElem?_set_ne (by omega)]; exact hsb
      ·rw [List.getElem?_set_self (lt_of_get hsc)]
       exact congrArg (fun c => some (V.Obj.cells c 0 0)) (intsZ_set nums i n)
     ·rw [if_neg c3] at hw
      simp only [Option.some.injEq] at hw
      subst hw
      simp only [Option.some.injEq] at h
      subst h
      have ei : inF n (-9999) 9999 = false := by
       simp only [inF, Bool.and_eq_false_iff, decide_eq_false_iff_not]
       omega
      rw [ei] at hin
      repeat apply W_seq
      refine W_region (by simp [hin]; first | exact ⟨rfl, rfl⟩ | exact rfl) ?_
      try simp only [thenQ, blockQ, Ann.kill, List.find?_nil]
      repeat apply W_seq
      refine W_cond (t := true) (by simp) ?_
      simp only [if_true, if_false, Bool.false_eq_true]
      repeat apply W_seq
      refine W_region (by simp; first | exact ⟨rfl, rfl⟩ | exact rfl) ?_
      try simp only [thenQ, blockQ, Ann.kill, List.find?_nil]
      refine W_ret ?_
      try simp only [thenQ, blockQ]
      exact ⟨trivial, (by simp [Tryz.f92, getT])⟩
 ·repeat apply W_seq
  refine W_cond (t := false) (by simp [c1]) ?_
  simp only [if_true, if_false, Bool.false_eq_true]
  repeat apply W_seq
  refine W_exit ?_
  try simp only [thenQ, blockQ, if_true, Ann.kill, List.find?_nil]
  have : i = nodes.length := by omega
  subst this
  rw [List.drop_length] at hw
  simp only [evalL, Option.some.injEq] at hw
  subst hw
  simp only at h
  split at h
  rotate_left
  ·cases h
  rename_i n hn
  simp only [Option.some.injEq] at h
  subst h
  have e1 : (nodes.length : Int) - 1 = ((nodes.length - 1 : Nat) : Int) := by omega
  have e2 : (((nodes.length - 1 : Nat) : Int)) < nodes.length := by omega
  have e3 : nodes.length - 1 + 1 ≤ nodes.length := by omega
  repeat apply W_seq
  refine W_region (by simp [e1, e2, e3, t1, hnl, hn, IntWalk.i64_in ((nodes.length - 1 : Nat) : Int) (by omega)]; first | exact ⟨rfl, rfl⟩ | exact rfl) ?_
  try simp only [thenQ, blockQ, Ann.kill, List.find?_nil]
  refine W_ret ?_
  try simp only [thenQ, blockQ]
  exact ⟨trivial, (by simp [Tryz.f92, getT])⟩
theorem eval_ld {MK : T → Option (List Bool)} (hM : MkOk MK) {x : T} {env : Env} {here : Nat} {o : Option Int} (h : evalS MK x env here = some o) (σ : Store) :
  LD S 92 [.t x, .t (envT env), .t (I here)] σ = some (.t (getT o), σ) := by
 obtain ⟨σ', h1⟩ := eval_lv hM h
 exact LD_pure (A := A92) (args := [.t x, .t (envT env), .t (I here)]) (v := .t (getT o)) rfl rfl rfl h1 (by cases o <;> rfl) σ
end X
