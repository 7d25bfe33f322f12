/- A part of the proof. No statement of the claim is in it. -/
import Derived.Test.YtphkipgmklhdgaaGreatVEr12
open Go Go.V Go.Proofs
namespace X
set_option maxRecDepth 100000
set_option maxHeartbeats 4000000
set_option linter.unusedSimpArgs false
set_option linter.unusedVariables false
attribute [-simp] lenV idxV getElem?_pos
/-! ### Syms that are no calls -/
def plainS (SR : List Nat → Option (List Nat)) (MK : T → Option (List Bool)) (text : List Nat) (x : T) (env : Env) (pos : Nat) : Option (Option Nat) :=
 match x with
 | .agg [.int .i64 (.ofNat kind), .str tx, ax, .str bs] =>
  if ¬ (pos ≤ 1000000 ∧ text.length ≤ 1000000) then none else
  if kind = 1 then if tx.length ≤ 1000000 then some (if pos + tx.length ≤ text.length ∧ (text.take (pos + tx.length)).drop pos = tx then some (pos + tx.length) else none) else none
  else if kind = 2 then match text[pos]? with
   | none => some none
   | some b => match SR tx with
    | none => none
    | some rows => some (if setR rows b rows.length 0 then some (pos + 1) else none)
  else match symsL ax with
   | some (.agg [c] :: _) => match evalS MK (.agg [c]) env pos with
    | none => none
    | some none => some none
    | some (some n) => some (if n = 0 then none else some pos)
   | _ => none
 | _ => none
def OkPlain (r : Option Nat) (n : Int) (ok : Bool) : Prop := match r with
 | some p => ok = true ∧ n = (p : Int)
 | none => ok = false
theorem plain_lv {SR : List Nat → Option (List Nat)} (hS : SetsOk SR) {MK : T → Option (List Bool)} (hM : MkOk MK) {text : List Nat} {x : T} {env : Env} {pos : Nat} {r : Option Nat} (h : plainS SR MK text x env pos = some r) :
  ∃ v σ', LV S 80 [.t x, .t (.str text), .t (.agg [I pos, envT env])] [] = some (v, σ') ∧ ∃ n ok, v = .t (.tup [I n, B ok]) ∧ OkPlain r n ok := by
 unfold plainS at h
 split at h
 rotate_left
 ·cases h
 rename_i kind tx ax bs
 split at h
 ·cases h
 rename_i hpt
 obtain ⟨hp, ht⟩ := Classical.not_not.1 hpt
 refine LV_bodyX (A := A80) rfl Tryz.func80 rfl ?_
 repeat apply W_seq
 refine W_region (by simp; first | exact ⟨rfl, rfl⟩ | exact rfl) ?_
 try simp only [thenQ, blockQ, Ann.kill, List.find?_nil]
 repeat apply W_seq
 refine W_region (by simp; first | exact ⟨rfl, rfl⟩ | exact rfl) ?_
 try simp only [thenQ, blockQ, Ann.kill, List.find?_nil]
 repeat apply W_seq
 refine W_block ?_
 repeat apply W_seq
 refine W_region (by simp; first | exact ⟨rfl, rfl⟩ | exact rfl) ?_
 try simp only [thenQ, blockQ, Ann.kill, List.find?_nil]
 by_cases k1 : kind = 1
 ·rw [if_pos k1] at h
  split at h
  rotate_left
  ·cases h
  rename_i hlt
  cases h
  repeat apply W_seq
  refine W_cond (t := true) (by simp [show (kind : Int) = 1 by omega]) ?_
  simp only [if_true, if_false, Bool.false_eq_true]
  repeat apply W_seq
  refine W_region (by simp; first | exact ⟨rfl, rfl⟩ | exact rfl) ?_
  try simp only [thenQ, blockQ, Ann.kill, List.find?_nil]
  have hw := IntWalk.i64_in ((pos : Int) + tx.length) (by omega)
  have hle : (pos : Int) ≤ pos + tx.length := by omega
  have htn : ((pos : Int) + tx.length).toNat = pos + tx.length := by omega
  by_cases c1 : pos + tx.length ≤ text.length
  ·have c1' : (pos : Int) + tx.length ≤ text.length := by omega
   by_cases c2 : (text.take (pos + tx.length)).drop pos = tx
   ·rw [if_pos ⟨c1, c2⟩]
    repeat apply W_seq
    refine W_region (by simp [hw, c1', c2, hle, htn, eqL_eq]; first | exact ⟨rfl, rfl⟩ | exact rfl) ?_
    try simp only [thenQ, blockQ, Ann.kill, List.find?_nil]
    refine W_ret ?_
    try simp only [thenQ, blockQ]
    exact ⟨trivial, _, (by simp [Tryz.f80]), (pos : Int) + tx.length, true, rfl, rfl, by simp⟩
   ·rw [if_neg (fun e => c2 e.2)]
    repeat apply W_seq
    refine W_region (by simp [hw, c1', c2, hle, htn, eqL_eq]; first | exact ⟨rfl, rfl⟩ | exact rfl) ?_
    try simp only [thenQ, blockQ, Ann.kill, List.find?_nil]
    refine W_ret ?_
    try simp only [thenQ, blockQ]
    exact ⟨trivial, _, (by simp [Tryz.f80]), (pos : Int) + tx.length, false, rfl, rfl⟩
  ·have c1' : ¬ (pos : Int) + tx.length ≤ text.length := by omega
   rw [if_neg (fun e => c1 e.1)]
   repeat apply W_seq
   refine W_region (by simp [hw, c1']; first | exact ⟨rfl, rfl⟩ | exact rfl) ?_
   try simp only [thenQ, blockQ, Ann.kill, List.find?_nil]
   refine W_ret ?_
   try simp only [thenQ, blockQ]
   exact ⟨trivial, _, (by simp [Tryz.f80]), (pos : Int) + tx.length, false, rfl, rfl⟩
 ·rw [if_neg k1] at h
  repeat apply W_seq
  refine W_cond (t := false) (by simp [show ¬ (kind : Int) = 1 by omega]) ?_
  simp only [if_true, if_false, Bool.false_eq_true]
  repeat apply W_seq
  refine W_region (by simp; first | exact ⟨rfl, rfl⟩ | exact rfl) ?_
  try simp only [thenQ, blockQ, Ann.kill, List.find?_nil]
  have hw1 := IntWalk.i64_in ((pos : Int) + 1) (by omega)
  by_cases k2 : kind = 2
  ·rw [if_pos k2] at h
   repeat apply W_seq
   refine W_cond (t := true) (by simp [show (kind : Int) = 2 by omega]) ?_
   simp only [if_true, if_false, Bool.false_eq_true]
   split at h
   ·rename_i hb
    cases h
    have c1 : ¬ pos < text.length := fun hlt => by
     rw [List.getElem?_eq_getElem hlt] at hb; cases hb
    have c1' : ¬ (pos : Int) < text.length := by omega
    repeat apply W_seq
    refine W_region (by simp [hw1, c1']; first | exact ⟨rfl, rfl⟩ | exact rfl) ?_
    try simp only [thenQ, blockQ, Ann.kill, List.find?_nil]
    refine W_ret ?_
    try simp only [thenQ, blockQ]
    exact ⟨trivial, _, (by simp [Tryz.f80]), (pos : Int) + 1, false, rfl, rfl⟩
   ·rename_i b hb
    have c1 := lt_of_get hb
    have c1' : (pos : Int) < text.length := by omega
    split at h
    ·cases h
    rename_i rows hrows
    cases h
    have hin := inSet_ld hS hrows b
    cases hset : setR rows b rows.length 0 with
    | true =>
     rw [hset] at hin
     repeat apply W_seq
     refine W_region (by simp [hw1, c1', hb, hin]; first | exact ⟨rfl, rfl⟩ | exact rfl) ?_
     try simp only [thenQ, blockQ, Ann.kill, List.find?_nil]
     refine W_ret ?_
     try simp only [thenQ, blockQ]
     exact ⟨trivial, _, (by simp [Tryz.f80]), (pos : Int) + 1, true, rfl, rfl, by simp⟩
    | false =>
     rw [hset] at hin
     repeat apply W_seq
     refine W_region (by simp [hw1, c1', hb, hin]; first | exact ⟨rfl, rfl⟩ | exact rfl) ?_
     try simp only [thenQ, blockQ, Ann.kill, List.find?_nil]
     refine W_ret ?_
     try simp only [thenQ, blockQ]
     exact ⟨trivial, _, (by simp [Tryz.f80]), (pos : Int) + 1, false, rfl, rfl⟩
  ·rw [if_neg k2] at h
   repeat apply W_seq
   refine W_cond (t := false) (by simp [show ¬ (kind : Int) = 2 by omega]) ?_
   simp only [if_true, if_false, Bool.false_eq_true]
   refine W_skip ?_
   try simp only [thenQ, blockQ, Ann.kill, List.find?_nil]
   split at h
   rotate_left
   ·cases h
   rename_i c rest hax
   have hsy := symsL_eq hax
   have hix : idxV 1 (.t ax) 0 = some (.t (.snap [c])) := by
    rcases hsy with ⟨rfl, e⟩ | rfl
    ·cases e
    ·rfl
   split at h
   ·cases h
   ·rename_i hev
    cases h
    have he := eval_ld hM hev
    repeat apply W_seq
    refine W_region (by simp [hix, he, getT]; first | exact ⟨rfl, rfl⟩ | exact rfl) ?_
    try simp only [thenQ, blockQ, Ann.kill, List.find?_nil]
    repeat apply W_seq
    refine W_region (by simp; first | exact ⟨rfl, rfl⟩ | exact rfl) ?_
    try simp only [thenQ, blockQ, Ann.kill, List.find?_nil]
    refine W_ret ?_
    try simp only [thenQ, blockQ]
    exact ⟨trivial, _, (by simp [Tryz.f80]), (pos : Int), false, rfl, rfl⟩
   ·rename_i n hev
    cases h
    have he := eval_ld hM hev
    by_cases hn : n = 0
    ·subst hn
     repeat apply W_seq
     refine W_region (by simp [hix, he, getT]; first | exact ⟨rfl, rfl⟩ | exact rfl) ?_
     try simp only [thenQ, blockQ, Ann.kill, List.find?_nil]
     repeat apply W_seq
     refine W_region (by simp; first | exact ⟨rfl, rfl⟩ | exact rfl) ?_
     try simp only [thenQ, blockQ, Ann.kill, List.find?_nil]
     refine W_ret ?_
     try simp only [thenQ, blockQ]
     exact ⟨trivial, _, (by simp [Tryz.f80]), (pos : Int), false, rfl, rfl⟩
    ·have hn' : (n != 0) = true := by simp [hn]
     repeat apply W_seq
     refine W_region (by simp [hix, he, getT]; first | exact ⟨rfl, rfl⟩ | exact rfl) ?_
     try simp only [thenQ, blockQ, Ann.kill, List.find?_nil]
     repeat apply W_seq
     refine W_region (by simp [hn']; first | exact ⟨rfl, rfl⟩ | exact rfl) ?_
     try simp only [thenQ, blockQ, Ann.kill, List.find?_nil]
     rw [if_neg hn]
     refine W_ret ?_
     try simp only [thenQ, blockQ]
     exact ⟨trivial, _, (by simp [Tryz.f80]), (pos : Int), true, rfl, rfl, rfl⟩
theorem plain_ld {SR : List Nat → Option (List Nat)} (hS : SetsOk SR) {MK : T → Option (List Bool)} (hM : MkOk MK) {text : List Nat} {x : T} {env : Env} {pos : Nat} {r : Option Nat} (h : plainS SR MK text x env pos = some r) :
  ∃ n ok, (∀ σ, LD S 80 [.t x, .t (.str text), .t (.agg [I pos, envT env])] σ = some (.t (.tup [I n, B ok]), σ)) ∧ OkPlain r n ok := by
 obtain ⟨v, σ', h1, n, ok, rfl, h3⟩ := plain_lv hS hM h
 exact ⟨n, ok, fun σ => LD_pure (A := A80) (args := [.t x, .t (.str text), .t (.agg [I pos, envT env])]) rfl rfl rfl h1 rfl σ, h3⟩
end X
