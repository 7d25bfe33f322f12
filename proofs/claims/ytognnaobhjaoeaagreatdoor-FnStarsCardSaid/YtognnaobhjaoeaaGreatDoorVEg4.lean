/- A part of the proof. No statement of the claim is in it. -/
import Derived.Test.YtognnaobhjaoeaaGreatDoorVEg3
open Go Go.V Go.Proofs
namespace X
set_option maxRecDepth 100000
set_option maxHeartbeats 4000000
set_option linter.unusedSimpArgs false
set_option linter.unusedVariables false
attribute [-simp] lenV idxV
/-- Functions of trees, met by equations. -/
abbrev Nats := FuncId → List T → Option T
def NatOk (K : Nats) : Prop := ∀ f ts x, K f ts = some x → ∀ σ, LD S f (ts.map V.t) σ = some (.t x, σ)

/-! ### strings.HasPrefix -/
def hpF (s p : List Nat) : Bool := decide (p.length ≤ s.length) && eqL (s.take p.length) p
theorem hp0_ld (s p : List Nat) (σ : Store) : LD S 148 [.t (.str s), .t (.str p)] σ = some (.t (B (hpF s p)), σ) := by
 suffices h : LV S 148 [.t (.str s), .t (.str p)] [] = some (.t (B (hpF s p)), []) from LD_pure (A := A148) (v := .t (B (hpF s p))) rfl rfl rfl h rfl σ
 refine LV_body (A := A148) rfl Tryz.func148 rfl ?_
 repeat apply W_seq
 refine W_region (by simp; first | exact ⟨rfl, rfl⟩ | exact rfl) ?_
 try simp only [thenQ, blockQ, Ann.kill, List.find?_nil]
 by_cases h : p.length ≤ s.length
 ·repeat apply W_seq
  refine W_region (by simp [h]; first | exact ⟨rfl, rfl⟩ | exact rfl) ?_
  try simp only [thenQ, blockQ, Ann.kill, List.find?_nil]
  refine W_ret ?_
  try simp only [thenQ, blockQ]
  simp [Tryz.f148, hpF, h]
 ·repeat apply W_seq
  refine W_region (by simp [h]; first | exact ⟨rfl, rfl⟩ | exact rfl) ?_
  try simp only [thenQ, blockQ, Ann.kill, List.find?_nil]
  refine W_ret ?_
  try simp only [thenQ, blockQ]
  simp [Tryz.f148, hpF, h]
theorem hp_ld (s p : List Nat) (σ : Store) : LD S 114 [.t (.str s), .t (.str p)] σ = some (.t (B (hpF s p)), σ) := by
 suffices h : LV S 114 [.t (.str s), .t (.str p)] [] = some (.t (B (hpF s p)), []) from LD_pure (A := A114) (v := .t (B (hpF s p))) rfl rfl rfl h rfl σ
 refine LV_body (A := A114) rfl Tryz.func114 rfl ?_
 repeat apply W_seq
 refine W_region (by simp; first | exact ⟨rfl, rfl⟩ | exact rfl) ?_
 try simp only [thenQ, blockQ, Ann.kill, List.find?_nil]
 repeat apply W_seq
 refine W_region (by simp [hp0_ld]; first | exact ⟨rfl, rfl⟩ | exact rfl) ?_
 try simp only [thenQ, blockQ, Ann.kill, List.find?_nil]
 refine W_ret ?_
 try simp only [thenQ, blockQ]
 simp [Tryz.f114]

/-! ### passes -/
def symT (kind : Nat) (nm : List Nat) (ax bn : T) : T := .agg [I kind, .str nm, ax, bn]
def passF (K : Nats) (text : List Nat) (kind : Nat) (nm : List Nat) (ax env : T) (here : Nat) : Option (Nat × Bool) :=
 if here ≤ text.length ∧ text.length ≤ 1048576 ∧ nm.length ≤ 1048576 then
  if kind = 1 then some (here + nm.length, hpF (text.drop here) nm)
  else if kind = 2 then match text[here]? with
   | some c => match K 115 [.str nm, .int .u8 c] with
    | some (.bool b) => some (here + 1, b)
    | _ => none
   | none => some (here + 1, false)
  else match ax with
   | .list (.agg [e] :: _) => match K 116 [.agg [e], env, I here] with
    | some (.tup [.int .i64 n, .bool ok]) => some (here, ok && (n != 0))
    | _ => none
   | _ => none
 else none
theorem pass_ld {K : Nats} (hK : NatOk K) {text : List Nat} {kind : Nat} {nm : List Nat} {ax bn env : T} {here n : Nat} {b : Bool} (h : passF K text kind nm ax env here = some (n, b)) (hf : ∃ bs, bn = .str bs) (hax : ax = .nils ∨ ∃ es, ax = .list es) (σ : Store) :
  LD S 91 [.t (symT kind nm ax bn), .t (.str text), .t env, .t (I here)] σ = some (.t (.tup [I n, B b]), σ) := by
 suffices hh : ∃ σ0, LV S 91 [.t (symT kind nm ax bn), .t (.str text), .t env, .t (I here)] [] = some (.t (.tup [I n, B b]), σ0) by
  obtain ⟨σ0, hh⟩ := hh
  exact LD_pure (A := A91) (v := .t (.tup [I n, B b])) rfl rfl rfl hh rfl σ
 refine LV_bodyE (A := A91) rfl Tryz.func91 rfl ?_
 unfold passF at h
 split at h
 rotate_left
 ·cases h
 rename_i hb
 obtain ⟨hb1, hb2, hb3⟩ := hb
 repeat apply W_seq
 refine W_region (by simp [symT]; first | exact ⟨rfl, rfl⟩ | exact rfl) ?_
 try simp only [thenQ, blockQ, Ann.kill, List.find?_nil]
 repeat apply W_seq
 refine W_region (by simp; first | exact ⟨rfl, rfl⟩ | exact rfl) ?_
 try simp only [thenQ, blockQ, Ann.kill, List.find?_nil]
 repeat apply W_seq
 refine W_block ?_
 split at h
 ·rename_i hk
  subst hk
  simp only [Option.some.injEq, Prod.mk.injEq] at h
  obtain ⟨rfl, rfl⟩ := h
  repeat apply W_seq
  refine W_region (by simp; first | exact ⟨rfl, rfl⟩ | exact rfl) ?_
  try simp only [thenQ, blockQ, Ann.kill, List.find?_nil]
  repeat apply W_seq
  refine W_cond (t := true) (by simp) ?_
  simp only [if_true, if_false, Bool.false_eq_true]
  repeat apply W_seq
  refine W_region (by simp [hb1, hp_ld, IntWalk.i64_in ((here : Int) + (nm.length : Int)) (by omega)]; first | exact ⟨rfl, rfl⟩ | exact rfl) ?_
  try simp only [thenQ, blockQ, Ann.kill, List.find?_nil]
  refine W_ret ?_
  try simp only [thenQ, blockQ]
  simp [Tryz.f91]
 ·rename_i hk
  have hk' : ((kind : Int) == (1 : Int)) = false := by simp; omega
  repeat apply W_seq
  refine W_region (by simp [hk']; first | exact ⟨rfl, rfl⟩ | exact rfl) ?_
  try simp only [thenQ, blockQ, Ann.kill, List.find?_nil]
  repeat apply W_seq
  refine W_cond (t := false) (by simp [hk']) ?_
  simp only [if_true, if_false, Bool.false_eq_true]
  split at h
  ·rename_i hk2
   subst hk2
   repeat apply W_seq
   refine W_region (by simp; first | exact ⟨rfl, rfl⟩ | exact rfl) ?_
   try simp only [thenQ, blockQ, Ann.kill, List.find?_nil]
   repeat apply W_seq
   refine W_cond (t := true) (by simp) ?_
   simp only [if_true, if_false, Bool.false_eq_true]
   split at h
   ·rename_i c hc
    split at h
    ·rename_i b' hn
     simp only [Option.some.injEq, Prod.mk.injEq] at h
     obtain ⟨rfl, rfl⟩ := h
     have hl := lt_of_get hc
     have hce : text[here]'hl = c := by rw [List.getElem?_eq_getElem hl] at hc; exact Option.some.inj hc
     subst hce
     have hi := hK _ _ _ hn
     simp only [List.map_cons, List.map_nil] at hi
     repeat apply W_seq
     refine W_region (by simp [hl, hi, IntWalk.i64_in ((here : Int) + 1) (by omega)]; first | exact ⟨rfl, rfl⟩ | exact rfl) ?_
     try simp only [thenQ, blockQ, Ann.kill, List.find?_nil]
     refine W_ret ?_
     try simp only [thenQ, blockQ]
     simp [Tryz.f91]
    ·cases h
   ·rename_i hc
    simp only [Option.some.injEq, Prod.mk.injEq] at h
    obtain ⟨rfl, rfl⟩ := h
    have hl : ¬ here < text.length := by
     intro hl; rw [List.getElem?_eq_getElem hl] at hc; cases hc
    repeat apply W_seq
    refine W_region (by simp [hl, IntWalk.i64_in ((here : Int) + 1) (by omega)]; first | exact ⟨rfl, rfl⟩ | exact rfl) ?_
    try simp only [thenQ, blockQ, Ann.kill, List.find?_nil]
    refine W_ret ?_
    try simp only [thenQ, blockQ]
    simp [Tryz.f91]
  ·rename_i hk2
   have hk2' : ((kind : Int) == (2 : Int)) = false := by simp; omega
   repeat apply W_seq
   refine W_region (by simp [hk2']; first | exact ⟨rfl, rfl⟩ | exact rfl) ?_
   try simp only [thenQ, blockQ, Ann.kill, List.find?_nil]
   repeat apply W_seq
   refine W_cond (t := false) (by simp [hk2']) ?_
   simp only [if_true, if_false, Bool.false_eq_true]
   refine W_skip ?_
   try simp only [thenQ, blockQ, Ann.kill, List.find?_nil]
   split at h
   ·rename_i e es
    split at h
    ·rename_i z ok hn
     simp only [Option.some.injEq, Prod.mk.injEq] at h
     obtain ⟨rfl, rfl⟩ := h
     have hi := hK _ _ _ hn
     simp only [List.map_cons, List.map_nil] at hi
     repeat apply W_seq
     refine W_region (by simp [hi]; first | exact ⟨rfl, rfl⟩ | exact rfl) ?_
     try simp only [thenQ, blockQ, Ann.kill, List.find?_nil]
     cases ok with
     | true =>
      repeat apply W_seq
      refine W_region (by simp; first | exact ⟨rfl, rfl⟩ | exact rfl) ?_
      try simp only [thenQ, blockQ, Ann.kill, List.find?_nil]
      refine W_ret ?_
      try simp only [thenQ, blockQ]
      simp [Tryz.f91]
     | false =>
      repeat apply W_seq
      refine W_region (by simp; first | exact ⟨rfl, rfl⟩ | exact rfl) ?_
      try simp only [thenQ, blockQ, Ann.kill, List.find?_nil]
      refine W_ret ?_
      try simp only [thenQ, blockQ]
      simp [Tryz.f91]
    ·cases h
   ·cases h

/-! ### isNew -/
def ents (ks : List (List Nat)) : List (T × V) := ks.map fun k => (T.str k, V.t (I 1))
def hasKey (key : List Nat) (ks : List (List Nat)) : Bool := ks.any (eqL key)
def addKey (key : List Nat) (ks : List (List Nat)) : List (List Nat) := if hasKey key ks then ks else ks ++ [key]
theorem findKey_ents (key : List Nat) : ∀ (ks : List (List Nat)), findKey .str (.str key) (ents ks) = some (if hasKey key ks then some (.t (I 1)) else none)
 | [] => rfl
 | k :: r => by
  have ih := findKey_ents key r
  simp only [ents, List.map_cons, findKey, eqScal, hasKey, List.any_cons] at ih ⊢
  have e : eqL key k = true ∨ eqL key k = false := by cases eqL key k <;> simp
  rcases e with e | e
  ·simp [e]
  ·simp only [e, Bool.false_or]; exact ih
theorem setKey_ents (key : List Nat) : ∀ (ks : List (List Nat)), setKey .str (.str key) (.t (I 1)) (ents ks) = some (ents (addKey key ks))
 | [] => rfl
 | k :: r => by
  have ih := setKey_ents key r
  simp only [ents, List.map_cons, setKey, eqScal, hasKey, List.any_cons, addKey] at ih ⊢
  have e : eqL key k = true ∨ eqL key k = false := by cases eqL key k <;> simp
  rcases e with e | e
  ·have := eqL_same e
   subst this
   simp [e]
  ·simp only [e, Bool.false_or, ih, Option.map_some]
   have hq : r.any (eqL key) = true ∨ r.any (eqL key) = false := by cases r.any (eqL key) <;> simp
   rcases hq with hq | hq <;> simp only [hq, if_true, Bool.false_eq_true, if_false, List.map_cons, List.map_append, List.cons_append, List.map_nil]
/-- The key of a look. -/
def keyF (K : Nats) (sym : Nat) (env : T) (here : Nat) : Option (List Nat) := match K 112 [I sym], K 112 [I here], K 113 [env] with
 | some (.str a), some (.str b), some (.str c) => if a.length + b.length + c.length ≤ 1048576 then some (a ++ 32 :: (b ++ 32 :: c)) else none
 | _, _, _ => none
/-- The runner, as it lies. -/
def rnObj (rules : T) (text : List Nat) (gv : V) (ends : Nat) (came : Bool) (dv : V) (m : Nat) : V.Obj := .cells [.t rules, .t (.str text), gv, .t (I ends), .t (B came), dv, .mp m] 0 0
theorem isNew_ld {K : Nats} (hK : NatOk K) {sym : Nat} {env : T} {here : Nat} {key : List Nat} (h : keyF K sym env here = some key) {r m : Nat} {rules : T} {text : List Nat} {gv dv : V} {ends : Nat} {came : Bool} {ks : List (List Nat)} {σ : Store}
  (hr : σ[r]? = some (rnObj rules text gv ends came dv m)) (hm : σ[m]? = some (.map (ents ks))) :
  LD S 90 [.ptr r 0 0 7, .t (I sym), .t env, .t (I here)] σ = some (.t (B (!hasKey key ks)), σ.set m (.map (ents (addKey key ks)))) := by
 refine (LD_inl (A := A90) rfl rfl rfl _ σ).trans ?_
 refine LV_body (A := A90) rfl Tryz.func90 rfl ?_
 unfold keyF at h
 split at h
 rotate_left
 ·cases h
 rename_i a b c h1 h2 h3
 split at h
 rotate_left
 ·cases h
 rename_i hlen
 have l1 : a.length + 1 ≤ 9223372036854775807 := by omega
 have l2 : a.length + 1 + b.length ≤ 9223372036854775807 := by omega
 have l3 : a.length + 1 + b.length + 1 ≤ 9223372036854775807 := by omega
 have l4 : a.length + 1 + b.length + 1 + c.length ≤ 9223372036854775807 := by omega
 have l5 : a.length + (b.length + 1) ≤ 9223372036854775807 := by omega
 have l6 : a.length + (b.length + 1) + 1 ≤ 9223372036854775807 := by omega
 have l7 : a.length + (b.length + (1 + 1)) + c.length ≤ 9223372036854775807 := by omega
 simp only [Option.some.injEq] at h
 have i1 := hK _ _ _ h1
 have i2 := hK _ _ _ h2
 have i3 := hK _ _ _ h3
 simp only [List.map_cons, List.map_nil] at i1 i2 i3
 simp only [rnObj] at hr
 repeat apply W_seq
 refine W_region (by simp; first | exact ⟨rfl, rfl⟩ | exact rfl) ?_
 try simp only [thenQ, blockQ, Ann.kill, List.find?_nil]
 repeat apply W_seq
 refine W_region (by simp [i1, i2, i3, l1, l2, l3, l4, l5, l6, l7]; first | exact ⟨rfl, rfl⟩ | exact rfl) ?_
 try simp only [thenQ, blockQ, Ann.kill, List.find?_nil]
 have hf := findKey_ents key ks
 have hs := setKey_ents key ks
 subst h
 cases hh : hasKey (a ++ 32 :: (b ++ 32 :: c)) ks with
 | true =>
  rw [hh] at hf
  simp only [if_true] at hf
  repeat apply W_seq
  refine W_region (by simp [hr, hm, hf, keyOk]; first | exact ⟨rfl, rfl⟩ | exact rfl) ?_
  try simp only [thenQ, blockQ, Ann.kill, List.find?_nil]
  repeat apply W_seq
  refine W_region (by simp [hr, hm, hs, keyOk]; first | exact ⟨rfl, rfl⟩ | exact rfl) ?_
  try simp only [thenQ, blockQ, Ann.kill, List.find?_nil]
  repeat apply W_seq
  refine W_region (by simp; first | exact ⟨rfl, rfl⟩ | exact rfl) ?_
  try simp only [thenQ, blockQ, Ann.kill, List.find?_nil]
  refine W_ret ?_
  try simp only [thenQ, blockQ]
  simp [Tryz.f90]
 | false =>
  rw [hh] at hf
  simp only [if_false, Bool.false_eq_true] at hf
  repeat apply W_seq
  refine W_region (by simp [hr, hm, hf, keyOk]; first | exact ⟨rfl, rfl⟩ | exact rfl) ?_
  try simp only [thenQ, blockQ, Ann.kill, List.find?_nil]
  repeat apply W_seq
  refine W_region (by simp [hr, hm, hs, keyOk]; first | exact ⟨rfl, rfl⟩ | exact rfl) ?_
  try simp only [thenQ, blockQ, Ann.kill, List.find?_nil]
  repeat apply W_seq
  refine W_region (by simp; first | exact ⟨rfl, rfl⟩ | exact rfl) ?_
  try simp only [thenQ, blockQ, Ann.kill, List.find?_nil]
  refine W_ret ?_
  try simp only [thenQ, blockQ]
  simp [Tryz.f90]
end X
