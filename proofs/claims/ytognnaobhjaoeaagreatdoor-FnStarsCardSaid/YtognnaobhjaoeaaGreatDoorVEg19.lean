/- A part of the proof. No statement of the claim is in it. -/
import Derived.Test.YtognnaobhjaoeaaGreatDoorVEg18
open Go Go.V Go.Proofs
namespace X
set_option maxRecDepth 100000
set_option maxHeartbeats 4000000
set_option linter.unusedSimpArgs false
set_option linter.unusedVariables false
attribute [-simp] lenV idxV getElem?_pos
attribute [simp] List.getElem?_cons_zero List.getElem?_cons_succ
/-! ### Runs over all texts of two letters -/
theorem endsL_some {x : Option (Option Rn)} {l : List Nat} (h : endsL x = some l) : ∃ o, x = some o ∧ endsT o = some (lT l) := by
 unfold endsL at h
 split at h
 ·cases h; exact ⟨_, rfl, rfl⟩
 ·split at h
  ·rename_i s g r hg
   cases h
   exact ⟨_, rfl, by simp only [endsT, hg]⟩
  ·cases h
 ·cases h
noncomputable def accR (K : Nats) (rules : List T) (nm t : List Nat) : Option (List Nat) := endsL (runGoalF K rules t 1000 nm .nils [] 0)
noncomputable def endR (K : Nats) (rules : List T) (nm t : List Nat) : Option (List Nat) := endsL (runGoalF K rules t 1000 nm (.list []) [] 0)
noncomputable def accB (K : Nats) (rules : List T) (nm t : List Nat) (b : Bool) : Bool := match accR K rules nm t with
 | some l => match Nat.ble l.length 1000 with
  | true => Bool.rec (Bool.rec true false b) b (l.contains t.length)
  | false => false
 | none => false
theorem acc_of {K : Nats} (hK : NatOk K) {nm : List Nat} {ps alts : T} {rules : List T} {t : List Nat} {b : Bool} (h : accB K (.agg [.str nm, ps, alts] :: rules) nm t b = true) (σ : Store) :
  LD S 9 [.t (.agg [.list (.agg [.str nm, ps, alts] :: rules)]), .t (.str t)] σ = some (.t (B b), σ) := by
 unfold accB at h
 split at h
 ·rename_i l hl
  split at h
  ·rename_i hb
   obtain ⟨o, h1, h2⟩ := endsL_some hl
   have := accepts_ld hK lenOk h1 h2 (Nat.le_of_ble_eq_true hb) σ
   have e : l.contains t.length = b := by
    revert h
    cases l.contains t.length <;> cases b <;> simp
   rw [e] at this
   exact this
  ·cases h
 ·cases h
theorem end_of {K : Nats} (hK : NatOk K) {nm : List Nat} {rules : List T} {t l : List Nat} (h : endR K rules nm t = some l) (σ : Store) :
  LD S 12 [.t (.agg [.list rules]), .t (.str t), .t (.str nm), .t (.list []), .t (I 0)] σ = some (.t (lT l), σ) := by
 obtain ⟨o, h1, h2⟩ := endsL_some h
 exact endsOf_ld hK lenOk (.inr rfl : Is (.list []) []) h1 h2 σ
def txt (a b : Nat) : Nat → List (List Nat)
 | 0 => [[]]
 | n + 1 => (txt a b n).flatMap fun t => [a :: t, b :: t]
def Two (a b : Nat) (t : List Nat) : Prop := ∀ c ∈ t, c = a ∨ c = b
theorem mem_txt {a b : Nat} : ∀ {n : Nat} {t : List Nat}, t.length = n → Two a b t → t ∈ txt a b n
 | 0, [], _, _ => by simp [txt]
 | n + 1, c :: t, h, h2 => by
  have := mem_txt (a := a) (b := b) (n := n) (t := t) (by simpa using h) (fun c hc => h2 c (by simp [hc]))
  simp only [txt, List.mem_flatMap]
  refine ⟨t, this, ?_⟩
  rcases h2 c (by simp) with rfl | rfl <;> simp
theorem all_txt {a b : Nat} {n : Nat} {P : List Nat → Bool} (h : (txt a b n).all P = true) {t : List Nat} (ht : t.length = n) (h2 : Two a b t) : P t = true := List.all_eq_true.1 h t (mem_txt ht h2)
theorem Two.app {a b c : Nat} {t : List Nat} (h : Two a b t) (hc : c = a ∨ c = b) : Two a b (t ++ [c]) := by
 intro x hx
 rcases List.mem_append.1 hx with q | q
 ·exact h x q
 ·simp only [List.mem_singleton] at q; subst q; exact hc
theorem Two.take {a b : Nat} {t : List Nat} (h : Two a b t) (n : Nat) : Two a b (t.take n) := fun c hc => h c (List.mem_of_mem_take hc)
theorem Two.drop {a b : Nat} {t : List Nat} (h : Two a b t) (n : Nat) : Two a b (t.drop n) := fun c hc => h c (List.mem_of_mem_drop hc)
/-- a text cut in two -/
theorem all_cut {a b : Nat} {k n : Nat} {P : List Nat → Bool} (h : ∀ p ∈ txt a b k, (txt a b n).all (fun r => P (p ++ r)) = true) {t : List Nat} (ht : t.length = k + n) (h2 : Two a b t) : P t = true := by
 have := all_txt (P := fun r => P (t.take k ++ r)) (h _ (mem_txt (by rw [List.length_take]; omega) (h2.take k))) (t := t.drop k) (by rw [List.length_drop]; omega) (h2.drop k)
 simpa using this

/-! ### laws.in -/
theorem in_lv {l : List Nat} (y : Nat) (hl : l.length ≤ 1048576) : LV S 11 [.t (lT l), .t (I y)] [] = some (.t (B (l.contains y)), []) := by
 have hx := lT_is l
 revert hx
 generalize lT l = x
 intro hx
 refine LV_body (A := A11) rfl Tryz.func11 rfl ?_
 repeat apply W_seq
 refine W_region (by simp; first | exact ⟨rfl, rfl⟩ | exact rfl) ?_
 try simp only [thenQ, blockQ, Ann.kill, List.find?_nil]
 repeat apply W_seq
 refine W_region (by simp; first | exact ⟨rfl, rfl⟩ | exact rfl) ?_
 try simp only [thenQ, blockQ, Ann.kill, List.find?_nil]
 repeat apply W_seq
 refine W_block ?_
 refine W_loop (I := fun m st τ => ∃ k, m = l.length - k ∧ k ≤ l.length ∧ l.contains y = (l.drop k).contains y ∧ st.vars = [(0, .t x), (1, .t (I y)), (4, .t (B false)), (5, .t (I k))] ∧ τ = []) ?_ l.length _ _ ⟨0, rfl, Nat.zero_le _, rfl, by simp, rfl⟩
 rintro m ⟨vars, scr⟩ τ ⟨k, rfl, hk, he, hv, rfl⟩
 simp only at hv
 subst hv
 repeat apply W_seq
 refine W_region (by simp [hx.len]; first | exact ⟨rfl, rfl⟩ | exact rfl) ?_
 try simp only [thenQ, blockQ, Ann.kill, List.find?_nil]
 by_cases c1 : k < l.length
 ·repeat apply W_seq
  refine W_cond (t := true) (by simp [c1]) ?_
  simp only [if_true, if_false, Bool.false_eq_true]
  refine W_skip ?_
  try simp only [thenQ, blockQ, Ann.kill, List.find?_nil]
  repeat apply W_seq
  refine W_block ?_
  obtain ⟨z, hz⟩ := get_of_lt c1
  have hd : l.drop k = z :: l.drop (k + 1) := by
   rw [List.drop_eq_getElem_cons c1]
   rw [List.getElem?_eq_getElem c1] at hz
   cases hz; rfl
  rw [hd] at he
  repeat apply W_seq
  refine W_region (by simp [hx.idx hz]; first | exact ⟨rfl, rfl⟩ | exact rfl) ?_
  try simp only [thenQ, blockQ, Ann.kill, List.find?_nil]
  by_cases c2 : z = y
  ·subst c2
   repeat apply W_seq
   refine W_cond (t := true) (by simp) ?_
   simp only [if_true, if_false, Bool.false_eq_true]
   repeat apply W_seq
   refine W_region (by simp; first | exact ⟨rfl, rfl⟩ | exact rfl) ?_
   try simp only [thenQ, blockQ, Ann.kill, List.find?_nil]
   have e : l.contains z = true := by rw [he]; simp
   rw [e]
   refine W_ret ?_
   try simp only [thenQ, blockQ]
   simp [Tryz.f11]
  ·repeat apply W_seq
   refine W_cond (t := false) (by simp [show ¬ ((z : Int) = (y : Int)) by omega]) ?_
   simp only [if_true, if_false, Bool.false_eq_true]
   refine W_skip ?_
   try simp only [thenQ, blockQ, Ann.kill, List.find?_nil]
   repeat apply W_seq
   refine W_region (by simp [IntWalk.i64_in ((k : Int) + 1) (by omega)]; first | exact ⟨rfl, rfl⟩ | exact rfl) ?_
   try simp only [thenQ, blockQ, Ann.kill, List.find?_nil]
   refine ⟨l.length - (k + 1), by omega, k + 1, rfl, c1, ?_, by simp, by simp⟩
   rw [he]
   have : (y == z) = false := by simp; omega
   simp only [List.contains_cons, this, Bool.false_or]
 ·repeat apply W_seq
  refine W_cond (t := false) (by simp [c1]) ?_
  simp only [if_true, if_false, Bool.false_eq_true]
  repeat apply W_seq
  refine W_exit ?_
  try simp only [thenQ, blockQ, if_true, Ann.kill, List.find?_nil]
  have hk2 : k = l.length := by omega
  subst hk2
  have e : l.contains y = false := by rw [he]; simp
  repeat apply W_seq
  refine W_region (by simp; first | exact ⟨rfl, rfl⟩ | exact rfl) ?_
  try simp only [thenQ, blockQ, Ann.kill, List.find?_nil]
  rw [e]
  refine W_ret ?_
  try simp only [thenQ, blockQ]
  simp [Tryz.f11]
theorem in_ld {l : List Nat} (y : Nat) (hl : l.length ≤ 1048576) (σ : Store) : LD S 11 [.t (lT l), .t (I y)] σ = some (.t (B (l.contains y)), σ) :=
 LD_pure (A := A11) (v := .t (B (l.contains y))) (σ0 := []) rfl rfl rfl (in_lv y hl) rfl σ
end X
