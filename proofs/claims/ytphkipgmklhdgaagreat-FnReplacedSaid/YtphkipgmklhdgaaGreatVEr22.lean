/- A part of the proof. No statement of the claim is in it. -/
import Derived.Test.YtphkipgmklhdgaaGreatVEr21
open Go Go.V Go.Proofs
namespace X
set_option maxRecDepth 100000
set_option maxHeartbeats 4000000
set_option linter.unusedSimpArgs false
set_option linter.unusedVariables false
attribute [simp] eqOp
attribute [simp] lenV idxV
/-! ### Replaced -/
theorem within_lv (n lo hi : Int) : LV S 15 [.t (I n), .t (I lo), .t (I hi)] [] = some (.t (B (decide (lo ≤ n) && decide (n ≤ hi))), []) := by
 refine LV_body (A := A15) rfl Tryz.func15 rfl ?_
 repeat apply W_seq
 refine W_region (by simp; first | exact ⟨rfl, rfl⟩ | exact rfl) ?_
 try simp only [thenQ, blockQ, Ann.kill, List.find?_nil]
 by_cases h1 : lo ≤ n <;> by_cases h2 : n ≤ hi
 all_goals
  repeat apply W_seq
  refine W_region (by simp [h1, h2]; first | exact ⟨rfl, rfl⟩ | exact rfl) ?_
  try simp only [thenQ, blockQ, Ann.kill, List.find?_nil]
  refine W_ret ?_
  try simp only [thenQ, blockQ]
  simp [Tryz.f15, h1, h2]
@[simp] theorem within_ld (n lo hi : Int) (σ : Store) : LD S 15 [.t (I n), .t (I lo), .t (I hi)] σ = some (.t (B (decide (lo ≤ n) && decide (n ≤ hi))), σ) :=
 LD_pure (A := A15) (v := .t (B (decide (lo ≤ n) && decide (n ≤ hi)))) (σ0 := []) rfl rfl rfl (within_lv n lo hi) rfl σ
/-- Replaced, from a span on. -/
def rep (text by_ : List Nat) : List (Int × Int) → List Nat → Int → List Nat × Bool
 | [], out, at_ => (out ++ text.drop at_.toNat, true)
 | p :: r, out, at_ => if p.1 < at_ ∨ p.2 < p.1 ∨ (text.length : Int) < p.2 then ([], false) else rep text by_ r (out ++ (text.take p.1.toNat).drop at_.toNat ++ by_) p.2
abbrev Str (s : List Nat) : T := .str s
theorem specReplaced_ld (text by_ : List Nat) (l : List (Int × Int)) (σ : Store) (ht : text.length ≤ 1048576) (hb : by_.length ≤ 1048576) (hl : l.length ≤ 1048576) :
  LD S 9 [.t (Str text), .t (Sps l), .t (Str by_)] σ = some (.t (.tup [Str (rep text by_ l [] 0).1, B (rep text by_ l [] 0).2]), σ) := by
 refine LD_pure (A := A9) (v := .t (.tup [Str (rep text by_ l [] 0).1, B (rep text by_ l [] 0).2])) (σ0 := []) rfl rfl rfl ?_ rfl σ
 refine LV_body (A := A9) rfl Tryz.func9 rfl ?_
 repeat apply W_seq
 refine W_region (by simp; first | exact ⟨rfl, rfl⟩ | exact rfl) ?_
 try simp only [thenQ, blockQ, Ann.kill, List.find?_nil]
 repeat apply W_seq
 refine W_region (by simp; first | exact ⟨rfl, rfl⟩ | exact rfl) ?_
 try simp only [thenQ, blockQ, Ann.kill, List.find?_nil]
 repeat apply W_seq
 refine W_region (by simp; first | exact ⟨rfl, rfl⟩ | exact rfl) ?_
 try simp only [thenQ, blockQ, Ann.kill, List.find?_nil]
 repeat apply W_seq
 refine W_region (by simp; first | exact ⟨rfl, rfl⟩ | exact rfl) ?_
 try simp only [thenQ, blockQ, Ann.kill, List.find?_nil]
 repeat apply W_seq
 refine W_block ?_
 refine W_loop (I := fun m st σ => ∃ (k : Nat) (out : List Nat) (at_ : Int), m = l.length - k ∧ k ≤ l.length ∧ 0 ≤ at_ ∧ at_ ≤ text.length ∧ (out.length : Int) ≤ at_ + k * by_.length ∧ rep text by_ (l.drop k) out at_ = rep text by_ l [] 0 ∧
  st.vars = [(0, .t (Str text)), (1, .t (Sps l)), (2, .t (Str by_)), (6, .t (Str [])), (7, .t (B false)), (8, .t (Str out)), (9, .t (I at_)), (10, .t (I k))] ∧ σ = []) ?_ l.length _ _ ⟨0, [], 0, rfl, Nat.zero_le _, by omega, by omega, by simp, rfl, by simp, rfl⟩
 rintro m ⟨vars, scr⟩ σ ⟨k, out, at_, rfl, hk, ha0, ha1, ho, hrep, hv, rfl⟩
 simp only at hv
 subst hv
 repeat apply W_seq
 refine W_region (by simp; first | exact ⟨rfl, rfl⟩ | exact rfl) ?_
 try simp only [thenQ, blockQ, Ann.kill, List.find?_nil]
 by_cases h1 : k < l.length
 ·repeat apply W_seq
  refine W_cond (t := true) (by simp [h1]) ?_
  simp only [if_true, if_false, Bool.false_eq_true]
  refine W_skip ?_
  try simp only [thenQ, blockQ, Ann.kill, List.find?_nil]
  repeat apply W_seq
  refine W_block ?_
  obtain ⟨a, b, hp⟩ : ∃ a b, l[k]? = some (a, b) := ⟨l[k].1, l[k].2, by simp [h1]⟩
  rw [List.drop_eq_getElem_cons h1] at hrep
  have hp2 : l[k] = (a, b) := by rw [List.getElem?_eq_getElem h1] at hp; simpa using hp
  rw [hp2] at hrep
  simp only [rep] at hrep
  have hkb : (k : Int) * by_.length ≤ 1099511627776 := by
   have : k * by_.length ≤ 1099511627776 := Nat.mul_le_mul (show k ≤ 1048576 by omega) hb
   rw [← Int.natCast_mul]; omega
  by_cases c1 : a < at_
  ·repeat apply W_seq
   refine W_region (by simp [h1, hp, hp2, c1]; first | exact ⟨rfl, rfl⟩ | exact rfl) ?_
   try simp only [thenQ, blockQ, Ann.kill, List.find?_nil]
   rw [if_pos (.inl c1)] at hrep
   repeat apply W_seq
   refine W_cond (t := true) (by simp) ?_
   simp only [if_true, if_false, Bool.false_eq_true]
   repeat apply W_seq
   refine W_region (by simp; first | exact ⟨rfl, rfl⟩ | exact rfl) ?_
   try simp only [thenQ, blockQ, Ann.kill, List.find?_nil]
   refine W_ret ?_
   try simp only [thenQ, blockQ]
   simp [Tryz.f9, ← hrep]
  ·by_cases c2 : b < a
   ·repeat apply W_seq
    refine W_region (by simp [h1, hp, hp2, c1, c2]; first | exact ⟨rfl, rfl⟩ | exact rfl) ?_
    try simp only [thenQ, blockQ, Ann.kill, List.find?_nil]
    rw [if_pos (.inr (.inl c2))] at hrep
    repeat apply W_seq
    refine W_cond (t := true) (by simp) ?_
    simp only [if_true, if_false, Bool.false_eq_true]
    repeat apply W_seq
    refine W_region (by simp; first | exact ⟨rfl, rfl⟩ | exact rfl) ?_
    try simp only [thenQ, blockQ, Ann.kill, List.find?_nil]
    refine W_ret ?_
    try simp only [thenQ, blockQ]
    simp [Tryz.f9, ← hrep]
   ·by_cases c3 : (text.length : Int) < b
    ·repeat apply W_seq
     refine W_region (by simp [h1, hp, hp2, c1, c2, c3]; first | exact ⟨rfl, rfl⟩ | exact rfl) ?_
     try simp only [thenQ, blockQ, Ann.kill, List.find?_nil]
     rw [if_pos (.inr (.inr c3))] at hrep
     repeat apply W_seq
     refine W_cond (t := true) (by simp) ?_
     simp only [if_true, if_false, Bool.false_eq_true]
     repeat apply W_seq
     refine W_region (by simp; first | exact ⟨rfl, rfl⟩ | exact rfl) ?_
     try simp only [thenQ, blockQ, Ann.kill, List.find?_nil]
     refine W_ret ?_
     try simp only [thenQ, blockQ]
     simp [Tryz.f9, ← hrep]
    ·repeat apply W_seq
     refine W_region (by simp [h1, hp, hp2, c1, c2, c3]; first | exact ⟨rfl, rfl⟩ | exact rfl) ?_
     try simp only [thenQ, blockQ, Ann.kill, List.find?_nil]
     rw [if_neg (by omega)] at hrep
     repeat apply W_seq
     refine W_cond (t := false) (by simp) ?_
     simp only [if_true, if_false, Bool.false_eq_true]
     refine W_skip ?_
     try simp only [thenQ, blockQ, Ann.kill, List.find?_nil]
     have e1 : out.length + (a.toNat - at_.toNat) ≤ 9223372036854775807 := by omega
     have e2 : out.length + (a.toNat - at_.toNat) + by_.length ≤ 9223372036854775807 := by omega
     repeat apply W_seq
     refine W_region (by simp [h1, hp, hp2, ha0, show at_ ≤ a by omega, show a ≤ text.length by omega, e1, e2]; first | exact ⟨rfl, rfl⟩ | exact rfl) ?_
     try simp only [thenQ, blockQ, Ann.kill, List.find?_nil]
     repeat apply W_seq
     refine W_region (by simp [h1, hp, hp2]; first | exact ⟨rfl, rfl⟩ | exact rfl) ?_
     try simp only [thenQ, blockQ, Ann.kill, List.find?_nil]
     repeat apply W_seq
     refine W_region (by simp [IntWalk.i64_in ((k : Int) + 1) (by omega)]; first | exact ⟨rfl, rfl⟩ | exact rfl) ?_
     try simp only [thenQ, blockQ, Ann.kill, List.find?_nil]
     refine ⟨l.length - (k + 1), by omega, k + 1, _, b, rfl, h1, by omega, by omega, ?_, hrep, by simp, by simp⟩
     have e3 : ((k + 1 : Nat) : Int) * by_.length = k * by_.length + by_.length := by rw [Int.natCast_add, Int.add_mul]; simp
     rw [e3]
     simp only [List.length_append, List.length_drop, List.length_take]
     omega
 ·repeat apply W_seq
  refine W_cond (t := false) (by simp [h1]) ?_
  simp only [if_true, if_false, Bool.false_eq_true]
  repeat apply W_seq
  refine W_exit ?_
  try simp only [thenQ, blockQ, if_true, Ann.kill, List.find?_nil]
  have hk2 : k = l.length := by omega
  subst hk2
  rw [List.drop_length] at hrep
  simp only [rep] at hrep
  have hkb : (l.length : Int) * by_.length ≤ 1099511627776 := by
   have : l.length * by_.length ≤ 1099511627776 := Nat.mul_le_mul hl hb
   rw [← Int.natCast_mul]; omega
  have e1 : out.length + (text.length - at_.toNat) ≤ 9223372036854775807 := by omega
  repeat apply W_seq
  refine W_region (by simp [ha0, ha1, e1]; first | exact ⟨rfl, rfl⟩ | exact rfl) ?_
  try simp only [thenQ, blockQ, Ann.kill, List.find?_nil]
  refine W_ret ?_
  try simp only [thenQ, blockQ]
  simp [Tryz.f9, ← hrep]
theorem implReplaced_ld (text by_ : List Nat) (l : List (Int × Int)) (σ : Store) (ht : text.length ≤ 1048576) (hb : by_.length ≤ 1048576) (hl : l.length ≤ 1048576) :
  LD S 7 [.t (Str text), .t (Sps l), .t (Str by_)] σ = some (.t (.tup [Str (rep text by_ l [] 0).1, B (rep text by_ l [] 0).2]), σ) := by
 obtain ⟨σ0, hσ⟩ : ∃ σ0, LV S 7 [.t (Str text), .t (Sps l), .t (Str by_)] [] = some (.t (.tup [Str (rep text by_ l [] 0).1, B (rep text by_ l [] 0).2]), σ0) := by
  refine LV_bodyE (A := A7) rfl Tryz.func7 rfl ?_
  repeat apply W_seq
  refine W_region (by simp; first | exact ⟨rfl, rfl⟩ | exact rfl) ?_
  try simp only [thenQ, blockQ, Ann.kill, List.find?_nil]
  repeat apply W_seq
  refine W_region (by simp; first | exact ⟨rfl, rfl⟩ | exact rfl) ?_
  try simp only [thenQ, blockQ, Ann.kill, List.find?_nil]
  repeat apply W_seq
  refine W_region (by simp; first | exact ⟨rfl, rfl⟩ | exact rfl) ?_
  try simp only [thenQ, blockQ, Ann.kill, List.find?_nil]
  repeat apply W_seq
  refine W_region (by simp; first | exact ⟨rfl, rfl⟩ | exact rfl) ?_
  try simp only [thenQ, blockQ, Ann.kill, List.find?_nil]
  repeat apply W_seq
  refine W_block ?_
  refine W_loop (I := fun m st σ => ∃ (k : Nat) (out : List Nat) (at_ : Int), m = l.length - k ∧ k ≤ l.length ∧ 0 ≤ at_ ∧ at_ ≤ text.length ∧ (out.length : Int) ≤ at_ + k * by_.length ∧ rep text by_ (l.drop k) out at_ = rep text by_ l [] 0 ∧
   st.vars = [(0, .t (Str text)), (1, .t (Sps l)), (2, .t (Str by_)), (6, .t (Str [])), (7, .t (B false)), (8, .t (Str out)), (9, .t (I at_)), (12, .t (Sps l)), (13, .t (I l.length)), (14, .t (I k))]) ?_ l.length _ _ ⟨0, [], 0, rfl, Nat.zero_le _, by omega, by omega, by simp, rfl, by simp⟩
  rintro m ⟨vars, scr⟩ σ ⟨k, out, at_, rfl, hk, ha0, ha1, ho, hrep, hv⟩
  simp only at hv
  subst hv
  repeat apply W_seq
  refine W_region (by simp; first | exact ⟨rfl, rfl⟩ | exact rfl) ?_
  try simp only [thenQ, blockQ, Ann.kill, List.find?_nil]
  by_cases h1 : k < l.length
  ·repeat apply W_seq
   refine W_cond (t := true) (by simp [h1]) ?_
   simp only [if_true, if_false, Bool.false_eq_true]
   refine W_skip ?_
   try simp only [thenQ, blockQ, Ann.kill, List.find?_nil]
   repeat apply W_seq
   refine W_block ?_
   obtain ⟨a, b, hp⟩ : ∃ a b, l[k]? = some (a, b) := ⟨l[k].1, l[k].2, by simp [h1]⟩
   rw [List.drop_eq_getElem_cons h1] at hrep
   have hp2 : l[k] = (a, b) := by rw [List.getElem?_eq_getElem h1] at hp; simpa using hp
   rw [hp2] at hrep
   simp only [rep] at hrep
   have hkb : (k : Int) * by_.length ≤ 1099511627776 := by
    have : k * by_.length ≤ 1099511627776 := Nat.mul_le_mul (show k ≤ 1048576 by omega) hb
    rw [← Int.natCast_mul]; omega
   repeat apply W_seq
   refine W_region (by simp [h1, hp, hp2]; first | exact ⟨rfl, rfl⟩ | exact rfl) ?_
   try simp only [thenQ, blockQ, Ann.kill, List.find?_nil]
   by_cases c1 : at_ ≤ a
   ·by_cases c1b : a ≤ text.length
    ·by_cases c2 : a ≤ b
     ·by_cases c2b : b ≤ text.length
      ·repeat apply W_seq
       refine W_region (by simp [c1, c1b, c2, c2b]; first | exact ⟨rfl, rfl⟩ | exact rfl) ?_
       try simp only [thenQ, blockQ, Ann.kill, List.find?_nil]
       rw [if_neg (by omega)] at hrep
       repeat apply W_seq
       refine W_cond (t := false) (by simp) ?_
       simp only [if_true, if_false, Bool.false_eq_true]
       refine W_skip ?_
       try simp only [thenQ, blockQ, Ann.kill, List.find?_nil]
       have e1 : out.length + (a.toNat - at_.toNat + by_.length) ≤ 9223372036854775807 := by omega
       have e2 : a.toNat - at_.toNat + by_.length ≤ 9223372036854775807 := by omega
       repeat apply W_seq
       refine W_region (by simp [ha0, c1, c1b, e1, e2]; first | exact ⟨rfl, rfl⟩ | exact rfl) ?_
       try simp only [thenQ, blockQ, Ann.kill, List.find?_nil]
       repeat apply W_seq
       refine W_region (by simp; first | exact ⟨rfl, rfl⟩ | exact rfl) ?_
       try simp only [thenQ, blockQ, Ann.kill, List.find?_nil]
       repeat apply W_seq
       refine W_region (by simp [IntWalk.i64_in ((k : Int) + 1) (by omega)]; first | exact ⟨rfl, rfl⟩ | exact rfl) ?_
       try simp only [thenQ, blockQ, Ann.kill, List.find?_nil]
       refine ⟨l.length - (k + 1), by omega, k + 1, out ++ (List.drop at_.toNat (List.take a.toNat text) ++ by_), b, rfl, h1, by omega, by omega, ?_, by rw [← hrep]; simp [List.append_assoc], by simp⟩
       have e3 : ((k + 1 : Nat) : Int) * by_.length = k * by_.length + by_.length := by rw [Int.natCast_add, Int.add_mul]; simp
       rw [e3]
       simp only [List.length_append, List.length_drop, List.length_take]
       omega
      ·repeat apply W_seq
       refine W_region (by simp [c1, c1b, c2, c2b]; first | exact ⟨rfl, rfl⟩ | exact rfl) ?_
       try simp only [thenQ, blockQ, Ann.kill, List.find?_nil]
       rw [if_pos (by omega)] at hrep
       repeat apply W_seq
       refine W_cond (t := true) (by simp) ?_
       simp only [if_true, if_false, Bool.false_eq_true]
       repeat apply W_seq
       refine W_region (by simp; first | exact ⟨rfl, rfl⟩ | exact rfl) ?_
       try simp only [thenQ, blockQ, Ann.kill, List.find?_nil]
       refine W_ret ?_
       try simp only [thenQ, blockQ]
       simp [Tryz.f7, ← hrep]
     ·repeat apply W_seq
      refine W_region (by simp [c1, c1b, c2]; first | exact ⟨rfl, rfl⟩ | exact rfl) ?_
      try simp only [thenQ, blockQ, Ann.kill, List.find?_nil]
      rw [if_pos (by omega)] at hrep
      repeat apply W_seq
      refine W_cond (t := true) (by simp) ?_
      simp only [if_true, if_false, Bool.false_eq_true]
      repeat apply W_seq
      refine W_region (by simp; first | exact ⟨rfl, rfl⟩ | exact rfl) ?_
      try simp only [thenQ, blockQ, Ann.kill, List.find?_nil]
      refine W_ret ?_
      try simp only [thenQ, blockQ]
      simp [Tryz.f7, ← hrep]
    ·repeat apply W_seq
     refine W_region (by simp [c1, c1b]; first | exact ⟨rfl, rfl⟩ | exact rfl) ?_
     try simp only [thenQ, blockQ, Ann.kill, List.find?_nil]
     rw [if_pos (by omega)] at hrep
     repeat apply W_seq
     refine W_cond (t := true) (by simp) ?_
     simp only [if_true, if_false, Bool.false_eq_true]
     repeat apply W_seq
     refine W_region (by simp; first | exact ⟨rfl, rfl⟩ | exact rfl) ?_
     try simp only [thenQ, blockQ, Ann.kill, List.find?_nil]
     refine W_ret ?_
     try simp only [thenQ, blockQ]
     simp [Tryz.f7, ← hrep]
   ·repeat apply W_seq
    refine W_region (by simp [c1]; first | exact ⟨rfl, rfl⟩ | exact rfl) ?_
    try simp only [thenQ, blockQ, Ann.kill, List.find?_nil]
    rw [if_pos (by omega)] at hrep
    repeat apply W_seq
    refine W_cond (t := true) (by simp) ?_
    simp only [if_true, if_false, Bool.false_eq_true]
    repeat apply W_seq
    refine W_region (by simp; first | exact ⟨rfl, rfl⟩ | exact rfl) ?_
    try simp only [thenQ, blockQ, Ann.kill, List.find?_nil]
    refine W_ret ?_
    try simp only [thenQ, blockQ]
    simp [Tryz.f7, ← hrep]
  ·repeat apply W_seq
   refine W_cond (t := false) (by simp [h1]) ?_
   simp only [if_true, if_false, Bool.false_eq_true]
   repeat apply W_seq
   refine W_exit ?_
   try simp only [thenQ, blockQ, if_true, Ann.kill, List.find?_nil]
   have hk2 : k = l.length := by omega
   subst hk2
   rw [List.drop_length] at hrep
   simp only [rep] at hrep
   have hkb : (l.length : Int) * by_.length ≤ 1099511627776 := by
    have : l.length * by_.length ≤ 1099511627776 := Nat.mul_le_mul hl hb
    rw [← Int.natCast_mul]; omega
   have e1 : out.length + (text.length - at_.toNat) ≤ 9223372036854775807 := by omega
   repeat apply W_seq
   refine W_region (by simp [ha0, ha1, e1]; first | exact ⟨rfl, rfl⟩ | exact rfl) ?_
   try simp only [thenQ, blockQ, Ann.kill, List.find?_nil]
   refine W_ret ?_
   try simp only [thenQ, blockQ]
   simp [Tryz.f7, ← hrep]
 exact LD_pure (A := A7) (args := [.t (Str text), .t (Sps l), .t (Str by_)]) (v := .t (.tup [Str (rep text by_ l [] 0).1, B (rep text by_ l [] 0).2])) rfl rfl rfl hσ rfl σ
/-! ### What the law asks -/
def zS (l : List (Nat × Nat)) : List (Int × Int) := l.map fun p => ((p.1 : Int), (p.2 : Int))
theorem rows2_z (l : List (Nat × Nat)) : T.list (rows2 l) = Sps (zS l) := by simp [rows2, zS]
def sumZ : List (Nat × Nat) → Int
 | [] => 0
 | p :: r => (p.2 : Int) - p.1 + sumZ r
theorem rep_out {text : List Nat} : ∀ (l : List (Nat × Nat)) (out : List Nat) (k : Nat), Asc text.length k l → (rep text [] (zS l) out k).2 = true ∧ ((rep text [] (zS l) out k).1.length : Int) = out.length + (text.length - k) - sumZ l
 | [], out, k, h => by
  simp only [Asc] at h
  simp only [zS, List.map_nil, rep, sumZ, Int.toNat_natCast, List.length_append, List.length_drop]
  exact ⟨trivial, by omega⟩
 | p :: r, out, k, h => by
  obtain ⟨h1, h2, h3⟩ := h
  have h4 : p.2 ≤ text.length := by
   cases r with
   | nil => exact h3
   | cons q r =>
    have : ∀ (l : List (Nat × Nat)) (k : Nat), Asc text.length k l → k ≤ text.length := by
     intro l
     induction l with
     | nil => intro k h; exact h
     | cons q r ih => intro k h; obtain ⟨a, b, c⟩ := h; have := ih _ c; omega
    exact this _ _ h3
  have e : rep text [] (zS (p :: r)) out k = rep text [] (zS r) (out ++ (text.take p.1).drop k ++ []) p.2 := by
   simp only [zS, List.map_cons, rep]
   rw [if_neg (by omega)]
   simp
  rw [e]
  obtain ⟨i1, i2⟩ := rep_out r (out ++ (text.take p.1).drop k ++ []) p.2 h3
  refine ⟨i1, ?_⟩
  rw [i2]
  simp only [sumZ, List.append_nil, List.length_append, List.length_drop, List.length_take]
  omega
theorem rep_one {text : List Nat} {a b : Nat} (h1 : a ≤ b) (h2 : b ≤ text.length) : rep text ((text.take b).drop a) [((a : Int), (b : Int))] [] 0 = (text, true) := by
 simp only [rep]
 rw [if_neg (by omega)]
 simp only [Int.toNat_natCast, List.nil_append, Int.toNat_zero, List.drop_zero]
 congr 1
 have e1 : (text.take b).drop a = (text.drop a).take (b - a) := by rw [List.drop_take]
 rw [e1]
 have e2 : text.take a ++ (text.drop a).take (b - a) = text.take b := by
  have : b = a + (b - a) := by omega
  rw (config := { occs := .pos [2] }) [this]
  rw [List.take_add]
 rw [e2, List.take_append_drop]
theorem big_ld {x : T} {l : List Int} (hx : BytesT x l) (σ : Store) : LD S 4 [.t x] σ = some (.t (B (decide ((1048576 : Int) < l.length))), σ) := by
 refine LD_pure (A := A4) (v := .t (B (decide ((1048576 : Int) < l.length)))) (σ0 := []) rfl rfl rfl ?_ rfl σ
 rcases hx with ⟨rfl, rfl⟩ | rfl
 ·refine LV_body (A := A4) rfl Tryz.func4 rfl ?_
  repeat apply W_seq
  refine W_region (by simp; first | exact ⟨rfl, rfl⟩ | exact rfl) ?_
  try simp only [thenQ, blockQ, Ann.kill, List.find?_nil]
  repeat apply W_seq
  refine W_region (by simp; first | exact ⟨rfl, rfl⟩ | exact rfl) ?_
  try simp only [thenQ, blockQ, Ann.kill, List.find?_nil]
  refine W_ret ?_
  try simp only [thenQ, blockQ]
  simp [Tryz.f4]
 ·refine LV_body (A := A4) rfl Tryz.func4 rfl ?_
  repeat apply W_seq
  refine W_region (by simp; first | exact ⟨rfl, rfl⟩ | exact rfl) ?_
  try simp only [thenQ, blockQ, Ann.kill, List.find?_nil]
  repeat apply W_seq
  refine W_region (by simp; first | exact ⟨rfl, rfl⟩ | exact rfl) ?_
  try simp only [thenQ, blockQ, Ann.kill, List.find?_nil]
  refine W_ret ?_
  try simp only [thenQ, blockQ]
  simp [Tryz.f4]
end X
