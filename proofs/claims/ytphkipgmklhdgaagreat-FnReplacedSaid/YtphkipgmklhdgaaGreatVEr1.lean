/- The reference's engine (spec RunGoal): contracts of the helpers. -/
import Derived.Test.YtphkipgmklhdgaaGreatTfy
import Derived.Test.YtphkipgmklhdgaaGreatVc
import Derived.IntWalk
open Go Go.V Go.Proofs
namespace X
set_option maxRecDepth 100000
set_option maxHeartbeats 4000000
set_option linter.unusedSimpArgs false
set_option linter.unusedVariables false
abbrev I (n : Int) : T := .int .i64 n
abbrev B (b : Bool) : T := .bool b
attribute [simp] cls Go.V.beq_self
@[simp] theorem bytes_nil : V.bytes { data := #[] } = [] := rfl
@[simp] theorem bytes_mk (a : Array UInt8) : V.bytes ⟨a⟩ = a.toList.map UInt8.toNat := rfl
attribute [-simp] lenV idxV getElem?_pos
attribute [simp] List.getElem?_cons_zero List.getElem?_cons_succ
@[simp] theorem lenV_str (σ : Store) (s : List Nat) : lenV σ .str (.t (.str s)) = some (s.length : Int) := rfl
@[simp] theorem lenV_list (σ : Store) (e : TypeId) (r : List T) : lenV σ (.slice e) (.t (.list r)) = some (r.length : Int) := rfl
@[simp] theorem lenV_nils (σ : Store) (e : TypeId) : lenV σ (.slice e) (.t .nils) = some 0 := rfl
@[simp] theorem lenV_sl (σ : Store) (e : TypeId) (a b c n d : Nat) : lenV σ (.slice e) (.sl a b c n d) = some (n : Int) := rfl
@[simp] theorem idxV_list (k : Nat) (rows : List T) (i : Int) : idxV k (.t (.list rows)) i = if 0 ≤ i then (match rows[i.toNat]? with
   | some (.agg cs) => if cs.length = k then some (.t (.snap cs)) else none
   | _ => none) else none := rfl
@[simp] theorem idxV_sl (k loc g off len k' : Nat) (i : Int) : idxV k (.sl loc g off len k') i = if 0 ≤ i ∧ i < len ∧ k' = k then some (.ptr loc g (off + i.toNat * k) k) else none := rfl

/-- Slices of numbers, as trees; as cells. -/
def rows1 (l : List Nat) : List T := l.map fun (n : Nat) => .agg [I n]
def ints (l : List Nat) : List V := l.map fun (n : Nat) => V.t (I n)
@[simp] theorem rows1_len (l : List Nat) : (rows1 l).length = l.length := by simp [rows1]
@[simp] theorem ints_len (l : List Nat) : (ints l).length = l.length := by simp [ints]
@[simp] theorem rows1_get (l : List Nat) (i : Nat) : (rows1 l)[i]? = (l[i]?).map fun (n : Nat) => T.agg [I n] := by simp [rows1]
@[simp] theorem ints_get (l : List Nat) (i : Nat) : (ints l)[i]? = (l[i]?).map fun (n : Nat) => V.t (I n) := by simp [ints]
def Is (x : T) (l : List Nat) : Prop := (x = .nils ∧ l = []) ∨ x = .list (rows1 l)
theorem Is.len {x : T} {l : List Nat} (h : Is x l) (σ : Store) (e : TypeId) : lenV σ (.slice e) (.t x) = some (l.length : Int) := by
 rcases h with ⟨rfl, rfl⟩ | rfl
 ·rfl
 ·simp
theorem Is.idx {x : T} {l : List Nat} (h : Is x l) {i n : Nat} (hi : l[i]? = some n) : idxV 1 (.t x) (i : Int) = some (.t (.snap [I n])) := by
 rcases h with ⟨rfl, rfl⟩ | rfl
 ·simp at hi
 ·simp [hi]
theorem get_of_lt {α : Type} {l : List α} {k : Nat} (h : k < l.length) : ∃ y, l[k]? = some y := ⟨l[k], List.getElem?_eq_getElem h⟩
theorem lt_of_get {α : Type} {l : List α} {k : Nat} {y : α} (h : l[k]? = some y) : k < l.length := by
 rcases Nat.lt_or_ge k l.length with h1 | h1
 ·exact h1
 ·rw [List.getElem?_eq_none h1] at h; cases h
theorem drop_get {α : Type} {l : List α} {k : Nat} {y : α} (h : l[k]? = some y) : l.drop k = y :: l.drop (k + 1) := by
 have hk := lt_of_get h
 rw [List.drop_eq_getElem_cons hk]
 rw [List.getElem?_eq_getElem hk] at h
 cases h; rfl
theorem chunk1 : ∀ (l : List Nat), chunk 1 l.length (l.map fun (n : Nat) => I n) = rows1 l
 | [] => rfl
 | n :: r => by
  have := chunk1 r
  simp only [List.length_cons, List.map_cons, chunk, List.take_succ_cons, List.take_zero, List.drop_succ_cons, List.drop_zero, rows1] at this ⊢
  rw [this]
theorem frz_ints (d : Nat) (σ : Store) : ∀ (l : List Nat), frzs (frz (d + 1) σ) (ints l) = some (l.map fun (n : Nat) => I n)
 | [] => rfl
 | n :: r => by
  have := frz_ints d σ r
  simp only [ints, List.map_cons, frzs, frz] at this ⊢
  rw [this]
theorem rowCells1 : ∀ (l : List Nat), rowCells 1 (rows1 l) = some (ints l)
 | [] => rfl
 | n :: r => by
  have := rowCells1 r
  simp only [rows1, ints, List.map_cons, rowCells] at this ⊢
  rw [this]
  rfl
/-- A value that reads as a list of numbers. -/
def Rd (σ : Store) (v : V) (l : List Nat) : Prop := (v = .t .nils ∧ l = []) ∨ v = .t (.list (rows1 l)) ∨ ∃ d g w, v = .sl d g 0 l.length 1 ∧ σ[d]? = some (.cells (ints l) g w) ∧ w ≤ g
theorem Rd.len {σ : Store} {v : V} {l : List Nat} (h : Rd σ v l) (e : TypeId) : lenV σ (.slice e) v = some (l.length : Int) := by
 rcases h with ⟨rfl, rfl⟩ | rfl | ⟨d, g, w, rfl, _, _⟩ <;> simp
theorem take_ints (l : List Nat) : ((ints l).drop 0).take (l.length * 1) = ints l := by
 rw [Nat.mul_one, List.drop_zero, List.take_of_length_le (by simp)]
theorem frz_sl1 (n : Nat) {σ : Store} {d g w : Nat} {l : List Nat} (h1 : σ[d]? = some (.cells (ints l) g w)) (h2 : w ≤ g) : frz (n + 2) σ (.sl d g 0 l.length 1) = some (.list (rows1 l)) := by
 have := frz_sl (d := n + 1) h1 h2 (Nat.le_refl _) Nat.one_pos (off := 0) (len := l.length) (by simp) (ts := l.map fun (n : Nat) => I n) (by rw [take_ints]; exact frz_ints n σ l)
 rw [chunk1] at this
 exact this
theorem frz_rd (n : Nat) {σ : Store} {v : V} {l : List Nat} (h : Rd σ v l) : ∃ x, frz (n + 2) σ v = some x ∧ Is x l := by
 rcases h with ⟨rfl, rfl⟩ | rfl | ⟨d, g, w, rfl, h1, h2⟩
 ·exact ⟨.nils, rfl, .inl ⟨rfl, rfl⟩⟩
 ·exact ⟨_, rfl, .inr rfl⟩
 ·exact ⟨_, frz_sl1 n h1 h2, .inr rfl⟩

/-! ### l01In, l07In, l07SameInts -/
def inF (n low high : Int) : Bool := decide (low ≤ n) && decide (n ≤ high)
theorem in_ld (n low high : Int) (σ : Store) : LD S 41 [.t (I n), .t (I low), .t (I high)] σ = some (.t (B (inF n low high)), σ) := by
 suffices h : LV S 41 [.t (I n), .t (I low), .t (I high)] [] = some (.t (B (inF n low high)), []) from LD_pure (A := A41) (v := .t (B (inF n low high))) rfl rfl rfl h rfl σ
 refine LV_body (A := A41) rfl Tryz.func41 rfl ?_
 repeat apply W_seq
 refine W_region (by simp [A41]; first | exact ⟨rfl, rfl⟩ | exact rfl) ?_
 try simp only [thenQ, blockQ, Ann.kill, List.find?_nil]
 by_cases h : low ≤ n
 ·repeat apply W_seq
  refine W_region (by simp [h, A41]; first | exact ⟨rfl, rfl⟩ | exact rfl) ?_
  try simp only [thenQ, blockQ, Ann.kill, List.find?_nil]
  refine W_ret ?_
  try simp only [thenQ, blockQ]
  simp [Tryz.f41, inF, h]
 ·repeat apply W_seq
  refine W_region (by simp [h, A41]; first | exact ⟨rfl, rfl⟩ | exact rfl) ?_
  try simp only [thenQ, blockQ, Ann.kill, List.find?_nil]
  refine W_ret ?_
  try simp only [thenQ, blockQ]
  simp [Tryz.f41, inF, h]

theorem inL_lv {x : T} {l : List Nat} (h : Is x l) (y : Nat) (hl : l.length ≤ 1048576) : LV S 70 [.t x, .t (I y)] [] = some (.t (B (l.contains y)), []) := by
 refine LV_body (A := A70) rfl Tryz.func70 rfl ?_
 repeat apply W_seq
 refine W_region (by simp; first | exact ⟨rfl, rfl⟩ | exact rfl) ?_
 try simp only [thenQ, blockQ, Ann.kill, List.find?_nil]
 repeat apply W_seq
 refine W_region (by simp; first | exact ⟨rfl, rfl⟩ | exact rfl) ?_
 try simp only [thenQ, blockQ, Ann.kill, List.find?_nil]
 repeat apply W_seq
 refine W_block ?_
 refine W_loop (I := fun m st τ => ∃ k, m = l.length - k ∧ k ≤ l.length ∧ l.contains y = (l.drop k).contains y ∧ st.vars = [(0, .t x), (1, .t (I y)), (4, .t (B false)), (5, .t (I k))] ∧ τ = []) ?_ l.length _ _ ⟨0, rfl, Nat.zero_le _, rfl, by simp, rfl⟩
 rintro m ⟨vars, scr⟩ τ ⟨k, rfl, hk, he, hv, rfl⟩
 simp only at hv
 subst hv
 repeat apply W_seq
 refine W_region (by simp [h.len]; first | exact ⟨rfl, rfl⟩ | exact rfl) ?_
 try simp only [thenQ, blockQ, Ann.kill, List.find?_nil]
 by_cases c1 : k < l.length
 ·repeat apply W_seq
  refine W_cond (t := true) (by simp [c1]) ?_
  simp only [if_true, if_false, Bool.false_eq_true]
  refine W_skip ?_
  try simp only [thenQ, blockQ, Ann.kill, List.find?_nil]
  repeat apply W_seq
  refine W_block ?_
  obtain ⟨z, hz⟩ := get_of_lt c1
  repeat apply W_seq
  refine W_region (by simp [h.idx hz]; first | exact ⟨rfl, rfl⟩ | exact rfl) ?_
  try simp only [thenQ, blockQ, Ann.kill, List.find?_nil]
  rw [drop_get hz] at he
  by_cases c2 : y = z
  ·subst c2
   repeat apply W_seq
   refine W_cond (t := true) (by simp) ?_
   simp only [if_true, if_false, Bool.false_eq_true]
   repeat apply W_seq
   refine W_region (by simp; first | exact ⟨rfl, rfl⟩ | exact rfl) ?_
   try simp only [thenQ, blockQ, Ann.kill, List.find?_nil]
   have : l.contains y = true := by rw [he]; simp
   rw [this]
   refine W_ret ?_
   try simp only [thenQ, blockQ]
   simp [Tryz.f70]
  ·repeat apply W_seq
   refine W_cond (t := false) (by simp [show ¬ ((z : Int) = (y : Int)) by omega]) ?_
   simp only [if_true, if_false, Bool.false_eq_true]
   refine W_skip ?_
   try simp only [thenQ, blockQ, Ann.kill, List.find?_nil]
   repeat apply W_seq
   refine W_region (by simp [IntWalk.i64_in ((k : Int) + 1) (by omega)]; first | exact ⟨rfl, rfl⟩ | exact rfl) ?_
   try simp only [thenQ, blockQ, Ann.kill, List.find?_nil]
   refine ⟨l.length - (k + 1), by omega, k + 1, rfl, c1, ?_, by simp, by simp⟩
   rw [he]; simp [c2]
 ·repeat apply W_seq
  refine W_cond (t := false) (by simp [c1]) ?_
  simp only [if_true, if_false, Bool.false_eq_true]
  repeat apply W_seq
  refine W_exit ?_
  try simp only [thenQ, blockQ, if_true, Ann.kill, List.find?_nil]
  have hk2 : k = l.length := by omega
  subst hk2
  have : l.contains y = false := by rw [he]; simp
  repeat apply W_seq
  refine W_region (by simp; first | exact ⟨rfl, rfl⟩ | exact rfl) ?_
  try simp only [thenQ, blockQ, Ann.kill, List.find?_nil]
  rw [this]
  refine W_ret ?_
  try simp only [thenQ, blockQ]
  simp [Tryz.f70]
theorem inL_ld {σ : Store} {v : V} {l : List Nat} (h : Rd σ v l) (y : Nat) (hl : l.length ≤ 1048576) : LD S 70 [v, .t (I y)] σ = some (.t (B (l.contains y)), σ) := by
 obtain ⟨x, h1, h2⟩ := frz_rd 38 h
 exact LD_borrow (A := A70) rfl rfl (ts := [x, I y]) (by simp only [frzs, h1]; rfl) (inL_lv h2 y hl) rfl

theorem take_ext {α : Type} {a b : List α} {k : Nat} {y : α} (h : a.take k = b.take k) (h1 : a[k]? = some y) (h2 : b[k]? = some y) : a.take (k + 1) = b.take (k + 1) := by
 rw [List.take_add_one, List.take_add_one, h, h1, h2]
theorem eq_lv {x y : T} {a b : List Nat} (hx : Is x a) (hy : Is y b) (hl : a.length ≤ 1048576) : LV S 79 [.t x, .t y] [] = some (.t (B (decide (a = b))), []) := by
 refine LV_body (A := A79) rfl Tryz.func79 rfl ?_
 repeat apply W_seq
 refine W_region (by simp; first | exact ⟨rfl, rfl⟩ | exact rfl) ?_
 try simp only [thenQ, blockQ, Ann.kill, List.find?_nil]
 by_cases c0 : a.length = b.length
 ·repeat apply W_seq
  refine W_region (by simp [hx.len, hy.len]; first | exact ⟨rfl, rfl⟩ | exact rfl) ?_
  try simp only [thenQ, blockQ, Ann.kill, List.find?_nil]
  repeat apply W_seq
  refine W_cond (t := false) (by simp [c0]) ?_
  simp only [if_true, if_false, Bool.false_eq_true]
  refine W_skip ?_
  try simp only [thenQ, blockQ, Ann.kill, List.find?_nil]
  repeat apply W_seq
  refine W_region (by simp; first | exact ⟨rfl, rfl⟩ | exact rfl) ?_
  try simp only [thenQ, blockQ, Ann.kill, List.find?_nil]
  repeat apply W_seq
  refine W_block ?_
  refine W_loop (I := fun m st τ => ∃ k, m = a.length - k ∧ k ≤ a.length ∧ a.take k = b.take k ∧ st.vars = [(0, .t x), (1, .t y), (4, .t (B false)), (5, .t (I k))] ∧ τ = []) ?_ a.length _ _ ⟨0, rfl, Nat.zero_le _, rfl, by simp, rfl⟩
  rintro m ⟨vars, scr⟩ τ ⟨k, rfl, hk, he, hv, rfl⟩
  simp only at hv
  subst hv
  repeat apply W_seq
  refine W_region (by simp [hx.len]; first | exact ⟨rfl, rfl⟩ | exact rfl) ?_
  try simp only [thenQ, blockQ, Ann.kill, List.find?_nil]
  by_cases c1 : k < a.length
  ·repeat apply W_seq
   refine W_cond (t := true) (by simp [c1]) ?_
   simp only [if_true, if_false, Bool.false_eq_true]
   refine W_skip ?_
   try simp only [thenQ, blockQ, Ann.kill, List.find?_nil]
   repeat apply W_seq
   refine W_block ?_
   obtain ⟨p, hp⟩ := get_of_lt c1
   obtain ⟨q, hq⟩ := get_of_lt (show k < b.length by omega)
   have h1 := hx.idx hp
   have h2 := hy.idx hq
   repeat apply W_seq
   refine W_region (by simp [h1, h2]; first | exact ⟨rfl, rfl⟩ | exact rfl) ?_
   try simp only [thenQ, blockQ, Ann.kill, List.find?_nil]
   by_cases c2 : p = q
   ·subst c2
    repeat apply W_seq
    refine W_cond (t := false) (by simp) ?_
    simp only [if_true, if_false, Bool.false_eq_true]
    refine W_skip ?_
    try simp only [thenQ, blockQ, Ann.kill, List.find?_nil]
    repeat apply W_seq
    refine W_region (by simp [IntWalk.i64_in ((k : Int) + 1) (by omega)]; first | exact ⟨rfl, rfl⟩ | exact rfl) ?_
    try simp only [thenQ, blockQ, Ann.kill, List.find?_nil]
    exact ⟨a.length - (k + 1), by omega, k + 1, rfl, c1, take_ext he hp hq, by simp, by simp⟩
   ·repeat apply W_seq
    refine W_cond (t := true) (by simp [show ¬ ((p : Int) = (q : Int)) by omega]) ?_
    simp only [if_true, if_false, Bool.false_eq_true]
    repeat apply W_seq
    refine W_region (by simp; first | exact ⟨rfl, rfl⟩ | exact rfl) ?_
    try simp only [thenQ, blockQ, Ann.kill, List.find?_nil]
    have : ¬ a = b := fun e => by subst e; rw [hp] at hq; cases hq; exact c2 rfl
    refine W_ret ?_
    try simp only [thenQ, blockQ]
    simp [Tryz.f79, this]
  ·repeat apply W_seq
   refine W_cond (t := false) (by simp [c1]) ?_
   simp only [if_true, if_false, Bool.false_eq_true]
   repeat apply W_seq
   refine W_exit ?_
   try simp only [thenQ, blockQ, if_true, Ann.kill, List.find?_nil]
   have hk2 : k = a.length := by omega
   have : a = b := by
    rw [hk2, List.take_length, c0, List.take_length] at he; exact he
   repeat apply W_seq
   refine W_region (by simp; first | exact ⟨rfl, rfl⟩ | exact rfl) ?_
   try simp only [thenQ, blockQ, Ann.kill, List.find?_nil]
   refine W_ret ?_
   try simp only [thenQ, blockQ]
   simp [Tryz.f79, this]
 ·repeat apply W_seq
  refine W_region (by simp [hx.len, hy.len]; first | exact ⟨rfl, rfl⟩ | exact rfl) ?_
  try simp only [thenQ, blockQ, Ann.kill, List.find?_nil]
  repeat apply W_seq
  refine W_cond (t := true) (by simp [show ¬ ((a.length : Int) = (b.length : Int)) by omega]) ?_
  simp only [if_true, if_false, Bool.false_eq_true]
  repeat apply W_seq
  refine W_region (by simp; first | exact ⟨rfl, rfl⟩ | exact rfl) ?_
  try simp only [thenQ, blockQ, Ann.kill, List.find?_nil]
  have : ¬ a = b := fun e => c0 (congrArg List.length e)
  refine W_ret ?_
  try simp only [thenQ, blockQ]
  simp [Tryz.f79, this]
theorem eq_ld {x y : T} {a b : List Nat} (hx : Is x a) (hy : Is y b) (hl : a.length ≤ 1048576) (σ : Store) : LD S 79 [.t x, .t y] σ = some (.t (B (decide (a = b))), σ) :=
 LD_pure (A := A79) (v := .t (B (decide (a = b)))) (σ0 := []) rfl rfl rfl (eq_lv hx hy hl) rfl σ
end X
