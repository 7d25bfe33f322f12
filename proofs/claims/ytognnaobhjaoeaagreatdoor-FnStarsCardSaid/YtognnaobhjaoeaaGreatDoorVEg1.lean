/- The engine (RunGoal): contracts of the helpers. -/
import Derived.Test.YtognnaobhjaoeaaGreatDoorTgy
import Derived.Test.YtognnaobhjaoeaaGreatDoorVe
import Derived.Test.YtognnaobhjaoeaaGreatDoorVc
import Derived.IntWalk
open Go Go.V Go.Proofs
namespace X
set_option maxRecDepth 100000
set_option maxHeartbeats 4000000
set_option linter.unusedSimpArgs false
set_option linter.unusedVariables false
abbrev I (n : Int) : T := .int .i64 n
abbrev B (b : Bool) : T := .bool b
attribute [simp] cls Go.V.beq_self
@[simp] theorem bytes_nil : V.bytes { data := #[] } = [] := rfl
@[simp] theorem bytes_mk (a : Array UInt8) : V.bytes ⟨a⟩ = a.toList.map UInt8.toNat := rfl
attribute [-simp] lenV idxV
@[simp] theorem lenV_str (σ : Store) (s : List Nat) : lenV σ .str (.t (.str s)) = some (s.length : Int) := rfl
@[simp] theorem lenV_list (σ : Store) (e : TypeId) (r : List T) : lenV σ (.slice e) (.t (.list r)) = some (r.length : Int) := rfl
@[simp] theorem lenV_nils (σ : Store) (e : TypeId) : lenV σ (.slice e) (.t .nils) = some 0 := rfl
@[simp] theorem lenV_sl (σ : Store) (e : TypeId) (a b c n d : Nat) : lenV σ (.slice e) (.sl a b c n d) = some (n : Int) := rfl
@[simp] theorem idxV_list (k : Nat) (rows : List T) (i : Int) : idxV k (.t (.list rows)) i = if 0 ≤ i then (match rows[i.toNat]? with
   | some (.agg cs) => if cs.length = k then some (.t (.snap cs)) else none
   | _ => none) else none := rfl
@[simp] theorem idxV_sl (k loc g off len k' : Nat) (i : Int) : idxV k (.sl loc g off len k') i = if 0 ≤ i ∧ i < len ∧ k' = k then some (.ptr loc g (off + i.toNat * k) k) else none := rfl
theorem LD_inl' {f : FuncId} {A : Ann} (hA : S.ann f = some A) (hp : A.isPure = false) (hq : A.isFresh = false) (args : List V) (σ : Store) : LD S f args σ = LV S f args σ := LD_inl hA hp hq args σ

/-- Slices of numbers, as trees; as cells. -/
def rows1 (l : List Nat) : List T := l.map fun (n : Nat) => .agg [I n]
def ints (l : List Nat) : List V := l.map fun (n : Nat) => V.t (I n)
@[simp] theorem rows1_len (l : List Nat) : (rows1 l).length = l.length := by simp [rows1]
@[simp] theorem ints_len (l : List Nat) : (ints l).length = l.length := by simp [ints]
@[simp] theorem rows1_get (l : List Nat) (i : Nat) : (rows1 l)[i]? = (l[i]?).map fun (n : Nat) => T.agg [I n] := by simp [rows1]
@[simp] theorem ints_get (l : List Nat) (i : Nat) : (ints l)[i]? = (l[i]?).map fun (n : Nat) => V.t (I n) := by simp [ints]
def Is (x : T) (l : List Nat) : Prop := (x = .nils ∧ l = []) ∨ x = .list (rows1 l)
theorem Is.len {x : T} {l : List Nat} (h : Is x l) (σ : Store) (e : TypeId) : lenV σ (.slice e) (.t x) = some (l.length : Int) := by
 rcases h with ⟨rfl, rfl⟩ | rfl
 ·rfl
 ·simp
theorem Is.idx {x : T} {l : List Nat} (h : Is x l) {i n : Nat} (hi : l[i]? = some n) : idxV 1 (.t x) (i : Int) = some (.t (.snap [I n])) := by
 rcases h with ⟨rfl, rfl⟩ | rfl
 ·simp at hi
 ·simp [hi]
theorem get_of_lt {α : Type} {l : List α} {k : Nat} (h : k < l.length) : ∃ y, l[k]? = some y := ⟨l[k], List.getElem?_eq_getElem h⟩
theorem lt_of_get {α : Type} {l : List α} {k : Nat} {y : α} (h : l[k]? = some y) : k < l.length := by
 rcases Nat.lt_or_ge k l.length with h1 | h1
 ·exact h1
 ·rw [List.getElem?_eq_none h1] at h; cases h
theorem cast_lt (a b : Nat) : (((a : Nat) : Int) < (b : Int)) = (a < b) := by simp

/-! ### cmp.Less -/
theorem isNaN_ld (x : Int) (σ : Store) : LD S 161 [.t (I x)] σ = some (.t (B false), σ) := by
 refine LD_pure (A := A161) (v := .t (B false)) (σ0 := []) rfl rfl rfl ?_ rfl σ
 refine LV_body (A := A161) rfl Tryz.func161 rfl ?_
 repeat apply W_seq
 refine W_region (by simp; first | exact ⟨rfl, rfl⟩ | exact rfl) ?_
 try simp only [thenQ, blockQ, Ann.kill, List.find?_nil]
 repeat apply W_seq
 refine W_region (by simp; first | exact ⟨rfl, rfl⟩ | exact rfl) ?_
 try simp only [thenQ, blockQ, Ann.kill, List.find?_nil]
 refine W_ret ?_
 try simp only [thenQ, blockQ]
 simp [Tryz.f161]
theorem isNaN2_ld (x : Int) (σ : Store) : LD S 130 [.t (I x)] σ = some (.t (B false), σ) := by
 refine LD_pure (A := A130) (v := .t (B false)) (σ0 := []) rfl rfl rfl ?_ rfl σ
 refine LV_body (A := A130) rfl Tryz.func130 rfl ?_
 repeat apply W_seq
 refine W_region (by simp; first | exact ⟨rfl, rfl⟩ | exact rfl) ?_
 try simp only [thenQ, blockQ, Ann.kill, List.find?_nil]
 repeat apply W_seq
 refine W_region (by simp; first | exact ⟨rfl, rfl⟩ | exact rfl) ?_
 try simp only [thenQ, blockQ, Ann.kill, List.find?_nil]
 refine W_ret ?_
 try simp only [thenQ, blockQ]
 simp [Tryz.f130]
theorem less_ld (x y : Int) (σ : Store) : LD S 125 [.t (I x), .t (I y)] σ = some (.t (B (decide (x < y))), σ) := by
 refine LD_pure (A := A125) (v := .t (B (decide (x < y)))) (σ0 := []) rfl rfl rfl ?_ rfl σ
 refine LV_body (A := A125) rfl Tryz.func125 rfl ?_
 repeat apply W_seq
 refine W_region (by simp; first | exact ⟨rfl, rfl⟩ | exact rfl) ?_
 try simp only [thenQ, blockQ, Ann.kill, List.find?_nil]
 repeat apply W_seq
 refine W_region (by simp [isNaN_ld]; first | exact ⟨rfl, rfl⟩ | exact rfl) ?_
 try simp only [thenQ, blockQ, Ann.kill, List.find?_nil]
 refine W_ret ?_
 try simp only [thenQ, blockQ]
 simp [Tryz.f125]

/-! ### slices.Index, Contains -/
def ixOf (l : List Nat) (x : Nat) (k : Nat) : Int := if l.contains x then ((k + l.idxOf x : Nat) : Int) else -1
def ixF (x : Nat) : List Nat → Nat → Int
 | [], _ => -1
 | y :: r, k => if x = y then (k : Int) else ixF x r (k + 1)
theorem ixF_neg (x : Nat) : ∀ (l : List Nat) (k : Nat), decide (0 ≤ ixF x l k) = l.contains x
 | [], k => by simp [ixF]
 | y :: r, k => by
  unfold ixF
  by_cases h : x = y
  ·simp [h]
  ·rw [if_neg h, ixF_neg x r (k + 1)]; simp [h]
theorem index_lv {x : T} {l : List Nat} (h : Is x l) (y : Nat) (hl : l.length ≤ 1048576) : LV S 34 [.t x, .t (I y)] [] = some (.t (I (ixF y l 0)), []) := by
 refine LV_body (A := A34) rfl Tryz.func34 rfl ?_
 repeat apply W_seq
 refine W_region (by simp; first | exact ⟨rfl, rfl⟩ | exact rfl) ?_
 try simp only [thenQ, blockQ, Ann.kill, List.find?_nil]
 repeat apply W_seq
 refine W_region (by simp [h.len]; first | exact ⟨rfl, rfl⟩ | exact rfl) ?_
 try simp only [thenQ, blockQ, Ann.kill, List.find?_nil]
 repeat apply W_seq
 refine W_block ?_
 refine W_loop (I := fun m st τ => ∃ k, m = l.length - k ∧ k ≤ l.length ∧ ixF y l 0 = ixF y (l.drop k) k ∧ st.vars = [(0, .t x), (1, .t (I y)), (4, .t (I 0)), (7, .t (I l.length)), (8, .t (I k))] ∧ τ = []) ?_ l.length _ _ ⟨0, rfl, Nat.zero_le _, rfl, by simp, rfl⟩
 rintro m ⟨vars, scr⟩ τ ⟨k, rfl, hk, he, hv, rfl⟩
 simp only at hv
 subst hv
 repeat apply W_seq
 refine W_region (by simp; first | exact ⟨rfl, rfl⟩ | exact rfl) ?_
 try simp only [thenQ, blockQ, Ann.kill, List.find?_nil]
 by_cases c1 : k < l.length
 ·repeat apply W_seq
  refine W_cond (t := true) (by simp [c1]) ?_
  simp only [if_true, if_false, Bool.false_eq_true]
  refine W_skip ?_
  try simp only [thenQ, blockQ, Ann.kill, List.find?_nil]
  repeat apply W_seq
  refine W_block ?_
  obtain ⟨z, hz⟩ := get_of_lt c1
  repeat apply W_seq
  refine W_region (by simp; first | exact ⟨rfl, rfl⟩ | exact rfl) ?_
  try simp only [thenQ, blockQ, Ann.kill, List.find?_nil]
  repeat apply W_seq
  refine W_region (by simp [h.idx hz]; first | exact ⟨rfl, rfl⟩ | exact rfl) ?_
  try simp only [thenQ, blockQ, Ann.kill, List.find?_nil]
  have hd : l.drop k = z :: l.drop (k + 1) := by
   rw [List.drop_eq_getElem_cons c1]
   rw [List.getElem?_eq_getElem c1] at hz
   cases hz; rfl
  rw [hd] at he
  by_cases c2 : y = z
  ·subst c2
   repeat apply W_seq
   refine W_cond (t := true) (by simp) ?_
   simp only [if_true, if_false, Bool.false_eq_true]
   repeat apply W_seq
   refine W_region (by simp; first | exact ⟨rfl, rfl⟩ | exact rfl) ?_
   try simp only [thenQ, blockQ, Ann.kill, List.find?_nil]
   have : ixF y l 0 = k := by rw [he]; simp [ixF]
   rw [this]
   refine W_ret ?_
   try simp only [thenQ, blockQ]
   simp [Tryz.f34]
  ·repeat apply W_seq
   refine W_cond (t := false) (by simp [show ¬ ((y : Int) = (z : Int)) by omega]) ?_
   simp only [if_true, if_false, Bool.false_eq_true]
   refine W_skip ?_
   try simp only [thenQ, blockQ, Ann.kill, List.find?_nil]
   repeat apply W_seq
   refine W_region (by simp [IntWalk.i64_in ((k : Int) + 1) (by omega)]; first | exact ⟨rfl, rfl⟩ | exact rfl) ?_
   try simp only [thenQ, blockQ, Ann.kill, List.find?_nil]
   refine ⟨l.length - (k + 1), by omega, k + 1, rfl, c1, ?_, by simp, by simp⟩
   rw [he]; simp [ixF, c2]
 ·repeat apply W_seq
  refine W_cond (t := false) (by simp [c1]) ?_
  simp only [if_true, if_false, Bool.false_eq_true]
  repeat apply W_seq
  refine W_exit ?_
  try simp only [thenQ, blockQ, if_true, Ann.kill, List.find?_nil]
  have hk2 : k = l.length := by omega
  subst hk2
  have : ixF y l 0 = -1 := by rw [he]; simp [ixF]
  repeat apply W_seq
  refine W_region (by simp; first | exact ⟨rfl, rfl⟩ | exact rfl) ?_
  try simp only [thenQ, blockQ, Ann.kill, List.find?_nil]
  rw [this]
  refine W_ret ?_
  try simp only [thenQ, blockQ]
  simp [Tryz.f34]
theorem index_ld {x : T} {l : List Nat} (h : Is x l) (y : Nat) (hl : l.length ≤ 1048576) (σ : Store) : LD S 34 [.t x, .t (I y)] σ = some (.t (I (ixF y l 0)), σ) :=
 LD_pure (A := A34) (v := .t (I (ixF y l 0))) (σ0 := []) rfl rfl rfl (index_lv h y hl) rfl σ
theorem contains_lv {x : T} {l : List Nat} (h : Is x l) (y : Nat) (hl : l.length ≤ 1048576) : LV S 19 [.t x, .t (I y)] [] = some (.t (B (l.contains y)), []) := by
 refine LV_body (A := A19) rfl Tryz.func19 rfl ?_
 repeat apply W_seq
 refine W_region (by simp; first | exact ⟨rfl, rfl⟩ | exact rfl) ?_
 try simp only [thenQ, blockQ, Ann.kill, List.find?_nil]
 repeat apply W_seq
 refine W_region (by simp [index_ld h y hl, ixF_neg]; first | exact ⟨rfl, rfl⟩ | exact rfl) ?_
 try simp only [thenQ, blockQ, Ann.kill, List.find?_nil]
 refine W_ret ?_
 try simp only [thenQ, blockQ]
 simp [Tryz.f19]

/-! ### copyInts -/
theorem chunk1 : ∀ (l : List Nat), chunk 1 l.length (l.map fun (n : Nat) => I n) = rows1 l
 | [] => rfl
 | n :: r => by
  have := chunk1 r
  simp only [List.length_cons, List.map_cons, chunk, List.take_succ_cons, List.take_zero, List.drop_succ_cons, List.drop_zero, rows1] at this ⊢
  rw [this]
theorem frzN_ints (d : Nat) (σ : Store) : ∀ (l : List Nat), frzs (frzN (d + 1) σ) (ints l) = some (l.map fun (n : Nat) => I n)
 | [] => rfl
 | n :: r => by
  have := frzN_ints d σ r
  simp only [ints, List.map_cons, frzs, frzN, flatT, if_true] at this ⊢
  rw [this]
theorem frz_ints (d : Nat) (σ : Store) : ∀ (l : List Nat), frzs (frz (d + 1) σ) (ints l) = some (l.map fun (n : Nat) => I n)
 | [] => rfl
 | n :: r => by
  have := frz_ints d σ r
  simp only [ints, List.map_cons, frzs, frz] at this ⊢
  rw [this]
theorem rowCells1 : ∀ (l : List Nat), rowCells 1 (rows1 l) = some (ints l)
 | [] => rfl
 | n :: r => by
  have := rowCells1 r
  simp only [rows1, ints, List.map_cons, rowCells] at this ⊢
  rw [this]
  rfl
end X
