/- A part of the proof. No statement of the claim is in it. -/
import Derived.Test.YtbdadoeankjnkaaGreatDoorTry
import Derived.Test.YtbdadoeankjnkaaGreatDoorVc
import Derived.IntWalk
set_option maxRecDepth 100000
set_option maxHeartbeats 4000000
set_option linter.all false
open Go Go.V Go.Proofs
/- The reference's engine (spec RunGoal): contracts of the helpers. -/
namespace X
abbrev I (n : Int) : T := .int .i64 n
abbrev B (b : Bool) : T := .bool b
attribute [simp] cls Go.V.beq_self
@[simp] theorem bytes_nil : V.bytes { data := #[] } = [] := rfl
@[simp] theorem bytes_mk (a : Array UInt8) : V.bytes ⟨a⟩ = a.toList.map UInt8.toNat := rfl
attribute [-simp] lenV idxV getElem?_pos
attribute [simp] List.getElem?_cons_zero List.getElem?_cons_succ
@[simp] theorem lenV_str (σ : Store) (s : List Nat) : lenV σ .str (.t (.str s)) = some (s.length : Int) := rfl
@[simp] theorem lenV_list (σ : Store) (e : TypeId) (r : List T) : lenV σ (.slice e) (.t (.list r)) = some (r.length : Int) := rfl
@[simp] theorem lenV_nils (σ : Store) (e : TypeId) : lenV σ (.slice e) (.t .nils) = some 0 := rfl
@[simp] theorem lenV_sl (σ : Store) (e : TypeId) (a b c n d : Nat) : lenV σ (.slice e) (.sl a b c n d) = some (n : Int) := rfl
@[simp] theorem idxV_list (k : Nat) (rows : List T) (i : Int) : idxV k (.t (.list rows)) i = if 0 ≤ i then (match rows[i.toNat]? with
  | some (.agg cs) => if cs.length = k then some (.t (.snap cs)) else none
  | _ => none) else none := rfl
@[simp] theorem idxV_sl (k loc g off len k' : Nat) (i : Int) : idxV k (.sl loc g off len k') i = if 0 ≤ i ∧ i < len ∧ k' = k then some (.ptr loc g (off + i.toNat * k) k) else none := rfl

/-- Slices of numbers, as trees; as cells. -/
def qax (l : List Nat) : List T := l.map fun (n : Nat) => .agg [I n]
def ints (l : List Nat) : List V := l.map fun (n : Nat) => V.t (I n)
@[simp] theorem rows1_len (l : List Nat) : (qax l).length = l.length := by simp [qax]
@[simp] theorem ints_len (l : List Nat) : (ints l).length = l.length := by simp [ints]
@[simp] theorem rows1_get (l : List Nat) (i : Nat) : (qax l)[i]? = (l[i]?).map fun (n : Nat) => T.agg [I n] := by simp [qax]
@[simp] theorem ints_get (l : List Nat) (i : Nat) : (ints l)[i]? = (l[i]?).map fun (n : Nat) => V.t (I n) := by simp [ints]
def Is (x : T) (l : List Nat) : Prop := (x = .nils ∧ l = []) ∨ x = .list (qax l)
theorem Is.len {x : T} {l : List Nat} (h : Is x l) (σ : Store) (e : TypeId) : lenV σ (.slice e) (.t x) = some (l.length : Int) := by
 rcases h with ⟨rfl, rfl⟩ | rfl
 ·rfl
 ·simp
theorem Is.idx {x : T} {l : List Nat} (h : Is x l) {i n : Nat} (hi : l[i]? = some n) : idxV 1 (.t x) (i : Int) = some (.t (.snap [I n])) := by
 rcases h with ⟨rfl, rfl⟩ | rfl
 ·simp at hi
 ·simp [hi]
theorem get_of_lt {α : Type} {l : List α} {k : Nat} (h : k < l.length) : ∃ y, l[k]? = some y := ⟨l[k], List.getElem?_eq_getElem h⟩
theorem lt_of_get {α : Type} {l : List α} {k : Nat} {y : α} (h : l[k]? = some y) : k < l.length := by
 rcases Nat.lt_or_ge k l.length with h1 | h1
 ·exact h1
 ·rw [List.getElem?_eq_none h1] at h; cases h
theorem qak {α : Type} {l : List α} {k : Nat} {y : α} (h : l[k]? = some y) : l.drop k = y :: l.drop (k + 1) := by
 have hk := lt_of_get h
 rw [List.drop_eq_getElem_cons hk]
 rw [List.getElem?_eq_getElem hk] at h
 cases h; rfl
theorem q2c : ∀ (l : List Nat), chunk 1 l.length (l.map fun (n : Nat) => I n) = qax l
 | [] => rfl
 | n :: r => by
  have := q2c r
  simp only [List.length_cons, List.map_cons, chunk, List.take_succ_cons, List.take_zero, List.drop_succ_cons, List.drop_zero, qax] at this ⊢
  rw [this]
theorem qxe (d : Nat) (σ : Store) : ∀ (l : List Nat), frzs (frz (d + 1) σ) (ints l) = some (l.map fun (n : Nat) => I n)
 | [] => rfl
 | n :: r => by
  have := qxe d σ r
  simp only [ints, List.map_cons, frzs, frz] at this ⊢
  rw [this]
theorem qmx : ∀ (l : List Nat), qag 1 (qax l) = some (ints l)
 | [] => rfl
 | n :: r => by
  have := qmx r
  simp only [qax, ints, List.map_cons, qag] at this ⊢
  rw [this]
  rfl
/-- A value that reads as a list of numbers. -/
def Rd (σ : Store) (v : V) (l : List Nat) : Prop := (v = .t .nils ∧ l = []) ∨ v = .t (.list (qax l)) ∨ ∃ d g w, v = .sl d g 0 l.length 1 ∧ σ[d]? = some (.cells (ints l) g w) ∧ w ≤ g
theorem Rd.len {σ : Store} {v : V} {l : List Nat} (h : Rd σ v l) (e : TypeId) : lenV σ (.slice e) v = some (l.length : Int) := by
 rcases h with ⟨rfl, rfl⟩ | rfl | ⟨d, g, w, rfl, _, _⟩ <;> simp
theorem qrt (l : List Nat) : ((ints l).drop 0).take (l.length * 1) = ints l := by
 rw [Nat.mul_one, List.drop_zero, List.take_of_length_le (by simp)]
theorem qhe (n : Nat) {σ : Store} {d g w : Nat} {l : List Nat} (h1 : σ[d]? = some (.cells (ints l) g w)) (h2 : w ≤ g) : frz (n + 2) σ (.sl d g 0 l.length 1) = some (.list (qax l)) := by
 have := qkg (d := n + 1) h1 h2 (Nat.le_refl _) Nat.one_pos (off := 0) (len := l.length) (by simp) (ts := l.map fun (n : Nat) => I n) (by rw [qrt]; exact qxe n σ l)
 rw [q2c] at this
 exact this
theorem qfm (n : Nat) {σ : Store} {v : V} {l : List Nat} (h : Rd σ v l) : ∃ x, frz (n + 2) σ v = some x ∧ Is x l := by
 rcases h with ⟨rfl, rfl⟩ | rfl | ⟨d, g, w, rfl, h1, h2⟩
 ·exact ⟨.nils, rfl, .inl ⟨rfl, rfl⟩⟩
 ·exact ⟨_, rfl, .inr rfl⟩
 ·exact ⟨_, qhe n h1 h2, .inr rfl⟩

/-! ### l01In, l07In, l07SameInts -/
def inF (n low high : Int) : Bool := decide (low ≤ n) && decide (n ≤ high)
theorem qqo (n low high : Int) (σ : Store) : LD S 30 [.t (I n), .t (I low), .t (I high)] σ = some (.t (B (inF n low high)), σ) := by
 suffices h : LV S 30 [.t (I n), .t (I low), .t (I high)] [] = some (.t (B (inF n low high)), []) from qaj (A := A30) (v := .t (B (inF n low high))) rfl rfl rfl h rfl σ
 refine qas (A := A30) rfl Tryz.func30 rfl ?_
 refine wR rfl (by simp [A30]; rfl) ?_
 by_cases h : low ≤ n
 ·refine wR rfl (by simp [h, A30]; rfl) ?_
  refine wX ?_
  try simp only [tq]
  simp [Tryz.f30, inF, h]
 ·refine wR rfl (by simp [h, A30]; rfl) ?_
  refine wX ?_
  try simp only [tq]
  simp [Tryz.f30, inF, h]

theorem inL_lv {x : T} {l : List Nat} (h : Is x l) (y : Nat) (hl : l.length ≤ 1048576) : LV S 52 [.t x, .t (I y)] [] = some (.t (B (l.contains y)), []) := by
 refine qas (A := A52) rfl Tryz.func52 rfl ?_
 refine wR rfl (by simp; rfl) ?_
 refine wR rfl (by simp; rfl) ?_
 refine wB rfl ?_
 try simp only [tq]
 refine qat (I := fun m st τ => ∃ k, m = l.length - k ∧ k ≤ l.length ∧ l.contains y = (l.drop k).contains y ∧ st.vars = [(0, .t x), (1, .t (I y)), (4, .t (B false)), (5, .t (I k))] ∧ τ = []) ?_ l.length _ _ ⟨0, rfl, Nat.zero_le _, rfl, by simp, rfl⟩
 rintro m ⟨vars, scr⟩ τ ⟨k, rfl, hk, he, hv, rfl⟩
 simp only at hv
 subst hv
 refine wR rfl (by simp [h.len]; rfl) ?_
 by_cases c1 : k < l.length
 ·refine wT rfl (by simp [c1]) ?_
  refine wK ?_
  refine wB rfl ?_
  obtain ⟨z, hz⟩ := get_of_lt c1
  refine wR rfl (by simp [h.idx hz]; rfl) ?_
  rw [qak hz] at he
  by_cases c2 : y = z
  ·subst c2
   refine wT rfl (by simp) ?_
   refine wR rfl (by simp; rfl) ?_
   try simp only [tq]
   have : l.contains y = true := by rw [he]; simp
   rw [this]
   refine wX ?_
   try simp only [tq]
   simp [Tryz.f52]
  ·refine wF rfl (by simp [show ¬ ((z : Int) = (y : Int)) by omega]) ?_
   refine wK ?_
   refine wR rfl (by simp [IntWalk.i64_in ((k : Int) + 1) (by omega)]; rfl) ?_
   try simp only [tq]
   refine ⟨l.length - (k + 1), by omega, k + 1, rfl, c1, ?_, by simp, by simp⟩
   rw [he]; simp [c2]
 ·refine wF rfl (by simp [c1]) ?_
  repeat apply qaw
  refine qal ?_
  try simp only [tq, if_true]
  have hk2 : k = l.length := by omega
  subst hk2
  have : l.contains y = false := by rw [he]; simp
  refine wR rfl (by simp; rfl) ?_
  try simp only [tq]
  rw [this]
  refine wX ?_
  try simp only [tq]
  simp [Tryz.f52]
theorem inL_ld {σ : Store} {v : V} {l : List Nat} (h : Rd σ v l) (y : Nat) (hl : l.length ≤ 1048576) : LD S 52 [v, .t (I y)] σ = some (.t (B (l.contains y)), σ) := by
 obtain ⟨x, h1, h2⟩ := qfm 38 h
 exact qck (A := A52) rfl rfl (ts := [x, I y]) (by simp only [frzs, h1]; rfl) (inL_lv h2 y hl) rfl

theorem qkz {α : Type} {a b : List α} {k : Nat} {y : α} (h : a.take k = b.take k) (h1 : a[k]? = some y) (h2 : b[k]? = some y) : a.take (k + 1) = b.take (k + 1) := by
 rw [List.take_add_one, List.take_add_one, h, h1, h2]
theorem eq_lv {x y : T} {a b : List Nat} (hx : Is x a) (hy : Is y b) (hl : a.length ≤ 1048576) : LV S 82 [.t x, .t y] [] = some (.t (B (decide (a = b))), []) := by
 refine qas (A := A82) rfl Tryz.func82 rfl ?_
 refine wR rfl (by simp; rfl) ?_
 by_cases c0 : a.length = b.length
 ·refine wR rfl (by simp [hx.len, hy.len]; rfl) ?_
  refine wF rfl (by simp [c0]) ?_
  refine wK ?_
  refine wR rfl (by simp; rfl) ?_
  refine wB rfl ?_
  try simp only [tq]
  refine qat (I := fun m st τ => ∃ k, m = a.length - k ∧ k ≤ a.length ∧ a.take k = b.take k ∧ st.vars = [(0, .t x), (1, .t y), (4, .t (B false)), (5, .t (I k))] ∧ τ = []) ?_ a.length _ _ ⟨0, rfl, Nat.zero_le _, rfl, by simp, rfl⟩
  rintro m ⟨vars, scr⟩ τ ⟨k, rfl, hk, he, hv, rfl⟩
  simp only at hv
  subst hv
  refine wR rfl (by simp [hx.len]; rfl) ?_
  by_cases c1 : k < a.length
  ·refine wT rfl (by simp [c1]) ?_
   refine wK ?_
   refine wB rfl ?_
   obtain ⟨p, hp⟩ := get_of_lt c1
   obtain ⟨q, hq⟩ := get_of_lt (show k < b.length by omega)
   have h1 := hx.idx hp
   have h2 := hy.idx hq
   refine wR rfl (by simp [h1, h2]; rfl) ?_
   by_cases c2 : p = q
   ·subst c2
    refine wF rfl (by simp) ?_
    refine wK ?_
    refine wR rfl (by simp [IntWalk.i64_in ((k : Int) + 1) (by omega)]; rfl) ?_
    try simp only [tq]
    exact ⟨a.length - (k + 1), by omega, k + 1, rfl, c1, qkz he hp hq, by simp, by simp⟩
   ·refine wT rfl (by simp [show ¬ ((p : Int) = (q : Int)) by omega]) ?_
    refine wR rfl (by simp; rfl) ?_
    have : ¬ a = b := fun e => by subst e; rw [hp] at hq; cases hq; exact c2 rfl
    refine wX ?_
    try simp only [tq]
    simp [Tryz.f82, this]
  ·refine wF rfl (by simp [c1]) ?_
   repeat apply qaw
   refine qal ?_
   try simp only [tq, if_true]
   have hk2 : k = a.length := by omega
   have : a = b := by
    rw [hk2, List.take_length, c0, List.take_length] at he; exact he
   refine wR rfl (by simp; rfl) ?_
   refine wX ?_
   try simp only [tq]
   simp [Tryz.f82, this]
 ·refine wR rfl (by simp [hx.len, hy.len]; rfl) ?_
  refine wT rfl (by simp [show ¬ ((a.length : Int) = (b.length : Int)) by omega]) ?_
  refine wR rfl (by simp; rfl) ?_
  have : ¬ a = b := fun e => c0 (congrArg List.length e)
  refine wX ?_
  try simp only [tq]
  simp [Tryz.f82, this]
theorem eq_ld {x y : T} {a b : List Nat} (hx : Is x a) (hy : Is y b) (hl : a.length ≤ 1048576) (σ : Store) : LD S 82 [.t x, .t y] σ = some (.t (B (decide (a = b))), σ) :=
 qaj (A := A82) (v := .t (B (decide (a = b)))) (σ0 := []) rfl rfl rfl (eq_lv hx hy hl) rfl σ
end X
namespace X
/-! ### What is known at a place -/
abbrev Env := List (List Nat × Int)
def rowE (p : List Nat × Int) : T := .agg [.str p.1, I p.2]
def qqi (e : Env) : List T := e.map rowE
def envT (e : Env) : T := .list (qqi e)
@[simp] theorem rowsE_len (e : Env) : (qqi e).length = e.length := by simp [qqi]
@[simp] theorem rowsE_get (e : Env) (i : Nat) : (qqi e)[i]? = (e[i]?).map rowE := by simp [qqi]
theorem eqL_eq (a b : List Nat) : eqL a b = decide (a = b) := by
 cases h : eqL a b with
 | true => simp [qgr h]
 | false =>
  have : ¬ a = b := fun e => by
   subst e
   have : ∀ l, eqL l l = true := fun l => by
    induction l with
    | nil => rfl
    | cons x l ih => simp only [eqL, Nat.beq_refl, ih]; rfl
   rw [this] at h; cases h
  simp [this]
theorem eqVar (p q : List Nat × Int) : eqOp S.ty 129 (.t (rowE p)) (.t (rowE q)) = some (decide (p = q)) := by
 obtain ⟨a, m⟩ := p
 obtain ⟨b, n⟩ := q
 have e3 : qex (.int .i64) (.int .i64 m) (.int .i64 n) = some (decide (m = n)) := by simp only [qex, if_true]; rfl
 have e4 : qex .str (.str a) (.str b) = some (decide (a = b)) := by simp only [qex, eqL_eq]
 simp [eqOp, eqFields, rowE, e3, e4]
 by_cases h1 : a = b <;> by_cases h2 : m = n <;> simp [h1, h2]
theorem qym (a b : Env) (hl : a.length ≤ 1048576) : LV S 134 [.t (envT a), .t (envT b)] [] = some (.t (B (decide (a = b))), []) := by
 refine qas (A := A134) rfl Tryz.func134 rfl ?_
 refine wR rfl (by simp; rfl) ?_
 by_cases c0 : a.length = b.length
 ·refine wR rfl (by simp [envT]; rfl) ?_
  refine wF rfl (by simp [c0]) ?_
  refine wK ?_
  refine wR rfl (by simp; rfl) ?_
  refine wB rfl ?_
  try simp only [tq]
  refine qat (I := fun m st τ => ∃ k, m = a.length - k ∧ k ≤ a.length ∧ a.take k = b.take k ∧ st.vars = [(0, .t (envT a)), (1, .t (envT b)), (4, .t (B false)), (5, .t (I k))] ∧ τ = []) ?_ a.length _ _ ⟨0, rfl, Nat.zero_le _, rfl, by simp [envT], rfl⟩
  rintro m ⟨vars, scr⟩ τ ⟨k, rfl, hk, he, hv, rfl⟩
  simp only at hv
  subst hv
  refine wR rfl (by simp [envT]; rfl) ?_
  by_cases c1 : k < a.length
  ·refine wT rfl (by simp [c1]) ?_
   refine wK ?_
   refine wB rfl ?_
   obtain ⟨p, hp⟩ := get_of_lt c1
   obtain ⟨q, hq⟩ := get_of_lt (show k < b.length by omega)
   have he' := eqVar p q
   simp only [rowE] at he'
   refine wR rfl (by simp [envT, hp, hq, rowE, he']; rfl) ?_
   by_cases c2 : p = q
   ·subst c2
    refine wF rfl (by simp) ?_
    refine wK ?_
    refine wR rfl (by simp [IntWalk.i64_in ((k : Int) + 1) (by omega)]; rfl) ?_
    try simp only [tq]
    exact ⟨a.length - (k + 1), by omega, k + 1, rfl, c1, qkz he hp hq, by simp [envT], by simp⟩
   ·refine wT rfl (by simp [c2]) ?_
    refine wR rfl (by simp; rfl) ?_
    have : ¬ a = b := fun e => by subst e; rw [hp] at hq; cases hq; exact c2 rfl
    refine wX ?_
    try simp only [tq]
    simp [Tryz.f134, this]
  ·refine wF rfl (by simp [c1]) ?_
   repeat apply qaw
   refine qal ?_
   try simp only [tq, if_true]
   have hk2 : k = a.length := by omega
   have : a = b := by
    rw [hk2, List.take_length, c0, List.take_length] at he; exact he
   refine wR rfl (by simp; rfl) ?_
   refine wX ?_
   try simp only [tq]
   simp [Tryz.f134, this]
 ·refine wR rfl (by simp [envT]; rfl) ?_
  refine wT rfl (by simp [show ¬ ((a.length : Int) = (b.length : Int)) by omega]) ?_
  refine wR rfl (by simp; rfl) ?_
  have : ¬ a = b := fun e => c0 (congrArg List.length e)
  refine wX ?_
  try simp only [tq]
  simp [Tryz.f134, this]
theorem qzg (a b : Env) (hl : a.length ≤ 1048576) (σ : Store) : LD S 134 [.t (envT a), .t (envT b)] σ = some (.t (B (decide (a = b))), σ) :=
 qaj (A := A134) (v := .t (B (decide (a = b)))) (σ0 := []) rfl rfl rfl (qym a b hl) rfl σ

/-! ### Places, and what is known there -/
abbrev At := Nat × Env
def qcr : List At → List V
 | [] => []
 | a :: r => .t (I a.1) :: .t (envT a.2) :: qcr r
theorem qgq : ∀ (l : List At), (qcr l).length = l.length * 2
 | [] => rfl
 | a :: r => by simp only [qcr, List.length_cons, qgq r]; omega
theorem qnv : ∀ (l r : List At), qcr (l ++ r) = qcr l ++ qcr r
 | [], r => rfl
 | a :: l, r => by simp only [List.cons_append, qcr, qnv l r]
theorem qgo : ∀ {l : List At} {i : Nat} {a : At}, l[i]? = some a → (qcr l)[i * 2]? = some (.t (I a.1)) ∧ (qcr l)[i * 2 + 1]? = some (.t (envT a.2))
 | b :: l, 0, a, h => by
  simp only [List.getElem?_cons_zero, Option.some.injEq] at h
  subst h
  exact ⟨rfl, rfl⟩
 | b :: l, i + 1, a, h => by
  simp only [List.getElem?_cons_succ] at h
  obtain ⟨e1, e2⟩ := qgo h
  have a1 : (i + 1) * 2 = i * 2 + 1 + 1 := by omega
  rw [a1]
  exact ⟨by simpa [qcr] using e1, by simpa [qcr] using e2⟩
 | [], _, _, h => by simp at h
def q4b (l : List At) : List T := l.map fun a => .agg [I a.1, envT a.2]
@[simp] theorem rowsA_len (l : List At) : (q4b l).length = l.length := by simp [q4b]
@[simp] theorem rowsA_get (l : List At) (i : Nat) : (q4b l)[i]? = (l[i]?).map fun a => T.agg [I a.1, envT a.2] := by simp [q4b]
/-- A value that reads as a list of places. -/
def RdA (σ : Store) (v : V) (l : List At) : Prop := v = .t (.list (q4b l)) ∨ ∃ d g w, v = .sl d g 0 l.length 2 ∧ σ[d]? = some (.cells (qcr l) g w) ∧ w ≤ g
theorem RdA.len {σ : Store} {v : V} {l : List At} (h : RdA σ v l) (e : TypeId) : lenV σ (.slice e) v = some (l.length : Int) := by
 rcases h with rfl | ⟨d, g, w, rfl, _, _⟩ <;> simp
def putS (l : List At) (x : At) : List At := if l.contains x then l else l ++ [x]
end X
namespace X
attribute [-simp] lenV idxV getElem?_pos
/-! ### The chart, as numbers and as it lies -/
/-- A goal. -/
structure Gl where
 rule : Nat
 args : List Nat
 from_ : Nat
 ends : List Nat
 ranks : List Nat
 deriving Inhabited
structure Rs where
 goals : List Gl
 rank : Nat
 fresh : Bool
 full : Bool
abbrev V3 := V × V × V
def qam : List Gl → List V3 → List V
 | g :: gs, p :: vs => [.t (I g.rule), p.1, .t (I g.from_), p.2.1, p.2.2] ++ qam gs vs
 | _, _ => []
theorem qbg : ∀ (gs : List Gl) (vs : List V3), vs.length = gs.length → (qam gs vs).length = gs.length * 5
 | [], [], _ => rfl
 | g :: gs, p :: vs, h => by
  simp only [List.length_cons, Nat.add_right_cancel_iff] at h
  simp only [qam, List.length_append, List.length_cons, List.length_nil, qbg gs vs h]
  omega
theorem qes : ∀ (gs : List Gl) (vs : List V3) (gs2 : List Gl) (vs2 : List V3), vs.length = gs.length → qam (gs ++ gs2) (vs ++ vs2) = qam gs vs ++ qam gs2 vs2
 | [], [], _, _, _ => rfl
 | g :: gs, p :: vs, gs2, vs2, h => by
  simp only [List.length_cons, Nat.add_right_cancel_iff] at h
  simp only [qam, List.cons_append, qes gs vs gs2 vs2 h, List.append_assoc, List.nil_append]
theorem qcg : ∀ {gs : List Gl} {vs : List V3} {i : Nat} {g : Gl} {p : V3}, gs[i]? = some g → vs[i]? = some p → (qam gs vs)[i * 5]? = some (.t (I g.rule)) ∧ (qam gs vs)[i * 5 + 1]? = some p.1 ∧ (qam gs vs)[i * 5 + 2]? = some (.t (I g.from_)) ∧ (qam gs vs)[i * 5 + 3]? = some p.2.1 ∧ (qam gs vs)[i * 5 + 4]? = some p.2.2
 | g :: gs, p :: vs, 0, g', p', h1, h2 => by
  simp only [List.getElem?_cons_zero, Option.some.injEq] at h1 h2
  subst h1 h2
  exact ⟨rfl, rfl, rfl, rfl, rfl⟩
 | g :: gs, p :: vs, i + 1, g', p', h1, h2 => by
  simp only [List.getElem?_cons_succ] at h1 h2
  obtain ⟨e1, e2, e3, e4, e5⟩ := qcg (gs := gs) (vs := vs) (i := i) h1 h2
  have a (k : Nat) : (i + 1) * 5 + k = (i * 5 + k) + 5 := by omega
  have a3 : (i + 1) * 5 = i * 5 + 5 := by omega
  rw [a, a, a, a, a3]
  refine ⟨?_, ?_, ?_, ?_, ?_⟩
  ·simpa [qam] using e1
  ·simpa [qam] using e2
  ·simpa [qam] using e3
  ·simpa [qam] using e4
  ·simpa [qam] using e5
 | [], _, _, _, _, h1, _ => by simp at h1
 | _ :: _, [], _, _, _, _, h2 => by simp at h2
theorem qey : ∀ {gs : List Gl} {vs : List V3} {i : Nat} {g g' : Gl} {p q : V3}, gs[i]? = some g → vs[i]? = some p → g'.rule = g.rule → q.1 = p.1 → g'.from_ = g.from_ → qam (gs.set i g') (vs.set i q) = ((qam gs vs).set (i * 5 + 3) q.2.1).set (i * 5 + 4) q.2.2
 | g :: gs, p :: vs, 0, _, g', _, q, h1, h2, e1, e2, e3 => by
  simp only [List.getElem?_cons_zero, Option.some.injEq] at h1 h2
  subst h1 h2
  simp only [List.set_cons_zero, qam, e1, e2, e3]
  rfl
 | g :: gs, p :: vs, i + 1, g0, g', p0, q, h1, h2, e1, e2, e3 => by
  simp only [List.getElem?_cons_succ] at h1 h2
  have a (k : Nat) : (i + 1) * 5 + k = (i * 5 + k) + 1 + 1 + 1 + 1 + 1 := by omega
  rw [a, a]
  simp only [List.set_cons_succ, qam, qey h1 h2 e1 e2 e3, List.cons_append, List.nil_append]
 | [], _, _, _, _, _, _, h1, _, _, _, _ => by simp at h1
 | _ :: _, [], _, _, _, _, _, _, h2, _, _, _ => by simp at h2
def locV : V → List Nat
 | .sl d _ _ _ _ => [d]
 | _ => []
def qbc (vs : List V3) : List Nat := vs.flatMap fun p => locV p.1 ++ (locV p.2.1 ++ locV p.2.2)
/-- the goals' args, ends and ranks lie where they say -/
def RdP (σ : Store) (gs : List Gl) (vs : List V3) : Prop := vs.length = gs.length ∧ ∀ (i : Nat) (g : Gl) (p : V3), gs[i]? = some g → vs[i]? = some p → Rd σ p.1 g.args ∧ Rd σ p.2.1 g.ends ∧ Rd σ p.2.2 g.ranks
def qbr (rules : T) (text : List Nat) (gv : V) (s : Rs) : V.Obj := .cells [.t rules, .t (.str text), gv, .t (I s.rank), .t (B s.fresh), .t (B s.full)] 0 0
def OkG (gs : List Gl) : Prop := ∀ g ∈ gs, g.args.length ≤ 1048576
structure Rep (rules : T) (text : List Nat) (r gl : Nat) (σ : Store) (vs : List V3) (s : Rs) : Prop where
 run : ∃ gg gw, gw ≤ gg ∧ σ[r]? = some (qbr rules text (.sl gl gg 0 s.goals.length 5) s) ∧ σ[gl]? = some (.cells (qam s.goals vs) gg gw)
 rd : RdP σ s.goals vs
 ne : r ≠ gl
 apart : ∀ j ∈ qbc vs, j ≠ r ∧ j ≠ gl
 args : OkG s.goals

/-- What is not among some places is as it was. -/
def Fr (own : List Nat) (σ σ' : Store) : Prop := σ.length ≤ σ'.length ∧ ∀ i, i < σ.length → i ∉ own → σ'[i]? = σ[i]?
theorem Fr.refl (own : List Nat) (σ : Store) : Fr own σ σ := ⟨Nat.le_refl _, fun _ _ _ => rfl⟩
theorem Fr.trans {own own2 : List Nat} {σ σ1 σ2 : Store} (h1 : Fr own σ σ1) (h2 : Fr own2 σ1 σ2) (ho : ∀ i ∈ own2, i ∈ own ∨ σ.length ≤ i) : Fr own σ σ2 := by
 refine ⟨Nat.le_trans h1.1 h2.1, fun i hi hn => ?_⟩
 rw [h2.2 i (by have := h1.1; omega) (fun hm => (ho i hm).elim hn (fun h => by omega)), h1.2 i hi hn]
theorem Fr.app (own : List Nat) (σ l : Store) : Fr own σ (σ ++ l) := ⟨by simp, fun i hi _ => List.getElem?_append_left hi⟩
theorem Rd.keep {σ σ' : Store} {v : V} {l : List Nat} (h : Rd σ v l) (hk : ∀ i ∈ locV v, σ'[i]? = σ[i]?) : Rd σ' v l := by
 rcases h with h | h | ⟨d, g, w, rfl, h1, h2⟩
 ·exact .inl h
 ·exact .inr (.inl h)
 ·exact .inr (.inr ⟨d, g, w, rfl, by rw [hk d (by simp [locV])]; exact h1, h2⟩)
theorem Rd.locs {σ : Store} {v : V} {l : List Nat} (h : Rd σ v l) : ∀ i ∈ locV v, i < σ.length := by
 rcases h with ⟨rfl, _⟩ | rfl | ⟨d, g, w, rfl, h1, h2⟩
 ·intro i hi; simp [locV] at hi
 ·intro i hi; simp [locV] at hi
 ·intro i hi
  simp only [locV, List.mem_singleton] at hi
  subst hi
  exact lt_of_get h1
theorem qbl {vs : List V3} {i : Nat} {p : V3} (h : vs[i]? = some p) : ∀ j, j ∈ locV p.1 ∨ j ∈ locV p.2.1 ∨ j ∈ locV p.2.2 → j ∈ qbc vs := by
 have hm := List.mem_of_getElem? h
 intro j hj
 refine List.mem_flatMap.2 ⟨p, hm, ?_⟩
 simp only [List.mem_append]
 exact hj
theorem RdP.locs {σ : Store} {gs : List Gl} {vs : List V3} (h : RdP σ gs vs) : ∀ j ∈ qbc vs, j < σ.length := by
 intro j hj
 obtain ⟨p, hp, hj⟩ := List.mem_flatMap.1 hj
 obtain ⟨i, hi⟩ := List.getElem?_of_mem hp
 obtain ⟨g, hg⟩ := get_of_lt (show i < gs.length by rw [← h.1]; exact lt_of_get hi)
 obtain ⟨h1, h2, h3⟩ := h.2 i g p hg hi
 simp only [List.mem_append] at hj
 rcases hj with hj | hj | hj
 ·exact h1.locs j hj
 ·exact h2.locs j hj
 ·exact h3.locs j hj
theorem RdP.keep {σ σ' : Store} {gs : List Gl} {vs : List V3} (h : RdP σ gs vs) (hk : ∀ j ∈ qbc vs, σ'[j]? = σ[j]?) : RdP σ' gs vs :=
 ⟨h.1, fun i g p hg hp => ⟨(h.2 i g p hg hp).1.keep fun j hj => hk j (qbl hp j (.inl hj)), (h.2 i g p hg hp).2.1.keep fun j hj => hk j (qbl hp j (.inr (.inl hj))), (h.2 i g p hg hp).2.2.keep fun j hj => hk j (qbl hp j (.inr (.inr hj)))⟩⟩
theorem Rep.lt {rules : T} {text : List Nat} {r gl : Nat} {σ : Store} {vs : List V3} {s : Rs} (R : Rep rules text r gl σ vs s) : r < σ.length ∧ gl < σ.length := by
 obtain ⟨gg, gw, _, h1, h2⟩ := R.run
 exact ⟨lt_of_get h1, lt_of_get h2⟩
/-- all else as it was: it lies as it lay -/
theorem Rep.fr {rules : T} {text : List Nat} {r gl : Nat} {σ σ' : Store} {vs : List V3} {s : Rs} (R : Rep rules text r gl σ vs s) (hf : ∀ i, i < σ.length → σ'[i]? = σ[i]?) : Rep rules text r gl σ' vs s := by
 obtain ⟨gg, gw, h0, h1, h2⟩ := R.run
 exact ⟨⟨gg, gw, h0, by rw [hf r (lt_of_get h1)]; exact h1, by rw [hf gl (lt_of_get h2)]; exact h2⟩, R.rd.keep fun j hj => hf j (R.rd.locs j hj), R.ne, R.apart, R.args⟩

theorem Rep.fr1 {rules : T} {text : List Nat} {r gl d : Nat} {σ σ' : Store} {vs : List V3} {s : Rs} (R : Rep rules text r gl σ vs s) (hf : ∀ i, i < σ.length → i ≠ d → σ'[i]? = σ[i]?) (h1 : r ≠ d) (h2 : gl ≠ d) (h3 : d ∉ qbc vs) : Rep rules text r gl σ' vs s := by
 obtain ⟨gg, gw, h0, h4, h5⟩ := R.run
 exact ⟨⟨gg, gw, h0, by rw [hf r (lt_of_get h4) h1]; exact h4, by rw [hf gl (lt_of_get h5) h2]; exact h5⟩, R.rd.keep fun j hj => hf j (R.rd.locs j hj) (fun e => h3 (e ▸ hj)), R.ne, R.apart, R.args⟩

/-! ### The chart, frozen -/
def rowT (g : Gl) (x e k : T) : T := .agg [I g.rule, x, I g.from_, e, k]
/-- The rows of a chart, as trees. -/
def qks (gs : List Gl) (rows : List T) : Prop := rows.length = gs.length ∧ ∀ (i : Nat) (g : Gl), gs[i]? = some g → ∃ x e k, rows[i]? = some (rowT g x e k) ∧ Is x g.args ∧ Is e g.ends ∧ Is k g.ranks
theorem qdw (n : Nat) {σ : Store} : ∀ (gs : List Gl) (vs : List V3), RdP σ gs vs → ∃ ts, frzs (frz (n + 2) σ) (qam gs vs) = some ts ∧ qks gs (chunk 5 gs.length ts)
 | [], [], _ => ⟨[], rfl, rfl, fun i g h => by simp at h⟩
 | g :: gs, [], h => by have := h.1; simp at this
 | [], p :: vs, h => by have := h.1; simp at this
 | g :: gs, p :: vs, h => by
  obtain ⟨e0, e1, e2⟩ := h.2 0 g p rfl rfl
  obtain ⟨a, ha, ia⟩ := qfm n e0
  obtain ⟨x, hx, ix⟩ := qfm n e1
  obtain ⟨y, hy, iy⟩ := qfm n e2
  have h' : RdP σ gs vs := ⟨by have := h.1; simpa using this, fun i g p hg hp => h.2 (i + 1) g p (by simpa using hg) (by simpa using hp)⟩
  obtain ⟨ts, h1, h2, h3⟩ := qdw n gs vs h'
  refine ⟨I g.rule :: a :: I g.from_ :: x :: y :: ts, ?_, ?_, ?_⟩
  ·have t1 : ∀ z : T, frz (n + 2) σ (.t z) = some z := fun z => rfl
   simp only [qam, List.cons_append, List.nil_append, frzs, t1, ha, hx, hy, h1]
  ·simp only [List.length_cons, chunk, List.take_succ_cons, List.take_zero, List.drop_succ_cons, List.drop_zero, h2]
  ·intro i g' hg'
   simp only [List.length_cons, chunk, List.take_succ_cons, List.take_zero, List.drop_succ_cons, List.drop_zero]
   cases i with
   | zero =>
    simp only [List.getElem?_cons_zero, Option.some.injEq] at hg'
    subst hg'
    exact ⟨a, x, y, rfl, ia, ix, iy⟩
   | succ i =>
    simp only [List.getElem?_cons_succ] at hg' ⊢
    exact h3 i g' hg'
theorem qlr {σ : Store} {gl : Nat} {vs : List V3} {gs : List Gl} {gg gw : Nat} (hR : RdP σ gs vs) (h : σ[gl]? = some (.cells (qam gs vs) gg gw)) (hw : gw ≤ gg) :
  ∃ rows, frz 40 σ (.sl gl gg 0 gs.length 5) = some (.list rows) ∧ qks gs rows := by
 obtain ⟨ts, h1, h2⟩ := qdw 37 gs vs hR
 have hl := qbg gs vs hR.1
 refine ⟨_, qkg (d := 39) h hw (Nat.le_refl _) (by omega) (by omega) (ts := ts) ?_, h2⟩
 rw [List.drop_zero, List.take_of_length_le (by omega)]
 exact h1
end X
namespace X
attribute [-simp] lenV idxV getElem?_pos
theorem getA (σ r : Store) : (σ ++ r)[σ.length]? = r[0]? := by
 rw [List.getElem?_append_right (Nat.le_refl _), Nat.sub_self]
theorem setA (σ r : Store) (x : Go.V.Obj) : (σ ++ r).set σ.length x = σ ++ r.set 0 x := by
 rw [List.set_append_right _ _ (Nat.le_refl _), Nat.sub_self]
/-- a slice of places in memory of its own -/
def AtS (σ : Store) (v : V) (d : Nat) (l : List At) : Prop := ∃ g w, v = .sl d g 0 l.length 2 ∧ σ[d]? = some (.cells (qcr l) g w) ∧ w ≤ g
theorem AtS.rd {σ : Store} {v : V} {d : Nat} {l : List At} (h : AtS σ v d l) : RdA σ v l := by
 obtain ⟨g, w, h1, h2, h3⟩ := h
 exact .inr ⟨d, g, w, h1, h2, h3⟩
def xT (x : At) : T := .agg [I x.1, envT x.2]
def OkE (l : List At) : Prop := ∀ a ∈ l, a.2.length ≤ 1048576
theorem put_ld {σ : Store} {v : V} {d : Nat} {l : List At} (h : AtS σ v d l) (x : At) (hl : l.length ≤ 1000000000000) (he : OkE l) :
  ∃ v' σ', LD S 84 [v, .t (xT x)] σ = some (v', σ') ∧ AtS σ' v' d (putS l x) ∧ Fr [d] σ σ' := by
 obtain ⟨g, w, rfl, h1, h2⟩ := h
 have ld := lt_of_get h1
 have hcl := qgq l
 suffices hh : ∃ v' σ', LV S 84 [.sl d g 0 l.length 2, .t (xT x)] σ = some (v', σ') ∧ AtS σ' v' d (putS l x) ∧ Fr [d] σ σ' by
  obtain ⟨v', σ', q1, q2, q3⟩ := hh
  exact ⟨v', σ', by rw [qbt (A := A84) rfl rfl rfl]; exact q1, q2, q3⟩
 refine qaq (A := A84) rfl Tryz.func84 rfl ?_
 have hb : ∀ o : Go.V.Obj, (σ ++ [o])[d]? = some (.cells (qcr l) g w) := fun o => by rw [List.getElem?_append_left ld]; exact h1
 refine wR rfl (by simp [xT]; rfl) ?_
 refine wR rfl (by simp; rfl) ?_
 refine wB rfl ?_
 try simp only [tq]
 refine qat (I := fun m st τ => ∃ k, m = l.length - k ∧ k ≤ l.length ∧ l.contains x = (l.drop k).contains x ∧ st.vars = [(0, .sl d g 0 l.length 2), (1, .t (xT x)), (3, .ptr σ.length 0 0 2), (4, .t .nils), (5, .t (I k))] ∧ τ = σ ++ [.cells [.t (I x.1), .t (envT x.2)] 0 0]) ?_ l.length _ _ ⟨0, rfl, Nat.zero_le _, rfl, by simp [xT], rfl⟩
 rintro m ⟨vars, scr⟩ τ ⟨k, rfl, hk, hc, hv, rfl⟩
 simp only at hv
 subst hv
 refine wR rfl (by simp; rfl) ?_
 by_cases c1 : k < l.length
 ·refine wT rfl (by simp [c1]) ?_
  refine wK ?_
  refine wB rfl ?_
  obtain ⟨a, ha⟩ := get_of_lt c1
  obtain ⟨e1, e2⟩ := qgo ha
  have hsz : k * 2 + 1 + 1 ≤ l.length * 2 := by omega
  have hsz1 : k * 2 + 1 ≤ l.length * 2 := by omega
  have hi1 : (k : Int) < l.length := by omega
  rw [qak ha] at hc
  have hse := qzg a.2 x.2 (he a (List.mem_of_getElem? ha))
  by_cases c2 : a.1 = x.1
  ·have c2' : ((a.1 : Int) == (x.1 : Int)) = true := by simp [c2]
   refine wR rfl (by simp [hb, getA, e1, e2, hcl, hsz, hsz1, h2, hi1, c2, c2', hse]; rfl) ?_
   by_cases c3 : a.2 = x.2
   ·have hax : a = x := Prod.ext c2 c3
    refine wT rfl (by simp [c3]) ?_
    refine wR rfl (by simp; rfl) ?_
    try simp only [tq]
    have hp : putS l x = l := by
     have : l.contains x = true := by rw [hc]; simp [hax]
     simp only [putS, this, if_true]
    refine wX ?_
    try simp only [tq]
    exact ⟨trivial, _, (by simp [Tryz.f84]; rfl), by rw [hp]; exact ⟨g, w, rfl, hb _, h2⟩, Fr.app _ _ _⟩
   ·refine wF rfl (by simp [c3]) ?_
    refine wK ?_
    refine wR rfl (by simp [IntWalk.i64_in ((k : Int) + 1) (by omega)]; rfl) ?_
    try simp only [tq]
    have hax : ¬ x = a := fun e => c3 (by rw [e])
    exact ⟨l.length - (k + 1), by omega, k + 1, rfl, c1, by rw [hc]; simp [hax], by simp [xT], by simp⟩
  ·have c2' : ((a.1 : Int) == (x.1 : Int)) = false := by simp; omega
   refine wR rfl (by simp [hb, getA, e1, e2, hcl, hsz, hsz1, h2, hi1, c2, c2']; rfl) ?_
   refine wF rfl (by simp) ?_
   refine wK ?_
   refine wR rfl (by simp [IntWalk.i64_in ((k : Int) + 1) (by omega)]; rfl) ?_
   try simp only [tq]
   have hax : ¬ x = a := fun e => c2 (by rw [e])
   exact ⟨l.length - (k + 1), by omega, k + 1, rfl, c1, by rw [hc]; simp [hax], by simp [xT], by simp⟩
 ·refine wF rfl (by simp [c1]) ?_
  repeat apply qaw
  refine qal ?_
  try simp only [tq, if_true]
  have hk2 : k = l.length := by omega
  subst hk2
  have hp : putS l x = l ++ [x] := by
   have : l.contains x = false := by rw [hc]; simp
   simp only [putS, this]; rfl
  have hbnd : (l.length + 1) * 32 ≤ 140737488355328 := by omega
  refine wR rfl (by simp [getA, hb, qaa, qab, chunk, qao, qap, qaf, qag, hcl, hbnd, h2]; rfl) ?_
  try simp only [tq]
  refine wX ?_
  try simp only [tq]
  refine ⟨trivial, _, (by simp [Tryz.f84]; rfl), ?_, ?_⟩
  ·rw [hp]
   refine ⟨g + 1, w, by simp, ?_, by omega⟩
   rw [List.getElem?_set_self (by simp; omega), qnv]
   rfl
  ·refine ⟨by simp, fun i hi hn => ?_⟩
   rw [List.getElem?_set_ne (fun e => hn (by simp [e])), List.getElem?_append_left hi]
end X
namespace X

attribute [-simp] lenV idxV getElem?_pos
/-! ### Goals that are there -/
def isG (g : Gl) (rule : Nat) (args : List Nat) (from_ : Nat) : Bool := g.rule == rule && (g.from_ == from_ && decide (g.args = args))
def gIx (rule : Nat) (args : List Nat) (fr : Nat) : List Gl → Nat → Int
 | [], _ => -1
 | g :: r, k => if isG g rule args fr then (k : Int) else gIx rule args fr r (k + 1)
theorem qts {ru : Nat} {al : List Nat} {fr : Nat} : ∀ {gs : List Gl} {k n : Nat}, gIx ru al fr gs k = .negSucc n → n = 0
 | [], k, n, h => by
  simp only [gIx] at h
  cases h; rfl
 | g :: gs, k, n, h => by
  simp only [gIx] at h
  split at h
  ·cases h
  ·exact qts h
theorem find_lv {gs : List Gl} {rows : List T} (hr : qks gs rows) (ru : Nat) {y : T} {al : List Nat} (hy : Is y al) (fr : Nat) (hg : OkG gs) (hn : gs.length ≤ 1048576) :
  LV S 49 [.t (.list rows), .t (I ru), .t y, .t (I fr)] [] = some (.t (I (gIx ru al fr gs 0)), []) := by
 obtain ⟨hr1, hr2⟩ := hr
 refine qas (A := A49) rfl Tryz.func49 rfl ?_
 refine wR rfl (by simp; rfl) ?_
 refine wR rfl (by simp; rfl) ?_
 refine wB rfl ?_
 try simp only [tq]
 refine qat (I := fun m st τ => ∃ k, m = gs.length - k ∧ k ≤ gs.length ∧ gIx ru al fr gs 0 = gIx ru al fr (gs.drop k) k ∧ st.vars = [(0, .t (.list rows)), (1, .t (I ru)), (2, .t y), (3, .t (I fr)), (8, .t (I 0)), (9, .t (I k))] ∧ τ = []) ?_ gs.length _ _ ⟨0, rfl, Nat.zero_le _, rfl, by simp, rfl⟩
 rintro m ⟨vars, scr⟩ τ ⟨k, rfl, hk, he, hv, rfl⟩
 simp only at hv
 subst hv
 refine wR rfl (by simp; rfl) ?_
 by_cases c1 : k < gs.length
 ·refine wT rfl (by simp [show k < rows.length by omega]) ?_
  refine wK ?_
  refine wB rfl ?_
  obtain ⟨g, hgk⟩ := get_of_lt c1
  obtain ⟨x, e, w, hw, ix, _, _⟩ := hr2 k g hgk
  have hse := eq_ld ix hy (hg g (List.mem_of_getElem? hgk))
  rw [qak hgk] at he
  simp only [gIx] at he
  by_cases c2 : g.rule = ru
  ·have c2' : ((g.rule : Int) == (ru : Int)) = true := by simp [c2]
   by_cases c3 : g.from_ = fr
   ·have c3' : ((g.from_ : Int) == (fr : Int)) = true := by simp [c3]
    refine wR rfl (by simp [hw, rowT, c2, c2', c3, c3', hse]; rfl) ?_
    by_cases c4 : g.args = al
    ·refine wT rfl (by simp [c4]) ?_
     refine wR rfl (by simp; rfl) ?_
     have : isG g ru al fr = true := by simp [isG, c2, c3, c4]
     rw [this] at he
     simp only [if_true] at he
     refine wX ?_
     try simp only [tq]
     simp [Tryz.f49, he]
    ·refine wF rfl (by simp [c4]) ?_
     refine wK ?_
     refine wR rfl (by simp [IntWalk.i64_in ((k : Int) + 1) (by omega)]; rfl) ?_
     try simp only [tq]
     have : isG g ru al fr = false := by simp [isG, c4]
     rw [this] at he
     exact ⟨gs.length - (k + 1), by omega, k + 1, rfl, c1, he, by simp, by simp⟩
   ·have c3' : ((g.from_ : Int) == (fr : Int)) = false := by simp; omega
    refine wR rfl (by simp [hw, rowT, c2, c2', c3, c3']; rfl) ?_
    refine wF rfl (by simp) ?_
    refine wK ?_
    refine wR rfl (by simp [IntWalk.i64_in ((k : Int) + 1) (by omega)]; rfl) ?_
    try simp only [tq]
    have : isG g ru al fr = false := by simp [isG, c3]
    rw [this] at he
    exact ⟨gs.length - (k + 1), by omega, k + 1, rfl, c1, he, by simp, by simp⟩
  ·have c2' : ((g.rule : Int) == (ru : Int)) = false := by simp; omega
   refine wR rfl (by simp [hw, rowT, c2, c2']; rfl) ?_
   refine wF rfl (by simp) ?_
   refine wK ?_
   refine wR rfl (by simp [IntWalk.i64_in ((k : Int) + 1) (by omega)]; rfl) ?_
   try simp only [tq]
   have : isG g ru al fr = false := by simp [isG, c2]
   rw [this] at he
   exact ⟨gs.length - (k + 1), by omega, k + 1, rfl, c1, he, by simp, by simp⟩
 ·refine wF rfl (by simp [show ¬ k < rows.length by omega]) ?_
  repeat apply qaw
  refine qal ?_
  try simp only [tq, if_true]
  have hk2 : k = gs.length := by omega
  subst hk2
  have e1 : gIx ru al fr gs 0 = -1 := by rw [he]; simp [gIx]
  refine wR rfl (by simp; rfl) ?_
  refine wX ?_
  try simp only [tq]
  simp [Tryz.f49, e1]
theorem find_nil (ru : Nat) (y : T) (fr : Nat) (σ : Store) : LD S 49 [.t .nils, .t (I ru), .t y, .t (I fr)] σ = some (.t (I (-1)), σ) := by
 refine qaj (A := A49) (args := [.t .nils, .t (I ru), .t y, .t (I fr)]) (v := .t (I (-1))) (σ0 := []) rfl rfl rfl ?_ rfl σ
 refine qas (A := A49) rfl Tryz.func49 rfl ?_
 refine wR rfl (by simp; rfl) ?_
 refine wR rfl (by simp; rfl) ?_
 refine wB rfl ?_
 try simp only [tq]
 refine qay ?_
 refine wR rfl (by simp; rfl) ?_
 refine wF rfl (by simp) ?_
 repeat apply qaw
 refine qal ?_
 try simp only [tq, if_true]
 refine wR rfl (by simp; rfl) ?_
 refine wX ?_
 try simp only [tq]
 simp [Tryz.f49]
theorem find_ld {rules : T} {text : List Nat} {r gl : Nat} {σ : Store} {vs : List V3} {s : Rs} (R : Rep rules text r gl σ vs s) {gg gw : Nat} (hw : gw ≤ gg) (hg : σ[gl]? = some (.cells (qam s.goals vs) gg gw)) (ru : Nat) {y : V} {al : List Nat} (hy : Rd σ y al) (here : Nat) (hn : s.goals.length ≤ 1048576) :
  LD S 49 [.sl gl gg 0 s.goals.length 5, .t (I ru), y, .t (I here)] σ = some (.t (I (gIx ru al here s.goals 0)), σ) := by
 obtain ⟨rows, h1, h2⟩ := qlr R.rd hg hw
 obtain ⟨x, h3, h4⟩ := qfm 38 hy
 refine qck (A := A49) rfl rfl (ts := [.list rows, I ru, x, I here]) ?_ (find_lv h2 ru h4 here R.args hn) rfl
 have t1 : ∀ z : T, frz 40 σ (.t z) = some z := fun z => rfl
 simp only [frzs, t1, h1, h3]

def qbf (s : Rs) (ru : Nat) (al : List Nat) (here : Nat) : Rs × Int := match gIx ru al here s.goals 0 with
 | .ofNat i => (s, .ofNat i)
 | .negSucc _ => if 300 ≤ s.goals.length then ({ s with full := true }, -1) else ({ s with goals := s.goals ++ [⟨ru, al, here, [], []⟩], fresh := true }, (s.goals.length : Nat))
theorem qud {rules : T} {text : List Nat} {r gl : Nat} {σ : Store} {vs : List V3} {s : Rs} (R : Rep rules text r gl σ vs s) (ru : Nat) {y : V} {al : List Nat} (hy : Rd σ y al) (hyl : ∀ d ∈ locV y, d ≠ r ∧ d ≠ gl) (here : Nat) (hn : s.goals.length ≤ 1000) (ha : al.length ≤ 1048576) :
  ∃ σ' vs', LD S 31 [.ptr r 0 0 6, .t (I ru), y, .t (I here)] σ = some (.t (I (qbf s ru al here).2), σ') ∧ Rep rules text r gl σ' vs' (qbf s ru al here).1 ∧ Fr [r, gl] σ σ' ∧ ∀ j ∈ qbc vs', j ∈ qbc vs ∨ j ∈ locV y := by
 obtain ⟨gg, gw, hw, hr, hg⟩ := R.run
 have hat := find_ld R hw hg ru hy here (by omega)
 have lr := lt_of_get hr
 have lg := lt_of_get hg
 have n1 := R.ne
 simp only [qbr] at hr
 suffices hh : ∃ v σ', LV S 31 [.ptr r 0 0 6, .t (I ru), y, .t (I here)] σ = some (v, σ') ∧ v = .t (I (qbf s ru al here).2) ∧ ∃ vs', Rep rules text r gl σ' vs' (qbf s ru al here).1 ∧ Fr [r, gl] σ σ' ∧ ∀ j ∈ qbc vs', j ∈ qbc vs ∨ j ∈ locV y by
  obtain ⟨v, σ', h1, rfl, vs', h2, h3⟩ := hh
  exact ⟨σ', vs', by rw [qbt (A := A31) rfl rfl rfl]; exact h1, h2, h3⟩
 refine qaq (A := A31) rfl Tryz.func31 rfl ?_
 cases hix : gIx ru al here s.goals 0 with
 | ofNat i =>
  rw [hix] at hat
  have e1 : qbf s ru al here = (s, (.ofNat i : Int)) := by simp only [qbf, hix]
  rw [e1]
  refine wR rfl (by simp; rfl) ?_
  refine wR rfl (by simp [hr, hat]; rfl) ?_
  refine wR rfl (by simp; rfl) ?_
  refine wT rfl (by simp [show 0 ≤ (i : Int) by omega]) ?_
  refine wR rfl (by simp; rfl) ?_
  try simp only [tq]
  refine wX ?_
  try simp only [tq]
  exact ⟨trivial, _, (by simp [Tryz.f31]), rfl, vs, R, Fr.refl _ _, fun j hj => .inl hj⟩
 | negSucc n =>
  have := qts hix
  subst this
  rw [hix] at hat
  have hat' : LD S 49 [.sl gl gg 0 s.goals.length 5, .t (I ru), y, .t (I here)] σ = some (.t (I (-1)), σ) := hat
  by_cases c0 : 300 ≤ s.goals.length
  ·have e1 : qbf s ru al here = ({ s with full := true }, -1) := by simp only [qbf, hix, c0, if_true]
   rw [e1]
   refine wR rfl (by simp; rfl) ?_
   refine wR rfl (by simp [hr, hat']; rfl) ?_
   refine wR rfl (by simp; rfl) ?_
   refine wF rfl (by simp) ?_
   refine wK ?_
   refine wR rfl (by simp [hr]; rfl) ?_
   refine wT rfl (by simp [show (300 : Int) ≤ s.goals.length by omega]) ?_
   refine wR rfl (by simp [hr]; rfl) ?_
   refine wR rfl (by simp; rfl) ?_
   try simp only [tq]
   refine wX ?_
   try simp only [tq]
   refine ⟨trivial, _, (by simp [Tryz.f31]), rfl, vs, ?_, ?_⟩
   ·refine ⟨⟨gg, gw, hw, ?_, ?_⟩, R.rd.keep fun j hj => ?_, n1, R.apart, R.args⟩
    ·rw [List.getElem?_set_self lr]; rfl
    ·rw [List.getElem?_set_ne n1]; exact hg
    ·rw [List.getElem?_set_ne (Ne.symm (R.apart j hj).1)]
   ·exact ⟨⟨by simp, fun i hi hn => List.getElem?_set_ne (fun e => hn (by simp [e]))⟩, fun j hj => .inl hj⟩
  ·have e1 : qbf s ru al here = ({ s with goals := s.goals ++ [⟨ru, al, here, [], []⟩], fresh := true }, ((s.goals.length : Nat) : Int)) := by simp only [qbf, hix, c0, if_false]
   rw [e1]
   have hlen := qbg s.goals vs R.rd.1
   have hbnd : (s.goals.length + 1) * 88 ≤ 140737488355328 := by omega
   have fin : ∀ o : List Go.V.Obj, ∃ vs', Rep rules text r gl (((σ.set gl (.cells (qam s.goals vs ++ [V.t (I ru), y, V.t (I here), V.t .nils, V.t .nils]) (gg + 1) gw)).set r (qbr rules text (.sl gl (gg + 1) 0 (s.goals.length + 1) 5) { s with fresh := true })) ++ o) vs' { s with goals := s.goals ++ [⟨ru, al, here, [], []⟩], fresh := true } ∧ Fr [r, gl] σ (((σ.set gl (.cells (qam s.goals vs ++ [V.t (I ru), y, V.t (I here), V.t .nils, V.t .nils]) (gg + 1) gw)).set r (qbr rules text (.sl gl (gg + 1) 0 (s.goals.length + 1) 5) { s with fresh := true })) ++ o) ∧ ∀ j ∈ qbc vs', j ∈ qbc vs ∨ j ∈ locV y := by
    intro o
    have gr : ∀ i, i ≠ gl → i ≠ r → i < σ.length → (((σ.set gl (.cells (qam s.goals vs ++ [V.t (I ru), y, V.t (I here), V.t .nils, V.t .nils]) (gg + 1) gw)).set r (qbr rules text (.sl gl (gg + 1) 0 (s.goals.length + 1) 5) { s with fresh := true })) ++ o)[i]? = σ[i]? := fun i h1 h2 h3 => by
     rw [List.getElem?_append_left (by simpa using h3), List.getElem?_set_ne (Ne.symm h2), List.getElem?_set_ne (Ne.symm h1)]
    refine ⟨vs ++ [(y, .t .nils, .t .nils)], ⟨⟨gg + 1, gw, by omega, ?_, ?_⟩, ?_, n1, ?_, ?_⟩, ⟨by simp, fun i hi hn => gr i (fun e => hn (by simp [e])) (fun e => hn (by simp [e])) hi⟩, fun j hj => by simpa [qbc, locV] using hj⟩
    ·rw [List.getElem?_append_left (by simpa using lr), List.getElem?_set_self (by simpa using lr)]
     simp [qbr]
    ·rw [List.getElem?_append_left (by simpa using lg), List.getElem?_set_ne n1, List.getElem?_set_self lg, qes _ _ _ _ R.rd.1]
     simp [qam]
    ·have hk := R.rd.keep fun i hi => gr i (R.apart i hi).2 (R.apart i hi).1 (R.rd.locs i hi)
     refine ⟨by simp [hk.1], fun i g p hg hp => ?_⟩
     rcases Nat.lt_or_ge i s.goals.length with h | h
     ·rw [List.getElem?_append_left h] at hg
      rw [List.getElem?_append_left (by rw [hk.1]; exact h)] at hp
      exact hk.2 i g p hg hp
     ·rw [List.getElem?_append_right h] at hg
      rw [List.getElem?_append_right (by rw [hk.1]; exact h), hk.1] at hp
      cases hq : i - s.goals.length with
      | zero =>
       rw [hq] at hg hp
       simp only [List.getElem?_cons_zero, Option.some.injEq] at hg hp
       subst hg hp
       exact ⟨hy.keep fun i hi => gr i (hyl i hi).2 (hyl i hi).1 (hy.locs i hi), .inl ⟨rfl, rfl⟩, .inl ⟨rfl, rfl⟩⟩
      | succ q => rw [hq] at hg; simp at hg
    ·intro j hj
     have e : qbc (vs ++ [(y, V.t .nils, V.t .nils)]) = qbc vs ++ locV y := by simp [qbc, locV]
     rw [e, List.mem_append] at hj
     exact hj.elim (R.apart j) (hyl j)
    ·intro g hg
     rcases List.mem_append.1 hg with hg | hg
     ·exact R.args g hg
     ·simp only [List.mem_singleton] at hg
      subst hg
      exact ha
   refine wR rfl (by simp; rfl) ?_
   refine wR rfl (by simp [hr, hat']; rfl) ?_
   refine wR rfl (by simp; rfl) ?_
   refine wF rfl (by simp) ?_
   refine wK ?_
   refine wR rfl (by simp [hr]; rfl) ?_
   refine wF rfl (by simp [show ¬ (300 : Int) ≤ s.goals.length by omega]) ?_
   refine wK ?_
   try simp only [tq]
   rcases hy with ⟨rfl, rfl⟩ | rfl | ⟨d, yg, yw, rfl, y1, y2⟩
   all_goals
    refine wR rfl (by simp [hr, hg, qbz, qar, qao, qap, qaf, qaa, qab, qag, chunk, qcc, allT, qac, List.getElem?_append, lr, lg, hlen, hbnd, List.getElem?_set_ne n1, List.getElem?_set_ne (Ne.symm n1)]; rfl) ?_
    refine wR rfl (by simp [List.getElem?_append, lr, lg, List.getElem?_set_self]; rfl) ?_
    refine wR rfl (by simp [List.getElem?_append, lr, lg, List.getElem?_set_self, IntWalk.i64_in ((s.goals.length : Int) + 1 - 1) (by omega), IntWalk.i64_in (s.goals.length : Int) (by omega)]; rfl) ?_
    try simp only [tq]
    refine wX ?_
    try simp only [tq]
    first
     | exact ⟨trivial, _, (by simp [Tryz.f31]; rfl), rfl, by simpa [qbr] using fin []⟩
     | exact ⟨trivial, _, (by simp [Tryz.f31]), rfl, by simpa [qbr] using fin []⟩
     | exact ⟨trivial, _, (by simp [Tryz.f31]), rfl, by have := fin [V.Obj.cells [V.t (I ru), V.sl d yg 0 al.length 1, V.t (I here), V.t .nils, V.t .nils] 0 0]; simpa [qbr] using this⟩
end X
namespace X
attribute [-simp] lenV idxV getElem?_pos
/-! ### What is known of the rest, by its type -/
structure Kn where
 plain : T → Env → Nat → Option (Option Nat)
 args : T → Env → Nat → Option (Option (List Nat))
 bind : Env → List Nat → List Nat → Option Env
 ruleAt : List Nat → Option Nat
 env0 : T → List Nat → Option Env
structure KnOk (K : Kn) (rules : T) (text : List Nat) : Prop where
 plain : ∀ x env pos r, K.plain x env pos = some r → ∃ n ok, (∀ σ, LD S 83 [.t x, .t (.str text), .t (.agg [I pos, envT env])] σ = some (.t (.tup [I n, B ok]), σ)) ∧ match r with
  | some p => ok = true ∧ n = (p : Int)
  | none => ok = false
 args : ∀ ax env pos r, K.args ax env pos = some r → ∃ y ok, (∀ σ, LD S 85 [.t ax, .t (envT env), .t (I pos)] σ = some (.t (.tup [y, B ok]), σ)) ∧ match r with
  | some l => ok = true ∧ y = .list (qax l)
  | none => ok = false
 bind : ∀ env bs t env', K.bind env bs t = some env' → env'.length ≤ 1048576 ∧ ∀ σ, LD S 86 [.t (envT env), .t (.str bs), .t (.str t)] σ = some (.t (envT env'), σ)
 ruleAt : ∀ nm i, K.ruleAt nm = some i → ∀ σ, LD S 28 [.t (.agg [rules]), .t (.str nm)] σ = some (.t (I (i : Nat)), σ)
 env0 : ∀ ps al env, K.env0 ps al = some env → env.length ≤ 1048576 ∧ ∀ σ v, Rd σ v al → LD S 51 [.t ps, v] σ = some (.t (envT env), σ)
/-! ### An alternative -/
def qnk (K : Kn) (text : List Nat) (bs : List Nat) (a : At) : List Nat → List At → Option (List At)
 | [], nx => some nx
 | e :: r, nx => if a.1 ≤ e ∧ e ≤ text.length ∧ nx.length ≤ 1000000000000 then match K.bind a.2 bs ((text.take e).drop a.1) with
     | some env => qnk K text bs a r (putS nx (e, env))
     | none => none
  else none
def qun (K : Kn) (text : List Nat) (nm : List Nat) (ax : T) (bs : List Nat) (a : At) (nx : List At) (s : Rs) : Option (Option (List At) × Rs) :=
 match K.args ax a.2 a.1 with
 | none => none
 | some none => some (some nx, s)
 | some (some al) => if al.length ≤ 1000 ∧ s.goals.length ≤ 1000 then match K.ruleAt nm with
  | none => none
  | some ru => match (qbf s ru al a.1).2 with
   | .negSucc _ => some (none, (qbf s ru al a.1).1)
   | .ofNat i => match (qbf s ru al a.1).1.goals[i]? with
    | none => none
    | some g => if g.ends.length ≤ 1000 then match qnk K text bs a g.ends nx with
     | none => none
     | some nx' => some (some nx', (qbf s ru al a.1).1)
     else none
  else none
def oneS (K : Kn) (text : List Nat) (x : T) (a : At) (nx : List At) (s : Rs) : Option (Option (List At) × Rs) :=
 match x with
 | .agg [.int .i64 (.ofNat kind), .str nm, ax, .str bs] =>
  if kind = 3 then qun K text nm ax bs a nx s
  else match K.plain x a.2 a.1 with
   | none => none
   | some none => some (some nx, s)
   | some (some p) => if nx.length ≤ 1000000000000 then some (some (putS nx (p, a.2)), s) else none
 | _ => none
def qds (K : Kn) (text : List Nat) (x : T) : List At → List At → Rs → Option (Option (List At) × Rs)
 | [], nx, s => some (some nx, s)
 | a :: r, nx, s => match oneS K text x a nx s with
  | none => none
  | some (none, s') => some (none, s')
  | some (some nx', s') => qds K text x r nx' s'
def altS (K : Kn) (text : List Nat) : List T → List At → Rs → Option (List At × Rs)
 | [], l, s => some (l, s)
 | x :: r, l, s => if 1000000000000 < l.length then none else match qds K text x l [] s with
  | none => none
  | some (none, s') => some ([], s')
  | some (some nx, s') => altS K text r nx s'

/-- a slice of Syms -/
def Syms (xs : T) (syms : List T) : Prop := (xs = .nils ∧ syms = []) ∨ xs = .list syms
theorem Syms.len {xs : T} {syms : List T} (h : Syms xs syms) (σ : Store) (e : TypeId) : lenV σ (.slice e) (.t xs) = some (syms.length : Int) := by
 rcases h with ⟨rfl, rfl⟩ | rfl <;> simp
theorem Syms.idx {xs : T} {syms : List T} (h : Syms xs syms) {i : Nat} {a b c d : T} (hi : syms[i]? = some (.agg [a, b, c, d])) : idxV 4 (.t xs) (i : Int) = some (.t (.snap [a, b, c, d])) := by
 rcases h with ⟨rfl, rfl⟩ | rfl
 ·simp at hi
 ·simp [hi]
theorem OkE.put {l : List At} {x : At} (h : OkE l) (hx : x.2.length ≤ 1048576) : OkE (putS l x) := by
 intro a ha
 unfold putS at ha
 split at ha
 ·exact h a ha
 ·rcases List.mem_append.1 ha with ha | ha
  ·exact h a ha
  ·simp only [List.mem_singleton] at ha
   subst ha; exact hx
theorem AtS.keep {σ σ' : Store} {v : V} {d : Nat} {l : List At} (h : AtS σ v d l) (hk : σ'[d]? = σ[d]?) : AtS σ' v d l := by
 obtain ⟨g, w, h1, h2, h3⟩ := h
 exact ⟨g, w, h1, by rw [hk]; exact h2, h3⟩
theorem AtS.lt {σ : Store} {v : V} {d : Nat} {l : List At} (h : AtS σ v d l) : d < σ.length := by
 obtain ⟨g, w, h1, h2, h3⟩ := h
 exact lt_of_get h2
def boxA (a : At) : Go.V.Obj := .cells [.t (I a.1), .t (envT a.2)] 0 0

theorem qpu (p : Int) (e : Env) : qbz S.ty 97 [(0, .t (I p)), (1, .t (envT e))] = some (.t (.agg [I p, envT e])) := by
 simp [qbz, qar, qao, envT, qac, qcc, allT]
theorem take2 {α : Type} {l : List α} {j : Nat} {x y : α} (h1 : l[j]? = some x) (h2 : l[j + 1]? = some y) : (l.drop j).take 2 = [x, y] := by
 rw [qak h1, qak h2]
 rfl
theorem alt_ld {K : Kn} {rules : T} {text : List Nat} (hK : KnOk K rules text) {r gl : Nat} {xs : T} {syms : List T} (hxs : Syms xs syms) (hsy : syms.length ≤ 1048576) {σ : Store} {vs : List V3} {s s' : Rs} (R : Rep rules text r gl σ vs s) {v : V} {d : Nat} {l l' : List At} (hv : AtS σ v d l) (hd : d ≠ r ∧ d ≠ gl) (hE : OkE l) (h : altS K text syms l s = some (l', s')) :
  ∃ v' d' σ' vs', LD S 50 [.ptr r 0 0 6, .t xs, v] σ = some (v', σ') ∧ AtS σ' v' d' l' ∧ Rep rules text r gl σ' vs' s' ∧ Fr [r, gl] σ σ' ∧ (d' ≠ r ∧ d' ≠ gl) ∧ OkE l' := by
 suffices hh : ∃ v' σ', LV S 50 [.ptr r 0 0 6, .t xs, v] σ = some (v', σ') ∧ ∃ d' vs', AtS σ' v' d' l' ∧ Rep rules text r gl σ' vs' s' ∧ Fr [r, gl] σ σ' ∧ (d' ≠ r ∧ d' ≠ gl) ∧ OkE l' by
  obtain ⟨v', σ', h1, d', vs', h2⟩ := hh
  exact ⟨v', d', σ', vs', by rw [qbt (A := A50) rfl rfl rfl]; exact h1, h2⟩
 refine qaq (A := A50) rfl Tryz.func50 rfl ?_
 refine wR rfl (by simp; rfl) ?_
 refine wR rfl (by simp; rfl) ?_
 refine wB rfl ?_
 try simp only [tq]
 refine qat (I := fun m st τ => ∃ k lk sk vk dk wk, m = syms.length - k ∧ k ≤ syms.length ∧ altS K text (syms.drop k) lk sk = some (l', s') ∧ st.vars = [(0, .ptr r 0 0 6), (1, .t xs), (2, wk), (6, .t .nils), (7, .t (I k))] ∧ AtS τ wk dk lk ∧ (dk ≠ r ∧ dk ≠ gl) ∧ OkE lk ∧ Rep rules text r gl τ vk sk ∧ Fr [r, gl] σ τ) ?_ syms.length _ _ ⟨0, l, s, vs, d, v, rfl, Nat.zero_le _, h, by simp, hv, hd, hE, R, Fr.refl _ _⟩
 clear h R hv hd hE
 rintro m ⟨vars, scr⟩ τ ⟨k, lk, sk, vk, dk, wk, rfl, hk, h, hvs, hAt, hd, hE, R, hF⟩
 simp only at hvs
 subst hvs
 refine wR rfl (by simp [hxs.len]; rfl) ?_
 by_cases c1 : k < syms.length
 ·refine wT rfl (by simp [c1]) ?_
  refine wK ?_
  refine wB rfl ?_
  obtain ⟨x, hx⟩ := get_of_lt c1
  rw [qak hx] at h
  unfold altS at h
  split at h
  ·cases h
  rename_i hbig
  have hgl := R.lt
  have ldk := hAt.lt
  obtain ⟨gk, wgk, rfl, hk2, hk3⟩ := hAt
  refine wR rfl (by simp [qaa, qab, chunk, qao]; rfl) ?_
  refine wR rfl (by simp; rfl) ?_
  refine wB rfl ?_
  try simp only [tq]
  -- over the places
  obtain ⟨res, hres⟩ : ∃ res, qds K text x lk [] sk = some res := by
   cases hq : qds K text x lk [] sk with
   | none => rw [hq] at h; cases h
   | some res => exact ⟨res, rfl⟩
  rw [hres] at h
  refine qat (I := fun m st τ2 => ∃ i nx s2 v2 w2, m = lk.length - i ∧ i ≤ lk.length ∧ qds K text x (lk.drop i) nx s2 = some res ∧ st.vars = [(0, .ptr r 0 0 6), (1, .t xs), (2, .sl dk gk 0 lk.length 2), (6, .t .nils), (7, .t (I k)), (8, w2), (9, .t (I i))] ∧ AtS τ2 w2 τ.length nx ∧ τ2[dk]? = some (.cells (qcr lk) gk wgk) ∧ OkE nx ∧ Rep rules text r gl τ2 v2 s2 ∧ Fr [r, gl] τ τ2 ∧ ∀ j ∈ qbc v2, j < τ.length) ?_ lk.length _ _ ⟨0, [], sk, vk, .sl τ.length 0 0 0 2, rfl, Nat.zero_le _, hres, by simp, ⟨0, 0, rfl, by rw [getA]; rfl, Nat.le_refl _⟩, by rw [List.getElem?_append_left ldk]; exact hk2, (fun a ha => by cases ha), R.fr (fun i hi => List.getElem?_append_left hi), Fr.app _ _ _, R.rd.locs⟩
  clear hres
  rintro m ⟨vars, scr⟩ τ2 ⟨i, nx, s2, v2, w2, rfl, hi, hst, hvs, hN, hk2', hEn, R2, hF2, hL2⟩
  simp only at hvs
  subst hvs
  refine wR rfl (by simp; rfl) ?_
  by_cases c2 : i < lk.length
  ·refine wT rfl (by simp [c2]) ?_
   refine wK ?_
   refine wB rfl ?_
   try simp only [tq]
   obtain ⟨a, ha⟩ := get_of_lt c2
   obtain ⟨e1, e2⟩ := qgo ha
   have hcl := qgq lk
   have hsz : i * 2 + 2 ≤ lk.length * 2 := by omega
   have hi1 : (i : Int) < lk.length := by omega
   have hEa := hE a (List.mem_of_getElem? ha)
   rw [qak ha] at hst
   simp only [qds] at hst
   -- the sym
   obtain ⟨o, ho⟩ : ∃ o, oneS K text x a nx s2 = some o := by
    cases hq : oneS K text x a nx s2 with
    | none => rw [hq] at hst; cases hst
    | some o => exact ⟨o, rfl⟩
   rw [ho] at hst
   unfold oneS at ho
   split at ho
   rotate_left
   ·cases ho
   rename_i kind nm ax bs
   have hix := hxs.idx hx
   have l2 := R2.lt
   have lN := hN.lt
   have ltk := hF2.1
   have hk2a := lt_of_get hk2'
   have h2c := take2 e1 e2
   refine wR rfl (by simp [hk2', hcl, hsz, hi1, hk3, getA, setA, qao, h2c, allT, qac]; rfl) ?_
   try simp only [tq]
   -- the copy of the place
   have Rb := R2.fr (σ' := τ2 ++ [boxA a]) (fun j hj => List.getElem?_append_left hj)
   have hNb : AtS (τ2 ++ [boxA a]) w2 τ.length nx := hN.keep (List.getElem?_append_left lN)
   have hFb : Fr [r, gl] τ (τ2 ++ [boxA a]) := hF2.trans (Fr.app [r, gl] _ _) (fun j hj => .inl hj)
   have hkb : (τ2 ++ [boxA a])[dk]? = some (.cells (qcr lk) gk wgk) := by rw [List.getElem?_append_left hk2a]; exact hk2'
   have hbb : (τ2 ++ [boxA a])[τ2.length]? = some (boxA a) := by rw [getA]; rfl
   show W _ _ _ _ _ (τ2 ++ [boxA a])
   revert Rb hNb hFb hkb hbb
   generalize (τ2 ++ [boxA a]) = τ3
   intro Rb hNb hFb hkb hbb
   obtain ⟨gg, gw, hgw, hr, hg⟩ := Rb.run
   simp only [qbr] at hr
   simp only [boxA] at hbb
   have hnx : ∀ j : Nat, lk.length - (j + 1) < lk.length - j ∨ ¬ j < lk.length := by omega
   have hw1 := IntWalk.i64_in ((i : Int) + 1) (by omega)
   refine wR rfl (by simp [hix]; rfl) ?_
   split at ho
   ·rename_i hkind
    refine wF rfl (by simp [show (kind : Int) = 3 by omega]) ?_
    refine wK ?_
    unfold qun at ho
    split at ho
    ·cases ho
    ·rename_i hag
     cases ho
     obtain ⟨y, ok, ha1, ha2⟩ := hK.args _ _ _ _ hag
     simp only at ha2
     subst ha2
     refine wR rfl (by simp [hix, hbb, ha1]; rfl) ?_
     refine wR rfl (by simp; rfl) ?_
     refine wT rfl (by simp) ?_
     repeat apply qaw
     refine qal ?_
     try simp only [tq, if_true]
     refine wR rfl (by simp [hw1]; rfl) ?_
     try simp only [tq]
     exact ⟨lk.length - (i + 1), by omega, i + 1, nx, s2, v2, w2, rfl, c2, hst, by simp, hNb, hkb, hEn, Rb, hFb, hL2⟩
    ·rename_i al hag
     split at ho
     rotate_left
     ·cases ho
     rename_i hall
     split at ho
     ·cases ho
     rename_i ru hru
     have hrl := hK.ruleAt _ _ hru
     obtain ⟨y, ok, ha1, ha2⟩ := hK.args _ _ _ _ hag
     simp only at ha2
     obtain ⟨rfl, rfl⟩ := ha2
     obtain ⟨τ4, v4, g1, g2, g3, g4⟩ := qud Rb ru (y := .t (.list (qax al))) (al := al) (.inr (.inl rfl)) (fun j hj => by simp [locV] at hj) a.1 hall.2 (by omega)
     have hL4 : ∀ j ∈ qbc v4, j < τ.length := fun j hj => (g4 j hj).elim (hL2 j) (fun hm => by simp [locV] at hm)
     refine wR rfl (by simp [hix, hbb, ha1]; rfl) ?_
     refine wR rfl (by simp; rfl) ?_
     refine wF rfl (by simp) ?_
     refine wK ?_
     refine wR rfl (by simp [hix, hr, hbb, hrl, g1]; rfl) ?_
     try simp only [tq]
     split at ho
     ·-- too many goals
      rename_i n hneg
      cases ho
      simp only at hst
      cases hst
      simp only [Option.some.injEq, Prod.mk.injEq] at h
      obtain ⟨rfl, rfl⟩ := h
      rw [hneg]
      refine wR rfl (by simp; rfl) ?_
      refine wT rfl (by simp [Int.negSucc_lt_zero n]) ?_
      refine wR rfl (by simp [qaa, qab, chunk, qao]; rfl) ?_
      try simp only [tq]
      refine wX ?_
      try simp only [tq]
      have l4 := g2.lt
      have R5 := g2.fr (σ' := τ4 ++ [.cells [] 0 0]) (fun j hj => List.getElem?_append_left hj)
      refine ⟨trivial, _, (by simp [Tryz.f50]), τ4.length, v4, ⟨0, 0, rfl, by rw [getA]; rfl, Nat.le_refl _⟩, R5, (hF.trans (hFb.trans g3 (fun j hj => .inl hj)) (fun j hj => .inl hj)).trans (Fr.app [r, gl] _ _) (fun j hj => .inl hj), ⟨by omega, by omega⟩, fun a ha => by cases ha⟩
     ·rename_i i0 hpos
      split at ho
      ·cases ho
      rename_i g hgi
      split at ho
      rotate_left
      ·cases ho
      rename_i hel
      split at ho
      ·cases ho
      rename_i nx' hends
      cases ho
      simp only at hst
      rw [hpos]
      refine wR rfl (by simp; rfl) ?_
      refine wF rfl (by simp [show ¬ ((i0 : Int) < 0) by omega]) ?_
      refine wK ?_
      refine wR rfl (by simp; rfl) ?_
      refine wB rfl ?_
      try simp only [tq]
      generalize hs4 : (qbf s2 ru al a.1).1 = s4 at hgi hst g2
      clear hs4 hpos g1 ha1 hrl
      have lt4 := hF2.1
      have nd4 : τ.length ≠ r ∧ τ.length ≠ gl := ⟨by omega, by omega⟩
      have l3 : τ3.length ≤ τ4.length := g3.1
      have hN4 : AtS τ4 w2 τ.length nx := hNb.keep (g3.2 _ hNb.lt (by simp only [List.mem_cons, List.not_mem_nil, or_false]; omega))
      have hb3 := lt_of_get hbb
      have hbb4 : τ4[τ2.length]? = some (.cells [.t (I a.1), .t (envT a.2)] 0 0) := by rw [g3.2 _ hb3 (by simp only [List.mem_cons, List.not_mem_nil, or_false]; omega)]; exact hbb
      have hkb4 : τ4[dk]? = some (.cells (qcr lk) gk wgk) := by rw [g3.2 _ (lt_of_get hkb) (by simp only [List.mem_cons, List.not_mem_nil, or_false]; omega)]; exact hkb
      obtain ⟨gg4, gw4, hgw4, hr4, hg4⟩ := g2.run
      simp only [qbr] at hr4
      have hi4 := lt_of_get hgi
      obtain ⟨pp, hpp⟩ := get_of_lt (show i0 < v4.length by rw [g2.rd.1]; exact hi4)
      obtain ⟨_, _, _, c4, _⟩ := qcg hgi hpp
      have hcl4 := qbg s4.goals v4 g2.rd.1
      obtain ⟨_, re4, _⟩ := g2.rd.2 i0 g pp hgi hpp
      have hppl : ∀ j ∈ locV pp.2.1, j ≠ τ.length := fun j hj => by have := hL4 j (qbl hpp j (.inr (.inl hj))); omega
      have hi5 : (i0 : Int) < s4.goals.length := by omega
      have hi6 : i0 * 5 + 3 + 1 ≤ s4.goals.length * 5 := by omega
      refine qat (I := fun m st τ5 => ∃ e nx3 w3, m = g.ends.length - e ∧ e ≤ g.ends.length ∧ qnk K text bs a (g.ends.drop e) nx3 = some nx' ∧ st.vars = [(0, .ptr r 0 0 6), (1, .t xs), (2, .sl dk gk 0 lk.length 2), (6, .t .nils), (7, .t (I k)), (8, w3), (9, .t (I i)), (10, .ptr τ2.length 0 0 2), (13, .t (.list (qax al))), (14, .t (B true)), (15, .t (I i0)), (16, .t (I e))] ∧ AtS τ5 w3 τ.length nx3 ∧ OkE nx3 ∧ Fr [τ.length] τ4 τ5) ?_ g.ends.length _ _ ⟨0, nx, w2, rfl, Nat.zero_le _, hends, by simp, hN4, hEn, Fr.refl _ _⟩
      clear hends
      rintro m ⟨vars, scr⟩ τ5 ⟨e, nx3, w3, rfl, he, hends, hvs, hN5, hEn5, hF5⟩
      simp only at hvs
      subst hvs
      have own : ∀ j, j < τ4.length → j ≠ τ.length → τ5[j]? = τ4[j]? := fun j h1 h2 => hF5.2 j h1 (by simpa using h2)
      have hr5 : τ5[r]? = some (.cells [.t rules, .t (.str text), .sl gl gg4 0 s4.goals.length 5, .t (I s4.rank), .t (B s4.fresh), .t (B s4.full)] 0 0) := by rw [own r (lt_of_get hr4) (Ne.symm nd4.1)]; exact hr4
      have hg5 : τ5[gl]? = some (.cells (qam s4.goals v4) gg4 gw4) := by rw [own gl (lt_of_get hg4) (Ne.symm nd4.2)]; exact hg4
      have hbb5 : τ5[τ2.length]? = some (.cells [.t (I a.1), .t (envT a.2)] 0 0) := by rw [own _ (lt_of_get hbb4) (by omega)]; exact hbb4
      have re5 : Rd τ5 pp.2.1 g.ends := re4.keep fun j hj => own j (re4.locs j hj) (hppl j hj)
      refine wR rfl (by simp [hr5, hg5, hcl4, hi5, hi6, hgw4, c4, re5.len]; rfl) ?_
      by_cases c3 : e < g.ends.length
      ·refine wT rfl (by simp [c3]) ?_
       refine wK ?_
       refine wB rfl ?_
       try simp only [tq]
       obtain ⟨n, hn⟩ := get_of_lt c3
       rw [qak hn] at hends
       simp only [qnk] at hends
       split at hends
       rotate_left
       ·cases hends
       rename_i hen
       split at hends
       rotate_left
       ·cases hends
       rename_i env' hbd
       obtain ⟨hel', hbl⟩ := hK.bind _ _ _ _ hbd
       obtain ⟨w4, τ6, q1, q2, q3⟩ := put_ld hN5 (n, env') hen.2.2 hEn5
       simp only [xT] at q1
       have hen1 := hen.1
       have hen2 := hen.2.1
       have hen3 : (a.1 : Int) ≤ n ∧ (n : Int) ≤ text.length := by omega
       rcases re5 with ⟨_, h0⟩ | h0 | ⟨dd, dg, dw, h0, h7, h8⟩
       ·rw [h0] at hn; simp at hn
       ·rw [h0] at c4
        refine wR rfl (by simp [hr5, hg5, hcl4, hi5, hi6, hgw4, c4, hn]; rfl) ?_
        refine wR rfl (by simp [hix, hr5, hbb5, hen1, hen2, hen3.1, hen3.2, hbl, qpu, q1]; rfl) ?_
        refine wR rfl (by simp [IntWalk.i64_in ((e : Int) + 1) (by omega)]; rfl) ?_
        try simp only [tq]
        exact ⟨g.ends.length - (e + 1), by omega, e + 1, putS nx3 (n, env'), w4, rfl, c3, hends, by simp, q2, hEn5.put hel', hF5.trans q3 (fun j hj => .inl hj)⟩
       ·rw [h0] at c4
        have he1 : e + 1 ≤ g.ends.length := c3
        refine wR rfl (by simp [hr5, hg5, hcl4, hi5, hi6, hgw4, c4, hn, h7, h8, c3, he1]; rfl) ?_
        refine wR rfl (by simp [hix, hr5, hbb5, hen1, hen2, hen3.1, hen3.2, hbl, qpu, q1]; rfl) ?_
        refine wR rfl (by simp [IntWalk.i64_in ((e : Int) + 1) (by omega)]; rfl) ?_
        try simp only [tq]
        exact ⟨g.ends.length - (e + 1), by omega, e + 1, putS nx3 (n, env'), w4, rfl, c3, hends, by simp, q2, hEn5.put hel', hF5.trans q3 (fun j hj => .inl hj)⟩
      ·refine wF rfl (by simp [c3]) ?_
       repeat apply qaw
       refine qal ?_
       try simp only [tq, if_true]
       have : e = g.ends.length := by omega
       subst this
       rw [List.drop_length] at hends
       simp only [qnk, Option.some.injEq] at hends
       subst hends
       refine wR rfl (by simp [hw1]; rfl) ?_
       try simp only [tq]
       have R5 := g2.fr1 own (Ne.symm nd4.1) (Ne.symm nd4.2) (fun hm => by have := hL4 _ hm; omega)
       exact ⟨lk.length - (i + 1), by omega, i + 1, nx3, s4, v4, w3, rfl, c2, hst, by simp, hN5, by rw [own dk (lt_of_get hkb4) (by omega)]; exact hkb4, hEn5, R5, (hFb.trans g3 (fun j hj => .inl hj)).trans hF5 (fun j hj => .inr (by simp only [List.mem_singleton] at hj; omega)), hL4⟩
   ·rename_i hkind
    refine wT rfl (by simp [show ¬ (kind : Int) = 3 by omega]) ?_
    split at ho
    ·cases ho
    ·rename_i hpl
     cases ho
     obtain ⟨n, ok, hp1, hp2⟩ := hK.plain _ _ _ _ hpl
     simp only [Int.ofNat_eq_natCast] at hp1 hp2
     subst hp2
     refine wR rfl (by simp [hix, hr, hbb, hp1]; rfl) ?_
     refine wR rfl (by simp; rfl) ?_
     refine wF rfl (by simp) ?_
     refine wK ?_
     repeat apply qaw
     refine qal ?_
     try simp only [tq, if_true]
     refine wR rfl (by simp [hw1]; rfl) ?_
     try simp only [tq]
     exact ⟨lk.length - (i + 1), by omega, i + 1, nx, s2, v2, w2, rfl, c2, hst, by simp, hNb, hkb, hEn, Rb, hFb, hL2⟩
    ·rename_i p hpl
     split at ho
     rotate_left
     ·cases ho
     rename_i hnl
     cases ho
     obtain ⟨n, ok, hp1, hp2⟩ := hK.plain _ _ _ _ hpl
     simp only [Int.ofNat_eq_natCast] at hp1 hp2
     obtain ⟨rfl, rfl⟩ := hp2
     obtain ⟨w3, τ4, q1, q2, q3⟩ := put_ld hNb (p, a.2) hnl hEn
     simp only [xT] at q1
     refine wR rfl (by simp [hix, hr, hbb, hp1]; rfl) ?_
     refine wR rfl (by simp; rfl) ?_
     refine wT rfl (by simp) ?_
     refine wR rfl (by simp [hbb, qpu, q1]; rfl) ?_
     repeat apply qaw
     refine qal ?_
     try simp only [tq, if_true]
     refine wR rfl (by simp [hw1]; rfl) ?_
     try simp only [tq]
     have own : ∀ j, j < τ3.length → j ≠ τ.length → τ4[j]? = τ3[j]? := fun j h1 h2 => q3.2 j h1 (by simpa using h2)
     have nd : dk ≠ τ.length := by omega
     have nr : r ≠ τ.length := by omega
     have ng : gl ≠ τ.length := by omega
     have R4 := Rb.fr1 own nr ng (fun hm => by have := hL2 _ hm; omega)
     exact ⟨lk.length - (i + 1), by omega, i + 1, putS nx (p, a.2), s2, v2, w3, rfl, c2, hst, by simp, q2, by rw [own dk (lt_of_get hkb) nd]; exact hkb, hEn.put hEa, R4, hFb.trans q3 (fun j hj => .inr (by simp only [List.mem_singleton] at hj; omega)), hL2⟩
  ·refine wF rfl (by simp [c2]) ?_
   repeat apply qaw
   refine qal ?_
   try simp only [tq, if_true]
   have : i = lk.length := by omega
   subst this
   rw [List.drop_length] at hst
   simp only [qds, Option.some.injEq] at hst
   subst hst
   simp only at h
   refine wR rfl (by simp; rfl) ?_
   refine wR rfl (by simp [IntWalk.i64_in ((k : Int) + 1) (by omega)]; rfl) ?_
   try simp only [tq]
   refine ⟨syms.length - (k + 1), by omega, k + 1, nx, s2, v2, τ.length, w2, rfl, c1, h, by simp, hN, ⟨by omega, by omega⟩, hEn, R2, hF.trans hF2 (fun i hi => .inl hi)⟩
 ·refine wF rfl (by simp [c1]) ?_
  repeat apply qaw
  refine qal ?_
  try simp only [tq, if_true]
  have : k = syms.length := by omega
  subst this
  rw [List.drop_length] at h
  simp only [altS, Option.some.injEq, Prod.mk.injEq] at h
  obtain ⟨rfl, rfl⟩ := h
  refine wR rfl (by simp; rfl) ?_
  try simp only [tq]
  refine wX ?_
  try simp only [tq]
  exact ⟨trivial, _, (by simp [Tryz.f50]), dk, vk, hAt, R, hF, hd, hE⟩
end X
namespace X

attribute [-simp] lenV idxV getElem?_pos
theorem Rd.idx {σ : Store} {v : V} {l : List Nat} (h : Rd σ v l) {i n : Nat} (hi : l[i]? = some n) : ∃ q, idxV 1 v (i : Int) = some q ∧ ∀ t : TI, t.agg = false → t.size = 1 → qbx σ t q = some (.t (I n)) := by
 have hlt := lt_of_get hi
 rcases h with ⟨rfl, rfl⟩ | rfl | ⟨d, g, w, rfl, h1, h2⟩
 ·simp at hi
 ·exact ⟨.t (.snap [I n]), by simp [hi], fun t h3 h4 => by simp [qbx, h3, h4]⟩
 ·refine ⟨.ptr d g (0 + i * 1) 1, by simp [hlt], fun t h3 h4 => ?_⟩
  have : i + 1 ≤ l.length := hlt
  simp [qbx, h1, h2, h3, h4, hi, this]
/-! ### An end more -/
def lowE (e : Nat) : List Nat → List Nat → List Nat × List Nat
 | x :: r, k :: q => if x < e then (x :: (lowE e r q).1, k :: (lowE e r q).2) else lowE e r q
 | _, _ => ([], [])
def hiE (e : Nat) : List Nat → List Nat → List Nat × List Nat
 | x :: r, k :: q => if e < x then (x :: (hiE e r q).1, k :: (hiE e r q).2) else hiE e r q
 | _, _ => ([], [])
def qdu (g : Gl) (e : Nat) : List Nat := (lowE e g.ends g.ranks).1 ++ [e] ++ (hiE e g.ends g.ranks).1
def qcs (g : Gl) (e k : Nat) : List Nat := (lowE e g.ends g.ranks).2 ++ [k] ++ (hiE e g.ends g.ranks).2
def addS (s : Rs) (i e : Nat) : Option Rs := match s.goals[i]? with
 | none => none
 | some g => if g.ends.length = g.ranks.length ∧ g.ends.length ≤ 1000 ∧ s.rank ≤ 1000000000000 then
   some { s with goals := s.goals.set i { g with ends := qdu g e, ranks := qcs g e s.rank }, rank := s.rank + 1, fresh := true } else none
theorem qvz (e : Nat) : ∀ (l q : List Nat), (lowE e l q).1.length ≤ l.length ∧ (lowE e l q).2.length ≤ l.length
 | [], q => by simp [lowE]
 | x :: r, [] => by simp [lowE]
 | x :: r, k :: q => by
  have := qvz e r q
  simp only [lowE]
  split <;> simp only [List.length_cons] <;> omega
/-- a slice of numbers in memory of its own -/
def IntS (σ : Store) (v : V) (d : Nat) (l : List Nat) : Prop := ∃ g w, v = .sl d g 0 l.length 1 ∧ σ[d]? = some (.cells (ints l) g w) ∧ w ≤ g
theorem IntS.rd {σ : Store} {v : V} {d : Nat} {l : List Nat} (h : IntS σ v d l) : Rd σ v l := by
 obtain ⟨g, w, h1, h2, h3⟩ := h
 exact .inr (.inr ⟨d, g, w, h1, h2, h3⟩)
theorem IntS.keep {σ σ' : Store} {v : V} {d : Nat} {l : List Nat} (h : IntS σ v d l) (hk : σ'[d]? = σ[d]?) : IntS σ' v d l := by
 obtain ⟨g, w, h1, h2, h3⟩ := h
 exact ⟨g, w, h1, by rw [hk]; exact h2, h3⟩
theorem qqb (l : List Nat) (n : Nat) : ints l ++ [V.t (I n)] = ints (l ++ [n]) := by simp [ints]
theorem IntS.push {σ : Store} {d g w n : Nat} {l : List Nat} (h1 : σ[d]? = some (.cells (ints l) g w)) (h2 : w ≤ g) : IntS (σ.set d (.cells (ints l ++ [V.t (I n)]) (g + 1) w)) (.sl d (g + 1) 0 (l.length + 1) 1) d (l ++ [n]) :=
 ⟨g + 1, w, by simp, by rw [List.getElem?_set_self (lt_of_get h1), qqb], by omega⟩

attribute [-simp] qcc cellsOf qbx
@[simp] theorem loadP (σ : Store) (t : TI) (loc g off ext : Nat) : qbx σ t (.ptr loc g off ext) = match σ[loc]? with
  | some (.cells cs gen wgen) =>
   if wgen ≤ g ∧ g ≤ gen ∧ t.size ≤ ext ∧ off + t.size ≤ cs.length then
    if t.agg then some (qcc ((cs.drop off).take t.size))
    else if t.size = 1 then cs[off]? else none
   else none
  | _ => none := rfl
@[simp] theorem loadS (σ : Store) (t : TI) (cells : List T) : qbx σ t (.t (.snap cells)) = if t.size ≤ cells.length then
  if t.agg then some (.t (.agg (cells.take t.size))) else if t.size = 1 then (cells[0]?).map .t else none
  else none := rfl
theorem qvl (cs : List V) : cellsOf (qcc cs) = some cs := by
 unfold qcc
 cases h : allT cs with
 | some ts => simp only [cellsOf, qcd h]
 | none => rfl
@[simp] theorem cO1 (cs : List T) : cellsOf (.t (.agg cs)) = some (cs.map .t) := rfl
@[simp] theorem cO2 (k : IntKind) (n : Int) : cellsOf (.t (.int k n)) = some [.t (.int k n)] := rfl
@[simp] theorem cO3 (b : Bool) : cellsOf (.t (.bool b)) = some [.t (.bool b)] := rfl
@[simp] theorem cO4 (a b c d e : Nat) : cellsOf (.sl a b c d e) = some [.sl a b c d e] := rfl
theorem add_ld {rules : T} {text : List Nat} {r gl : Nat} {σ : Store} {vs : List V3} {s s' : Rs} (R : Rep rules text r gl σ vs s) (i e : Nat) (h : addS s i e = some s') :
  ∃ σ' vs', LD S 53 [.ptr r 0 0 6, .t (I i), .t (I e)] σ = some (.t (.tup []), σ') ∧ Rep rules text r gl σ' vs' s' ∧ Fr [r, gl] σ σ' := by
 unfold addS at h
 split at h
 ·cases h
 rename_i g hgi
 split at h
 rotate_left
 ·cases h
 rename_i hb
 obtain ⟨b1, b2, b3⟩ := hb
 cases h
 obtain ⟨gg, gw, hw, hr, hg⟩ := R.run
 have hr0 := hr
 simp only [qbr] at hr
 have n1 := R.ne
 have lr := lt_of_get hr
 have lg := lt_of_get hg
 have hi := lt_of_get hgi
 obtain ⟨p, hp⟩ := get_of_lt (show i < vs.length by rw [R.rd.1]; exact hi)
 obtain ⟨c0, c1, c2, c3, c4⟩ := qcg hgi hp
 have hcl := qbg s.goals vs R.rd.1
 obtain ⟨ra, re, rk⟩ := R.rd.2 i g p hgi hp
 have hi1 : (i : Int) < s.goals.length := by omega
 have hi2 : i * 5 + 5 ≤ s.goals.length * 5 := by omega
 have h5c : ((qam s.goals vs).drop (i * 5)).take 5 = [.t (I g.rule), p.1, .t (I g.from_), p.2.1, p.2.2] := by
  rw [qak c0, qak c1, qak c2, qak c3, qak c4]
  rfl
 suffices hh : ∃ v σ', LV S 53 [.ptr r 0 0 6, .t (I i), .t (I e)] σ = some (v, σ') ∧ v = .t (.tup []) ∧ ∃ vs', Rep rules text r gl σ' vs' { s with goals := s.goals.set i { g with ends := qdu g e, ranks := qcs g e s.rank }, rank := s.rank + 1, fresh := true } ∧ Fr [r, gl] σ σ' by
  obtain ⟨v, σ', h1, rfl, vs', h2, h3⟩ := hh
  exact ⟨σ', vs', by rw [qbt (A := A53) rfl rfl rfl]; exact h1, h2, h3⟩
 refine qaq (A := A53) rfl Tryz.func53 rfl ?_
 have hmk := qvl [.t (I g.rule), p.1, .t (I g.from_), p.2.1, p.2.2]
 refine wR rfl (by simp [hr, hg, hcl, hi1, hi2, hw, h5c, getA, setA, qao, hmk, qac]; rfl) ?_
 try simp only [tq]
 have hbx : (σ ++ [V.Obj.cells [V.t (I g.rule), p.1, V.t (I g.from_), p.2.1, p.2.2] 0 0])[σ.length]? = some (.cells [V.t (I g.rule), p.1, V.t (I g.from_), p.2.1, p.2.2] 0 0) := by rw [getA]; rfl
 show W _ _ _ _ _ (σ ++ [V.Obj.cells [V.t (I g.rule), p.1, V.t (I g.from_), p.2.1, p.2.2] 0 0])
 have hF1 : Fr [] σ (σ ++ [V.Obj.cells [V.t (I g.rule), p.1, V.t (I g.from_), p.2.1, p.2.2] 0 0]) := Fr.app _ _ _
 have hlen1 : (σ ++ [V.Obj.cells [V.t (I g.rule), p.1, V.t (I g.from_), p.2.1, p.2.2] 0 0]).length = σ.length + 1 := by simp
 revert hbx hF1 hlen1
 generalize (σ ++ [V.Obj.cells [V.t (I g.rule), p.1, V.t (I g.from_), p.2.1, p.2.2] 0 0]) = σ1
 intro hbx hF1 hlen1
 refine wR rfl (by simp [qaa, qab, chunk, qao]; rfl) ?_
 refine wR rfl (by simp [qaa, qab, chunk, qao]; rfl) ?_
 refine wR rfl (by simp; rfl) ?_
 refine wB rfl ?_
 try simp only [tq]
 refine qat (I := fun m st τ => ∃ k l1 l2 v7 v8, m = g.ends.length - k ∧ k ≤ g.ends.length ∧ l1 ++ (lowE e (g.ends.drop k) (g.ranks.drop k)).1 = (lowE e g.ends g.ranks).1 ∧ l2 ++ (lowE e (g.ends.drop k) (g.ranks.drop k)).2 = (lowE e g.ends g.ranks).2 ∧ st.vars = [(0, .ptr r 0 0 6), (1, .t (I i)), (2, .t (I e)), (6, .ptr σ.length 0 0 5), (7, v7), (8, v8), (9, .t (I k))] ∧ IntS τ v7 σ1.length l1 ∧ IntS τ v8 (σ1.length + 1) l2 ∧ Fr [] σ1 τ ∧ l1.length ≤ 0 + k ∧ l2.length ≤ 0 + k) ?_ g.ends.length _ _ ⟨0, [], [], .sl σ1.length 0 0 0 1, .sl (σ1.length + 1) 0 0 0 1, rfl, Nat.zero_le _, by simp, by simp, by simp, ⟨0, 0, rfl, by rw [List.getElem?_append_right (Nat.le_refl _), Nat.sub_self]; rfl, Nat.le_refl _⟩, ⟨0, 0, rfl, by rw [List.getElem?_append_right (by omega), Nat.add_sub_cancel_left]; rfl, Nat.le_refl _⟩, Fr.app _ _ _, by simp, by simp⟩
 rintro m ⟨vars, scr⟩ τ ⟨k, l1, l2, v7, v8, rfl, hk, q1, q2, hvs, hs7, hs8, hF, hb1, hb2⟩
 simp only at hvs
 subst hvs
 have ltb := lt_of_get hbx
 have hbx' : τ[σ.length]? = some (.cells [V.t (I g.rule), p.1, V.t (I g.from_), p.2.1, p.2.2] 0 0) := by rw [hF.2 _ ltb (by simp)]; exact hbx
 have rer : ∀ {vv : V} {ll : List Nat}, Rd σ vv ll → Rd τ vv ll := fun hh => hh.keep fun j hj => by rw [hF.2 _ (by have := hh.locs j hj; omega) (by simp), hF1.2 _ (hh.locs j hj) (by simp)]
 have re' := rer re
 have rk' := rer rk
 refine wR rfl (by simp [hbx', re'.len]; rfl) ?_
 by_cases c5 : k < g.ends.length
 ·refine wT rfl (by simp [c5]) ?_
  refine wK ?_
  refine wB rfl ?_
  obtain ⟨x, hx⟩ := get_of_lt c5
  obtain ⟨y, hy⟩ := get_of_lt (show k < g.ranks.length by omega)
  obtain ⟨qx, hqx, hqx'⟩ := re'.idx hx
  obtain ⟨qy, hqy, hqy'⟩ := rk'.idx hy
  rw [qak hx, qak hy] at q1 q2
  simp only [lowE] at q1 q2
  refine wR rfl (by simp [hbx', hqx, hqx']; rfl) ?_
  by_cases c6 : x < e
  ·rw [if_pos c6] at q1 q2
   refine wT rfl (by simp [c6]) ?_
   obtain ⟨g7, w7, rfl, h71, h72⟩ := hs7
   obtain ⟨g8, w8, rfl, h81, h82⟩ := hs8
   have hbn1 : (l1.length + 1) * 8 ≤ 140737488355328 := by omega
   have hbn2 : (l2.length + 1) * 8 ≤ 140737488355328 := by omega
   refine wR rfl (by simp [hbx', hqx, hqx', qaa, qab, chunk, qao, qap, qaf, qag, h71, h72, hbn1]; rfl) ?_
   have hp7 := IntS.push (n := x) h71 h72
   have hne7 : σ1.length ≠ σ1.length + 1 := by omega
   have hbx2 : ∀ o, (τ.set σ1.length o)[σ.length]? = some (.cells [V.t (I g.rule), p.1, V.t (I g.from_), p.2.1, p.2.2] 0 0) := fun o => by rw [List.getElem?_set_ne (by omega)]; exact hbx'
   have h81' : ∀ o, (τ.set σ1.length o)[σ1.length + 1]? = some (.cells (ints l2) g8 w8) := fun o => by rw [List.getElem?_set_ne hne7]; exact h81
   have rk2 : ∀ o, Rd (τ.set σ1.length o) p.2.2 g.ranks := fun o => rk'.keep fun j hj => by rw [List.getElem?_set_ne (by have := rk.locs j hj; omega)]
   obtain ⟨qz, hqz, hqz'⟩ := (rk2 (.cells (ints l1 ++ [V.t (I x)]) (g7 + 1) w7)).idx hy
   refine wR rfl (by simp [hbx2, hqz, hqz', qaa, qab, chunk, qao, qap, qaf, qag, h81', h82, hbn2]; rfl) ?_
   have hp8 := IntS.push (n := y) (h81' (.cells (ints l1 ++ [V.t (I x)]) (g7 + 1) w7)) h82
   refine wR rfl (by simp [IntWalk.i64_in ((k : Int) + 1) (by omega)]; rfl) ?_
   try simp only [tq]
   refine ⟨g.ends.length - (k + 1), by omega, k + 1, l1 ++ [x], l2 ++ [y], .sl σ1.length (g7 + 1) 0 (l1.length + 1) 1, .sl (σ1.length + 1) (g8 + 1) 0 (l2.length + 1) 1, rfl, c5, by rw [← q1]; simp, by rw [← q2]; simp, by simp, hp7.keep (by rw [List.getElem?_set_ne (by omega)]), hp8, hF.trans (own2 := [σ1.length, σ1.length + 1]) ⟨by simp, fun j hj hn => by
    simp only [List.mem_cons, List.not_mem_nil, or_false, not_or] at hn
    rw [List.getElem?_set_ne (Ne.symm hn.2), List.getElem?_set_ne (Ne.symm hn.1)]⟩ (fun j hj => by
    simp only [List.mem_cons, List.not_mem_nil, or_false] at hj
    exact .inr (by omega)), by simp; omega, by simp; omega⟩
  ·rw [if_neg c6] at q1 q2
   refine wF rfl (by simp [c6]) ?_
   refine wK ?_
   refine wR rfl (by simp [IntWalk.i64_in ((k : Int) + 1) (by omega)]; rfl) ?_
   try simp only [tq]
   exact ⟨g.ends.length - (k + 1), by omega, k + 1, l1, l2, v7, v8, rfl, c5, q1, q2, by simp, hs7, hs8, hF, by omega, by omega⟩
 ·refine wF rfl (by simp [c5]) ?_
  repeat apply qaw
  refine qal ?_
  try simp only [tq, if_true]
  have : k = g.ends.length := by omega
  subst this
  rw [List.drop_length, b1, List.drop_length] at q1 q2
  simp only [lowE, List.append_nil] at q1 q2
  subst q1 q2
  clear rer re' rk'
  obtain ⟨g7, w7, rfl, h71, h72⟩ := hs7
  obtain ⟨g8, w8, rfl, h81, h82⟩ := hs8
  have hbn1 : ((lowE e g.ends g.ranks).1.length + 1) * 8 ≤ 140737488355328 := by omega
  have hbn2 : ((lowE e g.ends g.ranks).2.length + 1) * 8 ≤ 140737488355328 := by omega
  refine wR rfl (by simp [qaa, qab, chunk, qao, qap, qaf, qag, h71, h72, hbn1]; rfl) ?_
  have hp7 := IntS.push (n := e) h71 h72
  have hne7 : σ1.length ≠ σ1.length + 1 := by omega
  have h81' : ∀ o, (τ.set σ1.length o)[σ1.length + 1]? = some (.cells (ints (lowE e g.ends g.ranks).2) g8 w8) := fun o => by rw [List.getElem?_set_ne hne7]; exact h81
  have hrt : ∀ o, (τ.set σ1.length o)[r]? = some (.cells [.t rules, .t (.str text), .sl gl gg 0 s.goals.length 5, .t (I s.rank), .t (B s.fresh), .t (B s.full)] 0 0) := fun o => by
   rw [List.getElem?_set_ne (by omega), hF.2 r (by omega) (by simp), hF1.2 r lr (by simp)]; exact hr
  refine wR rfl (by simp [hrt, qaa, qab, chunk, qao, qap, qaf, qag, h81', h82, hbn2]; rfl) ?_
  have hp8 := IntS.push (n := s.rank) (h81' (.cells (ints (lowE e g.ends g.ranks).1 ++ [V.t (I e)]) (g7 + 1) w7)) h82
  refine wR rfl (by simp; rfl) ?_
  refine wB rfl ?_
  try simp only [tq]
  have hll := qvz e g.ends g.ranks
  refine qat (I := fun m st τ => ∃ k l1 l2 v7 v8, m = g.ends.length - k ∧ k ≤ g.ends.length ∧ l1 ++ (hiE e (g.ends.drop k) (g.ranks.drop k)).1 = qdu g e ∧ l2 ++ (hiE e (g.ends.drop k) (g.ranks.drop k)).2 = qcs g e s.rank ∧ st.vars = [(0, .ptr r 0 0 6), (1, .t (I i)), (2, .t (I e)), (6, .ptr σ.length 0 0 5), (7, v7), (8, v8), (10, .t (I k))] ∧ IntS τ v7 σ1.length l1 ∧ IntS τ v8 (σ1.length + 1) l2 ∧ Fr [] σ1 τ ∧ l1.length ≤ 1001 + k ∧ l2.length ≤ 1001 + k) ?_ g.ends.length _ _ ⟨0, (lowE e g.ends g.ranks).1 ++ [e], (lowE e g.ends g.ranks).2 ++ [s.rank], .sl σ1.length (g7 + 1) 0 ((lowE e g.ends g.ranks).1.length + 1) 1, .sl (σ1.length + 1) (g8 + 1) 0 ((lowE e g.ends g.ranks).2.length + 1) 1, rfl, Nat.zero_le _, rfl, rfl, by simp, hp7.keep (by rw [List.getElem?_set_ne (by omega)]), hp8, hF.trans (own2 := [σ1.length, σ1.length + 1]) ⟨by simp, fun j hj hn => by
    simp only [List.mem_cons, List.not_mem_nil, or_false, not_or] at hn
    rw [List.getElem?_set_ne (Ne.symm hn.2), List.getElem?_set_ne (Ne.symm hn.1)]⟩ (fun j hj => by
    simp only [List.mem_cons, List.not_mem_nil, or_false] at hj
    exact .inr (by omega)), by simp; omega, by simp; omega⟩
  rintro m ⟨vars, scr⟩ τ ⟨k, l1, l2, v7, v8, rfl, hk, q1, q2, hvs, hs7, hs8, hF, hb1, hb2⟩
  simp only at hvs
  subst hvs
  have ltb := lt_of_get hbx
  have hbx' : τ[σ.length]? = some (.cells [V.t (I g.rule), p.1, V.t (I g.from_), p.2.1, p.2.2] 0 0) := by rw [hF.2 _ ltb (by simp)]; exact hbx
  have rer : ∀ {vv : V} {ll : List Nat}, Rd σ vv ll → Rd τ vv ll := fun hh => hh.keep fun j hj => by rw [hF.2 _ (by have := hh.locs j hj; omega) (by simp), hF1.2 _ (hh.locs j hj) (by simp)]
  have re' := rer re
  have rk' := rer rk
  refine wR rfl (by simp [hbx', re'.len]; rfl) ?_
  by_cases c5 : k < g.ends.length
  ·refine wT rfl (by simp [c5]) ?_
   refine wK ?_
   refine wB rfl ?_
   obtain ⟨x, hx⟩ := get_of_lt c5
   obtain ⟨y, hy⟩ := get_of_lt (show k < g.ranks.length by omega)
   obtain ⟨qx, hqx, hqx'⟩ := re'.idx hx
   obtain ⟨qy, hqy, hqy'⟩ := rk'.idx hy
   rw [qak hx, qak hy] at q1 q2
   simp only [hiE] at q1 q2
   refine wR rfl (by simp [hbx', hqx, hqx']; rfl) ?_
   by_cases c6 : e < x
   ·rw [if_pos c6] at q1 q2
    refine wT rfl (by simp [c6]) ?_
    obtain ⟨g7, w7, rfl, h71, h72⟩ := hs7
    obtain ⟨g8, w8, rfl, h81, h82⟩ := hs8
    have hbn1 : (l1.length + 1) * 8 ≤ 140737488355328 := by omega
    have hbn2 : (l2.length + 1) * 8 ≤ 140737488355328 := by omega
    refine wR rfl (by simp [hbx', hqx, hqx', qaa, qab, chunk, qao, qap, qaf, qag, h71, h72, hbn1]; rfl) ?_
    have hp7 := IntS.push (n := x) h71 h72
    have hne7 : σ1.length ≠ σ1.length + 1 := by omega
    have hbx2 : ∀ o, (τ.set σ1.length o)[σ.length]? = some (.cells [V.t (I g.rule), p.1, V.t (I g.from_), p.2.1, p.2.2] 0 0) := fun o => by rw [List.getElem?_set_ne (by omega)]; exact hbx'
    have h81' : ∀ o, (τ.set σ1.length o)[σ1.length + 1]? = some (.cells (ints l2) g8 w8) := fun o => by rw [List.getElem?_set_ne hne7]; exact h81
    have rk2 : ∀ o, Rd (τ.set σ1.length o) p.2.2 g.ranks := fun o => rk'.keep fun j hj => by rw [List.getElem?_set_ne (by have := rk.locs j hj; omega)]
    obtain ⟨qz, hqz, hqz'⟩ := (rk2 (.cells (ints l1 ++ [V.t (I x)]) (g7 + 1) w7)).idx hy
    refine wR rfl (by simp [hbx2, hqz, hqz', qaa, qab, chunk, qao, qap, qaf, qag, h81', h82, hbn2]; rfl) ?_
    have hp8 := IntS.push (n := y) (h81' (.cells (ints l1 ++ [V.t (I x)]) (g7 + 1) w7)) h82
    refine wR rfl (by simp [IntWalk.i64_in ((k : Int) + 1) (by omega)]; rfl) ?_
    try simp only [tq]
    refine ⟨g.ends.length - (k + 1), by omega, k + 1, l1 ++ [x], l2 ++ [y], .sl σ1.length (g7 + 1) 0 (l1.length + 1) 1, .sl (σ1.length + 1) (g8 + 1) 0 (l2.length + 1) 1, rfl, c5, by rw [← q1]; simp, by rw [← q2]; simp, by simp, hp7.keep (by rw [List.getElem?_set_ne (by omega)]), hp8, hF.trans (own2 := [σ1.length, σ1.length + 1]) ⟨by simp, fun j hj hn => by
     simp only [List.mem_cons, List.not_mem_nil, or_false, not_or] at hn
     rw [List.getElem?_set_ne (Ne.symm hn.2), List.getElem?_set_ne (Ne.symm hn.1)]⟩ (fun j hj => by
     simp only [List.mem_cons, List.not_mem_nil, or_false] at hj
     exact .inr (by omega)), by simp; omega, by simp; omega⟩
   ·rw [if_neg c6] at q1 q2
    refine wF rfl (by simp [c6]) ?_
    refine wK ?_
    refine wR rfl (by simp [IntWalk.i64_in ((k : Int) + 1) (by omega)]; rfl) ?_
    try simp only [tq]
    exact ⟨g.ends.length - (k + 1), by omega, k + 1, l1, l2, v7, v8, rfl, c5, q1, q2, by simp, hs7, hs8, hF, by omega, by omega⟩
  ·refine wF rfl (by simp [c5]) ?_
   repeat apply qaw
   refine qal ?_
   try simp only [tq, if_true]
   have : k = g.ends.length := by omega
   subst this
   rw [List.drop_length, b1, List.drop_length] at q1 q2
   simp only [hiE, List.append_nil] at q1 q2
   subst q1 q2
   clear rer re' rk'
   obtain ⟨g7, w7, rfl, h71, h72⟩ := hs7
   obtain ⟨g8, w8, rfl, h81, h82⟩ := hs8
   have hrt2 : τ[r]? = some (.cells [.t rules, .t (.str text), .sl gl gg 0 s.goals.length 5, .t (I s.rank), .t (B s.fresh), .t (B s.full)] 0 0) := by
    rw [hF.2 r (by omega) (by simp), hF1.2 r lr (by simp)]; exact hr
   have hgt2 : τ[gl]? = some (.cells (qam s.goals vs) gg gw) := by
    rw [hF.2 gl (by omega) (by simp), hF1.2 gl lg (by simp)]; exact hg
   have lrt := lt_of_get hrt2
   have lgt := lt_of_get hgt2
   have kr : ∀ o, (τ.set r o)[r]? = some o := fun o => List.getElem?_set_self lrt
   have kg : ∀ o, (τ.set r o)[gl]? = some (.cells (qam s.goals vs) gg gw) := fun o => by rw [List.getElem?_set_ne n1]; exact hgt2
   have kr2 : ∀ o o2, ((τ.set r o).set gl o2)[r]? = some o := fun o o2 => by rw [List.getElem?_set_ne (Ne.symm n1)]; exact kr o
   have kg2 : ∀ o o2, ((τ.set r o).set gl o2)[gl]? = some o2 := fun o o2 => List.getElem?_set_self (by simpa using lgt)
   have hi3 : i * 5 + 3 + 1 ≤ s.goals.length * 5 := by omega
   have hi4 : i * 5 + 4 + 1 ≤ s.goals.length * 5 := by omega
   refine wR rfl (by simp [hrt2, IntWalk.i64_in ((s.rank : Int) + 1) (by omega)]; rfl) ?_
   refine wR rfl (by simp [kr, List.set_set]; rfl) ?_
   refine wR rfl (by simp [kr, kg, hcl, hi1, hi3, qac]; rfl) ?_
   refine wR rfl (by simp [kr2, kg2, hcl, hi1, hi4, qac, List.set_set]; rfl) ?_
   try simp only [tq]
   have hk1 : ∀ j, j ≠ r → j ≠ gl → ∀ o o2, ((τ.set r o).set gl o2)[j]? = τ[j]? := fun j h1 h2 o o2 => by rw [List.getElem?_set_ne (Ne.symm h2), List.getElem?_set_ne (Ne.symm h1)]
   have hk0 : ∀ j, j < σ.length → τ[j]? = σ[j]? := fun j hj => by rw [hF.2 j (by omega) (by simp), hF1.2 j hj (by simp)]
   refine ⟨trivial, _, (by simp [Tryz.f53]), rfl, vs.set i (p.1, .sl σ1.length g7 0 (qdu g e).length 1, .sl (σ1.length + 1) g8 0 (qcs g e s.rank).length 1), ⟨⟨gg, gg, Nat.le_refl _, ?_, ?_⟩, ⟨?_, fun j gj pj hgj hpj => ?_⟩, n1, fun j hj => ?_, fun g' hg' => ?_⟩, ⟨?_, fun j hj hm => ?_⟩⟩
   ·rw [kr2]
    simp only [qbr, List.length_set]
    congr 3
   ·rw [kg2]
    exact congrArg (fun c => some (V.Obj.cells c gg gg)) (qey (g' := { g with ends := qdu g e, ranks := qcs g e s.rank }) (q := (p.1, .sl σ1.length g7 0 (qdu g e).length 1, .sl (σ1.length + 1) g8 0 (qcs g e s.rank).length 1)) hgi hp rfl rfl rfl).symm
   ·simp only [List.length_set]; exact R.rd.1
   ·by_cases hji : i = j
    ·subst hji
     rw [List.getElem?_set_self hi] at hgj
     rw [List.getElem?_set_self (lt_of_get hp)] at hpj
     simp only [Option.some.injEq] at hgj hpj
     subst hgj hpj
     refine ⟨ra.keep fun j hj => ?_, .inr (.inr ⟨σ1.length, g7, w7, rfl, ?_, h72⟩), .inr (.inr ⟨σ1.length + 1, g8, w8, rfl, ?_, h82⟩)⟩
     ·have ap := R.apart j (qbl hp j (.inl hj))
      rw [hk1 j ap.1 ap.2, hk0 j (ra.locs j hj)]
     ·rw [hk1 _ (by omega) (by omega)]; exact h71
     ·rw [hk1 _ (by omega) (by omega)]; exact h81
    ·rw [List.getElem?_set_ne hji] at hgj hpj
     obtain ⟨r1, r2, r3⟩ := R.rd.2 j gj pj hgj hpj
     have pj' := qbl hpj
     refine ⟨r1.keep fun x hx => ?_, r2.keep fun x hx => ?_, r3.keep fun x hx => ?_⟩
     ·have ap := R.apart x (pj' x (.inl hx))
      rw [hk1 x ap.1 ap.2, hk0 x (r1.locs x hx)]
     ·have ap := R.apart x (pj' x (.inr (.inl hx)))
      rw [hk1 x ap.1 ap.2, hk0 x (r2.locs x hx)]
     ·have ap := R.apart x (pj' x (.inr (.inr hx)))
      rw [hk1 x ap.1 ap.2, hk0 x (r3.locs x hx)]
   ·obtain ⟨pj, hpj, hj⟩ := List.mem_flatMap.1 hj
    rcases List.mem_or_eq_of_mem_set hpj with q | rfl
    ·exact R.apart j (List.mem_flatMap.2 ⟨pj, q, hj⟩)
    ·simp only [List.mem_append, locV, List.mem_singleton] at hj
     rcases hj with q | q | q
     ·exact R.apart j (qbl hp j (.inl q))
     ·subst q; exact ⟨by omega, by omega⟩
     ·subst q; exact ⟨by omega, by omega⟩
   ·rcases List.mem_or_eq_of_mem_set hg' with q | rfl
    ·exact R.args g' q
    ·exact R.args g (List.mem_of_getElem? hgi)
   ·simp only [List.length_set]
    have := hF.1
    omega
   ·simp only [List.mem_cons, List.not_mem_nil, or_false, not_or] at hm
    rw [hk1 j hm.1 hm.2, hk0 j hj]
end X
namespace X
attribute [-simp] lenV idxV getElem?_pos qcc cellsOf qbx
/-! ### Regions whose loads are looked at again -/
theorem qwl : ∀ l : List Nat, eqL l l = true
 | [] => rfl
 | a :: r => by simp only [eqL, Go.V.beq_self, qwl r, Bool.and_self]
mutual
theorem qru : ∀ x : T, beqT x x = true
 | .undef => rfl
 | .bool b => by cases b <;> rfl
 | .int k n => by
  have h1 : beqK k k = true := by cases k <;> rfl
  have h2 : beqI n n = true := by cases n <;> simp only [beqI, Go.V.beq_self]
  simp only [beqT, h1, h2, Bool.and_self]
 | .str s => by simp only [beqT, qwl]
 | .nilp => rfl
 | .nils => rfl
 | .nilm => rfl
 | .nilf => rfl
 | .agg a => by simp only [beqT, qeu a]
 | .tup a => by simp only [beqT, qeu a]
 | .list a => by simp only [beqT, qeu a]
 | .snap a => by simp only [beqT, qeu a]
theorem qeu : ∀ x : List T, qle x x = true
 | [] => rfl
 | x :: r => by simp only [qle, qru x, qeu r, Bool.and_self]
end
mutual
theorem qso : ∀ x : V, beqV x x = true
 | .t x => by simp only [beqV, qru x]
 | .sl .. => by simp only [beqV, Go.V.beq_self, Bool.and_self]
 | .ptr .. => by simp only [beqV, Go.V.beq_self, Bool.and_self]
 | .mp _ => by simp only [beqV, Go.V.beq_self]
 | .fn f a => by simp only [beqV, Go.V.beq_self, qev a, Bool.and_self]
 | .bm f a => by simp only [beqV, Go.V.beq_self, qev a, Bool.and_self]
 | .agg a => by simp only [beqV, qev a]
 | .tup a => by simp only [beqV, qev a]
theorem qev : ∀ x : List V, qmy x x = true
 | [] => rfl
 | x :: r => by simp only [qmy, qso x, qev r, Bool.and_self]
end
def okL (stop : List Nat) (f : Nat × TI × V × V → Bool) (ls : Lds) : Bool := ls.all fun l => memN l.1 stop || f l
theorem qqd {s stop : List Nat} {f : Nat × TI × V × V → Bool} : ∀ {ls : Lds}, okL stop f ls = true → okL stop f (qhk s ls) = true
 | [], h => h
 | l :: r, h => by
  simp only [okL, List.all_cons, Bool.and_eq_true] at h
  simp only [qhk]
  split
  ·exact qqd h.2
  ·simp only [okL, List.all_cons, Bool.and_eq_true]
   exact ⟨h.1, qqd h.2⟩
theorem qph {stop : List Nat} {f : Nat × TI × V × V → Bool} : ∀ {ls : Lds}, okL stop f ls = true → (qhk stop ls).all f = true
 | [], _ => rfl
 | l :: r, h => by
  simp only [okL, List.all_cons, Bool.and_eq_true, Bool.or_eq_true] at h
  simp only [qhk]
  split
  ·exact qph h.2
  ·rename_i e
   simp only [List.all_cons, Bool.and_eq_true]
   refine ⟨?_, qph h.2⟩
   rcases h.1 with h1 | h1
   ·rw [e] at h1; cases h1
   ·exact h1
theorem okL_nil (stop : List Nat) (f : Nat × TI × V × V → Bool) : okL stop f [] = true := rfl
theorem okL_cons (stop : List Nat) (f : Nat × TI × V × V → Bool) (l : Nat × TI × V × V) (r : Lds) : okL stop f (l :: r) = ((memN l.1 stop || f l) && okL stop f r) := rfl
theorem qzw {σ : Store} {i : TI} {x v : V} (h : qbx σ i x = some v) : okAt σ i x v = true := by
 unfold okAt
 split
 ·split
  ·rw [h]; exact qso v
  ·rfl
 ·rfl
theorem W_regD {S : Sy} {A : Ann} {id : Nat} {ops : Array Oper} {Q : Ex → St → Store → Prop} {st st' : St} {σ σ' : Store} (P : Array Nat → Bool) (hs : P (Region.before ops) = true) (hbad : A.bad.contains id = false) (hdyn : A.dyn.contains id = true)
  (h : ∀ b : Array Nat, P b = true → qbd (LD S) S.pf S.ty A id ops b 0 ops.toList { st with scr := [] } σ [(ops.size, σ)] [] = some (st', σ')) (hq : Q .normal st' σ') : W S A (.region id ops true) Q st σ := by
 refine qpp ?_ hq
 unfold qcy
 rw [if_neg (by rw [hbad]; simp), if_pos (by rw [hdyn]; rfl)]
 exact h _ hs

/-! ### A look -/
def bools (l : List Bool) : List V := l.map fun b => V.t (B b)
@[simp] theorem bools_len (l : List Bool) : (bools l).length = l.length := by simp [bools]
@[simp] theorem bools_get (l : List Bool) (i : Nat) : (bools l)[i]? = (l[i]?).map fun b => V.t (B b) := by simp [bools]
theorem q3p (l : List Bool) (i : Nat) (b : Bool) : (bools l).set i (V.t (B b)) = bools (l.set i b) := by simp [bools, List.map_set]
def qnj : List At → List Bool → Option (List Bool)
 | [], f => some f
 | a :: r, f => if a.1 < f.length then qnj r (f.set a.1 true) else none
def qce : T → Option (List T)
 | .nils => some []
 | .list l => some l
 | _ => none
theorem qdt {x : T} {l : List T} (h : qce x = some l) : Syms x l := by
 unfold qce at h
 split at h
 ·cases h; exact .inl ⟨rfl, rfl⟩
 ·cases h; exact .inr rfl
 ·cases h
theorem Syms.idxk {xs : T} {l : List T} (h : Syms xs l) {i : Nat} {cs : List T} {n : Nat} (hi : l[i]? = some (.agg cs)) (hn : cs.length = n) : idxV n (.t xs) (i : Int) = some (.t (.snap cs)) := by
 rcases h with ⟨rfl, rfl⟩ | rfl
 ·simp at hi
 ·simp [hi, hn]
def qlf (K : Kn) (text : List Nat) (ps : T) (g : Gl) (x : T) (f : List Bool) (s : Rs) : Option (List Bool × Rs) :=
 match x with
 | .agg [xs] => match qce xs with
  | none => none
  | some syms => if syms.length ≤ 1048576 then match K.env0 ps g.args with
   | none => none
   | some env => match altS K text syms [(g.from_, env)] s with
    | none => none
    | some (l, s') => if l.length ≤ 1000000000000 then match qnj l f with
     | none => none
     | some f' => some (f', s')
     else none
   else none
 | _ => none
def qfb (K : Kn) (text : List Nat) (ps : T) (g : Gl) : List T → List Bool → Rs → Option (List Bool × Rs)
 | [], f, s => some (f, s)
 | x :: r, f, s => match qlf K text ps g x f s with
  | none => none
  | some (f', s') => qfb K text ps g r f' s'
def qgd (i : Nat) (ends : List Nat) : List Bool → Nat → Rs → Option Rs
 | [], _, s => some s
 | b :: r, p, s => if b && !ends.contains p then match addS s i p with
     | none => none
     | some s' => qgd i ends r (p + 1) s'
  else qgd i ends r (p + 1) s
def qpg (K : Kn) (rules : List T) (text : List Nat) (s : Rs) (i : Nat) : Option Rs :=
 match s.goals[i]? with
 | none => none
 | some g => match rules[g.rule]? with
  | some (.agg [.str nm, ps, az]) => match qce az with
   | none => none
   | some al => if al.length ≤ 1048576 ∧ text.length ≤ 1048576 ∧ g.ends.length ≤ 1000 then match qfb K text ps g al (List.replicate (text.length + 1) false) s with
    | none => none
    | some (f, s1) => qgd i g.ends f 0 s1
    else none
  | _ => none
theorem RdP.not_bools {σ : Store} {gs : List Gl} {vs : List V3} (h : RdP σ gs vs) {d g w : Nat} {f : List Bool} (hd : σ[d]? = some (.cells (bools f) g w)) (hf : 0 < f.length) : d ∉ qbc vs := by
 intro hm
 obtain ⟨p, hp, hj⟩ := List.mem_flatMap.1 hm
 obtain ⟨i, hi⟩ := List.getElem?_of_mem hp
 obtain ⟨gl, hg⟩ := get_of_lt (show i < gs.length by rw [← h.1]; exact lt_of_get hi)
 obtain ⟨h1, h2, h3⟩ := h.2 i gl p hg hi
 have key : ∀ {v : V} {l : List Nat}, Rd σ v l → d ∈ locV v → False := by
  intro v l hr hm
  rcases hr with ⟨rfl, _⟩ | rfl | ⟨d', g', w', rfl, q1, q2⟩
  ·simp [locV] at hm
  ·simp [locV] at hm
  ·simp only [locV, List.mem_singleton] at hm
   subst hm
   rw [hd] at q1
   simp only [Option.some.injEq, V.Obj.cells.injEq] at q1
   have e := q1.1
   cases f with
   | nil => simp at hf
   | cons b f => cases l with
    | nil => simp [bools, ints] at e
    | cons n l => simp [bools, ints] at e
 simp only [List.mem_append] at hj
 rcases hj with hj | hj | hj
 ·exact key h1 hj
 ·exact key h2 hj
 ·exact key h3 hj
theorem AtS.not_bools {σ : Store} {v : V} {d' : Nat} {l : List At} (h : AtS σ v d' l) {d g w : Nat} {f : List Bool} (hd : σ[d]? = some (.cells (bools f) g w)) (hf : 0 < f.length) : d' ≠ d := by
 rintro rfl
 obtain ⟨g', w', _, q1, _⟩ := h
 rw [hd] at q1
 simp only [Option.some.injEq, V.Obj.cells.injEq] at q1
 have e := q1.1
 cases f with
 | nil => simp at hf
 | cons b f => cases l with
  | nil => simp [bools, qcr] at e
  | cons n l => simp [bools, qcr] at e

theorem getB (σ r : Store) : (σ ++ r)[σ.length + 1]? = r[1]? := by
 rw [List.getElem?_append_right (by omega), Nat.add_sub_cancel_left]
theorem setB (σ r : Store) (x : Go.V.Obj) : (σ ++ r).set (σ.length + 1) x = σ ++ r.set 1 x := by
 rw [List.set_append_right _ _ (by omega), Nat.add_sub_cancel_left]
theorem getC (σ r : Store) : (σ ++ r)[σ.length + 2]? = r[2]? := by
 rw [List.getElem?_append_right (by omega), Nat.add_sub_cancel_left]
theorem qrd : ∀ n, qab [V.t (B false)] n = bools (List.replicate n false)
 | 0 => rfl
 | n + 1 => by
  simp only [qab, qrd n, List.replicate_succ]
  rfl
theorem look_ld {K : Kn} {rules : List T} {text : List Nat} (hK : KnOk K (.list rules) text) {r gl : Nat} {σ : Store} {vs : List V3} {s s' : Rs} (R : Rep (.list rules) text r gl σ vs s) (i : Nat) (h : qpg K rules text s i = some s') :
  ∃ σ' vs', LD S 32 [.ptr r 0 0 6, .t (I i)] σ = some (.t (.tup []), σ') ∧ Rep (.list rules) text r gl σ' vs' s' ∧ Fr [r, gl] σ σ' := by
 unfold qpg at h
 split at h
 ·cases h
 rename_i g hgi
 split at h
 rotate_left
 ·cases h
 rename_i nm ps az hrule
 split at h
 ·cases h
 rename_i al hal
 split at h
 rotate_left
 ·cases h
 rename_i hb
 obtain ⟨b1, b2, b3⟩ := hb
 split at h
 ·cases h
 rename_i f1 s1 hlooks
 have hsy := qdt hal
 obtain ⟨gg, gw, hw, hr, hg⟩ := R.run
 simp only [qbr] at hr
 have n1 := R.ne
 have lr := lt_of_get hr
 have lg := lt_of_get hg
 have hi := lt_of_get hgi
 obtain ⟨p, hp⟩ := get_of_lt (show i < vs.length by rw [R.rd.1]; exact hi)
 obtain ⟨c0, c1, c2, c3, c4⟩ := qcg hgi hp
 have hcl := qbg s.goals vs R.rd.1
 obtain ⟨ra, re, rk⟩ := R.rd.2 i g p hgi hp
 have hi1 : (i : Int) < s.goals.length := by omega
 have hi2 : i * 5 + 5 ≤ s.goals.length * 5 := by omega
 have h5c : ((qam s.goals vs).drop (i * 5)).take 5 = [.t (I g.rule), p.1, .t (I g.from_), p.2.1, p.2.2] := by
  rw [qak c0, qak c1, qak c2, qak c3, qak c4]
  rfl
 suffices hh : ∃ v σ', LV S 32 [.ptr r 0 0 6, .t (I i)] σ = some (v, σ') ∧ v = .t (.tup []) ∧ ∃ vs', Rep (.list rules) text r gl σ' vs' s' ∧ Fr [r, gl] σ σ' by
  obtain ⟨v, σ', h1, rfl, vs', h2, h3⟩ := hh
  exact ⟨σ', vs', by rw [qbt (A := A32) rfl rfl rfl]; exact h1, h2, h3⟩
 refine qaq (A := A32) rfl Tryz.func32 rfl ?_
 have hmk := qvl [.t (I g.rule), p.1, .t (I g.from_), p.2.1, p.2.2]
 refine wR rfl (by simp [hr, hg, hcl, hi1, hi2, hw, h5c, getA, setA, qao, hmk, qac]; rfl) ?_
 have hrA : ∀ o, (σ ++ o)[r]? = some (.cells [.t (.list rules), .t (.str text), .sl gl gg 0 s.goals.length 5, .t (I s.rank), .t (B s.fresh), .t (B s.full)] 0 0) := fun o => by rw [List.getElem?_append_left lr]; exact hr
 refine wR rfl (by simp [hrA, getA, getB, setB, hrule, qao, qac]; rfl) ?_
 have hnn : (text.length : Int) + 1 = ((text.length + 1 : Nat) : Int) := by omega
 have hnb : (text.length : Int) + 1 ≤ 140737488355328 := by omega
 have hrp := qrd (text.length + 1)
 refine wR rfl (by simp [hrA, IntWalk.i64_in ((text.length : Int) + 1) (by omega), hnb, hrp]; rfl) ?_
 try simp only [tq]
 have hbx : (σ ++ [V.Obj.cells [V.t (I g.rule), p.1, V.t (I g.from_), p.2.1, p.2.2] 0 0, V.Obj.cells [V.t (.str nm), V.t ps, V.t az] 0 0, V.Obj.cells (bools (List.replicate (text.length + 1) false)) 0 0])[σ.length]? = some (.cells [V.t (I g.rule), p.1, V.t (I g.from_), p.2.1, p.2.2] 0 0) := by rw [getA]; rfl
 have hby : (σ ++ [V.Obj.cells [V.t (I g.rule), p.1, V.t (I g.from_), p.2.1, p.2.2] 0 0, V.Obj.cells [V.t (.str nm), V.t ps, V.t az] 0 0, V.Obj.cells (bools (List.replicate (text.length + 1) false)) 0 0])[σ.length + 1]? = some (.cells [V.t (.str nm), V.t ps, V.t az] 0 0) := by rw [getB]; rfl
 have hbf : (σ ++ [V.Obj.cells [V.t (I g.rule), p.1, V.t (I g.from_), p.2.1, p.2.2] 0 0, V.Obj.cells [V.t (.str nm), V.t ps, V.t az] 0 0, V.Obj.cells (bools (List.replicate (text.length + 1) false)) 0 0])[σ.length + 2]? = some (.cells (bools (List.replicate (text.length + 1) false)) 0 0) := by rw [getC]; rfl
 have hF0 : Fr [r, gl] σ (σ ++ [V.Obj.cells [V.t (I g.rule), p.1, V.t (I g.from_), p.2.1, p.2.2] 0 0, V.Obj.cells [V.t (.str nm), V.t ps, V.t az] 0 0, V.Obj.cells (bools (List.replicate (text.length + 1) false)) 0 0]) := Fr.app _ _ _
 have R0 := R.fr (σ' := σ ++ [V.Obj.cells [V.t (I g.rule), p.1, V.t (I g.from_), p.2.1, p.2.2] 0 0, V.Obj.cells [V.t (.str nm), V.t ps, V.t az] 0 0, V.Obj.cells (bools (List.replicate (text.length + 1) false)) 0 0]) (fun j hj => List.getElem?_append_left hj)
 revert hbx hby hbf hF0 R0
 generalize (σ ++ [V.Obj.cells [V.t (I g.rule), p.1, V.t (I g.from_), p.2.1, p.2.2] 0 0, V.Obj.cells [V.t (.str nm), V.t ps, V.t az] 0 0, V.Obj.cells (bools (List.replicate (text.length + 1) false)) 0 0]) = τ0
 intro hbx hby hbf hF0 R0
 refine wR rfl (by simp; rfl) ?_
 refine wB rfl ?_
 try simp only [tq]
 refine qat (I := fun m st τ => ∃ k f sk vk, m = al.length - k ∧ k ≤ al.length ∧ f.length = text.length + 1 ∧ qfb K text ps g (al.drop k) f sk = some (f1, s1) ∧ st.vars = [(0, .ptr r 0 0 6), (1, .t (I i)), (4, .ptr σ.length 0 0 5), (5, .ptr (σ.length + 1) 0 0 3), (6, .sl (σ.length + 2) 0 0 (text.length + 1) 1), (7, .t (I k))] ∧ τ[σ.length + 2]? = some (.cells (bools f) 0 0) ∧ Rep (.list rules) text r gl τ vk sk ∧ Fr [r, gl] σ τ ∧ τ[σ.length]? = some (.cells [V.t (I g.rule), p.1, V.t (I g.from_), p.2.1, p.2.2] 0 0) ∧ τ[σ.length + 1]? = some (.cells [V.t (.str nm), V.t ps, V.t az] 0 0)) ?_ al.length _ _ ⟨0, _, s, vs, rfl, Nat.zero_le _, by simp, hlooks, by simp, hbf, R0, hF0, hbx, hby⟩
 clear hlooks hbx hby hbf hF0 R0
 rintro m ⟨vars, scr⟩ τ ⟨k, f, sk, vk, rfl, hk, hfl, hl, hvs, hbf, Rk, hF, hbx, hby⟩
 simp only at hvs
 subst hvs
 refine wR rfl (by simp [hby, hsy.len]; rfl) ?_
 by_cases d1 : k < al.length
 ·refine wT rfl (by simp [d1]) ?_
  refine wK ?_
  refine wB rfl ?_
  try simp only [tq]
  obtain ⟨x, hx⟩ := get_of_lt d1
  rw [qak hx] at hl
  simp only [qfb] at hl
  split at hl
  ·cases hl
  rename_i f' s2 hone
  unfold qlf at hone
  split at hone
  rotate_left
  ·cases hone
  rename_i xs
  split at hone
  ·cases hone
  rename_i syms hsyms
  split at hone
  rotate_left
  ·cases hone
  rename_i hsl
  split at hone
  ·cases hone
  rename_i env henv
  split at hone
  ·cases hone
  rename_i l s3 halt
  split at hone
  rotate_left
  ·cases hone
  rename_i hll
  split at hone
  ·cases hone
  rename_i f2 hmark
  cases hone
  obtain ⟨hel, hen⟩ := hK.env0 _ _ _ henv
  have own : ∀ {v : V} {ll : List Nat}, Rd σ v ll → (∀ j ∈ locV v, j ≠ r ∧ j ≠ gl) → Rd τ v ll := fun hh ha => hh.keep fun j hj => hF.2 j (hh.locs j hj) (by have := ha j hj; simp [this])
  have ra' := own ra (fun j hj => R.apart j (qbl hp j (.inl hj)))
  have hen' := hen τ p.1 ra'
  have hix := hsy.idxk hx (n := 1) rfl
  have lk := Rk.lt
  have lbf := lt_of_get hbf
  have Rb := Rk.fr (σ' := τ ++ [boxA (g.from_, env)]) (fun j hj => List.getElem?_append_left hj)
  have hAt : AtS (τ ++ [boxA (g.from_, env)]) (.sl τ.length 0 0 1 2) τ.length [(g.from_, env)] := ⟨0, 0, rfl, by rw [getA]; rfl, Nat.le_refl _⟩
  obtain ⟨v', d', τ2, v2, q1, q2, q3, q4, q5, q6⟩ := alt_ld hK (qdt hsyms) hsl Rb hAt ⟨by omega, by omega⟩ (fun a ha => by simp only [List.mem_singleton] at ha; subst ha; exact hel) halt
  simp only [boxA] at q1
  have hbx2 : τ2[σ.length]? = some (.cells [V.t (I g.rule), p.1, V.t (I g.from_), p.2.1, p.2.2] 0 0) := by
   rw [q4.2 _ (by simp; omega) (by simp; omega), List.getElem?_append_left (by omega)]; exact hbx
  have hby2 : τ2[σ.length + 1]? = some (.cells [V.t (.str nm), V.t ps, V.t az] 0 0) := by
   rw [q4.2 _ (by simp; omega) (by simp; omega), List.getElem?_append_left (by omega)]; exact hby
  have hbxA : ∀ o, (τ ++ o)[σ.length]? = some (.cells [V.t (I g.rule), p.1, V.t (I g.from_), p.2.1, p.2.2] 0 0) := fun o => by rw [List.getElem?_append_left (by omega)]; exact hbx
  have hbyA : ∀ o, (τ ++ o)[σ.length + 1]? = some (.cells [V.t (.str nm), V.t ps, V.t az] 0 0) := fun o => by rw [List.getElem?_append_left (by omega)]; exact hby
  have pfa : S.pf 50 = false := rfl
  have pfb : S.pf 51 = false := rfl
  repeat apply qaw
  refine W_regD (fun _ => true) rfl rfl rfl (fun b hb => by
   simp (maxDischargeDepth := 12) [qbd, qdp, chkH, qph, qqd, okL_nil, okL_cons, qzw, hby, hbx, hix, hen', qpu, q1, pfa, pfb, hbx2, hby2, hbxA, hbyA, qaa, qab, qao, qac]
   constructor <;> rfl) ?_
  try simp only [tq]
  have hbf2 : τ2[σ.length + 2]? = some (.cells (bools f) 0 0) := by
   rw [q4.2 _ (by simp; omega) (by simp; omega), List.getElem?_append_left (by omega)]; exact hbf
  have hF2 : Fr [r, gl] τ τ2 := (Fr.app [r, gl] τ _).trans q4 (fun j hj => .inl hj)
  have hd' := q2.not_bools hbf2 (by omega)
  have hnot := q3.rd.not_bools hbf2 (by omega)
  clear q1 hen' hen hAt Rb hbxA hbyA
  refine wR rfl (by simp; rfl) ?_
  refine wB rfl ?_
  try simp only [tq]
  refine qat (I := fun m st τ3 => ∃ j f3, m = l.length - j ∧ j ≤ l.length ∧ f3.length = text.length + 1 ∧ qnj (l.drop j) f3 = some f' ∧ st.vars = [(0, .ptr r 0 0 6), (1, .t (I i)), (4, .ptr σ.length 0 0 5), (5, .ptr (σ.length + 1) 0 0 3), (6, .sl (σ.length + 2) 0 0 (text.length + 1) 1), (7, .t (I k)), (8, v'), (9, .t (I j))] ∧ τ3[σ.length + 2]? = some (.cells (bools f3) 0 0) ∧ Fr [σ.length + 2] τ2 τ3) ?_ l.length _ _ ⟨0, f, rfl, Nat.zero_le _, hfl, hmark, by simp, hbf2, Fr.refl _ _⟩
  clear hmark hbf2
  rintro m ⟨vars, scr⟩ τ3 ⟨j, f3, rfl, hj, hfl3, hmark, hvs, hbf3, hF3⟩
  simp only at hvs
  subst hvs
  have l2 := q3.lt
  have ld' := q2.lt
  have hAt3 : AtS τ3 v' d' l := q2.keep (hF3.2 d' ld' (by simpa using hd'))
  refine wR rfl (by simp [hAt3.rd.len]; rfl) ?_
  by_cases d2 : j < l.length
  ·refine wT rfl (by simp [d2]) ?_
   refine wK ?_
   refine wB rfl ?_
   try simp only [tq]
   obtain ⟨a, ha⟩ := get_of_lt d2
   obtain ⟨e1, e2⟩ := qgo ha
   have hcl := qgq l
   have hsz : j * 2 + 1 ≤ l.length * 2 := by omega
   have hj1 : (j : Int) < l.length := by omega
   rw [qak ha] at hmark
   simp only [qnj] at hmark
   split at hmark
   rotate_left
   ·cases hmark
   rename_i hpos
   obtain ⟨gA, wA, rfl, hA1, hA2⟩ := hAt3
   have hp1 : (a.1 : Int) < (text.length : Int) + 1 := by omega
   have hp2 : a.1 + 1 ≤ text.length + 1 := by omega
   refine wR rfl (by simp [hA1, hcl, hsz, hj1, hA2, e1, hbf3, hfl3, hp1, hp2, qac]; rfl) ?_
   refine wR rfl (by simp [IntWalk.i64_in ((j : Int) + 1) (by omega)]; rfl) ?_
   try simp only [tq]
   refine ⟨l.length - (j + 1), by omega, j + 1, f3.set a.1 true, rfl, d2, by simpa using hfl3, hmark, by simp, ?_, hF3.trans (own2 := [σ.length + 2]) ⟨by simp, fun x hx hn => List.getElem?_set_ne (fun e => hn (by simp [e]))⟩ (fun x hx => .inl hx)⟩
   rw [List.getElem?_set_self (lt_of_get hbf3)]
   exact congrArg (fun c => some (V.Obj.cells c 0 0)) (q3p f3 a.1 true)
  ·refine wF rfl (by simp [d2]) ?_
   repeat apply qaw
   refine qal ?_
   try simp only [tq, if_true]
   have : j = l.length := by omega
   subst this
   rw [List.drop_length] at hmark
   simp only [qnj, Option.some.injEq] at hmark
   subst hmark
   refine wR rfl (by simp [IntWalk.i64_in ((k : Int) + 1) (by omega)]; rfl) ?_
   try simp only [tq]
   have R3 := q3.fr1 (d := σ.length + 2) (σ' := τ3) (fun x hx hn => hF3.2 x hx (by simpa using hn)) (by omega) (by omega) hnot
   have hF4 : Fr [r, gl] σ τ3 := (hF.trans hF2 (fun x hx => .inl hx)).trans hF3 (fun x hx => by simp only [List.mem_singleton] at hx; exact .inr (by omega))
   exact ⟨al.length - (k + 1), by omega, k + 1, f3, s2, v2, rfl, d1, hfl3, hl, by simp, hbf3, R3, hF4, by rw [hF3.2 _ (lt_of_get hbx2) (by simp)]; exact hbx2, by rw [hF3.2 _ (lt_of_get hby2) (by simp)]; exact hby2⟩
 ·refine wF rfl (by simp [d1]) ?_
  repeat apply qaw
  refine qal ?_
  try simp only [tq, if_true]
  have : k = al.length := by omega
  subst this
  rw [List.drop_length] at hl
  simp only [qfb, Option.some.injEq, Prod.mk.injEq] at hl
  obtain ⟨rfl, rfl⟩ := hl
  have rer : Rd τ p.2.1 g.ends := re.keep fun j hj => hF.2 j (re.locs j hj) (by have := R.apart j (qbl hp j (.inr (.inl hj))); simp [this])
  have hap : ∀ j ∈ locV p.2.1, j ≠ r ∧ j ≠ gl := fun j hj => R.apart j (qbl hp j (.inr (.inl hj)))
  have lx := lt_of_get hbx
  refine wR rfl (by simp; rfl) ?_
  refine wB rfl ?_
  try simp only [tq]
  refine qat (I := fun m st τ2 => ∃ q sq vq, m = f.length - q ∧ q ≤ f.length ∧ qgd i g.ends (f.drop q) q sq = some s' ∧ st.vars = [(0, .ptr r 0 0 6), (1, .t (I i)), (4, .ptr σ.length 0 0 5), (5, .ptr (σ.length + 1) 0 0 3), (6, .sl (σ.length + 2) 0 0 (text.length + 1) 1), (10, .t (I q))] ∧ Rep (.list rules) text r gl τ2 vq sq ∧ Fr [r, gl] τ τ2) ?_ f.length _ _ ⟨0, sk, vk, rfl, Nat.zero_le _, h, by simp, Rk, Fr.refl _ _⟩
  clear h
  rintro m ⟨vars, scr⟩ τ2 ⟨q, sq, vq, rfl, hq, h, hvs, Rq, hF2⟩
  simp only at hvs
  subst hvs
  have lbf := lt_of_get hbf
  have hbf2 : τ2[σ.length + 2]? = some (.cells (bools f) 0 0) := by rw [hF2.2 _ lbf (by simp; omega)]; exact hbf
  have hbx2 : τ2[σ.length]? = some (.cells [V.t (I g.rule), p.1, V.t (I g.from_), p.2.1, p.2.2] 0 0) := by rw [hF2.2 _ lx (by simp; omega)]; exact hbx
  have re2 : Rd τ2 p.2.1 g.ends := rer.keep fun j hj => hF2.2 j (rer.locs j hj) (by have := hap j hj; simp [this])
  refine wR rfl (by simp; rfl) ?_
  by_cases d2 : q < f.length
  ·refine wT rfl (by simp [show (q : Int) < (text.length : Int) + 1 by omega]) ?_
   refine wK ?_
   refine wB rfl ?_
   obtain ⟨b, hbq⟩ := get_of_lt d2
   rw [qak hbq] at h
   simp only [qgd] at h
   have hp2 : q + 1 ≤ text.length + 1 := by omega
   have hp1 : (q : Int) < (text.length : Int) + 1 := by omega
   have hin := inL_ld re2 q (by omega)
   cases b with
   | false =>
    simp only [Bool.false_and, Bool.false_eq_true, if_false] at h
    refine wR rfl (by simp [hbf2, hfl, hp1, hp2, hbq]; rfl) ?_
    refine wF rfl (by simp) ?_
    refine wK ?_
    refine wR rfl (by simp [IntWalk.i64_in ((q : Int) + 1) (by omega)]; rfl) ?_
    try simp only [tq]
    exact ⟨f.length - (q + 1), by omega, q + 1, sq, vq, rfl, d2, h, by simp, Rq, hF2⟩
   | true =>
    cases hc : g.ends.contains q with
    | true =>
     rw [hc] at h hin
     simp only [Bool.not_true, Bool.and_false, Bool.false_eq_true, if_false] at h
     refine wR rfl (by simp [hbf2, hfl, hp1, hp2, hbq, hbx2, hin]; rfl) ?_
     refine wF rfl (by simp) ?_
     refine wK ?_
     refine wR rfl (by simp [IntWalk.i64_in ((q : Int) + 1) (by omega)]; rfl) ?_
     try simp only [tq]
     exact ⟨f.length - (q + 1), by omega, q + 1, sq, vq, rfl, d2, h, by simp, Rq, hF2⟩
    | false =>
     rw [hc] at h hin
     simp only [Bool.not_false, Bool.and_true, if_true] at h
     split at h
     ·cases h
     rename_i s3 hadd
     obtain ⟨τ3, v3, a1, a2, a3⟩ := add_ld Rq i q hadd
     refine wR rfl (by simp [hbf2, hfl, hp1, hp2, hbq, hbx2, hin]; rfl) ?_
     refine wT rfl (by simp) ?_
     refine wR rfl (by simp [a1]; rfl) ?_
     refine wR rfl (by simp [IntWalk.i64_in ((q : Int) + 1) (by omega)]; rfl) ?_
     try simp only [tq]
     exact ⟨f.length - (q + 1), by omega, q + 1, s3, v3, rfl, d2, h, by simp, a2, hF2.trans a3 (fun j hj => .inl hj)⟩
  ·refine wF rfl (by simp [show ¬ (q : Int) < (text.length : Int) + 1 by omega]) ?_
   repeat apply qaw
   refine qal ?_
   try simp only [tq, if_true]
   have : q = f.length := by omega
   subst this
   rw [List.drop_length] at h
   simp only [qgd, Option.some.injEq] at h
   subst h
   exact ⟨trivial, _, (by simp [Tryz.f32]), rfl, vq, Rq, hF.trans hF2 (fun j hj => .inl hj)⟩
end X
