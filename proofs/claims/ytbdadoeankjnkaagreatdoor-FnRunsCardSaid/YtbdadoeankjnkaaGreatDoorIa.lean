/- A part of the proof. No statement of the claim is in it. -/
import Derived.Test.YtbdadoeankjnkaaGreatDoorSb
import Derived.Test.YtbdadoeankjnkaaGreatDoorVe
set_option maxRecDepth 100000
set_option maxHeartbeats 4000000
set_option linter.all false
open Go Go.V Go.Proofs
/- The engine (RunGoal): contracts of the helpers. -/
namespace G
open X
attribute [simp] cls Go.V.beq_self
attribute [-simp] lenV idxV
/-! ### cmp.Less -/
theorem qwf (x : Int) (σ : Store) : LD S 169 [.t (I x)] σ = some (.t (B false), σ) := by
 refine qaj (A := A169) (v := .t (B false)) (σ0 := []) rfl rfl rfl ?_ rfl σ
 refine qas (A := A169) rfl Tryz.func169 rfl ?_
 refine wR rfl (by simp; rfl) ?_
 refine wR rfl (by simp; rfl) ?_
 refine wX ?_
 try simp only [tq]
 simp [Tryz.f169]
theorem q0o (x : Int) (σ : Store) : LD S 123 [.t (I x)] σ = some (.t (B false), σ) := by
 refine qaj (A := A123) (v := .t (B false)) (σ0 := []) rfl rfl rfl ?_ rfl σ
 refine qas (A := A123) rfl Tryz.func123 rfl ?_
 refine wR rfl (by simp; rfl) ?_
 refine wR rfl (by simp; rfl) ?_
 refine wX ?_
 try simp only [tq]
 simp [Tryz.f123]
theorem less_ld (x y : Int) (σ : Store) : LD S 118 [.t (I x), .t (I y)] σ = some (.t (B (decide (x < y))), σ) := by
 refine qaj (A := A118) (v := .t (B (decide (x < y)))) (σ0 := []) rfl rfl rfl ?_ rfl σ
 refine qas (A := A118) rfl Tryz.func118 rfl ?_
 refine wR rfl (by simp; rfl) ?_
 refine wR rfl (by simp [qwf]; rfl) ?_
 refine wX ?_
 try simp only [tq]
 simp [Tryz.f118]

/-! ### slices.Index, Contains -/
def ixOf (l : List Nat) (x : Nat) (k : Nat) : Int := if l.contains x then ((k + l.idxOf x : Nat) : Int) else -1
def ixF (x : Nat) : List Nat → Nat → Int
 | [], _ => -1
 | y :: r, k => if x = y then (k : Int) else ixF x r (k + 1)
theorem qzs (x : Nat) : ∀ (l : List Nat) (k : Nat), decide (0 ≤ ixF x l k) = l.contains x
 | [], k => by simp [ixF]
 | y :: r, k => by
  unfold ixF
  by_cases h : x = y
  ·simp [h]
  ·rw [if_neg h, qzs x r (k + 1)]; simp [h]
theorem index_lv {x : T} {l : List Nat} (h : Is x l) (y : Nat) (hl : l.length ≤ 1048576) : LV S 106 [.t x, .t (I y)] [] = some (.t (I (ixF y l 0)), []) := by
 refine qas (A := A106) rfl Tryz.func106 rfl ?_
 refine wR rfl (by simp; rfl) ?_
 refine wR rfl (by simp [h.len]; rfl) ?_
 refine wB rfl ?_
 try simp only [tq]
 refine qat (I := fun m st τ => ∃ k, m = l.length - k ∧ k ≤ l.length ∧ ixF y l 0 = ixF y (l.drop k) k ∧ st.vars = [(0, .t x), (1, .t (I y)), (4, .t (I 0)), (7, .t (I l.length)), (8, .t (I k))] ∧ τ = []) ?_ l.length _ _ ⟨0, rfl, Nat.zero_le _, rfl, by simp, rfl⟩
 rintro m ⟨vars, scr⟩ τ ⟨k, rfl, hk, he, hv, rfl⟩
 simp only at hv
 subst hv
 refine wR rfl (by simp; rfl) ?_
 by_cases c1 : k < l.length
 ·refine wT rfl (by simp [c1]) ?_
  refine wK ?_
  refine wB rfl ?_
  obtain ⟨z, hz⟩ := get_of_lt c1
  refine wR rfl (by simp; rfl) ?_
  refine wR rfl (by simp [h.idx hz]; rfl) ?_
  have hd : l.drop k = z :: l.drop (k + 1) := by
   rw [List.drop_eq_getElem_cons c1]
   rw [List.getElem?_eq_getElem c1] at hz
   cases hz; rfl
  rw [hd] at he
  by_cases c2 : y = z
  ·subst c2
   refine wT rfl (by simp) ?_
   refine wR rfl (by simp; rfl) ?_
   try simp only [tq]
   have : ixF y l 0 = k := by rw [he]; simp [ixF]
   rw [this]
   refine wX ?_
   try simp only [tq]
   simp [Tryz.f106]
  ·refine wF rfl (by simp [show ¬ ((y : Int) = (z : Int)) by omega]) ?_
   refine wK ?_
   refine wR rfl (by simp [IntWalk.i64_in ((k : Int) + 1) (by omega)]; rfl) ?_
   try simp only [tq]
   refine ⟨l.length - (k + 1), by omega, k + 1, rfl, c1, ?_, by simp, by simp⟩
   rw [he]; simp [ixF, c2]
 ·refine wF rfl (by simp [c1]) ?_
  repeat apply qaw
  refine qal ?_
  try simp only [tq, if_true]
  have hk2 : k = l.length := by omega
  subst hk2
  have : ixF y l 0 = -1 := by rw [he]; simp [ixF]
  refine wR rfl (by simp; rfl) ?_
  try simp only [tq]
  rw [this]
  refine wX ?_
  try simp only [tq]
  simp [Tryz.f106]
theorem index_ld {x : T} {l : List Nat} (h : Is x l) (y : Nat) (hl : l.length ≤ 1048576) (σ : Store) : LD S 106 [.t x, .t (I y)] σ = some (.t (I (ixF y l 0)), σ) :=
 qaj (A := A106) (v := .t (I (ixF y l 0))) (σ0 := []) rfl rfl rfl (index_lv h y hl) rfl σ
theorem quj {x : T} {l : List Nat} (h : Is x l) (y : Nat) (hl : l.length ≤ 1048576) : LV S 71 [.t x, .t (I y)] [] = some (.t (B (l.contains y)), []) := by
 refine qas (A := A71) rfl Tryz.func71 rfl ?_
 refine wR rfl (by simp; rfl) ?_
 refine wR rfl (by simp [index_ld h y hl, qzs]; rfl) ?_
 refine wX ?_
 try simp only [tq]
 simp [Tryz.f71]

/-! ### copyInts -/
theorem qsc (d : Nat) (σ : Store) : ∀ (l : List Nat), frzs (frzN (d + 1) σ) (ints l) = some (l.map fun (n : Nat) => I n)
 | [] => rfl
 | n :: r => by
  have := qsc d σ r
  simp only [ints, List.map_cons, frzs, frzN, qjk, if_true] at this ⊢
  rw [this]
end G
namespace G
open X
attribute [-simp] lenV idxV
/-- A value that reads as a list of numbers. -/
def Rd (σ : Store) (v : V) (l : List Nat) : Prop := (v = .t .nils ∧ l = []) ∨ ∃ d g w, v = .sl d g 0 l.length 1 ∧ σ[d]? = some (.cells (ints l) g w) ∧ w ≤ g ∧ l ≠ []
theorem Rd.len {σ : Store} {v : V} {l : List Nat} (h : Rd σ v l) (e : TypeId) : lenV σ (.slice e) v = some (l.length : Int) := by
 rcases h with ⟨rfl, rfl⟩ | ⟨d, g, w, rfl, _, _⟩ <;> simp
theorem frzN_sl {d : Nat} {σ : Store} {loc g off len k gen wgen : Nat} {cs : List V} (h : σ[loc]? = some (.cells cs gen wgen)) (h1 : wgen ≤ g) (h2 : g ≤ gen) (h3 : 0 < k) (h4 : off + len * k ≤ cs.length) {ts : List T} (h5 : frzs (frzN d σ) ((cs.drop off).take (len * k)) = some ts) :
  frzN (d + 1) σ (.sl loc g off len k) = some (.list (chunk k len ts)) := by
 simp only [frzN, h]
 rw [if_pos ⟨h1, h2, h3, h4⟩, h5]
 rfl
theorem frzN_sl1 (n : Nat) {σ : Store} {d g w : Nat} {l : List Nat} (h1 : σ[d]? = some (.cells (ints l) g w)) (h2 : w ≤ g) : frzN (n + 2) σ (.sl d g 0 l.length 1) = some (.list (qax l)) := by
 have := frzN_sl (d := n + 1) h1 h2 (Nat.le_refl _) Nat.one_pos (off := 0) (len := l.length) (by simp) (ts := l.map fun (n : Nat) => I n) (by rw [qrt]; exact qsc n σ l)
 rw [q2c] at this
 exact this
theorem qfm (n : Nat) {σ : Store} {v : V} {l : List Nat} (h : Rd σ v l) : ∃ x, frz (n + 2) σ v = some x ∧ Is x l := by
 rcases h with ⟨rfl, rfl⟩ | ⟨d, g, w, rfl, h1, h2, _⟩
 ·exact ⟨.nils, rfl, .inl ⟨rfl, rfl⟩⟩
 ·exact ⟨_, qhe n h1 h2, .inr rfl⟩
theorem qtv {σ : Store} {v : V} {l : List Nat} (h : Rd σ v l) (y : Nat) (hl : l.length ≤ 1048576) : LD S 71 [v, .t (I y)] σ = some (.t (B (l.contains y)), σ) := by
 obtain ⟨x, h1, h2⟩ := qfm 38 h
 exact qck (A := A71) rfl rfl (ts := [x, I y]) (by simp only [frzs, h1]; rfl) (quj h2 y hl) rfl

theorem q0r {x : T} {l : List Nat} (h : Is x l) (hl : l.length * 8 ≤ 140737488355328) : ∃ g w, LV S 43 [.t x] [] = some (.sl 0 g 0 l.length 1, [.cells (ints l) g w]) ∧ w ≤ g := by
 rcases h with ⟨rfl, rfl⟩ | rfl
 ·refine ⟨0, 0, ?_, Nat.le_refl _⟩
  refine qas (A := A43) rfl Tryz.func43 rfl ?_
  refine wR rfl (by simp; rfl) ?_
  refine wR rfl (by simp [qap, qaf, qaa]; rfl) ?_
  refine wX ?_
  try simp only [tq]
  simp [Tryz.f43, ints]
 ·cases l with
  | nil =>
   refine ⟨0, 0, ?_, Nat.le_refl _⟩
   refine qas (A := A43) rfl Tryz.func43 rfl ?_
   refine wR rfl (by simp; rfl) ?_
   refine wR rfl (by simp [qap, qaf, qaa, qax, qag]; rfl) ?_
   refine wX ?_
   try simp only [tq]
   simp [Tryz.f43, ints]
  | cons a l =>
   refine ⟨1, 0, ?_, by omega⟩
   refine qas (A := A43) rfl Tryz.func43 rfl ?_
   refine wR rfl (by simp; rfl) ?_
   have hb : (l.length + 1) * 8 ≤ 140737488355328 := by simpa using hl
   refine wR rfl (by simp [qap, qaf, qaa, qmx, hb]; rfl) ?_
   refine wX ?_
   try simp only [tq]
   simp [Tryz.f43]
theorem qlj {x : T} {l : List Nat} (h : Is x l) (hl : l.length * 8 ≤ 140737488355328) (σ : Store) : LD S 43 [.t x] σ = some (.t (.list (qax l)), σ) := by
 obtain ⟨g, w, h1, h2⟩ := q0r h hl
 exact qaj (A := A43) rfl rfl rfl h1 (qhe 38 rfl h2) σ
theorem copy_ld {σ : Store} {v : V} {l : List Nat} (h : Rd σ v l) (hl : l.length * 8 ≤ 140737488355328) : LD S 43 [v] σ = some (.t (.list (qax l)), σ) := by
 have h0 := h
 rcases h with ⟨rfl, rfl⟩ | ⟨d, g, w, rfl, h1, h2, _⟩
 ·exact qlj (.inl ⟨rfl, rfl⟩) hl σ
 ·obtain ⟨x, h3, h4⟩ := qfm 38 h0
  obtain ⟨g', w', h5, h6⟩ := q0r h4 hl
  exact LD_made (A := A43) rfl rfl (ts := [x]) rfl (by simp only [frzs, h3]) h5 (frzN_sl1 38 rfl h6)

/-! ### slices.BinarySearch -/
def bsL (l : List Nat) (t : Nat) : Nat → Nat → Nat → Nat
 | 0, i, _ => i
 | n + 1, i, j => if i < j then (match l[(i + j) / 2]? with
  | some y => if y < t then bsL l t n ((i + j) / 2 + 1) j else bsL l t n i ((i + j) / 2)
  | none => i) else i
def bs (l : List Nat) (t : Nat) : Nat := bsL l t (l.length + 1) 0 l.length
def bsFound (l : List Nat) (t : Nat) : Bool := match l[bs l t]? with
 | some y => y == t
 | none => false
theorem half (i j : Nat) (h : i + j ≤ 2097152) : IntKind.i64.wrap ((IntKind.u64.wrap (IntKind.i64.wrap ((i : Int) + (j : Int)))).fdiv (2 ^ min 1 IntKind.u64.bits)) = (((i + j) / 2 : Nat) : Int) := by
 rw [IntWalk.i64_in ((i : Int) + (j : Int)) (by omega), IntWalk.u64_in ((i : Int) + (j : Int)) (by omega)]
 have e : (2 : Int) ^ min 1 IntKind.u64.bits = 2 := by decide
 rw [e, Int.fdiv_eq_ediv_of_nonneg _ (by omega), IntWalk.i64_in _ (by omega)]
 omega
theorem bs_lv {x : T} {l : List Nat} (h : Is x l) (t : Nat) (hl : l.length ≤ 1048576) : LV S 77 [.t x, .t (I t)] [] = some (.t (.tup [I (bs l t), B (bsFound l t)]), []) := by
 refine qas (A := A77) rfl Tryz.func77 rfl ?_
 refine wR rfl (by simp; rfl) ?_
 refine wR rfl (by simp [h.len]; rfl) ?_
 refine wR rfl (by simp; rfl) ?_
 refine wB rfl ?_
 try simp only [tq]
 refine qat (I := fun m st τ => ∃ i j n, m = j - i ∧ j ≤ l.length ∧ i ≤ l.length ∧ j - i < n ∧ bsL l t n i j = bs l t ∧ st.vars = [(0, .t x), (1, .t (I t)), (4, .t (I 0)), (5, .t (B false)), (6, .t (I l.length)), (7, .t (I i)), (8, .t (I j))] ∧ τ = []) ?_ l.length _ _ ⟨0, l.length, l.length + 1, rfl, Nat.le_refl _, Nat.zero_le _, by omega, rfl, by simp, rfl⟩
 rintro m ⟨vars, scr⟩ τ ⟨i, j, n, rfl, hj, hi, hn, he, hv, rfl⟩
 simp only at hv
 subst hv
 obtain ⟨n, rfl⟩ : ∃ k, n = k + 1 := ⟨n - 1, by omega⟩
 refine wR rfl (by simp; rfl) ?_
 by_cases c1 : i < j
 ·refine wT rfl (by simp [c1]) ?_
  refine wK ?_
  refine wB rfl ?_
  try simp only [tq]
  have hh : (i + j) / 2 < l.length := by omega
  have e0 := half i j (by omega)
  have he2 : bsL l t (n + 1) i j = match l[(i + j) / 2]? with
   | some y => if y < t then bsL l t n ((i + j) / 2 + 1) j else bsL l t n i ((i + j) / 2)
   | none => i := by rw [bsL, if_pos c1]
  rw [he] at he2
  have hq1 : i ≤ (i + j) / 2 := by omega
  have hq2 : (i + j) / 2 < j := by omega
  revert e0 he2 hq1 hq2 hh
  generalize (i + j) / 2 = q
  intro hh e0 he2 hq1 hq2
  obtain ⟨y, hy⟩ := get_of_lt hh
  rw [hy] at he2
  simp only at he2
  have hx := h.idx hy
  refine wR rfl (by simp [qkl, e0]; rfl) ?_
  refine wR rfl (by simp [hx, less_ld]; rfl) ?_
  by_cases c2 : y < t
  ·refine wT rfl (by simp [c2]) ?_
   refine wR rfl (by simp [IntWalk.i64_in ((q : Int) + 1) (by omega)]; rfl) ?_
   try simp only [tq]
   rw [if_pos c2] at he2
   exact ⟨j - (q + 1), by omega, q + 1, j, n, rfl, hj, by omega, by omega, he2.symm, by simp, by simp⟩
  ·refine wF rfl (by simp [c2]) ?_
   refine wR rfl (by simp; rfl) ?_
   try simp only [tq]
   rw [if_neg c2] at he2
   exact ⟨q - i, by omega, i, q, n, rfl, by omega, by omega, by omega, he2.symm, by simp, by simp⟩
 ·refine wF rfl (by simp [c1]) ?_
  repeat apply qaw
  refine qal ?_
  try simp only [tq, if_true]
  have hb : bs l t = i := by rw [← he, bsL, if_neg c1]
  by_cases c3 : i < l.length
  ·obtain ⟨y, hy⟩ := get_of_lt c3
   have hf : bsFound l t = (y == t) := by rw [bsFound, hb, hy]
   by_cases c4 : y = t
   ·subst c4
    refine wR rfl (by simp [h.idx hy, c3, qwf]; rfl) ?_
    try simp only [tq]
    rw [hb, hf]
    refine wX ?_
    try simp only [tq]
    simp [Tryz.f77]
   ·have c5 : ((y : Int) == (t : Int)) = false := by simp; omega
    refine wR rfl (by simp [h.idx hy, c3, q0o, c5]; rfl) ?_
    try simp only [tq]
    rw [hb, hf]
    refine wX ?_
    try simp only [tq]
    simp [Tryz.f77, c4, c5]
  ·have hf : bsFound l t = false := by rw [bsFound, hb, List.getElem?_eq_none (by omega)]
   refine wR rfl (by simp [c3]; rfl) ?_
   try simp only [tq]
   rw [hb, hf]
   refine wX ?_
   try simp only [tq]
   simp [Tryz.f77]
theorem bs_ld {σ : Store} {v : V} {l : List Nat} (h : Rd σ v l) (t : Nat) (hl : l.length ≤ 1048576) : LD S 77 [v, .t (I t)] σ = some (.t (.tup [I (bs l t), B (bsFound l t)]), σ) := by
 obtain ⟨x, h1, h2⟩ := qfm 38 h
 exact qck (A := A77) rfl rfl (ts := [x, I t]) (by simp only [frzs, h1]; rfl) (bs_lv h2 t hl) rfl
end G
namespace G
open X
attribute [-simp] lenV idxV
theorem eq_lv {x y : T} {a b : List Nat} (hx : Is x a) (hy : Is y b) (hl : a.length ≤ 1048576) : LV S 103 [.t x, .t y] [] = some (.t (B (decide (a = b))), []) := by
 refine qas (A := A103) rfl Tryz.func103 rfl ?_
 refine wR rfl (by simp; rfl) ?_
 by_cases c0 : a.length = b.length
 ·refine wR rfl (by simp [hx.len, hy.len]; rfl) ?_
  refine wF rfl (by simp [show ((a.length : Int) = (b.length : Int)) = True by simp [c0]]) ?_
  refine wK ?_
  refine wR rfl (by simp [hx.len, c0]; rfl) ?_
  refine wB rfl ?_
  try simp only [tq]
  refine qat (I := fun m st τ => ∃ k, m = a.length - k ∧ k ≤ a.length ∧ a.take k = b.take k ∧ st.vars = [(0, .t x), (1, .t y), (4, .t (B false)), (12, .t (I b.length)), (13, .t (I k))] ∧ τ = []) ?_ a.length _ _ ⟨0, rfl, Nat.zero_le _, rfl, by simp, rfl⟩
  rintro m ⟨vars, scr⟩ τ ⟨k, rfl, hk, he, hv, rfl⟩
  simp only at hv
  subst hv
  refine wR rfl (by simp; rfl) ?_
  by_cases c1 : k < a.length
  ·refine wT rfl (by simp [show k < b.length by omega]) ?_
   refine wK ?_
   refine wB rfl ?_
   obtain ⟨p, hp⟩ := get_of_lt c1
   obtain ⟨q, hq⟩ := get_of_lt (show k < b.length by omega)
   have h1 := hx.idx hp
   have h2 := hy.idx hq
   refine wR rfl (by simp; rfl) ?_
   refine wR rfl (by simp [h1, h2]; rfl) ?_
   by_cases c2 : p = q
   ·subst c2
    refine wF rfl (by simp) ?_
    refine wK ?_
    refine wR rfl (by simp [IntWalk.i64_in ((k : Int) + 1) (by omega)]; rfl) ?_
    try simp only [tq]
    exact ⟨a.length - (k + 1), by omega, k + 1, rfl, c1, qkz he hp hq, by simp, by simp⟩
   ·refine wT rfl (by simp [show ¬ ((p : Int) = (q : Int)) by omega]) ?_
    refine wR rfl (by simp; rfl) ?_
    have : ¬ a = b := fun e => by subst e; rw [hp] at hq; cases hq; exact c2 rfl
    refine wX ?_
    try simp only [tq]
    simp [Tryz.f103, this]
  ·refine wF rfl (by simp [show ¬ k < b.length by omega]) ?_
   repeat apply qaw
   refine qal ?_
   try simp only [tq, if_true]
   have hk2 : k = a.length := by omega
   have : a = b := by
    rw [hk2, List.take_length, c0, List.take_length] at he; exact he
   refine wR rfl (by simp; rfl) ?_
   refine wX ?_
   try simp only [tq]
   simp [Tryz.f103, this]
 ·refine wR rfl (by simp [hx.len, hy.len]; rfl) ?_
  refine wT rfl (by simp [show ¬ ((a.length : Int) = (b.length : Int)) by omega]) ?_
  refine wR rfl (by simp; rfl) ?_
  have : ¬ a = b := fun e => c0 (congrArg List.length e)
  refine wX ?_
  try simp only [tq]
  simp [Tryz.f103, this]
theorem eq_ld {x y : T} {a b : List Nat} (hx : Is x a) (hy : Is y b) (hl : a.length ≤ 1048576) (σ : Store) : LD S 103 [.t x, .t y] σ = some (.t (B (decide (a = b))), σ) :=
 qaj (A := A103) (v := .t (B (decide (a = b)))) (σ0 := []) rfl rfl rfl (eq_lv hx hy hl) rfl σ

/-- A goal. -/
def rowT (g : Gl) (e k : T) : T := .agg [I g.rule, .list (qax g.args), I g.from_, e, k]

theorem q0u (g : Gl) (e k : T) (rule : Nat) {y : T} {args : List Nat} (hy : Is y args) (fr : Nat) (hl : g.args.length ≤ 1048576) (σ : Store) : LD S 69 [.t (rowT g e k), .t (I rule), .t y, .t (I fr)] σ = some (.t (B (isG g rule args fr)), σ) := by
 suffices h : ∃ σ0, LV S 69 [.t (rowT g e k), .t (I rule), .t y, .t (I fr)] [] = some (.t (B (isG g rule args fr)), σ0) by
  obtain ⟨σ0, h⟩ := h
  exact qaj (A := A69) (v := .t (B (isG g rule args fr))) rfl rfl rfl h rfl σ
 refine qbm (A := A69) rfl Tryz.func69 rfl ?_
 refine wR rfl (by simp [rowT]; rfl) ?_
 by_cases c1 : g.rule = rule
 ·have e1 : ((g.rule : Int) == (rule : Int)) = true := by simp [c1]
  by_cases c2 : g.from_ = fr
  ·have e2 : ((g.from_ : Int) == (fr : Int)) = true := by simp [c2]
   refine wR rfl (by simp [e1, e2, eq_ld (.inr rfl) hy hl]; rfl) ?_
   refine wX ?_
   try simp only [tq]
   simp [Tryz.f69, isG, c1, c2]
  ·have e2 : ((g.from_ : Int) == (fr : Int)) = false := by simp; omega
   refine wR rfl (by simp [e1, e2]; rfl) ?_
   refine wX ?_
   try simp only [tq]
   simp [Tryz.f69, isG, c1, c2]
 ·have e1 : ((g.rule : Int) == (rule : Int)) = false := by simp; omega
  refine wR rfl (by simp [e1]; rfl) ?_
  refine wX ?_
  try simp only [tq]
  simp [Tryz.f69, isG, c1]

/-- what goalAt's closure is handed -/
def GBox (σ : Store) (rule : Nat) (y : T) (fr : Nat) : Prop := σ[1]? = some (.cells [.t (I rule)] 0 0) ∧ σ[2]? = some (.cells [.t y] 0 0) ∧ σ[3]? = some (.cells [.t (I fr)] 0 0)
theorem clo_ld (g : Gl) (e k : T) (rule : Nat) {y : T} {args : List Nat} (hy : Is y args) (fr : Nat) (hl : g.args.length ≤ 1048576) {σ : Store} (hb : GBox σ rule y fr) :
  LD S 68 [.t (rowT g e k), .ptr 1 0 0 1, .ptr 2 0 0 1, .ptr 3 0 0 1] σ = some (.t (B (isG g rule args fr)), σ ++ [.cells [.t (I g.rule), .t (.list (qax g.args)), .t (I g.from_), .t e, .t k] 0 0]) := by
 refine (qbt (A := A68) rfl rfl rfl _ σ).trans ?_
 refine qas (A := A68) rfl Tryz.func68 rfl ?_
 obtain ⟨b1, b2, b3⟩ := hb
 have g1 : ∀ o, (σ ++ [o])[1]? = some (.cells [.t (I rule)] 0 0) := fun o => by rw [List.getElem?_append_left (lt_of_get b1), b1]
 have g2 : ∀ o, (σ ++ [o])[2]? = some (.cells [.t y] 0 0) := fun o => by rw [List.getElem?_append_left (lt_of_get b2), b2]
 have g3 : ∀ o, (σ ++ [o])[3]? = some (.cells [.t (I fr)] 0 0) := fun o => by rw [List.getElem?_append_left (lt_of_get b3), b3]
 have hi := q0u g e k rule hy fr hl
 simp only [rowT] at hi
 refine wR rfl (by simp [rowT]; rfl) ?_
 refine wR rfl (by simp [g1, g2, g3, hi]; rfl) ?_
 refine wX ?_
 try simp only [tq]
 simp [Tryz.f68]

def qks (gs : List Gl) (rows : List T) : Prop := rows.length = gs.length ∧ ∀ (i : Nat) (g : Gl), gs[i]? = some g → ∃ e k, rows[i]? = some (rowT g e k)

theorem q4k {gs : List Gl} {rows : List T} (hr : qks gs rows) (rule : Nat) {y : T} {args : List Nat} (hy : Is y args) (fr : Nat) (hg : ∀ g ∈ gs, g.args.length ≤ 1048576) (hn : gs.length ≤ 1048576) {σ : Store} (hb : GBox σ rule y fr) :
  ∃ v σ', LV S 67 [.t (.list rows), .fn 68 [.ptr 1 0 0 1, .ptr 2 0 0 1, .ptr 3 0 0 1]] σ = some (v, σ') ∧ v = .t (I (gIx rule args fr gs 0)) := by
 refine qaq (A := A67) rfl Tryz.func67 rfl ?_
 obtain ⟨hr1, hr2⟩ := hr
 refine wR rfl (by simp; rfl) ?_
 refine wR rfl (by simp; rfl) ?_
 refine wB rfl ?_
 try simp only [tq]
 refine qat (I := fun m st τ => ∃ k, m = gs.length - k ∧ k ≤ gs.length ∧ gIx rule args fr gs 0 = gIx rule args fr (gs.drop k) k ∧ st.vars = [(0, .t (.list rows)), (1, .fn 68 [.ptr 1 0 0 1, .ptr 2 0 0 1, .ptr 3 0 0 1]), (4, .t (I 0)), (7, .t (I rows.length)), (8, .t (I k))] ∧ GBox τ rule y fr) ?_ gs.length _ _ ⟨0, rfl, Nat.zero_le _, rfl, by simp, hb⟩
 rintro m ⟨vars, scr⟩ τ ⟨k, rfl, hk, he, hv, hb⟩
 simp only at hv
 subst hv
 refine wR rfl (by simp; rfl) ?_
 by_cases c1 : k < gs.length
 ·refine wT rfl (by simp [show k < rows.length by omega]) ?_
  refine wK ?_
  refine wB rfl ?_
  obtain ⟨g, hgk⟩ := get_of_lt c1
  obtain ⟨e, w, hw⟩ := hr2 k g hgk
  have hc := clo_ld g e w rule hy fr (hg g (List.mem_of_getElem? hgk)) hb
  have hd : gs.drop k = g :: gs.drop (k + 1) := by
   rw [List.drop_eq_getElem_cons c1]
   rw [List.getElem?_eq_getElem c1] at hgk
   cases hgk; rfl
  rw [hd] at he
  have hb' : GBox (τ ++ [.cells [.t (I g.rule), .t (.list (qax g.args)), .t (I g.from_), .t e, .t w] 0 0]) rule y fr := by
   obtain ⟨b1, b2, b3⟩ := hb
   exact ⟨by rw [List.getElem?_append_left (lt_of_get b1), b1], by rw [List.getElem?_append_left (lt_of_get b2), b2], by rw [List.getElem?_append_left (lt_of_get b3), b3]⟩
  simp only [rowT] at hc hw
  refine wR rfl (by simp; rfl) ?_
  refine wR rfl (by simp [hw, hc]; rfl) ?_
  cases c2 : isG g rule args fr with
  | true =>
   refine wT rfl (by simp [c2]) ?_
   refine wR rfl (by simp; rfl) ?_
   try simp only [tq]
   have e1 : gIx rule args fr gs 0 = k := by rw [he]; simp [gIx, c2]
   refine wX ?_
   simp only [qjf, qfz]
   exact ⟨trivial, _, (by simp [Tryz.f67]; rfl), by rw [e1]⟩
  | false =>
   refine wF rfl (by simp [c2]) ?_
   refine wK ?_
   refine wR rfl (by simp [IntWalk.i64_in ((k : Int) + 1) (by omega)]; rfl) ?_
   try simp only [tq]
   refine ⟨gs.length - (k + 1), by omega, k + 1, rfl, c1, ?_, by simp, hb'⟩
   rw [he]; simp [gIx, c2]
 ·refine wF rfl (by simp [show ¬ k < rows.length by omega]) ?_
  repeat apply qaw
  refine qal ?_
  try simp only [tq, if_true]
  have hk2 : k = gs.length := by omega
  subst hk2
  have e1 : gIx rule args fr gs 0 = -1 := by rw [he]; simp [gIx]
  refine wR rfl (by simp; rfl) ?_
  try simp only [tq]
  refine wX ?_
  simp only [qjf, qfz]
  exact ⟨trivial, _, (by simp [Tryz.f67]; rfl), by rw [e1]⟩

theorem qof (c : V) (σ : Store) (hc : ∃ l, c = .fn 68 l) : LV S 67 [.t .nils, c] σ = some (.t (I (-1)), σ) := by
 obtain ⟨l, rfl⟩ := hc
 refine qas (A := A67) rfl Tryz.func67 rfl ?_
 refine wR rfl (by simp; rfl) ?_
 refine wR rfl (by simp; rfl) ?_
 refine wB rfl ?_
 try simp only [tq]
 refine qay ?_
 refine wR rfl (by simp; rfl) ?_
 refine wF rfl (by simp) ?_
 repeat apply qaw
 refine qal ?_
 try simp only [tq, if_true]
 refine wR rfl (by simp; rfl) ?_
 refine wX ?_
 try simp only [tq]
 simp [Tryz.f67]

theorem qsf {gs : List Gl} {x : T} (hr : (x = .nils ∧ gs = []) ∨ ∃ rows, x = .list rows ∧ qks gs rows) (rule : Nat) {y : T} {args : List Nat} (hy : Is y args) (fr : Nat) (hg : ∀ g ∈ gs, g.args.length ≤ 1048576) (hn : gs.length ≤ 1048576) :
  ∃ σ', LV S 42 [.t (.agg [x]), .t (I rule), .t y, .t (I fr)] [] = some (.t (I (gIx rule args fr gs 0)), σ') := by
 refine qbm (A := A42) rfl Tryz.func42 rfl ?_
 have hy0 := hy
 have hI : ∀ (args : List V) (σ : Store), LD S 67 args σ = LV S 67 args σ := fun args σ => qbt (A := A67) rfl rfl rfl args σ
 rcases hr with ⟨rfl, rfl⟩ | ⟨rows, rfl, hr⟩
 ·rcases hy with ⟨rfl, rfl⟩ | rfl
  ·refine wR rfl (by simp; rfl) ?_
   refine wR rfl (by simp [hI, qof _ _ ⟨_, rfl⟩]; rfl) ?_
   refine wX ?_
   try simp only [tq]
   simp [Tryz.f42, gIx]
  ·refine wR rfl (by simp; rfl) ?_
   refine wR rfl (by simp [hI, qof _ _ ⟨_, rfl⟩]; rfl) ?_
   refine wX ?_
   try simp only [tq]
   simp [Tryz.f42, gIx]
 ·obtain ⟨v, σ', h1, rfl⟩ := q4k hr rule hy fr hg hn (σ := [.cells [.t (.list rows)] 0 0, .cells [.t (I rule)] 0 0, .cells [.t y] 0 0, .cells [.t (I fr)] 0 0]) ⟨rfl, rfl, rfl⟩
  rcases hy with ⟨rfl, rfl⟩ | rfl
  ·refine wR rfl (by simp; rfl) ?_
   refine wR rfl (by simp [hI, h1]; rfl) ?_
   refine wX ?_
   try simp only [tq]
   simp [Tryz.f42]
  ·refine wR rfl (by simp; rfl) ?_
   refine wR rfl (by simp [hI, h1]; rfl) ?_
   refine wX ?_
   try simp only [tq]
   simp [Tryz.f42]
end G
namespace G
open X
attribute [-simp] lenV idxV
/-- Functions of trees, met by equations. -/
abbrev Nats := FuncId → List T → Option T
def NatOk (K : Nats) : Prop := ∀ f ts x, K f ts = some x → ∀ σ, LD S f (ts.map V.t) σ = some (.t x, σ)

/-! ### strings.HasPrefix -/
def hpF (s p : List Nat) : Bool := decide (p.length ≤ s.length) && eqL (s.take p.length) p
theorem hp0_ld (s p : List Nat) (σ : Store) : LD S 156 [.t (.str s), .t (.str p)] σ = some (.t (B (hpF s p)), σ) := by
 suffices h : LV S 156 [.t (.str s), .t (.str p)] [] = some (.t (B (hpF s p)), []) from qaj (A := A156) (v := .t (B (hpF s p))) rfl rfl rfl h rfl σ
 refine qas (A := A156) rfl Tryz.func156 rfl ?_
 refine wR rfl (by simp; rfl) ?_
 by_cases h : p.length ≤ s.length
 ·refine wR rfl (by simp [h]; rfl) ?_
  refine wX ?_
  try simp only [tq]
  simp [Tryz.f156, hpF, h]
 ·refine wR rfl (by simp [h]; rfl) ?_
  refine wX ?_
  try simp only [tq]
  simp [Tryz.f156, hpF, h]
theorem hp_ld (s p : List Nat) (σ : Store) : LD S 107 [.t (.str s), .t (.str p)] σ = some (.t (B (hpF s p)), σ) := by
 suffices h : LV S 107 [.t (.str s), .t (.str p)] [] = some (.t (B (hpF s p)), []) from qaj (A := A107) (v := .t (B (hpF s p))) rfl rfl rfl h rfl σ
 refine qas (A := A107) rfl Tryz.func107 rfl ?_
 refine wR rfl (by simp; rfl) ?_
 refine wR rfl (by simp [hp0_ld]; rfl) ?_
 refine wX ?_
 try simp only [tq]
 simp [Tryz.f107]

/-! ### passes -/
def symT (kind : Nat) (nm : List Nat) (ax bn : T) : T := .agg [I kind, .str nm, ax, bn]
def passF (K : Nats) (text : List Nat) (kind : Nat) (nm : List Nat) (ax env : T) (here : Nat) : Option (Nat × Bool) :=
 if here ≤ text.length ∧ text.length ≤ 1048576 ∧ nm.length ≤ 1048576 then
  if kind = 1 then some (here + nm.length, hpF (text.drop here) nm)
  else if kind = 2 then match text[here]? with
   | some c => match K 108 [.str nm, .int .u8 c] with
    | some (.bool b) => some (here + 1, b)
    | _ => none
   | none => some (here + 1, false)
  else match ax with
   | .list (.agg [e] :: _) => match K 109 [.agg [e], env, I here] with
    | some (.tup [.int .i64 n, .bool ok]) => some (here, ok && (n != 0))
    | _ => none
   | _ => none
 else none
theorem q0w {K : Nats} (hK : NatOk K) {text : List Nat} {kind : Nat} {nm : List Nat} {ax bn env : T} {here n : Nat} {b : Bool} (h : passF K text kind nm ax env here = some (n, b)) (hf : ∃ bs, bn = .str bs) (hax : ax = .nils ∨ ∃ es, ax = .list es) (σ : Store) :
  LD S 72 [.t (symT kind nm ax bn), .t (.str text), .t env, .t (I here)] σ = some (.t (.tup [I n, B b]), σ) := by
 suffices hh : ∃ σ0, LV S 72 [.t (symT kind nm ax bn), .t (.str text), .t env, .t (I here)] [] = some (.t (.tup [I n, B b]), σ0) by
  obtain ⟨σ0, hh⟩ := hh
  exact qaj (A := A72) (v := .t (.tup [I n, B b])) rfl rfl rfl hh rfl σ
 refine qbm (A := A72) rfl Tryz.func72 rfl ?_
 unfold passF at h
 split at h
 rotate_left
 ·cases h
 rename_i hb
 obtain ⟨hb1, hb2, hb3⟩ := hb
 refine wR rfl (by simp [symT]; rfl) ?_
 refine wR rfl (by simp; rfl) ?_
 refine wB rfl ?_
 split at h
 ·rename_i hk
  subst hk
  simp only [Option.some.injEq, Prod.mk.injEq] at h
  obtain ⟨rfl, rfl⟩ := h
  refine wR rfl (by simp; rfl) ?_
  refine wT rfl (by simp) ?_
  refine wR rfl (by simp [hb1, hp_ld, IntWalk.i64_in ((here : Int) + (nm.length : Int)) (by omega)]; rfl) ?_
  refine wX ?_
  try simp only [tq]
  simp [Tryz.f72]
 ·rename_i hk
  have hk' : ((kind : Int) == (1 : Int)) = false := by simp; omega
  refine wR rfl (by simp [hk']; rfl) ?_
  refine wF rfl (by simp [hk']) ?_
  split at h
  ·rename_i hk2
   subst hk2
   refine wR rfl (by simp; rfl) ?_
   refine wT rfl (by simp) ?_
   split at h
   ·rename_i c hc
    split at h
    ·rename_i b' hn
     simp only [Option.some.injEq, Prod.mk.injEq] at h
     obtain ⟨rfl, rfl⟩ := h
     have hl := lt_of_get hc
     have hce : text[here]'hl = c := by rw [List.getElem?_eq_getElem hl] at hc; exact Option.some.inj hc
     subst hce
     have hi := hK _ _ _ hn
     simp only [List.map_cons, List.map_nil] at hi
     refine wR rfl (by simp [hl, hi, IntWalk.i64_in ((here : Int) + 1) (by omega)]; rfl) ?_
     refine wX ?_
     try simp only [tq]
     simp [Tryz.f72]
    ·cases h
   ·rename_i hc
    simp only [Option.some.injEq, Prod.mk.injEq] at h
    obtain ⟨rfl, rfl⟩ := h
    have hl : ¬ here < text.length := by
     intro hl; rw [List.getElem?_eq_getElem hl] at hc; cases hc
    refine wR rfl (by simp [hl, IntWalk.i64_in ((here : Int) + 1) (by omega)]; rfl) ?_
    refine wX ?_
    try simp only [tq]
    simp [Tryz.f72]
  ·rename_i hk2
   have hk2' : ((kind : Int) == (2 : Int)) = false := by simp; omega
   refine wR rfl (by simp [hk2']; rfl) ?_
   refine wF rfl (by simp [hk2']) ?_
   refine wK ?_
   split at h
   ·rename_i e es
    split at h
    ·rename_i z ok hn
     simp only [Option.some.injEq, Prod.mk.injEq] at h
     obtain ⟨rfl, rfl⟩ := h
     have hi := hK _ _ _ hn
     simp only [List.map_cons, List.map_nil] at hi
     refine wR rfl (by simp [hi]; rfl) ?_
     cases ok with
     | true =>
      refine wR rfl (by simp; rfl) ?_
      refine wX ?_
      try simp only [tq]
      simp [Tryz.f72]
     | false =>
      refine wR rfl (by simp; rfl) ?_
      refine wX ?_
      try simp only [tq]
      simp [Tryz.f72]
    ·cases h
   ·cases h

/-! ### isNew -/
def ents (ks : List (List Nat)) : List (T × V) := ks.map fun k => (T.str k, V.t (I 1))
def hasKey (key : List Nat) (ks : List (List Nat)) : Bool := ks.any (eqL key)
def qkc (key : List Nat) (ks : List (List Nat)) : List (List Nat) := if hasKey key ks then ks else ks ++ [key]
theorem qjz (key : List Nat) : ∀ (ks : List (List Nat)), findKey .str (.str key) (ents ks) = some (if hasKey key ks then some (.t (I 1)) else none)
 | [] => rfl
 | k :: r => by
  have ih := qjz key r
  simp only [ents, List.map_cons, findKey, qex, hasKey, List.any_cons] at ih ⊢
  have e : eqL key k = true ∨ eqL key k = false := by cases eqL key k <;> simp
  rcases e with e | e
  ·simp [e]
  ·simp only [e, Bool.false_or]; exact ih
theorem qmq (key : List Nat) : ∀ (ks : List (List Nat)), qfp .str (.str key) (.t (I 1)) (ents ks) = some (ents (qkc key ks))
 | [] => rfl
 | k :: r => by
  have ih := qmq key r
  simp only [ents, List.map_cons, qfp, qex, hasKey, List.any_cons, qkc] at ih ⊢
  have e : eqL key k = true ∨ eqL key k = false := by cases eqL key k <;> simp
  rcases e with e | e
  ·have := qgr e
   subst this
   simp [e]
  ·simp only [e, Bool.false_or, ih, Option.map_some]
   have hq : r.any (eqL key) = true ∨ r.any (eqL key) = false := by cases r.any (eqL key) <;> simp
   rcases hq with hq | hq <;> simp only [hq, if_true, Bool.false_eq_true, if_false, List.map_cons, List.map_append, List.cons_append, List.map_nil]
/-- The key of a look. -/
def keyF (K : Nats) (sym : Nat) (env : T) (here : Nat) : Option (List Nat) := match K 104 [I sym], K 104 [I here], K 105 [env] with
 | some (.str a), some (.str b), some (.str c) => if a.length + b.length + c.length ≤ 1048576 then some (a ++ 32 :: (b ++ 32 :: c)) else none
 | _, _, _ => none
/-- The runner, as it lies. -/
def qbr (rules : T) (text : List Nat) (gv : V) (ends : Nat) (came : Bool) (dv : V) (m : Nat) : V.Obj := .cells [.t rules, .t (.str text), gv, .t (I ends), .t (B came), dv, .mp m] 0 0
theorem isNew_ld {K : Nats} (hK : NatOk K) {sym : Nat} {env : T} {here : Nat} {key : List Nat} (h : keyF K sym env here = some key) {r m : Nat} {rules : T} {text : List Nat} {gv dv : V} {ends : Nat} {came : Bool} {ks : List (List Nat)} {σ : Store}
  (hr : σ[r]? = some (qbr rules text gv ends came dv m)) (hm : σ[m]? = some (.map (ents ks))) :
  LD S 70 [.ptr r 0 0 7, .t (I sym), .t env, .t (I here)] σ = some (.t (B (!hasKey key ks)), σ.set m (.map (ents (qkc key ks)))) := by
 refine (qbt (A := A70) rfl rfl rfl _ σ).trans ?_
 refine qas (A := A70) rfl Tryz.func70 rfl ?_
 unfold keyF at h
 split at h
 rotate_left
 ·cases h
 rename_i a b c h1 h2 h3
 split at h
 rotate_left
 ·cases h
 rename_i hlen
 have l1 : a.length + 1 ≤ 9223372036854775807 := by omega
 have l2 : a.length + 1 + b.length ≤ 9223372036854775807 := by omega
 have l3 : a.length + 1 + b.length + 1 ≤ 9223372036854775807 := by omega
 have l4 : a.length + 1 + b.length + 1 + c.length ≤ 9223372036854775807 := by omega
 have l5 : a.length + (b.length + 1) ≤ 9223372036854775807 := by omega
 have l6 : a.length + (b.length + 1) + 1 ≤ 9223372036854775807 := by omega
 have l7 : a.length + (b.length + (1 + 1)) + c.length ≤ 9223372036854775807 := by omega
 simp only [Option.some.injEq] at h
 have i1 := hK _ _ _ h1
 have i2 := hK _ _ _ h2
 have i3 := hK _ _ _ h3
 simp only [List.map_cons, List.map_nil] at i1 i2 i3
 simp only [qbr] at hr
 refine wR rfl (by simp; rfl) ?_
 refine wR rfl (by simp [i1, i2, i3, l1, l2, l3, l4, l5, l6, l7]; rfl) ?_
 have hf := qjz key ks
 have hs := qmq key ks
 subst h
 cases hh : hasKey (a ++ 32 :: (b ++ 32 :: c)) ks with
 | true =>
  rw [hh] at hf
  simp only [if_true] at hf
  refine wR rfl (by simp [hr, hm, hf, qjs]; rfl) ?_
  refine wR rfl (by simp [hr, hm, hs, qjs]; rfl) ?_
  refine wR rfl (by simp; rfl) ?_
  refine wX ?_
  try simp only [tq]
  simp [Tryz.f70]
 | false =>
  rw [hh] at hf
  simp only [if_false, Bool.false_eq_true] at hf
  refine wR rfl (by simp [hr, hm, hf, qjs]; rfl) ?_
  refine wR rfl (by simp [hr, hm, hs, qjs]; rfl) ?_
  refine wR rfl (by simp; rfl) ?_
  refine wX ?_
  try simp only [tq]
  simp [Tryz.f70]
end G
namespace G
open X
attribute [-simp] lenV idxV getElem?_pos
/-! ### slices.Sort, by its contract -/
def sortF (l : List Nat) : List Nat := l.mergeSort fun x y => decide (x ≤ y)
theorem sortF_len (l : List Nat) : (sortF l).length = l.length := by simp [sortF]
theorem qoz {σ : Store} {d : Nat} {o : V.Obj} (h : σ[d]? = some o) : σ.set d o = σ := by
 have hd := lt_of_get h
 rw [List.getElem?_eq_getElem hd] at h
 cases h
 simp
theorem qci {σ : Store} {d : Nat} (hd : d < σ.length) (o : V.Obj) : (σ.set d o)[d]? = some o := by rw [List.getElem?_set_self (by simpa using hd)]

theorem ldS (args : List V) (σ : Store) : LD S 46 args σ = srtV args σ := by
 unfold LD qbj
 rfl
theorem qmv : ∀ l : List Nat, qmt (ints l) = some (l.map fun n : Nat => (n : Int))
 | [] => rfl
 | n :: r => by
  have ih := qmv r
  simp only [ints, List.map_cons] at ih ⊢
  show Option.map _ (qmt _) = _
  rw [ih]; rfl
theorem qxt (l : List Nat) : qpi (l.map fun n : Nat => (n : Int)) = (sortF l).map fun n : Nat => (n : Int) := by
 unfold qpi sortF
 exact (List.map_mergeSort (fun a _ b _ => by simp [Int.ofNat_le])).symm
theorem sort_ld {σ : Store} {v : V} {l : List Nat} (h : Rd σ v l) (hn : l.length ≤ 1000000) :
  ∃ σ', LD S 46 [v] σ = some (.t (.tup []), σ') ∧ ((v = .t .nils ∧ σ' = σ ∧ l = []) ∨ ∃ d g w w', v = .sl d g 0 l.length 1 ∧ σ[d]? = some (.cells (ints l) g w) ∧ w ≤ g ∧ w' ≤ g ∧ σ' = σ.set d (.cells (ints (sortF l)) g w')) := by
 rcases h with ⟨rfl, rfl⟩ | ⟨d, g, w, rfl, h1, h2, h3⟩
 ·exact ⟨σ, by rw [ldS]; rfl, .inl ⟨rfl, rfl, rfl⟩⟩
 ·have hl : (ints l).length = l.length := by simp [ints]
  have hp := List.length_pos_iff.2 h3
  refine ⟨σ.set d (.cells (ints (sortF l)) g g), ?_, .inr ⟨d, g, w, g, rfl, h1, h2, Nat.le_refl _, rfl⟩⟩
  rw [ldS]
  unfold srtV
  simp only [h1, qmv]
  rw [if_pos ⟨trivial, by omega, hp, hn⟩, qxt, List.map_map]
  rfl
end G
namespace G
open X
attribute [-simp] lenV idxV getElem?_pos
/-! ### The runner's state, as numbers and as it lies -/
structure Rn where
 goals : List Gl
 ends : Nat
 came : Bool
 done : List Nat
 seen : List (List Nat)
def qam : List Gl → List (V × V) → List V
 | g :: gs, p :: vs => [.t (I g.rule), .t (.list (qax g.args)), .t (I g.from_), p.1, p.2] ++ qam gs vs
 | _, _ => []
theorem qbg : ∀ (gs : List Gl) (vs : List (V × V)), vs.length = gs.length → (qam gs vs).length = gs.length * 5
 | [], [], _ => rfl
 | g :: gs, p :: vs, h => by
  simp only [List.length_cons, Nat.add_right_cancel_iff] at h
  simp only [qam, List.length_append, List.length_cons, List.length_nil, qbg gs vs h]
  omega
theorem qes : ∀ (gs : List Gl) (vs : List (V × V)) (gs2 : List Gl) (vs2 : List (V × V)), vs.length = gs.length → qam (gs ++ gs2) (vs ++ vs2) = qam gs vs ++ qam gs2 vs2
 | [], [], _, _, _ => rfl
 | g :: gs, p :: vs, gs2, vs2, h => by
  simp only [List.length_cons, Nat.add_right_cancel_iff] at h
  simp only [qam, List.cons_append, qes gs vs gs2 vs2 h, List.append_assoc, List.nil_append]
def qbc (vs : List (V × V)) : List Nat := vs.flatMap fun p => locV p.1 ++ locV p.2
/-- all places are apart -/
def qmp (r gl m : Nat) (dv : V) (vs : List (V × V)) : Prop := (r :: gl :: m :: (locV dv ++ qbc vs)).Nodup
/-- the goals' ends and ranks lie where they say -/
def RdP (σ : Store) (gs : List Gl) (vs : List (V × V)) : Prop := vs.length = gs.length ∧ ∀ (i : Nat) (g : Gl) (p : V × V), gs[i]? = some g → vs[i]? = some p → Rd σ p.1 g.ends ∧ Rd σ p.2 g.ranks
structure Rep (rules : T) (text : List Nat) (r gl m : Nat) (σ : Store) (dv : V) (vs : List (V × V)) (s : Rn) : Prop where
 run : ∃ gg gw, gw ≤ gg ∧ σ[r]? = some (qbr rules text (.sl gl gg 0 s.goals.length 5) s.ends s.came dv m) ∧ σ[gl]? = some (.cells (qam s.goals vs) gg gw)
 seen : σ[m]? = some (.map (ents s.seen))
 done : Rd σ dv s.done
 rd : RdP σ s.goals vs
 apart : qmp r gl m dv vs
 args : ∀ g ∈ s.goals, g.args.length ≤ 1048576

/-- What is not among some places is as it was. -/
theorem Rd.keep {σ σ' : Store} {v : V} {l : List Nat} (h : Rd σ v l) (hk : ∀ i ∈ locV v, σ'[i]? = σ[i]?) : Rd σ' v l := by
 rcases h with h | ⟨d, g, w, rfl, h1, h2⟩
 ·exact .inl h
 ·exact .inr ⟨d, g, w, rfl, by rw [hk d (by simp [locV])]; exact h1, h2⟩
theorem Rd.locs {σ : Store} {v : V} {l : List Nat} (h : Rd σ v l) : ∀ i ∈ locV v, i < σ.length := by
 rcases h with ⟨rfl, _⟩ | ⟨d, g, w, rfl, h1, h2⟩
 ·intro i hi; simp [locV] at hi
 ·intro i hi
  simp only [locV, List.mem_singleton] at hi
  subst hi
  exact lt_of_get h1
theorem qbl {vs : List (V × V)} {i : Nat} {p : V × V} (h : vs[i]? = some p) : (∀ j ∈ locV p.1, j ∈ qbc vs) ∧ ∀ j ∈ locV p.2, j ∈ qbc vs := by
 have hm := List.mem_of_getElem? h
 exact ⟨fun j hj => List.mem_flatMap.2 ⟨p, hm, List.mem_append_left _ hj⟩, fun j hj => List.mem_flatMap.2 ⟨p, hm, List.mem_append_right _ hj⟩⟩
theorem RdP.locs {σ : Store} {gs : List Gl} {vs : List (V × V)} (h : RdP σ gs vs) : ∀ j ∈ qbc vs, j < σ.length := by
 intro j hj
 obtain ⟨p, hp, hj⟩ := List.mem_flatMap.1 hj
 obtain ⟨i, hi⟩ := List.getElem?_of_mem hp
 obtain ⟨g, hg⟩ := get_of_lt (show i < gs.length by rw [← h.1]; exact lt_of_get hi)
 obtain ⟨h1, h2⟩ := h.2 i g p hg hi
 rcases List.mem_append.1 hj with hj | hj
 ·exact h1.locs j hj
 ·exact h2.locs j hj
theorem RdP.keep {σ σ' : Store} {gs : List Gl} {vs : List (V × V)} (h : RdP σ gs vs) (hk : ∀ j ∈ qbc vs, σ'[j]? = σ[j]?) : RdP σ' gs vs :=
 ⟨h.1, fun i g p hg hp => ⟨(h.2 i g p hg hp).1.keep fun j hj => hk j ((qbl hp).1 j hj), (h.2 i g p hg hp).2.keep fun j hj => hk j ((qbl hp).2 j hj)⟩⟩

/-! ### The chart, frozen -/
theorem qdw (n : Nat) {σ : Store} : ∀ (gs : List Gl) (vs : List (V × V)), RdP σ gs vs → ∃ ts, frzs (frz (n + 2) σ) (qam gs vs) = some ts ∧ qks gs (chunk 5 gs.length ts)
 | [], [], _ => ⟨[], rfl, rfl, fun i g h => by simp at h⟩
 | g :: gs, [], h => by have := h.1; simp at this
 | [], p :: vs, h => by have := h.1; simp at this
 | g :: gs, p :: vs, h => by
  obtain ⟨e1, e2⟩ := h.2 0 g p rfl rfl
  obtain ⟨x, hx, _⟩ := qfm n e1
  obtain ⟨y, hy, _⟩ := qfm n e2
  have h' : RdP σ gs vs := ⟨by have := h.1; simpa using this, fun i g p hg hp => h.2 (i + 1) g p (by simpa using hg) (by simpa using hp)⟩
  obtain ⟨ts, h1, h2, h3⟩ := qdw n gs vs h'
  refine ⟨I g.rule :: .list (qax g.args) :: I g.from_ :: x :: y :: ts, ?_, ?_, ?_⟩
  ·have t1 : ∀ z : T, frz (n + 2) σ (.t z) = some z := fun z => rfl
   simp only [qam, List.cons_append, List.nil_append, frzs, t1, hx, hy, h1]
  ·simp only [List.length_cons, chunk, List.take_succ_cons, List.take_zero, List.drop_succ_cons, List.drop_zero, h2]
  ·intro i g' hg'
   simp only [List.length_cons, chunk, List.take_succ_cons, List.take_zero, List.drop_succ_cons, List.drop_zero]
   cases i with
   | zero =>
    simp only [List.getElem?_cons_zero, Option.some.injEq] at hg'
    subst hg'
    exact ⟨x, y, rfl⟩
   | succ i =>
    simp only [List.getElem?_cons_succ] at hg' ⊢
    exact h3 i g' hg'
theorem qlr {rules : T} {text : List Nat} {r gl m : Nat} {σ : Store} {dv : V} {vs : List (V × V)} {s : Rn} {gg gw : Nat} (hR : RdP σ s.goals vs) (h : σ[gl]? = some (.cells (qam s.goals vs) gg gw)) (hw : gw ≤ gg) :
  ∃ rows, frz 39 σ (.sl gl gg 0 s.goals.length 5) = some (.list rows) ∧ qks s.goals rows := by
 obtain ⟨ts, h1, h2⟩ := qdw 36 s.goals vs hR
 have hl := qbg s.goals vs hR.1
 refine ⟨_, qkg (d := 38) h hw (Nat.le_refl _) (by omega) (by omega) (ts := ts) ?_, h2⟩
 rw [List.drop_zero, List.take_of_length_le (by omega)]
 exact h1
end G
namespace G
open X
attribute [-simp] lenV idxV getElem?_pos
attribute [simp] List.getElem?_cons_zero List.getElem?_cons_succ
def goalF (s : Rn) (ru : Nat) (al : List Nat) (here : Nat) : Rn × Nat := match gIx ru al here s.goals 0 with
 | .ofNat i => (s, i)
 | .negSucc _ => ({ s with goals := s.goals ++ [⟨ru, al, here, [], []⟩], came := true }, s.goals.length)
theorem q1e {rules : T} {text : List Nat} {r gl m : Nat} {σ : Store} {dv : V} {vs : List (V × V)} {s : Rn} (R : Rep rules text r gl m σ dv vs s) {gg gw : Nat} (hw : gw ≤ gg) (hg : σ[gl]? = some (.cells (qam s.goals vs) gg gw)) (ru : Nat) {y : T} {al : List Nat} (hy : Is y al) (here : Nat) (hn : s.goals.length ≤ 1048576) :
  LD S 42 [.agg [.sl gl gg 0 s.goals.length 5], .t (I ru), .t y, .t (I here)] σ = some (.t (I (gIx ru al here s.goals 0)), σ) := by
 obtain ⟨rows, h1, h2⟩ := qlr (rules := rules) (text := text) (r := r) (m := m) (dv := dv) R.rd hg hw
 obtain ⟨σ', h3⟩ := qsf (.inr ⟨rows, rfl, h2⟩) ru hy here R.args hn
 refine qck (A := A42) rfl rfl (ts := [.agg [.list rows], I ru, y, I here]) ?_ h3 rfl
 have t1 : ∀ z : T, frz 40 σ (.t z) = some z := fun z => rfl
 have t2 : frz 40 σ (.agg [.sl gl gg 0 s.goals.length 5]) = some (.agg [.list rows]) := by
  simp only [frz, frzs] at h1 ⊢
  rw [h1]; rfl
 simp only [frzs, t1, t2]

theorem qom {r gl m : Nat} {dv : V} {vs : List (V × V)} (h : qmp r gl m dv vs) : r ≠ gl ∧ r ≠ m ∧ gl ≠ m ∧ (∀ j ∈ locV dv, r ≠ j ∧ gl ≠ j ∧ m ≠ j) ∧ (∀ j ∈ qbc vs, r ≠ j ∧ gl ≠ j ∧ m ≠ j) ∧ ∀ j ∈ locV dv, j ∉ qbc vs := by
 unfold qmp at h
 simp only [List.nodup_cons, List.mem_cons, List.mem_append, not_or, List.nodup_append] at h
 obtain ⟨⟨h1, h2, h3, h4⟩, ⟨h5, h6, h7⟩, ⟨h8, h9⟩, h10, h11, h12⟩ := h
 refine ⟨h1, h2, h5, fun j hj => ⟨fun e => h3 (e ▸ hj), fun e => h6 (e ▸ hj), fun e => h8 (e ▸ hj)⟩, fun j hj => ⟨fun e => h4 (e ▸ hj), fun e => h7 (e ▸ hj), fun e => h9 (e ▸ hj)⟩, fun j hj hj2 => h12 j hj j hj2 rfl⟩

theorem qud {rules : T} {text : List Nat} {r gl m : Nat} {σ : Store} {dv : V} {vs : List (V × V)} {s : Rn} (R : Rep rules text r gl m σ dv vs s) (ru : Nat) (al : List Nat) (here : Nat) (hn : s.goals.length ≤ 1000) (ha : al.length ≤ 1000) :
  ∃ σ' new, LD S 26 [.ptr r 0 0 7, .t (I ru), .t (.list (qax al)), .t (I here)] σ = some (.t (I (goalF s ru al here).2), σ') ∧ Rep rules text r gl m σ' dv (vs ++ new) (goalF s ru al here).1 ∧ Fr [r, gl] σ σ' ∧ (∀ p ∈ new, p = (.t .nils, .t .nils)) := by
 obtain ⟨gg, gw, hw, hr, hg⟩ := R.run
 have hat := q1e R hw hg ru (.inr rfl : Is (.list (qax al)) al) here (by omega)
 obtain ⟨n1, n2, n3, n4, n5, n6⟩ := qom R.apart
 have lr := lt_of_get hr
 have lg := lt_of_get hg
 simp only [qbr] at hr
 have hI : ∀ (args : List V) (σ : Store), LD S 26 args σ = LV S 26 args σ := fun args σ => qbt (A := A26) rfl rfl rfl args σ
 cases hix : gIx ru al here s.goals 0 with
 | ofNat i =>
  rw [hix] at hat
  have e1 : goalF s ru al here = (s, i) := by simp only [goalF, hix]
  rw [e1]
  refine ⟨σ, [], ?_, by rw [List.append_nil]; exact R, Fr.refl _ _, fun p hp => by simp at hp⟩
  rw [hI]
  refine qas (A := A26) rfl Tryz.func26 rfl ?_
  refine wR rfl (by simp; rfl) ?_
  refine wR rfl (by simp [hr, hat]; rfl) ?_
  refine wR rfl (by simp; rfl) ?_
  refine wF rfl (by simp [show ¬ ((i : Int) < 0) by omega]) ?_
  refine wK ?_
  refine wR rfl (by simp; rfl) ?_
  refine wX ?_
  try simp only [tq]
  simp [Tryz.f26]
 | negSucc n =>
  have := qts hix
  subst this
  rw [hix] at hat
  have e1 : goalF s ru al here = ({ s with goals := s.goals ++ [⟨ru, al, here, [], []⟩], came := true }, s.goals.length) := by simp only [goalF, hix]
  rw [e1]
  simp only
  have hat' : LD S 42 [.agg [.sl gl gg 0 s.goals.length 5], .t (I ru), .t (.list (qax al)), .t (I here)] σ = some (.t (I (-1)), σ) := hat
  have hcp := qlj (.inr rfl : Is (.list (qax al)) al) (by omega)
  suffices hh : ∃ v σ', LV S 26 [.ptr r 0 0 7, .t (I ru), .t (.list (qax al)), .t (I here)] σ = some (v, σ') ∧ v = .t (I s.goals.length) ∧ ∃ o, σ' = ((σ.set gl (.cells (qam s.goals vs ++ [V.t (I ru), V.t (.list (qax al)), V.t (I here), V.t .nils, V.t .nils]) (gg + 1) gw)).set r (qbr rules text (.sl gl (gg + 1) 0 (s.goals.length + 1) 5) s.ends true dv m)) ++ [o] by
   obtain ⟨v, σ', h1, rfl, o, rfl⟩ := hh
   have gr : ∀ i, i ≠ gl → i ≠ r → i < σ.length → (((σ.set gl (.cells (qam s.goals vs ++ [V.t (I ru), V.t (.list (qax al)), V.t (I here), V.t .nils, V.t .nils]) (gg + 1) gw)).set r (qbr rules text (.sl gl (gg + 1) 0 (s.goals.length + 1) 5) s.ends true dv m)) ++ [o])[i]? = σ[i]? := fun i h1 h2 h3 => by
    rw [List.getElem?_append_left (by simpa using h3), List.getElem?_set_ne (Ne.symm h2), List.getElem?_set_ne (Ne.symm h1)]
   refine ⟨_, [(.t .nils, .t .nils)], by rw [hI]; exact h1, ⟨⟨gg + 1, gw, by omega, ?_, ?_⟩, ?_, ?_, ?_, ?_, ?_⟩, ⟨by simp, fun i hi hn => gr i (fun e => hn (by simp [e])) (fun e => hn (by simp [e])) hi⟩, fun p hp => by simpa using hp⟩
   ·rw [List.getElem?_append_left (by simpa using lr), List.getElem?_set_self (by simpa using lr)]
    simp
   ·rw [List.getElem?_append_left (by simpa using lg), List.getElem?_set_ne n1, List.getElem?_set_self lg, qes _ _ _ _ R.rd.1]
    simp [qam]
   ·rw [gr m (Ne.symm n3) (Ne.symm n2) (lt_of_get R.seen)]; exact R.seen
   ·exact R.done.keep fun i hi => gr i (Ne.symm (n4 i hi).2.1) (Ne.symm (n4 i hi).1) (R.done.locs i hi)
   ·have hk := R.rd.keep fun i hi => gr i (Ne.symm (n5 i hi).2.1) (Ne.symm (n5 i hi).1) (R.rd.locs i hi)
    refine ⟨by simp [hk.1], fun i g p hg hp => ?_⟩
    rcases Nat.lt_or_ge i s.goals.length with h | h
    ·rw [List.getElem?_append_left h] at hg
     rw [List.getElem?_append_left (by rw [hk.1]; exact h)] at hp
     exact hk.2 i g p hg hp
    ·rw [List.getElem?_append_right h] at hg
     rw [List.getElem?_append_right (by rw [hk.1]; exact h), hk.1] at hp
     cases hq : i - s.goals.length with
     | zero =>
      rw [hq] at hg hp
      simp only [List.getElem?_cons_zero, Option.some.injEq] at hg hp
      subst hg hp
      exact ⟨.inl ⟨rfl, rfl⟩, .inl ⟨rfl, rfl⟩⟩
     | succ q => rw [hq] at hg; simp at hg
   ·have := R.apart
    unfold qmp at this ⊢
    have e : qbc (vs ++ [(V.t .nils, V.t .nils)]) = qbc vs := by simp [qbc, locV]
    rw [e]; exact this
   ·intro g hg
    rcases List.mem_append.1 hg with hg | hg
    ·exact R.args g hg
    ·simp only [List.mem_singleton] at hg
     subst hg
     simp only
     omega
  have hlen := qbg s.goals vs R.rd.1
  have hbnd : (s.goals.length + 1) * 88 ≤ 140737488355328 := by omega
  refine qaq (A := A26) rfl Tryz.func26 rfl ?_
  refine wR rfl (by simp; rfl) ?_
  refine wR rfl (by simp [hr, hat']; rfl) ?_
  refine wR rfl (by simp; rfl) ?_
  refine wT rfl (by simp) ?_
  refine wR rfl (by simp [hr]; rfl) ?_
  refine wR rfl (by simp [hr, hg, hcp, qbz, qar, qao, qap, qaf, qaa, qab, List.getElem?_append, lr, lg, hlen, hbnd, List.getElem?_set_ne n1, List.getElem?_set_ne (Ne.symm n1)]; rfl) ?_
  refine wR rfl (by simp [List.getElem?_append, lr, lg, List.getElem?_set_self]; rfl) ?_
  refine wR rfl (by simp; rfl) ?_
  try simp only [tq]
  refine wX ?_
  try simp only [tq]
  exact ⟨trivial, _, (by simp [Tryz.f26]), rfl, _, (by simp [qbr]; rfl)⟩
end G
namespace G
open X
attribute [-simp] lenV idxV getElem?_pos
attribute [simp] List.getElem?_cons_zero List.getElem?_cons_succ
def natRows : List T → Option (List Nat)
 | [] => some []
 | .agg [.int .i64 (.ofNat n)] :: r => (natRows r).map (n :: ·)
 | _ :: _ => none
theorem qoq : ∀ {rows : List T} {l : List Nat}, natRows rows = some l → rows = qax l
 | [], l, h => by cases h; rfl
 | .agg [.int .i64 (.ofNat n)] :: r, l, h => by
  simp only [natRows, Option.map_eq_some_iff] at h
  obtain ⟨l', h1, rfl⟩ := h
  rw [qoq h1]; rfl
def doneF (s : Rn) (here : Nat) : Option Rn := if 1000 < s.done.length then none else if s.done.contains here then some s else some { s with done := s.done ++ [here] }
def endsF (K : Nats) (text : List Nat) (x env : T) (here : Nat) (A : T → Nat → Rn → Option Rn) : List Nat → Rn → Option Rn
 | [], s => some s
 | e :: r, s => if here ≤ e ∧ e ≤ text.length then match K 74 [x, env, .str ((text.take e).drop here)] with
     | some env' => match A env' e s with
      | some s' => endsF K text x env here A r s'
      | none => none
     | none => none
  else none
def callF (K : Nats) (rules : List T) (text : List Nat) (kind : Nat) (nm : List Nat) (ax : T) (bs : List Nat) (env : T) (here : Nat) (A : T → Nat → Rn → Option Rn) (s : Rn) : Option Rn :=
 match K 73 [symT kind nm ax (.str bs), env, I here] with
 | some (.tup [.nils, .bool false]) => some s
 | some (.tup [.list rows, .bool true]) => match natRows rows with
  | some al => if al.length ≤ 1000 then match K 22 [.agg [.list rules], .str nm] with
    | some (.int .i64 (.ofNat ru)) => match (goalF s ru al here).1.goals[(goalF s ru al here).2]? with
     | some g => if g.ends.length ≤ 1000 then endsF K text (symT kind nm ax (.str bs)) env here A g.ends (goalF s ru al here).1 else none
     | none => none
    | _ => none
   else none
  | none => none
 | _ => none
def symF (K : Nats) (rules : List T) (text : List Nat) (x : T) (env : T) (here : Nat) (A : T → Nat → Rn → Option Rn) (s : Rn) : Option Rn :=
 match x with
 | .agg [.int .i64 (.ofNat kind), .str nm, ax, .str bs] =>
  if kind = 3 then callF K rules text kind nm ax bs env here A s
  else match (match ax with | .nils => true | .list _ => true | _ => false), passF K text kind nm ax env here with
   | true, some (nx, true) => A env nx s
   | true, some (_, false) => some s
   | _, _ => none
 | _ => none
def altF (K : Nats) (rules : List T) (text : List Nat) : Nat → List T → Nat → T → Nat → Rn → Option Rn
 | 0, _, _, _, _, _ => none
 | f + 1, syms, sym, env, here, s =>
  if 300 < s.goals.length then some s else match keyF K sym env here with
  | none => none
  | some key => if hasKey key s.seen then some s
   else if sym = syms.length then doneF { s with seen := s.seen ++ [key] } here
   else if 1000000 < sym then none
   else match syms[sym]? with
    | some x => symF K rules text x env here (altF K rules text f syms (sym + 1)) { s with seen := s.seen ++ [key] }
    | none => none

/-- From one state to another. -/
structure Goes (rules : List T) (text : List Nat) (r gl m : Nat) (σ : Store) (dv : V) (vs : List (V × V)) (σ' : Store) (dv' : V) (vs' : List (V × V)) (s' : Rn) : Prop where
 rep : Rep (.list rules) text r gl m σ' dv' vs' s'
 fr : Fr (r :: gl :: m :: locV dv) σ σ'
 dvl : ∀ d ∈ locV dv', d ∈ locV dv ∨ σ.length ≤ d
 vs : ∃ k, vs' = vs ++ List.replicate k (V.t .nils, V.t .nils)
theorem Goes.refl {rules : List T} {text : List Nat} {r gl m : Nat} {σ : Store} {dv : V} {vs : List (V × V)} {s : Rn} (R : Rep (.list rules) text r gl m σ dv vs s) : Goes rules text r gl m σ dv vs σ dv vs s :=
 ⟨R, Fr.refl _ _, fun _ h => .inl h, 0, by simp⟩
theorem Goes.trans {rules : List T} {text : List Nat} {r gl m : Nat} {σ σ1 σ2 : Store} {dv dv1 dv2 : V} {vs vs1 vs2 : List (V × V)} {s1 s2 : Rn} (h1 : Goes rules text r gl m σ dv vs σ1 dv1 vs1 s1) (h2 : Goes rules text r gl m σ1 dv1 vs1 σ2 dv2 vs2 s2) : Goes rules text r gl m σ dv vs σ2 dv2 vs2 s2 := by
 refine ⟨h2.rep, h1.fr.trans h2.fr ?_, ?_, ?_⟩
 ·intro i hi
  simp only [List.mem_cons] at hi ⊢
  rcases hi with h | h | h | h
  ·exact .inl (.inl h)
  ·exact .inl (.inr (.inl h))
  ·exact .inl (.inr (.inr (.inl h)))
  ·rcases h1.dvl i h with q | q
   ·exact .inl (.inr (.inr (.inr q)))
   ·exact .inr q
 ·intro d hd
  rcases h2.dvl d hd with q | q
  ·exact h1.dvl d q
  ·exact .inr (by have := h1.fr.1; omega)
 ·obtain ⟨k1, rfl⟩ := h1.vs
  obtain ⟨k2, rfl⟩ := h2.vs
  exact ⟨k1 + k2, by rw [List.append_assoc, List.replicate_append_replicate]⟩
/-- a new object -/
theorem Rep.app {rules : T} {text : List Nat} {r gl m : Nat} {σ : Store} {dv : V} {vs : List (V × V)} {s : Rn} (R : Rep rules text r gl m σ dv vs s) (l : Store) : Rep rules text r gl m (σ ++ l) dv vs s := by
 have k : ∀ {i : Nat} {o : V.Obj}, σ[i]? = some o → (σ ++ l)[i]? = some o := fun h => by rw [List.getElem?_append_left (lt_of_get h)]; exact h
 obtain ⟨gg, gw, h1, h2, h3⟩ := R.run
 exact ⟨⟨gg, gw, h1, k h2, k h3⟩, k R.seen, R.done.keep fun i hi => by rw [List.getElem?_append_left (R.done.locs i hi)], R.rd.keep fun i hi => by rw [List.getElem?_append_left (R.rd.locs i hi)], R.apart, R.args⟩
theorem Goes.app {rules : List T} {text : List Nat} {r gl m : Nat} {σ : Store} {dv : V} {vs : List (V × V)} {s : Rn} (R : Rep (.list rules) text r gl m σ dv vs s) (l : Store) : Goes rules text r gl m σ dv vs (σ ++ l) dv vs s :=
 ⟨R.app l, ⟨by simp, fun i hi _ => List.getElem?_append_left hi⟩, fun _ h => .inl h, 0, by simp⟩
/-- the looks that have been -/
theorem Goes.look {rules : List T} {text : List Nat} {r gl m : Nat} {σ : Store} {dv : V} {vs : List (V × V)} {s : Rn} (R : Rep (.list rules) text r gl m σ dv vs s) (ks : List (List Nat)) : Goes rules text r gl m σ dv vs (σ.set m (.map (ents ks))) dv vs { s with seen := ks } := by
 obtain ⟨n1, n2, n3, n4, n5, n6⟩ := qom R.apart
 have lm := lt_of_get R.seen
 obtain ⟨gg, gw, h1, h2, h3⟩ := R.run
 have k : ∀ {i : Nat}, m ≠ i → (σ.set m (.map (ents ks)))[i]? = σ[i]? := fun h => List.getElem?_set_ne h
 refine ⟨⟨⟨gg, gw, h1, by rw [k (Ne.symm n2)]; exact h2, by rw [k (Ne.symm n3)]; exact h3⟩, qci lm _, R.done.keep fun i hi => k (n4 i hi).2.2, R.rd.keep fun i hi => k (n5 i hi).2.2, R.apart, R.args⟩, ⟨by simp, fun i hi hn => k (fun e => hn (by simp [e]))⟩, fun _ h => .inl h, 0, by simp⟩
theorem Goes.goal {rules : List T} {text : List Nat} {r gl m : Nat} {σ σ' : Store} {dv : V} {vs new : List (V × V)} {s' : Rn} (R : Rep (.list rules) text r gl m σ' dv (vs ++ new) s') (hf : Fr [r, gl] σ σ') (hn : ∀ p ∈ new, p = (V.t .nils, V.t .nils)) : Goes rules text r gl m σ dv vs σ' dv (vs ++ new) s' :=
 ⟨R, ⟨hf.1, fun i hi hm => hf.2 i hi (fun h => hm (by simp only [List.mem_cons, List.not_mem_nil, or_false] at h ⊢; rcases h with h | h <;> simp [h]))⟩, fun _ h => .inl h, new.length, by rw [List.eq_replicate_of_mem hn, List.length_replicate]⟩
end G
