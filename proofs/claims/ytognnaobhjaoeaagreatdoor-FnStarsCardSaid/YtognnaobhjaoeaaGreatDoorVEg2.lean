/- A part of the proof. No statement of the claim is in it. -/
import Derived.Test.YtognnaobhjaoeaaGreatDoorVEg1
open Go Go.V Go.Proofs
namespace X
set_option maxRecDepth 100000
set_option maxHeartbeats 4000000
set_option linter.unusedSimpArgs false
set_option linter.unusedVariables false
attribute [-simp] lenV idxV
/-- A value that reads as a list of numbers. -/
def Rd (σ : Store) (v : V) (l : List Nat) : Prop := (v = .t .nils ∧ l = []) ∨ ∃ d g w, v = .sl d g 0 l.length 1 ∧ σ[d]? = some (.cells (ints l) g w) ∧ w ≤ g ∧ l ≠ []
theorem Rd.len {σ : Store} {v : V} {l : List Nat} (h : Rd σ v l) (e : TypeId) : lenV σ (.slice e) v = some (l.length : Int) := by
 rcases h with ⟨rfl, rfl⟩ | ⟨d, g, w, rfl, _, _⟩ <;> simp
theorem take_ints (l : List Nat) : ((ints l).drop 0).take (l.length * 1) = ints l := by
 rw [Nat.mul_one, List.drop_zero, List.take_of_length_le (by simp)]
theorem frz_sl1 (n : Nat) {σ : Store} {d g w : Nat} {l : List Nat} (h1 : σ[d]? = some (.cells (ints l) g w)) (h2 : w ≤ g) : frz (n + 2) σ (.sl d g 0 l.length 1) = some (.list (rows1 l)) := by
 have := frz_sl (d := n + 1) h1 h2 (Nat.le_refl _) Nat.one_pos (off := 0) (len := l.length) (by simp) (ts := l.map fun (n : Nat) => I n) (by rw [take_ints]; exact frz_ints n σ l)
 rw [chunk1] at this
 exact this
theorem frzN_sl {d : Nat} {σ : Store} {loc g off len k gen wgen : Nat} {cs : List V} (h : σ[loc]? = some (.cells cs gen wgen)) (h1 : wgen ≤ g) (h2 : g ≤ gen) (h3 : 0 < k) (h4 : off + len * k ≤ cs.length) {ts : List T} (h5 : frzs (frzN d σ) ((cs.drop off).take (len * k)) = some ts) :
  frzN (d + 1) σ (.sl loc g off len k) = some (.list (chunk k len ts)) := by
 simp only [frzN, h]
 rw [if_pos ⟨h1, h2, h3, h4⟩, h5]
 rfl
theorem frzN_sl1 (n : Nat) {σ : Store} {d g w : Nat} {l : List Nat} (h1 : σ[d]? = some (.cells (ints l) g w)) (h2 : w ≤ g) : frzN (n + 2) σ (.sl d g 0 l.length 1) = some (.list (rows1 l)) := by
 have := frzN_sl (d := n + 1) h1 h2 (Nat.le_refl _) Nat.one_pos (off := 0) (len := l.length) (by simp) (ts := l.map fun (n : Nat) => I n) (by rw [take_ints]; exact frzN_ints n σ l)
 rw [chunk1] at this
 exact this
theorem frz_rd (n : Nat) {σ : Store} {v : V} {l : List Nat} (h : Rd σ v l) : ∃ x, frz (n + 2) σ v = some x ∧ Is x l := by
 rcases h with ⟨rfl, rfl⟩ | ⟨d, g, w, rfl, h1, h2, _⟩
 ·exact ⟨.nils, rfl, .inl ⟨rfl, rfl⟩⟩
 ·exact ⟨_, frz_sl1 n h1 h2, .inr rfl⟩
theorem contains_ld {σ : Store} {v : V} {l : List Nat} (h : Rd σ v l) (y : Nat) (hl : l.length ≤ 1048576) : LD S 19 [v, .t (I y)] σ = some (.t (B (l.contains y)), σ) := by
 obtain ⟨x, h1, h2⟩ := frz_rd 38 h
 exact LD_borrow (A := A19) rfl rfl (ts := [x, I y]) (by simp only [frzs, h1]; rfl) (contains_lv h2 y hl) rfl

theorem copy_lv {x : T} {l : List Nat} (h : Is x l) (hl : l.length * 8 ≤ 140737488355328) : ∃ g w, LV S 62 [.t x] [] = some (.sl 0 g 0 l.length 1, [.cells (ints l) g w]) ∧ w ≤ g := by
 rcases h with ⟨rfl, rfl⟩ | rfl
 ·refine ⟨0, 0, ?_, Nat.le_refl _⟩
  refine LV_body (A := A62) rfl Tryz.func62 rfl ?_
  repeat apply W_seq
  refine W_region (by simp; first | exact ⟨rfl, rfl⟩ | exact rfl) ?_
  try simp only [thenQ, blockQ, Ann.kill, List.find?_nil]
  repeat apply W_seq
  refine W_region (by simp [appendV, srcCells, sliceCells]; first | exact ⟨rfl, rfl⟩ | exact rfl) ?_
  try simp only [thenQ, blockQ, Ann.kill, List.find?_nil]
  refine W_ret ?_
  try simp only [thenQ, blockQ]
  simp [Tryz.f62, ints]
 ·cases l with
  | nil =>
   refine ⟨0, 0, ?_, Nat.le_refl _⟩
   refine LV_body (A := A62) rfl Tryz.func62 rfl ?_
   repeat apply W_seq
   refine W_region (by simp; first | exact ⟨rfl, rfl⟩ | exact rfl) ?_
   try simp only [thenQ, blockQ, Ann.kill, List.find?_nil]
   repeat apply W_seq
   refine W_region (by simp [appendV, srcCells, sliceCells, rows1, rowCells]; first | exact ⟨rfl, rfl⟩ | exact rfl) ?_
   try simp only [thenQ, blockQ, Ann.kill, List.find?_nil]
   refine W_ret ?_
   try simp only [thenQ, blockQ]
   simp [Tryz.f62, ints]
  | cons a l =>
   refine ⟨1, 0, ?_, by omega⟩
   refine LV_body (A := A62) rfl Tryz.func62 rfl ?_
   repeat apply W_seq
   refine W_region (by simp; first | exact ⟨rfl, rfl⟩ | exact rfl) ?_
   try simp only [thenQ, blockQ, Ann.kill, List.find?_nil]
   have hb : (l.length + 1) * 8 ≤ 140737488355328 := by simpa using hl
   repeat apply W_seq
   refine W_region (by simp [appendV, srcCells, sliceCells, rowCells1, hb]; first | exact ⟨rfl, rfl⟩ | exact rfl) ?_
   try simp only [thenQ, blockQ, Ann.kill, List.find?_nil]
   refine W_ret ?_
   try simp only [thenQ, blockQ]
   simp [Tryz.f62]
theorem copy_ld_t {x : T} {l : List Nat} (h : Is x l) (hl : l.length * 8 ≤ 140737488355328) (σ : Store) : LD S 62 [.t x] σ = some (.t (.list (rows1 l)), σ) := by
 obtain ⟨g, w, h1, h2⟩ := copy_lv h hl
 exact LD_pure (A := A62) rfl rfl rfl h1 (frz_sl1 38 rfl h2) σ
theorem copy_ld {σ : Store} {v : V} {l : List Nat} (h : Rd σ v l) (hl : l.length * 8 ≤ 140737488355328) : LD S 62 [v] σ = some (.t (.list (rows1 l)), σ) := by
 have h0 := h
 rcases h with ⟨rfl, rfl⟩ | ⟨d, g, w, rfl, h1, h2, _⟩
 ·exact copy_ld_t (.inl ⟨rfl, rfl⟩) hl σ
 ·obtain ⟨x, h3, h4⟩ := frz_rd 38 h0
  obtain ⟨g', w', h5, h6⟩ := copy_lv h4 hl
  exact LD_made (A := A62) rfl rfl (ts := [x]) rfl (by simp only [frzs, h3]) h5 (frzN_sl1 38 rfl h6)

/-! ### slices.BinarySearch -/
def bsL (l : List Nat) (t : Nat) : Nat → Nat → Nat → Nat
 | 0, i, _ => i
 | n + 1, i, j => if i < j then (match l[(i + j) / 2]? with
  | some y => if y < t then bsL l t n ((i + j) / 2 + 1) j else bsL l t n i ((i + j) / 2)
  | none => i) else i
def bs (l : List Nat) (t : Nat) : Nat := bsL l t (l.length + 1) 0 l.length
def bsFound (l : List Nat) (t : Nat) : Bool := match l[bs l t]? with
 | some y => y == t
 | none => false
theorem half (i j : Nat) (h : i + j ≤ 2097152) : IntKind.i64.wrap ((IntKind.u64.wrap (IntKind.i64.wrap ((i : Int) + (j : Int)))).fdiv (2 ^ min 1 IntKind.u64.bits)) = (((i + j) / 2 : Nat) : Int) := by
 rw [IntWalk.i64_in ((i : Int) + (j : Int)) (by omega), IntWalk.u64_in ((i : Int) + (j : Int)) (by omega)]
 have e : (2 : Int) ^ min 1 IntKind.u64.bits = 2 := by decide
 rw [e, Int.fdiv_eq_ediv_of_nonneg _ (by omega), IntWalk.i64_in _ (by omega)]
 omega
theorem bs_lv {x : T} {l : List Nat} (h : Is x l) (t : Nat) (hl : l.length ≤ 1048576) : LV S 96 [.t x, .t (I t)] [] = some (.t (.tup [I (bs l t), B (bsFound l t)]), []) := by
 refine LV_body (A := A96) rfl Tryz.func96 rfl ?_
 repeat apply W_seq
 refine W_region (by simp; first | exact ⟨rfl, rfl⟩ | exact rfl) ?_
 try simp only [thenQ, blockQ, Ann.kill, List.find?_nil]
 repeat apply W_seq
 refine W_region (by simp [h.len]; first | exact ⟨rfl, rfl⟩ | exact rfl) ?_
 try simp only [thenQ, blockQ, Ann.kill, List.find?_nil]
 repeat apply W_seq
 refine W_region (by simp; first | exact ⟨rfl, rfl⟩ | exact rfl) ?_
 try simp only [thenQ, blockQ, Ann.kill, List.find?_nil]
 repeat apply W_seq
 refine W_block ?_
 refine W_loop (I := fun m st τ => ∃ i j n, m = j - i ∧ j ≤ l.length ∧ i ≤ l.length ∧ j - i < n ∧ bsL l t n i j = bs l t ∧ st.vars = [(0, .t x), (1, .t (I t)), (4, .t (I 0)), (5, .t (B false)), (6, .t (I l.length)), (7, .t (I i)), (8, .t (I j))] ∧ τ = []) ?_ l.length _ _ ⟨0, l.length, l.length + 1, rfl, Nat.le_refl _, Nat.zero_le _, by omega, rfl, by simp, rfl⟩
 rintro m ⟨vars, scr⟩ τ ⟨i, j, n, rfl, hj, hi, hn, he, hv, rfl⟩
 simp only at hv
 subst hv
 obtain ⟨n, rfl⟩ : ∃ k, n = k + 1 := ⟨n - 1, by omega⟩
 repeat apply W_seq
 refine W_region (by simp; first | exact ⟨rfl, rfl⟩ | exact rfl) ?_
 try simp only [thenQ, blockQ, Ann.kill, List.find?_nil]
 by_cases c1 : i < j
 ·repeat apply W_seq
  refine W_cond (t := true) (by simp [c1]) ?_
  simp only [if_true, if_false, Bool.false_eq_true]
  refine W_skip ?_
  try simp only [thenQ, blockQ, Ann.kill, List.find?_nil]
  repeat apply W_seq
  refine W_block ?_
  have hh : (i + j) / 2 < l.length := by omega
  have e0 := half i j (by omega)
  have he2 : bsL l t (n + 1) i j = match l[(i + j) / 2]? with
   | some y => if y < t then bsL l t n ((i + j) / 2 + 1) j else bsL l t n i ((i + j) / 2)
   | none => i := by rw [bsL, if_pos c1]
  rw [he] at he2
  have hq1 : i ≤ (i + j) / 2 := by omega
  have hq2 : (i + j) / 2 < j := by omega
  revert e0 he2 hq1 hq2 hh
  generalize (i + j) / 2 = q
  intro hh e0 he2 hq1 hq2
  obtain ⟨y, hy⟩ := get_of_lt hh
  rw [hy] at he2
  simp only at he2
  have hx := h.idx hy
  repeat apply W_seq
  refine W_region (by simp [convV, e0]; first | exact ⟨rfl, rfl⟩ | exact rfl) ?_
  try simp only [thenQ, blockQ, Ann.kill, List.find?_nil]
  repeat apply W_seq
  refine W_region (by simp [hx, less_ld]; first | exact ⟨rfl, rfl⟩ | exact rfl) ?_
  try simp only [thenQ, blockQ, Ann.kill, List.find?_nil]
  by_cases c2 : y < t
  ·repeat apply W_seq
   refine W_cond (t := true) (by simp [c2]) ?_
   simp only [if_true, if_false, Bool.false_eq_true]
   repeat apply W_seq
   refine W_region (by simp [IntWalk.i64_in ((q : Int) + 1) (by omega)]; first | exact ⟨rfl, rfl⟩ | exact rfl) ?_
   try simp only [thenQ, blockQ, Ann.kill, List.find?_nil]
   rw [if_pos c2] at he2
   exact ⟨j - (q + 1), by omega, q + 1, j, n, rfl, hj, by omega, by omega, he2.symm, by simp, by simp⟩
  ·repeat apply W_seq
   refine W_cond (t := false) (by simp [c2]) ?_
   simp only [if_true, if_false, Bool.false_eq_true]
   repeat apply W_seq
   refine W_region (by simp; first | exact ⟨rfl, rfl⟩ | exact rfl) ?_
   try simp only [thenQ, blockQ, Ann.kill, List.find?_nil]
   rw [if_neg c2] at he2
   exact ⟨q - i, by omega, i, q, n, rfl, by omega, by omega, by omega, he2.symm, by simp, by simp⟩
 ·repeat apply W_seq
  refine W_cond (t := false) (by simp [c1]) ?_
  simp only [if_true, if_false, Bool.false_eq_true]
  repeat apply W_seq
  refine W_exit ?_
  try simp only [thenQ, blockQ, if_true, Ann.kill, List.find?_nil]
  have hb : bs l t = i := by rw [← he, bsL, if_neg c1]
  by_cases c3 : i < l.length
  ·obtain ⟨y, hy⟩ := get_of_lt c3
   have hf : bsFound l t = (y == t) := by rw [bsFound, hb, hy]
   by_cases c4 : y = t
   ·subst c4
    repeat apply W_seq
    refine W_region (by simp [h.idx hy, c3, isNaN_ld]; first | exact ⟨rfl, rfl⟩ | exact rfl) ?_
    try simp only [thenQ, blockQ, Ann.kill, List.find?_nil]
    rw [hb, hf]
    refine W_ret ?_
    try simp only [thenQ, blockQ]
    simp [Tryz.f96]
   ·have c5 : ((y : Int) == (t : Int)) = false := by simp; omega
    repeat apply W_seq
    refine W_region (by simp [h.idx hy, c3, isNaN2_ld, c5]; first | exact ⟨rfl, rfl⟩ | exact rfl) ?_
    try simp only [thenQ, blockQ, Ann.kill, List.find?_nil]
    rw [hb, hf]
    refine W_ret ?_
    try simp only [thenQ, blockQ]
    simp [Tryz.f96, c4, c5]
  ·have hf : bsFound l t = false := by rw [bsFound, hb, List.getElem?_eq_none (by omega)]
   repeat apply W_seq
   refine W_region (by simp [c3]; first | exact ⟨rfl, rfl⟩ | exact rfl) ?_
   try simp only [thenQ, blockQ, Ann.kill, List.find?_nil]
   rw [hb, hf]
   refine W_ret ?_
   try simp only [thenQ, blockQ]
   simp [Tryz.f96]
theorem bs_ld {σ : Store} {v : V} {l : List Nat} (h : Rd σ v l) (t : Nat) (hl : l.length ≤ 1048576) : LD S 96 [v, .t (I t)] σ = some (.t (.tup [I (bs l t), B (bsFound l t)]), σ) := by
 obtain ⟨x, h1, h2⟩ := frz_rd 38 h
 exact LD_borrow (A := A96) rfl rfl (ts := [x, I t]) (by simp only [frzs, h1]; rfl) (bs_lv h2 t hl) rfl
end X
