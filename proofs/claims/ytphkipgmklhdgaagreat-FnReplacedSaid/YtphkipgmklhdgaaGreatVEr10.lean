/- A part of the proof. No statement of the claim is in it. -/
import Derived.Test.YtphkipgmklhdgaaGreatVEr9
open Go Go.V Go.Proofs
namespace X
set_option maxRecDepth 100000
set_option maxHeartbeats 4000000
set_option linter.unusedSimpArgs false
set_option linter.unusedVariables false
attribute [-simp] lenV idxV getElem?_pos
/-! ### Ends, the longest, spans -/
def endsR (o : Option (List Gl)) : List Nat := match o with
 | some (g :: _) => g.ends
 | _ => []
theorem ends_ld {gr : List T} {tx nm ax : T} {fr : Nat} {o : Option (List Gl)} {y : T} (hr : ∀ σ, LD S 34 [.t (.agg [.list gr]), .t tx, .t nm, .t ax, .t (I fr)] σ = some (.t y, σ)) (hc : chartT o y) (hg : o ≠ some []) :
  ∃ x, Is x (endsR o) ∧ ∀ σ, LD S 24 [.t (.agg [.list gr]), .t tx, .t nm, .t ax, .t (I fr)] σ = some (.t x, σ) := by
 suffices hh : ∃ v σ', LV S 24 [.t (.agg [.list gr]), .t tx, .t nm, .t ax, .t (I fr)] [] = some (v, σ') ∧ ∃ x, Is x (endsR o) ∧ frz 40 σ' v = some x by
  obtain ⟨v, σ', h1, x, h2, h3⟩ := hh
  exact ⟨x, h2, fun σ => LD_pure (A := A24) (args := [.t (.agg [.list gr]), .t tx, .t nm, .t ax, .t (I fr)]) rfl rfl rfl h1 h3 σ⟩
 refine LV_bodyX (A := A24) rfl Tryz.func24 rfl ?_
 cases o with
 | none =>
  simp only [chartT] at hc
  subst hc
  repeat apply W_seq
  refine W_region (by simp; first | exact ⟨rfl, rfl⟩ | exact rfl) ?_
  try simp only [thenQ, blockQ, Ann.kill, List.find?_nil]
  repeat apply W_seq
  refine W_region (by simp [hr, fillV, setRange]; first | exact ⟨rfl, rfl⟩ | exact rfl) ?_
  try simp only [thenQ, blockQ, Ann.kill, List.find?_nil]
  repeat apply W_seq
  refine W_region (by simp; first | exact ⟨rfl, rfl⟩ | exact rfl) ?_
  try simp only [thenQ, blockQ, Ann.kill, List.find?_nil]
  repeat apply W_seq
  refine W_cond (t := true) (by simp) ?_
  simp only [if_true, if_false, Bool.false_eq_true]
  repeat apply W_seq
  refine W_region (by simp [sliceCells, repZero, chunk, fillV]; first | exact ⟨rfl, rfl⟩ | exact rfl) ?_
  try simp only [thenQ, blockQ, Ann.kill, List.find?_nil]
  refine W_ret ?_
  try simp only [thenQ, blockQ]
  exact ⟨trivial, _, (by simp [Tryz.f24]; rfl), .list [], .inr rfl, rfl⟩
 | some gs => cases gs with
  | nil => exact absurd rfl hg
  | cons g gs =>
  simp only [chartT] at hc
  obtain ⟨rows, rfl, hrows⟩ := hc
  obtain ⟨x, e, k, hw, ix, ie, ik⟩ := hrows.2 0 g rfl
  repeat apply W_seq
  refine W_region (by simp; first | exact ⟨rfl, rfl⟩ | exact rfl) ?_
  try simp only [thenQ, blockQ, Ann.kill, List.find?_nil]
  repeat apply W_seq
  refine W_region (by simp [hr, fillV, setRange]; first | exact ⟨rfl, rfl⟩ | exact rfl) ?_
  try simp only [thenQ, blockQ, Ann.kill, List.find?_nil]
  repeat apply W_seq
  refine W_region (by simp; first | exact ⟨rfl, rfl⟩ | exact rfl) ?_
  try simp only [thenQ, blockQ, Ann.kill, List.find?_nil]
  repeat apply W_seq
  refine W_cond (t := false) (by simp) ?_
  simp only [if_true, if_false, Bool.false_eq_true]
  refine W_skip ?_
  try simp only [thenQ, blockQ, Ann.kill, List.find?_nil]
  repeat apply W_seq
  refine W_region (by simp [hw, rowT]; first | exact ⟨rfl, rfl⟩ | exact rfl) ?_
  try simp only [thenQ, blockQ, Ann.kill, List.find?_nil]
  refine W_ret ?_
  try simp only [thenQ, blockQ]
  exact ⟨trivial, _, (by simp [Tryz.f24]; rfl), e, ie, rfl⟩
def lastR (l : List Nat) : Int := match l.getLast? with
 | some e => (e : Int)
 | none => -1
theorem long_ld {n : List Nat} {ps az : T} {gr : List T} {tx : T} {fr : Nat} {l : List Nat} {x : T} (he : ∀ σ, LD S 24 [.t (.agg [.list (.agg [.str n, ps, az] :: gr)]), .t tx, .t (.str n), .t (.list []), .t (I fr)] σ = some (.t x, σ)) (hx : Is x l) (hl : l.length ≤ 1048576) (σ : Store) :
  LD S 14 [.t (.agg [.list (.agg [.str n, ps, az] :: gr)]), .t tx, .t (I fr)] σ = some (.t (I (lastR l)), σ) := by
 suffices hh : ∃ σ', LV S 14 [.t (.agg [.list (.agg [.str n, ps, az] :: gr)]), .t tx, .t (I fr)] [] = some (.t (I (lastR l)), σ') by
  obtain ⟨σ', hh⟩ := hh
  exact LD_pure (A := A14) (args := [.t (.agg [.list (.agg [.str n, ps, az] :: gr)]), .t tx, .t (I fr)]) (v := .t (I (lastR l))) rfl rfl rfl hh rfl σ
 refine LV_bodyE (A := A14) rfl Tryz.func14 rfl ?_
 repeat apply W_seq
 refine W_region (by simp; first | exact ⟨rfl, rfl⟩ | exact rfl) ?_
 try simp only [thenQ, blockQ, Ann.kill, List.find?_nil]
 repeat apply W_seq
 refine W_region (by simp; first | exact ⟨rfl, rfl⟩ | exact rfl) ?_
 try simp only [thenQ, blockQ, Ann.kill, List.find?_nil]
 repeat apply W_seq
 refine W_cond (t := false) (by simp [show ¬ ((gr.length : Int) + 1 = 0) by omega]) ?_
 simp only [if_true, if_false, Bool.false_eq_true]
 refine W_skip ?_
 try simp only [thenQ, blockQ, Ann.kill, List.find?_nil]
 repeat apply W_seq
 refine W_region (by simp [he, sliceCells, repZero, chunk, fillV]; first | exact ⟨rfl, rfl⟩ | exact rfl) ?_
 try simp only [thenQ, blockQ, Ann.kill, List.find?_nil]
 repeat apply W_seq
 refine W_region (by simp [hx.len]; first | exact ⟨rfl, rfl⟩ | exact rfl) ?_
 try simp only [thenQ, blockQ, Ann.kill, List.find?_nil]
 by_cases c1 : l.length = 0
 ·repeat apply W_seq
  refine W_cond (t := true) (by simp [c1]) ?_
  simp only [if_true, if_false, Bool.false_eq_true]
  repeat apply W_seq
  refine W_region (by simp; first | exact ⟨rfl, rfl⟩ | exact rfl) ?_
  try simp only [thenQ, blockQ, Ann.kill, List.find?_nil]
  have : l = [] := List.length_eq_zero_iff.1 c1
  subst this
  refine W_ret ?_
  try simp only [thenQ, blockQ]
  simp [Tryz.f14, lastR]
 ·repeat apply W_seq
  refine W_cond (t := false) (by simp [c1]) ?_
  simp only [if_true, if_false, Bool.false_eq_true]
  refine W_skip ?_
  try simp only [thenQ, blockQ, Ann.kill, List.find?_nil]
  obtain ⟨e, hle⟩ := get_of_lt (show l.length - 1 < l.length by omega)
  have hi := hx.idx hle
  have h1 : (l.length : Int) - 1 = ((l.length - 1 : Nat) : Int) := by omega
  have hlast : lastR l = (e : Int) := by simp [lastR, List.getLast?_eq_getElem?, hle]
  repeat apply W_seq
  refine W_region (by simp [hx.len, h1, hi, IntWalk.i64_in ((l.length - 1 : Nat) : Int) (by omega)]; first | exact ⟨rfl, rfl⟩ | exact rfl) ?_
  try simp only [thenQ, blockQ, Ann.kill, List.find?_nil]
  rw [hlast]
  refine W_ret ?_
  try simp only [thenQ, blockQ]
  simp [Tryz.f14]

/-! ### Spans -/
def spansS (long : Nat → Int) (n : Nat) : Nat → Nat → List (Nat × Nat)
 | 0, _ => []
 | f + 1, k => if k < n ∧ k < 50 then match long k with
   | .ofNat e => if k < e then (k, e) :: spansS long n f e else spansS long n f (k + 1)
   | .negSucc _ => spansS long n f (k + 1)
  else []
def cells2 : List (Nat × Nat) → List V
 | [] => []
 | p :: r => .t (I p.1) :: .t (I p.2) :: cells2 r
theorem cells2_len : ∀ (l : List (Nat × Nat)), (cells2 l).length = l.length * 2
 | [] => rfl
 | p :: r => by simp only [cells2, List.length_cons, cells2_len r]; omega
theorem cells2_app : ∀ (l r : List (Nat × Nat)), cells2 (l ++ r) = cells2 l ++ cells2 r
 | [], r => rfl
 | a :: l, r => by simp only [List.cons_append, cells2, cells2_app l r]
def rows2 (l : List (Nat × Nat)) : List T := l.map fun p => .agg [I p.1, I p.2]
theorem frz_cells2 (d : Nat) (σ : Store) : ∀ (l : List (Nat × Nat)), ∃ ts, frzs (frz (d + 1) σ) (cells2 l) = some ts ∧ chunk 2 l.length ts = rows2 l
 | [] => ⟨[], rfl, rfl⟩
 | p :: r => by
  obtain ⟨ts, h1, h2⟩ := frz_cells2 d σ r
  refine ⟨I p.1 :: I p.2 :: ts, ?_, ?_⟩
  ·have t1 : ∀ z : T, frz (d + 1) σ (.t z) = some z := fun z => rfl
   simp only [cells2, frzs, t1, h1]
  ·simp only [List.length_cons, chunk, List.take_succ_cons, List.take_zero, List.drop_succ_cons, List.drop_zero, h2]
   rfl
theorem spans_lv {gr : List T} {text : List Nat} (hn : text.length ≤ 1000) {long : Nat → Int} (hL : ∀ k, k < text.length → long k ≤ text.length ∧ ∀ σ, LD S 14 [.t (.agg [.list gr]), .t (.str text), .t (I k)] σ = some (.t (I (long k)), σ)) :
  ∃ v σ', LV S 6 [.t (.agg [.list gr]), .t (.str text)] [] = some (v, σ') ∧ frz 40 σ' v = some (.list (rows2 (spansS long text.length text.length 0))) := by
 refine LV_bodyX (A := A6) rfl Tryz.func6 rfl ?_
 repeat apply W_seq
 refine W_region (by simp; first | exact ⟨rfl, rfl⟩ | exact rfl) ?_
 try simp only [thenQ, blockQ, Ann.kill, List.find?_nil]
 repeat apply W_seq
 refine W_region (by simp [sliceCells, repZero, chunk, fillV]; first | exact ⟨rfl, rfl⟩ | exact rfl) ?_
 try simp only [thenQ, blockQ, Ann.kill, List.find?_nil]
 repeat apply W_seq
 refine W_region (by simp; first | exact ⟨rfl, rfl⟩ | exact rfl) ?_
 try simp only [thenQ, blockQ, Ann.kill, List.find?_nil]
 repeat apply W_seq
 refine W_block ?_
 refine W_loop (I := fun m st τ => ∃ k l g w, text.length - k ≤ m ∧ k ≤ text.length ∧ l.length ≤ k ∧ l ++ spansS long text.length m k = spansS long text.length text.length 0 ∧ w ≤ g ∧ st.vars = [(0, .t (.agg [.list gr])), (1, .t (.str text)), (2, .ptr 0 0 0 1), (4, .t .nils), (5, .sl 1 g 0 l.length 2), (6, .t (I k))] ∧ τ = [.cells [.t (.list gr)] 0 0, .cells (cells2 l) g w]) ?_ text.length _ _ ⟨0, [], 0, 0, by omega, by omega, by simp, rfl, by omega, by simp, rfl⟩
 rintro m ⟨vars, scr⟩ τ ⟨k, l, g, w, hm, hk, hlk, he, hw, hvs, rfl⟩
 simp only at hvs
 subst hvs
 have hcl := cells2_len l
 have hbnd : (l.length + 1) * 16 ≤ 140737488355328 := by omega
 by_cases c1 : k < text.length
 ·by_cases c2 : k < 50
  ·cases m with
   | zero => omega
   | succ m =>
   obtain ⟨hle, hlong⟩ := hL k c1
   simp only [spansS, c1, c2, and_self, if_true] at he
   have c1' : (k : Int) < text.length := by omega
   have c2' : (k : Int) < 50 := by omega
   repeat apply W_seq
   refine W_region (by simp [c1', c2']; first | exact ⟨rfl, rfl⟩ | exact rfl) ?_
   try simp only [thenQ, blockQ, Ann.kill, List.find?_nil]
   repeat apply W_seq
   refine W_cond (t := true) (by simp) ?_
   simp only [if_true, if_false, Bool.false_eq_true]
   refine W_skip ?_
   try simp only [thenQ, blockQ, Ann.kill, List.find?_nil]
   repeat apply W_seq
   refine W_block ?_
   cases hlk2 : long k with
   | ofNat e =>
    rw [hlk2] at he hle hlong
    simp only [Int.ofNat_eq_natCast] at he hle hlong
    repeat apply W_seq
    refine W_region (by simp [hlong]; first | exact ⟨rfl, rfl⟩ | exact rfl) ?_
    try simp only [thenQ, blockQ, Ann.kill, List.find?_nil]
    by_cases c3 : k < e
    ·rw [if_pos c3] at he
     repeat apply W_seq
     refine W_region (by simp; first | exact ⟨rfl, rfl⟩ | exact rfl) ?_
     try simp only [thenQ, blockQ, Ann.kill, List.find?_nil]
     repeat apply W_seq
     refine W_cond (t := true) (by simp [c3]) ?_
     simp only [if_true, if_false, Bool.false_eq_true]
     repeat apply W_seq
     refine W_region (by simp [buildV, fieldSizes, fillV, setRange, repZero, sliceCells, chunk, mkAgg, allT, appendV, srcCells, rowCells, hcl, hbnd, hw]; first | exact ⟨rfl, rfl⟩ | exact rfl) ?_
     try simp only [thenQ, blockQ, Ann.kill, List.find?_nil]
     repeat apply W_seq
     refine W_region (by simp; first | exact ⟨rfl, rfl⟩ | exact rfl) ?_
     try simp only [thenQ, blockQ, Ann.kill, List.find?_nil]
     have hee : e ≤ text.length := by simpa using hle
     refine ⟨m, Nat.lt_succ_self _, e, l ++ [(k, e)], g + 1, w, by omega, hee, by simp; omega, by rw [← he]; simp, by omega, by simp, ?_⟩
     rw [cells2_app]
     rfl
    ·rw [if_neg c3] at he
     repeat apply W_seq
     refine W_region (by simp; first | exact ⟨rfl, rfl⟩ | exact rfl) ?_
     try simp only [thenQ, blockQ, Ann.kill, List.find?_nil]
     repeat apply W_seq
     refine W_cond (t := false) (by simp [c3, show e ≤ k by omega]) ?_
     simp only [if_true, if_false, Bool.false_eq_true]
     repeat apply W_seq
     refine W_region (by simp [IntWalk.i64_in ((k : Int) + 1) (by omega)]; first | exact ⟨rfl, rfl⟩ | exact rfl) ?_
     try simp only [thenQ, blockQ, Ann.kill, List.find?_nil]
     exact ⟨m, Nat.lt_succ_self _, k + 1, l, g, w, by omega, by omega, by omega, he, hw, by simp, rfl⟩
   | negSucc e =>
    rw [hlk2] at he hlong
    simp only at he
    repeat apply W_seq
    refine W_region (by simp [hlong]; first | exact ⟨rfl, rfl⟩ | exact rfl) ?_
    try simp only [thenQ, blockQ, Ann.kill, List.find?_nil]
    repeat apply W_seq
    refine W_region (by simp; first | exact ⟨rfl, rfl⟩ | exact rfl) ?_
    try simp only [thenQ, blockQ, Ann.kill, List.find?_nil]
    repeat apply W_seq
    refine W_cond (t := false) (by simp [show ¬ (k : Int) < Int.negSucc e by omega]) ?_
    simp only [if_true, if_false, Bool.false_eq_true]
    repeat apply W_seq
    refine W_region (by simp [IntWalk.i64_in ((k : Int) + 1) (by omega)]; first | exact ⟨rfl, rfl⟩ | exact rfl) ?_
    try simp only [thenQ, blockQ, Ann.kill, List.find?_nil]
    exact ⟨m, Nat.lt_succ_self _, k + 1, l, g, w, by omega, by omega, by omega, he, hw, by simp, rfl⟩
  ·have c2' : ¬ (k : Int) < 50 := by omega
   have c1' : (k : Int) < text.length := by omega
   have e0 : spansS long text.length m k = [] := by
    cases m with
    | zero => rfl
    | succ m => simp only [spansS, c2, and_false, if_false]
   rw [e0, List.append_nil] at he
   repeat apply W_seq
   refine W_region (by simp [c1', c2']; first | exact ⟨rfl, rfl⟩ | exact rfl) ?_
   try simp only [thenQ, blockQ, Ann.kill, List.find?_nil]
   repeat apply W_seq
   refine W_cond (t := false) (by simp) ?_
   simp only [if_true, if_false, Bool.false_eq_true]
   repeat apply W_seq
   refine W_exit ?_
   try simp only [thenQ, blockQ, if_true, Ann.kill, List.find?_nil]
   repeat apply W_seq
   refine W_region (by simp; first | exact ⟨rfl, rfl⟩ | exact rfl) ?_
   try simp only [thenQ, blockQ, Ann.kill, List.find?_nil]
   refine W_ret ?_
   try simp only [thenQ, blockQ]
   refine ⟨trivial, _, (by simp [Tryz.f6]; rfl), ?_⟩
   rw [← he]
   obtain ⟨ts, z1, z2⟩ := frz_cells2 38 [.cells [.t (.list gr)] 0 0, .cells (cells2 l) g w] l
   rw [← z2]
   exact frz_sl (d := 39) (k := 2) (off := 0) (len := l.length) (σ := [.cells [.t (.list gr)] 0 0, .cells (cells2 l) g w]) rfl hw (Nat.le_refl _) (by omega) (by omega) (ts := ts) (by rw [List.drop_zero, List.take_of_length_le (by omega)]; exact z1)
 ·have c1' : ¬ (k : Int) < text.length := by omega
  have e0 : spansS long text.length m k = [] := by
   cases m with
   | zero => rfl
   | succ m => simp only [spansS, c1, false_and, if_false]
  rw [e0, List.append_nil] at he
  repeat apply W_seq
  refine W_region (by simp [c1']; first | exact ⟨rfl, rfl⟩ | exact rfl) ?_
  try simp only [thenQ, blockQ, Ann.kill, List.find?_nil]
  repeat apply W_seq
  refine W_cond (t := false) (by simp) ?_
  simp only [if_true, if_false, Bool.false_eq_true]
  repeat apply W_seq
  refine W_exit ?_
  try simp only [thenQ, blockQ, if_true, Ann.kill, List.find?_nil]
  repeat apply W_seq
  refine W_region (by simp; first | exact ⟨rfl, rfl⟩ | exact rfl) ?_
  try simp only [thenQ, blockQ, Ann.kill, List.find?_nil]
  refine W_ret ?_
  try simp only [thenQ, blockQ]
  refine ⟨trivial, _, (by simp [Tryz.f6]; rfl), ?_⟩
  rw [← he]
  obtain ⟨ts, z1, z2⟩ := frz_cells2 38 [.cells [.t (.list gr)] 0 0, .cells (cells2 l) g w] l
  rw [← z2]
  exact frz_sl (d := 39) (k := 2) (off := 0) (len := l.length) (σ := [.cells [.t (.list gr)] 0 0, .cells (cells2 l) g w]) rfl hw (Nat.le_refl _) (by omega) (by omega) (ts := ts) (by rw [List.drop_zero, List.take_of_length_le (by omega)]; exact z1)
theorem spans_ld {gr : List T} {text : List Nat} (hn : text.length ≤ 1000) {long : Nat → Int} (hL : ∀ k, k < text.length → long k ≤ text.length ∧ ∀ σ, LD S 14 [.t (.agg [.list gr]), .t (.str text), .t (I k)] σ = some (.t (I (long k)), σ)) (σ : Store) :
  LD S 6 [.t (.agg [.list gr]), .t (.str text)] σ = some (.t (.list (rows2 (spansS long text.length text.length 0))), σ) := by
 obtain ⟨v, σ', h1, h2⟩ := spans_lv hn hL
 exact LD_pure (A := A6) (args := [.t (.agg [.list gr]), .t (.str text)]) rfl rfl rfl h1 h2 σ
/-- spans come one behind the other -/
def Asc (n : Nat) : Nat → List (Nat × Nat) → Prop
 | k, [] => k ≤ n
 | k, p :: r => k ≤ p.1 ∧ p.1 < p.2 ∧ Asc n p.2 r
theorem spansS_asc {long : Nat → Int} {n : Nat} (hL : ∀ k, k < n → long k ≤ n) : ∀ (f k : Nat), k ≤ n → ∀ j, j ≤ k → Asc n j (spansS long n f k)
 | 0, k, hk, j, hj => by simp only [spansS, Asc]; omega
 | f + 1, k, hk, j, hj => by
  simp only [spansS]
  split
  ·rename_i h
   have h1 := hL k h.1
   cases hl : long k with
   | ofNat e =>
    rw [hl] at h1
    have h1 : (e : Int) ≤ n := h1
    simp only
    split
    ·rename_i h2
     exact ⟨hj, h2, spansS_asc hL f e (by omega) e (Nat.le_refl _)⟩
    ·exact spansS_asc hL f (k + 1) (by omega) j (by omega)
   | negSucc e => exact spansS_asc hL f (k + 1) (by omega) j (by omega)
  ·simp only [Asc]; omega
end X
