/- A part of the proof. No statement of the claim is in it. -/
import Derived.Test.YtphkipgmklhdgaaGreatVEr22
open Go Go.V Go.Proofs
namespace X
set_option maxRecDepth 100000
set_option maxHeartbeats 4000000
set_option linter.unusedSimpArgs false
set_option linter.unusedVariables false
attribute [-simp] getElem?_pos
attribute [simp] eqOp
theorem row_one {α : Type} : ∀ {l : List α} {i : Nat} {p : α}, l[i]? = some p → (l.take (i + 1)).drop i = [p]
 | x :: r, 0, p, h => by simp at h; simp [h]
 | x :: r, i + 1, p, h => by simp at h; simpa using row_one h
 | [], _, _, h => by simp at h
theorem asc_drop {n : Nat} : ∀ {l : List (Nat × Nat)} {j : Nat}, Asc n j l → j ≤ n
 | [], j, h => h
 | p :: r, j, h => by
  obtain ⟨a, b, c⟩ := h
  have := asc_drop c
  omega
/-- The law answers true. -/
theorem law_lv (hP : PairsOk) (hlong : ∀ σ, LD S 13 [.t (I 14), .t (.int .u8 97)] σ = some (.t (.str (List.replicate 14 97)), σ)) {x : T} {l : List Int} (hx : BytesT x l) :
  ∃ σ', LV S 3 [.t x] [] = some (.t (B true), σ') := by
 refine LV_bodyE (A := A3) rfl Tryz.func3 rfl ?_
 have hbig := big_ld hx
 repeat apply W_seq
 refine W_region (by simp; first | exact ⟨rfl, rfl⟩ | exact rfl) ?_
 try simp only [thenQ, blockQ, Ann.kill, List.find?_nil]
 repeat apply W_seq
 refine W_region (by simp [hbig]; first | exact ⟨rfl, rfl⟩ | exact rfl) ?_
 try simp only [thenQ, blockQ, Ann.kill, List.find?_nil]
 by_cases c0 : (1048576 : Int) < l.length
 ·repeat apply W_seq
  refine W_cond (t := true) (by simp [c0]) ?_
  simp only [if_true, if_false, Bool.false_eq_true]
  repeat apply W_seq
  refine W_region (by simp; first | exact ⟨rfl, rfl⟩ | exact rfl) ?_
  try simp only [thenQ, blockQ, Ann.kill, List.find?_nil]
  refine W_ret ?_
  try simp only [thenQ, blockQ]
  simp [Tryz.f3]
 repeat apply W_seq
 refine W_cond (t := false) (by simp [c0]) ?_
 simp only [if_true, if_false, Bool.false_eq_true]
 refine W_skip ?_
 try simp only [thenQ, blockQ, Ann.kill, List.find?_nil]
 obtain ⟨G, t, d1, d2, d3, d4⟩ := drawSpans_ld hP hlong hx (by omega)
 obtain ⟨SR, MK, VN, RA, n0, ps0, az0, gr, rfl, hgood⟩ := d2
 obtain ⟨L, s1, s2⟩ := spans_tot hgood d3 (by omega)
 have hLl : L.length ≤ t.length := by
  have : ∀ (l : List (Nat × Nat)) (j : Nat), Asc t.length j l → l.length + j ≤ t.length := by
   intro l
   induction l with
   | nil => intro j h; simpa [Asc] using h
   | cons p r ih => intro j h; obtain ⟨a, b, c⟩ := h; have := ih _ c; simp only [List.length_cons]; omega
  have := this L 0 s1
  omega
 obtain ⟨o1, o2⟩ := rep_out L [] 0 s1
 have hz : rows2 L = (zS L).map Sp := by simp [rows2, zS]
 have hir := fun σ => implReplaced_ld t [] (zS L) σ (by omega) (by simp) (by simp [zS]; omega)
 rw [show rep t [] (zS L) [] 0 = ((rep t [] (zS L) [] 0).1, true) from Prod.ext rfl o1] at hir
 obtain ⟨s, hs⟩ : ∃ s, s = (rep t [] (zS L) [] 0).1 := ⟨_, rfl⟩
 rw [show ((0 : Nat) : Int) = 0 from rfl] at o2
 rw [← hs] at hir o2
 simp only at hir
 have o2' : (s.length : Int) = t.length - sumZ L := by
  rw [o2]; simp
 clear o1 o2 hs
 have hir' : ∀ σ, LD S 7 [.t (.str t), .t (.list (rows2 L)), .t (.str [])] σ = some (.t (.tup [.str s, .bool true]), σ) := fun σ => by rw [hz]; exact hir σ
 repeat apply W_seq
 refine W_region (by simp [d1, fillV, setRange]; first | exact ⟨rfl, rfl⟩ | exact rfl) ?_
 try simp only [thenQ, blockQ, Ann.kill, List.find?_nil]
 repeat apply W_seq
 refine W_region (by simp [s2]; first | exact ⟨rfl, rfl⟩ | exact rfl) ?_
 try simp only [thenQ, blockQ, Ann.kill, List.find?_nil]
 repeat apply W_seq
 refine W_region (by simp [hir']; first | exact ⟨rfl, rfl⟩ | exact rfl) ?_
 try simp only [thenQ, blockQ, Ann.kill, List.find?_nil]
 repeat apply W_seq
 refine W_region (by simp; first | exact ⟨rfl, rfl⟩ | exact rfl) ?_
 try simp only [thenQ, blockQ, Ann.kill, List.find?_nil]
 repeat apply W_seq
 refine W_region (by simp; first | exact ⟨rfl, rfl⟩ | exact rfl) ?_
 try simp only [thenQ, blockQ, Ann.kill, List.find?_nil]
 repeat apply W_seq
 refine W_block ?_
 refine W_loop (I := fun m st τ => ∃ (k : Nat) (n : Int) (j : Nat), m = L.length - k ∧ k ≤ L.length ∧ Asc t.length j (L.drop k) ∧ 0 ≤ n ∧ n ≤ j ∧ n + sumZ (L.drop k) = sumZ L ∧ st.vars = [(0, .t x), (2, .t (B false)), (3, .ptr 0 0 0 1), (4, .t (.str t)), (5, .t (.list (rows2 L))), (6, .t (.str s)), (7, .t (B true)), (8, .t (I n)), (9, .t (I k))]) ?_ L.length _ _ ⟨0, 0, 0, rfl, Nat.zero_le _, s1, by omega, by omega, by simp, by simp⟩
 rintro m ⟨vars, scr⟩ τ ⟨k, n, j, rfl, hk, ha, hn0, hnj, hsum, hv⟩
 simp only at hv
 subst hv
 have hrl : (rows2 L).length = L.length := by simp [rows2]
 repeat apply W_seq
 refine W_region (by simp [hrl]; first | exact ⟨rfl, rfl⟩ | exact rfl) ?_
 try simp only [thenQ, blockQ, Ann.kill, List.find?_nil]
 by_cases c1 : k < L.length
 ·repeat apply W_seq
  refine W_cond (t := true) (by simp [c1]) ?_
  simp only [if_true, if_false, Bool.false_eq_true]
  refine W_skip ?_
  try simp only [thenQ, blockQ, Ann.kill, List.find?_nil]
  repeat apply W_seq
  refine W_block ?_
  obtain ⟨p, hp⟩ := get_of_lt c1
  obtain ⟨a, b⟩ := p
  rw [drop_get hp] at ha hsum
  obtain ⟨a1, a2, a3⟩ := ha
  simp only at a1 a2 a3
  have a4 := asc_drop a3
  simp only [sumZ] at hsum
  have hrk : (rows2 L)[k]? = some (.agg [I a, I b]) := by simp [rows2, hp]
  have hk1 : (k : Int) < L.length := by omega
  have w1 := IntWalk.i64_in (n + (b : Int)) (by omega)
  have w2 := IntWalk.i64_in (n + (b : Int) - a) (by omega)
  repeat apply W_seq
  refine W_region (by simp [hrk, w1, w2]; first | exact ⟨rfl, rfl⟩ | exact rfl) ?_
  try simp only [thenQ, blockQ, Ann.kill, List.find?_nil]
  have hone := fun σ => implReplaced_ld t ((t.take b).drop a) [((a : Int), (b : Int))] σ (by omega) (by simp; omega) (by simp)
  rw [rep_one (Nat.le_of_lt a2) a4] at hone
  have hone' : ∀ σ, LD S 7 [.t (.str t), .t (.list [.agg [I a, I b]]), .t (.str ((t.take b).drop a))] σ = some (.t (.tup [.str t, .bool true]), σ) := hone
  have hok : okRow 2 (.t (.list (rows2 L))) = true := by
   cases L with
   | nil => rfl
   | cons q r => rfl
  have g1 : (k : Int) + 1 ≤ L.length := by omega
  have g2 : ((k : Int) + 1).toNat = k + 1 := by omega
  have g3 : (k : Int) ≤ (k : Int) + 1 := by omega
  have g4 : (a : Int) ≤ b := by omega
  have g5 : (b : Int) ≤ t.length := by omega
  have hro := row_one hrk
  repeat apply W_seq
  refine W_region (by simp [-okRow, hok, hrk, hrl, g1, g2, g3, g4, g5, hro, hone', IntWalk.i64_in ((k : Int) + 1) (by omega)]; first | exact ⟨rfl, rfl⟩ | exact rfl) ?_
  try simp only [thenQ, blockQ, Ann.kill, List.find?_nil]
  repeat apply W_seq
  refine W_region (by simp [eqL_eq]; first | exact ⟨rfl, rfl⟩ | exact rfl) ?_
  try simp only [thenQ, blockQ, Ann.kill, List.find?_nil]
  repeat apply W_seq
  refine W_cond (t := false) (by simp) ?_
  simp only [if_true, if_false, Bool.false_eq_true]
  refine W_skip ?_
  try simp only [thenQ, blockQ, Ann.kill, List.find?_nil]
  repeat apply W_seq
  refine W_region (by simp [IntWalk.i64_in ((k : Int) + 1) (by omega)]; first | exact ⟨rfl, rfl⟩ | exact rfl) ?_
  try simp only [thenQ, blockQ, Ann.kill, List.find?_nil]
  exact ⟨L.length - (k + 1), by omega, k + 1, n + (b : Int) - a, b, rfl, c1, a3, by omega, by omega, by omega, by simp⟩
 ·repeat apply W_seq
  refine W_cond (t := false) (by simp [c1]) ?_
  simp only [if_true, if_false, Bool.false_eq_true]
  repeat apply W_seq
  refine W_exit ?_
  try simp only [thenQ, blockQ, if_true, Ann.kill, List.find?_nil]
  have : k = L.length := by omega
  subst this
  rw [List.drop_length] at hsum
  simp only [sumZ] at hsum
  obtain ⟨t2, L2, b2, e1, e2, e3, e4⟩ := drawReplaced_ld hx (by omega)
  have hi := fun σ => implReplaced_ld t2 b2 L2 σ (by omega) (by omega) (by omega)
  have hs := fun σ => specReplaced_ld t2 b2 L2 σ (by omega) (by omega) (by omega)
  obtain ⟨y, ok, hy⟩ : ∃ y ok, rep t2 b2 L2 [] 0 = (y, ok) := ⟨_, _, rfl⟩
  rw [hy] at hi hs
  have hi' : ∀ σ, LD S 7 [.t (.str t2), .t (.list (L2.map Sp)), .t (.str b2)] σ = some (.t (.tup [.str y, .bool ok]), σ) := hi
  have hs' : ∀ σ, LD S 9 [.t (.str t2), .t (.list (L2.map Sp)), .t (.str b2)] σ = some (.t (.tup [.str y, .bool ok]), σ) := hs
  have e1' : ∀ σ, LD S 8 [.t x] σ = some (.t (.tup [.str t2, .list (L2.map Sp), .str b2]), σ) := e1
  have h1 : (s.length : Int) = (t.length : Int) - n := by omega
  have hjl := asc_drop ha
  repeat apply W_seq
  refine W_region (by simp [e1']; first | exact ⟨rfl, rfl⟩ | exact rfl) ?_
  try simp only [thenQ, blockQ, Ann.kill, List.find?_nil]
  repeat apply W_seq
  refine W_region (by simp [hi']; first | exact ⟨rfl, rfl⟩ | exact rfl) ?_
  try simp only [thenQ, blockQ, Ann.kill, List.find?_nil]
  repeat apply W_seq
  refine W_region (by simp [hs']; first | exact ⟨rfl, rfl⟩ | exact rfl) ?_
  try simp only [thenQ, blockQ, Ann.kill, List.find?_nil]
  cases ok with
  | true =>
   repeat apply W_seq
   refine W_region (by simp [h1, eqL_eq, IntWalk.i64_in ((t.length : Int) - n) (by omega)]; first | exact ⟨rfl, rfl⟩ | exact rfl) ?_
   try simp only [thenQ, blockQ, Ann.kill, List.find?_nil]
   refine W_ret ?_
   try simp only [thenQ, blockQ]
   simp [Tryz.f3]
  | false =>
   repeat apply W_seq
   refine W_region (by simp [h1, eqL_eq, IntWalk.i64_in ((t.length : Int) - n) (by omega)]; first | exact ⟨rfl, rfl⟩ | exact rfl) ?_
   try simp only [thenQ, blockQ, Ann.kill, List.find?_nil]
   refine W_ret ?_
   try simp only [thenQ, blockQ]
   simp [Tryz.f3]
end X
