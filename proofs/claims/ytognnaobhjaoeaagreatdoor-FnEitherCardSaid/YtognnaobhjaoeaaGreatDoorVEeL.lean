/- A part of the proof. No statement of the claim is in it. -/
import Derived.Test.YtognnaobhjaoeaaGreatDoorVEe0
import Derived.Test.YtognnaobhjaoeaaGreatDoorVEe1
import Derived.Test.YtognnaobhjaoeaaGreatDoorVEe2
import Derived.Test.YtognnaobhjaoeaaGreatDoorVEe3
import Derived.Test.YtognnaobhjaoeaaGreatDoorVEe00
import Derived.Test.YtognnaobhjaoeaaGreatDoorVEe01
import Derived.Test.YtognnaobhjaoeaaGreatDoorVEe02
import Derived.Test.YtognnaobhjaoeaaGreatDoorVEe03
import Derived.Test.YtognnaobhjaoeaaGreatDoorVEe10
import Derived.Test.YtognnaobhjaoeaaGreatDoorVEe11
import Derived.Test.YtognnaobhjaoeaaGreatDoorVEe12
import Derived.Test.YtognnaobhjaoeaaGreatDoorVEe13
import Derived.Test.YtognnaobhjaoeaaGreatDoorVEe20
import Derived.Test.YtognnaobhjaoeaaGreatDoorVEe21
import Derived.Test.YtognnaobhjaoeaaGreatDoorVEe22
import Derived.Test.YtognnaobhjaoeaaGreatDoorVEe23
import Derived.Test.YtognnaobhjaoeaaGreatDoorVEe30
import Derived.Test.YtognnaobhjaoeaaGreatDoorVEe31
import Derived.Test.YtognnaobhjaoeaaGreatDoorVEe32
import Derived.Test.YtognnaobhjaoeaaGreatDoorVEe33
open Go Go.V Go.Proofs
namespace X
set_option maxRecDepth 100000
set_option maxHeartbeats 4000000
set_option linter.unusedSimpArgs false
set_option linter.unusedVariables false
attribute [-simp] lenV idxV getElem?_pos
attribute [simp] List.getElem?_cons_zero List.getElem?_cons_succ eqOp
theorem lt4 {n : Nat} (h : n < 4) : n = 0 ∨ n = 1 ∨ n = 2 ∨ n = 3 := by omega
theorem par {n : Nat} (h : n < 2) : n = 0 ∨ n = 1 := by omega
def exs : List V := [.t (.str [34, 97, 34, 32, 40, 32, 34, 98, 34, 32, 41, 42]), .t (.str [40, 32, 34, 97, 34, 32, 124, 32, 34, 98, 34, 32, 41, 43]), .t (.str [34, 97, 98, 34, 32, 124, 32, 34, 98, 97, 34]), .t (.str [91, 97, 98, 93, 32, 123, 32, 64, 32, 61, 32, 49, 32, 125])]
def gramE : Nat → List T
 | 0 => g_ea0
 | 1 => g_ea1
 | 2 => g_ea2
 | _ => g_ea3
structure Ei (i j : Nat) (sx sy : List Nat) (ga gb gc : List T) : Prop where
 x : exs[i]? = some (.t (.str sx))
 y : exs[j]? = some (.t (.str sy))
 lx : sx.length ≤ 100
 ly : sy.length ≤ 100
 pa : ∀ σ, LD S 8 [.t (.str ([83, 32, 45, 62, 32] ++ sx ++ [32, 59]))] σ = some (.t (.agg [.list ga]), σ)
 pb : ∀ σ, LD S 8 [.t (.str ([83, 32, 45, 62, 32] ++ sy ++ [32, 59]))] σ = some (.t (.agg [.list gb]), σ)
 pc : ∀ σ, LD S 8 [.t (.str ([83, 32, 45, 62, 32, 65, 32, 124, 32, 66, 32, 59, 32, 65, 32, 45, 62, 32] ++ sx ++ [32, 59, 32, 66, 32, 45, 62, 32] ++ sy ++ [32, 59]))] σ = some (.t (.agg [.list gc]), σ)
 aa : ∀ t, Two 97 98 t → t.length ≤ 5 → ∀ σ, LD S 9 [.t (.agg [.list ga]), .t (.str t)] σ = some (.t (B (accX i t)), σ)
 ab : ∀ t, Two 97 98 t → t.length ≤ 5 → ∀ σ, LD S 9 [.t (.agg [.list gb]), .t (.str t)] σ = some (.t (B (accX j t)), σ)
 ac : ∀ t, Two 97 98 t → t.length ≤ 5 → ∀ σ, LD S 9 [.t (.agg [.list gc]), .t (.str t)] σ = some (.t (B (accX i t || accX j t)), σ)
theorem ei_all (i j : Nat) (hi : i < 4) (hj : j < 4) : ∃ sx sy ga gb gc, Ei i j sx sy ga gb gc := by
 rcases lt4 hi with rfl | rfl | rfl | rfl <;> rcases lt4 hj with rfl | rfl | rfl | rfl
 ·exact ⟨_, _, _, _, _, rfl, rfl, by decide, by decide, plain_ea0, plain_ea0, plain_ec00, acc_ea0, acc_ea0, acc_ec00⟩
 ·exact ⟨_, _, _, _, _, rfl, rfl, by decide, by decide, plain_ea0, plain_ea1, plain_ec01, acc_ea0, acc_ea1, acc_ec01⟩
 ·exact ⟨_, _, _, _, _, rfl, rfl, by decide, by decide, plain_ea0, plain_ea2, plain_ec02, acc_ea0, acc_ea2, acc_ec02⟩
 ·exact ⟨_, _, _, _, _, rfl, rfl, by decide, by decide, plain_ea0, plain_ea3, plain_ec03, acc_ea0, acc_ea3, acc_ec03⟩
 ·exact ⟨_, _, _, _, _, rfl, rfl, by decide, by decide, plain_ea1, plain_ea0, plain_ec10, acc_ea1, acc_ea0, acc_ec10⟩
 ·exact ⟨_, _, _, _, _, rfl, rfl, by decide, by decide, plain_ea1, plain_ea1, plain_ec11, acc_ea1, acc_ea1, acc_ec11⟩
 ·exact ⟨_, _, _, _, _, rfl, rfl, by decide, by decide, plain_ea1, plain_ea2, plain_ec12, acc_ea1, acc_ea2, acc_ec12⟩
 ·exact ⟨_, _, _, _, _, rfl, rfl, by decide, by decide, plain_ea1, plain_ea3, plain_ec13, acc_ea1, acc_ea3, acc_ec13⟩
 ·exact ⟨_, _, _, _, _, rfl, rfl, by decide, by decide, plain_ea2, plain_ea0, plain_ec20, acc_ea2, acc_ea0, acc_ec20⟩
 ·exact ⟨_, _, _, _, _, rfl, rfl, by decide, by decide, plain_ea2, plain_ea1, plain_ec21, acc_ea2, acc_ea1, acc_ec21⟩
 ·exact ⟨_, _, _, _, _, rfl, rfl, by decide, by decide, plain_ea2, plain_ea2, plain_ec22, acc_ea2, acc_ea2, acc_ec22⟩
 ·exact ⟨_, _, _, _, _, rfl, rfl, by decide, by decide, plain_ea2, plain_ea3, plain_ec23, acc_ea2, acc_ea3, acc_ec23⟩
 ·exact ⟨_, _, _, _, _, rfl, rfl, by decide, by decide, plain_ea3, plain_ea0, plain_ec30, acc_ea3, acc_ea0, acc_ec30⟩
 ·exact ⟨_, _, _, _, _, rfl, rfl, by decide, by decide, plain_ea3, plain_ea1, plain_ec31, acc_ea3, acc_ea1, acc_ec31⟩
 ·exact ⟨_, _, _, _, _, rfl, rfl, by decide, by decide, plain_ea3, plain_ea2, plain_ec32, acc_ea3, acc_ea2, acc_ec32⟩
 ·exact ⟨_, _, _, _, _, rfl, rfl, by decide, by decide, plain_ea3, plain_ea3, plain_ec33, acc_ea3, acc_ea3, acc_ec33⟩
theorem ei_lv {x : T} {l : List Int} (hx : BytesT x l) : ∃ σ', LV S 3 [.t x] [] = some (.t (B true), σ') := by
 refine LV_bodyE (A := A3) rfl Tryz.func3 rfl ?_
 repeat apply W_seq
 refine W_region (by simp; first | exact ⟨rfl, rfl⟩ | exact rfl) ?_
 try simp only [thenQ, blockQ, Ann.kill, List.find?_nil]
 repeat apply W_seq
 refine W_region (by simp [big_ld hx]; first | exact ⟨rfl, rfl⟩ | exact rfl) ?_
 try simp only [thenQ, blockQ, Ann.kill, List.find?_nil]
 by_cases h1 : (1048576 : Int) < l.length
 ·repeat apply W_seq
  refine W_cond (t := true) (by simp [h1]) ?_
  simp only [if_true, if_false, Bool.false_eq_true]
  repeat apply W_seq
  refine W_region (by simp; first | exact ⟨rfl, rfl⟩ | exact rfl) ?_
  try simp only [thenQ, blockQ, Ann.kill, List.find?_nil]
  refine W_ret ?_
  try simp only [thenQ, blockQ]
  simp [Tryz.f3]
 repeat apply W_seq
 refine W_cond (t := false) (by simp [h1]) ?_
 simp only [if_true, if_false, Bool.false_eq_true]
 refine W_skip ?_
 try simp only [thenQ, blockQ, Ann.kill, List.find?_nil]
 obtain ⟨p, pl, pb, hp⟩ := places_ld hx (by omega)
 obtain ⟨q0, g0, a0', b0⟩ := get_place pl pb 0 (by decide)
 obtain ⟨q1, g1, a1', b1⟩ := get_place pl pb 1 (by decide)
 obtain ⟨q2, g2, a2', b2⟩ := get_place pl pb 2 (by decide)
 obtain ⟨x1, hx1, ex1⟩ := tmod_nat a0' 4 (by decide)
 obtain ⟨y1, hy1, ey1⟩ := tmod_nat a1' 4 (by decide)
 obtain ⟨n, hn, en⟩ := tmod_nat a2' 6 (by decide)
 have ex1 : q0.tmod 4 = (x1 : Int) := ex1
 have ey1 : q1.tmod 4 = (y1 : Int) := ey1
 have en : q2.tmod 6 = (n : Int) := en
 obtain ⟨sx, sy, ga, gb, gc, E⟩ := ei_all x1 y1 hx1 hy1
 have ekx := E.x
 have eky := E.y
 have lx := E.lx
 have ly := E.ly
 have pa := E.pa
 have pb' := E.pb
 have pc := E.pc
 simp at pa pb' pc
 have hel : exs.length = 4 := rfl
 have lf0 : 5 + sx.length ≤ 9223372036854775807 := by omega
 have lf1 : sx.length + 1 + 1 + 1 + 1 + 1 + 2 ≤ 9223372036854775807 := by omega
 have lf2 : 5 + sy.length ≤ 9223372036854775807 := by omega
 have lf3 : sy.length + 1 + 1 + 1 + 1 + 1 + 2 ≤ 9223372036854775807 := by omega
 have lf4 : 18 + sx.length ≤ 9223372036854775807 := by omega
 have lf5 : sx.length + 1 + 1 + 1 + 1 + 1 + 1 + 1 + 1 + 1 + 1 + 1 + 1 + 1 + 1 + 1 + 1 + 1 + 1 + 8 ≤ 9223372036854775807 := by omega
 have lf6 : sx.length + 8 + 1 + 1 + 1 + 1 + 1 + 1 + 1 + 1 + 1 + 1 + 1 + 1 + 1 + 1 + 1 + 1 + 1 + 1 + sy.length ≤ 9223372036854775807 := by omega
 have lf7 : sx.length + (sy.length + 1 + 1 + 1 + 1 + 1 + 1 + 1 + 1) + 1 + 1 + 1 + 1 + 1 + 1 + 1 + 1 + 1 + 1 + 1 + 1 + 1 + 1 + 1 + 1 + 1 + 1 + 2 ≤ 9223372036854775807 := by omega
 have lf8 : sx.length + (8 + sy.length) + 1 + 1 + 1 + 1 + 1 + 1 + 1 + 1 + 1 + 1 + 1 + 1 + 1 + 1 + 1 + 1 + 1 + 1 + 2 ≤ 9223372036854775807 := by omega
 have c1x : (x1 : Int) < 4 := by omega
 have c1y : (y1 : Int) < 4 := by omega
 have c2x : x1 + 1 ≤ 4 := by omega
 have c2y : y1 + 1 ≤ 4 := by omega
 repeat apply W_seq
 refine W_region (by simp [hp]; first | exact ⟨rfl, rfl⟩ | exact rfl) ?_
 try simp only [thenQ, blockQ, Ann.kill, List.find?_nil]
 repeat apply W_seq
 refine W_region (by simp [sliceCells, repZero, fillV, setRange]; first | exact ⟨rfl, rfl⟩ | exact rfl) ?_
 try simp only [thenQ, blockQ, Ann.kill, List.find?_nil]
 change W S A3 _ _ _ [V.Obj.cells exs 0 0]
 repeat apply W_seq
 refine W_region (by simp [g0, ex1, ekx, hel, hx1, c1x, c2x]; first | exact ⟨rfl, rfl⟩ | exact rfl) ?_
 try simp only [thenQ, blockQ, Ann.kill, List.find?_nil]
 repeat apply W_seq
 refine W_region (by simp [g1, ey1, eky, hel, hy1, c1y, c2y]; first | exact ⟨rfl, rfl⟩ | exact rfl) ?_
 try simp only [thenQ, blockQ, Ann.kill, List.find?_nil]
 repeat apply W_seq
 refine W_region (by simp [pa, lf0, lf1, lf2, lf3, lf4, lf5, lf6, lf7, lf8]; first | exact ⟨rfl, rfl⟩ | exact rfl) ?_
 try simp only [thenQ, blockQ, Ann.kill, List.find?_nil]
 repeat apply W_seq
 refine W_region (by simp [pb', lf0, lf1, lf2, lf3, lf4, lf5, lf6, lf7, lf8]; first | exact ⟨rfl, rfl⟩ | exact rfl) ?_
 try simp only [thenQ, blockQ, Ann.kill, List.find?_nil]
 repeat apply W_seq
 refine W_region (by simp [pc, lf0, lf1, lf2, lf3, lf4, lf5, lf6, lf7, lf8]; first | exact ⟨rfl, rfl⟩ | exact rfl) ?_
 try simp only [thenQ, blockQ, Ann.kill, List.find?_nil]
 repeat apply W_seq
 refine W_region (by simp; first | exact ⟨rfl, rfl⟩ | exact rfl) ?_
 try simp only [thenQ, blockQ, Ann.kill, List.find?_nil]
 repeat apply W_seq
 refine W_region (by simp; first | exact ⟨rfl, rfl⟩ | exact rfl) ?_
 try simp only [thenQ, blockQ, Ann.kill, List.find?_nil]
 repeat apply W_seq
 refine W_block ?_
 refine W_loop (I := fun m st τ => ∃ k t G, m = n - k ∧ k ≤ n ∧ t.length = k ∧ Two 97 98 t ∧ st.vars = [(0, V.t x), (2, .t (B false)), (3, .t (.list (p.map fun q => .agg [I q]))), (4, .sl 0 0 0 4 1), (5, .t (.str sx)), (6, .t (.str sy)), (7, .ptr 1 0 0 1), (8, .ptr 2 0 0 1), (9, .ptr 3 0 0 1), (10, .t (.str t)), (11, .t (I k))] ∧ τ = V.Obj.cells exs 0 0 :: V.Obj.cells [.t (.list ga)] 0 0 :: V.Obj.cells [.t (.list gb)] 0 0 :: V.Obj.cells [.t (.list gc)] 0 0 :: G) ?_ n _ _ ⟨0, [], [], rfl, Nat.zero_le _, rfl, (fun c hc => by simp at hc), by simp, rfl⟩
 rintro m ⟨vars, scr⟩ τ ⟨k, t, G, rfl, hk, htl, htw, hv, rfl⟩
 simp only at hv
 subst hv
 repeat apply W_seq
 refine W_region (by simp [g2, en]; first | exact ⟨rfl, rfl⟩ | exact rfl) ?_
 try simp only [thenQ, blockQ, Ann.kill, List.find?_nil]
 by_cases c1 : k < n
 ·repeat apply W_seq
  refine W_cond (t := true) (by simp [c1]) ?_
  simp only [if_true, if_false, Bool.false_eq_true]
  refine W_skip ?_
  try simp only [thenQ, blockQ, Ann.kill, List.find?_nil]
  repeat apply W_seq
  refine W_block ?_
  obtain ⟨q3, g3, a3', b3⟩ := get_place pl pb (k + 3) (by omega)
  obtain ⟨d, hd, ed⟩ := tmod_nat a3' 2 (by decide)
  have ed : q3.tmod 2 = (d : Int) := ed
  have w1 : IntKind.i64.wrap ((k : Int) + 3) = (k : Int) + 3 := IntWalk.i64_in _ (by omega)
  have w2 : (0 : Int) ≤ (k : Int) + 3 := by omega
  have w3 : ((k : Int) + 3).toNat = k + 3 := by omega
  have w4 : t.length + 1 ≤ 9223372036854775807 := by omega
  have r0 : (List.range 2)[0]? = some 0 := rfl
  have r1 : (List.range 2)[1]? = some 1 := rfl
  rcases par hd with rfl | rfl
  ·repeat apply W_seq
   refine W_region (by simp [w1, w2, w3, g3, ed, w4, r0, r1, sliceCells, repZero, fillV, setRange, getA]; first | exact ⟨rfl, rfl⟩ | exact rfl) ?_
   try simp only [thenQ, blockQ, Ann.kill, List.find?_nil]
   repeat apply W_seq
   refine W_region (by simp [IntWalk.i64_in ((k : Int) + 1) (by omega)]; first | exact ⟨rfl, rfl⟩ | exact rfl) ?_
   try simp only [thenQ, blockQ, Ann.kill, List.find?_nil]
   exact ⟨n - (k + 1), by omega, k + 1, t ++ [97], _, rfl, c1, by simp [htl], htw.app (.inl rfl), by simp, rfl⟩
  ·repeat apply W_seq
   refine W_region (by simp [w1, w2, w3, g3, ed, w4, r0, r1, sliceCells, repZero, fillV, setRange, getA]; first | exact ⟨rfl, rfl⟩ | exact rfl) ?_
   try simp only [thenQ, blockQ, Ann.kill, List.find?_nil]
   repeat apply W_seq
   refine W_region (by simp [IntWalk.i64_in ((k : Int) + 1) (by omega)]; first | exact ⟨rfl, rfl⟩ | exact rfl) ?_
   try simp only [thenQ, blockQ, Ann.kill, List.find?_nil]
   exact ⟨n - (k + 1), by omega, k + 1, t ++ [98], _, rfl, c1, by simp [htl], htw.app (.inr rfl), by simp, rfl⟩
 ·repeat apply W_seq
  refine W_cond (t := false) (by simp [c1]) ?_
  simp only [if_true, if_false, Bool.false_eq_true]
  repeat apply W_seq
  refine W_exit ?_
  try simp only [thenQ, blockQ, if_true, Ann.kill, List.find?_nil]
  have f1 := E.ac t htw (by omega)
  have f2 := E.aa t htw (by omega)
  have f3 := E.ab t htw (by omega)
  have fin0 : accX 0 [97, 98, 98] = true := rfl
  have e0 := acc_ea0 [97, 98, 98] (by intro c hc; simp at hc; omega) (by simp)
  rw [fin0] at e0
  have ep := plain_ea0
  revert f1 f2 f3
  generalize accX x1 t = A
  generalize accX y1 t = D
  intro f1 f2 f3
  cases A <;> cases D <;> simp only [Bool.or_false, Bool.or_true, Bool.false_or, Bool.true_or] at f1
  ·repeat apply W_seq
   refine W_region (by simp [f1, f2, f3, e0, ep]; first | exact ⟨rfl, rfl⟩ | exact rfl) ?_
   try simp only [thenQ, blockQ, Ann.kill, List.find?_nil]
   refine W_ret ?_
   try simp only [thenQ, blockQ]
   simp [Tryz.f3]
  ·repeat apply W_seq
   refine W_region (by simp [f1, f2, f3, e0, ep]; first | exact ⟨rfl, rfl⟩ | exact rfl) ?_
   try simp only [thenQ, blockQ, Ann.kill, List.find?_nil]
   refine W_ret ?_
   try simp only [thenQ, blockQ]
   simp [Tryz.f3]
  ·repeat apply W_seq
   refine W_region (by simp [f1, f2, f3, e0, ep]; first | exact ⟨rfl, rfl⟩ | exact rfl) ?_
   try simp only [thenQ, blockQ, Ann.kill, List.find?_nil]
   refine W_ret ?_
   try simp only [thenQ, blockQ]
   simp [Tryz.f3]
  ·repeat apply W_seq
   refine W_region (by simp [f1, f2, f3, e0, ep]; first | exact ⟨rfl, rfl⟩ | exact rfl) ?_
   try simp only [thenQ, blockQ, Ann.kill, List.find?_nil]
   refine W_ret ?_
   try simp only [thenQ, blockQ]
   simp [Tryz.f3]
end X
