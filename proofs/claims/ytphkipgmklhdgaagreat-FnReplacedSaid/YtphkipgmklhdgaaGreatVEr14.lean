/- A part of the proof. No statement of the claim is in it. -/
import Derived.Test.YtphkipgmklhdgaaGreatVEr13
open Go Go.V Go.Proofs
namespace X
set_option maxRecDepth 100000
set_option maxHeartbeats 4000000
set_option linter.unusedSimpArgs false
set_option linter.unusedVariables false
attribute [-simp] lenV idxV getElem?_pos
/-! ### Names, what is known -/
/-- names that are right -/
def NmOk (VN : List Nat → Bool) : Prop := ∀ s, VN s = true → ∀ σ, LD S 57 [.t (.str s)] σ = some (.t (B true), σ)
def envOkF (pv : Option (List Nat)) : Env → Bool
 | [] => true
 | p :: r => inF p.2 (-9999) 9999 && ((match pv with
   | some q => lessL q p.1
   | none => true) && envOkF (some p.1) r)
def envOk (e : Env) : Bool := envOkF none e && decide (e.length ≤ 6)
def allVN (VN : List Nat → Bool) (e : Env) : Bool := e.all fun p => VN p.1
theorem envOk_lv {VN : List Nat → Bool} (hV : NmOk VN) {e : Env} (ha : allVN VN e = true) (hl : e.length ≤ 1048576) : LV S 95 [.t (envT e)] [] = some (.t (B (envOk e)), []) := by
 refine LV_body (A := A95) rfl Tryz.func95 rfl ?_
 repeat apply W_seq
 refine W_region (by simp; first | exact ⟨rfl, rfl⟩ | exact rfl) ?_
 try simp only [thenQ, blockQ, Ann.kill, List.find?_nil]
 repeat apply W_seq
 refine W_region (by simp; first | exact ⟨rfl, rfl⟩ | exact rfl) ?_
 try simp only [thenQ, blockQ, Ann.kill, List.find?_nil]
 repeat apply W_seq
 refine W_block ?_
 refine W_loop (I := fun m st τ => ∃ k, m = e.length - k ∧ k ≤ e.length ∧ (∃ pv, ((k = 0 ∧ pv = none) ∨ ∃ j q, k = j + 1 ∧ e[j]? = some q ∧ pv = some q.1) ∧ envOk e = (envOkF pv (e.drop k) && decide (e.length ≤ 6))) ∧ st.vars = [(0, .t (envT e)), (2, .t (B false)), (3, .t (I k))] ∧ τ = []) ?_ e.length _ _ ⟨0, rfl, Nat.zero_le _, ⟨none, .inl ⟨rfl, rfl⟩, rfl⟩, by simp [envT], rfl⟩
 rintro m ⟨vars, scr⟩ τ ⟨k, rfl, hk, ⟨pv, hpv, he⟩, hv, rfl⟩
 simp only at hv
 subst hv
 repeat apply W_seq
 refine W_region (by simp [envT]; first | exact ⟨rfl, rfl⟩ | exact rfl) ?_
 try simp only [thenQ, blockQ, Ann.kill, List.find?_nil]
 by_cases c1 : k < e.length
 ·repeat apply W_seq
  refine W_cond (t := true) (by simp [c1]) ?_
  simp only [if_true, if_false, Bool.false_eq_true]
  refine W_skip ?_
  try simp only [thenQ, blockQ, Ann.kill, List.find?_nil]
  repeat apply W_seq
  refine W_block ?_
  obtain ⟨p, hp⟩ := get_of_lt c1
  rw [drop_get hp] at he
  simp only [envOkF] at he
  have hvn := hV p.1 (by have := List.all_eq_true.1 ha p (List.mem_of_getElem? hp); exact this)
  have hin := in_ld p.2 (-9999) 9999
  cases hi : inF p.2 (-9999) 9999 with
  | false =>
   rw [hi] at hin he
   repeat apply W_seq
   refine W_region (by simp [envT, hp, rowE, hvn, hin]; first | exact ⟨rfl, rfl⟩ | exact rfl) ?_
   try simp only [thenQ, blockQ, Ann.kill, List.find?_nil]
   repeat apply W_seq
   refine W_cond (t := true) (by simp) ?_
   simp only [if_true, if_false, Bool.false_eq_true]
   repeat apply W_seq
   refine W_region (by simp; first | exact ⟨rfl, rfl⟩ | exact rfl) ?_
   try simp only [thenQ, blockQ, Ann.kill, List.find?_nil]
   refine W_ret ?_
   try simp only [thenQ, blockQ]
   simp [Tryz.f95, he]
  | true =>
   rw [hi] at hin he
   rcases hpv with ⟨rfl, rfl⟩ | ⟨j, q, rfl, hq, rfl⟩
   ·repeat apply W_seq
    refine W_region (by simp [envT, hp, rowE, hvn, hin]; first | exact ⟨rfl, rfl⟩ | exact rfl) ?_
    try simp only [thenQ, blockQ, Ann.kill, List.find?_nil]
    repeat apply W_seq
    refine W_cond (t := false) (by simp) ?_
    simp only [if_true, if_false, Bool.false_eq_true]
    refine W_skip ?_
    try simp only [thenQ, blockQ, Ann.kill, List.find?_nil]
    repeat apply W_seq
    refine W_region (by simp [IntWalk.i64_in ((0 : Int) + 1) (by omega)]; first | exact ⟨rfl, rfl⟩ | exact rfl) ?_
    try simp only [thenQ, blockQ, Ann.kill, List.find?_nil]
    exact ⟨e.length - 1, by omega, 1, rfl, c1, ⟨_, .inr ⟨0, p, rfl, hp, rfl⟩, by simpa using he⟩, by simp [envT, IntWalk.i64_in (1 : Int) (by omega)], by simp⟩
   ·have e1 : ((j : Int) + 1 - 1) = j := by omega
    have e2 : (0 : Int) < (j : Int) + 1 := by omega
    have e3 : ((j : Int) + 1).toNat = j + 1 := by omega
    have e4 : (0 : Int) ≤ (j : Int) + 1 := by omega
    cases hlt : lessL q.1 p.1 with
    | true =>
     simp only [hlt] at he
     repeat apply W_seq
     refine W_region (by simp [envT, hp, hq, rowE, hvn, hin, e1, e2, e3, e4, hlt, IntWalk.i64_in (j : Int) (by omega)]; first | exact ⟨rfl, rfl⟩ | exact rfl) ?_
     try simp only [thenQ, blockQ, Ann.kill, List.find?_nil]
     repeat apply W_seq
     refine W_cond (t := false) (by simp) ?_
     simp only [if_true, if_false, Bool.false_eq_true]
     refine W_skip ?_
     try simp only [thenQ, blockQ, Ann.kill, List.find?_nil]
     repeat apply W_seq
     refine W_region (by simp [IntWalk.i64_in ((j : Int) + 1 + 1) (by omega)]; first | exact ⟨rfl, rfl⟩ | exact rfl) ?_
     try simp only [thenQ, blockQ, Ann.kill, List.find?_nil]
     exact ⟨e.length - (j + 1 + 1), by omega, j + 1 + 1, rfl, c1, ⟨_, .inr ⟨j + 1, p, rfl, hp, rfl⟩, by simpa using he⟩, by simp [envT], by simp⟩
    | false =>
     simp only [hlt] at he
     repeat apply W_seq
     refine W_region (by simp [envT, hp, hq, rowE, hvn, hin, e1, e2, e3, e4, hlt, IntWalk.i64_in (j : Int) (by omega)]; first | exact ⟨rfl, rfl⟩ | exact rfl) ?_
     try simp only [thenQ, blockQ, Ann.kill, List.find?_nil]
     repeat apply W_seq
     refine W_cond (t := true) (by simp) ?_
     simp only [if_true, if_false, Bool.false_eq_true]
     repeat apply W_seq
     refine W_region (by simp; first | exact ⟨rfl, rfl⟩ | exact rfl) ?_
     try simp only [thenQ, blockQ, Ann.kill, List.find?_nil]
     refine W_ret ?_
     try simp only [thenQ, blockQ]
     simp [Tryz.f95, he]
 ·repeat apply W_seq
  refine W_cond (t := false) (by simp [c1]) ?_
  simp only [if_true, if_false, Bool.false_eq_true]
  repeat apply W_seq
  refine W_exit ?_
  try simp only [thenQ, blockQ, if_true, Ann.kill, List.find?_nil]
  have : k = e.length := by omega
  subst this
  rw [List.drop_length] at he
  simp only [envOkF, Bool.true_and] at he
  rw [he]
  by_cases c2 : e.length ≤ 6
  ·have c2' : (e.length : Int) ≤ 6 := by omega
   repeat apply W_seq
   refine W_region (by simp [envT, c2']; first | exact ⟨rfl, rfl⟩ | exact rfl) ?_
   try simp only [thenQ, blockQ, Ann.kill, List.find?_nil]
   refine W_ret ?_
   try simp only [thenQ, blockQ]
   simp [Tryz.f95, c2]
  ·have c2' : ¬ (e.length : Int) ≤ 6 := by omega
   repeat apply W_seq
   refine W_region (by simp [envT, c2']; first | exact ⟨rfl, rfl⟩ | exact rfl) ?_
   try simp only [thenQ, blockQ, Ann.kill, List.find?_nil]
   refine W_ret ?_
   try simp only [thenQ, blockQ]
   simp [Tryz.f95, c2]

theorem envOk_ld {VN : List Nat → Bool} (hV : NmOk VN) {e : Env} (ha : allVN VN e = true) (hl : e.length ≤ 1048576) {d g w : Nat} {σ : Store} {cs : List V} (hd : σ[d]? = some (.cells cs g w)) (hf : frz 40 σ (.sl d g 0 e.length 2) = some (envT e)) : LD S 95 [.sl d g 0 e.length 2] σ = some (.t (B (envOk e)), σ) :=
 LD_borrow (A := A95) rfl rfl (σ0 := []) (ts := [envT e]) (by simp only [frzs, hf]) (envOk_lv hV ha hl) rfl
def cellsE : Env → List V
 | [] => []
 | p :: r => .t (.str p.1) :: .t (I p.2) :: cellsE r
theorem cellsE_len : ∀ (l : Env), (cellsE l).length = l.length * 2
 | [] => rfl
 | p :: r => by simp only [cellsE, List.length_cons, cellsE_len r]; omega
theorem cellsE_app : ∀ (l r : Env), cellsE (l ++ r) = cellsE l ++ cellsE r
 | [], r => rfl
 | a :: l, r => by simp only [List.cons_append, cellsE, cellsE_app l r]
theorem frz_cellsE (d : Nat) (σ : Store) : ∀ (l : Env), ∃ ts, frzs (frz (d + 1) σ) (cellsE l) = some ts ∧ chunk 2 l.length ts = rowsE l
 | [] => ⟨[], rfl, rfl⟩
 | p :: r => by
  obtain ⟨ts, h1, h2⟩ := frz_cellsE d σ r
  refine ⟨.str p.1 :: I p.2 :: ts, ?_, ?_⟩
  ·have t1 : ∀ z : T, frz (d + 1) σ (.t z) = some z := fun z => rfl
   simp only [cellsE, frzs, t1, h1]
  ·simp only [List.length_cons, chunk, List.take_succ_cons, List.take_zero, List.drop_succ_cons, List.drop_zero, h2]
   rfl
theorem frz_env (n : Nat) {σ : Store} {d g w : Nat} {e : Env} (hd : σ[d]? = some (.cells (cellsE e) g w)) (hw : w ≤ g) : frz (n + 2) σ (.sl d g 0 e.length 2) = some (envT e) := by
 obtain ⟨ts, z1, z2⟩ := frz_cellsE n σ e
 have hcl := cellsE_len e
 have := frz_sl (d := n + 1) (k := 2) (off := 0) (len := e.length) hd hw (Nat.le_refl _) (by omega) (by omega) (ts := ts) (by rw [List.drop_zero, List.take_of_length_le (by omega)]; exact z1)
 rw [z2] at this
 exact this
theorem rowCellsE : ∀ (l : Env), rowCells 2 (rowsE l) = some (cellsE l)
 | [] => rfl
 | p :: r => by
  have := rowCellsE r
  simp only [rowsE, List.map_cons, rowCells, rowE, cellsE] at this ⊢
  rw [this]
  rfl
def lowN (nm : List Nat) (e : Env) : Env := e.filter fun p => lessL p.1 nm
def hiN (nm : List Nat) (e : Env) : Env := e.filter fun p => !(lessL p.1 nm || decide (p.1 = nm))
def outN (e : Env) (nm : List Nat) (n : Int) : Env := lowN nm e ++ [(nm, n)] ++ hiN nm e
def setN (e : Env) (nm : List Nat) (n : Int) : Env := if envOk (outN e nm n) then outN e nm n else e
theorem allVN_filter {VN : List Nat → Bool} {e : Env} (h : allVN VN e = true) (q : List Nat × Int → Bool) : allVN VN (e.filter q) = true := by
 refine List.all_eq_true.2 fun p hp => List.all_eq_true.1 h p (List.mem_filter.1 hp).1
theorem allVN_out {VN : List Nat → Bool} {e : Env} (h : allVN VN e = true) {nm : List Nat} (hn : VN nm = true) (n : Int) : allVN VN (outN e nm n) = true := by
 have h1 := allVN_filter h fun p => lessL p.1 nm
 have h2 := allVN_filter h fun p => !(lessL p.1 nm || decide (p.1 = nm))
 unfold allVN at h1 h2 ⊢
 simp only [outN, lowN, hiN, List.all_append, List.all_cons, List.all_nil, h1, h2, hn, Bool.and_self]
theorem app_env {e : Env} (hl : e.length ≤ 1000) (a : V.Obj) : ∃ g, appendV S.ty [a, .cells [] 0 0] [136, 136] (.sl 1 0 0 0 2) (.t (envT e)) = some (.sl 1 g 0 e.length 2, [a, .cells (cellsE e) g 0]) := by
 have hs : srcCells [a, .cells [] 0 0] 2 (.t (envT e)) = some (e.length, cellsE e) := by simp [srcCells, envT, rowCellsE]
 cases e with
 | nil => exact ⟨0, by simp [appendV, hs]; rfl⟩
 | cons p r =>
  have hb : (r.length + 1) * 24 ≤ 140737488355328 := by simp at hl; omega
  exact ⟨1, by simp [appendV, hs, hb]⟩
theorem envSet_lv {VN : List Nat → Bool} (hV : NmOk VN) {e : Env} (ha : allVN VN e = true) (hl : e.length ≤ 1000) {nm : List Nat} (hn : VN nm = true) (n : Int) :
  ∃ v σ', LV S 84 [.t (envT e), .t (.str nm), .t (I n)] [] = some (v, σ') ∧ frz 40 σ' v = some (.tup [envT (setN e nm n), B (envOk (outN e nm n))]) := by
 refine LV_bodyX (A := A84) rfl Tryz.func84 rfl ?_
 repeat apply W_seq
 refine W_region (by simp; first | exact ⟨rfl, rfl⟩ | exact rfl) ?_
 try simp only [thenQ, blockQ, Ann.kill, List.find?_nil]
 repeat apply W_seq
 refine W_region (by simp [sliceCells, repZero, chunk, fillV]; first | exact ⟨rfl, rfl⟩ | exact rfl) ?_
 try simp only [thenQ, blockQ, Ann.kill, List.find?_nil]
 repeat apply W_seq
 refine W_region (by simp; first | exact ⟨rfl, rfl⟩ | exact rfl) ?_
 try simp only [thenQ, blockQ, Ann.kill, List.find?_nil]
 repeat apply W_seq
 refine W_block ?_
 refine W_loop (I := fun m st τ => ∃ k acc g w, m = e.length - k ∧ k ≤ e.length ∧ acc.length ≤ k ∧ acc ++ lowN nm (e.drop k) = lowN nm e ∧ w ≤ g ∧ st.vars = [(0, .t (envT e)), (1, .t (.str nm)), (2, .t (I n)), (6, .t .nils), (7, .t (B false)), (8, .sl 0 g 0 acc.length 2), (9, .t (I k))] ∧ τ = [.cells (cellsE acc) g w]) ?_ e.length _ _ ⟨0, [], 0, 0, rfl, Nat.zero_le _, by simp, rfl, by omega, by simp [envT], rfl⟩
 rintro m ⟨vars, scr⟩ τ ⟨k, acc, g, w, rfl, hk, hak, he, hw, hvs, rfl⟩
 simp only at hvs
 subst hvs
 have hcl := cellsE_len acc
 have hbn : (acc.length + 1) * 24 ≤ 140737488355328 := by omega
 repeat apply W_seq
 refine W_region (by simp [envT]; first | exact ⟨rfl, rfl⟩ | exact rfl) ?_
 try simp only [thenQ, blockQ, Ann.kill, List.find?_nil]
 by_cases c1 : k < e.length
 ·repeat apply W_seq
  refine W_cond (t := true) (by simp [c1]) ?_
  simp only [if_true, if_false, Bool.false_eq_true]
  refine W_skip ?_
  try simp only [thenQ, blockQ, Ann.kill, List.find?_nil]
  repeat apply W_seq
  refine W_block ?_
  obtain ⟨p, hp⟩ := get_of_lt c1
  rw [drop_get hp] at he
  simp only [lowN, List.filter_cons] at he
  repeat apply W_seq
  refine W_region (by simp [envT, hp, rowE]; first | exact ⟨rfl, rfl⟩ | exact rfl) ?_
  try simp only [thenQ, blockQ, Ann.kill, List.find?_nil]
  cases c2 : lessL p.1 nm with
  | true =>
   rw [c2] at he
   simp only [if_true] at he
   repeat apply W_seq
   refine W_cond (t := true) (by simp [c2]) ?_
   simp only [if_true, if_false, Bool.false_eq_true]
   repeat apply W_seq
   refine W_region (by simp [envT, hp, rowE, sliceCells, repZero, chunk, fillV, setRange, appendV, srcCells, rowCells, hcl, hbn, hw]; first | exact ⟨rfl, rfl⟩ | exact rfl) ?_
   try simp only [thenQ, blockQ, Ann.kill, List.find?_nil]
   repeat apply W_seq
   refine W_region (by simp [IntWalk.i64_in ((k : Int) + 1) (by omega)]; first | exact ⟨rfl, rfl⟩ | exact rfl) ?_
   try simp only [thenQ, blockQ, Ann.kill, List.find?_nil]
   refine ⟨e.length - (k + 1), by omega, k + 1, acc ++ [p], g + 1, w, rfl, c1, by simp; omega, by simpa [lowN] using he, by omega, by simp [envT], ?_⟩
   rw [cellsE_app]; rfl
  | false =>
   rw [c2] at he
   simp only [Bool.false_eq_true, if_false] at he
   repeat apply W_seq
   refine W_cond (t := false) (by simp [c2]) ?_
   simp only [if_true, if_false, Bool.false_eq_true]
   refine W_skip ?_
   try simp only [thenQ, blockQ, Ann.kill, List.find?_nil]
   repeat apply W_seq
   refine W_region (by simp [IntWalk.i64_in ((k : Int) + 1) (by omega)]; first | exact ⟨rfl, rfl⟩ | exact rfl) ?_
   try simp only [thenQ, blockQ, Ann.kill, List.find?_nil]
   exact ⟨e.length - (k + 1), by omega, k + 1, acc, g, w, rfl, c1, by omega, he, hw, by simp [envT], rfl⟩
 ·repeat apply W_seq
  refine W_cond (t := false) (by simp [c1]) ?_
  simp only [if_true, if_false, Bool.false_eq_true]
  repeat apply W_seq
  refine W_exit ?_
  try simp only [thenQ, blockQ, if_true, Ann.kill, List.find?_nil]
  have : k = e.length := by omega
  subst this
  rw [List.drop_length] at he
  simp only [lowN, List.filter_nil, List.append_nil] at he
  repeat apply W_seq
  refine W_region (by simp [buildV, fieldSizes, fillV, setRange, repZero, sliceCells, chunk, mkAgg, allT, appendV, srcCells, rowCells, hcl, hbn, hw]; first | exact ⟨rfl, rfl⟩ | exact rfl) ?_
  try simp only [thenQ, blockQ, Ann.kill, List.find?_nil]
  repeat apply W_seq
  refine W_region (by simp; first | exact ⟨rfl, rfl⟩ | exact rfl) ?_
  try simp only [thenQ, blockQ, Ann.kill, List.find?_nil]
  repeat apply W_seq
  refine W_block ?_
  have hst : [V.Obj.cells (cellsE acc ++ [V.t (.str nm), V.t (I n)]) (g + 1) w] = [V.Obj.cells (cellsE (acc ++ [(nm, n)])) (g + 1) w] := by rw [cellsE_app]; rfl
  refine W_loop (I := fun m st τ => ∃ k acc2 g w, m = e.length - k ∧ k ≤ e.length ∧ acc2.length ≤ e.length + 1 + k ∧ acc2 ++ hiN nm (e.drop k) = outN e nm n ∧ w ≤ g ∧ st.vars = [(0, .t (envT e)), (1, .t (.str nm)), (2, .t (I n)), (6, .t .nils), (7, .t (B false)), (8, .sl 0 g 0 acc2.length 2), (10, .t (I k))] ∧ τ = [.cells (cellsE acc2) g w]) ?_ e.length _ _ ⟨0, acc ++ [(nm, n)], g + 1, w, rfl, Nat.zero_le _, by simp; omega, by rw [he]; rfl, by omega, by simp [envT], hst⟩
  clear he hst hcl hbn hw hak
  rintro m ⟨vars, scr⟩ τ ⟨k, acc, g, w, rfl, hk, hak, he, hw, hvs, rfl⟩
  simp only at hvs
  subst hvs
  have hcl := cellsE_len acc
  have hbn : (acc.length + 1) * 24 ≤ 140737488355328 := by omega
  repeat apply W_seq
  refine W_region (by simp [envT]; first | exact ⟨rfl, rfl⟩ | exact rfl) ?_
  try simp only [thenQ, blockQ, Ann.kill, List.find?_nil]
  by_cases c1 : k < e.length
  ·repeat apply W_seq
   refine W_cond (t := true) (by simp [c1]) ?_
   simp only [if_true, if_false, Bool.false_eq_true]
   refine W_skip ?_
   try simp only [thenQ, blockQ, Ann.kill, List.find?_nil]
   repeat apply W_seq
   refine W_block ?_
   obtain ⟨p, hp⟩ := get_of_lt c1
   rw [drop_get hp] at he
   simp only [hiN, List.filter_cons] at he
   repeat apply W_seq
   refine W_region (by simp [envT, hp, rowE, eqL_eq]; first | exact ⟨rfl, rfl⟩ | exact rfl) ?_
   try simp only [thenQ, blockQ, Ann.kill, List.find?_nil]
   cases c2 : !(lessL p.1 nm || decide (p.1 = nm)) with
   | true =>
    rw [c2] at he
    simp only [if_true] at he
    have c2' : lessL p.1 nm = false ∧ ¬ p.1 = nm := by simpa using c2
    repeat apply W_seq
    refine W_cond (t := true) (by simp [c2'.1, c2'.2]) ?_
    simp only [if_true, if_false, Bool.false_eq_true]
    repeat apply W_seq
    refine W_region (by simp [envT, hp, rowE, sliceCells, repZero, chunk, fillV, setRange, appendV, srcCells, rowCells, hcl, hbn, hw]; first | exact ⟨rfl, rfl⟩ | exact rfl) ?_
    try simp only [thenQ, blockQ, Ann.kill, List.find?_nil]
    repeat apply W_seq
    refine W_region (by simp [IntWalk.i64_in ((k : Int) + 1) (by omega)]; first | exact ⟨rfl, rfl⟩ | exact rfl) ?_
    try simp only [thenQ, blockQ, Ann.kill, List.find?_nil]
    refine ⟨e.length - (k + 1), by omega, k + 1, acc ++ [p], g + 1, w, rfl, c1, by simp; omega, by simpa [hiN] using he, by omega, by simp [envT], ?_⟩
    rw [cellsE_app]; rfl
   | false =>
    rw [c2] at he
    simp only [Bool.false_eq_true, if_false] at he
    repeat apply W_seq
    refine W_cond (t := false) (by simpa using c2) ?_
    simp only [if_true, if_false, Bool.false_eq_true]
    refine W_skip ?_
    try simp only [thenQ, blockQ, Ann.kill, List.find?_nil]
    repeat apply W_seq
    refine W_region (by simp [IntWalk.i64_in ((k : Int) + 1) (by omega)]; first | exact ⟨rfl, rfl⟩ | exact rfl) ?_
    try simp only [thenQ, blockQ, Ann.kill, List.find?_nil]
    exact ⟨e.length - (k + 1), by omega, k + 1, acc, g, w, rfl, c1, by omega, he, hw, by simp [envT], rfl⟩
  ·repeat apply W_seq
   refine W_cond (t := false) (by simp [c1]) ?_
   simp only [if_true, if_false, Bool.false_eq_true]
   repeat apply W_seq
   refine W_exit ?_
   try simp only [thenQ, blockQ, if_true, Ann.kill, List.find?_nil]
   have : k = e.length := by omega
   subst this
   rw [List.drop_length] at he
   simp only [hiN, List.filter_nil, List.append_nil] at he
   subst he
   have hok := envOk_ld hV (allVN_out ha hn n) (by omega) (σ := [.cells (cellsE (outN e nm n)) g w]) (d := 0) (g := g) rfl (frz_env 38 rfl hw)
   cases hE : envOk (outN e nm n) with
   | true =>
    rw [hE] at hok
    repeat apply W_seq
    refine W_region (by simp [hok]; first | exact ⟨rfl, rfl⟩ | exact rfl) ?_
    try simp only [thenQ, blockQ, Ann.kill, List.find?_nil]
    repeat apply W_seq
    refine W_cond (t := false) (by simp) ?_
    simp only [if_true, if_false, Bool.false_eq_true]
    refine W_skip ?_
    try simp only [thenQ, blockQ, Ann.kill, List.find?_nil]
    repeat apply W_seq
    refine W_region (by simp; first | exact ⟨rfl, rfl⟩ | exact rfl) ?_
    try simp only [thenQ, blockQ, Ann.kill, List.find?_nil]
    refine W_ret ?_
    try simp only [thenQ, blockQ]
    refine ⟨trivial, .tup [.sl 0 g 0 (outN e nm n).length 2, .t (B true)], (by simp [Tryz.f84]), ?_⟩
    have := frz_env (σ := [.cells (cellsE (outN e nm n)) g w]) (d := 0) (g := g) (w := w) (e := outN e nm n) 37 rfl hw
    simp only [setN, hE, if_true]
    rw [frz, frzs, this]
    rfl
   | false =>
    rw [hE] at hok
    repeat apply W_seq
    refine W_region (by simp [hok]; first | exact ⟨rfl, rfl⟩ | exact rfl) ?_
    try simp only [thenQ, blockQ, Ann.kill, List.find?_nil]
    repeat apply W_seq
    refine W_cond (t := true) (by simp) ?_
    simp only [if_true, if_false, Bool.false_eq_true]
    obtain ⟨g2, happ⟩ := app_env (e := e) hl (.cells (cellsE (outN e nm n)) g w)
    simp only [envT] at happ
    repeat apply W_seq
    refine W_region (by simp [sliceCells, repZero, chunk, fillV, happ]; first | exact ⟨rfl, rfl⟩ | exact rfl) ?_
    try simp only [thenQ, blockQ, Ann.kill, List.find?_nil]
    refine W_ret ?_
    try simp only [thenQ, blockQ]
    refine ⟨trivial, .tup [.sl 1 g2 0 e.length 2, .t (B false)], (by simp [Tryz.f84]), ?_⟩
    have := frz_env (σ := [.cells (cellsE (outN e nm n)) g w, .cells (cellsE e) g2 0]) (d := 1) (g := g2) (w := 0) (e := e) 37 rfl (Nat.zero_le _)
    simp only [setN, hE, Bool.false_eq_true, if_false]
    rw [frz, frzs, this]
    rfl
theorem envSet_ld {VN : List Nat → Bool} (hV : NmOk VN) {e : Env} (ha : allVN VN e = true) (hl : e.length ≤ 1000) {nm : List Nat} (hn : VN nm = true) (n : Int) (σ : Store) :
  LD S 84 [.t (envT e), .t (.str nm), .t (I n)] σ = some (.t (.tup [envT (setN e nm n), B (envOk (outN e nm n))]), σ) := by
 obtain ⟨v, σ', h1, h2⟩ := envSet_lv hV ha hl hn n
 exact LD_pure (A := A84) (args := [.t (envT e), .t (.str nm), .t (I n)]) rfl rfl rfl h1 h2 σ
end X
