/- A part of the proof. No statement of the claim is in it. -/
import Derived.Test.YtphkipgmklhdgaaGreatVEr4
open Go Go.V Go.Proofs
namespace X
set_option maxRecDepth 100000
set_option maxHeartbeats 4000000
set_option linter.unusedSimpArgs false
set_option linter.unusedVariables false
attribute [-simp] lenV idxV getElem?_pos
/-! ### Goals that are there -/
def isG (g : Gl) (rule : Nat) (args : List Nat) (from_ : Nat) : Bool := g.rule == rule && (g.from_ == from_ && decide (g.args = args))
def gIx (rule : Nat) (args : List Nat) (fr : Nat) : List Gl → Nat → Int
 | [], _ => -1
 | g :: r, k => if isG g rule args fr then (k : Int) else gIx rule args fr r (k + 1)
theorem gIx_neg {ru : Nat} {al : List Nat} {fr : Nat} : ∀ {gs : List Gl} {k n : Nat}, gIx ru al fr gs k = .negSucc n → n = 0
 | [], k, n, h => by
  simp only [gIx] at h
  cases h; rfl
 | g :: gs, k, n, h => by
  simp only [gIx] at h
  split at h
  ·cases h
  ·exact gIx_neg h
theorem gIx_lt {ru : Nat} {al : List Nat} {fr : Nat} : ∀ {gs : List Gl} {k n : Nat}, gIx ru al fr gs k = .ofNat n → k ≤ n ∧ n < k + gs.length
 | [], k, n, h => by simp only [gIx] at h; cases h
 | g :: gs, k, n, h => by
  simp only [gIx] at h
  split at h
  ·cases h; simp
  ·have := gIx_lt h
   simp only [List.length_cons]
   omega
theorem find_lv {gs : List Gl} {rows : List T} (hr : GRows gs rows) (ru : Nat) {y : T} {al : List Nat} (hy : Is y al) (fr : Nat) (hg : OkG gs) (hn : gs.length ≤ 1048576) :
  LV S 67 [.t (.list rows), .t (I ru), .t y, .t (I fr)] [] = some (.t (I (gIx ru al fr gs 0)), []) := by
 obtain ⟨hr1, hr2⟩ := hr
 refine LV_body (A := A67) rfl Tryz.func67 rfl ?_
 repeat apply W_seq
 refine W_region (by simp; first | exact ⟨rfl, rfl⟩ | exact rfl) ?_
 try simp only [thenQ, blockQ, Ann.kill, List.find?_nil]
 repeat apply W_seq
 refine W_region (by simp; first | exact ⟨rfl, rfl⟩ | exact rfl) ?_
 try simp only [thenQ, blockQ, Ann.kill, List.find?_nil]
 repeat apply W_seq
 refine W_block ?_
 refine W_loop (I := fun m st τ => ∃ k, m = gs.length - k ∧ k ≤ gs.length ∧ gIx ru al fr gs 0 = gIx ru al fr (gs.drop k) k ∧ st.vars = [(0, .t (.list rows)), (1, .t (I ru)), (2, .t y), (3, .t (I fr)), (8, .t (I 0)), (9, .t (I k))] ∧ τ = []) ?_ gs.length _ _ ⟨0, rfl, Nat.zero_le _, rfl, by simp, rfl⟩
 rintro m ⟨vars, scr⟩ τ ⟨k, rfl, hk, he, hv, rfl⟩
 simp only at hv
 subst hv
 repeat apply W_seq
 refine W_region (by simp; first | exact ⟨rfl, rfl⟩ | exact rfl) ?_
 try simp only [thenQ, blockQ, Ann.kill, List.find?_nil]
 by_cases c1 : k < gs.length
 ·repeat apply W_seq
  refine W_cond (t := true) (by simp [show k < rows.length by omega]) ?_
  simp only [if_true, if_false, Bool.false_eq_true]
  refine W_skip ?_
  try simp only [thenQ, blockQ, Ann.kill, List.find?_nil]
  repeat apply W_seq
  refine W_block ?_
  obtain ⟨g, hgk⟩ := get_of_lt c1
  obtain ⟨x, e, w, hw, ix, _, _⟩ := hr2 k g hgk
  have hse := eq_ld ix hy (hg g (List.mem_of_getElem? hgk))
  rw [drop_get hgk] at he
  simp only [gIx] at he
  by_cases c2 : g.rule = ru
  ·have c2' : ((g.rule : Int) == (ru : Int)) = true := by simp [c2]
   by_cases c3 : g.from_ = fr
   ·have c3' : ((g.from_ : Int) == (fr : Int)) = true := by simp [c3]
    repeat apply W_seq
    refine W_region (by simp [hw, rowT, c2, c2', c3, c3', hse]; first | exact ⟨rfl, rfl⟩ | exact rfl) ?_
    try simp only [thenQ, blockQ, Ann.kill, List.find?_nil]
    by_cases c4 : g.args = al
    ·repeat apply W_seq
     refine W_cond (t := true) (by simp [c4]) ?_
     simp only [if_true, if_false, Bool.false_eq_true]
     repeat apply W_seq
     refine W_region (by simp; first | exact ⟨rfl, rfl⟩ | exact rfl) ?_
     try simp only [thenQ, blockQ, Ann.kill, List.find?_nil]
     have : isG g ru al fr = true := by simp [isG, c2, c3, c4]
     rw [this] at he
     simp only [if_true] at he
     refine W_ret ?_
     try simp only [thenQ, blockQ]
     simp [Tryz.f67, he]
    ·repeat apply W_seq
     refine W_cond (t := false) (by simp [c4]) ?_
     simp only [if_true, if_false, Bool.false_eq_true]
     refine W_skip ?_
     try simp only [thenQ, blockQ, Ann.kill, List.find?_nil]
     repeat apply W_seq
     refine W_region (by simp [IntWalk.i64_in ((k : Int) + 1) (by omega)]; first | exact ⟨rfl, rfl⟩ | exact rfl) ?_
     try simp only [thenQ, blockQ, Ann.kill, List.find?_nil]
     have : isG g ru al fr = false := by simp [isG, c4]
     rw [this] at he
     exact ⟨gs.length - (k + 1), by omega, k + 1, rfl, c1, he, by simp, by simp⟩
   ·have c3' : ((g.from_ : Int) == (fr : Int)) = false := by simp; omega
    repeat apply W_seq
    refine W_region (by simp [hw, rowT, c2, c2', c3, c3']; first | exact ⟨rfl, rfl⟩ | exact rfl) ?_
    try simp only [thenQ, blockQ, Ann.kill, List.find?_nil]
    repeat apply W_seq
    refine W_cond (t := false) (by simp) ?_
    simp only [if_true, if_false, Bool.false_eq_true]
    refine W_skip ?_
    try simp only [thenQ, blockQ, Ann.kill, List.find?_nil]
    repeat apply W_seq
    refine W_region (by simp [IntWalk.i64_in ((k : Int) + 1) (by omega)]; first | exact ⟨rfl, rfl⟩ | exact rfl) ?_
    try simp only [thenQ, blockQ, Ann.kill, List.find?_nil]
    have : isG g ru al fr = false := by simp [isG, c3]
    rw [this] at he
    exact ⟨gs.length - (k + 1), by omega, k + 1, rfl, c1, he, by simp, by simp⟩
  ·have c2' : ((g.rule : Int) == (ru : Int)) = false := by simp; omega
   repeat apply W_seq
   refine W_region (by simp [hw, rowT, c2, c2']; first | exact ⟨rfl, rfl⟩ | exact rfl) ?_
   try simp only [thenQ, blockQ, Ann.kill, List.find?_nil]
   repeat apply W_seq
   refine W_cond (t := false) (by simp) ?_
   simp only [if_true, if_false, Bool.false_eq_true]
   refine W_skip ?_
   try simp only [thenQ, blockQ, Ann.kill, List.find?_nil]
   repeat apply W_seq
   refine W_region (by simp [IntWalk.i64_in ((k : Int) + 1) (by omega)]; first | exact ⟨rfl, rfl⟩ | exact rfl) ?_
   try simp only [thenQ, blockQ, Ann.kill, List.find?_nil]
   have : isG g ru al fr = false := by simp [isG, c2]
   rw [this] at he
   exact ⟨gs.length - (k + 1), by omega, k + 1, rfl, c1, he, by simp, by simp⟩
 ·repeat apply W_seq
  refine W_cond (t := false) (by simp [show ¬ k < rows.length by omega]) ?_
  simp only [if_true, if_false, Bool.false_eq_true]
  repeat apply W_seq
  refine W_exit ?_
  try simp only [thenQ, blockQ, if_true, Ann.kill, List.find?_nil]
  have hk2 : k = gs.length := by omega
  subst hk2
  have e1 : gIx ru al fr gs 0 = -1 := by rw [he]; simp [gIx]
  repeat apply W_seq
  refine W_region (by simp; first | exact ⟨rfl, rfl⟩ | exact rfl) ?_
  try simp only [thenQ, blockQ, Ann.kill, List.find?_nil]
  refine W_ret ?_
  try simp only [thenQ, blockQ]
  simp [Tryz.f67, e1]
theorem find_nil (ru : Nat) (y : T) (fr : Nat) (σ : Store) : LD S 67 [.t .nils, .t (I ru), .t y, .t (I fr)] σ = some (.t (I (-1)), σ) := by
 refine LD_pure (A := A67) (args := [.t .nils, .t (I ru), .t y, .t (I fr)]) (v := .t (I (-1))) (σ0 := []) rfl rfl rfl ?_ rfl σ
 refine LV_body (A := A67) rfl Tryz.func67 rfl ?_
 repeat apply W_seq
 refine W_region (by simp; first | exact ⟨rfl, rfl⟩ | exact rfl) ?_
 try simp only [thenQ, blockQ, Ann.kill, List.find?_nil]
 repeat apply W_seq
 refine W_region (by simp; first | exact ⟨rfl, rfl⟩ | exact rfl) ?_
 try simp only [thenQ, blockQ, Ann.kill, List.find?_nil]
 repeat apply W_seq
 refine W_block ?_
 refine W_loop_step ?_
 repeat apply W_seq
 refine W_region (by simp; first | exact ⟨rfl, rfl⟩ | exact rfl) ?_
 try simp only [thenQ, blockQ, Ann.kill, List.find?_nil]
 repeat apply W_seq
 refine W_cond (t := false) (by simp) ?_
 simp only [if_true, if_false, Bool.false_eq_true]
 repeat apply W_seq
 refine W_exit ?_
 try simp only [thenQ, blockQ, if_true, Ann.kill, List.find?_nil]
 repeat apply W_seq
 refine W_region (by simp; first | exact ⟨rfl, rfl⟩ | exact rfl) ?_
 try simp only [thenQ, blockQ, Ann.kill, List.find?_nil]
 refine W_ret ?_
 try simp only [thenQ, blockQ]
 simp [Tryz.f67]
theorem find_ld {rules : T} {text : List Nat} {r gl : Nat} {σ : Store} {vs : List V3} {s : Rs} (R : Rep rules text r gl σ vs s) {gg gw : Nat} (hw : gw ≤ gg) (hg : σ[gl]? = some (.cells (gcells s.goals vs) gg gw)) (ru : Nat) {y : V} {al : List Nat} (hy : Rd σ y al) (here : Nat) (hn : s.goals.length ≤ 1048576) :
  LD S 67 [.sl gl gg 0 s.goals.length 5, .t (I ru), y, .t (I here)] σ = some (.t (I (gIx ru al here s.goals 0)), σ) := by
 obtain ⟨rows, h1, h2⟩ := frz_chart R.rd hg hw
 obtain ⟨x, h3, h4⟩ := frz_rd 38 hy
 refine LD_borrow (A := A67) rfl rfl (ts := [.list rows, I ru, x, I here]) ?_ (find_lv h2 ru h4 here R.args hn) rfl
 have t1 : ∀ z : T, frz 40 σ (.t z) = some z := fun z => rfl
 simp only [frzs, t1, h1, h3]

def goalS (s : Rs) (ru : Nat) (al : List Nat) (here : Nat) : Rs × Int := match gIx ru al here s.goals 0 with
 | .ofNat i => (s, .ofNat i)
 | .negSucc _ => if 300 ≤ s.goals.length then ({ s with full := true }, -1) else ({ s with goals := s.goals ++ [⟨ru, al, here, [], []⟩], fresh := true }, (s.goals.length : Nat))
theorem goal_ld {rules : T} {text : List Nat} {r gl : Nat} {σ : Store} {vs : List V3} {s : Rs} (R : Rep rules text r gl σ vs s) (ru : Nat) {y : V} {al : List Nat} (hy : Rd σ y al) (hyl : ∀ d ∈ locV y, d ≠ r ∧ d ≠ gl) (here : Nat) (hn : s.goals.length ≤ 1000) (ha : al.length ≤ 1048576) :
  ∃ σ' vs', LD S 51 [.ptr r 0 0 6, .t (I ru), y, .t (I here)] σ = some (.t (I (goalS s ru al here).2), σ') ∧ Rep rules text r gl σ' vs' (goalS s ru al here).1 ∧ Fr [r, gl] σ σ' ∧ ∀ j ∈ locsP vs', j ∈ locsP vs ∨ j ∈ locV y := by
 obtain ⟨gg, gw, hw, hr, hg⟩ := R.run
 have hat := find_ld R hw hg ru hy here (by omega)
 have lr := lt_of_get hr
 have lg := lt_of_get hg
 have n1 := R.ne
 simp only [rnObj] at hr
 suffices hh : ∃ v σ', LV S 51 [.ptr r 0 0 6, .t (I ru), y, .t (I here)] σ = some (v, σ') ∧ v = .t (I (goalS s ru al here).2) ∧ ∃ vs', Rep rules text r gl σ' vs' (goalS s ru al here).1 ∧ Fr [r, gl] σ σ' ∧ ∀ j ∈ locsP vs', j ∈ locsP vs ∨ j ∈ locV y by
  obtain ⟨v, σ', h1, rfl, vs', h2, h3⟩ := hh
  exact ⟨σ', vs', by rw [LD_inl (A := A51) rfl rfl rfl]; exact h1, h2, h3⟩
 refine LV_bodyX (A := A51) rfl Tryz.func51 rfl ?_
 cases hix : gIx ru al here s.goals 0 with
 | ofNat i =>
  rw [hix] at hat
  have e1 : goalS s ru al here = (s, (.ofNat i : Int)) := by simp only [goalS, hix]
  rw [e1]
  repeat apply W_seq
  refine W_region (by simp; first | exact ⟨rfl, rfl⟩ | exact rfl) ?_
  try simp only [thenQ, blockQ, Ann.kill, List.find?_nil]
  repeat apply W_seq
  refine W_region (by simp [hr, hat]; first | exact ⟨rfl, rfl⟩ | exact rfl) ?_
  try simp only [thenQ, blockQ, Ann.kill, List.find?_nil]
  repeat apply W_seq
  refine W_region (by simp; first | exact ⟨rfl, rfl⟩ | exact rfl) ?_
  try simp only [thenQ, blockQ, Ann.kill, List.find?_nil]
  repeat apply W_seq
  refine W_cond (t := true) (by simp [show 0 ≤ (i : Int) by omega]) ?_
  simp only [if_true, if_false, Bool.false_eq_true]
  repeat apply W_seq
  refine W_region (by simp; first | exact ⟨rfl, rfl⟩ | exact rfl) ?_
  try simp only [thenQ, blockQ, Ann.kill, List.find?_nil]
  refine W_ret ?_
  try simp only [thenQ, blockQ]
  exact ⟨trivial, _, (by simp [Tryz.f51]), rfl, vs, R, Fr.refl _ _, fun j hj => .inl hj⟩
 | negSucc n =>
  have := gIx_neg hix
  subst this
  rw [hix] at hat
  have hat' : LD S 67 [.sl gl gg 0 s.goals.length 5, .t (I ru), y, .t (I here)] σ = some (.t (I (-1)), σ) := hat
  by_cases c0 : 300 ≤ s.goals.length
  ·have e1 : goalS s ru al here = ({ s with full := true }, -1) := by simp only [goalS, hix, c0, if_true]
   rw [e1]
   repeat apply W_seq
   refine W_region (by simp; first | exact ⟨rfl, rfl⟩ | exact rfl) ?_
   try simp only [thenQ, blockQ, Ann.kill, List.find?_nil]
   repeat apply W_seq
   refine W_region (by simp [hr, hat']; first | exact ⟨rfl, rfl⟩ | exact rfl) ?_
   try simp only [thenQ, blockQ, Ann.kill, List.find?_nil]
   repeat apply W_seq
   refine W_region (by simp; first | exact ⟨rfl, rfl⟩ | exact rfl) ?_
   try simp only [thenQ, blockQ, Ann.kill, List.find?_nil]
   repeat apply W_seq
   refine W_cond (t := false) (by simp) ?_
   simp only [if_true, if_false, Bool.false_eq_true]
   refine W_skip ?_
   try simp only [thenQ, blockQ, Ann.kill, List.find?_nil]
   repeat apply W_seq
   refine W_region (by simp [hr]; first | exact ⟨rfl, rfl⟩ | exact rfl) ?_
   try simp only [thenQ, blockQ, Ann.kill, List.find?_nil]
   repeat apply W_seq
   refine W_cond (t := true) (by simp [show (300 : Int) ≤ s.goals.length by omega]) ?_
   simp only [if_true, if_false, Bool.false_eq_true]
   repeat apply W_seq
   refine W_region (by simp [hr]; first | exact ⟨rfl, rfl⟩ | exact rfl) ?_
   try simp only [thenQ, blockQ, Ann.kill, List.find?_nil]
   repeat apply W_seq
   refine W_region (by simp; first | exact ⟨rfl, rfl⟩ | exact rfl) ?_
   try simp only [thenQ, blockQ, Ann.kill, List.find?_nil]
   refine W_ret ?_
   try simp only [thenQ, blockQ]
   refine ⟨trivial, _, (by simp [Tryz.f51]), rfl, vs, ?_, ?_⟩
   ·refine ⟨⟨gg, gw, hw, ?_, ?_⟩, R.rd.keep fun j hj => ?_, n1, R.apart, R.args⟩
    ·rw [List.getElem?_set_self lr]; rfl
    ·rw [List.getElem?_set_ne n1]; exact hg
    ·rw [List.getElem?_set_ne (Ne.symm (R.apart j hj).1)]
   ·exact ⟨⟨by simp, fun i hi hn => List.getElem?_set_ne (fun e => hn (by simp [e]))⟩, fun j hj => .inl hj⟩
  ·have e1 : goalS s ru al here = ({ s with goals := s.goals ++ [⟨ru, al, here, [], []⟩], fresh := true }, ((s.goals.length : Nat) : Int)) := by simp only [goalS, hix, c0, if_false]
   rw [e1]
   have hlen := gcells_len s.goals vs R.rd.1
   have hbnd : (s.goals.length + 1) * 88 ≤ 140737488355328 := by omega
   have fin : ∀ o : List Go.V.Obj, ∃ vs', Rep rules text r gl (((σ.set gl (.cells (gcells s.goals vs ++ [V.t (I ru), y, V.t (I here), V.t .nils, V.t .nils]) (gg + 1) gw)).set r (rnObj rules text (.sl gl (gg + 1) 0 (s.goals.length + 1) 5) { s with fresh := true })) ++ o) vs' { s with goals := s.goals ++ [⟨ru, al, here, [], []⟩], fresh := true } ∧ Fr [r, gl] σ (((σ.set gl (.cells (gcells s.goals vs ++ [V.t (I ru), y, V.t (I here), V.t .nils, V.t .nils]) (gg + 1) gw)).set r (rnObj rules text (.sl gl (gg + 1) 0 (s.goals.length + 1) 5) { s with fresh := true })) ++ o) ∧ ∀ j ∈ locsP vs', j ∈ locsP vs ∨ j ∈ locV y := by
    intro o
    have gr : ∀ i, i ≠ gl → i ≠ r → i < σ.length → (((σ.set gl (.cells (gcells s.goals vs ++ [V.t (I ru), y, V.t (I here), V.t .nils, V.t .nils]) (gg + 1) gw)).set r (rnObj rules text (.sl gl (gg + 1) 0 (s.goals.length + 1) 5) { s with fresh := true })) ++ o)[i]? = σ[i]? := fun i h1 h2 h3 => by
     rw [List.getElem?_append_left (by simpa using h3), List.getElem?_set_ne (Ne.symm h2), List.getElem?_set_ne (Ne.symm h1)]
    refine ⟨vs ++ [(y, .t .nils, .t .nils)], ⟨⟨gg + 1, gw, by omega, ?_, ?_⟩, ?_, n1, ?_, ?_⟩, ⟨by simp, fun i hi hn => gr i (fun e => hn (by simp [e])) (fun e => hn (by simp [e])) hi⟩, fun j hj => by simpa [locsP, locV] using hj⟩
    ·rw [List.getElem?_append_left (by simpa using lr), List.getElem?_set_self (by simpa using lr)]
     simp [rnObj]
    ·rw [List.getElem?_append_left (by simpa using lg), List.getElem?_set_ne n1, List.getElem?_set_self lg, gcells_app _ _ _ _ R.rd.1]
     simp [gcells]
    ·have hk := R.rd.keep fun i hi => gr i (R.apart i hi).2 (R.apart i hi).1 (R.rd.locs i hi)
     refine ⟨by simp [hk.1], fun i g p hg hp => ?_⟩
     rcases Nat.lt_or_ge i s.goals.length with h | h
     ·rw [List.getElem?_append_left h] at hg
      rw [List.getElem?_append_left (by rw [hk.1]; exact h)] at hp
      exact hk.2 i g p hg hp
     ·rw [List.getElem?_append_right h] at hg
      rw [List.getElem?_append_right (by rw [hk.1]; exact h), hk.1] at hp
      cases hq : i - s.goals.length with
      | zero =>
       rw [hq] at hg hp
       simp only [List.getElem?_cons_zero, Option.some.injEq] at hg hp
       subst hg hp
       exact ⟨hy.keep fun i hi => gr i (hyl i hi).2 (hyl i hi).1 (hy.locs i hi), .inl ⟨rfl, rfl⟩, .inl ⟨rfl, rfl⟩⟩
      | succ q => rw [hq] at hg; simp at hg
    ·intro j hj
     have e : locsP (vs ++ [(y, V.t .nils, V.t .nils)]) = locsP vs ++ locV y := by simp [locsP, locV]
     rw [e, List.mem_append] at hj
     exact hj.elim (R.apart j) (hyl j)
    ·intro g hg
     rcases List.mem_append.1 hg with hg | hg
     ·exact R.args g hg
     ·simp only [List.mem_singleton] at hg
      subst hg
      exact ha
   repeat apply W_seq
   refine W_region (by simp; first | exact ⟨rfl, rfl⟩ | exact rfl) ?_
   try simp only [thenQ, blockQ, Ann.kill, List.find?_nil]
   repeat apply W_seq
   refine W_region (by simp [hr, hat']; first | exact ⟨rfl, rfl⟩ | exact rfl) ?_
   try simp only [thenQ, blockQ, Ann.kill, List.find?_nil]
   repeat apply W_seq
   refine W_region (by simp; first | exact ⟨rfl, rfl⟩ | exact rfl) ?_
   try simp only [thenQ, blockQ, Ann.kill, List.find?_nil]
   repeat apply W_seq
   refine W_cond (t := false) (by simp) ?_
   simp only [if_true, if_false, Bool.false_eq_true]
   refine W_skip ?_
   try simp only [thenQ, blockQ, Ann.kill, List.find?_nil]
   repeat apply W_seq
   refine W_region (by simp [hr]; first | exact ⟨rfl, rfl⟩ | exact rfl) ?_
   try simp only [thenQ, blockQ, Ann.kill, List.find?_nil]
   repeat apply W_seq
   refine W_cond (t := false) (by simp [show ¬ (300 : Int) ≤ s.goals.length by omega]) ?_
   simp only [if_true, if_false, Bool.false_eq_true]
   refine W_skip ?_
   try simp only [thenQ, blockQ, Ann.kill, List.find?_nil]
   rcases hy with ⟨rfl, rfl⟩ | rfl | ⟨d, yg, yw, rfl, y1, y2⟩
   all_goals
    repeat apply W_seq
    refine W_region (by simp [hr, hg, buildV, fieldSizes, fillV, appendV, srcCells, sliceCells, repZero, rowCells, chunk, mkAgg, allT, setRange, List.getElem?_append, lr, lg, hlen, hbnd, List.getElem?_set_ne n1, List.getElem?_set_ne (Ne.symm n1)]; first | exact ⟨rfl, rfl⟩ | exact rfl) ?_
    try simp only [thenQ, blockQ, Ann.kill, List.find?_nil]
    repeat apply W_seq
    refine W_region (by simp [List.getElem?_append, lr, lg, List.getElem?_set_self]; first | exact ⟨rfl, rfl⟩ | exact rfl) ?_
    try simp only [thenQ, blockQ, Ann.kill, List.find?_nil]
    repeat apply W_seq
    refine W_region (by simp [List.getElem?_append, lr, lg, List.getElem?_set_self, IntWalk.i64_in ((s.goals.length : Int) + 1 - 1) (by omega), IntWalk.i64_in (s.goals.length : Int) (by omega)]; first | exact ⟨rfl, rfl⟩ | exact rfl) ?_
    try simp only [thenQ, blockQ, Ann.kill, List.find?_nil]
    refine W_ret ?_
    try simp only [thenQ, blockQ]
    first
     | exact ⟨trivial, _, (by simp [Tryz.f51]; rfl), rfl, by simpa [rnObj] using fin []⟩
     | exact ⟨trivial, _, (by simp [Tryz.f51]), rfl, by simpa [rnObj] using fin []⟩
     | exact ⟨trivial, _, (by simp [Tryz.f51]), rfl, by have := fin [V.Obj.cells [V.t (I ru), V.sl d yg 0 al.length 1, V.t (I here), V.t .nils, V.t .nils] 0 0]; simpa [rnObj] using this⟩
end X
