/- A part of the proof. No statement of the claim is in it. -/
import Derived.Test.YtphkipgmklhdgaaGreatVEr3
open Go Go.V Go.Proofs
namespace X
set_option maxRecDepth 100000
set_option maxHeartbeats 4000000
set_option linter.unusedSimpArgs false
set_option linter.unusedVariables false
attribute [-simp] lenV idxV getElem?_pos
theorem getA (σ r : Store) : (σ ++ r)[σ.length]? = r[0]? := by
 rw [List.getElem?_append_right (Nat.le_refl _), Nat.sub_self]
theorem setA (σ r : Store) (x : Go.V.Obj) : (σ ++ r).set σ.length x = σ ++ r.set 0 x := by
 rw [List.set_append_right _ _ (Nat.le_refl _), Nat.sub_self]
/-- a slice of places in memory of its own -/
def AtS (σ : Store) (v : V) (d : Nat) (l : List At) : Prop := ∃ g w, v = .sl d g 0 l.length 2 ∧ σ[d]? = some (.cells (cellsA l) g w) ∧ w ≤ g
theorem AtS.rd {σ : Store} {v : V} {d : Nat} {l : List At} (h : AtS σ v d l) : RdA σ v l := by
 obtain ⟨g, w, h1, h2, h3⟩ := h
 exact .inr ⟨d, g, w, h1, h2, h3⟩
def xT (x : At) : T := .agg [I x.1, envT x.2]
def OkE (l : List At) : Prop := ∀ a ∈ l, a.2.length ≤ 1048576
theorem put_ld {σ : Store} {v : V} {d : Nat} {l : List At} (h : AtS σ v d l) (x : At) (hl : l.length ≤ 1000000000000) (he : OkE l) :
  ∃ v' σ', LD S 81 [v, .t (xT x)] σ = some (v', σ') ∧ AtS σ' v' d (putS l x) ∧ Fr [d] σ σ' := by
 obtain ⟨g, w, rfl, h1, h2⟩ := h
 have ld := lt_of_get h1
 have hcl := cellsA_len l
 suffices hh : ∃ v' σ', LV S 81 [.sl d g 0 l.length 2, .t (xT x)] σ = some (v', σ') ∧ AtS σ' v' d (putS l x) ∧ Fr [d] σ σ' by
  obtain ⟨v', σ', q1, q2, q3⟩ := hh
  exact ⟨v', σ', by rw [LD_inl (A := A81) rfl rfl rfl]; exact q1, q2, q3⟩
 refine LV_bodyX (A := A81) rfl Tryz.func81 rfl ?_
 have hb : ∀ o : Go.V.Obj, (σ ++ [o])[d]? = some (.cells (cellsA l) g w) := fun o => by rw [List.getElem?_append_left ld]; exact h1
 repeat apply W_seq
 refine W_region (by simp [xT]; first | exact ⟨rfl, rfl⟩ | exact rfl) ?_
 try simp only [thenQ, blockQ, Ann.kill, List.find?_nil]
 repeat apply W_seq
 refine W_region (by simp; first | exact ⟨rfl, rfl⟩ | exact rfl) ?_
 try simp only [thenQ, blockQ, Ann.kill, List.find?_nil]
 repeat apply W_seq
 refine W_block ?_
 refine W_loop (I := fun m st τ => ∃ k, m = l.length - k ∧ k ≤ l.length ∧ l.contains x = (l.drop k).contains x ∧ st.vars = [(0, .sl d g 0 l.length 2), (1, .t (xT x)), (3, .ptr σ.length 0 0 2), (4, .t .nils), (5, .t (I k))] ∧ τ = σ ++ [.cells [.t (I x.1), .t (envT x.2)] 0 0]) ?_ l.length _ _ ⟨0, rfl, Nat.zero_le _, rfl, by simp [xT], rfl⟩
 rintro m ⟨vars, scr⟩ τ ⟨k, rfl, hk, hc, hv, rfl⟩
 simp only at hv
 subst hv
 repeat apply W_seq
 refine W_region (by simp; first | exact ⟨rfl, rfl⟩ | exact rfl) ?_
 try simp only [thenQ, blockQ, Ann.kill, List.find?_nil]
 by_cases c1 : k < l.length
 ·repeat apply W_seq
  refine W_cond (t := true) (by simp [c1]) ?_
  simp only [if_true, if_false, Bool.false_eq_true]
  refine W_skip ?_
  try simp only [thenQ, blockQ, Ann.kill, List.find?_nil]
  repeat apply W_seq
  refine W_block ?_
  obtain ⟨a, ha⟩ := get_of_lt c1
  obtain ⟨e1, e2⟩ := cellsA_get ha
  have hsz : k * 2 + 1 + 1 ≤ l.length * 2 := by omega
  have hsz1 : k * 2 + 1 ≤ l.length * 2 := by omega
  have hi1 : (k : Int) < l.length := by omega
  rw [drop_get ha] at hc
  have hse := sameEnv_ld a.2 x.2 (he a (List.mem_of_getElem? ha))
  by_cases c2 : a.1 = x.1
  ·have c2' : ((a.1 : Int) == (x.1 : Int)) = true := by simp [c2]
   repeat apply W_seq
   refine W_region (by simp [hb, getA, e1, e2, hcl, hsz, hsz1, h2, hi1, c2, c2', hse]; first | exact ⟨rfl, rfl⟩ | exact rfl) ?_
   try simp only [thenQ, blockQ, Ann.kill, List.find?_nil]
   by_cases c3 : a.2 = x.2
   ·have hax : a = x := Prod.ext c2 c3
    repeat apply W_seq
    refine W_cond (t := true) (by simp [c3]) ?_
    simp only [if_true, if_false, Bool.false_eq_true]
    repeat apply W_seq
    refine W_region (by simp; first | exact ⟨rfl, rfl⟩ | exact rfl) ?_
    try simp only [thenQ, blockQ, Ann.kill, List.find?_nil]
    have hp : putS l x = l := by
     have : l.contains x = true := by rw [hc]; simp [hax]
     simp only [putS, this, if_true]
    refine W_ret ?_
    try simp only [thenQ, blockQ]
    exact ⟨trivial, _, (by simp [Tryz.f81]; rfl), by rw [hp]; exact ⟨g, w, rfl, hb _, h2⟩, Fr.app _ _ _⟩
   ·repeat apply W_seq
    refine W_cond (t := false) (by simp [c3]) ?_
    simp only [if_true, if_false, Bool.false_eq_true]
    refine W_skip ?_
    try simp only [thenQ, blockQ, Ann.kill, List.find?_nil]
    repeat apply W_seq
    refine W_region (by simp [IntWalk.i64_in ((k : Int) + 1) (by omega)]; first | exact ⟨rfl, rfl⟩ | exact rfl) ?_
    try simp only [thenQ, blockQ, Ann.kill, List.find?_nil]
    have hax : ¬ x = a := fun e => c3 (by rw [e])
    exact ⟨l.length - (k + 1), by omega, k + 1, rfl, c1, by rw [hc]; simp [hax], by simp [xT], by simp⟩
  ·have c2' : ((a.1 : Int) == (x.1 : Int)) = false := by simp; omega
   repeat apply W_seq
   refine W_region (by simp [hb, getA, e1, e2, hcl, hsz, hsz1, h2, hi1, c2, c2']; first | exact ⟨rfl, rfl⟩ | exact rfl) ?_
   try simp only [thenQ, blockQ, Ann.kill, List.find?_nil]
   repeat apply W_seq
   refine W_cond (t := false) (by simp) ?_
   simp only [if_true, if_false, Bool.false_eq_true]
   refine W_skip ?_
   try simp only [thenQ, blockQ, Ann.kill, List.find?_nil]
   repeat apply W_seq
   refine W_region (by simp [IntWalk.i64_in ((k : Int) + 1) (by omega)]; first | exact ⟨rfl, rfl⟩ | exact rfl) ?_
   try simp only [thenQ, blockQ, Ann.kill, List.find?_nil]
   have hax : ¬ x = a := fun e => c2 (by rw [e])
   exact ⟨l.length - (k + 1), by omega, k + 1, rfl, c1, by rw [hc]; simp [hax], by simp [xT], by simp⟩
 ·repeat apply W_seq
  refine W_cond (t := false) (by simp [c1]) ?_
  simp only [if_true, if_false, Bool.false_eq_true]
  repeat apply W_seq
  refine W_exit ?_
  try simp only [thenQ, blockQ, if_true, Ann.kill, List.find?_nil]
  have hk2 : k = l.length := by omega
  subst hk2
  have hp : putS l x = l ++ [x] := by
   have : l.contains x = false := by rw [hc]; simp
   simp only [putS, this]; rfl
  have hbnd : (l.length + 1) * 32 ≤ 140737488355328 := by omega
  repeat apply W_seq
  refine W_region (by simp [getA, hb, sliceCells, repZero, chunk, fillV, appendV, srcCells, rowCells, hcl, hbnd, h2]; first | exact ⟨rfl, rfl⟩ | exact rfl) ?_
  try simp only [thenQ, blockQ, Ann.kill, List.find?_nil]
  refine W_ret ?_
  try simp only [thenQ, blockQ]
  refine ⟨trivial, _, (by simp [Tryz.f81]; rfl), ?_, ?_⟩
  ·rw [hp]
   refine ⟨g + 1, w, by simp, ?_, by omega⟩
   rw [List.getElem?_set_self (by simp; omega), cellsA_app]
   rfl
  ·refine ⟨by simp, fun i hi hn => ?_⟩
   rw [List.getElem?_set_ne (fun e => hn (by simp [e])), List.getElem?_append_left hi]
end X
