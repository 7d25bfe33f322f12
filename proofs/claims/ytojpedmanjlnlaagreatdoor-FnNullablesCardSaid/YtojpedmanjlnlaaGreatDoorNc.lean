/- A part of the proof. No statement of the claim is in it. -/
import Derived.Test.YtojpedmanjlnlaaGreatDoorNe
set_option maxRecDepth 100000
set_option maxHeartbeats 4000000
set_option linter.all false
open Go Go.V Go.Proofs
namespace X
attribute [-simp] lenV idxV getElem?_pos
/-! ### FirstBytes of the reference -/
def symsL : T → Option (List T)
 | .nils => some []
 | .list l => some l
 | _ => none
theorem symsL_eq {x : T} {l : List T} (h : symsL x = some l) : Syms x l := by
 unfold symsL at h
 split at h
 ·cases h; exact .inl ⟨rfl, rfl⟩
 ·cases h; exact .inr rfl
 ·cases h
def altsM (nu : List Bool) (RA : List Nat → Option Nat) (SB : List Nat → Option (List Nat)) (i : Nat) : List T → List Nat → List Nat
 | .agg [xs] :: r, M => match symsL xs with
  | some l => altsM nu RA SB i r (altM nu RA SB i l M)
  | none => M
 | _, M => M
def rulesM (nu : List Bool) (RA : List Nat → Option Nat) (SB : List Nat → Option (List Nat)) : Nat → List T → List Nat → List Nat
 | i, .agg [_, _, az] :: r, M => match symsL az with
  | some l => rulesM nu RA SB (i + 1) r (altsM nu RA SB i l M)
  | none => M
 | _, _, M => M
def roundsM (nu : List Bool) (RA : List Nat → Option Nat) (SB : List Nat → Option (List Nat)) (rules : List T) : Nat → List Nat → List Nat
 | 0, M => M
 | n + 1, M => roundsM nu RA SB rules n (rulesM nu RA SB 0 rules M)
def fbS (nu : List Bool) (RA : List Nat → Option Nat) (SB : List Nat → Option (List Nat)) (rules : List T) (i : Nat) : List Nat :=
 (List.range 256).filter fun b => ((roundsM nu RA SB rules (rules.length + 1) (List.replicate rules.length 0)).getD i 0).testBit b
def altF (nR : Nat) (nu : List Bool) (RA : List Nat → Option Nat) (SB : List Nat → Option (List Nat)) : T → Bool
 | .agg [xs] => match symsL xs with
  | some l => decide (l.length ≤ 1000) && l.all (symF nR nu RA SB)
  | none => false
 | _ => false
def ruleF (nR : Nat) (nu : List Bool) (RA : List Nat → Option Nat) (SB : List Nat → Option (List Nat)) : T → Bool
 | .agg [_, _, az] => match symsL az with
  | some l => decide (l.length ≤ 1000) && l.all (altF nR nu RA SB)
  | none => false
 | _ => false
theorem fb_ld {rules : List T} {nu : List Bool} {RA : List Nat → Option Nat} {SB : List Nat → Option (List Nat)} (K : KnF (.list rules) RA SB) (hgok : ∀ σ, LD S 23 [.t (.agg [.list rules])] σ = some (.t (B true), σ)) (hnul : ∀ σ, LD S 25 [.t (.agg [.list rules])] σ = some (.t (.list (rowsB nu)), σ))
  (hok : rules.all (ruleF rules.length nu RA SB) = true) (hR : rules.length ≤ 1000) {i : Nat} (hi : i < rules.length) (σ : Store) : LD S 11 [.t (.agg [.list rules]), .t (I i)] σ = some (.t (.str (fbS nu RA SB rules i)), σ) := by
 suffices hh : ∃ v σ', LV S 11 [.t (.agg [.list rules]), .t (I i)] [] = some (v, σ') ∧ v = .t (.str (fbS nu RA SB rules i)) by
  obtain ⟨v, σ', q1, rfl⟩ := hh
  exact LD_pure (A := A11) (args := [.t (.agg [.list rules]), .t (I i)]) rfl rfl rfl q1 rfl σ
 have hin : ∀ σ, LD S 24 [.t (I i), .t (I 0), .t (I ((rules.length : Int) - 1))] σ = some (.t (B true), σ) := fun σ => by
  have := in_ld i 0 ((rules.length : Int) - 1) σ
  rw [show inF (i : Int) 0 ((rules.length : Int) - 1) = true by simp [inF]; omega] at this
  exact this
 refine LV_bodyX (A := A11) rfl Tryz.func11 rfl ?_
 repeat apply wS
 refine wR (by simp; constructor <;> rfl) ?_
 try simp only [tq]
 repeat apply wS
 refine wR (by simp [hgok, lenV, IntWalk.i64_in ((rules.length : Int) - 1) (by omega), hin]; constructor <;> rfl) ?_
 try simp only [tq]
 repeat apply wS
 refine wC (t := false) (by simp) ?_
 simp only [iq]
 refine W_skip ?_
 try simp only [tq]
 repeat apply wS
 refine wR (by simp [hnul]; constructor <;> rfl) ?_
 try simp only [tq]
 repeat apply wS
 refine wR (by simp [sliceCells, repZero, chunk, fillV, setRange]; constructor <;> rfl) ?_
 try simp only [tq]
 repeat apply wS
 refine wR (by simp; constructor <;> rfl) ?_
 try simp only [tq]
 repeat apply wS
 refine W_block ?_
 refine W_loop (I := fun m st τ => ∃ k ds, m = rules.length - k ∧ k ≤ rules.length ∧ ds.length = k ∧ st.vars = [(0, .t (.agg [.list rules])), (1, .t (I i)), (2, .ptr 0 0 0 1), (4, .t (.str [])), (5, .t (.list (rowsB nu))), (6, .sl 1 k 0 k 1), (7, .t (I k))] ∧ Rp τ 1 k ds (List.replicate k 0) ∧ 0 ∉ ds ∧ τ[0]? = some (.cells [.t (.list rules)] 0 0)) ?_ rules.length _ _ ⟨0, [], rfl, Nat.zero_le _, rfl, rfl, ⟨⟨0, Nat.le_refl _, rfl⟩, fun j d m hj _ => by simp at hj, rfl, fun j k d hj _ => by simp at hj, by simp⟩, by simp, rfl⟩
 ·rintro m ⟨vars, scr⟩ τ ⟨k, ds, rfl, hk, hdl, hv, Rk, h0d, hb⟩
  simp only at hv
  subst hv
  repeat apply wS
  refine wR (by simp [hb, lenV]; constructor <;> rfl) ?_
  try simp only [tq]
  by_cases c1 : k < rules.length
  ·repeat apply wS
   refine wC (t := true) (by simp [c1]) ?_
   simp only [iq]
   refine W_skip ?_
   try simp only [tq]
   repeat apply wS
   refine W_block ?_
   obtain ⟨w, hw1, hw2⟩ := Rk.first
   have l1 := lt_of_get hw2
   have hz := rep_bM 256 rfl
   have e1 : (τ ++ [V.Obj.cells (bM 0) 0 0, V.Obj.cells [V.sl τ.length 0 0 256 1] 0 0])[1]? = some (.cells (ds.map fun d => V.sl d 0 0 256 1) k w) := by rw [List.getElem?_append_left l1]; exact hw2
   have e2 : (τ ++ [V.Obj.cells (bM 0) 0 0, V.Obj.cells [V.sl τ.length 0 0 256 1] 0 0])[τ.length + 1]? = some (.cells [V.sl τ.length 0 0 256 1] 0 0) := by rw [getB]; rfl
   repeat apply wS
   refine wR (by simp [hz, zeroCells, sliceCells, chunk, repZero, fillV, appendV, srcCells, rowCells, allT, setRange, e1, e2, hw1, hdl, show (k + 1) * 24 ≤ 140737488355328 by omega]; constructor <;> rfl) ?_
   try simp only [tq]
   repeat apply wS
   refine wR (by simp [IntWalk.i64_in ((k : Int) + 1) (by omega)]; constructor <;> rfl) ?_
   try simp only [tq]
   have hlt : ∀ d ∈ ds, d < τ.length := fun d hd => by
    obtain ⟨j, hj⟩ := List.getElem?_of_mem hd
    obtain ⟨_, _, _, h3⟩ := Rk.get hj
    exact lt_of_get h3
   have hd1 : ∀ d ∈ ds, 1 ≠ d := fun d hd e => Rk.out (by rw [e]; exact hd)
   refine ⟨rules.length - (k + 1), by omega, k + 1, ds ++ [τ.length], rfl, c1, by simp [hdl], by simp, ⟨⟨w, by omega, ?_⟩, fun j d m hj hm => ?_, by simp [hdl], fun j j' d hj hj' => ?_, fun h => ?_⟩, fun h => ?_, ?_⟩
   ·rw [List.getElem?_set_self (by simp), List.map_append]
    rfl
   ·have hm0 : m = 0 := by
     rw [List.getElem?_replicate] at hm
     split at hm
     ·exact (Option.some.inj hm).symm
     ·cases hm
    subst hm0
    rw [List.getElem?_append] at hj
    split at hj
    ·have hdm := List.mem_of_getElem? hj
     rename_i hjl
     rw [List.getElem?_set_ne (hd1 d hdm), List.getElem?_append_left (hlt d hdm)]
     exact Rk.rows j d 0 hj (by rw [List.getElem?_replicate, if_pos (by omega)])
    ·have hdd : d = τ.length := by
      have := List.mem_of_getElem? hj
      simpa using this
     subst hdd
     rw [List.getElem?_set_ne (by omega), getA]
     rfl
   ·rw [List.getElem?_append] at hj hj'
    split at hj
    ·split at hj'
     ·exact Rk.inj j j' d hj hj'
     ·have h1 := hlt d (List.mem_of_getElem? hj)
      have h2 := List.mem_of_getElem? hj'
      simp only [List.mem_singleton] at h2
      omega
    ·split at hj'
     ·have h1 := hlt d (List.mem_of_getElem? hj')
      have h2 := List.mem_of_getElem? hj
      simp only [List.mem_singleton] at h2
      omega
     ·have h1 := lt_of_get hj
      have h2 := lt_of_get hj'
      simp only [List.length_singleton] at h1 h2
      omega
   ·rcases List.mem_append.1 h with h | h
    ·exact Rk.out h
    ·simp only [List.mem_singleton] at h
     omega
   ·rcases List.mem_append.1 h with h | h
    ·exact h0d h
    ·simp only [List.mem_singleton] at h
     omega
   ·rw [List.getElem?_set_ne (by omega), List.getElem?_append_left (by omega)]
    exact hb
  ·repeat apply wS
   refine wC (t := false) (by simp [c1]) ?_
   simp only [iq]
   repeat apply wS
   refine W_exit ?_
   try simp only [tq, if_true]
   have hkR : k = rules.length := by omega
   subst hkR
   repeat apply wS
   refine wR (by simp; constructor <;> rfl) ?_
   try simp only [tq]
   repeat apply wS
   refine W_block ?_
   generalize hM0 : List.replicate rules.length 0 = M0 at Rk
   refine W_loop (I := fun m st τ' => ∃ r M, m = rules.length + 1 - r ∧ r ≤ rules.length + 1 ∧ roundsM nu RA SB rules (rules.length + 1) M0 = roundsM nu RA SB rules (rules.length + 1 - r) M ∧ st.vars = [(0, .t (.agg [.list rules])), (1, .t (I i)), (2, .ptr 0 0 0 1), (4, .t (.str [])), (5, .t (.list (rowsB nu))), (6, .sl 1 rules.length 0 rules.length 1), (8, .t (I r))] ∧ Rp τ' 1 rules.length ds M ∧ τ'[0]? = some (.cells [.t (.list rules)] 0 0)) ?_ (rules.length + 1) _ _ ⟨0, M0, rfl, Nat.zero_le _, rfl, rfl, Rk, hb⟩
   rintro m ⟨vars, scr⟩ τ1 ⟨r, M, rfl, hr, he, hv, R1, hb1⟩
   simp only at hv
   subst hv
   repeat apply wS
   refine wR (by simp [hb1, lenV]; constructor <;> rfl) ?_
   try simp only [tq]
   by_cases c2 : r ≤ rules.length
   ·repeat apply wS
    refine wC (t := true) (by simp [c2]) ?_
    simp only [iq]
    refine W_skip ?_
    try simp only [tq]
    repeat apply wS
    refine W_block ?_
    repeat apply wS
    refine wR (by simp; constructor <;> rfl) ?_
    try simp only [tq]
    repeat apply wS
    refine W_block ?_
    refine W_loop (I := fun m st τ' => ∃ q M', m = rules.length - q ∧ q ≤ rules.length ∧ rulesM nu RA SB 0 rules M = rulesM nu RA SB q (rules.drop q) M' ∧ st.vars = [(0, .t (.agg [.list rules])), (1, .t (I i)), (2, .ptr 0 0 0 1), (4, .t (.str [])), (5, .t (.list (rowsB nu))), (6, .sl 1 rules.length 0 rules.length 1), (8, .t (I r)), (9, .t (I q))] ∧ Rp τ' 1 rules.length ds M' ∧ τ'[0]? = some (.cells [.t (.list rules)] 0 0)) ?_ rules.length _ _ ⟨0, M, rfl, Nat.zero_le _, by simp, rfl, R1, hb1⟩
    rintro m ⟨vars, scr⟩ τ2 ⟨q, M', rfl, hq, he2, hv, R2, hb2⟩
    simp only at hv
    subst hv
    repeat apply wS
    refine wR (by simp [hb2, lenV]; constructor <;> rfl) ?_
    try simp only [tq]
    by_cases c3 : q < rules.length
    ·repeat apply wS
     refine wC (t := true) (by simp [c3]) ?_
     simp only [iq]
     refine W_skip ?_
     try simp only [tq]
     repeat apply wS
     refine W_block ?_
     obtain ⟨y, hy⟩ := get_of_lt c3
     have hy1 := List.all_eq_true.1 hok y (List.mem_of_getElem? hy)
     unfold ruleF at hy1
     split at hy1
     rotate_left
     ·cases hy1
     rename_i nm ps az
     split at hy1
     rotate_left
     ·cases hy1
     rename_i al hal
     simp only [Bool.and_eq_true, decide_eq_true_eq] at hy1
     rw [drop_get hy] at he2
     simp only [rulesM, hal] at he2
     have hsy := symsL_eq hal
     have laz : ∀ (σ : Store) (e : TypeId), lenV σ (.slice e) (.t az) = some (al.length : Int) := fun σ e => by
      rcases hsy with ⟨rfl, rfl⟩ | rfl <;> simp [lenV]
     have iru : idxV 3 (.t (.list rules)) (q : Int) = some (.t (.snap [nm, ps, az])) := by simp [idxV, hy]
     obtain ⟨dq, hdq⟩ := get_of_lt (show q < ds.length by omega)
     repeat apply wS
     refine wR (by simp; constructor <;> rfl) ?_
     try simp only [tq]
     repeat apply wS
     refine W_block ?_
     refine W_loop (I := fun m st τ' => ∃ a M2, m = al.length - a ∧ a ≤ al.length ∧ altsM nu RA SB q al M' = altsM nu RA SB q (al.drop a) M2 ∧ st.vars = [(0, .t (.agg [.list rules])), (1, .t (I i)), (2, .ptr 0 0 0 1), (4, .t (.str [])), (5, .t (.list (rowsB nu))), (6, .sl 1 rules.length 0 rules.length 1), (8, .t (I r)), (9, .t (I q)), (10, .t (I a))] ∧ Rp τ' 1 rules.length ds M2 ∧ τ'[0]? = some (.cells [.t (.list rules)] 0 0)) ?_ al.length _ _ ⟨0, M', rfl, Nat.zero_le _, by simp, rfl, R2, hb2⟩
     rintro m ⟨vars, scr⟩ τ3 ⟨a, M2, rfl, ha, he3, hv, R3, hb3⟩
     simp only at hv
     subst hv
     repeat apply wS
     refine wR (by simp [hb3, iru, laz]; constructor <;> rfl) ?_
     try simp only [tq]
     by_cases c4 : a < al.length
     ·repeat apply wS
      refine wC (t := true) (by simp [c4]) ?_
      simp only [iq]
      refine W_skip ?_
      try simp only [tq]
      repeat apply wS
      refine W_block ?_
      obtain ⟨z, hz⟩ := get_of_lt c4
      have hz1 := List.all_eq_true.1 hy1.2 z (List.mem_of_getElem? hz)
      unfold altF at hz1
      split at hz1
      rotate_left
      ·cases hz1
      rename_i xs
      split at hz1
      rotate_left
      ·cases hz1
      rename_i syms hsyms
      simp only [Bool.and_eq_true, decide_eq_true_eq] at hz1
      rw [drop_get hz] at he3
      simp only [altsM, hsyms] at he3
      have ial : idxV 1 (.t az) (a : Int) = some (.t (.snap [xs])) := by
       rcases hsy with ⟨rfl, rfl⟩ | rfl
       ·simp at hz
       ·simp [idxV, hz]
      obtain ⟨w3, hw3, hw4⟩ := R3.first
      have f1 : (ds.map fun d => V.sl d 0 0 256 1)[q]? = some (.sl dq 0 0 256 1) := by simp [hdq]
      have f2 : idxV 1 (.sl 1 rules.length 0 rules.length 1) (q : Int) = some (.ptr 1 rules.length q 1) := by
       have : (q : Int) < rules.length := by omega
       simp [idxV, this]
      obtain ⟨τ4, hc1, hc2, hc3⟩ := alt_ld K (symsL_eq hsyms) hz1.2 hz1.1 R3 hdl hdq
      rw [hdl] at hc1
      repeat apply wS
      refine wR (by simp [hb3, iru, ial, f2, hw4, f1, hdq, hw3, show q + 1 ≤ ds.length by omega, hc1]; constructor <;> rfl) ?_
      try simp only [tq]
      repeat apply wS
      refine wR (by simp [IntWalk.i64_in ((a : Int) + 1) (by omega)]; constructor <;> rfl) ?_
      try simp only [tq]
      exact ⟨al.length - (a + 1), by omega, a + 1, _, rfl, c4, he3, by simp, hc2, by rw [hc3.2 0 (lt_of_get hb3) h0d]; exact hb3⟩
     ·repeat apply wS
      refine wC (t := false) (by simp [c4]) ?_
      simp only [iq]
      repeat apply wS
      refine W_exit ?_
      try simp only [tq, if_true]
      have hd0 : al.drop a = [] := List.drop_eq_nil_of_le (by omega)
      rw [hd0] at he3
      simp only [altsM] at he3
      repeat apply wS
      refine wR (by simp [IntWalk.i64_in ((q : Int) + 1) (by omega)]; constructor <;> rfl) ?_
      try simp only [tq]
      exact ⟨rules.length - (q + 1), by omega, q + 1, M2, rfl, c3, by rw [he2, he3], by simp, R3, hb3⟩
    ·repeat apply wS
     refine wC (t := false) (by simp [c3]) ?_
     simp only [iq]
     repeat apply wS
     refine W_exit ?_
     try simp only [tq, if_true]
     have hd0 : rules.drop q = [] := List.drop_eq_nil_of_le (by omega)
     rw [hd0] at he2
     simp only [rulesM] at he2
     repeat apply wS
     refine wR (by simp [IntWalk.i64_in ((r : Int) + 1) (by omega)]; constructor <;> rfl) ?_
     try simp only [tq]
     refine ⟨rules.length + 1 - (r + 1), by omega, r + 1, M', rfl, by omega, ?_, by simp, R2, hb2⟩
     rw [he, show rules.length + 1 - r = (rules.length + 1 - (r + 1)) + 1 by omega]
     simp only [roundsM]
     rw [he2]
   ·repeat apply wS
    refine wC (t := false) (by simp [c2]) ?_
    simp only [iq]
    repeat apply wS
    refine W_exit ?_
    try simp only [tq, if_true]
    have hr0 : rules.length + 1 - r = 0 := by omega
    rw [hr0] at he
    have he' : roundsM nu RA SB rules (rules.length + 1) M0 = M := he
    obtain ⟨di, hdi⟩ := get_of_lt (show i < ds.length by omega)
    obtain ⟨mi, hm1, hm2, hm3⟩ := R1.get hdi
    repeat apply wS
    refine wR (by simp; constructor <;> rfl) ?_
    try simp only [tq]
    repeat apply wS
    refine wR (by simp; constructor <;> rfl) ?_
    try simp only [tq]
    repeat apply wS
    refine W_block ?_
    have hfb : fbS nu RA SB rules i = (List.range 256).filter fun b => mi.testBit b := by
     unfold fbS
     rw [hM0, he', hm2]
    refine W_loop (I := fun m st τ' => ∃ b, m = 256 - b ∧ b ≤ 256 ∧ st.vars = [(0, .t (.agg [.list rules])), (1, .t (I i)), (2, .ptr 0 0 0 1), (4, .t (.str [])), (5, .t (.list (rowsB nu))), (6, .sl 1 rules.length 0 rules.length 1), (11, .t (.str ((List.range b).filter fun b => mi.testBit b))), (12, .t (I b))] ∧ Rp τ' 1 rules.length ds M) ?_ 256 _ _ ⟨0, rfl, Nat.zero_le _, rfl, R1⟩
    rintro m ⟨vars, scr⟩ τ5 ⟨b, rfl, hbl, hv, R5⟩
    simp only at hv
    subst hv
    repeat apply wS
    refine wR (by simp; constructor <;> rfl) ?_
    try simp only [tq]
    by_cases c5 : b < 256
    ·repeat apply wS
     refine wC (t := true) (by simp [show (b : Int) < 256 by omega]) ?_
     simp only [iq]
     refine W_skip ?_
     try simp only [tq]
     repeat apply wS
     refine W_block ?_
     obtain ⟨w5, hw5, hw6⟩ := R5.first
     have f1 : (ds.map fun d => V.sl d 0 0 256 1)[i]? = some (.sl di 0 0 256 1) := by simp [hdi]
     have f2 : idxV 1 (.sl 1 rules.length 0 rules.length 1) (i : Int) = some (.ptr 1 rules.length i 1) := by
      have : (i : Int) < rules.length := by omega
      simp [idxV, this]
     have f3 : idxV 1 (.sl di 0 0 256 1) (b : Int) = some (.ptr di 0 b 1) := by
      have : (b : Int) < 256 := by omega
      simp [idxV, this]
     have g1 := R5.rows i di mi hdi hm1
     have g3 := bM_get mi c5
     have hL := bM_len
     repeat apply wS
     refine wR (by simp [f2, hw6, f1, hdi, hw5, show i + 1 ≤ ds.length by omega, f3, g1, hL, g3, show b + 1 ≤ 256 by omega]; constructor <;> rfl) ?_
     try simp only [tq]
     have hlen : ((List.range b).filter fun b => mi.testBit b).length ≤ b := by
      have := List.length_filter_le (fun b => mi.testBit b) (List.range b)
      simpa using this
     have hrr : ∀ c, mi.testBit b = c → (List.range (b + 1)).filter (fun b => mi.testBit b) = (List.range b).filter (fun b => mi.testBit b) ++ (if c = true then [b] else []) := fun c hc => by
      rw [List.range_succ, List.filter_append]
      cases c <;> simp [hc]
     have hw : IntKind.u8.wrap (b : Int) = b := by
      simp only [IntKind.wrap, IntKind.bits, IntKind.signed]
      simp
      omega
     cases hc : mi.testBit b with
     | true =>
      repeat apply wS
      refine wC (t := true) (by simp) ?_
      simp only [iq]
      repeat apply wS
      refine wR (by simp [sliceCells, repZero, chunk, fillV, setRange, convV, hw, getA, srcCells, toBytes, show ((List.range b).filter fun b => mi.testBit b).length + 1 ≤ 9223372036854775807 by omega]; constructor <;> rfl) ?_
      try simp only [tq]
      repeat apply wS
      refine wR (by simp [IntWalk.i64_in ((b : Int) + 1) (by omega)]; constructor <;> rfl) ?_
      try simp only [tq]
      exact ⟨256 - (b + 1), by omega, b + 1, rfl, by omega, by rw [hrr true hc]; simp; exact c5, R5.app _⟩
     | false =>
      repeat apply wS
      refine wC (t := false) (by simp) ?_
      simp only [iq]
      refine W_skip ?_
      try simp only [tq]
      repeat apply wS
      refine wR (by simp [IntWalk.i64_in ((b : Int) + 1) (by omega)]; constructor <;> rfl) ?_
      try simp only [tq]
      exact ⟨256 - (b + 1), by omega, b + 1, rfl, by omega, by rw [hrr false hc]; simp, R5⟩
    ·repeat apply wS
     refine wC (t := false) (by simp [show ¬ (b : Int) < 256 by omega]) ?_
     simp only [iq]
     repeat apply wS
     refine W_exit ?_
     try simp only [tq, if_true]
     repeat apply wS
     refine wR (by simp; constructor <;> rfl) ?_
     try simp only [tq]
     have : b = 256 := by omega
     subst this
     refine W_ret ?_
     exact ⟨trivial, _, (by simp [Tryz.f11]; rfl), by rw [hfb]⟩
end X
