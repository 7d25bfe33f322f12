/- A part of the proof. No statement of the claim is in it. -/
import Derived.Test.YtojpedmanjlnlaaGreatDoorNb
set_option maxRecDepth 100000
set_option maxHeartbeats 4000000
set_option linter.all false
open Go Go.V Go.Proofs
namespace X
attribute [-simp] lenV idxV getElem?_pos
/-! ### l18Alt -/
def Syms (xs : T) (syms : List T) : Prop := (xs = .nils ∧ syms = []) ∨ xs = .list syms
def rowsB (l : List Bool) : List T := l.map fun b => .agg [B b]
structure KnF (L : T) (RA : List Nat → Option Nat) (SB : List Nat → Option (List Nat)) : Prop where
 ra : ∀ nm k, RA nm = some k → ∀ σ, LD S 53 [.t (.agg [L]), .t (.str nm)] σ = some (.t (I (k : Nat)), σ)
 sb : ∀ s bs, SB s = some bs → ∀ σ, LD S 55 [.t (.str s)] σ = some (.t (.str bs), σ)
theorem Rp.get {σ : Store} {df gf : Nat} {ds M : List Nat} (R : Rp σ df gf ds M) {j d : Nat} (h : ds[j]? = some d) : ∃ m, M[j]? = some m ∧ M.getD j 0 = m ∧ σ[d]? = some (.cells (bM m) 0 0) := by
 obtain ⟨m, hm⟩ := get_of_lt (show j < M.length by rw [← R.len]; exact lt_of_get h)
 exact ⟨m, hm, by rw [List.getD_eq_getElem?_getD, hm]; rfl, R.rows j d m h hm⟩
theorem Rp.put {σ : Store} {df gf : Nat} {ds M : List Nat} (R : Rp σ df gf ds M) {i d : Nat} (h : ds[i]? = some d) (m : Nat) : Rp (σ.set d (.cells (bM m) 0 0)) df gf ds (M.set i m) := by
 have hd : d ∈ ds := List.mem_of_getElem? h
 obtain ⟨w, h1, h2⟩ := R.first
 have hne : d ≠ df := fun e => R.out (by rw [← e]; exact hd)
 refine ⟨⟨w, h1, by rw [List.getElem?_set_ne hne]; exact h2⟩, fun j d' m' hj hm => ?_, by rw [List.length_set]; exact R.len, R.inj, R.out⟩
 by_cases e : i = j
 ·subst e
  rw [h] at hj
  cases hj
  rw [List.getElem?_set_self (by rw [← R.len]; exact lt_of_get h)] at hm
  cases hm
  obtain ⟨m0, _, _, h3⟩ := R.get h
  exact List.getElem?_set_self (lt_of_get h3)
 ·rw [List.getElem?_set_ne e] at hm
  have hdd : d ≠ d' := fun q => by
   subst q
   exact e (R.inj i j d h hj)
  rw [List.getElem?_set_ne hdd]
  exact R.rows j d' m' hj hm
/-- what is kept -/
def Kd (ds : List Nat) (σ σ' : Store) : Prop := σ.length ≤ σ'.length ∧ ∀ j, j < σ.length → j ∉ ds → σ'[j]? = σ[j]?
theorem Kd.refl (ds : List Nat) (σ : Store) : Kd ds σ σ := ⟨Nat.le_refl _, fun j _ _ => rfl⟩
theorem Kd.trans {ds : List Nat} {a b c : Store} (h1 : Kd ds a b) (h2 : Kd ds b c) : Kd ds a c := ⟨Nat.le_trans h1.1 h2.1, fun j hj hn => by rw [h2.2 j (by have := h1.1; omega) hn, h1.2 j hj hn]⟩
theorem Kd.put {ds : List Nat} {σ : Store} {d : Nat} (h : d ∈ ds) (o : V.Obj) : Kd ds σ (σ.set d o) := ⟨by simp, fun j _ hn => by
 have hne : d ≠ j := fun e => hn (by rw [← e]; exact h)
 rw [List.getElem?_set_ne hne]⟩
theorem Rp.app {σ : Store} {df gf : Nat} {ds M : List Nat} (R : Rp σ df gf ds M) (l : List V.Obj) : Rp (σ ++ l) df gf ds M := by
 obtain ⟨w, h1, h2⟩ := R.first
 refine ⟨⟨w, h1, by rw [List.getElem?_append_left (lt_of_get h2)]; exact h2⟩, fun j d m hj hm => ?_, R.len, R.inj, R.out⟩
 have h3 := R.rows j d m hj hm
 rw [List.getElem?_append_left (lt_of_get h3)]
 exact h3
theorem altM_nil (nu : List Bool) (RA : List Nat → Option Nat) (SB : List Nat → Option (List Nat)) (i : Nat) (M : List Nat) : altM nu RA SB i [] M = M := by simp [altM]
theorem alt_ld {L : T} {nu : List Bool} {RA : List Nat → Option Nat} {SB : List Nat → Option (List Nat)} (K : KnF L RA SB) {nR : Nat} {xs : T} {syms : List T} (hxs : Syms xs syms) (hok : syms.all (symF nR nu RA SB) = true) (hlen : syms.length ≤ 1000)
  {σ : Store} {df gf : Nat} {ds M : List Nat} (R : Rp σ df gf ds M) (hn : ds.length = nR) {i d : Nat} (hd : ds[i]? = some d) :
  ∃ σ', LD S 26 [.t (.agg [L]), .t xs, .t (.list (rowsB nu)), .sl df gf 0 ds.length 1, .sl d 0 0 256 1] σ = some (.t (.tup []), σ') ∧ Rp σ' df gf ds (altM nu RA SB i syms M) ∧ Kd ds σ σ' := by
 suffices hh : ∃ v σ', LV S 26 [.t (.agg [L]), .t xs, .t (.list (rowsB nu)), .sl df gf 0 ds.length 1, .sl d 0 0 256 1] σ = some (v, σ') ∧ v = .t (.tup []) ∧ Rp σ' df gf ds (altM nu RA SB i syms M) ∧ Kd ds σ σ' by
  obtain ⟨v, σ', q1, rfl, q2⟩ := hh
  exact ⟨σ', by rw [LD_inl (A := A26) rfl rfl rfl]; exact q1, q2⟩
 have lxs : ∀ (σ : Store) (e : TypeId), lenV σ (.slice e) (.t xs) = some (syms.length : Int) := fun σ e => by
  rcases hxs with ⟨rfl, rfl⟩ | rfl <;> simp [lenV]
 refine LV_bodyX (A := A26) rfl Tryz.func26 rfl ?_
 repeat apply wS
 refine wR (by simp; constructor <;> rfl) ?_
 try simp only [tq]
 repeat apply wS
 refine wR (by simp; constructor <;> rfl) ?_
 try simp only [tq]
 have hdm : d ∈ ds := List.mem_of_getElem? hd
 have hs0 : Kd ds σ (σ ++ [V.Obj.cells [V.t L] 0 0]) := ⟨by simp, fun j hj _ => List.getElem?_append_left hj⟩
 have hb0 : (σ ++ [V.Obj.cells [V.t L] 0 0])[σ.length]? = some (.cells [.t L] 0 0) := by rw [getA]; rfl
 have hnd : ∀ j, j ∈ ds → j ≠ σ.length := fun j hj e => by
  subst e
  obtain ⟨k, hk⟩ := List.getElem?_of_mem hj
  obtain ⟨m, _, _, h3⟩ := R.get hk
  exact Nat.lt_irrefl _ (lt_of_get h3)
 have R0 := R.app [V.Obj.cells [V.t L] 0 0]
 revert hs0 hb0 R0
 generalize (σ ++ [V.Obj.cells [V.t L] 0 0]) = τ0
 intro hs0 hb0 R0
 repeat apply wS
 refine W_block ?_
 refine W_loop (I := fun m st τ => ∃ j Mj, m = syms.length - j ∧ j ≤ syms.length ∧ altM nu RA SB i syms M = altM nu RA SB i (syms.drop j) Mj ∧ st.vars = [(0, .t (.agg [L])), (1, .t xs), (2, .t (.list (rowsB nu))), (3, .sl df gf 0 ds.length 1), (4, .sl d 0 0 256 1), (5, .ptr σ.length 0 0 1), (10, .t (I j))] ∧ Rp τ df gf ds Mj ∧ Kd ds σ τ ∧ τ[σ.length]? = some (.cells [.t L] 0 0)) ?_ syms.length _ _ ⟨0, M, rfl, Nat.zero_le _, by simp, rfl, R0, hs0, hb0⟩
 rintro m ⟨vars, scr⟩ τ ⟨j, Mj, rfl, hj, he, hv, Rj, hk, hb⟩
 simp only at hv
 subst hv
 repeat apply wS
 refine wR (by simp [lxs]; constructor <;> rfl) ?_
 try simp only [tq]
 by_cases c1 : j < syms.length
 ·repeat apply wS
  refine wC (t := true) (by simp [c1]) ?_
  simp only [iq]
  refine W_skip ?_
  try simp only [tq]
  repeat apply wS
  refine W_block ?_
  obtain ⟨y, hy⟩ := get_of_lt c1
  have hy1 := List.all_eq_true.1 hok y (List.mem_of_getElem? hy)
  rw [drop_get hy] at he
  unfold symF at hy1
  split at hy1
  rotate_left
  ·cases hy1
  rename_i kind tx ax bs
  have ixs : idxV 4 (.t xs) (j : Int) = some (.t (.snap [.int .i64 (.ofNat kind), .str tx, ax, .str bs])) := by
   rcases hxs with ⟨rfl, rfl⟩ | rfl
   ·simp at hy
   ·simp [idxV, hy]
  obtain ⟨m0, hm1, hm2, hm3⟩ := Rj.get hd
  have iout : ∀ {b : Nat}, b < 256 → idxV 1 (.sl d 0 0 256 1) (b : Int) = some (.ptr d 0 b 1) := fun {b} hb => by
   have : (b : Int) < 256 := by omega
   simp [idxV, this]
  have hkb : ∀ m, Kd ds σ (τ.set d (.cells (bM m) 0 0)) := fun m => hk.trans (Kd.put hdm _)
  have hbd : ∀ o, (τ.set d o)[σ.length]? = some (.cells [.t L] 0 0) := fun o => by rw [List.getElem?_set_ne (hnd d hdm)]; exact hb
  have hself : ∀ o, (τ.set d o)[d]? = some o := fun o => List.getElem?_set_self (lt_of_get hm3)
  have hL := bM_len
  repeat apply wS
  refine wR (by simp [ixs]; constructor <;> rfl) ?_
  try simp only [tq]
  repeat apply wS
  refine W_block ?_
  repeat apply wS
  refine wR (by simp; constructor <;> rfl) ?_
  try simp only [tq]
  by_cases k1 : kind = 1
  ·have k3 : ¬ kind = 3 := by omega
   rw [if_neg k3, if_pos k1] at hy1
   simp only [altM, if_neg k3, if_pos k1] at he
   repeat apply wS
   refine wC (t := true) (by simp [show (kind : Int) = 1 by omega]) ?_
   simp only [iq]
   split at hy1
   rotate_left
   ·cases hy1
   rename_i b tl
   have hb256 : b < 256 := by simpa using hy1
   repeat apply wS
   refine wR (by simp [ixs, iout hb256, hm3, hL, setRange, show b + 1 ≤ 256 by omega]; constructor <;> rfl) ?_
   try simp only [tq]
   refine W_ret ?_
   refine ⟨trivial, .t (.tup []), rfl, rfl, ?_, ?_⟩
   ·rw [he, hm2]
    have := bM_set (m := m0) (m' := bit1 m0 b) (b := b) (c := true) (fun j _ => bit1_test m0 b j)
    rw [this]
    exact Rj.put hd _
   ·exact hk.trans (Kd.put hdm _)
  ·repeat apply wS
   refine wC (t := false) (by simp [show ¬ (kind : Int) = 1 by omega]) ?_
   simp only [iq]
   repeat apply wS
   refine wR (by simp; constructor <;> rfl) ?_
   try simp only [tq]
   by_cases k2 : kind = 2
   ·have k3 : ¬ kind = 3 := by omega
    rw [if_neg k3, if_neg k1, if_pos k2] at hy1
    simp only [altM, if_neg k3, if_neg k1, if_pos k2] at he
    repeat apply wS
    refine wC (t := true) (by simp [show (kind : Int) = 2 by omega]) ?_
    simp only [iq]
    split at hy1
    rotate_left
    ·cases hy1
    rename_i bs2 hbs
    simp only [hbs] at he
    simp only [Bool.and_eq_true, List.all_eq_true, decide_eq_true_eq] at hy1
    have hsb := K.sb _ _ hbs
    repeat apply wS
    refine wR (by simp [ixs, hsb]; constructor <;> rfl) ?_
    try simp only [tq]
    repeat apply wS
    refine wR (by simp; constructor <;> rfl) ?_
    try simp only [tq]
    repeat apply wS
    refine W_block ?_
    refine W_loop (I := fun m st τ' => ∃ k, m = bs2.length - k ∧ k ≤ bs2.length ∧ st.vars = [(0, .t (.agg [L])), (1, .t xs), (2, .t (.list (rowsB nu))), (3, .sl df gf 0 ds.length 1), (4, .sl d 0 0 256 1), (5, .ptr σ.length 0 0 1), (10, .t (I j)), (11, .t (.str bs2)), (12, .t (I k)), (25, .t (.int .i64 kind))] ∧ Rp τ' df gf ds (Mj.set i ((bs2.take k).foldl bit1 m0)) ∧ Kd ds σ τ') ?_ bs2.length _ _ ⟨0, rfl, Nat.zero_le _, rfl, by simpa [set_same hm1] using Rj, hk⟩
    rintro m2 ⟨vars, scr⟩ τ' ⟨k, rfl, hkl, hv, Rk, hkk⟩
    simp only at hv
    subst hv
    repeat apply wS
    refine wR (by simp; constructor <;> rfl) ?_
    try simp only [tq]
    by_cases c2 : k < bs2.length
    ·repeat apply wS
     refine wC (t := true) (by simp [c2]) ?_
     simp only [iq]
     refine W_skip ?_
     try simp only [tq]
     repeat apply wS
     refine W_block ?_
     obtain ⟨b, hbk⟩ := get_of_lt c2
     have hb256 : b < 256 := hy1.1 b (List.mem_of_getElem? hbk)
     have e3 := Rk.rows i d _ hd (List.getElem?_set_self (lt_of_get hm1))
     repeat apply wS
     refine wR (by simp [hbk, iout hb256, e3, hL, setRange, show b + 1 ≤ 256 by omega]; constructor <;> rfl) ?_
     try simp only [tq]
     repeat apply wS
     refine wR (by simp [IntWalk.i64_in ((k : Int) + 1) (by omega)]; constructor <;> rfl) ?_
     try simp only [tq]
     refine ⟨bs2.length - (k + 1), by omega, k + 1, rfl, c2, by simp, ?_, hkk.trans (Kd.put hdm _)⟩
     have e4 : (bs2.take (k + 1)).foldl bit1 m0 = bit1 ((bs2.take k).foldl bit1 m0) b := by simp [List.take_succ, hbk, List.foldl_append]
     have e5 := Rk.put hd (bit1 ((bs2.take k).foldl bit1 m0) b)
     rw [List.set_set] at e5
     rw [e4, bM_set (m := (bs2.take k).foldl bit1 m0) (m' := bit1 ((bs2.take k).foldl bit1 m0) b) (b := b) (c := true) (fun j _ => bit1_test _ b j)]
     exact e5
    ·repeat apply wS
     refine wC (t := false) (by simp [c2]) ?_
     simp only [iq]
     repeat apply wS
     refine W_exit ?_
     try simp only [tq, if_true]
     refine W_ret ?_
     have : bs2.take k = bs2 := List.take_of_length_le (by omega)
     rw [this] at Rk
     exact ⟨trivial, .t (.tup []), by simp [Tryz.f26, mkTup, allT], rfl, by rw [he, hm2]; exact Rk, hkk⟩
   ·repeat apply wS
    refine wC (t := false) (by simp [show ¬ (kind : Int) = 2 by omega]) ?_
    simp only [iq]
    repeat apply wS
    refine wR (by simp; constructor <;> rfl) ?_
    try simp only [tq]
    by_cases k3 : kind = 3
    ·rw [if_pos k3] at hy1
     simp only [altM, if_pos k3] at he
     repeat apply wS
     refine wC (t := true) (by simp [show (kind : Int) = 3 by omega]) ?_
     simp only [iq]
     split at hy1
     rotate_left
     ·cases hy1
     rename_i q hq
     simp only [Bool.and_eq_true, decide_eq_true_eq] at hy1
     have hra := K.ra _ _ hq
     repeat apply wS
     refine wR (by simp [hb, ixs, hra]; constructor <;> rfl) ?_
     try simp only [tq]
     repeat apply wS
     refine wR (by simp; constructor <;> rfl) ?_
     try simp only [tq]
     repeat apply wS
     refine W_block ?_
     obtain ⟨dq, hdq⟩ := get_of_lt (show q < ds.length by omega)
     obtain ⟨mq, hq1, hq2, hq3⟩ := Rj.get hdq
     have hdqm : dq ∈ ds := List.mem_of_getElem? hdq
     have t0 : m0 ||| mq % 2 ^ 0 = m0 := by simp [Nat.mod_one]
     refine W_loop (I := fun m st τ' => ∃ b, m = 256 - b ∧ b ≤ 256 ∧ st.vars = [(0, .t (.agg [L])), (1, .t xs), (2, .t (.list (rowsB nu))), (3, .sl df gf 0 ds.length 1), (4, .sl d 0 0 256 1), (5, .ptr σ.length 0 0 1), (10, .t (I j)), (13, .t (I q)), (14, .t (I b)), (25, .t (.int .i64 kind))] ∧ Rp τ' df gf ds (Mj.set i (m0 ||| mq % 2 ^ b)) ∧ Kd ds σ τ' ∧ τ'[σ.length]? = some (.cells [.t L] 0 0)) ?_ 256 _ _ ⟨0, rfl, Nat.zero_le _, rfl, by rw [t0, set_same hm1]; exact Rj, hk, hb⟩
     rintro m2 ⟨vars, scr⟩ τ' ⟨b, rfl, hbl, hv, Rk, hkk, hbb⟩
     simp only at hv
     subst hv
     repeat apply wS
     refine wR (by simp; constructor <;> rfl) ?_
     try simp only [tq]
     by_cases c2 : b < 256
     ·repeat apply wS
      refine wC (t := true) (by simp [show (b : Int) < 256 by omega]) ?_
      simp only [iq]
      refine W_skip ?_
      try simp only [tq]
      repeat apply wS
      refine W_block ?_
      have e3 := Rk.rows i d _ hd (List.getElem?_set_self (lt_of_get hm1))
      have e4 := bM_get (m0 ||| mq % 2 ^ b) c2
      have tst : ∀ b j, (m0 ||| mq % 2 ^ b).testBit j = (m0.testBit j || (decide (j < b) && mq.testBit j)) := fun b j => by rw [Nat.testBit_or, Nat.testBit_mod_two_pow]
      have tb : (m0 ||| mq % 2 ^ b).testBit b = m0.testBit b := by rw [tst, decide_eq_false (Nat.lt_irrefl b), Bool.false_and, Bool.or_false]
      have nxt : ∀ c, c = (m0.testBit b || mq.testBit b) → Rp (τ'.set d (.cells ((bM (m0 ||| mq % 2 ^ b)).set b (V.t (B c))) 0 0)) df gf ds (Mj.set i (m0 ||| mq % 2 ^ (b + 1))) := fun c hc => by
       have e5 := Rk.put hd (m0 ||| mq % 2 ^ (b + 1))
       rw [List.set_set] at e5
       rw [bM_set (m := m0 ||| mq % 2 ^ b) (m' := m0 ||| mq % 2 ^ (b + 1)) (b := b) (c := c) (fun j _ => ?_)]
       ·exact e5
       ·rw [tst, tst]
        by_cases ej : j = b
        ·subst ej
         rw [if_pos rfl, hc, decide_eq_true (Nat.lt_succ_self j), Bool.true_and]
        ·rw [if_neg ej]
         have : decide (j < b + 1) = decide (j < b) := by
          by_cases h : j < b
          ·rw [decide_eq_true h, decide_eq_true (by omega)]
          ·rw [decide_eq_false h, decide_eq_false (by omega)]
         rw [this]
      have hbs : ∀ o, (τ'.set d o)[σ.length]? = some (.cells [.t L] 0 0) := fun o => by rw [List.getElem?_set_ne (hnd d hdm)]; exact hbb
      cases hbit : m0.testBit b with
      | true =>
       rw [tb, hbit] at e4
       repeat apply wS
       refine wR (by simp [iout c2, e3, hL, e4, setRange, show b + 1 ≤ 256 by omega, c2]; constructor <;> rfl) ?_
       try simp only [tq]
       repeat apply wS
       refine wR (by simp [IntWalk.i64_in ((b : Int) + 1) (by omega)]; constructor <;> rfl) ?_
       try simp only [tq]
       exact ⟨256 - (b + 1), by omega, b + 1, rfl, c2, by simp, nxt true (by rw [hbit]; rfl), hkk.trans (Kd.put hdm _), hbs _⟩
      | false =>
       rw [tb, hbit] at e4
       obtain ⟨w, hw1, hw2⟩ := Rk.first
       have f1 : (ds.map fun d => V.sl d 0 0 256 1)[q]? = some (.sl dq 0 0 256 1) := by simp [hdq]
       have f2 : idxV 1 (.sl df gf 0 ds.length 1) (q : Int) = some (.ptr df gf q 1) := by
        have : (q : Int) < ds.length := by omega
        simp [idxV, this]
       have f3 : ∀ {b : Nat}, b < 256 → idxV 1 (.sl dq 0 0 256 1) (b : Int) = some (.ptr dq 0 b 1) := fun {b} hb => by
        have : (b : Int) < 256 := by omega
        simp [idxV, this]
       obtain ⟨mr, g1, g2⟩ : ∃ mr, τ'[dq]? = some (.cells (bM mr) 0 0) ∧ mr.testBit b = mq.testBit b := by
        by_cases hiq : i = q
        ·subst hiq
         rw [hd] at hdq
         cases hdq
         rw [hm1] at hq1
         cases hq1
         exact ⟨_, e3, tb⟩
        ·exact ⟨mq, Rk.rows q dq mq hdq (by rw [List.getElem?_set_ne hiq]; exact hq1), rfl⟩
       have g3 := bM_get mr c2
       rw [g2] at g3
       repeat apply wS
       refine wR (by simp [iout c2, e3, hL, e4, setRange, show b + 1 ≤ 256 by omega, c2, f2, hw2, f1, f3 c2, g1, g3, hw1, hdq, show q + 1 ≤ ds.length by omega]; constructor <;> rfl) ?_
       try simp only [tq]
       repeat apply wS
       refine wR (by simp [IntWalk.i64_in ((b : Int) + 1) (by omega)]; constructor <;> rfl) ?_
       try simp only [tq]
       exact ⟨256 - (b + 1), by omega, b + 1, rfl, c2, by simp, nxt (mq.testBit b) (by rw [hbit]; rfl), hkk.trans (Kd.put hdm _), hbs _⟩
     ·repeat apply wS
      refine wC (t := false) (by simp [show ¬ (b : Int) < 256 by omega]) ?_
      simp only [iq]
      repeat apply wS
      refine W_exit ?_
      try simp only [tq, if_true]
      have hb256 : b = 256 := by omega
      subst hb256
      obtain ⟨nq, hnq⟩ := get_of_lt hy1.2
      have fnu : idxV 1 (.t (.list (rowsB nu))) (q : Int) = some (.t (.snap [B nq])) := by simp [idxV, rowsB, hnq]
      have hgd : nu.getD q false = nq := by rw [List.getD_eq_getElem?_getD, hnq]; rfl
      simp only [hq, hgd, hm2, hq2] at he
      repeat apply wS
      refine wR (by simp [fnu]; constructor <;> rfl) ?_
      try simp only [tq]
      cases nq with
      | true =>
       repeat apply wS
       refine wC (t := false) (by simp) ?_
       simp only [iq]
       refine W_skip ?_
       try simp only [tq]
       repeat apply wS
       refine wR (by simp [IntWalk.i64_in ((j : Int) + 1) (by omega)]; constructor <;> rfl) ?_
       try simp only [tq]
       exact ⟨syms.length - (j + 1), by omega, j + 1, _, rfl, c1, by rw [he, if_pos rfl], by simp, Rk, hkk, hbb⟩
      | false =>
       repeat apply wS
       refine wC (t := true) (by simp) ?_
       simp only [iq]
       refine W_ret ?_
       exact ⟨trivial, .t (.tup []), by simp [Tryz.f26, mkTup, allT], rfl, by rw [he, if_neg (by decide)]; exact Rk, hkk⟩
    ·rw [if_neg k3, if_neg k1, if_neg k2] at hy1
     simp only [altM, if_neg k3, if_neg k1, if_neg k2] at he
     repeat apply wS
     refine wC (t := false) (by simp [show ¬ (kind : Int) = 3 by omega]) ?_
     simp only [iq]
     refine W_skip ?_
     try simp only [tq]
     repeat apply wS
     refine wR (by simp [IntWalk.i64_in ((j : Int) + 1) (by omega)]; constructor <;> rfl) ?_
     try simp only [tq]
     exact ⟨syms.length - (j + 1), by omega, j + 1, Mj, rfl, c1, he, by simp, Rj, hk, hb⟩
 ·repeat apply wS
  refine wC (t := false) (by simp [c1]) ?_
  simp only [iq]
  repeat apply wS
  refine W_exit ?_
  try simp only [tq, if_true]
  have hd0 : syms.drop j = [] := List.drop_eq_nil_of_le (by omega)
  rw [hd0, altM_nil] at he
  exact ⟨trivial, .t (.tup []), by simp [Tryz.f26, mkTup, allT], rfl, by rw [he]; exact Rj, hk⟩
end X
