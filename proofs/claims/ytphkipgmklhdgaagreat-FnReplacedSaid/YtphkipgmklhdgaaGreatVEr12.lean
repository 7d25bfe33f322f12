/- A part of the proof. No statement of the claim is in it. -/
import Derived.Test.YtphkipgmklhdgaaGreatVEr11
open Go Go.V Go.Proofs
namespace X
set_option maxRecDepth 100000
set_option maxHeartbeats 4000000
set_option linter.unusedSimpArgs false
set_option linter.unusedVariables false
attribute [-simp] lenV idxV getElem?_pos
/-! ### Args of a call -/
def argsL (MK : T → Option (List Bool)) (env : Env) (here : Nat) : List T → List Nat → Option (Option (List Nat))
 | [], acc => some (some acc)
 | x :: r, acc => match evalS MK x env here with
  | none => none
  | some none => some none
  | some (some (.negSucc _)) => some none
  | some (some (.ofNat n)) => if n ≤ 99 then argsL MK env here r (acc ++ [n]) else some none
def OkArgs (o : Option (List Nat)) (y : T) (ok : Bool) : Prop := match o with
 | some l => ok = true ∧ y = .list (rows1 l)
 | none => ok = false
theorem args_lv {MK : T → Option (List Bool)} (hM : MkOk MK) {ax : T} {l : List T} (hx : Syms ax l) (hl : l.length ≤ 1000) {env : Env} {here : Nat} {o : Option (List Nat)} (h : argsL MK env here l [] = some o) (hsz : ∀ x ∈ l, ∃ c, x = .agg [c]) :
  ∃ v σ', LV S 82 [.t ax, .t (envT env), .t (I here)] [] = some (v, σ') ∧ ∃ y ok, frz 40 σ' v = some (.tup [y, B ok]) ∧ OkArgs o y ok := by
 refine LV_bodyX (A := A82) rfl Tryz.func82 rfl ?_
 repeat apply W_seq
 refine W_region (by simp; first | exact ⟨rfl, rfl⟩ | exact rfl) ?_
 try simp only [thenQ, blockQ, Ann.kill, List.find?_nil]
 repeat apply W_seq
 refine W_region (by simp [sliceCells, repZero, chunk, fillV]; first | exact ⟨rfl, rfl⟩ | exact rfl) ?_
 try simp only [thenQ, blockQ, Ann.kill, List.find?_nil]
 repeat apply W_seq
 refine W_region (by simp; first | exact ⟨rfl, rfl⟩ | exact rfl) ?_
 try simp only [thenQ, blockQ, Ann.kill, List.find?_nil]
 repeat apply W_seq
 refine W_block ?_
 refine W_loop (I := fun m st τ => ∃ k acc g w, m = l.length - k ∧ k ≤ l.length ∧ acc.length ≤ k ∧ argsL MK env here (l.drop k) acc = some o ∧ w ≤ g ∧ st.vars = [(0, .t ax), (1, .t (envT env)), (2, .t (I here)), (6, .t .nils), (7, .t (B false)), (8, .sl 0 g 0 acc.length 1), (9, .t (I k))] ∧ τ = [.cells (ints acc) g w]) ?_ l.length _ _ ⟨0, [], 0, 0, rfl, Nat.zero_le _, by simp, h, by omega, by simp, rfl⟩
 clear h
 rintro m ⟨vars, scr⟩ τ ⟨k, acc, g, w, rfl, hk, hak, h, hw, hvs, rfl⟩
 simp only at hvs
 subst hvs
 have fin : ∀ (b : Bool), frz 40 [V.Obj.cells (ints acc) g w] (.tup [.sl 0 g 0 acc.length 1, .t (B b)]) = some (.tup [.list (rows1 acc), B b]) := fun b => by
  have := frz_sl1 (σ := [.cells (ints acc) g w]) (d := 0) (g := g) (w := w) (l := acc) 37 rfl hw
  rw [frz, frzs, this]
  rfl
 repeat apply W_seq
 refine W_region (by simp [hx.len]; first | exact ⟨rfl, rfl⟩ | exact rfl) ?_
 try simp only [thenQ, blockQ, Ann.kill, List.find?_nil]
 by_cases c1 : k < l.length
 ·repeat apply W_seq
  refine W_cond (t := true) (by simp [c1]) ?_
  simp only [if_true, if_false, Bool.false_eq_true]
  refine W_skip ?_
  try simp only [thenQ, blockQ, Ann.kill, List.find?_nil]
  repeat apply W_seq
  refine W_block ?_
  obtain ⟨x, hxk⟩ := get_of_lt c1
  obtain ⟨c, rfl⟩ := hsz x (List.mem_of_getElem? hxk)
  rw [drop_get hxk] at h
  simp only [argsL] at h
  have hix := hx.idxk hxk (n := 1) rfl
  split at h
  ·cases h
  ·rename_i hev
   cases h
   have he := eval_ld hM hev
   repeat apply W_seq
   refine W_region (by simp [hix, he, getT]; first | exact ⟨rfl, rfl⟩ | exact rfl) ?_
   try simp only [thenQ, blockQ, Ann.kill, List.find?_nil]
   repeat apply W_seq
   refine W_region (by simp; first | exact ⟨rfl, rfl⟩ | exact rfl) ?_
   try simp only [thenQ, blockQ, Ann.kill, List.find?_nil]
   repeat apply W_seq
   refine W_cond (t := true) (by simp) ?_
   simp only [if_true, if_false, Bool.false_eq_true]
   repeat apply W_seq
   refine W_region (by simp; first | exact ⟨rfl, rfl⟩ | exact rfl) ?_
   try simp only [thenQ, blockQ, Ann.kill, List.find?_nil]
   refine W_ret ?_
   try simp only [thenQ, blockQ]
   exact ⟨trivial, .tup [.sl 0 g 0 acc.length 1, .t (B false)], (by simp [Tryz.f82]), _, _, fin false, rfl⟩
  ·rename_i n hev
   cases h
   have he := eval_ld hM hev
   have hin := in_ld (Int.negSucc n) 0 99
   have ei : inF (Int.negSucc n) 0 99 = false := by
    simp only [inF, Bool.and_eq_false_iff, decide_eq_false_iff_not]
    omega
   rw [ei] at hin
   repeat apply W_seq
   refine W_region (by simp [hix, he, getT]; first | exact ⟨rfl, rfl⟩ | exact rfl) ?_
   try simp only [thenQ, blockQ, Ann.kill, List.find?_nil]
   repeat apply W_seq
   refine W_region (by simp [hin]; first | exact ⟨rfl, rfl⟩ | exact rfl) ?_
   try simp only [thenQ, blockQ, Ann.kill, List.find?_nil]
   repeat apply W_seq
   refine W_cond (t := true) (by simp) ?_
   simp only [if_true, if_false, Bool.false_eq_true]
   repeat apply W_seq
   refine W_region (by simp; first | exact ⟨rfl, rfl⟩ | exact rfl) ?_
   try simp only [thenQ, blockQ, Ann.kill, List.find?_nil]
   refine W_ret ?_
   try simp only [thenQ, blockQ]
   exact ⟨trivial, .tup [.sl 0 g 0 acc.length 1, .t (B false)], (by simp [Tryz.f82]), _, _, fin false, rfl⟩
  ·rename_i n hev
   have he := eval_ld hM hev
   simp only [Int.ofNat_eq_natCast] at he
   have hin := in_ld (n : Int) 0 99
   by_cases c2 : n ≤ 99
   ·rw [if_pos c2] at h
    have ei : inF (n : Int) 0 99 = true := by simp [inF]; omega
    rw [ei] at hin
    have hbn : (acc.length + 1) * 8 ≤ 140737488355328 := by omega
    repeat apply W_seq
    refine W_region (by simp [hix, he, getT]; first | exact ⟨rfl, rfl⟩ | exact rfl) ?_
    try simp only [thenQ, blockQ, Ann.kill, List.find?_nil]
    repeat apply W_seq
    refine W_region (by simp [hin]; first | exact ⟨rfl, rfl⟩ | exact rfl) ?_
    try simp only [thenQ, blockQ, Ann.kill, List.find?_nil]
    repeat apply W_seq
    refine W_cond (t := false) (by simp) ?_
    simp only [if_true, if_false, Bool.false_eq_true]
    refine W_skip ?_
    try simp only [thenQ, blockQ, Ann.kill, List.find?_nil]
    repeat apply W_seq
    refine W_region (by simp [sliceCells, repZero, chunk, fillV, appendV, srcCells, rowCells, hbn, hw]; first | exact ⟨rfl, rfl⟩ | exact rfl) ?_
    try simp only [thenQ, blockQ, Ann.kill, List.find?_nil]
    repeat apply W_seq
    refine W_region (by simp [IntWalk.i64_in ((k : Int) + 1) (by omega)]; first | exact ⟨rfl, rfl⟩ | exact rfl) ?_
    try simp only [thenQ, blockQ, Ann.kill, List.find?_nil]
    exact ⟨l.length - (k + 1), by omega, k + 1, acc ++ [n], g + 1, w, rfl, c1, by simp; omega, h, by omega, by simp [envT], by rw [← ints_app]⟩
   ·rw [if_neg c2] at h
    cases h
    have ei : inF (n : Int) 0 99 = false := by
     simp only [inF, Bool.and_eq_false_iff, decide_eq_false_iff_not]
     omega
    rw [ei] at hin
    repeat apply W_seq
    refine W_region (by simp [hix, he, getT]; first | exact ⟨rfl, rfl⟩ | exact rfl) ?_
    try simp only [thenQ, blockQ, Ann.kill, List.find?_nil]
    repeat apply W_seq
    refine W_region (by simp [hin]; first | exact ⟨rfl, rfl⟩ | exact rfl) ?_
    try simp only [thenQ, blockQ, Ann.kill, List.find?_nil]
    repeat apply W_seq
    refine W_cond (t := true) (by simp) ?_
    simp only [if_true, if_false, Bool.false_eq_true]
    repeat apply W_seq
    refine W_region (by simp; first | exact ⟨rfl, rfl⟩ | exact rfl) ?_
    try simp only [thenQ, blockQ, Ann.kill, List.find?_nil]
    refine W_ret ?_
    try simp only [thenQ, blockQ]
    exact ⟨trivial, .tup [.sl 0 g 0 acc.length 1, .t (B false)], (by simp [Tryz.f82]), _, _, fin false, rfl⟩
 ·repeat apply W_seq
  refine W_cond (t := false) (by simp [c1]) ?_
  simp only [if_true, if_false, Bool.false_eq_true]
  repeat apply W_seq
  refine W_exit ?_
  try simp only [thenQ, blockQ, if_true, Ann.kill, List.find?_nil]
  have : k = l.length := by omega
  subst this
  rw [List.drop_length] at h
  simp only [argsL, Option.some.injEq] at h
  subst h
  repeat apply W_seq
  refine W_region (by simp; first | exact ⟨rfl, rfl⟩ | exact rfl) ?_
  try simp only [thenQ, blockQ, Ann.kill, List.find?_nil]
  refine W_ret ?_
  try simp only [thenQ, blockQ]
  exact ⟨trivial, .tup [.sl 0 g 0 acc.length 1, .t (B true)], (by simp [Tryz.f82]), _, _, fin true, rfl, rfl⟩
def szOk : List T → Bool
 | [] => true
 | .agg [_] :: r => szOk r
 | _ :: _ => false
theorem szOk_eq : ∀ {l : List T}, szOk l = true → ∀ x ∈ l, ∃ c, x = .agg [c]
 | [], h, x, hx => by cases hx
 | y :: r, h, x, hx => by
  unfold szOk at h
  split at h
  ·rename_i e; cases e
  ·rename_i c r' e
   simp only [List.cons.injEq] at e
   obtain ⟨rfl, rfl⟩ := e
   rcases List.mem_cons.1 hx with rfl | hx
   ·exact ⟨c, rfl⟩
   ·exact szOk_eq h x hx
  ·cases h
def argsS (MK : T → Option (List Bool)) (ax : T) (env : Env) (here : Nat) : Option (Option (List Nat)) := match symsL ax with
 | some l => if l.length ≤ 1000 ∧ szOk l = true then argsL MK env here l [] else none
 | none => none
theorem args_ld {MK : T → Option (List Bool)} (hM : MkOk MK) {ax : T} {env : Env} {here : Nat} {o : Option (List Nat)} (h : argsS MK ax env here = some o) :
  ∃ y ok, (∀ σ, LD S 82 [.t ax, .t (envT env), .t (I here)] σ = some (.t (.tup [y, B ok]), σ)) ∧ OkArgs o y ok := by
 unfold argsS at h
 split at h
 rotate_left
 ·cases h
 rename_i l hl
 split at h
 rotate_left
 ·cases h
 rename_i hb
 obtain ⟨v, σ', h1, y, ok, h2, h3⟩ := args_lv hM (symsL_eq hl) hb.1 h (szOk_eq hb.2)
 exact ⟨y, ok, fun σ => LD_pure (A := A82) (args := [.t ax, .t (envT env), .t (I here)]) rfl rfl rfl h1 h2 σ, h3⟩
/-! ### Sets -/
def setR (rows : List Nat) (b : Nat) : Nat → Nat → Bool
 | 0, _ => false
 | f + 1, i => match rows[i]?, rows[i + 1]? with
  | some x, some y => if x ≤ b ∧ b ≤ y then true else setR rows b f (i + 2)
  | _, _ => false
/-- sets that are right, and their rows -/
def SetsOk (SR : List Nat → Option (List Nat)) : Prop := ∀ s rows, SR s = some rows → rows.length ≤ 1000 ∧ ∀ σ, LD S 72 [.t (.str s)] σ = some (.t (.tup [.str rows, B true]), σ)
theorem inSet_lv {SR : List Nat → Option (List Nat)} (hS : SetsOk SR) {s rows : List Nat} (h : SR s = some rows) (b : Nat) : ∃ σ', LV S 91 [.t (.str s), .t (.int .u8 b)] [] = some (.t (B (setR rows b rows.length 0)), σ') := by
 obtain ⟨hl, hr⟩ := hS _ _ h
 refine LV_bodyE (A := A91) rfl Tryz.func91 rfl ?_
 repeat apply W_seq
 refine W_region (by simp; first | exact ⟨rfl, rfl⟩ | exact rfl) ?_
 try simp only [thenQ, blockQ, Ann.kill, List.find?_nil]
 repeat apply W_seq
 refine W_region (by simp [hr]; first | exact ⟨rfl, rfl⟩ | exact rfl) ?_
 try simp only [thenQ, blockQ, Ann.kill, List.find?_nil]
 repeat apply W_seq
 refine W_region (by simp; first | exact ⟨rfl, rfl⟩ | exact rfl) ?_
 try simp only [thenQ, blockQ, Ann.kill, List.find?_nil]
 repeat apply W_seq
 refine W_block ?_
 refine W_loop (I := fun m st τ => ∃ i, i ≤ rows.length + 1 ∧ rows.length ≤ i + 2 * m ∧ setR rows b m i = setR rows b rows.length 0 ∧ st.vars = [(0, .t (.str s)), (1, .t (.int .u8 b)), (4, .t (B false)), (5, .t (.str rows)), (6, .t (B true)), (7, .t (I i))] ∧ τ = []) ?_ rows.length _ _ ⟨0, by omega, by omega, rfl, by simp, rfl⟩
 rintro m ⟨vars, scr⟩ τ ⟨i, hi, hm, he, hvs, rfl⟩
 simp only at hvs
 subst hvs
 by_cases c1 : i + 1 < rows.length
 ·cases m with
  | zero => omega
  | succ m =>
  obtain ⟨x, hx⟩ := get_of_lt (show i < rows.length by omega)
  obtain ⟨y, hy⟩ := get_of_lt c1
  simp only [setR, hx, hy] at he
  have c1' : (i : Int) + 1 < rows.length := by omega
  repeat apply W_seq
  refine W_region (by simp [IntWalk.i64_in ((i : Int) + 1) (by omega), c1']; first | exact ⟨rfl, rfl⟩ | exact rfl) ?_
  try simp only [thenQ, blockQ, Ann.kill, List.find?_nil]
  repeat apply W_seq
  refine W_cond (t := true) (by simp) ?_
  simp only [if_true, if_false, Bool.false_eq_true]
  refine W_skip ?_
  try simp only [thenQ, blockQ, Ann.kill, List.find?_nil]
  repeat apply W_seq
  refine W_block ?_
  have hi0 : (i : Int) < rows.length := by omega
  have e2 : ((i : Int) + 1).toNat = i + 1 := by omega
  have e3 : (0 : Int) ≤ (i : Int) + 1 := by omega
  by_cases c2 : x ≤ b
  ·by_cases c3 : b ≤ y
   ·rw [if_pos ⟨c2, c3⟩] at he
    repeat apply W_seq
    refine W_region (by simp [hx, hy, c2, c3, hi0, c1', e2, e3, IntWalk.i64_in ((i : Int) + 1) (by omega)]; first | exact ⟨rfl, rfl⟩ | exact rfl) ?_
    try simp only [thenQ, blockQ, Ann.kill, List.find?_nil]
    repeat apply W_seq
    refine W_cond (t := true) (by simp) ?_
    simp only [if_true, if_false, Bool.false_eq_true]
    repeat apply W_seq
    refine W_region (by simp; first | exact ⟨rfl, rfl⟩ | exact rfl) ?_
    try simp only [thenQ, blockQ, Ann.kill, List.find?_nil]
    refine W_ret ?_
    try simp only [thenQ, blockQ]
    simp [Tryz.f91, he]
   ·rw [if_neg (fun e => c3 e.2)] at he
    repeat apply W_seq
    refine W_region (by simp [hx, hy, c2, c3, hi0, c1', e2, e3, IntWalk.i64_in ((i : Int) + 1) (by omega)]; first | exact ⟨rfl, rfl⟩ | exact rfl) ?_
    try simp only [thenQ, blockQ, Ann.kill, List.find?_nil]
    repeat apply W_seq
    refine W_cond (t := false) (by simp) ?_
    simp only [if_true, if_false, Bool.false_eq_true]
    refine W_skip ?_
    try simp only [thenQ, blockQ, Ann.kill, List.find?_nil]
    repeat apply W_seq
    refine W_region (by simp [IntWalk.i64_in ((i : Int) + 2) (by omega)]; first | exact ⟨rfl, rfl⟩ | exact rfl) ?_
    try simp only [thenQ, blockQ, Ann.kill, List.find?_nil]
    exact ⟨m, Nat.lt_succ_self _, i + 2, by omega, by omega, he, by simp, by simp⟩
  ·rw [if_neg (fun e => c2 e.1)] at he
   repeat apply W_seq
   refine W_region (by simp [hx, hy, c2, hi0, c1', e2, e3]; first | exact ⟨rfl, rfl⟩ | exact rfl) ?_
   try simp only [thenQ, blockQ, Ann.kill, List.find?_nil]
   repeat apply W_seq
   refine W_cond (t := false) (by simp) ?_
   simp only [if_true, if_false, Bool.false_eq_true]
   refine W_skip ?_
   try simp only [thenQ, blockQ, Ann.kill, List.find?_nil]
   repeat apply W_seq
   refine W_region (by simp [IntWalk.i64_in ((i : Int) + 2) (by omega)]; first | exact ⟨rfl, rfl⟩ | exact rfl) ?_
   try simp only [thenQ, blockQ, Ann.kill, List.find?_nil]
   exact ⟨m, Nat.lt_succ_self _, i + 2, by omega, by omega, he, by simp, by simp⟩
 ·have c1' : ¬ (i : Int) + 1 < rows.length := by omega
  have e0 : setR rows b m i = false := by
   cases m with
   | zero => rfl
   | succ m =>
    simp only [setR]
    rw [List.getElem?_eq_none (show rows.length ≤ i + 1 by omega)]
    cases rows[i]? <;> rfl
  rw [e0] at he
  repeat apply W_seq
  refine W_region (by simp [IntWalk.i64_in ((i : Int) + 1) (by omega), c1']; first | exact ⟨rfl, rfl⟩ | exact rfl) ?_
  try simp only [thenQ, blockQ, Ann.kill, List.find?_nil]
  repeat apply W_seq
  refine W_cond (t := false) (by simp) ?_
  simp only [if_true, if_false, Bool.false_eq_true]
  repeat apply W_seq
  refine W_exit ?_
  try simp only [thenQ, blockQ, if_true, Ann.kill, List.find?_nil]
  repeat apply W_seq
  refine W_region (by simp; first | exact ⟨rfl, rfl⟩ | exact rfl) ?_
  try simp only [thenQ, blockQ, Ann.kill, List.find?_nil]
  refine W_ret ?_
  try simp only [thenQ, blockQ]
  simp [Tryz.f91, he]
theorem inSet_ld {SR : List Nat → Option (List Nat)} (hS : SetsOk SR) {s rows : List Nat} (h : SR s = some rows) (b : Nat) (σ : Store) : LD S 91 [.t (.str s), .t (.int .u8 b)] σ = some (.t (B (setR rows b rows.length 0)), σ) := by
 obtain ⟨σ', h1⟩ := inSet_lv hS h b
 exact LD_pure (A := A91) (args := [.t (.str s), .t (.int .u8 b)]) (v := .t (B (setR rows b rows.length 0))) rfl rfl rfl h1 rfl σ
end X
