/- A part of the proof. No statement of the claim is in it. -/
import Derived.Test.YtphkipgmklhdgaaGreatVEr15
open Go Go.V Go.Proofs
namespace X
set_option maxRecDepth 100000
set_option maxHeartbeats 4000000
set_option linter.unusedSimpArgs false
set_option linter.unusedVariables false
/-! ### All of it together -/
def mkK (SR : List Nat → Option (List Nat)) (MK : T → Option (List Bool)) (VN : List Nat → Bool) (RA : List Nat → Option Nat) (text : List Nat) : Kn :=
  ⟨plainS SR MK text, argsS MK, bindS VN, RA, env0S VN⟩
def RaOk (RA : List Nat → Option Nat) (rules : T) : Prop := ∀ nm i, RA nm = some i → ∀ σ, LD S 50 [.t (.agg [rules]), .t (.str nm)] σ = some (.t (I (i : Nat)), σ)
theorem mkK_ok {SR : List Nat → Option (List Nat)} (hS : SetsOk SR) {MK : T → Option (List Bool)} (hM : MkOk MK) {VN : List Nat → Bool} (hV : NmOk VN) {RA : List Nat → Option Nat} {rules : T} (hR : RaOk RA rules) (text : List Nat) : KnOk (mkK SR MK VN RA text) rules text :=
  { plain := fun x env pos r h => by
      obtain ⟨n, ok, h1, h2⟩ := plain_ld hS hM h
      exact ⟨n, ok, h1, by cases r <;> exact h2⟩
    args := fun ax env pos r h => by
      obtain ⟨y, ok, h1, h2⟩ := args_ld hM h
      exact ⟨y, ok, h1, by cases r <;> exact h2⟩
    bind := fun env bs t env' h => bind_ld hV h
    ruleAt := hR
    env0 := fun ps al env h => env0_ld hV h }

/-! ### What is right -/
def kidsOk (n op : Nat) (kids : List Nat) : Bool :=
  if op = 1 then true else if op = 2 then true else if op = 3 then true
  else if op = 11 then match kids[0]? with
    | some k => decide (k < n)
    | none => false
  else match kids[0]?, kids[1]? with
    | some k, some k2 => decide (k < n) && decide (k2 < n)
    | _, _ => false
def nodeOk (n : Nat) (x : T) (m : Bool) : Bool := match nodeP x with
  | none => false
  | some (op, num, nm, kz) => if m then match kidsL kz with
      | some kids => kidsOk n op kids
      | none => false
    else true
def nodesOk (n : Nat) : List T → List Bool → Bool
  | [], _ => true
  | x :: r, m :: ms => nodeOk n x m && nodesOk n r ms
  | _ :: _, [] => false
def exOk (MK : T → Option (List Bool)) (e : T) : Bool := match e with
  | .agg [.list nodes] => match MK (.agg [.list nodes]) with
    | some ms => decide (ms.length = nodes.length) && (decide (0 < nodes.length) && (decide (nodes.length ≤ 100) && nodesOk nodes.length nodes ms))
    | none => false
  | _ => false
def symOk (SR : List Nat → Option (List Nat)) (MK : T → Option (List Bool)) (VN : List Nat → Bool) (RA : List Nat → Option Nat) (n : Nat) (y : T) : Bool := match y with
  | .agg [.int .i64 (.ofNat kind), .str tx, ax, .str bs] =>
    if kind = 3 then (match symsL ax with
        | some l => decide (l.length ≤ 1000) && (szOk l && l.all (exOk MK))
        | none => false) && ((match RA tx with
        | some ru => decide (ru < n)
        | none => false) && (decide (bs = []) || VN bs))
    else if kind = 1 then decide (tx.length ≤ 1000000)
    else if kind = 2 then (SR tx).isSome
    else match symsL ax with
      | some (.agg [c] :: _) => exOk MK (.agg [c])
      | _ => false
  | _ => false
def altOk (SR : List Nat → Option (List Nat)) (MK : T → Option (List Bool)) (VN : List Nat → Bool) (RA : List Nat → Option Nat) (n : Nat) (x : T) : Bool := match x with
  | .agg [xs] => match symsL xs with
    | some syms => decide (syms.length ≤ 9) && syms.all (symOk SR MK VN RA n)
    | none => false
  | _ => false
def ruleOk (SR : List Nat → Option (List Nat)) (MK : T → Option (List Bool)) (VN : List Nat → Bool) (RA : List Nat → Option Nat) (n : Nat) (x : T) : Bool := match x with
  | .agg [.str _, ps, az] => (match strsL ps with
      | some pl => decide (pl.length ≤ 1000) && pl.all VN
      | none => false) && (match symsL az with
      | some al => decide (al.length ≤ 1000) && al.all (altOk SR MK VN RA n)
      | none => false)
  | _ => false
/-- The rules of a grammar are right, and all that they name is known. -/
def grOk (SR : List Nat → Option (List Nat)) (MK : T → Option (List Bool)) (VN : List Nat → Bool) (RA : List Nat → Option Nat) (rules : List T) : Bool := rules.all (ruleOk SR MK VN RA rules.length)

/-! ### All of it is reckoned -/
def GE (VN : List Nat → Bool) (e : Env) : Prop := allVN VN e = true ∧ e.length ≤ 1000
theorem GE.set {VN : List Nat → Bool} {e : Env} (h : GE VN e) {nm : List Nat} (hn : VN nm = true) (n : Int) : GE VN (setN e nm n) := by
  refine ⟨?_, setN_len e nm n h.2⟩
  unfold setN
  split
  · exact allVN_out h.1 hn n
  · exact h.1
theorem nodeV_tot {n op : Nat} {kids : List Nat} (h : kidsOk n op kids = true) {nums : List Int} (hl : nums.length = n) (env : Env) (here : Nat) (num : Int) (nm : List Nat) : ∃ v, nodeV nums env here op num nm kids = some v := by
  have get : ∀ k, k < n → ∃ a, nums[k]? = some a := fun k hk => get_of_lt (by omega)
  unfold kidsOk at h
  unfold nodeV
  by_cases h1 : op = 1
  · rw [if_pos h1]; exact ⟨_, rfl⟩
  rw [if_neg h1] at h ⊢
  by_cases h2 : op = 2
  · rw [if_pos h2]; exact ⟨_, rfl⟩
  rw [if_neg h2] at h ⊢
  by_cases h3 : op = 3
  · rw [if_pos h3]; exact ⟨_, rfl⟩
  rw [if_neg h3] at h ⊢
  by_cases h4 : op = 11
  · rw [if_pos h4] at h ⊢
    split at h
    · rename_i k hk
      obtain ⟨a, ha⟩ := get k (by simpa using h)
      rw [hk]
      simp only [ha]
      exact ⟨_, rfl⟩
    · cases h
  · rw [if_neg h4] at h ⊢
    split at h
    · rename_i k k2 hk hk2
      simp only [Bool.and_eq_true, decide_eq_true_eq] at h
      obtain ⟨a, ha⟩ := get k h.1
      obtain ⟨b, hb⟩ := get k2 h.2
      rw [hk, hk2]
      simp only [ha, hb]
      exact ⟨_, rfl⟩
    · cases h
theorem evalL_tot {n : Nat} (env : Env) (here : Nat) : ∀ (r : List T) (ms : List Bool) (i : Nat) (nums : List Int), nodesOk n r ms = true → nums.length = n → ∃ o, evalL env here r ms i nums = some o ∧ ∀ l, o = some l → l.length = n
  | [], ms, i, nums, _, hl => ⟨_, rfl, fun l h => by cases h; exact hl⟩
  | x :: r, [], i, nums, h, hl => by simp [nodesOk] at h
  | x :: r, m :: ms, i, nums, h, hl => by
    simp only [nodesOk, Bool.and_eq_true] at h
    obtain ⟨h1, h2⟩ := h
    unfold nodeOk at h1
    simp only [evalL]
    split at h1
    · cases h1
    rename_i op num nm kz hnp
    simp only [hnp]
    cases m with
    | false =>
      simp only [Bool.false_eq_true, if_false]
      exact evalL_tot env here r ms (i + 1) nums h2 hl
    | true =>
      simp only [if_true] at h1 ⊢
      split at h1
      rotate_left
      · cases h1
      rename_i kids hk
      obtain ⟨v, hv⟩ := nodeV_tot h1 hl env here num nm
      have e : nodeS nums env here op num nm kz = some v := by simp only [nodeS, hk, hv]
      rw [e]
      cases v with
      | none => exact ⟨_, rfl, fun l h => by cases h⟩
      | some k =>
        simp only
        split
        · exact evalL_tot env here r ms (i + 1) _ h2 (by simpa using hl)
        · exact ⟨_, rfl, fun l h => by cases h⟩
theorem evalS_tot {MK : T → Option (List Bool)} {e : T} (h : exOk MK e = true) {VN : List Nat → Bool} {env : Env} (he : GE VN env) (here : Nat) : ∃ o, evalS MK e env here = some o := by
  unfold exOk at h
  split at h
  rotate_left
  · cases h
  rename_i nodes
  split at h
  rotate_left
  · cases h
  rename_i ms hms
  simp only [Bool.and_eq_true, decide_eq_true_eq] at h
  obtain ⟨h1, h2, h3, h4⟩ := h
  obtain ⟨o, ho, hol⟩ := evalL_tot env here nodes ms 0 (List.replicate nodes.length 0) h4 (by simp)
  unfold evalS
  simp only [hms]
  rw [if_pos ⟨h1, h2, h3, he.2⟩, ho]
  cases o with
  | none => exact ⟨_, rfl⟩
  | some nums =>
    obtain ⟨a, ha⟩ := get_of_lt (show nodes.length - 1 < nums.length by rw [hol nums rfl]; omega)
    simp only [ha]
    exact ⟨_, rfl⟩
theorem argsL_tot {MK : T → Option (List Bool)} {VN : List Nat → Bool} {env : Env} (he : GE VN env) (here : Nat) : ∀ (l : List T) (acc : List Nat), l.all (exOk MK) = true → ∃ o, argsL MK env here l acc = some o ∧ ∀ r, o = some r → r.length = acc.length + l.length
  | [], acc, h => ⟨_, rfl, fun r h => by cases h; rfl⟩
  | x :: l, acc, h => by
    simp only [List.all_cons, Bool.and_eq_true] at h
    obtain ⟨o, ho⟩ := evalS_tot h.1 he here
    simp only [argsL, ho]
    cases o with
    | none => exact ⟨_, rfl, fun r h => by cases h⟩
    | some n => cases n with
      | negSucc n => exact ⟨_, rfl, fun r h => by cases h⟩
      | ofNat n =>
        simp only
        split
        · obtain ⟨o, h1, h2⟩ := argsL_tot he here l (acc ++ [n]) h.2
          exact ⟨o, h1, fun r hr => by rw [h2 r hr]; simp; omega⟩
        · exact ⟨_, rfl, fun r h => by cases h⟩
theorem env0L_tot {VN : List Nat → Bool} : ∀ (l : List (List Nat)) (al : List Nat) (e : Env), l.all VN = true → GE VN e → ∃ env, env0L VN l al e = some env ∧ GE VN env
  | [], al, e, _, he => by cases al <;> exact ⟨e, rfl, he⟩
  | p :: ps, [], e, _, he => ⟨e, rfl, he⟩
  | p :: ps, a :: as', e, h, he => by
    simp only [List.all_cons, Bool.and_eq_true] at h
    simp only [env0L]
    rw [if_pos ⟨h.1, he.1, he.2⟩]
    exact env0L_tot ps as' _ h.2 (he.set h.1 a)
theorem bindS_tot {VN : List Nat → Bool} {e : Env} (he : GE VN e) {bs : List Nat} (hb : (decide (bs = []) || VN bs) = true) {t : List Nat} (ht : bsB t = true) (hl : t.length ≤ 1000000) : ∃ e', bindS VN e bs t = some e' ∧ GE VN e' := by
  unfold bindS
  rw [if_pos ⟨he.1, he.2, hl, ht⟩]
  by_cases h : bs = []
  · rw [if_pos h]; exact ⟨e, rfl, he⟩
  · rw [if_neg h]
    have hv : VN bs = true := by simpa [h] using hb
    rw [if_pos hv]
    exact ⟨_, rfl, he.set hv _⟩
end X
