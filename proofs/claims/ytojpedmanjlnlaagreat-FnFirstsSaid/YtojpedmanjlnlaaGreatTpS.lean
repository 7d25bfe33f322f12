/- A part of the proof. No statement of the claim is in it. -/
import Derived.Test.YtojpedmanjlnlaaGreatTpGa
import Derived.Test.YtojpedmanjlnlaaGreatA
open Go Go.V Go.Proofs F
namespace X
set_option maxRecDepth 100000
set_option maxHeartbeats 4000000
set_option linter.all false
def sbT : List (List Nat × List Nat) := [([48, 45, 57], [48, 49, 50, 51, 52, 53, 54, 55, 56, 57]), ([97, 98], [97, 98])]
def sbG : List T → Option T
 | [.str s] => match qav sbT s with
  | some l => some (.str l)
  | none => none
 | _ => none
def sbOk : List (List Nat × List Nat) → Bool
 | [] => true
 | p :: r => (match SRf p.1 with
  | some rows => eqL (F.setB rows) p.2
  | none => false) && sbOk r
theorem qwq : ∀ {l : List (List Nat × List Nat)}, sbOk l = true → ∀ p ∈ l, ∃ rows, SRf p.1 = some rows ∧ F.setB rows = p.2
 | p :: r, h, q, hq => by
  simp only [sbOk, Bool.and_eq_true] at h
  rcases List.mem_cons.1 hq with rfl | hq
  ·have h1 := h.1
   split at h1
   ·rename_i rows hr
    exact ⟨rows, hr, qfr h1⟩
   ·cases h1
  ·exact qwq h.2 q hq
 | [], h, q, hq => by cases hq
theorem sb_all : sbOk sbT = true := by kernel_rfl
theorem frz_str {d : Nat} {σ : Store} {v : V} {s : List Nat} (h : frz (d + 1) σ v = some (.str s)) : v = .t (.str s) := by
 cases v with
 | t x => simp only [frz, Option.some.injEq] at h; rw [h]
 | sl loc g off len k =>
  simp only [frz] at h
  split at h
  ·split at h
   ·cases hf : frzs (frz d σ) _ with
    | none => rw [hf] at h; cases h
    | some ts => rw [hf] at h; cases h
   ·cases h
  ·cases h
 | agg cs => simp only [frz] at h; cases hf : frzs (frz d σ) cs with
  | none => rw [hf] at h; cases h
  | some ts => rw [hf] at h; cases h
 | tup cs => simp only [frz] at h; cases hf : frzs (frz d σ) cs with
  | none => rw [hf] at h; cases h
  | some ts => rw [hf] at h; cases h
 | _ => simp only [frz] at h; cases h
theorem sb_entry : Entry ixf S (.nat 46 sbG) := by
 intro args σ ts x h1 h2
 unfold sbG at h2
 split at h2
 ·rename_i s
  split at h2
  ·rename_i l hl
   cases h2
   obtain ⟨rows, r1, r2⟩ := qwq sb_all _ (qbh hl)
   cases args with
   | nil => simp [frzs] at h1
   | cons a r =>
    simp only [frzs] at h1
    split at h1
    ·rename_i y ys hy hys
     simp only [Option.some.injEq, List.cons.injEq] at h1
     obtain ⟨rfl, rfl⟩ := h1
     have ha := frz_str hy
     subst ha
     cases r with
     | nil =>
      have := qub qjf r1 σ
      rw [show F.setB rows = l from r2] at this
      exact this
     | cons b r =>
      simp only [frzs] at hys
      split at hys
      ·simp at hys
      ·cases hys
    ·cases h1
  ·cases h2
 ·cases h2
noncomputable def tab2 : Tab := { st := tab.st, dyn := .nat 46 sbG :: tab.dyn }
theorem q0d : tab2.All (Entry ixf S) := ⟨qiz.1, fun e he => by
 rcases List.mem_cons.1 he with rfl | he
 ·exact sb_entry
 ·exact qiz.2 e he⟩
/-! ### What is known of a grammar, by checks -/
def ruleB (RA : List Nat → Option Nat) (nl : List (List Nat)) (nu : Nat → Bool) (fb : Nat → List Nat) : Nat → List T → Bool
 | _, [] => true
 | i, .agg [.str nm, ps, _] :: r => (match RA nm with
  | some j => Nat.beq j i
  | none => false) && ((!nu i || memB nl nm) && ((match qew ps with
  | some pl => Nat.ble pl.length 100
  | none => false) && (Nat.ble (fb i).length 1000 && ((fb i).all (fun b => Nat.blt b 256) && ruleB RA nl nu fb (i + 1) r))))
 | _, _ => false
theorem qss {RA : List Nat → Option Nat} {nl : List (List Nat)} {nu : Nat → Bool} {fb : Nat → List Nat} : ∀ {l : List T} {k i : Nat} {x : T}, ruleB RA nl nu fb k l = true → l[i]? = some x →
  ∃ nm ps az pl, x = .agg [.str nm, ps, az] ∧ RA nm = some (k + i) ∧ (nu (k + i) = true → nm ∈ nl) ∧ qew ps = some pl ∧ pl.length ≤ 100 ∧ (fb (k + i)).length ≤ 1000 ∧ ∀ b ∈ fb (k + i), b < 256
 | [], k, i, x, h, hx => by simp at hx
 | y :: l, k, i, x, h, hx => by
  unfold ruleB at h
  split at h
  ·rename_i e; cases e
  ·rename_i k _ _ nm ps az r e
   cases e
   simp only [Bool.and_eq_true, Bool.or_eq_true, Bool.not_eq_true', Nat.ble_eq, List.all_eq_true, Nat.blt_eq] at h
   obtain ⟨h1, h2, h3, h4, h5, h6⟩ := h
   cases i with
   | zero =>
    simp only [List.getElem?_cons_zero, Option.some.injEq] at hx
    subst hx
    split at h1
    rotate_left
    ·cases h1
    rename_i j hj
    split at h3
    rotate_left
    ·cases h3
    rename_i pl hpl
    rw [Nat.ble_eq] at h3
    exact ⟨nm, ps, az, pl, rfl, by rw [hj, Nat.eq_of_beq_eq_true h1]; rfl, fun hn => by
     rcases h2 with h2 | h2
     ·rw [show k + 0 = k from rfl, h2] at hn; cases hn
     ·exact qqj h2, hpl, h3, h4, h5⟩
   | succ i =>
    simp only [List.getElem?_cons_succ] at hx
    have := qss h6 hx
    rw [show k + 1 + i = k + (i + 1) by omega] at this
    exact this
  ·cases h
noncomputable def run1 (G : T) (i : Nat) (b : List Nat) : O := qjt tab2 100000 x7 [.t G, .t (.int .i64 (.ofNat i))] fun a => ifB (beqT a (.str b)) (qjt tab2 100000 x8 [.t G, .t (.int .i64 (.ofNat i))] fun c => ifB (beqT c (.str b)) (some (.bool true)) none) none
def AllR (G : T) : List (Nat × List Nat) → Prop
 | [] => True
 | p :: l => run1 G p.1 p.2 = some (.bool true) ∧ AllR G l
theorem qvo {G : T} : ∀ {l : List (Nat × List Nat)}, AllR G l → ∀ p ∈ l, (∀ σ, LD S 7 [.t G, .t (I (p.1 : Nat))] σ = some (.t (.str p.2), σ)) ∧ ∀ σ, LD S 8 [.t G, .t (I (p.1 : Nat))] σ = some (.t (.str p.2), σ)
 | q :: l, h, p, hp => by
  rcases List.mem_cons.1 hp with rfl | hp
  ·obtain ⟨a, h1, h'⟩ := qhf (ts := [G, .int .i64 (.ofNat p.1)]) q0d e7 rfl (A := A7) rfl rfl (show qjt tab2 100000 x7 ([G, .int .i64 (.ofNat p.1)].map V.t) _ = some (.bool true) from h.1)
   obtain ⟨e1, h'⟩ := qaf h'
   obtain ⟨b, h2, h'⟩ := qhf (ts := [G, .int .i64 (.ofNat p.1)]) q0d e8 rfl (A := A8) rfl rfl (show qjt tab2 100000 x8 ([G, .int .i64 (.ofNat p.1)].map V.t) _ = some (.bool true) from h')
   obtain ⟨e2, h'⟩ := qaf h'
   rw [qft e1] at h1
   rw [qft e2] at h2
   exact ⟨h1, h2⟩
  ·exact qvo h.2 p hp
 | [], h, p, hp => by cases hp
noncomputable def nulB (G : T) (nl : List (List Nat)) : O := qjt tab 100000 x6 [.t G] fun a => ifB (beqT a (qdn nl)) (qjt tab 100000 x14 [.t G] fun b => ifB (beqT b (qdn nl)) (some (.bool true)) none) none
theorem qvf {G : T} {nl : List (List Nat)} (h : nulB G nl = some (.bool true)) : (∀ σ, LD S 6 [.t G] σ = some (.t (qdn nl), σ)) ∧ ∀ σ, LD S 14 [.t G] σ = some (.t (qdn nl), σ) := by
 obtain ⟨a, h1, h'⟩ := qhf (ts := [G]) qiz e6 rfl (A := A6) rfl rfl (show qjt tab 100000 x6 ([G].map V.t) _ = some (.bool true) from h)
 obtain ⟨e1, h'⟩ := qaf h'
 obtain ⟨b, h2, h'⟩ := qhf (ts := [G]) qiz e14 rfl (A := A14) rfl rfl (show qjt tab 100000 x14 ([G].map V.t) _ = some (.bool true) from h')
 obtain ⟨e2, _⟩ := qaf h'
 rw [qft e1] at h1
 rw [qft e2] at h2
 exact ⟨h1, h2⟩
theorem qcl {RA : List Nat → Option Nat} {rules : List T} {nl : List (List Nat)} {nu : Nat → Bool} {fb : Nat → List Nat} (h1 : qqq SRf RA nu fb 0 rules = true) (h2 : nl.length ≤ 1000) (h3 : ruleB RA nl nu fb 0 rules = true) {fl : List (Nat × List Nat)} (h4 : AllR (.agg [.list rules]) fl) (h6 : ∀ i, i < rules.length → (i, fb i) ∈ fl) (h5 : nulB (.agg [.list rules]) nl = some (.bool true)) : FirstG SRf RA rules nl nu fb where
 ok := h1
 few := h2
 rule := fun i x hx => by
  obtain ⟨nm, ps, az, pl, q⟩ := qss h3 hx
  rw [Nat.zero_add] at q
  have r := qvo h4 _ (h6 i (lt_of_get hx))
  exact ⟨nm, ps, az, pl, q.1, q.2.1, q.2.2.1, q.2.2.2.1, q.2.2.2.2.1, q.2.2.2.2.2.1, q.2.2.2.2.2.2, r.1, r.2⟩
 nulI := (qvf h5).1
 nulS := (qvf h5).2
end X
