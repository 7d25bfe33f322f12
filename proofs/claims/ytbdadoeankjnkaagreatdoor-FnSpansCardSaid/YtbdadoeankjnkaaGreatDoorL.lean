/- A part of the proof. No statement of the claim is in it. -/
import Derived.Test.YtbdadoeankjnkaaGreatDoorK
import Derived.Test.YtbdadoeankjnkaaGreatDoorSc
set_option maxRecDepth 100000
set_option maxHeartbeats 4000000
set_option linter.all false
open Go Go.V Go.Proofs
namespace E
open X
attribute [-simp] lenV idxV getElem?_pos
/-! ### Ends and the longest, in both -/
/-- what is known of a grammar for the program -/
structure GramI (SR : List Nat → Option (List Nat)) (MK : T → Option (List Bool)) (VN : List Nat → Bool) (RA : List Nat → Option Nat) (rules : List T) : Prop where
 fx : Fx SR MK VN RA rules
 two : gramB rules = true
 c : gramC rules = true
 gok : ∀ σ, LD S 23 [.t (.agg [.list rules])] σ = some (.t (B true), σ)
 len : ∀ n, n ≤ 12 → G.LenOk n
/-- no run: too long a text, or a place that is none -/
theorem runS_no {rules : List T} {text nm : List Nat} {ru : Nat} {nz ps az x : T} {fr : Int} (gok : ∀ σ, LD S 29 [.t (.agg [.list rules])] σ = some (.t (B true), σ)) (hru : ∀ σ, LD S 28 [.t (.agg [.list rules]), .t (.str nm)] σ = some (.t (I ru), σ)) (hrl : rules[ru]? = some (.agg [nz, ps, az])) (hps : symsL ps = some []) (hx : Is x []) (hl : 12 < text.length ∨ inF fr 0 text.length = false) (σ : Store) :
  LD S 8 [.t (.agg [.list rules]), .t (.str text), .t (.str nm), .t x, .t (I fr)] σ = some (.t (.tup [.agg [.nils], B false]), σ) := by
 suffices hh : ∃ v σ', LV S 8 [.t (.agg [.list rules]), .t (.str text), .t (.str nm), .t x, .t (I fr)] [] = some (v, σ') ∧ frz 40 σ' v = some (.tup [.agg [.nils], B false]) by
  obtain ⟨v, σ', h1, h2⟩ := hh
  exact LD_pure (A := A8) (args := [.t (.agg [.list rules]), .t (.str text), .t (.str nm), .t x, .t (I fr)]) rfl rfl rfl h1 h2 σ
 have hlp : ∀ (σ : Store) (e : TypeId), lenV σ (.slice e) (.t ps) = some (0 : Int) := fun σ e => by
  rcases symsL_eq hps with ⟨rfl, _⟩ | rfl <;> simp [lenV]
 have hin := in_ld fr 0 text.length
 have hlx := hx.len
 simp only [List.length_nil] at hlx
 have h0 : ¬ (ru : Int) < 0 := by omega
 refine LV_bodyX (A := A8) rfl Tryz.func8 rfl ?_
 refine wR rfl (by simp; rfl) ?_
 refine wR rfl (by simp [hru]; rfl) ?_
 by_cases ht : (12 : Int) < (text.length : Int)
 ·refine wR rfl (by simp [gok, ht]; rfl) ?_
  refine wT rfl (by simp) ?_
  refine wR rfl (by simp [buildV, fieldSizes, fillV, repZero]; rfl) ?_
  try simp only [tq]
  refine wX ?_
  try simp only [tq]
  exact ⟨trivial, .t (.tup [.agg [.nils], B false]), (by simp [Tryz.f8]), rfl⟩
 ·have hf : inF fr 0 text.length = false := hl.resolve_left (by omega)
  rw [hf] at hin
  refine wR rfl (by simp [gok, ht, hin, h0, hlx, hlp, hrl, idxV]; rfl) ?_
  refine wT rfl (by simp) ?_
  refine wR rfl (by simp [buildV, fieldSizes, fillV, repZero]; rfl) ?_
  try simp only [tq]
  refine wX ?_
  try simp only [tq]
  exact ⟨trivial, .t (.tup [.agg [.nils], B false]), (by simp [Tryz.f8]), rfl⟩
theorem runI_no {rules : List T} {text nm : List Nat} {ru : Nat} {nz ps az x : T} {fr : Int} (gok : ∀ σ, LD S 23 [.t (.agg [.list rules])] σ = some (.t (B true), σ)) (hru : ∀ σ, LD S 22 [.t (.agg [.list rules]), .t (.str nm)] σ = some (.t (I ru), σ)) (hrl : rules[ru]? = some (.agg [nz, ps, az])) (hps : symsL ps = some []) (hx : Is x []) (hl : 12 < text.length ∨ inF fr 0 text.length = false) (σ : Store) :
  LD S 7 [.t (.agg [.list rules]), .t (.str text), .t (.str nm), .t x, .t (I fr)] σ = some (.t (.tup [.agg [.nils], B false]), σ) := by
 suffices hh : ∃ v σ', LV S 7 [.t (.agg [.list rules]), .t (.str text), .t (.str nm), .t x, .t (I fr)] [] = some (v, σ') ∧ frz 40 σ' v = some (.tup [.agg [.nils], B false]) by
  obtain ⟨v, σ', h1, h2⟩ := hh
  exact LD_pure (A := A7) rfl rfl rfl h1 h2 σ
 have hlp : ∀ (σ : Store) (e : TypeId), lenV σ (.slice e) (.t ps) = some (0 : Int) := fun σ e => by
  rcases symsL_eq hps with ⟨rfl, _⟩ | rfl <;> simp [lenV]
 have hin := G.within_ld fr 0 text.length
 have hnum := G.numbersIn_ld hx (fun n hn => by cases hn) (by simp)
 have hlx := hx.len
 simp only [List.length_nil] at hlx
 have h0 : ¬ (ru : Int) < 0 := by omega
 refine LV_bodyX (A := A7) rfl Tryz.func7 rfl ?_
 refine wR rfl (by simp; rfl) ?_
 refine wR rfl (by simp [hru]; rfl) ?_
 by_cases ht : (12 : Int) < (text.length : Int)
 ·refine wR rfl (by simp [gok, ht]; rfl) ?_
  refine wT rfl (by simp) ?_
  refine wR rfl (by simp [buildV, fieldSizes, fillV, repZero]; rfl) ?_
  try simp only [tq]
  refine wX ?_
  try simp only [tq]
  exact ⟨trivial, .t (.tup [.agg [.nils], B false]), (by simp [Tryz.f7]), rfl⟩
 ·have hf : inF fr 0 text.length = false := hl.resolve_left (by omega)
  rw [hf] at hin
  refine wR rfl (by simp [gok, ht, hin, hnum, h0, hlx, hlp, hrl, idxV]; rfl) ?_
  refine wT rfl (by simp) ?_
  refine wR rfl (by simp [buildV, fieldSizes, fillV, repZero]; rfl) ?_
  try simp only [tq]
  refine wX ?_
  try simp only [tq]
  exact ⟨trivial, .t (.tup [.agg [.nils], B false]), (by simp [Tryz.f7]), rfl⟩
theorem endsI_no {gr tx nm ax ft : T} (hr : ∀ σ, LD S 7 [.t (.agg [gr]), .t tx, .t nm, .t ax, .t ft] σ = some (.t (.tup [.agg [.nils], B false]), σ)) (σ : Store) :
  LD S 11 [.t (.agg [gr]), .t tx, .t nm, .t ax, .t ft] σ = some (.t .nils, σ) := by
 suffices hh : ∃ σ', LV S 11 [.t (.agg [gr]), .t tx, .t nm, .t ax, .t ft] [] = some (.t .nils, σ') by
  obtain ⟨σ', hh⟩ := hh
  exact LD_pure (A := A11) rfl rfl rfl hh rfl σ
 refine LV_bodyE (A := A11) rfl Tryz.func11 rfl ?_
 refine wR rfl (by simp; rfl) ?_
 refine wR rfl (by simp [hr]; rfl) ?_
 refine wR rfl (by simp; rfl) ?_
 refine wT rfl (by simp) ?_
 refine wR rfl (by simp; rfl) ?_
 refine wX ?_
 try simp only [tq]
 simp [Tryz.f11]
theorem longI_ld {n : List Nat} {ps az : T} {gr : List T} {tx ft : T} {l : List Nat} {x : T} (he : ∀ σ, LD S 11 [.t (.agg [.list (.agg [.str n, ps, az] :: gr)]), .t tx, .t (.str n), .t .nils, .t ft] σ = some (.t x, σ)) (hx : Is x l) (hl : l.length ≤ 1048576) (σ : Store) :
  LD S 17 [.t (.agg [.list (.agg [.str n, ps, az] :: gr)]), .t tx, .t ft] σ = some (.t (I (lastR l)), σ) := by
 suffices hh : ∃ σ', LV S 17 [.t (.agg [.list (.agg [.str n, ps, az] :: gr)]), .t tx, .t ft] [] = some (.t (I (lastR l)), σ') by
  obtain ⟨σ', hh⟩ := hh
  exact LD_pure (A := A17) (v := .t (I (lastR l))) rfl rfl rfl hh rfl σ
 refine LV_bodyE (A := A17) rfl Tryz.func17 rfl ?_
 refine wR rfl (by simp; rfl) ?_
 refine wR rfl (by simp [lenV]; rfl) ?_
 refine wF rfl (by simp [show ¬ ((gr.length : Int) + 1 = 0) by omega]) ?_
 refine wK ?_
 refine wR rfl (by simp [he, idxV]; rfl) ?_
 refine wR rfl (by simp [hx.len]; rfl) ?_
 by_cases c1 : l.length = 0
 ·refine wT rfl (by simp [c1]) ?_
  refine wR rfl (by simp; rfl) ?_
  have : l = [] := List.length_eq_zero_iff.1 c1
  subst this
  refine wX ?_
  try simp only [tq]
  simp [Tryz.f17, lastR]
 ·refine wF rfl (by simp [c1]) ?_
  refine wK ?_
  obtain ⟨e, hle⟩ := X.get_of_lt (show l.length - 1 < l.length by omega)
  have hi := hx.idx hle
  have h1 : (l.length : Int) - 1 = ((l.length - 1 : Nat) : Int) := by omega
  have hlast : lastR l = (e : Int) := by simp [lastR, List.getLast?_eq_getElem?, hle]
  refine wR rfl (by simp [hx.len, h1, hi, IntWalk.i64_in ((l.length - 1 : Nat) : Int) (by omega)]; rfl) ?_
  try simp only [tq]
  rw [hlast]
  refine wX ?_
  try simp only [tq]
  simp [Tryz.f17]
section
variable {SR : List Nat → Option (List Nat)} {MK : T → Option (List Bool)} {VN : List Nat → Bool} {RA : List Nat → Option Nat} {n0 : List Nat} {ps0 az0 : T} {gr : List T} {text : List Nat}
/-- what is found at a place, in both -/
theorem long_both (H : GramOk SR MK VN RA n0 ps0 az0 gr) (J : GramI SR MK VN RA (.agg [.str n0, ps0, az0] :: gr)) (ht : bsB text = true) (hn : text.length ≤ 11 ∨ 12 < text.length) (fr : Int) :
  ∃ v : Int, v ≤ text.length ∧ (∀ σ, LD S 19 [.t (.agg [.list (.agg [.str n0, ps0, az0] :: gr)]), .t (.str text), .t (I fr)] σ = some (.t (I v), σ)) ∧ (12 < text.length → v = -1) ∧
    ∀ σ, LD S 17 [.t (.agg [.list (.agg [.str n0, ps0, az0] :: gr)]), .t (.str text), .t (I fr)] σ = some (.t (I v), σ) := by
 have hra := H.rules n0 0 H.first
 have hrai := J.fx.ra n0 0 H.first
 by_cases c : 12 < text.length ∨ inF fr 0 text.length = false
 ·have r1 := runS_no (x := .list []) H.gok hra (nz := .str n0) (ps := ps0) (az := az0) rfl H.none_ (.inr rfl) c
  obtain ⟨x, e1, e2⟩ := ends_ld (o := none) r1 rfl (by simp)
  have r2 := runI_no (x := .nils) J.gok hrai (nz := .str n0) (ps := ps0) (az := az0) rfl H.none_ (.inl ⟨rfl, rfl⟩) c
  exact ⟨lastR [], by simp only [lastR, List.getLast?_nil]; omega, fun σ => long_ld e2 e1 (by simp [endsR]) σ, fun _ => rfl, fun σ => longI_ld (l := []) (endsI_no r2) (.inl ⟨rfl, rfl⟩) (by simp) σ⟩
 ·have c1 : text.length ≤ 11 := by omega
  have c2 : inF fr 0 text.length = true := by
   cases h : inF fr 0 text.length with
   | true => rfl
   | false => exact absurd (.inr h) c
  simp only [inF, Bool.and_eq_true, decide_eq_true_eq] at c2
  obtain ⟨k, rfl⟩ : ∃ k : Nat, fr = k := ⟨fr.toNat, by omega⟩
  obtain ⟨s', h1, h2, h3⟩ := run_tot H.right ht (by omega) (ru := 0) (by simp) (al := []) (by simp) (fr := k) (by omega)
  have hrun : RunOk (mkK SR MK VN RA text) (.agg [.str n0, ps0, az0] :: gr) text n0 0 [] k :=
   { k := mkK_ok H.sets H.marks H.names H.rules text
     gok := H.gok
     ruleAt := H.first
     rule := ⟨_, ps0, az0, [], rfl, H.none_, rfl⟩
     len := by omega
     from_ := by omega
     args := ⟨by simp, fun a ha => by cases ha⟩ }
  obtain ⟨y, r1, r2⟩ := run_ld hrun (x := .list []) (.inr rfl) h1
  obtain ⟨x, e1, e2⟩ := ends_ld r1 r2 h2
  have hlen : (endsR (outS s')).length ≤ 1048576 := by
   cases he : endsR (outS s') with
   | nil => simp
   | cons a r =>
    have := (h3 a (by rw [he]; simp)).2
    rw [he] at this
    omega
  obtain ⟨s2, o, g1, g2, g3⟩ := runGoal_of J.fx ⟨H.right, J.two, H.ar, J.c⟩ ht c1 J.gok H.first (nm := n0) (ps := ps0) (az := az0) (pl := []) rfl H.none_ (y := .nils) (al := []) (.inl ⟨rfl, rfl⟩) rfl (by simp) (fun a ha => by cases ha) (fr := k) (by omega)
  rw [h1] at g1
  cases g1
  obtain ⟨z, z1, z2⟩ : ∃ z, G.endsT o = some z ∧ Is z (endsR (outS s')) := by
   rw [← g3]
   cases o with
   | none => exact ⟨.nils, rfl, .inl ⟨rfl, rfl⟩⟩
   | some s =>
    cases hg : s.goals with
    | nil => exact absurd (by rw [← g3, Option.map_some, hg]) h2
    | cons g gs => exact ⟨G.lT g.ends, by simp [G.endsT, hg], by simp only [Option.map_some, hg, endsR]; exact G.lT_is _⟩
  have e3 := fun σ => G.endsOf_ld NN_ok J.len (.inl ⟨rfl, rfl⟩ : Is .nils []) g2 z1 σ
  refine ⟨lastR (endsR (outS s')), ?_, fun σ => long_ld e2 e1 hlen σ, fun hc => by omega, fun σ => longI_ld e3 z2 hlen σ⟩
  unfold lastR
  split
  ·rename_i e he
   have := (h3 e (List.mem_of_getLast? he)).1
   omega
  ·omega
end
end E
namespace E
open X
attribute [-simp] lenV idxV getElem?_pos
/-! ### Spans of the program -/
theorem spansI_lv {gr : List T} {text : List Nat} (hn : text.length ≤ 12) {long : Nat → Int} (hL : ∀ k, k < text.length → long k ≤ text.length ∧ ∀ σ, LD S 17 [.t (.agg [.list gr]), .t (.str text), .t (I k)] σ = some (.t (I (long k)), σ)) :
  ∃ v σ', LV S 15 [.t (.agg [.list gr]), .t (.str text)] [] = some (v, σ') ∧ frz 40 σ' v = some (.list (rows2 (spansS long text.length text.length 0))) := by
 refine LV_bodyX (A := A15) rfl Tryz.func15 rfl ?_
 refine wR rfl (by simp; rfl) ?_
 refine wR rfl (by simp [sliceCells, repZero, chunk, fillV]; rfl) ?_
 refine wR rfl (by simp; rfl) ?_
 refine wF rfl (by simp [show ¬ (12 : Int) < text.length by omega]) ?_
 refine wK ?_
 refine wR rfl (by simp; rfl) ?_
 refine wB rfl ?_
 try simp only [tq]
 refine W_loop (I := fun m st τ => ∃ k l g w, text.length - k ≤ m ∧ k ≤ text.length ∧ l.length ≤ k ∧ l ++ spansS long text.length m k = spansS long text.length text.length 0 ∧ w ≤ g ∧ st.vars = [(0, .t (.agg [.list gr])), (1, .t (.str text)), (2, .ptr 0 0 0 1), (4, .t .nils), (5, .sl 1 g 0 l.length 2), (6, .t (I k))] ∧ τ = [.cells [.t (.list gr)] 0 0, .cells (cells2 l) g w]) ?_ text.length _ _ ⟨0, [], 0, 0, by omega, by omega, by simp, rfl, by omega, by simp, rfl⟩
 rintro m ⟨vars, scr⟩ τ ⟨k, l, g, w, hm, hk, hlk, he, hw, hvs, rfl⟩
 simp only at hvs
 subst hvs
 have hcl := cells2_len l
 have hbnd : (l.length + 1) * 16 ≤ 140737488355328 := by omega
 by_cases c1 : k < text.length
 ·cases m with
  | zero => omega
  | succ m =>
  obtain ⟨hle, hlong⟩ := hL k c1
  simp only [spansS, c1, show k < 50 by omega, and_self, if_true] at he
  have c1' : (k : Int) < text.length := by omega
  refine wR rfl (by simp [c1']; rfl) ?_
  refine wT rfl (by simp) ?_
  refine wK ?_
  refine wB rfl ?_
  cases hlk2 : long k with
  | ofNat e =>
   rw [hlk2] at he hle hlong
   simp only [Int.ofNat_eq_natCast] at he hle hlong
   refine wR rfl (by simp [hlong]; rfl) ?_
   by_cases c3 : k < e
   ·rw [if_pos c3] at he
    refine wR rfl (by simp; rfl) ?_
    refine wT rfl (by simp [c3]) ?_
    refine wR rfl (by simp [buildV, fieldSizes, fillV, setRange, repZero, sliceCells, chunk, mkAgg, allT, appendV, srcCells, rowCells, hcl, hbnd, hw]; rfl) ?_
    refine wR rfl (by simp; rfl) ?_
    try simp only [tq]
    have hee : e ≤ text.length := by simpa using hle
    refine ⟨m, Nat.lt_succ_self _, e, l ++ [(k, e)], g + 1, w, by omega, hee, by simp; omega, by rw [← he]; simp, by omega, by simp, ?_⟩
    rw [cells2_app]
    rfl
   ·rw [if_neg c3] at he
    refine wR rfl (by simp; rfl) ?_
    refine wF rfl (by simp [c3, show e ≤ k by omega]) ?_
    refine wR rfl (by simp [IntWalk.i64_in ((k : Int) + 1) (by omega)]; rfl) ?_
    try simp only [tq]
    exact ⟨m, Nat.lt_succ_self _, k + 1, l, g, w, by omega, by omega, by omega, he, hw, by simp, rfl⟩
  | negSucc e =>
   rw [hlk2] at he hlong
   simp only at he
   refine wR rfl (by simp [hlong]; rfl) ?_
   refine wR rfl (by simp; rfl) ?_
   refine wF rfl (by simp [show ¬ (k : Int) < Int.negSucc e by omega]) ?_
   refine wR rfl (by simp [IntWalk.i64_in ((k : Int) + 1) (by omega)]; rfl) ?_
   try simp only [tq]
   exact ⟨m, Nat.lt_succ_self _, k + 1, l, g, w, by omega, by omega, by omega, he, hw, by simp, rfl⟩
 ·have c1' : ¬ (k : Int) < text.length := by omega
  have e0 : spansS long text.length m k = [] := by
   cases m with
   | zero => rfl
   | succ m => simp only [spansS, c1, false_and, if_false]
  rw [e0, List.append_nil] at he
  refine wR rfl (by simp [c1']; rfl) ?_
  refine wF rfl (by simp) ?_
  repeat apply W_seq
  refine W_exit ?_
  try simp only [tq, if_true]
  refine wR rfl (by simp; rfl) ?_
  try simp only [tq]
  refine wX ?_
  try simp only [tq]
  refine ⟨trivial, _, (by simp [Tryz.f15]; rfl), ?_⟩
  rw [← he]
  obtain ⟨ts, z1, z2⟩ := frz_cells2 38 [.cells [.t (.list gr)] 0 0, .cells (cells2 l) g w] l
  rw [← z2]
  exact frz_sl (d := 39) (k := 2) (off := 0) (len := l.length) (σ := [.cells [.t (.list gr)] 0 0, .cells (cells2 l) g w]) rfl hw (Nat.le_refl _) (by omega) (by omega) (ts := ts) (by rw [List.drop_zero, List.take_of_length_le (by omega)]; exact z1)
theorem spansI_ld {gr : List T} {text : List Nat} (hn : text.length ≤ 12) {long : Nat → Int} (hL : ∀ k, k < text.length → long k ≤ text.length ∧ ∀ σ, LD S 17 [.t (.agg [.list gr]), .t (.str text), .t (I k)] σ = some (.t (I (long k)), σ)) (σ : Store) :
  LD S 15 [.t (.agg [.list gr]), .t (.str text)] σ = some (.t (.list (rows2 (spansS long text.length text.length 0))), σ) := by
 obtain ⟨v, σ', h1, h2⟩ := spansI_lv hn hL
 exact LD_pure (A := A15) (args := [.t (.agg [.list gr]), .t (.str text)]) rfl rfl rfl h1 h2 σ
theorem spansI_long {gr : T} {text : List Nat} (hn : 12 < text.length) (σ : Store) :
  LD S 15 [.t (.agg [gr]), .t (.str text)] σ = some (.t (.list []), σ) := by
 suffices hh : ∃ v σ', LV S 15 [.t (.agg [gr]), .t (.str text)] [] = some (v, σ') ∧ frz 40 σ' v = some (.list []) by
  obtain ⟨v, σ', h1, h2⟩ := hh
  exact LD_pure (A := A15) (args := [.t (.agg [gr]), .t (.str text)]) rfl rfl rfl h1 h2 σ
 refine LV_bodyX (A := A15) rfl Tryz.func15 rfl ?_
 refine wR rfl (by simp; rfl) ?_
 refine wR rfl (by simp [sliceCells, repZero, chunk, fillV]; rfl) ?_
 refine wR rfl (by simp; rfl) ?_
 refine wT rfl (by simp [show (12 : Int) < text.length by omega]) ?_
 refine wR rfl (by simp; rfl) ?_
 try simp only [tq]
 refine wX ?_
 try simp only [tq]
 refine ⟨trivial, _, (by simp [Tryz.f15]; rfl), rfl⟩
/-- no span is found where nothing longer is -/
theorem spansS_none {long : Nat → Int} {n : Nat} (h : ∀ k, k < n → long k = -1) : ∀ f k, spansS long n f k = []
 | 0, k => rfl
 | f + 1, k => by
  simp only [spansS]
  split
  ·rename_i hk
   rw [h k hk.1]
   exact spansS_none h f (k + 1)
  ·rfl
/-- what is found: spans one behind the other, each as long as may be, nothing found between -/
def Fnd (long : Nat → Int) (n : Nat) : Nat → List (Nat × Nat) → Prop
 | k, [] => k ≤ n ∧ ∀ j, k ≤ j → j < n → long j ≤ j
 | k, p :: r => k ≤ p.1 ∧ p.1 < p.2 ∧ long p.1 = p.2 ∧ (∀ j, k ≤ j → j < p.1 → long j ≤ j) ∧ Fnd long n p.2 r
theorem Fnd.more {long : Nat → Int} {n k : Nat} (hk : long k ≤ k) (hn : k < n) : ∀ {l : List (Nat × Nat)}, Fnd long n (k + 1) l → Fnd long n k l
 | [], h => ⟨by omega, fun j h1 h2 => by
  by_cases e : j = k
  ·subst e; exact hk
  ·exact h.2 j (by omega) h2⟩
 | p :: r, h => ⟨by have := h.1; omega, h.2.1, h.2.2.1, fun j h1 h2 => by
  by_cases e : j = k
  ·subst e; exact hk
  ·exact h.2.2.2.1 j (by omega) h2, h.2.2.2.2⟩
theorem spansS_fnd {long : Nat → Int} {n : Nat} (hn : n ≤ 50) (hL : ∀ k, k < n → long k ≤ n) : ∀ (f k : Nat), k ≤ n → n ≤ k + f → Fnd long n k (spansS long n f k)
 | 0, k, hk, hf => ⟨hk, fun j h1 h2 => by omega⟩
 | f + 1, k, hk, hf => by
  simp only [spansS]
  split
  ·rename_i h
   have h1 := hL k h.1
   cases hl : long k with
   | ofNat e =>
    rw [hl] at h1
    have h1 : (e : Int) ≤ n := h1
    simp only
    split
    ·rename_i h2
     exact ⟨Nat.le_refl _, h2, hl, fun j a b => by omega, spansS_fnd hn hL f e (by omega) (by omega)⟩
    ·rename_i h2
     refine Fnd.more ?_ h.1 (spansS_fnd hn hL f (k + 1) (by omega) (by omega))
     rw [hl]
     show (e : Int) ≤ k
     omega
   | negSucc e =>
    simp only
    refine Fnd.more ?_ h.1 (spansS_fnd hn hL f (k + 1) (by omega) (by omega))
    rw [hl]
    omega
  ·rename_i h
   exact ⟨hk, fun j h1 h2 => by
    exact absurd ⟨by omega, by omega⟩ h⟩
section
variable {SR : List Nat → Option (List Nat)} {MK : T → Option (List Bool)} {VN : List Nat → Bool} {RA : List Nat → Option Nat} {n0 : List Nat} {ps0 az0 : T} {gr : List T} {text : List Nat}
theorem spans_both (H : GramOk SR MK VN RA n0 ps0 az0 gr) (J : GramI SR MK VN RA (.agg [.str n0, ps0, az0] :: gr)) (ht : bsB text = true) (hn : text.length ≤ 11 ∨ 12 < text.length) (hl : text.length ≤ 50) :
  ∃ (long : Nat → Int) (l : List (Nat × Nat)), Fnd long text.length 0 l ∧
    (∀ k, k ≤ text.length → long k ≤ text.length ∧ ∀ σ, LD S 17 [.t (.agg [.list (.agg [.str n0, ps0, az0] :: gr)]), .t (.str text), .t (I k)] σ = some (.t (I (long k)), σ)) ∧
    (∀ σ, LD S 16 [.t (.agg [.list (.agg [.str n0, ps0, az0] :: gr)]), .t (.str text)] σ = some (.t (.list (rows2 l)), σ)) ∧
    ∀ σ, LD S 15 [.t (.agg [.list (.agg [.str n0, ps0, az0] :: gr)]), .t (.str text)] σ = some (.t (.list (rows2 l)), σ) := by
 have h : ∀ k : Nat, ∃ v : Int, v ≤ text.length ∧ (∀ σ, LD S 19 [.t (.agg [.list (.agg [.str n0, ps0, az0] :: gr)]), .t (.str text), .t (I k)] σ = some (.t (I v), σ)) ∧ (12 < text.length → v = -1) ∧
   ∀ σ, LD S 17 [.t (.agg [.list (.agg [.str n0, ps0, az0] :: gr)]), .t (.str text), .t (I k)] σ = some (.t (I v), σ) := fun k => long_both H J ht hn k
 obtain ⟨long, hlong⟩ : ∃ long : Nat → Int, ∀ k : Nat, long k ≤ text.length ∧ (∀ σ, LD S 19 [.t (.agg [.list (.agg [.str n0, ps0, az0] :: gr)]), .t (.str text), .t (I k)] σ = some (.t (I (long k)), σ)) ∧ (12 < text.length → long k = -1) ∧
   ∀ σ, LD S 17 [.t (.agg [.list (.agg [.str n0, ps0, az0] :: gr)]), .t (.str text), .t (I k)] σ = some (.t (I (long k)), σ) := ⟨fun k => (h k).choose, fun k => (h k).choose_spec⟩
 refine ⟨long, spansS long text.length text.length 0, spansS_fnd hl (fun k hk => (hlong k).1) _ 0 (Nat.zero_le _) (by omega), fun k hk => ⟨(hlong k).1, (hlong k).2.2.2⟩, fun σ => spans_ld (by omega) (fun k hk => ⟨(hlong k).1, (hlong k).2.1⟩) σ, fun σ => ?_⟩
 rcases hn with hn | hn
 ·exact spansI_ld (by omega) (fun k hk => ⟨(hlong k).1, (hlong k).2.2.2⟩) σ
 ·rw [spansS_none (fun k hk => (hlong k).2.2.1 hn)]
  exact spansI_long hn σ
end
end E
namespace E
open X
attribute [-simp] getElem?_pos
/-! ### The draws of the law -/
theorem drawSpans_ld {Q : T → Prop} (hP : PairsOk Q) (hlong : ∀ σ, LD S 35 [.t (I 14), .t (.int .u8 97)] σ = some (.t (.str (List.replicate 14 97)), σ)) {x : T} {l : List Int} (hx : BytesT x l) (hl : (l.length : Int) ≤ 1048576) :
  ∃ G t, (∀ σ, LD S 14 [.t x] σ = some (.t (.tup [G, .str t]), σ)) ∧ (Good G ∧ Q G) ∧ bsB t = true ∧ (t.length ≤ 9 ∨ t.length = 14) := by
 suffices hh : ∃ v σ', LV S 14 [.t x] [] = some (v, σ') ∧ ∃ G t, v = .t (.tup [G, .str t]) ∧ (Good G ∧ Q G) ∧ bsB t = true ∧ (t.length ≤ 9 ∨ t.length = 14) by
  obtain ⟨v, σ', h1, G, t, rfl, h2⟩ := hh
  exact ⟨G, t, fun σ => LD_pure (A := A14) (args := [.t x]) rfl rfl rfl h1 rfl σ, h2⟩
 obtain ⟨h0, hnew⟩ := new_lv hx hl [.cells [.t .nils] 0 0]
 have hC : CurAt ([V.Obj.cells [V.t .nils] 0 0] ++ [Cur x 0 h0]) 1 x l := ⟨_, rfl, 0, h0, rfl, by omega, by omega⟩
 obtain ⟨r, o1, b1, b2, b3⟩ := below_ld hx hl hC (n := 10) (by omega) (by omega)
 have b1' : LD S 33 [.ptr 1 0 0 3, .t (I 10)] [.cells [.t .nils] 0 0, Cur x 0 h0] = some (.t (I r), [.cells [.t .nils] 0 0, o1]) := b1
 have hC1 : CurAt [V.Obj.cells [V.t .nils] 0 0, o1] 1 x l := ⟨_, rfl, b3⟩
 obtain ⟨G, t, σ1, p1, p2, p3, p4, p5⟩ := pair_ld hP hx hl hC1
 have hnew' : LD S 21 [.t x] [.cells [.t .nils] 0 0] = some (.ptr 1 0 0 3, [.cells [.t .nils] 0 0, Cur x 0 h0]) := hnew
 refine LV_bodyX (A := A14) rfl Tryz.func14 rfl ?_
 refine wR rfl (by simp; rfl) ?_
 refine wR rfl (by simp [hnew']; rfl) ?_
 refine wR rfl (by simp [b1']; rfl) ?_
 have p2' := p2
 obtain ⟨⟨SR, MK, VN, RA, n0, ps0, az0, gr, rfl, hgood⟩, hQ⟩ := p2'
 have q0 : σ1[0]? = some (.cells [.t .nils] 0 0) := by rw [p5 0 (by simp) (by decide)]; rfl
 have lq := lt_of_get q0
 refine wR rfl (by simp [p1, getA, setA, fillV, setRange]; rfl) ?_
 try simp only [tq]
 have q1 : (σ1 ++ [V.Obj.cells [V.t (.list (.agg [.str n0, ps0, az0] :: gr))] 0 0])[0]? = some (.cells [.t .nils] 0 0) := by rw [List.getElem?_append_left lq]; exact q0
 have q3 : (σ1 ++ [V.Obj.cells [V.t (.list (.agg [.str n0, ps0, az0] :: gr))] 0 0])[σ1.length]? = some (.cells [V.t (.list (.agg [.str n0, ps0, az0] :: gr))] 0 0) := by rw [getA]; rfl
 revert q1 q3
 generalize (σ1 ++ [V.Obj.cells [V.t (.list (.agg [.str n0, ps0, az0] :: gr))] 0 0]) = σ2
 intro q1 q3
 have lq2 := lt_of_get q1
 have q2 : ∀ o', (σ2.set 0 o')[0]? = some o' := fun o' => List.getElem?_set_self lq2
 refine wR rfl (by simp; rfl) ?_
 by_cases c1 : r < 5
 ·refine wT rfl (by simp [show (r : Int) < 5 by omega]) ?_
  refine wR rfl (by simp [show 1 + t.length ≤ 9223372036854775807 by omega]; rfl) ?_
  refine wR rfl (by simp; rfl) ?_
  refine wF rfl (by simp [show ¬ (r : Int) = 9 by omega]) ?_
  refine wK ?_
  refine wR rfl (by simp [q3, q1, setRange]; rfl) ?_
  try simp only [tq]
  refine wX ?_
  refine ⟨trivial, .t (.tup [.agg [.list (.agg [.str n0, ps0, az0] :: gr)], .str (57 :: t)]), (by simp [Tryz.f14, q2, mkAgg, allT]), _, 57 :: t, rfl, p2, ?_, .inl (by simp; omega)⟩
  unfold bsB at p3 ⊢
  rw [List.all_cons, p3]
  rfl
 ·refine wF rfl (by simp [show ¬ (r : Int) < 5 by omega]) ?_
  refine wK ?_
  refine wR rfl (by simp; rfl) ?_
  by_cases c2 : r = 9
  ·refine wT rfl (by simp [show (r : Int) = 9 by omega]) ?_
   refine wR rfl (by simp [hlong]; rfl) ?_
   refine wR rfl (by simp [q3, q1, setRange]; rfl) ?_
   try simp only [tq]
   refine wX ?_
   exact ⟨trivial, .t (.tup [.agg [.list (.agg [.str n0, ps0, az0] :: gr)], .str (List.replicate 14 97)]), (by simp [Tryz.f14, q2, mkAgg, allT]), _, List.replicate 14 97, rfl, p2, by decide, .inr (by decide)⟩
  ·refine wF rfl (by simp [show ¬ (r : Int) = 9 by omega]) ?_
   refine wK ?_
   refine wR rfl (by simp [q3, q1, setRange]; rfl) ?_
   try simp only [tq]
   refine wX ?_
   exact ⟨trivial, .t (.tup [.agg [.list (.agg [.str n0, ps0, az0] :: gr)], .str t]), (by simp [Tryz.f14, q2, mkAgg, allT]), _, t, rfl, p2, p3, .inl (by omega)⟩
theorem place_ld {x : T} {l : List Int} (hx : BytesT x l) (hl : (l.length : Int) ≤ 1048576) {σ : Store} {c : Nat} (hC : CurAt σ c x l) :
  ∃ (r : Int) (o : V.Obj), LD S 36 [.ptr c 0 0 3, .t (I 6)] σ = some (.t (I r), σ.set c o) ∧ CurO x l o := by
 obtain ⟨b, o1, b1, b2⟩ := once_ld hx hl hC (n := 15) (by omega) (by omega)
 have hC1 : CurAt (σ.set c o1) c x l := hC.set b2
 suffices hh : ∃ v σ', LV S 36 [.ptr c 0 0 3, .t (I 6)] σ = some (v, σ') ∧ ∃ (r : Int) (o : V.Obj), v = .t (I r) ∧ σ' = σ.set c o ∧ CurO x l o by
  obtain ⟨v, σ', q1, r, o, rfl, rfl, q2⟩ := hh
  exact ⟨r, o, by rw [LD_inl (A := A36) rfl rfl rfl]; exact q1, q2⟩
 have b1' : LD S 58 [.ptr c 0 0 3, .t (I 15)] σ = some (.t (B b), σ.set c o1) := b1
 refine LV_bodyX (A := A36) rfl Tryz.func36 rfl ?_
 refine wR rfl (by simp; rfl) ?_
 refine wR rfl (by simp [b1']; rfl) ?_
 cases b with
 | true =>
  refine wT rfl (by simp) ?_
  obtain ⟨s, o2, p1, p2, p3⟩ := pickInt_ld hx hl hC1 (L := [-1, 6, 7, 9223372036854775807, -9223372036854775808]) (by simp) (by simp)
  simp only [List.map_cons, List.map_nil, List.set_set] at p1
  refine wR rfl (by simp [sliceCells, repZero, chunk, fillV, setRange, show List.range 5 = [0, 1, 2, 3, 4] from rfl, show IntKind.i64.wrap 7 = 7 from IntWalk.i64_in 7 (by omega), p1]; rfl) ?_
  try simp only [tq]
  refine wX ?_
  exact ⟨trivial, _, rfl, _, _, rfl, rfl, p3⟩
 | false =>
  refine wF rfl (by simp) ?_
  refine wK ?_
  obtain ⟨r, o2, p1, p2, p3⟩ := below_ld hx hl hC1 (n := 6) (by omega) (by omega)
  rw [List.set_set] at p1
  have p1' : LD S 33 [.ptr c 0 0 3, .t (I 6)] (σ.set c o1) = some (.t (I r), σ.set c o2) := p1
  refine wR rfl (by simp [p1']; rfl) ?_
  try simp only [tq]
  refine wX ?_
  exact ⟨trivial, _, rfl, _, _, rfl, rfl, p3⟩
theorem tm2 (x : Int) : -1 ≤ x.tmod 2 ∧ x.tmod 2 ≤ 1 := by
 have h := Int.natAbs_tmod x 2
 have := Nat.mod_lt x.natAbs (show 0 < (2 : Int).natAbs by decide)
 have e : (2 : Int).natAbs = 2 := rfl
 omega
theorem drawLong_ld {Q : T → Prop} (hP : PairsOk Q) {x : T} {l : List Int} (hx : BytesT x l) (hl : (l.length : Int) ≤ 1048576) :
  ∃ G t fr, (∀ σ, LD S 18 [.t x] σ = some (.t (.tup [G, .str t, I fr]), σ)) ∧ (Good G ∧ Q G) ∧ bsB t = true ∧ t.length ≤ 8 := by
 suffices hh : ∃ v σ', LV S 18 [.t x] [] = some (v, σ') ∧ ∃ G t fr, v = .t (.tup [G, .str t, I fr]) ∧ (Good G ∧ Q G) ∧ bsB t = true ∧ t.length ≤ 8 by
  obtain ⟨v, σ', h1, G, t, fr, rfl, h2⟩ := hh
  exact ⟨G, t, fr, fun σ => LD_pure (A := A18) (args := [.t x]) rfl rfl rfl h1 rfl σ, h2⟩
 obtain ⟨h0, hnew⟩ := new_lv hx hl [.cells [.t .nils] 0 0]
 have hC : CurAt ([V.Obj.cells [V.t .nils] 0 0] ++ [Cur x 0 h0]) 1 x l := ⟨_, rfl, 0, h0, rfl, by omega, by omega⟩
 obtain ⟨r, o1, b1, b2⟩ := place_ld hx hl hC
 have b1' : LD S 36 [.ptr 1 0 0 3, .t (I 6)] [.cells [.t .nils] 0 0, Cur x 0 h0] = some (.t (I r), [.cells [.t .nils] 0 0, o1]) := b1
 have hC1 : CurAt [V.Obj.cells [V.t .nils] 0 0, o1] 1 x l := ⟨_, rfl, b2⟩
 obtain ⟨G, t, σ1, p1, p2, p3, p4, p5⟩ := pair_ld hP hx hl hC1
 have hnew' : LD S 21 [.t x] [.cells [.t .nils] 0 0] = some (.ptr 1 0 0 3, [.cells [.t .nils] 0 0, Cur x 0 h0]) := hnew
 refine LV_bodyX (A := A18) rfl Tryz.func18 rfl ?_
 refine wR rfl (by simp; rfl) ?_
 refine wR rfl (by simp [hnew']; rfl) ?_
 refine wR rfl (by simp [b1']; rfl) ?_
 have p2' := p2
 obtain ⟨⟨SR, MK, VN, RA, n0, ps0, az0, gr, rfl, hgood⟩, hQ⟩ := p2'
 have q0 : σ1[0]? = some (.cells [.t .nils] 0 0) := by rw [p5 0 (by simp) (by decide)]; rfl
 have lq := lt_of_get q0
 refine wR rfl (by simp [p1, getA, setA, fillV, setRange]; rfl) ?_
 try simp only [tq]
 have q1 : (σ1 ++ [V.Obj.cells [V.t (.list (.agg [.str n0, ps0, az0] :: gr))] 0 0])[0]? = some (.cells [.t .nils] 0 0) := by rw [List.getElem?_append_left lq]; exact q0
 have q3 : (σ1 ++ [V.Obj.cells [V.t (.list (.agg [.str n0, ps0, az0] :: gr))] 0 0])[σ1.length]? = some (.cells [V.t (.list (.agg [.str n0, ps0, az0] :: gr))] 0 0) := by rw [getA]; rfl
 revert q1 q3
 generalize (σ1 ++ [V.Obj.cells [V.t (.list (.agg [.str n0, ps0, az0] :: gr))] 0 0]) = σ2
 intro q1 q3
 have lq2 := lt_of_get q1
 have q2 : ∀ o', (σ2.set 0 o')[0]? = some o' := fun o' => List.getElem?_set_self lq2
 have ht := tm2 r
 refine wR rfl (by simp [IntWalk.i64_in (r.tmod 2) (by omega)]; rfl) ?_
 by_cases c1 : r.tmod 2 = 0
 ·refine wT rfl (by simp [c1]) ?_
  refine wR rfl (by simp; rfl) ?_
  refine wR rfl (by simp [q3, q1, setRange]; rfl) ?_
  try simp only [tq]
  refine wX ?_
  exact ⟨trivial, .t (.tup [.agg [.list (.agg [.str n0, ps0, az0] :: gr)], .str t, I 0]), (by simp [Tryz.f18, q2, mkAgg, allT]), _, t, 0, rfl, p2, p3, p4⟩
 ·refine wF rfl (by simp [c1]) ?_
  refine wK ?_
  refine wR rfl (by simp [q3, q1, setRange]; rfl) ?_
  try simp only [tq]
  refine wX ?_
  exact ⟨trivial, .t (.tup [.agg [.list (.agg [.str n0, ps0, az0] :: gr)], .str t, I r]), (by simp [Tryz.f18, q2, mkAgg, allT]), _, t, r, rfl, p2, p3, p4⟩
end E
namespace E
open X
attribute [-simp] getElem?_pos
attribute [simp] eqOp
/-! ### The law FnSpans -/
/-- a grammar of which all is known in both -/
def QS (G : T) : Prop := ∃ SR MK VN RA n0 ps0 az0 gr, G = .agg [.list (.agg [.str n0, ps0, az0] :: gr)] ∧ GramOk SR MK VN RA n0 ps0 az0 gr ∧ GramI SR MK VN RA (.agg [.str n0, ps0, az0] :: gr)
theorem long_none (σ : Store) : LD S 17 [.t (.agg [.nils]), .t (.str []), .t (I 0)] σ = some (.t (I (-1)), σ) := by
 suffices hh : ∃ σ', LV S 17 [.t (.agg [.nils]), .t (.str []), .t (I 0)] [] = some (.t (I (-1)), σ') by
  obtain ⟨σ', hh⟩ := hh
  exact LD_pure (A := A17) (v := .t (I (-1))) rfl rfl rfl hh rfl σ
 refine LV_bodyE (A := A17) rfl Tryz.func17 rfl ?_
 refine wR rfl (by simp; rfl) ?_
 refine wR rfl (by simp [lenV]; rfl) ?_
 refine wT rfl (by simp) ?_
 refine wR rfl (by simp; rfl) ?_
 refine wX ?_
 try simp only [tq]
 simp [Tryz.f17]
theorem big_ld {x : T} {l : List Int} (hx : BytesT x l) (σ : Store) : LD S 5 [.t x] σ = some (.t (B (decide ((1048576 : Int) < l.length))), σ) := by
 refine LD_pure (A := A5) (v := .t (B (decide ((1048576 : Int) < l.length)))) (σ0 := []) rfl rfl rfl ?_ rfl σ
 rcases hx with ⟨rfl, rfl⟩ | rfl
 ·refine LV_body (A := A5) rfl Tryz.func5 rfl ?_
  refine wR rfl (by simp [lenV]; rfl) ?_
  refine wR rfl (by simp; rfl) ?_
  refine wX ?_
  try simp only [tq]
  simp [Tryz.f5]
 ·refine LV_body (A := A5) rfl Tryz.func5 rfl ?_
  refine wR rfl (by simp [lenV]; rfl) ?_
  refine wR rfl (by simp; rfl) ?_
  refine wX ?_
  try simp only [tq]
  simp [Tryz.f5]
def strsT (l : List (List Nat)) : T := .list (l.map fun s => .agg [.str s])
theorem fnd_len {long : Nat → Int} {n : Nat} : ∀ {l : List (Nat × Nat)} {k : Nat}, Fnd long n k l → l.length + k ≤ n
 | [], k, h => by simpa using h.1
 | p :: r, k, h => by
  have := fnd_len h.2.2.2.2
  have := h.1
  have := h.2.1
  simp only [List.length_cons]
  omega
theorem law_lv (hP : PairsOk QS) (hlong : ∀ σ, LD S 35 [.t (I 14), .t (.int .u8 97)] σ = some (.t (.str (List.replicate 14 97)), σ)) {x : T} {l : List Int} (hx : BytesT x l) :
  ∃ σ', LV S 4 [.t x] [] = some (.t (B true), σ') := by
 refine LV_bodyE (A := A4) rfl Tryz.func4 rfl ?_
 have hbig := big_ld hx
 refine wR rfl (by simp; rfl) ?_
 refine wR rfl (by simp [hbig]; rfl) ?_
 by_cases c0 : (1048576 : Int) < l.length
 ·refine wT rfl (by simp [c0]) ?_
  refine wR rfl (by simp; rfl) ?_
  refine wX ?_
  try simp only [tq]
  simp [Tryz.f4]
 refine wF rfl (by simp [c0]) ?_
 refine wK ?_
 obtain ⟨G, t, d1, ⟨-, SR, MK, VN, RA, n0, ps0, az0, gr, rfl, H, J⟩, d3, d4⟩ := drawSpans_ld hP hlong hx (by omega)
 obtain ⟨G2, t2, fr2, e1, ⟨-, SR2, MK2, VN2, RA2, n2, ps2, az2, gr2, rfl, H2, J2⟩, e3, e4⟩ := drawLong_ld hP hx (by omega)
 obtain ⟨v2, -, w1, -, w2⟩ := long_both H2 J2 e3 (.inl (by omega)) fr2
 obtain ⟨long, L, s1, s2, s3, s4⟩ := spans_both H J d3 (by omega) (by omega)
 have hLl := fnd_len s1
 have hrl : (rows2 L).length = L.length := by simp [rows2]
 refine wR rfl (by simp [d1, fillV, setRange]; rfl) ?_
 refine wR rfl (by simp [s4]; rfl) ?_
 refine wR rfl (by simp [s3]; rfl) ?_
 refine wR rfl (by simp [hrl]; rfl) ?_
 refine wF rfl (by simp) ?_
 refine wK ?_
 refine wR rfl (by simp; rfl) ?_
 refine wR rfl (by simp; rfl) ?_
 refine wB rfl ?_
 try simp only [tq]
 refine W_loop (I := fun m st τ => ∃ (k a : Nat) (rest : Store), m = L.length + 1 - k ∧ k ≤ L.length + 1 ∧ (k ≤ L.length → Fnd long t.length a (L.drop k)) ∧ a ≤ t.length ∧ st.vars = [(0, .t x), (2, .t (B false)), (3, .ptr 0 0 0 1), (4, .t (.str t)), (5, .t (.list (rows2 L))), (6, .t (.list (rows2 L))), (7, .t (I a)), (8, .t (I k))] ∧ τ = .cells [.t (.list (.agg [.str n0, ps0, az0] :: gr))] 0 0 :: rest) ?_ (L.length + 1) _ _ ⟨0, 0, [], rfl, Nat.zero_le _, fun _ => s1, by omega, by simp, rfl⟩
 rintro m ⟨vars, scr⟩ τ ⟨k, a, rest, rfl, hk, ha, han, hv, rfl⟩
 simp only at hv
 subst hv
 refine wR rfl (by simp [hrl]; rfl) ?_
 by_cases c1 : k ≤ L.length
 ·refine wT rfl (by simp [c1]) ?_
  refine wK ?_
  refine wB rfl ?_
  have hf := ha c1
  refine wR rfl (by simp; rfl) ?_
  refine wR rfl (by simp [hrl]; rfl) ?_
  by_cases c2 : k < L.length
  ·refine wT rfl (by simp [c2]) ?_
   obtain ⟨p, hp⟩ := X.get_of_lt c2
   obtain ⟨b, c⟩ := p
   rw [drop_get hp] at hf
   obtain ⟨f1, f2, f3, f4, f5⟩ := hf
   simp only at f1 f2 f3 f4 f5
   have hcn := fnd_len f5
   have hrk : (rows2 L)[k]? = some (.agg [I b, I c]) := by simp [rows2, hp]
   have hlb := (s2 b (by omega)).2
   rw [f3] at hlb
   refine wR rfl (by simp [hrk, getA, setA, fillV, setRange]; rfl) ?_
   refine wR rfl (by simp [eqFields, eqScal, hrk, getA, hlb, show ¬ (b : Int) < a by omega, show ¬ (c : Int) ≤ b by omega]; rfl) ?_
   refine wF rfl (by simp) ?_
   refine wK ?_
   refine wR rfl (by simp [getA]; rfl) ?_
   refine wR rfl (by simp; rfl) ?_
   refine wB rfl ?_
   try simp only [tq]
   refine W_loop (I := fun m st τ => ∃ j, m = b - j ∧ a ≤ j ∧ j ≤ b ∧ st.vars = [(0, .t x), (2, .t (B false)), (3, .ptr 0 0 0 1), (4, .t (.str t)), (5, .t (.list (rows2 L))), (6, .t (.list (rows2 L))), (7, .t (I a)), (8, .t (I k)), (9, .t (I b)), (10, .ptr (rest.length + 1) 0 0 2), (11, .t (I j))] ∧ τ = .cells [.t (.list (.agg [.str n0, ps0, az0] :: gr))] 0 0 :: (rest ++ [.cells [.t (I b), .t (I c)] 0 0])) ?_ (b - a) _ _ ⟨a, rfl, Nat.le_refl _, f1, by simp, rfl⟩
   rintro m ⟨vars, scr⟩ τ ⟨j, rfl, hj1, hj2, hv, rfl⟩
   simp only at hv
   subst hv
   refine wR rfl (by simp; rfl) ?_
   by_cases c3 : j < b
   ·refine wT rfl (by simp [c3]) ?_
    refine wK ?_
    refine wB rfl ?_
    have hlj := (s2 j (by omega)).2
    have hlt := f4 j hj1 c3
    refine wR rfl (by simp [hlj, show ¬ (j : Int) < long j by omega]; rfl) ?_
    refine wF rfl (by simp) ?_
    refine wK ?_
    refine wR rfl (by simp [IntWalk.i64_in ((j : Int) + 1) (by omega)]; rfl) ?_
    try simp only [tq]
    exact ⟨b - (j + 1), by omega, j + 1, rfl, by omega, by omega, by simp, by simp⟩
   ·refine wF rfl (by simp [c3]) ?_
    repeat apply W_seq
    refine W_exit ?_
    try simp only [tq, if_true]
    refine wR rfl (by simp [hrl]; rfl) ?_
    refine wT rfl (by simp [c2]) ?_
    refine wR rfl (by simp [hrk]; rfl) ?_
    refine wR rfl (by simp [IntWalk.i64_in ((k : Int) + 1) (by omega)]; rfl) ?_
    try simp only [tq]
    exact ⟨L.length + 1 - (k + 1), by omega, k + 1, c, rest ++ [.cells [.t (I b), .t (I c)] 0 0], rfl, by omega, fun _ => f5, by omega, by simp, rfl⟩
  ·refine wF rfl (by simp [c2]) ?_
   refine wK ?_
   have hke : k = L.length := by omega
   subst hke
   rw [List.drop_length] at hf
   obtain ⟨f1, f2⟩ := hf
   refine wR rfl (by simp; rfl) ?_
   refine wB rfl ?_
   try simp only [tq]
   refine W_loop (I := fun m st τ => ∃ j, m = t.length - j ∧ a ≤ j ∧ j ≤ t.length ∧ st.vars = [(0, .t x), (2, .t (B false)), (3, .ptr 0 0 0 1), (4, .t (.str t)), (5, .t (.list (rows2 L))), (6, .t (.list (rows2 L))), (7, .t (I a)), (8, .t (I L.length)), (9, .t (I t.length)), (11, .t (I j))] ∧ τ = .cells [.t (.list (.agg [.str n0, ps0, az0] :: gr))] 0 0 :: rest) ?_ (t.length - a) _ _ ⟨a, rfl, Nat.le_refl _, f1, by simp, rfl⟩
   rintro m ⟨vars, scr⟩ τ ⟨j, rfl, hj1, hj2, hv, rfl⟩
   simp only at hv
   subst hv
   refine wR rfl (by simp; rfl) ?_
   by_cases c3 : j < t.length
   ·refine wT rfl (by simp [c3]) ?_
    refine wK ?_
    refine wB rfl ?_
    have hlj := (s2 j (by omega)).2
    have hlt := f2 j hj1 c3
    refine wR rfl (by simp [hlj, show ¬ (j : Int) < long j by omega]; rfl) ?_
    refine wF rfl (by simp) ?_
    refine wK ?_
    refine wR rfl (by simp [IntWalk.i64_in ((j : Int) + 1) (by omega)]; rfl) ?_
    try simp only [tq]
    exact ⟨t.length - (j + 1), by omega, j + 1, rfl, by omega, by omega, by simp, by simp⟩
   ·refine wF rfl (by simp [c3]) ?_
    repeat apply W_seq
    refine W_exit ?_
    try simp only [tq, if_true]
    refine wR rfl (by simp [hrl]; rfl) ?_
    refine wF rfl (by simp) ?_
    refine wK ?_
    refine wR rfl (by simp [IntWalk.i64_in ((L.length : Int) + 1) (by omega)]; rfl) ?_
    try simp only [tq]
    exact ⟨0, by omega, L.length + 1, a, rest, by omega, by omega, fun h => by omega, by omega, by simp, rfl⟩
 ·refine wF rfl (by simp [show L.length < k by omega]) ?_
  repeat apply W_seq
  refine W_exit ?_
  try simp only [tq, if_true]
  refine wR rfl (by simp [e1, getA, setA, fillV, setRange]; rfl) ?_
  refine wR rfl (by simp [getA, w2, w1, long_none, buildV, fieldSizes, fillV, repZero, mkAgg, allT]; rfl) ?_
  refine wX ?_
  try simp only [tq]
  simp [Tryz.f4]
end E
