/- A part of the proof. No statement of the claim is in it. -/
import Derived.Test.YthpjheboegobkaaVTs20
open Go Go.V Go.Proofs
namespace X
set_option maxRecDepth 100000
set_option maxHeartbeats 4000000
set_option linter.unusedSimpArgs false
set_option linter.unusedVariables false
attribute [-simp] lenV idxV setRange
theorem law4_lv {x : T} {l : List LN} (hx : IsL x LN.enc l) (hok : ∀ m ∈ l, m.ok) (hl0 : l.length ≤ 9223372036854775807) (at_ : Int) : ∃ σ', LV S 4 [.t (.agg [x]), .t (I at_)] [] = some (.t (B true), σ') := by
  refine LV_bodyE (A := A4) rfl Try.func4 rfl ?_
  repeat apply W_seq
  refine W_region (by simp; first | exact ⟨rfl, rfl⟩ | exact rfl) ?_
  try simp only [thenQ, blockQ, Ann.kill, List.find?_nil]
  repeat apply W_seq
  refine W_region (by simp; first | exact ⟨rfl, rfl⟩ | exact rfl) ?_
  try simp only [thenQ, blockQ, Ann.kill, List.find?_nil]
  repeat apply W_seq
  refine W_region (by simp [szTree_ld hx hok 1048576 _ hl0 (by omega) (by omega)]; first | exact ⟨rfl, rfl⟩ | exact rfl) ?_
  try simp only [thenQ, blockQ, Ann.kill, List.find?_nil]
  repeat apply W_seq
  refine W_region (by simp; first | exact ⟨rfl, rfl⟩ | exact rfl) ?_
  try simp only [thenQ, blockQ, Ann.kill, List.find?_nil]
  by_cases c : szT 1048576 (LNs l) < 0
  · repeat apply W_seq
    refine W_cond (t := true) (by simp [c]) ?_
    simp only [if_true, if_false, Bool.false_eq_true]
    repeat apply W_seq
    refine W_region (by simp; first | exact ⟨rfl, rfl⟩ | exact rfl) ?_
    try simp only [thenQ, blockQ, Ann.kill, List.find?_nil]
    refine W_ret ?_
    try simp only [thenQ, blockQ]
    simp [Try.f4]
  repeat apply W_seq
  refine W_cond (t := false) (by simp [c]) ?_
  simp only [if_true, if_false, Bool.false_eq_true]
  refine W_skip ?_
  try simp only [thenQ, blockQ, Ann.kill, List.find?_nil]
  obtain ⟨hl, hn, _, _⟩ := szT_fit (by omega) (by omega) c
  have hll : l.length ≤ 1048576 := by simpa [LNs] using hl
  have he0 : ¬ (endL 1 (LNs l) < 0) := by have := endL_le 1 (LNs l); omega
  obtain ⟨t1, σ1, e1, T1, G1⟩ := to_sl hx hok hn hll [.cells [.t x] 0 0]
  obtain ⟨v2, σ2, e2, l2, s2, O2⟩ := sub_spec T1 hl hn at_
  have G2 : Grow σ1 σ2 := ⟨l2, s2⟩
  cases hr : sub (LNs l) at_ with
  | some r =>
    rw [hr] at O2
    obtain ⟨tw, rfl, TW⟩ := O2
    obtain ⟨⟨hr60, hrf⟩, hr0⟩ := sub_fit hn hr
    have hrl : r.length ≤ 1048576 := by omega
    have hr1 : ¬ (endL 1 r < 0) := by have := endL_le 1 r; omega
    repeat apply W_seq
    refine W_region (by simp [e1, e2, getA, setA, setRange1]; first | exact ⟨rfl, rfl⟩ | exact rfl) ?_
    try simp only [thenQ, blockQ, Ann.kill, List.find?_nil]
    have b0 : σ2[0]? = some (.cells [.t x] 0 0) := G2.get (G1.get rfl)
    have BW := Bx.new TW
    replace b0 := (Grow.app σ2 [.cells [tw.sl] 0 0]).get b0
    obtain ⟨σ3, h3⟩ : ∃ y, y = σ2 ++ [.cells [tw.sl] 0 0] := ⟨_, rfl⟩
    rw [← h3] at BW b0 ⊢
    obtain ⟨tx, σ4, e4, TX, G4⟩ := to_sl hx hok hn hll σ3
    repeat apply W_seq
    refine W_region (by simp [b0, e4, getA, setA, setRange1]; first | exact ⟨rfl, rfl⟩ | exact rfl) ?_
    try simp only [thenQ, blockQ, Ann.kill, List.find?_nil]
    replace b0 := ((G4).trans (Grow.app σ4 [.cells [tx.sl] 0 0])).get b0
    replace BW := BW.grow ((G4).trans (Grow.app σ4 [.cells [tx.sl] 0 0]))
    have BX := Bx.new TX
    obtain ⟨σ5, h5⟩ : ∃ y, y = σ4 ++ [.cells [tx.sl] 0 0] := ⟨_, rfl⟩
    rw [← h5] at BW BX b0 ⊢
    obtain ⟨v6, σ6, e6, l6, s6, O6⟩ := sub_impl BX.2 hl hn at_
    have G6 : Grow σ5 σ6 := ⟨l6, s6⟩
    rw [hr] at O6
    obtain ⟨tg, rfl, TG⟩ := O6
    repeat apply W_seq
    refine W_region (by simp [b0, BX.1, e6, getA, setA, setRange1]; first | exact ⟨rfl, rfl⟩ | exact rfl) ?_
    try simp only [thenQ, blockQ, Ann.kill, List.find?_nil]
    replace b0 := ((G6).trans (Grow.app σ6 [.cells [tg.sl] 0 0])).get b0
    replace BW := BW.grow ((G6).trans (Grow.app σ6 [.cells [tg.sl] 0 0]))
    replace BX := BX.grow ((G6).trans (Grow.app σ6 [.cells [tg.sl] 0 0]))
    have BG := Bx.new TG
    obtain ⟨σ7, h7⟩ : ∃ y, y = σ6 ++ [.cells [tg.sl] 0 0] := ⟨_, rfl⟩
    have o1 : 1 ≤ σ1.length := by have := G1.1; simp at this; omega
    have o2 : σ1.length ≤ σ2.length := l2
    have o3 : σ2.length < σ3.length := by rw [h3]; simp
    have o4 : σ3.length ≤ σ4.length := G4.1
    have o5 : σ4.length < σ5.length := by rw [h5]; simp
    have o6 : σ5.length ≤ σ6.length := l6
    rw [← h7] at BW BX BG b0 ⊢
    -- the first comparison
    obtain ⟨σ8, e8, G8⟩ := eq_sl BG.2 BW.2 (Nat.le_of_lt (get_lt BG.1)) (Nat.le_of_lt (get_lt BW.1)) hrl hrf
    repeat apply W_seq
    refine W_region (by simp [BG.1, BW.1, e8]; first | exact ⟨rfl, rfl⟩ | exact rfl) ?_
    try simp only [thenQ, blockQ, Ann.kill, List.find?_nil]
    repeat apply W_seq
    refine W_cond (t := false) (by simp) ?_
    simp only [if_true, if_false, Bool.false_eq_true]
    refine W_skip ?_
    try simp only [thenQ, blockQ, Ann.kill, List.find?_nil]
    replace b0 := G8.get b0
    replace BW := BW.grow G8
    replace BX := BX.grow G8
    replace BG := BG.grow G8
    -- the argument is as it was
    obtain ⟨ty, σ9, e9, TY, G9⟩ := to_sl hx hok hn hll σ8
    have BX9 := BX.grow G9
    obtain ⟨σA, eA, GA⟩ := eq_sl BX9.2 TY (Nat.le_of_lt (get_lt BX9.1)) (Nat.le_refl _) hl hn
    repeat apply W_seq
    refine W_regD (fun _ => true) rfl rfl rfl (fun b hb => by
      simp (maxDischargeDepth := 12) [runOpsD, loadOf, chkH, live_all, okL_live, okL_nil, okL_cons, okAt_load, b0, BX.1, e9, (G9.get b0), BX9.1, eA, (GA.get (G9.get b0)), (BX9.grow GA).1]
      first | exact ⟨rfl, rfl⟩ | exact rfl) ?_
    try simp only [thenQ, blockQ, Ann.kill, List.find?_nil]
    repeat apply W_seq
    refine W_cond (t := false) (by simp) ?_
    simp only [if_true, if_false, Bool.false_eq_true]
    refine W_skip ?_
    try simp only [thenQ, blockQ, Ann.kill, List.find?_nil]
    replace b0 := GA.get (G9.get b0)
    replace BW := (BW.grow G9).grow GA
    replace BX := BX9.grow GA
    replace BG := (BG.grow G9).grow GA
    clear BX9
    -- the argument is marked
    repeat apply W_seq
    refine W_region (by simp; first | exact ⟨rfl, rfl⟩ | exact rfl) ?_
    try simp only [thenQ, blockQ, Ann.kill, List.find?_nil]
    obtain ⟨σB, eB, TB, OB⟩ := mark_sl BX.2 (Nat.le_of_lt (get_lt BX.1)) hl hn
    repeat apply W_seq
    refine W_region (by simp [BX.1, eB]; first | exact ⟨rfl, rfl⟩ | exact rfl) ?_
    try simp only [thenQ, blockQ, Ann.kill, List.find?_nil]
    replace b0 := OB.get b0 (.inl (by omega))
    replace BW := BW.far OB (.inl (by omega)) (by omega)
    replace BG := BG.far OB (.inr (by omega)) (by omega)
    replace BX := BX.self OB TB
    obtain ⟨σC, eC, GC⟩ := eq_sl BG.2 BW.2 (Nat.le_of_lt (get_lt BG.1)) (Nat.le_of_lt (get_lt BW.1)) hrl hrf
    repeat apply W_seq
    refine W_region (by simp [he0, BG.1, BW.1, eC]; first | exact ⟨rfl, rfl⟩ | exact rfl) ?_
    try simp only [thenQ, blockQ, Ann.kill, List.find?_nil]
    repeat apply W_seq
    refine W_cond (t := false) (by simp) ?_
    simp only [if_true, if_false, Bool.false_eq_true]
    refine W_skip ?_
    try simp only [thenQ, blockQ, Ann.kill, List.find?_nil]
    replace b0 := GC.get b0
    replace BW := BW.grow GC
    replace BG := BG.grow GC
    -- the result is marked
    repeat apply W_seq
    refine W_region (by simp; first | exact ⟨rfl, rfl⟩ | exact rfl) ?_
    try simp only [thenQ, blockQ, Ann.kill, List.find?_nil]
    obtain ⟨σD, eD, TD, OD⟩ := mark_sl BG.2 (Nat.le_of_lt (get_lt BG.1)) hrl hrf
    repeat apply W_seq
    refine W_region (by simp [BG.1, eD]; first | exact ⟨rfl, rfl⟩ | exact rfl) ?_
    try simp only [thenQ, blockQ, Ann.kill, List.find?_nil]
    replace b0 := OD.get b0 (.inl (by omega))
    replace BW := BW.far OD (.inl (by omega)) (by omega)
    replace BG := BG.self OD TD
    repeat apply W_seq
    refine W_region (by simp; first | exact ⟨rfl, rfl⟩ | exact rfl) ?_
    try simp only [thenQ, blockQ, Ann.kill, List.find?_nil]
    repeat apply W_seq
    refine W_region (by simp [BG.1, held_sl BG.2 hrl hrf]; first | exact ⟨rfl, rfl⟩ | exact rfl) ?_
    try simp only [thenQ, blockQ, Ann.kill, List.find?_nil]
    repeat apply W_seq
    refine W_region (by simp; first | exact ⟨rfl, rfl⟩ | exact rfl) ?_
    try simp only [thenQ, blockQ, Ann.kill, List.find?_nil]
    repeat apply W_seq
    refine W_cond (t := false) (by simp [hr1]) ?_
    simp only [if_true, if_false, Bool.false_eq_true]
    refine W_skip ?_
    try simp only [thenQ, blockQ, Ann.kill, List.find?_nil]
    repeat apply W_seq
    refine W_region (by simp; first | exact ⟨rfl, rfl⟩ | exact rfl) ?_
    try simp only [thenQ, blockQ, Ann.kill, List.find?_nil]
    repeat apply W_seq
    refine W_cond (t := false) (by simp) ?_
    simp only [if_true, if_false, Bool.false_eq_true]
    refine W_skip ?_
    try simp only [thenQ, blockQ, Ann.kill, List.find?_nil]
    -- once more
    obtain ⟨tz, σE, eE, TE, GE⟩ := to_sl hx hok hn hll σD
    obtain ⟨vF, σF, eF, lF, sF, OF⟩ := sub_impl TE hl hn at_
    have GF : Grow σE σF := ⟨lF, sF⟩
    rw [hr] at OF
    obtain ⟨th, rfl, TH⟩ := OF
    repeat apply W_seq
    refine W_region (by simp [b0, eE, eF, getA, setA, setRange1]; first | exact ⟨rfl, rfl⟩ | exact rfl) ?_
    try simp only [thenQ, blockQ, Ann.kill, List.find?_nil]
    have GG := (GE.trans GF).trans (Grow.app σF [.cells [th.sl] 0 0])
    replace b0 := GG.get b0
    replace BW := BW.grow GG
    replace BG := BG.grow GG
    have BH := Bx.new TH
    obtain ⟨σG, hG⟩ : ∃ y, y = σF ++ [.cells [th.sl] 0 0] := ⟨_, rfl⟩
    rw [← hG] at BW BG BH b0 ⊢
    obtain ⟨σH, eH, GH⟩ := eq_sl BH.2 BW.2 (Nat.le_of_lt (get_lt BH.1)) (Nat.le_of_lt (get_lt BW.1)) hrl hrf
    repeat apply W_seq
    refine W_region (by simp [BH.1, BW.1, eH]; first | exact ⟨rfl, rfl⟩ | exact rfl) ?_
    try simp only [thenQ, blockQ, Ann.kill, List.find?_nil]
    repeat apply W_seq
    refine W_cond (t := false) (by simp) ?_
    simp only [if_true, if_false, Bool.false_eq_true]
    refine W_skip ?_
    try simp only [thenQ, blockQ, Ann.kill, List.find?_nil]
    replace BG := BG.grow GH
    repeat apply W_seq
    refine W_region (by simp; first | exact ⟨rfl, rfl⟩ | exact rfl) ?_
    try simp only [thenQ, blockQ, Ann.kill, List.find?_nil]
    repeat apply W_seq
    refine W_region (by simp [BG.1, held_sl BG.2 hrl hrf]; first | exact ⟨rfl, rfl⟩ | exact rfl) ?_
    try simp only [thenQ, blockQ, Ann.kill, List.find?_nil]
    repeat apply W_seq
    refine W_region (by simp; first | exact ⟨rfl, rfl⟩ | exact rfl) ?_
    try simp only [thenQ, blockQ, Ann.kill, List.find?_nil]
    repeat apply W_seq
    refine W_cond (t := false) (by simp [hr1]) ?_
    simp only [if_true, if_false, Bool.false_eq_true]
    refine W_skip ?_
    try simp only [thenQ, blockQ, Ann.kill, List.find?_nil]
    repeat apply W_seq
    refine W_region (by simp; first | exact ⟨rfl, rfl⟩ | exact rfl) ?_
    try simp only [thenQ, blockQ, Ann.kill, List.find?_nil]
    repeat apply W_seq
    refine W_cond (t := false) (by simp) ?_
    simp only [if_true, if_false, Bool.false_eq_true]
    refine W_skip ?_
    try simp only [thenQ, blockQ, Ann.kill, List.find?_nil]
    repeat apply W_seq
    refine W_region (by simp; first | exact ⟨rfl, rfl⟩ | exact rfl) ?_
    try simp only [thenQ, blockQ, Ann.kill, List.find?_nil]
    refine W_ret ?_
    try simp only [thenQ, blockQ]
    simp [Try.f4]
  | none =>
    rw [hr] at O2
    subst O2
    repeat apply W_seq
    refine W_region (by simp [e1, e2, getA, setA, setRange1]; first | exact ⟨rfl, rfl⟩ | exact rfl) ?_
    try simp only [thenQ, blockQ, Ann.kill, List.find?_nil]
    have b0 : σ2[0]? = some (.cells [.t x] 0 0) := G2.get (G1.get rfl)
    replace b0 := (Grow.app σ2 [.cells [.t .nils] 0 0]).get b0
    have bW : (σ2 ++ [.cells [.t .nils] 0 0])[σ2.length]? = some (.cells [.t .nils] 0 0) := by rw [getA]; rfl
    obtain ⟨σ3, h3⟩ : ∃ y, y = σ2 ++ [.cells [.t .nils] 0 0] := ⟨_, rfl⟩
    rw [← h3] at bW b0 ⊢
    obtain ⟨tx, σ4, e4, TX, G4⟩ := to_sl hx hok hn hll σ3
    repeat apply W_seq
    refine W_region (by simp [b0, e4, getA, setA, setRange1]; first | exact ⟨rfl, rfl⟩ | exact rfl) ?_
    try simp only [thenQ, blockQ, Ann.kill, List.find?_nil]
    replace b0 := ((G4).trans (Grow.app σ4 [.cells [tx.sl] 0 0])).get b0
    replace bW := ((G4).trans (Grow.app σ4 [.cells [tx.sl] 0 0])).get bW
    have BX := Bx.new TX
    obtain ⟨σ5, h5⟩ : ∃ y, y = σ4 ++ [.cells [tx.sl] 0 0] := ⟨_, rfl⟩
    rw [← h5] at bW BX b0 ⊢
    obtain ⟨v6, σ6, e6, l6, s6, O6⟩ := sub_impl BX.2 hl hn at_
    have G6 : Grow σ5 σ6 := ⟨l6, s6⟩
    rw [hr] at O6
    subst O6
    repeat apply W_seq
    refine W_region (by simp [b0, BX.1, e6, getA, setA, setRange1]; first | exact ⟨rfl, rfl⟩ | exact rfl) ?_
    try simp only [thenQ, blockQ, Ann.kill, List.find?_nil]
    replace b0 := ((G6).trans (Grow.app σ6 [.cells [.t .nils] 0 0])).get b0
    replace bW := ((G6).trans (Grow.app σ6 [.cells [.t .nils] 0 0])).get bW
    replace BX := BX.grow ((G6).trans (Grow.app σ6 [.cells [.t .nils] 0 0]))
    have bG : (σ6 ++ [.cells [.t .nils] 0 0])[σ6.length]? = some (.cells [.t .nils] 0 0) := by rw [getA]; rfl
    obtain ⟨σ7, h7⟩ : ∃ y, y = σ6 ++ [.cells [.t .nils] 0 0] := ⟨_, rfl⟩
    have o1 : 1 ≤ σ1.length := by have := G1.1; simp at this; omega
    have o2 : σ1.length ≤ σ2.length := l2
    have o3 : σ2.length < σ3.length := by rw [h3]; simp
    have o4 : σ3.length ≤ σ4.length := G4.1
    have o5 : σ4.length < σ5.length := by rw [h5]; simp
    have o6 : σ5.length ≤ σ6.length := l6
    rw [← h7] at bW BX bG b0 ⊢
    obtain ⟨σ8, e8, G8⟩ := eq_nil σ7
    repeat apply W_seq
    refine W_region (by simp [bG, bW, e8]; first | exact ⟨rfl, rfl⟩ | exact rfl) ?_
    try simp only [thenQ, blockQ, Ann.kill, List.find?_nil]
    repeat apply W_seq
    refine W_cond (t := false) (by simp) ?_
    simp only [if_true, if_false, Bool.false_eq_true]
    refine W_skip ?_
    try simp only [thenQ, blockQ, Ann.kill, List.find?_nil]
    replace b0 := G8.get b0
    replace bW := G8.get bW
    replace BX := BX.grow G8
    replace bG := G8.get bG
    obtain ⟨ty, σ9, e9, TY, G9⟩ := to_sl hx hok hn hll σ8
    have BX9 := BX.grow G9
    obtain ⟨σA, eA, GA⟩ := eq_sl BX9.2 TY (Nat.le_of_lt (get_lt BX9.1)) (Nat.le_refl _) hl hn
    repeat apply W_seq
    refine W_regD (fun _ => true) rfl rfl rfl (fun b hb => by
      simp (maxDischargeDepth := 12) [runOpsD, loadOf, chkH, live_all, okL_live, okL_nil, okL_cons, okAt_load, b0, BX.1, e9, (G9.get b0), BX9.1, eA, (GA.get (G9.get b0)), (BX9.grow GA).1]
      first | exact ⟨rfl, rfl⟩ | exact rfl) ?_
    try simp only [thenQ, blockQ, Ann.kill, List.find?_nil]
    repeat apply W_seq
    refine W_cond (t := false) (by simp) ?_
    simp only [if_true, if_false, Bool.false_eq_true]
    refine W_skip ?_
    try simp only [thenQ, blockQ, Ann.kill, List.find?_nil]
    replace b0 := GA.get (G9.get b0)
    replace bW := GA.get (G9.get bW)
    replace BX := BX9.grow GA
    replace bG := GA.get (G9.get bG)
    clear BX9
    repeat apply W_seq
    refine W_region (by simp; first | exact ⟨rfl, rfl⟩ | exact rfl) ?_
    try simp only [thenQ, blockQ, Ann.kill, List.find?_nil]
    obtain ⟨σB, eB, TB, OB⟩ := mark_sl BX.2 (Nat.le_of_lt (get_lt BX.1)) hl hn
    repeat apply W_seq
    refine W_region (by simp [BX.1, eB]; first | exact ⟨rfl, rfl⟩ | exact rfl) ?_
    try simp only [thenQ, blockQ, Ann.kill, List.find?_nil]
    replace b0 := OB.get b0 (.inl (by omega))
    replace bW := OB.get bW (.inl (by omega))
    replace bG := OB.get bG (.inr (by omega))
    obtain ⟨σC, eC, GC⟩ := eq_nil σB
    repeat apply W_seq
    refine W_region (by simp [he0, bG, bW, eC]; first | exact ⟨rfl, rfl⟩ | exact rfl) ?_
    try simp only [thenQ, blockQ, Ann.kill, List.find?_nil]
    repeat apply W_seq
    refine W_cond (t := false) (by simp) ?_
    simp only [if_true, if_false, Bool.false_eq_true]
    refine W_skip ?_
    try simp only [thenQ, blockQ, Ann.kill, List.find?_nil]
    replace b0 := GC.get b0
    replace bW := GC.get bW
    replace bG := GC.get bG
    repeat apply W_seq
    refine W_region (by simp; first | exact ⟨rfl, rfl⟩ | exact rfl) ?_
    try simp only [thenQ, blockQ, Ann.kill, List.find?_nil]
    obtain ⟨σD, eD, GD⟩ := mark_nil σC
    repeat apply W_seq
    refine W_region (by simp [bG, eD]; first | exact ⟨rfl, rfl⟩ | exact rfl) ?_
    try simp only [thenQ, blockQ, Ann.kill, List.find?_nil]
    replace b0 := GD.get b0
    replace bW := GD.get bW
    replace bG := GD.get bG
    repeat apply W_seq
    refine W_region (by simp; first | exact ⟨rfl, rfl⟩ | exact rfl) ?_
    try simp only [thenQ, blockQ, Ann.kill, List.find?_nil]
    repeat apply W_seq
    refine W_region (by simp [bG, held_nil]; first | exact ⟨rfl, rfl⟩ | exact rfl) ?_
    try simp only [thenQ, blockQ, Ann.kill, List.find?_nil]
    repeat apply W_seq
    refine W_region (by simp; first | exact ⟨rfl, rfl⟩ | exact rfl) ?_
    try simp only [thenQ, blockQ, Ann.kill, List.find?_nil]
    repeat apply W_seq
    refine W_cond (t := false) (by simp) ?_
    simp only [if_true, if_false, Bool.false_eq_true]
    refine W_skip ?_
    try simp only [thenQ, blockQ, Ann.kill, List.find?_nil]
    repeat apply W_seq
    refine W_region (by simp; first | exact ⟨rfl, rfl⟩ | exact rfl) ?_
    try simp only [thenQ, blockQ, Ann.kill, List.find?_nil]
    repeat apply W_seq
    refine W_cond (t := false) (by simp) ?_
    simp only [if_true, if_false, Bool.false_eq_true]
    refine W_skip ?_
    try simp only [thenQ, blockQ, Ann.kill, List.find?_nil]
    obtain ⟨tz, σE, eE, TE, GE⟩ := to_sl hx hok hn hll σD
    obtain ⟨vF, σF, eF, lF, sF, OF⟩ := sub_impl TE hl hn at_
    have GF : Grow σE σF := ⟨lF, sF⟩
    rw [hr] at OF
    subst OF
    repeat apply W_seq
    refine W_region (by simp [b0, eE, eF, getA, setA, setRange1]; first | exact ⟨rfl, rfl⟩ | exact rfl) ?_
    try simp only [thenQ, blockQ, Ann.kill, List.find?_nil]
    have GG := (GE.trans GF).trans (Grow.app σF [.cells [.t .nils] 0 0])
    replace bW := GG.get bW
    replace bG := GG.get bG
    have bH : (σF ++ [.cells [.t .nils] 0 0])[σF.length]? = some (.cells [.t .nils] 0 0) := by rw [getA]; rfl
    obtain ⟨σG, hG⟩ : ∃ y, y = σF ++ [.cells [.t .nils] 0 0] := ⟨_, rfl⟩
    rw [← hG] at bW bG bH ⊢
    obtain ⟨σH, eH, GH⟩ := eq_nil σG
    repeat apply W_seq
    refine W_region (by simp [bH, bW, eH]; first | exact ⟨rfl, rfl⟩ | exact rfl) ?_
    try simp only [thenQ, blockQ, Ann.kill, List.find?_nil]
    repeat apply W_seq
    refine W_cond (t := false) (by simp) ?_
    simp only [if_true, if_false, Bool.false_eq_true]
    refine W_skip ?_
    try simp only [thenQ, blockQ, Ann.kill, List.find?_nil]
    replace bG := GH.get bG
    repeat apply W_seq
    refine W_region (by simp; first | exact ⟨rfl, rfl⟩ | exact rfl) ?_
    try simp only [thenQ, blockQ, Ann.kill, List.find?_nil]
    repeat apply W_seq
    refine W_region (by simp [bG, held_nil]; first | exact ⟨rfl, rfl⟩ | exact rfl) ?_
    try simp only [thenQ, blockQ, Ann.kill, List.find?_nil]
    repeat apply W_seq
    refine W_region (by simp; first | exact ⟨rfl, rfl⟩ | exact rfl) ?_
    try simp only [thenQ, blockQ, Ann.kill, List.find?_nil]
    repeat apply W_seq
    refine W_cond (t := false) (by simp) ?_
    simp only [if_true, if_false, Bool.false_eq_true]
    refine W_skip ?_
    try simp only [thenQ, blockQ, Ann.kill, List.find?_nil]
    repeat apply W_seq
    refine W_region (by simp; first | exact ⟨rfl, rfl⟩ | exact rfl) ?_
    try simp only [thenQ, blockQ, Ann.kill, List.find?_nil]
    repeat apply W_seq
    refine W_cond (t := false) (by simp) ?_
    simp only [if_true, if_false, Bool.false_eq_true]
    refine W_skip ?_
    try simp only [thenQ, blockQ, Ann.kill, List.find?_nil]
    repeat apply W_seq
    refine W_region (by simp; first | exact ⟨rfl, rfl⟩ | exact rfl) ?_
    try simp only [thenQ, blockQ, Ann.kill, List.find?_nil]
    refine W_ret ?_
    try simp only [thenQ, blockQ]
    simp [Try.f4]
