/- A part of the proof. No statement of the claim is in it. -/
import Derived.Test.YthpjheboegobkaaVTs21
open Go Go.V Go.Proofs
namespace X
set_option maxRecDepth 100000
set_option maxHeartbeats 4000000
set_option linter.unusedSimpArgs false
set_option linter.unusedVariables false
attribute [-simp] lenV idxV setRange
theorem mark_k {σ : Store} {t : Tr} {l : List N} {a p : Nat} (h : TS σ t.sl l a p) (hp : p ≤ σ.length) (k : Int) (h0 : 0 ≤ k) (h1 : k ≤ 4398046511104) (hl : l.length ≤ 1048576) (hn : ∀ n ∈ l, n.fit) :
    ∃ σ', LD S 16 [.agg [t.sl], .t (I k)] σ = some (.t (I (endL k l)), σ') ∧ TS σ' t.sl (mkL k l) a p ∧ Out8 a p σ σ' := by
  have hb := endL_bound l k hn
  obtain ⟨σ', h1, h2, h3, h4⟩ := markTree_ld h hp k (by omega) (fun n h => (hn n h).ok) (by omega) (by omega)
  exact ⟨σ', h1, h2, h3, h4⟩
theorem load_box {σ : Store} {p : Nat} {x : T} (h : σ[p]? = some (.cells [.t x] 0 0)) : loadV σ { agg := true, size := 1, bytes := 24, zero := some (.agg [.nils]), shape := .struct [(0,30)], eqs := false } (.ptr p 0 0 1) = some (.t (.agg [x])) := by
  simp only [loadV]
  rw [h]
  rfl
theorem law5_lv {x y : T} {l m : List LN} (hx : IsL x LN.enc l) (hok : ∀ m ∈ l, m.ok) (hl0 : l.length ≤ 9223372036854775807) (hy : IsL y LN.enc m) (hok2 : ∀ n ∈ m, n.ok) (hm0 : m.length ≤ 9223372036854775807) (at_ : Int) :
    ∃ σ', LV S 5 [.t (.agg [x]), .t (I at_), .t (.agg [y])] [] = some (.t (B true), σ') := by
  refine LV_bodyE (A := A5) rfl Try.func5 rfl ?_
  repeat apply W_seq
  refine W_region (by simp; first | exact ⟨rfl, rfl⟩ | exact rfl) ?_
  try simp only [thenQ, blockQ, Ann.kill, List.find?_nil]
  repeat apply W_seq
  refine W_region (by simp; first | exact ⟨rfl, rfl⟩ | exact rfl) ?_
  try simp only [thenQ, blockQ, Ann.kill, List.find?_nil]
  repeat apply W_seq
  refine W_region (by simp [szTree_ld hx hok 1048576 _ hl0 (by omega) (by omega)]; first | exact ⟨rfl, rfl⟩ | exact rfl) ?_
  try simp only [thenQ, blockQ, Ann.kill, List.find?_nil]
  repeat apply W_seq
  refine W_region (by simp; first | exact ⟨rfl, rfl⟩ | exact rfl) ?_
  try simp only [thenQ, blockQ, Ann.kill, List.find?_nil]
  by_cases c : szT 1048576 (LNs l) < 0
  · repeat apply W_seq
    refine W_cond (t := true) (by simp [c]) ?_
    simp only [if_true, if_false, Bool.false_eq_true]
    repeat apply W_seq
    refine W_region (by simp; first | exact ⟨rfl, rfl⟩ | exact rfl) ?_
    try simp only [thenQ, blockQ, Ann.kill, List.find?_nil]
    refine W_ret ?_
    try simp only [thenQ, blockQ]
    simp [Try.f5]
  repeat apply W_seq
  refine W_cond (t := false) (by simp [c]) ?_
  simp only [if_true, if_false, Bool.false_eq_true]
  refine W_skip ?_
  try simp only [thenQ, blockQ, Ann.kill, List.find?_nil]
  obtain ⟨hl, hn, z0, z1⟩ := szT_fit (by omega) (by omega) c
  have hll : l.length ≤ 1048576 := by simpa [LNs] using hl
  repeat apply W_seq
  refine W_region (by simp [szTree_ld hy hok2 (szT 1048576 (LNs l)) _ hm0 z0 z1]; first | exact ⟨rfl, rfl⟩ | exact rfl) ?_
  try simp only [thenQ, blockQ, Ann.kill, List.find?_nil]
  repeat apply W_seq
  refine W_region (by simp; first | exact ⟨rfl, rfl⟩ | exact rfl) ?_
  try simp only [thenQ, blockQ, Ann.kill, List.find?_nil]
  by_cases c2 : szT (szT 1048576 (LNs l)) (LNs m) < 0
  · repeat apply W_seq
    refine W_cond (t := true) (by simp [c2]) ?_
    simp only [if_true, if_false, Bool.false_eq_true]
    repeat apply W_seq
    refine W_region (by simp; first | exact ⟨rfl, rfl⟩ | exact rfl) ?_
    try simp only [thenQ, blockQ, Ann.kill, List.find?_nil]
    refine W_ret ?_
    try simp only [thenQ, blockQ]
    simp [Try.f5]
  repeat apply W_seq
  refine W_cond (t := false) (by simp [c2]) ?_
  simp only [if_true, if_false, Bool.false_eq_true]
  refine W_skip ?_
  try simp only [thenQ, blockQ, Ann.kill, List.find?_nil]
  obtain ⟨hm, hmn, _, _⟩ := szT_fit z0 z1 c2
  have hml : m.length ≤ 1048576 := by simpa [LNs] using hm
  have hb1 := endL_bound (LNs l) 1 hn
  have hb2 := endL_le 1 (LNs l)
  have hb3 := endL_le (endL 1 (LNs l)) (LNs m)
  have he0 : ¬ (endL (endL 1 (LNs l)) (LNs m) < 0) := by omega
  obtain ⟨t1, σ1, e1, T1, G1⟩ := to_sl hx hok hn hll [.cells [.t x] 0 0, .cells [.t y] 0 0]
  obtain ⟨u1, σ2, f1, U1, G2⟩ := to_sl hy hok2 hmn hml σ1
  obtain ⟨v2, σ3, e2, l2, s2, O2⟩ := swp_spec (G2.ts T1 (Nat.le_refl _)) U1 hl hn hm hmn at_
  have G3 : Grow σ2 σ3 := ⟨l2, s2⟩
  have b01 : σ1[0]? = some (.cells [.t x] 0 0) := G1.get rfl
  have b11 : σ1[1]? = some (.cells [.t y] 0 0) := G1.get rfl
  have b02 := G2.get b01
  have b12 := G2.get b11
  have b03 := G3.get b02
  have b13 := G3.get b12
  have b04 : ∀ r, (σ3 ++ r)[0]? = some (.cells [.t x] 0 0) := fun r => (Grow.app σ3 r).get b03
  have b14 : ∀ r, (σ3 ++ r)[1]? = some (.cells [.t y] 0 0) := fun r => (Grow.app σ3 r).get b13
  have k04 : ∀ r, okAt (σ3 ++ r) { agg := true, size := 1, bytes := 24, zero := some (.agg [.nils]), shape := .struct [(0,30)], eqs := false } (.ptr 0 0 0 1) (.t (.agg [x])) = true := fun r => okAt_load (load_box (b04 r))
  have k14 : ∀ r, okAt (σ3 ++ r) { agg := true, size := 1, bytes := 24, zero := some (.agg [.nils]), shape := .struct [(0,30)], eqs := false } (.ptr 1 0 0 1) (.t (.agg [y])) = true := fun r => okAt_load (load_box (b14 r))
  cases hr : swp (LNs l) at_ (LNs m) with
  | some r =>
    rw [hr] at O2
    obtain ⟨tw, rfl, TW⟩ := O2
    obtain ⟨⟨hr60, hrf⟩, hr0⟩ := swp_fit hn hmn hr
    have hrl : r.length ≤ 1048576 := by omega
    have hr1 : ¬ (endL 1 r < 0) := by have := endL_le 1 r; omega
    repeat apply W_seq
    refine W_regD (fun _ => true) rfl rfl rfl (fun b hb => by
      simp (maxDischargeDepth := 12) [runOpsD, loadOf, chkH, live_all, okL_live, okL_nil, okL_cons, okAt_load, e1, f1, e2, b01, b11, b02, b12, b03, b13, b04, b14, k04, k14, getA, setA, setRange1]
      first | exact ⟨rfl, rfl⟩ | exact rfl) ?_
    try simp only [thenQ, blockQ, Ann.kill, List.find?_nil]
    have b0 := b04 [.cells [tw.sl] 0 0]
    have b1 := b14 [.cells [tw.sl] 0 0]
    have BW := Bx.new TW
    obtain ⟨σ4, h4⟩ : ∃ y, y = σ3 ++ [.cells [tw.sl] 0 0] := ⟨_, rfl⟩
    rw [← h4] at BW b0 b1 ⊢
    obtain ⟨tx, σ5, e5, TX, G5⟩ := to_sl hx hok hn hll σ4
    repeat apply W_seq
    refine W_region (by simp [b0, e5, getA, setA, setRange1]; first | exact ⟨rfl, rfl⟩ | exact rfl) ?_
    try simp only [thenQ, blockQ, Ann.kill, List.find?_nil]
    replace b0 := (G5.trans (Grow.app σ5 [.cells [tx.sl] 0 0])).get b0
    replace b1 := (G5.trans (Grow.app σ5 [.cells [tx.sl] 0 0])).get b1
    replace BW := BW.grow (G5.trans (Grow.app σ5 [.cells [tx.sl] 0 0]))
    have BX := Bx.new TX
    obtain ⟨σ6, h6⟩ : ∃ y, y = σ5 ++ [.cells [tx.sl] 0 0] := ⟨_, rfl⟩
    rw [← h6] at BW BX b0 b1 ⊢
    obtain ⟨ty, σ7, e7, TY, G7⟩ := to_sl hy hok2 hmn hml σ6
    repeat apply W_seq
    refine W_region (by simp [b1, e7, getA, setA, setRange1]; first | exact ⟨rfl, rfl⟩ | exact rfl) ?_
    try simp only [thenQ, blockQ, Ann.kill, List.find?_nil]
    replace b0 := (G7.trans (Grow.app σ7 [.cells [ty.sl] 0 0])).get b0
    replace b1 := (G7.trans (Grow.app σ7 [.cells [ty.sl] 0 0])).get b1
    replace BW := BW.grow (G7.trans (Grow.app σ7 [.cells [ty.sl] 0 0]))
    replace BX := BX.grow (G7.trans (Grow.app σ7 [.cells [ty.sl] 0 0]))
    have BY := Bx.new TY
    obtain ⟨σ8, h8⟩ : ∃ y, y = σ7 ++ [.cells [ty.sl] 0 0] := ⟨_, rfl⟩
    rw [← h8] at BW BX BY b0 b1 ⊢
    obtain ⟨v9, σ9, e9, l9, s9, O9⟩ := swp_impl BX.2 BY.2 hl hn hm hmn at_
    have G9 : Grow σ8 σ9 := ⟨l9, s9⟩
    rw [hr] at O9
    obtain ⟨tg, rfl, TG⟩ := O9
    repeat apply W_seq
    refine W_region (by simp [BX.1, BY.1, e9, getA, setA, setRange1]; first | exact ⟨rfl, rfl⟩ | exact rfl) ?_
    try simp only [thenQ, blockQ, Ann.kill, List.find?_nil]
    replace b0 := (G9.trans (Grow.app σ9 [.cells [tg.sl] 0 0])).get b0
    replace b1 := (G9.trans (Grow.app σ9 [.cells [tg.sl] 0 0])).get b1
    replace BW := BW.grow (G9.trans (Grow.app σ9 [.cells [tg.sl] 0 0]))
    replace BX := BX.grow (G9.trans (Grow.app σ9 [.cells [tg.sl] 0 0]))
    replace BY := BY.grow (G9.trans (Grow.app σ9 [.cells [tg.sl] 0 0]))
    have BG := Bx.new TG
    obtain ⟨σA, hA⟩ : ∃ y, y = σ9 ++ [.cells [tg.sl] 0 0] := ⟨_, rfl⟩
    have o1 : 2 ≤ σ1.length := by have := G1.1; simp at this; omega
    have o2 : σ1.length ≤ σ2.length := G2.1
    have o3 : σ2.length ≤ σ3.length := l2
    have o4 : σ3.length < σ4.length := by rw [h4]; simp
    have o5 : σ4.length ≤ σ5.length := G5.1
    have o6 : σ5.length < σ6.length := by rw [h6]; simp
    have o7 : σ6.length ≤ σ7.length := G7.1
    have o8 : σ7.length < σ8.length := by rw [h8]; simp
    have o9 : σ8.length ≤ σ9.length := l9
    rw [← hA] at BW BX BY BG b0 b1 ⊢
    obtain ⟨σB, eB, GB⟩ := eq_sl BG.2 BW.2 (Nat.le_of_lt (get_lt BG.1)) (Nat.le_of_lt (get_lt BW.1)) hrl hrf
    repeat apply W_seq
    refine W_region (by simp [BG.1, BW.1, eB]; first | exact ⟨rfl, rfl⟩ | exact rfl) ?_
    try simp only [thenQ, blockQ, Ann.kill, List.find?_nil]
    repeat apply W_seq
    refine W_cond (t := false) (by simp) ?_
    simp only [if_true, if_false, Bool.false_eq_true]
    refine W_skip ?_
    try simp only [thenQ, blockQ, Ann.kill, List.find?_nil]
    replace b0 := (GB).get b0
    replace b1 := (GB).get b1
    replace BW := BW.grow (GB)
    replace BX := BX.grow (GB)
    replace BY := BY.grow (GB)
    replace BG := BG.grow (GB)
    obtain ⟨qC, σC, eC, TC, GC⟩ := to_sl hx hok hn hll σB
    have Z := BX.grow GC
    obtain ⟨σD, eD, GD⟩ := eq_sl Z.2 TC (Nat.le_of_lt (get_lt Z.1)) (Nat.le_refl _) hl hn
    repeat apply W_seq
    refine W_regD (fun _ => true) rfl rfl rfl (fun b hb => by
      simp (maxDischargeDepth := 12) [runOpsD, loadOf, chkH, live_all, okL_live, okL_nil, okL_cons, okAt_load, b0, BX.1, eC, (GC.get b0), Z.1, eD, (GD.get (GC.get b0)), (Z.grow GD).1]
      first | exact ⟨rfl, rfl⟩ | exact rfl) ?_
    try simp only [thenQ, blockQ, Ann.kill, List.find?_nil]
    repeat apply W_seq
    refine W_cond (t := false) (by simp) ?_
    simp only [if_true, if_false, Bool.false_eq_true]
    refine W_skip ?_
    try simp only [thenQ, blockQ, Ann.kill, List.find?_nil]
    clear Z
    replace b0 := (GC.trans GD).get b0
    replace b1 := (GC.trans GD).get b1
    replace BW := BW.grow (GC.trans GD)
    replace BX := BX.grow (GC.trans GD)
    replace BY := BY.grow (GC.trans GD)
    replace BG := BG.grow (GC.trans GD)
    obtain ⟨qE, σE, eE, TE, GE⟩ := to_sl hy hok2 hmn hml σD
    have Z := BY.grow GE
    obtain ⟨σF, eF, GF⟩ := eq_sl Z.2 TE (Nat.le_of_lt (get_lt Z.1)) (Nat.le_refl _) hm hmn
    repeat apply W_seq
    refine W_regD (fun _ => true) rfl rfl rfl (fun b hb => by
      simp (maxDischargeDepth := 12) [runOpsD, loadOf, chkH, live_all, okL_live, okL_nil, okL_cons, okAt_load, b1, BY.1, eE, (GE.get b1), Z.1, eF, (GF.get (GE.get b1)), (Z.grow GF).1]
      first | exact ⟨rfl, rfl⟩ | exact rfl) ?_
    try simp only [thenQ, blockQ, Ann.kill, List.find?_nil]
    repeat apply W_seq
    refine W_cond (t := false) (by simp) ?_
    simp only [if_true, if_false, Bool.false_eq_true]
    refine W_skip ?_
    try simp only [thenQ, blockQ, Ann.kill, List.find?_nil]
    clear Z
    replace b0 := (GE.trans GF).get b0
    replace b1 := (GE.trans GF).get b1
    replace BW := BW.grow (GE.trans GF)
    replace BX := BX.grow (GE.trans GF)
    replace BY := BY.grow (GE.trans GF)
    replace BG := BG.grow (GE.trans GF)
    repeat apply W_seq
    refine W_region (by simp; first | exact ⟨rfl, rfl⟩ | exact rfl) ?_
    try simp only [thenQ, blockQ, Ann.kill, List.find?_nil]
    obtain ⟨σH, eH, TH, OH⟩ := mark_k BX.2 (Nat.le_of_lt (get_lt BX.1)) 1 (by omega) (by omega) hl hn
    repeat apply W_seq
    refine W_region (by simp [BX.1, eH]; first | exact ⟨rfl, rfl⟩ | exact rfl) ?_
    try simp only [thenQ, blockQ, Ann.kill, List.find?_nil]
    replace b0 := OH.get b0 (.inl (by omega))
    replace b1 := OH.get b1 (.inl (by omega))
    replace BW := BW.far OH (.inl (by omega)) (by omega)
    replace BY := BY.far OH (.inr (by omega)) (by omega)
    replace BG := BG.far OH (.inr (by omega)) (by omega)
    obtain ⟨σI, eI, TI, OI⟩ := mark_k BY.2 (Nat.le_of_lt (get_lt BY.1)) (endL 1 (LNs l)) (by omega) (by omega) hm hmn
    repeat apply W_seq
    refine W_region (by simp [BY.1, eI]; first | exact ⟨rfl, rfl⟩ | exact rfl) ?_
    try simp only [thenQ, blockQ, Ann.kill, List.find?_nil]
    replace b0 := OI.get b0 (.inl (by omega))
    replace b1 := OI.get b1 (.inl (by omega))
    replace BW := BW.far OI (.inl (by omega)) (by omega)
    replace BG := BG.far OI (.inr (by omega)) (by omega)
    obtain ⟨σJ, eJ, GJ⟩ := eq_sl BG.2 BW.2 (Nat.le_of_lt (get_lt BG.1)) (Nat.le_of_lt (get_lt BW.1)) hrl hrf
    repeat apply W_seq
    refine W_region (by simp [he0, BG.1, BW.1, eJ]; first | exact ⟨rfl, rfl⟩ | exact rfl) ?_
    try simp only [thenQ, blockQ, Ann.kill, List.find?_nil]
    repeat apply W_seq
    refine W_cond (t := false) (by simp) ?_
    simp only [if_true, if_false, Bool.false_eq_true]
    refine W_skip ?_
    try simp only [thenQ, blockQ, Ann.kill, List.find?_nil]
    replace b0 := (GJ).get b0
    replace b1 := (GJ).get b1
    replace BW := BW.grow (GJ)
    replace BG := BG.grow (GJ)
    repeat apply W_seq
    refine W_region (by simp; first | exact ⟨rfl, rfl⟩ | exact rfl) ?_
    try simp only [thenQ, blockQ, Ann.kill, List.find?_nil]
    obtain ⟨σK, eK, TK, OK⟩ := mark_sl BG.2 (Nat.le_of_lt (get_lt BG.1)) hrl hrf
    repeat apply W_seq
    refine W_region (by simp [BG.1, eK]; first | exact ⟨rfl, rfl⟩ | exact rfl) ?_
    try simp only [thenQ, blockQ, Ann.kill, List.find?_nil]
    replace b0 := OK.get b0 (.inl (by omega))
    replace b1 := OK.get b1 (.inl (by omega))
    replace BW := BW.far OK (.inl (by omega)) (by omega)
    replace BG := BG.self OK TK
    repeat apply W_seq
    refine W_region (by simp; first | exact ⟨rfl, rfl⟩ | exact rfl) ?_
    try simp only [thenQ, blockQ, Ann.kill, List.find?_nil]
    repeat apply W_seq
    refine W_region (by simp [BG.1, held_sl BG.2 hrl hrf]; first | exact ⟨rfl, rfl⟩ | exact rfl) ?_
    try simp only [thenQ, blockQ, Ann.kill, List.find?_nil]
    repeat apply W_seq
    refine W_region (by simp; first | exact ⟨rfl, rfl⟩ | exact rfl) ?_
    try simp only [thenQ, blockQ, Ann.kill, List.find?_nil]
    repeat apply W_seq
    refine W_cond (t := false) (by simp [hr1]) ?_
    simp only [if_true, if_false, Bool.false_eq_true]
    refine W_skip ?_
    try simp only [thenQ, blockQ, Ann.kill, List.find?_nil]
    repeat apply W_seq
    refine W_region (by simp; first | exact ⟨rfl, rfl⟩ | exact rfl) ?_
    try simp only [thenQ, blockQ, Ann.kill, List.find?_nil]
    repeat apply W_seq
    refine W_cond (t := false) (by simp) ?_
    simp only [if_true, if_false, Bool.false_eq_true]
    refine W_skip ?_
    try simp only [thenQ, blockQ, Ann.kill, List.find?_nil]
    obtain ⟨tz, σL, eL, TL, GL⟩ := to_sl hx hok hn hll σK
    obtain ⟨tv, σM, eM, TM, GM⟩ := to_sl hy hok2 hmn hml σL
    obtain ⟨vN, σN, eN, lN, sN, ON⟩ := swp_impl (GM.ts TL (Nat.le_refl _)) TM hl hn hm hmn at_
    have GN : Grow σM σN := ⟨lN, sN⟩
    rw [hr] at ON
    obtain ⟨th, rfl, TH2⟩ := ON
    have c01 := GL.get b0
    have c11 := GL.get b1
    have c02 := GM.get c01
    have c12 := GM.get c11
    have c03 := GN.get c02
    have c13 := GN.get c12
    have c04 : ∀ r, (σN ++ r)[0]? = some (.cells [.t x] 0 0) := fun r => (Grow.app σN r).get c03
    have c14 : ∀ r, (σN ++ r)[1]? = some (.cells [.t y] 0 0) := fun r => (Grow.app σN r).get c13
    have m04 : ∀ r, okAt (σN ++ r) { agg := true, size := 1, bytes := 24, zero := some (.agg [.nils]), shape := .struct [(0,30)], eqs := false } (.ptr 0 0 0 1) (.t (.agg [x])) = true := fun r => okAt_load (load_box (c04 r))
    have m14 : ∀ r, okAt (σN ++ r) { agg := true, size := 1, bytes := 24, zero := some (.agg [.nils]), shape := .struct [(0,30)], eqs := false } (.ptr 1 0 0 1) (.t (.agg [y])) = true := fun r => okAt_load (load_box (c14 r))
    repeat apply W_seq
    refine W_regD (fun _ => true) rfl rfl rfl (fun b hb => by
      simp (maxDischargeDepth := 12) [runOpsD, loadOf, chkH, live_all, okL_live, okL_nil, okL_cons, okAt_load, b0, b1, eL, eM, eN, c01, c11, c02, c12, c03, c13, c04, c14, m04, m14, getA, setA, setRange1]
      first | exact ⟨rfl, rfl⟩ | exact rfl) ?_
    try simp only [thenQ, blockQ, Ann.kill, List.find?_nil]
    have GG := ((GL.trans GM).trans GN).trans (Grow.app σN [.cells [th.sl] 0 0])
    replace BW := BW.grow (GG)
    replace BG := BG.grow (GG)
    have BH := Bx.new TH2
    obtain ⟨σO, hO⟩ : ∃ y, y = σN ++ [.cells [th.sl] 0 0] := ⟨_, rfl⟩
    rw [← hO] at BW BG BH ⊢
    obtain ⟨σP, eP, GP⟩ := eq_sl BH.2 BW.2 (Nat.le_of_lt (get_lt BH.1)) (Nat.le_of_lt (get_lt BW.1)) hrl hrf
    repeat apply W_seq
    refine W_region (by simp [BH.1, BW.1, eP]; first | exact ⟨rfl, rfl⟩ | exact rfl) ?_
    try simp only [thenQ, blockQ, Ann.kill, List.find?_nil]
    repeat apply W_seq
    refine W_cond (t := false) (by simp) ?_
    simp only [if_true, if_false, Bool.false_eq_true]
    refine W_skip ?_
    try simp only [thenQ, blockQ, Ann.kill, List.find?_nil]
    replace BG := BG.grow (GP)
    repeat apply W_seq
    refine W_region (by simp; first | exact ⟨rfl, rfl⟩ | exact rfl) ?_
    try simp only [thenQ, blockQ, Ann.kill, List.find?_nil]
    repeat apply W_seq
    refine W_region (by simp [BG.1, held_sl BG.2 hrl hrf]; first | exact ⟨rfl, rfl⟩ | exact rfl) ?_
    try simp only [thenQ, blockQ, Ann.kill, List.find?_nil]
    repeat apply W_seq
    refine W_region (by simp; first | exact ⟨rfl, rfl⟩ | exact rfl) ?_
    try simp only [thenQ, blockQ, Ann.kill, List.find?_nil]
    repeat apply W_seq
    refine W_cond (t := false) (by simp [hr1]) ?_
    simp only [if_true, if_false, Bool.false_eq_true]
    refine W_skip ?_
    try simp only [thenQ, blockQ, Ann.kill, List.find?_nil]
    repeat apply W_seq
    refine W_region (by simp; first | exact ⟨rfl, rfl⟩ | exact rfl) ?_
    try simp only [thenQ, blockQ, Ann.kill, List.find?_nil]
    repeat apply W_seq
    refine W_cond (t := false) (by simp) ?_
    simp only [if_true, if_false, Bool.false_eq_true]
    refine W_skip ?_
    try simp only [thenQ, blockQ, Ann.kill, List.find?_nil]
    repeat apply W_seq
    refine W_region (by simp; first | exact ⟨rfl, rfl⟩ | exact rfl) ?_
    try simp only [thenQ, blockQ, Ann.kill, List.find?_nil]
    refine W_ret ?_
    try simp only [thenQ, blockQ]
    simp [Try.f5]
  | none =>
    rw [hr] at O2
    subst O2
    repeat apply W_seq
    refine W_regD (fun _ => true) rfl rfl rfl (fun b hb => by
      simp (maxDischargeDepth := 12) [runOpsD, loadOf, chkH, live_all, okL_live, okL_nil, okL_cons, okAt_load, e1, f1, e2, b01, b11, b02, b12, b03, b13, b04, b14, k04, k14, getA, setA, setRange1]
      first | exact ⟨rfl, rfl⟩ | exact rfl) ?_
    try simp only [thenQ, blockQ, Ann.kill, List.find?_nil]
    have b0 := b04 [.cells [.t .nils] 0 0]
    have b1 := b14 [.cells [.t .nils] 0 0]
    have bW : (σ3 ++ [.cells [.t .nils] 0 0])[σ3.length]? = some (.cells [.t .nils] 0 0) := by rw [getA]; rfl
    obtain ⟨σ4, h4⟩ : ∃ y, y = σ3 ++ [.cells [.t .nils] 0 0] := ⟨_, rfl⟩
    rw [← h4] at bW b0 b1 ⊢
    obtain ⟨tx, σ5, e5, TX, G5⟩ := to_sl hx hok hn hll σ4
    repeat apply W_seq
    refine W_region (by simp [b0, e5, getA, setA, setRange1]; first | exact ⟨rfl, rfl⟩ | exact rfl) ?_
    try simp only [thenQ, blockQ, Ann.kill, List.find?_nil]
    replace b0 := (G5.trans (Grow.app σ5 [.cells [tx.sl] 0 0])).get b0
    replace b1 := (G5.trans (Grow.app σ5 [.cells [tx.sl] 0 0])).get b1
    replace bW := (G5.trans (Grow.app σ5 [.cells [tx.sl] 0 0])).get bW
    have BX := Bx.new TX
    obtain ⟨σ6, h6⟩ : ∃ y, y = σ5 ++ [.cells [tx.sl] 0 0] := ⟨_, rfl⟩
    rw [← h6] at bW BX b0 b1 ⊢
    obtain ⟨ty, σ7, e7, TY, G7⟩ := to_sl hy hok2 hmn hml σ6
    repeat apply W_seq
    refine W_region (by simp [b1, e7, getA, setA, setRange1]; first | exact ⟨rfl, rfl⟩ | exact rfl) ?_
    try simp only [thenQ, blockQ, Ann.kill, List.find?_nil]
    replace b0 := (G7.trans (Grow.app σ7 [.cells [ty.sl] 0 0])).get b0
    replace b1 := (G7.trans (Grow.app σ7 [.cells [ty.sl] 0 0])).get b1
    replace bW := (G7.trans (Grow.app σ7 [.cells [ty.sl] 0 0])).get bW
    replace BX := BX.grow (G7.trans (Grow.app σ7 [.cells [ty.sl] 0 0]))
    have BY := Bx.new TY
    obtain ⟨σ8, h8⟩ : ∃ y, y = σ7 ++ [.cells [ty.sl] 0 0] := ⟨_, rfl⟩
    rw [← h8] at bW BX BY b0 b1 ⊢
    obtain ⟨v9, σ9, e9, l9, s9, O9⟩ := swp_impl BX.2 BY.2 hl hn hm hmn at_
    have G9 : Grow σ8 σ9 := ⟨l9, s9⟩
    rw [hr] at O9
    subst O9
    repeat apply W_seq
    refine W_region (by simp [BX.1, BY.1, e9, getA, setA, setRange1]; first | exact ⟨rfl, rfl⟩ | exact rfl) ?_
    try simp only [thenQ, blockQ, Ann.kill, List.find?_nil]
    replace b0 := (G9.trans (Grow.app σ9 [.cells [.t .nils] 0 0])).get b0
    replace b1 := (G9.trans (Grow.app σ9 [.cells [.t .nils] 0 0])).get b1
    replace bW := (G9.trans (Grow.app σ9 [.cells [.t .nils] 0 0])).get bW
    replace BX := BX.grow (G9.trans (Grow.app σ9 [.cells [.t .nils] 0 0]))
    replace BY := BY.grow (G9.trans (Grow.app σ9 [.cells [.t .nils] 0 0]))
    have bG : (σ9 ++ [.cells [.t .nils] 0 0])[σ9.length]? = some (.cells [.t .nils] 0 0) := by rw [getA]; rfl
    obtain ⟨σA, hA⟩ : ∃ y, y = σ9 ++ [.cells [.t .nils] 0 0] := ⟨_, rfl⟩
    have o1 : 2 ≤ σ1.length := by have := G1.1; simp at this; omega
    have o2 : σ1.length ≤ σ2.length := G2.1
    have o3 : σ2.length ≤ σ3.length := l2
    have o4 : σ3.length < σ4.length := by rw [h4]; simp
    have o5 : σ4.length ≤ σ5.length := G5.1
    have o6 : σ5.length < σ6.length := by rw [h6]; simp
    have o7 : σ6.length ≤ σ7.length := G7.1
    have o8 : σ7.length < σ8.length := by rw [h8]; simp
    have o9 : σ8.length ≤ σ9.length := l9
    rw [← hA] at bW BX BY bG b0 b1 ⊢
    obtain ⟨σB, eB, GB⟩ := eq_nil σA
    repeat apply W_seq
    refine W_region (by simp [bG, bW, eB]; first | exact ⟨rfl, rfl⟩ | exact rfl) ?_
    try simp only [thenQ, blockQ, Ann.kill, List.find?_nil]
    repeat apply W_seq
    refine W_cond (t := false) (by simp) ?_
    simp only [if_true, if_false, Bool.false_eq_true]
    refine W_skip ?_
    try simp only [thenQ, blockQ, Ann.kill, List.find?_nil]
    replace b0 := (GB).get b0
    replace b1 := (GB).get b1
    replace bW := (GB).get bW
    replace BX := BX.grow (GB)
    replace BY := BY.grow (GB)
    replace bG := (GB).get bG
    obtain ⟨qC, σC, eC, TC, GC⟩ := to_sl hx hok hn hll σB
    have Z := BX.grow GC
    obtain ⟨σD, eD, GD⟩ := eq_sl Z.2 TC (Nat.le_of_lt (get_lt Z.1)) (Nat.le_refl _) hl hn
    repeat apply W_seq
    refine W_regD (fun _ => true) rfl rfl rfl (fun b hb => by
      simp (maxDischargeDepth := 12) [runOpsD, loadOf, chkH, live_all, okL_live, okL_nil, okL_cons, okAt_load, b0, BX.1, eC, (GC.get b0), Z.1, eD, (GD.get (GC.get b0)), (Z.grow GD).1]
      first | exact ⟨rfl, rfl⟩ | exact rfl) ?_
    try simp only [thenQ, blockQ, Ann.kill, List.find?_nil]
    repeat apply W_seq
    refine W_cond (t := false) (by simp) ?_
    simp only [if_true, if_false, Bool.false_eq_true]
    refine W_skip ?_
    try simp only [thenQ, blockQ, Ann.kill, List.find?_nil]
    clear Z
    replace b0 := (GC.trans GD).get b0
    replace b1 := (GC.trans GD).get b1
    replace bW := (GC.trans GD).get bW
    replace BX := BX.grow (GC.trans GD)
    replace BY := BY.grow (GC.trans GD)
    replace bG := (GC.trans GD).get bG
    obtain ⟨qE, σE, eE, TE, GE⟩ := to_sl hy hok2 hmn hml σD
    have Z := BY.grow GE
    obtain ⟨σF, eF, GF⟩ := eq_sl Z.2 TE (Nat.le_of_lt (get_lt Z.1)) (Nat.le_refl _) hm hmn
    repeat apply W_seq
    refine W_regD (fun _ => true) rfl rfl rfl (fun b hb => by
      simp (maxDischargeDepth := 12) [runOpsD, loadOf, chkH, live_all, okL_live, okL_nil, okL_cons, okAt_load, b1, BY.1, eE, (GE.get b1), Z.1, eF, (GF.get (GE.get b1)), (Z.grow GF).1]
      first | exact ⟨rfl, rfl⟩ | exact rfl) ?_
    try simp only [thenQ, blockQ, Ann.kill, List.find?_nil]
    repeat apply W_seq
    refine W_cond (t := false) (by simp) ?_
    simp only [if_true, if_false, Bool.false_eq_true]
    refine W_skip ?_
    try simp only [thenQ, blockQ, Ann.kill, List.find?_nil]
    clear Z
    replace b0 := (GE.trans GF).get b0
    replace b1 := (GE.trans GF).get b1
    replace bW := (GE.trans GF).get bW
    replace BX := BX.grow (GE.trans GF)
    replace BY := BY.grow (GE.trans GF)
    replace bG := (GE.trans GF).get bG
    repeat apply W_seq
    refine W_region (by simp; first | exact ⟨rfl, rfl⟩ | exact rfl) ?_
    try simp only [thenQ, blockQ, Ann.kill, List.find?_nil]
    obtain ⟨σH, eH, TH, OH⟩ := mark_k BX.2 (Nat.le_of_lt (get_lt BX.1)) 1 (by omega) (by omega) hl hn
    repeat apply W_seq
    refine W_region (by simp [BX.1, eH]; first | exact ⟨rfl, rfl⟩ | exact rfl) ?_
    try simp only [thenQ, blockQ, Ann.kill, List.find?_nil]
    replace b0 := OH.get b0 (.inl (by omega))
    replace b1 := OH.get b1 (.inl (by omega))
    replace bW := OH.get bW (.inl (by omega))
    replace BY := BY.far OH (.inr (by omega)) (by omega)
    replace bG := OH.get bG (.inr (by omega))
    obtain ⟨σI, eI, TI, OI⟩ := mark_k BY.2 (Nat.le_of_lt (get_lt BY.1)) (endL 1 (LNs l)) (by omega) (by omega) hm hmn
    repeat apply W_seq
    refine W_region (by simp [BY.1, eI]; first | exact ⟨rfl, rfl⟩ | exact rfl) ?_
    try simp only [thenQ, blockQ, Ann.kill, List.find?_nil]
    replace b0 := OI.get b0 (.inl (by omega))
    replace b1 := OI.get b1 (.inl (by omega))
    replace bW := OI.get bW (.inl (by omega))
    replace bG := OI.get bG (.inr (by omega))
    obtain ⟨σJ, eJ, GJ⟩ := eq_nil σI
    repeat apply W_seq
    refine W_region (by simp [he0, bG, bW, eJ]; first | exact ⟨rfl, rfl⟩ | exact rfl) ?_
    try simp only [thenQ, blockQ, Ann.kill, List.find?_nil]
    repeat apply W_seq
    refine W_cond (t := false) (by simp) ?_
    simp only [if_true, if_false, Bool.false_eq_true]
    refine W_skip ?_
    try simp only [thenQ, blockQ, Ann.kill, List.find?_nil]
    replace b0 := (GJ).get b0
    replace b1 := (GJ).get b1
    replace bW := (GJ).get bW
    replace bG := (GJ).get bG
    repeat apply W_seq
    refine W_region (by simp; first | exact ⟨rfl, rfl⟩ | exact rfl) ?_
    try simp only [thenQ, blockQ, Ann.kill, List.find?_nil]
    obtain ⟨σK, eK, GK⟩ := mark_nil σJ
    repeat apply W_seq
    refine W_region (by simp [bG, eK]; first | exact ⟨rfl, rfl⟩ | exact rfl) ?_
    try simp only [thenQ, blockQ, Ann.kill, List.find?_nil]
    replace b0 := (GK).get b0
    replace b1 := (GK).get b1
    replace bW := (GK).get bW
    replace bG := (GK).get bG
    repeat apply W_seq
    refine W_region (by simp; first | exact ⟨rfl, rfl⟩ | exact rfl) ?_
    try simp only [thenQ, blockQ, Ann.kill, List.find?_nil]
    repeat apply W_seq
    refine W_region (by simp [bG, held_nil]; first | exact ⟨rfl, rfl⟩ | exact rfl) ?_
    try simp only [thenQ, blockQ, Ann.kill, List.find?_nil]
    repeat apply W_seq
    refine W_region (by simp; first | exact ⟨rfl, rfl⟩ | exact rfl) ?_
    try simp only [thenQ, blockQ, Ann.kill, List.find?_nil]
    repeat apply W_seq
    refine W_cond (t := false) (by simp) ?_
    simp only [if_true, if_false, Bool.false_eq_true]
    refine W_skip ?_
    try simp only [thenQ, blockQ, Ann.kill, List.find?_nil]
    repeat apply W_seq
    refine W_region (by simp; first | exact ⟨rfl, rfl⟩ | exact rfl) ?_
    try simp only [thenQ, blockQ, Ann.kill, List.find?_nil]
    repeat apply W_seq
    refine W_cond (t := false) (by simp) ?_
    simp only [if_true, if_false, Bool.false_eq_true]
    refine W_skip ?_
    try simp only [thenQ, blockQ, Ann.kill, List.find?_nil]
    obtain ⟨tz, σL, eL, TL, GL⟩ := to_sl hx hok hn hll σK
    obtain ⟨tv, σM, eM, TM, GM⟩ := to_sl hy hok2 hmn hml σL
    obtain ⟨vN, σN, eN, lN, sN, ON⟩ := swp_impl (GM.ts TL (Nat.le_refl _)) TM hl hn hm hmn at_
    have GN : Grow σM σN := ⟨lN, sN⟩
    rw [hr] at ON
    subst ON
    have c01 := GL.get b0
    have c11 := GL.get b1
    have c02 := GM.get c01
    have c12 := GM.get c11
    have c03 := GN.get c02
    have c13 := GN.get c12
    have c04 : ∀ r, (σN ++ r)[0]? = some (.cells [.t x] 0 0) := fun r => (Grow.app σN r).get c03
    have c14 : ∀ r, (σN ++ r)[1]? = some (.cells [.t y] 0 0) := fun r => (Grow.app σN r).get c13
    have m04 : ∀ r, okAt (σN ++ r) { agg := true, size := 1, bytes := 24, zero := some (.agg [.nils]), shape := .struct [(0,30)], eqs := false } (.ptr 0 0 0 1) (.t (.agg [x])) = true := fun r => okAt_load (load_box (c04 r))
    have m14 : ∀ r, okAt (σN ++ r) { agg := true, size := 1, bytes := 24, zero := some (.agg [.nils]), shape := .struct [(0,30)], eqs := false } (.ptr 1 0 0 1) (.t (.agg [y])) = true := fun r => okAt_load (load_box (c14 r))
    repeat apply W_seq
    refine W_regD (fun _ => true) rfl rfl rfl (fun b hb => by
      simp (maxDischargeDepth := 12) [runOpsD, loadOf, chkH, live_all, okL_live, okL_nil, okL_cons, okAt_load, b0, b1, eL, eM, eN, c01, c11, c02, c12, c03, c13, c04, c14, m04, m14, getA, setA, setRange1]
      first | exact ⟨rfl, rfl⟩ | exact rfl) ?_
    try simp only [thenQ, blockQ, Ann.kill, List.find?_nil]
    have GG := ((GL.trans GM).trans GN).trans (Grow.app σN [.cells [.t .nils] 0 0])
    replace bW := (GG).get bW
    replace bG := (GG).get bG
    have bH : (σN ++ [.cells [.t .nils] 0 0])[σN.length]? = some (.cells [.t .nils] 0 0) := by rw [getA]; rfl
    obtain ⟨σO, hO⟩ : ∃ y, y = σN ++ [.cells [.t .nils] 0 0] := ⟨_, rfl⟩
    rw [← hO] at bW bG bH ⊢
    obtain ⟨σP, eP, GP⟩ := eq_nil σO
    repeat apply W_seq
    refine W_region (by simp [bH, bW, eP]; first | exact ⟨rfl, rfl⟩ | exact rfl) ?_
    try simp only [thenQ, blockQ, Ann.kill, List.find?_nil]
    repeat apply W_seq
    refine W_cond (t := false) (by simp) ?_
    simp only [if_true, if_false, Bool.false_eq_true]
    refine W_skip ?_
    try simp only [thenQ, blockQ, Ann.kill, List.find?_nil]
    replace bG := (GP).get bG
    repeat apply W_seq
    refine W_region (by simp; first | exact ⟨rfl, rfl⟩ | exact rfl) ?_
    try simp only [thenQ, blockQ, Ann.kill, List.find?_nil]
    repeat apply W_seq
    refine W_region (by simp [bG, held_nil]; first | exact ⟨rfl, rfl⟩ | exact rfl) ?_
    try simp only [thenQ, blockQ, Ann.kill, List.find?_nil]
    repeat apply W_seq
    refine W_region (by simp; first | exact ⟨rfl, rfl⟩ | exact rfl) ?_
    try simp only [thenQ, blockQ, Ann.kill, List.find?_nil]
    repeat apply W_seq
    refine W_cond (t := false) (by simp) ?_
    simp only [if_true, if_false, Bool.false_eq_true]
    refine W_skip ?_
    try simp only [thenQ, blockQ, Ann.kill, List.find?_nil]
    repeat apply W_seq
    refine W_region (by simp; first | exact ⟨rfl, rfl⟩ | exact rfl) ?_
    try simp only [thenQ, blockQ, Ann.kill, List.find?_nil]
    repeat apply W_seq
    refine W_cond (t := false) (by simp) ?_
    simp only [if_true, if_false, Bool.false_eq_true]
    refine W_skip ?_
    try simp only [thenQ, blockQ, Ann.kill, List.find?_nil]
    repeat apply W_seq
    refine W_region (by simp; first | exact ⟨rfl, rfl⟩ | exact rfl) ?_
    try simp only [thenQ, blockQ, Ann.kill, List.find?_nil]
    refine W_ret ?_
    try simp only [thenQ, blockQ]
    simp [Try.f5]
