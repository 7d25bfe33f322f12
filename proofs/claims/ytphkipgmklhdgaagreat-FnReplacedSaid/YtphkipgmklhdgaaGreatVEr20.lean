/- A part of the proof. No statement of the claim is in it. -/
import Derived.Test.YtphkipgmklhdgaaGreatVEr19
open Go Go.V Go.Proofs
namespace X
set_option maxRecDepth 100000
set_option maxHeartbeats 4000000
set_option linter.unusedSimpArgs false
set_option linter.unusedVariables false
attribute [-simp] getElem?_pos
/-! ### A grammar and a text -/
/-- a grammar of which all is known -/
def Good (G : T) : Prop := ∃ SR MK VN RA n0 ps0 az0 gr, G = .agg [.list (.agg [.str n0, ps0, az0] :: gr)] ∧ GramOk SR MK VN RA n0 ps0 az0 gr
structure PairOk (i : Nat) (s le : List Nat) (sa sb e1 G e2 : T) : Prop where
 split : ∀ σ, LD S 21 [.t (I i)] σ = some (.t (.tup [.str s, .str le]), σ)
 read : ∀ σ, LD S 22 [.t (.str s)] σ = some (.t (.tup [.agg [sa, sb], e1]), σ)
 flat : ∀ σ, LD S 23 [.t (.agg [sa, sb])] σ = some (.t (.tup [G, e2]), σ)
 good : Good G
 len : 0 < le.length ∧ le.length ≤ 256 ∧ bsB le = true
def PairsOk : Prop := ∀ i, i < 13 → ∃ s le sa sb e1 G e2, PairOk i s le sa sb e1 G e2
theorem pair_ld (hP : PairsOk) {x : T} {l : List Int} (hx : BytesT x l) (hl : (l.length : Int) ≤ 1048576) {σ : Store} {c : Nat} (hC : CurAt σ c x l) :
  ∃ G t σ', LD S 12 [.ptr c 0 0 3] σ = some (.t (.tup [G, .str t]), σ') ∧ Good G ∧ bsB t = true ∧ t.length ≤ 8 ∧ ∀ j, j < σ.length → j ≠ c → σ'[j]? = σ[j]? := by
 suffices hh : ∃ v σ', LV S 12 [.ptr c 0 0 3] σ = some (v, σ') ∧ ∃ G t, v = .t (.tup [G, .str t]) ∧ Good G ∧ bsB t = true ∧ t.length ≤ 8 ∧ ∀ j, j < σ.length → j ≠ c → σ'[j]? = σ[j]? by
  obtain ⟨v, σ', q1, G, t, rfl, q2⟩ := hh
  exact ⟨G, t, σ', by rw [LD_inl (A := A12) rfl rfl rfl]; exact q1, q2⟩
 refine LV_bodyX (A := A12) rfl Tryz.func12 rfl ?_
 have lc := hC.lt
 obtain ⟨oc, hc0, hoc⟩ := hC
 repeat apply W_seq
 refine W_region (by simp; first | exact ⟨rfl, rfl⟩ | exact rfl) ?_
 try simp only [thenQ, blockQ, Ann.kill, List.find?_nil]
 have hC1 : CurAt (σ ++ [.cells [.t .nils] 0 0]) c x l := ⟨oc, by rw [List.getElem?_append_left lc]; exact hc0, hoc⟩
 have h2 : (σ ++ [V.Obj.cells [V.t .nils] 0 0])[σ.length]? = some (.cells [.t .nils] 0 0) := by rw [getA]; rfl
 have hL1 : (σ ++ [V.Obj.cells [V.t .nils] 0 0]).length = σ.length + 1 := by simp
 have hfr : ∀ j, j < σ.length → j ≠ c → (σ ++ [V.Obj.cells [V.t .nils] 0 0])[j]? = σ[j]? := fun j hj _ => List.getElem?_append_left hj
 revert hC1 h2 hL1 hfr
 generalize (σ ++ [V.Obj.cells [V.t .nils] 0 0]) = τ
 intro hC1 h2 hL1 hfr
 have hcur : ∀ o, CurO x l o → CurAt (τ.set c o) c x l := fun o ho => hC1.set ho
 obtain ⟨r, o1, b1, b2, b3⟩ := below_ld hx hl hC1 (n := 13) (by omega) (by omega)
 have b1' : LD S 11 [.ptr c 0 0 3, .t (I 13)] τ = some (.t (I r), τ.set c o1) := b1
 obtain ⟨s, le, sa, sb, e1, G, e2, hp⟩ := hP r b2
 repeat apply W_seq
 refine W_region (by simp [b1', hp.split]; first | exact ⟨rfl, rfl⟩ | exact rfl) ?_
 try simp only [thenQ, blockQ, Ann.kill, List.find?_nil]
 repeat apply W_seq
 refine W_region (by simp; first | exact ⟨rfl, rfl⟩ | exact rfl) ?_
 try simp only [thenQ, blockQ, Ann.kill, List.find?_nil]
 repeat apply W_seq
 refine W_region (by simp; first | exact ⟨rfl, rfl⟩ | exact rfl) ?_
 try simp only [thenQ, blockQ, Ann.kill, List.find?_nil]
 repeat apply W_seq
 refine W_block ?_
 refine W_loop (I := fun m st τ' => ∃ (k : Nat) (t : List Nat) (o : V.Obj), m = 7 - k ∧ k ≤ 7 ∧ t.length ≤ k ∧ (0 < k → k ≤ 6) ∧ bsB t = true ∧ CurO x l o ∧ st.vars = [(0, .ptr c 0 0 3), (2, .ptr σ.length 0 0 1), (3, .t (.str [])), (4, .t (.str s)), (5, .t (.str le)), (6, .t (.str t)), (7, .t (I k))] ∧ τ' = τ.set c o) ?_ 7 _ _ ⟨0, [], o1, rfl, by omega, by simp, by omega, rfl, b3, by simp, rfl⟩
 rintro m ⟨vars, scr⟩ τ' ⟨k, t, o, rfl, hk, ht, hk6, hbt, ho, hv, rfl⟩
 simp only at hv
 subst hv
 obtain ⟨r2, o2, d1, d2, d3⟩ := below_ld hx hl (hcur o ho) (n := 7) (by omega) (by omega)
 rw [List.set_set] at d1
 have d1' : LD S 11 [.ptr c 0 0 3, .t (I 7)] (τ.set c o) = some (.t (I r2), τ.set c o2) := d1
 repeat apply W_seq
 refine W_region (by simp [d1']; first | exact ⟨rfl, rfl⟩ | exact rfl) ?_
 try simp only [thenQ, blockQ, Ann.kill, List.find?_nil]
 by_cases c1 : k < r2
 ·repeat apply W_seq
  refine W_cond (t := true) (by simp [c1]) ?_
  simp only [if_true, if_false, Bool.false_eq_true]
  refine W_skip ?_
  try simp only [thenQ, blockQ, Ann.kill, List.find?_nil]
  repeat apply W_seq
  refine W_block ?_
  obtain ⟨r3, o3, f1, f2, f3⟩ := below_ld hx hl (hcur o2 d3) hp.len.1 hp.len.2.1
  rw [List.set_set] at f1
  have g1 : (r3 : Int) + 1 ≤ le.length := by omega
  have g2 : ((r3 : Int) + 1).toNat = r3 + 1 := by omega
  have g3 : (r3 : Int) ≤ (r3 : Int) + 1 := by omega
  have g4 : t.length + (min (r3 + 1) le.length - r3) ≤ 9223372036854775807 := by omega
  repeat apply W_seq
  refine W_region (by simp [f1]; first | exact ⟨rfl, rfl⟩ | exact rfl) ?_
  try simp only [thenQ, blockQ, Ann.kill, List.find?_nil]
  repeat apply W_seq
  refine W_region (by simp [g1, g2, g3, g4, IntWalk.i64_in ((r3 : Int) + 1) (by have := hp.len.2.1; omega)]; first | exact ⟨rfl, rfl⟩ | exact rfl) ?_
  try simp only [thenQ, blockQ, Ann.kill, List.find?_nil]
  repeat apply W_seq
  refine W_region (by simp [IntWalk.i64_in ((k : Int) + 1) (by omega)]; first | exact ⟨rfl, rfl⟩ | exact rfl) ?_
  try simp only [thenQ, blockQ, Ann.kill, List.find?_nil]
  refine ⟨7 - (k + 1), by omega, k + 1, t ++ (le.take (r3 + 1)).drop r3, o3, rfl, by omega, by simp; omega, by omega, ?_, f3, by simp, rfl⟩
  have hle := hp.len.2.2
  unfold bsB at hbt hle ⊢
  rw [List.all_append, hbt]
  exact List.all_eq_true.2 fun y hy => List.all_eq_true.1 hle y (List.mem_of_mem_take (List.mem_of_mem_drop hy))
 ·repeat apply W_seq
  refine W_cond (t := false) (by simp [c1]) ?_
  simp only [if_true, if_false, Bool.false_eq_true]
  repeat apply W_seq
  refine W_exit ?_
  try simp only [thenQ, blockQ, if_true, Ann.kill, List.find?_nil]
  have hC2 : CurAt (τ.set c o2) c x l := hcur o2 d3
  have h3 : (τ.set c o2)[σ.length]? = some (.cells [.t .nils] 0 0) := by rw [List.getElem?_set_ne (by omega)]; exact h2
  have hL2 : (τ.set c o2).length = σ.length + 1 := by simp [hL1]
  have hfr2 : ∀ j, j < σ.length → j ≠ c → (τ.set c o2)[j]? = σ[j]? := fun j hj hn => by rw [List.getElem?_set_ne (Ne.symm hn)]; exact hfr j hj hn
  revert hC2 h3 hL2 hfr2
  generalize τ.set c o2 = τ2
  intro hC2 h3 hL2 hfr2
  obtain ⟨SR, MK, VN, RA, n0, ps0, az0, gr, rfl, hgood⟩ := hp.good
  repeat apply W_seq
  refine W_region (by simp [hp.read, getA, setA, fillV, setRange]; first | exact ⟨rfl, rfl⟩ | exact rfl) ?_
  try simp only [thenQ, blockQ, Ann.kill, List.find?_nil]
  repeat apply W_seq
  refine W_region (by simp [hp.flat, getA, getB, setA, setB, fillV, setRange]; first | exact ⟨rfl, rfl⟩ | exact rfl) ?_
  try simp only [thenQ, blockQ, Ann.kill, List.find?_nil]
  have hC3 : CurAt (τ2 ++ [V.Obj.cells [V.t sa, V.t sb] 0 0, V.Obj.cells [V.t (.list (.agg [.str n0, ps0, az0] :: gr))] 0 0]) c x l := by
   obtain ⟨o, q1, q2⟩ := hC2
   exact ⟨o, by rw [List.getElem?_append_left (lt_of_get q1)]; exact q1, q2⟩
  have h4 : (τ2 ++ [V.Obj.cells [V.t sa, V.t sb] 0 0, V.Obj.cells [V.t (.list (.agg [.str n0, ps0, az0] :: gr))] 0 0])[σ.length]? = some (.cells [.t .nils] 0 0) := by
   rw [List.getElem?_append_left (lt_of_get h3)]; exact h3
  have h5 : (τ2 ++ [V.Obj.cells [V.t sa, V.t sb] 0 0, V.Obj.cells [V.t (.list (.agg [.str n0, ps0, az0] :: gr))] 0 0])[τ2.length + 1]? = some (.cells [V.t (.list (.agg [.str n0, ps0, az0] :: gr))] 0 0) := by
   rw [getB]; rfl
  have hfr3 : ∀ j, j < σ.length → j ≠ c → (τ2 ++ [V.Obj.cells [V.t sa, V.t sb] 0 0, V.Obj.cells [V.t (.list (.agg [.str n0, ps0, az0] :: gr))] 0 0])[j]? = σ[j]? := fun j hj hn => by rw [List.getElem?_append_left (by omega)]; exact hfr2 j hj hn
  revert hC3 h4 h5 hfr3
  generalize (τ2 ++ [V.Obj.cells [V.t sa, V.t sb] 0 0, V.Obj.cells [V.t (.list (.agg [.str n0, ps0, az0] :: gr))] 0 0]) = τ3
  intro hC3 h4 h5 hfr3
  obtain ⟨b, o4, u1, u2⟩ := once_ld hx hl hC3 (n := 8) (by omega) (by omega)
  have u1' : LD S 18 [.ptr c 0 0 3, .t (I 8)] τ3 = some (.t (B b), τ3.set c o4) := u1
  have hC4 := hC3.set u2
  have h6 : ∀ o, (τ3.set c o)[σ.length]? = some (.cells [.t .nils] 0 0) := fun o => by rw [List.getElem?_set_ne (by omega)]; exact h4
  have h7 : ∀ o, (τ3.set c o)[τ2.length + 1]? = some (.cells [V.t (.list (.agg [.str n0, ps0, az0] :: gr))] 0 0) := fun o => by rw [List.getElem?_set_ne (by omega)]; exact h5
  have h8 : ∀ o o', ((τ3.set c o).set σ.length o')[σ.length]? = some o' := fun o o' => List.getElem?_set_self (lt_of_get (h6 o))
  repeat apply W_seq
  refine W_region (by simp [u1']; first | exact ⟨rfl, rfl⟩ | exact rfl) ?_
  try simp only [thenQ, blockQ, Ann.kill, List.find?_nil]
  cases b with
  | true =>
   repeat apply W_seq
   refine W_cond (t := true) (by simp) ?_
   simp only [if_true, if_false, Bool.false_eq_true]
   obtain ⟨t2, o5, v1, v2, v3, v4⟩ := text_ld hx hl hC4
   rw [List.set_set] at v1
   repeat apply W_seq
   refine W_region (by simp [v1]; first | exact ⟨rfl, rfl⟩ | exact rfl) ?_
   try simp only [thenQ, blockQ, Ann.kill, List.find?_nil]
   repeat apply W_seq
   refine W_region (by simp [h6, h7, setRange]; first | exact ⟨rfl, rfl⟩ | exact rfl) ?_
   try simp only [thenQ, blockQ, Ann.kill, List.find?_nil]
   refine W_ret ?_
   exact ⟨trivial, .t (.tup [.agg [.list (.agg [.str n0, ps0, az0] :: gr)], .str t2]), (by simp [Tryz.f12, h8, mkAgg, allT]), _, t2, rfl, ⟨SR, MK, VN, RA, n0, ps0, az0, gr, rfl, hgood⟩, v4, v3, fun j hj hn => by rw [List.getElem?_set_ne (by omega), List.getElem?_set_ne (Ne.symm hn)]; exact hfr3 j hj hn⟩
  | false =>
   repeat apply W_seq
   refine W_cond (t := false) (by simp) ?_
   simp only [if_true, if_false, Bool.false_eq_true]
   refine W_skip ?_
   try simp only [thenQ, blockQ, Ann.kill, List.find?_nil]
   repeat apply W_seq
   refine W_region (by simp [h6, h7, setRange]; first | exact ⟨rfl, rfl⟩ | exact rfl) ?_
   try simp only [thenQ, blockQ, Ann.kill, List.find?_nil]
   refine W_ret ?_
   exact ⟨trivial, .t (.tup [.agg [.list (.agg [.str n0, ps0, az0] :: gr)], .str t]), (by simp [Tryz.f12, h8, mkAgg, allT]), _, t, rfl, ⟨SR, MK, VN, RA, n0, ps0, az0, gr, rfl, hgood⟩, hbt, by omega, fun j hj hn => by rw [List.getElem?_set_ne (by omega), List.getElem?_set_ne (Ne.symm hn)]; exact hfr3 j hj hn⟩
/-! ### DrawSpans -/
theorem drawSpans_ld (hP : PairsOk) (hlong : ∀ σ, LD S 13 [.t (I 14), .t (.int .u8 97)] σ = some (.t (.str (List.replicate 14 97)), σ)) {x : T} {l : List Int} (hx : BytesT x l) (hl : (l.length : Int) ≤ 1048576) :
  ∃ G t, (∀ σ, LD S 5 [.t x] σ = some (.t (.tup [G, .str t]), σ)) ∧ Good G ∧ bsB t = true ∧ t.length ≤ 14 := by
 suffices hh : ∃ v σ', LV S 5 [.t x] [] = some (v, σ') ∧ ∃ G t, v = .t (.tup [G, .str t]) ∧ Good G ∧ bsB t = true ∧ t.length ≤ 14 by
  obtain ⟨v, σ', h1, G, t, rfl, h2⟩ := hh
  exact ⟨G, t, fun σ => LD_pure (A := A5) (args := [.t x]) rfl rfl rfl h1 rfl σ, h2⟩
 obtain ⟨h0, hnew⟩ := new_lv hx hl [.cells [.t .nils] 0 0]
 have hC : CurAt ([V.Obj.cells [V.t .nils] 0 0] ++ [Cur x 0 h0]) 1 x l := ⟨_, rfl, 0, h0, rfl, by omega, by omega⟩
 obtain ⟨r, o1, b1, b2, b3⟩ := below_ld hx hl hC (n := 10) (by omega) (by omega)
 have b1' : LD S 11 [.ptr 1 0 0 3, .t (I 10)] [.cells [.t .nils] 0 0, Cur x 0 h0] = some (.t (I r), [.cells [.t .nils] 0 0, o1]) := b1
 have hC1 : CurAt [V.Obj.cells [V.t .nils] 0 0, o1] 1 x l := ⟨_, rfl, b3⟩
 obtain ⟨G, t, σ1, p1, p2, p3, p4, p5⟩ := pair_ld hP hx hl hC1
 have hnew' : LD S 10 [.t x] [.cells [.t .nils] 0 0] = some (.ptr 1 0 0 3, [.cells [.t .nils] 0 0, Cur x 0 h0]) := hnew
 refine LV_bodyX (A := A5) rfl Tryz.func5 rfl ?_
 repeat apply W_seq
 refine W_region (by simp; first | exact ⟨rfl, rfl⟩ | exact rfl) ?_
 try simp only [thenQ, blockQ, Ann.kill, List.find?_nil]
 repeat apply W_seq
 refine W_region (by simp [hnew']; first | exact ⟨rfl, rfl⟩ | exact rfl) ?_
 try simp only [thenQ, blockQ, Ann.kill, List.find?_nil]
 repeat apply W_seq
 refine W_region (by simp [b1']; first | exact ⟨rfl, rfl⟩ | exact rfl) ?_
 try simp only [thenQ, blockQ, Ann.kill, List.find?_nil]
 have p2' := p2
 obtain ⟨SR, MK, VN, RA, n0, ps0, az0, gr, rfl, hgood⟩ := p2'
 have q0 : σ1[0]? = some (.cells [.t .nils] 0 0) := by rw [p5 0 (by simp) (by decide)]; rfl
 have lq := lt_of_get q0
 repeat apply W_seq
 refine W_region (by simp [p1, getA, setA, fillV, setRange]; first | exact ⟨rfl, rfl⟩ | exact rfl) ?_
 try simp only [thenQ, blockQ, Ann.kill, List.find?_nil]
 have q1 : (σ1 ++ [V.Obj.cells [V.t (.list (.agg [.str n0, ps0, az0] :: gr))] 0 0])[0]? = some (.cells [.t .nils] 0 0) := by rw [List.getElem?_append_left lq]; exact q0
 have q3 : (σ1 ++ [V.Obj.cells [V.t (.list (.agg [.str n0, ps0, az0] :: gr))] 0 0])[σ1.length]? = some (.cells [V.t (.list (.agg [.str n0, ps0, az0] :: gr))] 0 0) := by rw [getA]; rfl
 revert q1 q3
 generalize (σ1 ++ [V.Obj.cells [V.t (.list (.agg [.str n0, ps0, az0] :: gr))] 0 0]) = σ2
 intro q1 q3
 have lq2 := lt_of_get q1
 have q2 : ∀ o', (σ2.set 0 o')[0]? = some o' := fun o' => List.getElem?_set_self lq2
 repeat apply W_seq
 refine W_region (by simp; first | exact ⟨rfl, rfl⟩ | exact rfl) ?_
 try simp only [thenQ, blockQ, Ann.kill, List.find?_nil]
 by_cases c1 : r < 5
 ·repeat apply W_seq
  refine W_cond (t := true) (by simp [show (r : Int) < 5 by omega]) ?_
  simp only [if_true, if_false, Bool.false_eq_true]
  repeat apply W_seq
  refine W_region (by simp [show 1 + t.length ≤ 9223372036854775807 by omega]; first | exact ⟨rfl, rfl⟩ | exact rfl) ?_
  try simp only [thenQ, blockQ, Ann.kill, List.find?_nil]
  repeat apply W_seq
  refine W_region (by simp; first | exact ⟨rfl, rfl⟩ | exact rfl) ?_
  try simp only [thenQ, blockQ, Ann.kill, List.find?_nil]
  repeat apply W_seq
  refine W_cond (t := false) (by simp [show ¬ (r : Int) = 9 by omega]) ?_
  simp only [if_true, if_false, Bool.false_eq_true]
  refine W_skip ?_
  try simp only [thenQ, blockQ, Ann.kill, List.find?_nil]
  repeat apply W_seq
  refine W_region (by simp [q3, q1, setRange]; first | exact ⟨rfl, rfl⟩ | exact rfl) ?_
  try simp only [thenQ, blockQ, Ann.kill, List.find?_nil]
  refine W_ret ?_
  refine ⟨trivial, .t (.tup [.agg [.list (.agg [.str n0, ps0, az0] :: gr)], .str (57 :: t)]), (by simp [Tryz.f5, q2, mkAgg, allT]), _, 57 :: t, rfl, p2, ?_, by simp; omega⟩
  unfold bsB at p3 ⊢
  rw [List.all_cons, p3]
  rfl
 ·repeat apply W_seq
  refine W_cond (t := false) (by simp [show ¬ (r : Int) < 5 by omega]) ?_
  simp only [if_true, if_false, Bool.false_eq_true]
  refine W_skip ?_
  try simp only [thenQ, blockQ, Ann.kill, List.find?_nil]
  repeat apply W_seq
  refine W_region (by simp; first | exact ⟨rfl, rfl⟩ | exact rfl) ?_
  try simp only [thenQ, blockQ, Ann.kill, List.find?_nil]
  by_cases c2 : r = 9
  ·repeat apply W_seq
   refine W_cond (t := true) (by simp [show (r : Int) = 9 by omega]) ?_
   simp only [if_true, if_false, Bool.false_eq_true]
   repeat apply W_seq
   refine W_region (by simp [hlong]; first | exact ⟨rfl, rfl⟩ | exact rfl) ?_
   try simp only [thenQ, blockQ, Ann.kill, List.find?_nil]
   repeat apply W_seq
   refine W_region (by simp [q3, q1, setRange]; first | exact ⟨rfl, rfl⟩ | exact rfl) ?_
   try simp only [thenQ, blockQ, Ann.kill, List.find?_nil]
   refine W_ret ?_
   exact ⟨trivial, .t (.tup [.agg [.list (.agg [.str n0, ps0, az0] :: gr)], .str (List.replicate 14 97)]), (by simp [Tryz.f5, q2, mkAgg, allT]), _, List.replicate 14 97, rfl, p2, by decide, by decide⟩
  ·repeat apply W_seq
   refine W_cond (t := false) (by simp [show ¬ (r : Int) = 9 by omega]) ?_
   simp only [if_true, if_false, Bool.false_eq_true]
   refine W_skip ?_
   try simp only [thenQ, blockQ, Ann.kill, List.find?_nil]
   repeat apply W_seq
   refine W_region (by simp [q3, q1, setRange]; first | exact ⟨rfl, rfl⟩ | exact rfl) ?_
   try simp only [thenQ, blockQ, Ann.kill, List.find?_nil]
   refine W_ret ?_
   exact ⟨trivial, .t (.tup [.agg [.list (.agg [.str n0, ps0, az0] :: gr)], .str t]), (by simp [Tryz.f5, q2, mkAgg, allT]), _, t, rfl, p2, p3, by omega⟩
end X
