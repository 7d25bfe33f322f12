/- A part of the proof. No statement of the claim is in it. -/
import Derived.Test.YthpjheboegobkaaVTs9
open Go Go.V Go.Proofs
namespace X
set_option maxRecDepth 100000
set_option maxHeartbeats 4000000
set_option linter.unusedSimpArgs false
set_option linter.unusedVariables false
attribute [-simp] lenV idxV setRange
def mkNd (k : Int) (m : Nd) : Nd := { rule := k, alt := k + 1, args := { m.args with l := mkI (k + 2) m.args.l.length }, fr := k + 2 + m.args.l.length, to := k + 3 + m.args.l.length, kids := { m.kids with l := mkI (k + 4 + m.args.l.length) m.kids.l.length } }
def mkNds (k : Int) : List Nd → List Nd
  | [] => []
  | m :: r => mkNd k m :: mkNds (k + m.n.size) r
theorem mkNds_n (k : Int) (l : List Nd) : (mkNds k l).map Nd.n = mkL k (l.map Nd.n) := by
  induction l generalizing k with
  | nil => rfl
  | cons m r ih => simp only [mkNds, List.map_cons, mkL, ih]; rfl
theorem mkNds_locs (k : Int) (l : List Nd) : locs (mkNds k l) = locs l := by
  induction l generalizing k with
  | nil => rfl
  | cons m r ih => simp only [mkNds, locs, ih]; rfl
theorem mkNds_length (k : Int) (l : List Nd) : (mkNds k l).length = l.length := by
  induction l generalizing k with
  | nil => rfl
  | cons m r ih => simp only [mkNds, List.length_cons, ih]
theorem mkNds_append (k : Int) (a b : List Nd) : mkNds k (a ++ b) = mkNds k a ++ mkNds (endL k (a.map Nd.n)) b := by
  induction a generalizing k with
  | nil => rfl
  | cons m r ih => simp only [List.cons_append, mkNds, ih, List.map_cons, endL]
theorem mkNd_cs (k : Int) (m : Nd) : (mkNd k m).cs = [.t (I k), .t (I (k + 1)), m.args.v, .t (I (k + 2 + m.args.l.length)), .t (I (k + 3 + m.args.l.length)), m.kids.v] := by
  simp [Nd.cs, mkNd, Sl.v, mkI_length]
theorem set_mid (A B C : List V) (j : Nat) (v : V) (h : j < B.length) : (A ++ B ++ C).set (A.length + j) v = A ++ B.set j v ++ C := by
  rw [List.append_assoc, List.set_append_right _ _ (Nat.le_add_right _ _), Nat.add_sub_cancel_left, List.set_append_left _ _ h, List.append_assoc]
theorem get_mid (A B C : List V) (j : Nat) (h : j < B.length) : (A ++ B ++ C)[A.length + j]? = B[j]? := by
  rw [List.append_assoc, List.getElem?_append_right (Nat.le_add_right _ _), Nat.add_sub_cancel_left, List.getElem?_append_left h]
theorem marked (A C : List V) (k : Int) (m : Nd) (i : Nat) (h : A.length = i * 6) :
    ((((A ++ m.cs ++ C).set (i * 6) (.t (I k))).set (i * 6 + 1) (.t (I (k + 1)))).set (i * 6 + 3) (.t (I (k + 2 + m.args.l.length)))).set (i * 6 + 4) (.t (I (k + 3 + m.args.l.length))) = A ++ (mkNd k m).cs ++ C := by
  rw [← h]
  have e0 := set_mid A m.cs C 0 (.t (I k)) (by simp)
  rw [Nat.add_zero] at e0
  rw [e0, set_mid A _ C 1 _ (by simp), set_mid A _ C 3 _ (by simp), set_mid A _ C 4 _ (by simp), mkNd_cs]
  rfl

theorem locs_split (l : List Nd) (i : Nat) (m : Nd) (h : l[i]? = some m) : l = l.take i ++ m :: l.drop (i + 1) := by
  have hi := get_lt h
  rw [List.getElem?_eq_getElem hi] at h
  simp only [Option.some.injEq] at h
  subst h
  rw [← List.drop_eq_getElem_cons hi, List.take_append_drop]

theorem markTreeNodeS_ld {t : Tr} {σ : Store} (h : t.In σ) (hnd : t.locs.Nodup) (k : Int) (hl : t.nodes.length ≤ 281474976710656) (hn : ∀ n ∈ t.nodes.map Nd.n, n.ok) (h0 : 0 ≤ k) (h1 : endL k (t.nodes.map Nd.n) ≤ 4611686018427387904) :
    ∃ σ', LD S 31 [t.sl, .t (I k)] σ = some (.t (I (endL k (t.nodes.map Nd.n))), σ') ∧ ({ t with nodes := mkNds k t.nodes } : Tr).In σ' ∧ σ'.length = σ.length ∧ ∀ i, i ∉ t.locs → σ'[i]? = σ[i]? := by
  have key : ∃ v σ', LV S 31 [t.sl, .t (I k)] σ = some (v, σ') ∧ v = .t (I (endL k (t.nodes.map Nd.n))) ∧ ({ t with nodes := mkNds k t.nodes } : Tr).In σ' ∧ σ'.length = σ.length ∧ ∀ i, i ∉ t.locs → σ'[i]? = σ[i]? := by
    refine LV_bodyP (A := A31) rfl Try.func31 rfl ?_
    obtain ⟨⟨w0, hw0, hσ⟩, hin⟩ := h
    have hlt : t.loc < σ.length := get_lt hσ
    repeat apply W_seq
    refine W_region (by simp; first | exact ⟨rfl, rfl⟩ | exact rfl) ?_
    try simp only [thenQ, blockQ, Ann.kill, List.find?_nil]
    repeat apply W_seq
    refine W_region (by simp; first | exact ⟨rfl, rfl⟩ | exact rfl) ?_
    try simp only [thenQ, blockQ, Ann.kill, List.find?_nil]
    repeat apply W_seq
    refine W_block ?_
    refine W_loop (I := fun m st τ => ∃ (i w : Nat), m = t.nodes.length - i ∧ i ≤ t.nodes.length ∧ w ≤ t.gen ∧ st.vars = [(0, t.sl), (1, .t (I (endL k ((t.nodes.map Nd.n).take i)))), (4, .t (I 0)), (5, .t (I i))] ∧
      τ[t.loc]? = some (.cells (flat (mkNds k (t.nodes.take i) ++ t.nodes.drop i)) t.gen w) ∧ τ.length = σ.length ∧ (∀ m ∈ mkNds k (t.nodes.take i), m.In τ) ∧ (∀ m ∈ t.nodes.drop i, m.In τ) ∧ ∀ i, i ∉ t.locs → τ[i]? = σ[i]?) ?_ t.nodes.length _ _
      ⟨0, w0, rfl, Nat.zero_le _, hw0, by simp [endL], by simpa [mkNds] using hσ, rfl, by simp [mkNds], by simpa using hin, fun _ _ => rfl⟩
    rintro q ⟨vars, scr⟩ τ ⟨i, w, rfl, hk, hw, hv, hτ, hle, hin1, hin2, hfr⟩
    simp only at hv
    subst hv
    repeat apply W_seq
    refine W_region (by simp; first | exact ⟨rfl, rfl⟩ | exact rfl) ?_
    try simp only [thenQ, blockQ, Ann.kill, List.find?_nil]
    by_cases c1 : i < t.nodes.length
    · repeat apply W_seq
      refine W_cond (t := true) (by simp [c1]) ?_
      simp only [if_true, if_false, Bool.false_eq_true]
      refine W_skip ?_
      try simp only [thenQ, blockQ, Ann.kill, List.find?_nil]
      repeat apply W_seq
      refine W_block ?_
      obtain ⟨m, hp⟩ : ∃ m, t.nodes[i]? = some m := ⟨t.nodes[i], by simp [c1]⟩
      have hp2 : (t.nodes.map Nd.n)[i]? = some m.n := by rw [List.getElem?_map, hp]; rfl
      have hs := endL_step (k := k) hp2
      have hb := endL_take_le k (t.nodes.map Nd.n) (i + 1)
      have hb0 := endL_le k ((t.nodes.map Nd.n).take i)
      have hok : m.n.ok := hn m.n (List.mem_of_getElem? hp2)
      have hsplit := locs_split t.nodes i m hp
      have hd : t.nodes.drop i = m :: t.nodes.drop (i + 1) := by
        rw [List.drop_eq_getElem_cons c1]
        rw [List.getElem?_eq_getElem c1] at hp
        simp only [Option.some.injEq] at hp
        rw [hp]
      have htk : mkNds k (t.nodes.take (i + 1)) = mkNds k (t.nodes.take i) ++ [mkNd (endL k ((t.nodes.map Nd.n).take i)) m] := by
        rw [take_succ hp, mkNds_append, List.map_take]
        rfl
      have hA : (flat (mkNds k (t.nodes.take i))).length = i * 6 := by rw [flat_length, mkNds_length, List.length_take]; omega
      -- places
      have hL : t.locs = t.loc :: (locs (t.nodes.take i) ++ (m.args.loc :: m.kids.loc :: locs (t.nodes.drop (i + 1)))) := by
        rw [Tr.locs, hsplit, locs_append]
        rw [← hsplit]
        rfl
      have hnd2 := hnd
      rw [hL, List.nodup_cons, List.nodup_append] at hnd2
      obtain ⟨n1, n2, n3, n4⟩ := hnd2
      simp only [List.nodup_cons, List.mem_cons, not_or] at n3
      simp only [List.mem_append, List.mem_cons, not_or] at n1
      rw [hd] at hτ hin2
      have hτ2 : τ[t.loc]? = some (.cells (flat (mkNds k (t.nodes.take i)) ++ m.cs ++ flat (t.nodes.drop (i + 1))) t.gen w) := by
        rw [hτ, flat_append]; simp only [flat, List.append_assoc]
      have hm1 : m.args.In τ := (hin2 m (by simp)).1
      have hm2 : m.kids.In τ := (hin2 m (by simp)).2
      clear hτ
      have hmk := marked (flat (mkNds k (t.nodes.take i))) (flat (t.nodes.drop (i + 1))) (endL k ((t.nodes.map Nd.n).take i)) m i hA
      have hg2 := get_mid (flat (mkNds k (t.nodes.take i))) m.cs (flat (t.nodes.drop (i + 1))) 2 (by simp)
      have hg5 := get_mid (flat (mkNds k (t.nodes.take i))) m.cs (flat (t.nodes.drop (i + 1))) 5 (by simp)
      rw [hA] at hg2 hg5
      have hcl : i * 6 + 6 ≤ (flat (mkNds k (t.nodes.take i)) ++ m.cs ++ flat (t.nodes.drop (i + 1))).length := by
        simp only [List.length_append, hA, List.length_cons, List.length_nil]; omega
      unfold N.ok at hok
      unfold N.size at hs
      simp only at hok hs
      revert hmk hg2 hg5 hcl hτ2 hs hb hb0
      generalize hcs : flat (mkNds k (t.nodes.take i)) ++ m.cs ++ flat (t.nodes.drop (i + 1)) = cs
      generalize hc : endL k ((t.nodes.map Nd.n).take i) = c
      generalize hc2 : endL k ((t.nodes.map Nd.n).take (i + 1)) = c2
      intro hs hb hb0 hτ2 hmk hg2 hg5 hcl
      have l0 : i * 6 < cs.length := by omega
      have l1 : i * 6 + 1 < cs.length := by omega
      have l3 : i * 6 + 3 < cs.length := by omega
      have l4 : i * 6 + 4 < cs.length := by omega
      have k0 : i * 6 + 1 ≤ cs.length := by omega
      have k1 : i * 6 + 1 + 1 ≤ cs.length := by omega
      have k2 : i * 6 + 2 + 1 ≤ cs.length := by omega
      have k3 : i * 6 + 3 + 1 ≤ cs.length := by omega
      have k4 : i * 6 + 4 + 1 ≤ cs.length := by omega
      have k5 : i * 6 + 5 + 1 ≤ cs.length := by omega
      have htl : t.loc < τ.length := by omega
      have s1 : ∀ X, (τ.set t.loc X)[t.loc]? = some X := fun X => List.getElem?_set_self htl
      repeat apply W_seq
      refine W_region (by simp [hτ2, k0, c1, setRange1]; first | exact ⟨rfl, rfl⟩ | exact rfl) ?_
      try simp only [thenQ, blockQ, Ann.kill, List.find?_nil]
      repeat apply W_seq
      refine W_region (by simp [IntWalk.i64_in (c + 1) (by omega)]; first | exact ⟨rfl, rfl⟩ | exact rfl) ?_
      try simp only [thenQ, blockQ, Ann.kill, List.find?_nil]
      repeat apply W_seq
      refine W_region (by simp [s1, k1, c1, setRange1]; first | exact ⟨rfl, rfl⟩ | exact rfl) ?_
      try simp only [thenQ, blockQ, Ann.kill, List.find?_nil]
      repeat apply W_seq
      refine W_region (by simp; first | exact ⟨rfl, rfl⟩ | exact rfl) ?_
      try simp only [thenQ, blockQ, Ann.kill, List.find?_nil]
      rw [IntWalk.i64_in (c + 1 + 1) (by omega), show c + 1 + 1 = c + 2 by omega]
      have q2 : ((cs.set (i * 6) (.t (I c))).set (i * 6 + 1) (.t (I (c + 1))))[i * 6 + 2]? = some m.args.v := by
        rw [List.getElem?_set_ne (by omega), List.getElem?_set_ne (by omega), hg2]; rfl
      obtain ⟨σ2, e2, i2, len2, fr2⟩ := markIntS_ld (s := m.args) (σ := τ.set t.loc (.cells ((cs.set (i * 6) (.t (I c))).set (i * 6 + 1) (.t (I (c + 1)))) t.gen t.gen)) (hm1.keep (by rw [List.getElem?_set_ne (fun e => n1.2.1 e)])) (c + 2) hok.1 (by omega) (by omega)
      repeat apply W_seq
      refine W_region (by simp [s1, k2, c1, q2, e2]; first | exact ⟨rfl, rfl⟩ | exact rfl) ?_
      try simp only [thenQ, blockQ, Ann.kill, List.find?_nil]
      have g2 : σ2[t.loc]? = some (.cells ((cs.set (i * 6) (.t (I c))).set (i * 6 + 1) (.t (I (c + 1)))) t.gen t.gen) := by
        rw [fr2 _ (fun e => n1.2.1 e), s1]
      have len2' : σ2.length = τ.length := by rw [len2, List.length_set]
      have s2 : ∀ X, (σ2.set t.loc X)[t.loc]? = some X := fun X => List.getElem?_set_self (by omega)
      repeat apply W_seq
      refine W_region (by simp [g2, k3, c1, setRange1]; first | exact ⟨rfl, rfl⟩ | exact rfl) ?_
      try simp only [thenQ, blockQ, Ann.kill, List.find?_nil]
      repeat apply W_seq
      refine W_region (by simp; first | exact ⟨rfl, rfl⟩ | exact rfl) ?_
      try simp only [thenQ, blockQ, Ann.kill, List.find?_nil]
      rw [IntWalk.i64_in (c + 2 + (m.args.l.length : Int) + 1) (by omega), show c + 2 + (m.args.l.length : Int) + 1 = c + 3 + m.args.l.length by omega]
      repeat apply W_seq
      refine W_region (by simp [s2, k4, c1, setRange1]; first | exact ⟨rfl, rfl⟩ | exact rfl) ?_
      try simp only [thenQ, blockQ, Ann.kill, List.find?_nil]
      repeat apply W_seq
      refine W_region (by simp; first | exact ⟨rfl, rfl⟩ | exact rfl) ?_
      try simp only [thenQ, blockQ, Ann.kill, List.find?_nil]
      rw [IntWalk.i64_in (c + 3 + (m.args.l.length : Int) + 1) (by omega), show c + 3 + (m.args.l.length : Int) + 1 = c + 4 + m.args.l.length by omega]
      generalize hcs4 : (((cs.set (i * 6) (.t (I c))).set (i * 6 + 1) (.t (I (c + 1)))).set (i * 6 + 3) (.t (I (c + 2 + m.args.l.length)))).set (i * 6 + 4) (.t (I (c + 3 + m.args.l.length))) = cs4
      have q5 : cs4[i * 6 + 5]? = some m.kids.v := by
        rw [← hcs4, List.getElem?_set_ne (by omega), List.getElem?_set_ne (by omega), List.getElem?_set_ne (by omega), List.getElem?_set_ne (by omega), hg5]; rfl
      have k5' : i * 6 + 5 + 1 ≤ cs4.length := by rw [← hcs4]; simp only [List.length_set]; exact k5
      have nk : m.kids.loc ≠ m.args.loc := fun e => n3.1.1 e.symm
      obtain ⟨σ3, e3, i3, len3, fr3⟩ := markIntS_ld (s := m.kids) (σ := σ2.set t.loc (.cells cs4 t.gen t.gen)) (hm2.keep (by rw [List.getElem?_set_ne (fun e => n1.2.2.1 e), fr2 _ nk, List.getElem?_set_ne (fun e => n1.2.2.1 e)])) (c + 4 + m.args.l.length) hok.2 (by omega) (by omega)
      repeat apply W_seq
      refine W_region (by simp [s2, k5', c1, q5, e3]; first | exact ⟨rfl, rfl⟩ | exact rfl) ?_
      try simp only [thenQ, blockQ, Ann.kill, List.find?_nil]
      repeat apply W_seq
      refine W_region (by simp [IntWalk.i64_in ((i : Int) + 1) (by omega)]; first | exact ⟨rfl, rfl⟩ | exact rfl) ?_
      try simp only [thenQ, blockQ, Ann.kill, List.find?_nil]
      have far : ∀ j, j ≠ t.loc → j ≠ m.args.loc → j ≠ m.kids.loc → σ3[j]? = τ[j]? := fun j a b d => by
        rw [fr3 j d, List.getElem?_set_ne (Ne.symm a), fr2 j b, List.getElem?_set_ne (Ne.symm a)]
      have len3' : σ3.length = τ.length := by rw [len3, List.length_set, len2']
      have a2 : (mkNd c m).In σ3 := by
        refine ⟨Sl.In.keep (s := (mkNd c m).args) i2 ?_, i3⟩
        show σ3[m.args.loc]? = σ2[m.args.loc]?
        rw [fr3 _ (Ne.symm nk), List.getElem?_set_ne (fun e => n1.2.1 e)]
      refine ⟨t.nodes.length - (i + 1), by omega, i + 1, t.gen, rfl, c1, Nat.le_refl _, ?_, ?_, by omega, ?_, ?_, ?_⟩
      · simp only [hc2, hs, List.cons.injEq, Prod.mk.injEq, true_and, and_true, V.t.injEq, T.int.injEq, Int.natCast_add, Int.natCast_one]
        omega
      · rw [fr3 _ (fun e => n1.2.2.1 e), s2, ← hcs4, hmk, htk, flat_append, flat_append, hc]
        simp only [flat, List.append_nil, List.append_assoc]
      · rw [htk]
        intro x hx
        rcases List.mem_append.1 hx with hx | hx
        · have hx1 := hin1 x hx
          have hxl := locs_mem hx
          rw [mkNds_locs] at hxl
          refine ⟨hx1.1.keep (far _ ?_ ?_ ?_), hx1.2.keep (far _ ?_ ?_ ?_)⟩
          · rintro e; exact n1.1 (e ▸ hxl.1)
          · intro e; exact n4 _ hxl.1 _ (by simp) e
          · intro e; exact n4 _ hxl.1 _ (by simp) e
          · rintro e; exact n1.1 (e ▸ hxl.2)
          · intro e; exact n4 _ hxl.2 _ (by simp) e
          · intro e; exact n4 _ hxl.2 _ (by simp) e
        · rw [List.mem_singleton] at hx
          subst hx
          rw [hc]; exact a2
      · intro x hx
        have hx1 := hin2 x (by simp [hx])
        have hxl := locs_mem hx
        refine ⟨hx1.1.keep (far _ ?_ ?_ ?_), hx1.2.keep (far _ ?_ ?_ ?_)⟩
        · rintro e; exact n1.2.2.2 (e ▸ hxl.1)
        · intro e; exact n3.1.2 (e ▸ hxl.1)
        · intro e; exact n3.2.1 (e ▸ hxl.1)
        · rintro e; exact n1.2.2.2 (e ▸ hxl.2)
        · intro e; exact n3.1.2 (e ▸ hxl.2)
        · intro e; exact n3.2.1 (e ▸ hxl.2)
      · intro j hj
        have hj' := hj
        rw [hL] at hj'
        simp only [List.mem_cons, List.mem_append, not_or] at hj'
        rw [far j hj'.1 hj'.2.2.1 hj'.2.2.2.1, hfr j hj]
    · repeat apply W_seq
      refine W_cond (t := false) (by simp [c1]) ?_
      simp only [if_true, if_false, Bool.false_eq_true]
      repeat apply W_seq
      refine W_exit ?_
      try simp only [thenQ, blockQ, if_true, Ann.kill, List.find?_nil]
      have : i = t.nodes.length := by omega
      subst this
      repeat apply W_seq
      refine W_region (by simp; first | exact ⟨rfl, rfl⟩ | exact rfl) ?_
      try simp only [thenQ, blockQ, Ann.kill, List.find?_nil]
      refine W_ret ?_
      try simp only [thenQ, blockQ]
      simp [Try.f31]
      rw [List.take_of_length_le (Nat.le_refl _), List.drop_length, List.append_nil] at hτ
      rw [List.take_of_length_le (Nat.le_refl _)] at hin1
      refine ⟨?_, ⟨⟨w, hw, hτ⟩, hin1⟩, hle, hfr⟩
      rw [List.take_of_length_le (by simp)]
  obtain ⟨v, σ', e2, rfl, e3⟩ := key
  exact ⟨σ', by rw [LD_inl (A := A31) rfl rfl rfl]; exact e2, e3⟩
