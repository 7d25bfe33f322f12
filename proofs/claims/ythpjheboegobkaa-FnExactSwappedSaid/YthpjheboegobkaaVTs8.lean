/- A part of the proof. No statement of the claim is in it. -/
import Derived.Test.YthpjheboegobkaaVTs7
open Go Go.V Go.Proofs
namespace X
set_option maxRecDepth 100000
set_option maxHeartbeats 4000000
set_option linter.unusedSimpArgs false
set_option linter.unusedVariables false
attribute [-simp] lenV idxV setRange
theorem LV_bodyP {S : Sy} {f : FuncId} {A : Ann} {fn : Func} {c : Code} (hA : S.ann f = some A) (hf : S.P.funcs[f]? = some fn) (hb : fn.body = some c) {args : List V} {σ : Store} {P : V → Store → Prop}
    (h : W S A c (fun e st τ => (match e with | .exit _ => False | _ => True) ∧ ∃ v, (resultsV S.ty st τ fn.results.toList).map joinV = some v ∧ P v τ) { vars := initEnv A 0 args, scr := [] } σ) : ∃ v σ', LV S f args σ = some (v, σ') ∧ P v σ' := by
  obtain ⟨n, ex, st', σ1, h1, h2, v, h3, h4⟩ := h
  exact ⟨v, σ1, LV_body hA hf hb ⟨n, ex, st', σ1, h1, h2, h3, rfl⟩, h4⟩

theorem repZero_length (z : List V) (n : Nat) : (repZero z n).length = n * z.length := by
  induction n with
  | zero => simp [repZero]
  | succ n ih => simp [repZero, ih, Nat.succ_mul, Nat.add_comm]
abbrev zN : List V := [.t (I 0), .t (I 0), .t .nils, .t (I 0), .t (I 0), .t .nils]
theorem get_lt {α : Type} {l : List α} {i : Nat} {x : α} (h : l[i]? = some x) : i < l.length := by
  rcases Nat.lt_or_ge i l.length with h1 | h1
  · exact h1
  · rw [List.getElem?_eq_none h1] at h; cases h
theorem take_succ {α : Type} {l : List α} {i : Nat} {x : α} (h : l[i]? = some x) : l.take (i + 1) = l.take i ++ [x] := by
  rw [List.take_add_one, h]; rfl

/-- a node's slices may be copied -/
def LN.fit (m : LN) : Prop := m.ok ∧ m.n.args.length * 8 ≤ 140737488355328 ∧ m.n.kids.length * 8 ≤ 140737488355328

theorem toTreeNodeS_ld {x : T} {l : List LN} (h : IsL x LN.enc l) (hn : ∀ m ∈ l, m.fit) (hl : l.length * 80 ≤ 140737488355328) (σ : Store) :
    ∃ v σ', LD S 27 [.t x] σ = some (v, σ') ∧ (∃ t : Tr, v = t.sl ∧ t.In σ' ∧ t.locs.Nodup ∧ inR σ.length σ'.length t.locs ∧ t.nodes.map Nd.n = LNs l) ∧ σ.length ≤ σ'.length ∧ same 0 σ.length σ σ' := by
  rw [LD_inl (A := A27) rfl rfl rfl [.t x] σ]
  refine LV_bodyP (A := A27) rfl Try.func27 rfl ?_
  repeat apply W_seq
  refine W_region (by simp; first | exact ⟨rfl, rfl⟩ | exact rfl) ?_
  try simp only [thenQ, blockQ, Ann.kill, List.find?_nil]
  repeat apply W_seq
  refine W_region (by simp [h.len, show (l.length : Int) * 80 ≤ 140737488355328 by omega]; first | exact ⟨rfl, rfl⟩ | exact rfl) ?_
  try simp only [thenQ, blockQ, Ann.kill, List.find?_nil]
  repeat apply W_seq
  refine W_region (by simp; first | exact ⟨rfl, rfl⟩ | exact rfl) ?_
  try simp only [thenQ, blockQ, Ann.kill, List.find?_nil]
  repeat apply W_seq
  refine W_block ?_
  refine W_loop (I := fun m st τ => ∃ (k : Nat) (nds : List Nd) (cs : List V), m = l.length - k ∧ k ≤ l.length ∧ nds.length = k ∧ nds.map Nd.n = (LNs l).take k ∧ st.vars = [(0, .t x), (2, .t .nils), (3, .sl σ.length 0 0 l.length 6), (4, .t (I k))] ∧
    σ.length < τ.length ∧ cs = flat nds ++ repZero zN (l.length - k) ∧ τ[σ.length]? = some (.cells cs 0 0) ∧ (∀ m ∈ nds, m.In τ) ∧ (σ.length :: locs nds).Nodup ∧ inR σ.length τ.length (σ.length :: locs nds) ∧ same 0 σ.length σ τ) ?_ l.length _ _
    ⟨0, [], repZero zN l.length, rfl, Nat.zero_le _, rfl, by simp, by simp, by simp, by simp [flat], by simp, by simp, by simp [locs], by simp [locs, inR], fun i _ hi => by rw [List.getElem?_append_left hi]⟩
  rintro m ⟨vars, scr⟩ τ ⟨k, nds, cs, rfl, hk, hnk, hmap, hv, hq, hcs, hτ, hin, hnd, hir, hsm⟩
  simp only at hv
  subst hv
  have hlen : cs.length = l.length * 6 := by rw [hcs, List.length_append, flat_length, repZero_length, hnk]; simp only [List.length_cons, List.length_nil]; omega
  repeat apply W_seq
  refine W_region (by simp [h.len]; first | exact ⟨rfl, rfl⟩ | exact rfl) ?_
  try simp only [thenQ, blockQ, Ann.kill, List.find?_nil]
  by_cases c1 : k < l.length
  · repeat apply W_seq
    refine W_cond (t := true) (by simp [c1]) ?_
    simp only [if_true, if_false, Bool.false_eq_true]
    refine W_skip ?_
    try simp only [thenQ, blockQ, Ann.kill, List.find?_nil]
    repeat apply W_seq
    refine W_block ?_
    obtain ⟨nd, hp⟩ : ∃ nd, l[k]? = some nd := ⟨l[k], by simp [c1]⟩
    have hmem : nd ∈ l := List.mem_of_getElem? hp
    obtain ⟨hf1, hf2, hf3⟩ := hn nd hmem
    have hi : idxV 6 (.t x) (k : Int) = some (.t (.snap nd.cs)) := h.idx hp rfl
    repeat apply W_seq
    refine W_region (by simp [hi, toTreeNode_ld hf1 hf2 hf3, getC hq, setC hq, hτ, show k * 6 + 6 ≤ cs.length by omega, c1]; first | exact ⟨rfl, rfl⟩ | exact rfl) ?_
    try simp only [thenQ, blockQ, Ann.kill, List.find?_nil]
    repeat apply W_seq
    refine W_region (by simp [IntWalk.i64_in ((k : Int) + 1) (by omega)]; first | exact ⟨rfl, rfl⟩ | exact rfl) ?_
    try simp only [thenQ, blockQ, Ann.kill, List.find?_nil]
    have hr : ∀ i, i ≠ σ.length → i < τ.length → (τ.set σ.length (.cells (setRange cs (k * 6) (ndOf nd τ.length).cs) 0 0) ++ nodeObjs nd τ.length)[i]? = τ[i]? := by
      intro i h1 h2
      rw [List.getElem?_append_left (by simpa using h2), List.getElem?_set_ne (Ne.symm h1)]
    have hlast : ∀ j, (τ.set σ.length (.cells (setRange cs (k * 6) (ndOf nd τ.length).cs) 0 0) ++ nodeObjs nd τ.length)[τ.length + j]? = (nodeObjs nd τ.length)[j]? := by
      intro j
      rw [List.getElem?_append_right (by simp), List.length_set, Nat.add_sub_cancel_left]
    refine ⟨l.length - (k + 1), by omega, k + 1, nds ++ [ndOf nd τ.length], setRange cs (k * 6) (ndOf nd τ.length).cs, rfl, c1, by simp [hnk], ?_, by simp, ?_, ?_, ?_, ?_, ?_, ?_, ?_⟩
    · have hp2 : (LNs l)[k]? = some nd.n := by simp [LNs, hp]
      rw [take_succ hp2, List.map_append, hmap]
      rfl
    · simp; omega
    · obtain ⟨r, hr2⟩ : ∃ r, l.length - k = r + 1 := ⟨l.length - k - 1, by omega⟩
      have hr3 : l.length - (k + 1) = r := by omega
      rw [hcs, hr2, hr3, flat_append]
      have := setRange_mid (ndOf nd τ.length).cs (flat nds) zN (repZero zN r) rfl
      rw [flat_length, hnk] at this
      simp only [repZero, ← List.append_assoc]
      rw [this]
      rfl
    · rw [List.getElem?_append_left (by simpa using hq), List.getElem?_set_self hq]
    · intro m hm
      rcases List.mem_append.1 hm with hm | hm
      · refine nodes_keep hin (fun y hy => hr y ?_ ?_) m hm
        · intro e
          rw [List.nodup_cons] at hnd
          exact hnd.1 (e ▸ hy)
        · exact (hir y (by simp [hy])).2
      · rw [List.mem_singleton] at hm
        subst hm
        exact ⟨⟨0, Nat.zero_le _, hlast 3⟩, ⟨0, Nat.zero_le _, hlast 4⟩⟩
    · rw [locs_append]
      have h1 : ∀ y ∈ σ.length :: locs nds, y < τ.length := fun y hy => (hir y hy).2
      rw [← List.cons_append]
      refine List.nodup_append.2 ⟨hnd, by simp [locs, ndOf], ?_⟩
      intro a ha b hb
      have := h1 a ha
      simp only [locs, ndOf, List.mem_cons, List.not_mem_nil, or_false] at hb
      omega
    · intro y hy
      rw [locs_append, ← List.cons_append] at hy
      simp only [List.length_append, List.length_set]
      have e5 : (nodeObjs nd τ.length).length = 5 := rfl
      rcases List.mem_append.1 hy with hy | hy
      · have := hir y hy
        omega
      · simp only [locs, ndOf, List.mem_cons, List.not_mem_nil, or_false] at hy
        omega
    · intro i h0 h1
      rw [hr i (by omega) (by omega)]
      exact hsm i h0 h1
  · repeat apply W_seq
    refine W_cond (t := false) (by simp [c1]) ?_
    simp only [if_true, if_false, Bool.false_eq_true]
    repeat apply W_seq
    refine W_exit ?_
    try simp only [thenQ, blockQ, if_true, Ann.kill, List.find?_nil]
    have hk2 : k = l.length := by omega
    subst hk2
    repeat apply W_seq
    refine W_region (by simp; first | exact ⟨rfl, rfl⟩ | exact rfl) ?_
    try simp only [thenQ, blockQ, Ann.kill, List.find?_nil]
    refine W_ret ?_
    try simp only [thenQ, blockQ]
    simp [Try.f27]
    refine ⟨⟨⟨σ.length, 0, nds⟩, by simp [hnk], ⟨⟨0, Nat.le_refl _, ?_⟩, hin⟩, hnd, hir, ?_⟩, by omega, hsm⟩
    · rw [hτ, hcs]
      simp [repZero]
    · rw [hmap, List.take_of_length_le (by simp [LNs])]
