/- A part of the proof. No statement of the claim is in it. -/
import Derived.Test.YthpjheboegobkaaVTs12
open Go Go.V Go.Proofs
namespace X
set_option maxRecDepth 100000
set_option maxHeartbeats 4000000
set_option linter.unusedSimpArgs false
set_option linter.unusedVariables false
attribute [-simp] lenV idxV setRange
theorem right_get : ∀ (l : List N) (j : Int) (i : Nat) (x : N), rightFrom j l = true → l[i]? = some x → ahead (j + i) x.kids = true
  | [], j, i, x, _, h => by simp at h
  | n :: r, j, 0, x, hr, h => by
    simp only [List.getElem?_cons_zero, Option.some.injEq] at h
    subst h
    simp only [rightFrom, Bool.and_eq_true] at hr
    simpa using hr.1
  | n :: r, j, i + 1, x, hr, h => by
    simp only [rightFrom, Bool.and_eq_true] at hr
    have := right_get r (j + 1) i x hr.2 (by simpa using h)
    rw [show j + ((i + 1 : Nat) : Int) = j + 1 + i by omega]
    exact this
theorem ahead_get {at_ : Int} {l : List Int} {i : Nat} {x : Int} (h : ahead at_ l = true) (hx : l[i]? = some x) : 0 ≤ x ∧ x ≤ at_ - 1 := by
  have := List.all_eq_true.1 h x (List.mem_of_getElem? hx)
  simpa [inB] using this
theorem kidsF_drop {f : Int → List N → Option (List N)} {l : List Int} {i : Nat} {x : Int} (h : l[i]? = some x) (acc : List N) (ks : List Int) :
    kidsF f (l.drop i) acc ks = match f x acc with
      | none => none
      | some l' => kidsF f (l.drop (i + 1)) l' (ks ++ [(l'.length : Int) - 1]) := by
  have c1 := get_lt h
  rw [List.drop_eq_getElem_cons c1]
  rw [List.getElem?_eq_getElem c1] at h
  simp only [Option.some.injEq] at h
  rw [h]
  rfl

theorem Acc.isSl {σ : Store} {v : V} {l : List N} {lo : Nat} {ls : List Nat} (h : Acc σ v l lo ls) (hl : l ≠ []) : ∃ t : Tr, v = t.sl := by
  rcases h with ⟨rfl, rfl, rfl⟩ | ⟨t, rfl, _⟩
  · exact absurd rfl hl
  · exact ⟨t, rfl⟩
theorem appendA (l : List Int) (hl : l.length * 8 ≤ 140737488355328) (q : Nat) : ∃ g, ∀ ρ : Store, ρ.length = q → appendV S.ty (ρ ++ [.cells [] 0 0]) [63, 63] (.sl q 0 0 0 1) (.t (.list (l.map R1))) = some (.sl q g 0 l.length 1, ρ ++ [.cells (ints l) g 0]) := by
  by_cases h0 : l = []
  · subst h0
    exact ⟨0, fun ρ _ => appendI0⟩
  · refine ⟨1, fun ρ hρ => ?_⟩
    subst hρ
    have := appendI (σ := ρ ++ [.cells [] 0 0]) (p := ρ.length) (g := 0) (w := 0) (old := []) (l := l) (by rw [getA]; rfl) (by simpa using hl) h0
    simp only [List.length_nil, Nat.zero_add, List.nil_append] at this
    rw [this, setA]
    rfl

theorem put_ok (nodes : List N) (ox : T) (swap : Int) (g : List N → Option (List N)) (hl : nodes.length ≤ 1048576) (hn : ∀ n ∈ nodes, n.fit) (hr : rightFrom 0 nodes = true) (p lo : Nat)
    (hg : 0 ≤ swap → ∃ om : List N, ox = Ls om ∧ om.length ≤ 1048576 ∧ ∀ lo, PutOk p lo (.agg [ox]) ((om.length : Int) - 1) (-1) (.agg [.nils]) g) :
    ∀ (n : Nat) (at_ : Nat), at_ < n → at_ < nodes.length → PutOk p lo (encT nodes) at_ swap (.agg [ox]) (ex nodes swap g n at_) := by
  intro n
  induction n with
  | zero => intro at_ h; omega
  | succ n ih =>
    intro at_ hat hat2 σ v l ls hplo hlo hl60 hp hacc
    have hpl : p < σ.length := get_lt hp
    rw [LD_inl (A := A26) rfl rfl rfl]
    have key : ∃ v1 σ', LV S 26 [.ptr p 0 0 1, .t (encT nodes), .t (I at_), .t (I swap), .t (.agg [ox])] σ = some (v1, σ') ∧ ∃ b, v1 = .t (B b) ∧ Res cS p lo σ ls (ex nodes swap g (n + 1) at_ l) b σ' := by
      refine LV_bodyP (A := A26) rfl Try.func26 rfl ?_
      repeat apply W_seq
      refine W_region (by simp; first | exact ⟨rfl, rfl⟩ | exact rfl) ?_
      try simp only [thenQ, blockQ, Ann.kill, List.find?_nil]
      repeat apply W_seq
      refine W_region (by simp; first | exact ⟨rfl, rfl⟩ | exact rfl) ?_
      try simp only [thenQ, blockQ, Ann.kill, List.find?_nil]
      by_cases hsw : (at_ : Int) = swap
      · repeat apply W_seq
        refine W_cond (t := true) (by simp [hsw]) ?_
        simp only [if_true, if_false, Bool.false_eq_true]
        obtain ⟨om, rfl, hol, hput⟩ := hg (by omega)
        have hput := hput lo
        obtain ⟨b, σ', e1, e2⟩ := hput (σ ++ [.cells [.t (Ls nodes)] 0 0, .cells [.t (Ls om)] 0 0]) v l ls hplo (by simp; omega) hl60 (by rw [getC hpl, hp]) (hacc.keep (by simp) fun i hi => List.getElem?_append_left (hacc.lt hi).2)
        repeat apply W_seq
        refine W_region (by simp [getA, getB, IntWalk.i64_in ((om.length : Int) - 1) (by omega), buildV, fieldSizes, fillV, e1]; first | exact ⟨rfl, rfl⟩ | exact rfl) ?_
        try simp only [thenQ, blockQ, Ann.kill, List.find?_nil]
        refine W_ret ?_
        try simp only [thenQ, blockQ]
        refine ⟨trivial, _, (by simp [Try.f26]), b, rfl, ?_⟩
        rw [ex, if_pos hsw]
        cases hgl : g l with
        | none =>
          rw [hgl] at e2
          obtain ⟨e3, h5, h6⟩ := e2
          simp only [List.length_append, List.length_cons, List.length_nil] at h5 h6
          exact ⟨e3, by omega, fun i hi a b => by rw [h6 i (by omega) a b, List.getElem?_append_left hi]⟩
        | some l' =>
          rw [hgl] at e2
          unfold Res at e2 ⊢
          simp only at e2 ⊢
          obtain ⟨rfl, h1, h2, v', ls', h3, h4, h5, h6, h7⟩ := e2
          simp only [List.length_append, List.length_cons, List.length_nil] at h5 h6 h7
          refine ⟨rfl, h1, h2, v', ls', h3, h4, by omega, fun i hi a b => ?_, fun y hy => ?_⟩
          · rw [h6 i (by omega) a b, List.getElem?_append_left hi]
          · rcases h7 y hy with h8 | h8
            · exact .inl h8
            · exact .inr (by omega)
      · repeat apply W_seq
        refine W_cond (t := false) (by simp [hsw]) ?_
        simp only [if_true, if_false, Bool.false_eq_true]
        refine W_skip ?_
        try simp only [thenQ, blockQ, Ann.kill, List.find?_nil]
        obtain ⟨x, hx⟩ : ∃ x, nodes[at_]? = some x := ⟨nodes[at_], by simp [hat2]⟩
        have hxf := hn x (List.mem_of_getElem? hx)
        have hah := right_get nodes 0 at_ x hr hx
        rw [Int.zero_add] at hah
        have hex : ex nodes swap g (n + 1) at_ l = match kidsF (ex nodes swap g n) x.kids l [] with
            | none => none
            | some (l', ks) => if l'.length + 1 ≤ 60 then some (l' ++ [{ x with kids := ks }]) else none := by
          rw [ex, if_neg hsw]
          simp only [Int.toNat_natCast, hx]
          rfl
        repeat apply W_seq
        refine W_region (by simp [getA, getB, setA, setB, hx, setRange]; first | exact ⟨rfl, rfl⟩ | exact rfl) ?_
        try simp only [thenQ, blockQ, Ann.kill, List.find?_nil]
        repeat apply W_seq
        refine W_region (by simp [sliceCells]; first | exact ⟨rfl, rfl⟩ | exact rfl) ?_
        try simp only [thenQ, blockQ, Ann.kill, List.find?_nil]
        repeat apply W_seq
        refine W_region (by simp; first | exact ⟨rfl, rfl⟩ | exact rfl) ?_
        try simp only [thenQ, blockQ, Ann.kill, List.find?_nil]
        rw [hex]
        repeat apply W_seq
        refine W_block ?_
        refine W_loop (I := fun q st τ => ∃ (j : Nat) (v' : V) (l' : List N) (ls' : List Nat) (ks : List Int), q = x.kids.length - j ∧ j ≤ x.kids.length ∧ ks.length = j ∧ l'.length ≤ 60 ∧ kidsF (ex nodes swap g n) (x.kids.drop j) l' ks = kidsF (ex nodes swap g n) x.kids l [] ∧
          st.vars = [(0, .ptr p 0 0 1), (1, .t (encT nodes)), (2, .t (I at_)), (3, .t (I swap)), (4, .t (.agg [ox])), (6, .ptr σ.length 0 0 1), (9, .ptr (σ.length + 1) 0 0 1), (10, .t (B false)), (11, .ptr (σ.length + 2) 0 0 6), (12, .sl (σ.length + 3) j 0 j 1), (13, .t (I j))] ∧
          τ[σ.length]? = some (.cells [.t (Ls nodes)] 0 0) ∧ τ[σ.length + 1]? = some (.cells [.t ox] 0 0) ∧ τ[σ.length + 2]? = some (.cells ((encC x).map V.t) 0 0) ∧ τ[σ.length + 3]? = some (.cells (ints ks) j 0) ∧
          τ[p]? = some (.cells [v'] 0 0) ∧ Acc τ v' l' lo ls' ∧ (∀ i, i < σ.length → i ≠ p → i ∉ ls → τ[i]? = σ[i]?) ∧ (∀ y ∈ ls', y ∈ ls ∨ σ.length + 4 ≤ y) ∧ σ.length + 4 ≤ τ.length) ?_ x.kids.length _ _
          ⟨0, v, l, ls, [], rfl, Nat.zero_le _, rfl, hl60, rfl, by simp, by rw [getA]; rfl, by rw [getB]; rfl, by rw [getB]; rfl, by rw [getB]; rfl, by rw [getC hpl, hp], hacc.keep (by simp) (fun i hi => List.getElem?_append_left (hacc.lt hi).2), fun i hi _ _ => List.getElem?_append_left hi, fun y hy => .inl hy, by simp⟩
        rintro q ⟨vars, scr⟩ τ ⟨j, v', l', ls', ks, rfl, hj, hks, hl'60, hkf, hv, t0, t1, t2, t3, tp, hacc', hfr, hls, hτl⟩
        simp only at hv
        subst hv
        have hfar : ∀ y ∈ ls', y < σ.length ∨ σ.length + 4 ≤ y := fun y hy => (hls y hy).elim (fun h => .inl (hacc.lt h).2) .inr
        have hpls : p ∉ ls' := fun h => (hls p h).elim (fun h => hplo h) fun h => by omega
        repeat apply W_seq
        refine W_region (by simp [t2]; first | exact ⟨rfl, rfl⟩ | exact rfl) ?_
        try simp only [thenQ, blockQ, Ann.kill, List.find?_nil]
        by_cases c1 : j < x.kids.length
        · repeat apply W_seq
          refine W_cond (t := true) (by simp [c1]) ?_
          simp only [if_true, if_false, Bool.false_eq_true]
          refine W_skip ?_
          try simp only [thenQ, blockQ, Ann.kill, List.find?_nil]
          repeat apply W_seq
          refine W_block ?_
          obtain ⟨y, hy⟩ : ∃ y, x.kids[j]? = some y := ⟨x.kids[j], by simp [c1]⟩
          have hyr := ahead_get hah hy
          obtain ⟨yn, rfl⟩ : ∃ yn : Nat, y = yn := ⟨y.toNat, by omega⟩
          obtain ⟨b, σ', e1, e2⟩ := ih yn (by omega) (by omega) τ v' l' ls' hpls (by omega) hl'60 tp hacc'
          have hkd := kidsF_drop (f := ex nodes swap g n) hy l' ks
          rw [hkf] at hkd
          repeat apply W_seq
          refine W_region (by simp [t0, t1, t2, hy, e1]; first | exact ⟨rfl, rfl⟩ | exact rfl) ?_
          try simp only [thenQ, blockQ, Ann.kill, List.find?_nil]
          cases hf : ex nodes swap g n yn l' with
          | none =>
            rw [hf] at hkd e2
            obtain ⟨this, h5, h6⟩ := e2
            subst this
            repeat apply W_seq
            refine W_cond (t := true) (by simp) ?_
            simp only [if_true, if_false, Bool.false_eq_true]
            repeat apply W_seq
            refine W_region (by simp; first | exact ⟨rfl, rfl⟩ | exact rfl) ?_
            try simp only [thenQ, blockQ, Ann.kill, List.find?_nil]
            refine W_ret ?_
            try simp only [thenQ, blockQ]
            refine ⟨trivial, _, (by simp [Try.f26]), false, rfl, ?_⟩
            rw [hkd]
            refine ⟨rfl, by omega, fun i hi a b => ?_⟩
            rw [h6 i (by omega) a ?_, hfr i hi a b]
            intro h
            rcases hls i h with h8 | h8
            · exact b h8
            · omega
          | some l2 =>
            rw [hf] at hkd e2
            obtain ⟨rfl, h1, h2, v2, ls2, h3, h4, h5, h6, h7⟩ := e2
            simp only at hkd
            have hfar2 : ∀ y ∈ ls2, y < σ.length ∨ σ.length + 4 ≤ y := fun y hy => (h7 y hy).elim (fun h => hfar y h) fun h => .inr (by omega)
            have u : ∀ i, i < 4 → σ'[σ.length + i]? = τ[σ.length + i]? := fun i hi => h6 _ (by omega) (by omega) fun h => by have := hfar _ h; omega
            have u3 : σ'[σ.length + 3]? = some (.cells (ints ks) j 0) := by rw [u 3 (by omega), t3]
            have ea := appendI (σ := σ') (p := σ.length + 3) (g := j) (w := 0) (old := ks) (l := [(l2.length : Int) - 1]) u3 (by simp only [List.length_cons, List.length_nil, hks]; have := hxf.2; omega) (by simp)
            rw [hks] at ea
            simp only [List.map_cons, List.map_nil, List.length_cons, List.length_nil, Nat.zero_add] at ea
            repeat apply W_seq
            refine W_cond (t := false) (by simp) ?_
            simp only [if_true, if_false, Bool.false_eq_true]
            refine W_skip ?_
            try simp only [thenQ, blockQ, Ann.kill, List.find?_nil]
            repeat apply W_seq
            refine W_region (by simp [h3, h4.len, IntWalk.i64_in ((l2.length : Int) - 1) (by omega), sliceCells, fillV, repZero, List.range, List.range.loop, setRange, chunk, ea]; first | exact ⟨rfl, rfl⟩ | exact rfl) ?_
            try simp only [thenQ, blockQ, Ann.kill, List.find?_nil]
            repeat apply W_seq
            refine W_region (by simp [IntWalk.i64_in ((j : Int) + 1) (by have := hxf.2; omega)]; first | exact ⟨rfl, rfl⟩ | exact rfl) ?_
            try simp only [thenQ, blockQ, Ann.kill, List.find?_nil]
            have hne : ∀ i, i ≠ σ.length + 3 → (σ'.set (σ.length + 3) (.cells (ints (ks ++ [(l2.length : Int) - 1])) (j + 1) 0))[i]? = σ'[i]? := fun i hi => List.getElem?_set_ne (Ne.symm hi)
            refine ⟨x.kids.length - (j + 1), by omega, j + 1, v2, l2, ls2, ks ++ [(l2.length : Int) - 1], rfl, c1, by simp [hks], h2, hkd.symm, by simp, ?_, ?_, ?_, ?_, ?_, ?_, ?_, ?_, ?_⟩
            · rw [hne _ (by omega)]; have := u 0 (by omega); rw [Nat.add_zero] at this; rw [this, t0]
            · rw [hne _ (by omega), u 1 (by omega), t1]
            · rw [hne _ (by omega), u 2 (by omega), t2]
            · rw [List.getElem?_set_self (by omega)]
            · rw [hne _ (by omega), h3]
            · exact h4.keep (by simp) fun i hi => hne i (by have := hfar2 i hi; omega)
            · intro i hi a b
              rw [hne i (by omega), h6 i (by omega) a ?_, hfr i hi a b]
              intro h
              rcases hls i h with h8 | h8
              · exact b h8
              · omega
            · intro y hy
              rcases h7 y hy with h8 | h8
              · exact hls y h8
              · exact .inr (by omega)
            · rw [List.length_set]; omega
        · repeat apply W_seq
          refine W_cond (t := false) (by simp [c1]) ?_
          simp only [if_true, if_false, Bool.false_eq_true]
          repeat apply W_seq
          refine W_exit ?_
          try simp only [thenQ, blockQ, if_true, Ann.kill, List.find?_nil]
          have : j = x.kids.length := by omega
          subst this
          rw [List.drop_length] at hkf
          simp only [kidsF] at hkf
          rw [← hkf]
          have hkl : x.kids.length ≤ 1048576 := hxf.2
          have hal : x.args.length ≤ 1048576 := hxf.1
          obtain ⟨ga, hga⟩ := appendA x.args (by omega) τ.length
          have w2 : σ.length + 2 < τ.length := by omega
          have L1 : ∀ X r, (τ.set (σ.length + 2) X ++ r)[σ.length + 2]? = some X := fun X r => by
            rw [List.getElem?_append_left (by rw [List.length_set]; exact w2), List.getElem?_set_self w2]
          have S1 : ∀ X Y r, (τ.set (σ.length + 2) X ++ r).set (σ.length + 2) Y = τ.set (σ.length + 2) Y ++ r := fun X Y r => by
            rw [List.set_append_left _ _ (by rw [List.length_set]; exact w2), List.set_set]
          have O1 : ∀ X r i, i < τ.length → i ≠ σ.length + 2 → (τ.set (σ.length + 2) X ++ r)[i]? = τ[i]? := fun X r i h1 h2 => by
            rw [List.getElem?_append_left (by rw [List.length_set]; exact h1), List.getElem?_set_ne (Ne.symm h2)]
          have P1 : ∀ X r, (τ.set (σ.length + 2) X ++ r)[p]? = some (.cells [v'] 0 0) := fun X r => by rw [O1 X r p (by omega) (by omega), tp]
          repeat apply W_seq
          refine W_region (by simp [t2, setRange1]; first | exact ⟨rfl, rfl⟩ | exact rfl) ?_
          try simp only [thenQ, blockQ, Ann.kill, List.find?_nil]
          repeat apply W_seq
          refine W_region (by simp [sliceCells, L1, S1, hga, setRange1]; first | exact ⟨rfl, rfl⟩ | exact rfl) ?_
          try simp only [thenQ, blockQ, Ann.kill, List.find?_nil]
          obtain ⟨m, hm⟩ : ∃ m : Nd, m = { rule := x.rule, alt := x.alt, args := ⟨τ.length, ga, x.args⟩, fr := x.fr, to := x.to, kids := ⟨σ.length + 3, x.kids.length, ks⟩ } := ⟨_, rfl⟩
          have hmcs : m.cs = [.t (I x.rule), .t (I x.alt), .sl τ.length ga 0 x.args.length 1, .t (I x.fr), .t (I x.to), .sl (σ.length + 3) x.kids.length 0 x.kids.length 1] := by
            rw [hm]; simp [Nd.cs, Sl.v, hks]
          obtain ⟨τ3, hτ3⟩ : ∃ τ3, τ3 = τ.set (σ.length + 2) (.cells [.t (I x.rule), .t (I x.alt), .sl τ.length ga 0 x.args.length 1, .t (I x.fr), .t (I x.to), .sl (σ.length + 3) x.kids.length 0 x.kids.length 1] 0 0) ++ [.cells (ints x.args) ga 0, .cells [.t (I x.rule), .t (I x.alt), .sl τ.length ga 0 x.args.length 1, .t (I x.fr), .t (I x.to), .sl (σ.length + 3) x.kids.length 0 x.kids.length 1] 0 0] := ⟨_, rfl⟩
          have hlen3 : τ3.length = τ.length + 2 := by rw [hτ3]; simp
          have old3 : ∀ i, i < τ.length → i ≠ σ.length + 2 → τ3[i]? = τ[i]? := fun i h1 h2 => by rw [hτ3]; exact O1 _ _ i h1 h2
          have new3 : ∀ k, τ3[τ.length + k]? = ([.cells (ints x.args) ga 0, .cells [.t (I x.rule), .t (I x.alt), .sl τ.length ga 0 x.args.length 1, .t (I x.fr), .t (I x.to), .sl (σ.length + 3) x.kids.length 0 x.kids.length 1] 0 0] : Store)[k]? := fun k => by
            rw [hτ3, List.getElem?_append_right (by rw [List.length_set]; omega), List.length_set, Nat.add_sub_cancel_left]
          have hacc3 : Acc τ3 v' l' lo ls' := hacc'.keep (by omega) fun i hi => old3 i (hacc'.lt hi).2 (by have := hfar i hi; omega)
          have hmin : m.In τ3 := by
            subst hm
            exact ⟨⟨0, Nat.zero_le _, new3 0⟩, ⟨0, Nat.zero_le _, (old3 (σ.length + 3) (by omega) (by omega)).trans t3⟩⟩
          have hka : m.args.loc = τ.length := by rw [hm]
          have hkk : m.kids.loc = σ.length + 3 := by rw [hm]
          obtain ⟨v4, σ4, ls4, ea, el, eacc, els, efr⟩ := appendN hacc3 (q := τ.length + 1) (m := m) (by rw [new3 1, hmcs]; rfl) hmin (by omega)
            (by omega) (by omega) (by omega)
            (by intro h; have := (hacc'.lt h).2; omega) (by intro h; have := hfar _ h; omega) hl'60
          obtain ⟨t4, rfl⟩ := eacc.isSl (by simp)
          have hp4 : σ4[p]? = some (.cells [v'] 0 0) := by
            rw [efr p (by omega) hpls, old3 p (by omega) (by omega), tp]
          have hmn : m.n = { x with kids := ks } := by rw [hm]
          rw [hmn] at eacc
          rw [hτ3] at ea
          have hp5 : ∀ X, (σ4.set p X)[p]? = some X := fun X => List.getElem?_set_self (by omega)
          repeat apply W_seq
          refine W_region (by simp [P1, L1, sliceCells, fillV, repZero, List.range, List.range.loop, setRange, ea, hp4, setRange1]; first | exact ⟨rfl, rfl⟩ | exact rfl) ?_
          try simp only [thenQ, blockQ, Ann.kill, List.find?_nil]
          repeat apply W_seq
          refine W_region (by simp [hp5, eacc.len]; first | exact ⟨rfl, rfl⟩ | exact rfl) ?_
          try simp only [thenQ, blockQ, Ann.kill, List.find?_nil]
          refine W_ret ?_
          try simp only [thenQ, blockQ]
          refine ⟨trivial, _, (by simp [Try.f26]; rfl), decide (l'.length + 1 ≤ 60), (by have e : decide ((l'.length : Int) + 1 ≤ 60) = decide (l'.length + 1 ≤ 60) := (by simp only [decide_eq_decide]; omega); rw [e]), ?_⟩
          have hfr5 : ∀ X, ∀ i, i < σ.length → i ≠ p → i ∉ ls → (σ4.set p X)[i]? = σ[i]? := fun X i h1 h2 h3 => by
            rw [List.getElem?_set_ne (Ne.symm h2), efr i (by omega) ?_, old3 i (by omega) (by omega), hfr i h1 h2 h3]
            intro h
            rcases hls i h with h8 | h8
            · exact h3 h8
            · omega
          by_cases h60 : l'.length + 1 ≤ 60
          · rw [if_pos h60]
            refine ⟨by simp [h60], by simp, by simpa using h60, t4.sl, ls4, hp5 _, eacc.keep (by simp) fun i hi => ?_, by rw [List.length_set]; omega, fun i h1 h2 h3 => ?_, fun y hy => ?_⟩
            · rw [List.getElem?_set_ne]
              intro e
              subst e
              rcases els _ hi with h8 | h8 | h8 | h8
              · exact hpls h8
              · omega
              · omega
              · omega
            · rw [List.getElem?_set_ne (Ne.symm h2), efr i (by omega) ?_, old3 i (by omega) (by omega), hfr i h1 h2 h3]
              intro h
              rcases hls i h with h8 | h8
              · exact h3 h8
              · omega
            · rcases els y hy with h8 | h8 | h8 | h8
              · rcases hls y h8 with h9 | h9
                · exact .inl h9
                · exact .inr (by omega)
              · exact .inr (by omega)
              · exact .inr (by omega)
              · exact .inr (by omega)
          · rw [if_neg h60]
            exact ⟨by simp [h60], by rw [List.length_set]; omega, hfr5 _⟩
    obtain ⟨v1, σ', e1, b, rfl, e2⟩ := key
    exact ⟨b, σ', e1, e2⟩
