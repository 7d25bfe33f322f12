/- A part of the proof. No statement of the claim is in it. -/
import Derived.Test.YthpjheboegobkaaVTs14
open Go Go.V Go.Proofs
namespace X
set_option maxRecDepth 100000
set_option maxHeartbeats 4000000
set_option linter.unusedSimpArgs false
set_option linter.unusedVariables false
attribute [-simp] lenV idxV setRange
abbrev cT (v : V) : List V := [v, .t (B false)]
/-- There are too many. -/
def Full (p : Nat) (σ : Store) (ls : List Nat) (σ' : Store) : Prop :=
  ∃ v', σ'[p]? = some (.cells [v', .t (B true)] 0 0) ∧ (∀ τ e, lenV τ (.slice e) v' = some 60) ∧ σ.length ≤ σ'.length ∧ ∀ i, i < σ.length → i ≠ p → i ∉ ls → σ'[i]? = σ[i]?
def ResT (p lo : Nat) (σ : Store) (ls : List Nat) (r : Option (List N)) (k : Int) (σ' : Store) : Prop := match r with
  | none => Full p σ ls σ'
  | some l' => k = (l'.length : Int) - 1 ∧ Post cT p lo σ ls l' σ'
def TakeOk (p lo : Nat) (tt : T) (at_ swap : Int) (oth : T) (r : List N → Option (List N)) : Prop :=
  ∀ (σ : Store) (v : V) (l : List N) (ls : List Nat), p ∉ ls → lo ≤ σ.length → l.length ≤ 60 → σ[p]? = some (.cells (cT v) 0 0) → Acc σ v l lo ls →
    ∃ k σ', LD S 29 [.ptr p 0 0 2, .t tt, .t (I at_), .t (I swap), .t oth] σ = some (.t (I k), σ') ∧ ResT p lo σ ls (r l) k σ'

theorem take_ok (nodes : List N) (ox : T) (swap : Int) (g : List N → Option (List N)) (hl : nodes.length ≤ 1048576) (hn : ∀ n ∈ nodes, n.fit) (hr : rightFrom 0 nodes = true) (p lo : Nat)
    (hg : 0 ≤ swap → ∃ om : List N, ox = Ls om ∧ om.length ≤ 1048576 ∧ ∀ lo, TakeOk p lo (.agg [ox]) ((om.length : Int) - 1) (-1) (.agg [.nils]) g) :
    ∀ (n : Nat) (at_ : Nat), at_ < n → at_ < nodes.length → TakeOk p lo (encT nodes) at_ swap (.agg [ox]) (ex nodes swap g n at_) := by
  intro n
  induction n with
  | zero => intro at_ h; omega
  | succ n ih =>
    intro at_ hat hat2 σ v l ls hplo hlo hl60 hp hacc
    have hpl : p < σ.length := get_lt hp
    rw [LD_inl (A := A29) rfl rfl rfl]
    have key : ∃ v1 σ', LV S 29 [.ptr p 0 0 2, .t (encT nodes), .t (I at_), .t (I swap), .t (.agg [ox])] σ = some (v1, σ') ∧ ∃ b, v1 = .t (I b) ∧ ResT p lo σ ls (ex nodes swap g (n + 1) at_ l) b σ' := by
      refine LV_bodyP (A := A29) rfl Try.func29 rfl ?_
      repeat apply W_seq
      refine W_region (by simp; first | exact ⟨rfl, rfl⟩ | exact rfl) ?_
      try simp only [thenQ, blockQ, Ann.kill, List.find?_nil]
      repeat apply W_seq
      refine W_region (by simp; first | exact ⟨rfl, rfl⟩ | exact rfl) ?_
      try simp only [thenQ, blockQ, Ann.kill, List.find?_nil]
      by_cases hsw : (at_ : Int) = swap
      · repeat apply W_seq
        refine W_cond (t := true) (by simp [hsw]) ?_
        simp only [if_true, if_false, Bool.false_eq_true]
        obtain ⟨om, rfl, hol, hput⟩ := hg (by omega)
        have hput := hput lo
        obtain ⟨b, σ', e1, e2⟩ := hput (σ ++ [.cells [.t (Ls nodes)] 0 0, .cells [.t (Ls om)] 0 0]) v l ls hplo (by simp; omega) hl60 (by rw [getC hpl, hp]) (hacc.keep (by simp) fun i hi => List.getElem?_append_left (hacc.lt hi).2)
        repeat apply W_seq
        refine W_region (by simp [getA, getB, IntWalk.i64_in ((om.length : Int) - 1) (by omega), buildV, fieldSizes, fillV, e1]; first | exact ⟨rfl, rfl⟩ | exact rfl) ?_
        try simp only [thenQ, blockQ, Ann.kill, List.find?_nil]
        refine W_ret ?_
        try simp only [thenQ, blockQ]
        refine ⟨trivial, _, (by simp [Try.f29]), b, rfl, ?_⟩
        rw [ex, if_pos hsw]
        cases hgl : g l with
        | none =>
          rw [hgl] at e2
          obtain ⟨v', h3, h4, h5, h6⟩ := e2
          simp only [List.length_append, List.length_cons, List.length_nil] at h5 h6
          exact ⟨v', h3, h4, by omega, fun i hi a b => by rw [h6 i (by omega) a b, List.getElem?_append_left hi]⟩
        | some l' =>
          rw [hgl] at e2
          obtain ⟨hk, h1, h2, v', ls', h3, h4, h5, h6, h7⟩ := e2
          simp only [List.length_append, List.length_cons, List.length_nil] at h5 h6 h7
          refine ⟨hk, h1, h2, v', ls', h3, h4, by omega, fun i hi a b => ?_, fun y hy => ?_⟩
          · rw [h6 i (by omega) a b, List.getElem?_append_left hi]
          · rcases h7 y hy with h8 | h8
            · exact .inl h8
            · exact .inr (by omega)
      · repeat apply W_seq
        refine W_cond (t := false) (by simp [hsw]) ?_
        simp only [if_true, if_false, Bool.false_eq_true]
        refine W_skip ?_
        try simp only [thenQ, blockQ, Ann.kill, List.find?_nil]
        obtain ⟨x, hx⟩ : ∃ x, nodes[at_]? = some x := ⟨nodes[at_], by simp [hat2]⟩
        have hxf := hn x (List.mem_of_getElem? hx)
        have hkl : x.kids.length ≤ 1048576 := hxf.2
        have hal : x.args.length ≤ 1048576 := hxf.1
        have hah := right_get nodes 0 at_ x hr hx
        rw [Int.zero_add] at hah
        have hex : ex nodes swap g (n + 1) at_ l = match kidsF (ex nodes swap g n) x.kids l [] with
            | none => none
            | some (l', ks) => if l'.length + 1 ≤ 60 then some (l' ++ [{ x with kids := ks }]) else none := by
          rw [ex, if_neg hsw]
          simp only [Int.toNat_natCast, hx]
          rfl
        repeat apply W_seq
        refine W_region (by simp [getA, getB, setA, setB, hx, setRange]; first | exact ⟨rfl, rfl⟩ | exact rfl) ?_
        try simp only [thenQ, blockQ, Ann.kill, List.find?_nil]
        repeat apply W_seq
        refine W_region (by simp [sliceCells]; first | exact ⟨rfl, rfl⟩ | exact rfl) ?_
        try simp only [thenQ, blockQ, Ann.kill, List.find?_nil]
        repeat apply W_seq
        refine W_region (by simp [getA, getB]; first | exact ⟨rfl, rfl⟩ | exact rfl) ?_
        try simp only [thenQ, blockQ, Ann.kill, List.find?_nil]
        rw [hex]
        repeat apply W_seq
        refine W_block ?_
        refine W_loop (I := fun q st τ => ∃ (j : Nat) (v' : V) (ks : List Int), q = x.kids.length - j ∧ j ≤ x.kids.length ∧ ks.length = j ∧
          st.vars = [(0, .ptr p 0 0 2), (1, .t (encT nodes)), (2, .t (I at_)), (3, .t (I swap)), (4, .t (.agg [ox])), (6, .ptr σ.length 0 0 1), (9, .ptr (σ.length + 1) 0 0 1), (10, .t (I 0)), (11, .ptr (σ.length + 2) 0 0 6), (12, .sl (σ.length + 3) j 0 j 1), (34, .t (L x.kids)), (35, .t (I x.kids.length)), (36, .t (I j))] ∧
          τ[σ.length]? = some (.cells [.t (Ls nodes)] 0 0) ∧ τ[σ.length + 1]? = some (.cells [.t ox] 0 0) ∧ τ[σ.length + 2]? = some (.cells ((encC x).map V.t) 0 0) ∧ τ[σ.length + 3]? = some (.cells (ints ks) j 0) ∧
          (∀ i, i < σ.length → i ≠ p → i ∉ ls → τ[i]? = σ[i]?) ∧ σ.length + 4 ≤ τ.length ∧
          ((∃ (l' : List N) (ls' : List Nat), τ[p]? = some (.cells (cT v') 0 0) ∧ l'.length ≤ 60 ∧ kidsF (ex nodes swap g n) (x.kids.drop j) l' ks = kidsF (ex nodes swap g n) x.kids l [] ∧ Acc τ v' l' lo ls' ∧ ∀ y ∈ ls', y ∈ ls ∨ σ.length + 4 ≤ y) ∨
            (τ[p]? = some (.cells [v', .t (B true)] 0 0) ∧ (∀ τ e, lenV τ (.slice e) v' = some 60) ∧ kidsF (ex nodes swap g n) x.kids l [] = none))) ?_ x.kids.length _ _
          ⟨0, v, [], rfl, Nat.zero_le _, rfl, by simp, by rw [getA]; rfl, by rw [getB]; rfl, by rw [getB]; rfl, by rw [getB]; rfl, fun i hi _ _ => List.getElem?_append_left hi, by simp, .inl ⟨l, ls, by rw [getC hpl, hp], hl60, rfl, hacc.keep (by simp) (fun i hi => List.getElem?_append_left (hacc.lt hi).2), fun y hy => .inl hy⟩⟩
        rintro q ⟨vars, scr⟩ τ ⟨j, v', ks, rfl, hj, hks, hv, t0, t1, t2, t3, hfr, hτl, hph⟩
        simp only at hv
        subst hv
        repeat apply W_seq
        refine W_region (by simp; first | exact ⟨rfl, rfl⟩ | exact rfl) ?_
        try simp only [thenQ, blockQ, Ann.kill, List.find?_nil]
        by_cases c1 : j < x.kids.length
        · repeat apply W_seq
          refine W_cond (t := true) (by simp [c1]) ?_
          simp only [if_true, if_false, Bool.false_eq_true]
          refine W_skip ?_
          try simp only [thenQ, blockQ, Ann.kill, List.find?_nil]
          repeat apply W_seq
          refine W_block ?_
          obtain ⟨y, hy⟩ : ∃ y, x.kids[j]? = some y := ⟨x.kids[j], by simp [c1]⟩
          have hyr := ahead_get hah hy
          obtain ⟨yn, rfl⟩ : ∃ yn : Nat, y = yn := ⟨y.toNat, by omega⟩
          repeat apply W_seq
          refine W_region (by simp [hy]; first | exact ⟨rfl, rfl⟩ | exact rfl) ?_
          try simp only [thenQ, blockQ, Ann.kill, List.find?_nil]
          rcases hph with ⟨l', ls', tp, hl'60, hkf, hacc', hls⟩ | ⟨tp, hv60, hkf⟩
          · have hfar : ∀ y ∈ ls', y < σ.length ∨ σ.length + 4 ≤ y := fun y hy => (hls y hy).elim (fun h => .inl (hacc.lt h).2) .inr
            have hpls : p ∉ ls' := fun h => (hls p h).elim (fun h => hplo h) fun h => by omega
            repeat apply W_seq
            refine W_region (by simp [tp]; first | exact ⟨rfl, rfl⟩ | exact rfl) ?_
            try simp only [thenQ, blockQ, Ann.kill, List.find?_nil]
            repeat apply W_seq
            refine W_cond (t := false) (by simp) ?_
            simp only [if_true, if_false, Bool.false_eq_true]
            refine W_skip ?_
            try simp only [thenQ, blockQ, Ann.kill, List.find?_nil]
            obtain ⟨b, σ', e1, e2⟩ := ih yn (by omega) (by omega) τ v' l' ls' hpls (by omega) hl'60 tp hacc'
            have hkd := kidsF_drop (f := ex nodes swap g n) hy l' ks
            rw [hkf] at hkd
            repeat apply W_seq
            refine W_region (by simp [t0, t1, t2, hy, e1]; first | exact ⟨rfl, rfl⟩ | exact rfl) ?_
            try simp only [thenQ, blockQ, Ann.kill, List.find?_nil]
            cases hf : ex nodes swap g n yn l' with
            | none =>
              rw [hf] at hkd e2
              obtain ⟨v2, h3, h60, h5, h6⟩ := e2
              have u : ∀ i, i < 4 → σ'[σ.length + i]? = τ[σ.length + i]? := fun i hi => h6 _ (by omega) (by omega) fun h => by have := hfar _ h; omega
              have u3 : σ'[σ.length + 3]? = some (.cells (ints ks) j 0) := by rw [u 3 (by omega), t3]
              have ea := appendI (σ := σ') (p := σ.length + 3) (g := j) (w := 0) (old := ks) (l := [b]) u3 (by simp only [List.length_cons, List.length_nil, hks]; omega) (by simp)
              rw [hks] at ea
              simp only [List.map_cons, List.map_nil, List.length_cons, List.length_nil, Nat.zero_add] at ea
              repeat apply W_seq
              refine W_region (by simp [sliceCells, fillV, repZero, List.range, List.range.loop, setRange, chunk, ea]; first | exact ⟨rfl, rfl⟩ | exact rfl) ?_
              try simp only [thenQ, blockQ, Ann.kill, List.find?_nil]
              repeat apply W_seq
              refine W_region (by simp [IntWalk.i64_in ((j : Int) + 1) (by omega)]; first | exact ⟨rfl, rfl⟩ | exact rfl) ?_
              try simp only [thenQ, blockQ, Ann.kill, List.find?_nil]
              have hne : ∀ i, i ≠ σ.length + 3 → (σ'.set (σ.length + 3) (.cells (ints (ks ++ [b])) (j + 1) 0))[i]? = σ'[i]? := fun i hi => List.getElem?_set_ne (Ne.symm hi)
              refine ⟨x.kids.length - (j + 1), by omega, j + 1, v2, ks ++ [b], rfl, c1, by simp [hks], by simp [Env.drop], ?_, ?_, ?_, ?_, ?_, ?_, .inr ⟨?_, h60, hkd⟩⟩
              · rw [hne _ (by omega)]; have := u 0 (by omega); rw [Nat.add_zero] at this; rw [this, t0]
              · rw [hne _ (by omega), u 1 (by omega), t1]
              · rw [hne _ (by omega), u 2 (by omega), t2]
              · rw [List.getElem?_set_self (by omega)]
              · intro i hi a b
                rw [hne i (by omega), h6 i (by omega) a ?_, hfr i hi a b]
                intro h
                rcases hls i h with h8 | h8
                · exact b h8
                · omega
              · rw [List.length_set]; omega
              · rw [hne _ (by omega), h3]
            | some l2 =>
              rw [hf] at hkd e2
              obtain ⟨hb, h1, h2, v2, ls2, h3, h4, h5, h6, h7⟩ := e2
              simp only at hkd
              have hfar2 : ∀ y ∈ ls2, y < σ.length ∨ σ.length + 4 ≤ y := fun y hy => (h7 y hy).elim (fun h => hfar y h) fun h => .inr (by omega)
              have u : ∀ i, i < 4 → σ'[σ.length + i]? = τ[σ.length + i]? := fun i hi => h6 _ (by omega) (by omega) fun h => by have := hfar _ h; omega
              have u3 : σ'[σ.length + 3]? = some (.cells (ints ks) j 0) := by rw [u 3 (by omega), t3]
              have ea := appendI (σ := σ') (p := σ.length + 3) (g := j) (w := 0) (old := ks) (l := [b]) u3 (by simp only [List.length_cons, List.length_nil, hks]; omega) (by simp)
              rw [hks] at ea
              simp only [List.map_cons, List.map_nil, List.length_cons, List.length_nil, Nat.zero_add] at ea
              repeat apply W_seq
              refine W_region (by simp [sliceCells, fillV, repZero, List.range, List.range.loop, setRange, chunk, ea]; first | exact ⟨rfl, rfl⟩ | exact rfl) ?_
              try simp only [thenQ, blockQ, Ann.kill, List.find?_nil]
              repeat apply W_seq
              refine W_region (by simp [IntWalk.i64_in ((j : Int) + 1) (by omega)]; first | exact ⟨rfl, rfl⟩ | exact rfl) ?_
              try simp only [thenQ, blockQ, Ann.kill, List.find?_nil]
              have hne : ∀ i, i ≠ σ.length + 3 → (σ'.set (σ.length + 3) (.cells (ints (ks ++ [b])) (j + 1) 0))[i]? = σ'[i]? := fun i hi => List.getElem?_set_ne (Ne.symm hi)
              refine ⟨x.kids.length - (j + 1), by omega, j + 1, v2, ks ++ [b], rfl, c1, by simp [hks], by simp [Env.drop], ?_, ?_, ?_, ?_, ?_, ?_, .inl ⟨l2, ls2, ?_, h2, ?_, ?_, ?_⟩⟩
              · rw [hne _ (by omega)]; have := u 0 (by omega); rw [Nat.add_zero] at this; rw [this, t0]
              · rw [hne _ (by omega), u 1 (by omega), t1]
              · rw [hne _ (by omega), u 2 (by omega), t2]
              · rw [List.getElem?_set_self (by omega)]
              · intro i hi a b
                rw [hne i (by omega), h6 i (by omega) a ?_, hfr i hi a b]
                intro h
                rcases hls i h with h8 | h8
                · exact b h8
                · omega
              · rw [List.length_set]; omega
              · rw [hne _ (by omega), h3]
              · rw [hb]; exact hkd.symm
              · exact h4.keep (by simp) fun i hi => hne i (by have := hfar2 i hi; omega)
              · intro y hy
                rcases h7 y hy with h8 | h8
                · exact hls y h8
                · exact .inr (by omega)
          · repeat apply W_seq
            refine W_region (by simp [tp]; first | exact ⟨rfl, rfl⟩ | exact rfl) ?_
            try simp only [thenQ, blockQ, Ann.kill, List.find?_nil]
            repeat apply W_seq
            refine W_cond (t := true) (by simp) ?_
            simp only [if_true, if_false, Bool.false_eq_true]
            repeat apply W_seq
            refine W_region (by simp; first | exact ⟨rfl, rfl⟩ | exact rfl) ?_
            try simp only [thenQ, blockQ, Ann.kill, List.find?_nil]
            refine W_ret ?_
            try simp only [thenQ, blockQ]
            refine ⟨trivial, _, (by simp [Try.f29]), 0, rfl, ?_⟩
            rw [hkf]
            exact ⟨v', tp, hv60, by omega, hfr⟩
        · repeat apply W_seq
          refine W_cond (t := false) (by simp [c1]) ?_
          simp only [if_true, if_false, Bool.false_eq_true]
          repeat apply W_seq
          refine W_exit ?_
          try simp only [thenQ, blockQ, if_true, Ann.kill, List.find?_nil]
          have : j = x.kids.length := by omega
          subst this
          have hpτ : p < τ.length := by omega
          have hps : ∀ X, (τ.set p X)[p]? = some X := fun X => List.getElem?_set_self hpτ
          rcases hph with ⟨l', ls', tp, hl'60, hkf, hacc', hls⟩ | ⟨tp, hv60, hkf⟩
          · rw [List.drop_length] at hkf
            simp only [kidsF] at hkf
            rw [← hkf]
            have hfar : ∀ y ∈ ls', y < σ.length ∨ σ.length + 4 ≤ y := fun y hy => (hls y hy).elim (fun h => .inl (hacc.lt h).2) .inr
            have hpls : p ∉ ls' := fun h => (hls p h).elim (fun h => hplo h) fun h => by omega
            repeat apply W_seq
            refine W_region (by simp [tp, hacc'.len]; first | exact ⟨rfl, rfl⟩ | exact rfl) ?_
            try simp only [thenQ, blockQ, Ann.kill, List.find?_nil]
            by_cases h60 : l'.length = 60
            · repeat apply W_seq
              refine W_cond (t := true) (by simp [h60]) ?_
              simp only [if_true, if_false, Bool.false_eq_true]
              repeat apply W_seq
              refine W_region (by simp [tp, setRange1]; first | exact ⟨rfl, rfl⟩ | exact rfl) ?_
              try simp only [thenQ, blockQ, Ann.kill, List.find?_nil]
              repeat apply W_seq
              refine W_region (by simp; first | exact ⟨rfl, rfl⟩ | exact rfl) ?_
              try simp only [thenQ, blockQ, Ann.kill, List.find?_nil]
              refine W_ret ?_
              try simp only [thenQ, blockQ]
              refine ⟨trivial, _, (by simp [Try.f29]), 0, rfl, ?_⟩
              rw [if_neg (by omega)]
              refine ⟨v', hps _, fun τ e => by rw [hacc'.len, h60]; rfl, by rw [List.length_set]; omega, fun i h1 h2 h3 => ?_⟩
              rw [List.getElem?_set_ne (Ne.symm h2), hfr i h1 h2 h3]
            · have h60' : ¬ (l'.length : Int) = 60 := by omega
              repeat apply W_seq
              refine W_cond (t := false) (by simp [h60']) ?_
              simp only [if_true, if_false, Bool.false_eq_true]
              refine W_skip ?_
              try simp only [thenQ, blockQ, Ann.kill, List.find?_nil]
              rw [if_pos (by omega)]
              have w2 : σ.length + 2 < τ.length := by omega
              obtain ⟨ga, hga⟩ := copyInts_ld x.args (by omega) τ
              obtain ⟨m, hm⟩ : ∃ m : Nd, m = { rule := x.rule, alt := x.alt, args := ⟨τ.length, ga, x.args⟩, fr := x.fr, to := x.to, kids := ⟨σ.length + 3, x.kids.length, ks⟩ } := ⟨_, rfl⟩
              have hmcs : m.cs = [.t (I x.rule), .t (I x.alt), .sl τ.length ga 0 x.args.length 1, .t (I x.fr), .t (I x.to), .sl (σ.length + 3) x.kids.length 0 x.kids.length 1] := by
                rw [hm]; simp [Nd.cs, Sl.v, hks]
              obtain ⟨τ3, hτ3⟩ : ∃ τ3, τ3 = τ ++ [.cells (ints x.args) ga 0, .cells [.t (I x.rule), .t (I x.alt), .sl τ.length ga 0 x.args.length 1, .t (I x.fr), .t (I x.to), .sl (σ.length + 3) x.kids.length 0 x.kids.length 1] 0 0] := ⟨_, rfl⟩
              have hlen3 : τ3.length = τ.length + 2 := by rw [hτ3]; simp
              have old3 : ∀ i, i < τ.length → τ3[i]? = τ[i]? := fun i h1 => by rw [hτ3]; exact List.getElem?_append_left h1
              have new3 : ∀ k, τ3[τ.length + k]? = ([.cells (ints x.args) ga 0, .cells [.t (I x.rule), .t (I x.alt), .sl τ.length ga 0 x.args.length 1, .t (I x.fr), .t (I x.to), .sl (σ.length + 3) x.kids.length 0 x.kids.length 1] 0 0] : Store)[k]? := fun k => by
                rw [hτ3, getB]
              have hacc3 : Acc τ3 v' l' lo ls' := hacc'.keep (by omega) fun i hi => old3 i (hacc'.lt hi).2
              have hmin : m.In τ3 := by
                subst hm
                exact ⟨⟨0, Nat.zero_le _, new3 0⟩, ⟨0, Nat.zero_le _, (old3 (σ.length + 3) (by omega)).trans t3⟩⟩
              have hka : m.args.loc = τ.length := by rw [hm]
              have hkk : m.kids.loc = σ.length + 3 := by rw [hm]
              obtain ⟨v4, σ4, ls4, ea, el, eacc, els, efr⟩ := appendN hacc3 (q := τ.length + 1) (m := m) (by rw [new3 1, hmcs]; rfl) hmin (by omega)
                (by omega) (by omega) (by omega)
                (by intro h; have := (hacc'.lt h).2; omega) (by intro h; have := hfar _ h; omega) hl'60
              obtain ⟨t4, rfl⟩ := eacc.isSl (by simp)
              have hp4 : σ4[p]? = some (.cells [v', .t (B false)] 0 0) := by
                rw [efr p (by omega) hpls, old3 p (by omega), tp]
              have hx4 : σ4[σ.length + 2]? = some (.cells ((encC x).map V.t) 0 0) := by
                rw [efr _ (by omega) (fun h => by have := hfar _ h; omega), old3 _ (by omega), t2]
              have hmn : m.n = { x with kids := ks } := by rw [hm]
              rw [hmn] at eacc
              rw [hτ3] at ea
              have hp5 : ∀ X, (σ4.set p X)[p]? = some X := fun X => List.getElem?_set_self (by omega)
              have hx5 : ∀ X, (σ4.set p X)[σ.length + 2]? = some (.cells ((encC x).map V.t) 0 0) := fun X => by rw [List.getElem?_set_ne (by omega), hx4]
              have xa : ∀ r, (τ ++ r)[σ.length + 2]? = some (.cells ((encC x).map V.t) 0 0) := fun r => by rw [List.getElem?_append_left w2, t2]
              have pa : ∀ r, (τ ++ r)[p]? = some (.cells [v', .t (B false)] 0 0) := fun r => by rw [List.getElem?_append_left hpτ, tp]
              repeat apply W_seq
              refine W_regD (fun b => memN 4 (stops b 22)) (by kernel_rfl) rfl rfl (fun b hb => by
                simp (maxDischargeDepth := 12) [runOpsD, loadOf, chkH, live_all, okL_live, okL_nil, okL_cons, okAt_load, hb, t2, tp, hga, buildV, fieldSizes, sliceCells, fillV, repZero, List.range, List.range.loop, setRange, ea, hp4, hx4, hp5, hx5, xa, pa, setRange1]
                first | exact ⟨rfl, rfl⟩ | exact rfl) ?_
              try simp only [thenQ, blockQ, Ann.kill, List.find?_nil]
              repeat apply W_seq
              refine W_region (by simp [hp5, eacc.len, IntWalk.i64_in (l'.length : Int) (by omega)]; first | exact ⟨rfl, rfl⟩ | exact rfl) ?_
              try simp only [thenQ, blockQ, Ann.kill, List.find?_nil]
              refine W_ret ?_
              try simp only [thenQ, blockQ]
              refine ⟨trivial, _, (by simp [Try.f29]), l'.length, rfl, ?_⟩
              refine ⟨by simp, by simp, by simp; omega, t4.sl, ls4, hp5 _, eacc.keep (by simp) fun i hi => ?_, by rw [List.length_set]; omega, fun i h1 h2 h3 => ?_, fun y hy => ?_⟩
              · rw [List.getElem?_set_ne]
                intro e
                subst e
                rcases els _ hi with h8 | h8 | h8 | h8
                · exact hpls h8
                · omega
                · omega
                · omega
              · rw [List.getElem?_set_ne (Ne.symm h2), efr i (by omega) ?_, old3 i (by omega), hfr i h1 h2 h3]
                intro h
                rcases hls i h with h8 | h8
                · exact h3 h8
                · omega
              · rcases els y hy with h8 | h8 | h8 | h8
                · rcases hls y h8 with h9 | h9
                  · exact .inl h9
                  · exact .inr (by omega)
                · exact .inr (by omega)
                · exact .inr (by omega)
                · exact .inr (by omega)
          · repeat apply W_seq
            refine W_region (by simp [tp, hv60]; first | exact ⟨rfl, rfl⟩ | exact rfl) ?_
            try simp only [thenQ, blockQ, Ann.kill, List.find?_nil]
            repeat apply W_seq
            refine W_cond (t := true) (by simp) ?_
            simp only [if_true, if_false, Bool.false_eq_true]
            repeat apply W_seq
            refine W_region (by simp [tp, setRange1]; first | exact ⟨rfl, rfl⟩ | exact rfl) ?_
            try simp only [thenQ, blockQ, Ann.kill, List.find?_nil]
            repeat apply W_seq
            refine W_region (by simp; first | exact ⟨rfl, rfl⟩ | exact rfl) ?_
            try simp only [thenQ, blockQ, Ann.kill, List.find?_nil]
            refine W_ret ?_
            try simp only [thenQ, blockQ]
            refine ⟨trivial, _, (by simp [Try.f29]), 0, rfl, ?_⟩
            rw [hkf]
            refine ⟨v', hps _, hv60, by rw [List.length_set]; omega, fun i h1 h2 h3 => ?_⟩
            rw [List.getElem?_set_ne (Ne.symm h2), hfr i h1 h2 h3]
    obtain ⟨v1, σ', e1, b, rfl, e2⟩ := key
    exact ⟨b, σ', e1, e2⟩
