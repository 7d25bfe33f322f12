/- A part of the proof. No statement of the claim is in it. -/
import Derived.Test.YtbdadoeankjnkaaGreatDoorIa
set_option maxRecDepth 100000
set_option maxHeartbeats 4000000
set_option linter.all false
open Go Go.V Go.Proofs
namespace G
open X

attribute [-simp] lenV idxV getElem?_pos
attribute [simp] List.getElem?_cons_zero List.getElem?_cons_succ
theorem hI63 (args : List V) (σ : Store) : LD S 44 args σ = LV S 44 args σ := qbt (A := A44) rfl rfl rfl args σ
theorem hI36 (args : List V) (σ : Store) : LD S 26 args σ = LV S 26 args σ := qbt (A := A26) rfl rfl rfl args σ
/-- an end is put among those of this look -/
theorem done_put {rules : List T} {text : List Nat} {r gl m : Nat} {σ : Store} {dv : V} {vs : List (V × V)} {s : Rn} (R : Rep (.list rules) text r gl m σ dv vs s) (here : Nat) (hb : s.done.length ≤ 1000) {gg : Nat} (hr : σ[r]? = some (qbr (.list rules) text (.sl gl gg 0 s.goals.length 5) s.ends s.came dv m)) :
  ∃ σ1 dv', qap S.ty σ [27, 27] dv (.t (.list [.agg [I here]])) = some (dv', σ1) ∧ (∃ d g n, dv' = .sl d g 0 n 1) ∧ σ1[r]? = σ[r]? ∧ r < σ1.length ∧ Goes rules text r gl m σ dv vs (σ1.set r (qbr (.list rules) text (.sl gl gg 0 s.goals.length 5) s.ends s.came dv' m)) dv' vs { s with done := s.done ++ [here] } := by
 obtain ⟨n1, n2, n3, n4, n5, n6⟩ := qom R.apart
 have lr := lt_of_get hr
 have lm := lt_of_get R.seen
 obtain ⟨gg', gw', h1, h2, h3⟩ := R.run
 rw [hr] at h2
 have hgg : gg' = gg := by simpa [qbr] using h2.symm
 subst hgg
 have lg := lt_of_get h3
 have ap := R.apart
 rcases R.done with ⟨rfl, hd⟩ | ⟨d, g, w, rfl, hd, hw⟩
 ·refine ⟨σ ++ [.cells [V.t (I here)] 0 0], .sl σ.length 0 0 1 1, by simp [qap, qaf, qag], ⟨_, _, _, rfl⟩, List.getElem?_append_left lr, by simp; omega, ?_⟩
  have k : ∀ i, i < σ.length → r ≠ i → ((σ ++ [V.Obj.cells [V.t (I here)] 0 0]).set r (qbr (.list rules) text (.sl gl gg' 0 s.goals.length 5) s.ends s.came (.sl σ.length 0 0 1 1) m))[i]? = σ[i]? := fun i hi hn => by
   rw [List.getElem?_set_ne hn, List.getElem?_append_left hi]
  refine ⟨⟨⟨gg', gw', h1, List.getElem?_set_self (by simp; omega), by rw [k gl lg n1]; exact h3⟩, by rw [k m lm n2]; exact R.seen, ?_, R.rd.keep fun i hi => k i (R.rd.locs i hi) (n5 i hi).1, ?_, R.args⟩, ⟨by simp, fun i hi hn => k i hi (fun e => hn (by simp [e]))⟩, ?_, 0, by simp⟩
  ·right
   refine ⟨σ.length, 0, 0, by simp [hd], ?_, Nat.le_refl _, by simp⟩
   rw [List.getElem?_set_ne (by omega), getA]
   simp [hd, ints]
  ·have hlocs := R.rd.locs
   unfold qmp at ap ⊢
   simp only [locV, List.nil_append, List.nodup_cons, List.mem_cons, not_or, List.singleton_append] at ap ⊢
   obtain ⟨⟨a1, a2, a3⟩, ⟨a4, a5⟩, a6, a7⟩ := ap
   exact ⟨⟨a1, a2, by omega, a3⟩, ⟨a4, by omega, a5⟩, ⟨by omega, a6⟩, fun hm => by have := hlocs _ hm; omega, a7⟩
  ·intro i hi
   simp only [locV, List.mem_singleton] at hi
   subst hi
   exact .inr (Nat.le_refl _)
 ·have ld := lt_of_get hd
  obtain ⟨nd1, nd2, nd3⟩ := n4 d (by simp [locV])
  have hbnd : (s.done.length + 1) * 8 ≤ 140737488355328 := by omega
  refine ⟨σ.set d (.cells (ints s.done ++ [V.t (I here)]) (g + 1) w), .sl d (g + 1) 0 (s.done.length + 1) 1, by simp [qap, qaf, qag, hd, hbnd], ⟨_, _, _, rfl⟩, List.getElem?_set_ne (Ne.symm nd1), by simpa using lr, ?_⟩
  have k : ∀ i, d ≠ i → r ≠ i → ((σ.set d (V.Obj.cells (ints s.done ++ [V.t (I here)]) (g + 1) w)).set r (qbr (.list rules) text (.sl gl gg' 0 s.goals.length 5) s.ends s.came (.sl d (g + 1) 0 (s.done.length + 1) 1) m))[i]? = σ[i]? := fun i h1 h2 => by
   rw [List.getElem?_set_ne h2, List.getElem?_set_ne h1]
  refine ⟨⟨⟨gg', gw', h1, List.getElem?_set_self (by simpa using lr), by rw [k gl (Ne.symm nd2) n1]; exact h3⟩, by rw [k m (Ne.symm nd3) n2]; exact R.seen, ?_, R.rd.keep fun i hi => k i (fun e => n6 d (by simp [locV]) (e ▸ hi)) (n5 i hi).1, ?_, R.args⟩, ⟨by simp, fun i hi hn => k i (fun e => hn (by simp [e, locV])) (fun e => hn (by simp [e]))⟩, ?_, 0, by simp⟩
  ·right
   refine ⟨d, g + 1, w, by simp, ?_, by omega, by simp⟩
   rw [List.getElem?_set_ne nd1, List.getElem?_set_self ld]
   simp [ints]
  ·unfold qmp at ap ⊢
   exact ap
  ·intro i hi
   exact .inl hi
end G
namespace G
open X
attribute [-simp] lenV idxV getElem?_pos
attribute [simp] List.getElem?_cons_zero List.getElem?_cons_succ
theorem qcg : ∀ {gs : List Gl} {vs : List (V × V)} {i : Nat} {g : Gl} {p : V × V}, gs[i]? = some g → vs[i]? = some p → (qam gs vs)[i * 5 + 3]? = some p.1 ∧ (qam gs vs)[i * 5 + 4]? = some p.2 ∧ ((qam gs vs).drop (i * 5)).take 5 = [.t (I g.rule), .t (.list (qax g.args)), .t (I g.from_), p.1, p.2]
 | g :: gs, p :: vs, 0, g', p', h1, h2 => by
  simp only [List.getElem?_cons_zero, Option.some.injEq] at h1 h2
  subst h1 h2
  exact ⟨rfl, rfl, rfl⟩
 | g :: gs, p :: vs, i + 1, g', p', h1, h2 => by
  simp only [List.getElem?_cons_succ] at h1 h2
  obtain ⟨e1, e2, e3⟩ := qcg (gs := gs) (vs := vs) (i := i) h1 h2
  have a1 : (i + 1) * 5 + 3 = (i * 5 + 3) + 5 := by omega
  have a2 : (i + 1) * 5 + 4 = (i * 5 + 4) + 5 := by omega
  have a3 : (i + 1) * 5 = i * 5 + 5 := by omega
  rw [a1, a2, a3]
  refine ⟨?_, ?_, ?_⟩
  ·simpa [qam] using e1
  ·simpa [qam] using e2
  ·simpa [qam] using e3
 | [], _, _, _, _, h1, _ => by simp at h1
 | _ :: _, [], _, _, _, _, h2 => by simp at h2
theorem qqv {l : List Nat} (h : ¬ 1000 < l.length) : l.length ≤ 1048576 := by omega
/-- a slice of Syms -/
def AltOk (rules : List T) (text : List Nat) (r gl m : Nat) (xs : T) (A : Nat → T → Nat → Rn → Option Rn) : Prop := ∀ sym env here s s', A sym env here s = some s' → ∀ σ dv vs, Rep (.list rules) text r gl m σ dv vs s →
 ∃ σ' dv' vs', LV S 44 [.ptr r 0 0 7, .t xs, .t (I sym), .t env, .t (I here)] σ = some (.t (.tup []), σ') ∧ Goes rules text r gl m σ dv vs σ' dv' vs' s'

theorem alt_ok {K : Nats} (hK : NatOk K) (rules : List T) (text : List Nat) (r gl m : Nat) {xs : T} {syms : List T} (hxs : Syms xs syms) : ∀ f, AltOk rules text r gl m xs (fun sym env here s => altF K rules text f syms sym env here s) := by
 intro f
 induction f with
 | zero => intro sym env here s s' h; cases h
 | succ f ih =>
  intro sym env here s s' h σ dv vs R
  simp only [altF] at h
  obtain ⟨gg, gw, hw, hr, hg⟩ := R.run
  have hr0 := hr
  simp only [qbr] at hr
  suffices hh : ∃ v σ', LV S 44 [.ptr r 0 0 7, .t xs, .t (I sym), .t env, .t (I here)] σ = some (v, σ') ∧ v = .t (.tup []) ∧ ∃ dv' vs', Goes rules text r gl m σ dv vs σ' dv' vs' s' by
   obtain ⟨v, σ', h1, rfl, dv', vs', h2⟩ := hh
   exact ⟨σ', dv', vs', h1, h2⟩
  refine qaq (A := A44) rfl Tryz.func44 rfl ?_
  split at h
  ·rename_i hb
   cases h
   have hb' : (300 : Int) < (s.goals.length : Int) := by omega
   refine wR rfl (by simp [hr, hb']; rfl) ?_
   refine wT rfl (by simp) ?_
   try simp only [tq]
   refine wX ?_
   try simp only [tq]
   exact ⟨trivial, _, (by simp [Tryz.f44]), rfl, dv, vs, Goes.refl R⟩
  ·rename_i hb
   have hb' : ¬ (300 : Int) < (s.goals.length : Int) := by omega
   split at h
   ·cases h
   ·rename_i key hkey
    have hnew := isNew_ld hK hkey hr0 R.seen
    have hG := Goes.look R (qkc key s.seen)
    split at h
    ·rename_i hhas
     cases h
     rw [hhas] at hnew
     have hsame : qkc key s.seen = s.seen := by simp [qkc, hhas]
     rw [hsame] at hnew hG
     refine wR rfl (by simp [hr, hb', hnew]; rfl) ?_
     refine wT rfl (by simp) ?_
     try simp only [tq]
     refine wX ?_
     try simp only [tq]
     exact ⟨trivial, _, (by simp [Tryz.f44]), rfl, dv, vs, hG⟩
    ·rename_i hhas
     have hhas' : hasKey key s.seen = false := by simpa using hhas
     rw [hhas'] at hnew
     have hsame : qkc key s.seen = s.seen ++ [key] := by simp [qkc, hhas']
     rw [hsame] at hnew hG
     have hr1 : (σ.set m (.map (ents (s.seen ++ [key]))))[r]? = some (qbr (.list rules) text (.sl gl gg 0 s.goals.length 5) s.ends s.came dv m) := by
      rw [List.getElem?_set_ne (Ne.symm (qom R.apart).2.1)]; exact hr0
     revert hnew hG hr1
     generalize (σ.set m (.map (ents (s.seen ++ [key])))) = σ1
     intro hnew hG hr1
     have R1 := hG.rep
     have hr1' := hr1
     simp only [qbr] at hr1'
     refine wR rfl (by simp [hr, hb', hnew]; rfl) ?_
     refine wF rfl (by simp) ?_
     refine wK ?_
     refine wR rfl (by simp [hxs.len]; rfl) ?_
     split at h
     ·rename_i hsym
      subst hsym
      refine wT rfl (by simp) ?_
      unfold doneF at h
      simp only at h
      split at h
      ·cases h
      ·rename_i hlen
       have hcon := qtv R1.done here (by simpa using qqv hlen)
       simp only at hcon
       split at h
       ·rename_i hc
        cases h
        rw [hc] at hcon
        refine wR rfl (by simp [hr1', hcon]; rfl) ?_
        refine wF rfl (by simp) ?_
        refine wK ?_
        try simp only [tq]
        refine wX ?_
        try simp only [tq]
        exact ⟨trivial, _, (by simp [Tryz.f44]), rfl, dv, vs, hG⟩
       ·rename_i hc
        have hc' : s.done.contains here = false := by simpa using hc
        cases h
        rw [hc'] at hcon
        obtain ⟨σ2, dv', a1, ⟨d', g', n', rfl⟩, a2, a3, a4⟩ := done_put R1 here (by simp only; omega) hr1
        simp only at a1 a4
        have hr2 : σ2[r]? = some (.cells [.t (.list rules), .t (.str text), .sl gl gg 0 s.goals.length 5, .t (I s.ends), .t (B s.came), dv, .mp m] 0 0) := by rw [a2]; exact hr1'
        refine wR rfl (by simp [hr1', hcon]; rfl) ?_
        refine wT rfl (by simp) ?_
        refine wR rfl (by simp [hr1', qaa, qab, chunk, qao, a1, hr2]; rfl) ?_
        try simp only [tq]
        refine wX ?_
        try simp only [tq]
        exact ⟨trivial, _, (by simp [Tryz.f44]), rfl, _, vs, hG.trans a4⟩
     ·rename_i hsym
      split at h
      ·cases h
      ·rename_i hbig
       have hsym' : ((sym : Int) == (syms.length : Int)) = false := by simp; omega
       split at h
       rotate_left
       ·cases h
       rename_i x hx
       unfold symF at h
       split at h
       rotate_left
       ·cases h
       rename_i kind nm ax bs
       refine wF rfl (by simp [hsym']) ?_
       refine wK ?_
       have hix := hxs.idx hx
       refine wR rfl (by simp [hix, getA, setA]; rfl) ?_
       have Rt := R1.app [.cells [.t (I kind), .t (.str nm), .t ax, .t (.str bs)] 0 0]
       have hGt := hG.trans (Goes.app R1 [.cells [.t (I kind), .t (.str nm), .t ax, .t (.str bs)] 0 0])
       have hrt : (σ1 ++ [.cells [.t (I kind), .t (.str nm), .t ax, .t (.str bs)] 0 0])[r]? = some (.cells [.t (.list rules), .t (.str text), .sl gl gg 0 s.goals.length 5, .t (I s.ends), .t (B s.came), dv, .mp m] 0 0) := by
        rw [List.getElem?_append_left (lt_of_get hr1)]; exact hr1'
       have hs1 : IntKind.i64.wrap ((sym : Int) + 1) = (sym : Int) + 1 := IntWalk.i64_in _ (by omega)
       have hs2 : ((sym + 1 : Nat) : Int) = (sym : Int) + 1 := by simp
       split at h
       ·rename_i hk
        have hk3 : ((kind : Int) == 3) = true := by simp [hk]
        refine wR rfl (by simp [getA]; rfl) ?_
        refine wF rfl (by simp [show (kind : Int) = 3 by omega]) ?_
        refine wK ?_
        unfold callF at h
        split at h
        ·rename_i hargs
         cases h
         have hal := hK _ _ _ hargs
         simp only [List.map_cons, List.map_nil, symT] at hal
         refine wR rfl (by simp [getA, hal]; rfl) ?_
         refine wR rfl (by simp; rfl) ?_
         refine wT rfl (by simp) ?_
         try simp only [tq]
         refine wX ?_
         try simp only [tq]
         exact ⟨trivial, _, (by simp [Tryz.f44]), rfl, dv, vs, hGt⟩
        ·rename_i rows hargs
         have hal := hK _ _ _ hargs
         simp only [List.map_cons, List.map_nil, symT] at hal
         split at h
         rotate_left
         ·cases h
         rename_i al hnat
         have := qoq hnat
         subst this
         split at h
         rotate_left
         ·cases h
         rename_i hal2
         split at h
         rotate_left
         ·cases h
         rename_i ru hru
         have hrl := hK _ _ _ hru
         simp only [List.map_cons, List.map_nil] at hrl
         obtain ⟨σ3, new, g1, g2, g3, g4⟩ := qud Rt ru al here (by simp only; omega) hal2
         have hGg := hGt.trans (Goes.goal g2 g3 g4)
         generalize hq : goalF { s with seen := s.seen ++ [key] } ru al here = q at h g1 g2 hGg
         obtain ⟨s2, i⟩ := q
         simp only at h g1 g2 hGg
         split at h
         rotate_left
         ·cases h
         rename_i g hgi
         split at h
         rotate_left
         ·cases h
         rename_i hel
         refine wR rfl (by simp [getA, hal]; rfl) ?_
         refine wR rfl (by simp; rfl) ?_
         refine wF rfl (by simp) ?_
         refine wK ?_
         refine wR rfl (by simp [getA, hrt, hrl, g1]; rfl) ?_
         obtain ⟨gg3, gw3, w3, hr3, hg3⟩ := g2.run
         have hr3' := hr3
         simp only [qbr] at hr3
         have hi := lt_of_get hgi
         obtain ⟨p, hp⟩ := get_of_lt (show i < (vs ++ new).length by rw [g2.rd.1]; exact hi)
         obtain ⟨c1, c2, _⟩ := qcg hgi hp
         have hcl := qbg s2.goals (vs ++ new) g2.rd.1
         have hcp := copy_ld (g2.rd.2 i g p hgi hp).1 (by omega)
         have hi1 : (i : Int) < s2.goals.length := by omega
         have hi2 : i * 5 + 3 + 1 ≤ s2.goals.length * 5 := by omega
         refine wR rfl (by simp [hr3, hg3, hi, hi1, hi2, hcl, c1, w3, hcp]; rfl) ?_
         have own1 : r < σ1.length ∧ gl < σ1.length ∧ m < σ1.length := ⟨lt_of_get hr1, by obtain ⟨_, _, _, _, q⟩ := R1.run; exact lt_of_get q, lt_of_get R1.seen⟩
         have hbox3 : σ3[σ1.length]? = some (.cells [.t (I kind), .t (.str nm), .t ax, .t (.str bs)] 0 0) := by
          rw [g3.2 σ1.length (by simp) (by simp only [List.mem_cons, List.not_mem_nil, or_false]; omega), getA]; rfl
         have hdl := R1.done.locs
         have hl3 := g3.1
         refine wB rfl ?_
         try simp only [tq]
         refine qat (I := fun mm st τ => ∃ k sk dk vk, mm = g.ends.length - k ∧ k ≤ g.ends.length ∧ endsF K text (symT kind nm ax (.str bs)) env here (altF K rules text f syms (sym + 1)) (g.ends.drop k) sk = some s' ∧ st.vars = [(0, .ptr r 0 0 7), (1, .t xs), (2, .t (I sym)), (3, .t env), (4, .t (I here)), (10, .ptr σ1.length 0 0 4), (13, .t (.list (qax al))), (14, .t (B true)), (15, .t (I i)), (109, .t (.list (qax g.ends))), (110, .t (I g.ends.length)), (111, .t (I k))] ∧ Goes rules text r gl m σ3 dv (vs ++ new) τ dk vk sk) ?_ g.ends.length _ _ ⟨0, s2, dv, vs ++ new, rfl, Nat.zero_le _, h, by simp, Goes.refl g2⟩
         clear h
         rintro mm ⟨vars, scr⟩ τ ⟨k, sk, dk, vk, rfl, hk, h, hv, hGk⟩
         simp only at hv
         subst hv
         have hbox : τ[σ1.length]? = some (.cells [.t (I kind), .t (.str nm), .t ax, .t (.str bs)] 0 0) := by
          rw [hGk.fr.2 σ1.length (lt_of_get hbox3) (by
           simp only [List.mem_cons, not_or]
           exact ⟨by omega, by omega, by omega, fun hm => by have := hdl _ hm; omega⟩)]
          exact hbox3
         obtain ⟨ggk, gwk, wk, hrk, hgk⟩ := hGk.rep.run
         simp only [qbr] at hrk
         refine wR rfl (by simp; rfl) ?_
         by_cases c3 : k < g.ends.length
         ·refine wT rfl (by simp [c3]) ?_
          refine wK ?_
          refine wB rfl ?_
          try simp only [tq]
          obtain ⟨e, he⟩ := get_of_lt c3
          have hd : g.ends.drop k = e :: g.ends.drop (k + 1) := by
           rw [List.drop_eq_getElem_cons c3]
           rw [List.getElem?_eq_getElem c3] at he
           cases he; rfl
          rw [hd] at h
          simp only [endsF] at h
          split at h
          rotate_left
          ·cases h
          rename_i hen
          split at h
          rotate_left
          ·cases h
          rename_i env' hbd
          have hbl := hK _ _ _ hbd
          simp only [List.map_cons, List.map_nil, symT] at hbl
          split at h
          rotate_left
          ·cases h
          rename_i s3 halt
          obtain ⟨σ4, d4, v4, e1, e2⟩ := ih (sym + 1) env' e sk s3 halt τ dk vk hGk.rep
          rw [hs2] at e1
          have hsl : (here : Int) ≤ e ∧ (e : Int) ≤ text.length := by omega
          have hen1 := hen.1
          have hen2 := hen.2
          refine wR rfl (by simp [he]; rfl) ?_
          refine wR rfl (by simp [hbox, hrk, hs1, hsl.1, hsl.2, hen1, hen2, hbl, hI63, e1]; rfl) ?_
          refine wR rfl (by simp [IntWalk.i64_in ((k : Int) + 1) (by omega)]; rfl) ?_
          try simp only [tq]
          exact ⟨g.ends.length - (k + 1), by omega, k + 1, s3, d4, v4, rfl, c3, h, by simp, hGk.trans e2⟩
         ·refine wF rfl (by simp [c3]) ?_
          repeat apply qaw
          refine qal ?_
          try simp only [tq, if_true]
          have hk2 : k = g.ends.length := by omega
          subst hk2
          rw [List.drop_length] at h
          simp only [endsF, Option.some.injEq] at h
          subst h
          exact ⟨trivial, _, (by simp [Tryz.f44]), rfl, dk, vk, hGg.trans hGk⟩
        ·cases h
       ·rename_i hk
        have hk3 : ((kind : Int) == 3) = false := by simp; omega
        refine wR rfl (by simp [getA]; rfl) ?_
        refine wT rfl (by simp [show ¬ (kind : Int) = 3 by omega]) ?_
        split at h
        ·rename_i nx ha hp
         have hax : ax = .nils ∨ ∃ es, ax = .list es := by
          cases ax <;> first | exact .inl rfl | exact .inr ⟨_, rfl⟩ | (simp at ha)
         have hpl := q0w hK hp ⟨bs, rfl⟩ hax
         simp only [symT] at hpl
         obtain ⟨σ', dv', vs', e1, e2⟩ := ih (sym + 1) env nx _ s' h _ dv vs Rt
         rw [hs2] at e1
         refine wR rfl (by simp [getA, hrt, hpl]; rfl) ?_
         refine wR rfl (by simp; rfl) ?_
         refine wT rfl (by simp) ?_
         refine wR rfl (by simp [hs1, hI63, e1]; rfl) ?_
         try simp only [tq]
         refine wX ?_
         try simp only [tq]
         exact ⟨trivial, _, (by simp [Tryz.f44]), rfl, dv', vs', hGt.trans e2⟩
        ·rename_i nx ha hp
         have hax : ax = .nils ∨ ∃ es, ax = .list es := by
          cases ax <;> first | exact .inl rfl | exact .inr ⟨_, rfl⟩ | (simp at ha)
         have hpl := q0w hK hp ⟨bs, rfl⟩ hax
         simp only [symT] at hpl
         cases h
         refine wR rfl (by simp [getA, hrt, hpl]; rfl) ?_
         refine wR rfl (by simp; rfl) ?_
         refine wF rfl (by simp) ?_
         refine wK ?_
         try simp only [tq]
         refine wX ?_
         try simp only [tq]
         exact ⟨trivial, _, (by simp [Tryz.f44]), rfl, dv, vs, hGt⟩
        ·cases h
end G
namespace G
open X
attribute [-simp] lenV idxV getElem?_pos
attribute [simp] List.getElem?_cons_zero List.getElem?_cons_succ
theorem ld97 (args : List V) (σ : Store) : LD S 78 args σ = insV args σ := by
 unfold LD qbj
 rfl
def insAt (l : List Nat) (i x : Nat) : List Nat := l.take i ++ [x] ++ l.drop i
theorem ins_rd {σ : Store} {v : V} {l : List Nat} (h : Rd σ v l) (i x : Nat) (hi : i ≤ l.length) (hl : l.length ≤ 1000) :
  ∃ σ' v', LD S 78 [v, .t (I i), .sl σ.length 0 0 1 1] (σ ++ [.cells [.t (I x)] 0 0]) = some (v', σ') ∧ Rd σ' v' (insAt l i x) ∧ Fr (locV v) σ σ' ∧ (∃ d g n, v' = .sl d g 0 n 1) ∧ ∀ d ∈ locV v', d ∈ locV v ∨ σ.length ≤ d := by
 have h0 : (σ ++ [V.Obj.cells [.t (I x)] 0 0])[σ.length]? = some (V.Obj.cells [.t (I x)] 0 0) := by rw [getA]; rfl
 rcases h with ⟨rfl, rfl⟩ | ⟨d, g, w, rfl, h1, h2, h3⟩
 ·have : i = 0 := by simpa using hi
  subst this
  refine ⟨σ ++ [V.Obj.cells [.t (I x)] 0 0] ++ [V.Obj.cells [.t (I x)] 0 0], .sl (σ.length + 1) 0 0 1 1, ?_, ?_, ⟨by simp, fun j hj _ => by rw [List.append_assoc, List.getElem?_append_left hj]⟩, ⟨_, _, _, rfl⟩, ?_⟩
  ·rw [ld97]
   show insV [.t .nils, .t (.int .i64 (.ofNat 0)), .sl σ.length 0 0 1 1] _ = _
   simp only [insV, h0]
   simp
  ·right
   refine ⟨σ.length + 1, 0, 0, rfl, ?_, Nat.le_refl _, by simp [insAt]⟩
   have e : σ.length + 1 = (σ ++ [V.Obj.cells [.t (I x)] 0 0]).length := by simp
   rw [e, getA]
   rfl
  ·intro j hj
   simp only [locV, List.mem_singleton] at hj
   subst hj
   exact .inr (by omega)
 ·have ld := lt_of_get h1
  have hd : (σ ++ [V.Obj.cells [.t (I x)] 0 0])[d]? = some (.cells (ints l) g w) := by rw [List.getElem?_append_left ld]; exact h1
  have hpos : 0 < l.length := by
   cases l with
   | nil => exact absurd rfl h3
   | cons => simp
  refine ⟨(σ ++ [V.Obj.cells [.t (I x)] 0 0]).set d (.cells (ints (insAt l i x)) (g + 1) (g + 1)), .sl d (g + 1) 0 (insAt l i x).length 1, ?_, ?_, ⟨by simp, fun j hj hn => ?_⟩, ⟨_, _, _, rfl⟩, fun j hj => .inl hj⟩
  ·rw [ld97]
   show insV [.sl d g 0 l.length 1, .t (.int .i64 (.ofNat i)), .sl σ.length 0 0 1 1] _ = _
   simp only [insV, h0, hd]
   rw [if_pos ⟨trivial, by simp, hi, by omega, hpos, by omega⟩]
   have hlen : (insAt l i x).length = l.length + 1 := by
    simp only [insAt, List.length_append, List.length_take, List.length_drop, List.length_cons, List.length_nil]; omega
   rw [hlen]
   simp [insAt, ints]
  ·right
   exact ⟨d, g + 1, g + 1, rfl, List.getElem?_set_self (by simp; omega), Nat.le_refl _, by simp [insAt]⟩
  ·rw [List.getElem?_set_ne (fun e => hn (by simp [locV, e])), List.getElem?_append_left hj]

theorem qey : ∀ {gs : List Gl} {vs : List (V × V)} {i : Nat} {g g' : Gl} {p q : V × V}, gs[i]? = some g → vs[i]? = some p → g'.rule = g.rule → g'.args = g.args → g'.from_ = g.from_ → qam (gs.set i g') (vs.set i q) = ((qam gs vs).set (i * 5 + 3) q.1).set (i * 5 + 4) q.2
 | g :: gs, p :: vs, 0, _, g', _, q, h1, h2, e1, e2, e3 => by
  simp only [List.getElem?_cons_zero, Option.some.injEq] at h1 h2
  subst h1 h2
  simp only [List.set_cons_zero, qam, e1, e2, e3]
  rfl
 | g :: gs, p :: vs, i + 1, g0, g', p0, q, h1, h2, e1, e2, e3 => by
  simp only [List.getElem?_cons_succ] at h1 h2
  have ih := qey (q := q) h1 h2 e1 e2 e3
  have a1 : (i + 1) * 5 + 3 = (i * 5 + 3) + 5 := by omega
  have a2 : (i + 1) * 5 + 4 = (i * 5 + 4) + 5 := by omega
  rw [a1, a2]
  simp only [List.set_cons_succ, qam, ih, List.cons_append, List.nil_append]
 | [], _, _, _, _, _, _, h1, _, _, _, _ => by simp at h1
 | _ :: _, [], _, _, _, _, _, _, h2, _, _, _ => by simp at h2
theorem q4o {A B B' C : List Nat} {n : Nat} (h : (A ++ (B ++ C)).Nodup) (hA : ∀ x ∈ A, x < n) (hC : ∀ x ∈ C, x < n) (hB : ∀ x ∈ B', x ∈ B ∨ n ≤ x) (hn : B'.Nodup) : (A ++ (B' ++ C)).Nodup := by
 simp only [List.nodup_append, List.mem_append] at h ⊢
 obtain ⟨h1, ⟨h2, h3, h4⟩, h5⟩ := h
 refine ⟨h1, ⟨hn, h3, fun a ha b hb => ?_⟩, fun a ha b hb => ?_⟩
 ·rcases hB a ha with q | q
  ·exact h4 a q b hb
  ·have := hC b hb; omega
 ·rcases hb with hb | hb
  ·rcases hB b hb with q | q
   ·exact h5 a ha b (.inl q)
   ·have := hA a ha; omega
  ·exact h5 a ha b (.inr hb)
theorem qql {vs : List (V × V)} {i : Nat} {p : V × V} (h : vs[i]? = some p) (q : V × V) : ∃ A C, qbc vs = A ++ ((locV p.1 ++ locV p.2) ++ C) ∧ qbc (vs.set i q) = A ++ ((locV q.1 ++ locV q.2) ++ C) := by
 have hi := lt_of_get h
 refine ⟨qbc (vs.take i), qbc (vs.drop (i + 1)), ?_, ?_⟩
 ·have e : vs = vs.take i ++ p :: vs.drop (i + 1) := by
   rw [List.getElem?_eq_getElem hi] at h
   cases h
   rw [← List.drop_eq_getElem_cons hi, List.take_append_drop]
  conv => lhs; rw [e]
  simp [qbc, List.flatMap_append]
 ·rw [List.set_eq_take_append_cons_drop, if_pos hi]
  simp [qbc, List.flatMap_append]
theorem q3u {vs : List (V × V)} (h : (qbc vs).Nodup) {i j : Nat} {p q : V × V} (hi : vs[i]? = some p) (hj : vs[j]? = some q) (hne : i ≠ j) : ∀ x ∈ locV p.1 ++ locV p.2, ∀ y ∈ locV q.1 ++ locV q.2, x ≠ y := by
 unfold qbc List.Nodup at h
 rw [List.pairwise_flatMap] at h
 have h2 := List.pairwise_iff_getElem.1 h.2
 have li := lt_of_get hi
 have lj := lt_of_get hj
 rw [List.getElem?_eq_getElem li] at hi
 rw [List.getElem?_eq_getElem lj] at hj
 cases hi
 cases hj
 intro x hx y hy
 rcases Nat.lt_or_gt_of_ne hne with q | q
 ·exact h2 i j li lj q x hx y hy
 ·exact fun e => h2 j i lj li q y hy x hx e.symm
theorem getB (σ r : Store) (k : Nat) : (σ ++ r)[σ.length + k]? = r[k]? := by
 rw [List.getElem?_append_right (Nat.le_add_right _ _), Nat.add_sub_cancel_left]
theorem setB (σ r : Store) (k : Nat) (x : Go.V.Obj) : (σ ++ r).set (σ.length + k) x = σ ++ r.set k x := by
 rw [List.set_append_right _ _ (by omega), Nat.add_sub_cancel_left]
def endF (s : Rn) (i e : Nat) : Option Rn := match s.goals[i]? with
 | some g => if 1000 < g.ends.length then none else if bsFound g.ends e then some s
  else if bs g.ends e ≤ g.ends.length ∧ bs g.ends e ≤ g.ranks.length ∧ g.ends.length ≤ 1000 ∧ g.ranks.length ≤ 1000 ∧ s.ends ≤ 1000000 then
   some { s with goals := s.goals.set i { g with ends := insAt g.ends (bs g.ends e) e, ranks := insAt g.ranks (bs g.ends e) s.ends }, ends := s.ends + 1, came := true }
  else none
 | none => none
theorem q4f {s s' : Rn} {i e : Nat} (h : endF s i e = some s') : s'.done = s.done := by
 unfold endF at h
 split at h
 ·split at h
  ·cases h
  ·split at h
   ·cases h; rfl
   ·split at h
    ·cases h; rfl
    ·cases h
 ·cases h
end G
namespace G
open X
attribute [-simp] lenV idxV getElem?_pos
attribute [simp] List.getElem?_cons_zero List.getElem?_cons_succ
theorem end_ld {rules : List T} {text : List Nat} {r gl m : Nat} {σ : Store} {dv : V} {vs : List (V × V)} {s s' : Rn} (R : Rep (.list rules) text r gl m σ dv vs s) (i e : Nat) (h : endF s i e = some s') :
  ∃ σ' vs', LV S 47 [.ptr r 0 0 7, .t (I i), .t (I e)] σ = some (.t (.tup []), σ') ∧ Rep (.list rules) text r gl m σ' dv vs' s' ∧ Fr (r :: gl :: qbc vs) σ σ' ∧ ∀ d ∈ qbc vs', d ∈ qbc vs ∨ σ.length ≤ d := by
 unfold endF at h
 split at h
 rotate_left
 ·cases h
 rename_i g hgi
 obtain ⟨gg, gw, hw, hr, hg⟩ := R.run
 have hr0 := hr
 simp only [qbr] at hr
 obtain ⟨n1, n2, n3, n4, n5, n6⟩ := qom R.apart
 have lr := lt_of_get hr
 have lg := lt_of_get hg
 have hi := lt_of_get hgi
 obtain ⟨p, hp⟩ := get_of_lt (show i < vs.length by rw [R.rd.1]; exact hi)
 obtain ⟨c1, c2, _⟩ := qcg hgi hp
 have hcl := qbg s.goals vs R.rd.1
 obtain ⟨re, rk⟩ := R.rd.2 i g p hgi hp
 have hi1 : (i : Int) < s.goals.length := by omega
 have hi2 : i * 5 + 3 + 1 ≤ s.goals.length * 5 := by omega
 have hi3 : i * 5 + 4 + 1 ≤ s.goals.length * 5 := by omega
 suffices hh : ∃ v σ', LV S 47 [.ptr r 0 0 7, .t (I i), .t (I e)] σ = some (v, σ') ∧ v = .t (.tup []) ∧ ∃ vs', Rep (.list rules) text r gl m σ' dv vs' s' ∧ Fr (r :: gl :: qbc vs) σ σ' ∧ ∀ d ∈ qbc vs', d ∈ qbc vs ∨ σ.length ≤ d by
  obtain ⟨v, σ', h1, rfl, vs', h2, h3, h4⟩ := hh
  exact ⟨σ', vs', h1, h2, h3, h4⟩
 refine qaq (A := A47) rfl Tryz.func47 rfl ?_
 split at h
 ·cases h
 rename_i hlen
 split at h
 ·rename_i hf
  cases h
  have hbs := bs_ld re e (by omega)
  rw [hf] at hbs
  refine wR rfl (by simp [hr, hi1]; rfl) ?_
  refine wR rfl (by simp [hg, hcl, hi2, c1, hw, hbs]; rfl) ?_
  refine wR rfl (by simp; rfl) ?_
  refine wT rfl (by simp) ?_
  try simp only [tq]
  refine wX ?_
  try simp only [tq]
  exact ⟨trivial, _, (by simp [Tryz.f47]), rfl, vs, R, Fr.refl _ _, fun d hd => .inl hd⟩
 ·rename_i hf
  have hf' : bsFound g.ends e = false := by simpa using hf
  split at h
  rotate_left
  ·cases h
  rename_i hb
  obtain ⟨b1, b2, b3, b4, b5⟩ := hb
  cases h
  have hbs := bs_ld re e (by omega)
  rw [hf'] at hbs
  revert hbs b1 b2
  generalize bs g.ends e = at_
  intro b1 b2 hbs
  -- the first insertion
  obtain ⟨σ1, v1, i1, i2, i3, ⟨d1, g1, n1', rfl⟩, i5⟩ := ins_rd re at_ e b1 b3
  have pm := qbl hp
  have nr : r ∉ locV p.1 := fun hm => (n5 r (pm.1 r hm)).1 rfl
  have ng : gl ∉ locV p.1 := fun hm => (n5 gl (pm.1 gl hm)).2.1 rfl
  have hr1 : σ1[r]? = some (.cells [.t (.list rules), .t (.str text), .sl gl gg 0 s.goals.length 5, .t (I s.ends), .t (B s.came), dv, .mp m] 0 0) := by rw [i3.2 r lr nr]; exact hr
  have hg1 : σ1[gl]? = some (.cells (qam s.goals vs) gg gw) := by rw [i3.2 gl lg ng]; exact hg
  have hg1' : (σ ++ [V.Obj.cells [.t (I e)] 0 0])[gl]? = some (.cells (qam s.goals vs) gg gw) := by rw [List.getElem?_append_left lg]; exact hg
  refine wR rfl (by simp [hr, hi1]; rfl) ?_
  refine wR rfl (by simp [hg, hcl, hi2, c1, hw, hbs]; rfl) ?_
  refine wR rfl (by simp; rfl) ?_
  refine wF rfl (by simp) ?_
  refine wK ?_
  refine wR rfl (by simp [hg, hcl, hi2, c1, hw, qaa, qab, qao, i1, hg1]; rfl) ?_
  try simp only [tq]
  have hdis : ∀ j ∈ locV p.2, j ∉ locV p.1 := by
   intro j hj hm
   obtain ⟨A, C, e1, _⟩ := qql hp p
   have ap := R.apart
   unfold qmp at ap
   rw [e1] at ap
   simp only [List.nodup_cons, List.nodup_append, List.mem_append] at ap
   obtain ⟨_, _, _, _, ⟨_, ⟨⟨_, _, q⟩, _⟩, _⟩, _⟩ := ap
   exact q j hm j hj rfl
  have l1 := i3.1
  have lg1 := lt_of_get hg1
  have lr1 := lt_of_get hr1
  generalize hG1 : (qam s.goals vs).set (i * 5 + 3) (.sl d1 g1 0 n1' 1) = G1
  have hG1l : G1.length = s.goals.length * 5 := by rw [← hG1, List.length_set, hcl]
  have hG1g : G1[i * 5 + 4]? = some p.2 := by rw [← hG1, List.getElem?_set_ne (by omega)]; exact c2
  have kr : ∀ o, (σ1.set gl o)[r]? = some (.cells [.t (.list rules), .t (.str text), .sl gl gg 0 s.goals.length 5, .t (I s.ends), .t (B s.came), dv, .mp m] 0 0) := fun o => by rw [List.getElem?_set_ne (Ne.symm n1)]; exact hr1
  have kg : ∀ o, (σ1.set gl o)[gl]? = some o := qci lg1
  have rk2 : Rd (σ1.set gl (.cells G1 gg gg)) p.2 g.ranks := rk.keep fun j hj => by
   rw [List.getElem?_set_ne (n5 j (pm.2 j hj)).2.1, i3.2 j (rk.locs j hj) (hdis j hj)]
  obtain ⟨σ3, v2, k1, k2, k3, ⟨d2, g2, n2', rfl⟩, k5⟩ := ins_rd rk2 at_ s.ends b2 b4
  have nr2 : r ∉ locV p.2 := fun hm => (n5 r (pm.2 r hm)).1 rfl
  have ng2 : gl ∉ locV p.2 := fun hm => (n5 gl (pm.2 gl hm)).2.1 rfl
  have l3 := k3.1
  simp only [List.length_set] at k1 k5 l3
  have hr3 : σ3[r]? = some (.cells [.t (.list rules), .t (.str text), .sl gl gg 0 s.goals.length 5, .t (I s.ends), .t (B s.came), dv, .mp m] 0 0) := by rw [k3.2 r (by simpa using lr1) nr2]; exact kr _
  have hg3 : σ3[gl]? = some (.cells G1 gg gg) := by rw [k3.2 gl (by simpa using lg1) ng2]; exact kg _
  have lg3 := lt_of_get hg3
  have lr3 := lt_of_get hr3
  have kr3 : ∀ o, (σ3.set gl o)[r]? = some (.cells [.t (.list rules), .t (.str text), .sl gl gg 0 s.goals.length 5, .t (I s.ends), .t (B s.came), dv, .mp m] 0 0) := fun o => by rw [List.getElem?_set_ne (Ne.symm n1)]; exact hr3
  have kr4 : ∀ o o2, ((σ3.set gl o).set r o2)[r]? = some o2 := fun o o2 => qci (by simpa using lr3) _
  have pf97 : S.pf 78 = false := rfl
  refine wR rfl (by simp [kr, kg, hG1l, hi3, hG1g, pf97, qaa, qab, qao, k1, hg3]; rfl) ?_
  refine wR rfl (by simp [kr3, IntWalk.i64_in ((s.ends : Int) + 1) (by omega)]; rfl) ?_
  refine wR rfl (by simp [kr4]; rfl) ?_
  try simp only [tq]
  have ap := R.apart
  have nd : (qbc vs).Nodup := by
   unfold qmp at ap
   simp only [List.nodup_cons, List.nodup_append] at ap
   exact ap.2.2.2.2.1
  have hF : ∀ o o2 j, r ≠ j → gl ≠ j → ((σ3.set gl o).set r o2)[j]? = σ3[j]? := fun o o2 j h1 h2 => by rw [List.getElem?_set_ne h1, List.getElem?_set_ne h2]
  have h31 : ∀ j, j < σ.length → r ≠ j → gl ≠ j → j ∉ locV p.1 → j ∉ locV p.2 → σ3[j]? = σ[j]? := fun j h1 h2 h3 h4 h5 => by
   rw [k3.2 j (by rw [List.length_set]; omega) h5, List.getElem?_set_ne h3, i3.2 j h1 h4]
  have hv1 : Rd σ3 (.sl d1 g1 0 n1' 1) (insAt g.ends at_ e) := i2.keep fun j hj => by
   have hlt := i2.locs j hj
   have hne : gl ≠ j := by
    rcases i5 j hj with q | q
    ·exact (n5 j (pm.1 j q)).2.1
    ·omega
   rw [k3.2 j (by rw [List.length_set]; exact hlt) (fun hm => by
    rcases i5 j hj with q | q
    ·exact hdis j hm q
    ·have := rk.locs j hm; omega), List.getElem?_set_ne hne]
  obtain ⟨A, C, q1, q2⟩ := qql hp (V.sl d1 g1 0 n1' 1, V.sl d2 g2 0 n2' 1)
  have hsub : ∀ d ∈ locV (V.sl d1 g1 0 n1' 1) ++ locV (V.sl d2 g2 0 n2' 1), d ∈ locV p.1 ++ locV p.2 ∨ σ.length ≤ d := by
   intro d hd
   rcases List.mem_append.1 hd with hd | hd
   ·rcases i5 d hd with q | q
    ·exact .inl (List.mem_append_left _ q)
    ·exact .inr q
   ·rcases k5 d hd with q | q
    ·exact .inl (List.mem_append_right _ q)
    ·exact .inr (by omega)
  have hnd : (locV (V.sl d1 g1 0 n1' 1) ++ locV (V.sl d2 g2 0 n2' 1)).Nodup := by
   have e1 := i5 d1 (by simp [locV])
   have e2 := k5 d2 (by simp [locV])
   have e3 := i2.locs d1 (by simp [locV])
   have : d1 ≠ d2 := by
    rintro rfl
    rcases e2 with q | q
    ·rcases e1 with q' | q'
     ·exact hdis _ q q'
     ·have := rk.locs _ q; omega
    ·omega
   simp [locV, this]
  have hlocs := R.rd.locs
  refine ⟨trivial, _, (by simp [Tryz.f47]), rfl, vs.set i (.sl d1 g1 0 n1' 1, .sl d2 g2 0 n2' 1), ⟨⟨gg, gg, Nat.le_refl _, ?_, ?_⟩, ?_, ?_, ?_, ?_, ?_⟩, ⟨?_, ?_⟩, ?_⟩
  ·rw [qci (by simpa using lr3)]
   simp [qbr]
  ·have hgc := qey (q := (V.sl d1 g1 0 n1' 1, V.sl d2 g2 0 n2' 1)) (g' := { g with ends := insAt g.ends at_ e, ranks := insAt g.ranks at_ s.ends }) hgi hp rfl rfl rfl
   rw [List.getElem?_set_ne n1, qci lg3, ← hG1]
   exact congrArg (fun c => some (V.Obj.cells c gg gg)) hgc.symm
  ·have lm := lt_of_get R.seen
   rw [hF _ _ m n2 n3, h31 m lm n2 n3 (fun hm => (n5 m (pm.1 m hm)).2.2 rfl) (fun hm => (n5 m (pm.2 m hm)).2.2 rfl)]
   exact R.seen
  ·refine R.done.keep fun j hj => ?_
   obtain ⟨a1, a2, a3⟩ := n4 j hj
   rw [hF _ _ j a1 a2, h31 j (R.done.locs j hj) a1 a2 (fun hm => n6 j hj (pm.1 j hm)) (fun hm => n6 j hj (pm.2 j hm))]
  ·refine ⟨by simp [R.rd.1], fun j gj pj hgj hpj => ?_⟩
   by_cases hji : i = j
   ·subst hji
    rw [List.getElem?_set_self hi] at hgj
    rw [List.getElem?_set_self (lt_of_get hp)] at hpj
    simp only [Option.some.injEq] at hgj hpj
    subst hgj hpj
    refine ⟨hv1.keep fun j hj => ?_, k2.keep fun j hj => ?_⟩
    ·refine hF _ _ j ?_ ?_
     ·rcases i5 j hj with q | q
      ·exact (n5 j (pm.1 j q)).1
      ·omega
     ·rcases i5 j hj with q | q
      ·exact (n5 j (pm.1 j q)).2.1
      ·omega
    ·refine hF _ _ j ?_ ?_
     ·rcases k5 j hj with q | q
      ·exact (n5 j (pm.2 j q)).1
      ·omega
     ·rcases k5 j hj with q | q
      ·exact (n5 j (pm.2 j q)).2.1
      ·omega
   ·rw [List.getElem?_set_ne hji] at hgj hpj
    have dd := q3u nd hpj hp (Ne.symm hji)
    obtain ⟨r1, r2⟩ := R.rd.2 j gj pj hgj hpj
    have pj' := qbl hpj
    refine ⟨r1.keep fun x hx => ?_, r2.keep fun x hx => ?_⟩
    ·obtain ⟨a1, a2, a3⟩ := n5 x (pj'.1 x hx)
     rw [hF _ _ x a1 a2, h31 x (r1.locs x hx) a1 a2 (fun hm => dd x (List.mem_append_left _ hx) x (List.mem_append_left _ hm) rfl) (fun hm => dd x (List.mem_append_left _ hx) x (List.mem_append_right _ hm) rfl)]
    ·obtain ⟨a1, a2, a3⟩ := n5 x (pj'.2 x hx)
     rw [hF _ _ x a1 a2, h31 x (r2.locs x hx) a1 a2 (fun hm => dd x (List.mem_append_right _ hx) x (List.mem_append_left _ hm) rfl) (fun hm => dd x (List.mem_append_right _ hx) x (List.mem_append_right _ hm) rfl)]
  ·have lm := lt_of_get R.seen
   unfold qmp at ap ⊢
   rw [q1] at ap
   rw [q2]
   have ap' : ((r :: gl :: m :: (locV dv ++ A)) ++ ((locV p.1 ++ locV p.2) ++ C)).Nodup := by simpa [List.append_assoc] using ap
   have := q4o (n := σ.length) ap' (fun x hx => by
    simp only [List.mem_cons, List.mem_append] at hx
    rcases hx with rfl | rfl | rfl | hx | hx
    ·exact lr
    ·exact lg
    ·exact lm
    ·exact R.done.locs x hx
    ·exact hlocs x (by rw [q1]; exact List.mem_append_left _ hx)) (fun x hx => hlocs x (by rw [q1]; exact List.mem_append_right _ (List.mem_append_right _ hx))) hsub hnd
   simpa [List.append_assoc] using this
  ·intro g' hg'
   rcases List.mem_or_eq_of_mem_set hg' with q | rfl
   ·exact R.args g' q
   ·exact R.args g (List.mem_of_getElem? hgi)
  ·simp only [List.length_set]; omega
  ·intro j hj hm
   simp only [List.mem_cons, not_or] at hm
   rw [hF _ _ j (Ne.symm hm.1) (Ne.symm hm.2.1), h31 j hj (Ne.symm hm.1) (Ne.symm hm.2.1) (fun q => hm.2.2 (pm.1 j q)) (fun q => hm.2.2 (pm.2 j q))]
  ·intro d hd
   rw [q2] at hd
   rw [q1]
   rcases List.mem_append.1 hd with hd | hd
   ·exact .inl (List.mem_append_left _ hd)
   ·rcases List.mem_append.1 hd with hd | hd
    ·rcases hsub d hd with q | q
     ·exact .inl (List.mem_append_right _ (List.mem_append_left _ q))
     ·exact .inr q
    ·exact .inl (List.mem_append_right _ (List.mem_append_right _ hd))
end G
namespace G
open X
attribute [-simp] lenV idxV getElem?_pos
attribute [simp] List.getElem?_cons_zero List.getElem?_cons_succ
/-! ### A look at a goal -/
def symsOf : T → Option (List T)
 | .nils => some []
 | .list l => some l
 | _ => none
theorem qlw {x : T} {l : List T} (h : symsOf x = some l) : Syms x l := by
 unfold symsOf at h
 split at h
 ·cases h; exact .inl ⟨rfl, rfl⟩
 ·cases h; exact .inr rfl
 ·cases h
def altsF (K : Nats) (rules : List T) (text : List Nat) (f : Nat) (rule : T) (args : List Nat) (fr : Nat) : List T → Rn → Option Rn
 | [], s => some s
 | a :: r, s => match a with
  | .agg [xs] => match symsOf xs, K 45 [rule, .list (qax args)] with
   | some syms, some env => match altF K rules text f syms 0 env fr { s with seen := [] } with
    | some s' => altsF K rules text f rule args fr r s'
    | none => none
   | _, _ => none
  | _ => none
def endsAll (i : Nat) : List Nat → Rn → Option Rn
 | [], s => some s
 | e :: r, s => match endF s i e with
  | some s' => endsAll i r s'
  | none => none
def lookF (K : Nats) (rules : List T) (text : List Nat) (f : Nat) (s : Rn) (i : Nat) : Option Rn := match s.goals[i]? with
 | some g => match rules[g.rule]? with
  | some (.agg [.str nm, ps, alts]) => match symsOf alts with
   | some al => if 0 < al.length ∧ al.length ≤ 1000000 then match altsF K rules text f (.agg [.str nm, ps, alts]) g.args g.from_ al { s with done := [] } with
     | some s1 => if s1.done.length ≤ 1000 then endsAll i (sortF s1.done) { s1 with done := sortF s1.done } else none
     | none => none
    else none
   | none => none
  | _ => none
 | none => none

/-- the places of a runner -/
def allP (r gl m : Nat) (dv : V) (vs : List (V × V)) : List Nat := r :: gl :: m :: (locV dv ++ qbc vs)
structure Far (P : List Nat) (σ : Store) (P' : List Nat) (σ' : Store) : Prop where
 fr : Fr P σ σ'
 pl : ∀ d ∈ P', d ∈ P ∨ σ.length ≤ d
theorem Far.refl (P : List Nat) (σ : Store) : Far P σ P σ := ⟨Fr.refl _ _, fun _ h => .inl h⟩
theorem Far.trans {P P1 P2 : List Nat} {σ σ1 σ2 : Store} (h1 : Far P σ P1 σ1) (h2 : Far P1 σ1 P2 σ2) : Far P σ P2 σ2 :=
 ⟨h1.fr.trans h2.fr h1.pl, fun d hd => (h2.pl d hd).elim (h1.pl d) fun h => .inr (by have := h1.fr.1; omega)⟩
theorem Far.of_goes {rules : List T} {text : List Nat} {r gl m : Nat} {σ σ' : Store} {dv dv' : V} {vs vs' : List (V × V)} {s' : Rn} (h : Goes rules text r gl m σ dv vs σ' dv' vs' s') : Far (allP r gl m dv vs) σ (allP r gl m dv' vs') σ' := by
 refine ⟨⟨h.fr.1, fun i hi hn => h.fr.2 i hi fun hm => hn ?_⟩, fun d hd => ?_⟩
 ·simp only [allP, List.mem_cons, List.mem_append] at hm ⊢
  rcases hm with q | q | q | q <;> simp [q]
 ·obtain ⟨k, hk⟩ := h.vs
  have e : qbc vs' = qbc vs := by
   rw [hk]
   simp only [qbc, List.flatMap_append]
   have : (List.replicate k (V.t .nils, V.t .nils)).flatMap (fun p => locV p.1 ++ locV p.2) = [] := by
    induction k with
    | zero => rfl
    | succ k ih => simp [List.replicate_succ, locV]
   rw [this, List.append_nil]
  simp only [allP, List.mem_cons, List.mem_append, e] at hd ⊢
  rcases hd with q | q | q | q | q
  ·simp [q]
  ·simp [q]
  ·simp [q]
  ·rcases h.dvl d q with q | q
   ·simp [q]
   ·exact .inr q
  ·simp [q]
theorem Far.of_end {r gl m : Nat} {σ σ' : Store} {dv : V} {vs vs' : List (V × V)} (h1 : Fr (r :: gl :: qbc vs) σ σ') (h2 : ∀ d ∈ qbc vs', d ∈ qbc vs ∨ σ.length ≤ d) : Far (allP r gl m dv vs) σ (allP r gl m dv vs') σ' := by
 refine ⟨⟨h1.1, fun i hi hn => h1.2 i hi fun hm => hn ?_⟩, fun d hd => ?_⟩
 ·simp only [allP, List.mem_cons, List.mem_append] at hm ⊢
  rcases hm with q | q | q <;> simp [q]
 ·simp only [allP, List.mem_cons, List.mem_append] at hd ⊢
  rcases hd with q | q | q | q | q
  ·simp [q]
  ·simp [q]
  ·simp [q]
  ·simp [q]
  ·rcases h2 d q with q | q
   ·simp [q]
   ·exact .inr q
theorem qpf (cs : List V) : cellsOf (qcc cs) = some cs := by
 unfold qcc
 split
 ·rename_i ts h
  rw [qcd h]; rfl
 ·rfl
/-- The runner, whatever its map is. -/
def qbp (rules : T) (text : List Nat) (gv : V) (ends : Nat) (came : Bool) (dv mv : V) : V.Obj := .cells [.t rules, .t (.str text), gv, .t (I ends), .t (B came), dv, mv] 0 0
structure RepN (rules : T) (text : List Nat) (r gl : Nat) (mv : V) (σ : Store) (dv : V) (vs : List (V × V)) (s : Rn) : Prop where
 run : ∃ gg gw, gw ≤ gg ∧ σ[r]? = some (qbp rules text (.sl gl gg 0 s.goals.length 5) s.ends s.came dv mv) ∧ σ[gl]? = some (.cells (qam s.goals vs) gg gw)
 done : Rd σ dv s.done
 rd : RdP σ s.goals vs
 apart : (r :: gl :: (locV dv ++ qbc vs)).Nodup
 args : ∀ g ∈ s.goals, g.args.length ≤ 1048576
theorem Rep.toN {rules : T} {text : List Nat} {r gl m : Nat} {σ : Store} {dv : V} {vs : List (V × V)} {s : Rn} (R : Rep rules text r gl m σ dv vs s) : RepN rules text r gl (.mp m) σ dv vs s := by
 refine ⟨R.run, R.done, R.rd, ?_, R.args⟩
 have ap := R.apart
 unfold qmp at ap
 simp only [List.nodup_cons, List.mem_cons, List.mem_append, not_or] at ap ⊢
 exact ⟨⟨ap.1.1, ap.1.2.2⟩, ap.2.1.2, ap.2.2.2⟩
theorem RepN.new {rules : T} {text : List Nat} {r gl : Nat} {mv mv2 : V} {σ : Store} {dv : V} {vs : List (V × V)} {s : Rn} (R : RepN rules text r gl mv σ dv vs s) (ks : List (List Nat)) : RepN rules text r gl mv σ dv vs { s with seen := ks } := ⟨R.run, R.done, R.rd, R.apart, R.args⟩
theorem qxa {r gl : Nat} {dv : V} {vs : List (V × V)} (h : (r :: gl :: (locV dv ++ qbc vs)).Nodup) : r ≠ gl ∧ (∀ j ∈ locV dv, r ≠ j ∧ gl ≠ j) ∧ (∀ j ∈ qbc vs, r ≠ j ∧ gl ≠ j) ∧ ∀ j ∈ locV dv, j ∉ qbc vs := by
 simp only [List.nodup_cons, List.mem_cons, List.mem_append, not_or, List.nodup_append] at h
 obtain ⟨⟨h1, h3, h4⟩, ⟨h6, h7⟩, h10, h11, h12⟩ := h
 exact ⟨h1, fun j hj => ⟨fun e => h3 (e ▸ hj), fun e => h6 (e ▸ hj)⟩, fun j hj => ⟨fun e => h4 (e ▸ hj), fun e => h7 (e ▸ hj)⟩, fun j hj hj2 => h12 j hj j hj2 rfl⟩
theorem RepN.app {rules : T} {text : List Nat} {r gl : Nat} {mv : V} {σ : Store} {dv : V} {vs : List (V × V)} {s : Rn} (R : RepN rules text r gl mv σ dv vs s) (l : Store) : RepN rules text r gl mv (σ ++ l) dv vs s := by
 have k : ∀ {i : Nat} {o : V.Obj}, σ[i]? = some o → (σ ++ l)[i]? = some o := fun h => by rw [List.getElem?_append_left (lt_of_get h)]; exact h
 obtain ⟨gg, gw, h1, h2, h3⟩ := R.run
 exact ⟨⟨gg, gw, h1, k h2, k h3⟩, R.done.keep fun i hi => by rw [List.getElem?_append_left (R.done.locs i hi)], R.rd.keep fun i hi => by rw [List.getElem?_append_left (R.rd.locs i hi)], R.apart, R.args⟩
/-- the places of a runner but for its map -/
def P2 (r gl : Nat) (dv : V) (vs : List (V × V)) : List Nat := r :: gl :: (locV dv ++ qbc vs)
theorem Far.drop {r gl m : Nat} {dv : V} {vs : List (V × V)} {σ σ' : Store} {P : List Nat} (h : Far P σ (allP r gl m dv vs) σ') : Far P σ (P2 r gl dv vs) σ' := ⟨h.fr, fun d hd => h.pl d (by
 simp only [P2, allP, List.mem_cons, List.mem_append] at hd ⊢
 rcases hd with q | q | q | q <;> simp [q])⟩
/-- no end has come -/
theorem RepN.nodone {rules : T} {text : List Nat} {r gl : Nat} {mv : V} {σ : Store} {dv : V} {vs : List (V × V)} {s : Rn} (R : RepN rules text r gl mv σ dv vs s) {gg : Nat} (hr : σ[r]? = some (qbp rules text (.sl gl gg 0 s.goals.length 5) s.ends s.came dv mv)) :
  RepN rules text r gl mv (σ.set r (qbp rules text (.sl gl gg 0 s.goals.length 5) s.ends s.came (.t .nils) mv)) (.t .nils) vs { s with done := [] } := by
 obtain ⟨n1, n4, n5, n6⟩ := qxa R.apart
 obtain ⟨gg', gw', h1, h2, h3⟩ := R.run
 rw [hr] at h2
 have hgg : gg' = gg := by simpa [qbp] using h2.symm
 subst hgg
 have ap := R.apart
 refine ⟨⟨gg', gw', h1, qci (lt_of_get hr) _, by rw [List.getElem?_set_ne n1]; exact h3⟩, .inl ⟨rfl, rfl⟩, R.rd.keep fun i hi => List.getElem?_set_ne (n5 i hi).1, ?_, R.args⟩
 simp only [List.nodup_cons, List.mem_cons, List.mem_append, not_or, List.nodup_append, locV, List.nil_append] at ap ⊢
 exact ⟨⟨ap.1.1, ap.1.2.2⟩, ap.2.1.2, ap.2.2.2.1⟩
/-- a new map of looks -/
theorem RepN.newmap {rules : T} {text : List Nat} {r gl : Nat} {mv : V} {σ : Store} {dv : V} {vs : List (V × V)} {s : Rn} (R : RepN rules text r gl mv σ dv vs s) {gg : Nat} (hr : σ[r]? = some (qbp rules text (.sl gl gg 0 s.goals.length 5) s.ends s.came dv mv)) :
  Rep rules text r gl σ.length ((σ ++ [V.Obj.map []]).set r (qbp rules text (.sl gl gg 0 s.goals.length 5) s.ends s.came dv (.mp σ.length))) dv vs { s with seen := [] } := by
 obtain ⟨n1, n4, n5, n6⟩ := qxa R.apart
 obtain ⟨gg', gw', h1, h2, h3⟩ := R.run
 rw [hr] at h2
 have hgg : gg' = gg := by simpa [qbp] using h2.symm
 subst hgg
 have ap := R.apart
 have lr := lt_of_get hr
 have lg := lt_of_get h3
 have k : ∀ i, r ≠ i → i < σ.length → ((σ ++ [V.Obj.map []]).set r (qbp rules text (.sl gl gg' 0 s.goals.length 5) s.ends s.came dv (.mp σ.length)))[i]? = σ[i]? := fun i h1 h2 => by
  rw [List.getElem?_set_ne h1, List.getElem?_append_left h2]
 refine ⟨⟨gg', gw', h1, qci (by simp; omega) _, by rw [k gl n1 lg]; exact h3⟩, ?_, R.done.keep fun i hi => k i (n4 i hi).1 (R.done.locs i hi), R.rd.keep fun i hi => k i (n5 i hi).1 (R.rd.locs i hi), ?_, R.args⟩
 ·rw [List.getElem?_set_ne (by omega), getA]; rfl
 ·have l1 := R.done.locs
  have l2 := R.rd.locs
  unfold qmp
  simp only [List.nodup_cons, List.mem_cons, List.mem_append, not_or, List.nodup_append] at ap ⊢
  exact ⟨⟨ap.1.1, by omega, ap.1.2⟩, ⟨by omega, ap.2.1⟩, ⟨fun h => by have := l1 _ h; omega, fun h => by have := l2 _ h; omega⟩, ap.2.2⟩
/-- the ends of a look, in order -/
theorem q3q {rules : T} {text : List Nat} {r gl m : Nat} {σ : Store} {dv : V} {vs : List (V × V)} {s : Rn} (R : Rep rules text r gl m σ dv vs s) (hn : s.done.length ≤ 1000000) :
  ∃ σ', LD S 46 [dv] σ = some (.t (.tup []), σ') ∧ Rep rules text r gl m σ' dv vs { s with done := sortF s.done } ∧ Fr (locV dv) σ σ' := by
 obtain ⟨σ', h1, h2⟩ := sort_ld R.done hn
 refine ⟨σ', h1, ?_⟩
 rcases h2 with ⟨rfl, rfl, h3⟩ | ⟨d, g, w, w', rfl, h3, h4, h5, rfl⟩
 ·have e : { s with done := sortF s.done } = s := by
   obtain ⟨a, b, c, dn, q⟩ := s
   simp only at h3
   subst h3
   simp [sortF]
  rw [e]
  exact ⟨R, Fr.refl _ _⟩
 ·obtain ⟨n1, n2, n3, n4, n5, n6⟩ := qom R.apart
  obtain ⟨a1, a2, a3⟩ := n4 d (by simp [locV])
  obtain ⟨gg, gw, q1, q2, q3⟩ := R.run
  have hne : s.done ≠ [] := by
   rcases R.done with ⟨q, _⟩ | ⟨_, _, _, _, _, _, q⟩
   ·cases q
   ·exact q
  have hsl : (sortF s.done).length = s.done.length := sortF_len _
  have k : ∀ j, d ≠ j → (σ.set d (.cells (ints (sortF s.done)) g w'))[j]? = σ[j]? := fun j hj => List.getElem?_set_ne hj
  refine ⟨⟨⟨gg, gw, q1, by rw [k r (Ne.symm a1)]; exact q2, by rw [k gl (Ne.symm a2)]; exact q3⟩, by rw [k m (Ne.symm a3)]; exact R.seen, ?_, R.rd.keep fun i hi => k i (fun e => n6 d (by simp [locV]) (e ▸ hi)), R.apart, R.args⟩, by simp, fun i hi hn => k i (fun e => hn (by simp [locV, e]))⟩
  right
  refine ⟨d, g, w', by simp [hsl], qci (lt_of_get h3) _, h5, fun e => ?_⟩
  simp only at e
  rw [e] at hsl
  exact hne (List.length_eq_zero_iff.1 hsl.symm)
theorem Far.of_done {r gl m : Nat} {σ σ' : Store} {dv : V} {vs : List (V × V)} (h1 : Fr (locV dv) σ σ') : Far (allP r gl m dv vs) σ (allP r gl m dv vs) σ' :=
 ⟨⟨h1.1, fun i hi hn => h1.2 i hi fun hm => hn (by simp only [allP, List.mem_cons, List.mem_append]; simp [hm])⟩, fun d hd => .inl hd⟩
end G
namespace G
open X
attribute [-simp] lenV idxV getElem?_pos
attribute [simp] List.getElem?_cons_zero List.getElem?_cons_succ
theorem qum (cs : List T) : cellsOf (.t (.agg cs)) = some (cs.map V.t) := rfl
theorem hI66 (args : List V) (σ : Store) : LD S 47 args σ = LV S 47 args σ := qbt (A := A47) rfl rfl rfl args σ
theorem look_ok {K : Nats} (hK : NatOk K) (rules : List T) (text : List Nat) (r gl : Nat) (mv : V) (f i : Nat) {s s' : Rn} (h : lookF K rules text f s i = some s') {σ : Store} {dv : V} {vs : List (V × V)} (R : RepN (.list rules) text r gl mv σ dv vs s) :
  ∃ σ' m' dv' vs', LV S 27 [.ptr r 0 0 7, .t (I i)] σ = some (.t (.tup []), σ') ∧ Rep (.list rules) text r gl m' σ' dv' vs' s' ∧ Far (P2 r gl dv vs) σ (P2 r gl dv' vs') σ' := by
 unfold lookF at h
 split at h
 rotate_left
 ·cases h
 rename_i g hgi
 split at h
 rotate_left
 ·cases h
 rename_i nm ps alts hrule
 split at h
 rotate_left
 ·cases h
 rename_i al hal
 split at h
 rotate_left
 ·cases h
 rename_i hall
 split at h
 rotate_left
 ·cases h
 rename_i s1 halts
 split at h
 rotate_left
 ·cases h
 rename_i hdl
 have hsy := qlw hal
 obtain ⟨gg, gw, hw, hr, hg⟩ := R.run
 have hr0 := hr
 simp only [qbp] at hr
 obtain ⟨n1, n4, n5, n6⟩ := qxa R.apart
 have lr := lt_of_get hr
 have lg := lt_of_get hg
 have hi := lt_of_get hgi
 obtain ⟨p, hp⟩ := get_of_lt (show i < vs.length by rw [R.rd.1]; exact hi)
 obtain ⟨_, _, c3⟩ := qcg hgi hp
 have hcl := qbg s.goals vs R.rd.1
 have hi1 : (i : Int) < s.goals.length := by omega
 have hi2 : i * 5 + 5 ≤ s.goals.length * 5 := by omega
 suffices hh : ∃ v σ', LV S 27 [.ptr r 0 0 7, .t (I i)] σ = some (v, σ') ∧ v = .t (.tup []) ∧ ∃ m' dv' vs', Rep (.list rules) text r gl m' σ' dv' vs' s' ∧ Far (P2 r gl dv vs) σ (P2 r gl dv' vs') σ' by
  obtain ⟨v, σ', h1, rfl, m', dv', vs', h2, h3⟩ := hh
  exact ⟨σ', m', dv', vs', h1, h2, h3⟩
 refine qaq (A := A27) rfl Tryz.func27 rfl ?_
 refine wR rfl (by simp [-qcc, -cellsOf, qpf, qum, hr, hg, hi1, hi2, hcl, c3, hw, getA, setA]; rfl) ?_
 have lA : σ.length < (σ ++ [V.Obj.cells [V.t (I g.rule), .t (.list (qax g.args)), .t (I g.from_), p.1, p.2] 0 0]).length := by simp
 have hrA : ∀ o, (σ ++ o)[r]? = some (.cells [.t (.list rules), .t (.str text), .sl gl gg 0 s.goals.length 5, .t (I s.ends),   .t (B s.came), dv, mv] 0 0) := fun o => by rw [List.getElem?_append_left lr]; exact hr
 refine wR rfl (by simp [hrA, getA, setA, getB, setB, hrule]; rfl) ?_
 refine wR rfl (by simp [hrA]; rfl) ?_
 try simp only [tq]
 have RA := R.app [V.Obj.cells [V.t (I g.rule), .t (.list (qax g.args)), .t (I g.from_), p.1, p.2] 0 0, V.Obj.cells [V.t (.str nm), .t ps, .t alts] 0 0]
 have R0 := RA.nodone (hrA _)
 have hb4 : ((σ ++ [V.Obj.cells [V.t (I g.rule), .t (.list (qax g.args)), .t (I g.from_), p.1, p.2] 0 0, V.Obj.cells [V.t (.str nm), .t ps, .t alts] 0 0]).set r (qbp (.list rules) text (.sl gl gg 0 s.goals.length 5) s.ends s.came (.t .nils) mv))[σ.length]? = some (.cells [V.t (I g.rule), .t (.list (qax g.args)), .t (I g.from_), p.1, p.2] 0 0) := by
  rw [List.getElem?_set_ne (by omega), getA]; rfl
 have hb5 : ((σ ++ [V.Obj.cells [V.t (I g.rule), .t (.list (qax g.args)), .t (I g.from_), p.1, p.2] 0 0, V.Obj.cells [V.t (.str nm), .t ps, .t alts] 0 0]).set r (qbp (.list rules) text (.sl gl gg 0 s.goals.length 5) s.ends s.came (.t .nils) mv))[σ.length + 1]? = some (.cells [V.t (.str nm), .t ps, .t alts] 0 0) := by
  rw [List.getElem?_set_ne (by omega), getB]; rfl
 have hlocs := R.rd.locs
 have hF0 : Far (P2 r gl dv vs) σ (P2 r gl (.t .nils) vs) ((σ ++ [V.Obj.cells [V.t (I g.rule), .t (.list (qax g.args)), .t (I g.from_), p.1, p.2] 0 0, V.Obj.cells [V.t (.str nm), .t ps, .t alts] 0 0]).set r (qbp (.list rules) text (.sl gl gg 0 s.goals.length 5) s.ends s.came (.t .nils) mv)) := by
  refine ⟨⟨by simp, fun j hj hn => ?_⟩, fun d hd => .inl ?_⟩
  ·rw [List.getElem?_set_ne (fun e => hn (by simp [P2, e])), List.getElem?_append_left hj]
  ·simp only [P2, List.mem_cons, List.mem_append, locV, List.not_mem_nil, false_or] at hd ⊢
   rcases hd with q | q | q <;> simp [q]
 simp only [qbp] at R0 hb4 hb5 hF0
 revert R0 hb4 hb5 hF0
 generalize (σ ++ [V.Obj.cells [V.t (I g.rule), .t (.list (qax g.args)), .t (I g.from_), p.1, p.2] 0 0, V.Obj.cells [V.t (.str nm), .t ps, .t alts] 0 0]).set r (.cells [.t (.list rules), .t (.str text), .sl gl gg 0 s.goals.length 5, .t (I s.ends), .t (B s.came), .t .nils, mv] 0 0) = τ0
 intro R0 hb4 hb5 hF0
 refine wR rfl (by simp [hb5, hsy.len]; rfl) ?_
 have hP0 : σ.length ∉ P2 r gl (.t .nils) vs ∧ σ.length + 1 ∉ P2 r gl (.t .nils) vs := by
  constructor
  ·intro hm
   simp only [P2, List.mem_cons, List.mem_append, locV, List.not_mem_nil, false_or] at hm
   rcases hm with q | q | q
   ·omega
   ·omega
   ·have := hlocs _ q; omega
  ·intro hm
   simp only [P2, List.mem_cons, List.mem_append, locV, List.not_mem_nil, false_or] at hm
   rcases hm with q | q | q
   ·omega
   ·omega
   ·have := hlocs _ q; omega
 have lb5 := lt_of_get hb5
 have hgr := hrule
 refine wB rfl ?_
 try simp only [tq]
 refine qat (I := fun mm st τ => ∃ k sk mk dk vk, (0 < k → ∃ m2, mk = .mp m2 ∧ Rep (.list rules) text r gl m2 τ dk vk sk ∧ Far (P2 r gl (.t .nils) vs) τ0 (allP r gl m2 dk vk) τ) ∧ mm = al.length - k ∧ k ≤ al.length ∧ altsF K rules text f (.agg [.str nm, ps, alts]) g.args g.from_ (al.drop k) sk = some s1 ∧ st.vars = [(0, .ptr r 0 0 7), (1, .t (I i)), (4, .ptr σ.length 0 0 5), (5, .ptr (σ.length + 1) 0 0 3), (31, .t alts), (32, .t (I al.length)), (33, .t (I k))] ∧ RepN (.list rules) text r gl mk τ dk vk sk ∧ Far (P2 r gl (.t .nils) vs) τ0 (P2 r gl dk vk) τ) ?_ al.length _ _ ⟨0, _, mv, .t .nils, vs, fun h => absurd h (Nat.lt_irrefl _), rfl, Nat.zero_le _, halts, by simp, R0, Far.refl _ _⟩
 clear halts
 rintro mm ⟨vars, scr⟩ τ ⟨k, sk, mk, dk, vk, hmk, rfl, hk, halts, hv, Rk, Fk⟩
 simp only at hv
 subst hv
 have hb4k : τ[σ.length]? = some (.cells [V.t (I g.rule), .t (.list (qax g.args)), .t (I g.from_), p.1, p.2] 0 0) := by
  rw [Fk.fr.2 _ (by omega) hP0.1]; exact hb4
 have hb5k : τ[σ.length + 1]? = some (.cells [V.t (.str nm), .t ps, .t alts] 0 0) := by
  rw [Fk.fr.2 _ lb5 hP0.2]; exact hb5
 obtain ⟨ggk, gwk, wk, hrk, hgk⟩ := Rk.run
 have hrk0 := hrk
 simp only [qbp] at hrk
 have lrk := lt_of_get hrk
 have lb5k := lt_of_get hb5k
 refine wR rfl (by simp; rfl) ?_
 by_cases c1 : k < al.length
 ·refine wT rfl (by simp [c1]) ?_
  refine wK ?_
  refine wB rfl ?_
  try simp only [tq]
  obtain ⟨a, ha⟩ := get_of_lt c1
  have hd : al.drop k = a :: al.drop (k + 1) := by
   rw [List.drop_eq_getElem_cons c1]
   rw [List.getElem?_eq_getElem c1] at ha
   cases ha; rfl
  rw [hd] at halts
  simp only [altsF] at halts
  split at halts
  rotate_left
  ·cases halts
  rename_i xs
  split at halts
  rotate_left
  ·cases halts
  rename_i syms env hsyms henv
  split at halts
  rotate_left
  ·cases halts
  rename_i s2 halt
  have hxs := qlw hsyms
  have hen := hK _ _ _ henv
  simp only [List.map_cons, List.map_nil] at hen
  have hix := hsy.idxk ha (n := 1) rfl
  have hrk1 : ∀ o, (τ ++ o)[r]? = some (.cells [.t (.list rules), .t (.str text), .sl gl ggk 0 sk.goals.length 5, .t (I sk.ends), .t (B sk.came), dk, mk] 0 0) := fun o => by rw [List.getElem?_append_left lrk]; exact hrk
  refine wR rfl (by simp [hix, getA, setA]; rfl) ?_
  refine wR rfl (by simp [hrk1]; rfl) ?_
  try simp only [tq]
  have Rn1 := (Rk.app [V.Obj.cells [.t xs] 0 0]).newmap (hrk1 _)
  have hFn : Far (P2 r gl dk vk) τ (allP r gl (τ.length + 1) dk vk) ((τ ++ [V.Obj.cells [.t xs] 0 0, V.Obj.map []]).set r (.cells [.t (.list rules), .t (.str text), .sl gl ggk 0 sk.goals.length 5, .t (I sk.ends), .t (B sk.came), dk, .mp (τ.length + 1)] 0 0)) := by
   refine ⟨⟨by simp, fun j hj hn => ?_⟩, fun d hd => ?_⟩
   ·rw [List.getElem?_set_ne (fun e => hn (by simp [P2, e])), List.getElem?_append_left hj]
   ·simp only [P2, allP, List.mem_cons] at hd ⊢
    rcases hd with q | q | q | q
    ·exact .inl (.inl q)
    ·exact .inl (.inr (.inl q))
    ·exact .inr (by omega)
    ·exact .inl (.inr (.inr q))
  have hc1 : ((τ ++ [V.Obj.cells [.t xs] 0 0, V.Obj.map []]).set r (.cells [.t (.list rules), .t (.str text), .sl gl ggk 0 sk.goals.length 5, .t (I sk.ends), .t (B sk.came), dk, .mp (τ.length + 1)] 0 0))[τ.length]? = some (.cells [.t xs] 0 0) := by
   rw [List.getElem?_set_ne (by omega), getA]; rfl
  have hc4 : ((τ ++ [V.Obj.cells [.t xs] 0 0, V.Obj.map []]).set r (.cells [.t (.list rules), .t (.str text), .sl gl ggk 0 sk.goals.length 5, .t (I sk.ends), .t (B sk.came), dk, .mp (τ.length + 1)] 0 0))[σ.length]? = some (.cells [V.t (I g.rule), .t (.list (qax g.args)), .t (I g.from_), p.1, p.2] 0 0) := by
   rw [List.getElem?_set_ne (by omega), List.getElem?_append_left (by omega)]; exact hb4k
  have hc5 : ((τ ++ [V.Obj.cells [.t xs] 0 0, V.Obj.map []]).set r (.cells [.t (.list rules), .t (.str text), .sl gl ggk 0 sk.goals.length 5, .t (I sk.ends), .t (B sk.came), dk, .mp (τ.length + 1)] 0 0))[σ.length + 1]? = some (.cells [V.t (.str nm), .t ps, .t alts] 0 0) := by
   rw [List.getElem?_set_ne (by omega), List.getElem?_append_left lb5k]; exact hb5k
  simp only [qbp, List.append_assoc, List.cons_append, List.nil_append, List.length_append, List.length_cons, List.length_nil, Nat.zero_add] at Rn1
  revert Rn1 hFn hc1 hc4 hc5
  generalize (τ ++ [V.Obj.cells [.t xs] 0 0, V.Obj.map []]).set r (.cells [.t (.list rules), .t (.str text), .sl gl ggk 0 sk.goals.length 5, .t (I sk.ends), .t (B sk.came), dk, .mp (τ.length + 1)] 0 0) = τ2
  intro hFn hc1 hc4 hc5 Rn1
  obtain ⟨τ3, d3, v3, e1, e2⟩ := alt_ok hK rules text r gl (τ.length + 1) hxs f 0 env g.from_ _ s2 halt τ2 dk vk Rn1
  rw [show ((0 : Nat) : Int) = 0 from rfl] at e1
  refine wR rfl (by simp [hc1, hc4, hc5, hen, hI63, e1]; rfl) ?_
  refine wR rfl (by simp [IntWalk.i64_in ((k : Int) + 1) (by omega)]; rfl) ?_
  try simp only [tq]
  exact ⟨al.length - (k + 1), by omega, k + 1, s2, .mp (τ.length + 1), d3, v3, fun _ => ⟨_, rfl, e2.rep, Fk.trans (hFn.trans (Far.of_goes e2))⟩, rfl, c1, halts, by simp, e2.rep.toN, (Fk.trans (hFn.trans (Far.of_goes e2))).drop⟩
 ·refine wF rfl (by simp [c1]) ?_
  repeat apply qaw
  refine qal ?_
  try simp only [tq, if_true]
  have hk2 : k = al.length := by omega
  subst hk2
  rw [List.drop_length] at halts
  simp only [altsF, Option.some.injEq] at halts
  subst halts
  obtain ⟨m2, rfl, Rk, Fk⟩ := hmk (by omega)
  obtain ⟨τ4, a1, a2, a3⟩ := q3q Rk (by omega)
  refine wR rfl (by simp [hrk, a1]; rfl) ?_
  have hs12 : (sortF sk.done).length ≤ 1000 := by
   have : (sortF sk.done).length = sk.done.length := sortF_len _
   omega
  obtain ⟨gg5, gw5, w5, hr5, hg5⟩ := a2.run
  simp only [qbr] at hr5
  have hlen5 : lenV τ4 (.slice 3) dk = some (((sortF sk.done).length : Nat) : Int) := a2.done.len 3
  refine wR rfl (by simp [hr5, hlen5]; rfl) ?_
  have F4 := Fk.trans (Far.of_done (r := r) (gl := gl) (m := m2) (vs := vk) a3)
  refine wB rfl ?_
  try simp only [tq]
  refine qat (I := fun mm st τ => ∃ k s5 v5, mm = (sortF sk.done).length - k ∧ k ≤ (sortF sk.done).length ∧ endsAll i ((sortF sk.done).drop k) s5 = some s' ∧ s5.done = sortF sk.done ∧ st.vars = [(0, .ptr r 0 0 7), (1, .t (I i)), (4, .ptr σ.length 0 0 5), (5, .ptr (σ.length + 1) 0 0 3), (31, .t alts), (32, .t (I al.length)), (60, dk), (61, .t (I (sortF sk.done).length)), (62, .t (I k))] ∧ Rep (.list rules) text r gl m2 τ dk v5 s5 ∧ Far (P2 r gl (.t .nils) vs) τ0 (allP r gl m2 dk v5) τ) ?_ (sortF sk.done).length _ _ ⟨0, _, vk, rfl, Nat.zero_le _, h, rfl, by simp, a2, F4⟩
  clear h
  rintro mm ⟨vars, scr⟩ τ5 ⟨k, s5, v5, rfl, hk, h, hd5, hv, R5, F5⟩
  simp only at hv
  subst hv
  refine wR rfl (by simp; rfl) ?_
  by_cases c2 : k < (sortF sk.done).length
  ·refine wT rfl (by simp [c2]) ?_
   refine wK ?_
   refine wB rfl ?_
   try simp only [tq]
   obtain ⟨e, he⟩ := get_of_lt c2
   have hd : (sortF sk.done).drop k = e :: (sortF sk.done).drop (k + 1) := by
    rw [List.drop_eq_getElem_cons c2]
    rw [List.getElem?_eq_getElem c2] at he
    cases he; rfl
   rw [hd] at h
   simp only [endsAll] at h
   split at h
   rotate_left
   ·cases h
   rename_i s6 hend
   obtain ⟨τ6, v6, b1, b2, b3, b4⟩ := end_ld R5 i e hend
   have hdn := R5.done
   rw [hd5] at hdn
   rcases hdn with ⟨_, q⟩ | ⟨d, gd, wd, rfl, q1, q2, q3⟩
   ·rw [q] at c2; simp at c2
   ·have hk1 : (k : Int) < ((sortF sk.done).length : Int) := by omega
    have hk2 : k + 1 ≤ (sortF sk.done).length := by omega
    refine wR rfl (by simp [q1, q2, hk1, hk2, c2, he]; rfl) ?_
    refine wR rfl (by simp [hI66, b1]; rfl) ?_
    refine wR rfl (by simp [IntWalk.i64_in ((k : Int) + 1) (by omega)]; rfl) ?_
    try simp only [tq]
    exact ⟨(sortF sk.done).length - (k + 1), by omega, k + 1, s6, v6, rfl, c2, h, by rw [q4f hend]; exact hd5, by simp, b2, F5.trans (Far.of_end b3 b4)⟩
  ·refine wF rfl (by simp [c2]) ?_
   repeat apply qaw
   refine qal ?_
   try simp only [tq, if_true]
   have hk2 : k = (sortF sk.done).length := by omega
   subst hk2
   rw [List.drop_length] at h
   simp only [endsAll, Option.some.injEq] at h
   subst h
   exact ⟨trivial, _, (by simp [Tryz.f27]), rfl, m2, dk, v5, R5, hF0.trans F5.drop⟩
end G
namespace G
open X
attribute [-simp] lenV idxV getElem?_pos
attribute [simp] List.getElem?_cons_zero List.getElem?_cons_succ
/-! ### RunGoal -/
def roundF (K : Nats) (rules : List T) (text : List Nat) (f : Nat) : Nat → Nat → Rn → Option (Rn × Bool)
 | 0, _, _ => none
 | n + 1, i, s => if i < s.goals.length then if 1000 < i then none else match lookF K rules text f s i with
     | some s' => if 300 < s'.goals.length then some (s', true) else roundF K rules text f n (i + 1) s'
     | none => none
  else some (s, false)
def runsF (K : Nats) (rules : List T) (text : List Nat) (f : Nat) : Nat → Rn → Option (Rn × Bool)
 | 0, _ => none
 | n + 1, s => if s.came then match roundF K rules text f f 0 { s with came := false } with
     | some (s', true) => some (s', true)
     | some (s', false) => runsF K rules text f n s'
     | none => none
  else some (s, false)
def lT (l : List Nat) : T := match l with
 | [] => .nils
 | _ => .list (qax l)
theorem lT_is (l : List Nat) : Is (lT l) l := by
 cases l with
 | nil => exact .inl ⟨rfl, rfl⟩
 | cons a l => exact .inr rfl
theorem q0e (n : Nat) {σ : Store} {v : V} {l : List Nat} (h : Rd σ v l) : frz (n + 2) σ v = some (lT l) := by
 rcases h with ⟨rfl, rfl⟩ | ⟨d, g, w, rfl, h1, h2, h3⟩
 ·rfl
 ·rw [qhe n h1 h2]
  cases l with
  | nil => exact absurd rfl h3
  | cons a l => rfl
def rowsT (gs : List Gl) : List T := gs.map fun g => rowT g (lT g.ends) (lT g.ranks)
theorem qmm (n : Nat) {σ : Store} : ∀ (gs : List Gl) (vs : List (V × V)), RdP σ gs vs → ∃ ts, frzs (frz (n + 2) σ) (qam gs vs) = some ts ∧ chunk 5 gs.length ts = rowsT gs
 | [], [], _ => ⟨[], rfl, rfl⟩
 | g :: gs, [], h => by have := h.1; simp at this
 | [], p :: vs, h => by have := h.1; simp at this
 | g :: gs, p :: vs, h => by
  obtain ⟨e1, e2⟩ := h.2 0 g p rfl rfl
  have hx := q0e n e1
  have hy := q0e n e2
  have h' : RdP σ gs vs := ⟨by have := h.1; simpa using this, fun i g p hg hp => h.2 (i + 1) g p (by simpa using hg) (by simpa using hp)⟩
  obtain ⟨ts, h1, h2⟩ := qmm n gs vs h'
  refine ⟨I g.rule :: .list (qax g.args) :: I g.from_ :: lT g.ends :: lT g.ranks :: ts, ?_, ?_⟩
  ·have t1 : ∀ z : T, frz (n + 2) σ (.t z) = some z := fun z => rfl
   simp only [qam, List.cons_append, List.nil_append, frzs, t1, hx, hy, h1]
  ·simp only [List.length_cons, chunk, List.take_succ_cons, List.take_zero, List.drop_succ_cons, List.drop_zero, h2, rowsT, List.map_cons, rowT]
theorem RepN.came {rules : T} {text : List Nat} {r gl : Nat} {mv : V} {σ : Store} {dv : V} {vs : List (V × V)} {s : Rn} (R : RepN rules text r gl mv σ dv vs s) {gg : Nat} (hr : σ[r]? = some (qbp rules text (.sl gl gg 0 s.goals.length 5) s.ends s.came dv mv)) (b : Bool) :
  RepN rules text r gl mv (σ.set r (qbp rules text (.sl gl gg 0 s.goals.length 5) s.ends b dv mv)) dv vs { s with came := b } := by
 obtain ⟨n1, n4, n5, n6⟩ := qxa R.apart
 obtain ⟨gg', gw', h1, h2, h3⟩ := R.run
 rw [hr] at h2
 have hgg : gg' = gg := by simpa [qbp] using h2.symm
 subst hgg
 exact ⟨⟨gg', gw', h1, qci (lt_of_get hr) _, by rw [List.getElem?_set_ne n1]; exact h3⟩, R.done.keep fun i hi => List.getElem?_set_ne (n4 i hi).1, R.rd.keep fun i hi => List.getElem?_set_ne (n5 i hi).1, R.apart, R.args⟩
theorem Far.set {r gl : Nat} {dv : V} {vs : List (V × V)} {σ : Store} (o : V.Obj) : Far (P2 r gl dv vs) σ (P2 r gl dv vs) (σ.set r o) :=
 ⟨⟨by simp, fun j hj hn => List.getElem?_set_ne (fun e => hn (by simp [P2, e]))⟩, fun d hd => .inl hd⟩
/-- the first goal -/
theorem goal0_lv {rules : T} {text : List Nat} {σ : Store} {r : Nat} (hr : σ[r]? = some (qbp rules text (.t .nils) 0 false (.t .nils) (.t .nilm))) (ru : Nat) {y : T} {al : List Nat} (hy : Is y al) (fr : Nat) (ha : al.length ≤ 1000) :
  ∃ σ' o, LV S 26 [.ptr r 0 0 7, .t (I ru), .t y, .t (I fr)] σ = some (.t (I 0), σ') ∧ σ' = (σ ++ [o, V.Obj.cells (qam [⟨ru, al, fr, [], []⟩] [(.t .nils, .t .nils)]) 0 0]).set r (qbp rules text (.sl (σ.length + 1) 0 0 1 5) 0 true (.t .nils) (.t .nilm)) := by
 have lr := lt_of_get hr
 simp only [qbp] at hr
 have hat : ∀ σ, LD S 42 [.t (.agg [.nils]), .t (I ru), .t y, .t (I fr)] σ = some (.t (I (-1)), σ) := fun σ => by
  obtain ⟨σ', h3⟩ := qsf (gs := []) (.inl ⟨rfl, rfl⟩) ru hy fr (fun g h => by simp at h) (by simp)
  exact qaj (A := A42) rfl rfl rfl h3 rfl σ
 have hcp := qlj hy (by omega)
 suffices hh : ∃ v σ', LV S 26 [.ptr r 0 0 7, .t (I ru), .t y, .t (I fr)] σ = some (v, σ') ∧ v = .t (I 0) ∧ ∃ o, σ' = (σ ++ [o, V.Obj.cells (qam [⟨ru, al, fr, [], []⟩] [(.t .nils, .t .nils)]) 0 0]).set r (qbp rules text (.sl (σ.length + 1) 0 0 1 5) 0 true (.t .nils) (.t .nilm)) by
  obtain ⟨v, σ', h1, rfl, o, h2⟩ := hh
  exact ⟨σ', o, h1, h2⟩
 refine qaq (A := A26) rfl Tryz.func26 rfl ?_
 have hrA : ∀ o, (σ ++ o)[r]? = some (.cells [.t rules, .t (.str text), .t .nils, .t (I 0), .t (B false), .t .nils, .t .nilm] 0 0) := fun o => by rw [List.getElem?_append_left lr]; exact hr
 refine wR rfl (by simp; rfl) ?_
 refine wR rfl (by simp [hr, hat]; rfl) ?_
 refine wR rfl (by simp; rfl) ?_
 refine wT rfl (by simp) ?_
 refine wR rfl (by simp [hr]; rfl) ?_
 refine wR rfl (by simp [hr, hrA, hcp, qbz, qar, qao, qap, qaf, qaa, qab, getA]; rfl) ?_
 have hs : ∀ (l : Store) (o : V.Obj), ((σ ++ l).set r o)[r]? = some o := fun l o => qci (by simp; omega) _
 refine wR rfl (by simp [hs]; rfl) ?_
 refine wR rfl (by simp; rfl) ?_
 try simp only [tq]
 refine wX ?_
 try simp only [tq]
 exact ⟨trivial, _, (by simp [Tryz.f26]), rfl, _, (by simp [qbp, qam]; rfl)⟩
end G
namespace G
open X
attribute [-simp] lenV idxV getElem?_pos
attribute [simp] List.getElem?_cons_zero List.getElem?_cons_succ
def runGoalF (K : Nats) (rules : List T) (text : List Nat) (f : Nat) (name : List Nat) (y : T) (al : List Nat) (fr : Nat) : Option (Option Rn) :=
 match K 23 [.agg [.list rules]], K 22 [.agg [.list rules], .str name], K 24 [y], K 25 [I fr, I 0, I text.length] with
 | some (.bool true), some (.int .i64 (.ofNat ru)), some (.bool true), some (.bool true) =>
  if text.length ≤ 12 ∧ al.length ≤ 1000 then match rules[ru]? with
   | some (.agg [.str nm, ps, alts]) => match symsOf ps with
    | some pl => if pl.length = al.length then match runsF K rules text f f { goals := [⟨ru, al, fr, [], []⟩], ends := 0, came := true, done := [], seen := [] } with
      | some (_, true) => some none
      | some (s, false) => some (some s)
      | none => none
     else none
    | none => none
   | _ => none
  else none
 | _, _, _, _ => none
theorem hI37 (args : List V) (σ : Store) : LD S 27 args σ = LV S 27 args σ := qbt (A := A27) rfl rfl rfl args σ
def chartT (s : Option Rn) : T := match s with
 | some s => .tup [.agg [.list (rowsT s.goals)], B true]
 | none => .tup [.agg [.nils], B false]
theorem qyp {K : Nats} (hK : NatOk K) {rules : List T} {text : List Nat} {f : Nat} {name : List Nat} {y : T} {al : List Nat} (hy : Is y al) {fr : Nat} {o : Option Rn} (h : runGoalF K rules text f name y al fr = some o) :
  ∃ v σ', LV S 7 [.t (.agg [.list rules]), .t (.str text), .t (.str name), .t y, .t (I fr)] [] = some (v, σ') ∧ frz 40 σ' v = some (chartT o) := by
 unfold runGoalF at h
 split at h
 rotate_left
 ·cases h
 rename_i ru k1 k2 k3 k4
 split at h
 rotate_left
 ·cases h
 rename_i hb
 split at h
 rotate_left
 ·cases h
 rename_i nm ps alts hrule
 split at h
 rotate_left
 ·cases h
 rename_i pl hpl
 split at h
 rotate_left
 ·cases h
 rename_i hpn
 have e1 := hK _ _ _ k1
 have e2 := hK _ _ _ k2
 have e3 := hK _ _ _ k3
 have e4 := hK _ _ _ k4
 simp only [List.map_cons, List.map_nil] at e1 e2 e3 e4
 have hps := qlw hpl
 have hlp : ∀ (σ : Store) (e : TypeId), lenV σ (.slice e) (.t ps) = some (al.length : Int) := fun σ e => by rw [hps.len, hpn]
 have ht : ¬ (12 : Int) < (text.length : Int) := by omega
 obtain ⟨q, hq, rfl⟩ : ∃ q : Rn × Bool, runsF K rules text f f { goals := [⟨ru, al, fr, [], []⟩], ends := 0, came := true, done := [], seen := [] } = some q ∧ o = if q.2 then none else some q.1 := by
  split at h
  ·rename_i s hs; cases h; exact ⟨_, hs, rfl⟩
  ·rename_i s hs; cases h; exact ⟨_, hs, rfl⟩
  ·cases h
 clear h
 refine qaq (A := A7) rfl Tryz.func7 rfl ?_
 refine wR rfl (by simp; rfl) ?_
 refine wR rfl (by simp [e2]; rfl) ?_
 have hr0 : ¬ (ru : Int) < 0 := by omega
 refine wR rfl (by simp [e1, e3, e4, hy.len, hlp, hrule, ht, hr0]; rfl) ?_
 refine wF rfl (by simp) ?_
 refine wK ?_
 refine wR rfl (by simp [qbz, qar, qao]; rfl) ?_
 obtain ⟨τ1, o1, g1, g2⟩ := goal0_lv (rules := .list rules) (text := text) (σ := [V.Obj.cells [.t (.list rules)] 0 0, V.Obj.cells [.t .nils] 0 0, V.Obj.cells [.t (.list rules), .t (.str text), .t .nils, .t (I 0), .t (B false), .t .nils, .t .nilm] 0 0]) (r := 2) rfl ru hy fr hb.2
 refine wR rfl (by simp [hI36, g1]; rfl) ?_
 have t1 : τ1[1]? = some (.cells [.t .nils] 0 0) := by rw [g2]; rfl
 have t2 : τ1[2]? = some (qbp (.list rules) text (.sl 4 0 0 1 5) 0 true (.t .nils) (.t .nilm)) := by rw [g2]; rfl
 have t4 : τ1[4]? = some (.cells (qam [⟨ru, al, fr, [], []⟩] [(.t .nils, .t .nils)]) 0 0) := by rw [g2]; rfl
 have R1 : RepN (.list rules) text 2 4 (.t .nilm) τ1 (.t .nils) [(.t .nils, .t .nils)] { goals := [⟨ru, al, fr, [], []⟩], ends := 0, came := true, done := [], seen := [] } := by
  refine ⟨⟨0, 0, Nat.le_refl _, t2, t4⟩, .inl ⟨rfl, rfl⟩, ⟨rfl, fun i g p hg hp => ?_⟩, by simp [locV, qbc], fun g hg => ?_⟩
  ·cases i with
   | zero =>
    simp only [List.getElem?_cons_zero, Option.some.injEq] at hg hp
    subst hg hp
    exact ⟨.inl ⟨rfl, rfl⟩, .inl ⟨rfl, rfl⟩⟩
   | succ i => simp at hg
  ·simp only [List.mem_singleton] at hg
   subst hg
   simp only
   omega
 have h1P : 1 ∉ P2 2 4 (.t .nils) [(V.t .nils, V.t .nils)] := by simp [P2, locV, qbc]
 have l1 := lt_of_get t1
 clear g1 g2 t2 t4
 refine wB rfl ?_
 try simp only [tq]
 refine qat (I := fun mm st τ => ∃ n sk mk dk vk, mm = n ∧ runsF K rules text f n sk = some q ∧ st.vars = [(0, .t (.agg [.list rules])), (1, .t (.str text)), (2, .t (.str name)), (3, .t y), (4, .t (I fr)), (5, .ptr 0 0 0 1), (10, .ptr 1 0 0 1), (11, .t (B false)), (12, .t (I ru)), (13, .ptr 2 0 0 7)] ∧ RepN (.list rules) text 2 4 mk τ dk vk sk ∧ Far (P2 2 4 (.t .nils) [(V.t .nils, V.t .nils)]) τ1 (P2 2 4 dk vk) τ) ?_ f _ _ ⟨f, _, .t .nilm, .t .nils, _, rfl, hq, by simp, R1, Far.refl _ _⟩
 clear hq
 rintro mm ⟨vars, scr⟩ τ ⟨n, sk, mk, dk, vk, rfl, hq, hv, Rk, Fk⟩
 simp only at hv
 subst hv
 cases mm with
 | zero => cases hq
 | succ n =>
 obtain ⟨ggk, gwk, wk, hrk, hgk⟩ := Rk.run
 have hrk0 := hrk
 simp only [qbp] at hrk
 simp only [runsF] at hq
 cases hc : sk.came with
 | false =>
  rw [hc] at hq hrk
  simp only [Bool.false_eq_true, if_false, Option.some.injEq] at hq
  subst hq
  refine wR rfl (by simp [hrk]; rfl) ?_
  refine wF rfl (by simp) ?_
  repeat apply qaw
  refine qal ?_
  try simp only [tq, if_true]
  have t1k : τ[1]? = some (.cells [.t .nils] 0 0) := by rw [Fk.fr.2 1 l1 h1P]; exact t1
  refine wR rfl (by simp [hrk, t1k]; rfl) ?_
  try simp only [tq]
  refine wX ?_
  try simp only [tq]
  have l1k := lt_of_get t1k
  have hnP : 1 ∉ P2 2 4 dk vk := fun hm => by
   rcases Fk.pl 1 hm with z | z
   ·exact h1P z
   ·omega
  have kk : ∀ o j, 1 ≠ j → (τ.set 1 o)[j]? = τ[j]? := fun o j hj => List.getElem?_set_ne hj
  have hR : ∀ o, RdP (τ.set 1 o) sk.goals vk := fun o => Rk.rd.keep fun j hj => kk o j (fun e => hnP (by subst e; simp only [P2, List.mem_cons, List.mem_append]; simp [hj]))
  refine ⟨trivial, .tup [.agg [.sl 4 ggk 0 sk.goals.length 5], .t (B true)], (by simp [Tryz.f7, qci l1k]), ?_⟩
  obtain ⟨ts, z1, z2⟩ := qmm 35 sk.goals vk (hR (.cells [.sl 4 ggk 0 sk.goals.length 5] 0 0))
  have hlen := qbg sk.goals vk Rk.rd.1
  have z3 := qkg (d := 37) (off := 0) (len := sk.goals.length) (k := 5) (σ := τ.set 1 (.cells [.sl 4 ggk 0 sk.goals.length 5] 0 0)) (by rw [kk _ 4 (by omega)]; exact hgk) wk (Nat.le_refl _) (by omega) (by omega) (ts := ts) (by rw [List.drop_zero, List.take_of_length_le (by omega)]; exact z1)
  rw [z2] at z3
  simp only [chartT, Bool.false_eq_true, if_false]
  have z4 : frz 39 (τ.set 1 (.cells [.sl 4 ggk 0 sk.goals.length 5] 0 0)) (.agg [.sl 4 ggk 0 sk.goals.length 5]) = some (.agg [.list (rowsT sk.goals)]) := by
   rw [frz, frzs, z3]; rfl
  rw [frz, frzs, z4]; rfl
 | true =>
  rw [hc] at hq hrk
  simp only [if_true] at hq
  refine wR rfl (by simp [hrk]; rfl) ?_
  refine wT rfl (by simp) ?_
  refine wK ?_
  refine wB rfl ?_
  refine wR rfl (by simp [hrk]; rfl) ?_
  try simp only [tq]
  have Rc := Rk.came hrk0 false
  have Fc := Fk.trans (Far.set (r := 2) (gl := 4) (dv := dk) (vs := vk) (qbp (.list rules) text (.sl 4 ggk 0 sk.goals.length 5) sk.ends false dk mk))
  simp only [qbp] at Rc Fc
  revert Rc Fc
  generalize τ.set 2 (.cells [.t (.list rules), .t (.str text), .sl 4 ggk 0 sk.goals.length 5, .t (I sk.ends), .t (B false), dk, mk] 0 0) = τ2
  intro Rc Fc
  refine wR rfl (by simp; rfl) ?_
  obtain ⟨s2, b2, hround, hnext⟩ : ∃ s2 b2, roundF K rules text f f 0 { sk with came := false } = some (s2, b2) ∧ (if b2 then q = (s2, true) else runsF K rules text f n s2 = some q) := by
   split at hq
   ·rename_i s' hround; cases hq; exact ⟨_, _, hround, rfl⟩
   ·rename_i s' hround; exact ⟨_, _, hround, hq⟩
   ·cases hq
  clear hq
  refine wB rfl ?_
  try simp only [tq]
  refine qat (I := fun mm st τ => ∃ n2 i2 s3 m3 d3 v3, mm = n2 ∧ roundF K rules text f n2 i2 s3 = some (s2, b2) ∧ st.vars = [(0, .t (.agg [.list rules])), (1, .t (.str text)), (2, .t (.str name)), (3, .t y), (4, .t (I fr)), (5, .ptr 0 0 0 1), (10, .ptr 1 0 0 1), (11, .t (B false)), (12, .t (I ru)), (13, .ptr 2 0 0 7), (14, .t (I i2))] ∧ RepN (.list rules) text 2 4 m3 τ d3 v3 s3 ∧ Far (P2 2 4 (.t .nils) [(V.t .nils, V.t .nils)]) τ1 (P2 2 4 d3 v3) τ) ?_ f _ _ ⟨f, 0, _, mk, dk, vk, rfl, hround, by simp, Rc, Fc⟩
  clear hround
  rintro mm2 ⟨vars, scr⟩ τ3 ⟨n2, i2, s3, m3, d3, v3, rfl, hround, hv, R3, F3⟩
  simp only at hv
  subst hv
  cases mm2 with
  | zero => cases hround
  | succ n2 =>
  obtain ⟨gg3, gw3, w3, hr3, hg3⟩ := R3.run
  simp only [qbp] at hr3
  simp only [roundF] at hround
  split at hround
  ·rename_i c1
   split at hround
   ·cases hround
   rename_i hi2
   split at hround
   rotate_left
   ·cases hround
   rename_i s4 hlook
   obtain ⟨τ4, m4, d4, v4, b1, R4, F4⟩ := look_ok hK rules text 2 4 m3 f i2 hlook R3
   have c1' : (i2 : Int) < s3.goals.length := by omega
   refine wR rfl (by simp [hr3, c1']; rfl) ?_
   refine wT rfl (by simp) ?_
   refine wK ?_
   refine wB rfl ?_
   refine wR rfl (by simp [hI37, b1]; rfl) ?_
   obtain ⟨gg4, gw4, w4, hr4, hg4⟩ := R4.toN.run
   simp only [qbp] at hr4
   have F5 := F3.trans F4
   split at hround
   ·rename_i c2
    cases hround
    simp only [if_true] at hnext
    subst hnext
    have t1k : τ4[1]? = some (.cells [.t .nils] 0 0) := by rw [F5.fr.2 1 l1 h1P]; exact t1
    have c2' : (300 : Int) < s2.goals.length := by omega
    refine wR rfl (by simp [hr4, c2']; rfl) ?_
    refine wT rfl (by simp) ?_
    refine wR rfl (by simp [t1k, qbz, qar, qao]; rfl) ?_
    try simp only [tq]
    have l1k := lt_of_get t1k
    refine wX ?_
    try simp only [tq]
    exact ⟨trivial, .t (.tup [.agg [.nils], B false]), (by simp [Tryz.f7, qci l1k]), rfl⟩
   ·rename_i c2
    have c2' : ¬ (300 : Int) < s4.goals.length := by omega
    refine wR rfl (by simp [hr4, c2']; rfl) ?_
    refine wF rfl (by simp) ?_
    refine wK ?_
    refine wR rfl (by simp [IntWalk.i64_in ((i2 : Int) + 1) (by omega)]; rfl) ?_
    try simp only [tq]
    exact ⟨n2, by omega, n2, i2 + 1, s4, .mp m4, d4, v4, rfl, hround, by simp, R4.toN, F5⟩
  ·rename_i c1
   cases hround
   simp only [Bool.false_eq_true, if_false] at hnext
   have c1' : ¬ (i2 : Int) < s2.goals.length := by omega
   refine wR rfl (by simp [hr3, c1']; rfl) ?_
   refine wF rfl (by simp) ?_
   repeat apply qaw
   refine qal ?_
   try simp only [tq, if_true]
   exact ⟨n, by omega, n, s2, m3, d3, v3, rfl, hnext, by simp, R3, F3⟩
theorem runGoal_ld {K : Nats} (hK : NatOk K) {rules : List T} {text : List Nat} {f : Nat} {name : List Nat} {y : T} {al : List Nat} (hy : Is y al) {fr : Nat} {o : Option Rn} (h : runGoalF K rules text f name y al fr = some o) (σ : Store) :
  LD S 7 [.t (.agg [.list rules]), .t (.str text), .t (.str name), .t y, .t (I fr)] σ = some (.t (chartT o), σ) := by
 obtain ⟨v, σ', h1, h2⟩ := qyp hK hy h
 exact qaj (A := A7) rfl rfl rfl h1 h2 σ
/-- what EndsOf tells -/
def endsT (o : Option Rn) : Option T := match o with
 | none => some .nils
 | some s => match s.goals with
  | g :: _ => some (lT g.ends)
  | [] => none
theorem endsOf_ld {K : Nats} (hK : NatOk K) {rules : List T} {text : List Nat} {f : Nat} {name : List Nat} {y : T} {al : List Nat} (hy : Is y al) {fr : Nat} {o : Option Rn} (h : runGoalF K rules text f name y al fr = some o) {x : T} (hx : endsT o = some x) (σ : Store) :
  LD S 11 [.t (.agg [.list rules]), .t (.str text), .t (.str name), .t y, .t (I fr)] σ = some (.t x, σ) := by
 have hr := runGoal_ld hK hy h
 suffices hh : ∃ σ', LV S 11 [.t (.agg [.list rules]), .t (.str text), .t (.str name), .t y, .t (I fr)] [] = some (.t x, σ') by
  obtain ⟨σ', hh⟩ := hh
  exact qaj (A := A11) rfl rfl rfl hh rfl σ
 refine qbm (A := A11) rfl Tryz.func11 rfl ?_
 cases o with
 | none =>
  cases hx
  refine wR rfl (by simp; rfl) ?_
  refine wR rfl (by simp [hr, chartT]; rfl) ?_
  refine wR rfl (by simp; rfl) ?_
  refine wT rfl (by simp) ?_
  refine wR rfl (by simp; rfl) ?_
  refine wX ?_
  try simp only [tq]
  simp [Tryz.f11]
 | some s =>
  simp only [endsT] at hx
  split at hx
  rotate_left
  ·cases hx
  rename_i g gs hg
  cases hx
  refine wR rfl (by simp; rfl) ?_
  refine wR rfl (by simp [hr, chartT, hg, rowsT]; rfl) ?_
  refine wR rfl (by simp; rfl) ?_
  refine wF rfl (by simp) ?_
  refine wK ?_
  refine wR rfl (by simp [rowT]; rfl) ?_
  refine wX ?_
  try simp only [tq]
  simp [Tryz.f11]
end G
