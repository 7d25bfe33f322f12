/- A part of the proof. No statement of the claim is in it. -/
import Derived.Test.YtphkipgmklhdgaaGreatVEr6
open Go Go.V Go.Proofs
namespace X
set_option maxRecDepth 100000
set_option maxHeartbeats 4000000
set_option linter.unusedSimpArgs false
set_option linter.unusedVariables false
attribute [-simp] lenV idxV getElem?_pos
theorem Rd.idx {σ : Store} {v : V} {l : List Nat} (h : Rd σ v l) {i n : Nat} (hi : l[i]? = some n) : ∃ q, idxV 1 v (i : Int) = some q ∧ ∀ t : TI, t.agg = false → t.size = 1 → loadV σ t q = some (.t (I n)) := by
 have hlt := lt_of_get hi
 rcases h with ⟨rfl, rfl⟩ | rfl | ⟨d, g, w, rfl, h1, h2⟩
 ·simp at hi
 ·exact ⟨.t (.snap [I n]), by simp [hi], fun t h3 h4 => by simp [loadV, h3, h4]⟩
 ·refine ⟨.ptr d g (0 + i * 1) 1, by simp [hlt], fun t h3 h4 => ?_⟩
  have : i + 1 ≤ l.length := hlt
  simp [loadV, h1, h2, h3, h4, hi, this]
/-! ### An end more -/
def lowE (e : Nat) : List Nat → List Nat → List Nat × List Nat
 | x :: r, k :: q => if x < e then (x :: (lowE e r q).1, k :: (lowE e r q).2) else lowE e r q
 | _, _ => ([], [])
def hiE (e : Nat) : List Nat → List Nat → List Nat × List Nat
 | x :: r, k :: q => if e < x then (x :: (hiE e r q).1, k :: (hiE e r q).2) else hiE e r q
 | _, _ => ([], [])
def endsA (g : Gl) (e : Nat) : List Nat := (lowE e g.ends g.ranks).1 ++ [e] ++ (hiE e g.ends g.ranks).1
def ranksA (g : Gl) (e k : Nat) : List Nat := (lowE e g.ends g.ranks).2 ++ [k] ++ (hiE e g.ends g.ranks).2
def addS (s : Rs) (i e : Nat) : Option Rs := match s.goals[i]? with
 | none => none
 | some g => if g.ends.length = g.ranks.length ∧ g.ends.length ≤ 1000 ∧ s.rank ≤ 1000000000000 then
   some { s with goals := s.goals.set i { g with ends := endsA g e, ranks := ranksA g e s.rank }, rank := s.rank + 1, fresh := true } else none
theorem lowE_len (e : Nat) : ∀ (l q : List Nat), (lowE e l q).1.length ≤ l.length ∧ (lowE e l q).2.length ≤ l.length
 | [], q => by simp [lowE]
 | x :: r, [] => by simp [lowE]
 | x :: r, k :: q => by
  have := lowE_len e r q
  simp only [lowE]
  split <;> simp only [List.length_cons] <;> omega
theorem hiE_len (e : Nat) : ∀ (l q : List Nat), (hiE e l q).1.length ≤ l.length ∧ (hiE e l q).2.length ≤ l.length
 | [], q => by simp [hiE]
 | x :: r, [] => by simp [hiE]
 | x :: r, k :: q => by
  have := hiE_len e r q
  simp only [hiE]
  split <;> simp only [List.length_cons] <;> omega
/-- a slice of numbers in memory of its own -/
def IntS (σ : Store) (v : V) (d : Nat) (l : List Nat) : Prop := ∃ g w, v = .sl d g 0 l.length 1 ∧ σ[d]? = some (.cells (ints l) g w) ∧ w ≤ g
theorem IntS.rd {σ : Store} {v : V} {d : Nat} {l : List Nat} (h : IntS σ v d l) : Rd σ v l := by
 obtain ⟨g, w, h1, h2, h3⟩ := h
 exact .inr (.inr ⟨d, g, w, h1, h2, h3⟩)
theorem IntS.keep {σ σ' : Store} {v : V} {d : Nat} {l : List Nat} (h : IntS σ v d l) (hk : σ'[d]? = σ[d]?) : IntS σ' v d l := by
 obtain ⟨g, w, h1, h2, h3⟩ := h
 exact ⟨g, w, h1, by rw [hk]; exact h2, h3⟩
theorem ints_app (l : List Nat) (n : Nat) : ints l ++ [V.t (I n)] = ints (l ++ [n]) := by simp [ints]
theorem IntS.push {σ : Store} {d g w n : Nat} {l : List Nat} (h1 : σ[d]? = some (.cells (ints l) g w)) (h2 : w ≤ g) : IntS (σ.set d (.cells (ints l ++ [V.t (I n)]) (g + 1) w)) (.sl d (g + 1) 0 (l.length + 1) 1) d (l ++ [n]) :=
 ⟨g + 1, w, by simp, by rw [List.getElem?_set_self (lt_of_get h1), ints_app], by omega⟩

attribute [-simp] mkAgg cellsOf loadV
@[simp] theorem loadP (σ : Store) (t : TI) (loc g off ext : Nat) : loadV σ t (.ptr loc g off ext) = match σ[loc]? with
  | some (.cells cs gen wgen) =>
   if wgen ≤ g ∧ g ≤ gen ∧ t.size ≤ ext ∧ off + t.size ≤ cs.length then
    if t.agg then some (mkAgg ((cs.drop off).take t.size))
    else if t.size = 1 then cs[off]? else none
   else none
  | _ => none := rfl
@[simp] theorem loadS (σ : Store) (t : TI) (cells : List T) : loadV σ t (.t (.snap cells)) = if t.size ≤ cells.length then
   if t.agg then some (.t (.agg (cells.take t.size))) else if t.size = 1 then (cells[0]?).map .t else none
  else none := rfl
theorem mk_cells (cs : List V) : cellsOf (mkAgg cs) = some cs := by
 unfold mkAgg
 cases h : allT cs with
 | some ts => simp only [cellsOf, allT_spec h]
 | none => rfl
@[simp] theorem cO1 (cs : List T) : cellsOf (.t (.agg cs)) = some (cs.map .t) := rfl
@[simp] theorem cO2 (k : IntKind) (n : Int) : cellsOf (.t (.int k n)) = some [.t (.int k n)] := rfl
@[simp] theorem cO3 (b : Bool) : cellsOf (.t (.bool b)) = some [.t (.bool b)] := rfl
@[simp] theorem cO4 (a b c d e : Nat) : cellsOf (.sl a b c d e) = some [.sl a b c d e] := rfl
theorem add_ld {rules : T} {text : List Nat} {r gl : Nat} {σ : Store} {vs : List V3} {s s' : Rs} (R : Rep rules text r gl σ vs s) (i e : Nat) (h : addS s i e = some s') :
  ∃ σ' vs', LD S 71 [.ptr r 0 0 6, .t (I i), .t (I e)] σ = some (.t (.tup []), σ') ∧ Rep rules text r gl σ' vs' s' ∧ Fr [r, gl] σ σ' := by
 unfold addS at h
 split at h
 ·cases h
 rename_i g hgi
 split at h
 rotate_left
 ·cases h
 rename_i hb
 obtain ⟨b1, b2, b3⟩ := hb
 cases h
 obtain ⟨gg, gw, hw, hr, hg⟩ := R.run
 have hr0 := hr
 simp only [rnObj] at hr
 have n1 := R.ne
 have lr := lt_of_get hr
 have lg := lt_of_get hg
 have hi := lt_of_get hgi
 obtain ⟨p, hp⟩ := get_of_lt (show i < vs.length by rw [R.rd.1]; exact hi)
 obtain ⟨c0, c1, c2, c3, c4⟩ := gcells_get hgi hp
 have hcl := gcells_len s.goals vs R.rd.1
 obtain ⟨ra, re, rk⟩ := R.rd.2 i g p hgi hp
 have hi1 : (i : Int) < s.goals.length := by omega
 have hi2 : i * 5 + 5 ≤ s.goals.length * 5 := by omega
 have h5c : ((gcells s.goals vs).drop (i * 5)).take 5 = [.t (I g.rule), p.1, .t (I g.from_), p.2.1, p.2.2] := by
  rw [drop_get c0, drop_get c1, drop_get c2, drop_get c3, drop_get c4]
  rfl
 suffices hh : ∃ v σ', LV S 71 [.ptr r 0 0 6, .t (I i), .t (I e)] σ = some (v, σ') ∧ v = .t (.tup []) ∧ ∃ vs', Rep rules text r gl σ' vs' { s with goals := s.goals.set i { g with ends := endsA g e, ranks := ranksA g e s.rank }, rank := s.rank + 1, fresh := true } ∧ Fr [r, gl] σ σ' by
  obtain ⟨v, σ', h1, rfl, vs', h2, h3⟩ := hh
  exact ⟨σ', vs', by rw [LD_inl (A := A71) rfl rfl rfl]; exact h1, h2, h3⟩
 refine LV_bodyX (A := A71) rfl Tryz.func71 rfl ?_
 have hmk := mk_cells [.t (I g.rule), p.1, .t (I g.from_), p.2.1, p.2.2]
 repeat apply W_seq
 refine W_region (by simp [hr, hg, hcl, hi1, hi2, hw, h5c, getA, setA, fillV, hmk, setRange]; first | exact ⟨rfl, rfl⟩ | exact rfl) ?_
 try simp only [thenQ, blockQ, Ann.kill, List.find?_nil]
 have hbx : (σ ++ [V.Obj.cells [V.t (I g.rule), p.1, V.t (I g.from_), p.2.1, p.2.2] 0 0])[σ.length]? = some (.cells [V.t (I g.rule), p.1, V.t (I g.from_), p.2.1, p.2.2] 0 0) := by rw [getA]; rfl
 show W _ _ _ _ _ (σ ++ [V.Obj.cells [V.t (I g.rule), p.1, V.t (I g.from_), p.2.1, p.2.2] 0 0])
 have hF1 : Fr [] σ (σ ++ [V.Obj.cells [V.t (I g.rule), p.1, V.t (I g.from_), p.2.1, p.2.2] 0 0]) := Fr.app _ _ _
 have hlen1 : (σ ++ [V.Obj.cells [V.t (I g.rule), p.1, V.t (I g.from_), p.2.1, p.2.2] 0 0]).length = σ.length + 1 := by simp
 revert hbx hF1 hlen1
 generalize (σ ++ [V.Obj.cells [V.t (I g.rule), p.1, V.t (I g.from_), p.2.1, p.2.2] 0 0]) = σ1
 intro hbx hF1 hlen1
 repeat apply W_seq
 refine W_region (by simp [sliceCells, repZero, chunk, fillV]; first | exact ⟨rfl, rfl⟩ | exact rfl) ?_
 try simp only [thenQ, blockQ, Ann.kill, List.find?_nil]
 repeat apply W_seq
 refine W_region (by simp [sliceCells, repZero, chunk, fillV]; first | exact ⟨rfl, rfl⟩ | exact rfl) ?_
 try simp only [thenQ, blockQ, Ann.kill, List.find?_nil]
 repeat apply W_seq
 refine W_region (by simp; first | exact ⟨rfl, rfl⟩ | exact rfl) ?_
 try simp only [thenQ, blockQ, Ann.kill, List.find?_nil]
 repeat apply W_seq
 refine W_block ?_
 refine W_loop (I := fun m st τ => ∃ k l1 l2 v7 v8, m = g.ends.length - k ∧ k ≤ g.ends.length ∧ l1 ++ (lowE e (g.ends.drop k) (g.ranks.drop k)).1 = (lowE e g.ends g.ranks).1 ∧ l2 ++ (lowE e (g.ends.drop k) (g.ranks.drop k)).2 = (lowE e g.ends g.ranks).2 ∧ st.vars = [(0, .ptr r 0 0 6), (1, .t (I i)), (2, .t (I e)), (6, .ptr σ.length 0 0 5), (7, v7), (8, v8), (9, .t (I k))] ∧ IntS τ v7 σ1.length l1 ∧ IntS τ v8 (σ1.length + 1) l2 ∧ Fr [] σ1 τ ∧ l1.length ≤ 0 + k ∧ l2.length ≤ 0 + k) ?_ g.ends.length _ _ ⟨0, [], [], .sl σ1.length 0 0 0 1, .sl (σ1.length + 1) 0 0 0 1, rfl, Nat.zero_le _, by simp, by simp, by simp, ⟨0, 0, rfl, by rw [List.getElem?_append_right (Nat.le_refl _), Nat.sub_self]; rfl, Nat.le_refl _⟩, ⟨0, 0, rfl, by rw [List.getElem?_append_right (by omega), Nat.add_sub_cancel_left]; rfl, Nat.le_refl _⟩, Fr.app _ _ _, by simp, by simp⟩
 rintro m ⟨vars, scr⟩ τ ⟨k, l1, l2, v7, v8, rfl, hk, q1, q2, hvs, hs7, hs8, hF, hb1, hb2⟩
 simp only at hvs
 subst hvs
 have ltb := lt_of_get hbx
 have hbx' : τ[σ.length]? = some (.cells [V.t (I g.rule), p.1, V.t (I g.from_), p.2.1, p.2.2] 0 0) := by rw [hF.2 _ ltb (by simp)]; exact hbx
 have rer : ∀ {vv : V} {ll : List Nat}, Rd σ vv ll → Rd τ vv ll := fun hh => hh.keep fun j hj => by rw [hF.2 _ (by have := hh.locs j hj; omega) (by simp), hF1.2 _ (hh.locs j hj) (by simp)]
 have re' := rer re
 have rk' := rer rk
 repeat apply W_seq
 refine W_region (by simp [hbx', re'.len]; first | exact ⟨rfl, rfl⟩ | exact rfl) ?_
 try simp only [thenQ, blockQ, Ann.kill, List.find?_nil]
 by_cases c5 : k < g.ends.length
 ·repeat apply W_seq
  refine W_cond (t := true) (by simp [c5]) ?_
  simp only [if_true, if_false, Bool.false_eq_true]
  refine W_skip ?_
  try simp only [thenQ, blockQ, Ann.kill, List.find?_nil]
  repeat apply W_seq
  refine W_block ?_
  obtain ⟨x, hx⟩ := get_of_lt c5
  obtain ⟨y, hy⟩ := get_of_lt (show k < g.ranks.length by omega)
  obtain ⟨qx, hqx, hqx'⟩ := re'.idx hx
  obtain ⟨qy, hqy, hqy'⟩ := rk'.idx hy
  rw [drop_get hx, drop_get hy] at q1 q2
  simp only [lowE] at q1 q2
  repeat apply W_seq
  refine W_region (by simp [hbx', hqx, hqx']; first | exact ⟨rfl, rfl⟩ | exact rfl) ?_
  try simp only [thenQ, blockQ, Ann.kill, List.find?_nil]
  by_cases c6 : x < e
  ·rw [if_pos c6] at q1 q2
   repeat apply W_seq
   refine W_cond (t := true) (by simp [c6]) ?_
   simp only [if_true, if_false, Bool.false_eq_true]
   obtain ⟨g7, w7, rfl, h71, h72⟩ := hs7
   obtain ⟨g8, w8, rfl, h81, h82⟩ := hs8
   have hbn1 : (l1.length + 1) * 8 ≤ 140737488355328 := by omega
   have hbn2 : (l2.length + 1) * 8 ≤ 140737488355328 := by omega
   repeat apply W_seq
   refine W_region (by simp [hbx', hqx, hqx', sliceCells, repZero, chunk, fillV, appendV, srcCells, rowCells, h71, h72, hbn1]; first | exact ⟨rfl, rfl⟩ | exact rfl) ?_
   try simp only [thenQ, blockQ, Ann.kill, List.find?_nil]
   have hp7 := IntS.push (n := x) h71 h72
   have hne7 : σ1.length ≠ σ1.length + 1 := by omega
   have hbx2 : ∀ o, (τ.set σ1.length o)[σ.length]? = some (.cells [V.t (I g.rule), p.1, V.t (I g.from_), p.2.1, p.2.2] 0 0) := fun o => by rw [List.getElem?_set_ne (by omega)]; exact hbx'
   have h81' : ∀ o, (τ.set σ1.length o)[σ1.length + 1]? = some (.cells (ints l2) g8 w8) := fun o => by rw [List.getElem?_set_ne hne7]; exact h81
   have rk2 : ∀ o, Rd (τ.set σ1.length o) p.2.2 g.ranks := fun o => rk'.keep fun j hj => by rw [List.getElem?_set_ne (by have := rk.locs j hj; omega)]
   obtain ⟨qz, hqz, hqz'⟩ := (rk2 (.cells (ints l1 ++ [V.t (I x)]) (g7 + 1) w7)).idx hy
   repeat apply W_seq
   refine W_region (by simp [hbx2, hqz, hqz', sliceCells, repZero, chunk, fillV, appendV, srcCells, rowCells, h81', h82, hbn2]; first | exact ⟨rfl, rfl⟩ | exact rfl) ?_
   try simp only [thenQ, blockQ, Ann.kill, List.find?_nil]
   have hp8 := IntS.push (n := y) (h81' (.cells (ints l1 ++ [V.t (I x)]) (g7 + 1) w7)) h82
   repeat apply W_seq
   refine W_region (by simp [IntWalk.i64_in ((k : Int) + 1) (by omega)]; first | exact ⟨rfl, rfl⟩ | exact rfl) ?_
   try simp only [thenQ, blockQ, Ann.kill, List.find?_nil]
   refine ⟨g.ends.length - (k + 1), by omega, k + 1, l1 ++ [x], l2 ++ [y], .sl σ1.length (g7 + 1) 0 (l1.length + 1) 1, .sl (σ1.length + 1) (g8 + 1) 0 (l2.length + 1) 1, rfl, c5, by rw [← q1]; simp, by rw [← q2]; simp, by simp, hp7.keep (by rw [List.getElem?_set_ne (by omega)]), hp8, hF.trans (own2 := [σ1.length, σ1.length + 1]) ⟨by simp, fun j hj hn => by
    simp only [List.mem_cons, List.not_mem_nil, or_false, not_or] at hn
    rw [List.getElem?_set_ne (Ne.symm hn.2), List.getElem?_set_ne (Ne.symm hn.1)]⟩ (fun j hj => by
    simp only [List.mem_cons, List.not_mem_nil, or_false] at hj
    exact .inr (by omega)), by simp; omega, by simp; omega⟩
  ·rw [if_neg c6] at q1 q2
   repeat apply W_seq
   refine W_cond (t := false) (by simp [c6]) ?_
   simp only [if_true, if_false, Bool.false_eq_true]
   refine W_skip ?_
   try simp only [thenQ, blockQ, Ann.kill, List.find?_nil]
   repeat apply W_seq
   refine W_region (by simp [IntWalk.i64_in ((k : Int) + 1) (by omega)]; first | exact ⟨rfl, rfl⟩ | exact rfl) ?_
   try simp only [thenQ, blockQ, Ann.kill, List.find?_nil]
   exact ⟨g.ends.length - (k + 1), by omega, k + 1, l1, l2, v7, v8, rfl, c5, q1, q2, by simp, hs7, hs8, hF, by omega, by omega⟩
 ·repeat apply W_seq
  refine W_cond (t := false) (by simp [c5]) ?_
  simp only [if_true, if_false, Bool.false_eq_true]
  repeat apply W_seq
  refine W_exit ?_
  try simp only [thenQ, blockQ, if_true, Ann.kill, List.find?_nil]
  have : k = g.ends.length := by omega
  subst this
  rw [List.drop_length, b1, List.drop_length] at q1 q2
  simp only [lowE, List.append_nil] at q1 q2
  subst q1 q2
  clear rer re' rk'
  obtain ⟨g7, w7, rfl, h71, h72⟩ := hs7
  obtain ⟨g8, w8, rfl, h81, h82⟩ := hs8
  have hbn1 : ((lowE e g.ends g.ranks).1.length + 1) * 8 ≤ 140737488355328 := by omega
  have hbn2 : ((lowE e g.ends g.ranks).2.length + 1) * 8 ≤ 140737488355328 := by omega
  repeat apply W_seq
  refine W_region (by simp [sliceCells, repZero, chunk, fillV, appendV, srcCells, rowCells, h71, h72, hbn1]; first | exact ⟨rfl, rfl⟩ | exact rfl) ?_
  try simp only [thenQ, blockQ, Ann.kill, List.find?_nil]
  have hp7 := IntS.push (n := e) h71 h72
  have hne7 : σ1.length ≠ σ1.length + 1 := by omega
  have h81' : ∀ o, (τ.set σ1.length o)[σ1.length + 1]? = some (.cells (ints (lowE e g.ends g.ranks).2) g8 w8) := fun o => by rw [List.getElem?_set_ne hne7]; exact h81
  have hrt : ∀ o, (τ.set σ1.length o)[r]? = some (.cells [.t rules, .t (.str text), .sl gl gg 0 s.goals.length 5, .t (I s.rank), .t (B s.fresh), .t (B s.full)] 0 0) := fun o => by
   rw [List.getElem?_set_ne (by omega), hF.2 r (by omega) (by simp), hF1.2 r lr (by simp)]; exact hr
  repeat apply W_seq
  refine W_region (by simp [hrt, sliceCells, repZero, chunk, fillV, appendV, srcCells, rowCells, h81', h82, hbn2]; first | exact ⟨rfl, rfl⟩ | exact rfl) ?_
  try simp only [thenQ, blockQ, Ann.kill, List.find?_nil]
  have hp8 := IntS.push (n := s.rank) (h81' (.cells (ints (lowE e g.ends g.ranks).1 ++ [V.t (I e)]) (g7 + 1) w7)) h82
  repeat apply W_seq
  refine W_region (by simp; first | exact ⟨rfl, rfl⟩ | exact rfl) ?_
  try simp only [thenQ, blockQ, Ann.kill, List.find?_nil]
  repeat apply W_seq
  refine W_block ?_
  have hll := lowE_len e g.ends g.ranks
  refine W_loop (I := fun m st τ => ∃ k l1 l2 v7 v8, m = g.ends.length - k ∧ k ≤ g.ends.length ∧ l1 ++ (hiE e (g.ends.drop k) (g.ranks.drop k)).1 = endsA g e ∧ l2 ++ (hiE e (g.ends.drop k) (g.ranks.drop k)).2 = ranksA g e s.rank ∧ st.vars = [(0, .ptr r 0 0 6), (1, .t (I i)), (2, .t (I e)), (6, .ptr σ.length 0 0 5), (7, v7), (8, v8), (10, .t (I k))] ∧ IntS τ v7 σ1.length l1 ∧ IntS τ v8 (σ1.length + 1) l2 ∧ Fr [] σ1 τ ∧ l1.length ≤ 1001 + k ∧ l2.length ≤ 1001 + k) ?_ g.ends.length _ _ ⟨0, (lowE e g.ends g.ranks).1 ++ [e], (lowE e g.ends g.ranks).2 ++ [s.rank], .sl σ1.length (g7 + 1) 0 ((lowE e g.ends g.ranks).1.length + 1) 1, .sl (σ1.length + 1) (g8 + 1) 0 ((lowE e g.ends g.ranks).2.length + 1) 1, rfl, Nat.zero_le _, rfl, rfl, by simp, hp7.keep (by rw [List.getElem?_set_ne (by omega)]), hp8, hF.trans (own2 := [σ1.length, σ1.length + 1]) ⟨by simp, fun j hj hn => by
     simp only [List.mem_cons, List.not_mem_nil, or_false, not_or] at hn
     rw [List.getElem?_set_ne (Ne.symm hn.2), List.getElem?_set_ne (Ne.symm hn.1)]⟩ (fun j hj => by
     simp only [List.mem_cons, List.not_mem_nil, or_false] at hj
     exact .inr (by omega)), by simp; omega, by simp; omega⟩
  rintro m ⟨vars, scr⟩ τ ⟨k, l1, l2, v7, v8, rfl, hk, q1, q2, hvs, hs7, hs8, hF, hb1, hb2⟩
  simp only at hvs
  subst hvs
  have ltb := lt_of_get hbx
  have hbx' : τ[σ.length]? = some (.cells [V.t (I g.rule), p.1, V.t (I g.from_), p.2.1, p.2.2] 0 0) := by rw [hF.2 _ ltb (by simp)]; exact hbx
  have rer : ∀ {vv : V} {ll : List Nat}, Rd σ vv ll → Rd τ vv ll := fun hh => hh.keep fun j hj => by rw [hF.2 _ (by have := hh.locs j hj; omega) (by simp), hF1.2 _ (hh.locs j hj) (by simp)]
  have re' := rer re
  have rk' := rer rk
  repeat apply W_seq
  refine W_region (by simp [hbx', re'.len]; first | exact ⟨rfl, rfl⟩ | exact rfl) ?_
  try simp only [thenQ, blockQ, Ann.kill, List.find?_nil]
  by_cases c5 : k < g.ends.length
  ·repeat apply W_seq
   refine W_cond (t := true) (by simp [c5]) ?_
   simp only [if_true, if_false, Bool.false_eq_true]
   refine W_skip ?_
   try simp only [thenQ, blockQ, Ann.kill, List.find?_nil]
   repeat apply W_seq
   refine W_block ?_
   obtain ⟨x, hx⟩ := get_of_lt c5
   obtain ⟨y, hy⟩ := get_of_lt (show k < g.ranks.length by omega)
   obtain ⟨qx, hqx, hqx'⟩ := re'.idx hx
   obtain ⟨qy, hqy, hqy'⟩ := rk'.idx hy
   rw [drop_get hx, drop_get hy] at q1 q2
   simp only [hiE] at q1 q2
   repeat apply W_seq
   refine W_region (by simp [hbx', hqx, hqx']; first | exact ⟨rfl, rfl⟩ | exact rfl) ?_
   try simp only [thenQ, blockQ, Ann.kill, List.find?_nil]
   by_cases c6 : e < x
   ·rw [if_pos c6] at q1 q2
    repeat apply W_seq
    refine W_cond (t := true) (by simp [c6]) ?_
    simp only [if_true, if_false, Bool.false_eq_true]
    obtain ⟨g7, w7, rfl, h71, h72⟩ := hs7
    obtain ⟨g8, w8, rfl, h81, h82⟩ := hs8
    have hbn1 : (l1.length + 1) * 8 ≤ 140737488355328 := by omega
    have hbn2 : (l2.length + 1) * 8 ≤ 140737488355328 := by omega
    repeat apply W_seq
    refine W_region (by simp [hbx', hqx, hqx', sliceCells, repZero, chunk, fillV, appendV, srcCells, rowCells, h71, h72, hbn1]; first | exact ⟨rfl, rfl⟩ | exact rfl) ?_
    try simp only [thenQ, blockQ, Ann.kill, List.find?_nil]
    have hp7 := IntS.push (n := x) h71 h72
    have hne7 : σ1.length ≠ σ1.length + 1 := by omega
    have hbx2 : ∀ o, (τ.set σ1.length o)[σ.length]? = some (.cells [V.t (I g.rule), p.1, V.t (I g.from_), p.2.1, p.2.2] 0 0) := fun o => by rw [List.getElem?_set_ne (by omega)]; exact hbx'
    have h81' : ∀ o, (τ.set σ1.length o)[σ1.length + 1]? = some (.cells (ints l2) g8 w8) := fun o => by rw [List.getElem?_set_ne hne7]; exact h81
    have rk2 : ∀ o, Rd (τ.set σ1.length o) p.2.2 g.ranks := fun o => rk'.keep fun j hj => by rw [List.getElem?_set_ne (by have := rk.locs j hj; omega)]
    obtain ⟨qz, hqz, hqz'⟩ := (rk2 (.cells (ints l1 ++ [V.t (I x)]) (g7 + 1) w7)).idx hy
    repeat apply W_seq
    refine W_region (by simp [hbx2, hqz, hqz', sliceCells, repZero, chunk, fillV, appendV, srcCells, rowCells, h81', h82, hbn2]; first | exact ⟨rfl, rfl⟩ | exact rfl) ?_
    try simp only [thenQ, blockQ, Ann.kill, List.find?_nil]
    have hp8 := IntS.push (n := y) (h81' (.cells (ints l1 ++ [V.t (I x)]) (g7 + 1) w7)) h82
    repeat apply W_seq
    refine W_region (by simp [IntWalk.i64_in ((k : Int) + 1) (by omega)]; first | exact ⟨rfl, rfl⟩ | exact rfl) ?_
    try simp only [thenQ, blockQ, Ann.kill, List.find?_nil]
    refine ⟨g.ends.length - (k + 1), by omega, k + 1, l1 ++ [x], l2 ++ [y], .sl σ1.length (g7 + 1) 0 (l1.length + 1) 1, .sl (σ1.length + 1) (g8 + 1) 0 (l2.length + 1) 1, rfl, c5, by rw [← q1]; simp, by rw [← q2]; simp, by simp, hp7.keep (by rw [List.getElem?_set_ne (by omega)]), hp8, hF.trans (own2 := [σ1.length, σ1.length + 1]) ⟨by simp, fun j hj hn => by
     simp only [List.mem_cons, List.not_mem_nil, or_false, not_or] at hn
     rw [List.getElem?_set_ne (Ne.symm hn.2), List.getElem?_set_ne (Ne.symm hn.1)]⟩ (fun j hj => by
     simp only [List.mem_cons, List.not_mem_nil, or_false] at hj
     exact .inr (by omega)), by simp; omega, by simp; omega⟩
   ·rw [if_neg c6] at q1 q2
    repeat apply W_seq
    refine W_cond (t := false) (by simp [c6]) ?_
    simp only [if_true, if_false, Bool.false_eq_true]
    refine W_skip ?_
    try simp only [thenQ, blockQ, Ann.kill, List.find?_nil]
    repeat apply W_seq
    refine W_region (by simp [IntWalk.i64_in ((k : Int) + 1) (by omega)]; first | exact ⟨rfl, rfl⟩ | exact rfl) ?_
    try simp only [thenQ, blockQ, Ann.kill, List.find?_nil]
    exact ⟨g.ends.length - (k + 1), by omega, k + 1, l1, l2, v7, v8, rfl, c5, q1, q2, by simp, hs7, hs8, hF, by omega, by omega⟩
  ·repeat apply W_seq
   refine W_cond (t := false) (by simp [c5]) ?_
   simp only [if_true, if_false, Bool.false_eq_true]
   repeat apply W_seq
   refine W_exit ?_
   try simp only [thenQ, blockQ, if_true, Ann.kill, List.find?_nil]
   have : k = g.ends.length := by omega
   subst this
   rw [List.drop_length, b1, List.drop_length] at q1 q2
   simp only [hiE, List.append_nil] at q1 q2
   subst q1 q2
   clear rer re' rk'
   obtain ⟨g7, w7, rfl, h71, h72⟩ := hs7
   obtain ⟨g8, w8, rfl, h81, h82⟩ := hs8
   have hrt2 : τ[r]? = some (.cells [.t rules, .t (.str text), .sl gl gg 0 s.goals.length 5, .t (I s.rank), .t (B s.fresh), .t (B s.full)] 0 0) := by
    rw [hF.2 r (by omega) (by simp), hF1.2 r lr (by simp)]; exact hr
   have hgt2 : τ[gl]? = some (.cells (gcells s.goals vs) gg gw) := by
    rw [hF.2 gl (by omega) (by simp), hF1.2 gl lg (by simp)]; exact hg
   have lrt := lt_of_get hrt2
   have lgt := lt_of_get hgt2
   have kr : ∀ o, (τ.set r o)[r]? = some o := fun o => List.getElem?_set_self lrt
   have kg : ∀ o, (τ.set r o)[gl]? = some (.cells (gcells s.goals vs) gg gw) := fun o => by rw [List.getElem?_set_ne n1]; exact hgt2
   have kr2 : ∀ o o2, ((τ.set r o).set gl o2)[r]? = some o := fun o o2 => by rw [List.getElem?_set_ne (Ne.symm n1)]; exact kr o
   have kg2 : ∀ o o2, ((τ.set r o).set gl o2)[gl]? = some o2 := fun o o2 => List.getElem?_set_self (by simpa using lgt)
   have hi3 : i * 5 + 3 + 1 ≤ s.goals.length * 5 := by omega
   have hi4 : i * 5 + 4 + 1 ≤ s.goals.length * 5 := by omega
   repeat apply W_seq
   refine W_region (by simp [hrt2, IntWalk.i64_in ((s.rank : Int) + 1) (by omega)]; first | exact ⟨rfl, rfl⟩ | exact rfl) ?_
   try simp only [thenQ, blockQ, Ann.kill, List.find?_nil]
   repeat apply W_seq
   refine W_region (by simp [kr, List.set_set]; first | exact ⟨rfl, rfl⟩ | exact rfl) ?_
   try simp only [thenQ, blockQ, Ann.kill, List.find?_nil]
   repeat apply W_seq
   refine W_region (by simp [kr, kg, hcl, hi1, hi3, setRange]; first | exact ⟨rfl, rfl⟩ | exact rfl) ?_
   try simp only [thenQ, blockQ, Ann.kill, List.find?_nil]
   repeat apply W_seq
   refine W_region (by simp [kr2, kg2, hcl, hi1, hi4, setRange, List.set_set]; first | exact ⟨rfl, rfl⟩ | exact rfl) ?_
   try simp only [thenQ, blockQ, Ann.kill, List.find?_nil]
   have hk1 : ∀ j, j ≠ r → j ≠ gl → ∀ o o2, ((τ.set r o).set gl o2)[j]? = τ[j]? := fun j h1 h2 o o2 => by rw [List.getElem?_set_ne (Ne.symm h2), List.getElem?_set_ne (Ne.symm h1)]
   have hk0 : ∀ j, j < σ.length → τ[j]? = σ[j]? := fun j hj => by rw [hF.2 j (by omega) (by simp), hF1.2 j hj (by simp)]
   refine ⟨trivial, _, (by simp [Tryz.f71]), rfl, vs.set i (p.1, .sl σ1.length g7 0 (endsA g e).length 1, .sl (σ1.length + 1) g8 0 (ranksA g e s.rank).length 1), ⟨⟨gg, gg, Nat.le_refl _, ?_, ?_⟩, ⟨?_, fun j gj pj hgj hpj => ?_⟩, n1, fun j hj => ?_, fun g' hg' => ?_⟩, ⟨?_, fun j hj hm => ?_⟩⟩
   ·rw [kr2]
    simp only [rnObj, List.length_set]
    congr 3
   ·rw [kg2]
    exact congrArg (fun c => some (V.Obj.cells c gg gg)) (gcells_set (g' := { g with ends := endsA g e, ranks := ranksA g e s.rank }) (q := (p.1, .sl σ1.length g7 0 (endsA g e).length 1, .sl (σ1.length + 1) g8 0 (ranksA g e s.rank).length 1)) hgi hp rfl rfl rfl).symm
   ·simp only [List.length_set]; exact R.rd.1
   ·by_cases hji : i = j
    ·subst hji
     rw [List.getElem?_set_self hi] at hgj
     rw [List.getElem?_set_self (lt_of_get hp)] at hpj
     simp only [Option.some.injEq] at hgj hpj
     subst hgj hpj
     refine ⟨ra.keep fun j hj => ?_, .inr (.inr ⟨σ1.length, g7, w7, rfl, ?_, h72⟩), .inr (.inr ⟨σ1.length + 1, g8, w8, rfl, ?_, h82⟩)⟩
     ·have ap := R.apart j (mem_locsP hp j (.inl hj))
      rw [hk1 j ap.1 ap.2, hk0 j (ra.locs j hj)]
     ·rw [hk1 _ (by omega) (by omega)]; exact h71
     ·rw [hk1 _ (by omega) (by omega)]; exact h81
    ·rw [List.getElem?_set_ne hji] at hgj hpj
     obtain ⟨r1, r2, r3⟩ := R.rd.2 j gj pj hgj hpj
     have pj' := mem_locsP hpj
     refine ⟨r1.keep fun x hx => ?_, r2.keep fun x hx => ?_, r3.keep fun x hx => ?_⟩
     ·have ap := R.apart x (pj' x (.inl hx))
      rw [hk1 x ap.1 ap.2, hk0 x (r1.locs x hx)]
     ·have ap := R.apart x (pj' x (.inr (.inl hx)))
      rw [hk1 x ap.1 ap.2, hk0 x (r2.locs x hx)]
     ·have ap := R.apart x (pj' x (.inr (.inr hx)))
      rw [hk1 x ap.1 ap.2, hk0 x (r3.locs x hx)]
   ·obtain ⟨pj, hpj, hj⟩ := List.mem_flatMap.1 hj
    rcases List.mem_or_eq_of_mem_set hpj with q | rfl
    ·exact R.apart j (List.mem_flatMap.2 ⟨pj, q, hj⟩)
    ·simp only [List.mem_append, locV, List.mem_singleton] at hj
     rcases hj with q | q | q
     ·exact R.apart j (mem_locsP hp j (.inl q))
     ·subst q; exact ⟨by omega, by omega⟩
     ·subst q; exact ⟨by omega, by omega⟩
   ·rcases List.mem_or_eq_of_mem_set hg' with q | rfl
    ·exact R.args g' q
    ·exact R.args g (List.mem_of_getElem? hgi)
   ·simp only [List.length_set]
    have := hF.1
    omega
   ·simp only [List.mem_cons, List.not_mem_nil, or_false, not_or] at hm
    rw [hk1 j hm.1 hm.2, hk0 j hj]
end X
