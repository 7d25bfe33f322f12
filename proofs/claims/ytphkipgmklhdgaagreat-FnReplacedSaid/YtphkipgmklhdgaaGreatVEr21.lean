/- A part of the proof. No statement of the claim is in it. -/
import Derived.Test.YtphkipgmklhdgaaGreatVEr20
open Go Go.V Go.Proofs
namespace X
set_option maxRecDepth 100000
set_option maxHeartbeats 4000000
set_option linter.unusedSimpArgs false
set_option linter.unusedVariables false
attribute [-simp] getElem?_pos
/-! ### Spans with any numbers -/
abbrev Sp (p : Int × Int) : T := .agg [I p.1, I p.2]
abbrev Sps (l : List (Int × Int)) : T := .list (l.map Sp)
def flat (l : List (Int × Int)) : List V := l.flatMap fun p => [.t (I p.1), .t (I p.2)]
theorem flat_length (l : List (Int × Int)) : (flat l).length = l.length * 2 := by
 induction l with
 | nil => rfl
 | cons p l ih => simp only [flat, List.flatMap_cons, List.length_append, List.length_cons, List.length_nil] at ih ⊢; omega
theorem flat_app (l r : List (Int × Int)) : flat (l ++ r) = flat l ++ flat r := by simp [flat]
theorem frzs_flat (d : Nat) (σ : Store) (l : List (Int × Int)) : frzs (frz (d + 1) σ) (flat l) = some (l.flatMap fun p => [I p.1, I p.2]) := by
 induction l with
 | nil => rfl
 | cons p l ih => simp only [flat, List.flatMap_cons, List.cons_append, List.nil_append] at ih ⊢; simp only [frzs, frz_t, ih]
theorem chunk_flat (l : List (Int × Int)) : chunk 2 l.length (l.flatMap fun p => [I p.1, I p.2]) = l.map Sp := by
 induction l with
 | nil => rfl
 | cons p l ih => simp [chunk, ih]
theorem frz_flat (n : Nat) {σ : Store} {d g w : Nat} {l : List (Int × Int)} (hd : σ[d]? = some (.cells (flat l) g w)) (hw : w ≤ g) : frz (n + 2) σ (.sl d g 0 l.length 2) = some (Sps l) := by
 rw [frz_sl (d := n + 1) (cs := flat l) (gen := g) (wgen := w) hd hw (Nat.le_refl _) (by decide) (by rw [flat_length]; omega) (ts := l.flatMap fun p => [I p.1, I p.2])]
 ·rw [chunk_flat]
 ·rw [List.drop_zero, List.take_of_length_le (by rw [flat_length]; omega)]
  exact frzs_flat n _ l
/-! ### DrawReplaced -/
theorem drawReplaced_ld {x : T} {l : List Int} (hx : BytesT x l) (hl : (l.length : Int) ≤ 1048576) :
  ∃ t L b, (∀ σ, LD S 8 [.t x] σ = some (.t (.tup [.str t, Sps L, .str b]), σ)) ∧ t.length ≤ 1000 ∧ L.length ≤ 1000 ∧ b.length ≤ 1000 := by
 suffices hh : ∃ v σ', LV S 8 [.t x] [] = some (v, σ') ∧ ∃ t L b, frz 40 σ' v = some (.tup [.str t, Sps L, .str b]) ∧ t.length ≤ 1000 ∧ L.length ≤ 1000 ∧ b.length ≤ 1000 by
  obtain ⟨v, σ', h1, t, L, b, h2, h3⟩ := hh
  exact ⟨t, L, b, fun σ => LD_pure (A := A8) (args := [.t x]) rfl rfl rfl h1 h2 σ, h3⟩
 obtain ⟨h0, hnew⟩ := new_lv hx hl []
 have hnew' : LD S 10 [.t x] [] = some (.ptr 0 0 0 3, [Cur x 0 h0]) := hnew
 have hcur : ∀ (o : V.Obj) (r : Store), CurO x l o → CurAt (o :: r) 0 x l := fun o r ho => ⟨o, rfl, ho⟩
 have hC : CurAt [Cur x 0 h0] 0 x l := hcur _ _ ⟨0, h0, rfl, by omega, by omega⟩
 obtain ⟨b, o1, p1, p2, p3⟩ := pick_ld hx hl hC (L := [[], [120], [108, 111, 110, 103]]) (by decide) (by decide)
 simp only [List.map_cons, List.map_nil, List.set_cons_zero] at p1
 have hb : b.length ≤ 1000 := by
  simp only [List.mem_cons, List.not_mem_nil, or_false] at p2
  rcases p2 with rfl | rfl | rfl <;> decide
 obtain ⟨t, o2, q1, q2, q3, q4⟩ := text_ld hx hl (hcur o1 [] p3)
 simp only [List.set_cons_zero] at q1
 refine LV_bodyX (A := A8) rfl Tryz.func8 rfl ?_
 repeat apply W_seq
 refine W_region (by simp; first | exact ⟨rfl, rfl⟩ | exact rfl) ?_
 try simp only [thenQ, blockQ, Ann.kill, List.find?_nil]
 repeat apply W_seq
 refine W_region (by simp [hnew']; first | exact ⟨rfl, rfl⟩ | exact rfl) ?_
 try simp only [thenQ, blockQ, Ann.kill, List.find?_nil]
 repeat apply W_seq
 refine W_region (by simp [sliceCells, repZero, fillV, setRange, chunk, List.range, List.range.loop, mkAgg, allT, p1]; first | exact ⟨rfl, rfl⟩ | exact rfl) ?_
 try simp only [thenQ, blockQ, Ann.kill, List.find?_nil]
 repeat apply W_seq
 refine W_region (by simp [q1]; first | exact ⟨rfl, rfl⟩ | exact rfl) ?_
 try simp only [thenQ, blockQ, Ann.kill, List.find?_nil]
 repeat apply W_seq
 refine W_region (by simp [sliceCells, repZero, fillV, chunk]; first | exact ⟨rfl, rfl⟩ | exact rfl) ?_
 try simp only [thenQ, blockQ, Ann.kill, List.find?_nil]
 repeat apply W_seq
 refine W_region (by simp; first | exact ⟨rfl, rfl⟩ | exact rfl) ?_
 try simp only [thenQ, blockQ, Ann.kill, List.find?_nil]
 repeat apply W_seq
 refine W_region (by simp; first | exact ⟨rfl, rfl⟩ | exact rfl) ?_
 try simp only [thenQ, blockQ, Ann.kill, List.find?_nil]
 repeat apply W_seq
 refine W_block ?_
 refine W_loop (I := fun m st τ => ∃ (k at_ : Nat) (L : List (Int × Int)) (g : Nat) (o : V.Obj), m = 4 - k ∧ k ≤ 4 ∧ at_ ≤ 4 * k ∧ L.length ≤ k ∧ CurO x l o ∧ st.vars = [(0, .t x), (2, .t (.str [])), (3, .t .nils), (4, .t (.str [])), (5, .ptr 0 0 0 3), (6, .t (.str b)), (7, .t (.str t)), (8, .sl 1 g 0 L.length 2), (9, .t (I at_)), (10, .t (I k))] ∧ τ = [o, .cells (flat L) g 0]) ?_ 4 _ _ ⟨0, 0, [], 0, o2, rfl, by omega, by omega, by simp, q2, by simp, rfl⟩
 rintro m ⟨vars, scr⟩ τ ⟨k, at_, L, g, o, rfl, hk, ha, hL, ho, hv, rfl⟩
 simp only at hv
 subst hv
 obtain ⟨r1, o3, a1, a2, a3⟩ := below_ld hx hl (hcur o [.cells (flat L) g 0] ho) (n := 4) (by omega) (by omega)
 simp only [List.set_cons_zero] at a1
 have a1' : LD S 11 [.ptr 0 0 0 3, .t (I 4)] [o, .cells (flat L) g 0] = some (.t (I r1), [o3, .cells (flat L) g 0]) := a1
 have hfl := flat_length L
 have hbn : (L.length + 1) * 16 ≤ 140737488355328 := by omega
 repeat apply W_seq
 refine W_region (by simp [a1']; first | exact ⟨rfl, rfl⟩ | exact rfl) ?_
 try simp only [thenQ, blockQ, Ann.kill, List.find?_nil]
 by_cases c1 : k < r1
 ·repeat apply W_seq
  refine W_cond (t := true) (by simp [c1]) ?_
  simp only [if_true, if_false, Bool.false_eq_true]
  refine W_skip ?_
  try simp only [thenQ, blockQ, Ann.kill, List.find?_nil]
  repeat apply W_seq
  refine W_block ?_
  obtain ⟨r2, o4, b1, b2, b3⟩ := below_ld hx hl (hcur o3 [.cells (flat L) g 0] a3) (n := 3) (by omega) (by omega)
  simp only [List.set_cons_zero] at b1
  have b1' : LD S 11 [.ptr 0 0 0 3, .t (I 3)] [o3, .cells (flat L) g 0] = some (.t (I r2), [o4, .cells (flat L) g 0]) := b1
  obtain ⟨r3, o5, c1', c2, c3⟩ := below_ld hx hl (hcur o4 [.cells (flat L) g 0] b3) (n := 3) (by omega) (by omega)
  simp only [List.set_cons_zero] at c1'
  have c1'' : LD S 11 [.ptr 0 0 0 3, .t (I 3)] [o4, .cells (flat L) g 0] = some (.t (I r3), [o5, .cells (flat L) g 0]) := c1'
  repeat apply W_seq
  refine W_region (by simp [b1', IntWalk.i64_in ((at_ : Int) + r2) (by omega)]; first | exact ⟨rfl, rfl⟩ | exact rfl) ?_
  try simp only [thenQ, blockQ, Ann.kill, List.find?_nil]
  repeat apply W_seq
  refine W_region (by simp [c1'', IntWalk.i64_in ((at_ : Int) + r2 + r3) (by omega)]; first | exact ⟨rfl, rfl⟩ | exact rfl) ?_
  try simp only [thenQ, blockQ, Ann.kill, List.find?_nil]
  repeat apply W_seq
  refine W_region (by simp [buildV, fieldSizes, fillV, setRange, repZero, sliceCells, chunk, mkAgg, allT, appendV, srcCells, rowCells, hfl, hbn]; first | exact ⟨rfl, rfl⟩ | exact rfl) ?_
  try simp only [thenQ, blockQ, Ann.kill, List.find?_nil]
  repeat apply W_seq
  refine W_region (by simp; first | exact ⟨rfl, rfl⟩ | exact rfl) ?_
  try simp only [thenQ, blockQ, Ann.kill, List.find?_nil]
  repeat apply W_seq
  refine W_region (by simp [IntWalk.i64_in ((k : Int) + 1) (by omega)]; first | exact ⟨rfl, rfl⟩ | exact rfl) ?_
  try simp only [thenQ, blockQ, Ann.kill, List.find?_nil]
  refine ⟨4 - (k + 1), by omega, k + 1, at_ + r2 + r3, L ++ [((at_ : Int) + r2, (at_ : Int) + r2 + r3)], g + 1, o5, rfl, by omega, by omega, by simp; omega, c3, by simp, ?_⟩
  rw [flat_app]
  rfl
 ·repeat apply W_seq
  refine W_cond (t := false) (by simp [c1]) ?_
  simp only [if_true, if_false, Bool.false_eq_true]
  repeat apply W_seq
  refine W_exit ?_
  try simp only [thenQ, blockQ, if_true, Ann.kill, List.find?_nil]
  obtain ⟨d, o6, d1, d2⟩ := once_ld hx hl (hcur o3 [.cells (flat L) g 0] a3) (n := 8) (by omega) (by omega)
  simp only [List.set_cons_zero] at d1
  have d1' : LD S 18 [.ptr 0 0 0 3, .t (I 8)] [o3, .cells (flat L) g 0] = some (.t (B d), [o6, .cells (flat L) g 0]) := d1
  have fin : ∀ (o : V.Obj) (L : List (Int × Int)) (g : Nat), frz 40 [o, V.Obj.cells (flat L) g 0] (.tup [.t (.str t), .sl 1 g 0 L.length 2, .t (.str b)]) = some (.tup [.str t, Sps L, .str b]) := fun o L g => by
   have := frz_flat 37 (σ := [o, .cells (flat L) g 0]) (d := 1) (g := g) (w := 0) (l := L) rfl (Nat.zero_le _)
   rw [frz, frzs, frzs, this]
   rfl
  repeat apply W_seq
  refine W_region (by simp [d1']; first | exact ⟨rfl, rfl⟩ | exact rfl) ?_
  try simp only [thenQ, blockQ, Ann.kill, List.find?_nil]
  cases d with
  | true =>
   repeat apply W_seq
   refine W_cond (t := true) (by simp) ?_
   simp only [if_true, if_false, Bool.false_eq_true]
   obtain ⟨z, o7, e1, e2, e3⟩ := pickInt_ld hx hl (hcur o6 [.cells (flat L) g 0] d2) (L := [-1, 0, 3]) (by decide) (by decide)
   simp only [List.map_cons, List.map_nil, List.set_cons_zero] at e1
   repeat apply W_seq
   refine W_region (by simp [buildV, fieldSizes, fillV, setRange, repZero, sliceCells, chunk, mkAgg, allT, appendV, srcCells, rowCells, hfl, hbn, List.range, List.range.loop, e1]; first | exact ⟨rfl, rfl⟩ | exact rfl) ?_
   try simp only [thenQ, blockQ, Ann.kill, List.find?_nil]
   repeat apply W_seq
   refine W_region (by simp; first | exact ⟨rfl, rfl⟩ | exact rfl) ?_
   try simp only [thenQ, blockQ, Ann.kill, List.find?_nil]
   refine W_ret ?_
   have hst : [o7, V.Obj.cells (flat L ++ [V.t (I z), V.t (I 2)]) (g + 1) 0] = [o7, V.Obj.cells (flat (L ++ [(z, 2)])) (g + 1) 0] := by rw [flat_app]; rfl
   refine ⟨trivial, .tup [.t (.str t), .sl 1 (g + 1) 0 (L.length + 1) 2, .t (.str b)], (by simp [Tryz.f8]), t, L ++ [(z, 2)], b, ?_, by omega, by simp; omega, hb⟩
   have := fin o7 (L ++ [(z, 2)]) (g + 1)
   rw [← hst] at this
   simpa using this
  | false =>
   repeat apply W_seq
   refine W_cond (t := false) (by simp) ?_
   simp only [if_true, if_false, Bool.false_eq_true]
   refine W_skip ?_
   try simp only [thenQ, blockQ, Ann.kill, List.find?_nil]
   repeat apply W_seq
   refine W_region (by simp; first | exact ⟨rfl, rfl⟩ | exact rfl) ?_
   try simp only [thenQ, blockQ, Ann.kill, List.find?_nil]
   refine W_ret ?_
   exact ⟨trivial, .tup [.t (.str t), .sl 1 g 0 L.length 2, .t (.str b)], (by simp [Tryz.f8]), t, L, b, fin o6 L g, by omega, by omega, hb⟩
end X
