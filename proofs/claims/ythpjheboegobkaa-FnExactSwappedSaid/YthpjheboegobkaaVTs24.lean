/- A part of the proof. No statement of the claim is in it. -/
import Derived.Test.YthpjheboegobkaaRows
import Derived.Test.YthpjheboegobkaaVTs22
import Derived.Test.YthpjheboegobkaaVTsRow
import Derived.Test.YthpjheboegobkaaVc
import Derived.ProofKit
set_option linter.unusedVariables false
set_option linter.unusedSimpArgs false
namespace Go.Proofs.Ythpjheboegobkaa
open Go Go.ChangeShapes Go.WideShapes Go.ChangeAt Go.RowKit Go.V

theorem own : ownKnob Try.prog.godebug = none := by kernel_rfl
theorem laidOut : laidOutB Try.prog = true := by kernel_rfl

theorem shp_ints {xs : List T} (h : Shp Try.prog 2 63 xs) : ∃ x l, xs = [x] ∧ X.IsL x X.R1 l ∧ l.length ≤ 9223372036854775807 := by
  rcases Shp_ints (n := 0) Try.underlying63 Try.underlying3 h with rfl | ⟨l, rfl, hl⟩
  · exact ⟨_, [], rfl, .inr ⟨rfl, rfl⟩, by simp⟩
  · exact ⟨_, l, rfl, .inl rfl, hl⟩
theorem shp_int {xs : List T} (h : Shp Try.prog 2 3 xs) : ∃ i, xs = [X.I i] := by
  unfold Shp at h
  rw [Try.underlying3] at h
  obtain ⟨i, rfl, _⟩ := h
  exact ⟨i, rfl⟩
theorem shp_node {cs : List T} (h : Shp Try.prog 3 65 cs) : ∃ m : X.LN, T.agg cs = m.enc ∧ m.ok := by
  unfold Shp at h
  rw [Try.underlying65] at h
  simp only [ShpFs] at h
  obtain ⟨_, _, rfl, h0, _, _, rfl, h1, _, _, rfl, h2, _, _, rfl, h3, _, _, rfl, h4, _, _, rfl, h5, rfl⟩ := h
  obtain ⟨i0, rfl⟩ := shp_int h0
  obtain ⟨i1, rfl⟩ := shp_int h1
  obtain ⟨x2, l2, rfl, a2, b2⟩ := shp_ints h2
  obtain ⟨i3, rfl⟩ := shp_int h3
  obtain ⟨i4, rfl⟩ := shp_int h4
  obtain ⟨x5, l5, rfl, a5, b5⟩ := shp_ints h5
  exact ⟨⟨⟨i0, i1, l2, i3, i4, l5⟩, x2, x5⟩, rfl, a2, a5, b2, b5⟩
theorem all_nodes : ∀ (rows : List T), (∀ r ∈ rows, ∃ cs, r = T.agg cs ∧ Shp Try.prog 3 65 cs) → ∃ l : List X.LN, rows = l.map X.LN.enc ∧ ∀ m ∈ l, m.ok
  | [], _ => ⟨[], rfl, by simp⟩
  | r :: rows, h => by
    obtain ⟨cs, rfl, hc⟩ := h r (by simp)
    obtain ⟨m, h1, h2⟩ := shp_node hc
    obtain ⟨l, rfl, h3⟩ := all_nodes rows fun x hx => h x (by simp [hx])
    exact ⟨m :: l, by rw [List.map_cons, h1], fun y hy => (List.mem_cons.1 hy).elim (fun e => e ▸ h2) (h3 y)⟩
theorem shp_tree {xs : List T} (h : Shp Try.prog 5 32 xs) : ∃ x l, xs = [x] ∧ X.IsL x X.LN.enc l ∧ (∀ m ∈ l, m.ok) ∧ l.length ≤ 9223372036854775807 := by
  unfold Shp at h
  rw [Try.underlying32] at h
  simp only [ShpFs] at h
  obtain ⟨_, _, rfl, h0, rfl⟩ := h
  unfold Shp at h0
  rw [Try.underlying30] at h0
  rcases h0 with rfl | ⟨rows, rfl, hl, hr⟩
  · exact ⟨_, [], rfl, .inr ⟨rfl, rfl⟩, by simp, by simp⟩
  · obtain ⟨l, rfl, h2⟩ := all_nodes rows hr
    exact ⟨_, l, rfl, .inl rfl, h2, (show l.length ≤ maxLen by simpa using hl)⟩

theorem open_tree {H : Type} {enc : TypeId × Value → H} {W : World} {b0 : Nat} {v : Value} {d : DataW H} {ps : List MemPlace} (hval : Value.okWide Try.prog W .any b0 32 v) (hd : DataW.Trod enc Try.prog W 0 (fun _ => true) true 32 v d ps) :
    ∃ x l, VR (G.of W) (.t (.agg [x])) v ∧ X.IsL x X.LN.enc l ∧ (∀ m ∈ l, m.ok) ∧ l.length ≤ 9223372036854775807 := by
  obtain ⟨fuel, hf⟩ := hd
  obtain ⟨xs, h1, h2, h3⟩ := trod_T 5 32 (by kernel_rfl) fuel _ _ hf
  obtain ⟨x, l, rfl, h4, h5, h6⟩ := shp_tree h3
  refine ⟨x, l, ?_, h4, h5, h6⟩
  have hv : ∃ a, v = .agg a := by
    cases v <;> first | exact ⟨_, rfl⟩ | (simp [Value.okWide, Try.underlying32, Cell.okWide, Cell.ok] at hval)
  obtain ⟨a, rfl⟩ := hv
  simp only [VR, TR]
  exact ⟨a, rfl, by simpa [Value.cells] using h1, by simpa [Value.cells] using h2⟩

set_option maxRecDepth 100000 in
theorem fnExactSwapped_lifted (os : Os) (started : os.Started) (H : Type) (enc : TypeId × Value → H) :
    ReturnsInHanded {} Try.checked os 5 .any (Rows.fnExactSwappedSpec.pre6 enc Try.prog Try.f5 Rows.fnExactSwappedRow.domain false) (Rows.fnExactSwappedSpec.post enc Try.prog Try.f5 false true false false) := by
  refine returnsInHanded_of_change (C := Try.checked) own started (by kernel_rfl) Try.func5
    (ChangeSpec.witness6 (enc := enc) (C := Try.checked) false ⟨#[], #[.agg #[.slice none 0 0], .int .i64 0, .agg #[.slice none 0 0]], []⟩ 8 (by kernel_rfl) (by kernel_rfl) (by kernel_rfl) (by kernel_rfl)) ?_
  intro W base args ds gs before hval hW hcnd _
  have hW' := hW
  obtain ⟨p, q, hA0, hV, hbef, hfz, hnd⟩ := hW
  have hA : DataW.TrodAll enc Try.prog W 0 (fun _ => true) true Try.f5.params.toList args.toList ds p := hA0
  rw [Try.params5] at hA hval
  obtain ⟨v0, v1, v2, d0, d1, d2, p0, p1, p2, rfl, rfl, hp, h0, h1, h2⟩ := trodAll_three hA
  obtain ⟨rfl, _⟩ := trodVars_none hV
  obtain ⟨x, l, hx, a2, a3, a4⟩ := open_tree (hval 0 32 _ rfl rfl) h0
  obtain ⟨i, rfl, _⟩ := ChangeShapes.open_int Try.underlying3 (hval 1 3 _ rfl rfl) h1
  obtain ⟨y, m, hy, b2, b3, b4⟩ := open_tree (hval 2 32 _ rfl rfl) h2
  have call : Calls Try.prog 5 #[v0, .int .i64 i, v2] W fun e W' => e = .returned (.bool true) ∧ Below W.heap.size W W' := by
    obtain ⟨σ', h⟩ := X.law5_lv a2 a3 a4 b2 b3 b4 i
    exact calls_row X.sysOk h ⟨_, _, rfl, hx, _, _, rfl, rfl, _, _, rfl, hy, rfl⟩
  refine call.mono fun e W' ⟨he, hg⟩ => ?_
  subst he
  exact ⟨_, rfl, post_law laidOut rfl (by rw [Try.params5]; decide +kernel) 4 (by kernel_rfl) Try.underlying4 hW' rfl hg⟩

theorem fnExactSwapped_holds : Rows.FnExactSwappedSaid :=
  OpenClaim.holds_of_wide 5 Try.f5 rfl rfl rfl rfl rfl rfl rfl ⟨rfl, rfl, rfl, rfl, rfl⟩ rfl rfl rfl rfl rfl (by kernel_rfl) Try.func5 (by kernel_rfl)
    (of_decide_eq_true (by kernel_rfl)) (by unfold Func.isWrapper; first | (rw [if_pos (by decide +kernel)]; kernel_rfl) | (rw [if_neg (by decide +kernel)]; exact ⟨rfl, rfl⟩))
    (fun os started H enc _ => fnExactSwapped_lifted os started H enc)

end Go.Proofs.Ythpjheboegobkaa
