/-
  FnExactReplaced: for every text, list of spans and text to put in, the law answers true and leaves its arguments as they were. No condition.
-/
import Derived.Test.YthpjheboegobkaaRows
import Derived.Test.YthpjheboegobkaaVa1
import Derived.ProofKit
set_option linter.unusedVariables false
set_option linter.unusedSimpArgs false
namespace Go.Proofs.Ythpjheboegobkaa
open Go.ChangeShapes Go.WideShapes Go.ChangeAt Go.RowKit Go.V

theorem own : ownKnob Try.prog.godebug = none := by kernel_rfl
theorem laidOut : laidOutB Try.prog = true := by kernel_rfl

theorem open_spans {H : Type} {enc : TypeId × Value → H} {W : World} {b0 : Nat} {v : Value} {d : DataW H} {ps : List MemPlace} (hval : Value.okWide Try.prog W .any b0 22 v) (hd : DataW.Trod enc Try.prog W 0 (fun _ => true) true 22 v d ps) :
    v = .slice none 0 0 ∨ ∃ (a : Addr) (l : List (Int × Int)) (cap : Nat), v = .slice (some a) l.length cap ∧ l.length ≤ cap ∧ a.spot = none ∧ l.length ≤ maxLen ∧ TRrows (G.of W).fz a.block 2 a.off (l.map X.Sp) := by
  obtain ⟨fuel, hf⟩ := hd
  rcases DataW.trod_slice Try.underlying22 hf with ⟨h0, _⟩ | ⟨a, len, cap, elems, rest, n, _, hcs, _, hb, hl, hm, hlen, hel, _, _⟩
  · left
    cases v <;> simp [Value.cells] at h0
    · obtain ⟨rfl, rfl, rfl⟩ := h0
      rfl
    · simp [Value.okWide, Try.underlying22, Cell.okWide, Cell.ok] at hval
  · right
    have hv : v = .slice (some a) len cap := by
      cases v <;> simp [Value.cells] at hcs
      · obtain ⟨rfl, rfl, rfl⟩ := hcs
        rfl
      · simp [Value.okWide, Try.underlying22, Cell.okWide, Cell.ok] at hval
    subst hv
    have hsp : a.spot = none := by
      simp only [Value.okWide, Try.underlying22, Cell.okWide, Cell.ok] at hval
      exact hval.2.2.2.1
    have hc : Try.prog.cellsOf 48 = 2 := by kernel_rfl
    have each : ∀ i, i < len → ∃ p : Int × Int, W.cell? (a.add (i * 2)) = some (.int .i64 p.1) ∧ W.cell? ((a.add (i * 2)).add 1) = some (.int .i64 p.2) := by
      intro i hi
      have h1 := hel i hi
      rw [hc] at h1
      obtain ⟨y, hy⟩ : ∃ y, elems[i]? = some y := ⟨elems[i]'(by omega), List.getElem?_eq_getElem _⟩
      rw [hy, Option.bind_eq_some_iff] at h1
      obtain ⟨cs, h2, h3⟩ := h1
      obtain ⟨_, h4, h5⟩ := World.cells?_some h2
      obtain ⟨y0, y1, m, _, _, e0, e1⟩ := trod_struct2 Try.underlying48 h3
      obtain ⟨n0, q0, _⟩ := DataW.trod_int Try.underlying3 e0
      obtain ⟨n1, q1, _⟩ := DataW.trod_int Try.underlying3 e1
      match cs, h4 with
      | [c0, c1], _ =>
        have hc3 : Try.prog.cellsOf 3 = 1 := by kernel_rfl
        simp [hc3] at q0 q1
        subst q0 q1
        refine ⟨(n0, n1), ?_, ?_⟩
        · have := h5 0 (by omega)
          simpa [Addr.add] using this
        · exact h5 1 (by omega)
    have hl2 : ∃ l : List (Int × Int), l.length = len ∧ ∀ i p, l[i]? = some p → W.cell? (a.add (i * 2)) = some (.int .i64 p.1) ∧ W.cell? ((a.add (i * 2)).add 1) = some (.int .i64 p.2) := by
      refine ⟨(List.range len).map fun i => if h : i < len then (each i h).choose else (0, 0), by simp, fun i p hp => ?_⟩
      rw [List.getElem?_map] at hp
      have hi : i < len := by
        rcases Nat.lt_or_ge i len with h | h
        · exact h
        · rw [List.getElem?_eq_none (by simpa using h)] at hp; cases hp
      rw [List.getElem?_range hi] at hp
      simp only [Option.map_some, Option.some.injEq, dif_pos hi] at hp
      subst hp
      exact (each i hi).choose_spec
    obtain ⟨l, rfl, hl3⟩ := hl2
    refine ⟨a, l, cap, rfl, hl, hsp, Nat.le_trans hl hm, ?_⟩
    have rows : ∀ (l : List (Int × Int)) (off : Nat), (∀ i p, l[i]? = some p → W.cell? ⟨a.block, off + i * 2, none⟩ = some (.int .i64 p.1) ∧ W.cell? ⟨a.block, off + i * 2 + 1, none⟩ = some (.int .i64 p.2)) → TRrows (G.of W).fz a.block 2 off (l.map X.Sp) := by
      intro l
      induction l with
      | nil => intro off _; simp [TRrows]
      | cons p r ih =>
        intro off h
        obtain ⟨h0, h1⟩ := h 0 p rfl
        simp only [List.map_cons, TRrows]
        refine ⟨rfl, ?_, ih (off + 2) fun i q hq => ?_⟩
        · simp only [TRcells, G.of, TR]
          exact ⟨⟨_, by simpa using h0, rfl, rfl⟩, ⟨_, by simpa using h1, rfl, rfl⟩, trivial⟩
        · have := h (i + 1) q (by simpa using hq)
          rw [show off + 2 + i * 2 = off + (i + 1) * 2 by omega]
          exact this
    refine rows l a.off fun i p hp => ?_
    obtain ⟨h1, h2⟩ := hl3 i p hp
    obtain ⟨blk, off, sp⟩ := a
    simp only at hsp
    subst hsp
    by_cases h0 : i = 0
    · subst h0
      exact ⟨by simpa [Addr.add] using h1, by simpa [Addr.add] using h2⟩
    · have h00 : i * 2 ≠ 0 := by omega
      exact ⟨by simpa [Addr.add, h00] using h1, by simpa [Addr.add, h00] using h2⟩

set_option maxRecDepth 100000 in
theorem fnExactReplaced_lifted (os : Os) (started : os.Started) (H : Type) (enc : TypeId × Value → H) :
    ReturnsInHanded {} Try.checked os 3 .any (Rows.fnExactReplacedSpec.pre6 enc Try.prog Try.f3 Rows.fnExactReplacedRow.domain false) (Rows.fnExactReplacedSpec.post enc Try.prog Try.f3 false true false false) := by
  refine returnsInHanded_of_change (C := Try.checked) own started (by kernel_rfl) Try.func3
    (ChangeSpec.witness6 (enc := enc) (C := Try.checked) false ⟨#[], #[.string ⟨#[]⟩, .slice none 0 0, .string ⟨#[]⟩], []⟩ 8 (by kernel_rfl) (by kernel_rfl) (by kernel_rfl) (by kernel_rfl)) ?_
  intro W base args ds gs before hval hW hcnd _
  have hW' := hW
  obtain ⟨p, q, hA0, hV, hbef, hfz, hnd⟩ := hW
  have hA : DataW.TrodAll enc Try.prog W 0 (fun _ => true) true Try.f3.params.toList args.toList ds p := hA0
  rw [Try.params3] at hA hval
  obtain ⟨v0, v1, v2, d0, d1, d2, p0, p1, p2, rfl, rfl, hp, h0, h1, h2⟩ := trodAll_three hA
  obtain ⟨rfl, _⟩ := trodVars_none hV
  obtain ⟨s0, rfl, _, _, w0⟩ := ChangeMaps.open_string Try.underlying9 (hval 0 9 _ rfl rfl) h0
  obtain ⟨s2, rfl, _, _, w2⟩ := ChangeMaps.open_string Try.underlying9 (hval 2 9 _ rfl rfl) h2
  have call : Calls Try.prog 3 #[.string s0, v1, .string s2] W fun e W' => e = .returned (.bool true) ∧ Below W.heap.size W W' := by
    rcases open_spans (hval 1 22 _ rfl rfl) h1 with rfl | ⟨a, l, cap, rfl, e1, e2, e3, e4⟩
    · obtain ⟨σ', h⟩ := X.law_nil (V.bytes s0) (V.bytes s2)
      exact calls_row X.sysOk h ⟨_, _, rfl, ⟨s0, rfl, rfl⟩, _, _, rfl, rfl, _, _, rfl, ⟨s2, rfl, rfl⟩, rfl⟩
    · have hml : (l.length : Int) ≤ 9223372036854775807 := by
        have : maxLen ≤ 9223372036854775807 := by decide
        omega
      obtain ⟨σ', h⟩ := X.law_lv (V.bytes s0) (V.bytes s2) l hml
      refine calls_row X.sysOk h ⟨_, _, rfl, ⟨s0, rfl, rfl⟩, _, _, rfl, ?_, _, _, rfl, ⟨s2, rfl, rfl⟩, rfl⟩
      simp only [VR, TR, List.length_map]
      exact ⟨a, cap, 2, rfl, e1, e2, e4⟩
  refine call.mono fun e W' ⟨he, hg⟩ => ?_
  subst he
  exact ⟨_, rfl, post_law laidOut rfl (by rw [Try.params3]; decide +kernel) 4 (by kernel_rfl) Try.underlying4 hW' rfl hg⟩

theorem fnExactReplaced_holds : Rows.FnExactReplacedSaid :=
  OpenClaim.holds_of_wide 3 Try.f3 rfl rfl rfl rfl rfl rfl rfl ⟨rfl, rfl, rfl, rfl, rfl⟩ rfl rfl rfl rfl rfl (by kernel_rfl) Try.func3 (by kernel_rfl)
    (of_decide_eq_true (by kernel_rfl)) (by unfold Func.isWrapper; first | (rw [if_pos (by decide +kernel)]; kernel_rfl) | (rw [if_neg (by decide +kernel)]; exact ⟨rfl, rfl⟩))
    (fun os started H enc _ => fnExactReplaced_lifted os started H enc)

end Go.Proofs.Ythpjheboegobkaa
