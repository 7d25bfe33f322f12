import Derived.Test.YtojpedmanjlnlaaGreatRows
import Derived.Test.YtojpedmanjlnlaaGreatTpL
import Derived.Test.YtojpedmanjlnlaaGreatVc
import Derived.ProofKit
/-
  FnFirsts: for every slice of bytes the law answers true and leaves its argument as it was. No condition.
-/
set_option linter.unusedVariables false
set_option linter.unusedSimpArgs false
namespace Go.Proofs.YtojpedmanjlnlaaGreat
open Go Go.ChangeShapes Go.WideShapes Go.ChangeAt Go.RowKit Go.V
set_option maxRecDepth 100000

theorem own : ownKnob Tryz.prog.godebug = none := by kernel_rfl
theorem laidOut : laidOutB Tryz.prog = true := by kernel_rfl

theorem qxg {H : Type} {enc : TypeId × Value → H} {W : World} {b0 : Nat} {v : Value} {d : DataW H} {ps : List MemPlace} (hval : Value.okWide Tryz.prog W .any b0 22 v) (hd : DataW.Trod enc Tryz.prog W 0 (fun _ => true) true 22 v d ps) :
    ∃ x l, VR (G.of W) (.t x) v ∧ X.BytesT x l := by
  obtain ⟨fuel, hf⟩ := hd
  obtain ⟨xs, h1, _, h3⟩ := trod_T 2 22 (by kernel_rfl) fuel _ _ hf
  have key : ∀ x, xs = [x] → VR (G.of W) (.t x) v := by
    rintro x rfl
    simp only [TRs] at h1
    obtain ⟨c, r, hc, h4, rfl⟩ := h1
    have hv : v = c := by
      cases v <;> first | (simp [Value.cells] at hc; done) | (simpa [Value.cells] using hc) | (simp [Value.okWide, Tryz.underlying22, Cell.okWide, Cell.ok] at hval)
    subst hv
    exact h4
  rcases Shp_ints (e := 5) (k := .u8) Tryz.underlying22 Tryz.underlying5 h3 with rfl | ⟨l, rfl, _⟩
  · exact ⟨_, [], key _ rfl, .inl ⟨rfl, rfl⟩⟩
  · exact ⟨_, l, key _ rfl, .inr rfl⟩

theorem fnFirsts_lifted (os : Os) (started : os.Started) (H : Type) (enc : TypeId × Value → H) :
    ReturnsInHanded {} Tryz.checked os 3 .any (Rows.fnFirstsSpec.pre6 enc Tryz.prog Tryz.f3 Rows.fnFirstsRow.domain false) (Rows.fnFirstsSpec.post enc Tryz.prog Tryz.f3 false true false false) := by
  refine returnsInHanded_of_change (C := Tryz.checked) own started (by kernel_rfl) Tryz.func3
    (ChangeSpec.witness6 (enc := enc) (C := Tryz.checked) false ⟨#[], #[.slice none 0 0], []⟩ 8 (by kernel_rfl) (by kernel_rfl) (by kernel_rfl) (by kernel_rfl)) ?_
  intro W base args ds gs before hval hW hcnd _
  have hW' := hW
  obtain ⟨p, q, hA0, hV, hbef, hfz, hnd⟩ := hW
  have hA : DataW.TrodAll enc Tryz.prog W 0 (fun _ => true) true Tryz.f3.params.toList args.toList ds p := hA0
  rw [Tryz.params3] at hA hval
  obtain ⟨v0, d0, rfl, rfl, h0⟩ := trodAll_one hA
  obtain ⟨rfl, _⟩ := trodVars_none hV
  obtain ⟨x, l, hx, hb⟩ := qxg (hval 0 22 v0 rfl rfl) h0
  obtain ⟨σ', h⟩ := X.given_lv hb
  refine (q0a X.sysOk h ⟨_, _, rfl, hx, rfl⟩).mono fun e W' ⟨he, hg⟩ => ?_
  subst he
  exact ⟨_, rfl, post_law laidOut rfl (by rw [Tryz.params3]; decide +kernel) 4 (by kernel_rfl) Tryz.underlying4 hW' rfl hg⟩

theorem fnFirsts_holds : Rows.FnFirstsSaid :=
  OpenClaim.holds_of_wide 3 Tryz.f3 rfl rfl rfl rfl rfl rfl rfl ⟨rfl, rfl, rfl, rfl, rfl⟩ rfl rfl rfl rfl rfl (by kernel_rfl) Tryz.func3 (by kernel_rfl)
    (of_decide_eq_true (by kernel_rfl)) (by unfold Func.isWrapper; first | (rw [if_pos (by decide +kernel)]; kernel_rfl) | (rw [if_neg (by decide +kernel)]; exact ⟨rfl, rfl⟩))
    (fun os started H enc _ => fnFirsts_lifted os started H enc)

end Go.Proofs.YtojpedmanjlnlaaGreat
