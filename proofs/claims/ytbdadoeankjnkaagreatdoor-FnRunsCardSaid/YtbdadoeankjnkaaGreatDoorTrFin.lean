import Derived.Test.YtbdadoeankjnkaaGreatDoorRows
import Derived.Test.YtbdadoeankjnkaaGreatDoorCards
import Derived.Test.YtbdadoeankjnkaaGreatDoorTie
import Derived.ProofKit
import Derived.SevenTiedAt
import Derived.LaidLaws
import Derived.LaidMore
import Derived.OpenShut
import Derived.Stop.Joined
import Derived.Test.YtbdadoeankjnkaaGreatDoorVc
import Derived.Test.YtbdadoeankjnkaaGreatDoorTrs
import Derived.Test.YtbdadoeankjnkaaGreatDoorVErc5
import Derived.Test.YtbdadoeankjnkaaGreatDoorTrFJ
import Derived.Test.YtbdadoeankjnkaaGreatDoorTrFG
/-
  FnRuns: for every input, however long, the law answers true and leaves its input as it was. No condition but what the row itself says.
-/
set_option linter.unusedVariables false
set_option linter.unusedSimpArgs false
namespace Go.Proofs.YtbdadoeankjnkaaGreatDoor
open Go Go.ChangeShapes Go.WideShapes Go.ChangeAt Go.RowKit Go.V
set_option maxRecDepth 100000

theorem own : ownKnob Tryz.prog.godebug = none := by kernel_rfl
theorem laidOut : laidOutB Tryz.prog = true := by kernel_rfl
theorem door_met (os : Os) (args : Array Value) : laidMetH Tryz.prog Rows.fnRunsRow.laid ((World.doorLaid Tryz.prog 24 os).forCall (fun _ _ => 0) ⟨#[], args, []⟩).memory :=
  laidMetH_of_parts3 (fuel := 8) (laidMet_of_run' 8 (by kernel_rfl) (by kernel_rfl)) (by kernel_rfl) (by kernel_rfl)

theorem qzk {H : Type} {enc : TypeId × Value → H} {W : World} {b0 : Nat} {v : Value} {d : DataW H} {ps : List MemPlace} (hval : Value.okWide Tryz.prog W .any b0 22 v) (hd : DataW.Trod enc Tryz.prog W 0 (fun _ => true) true 22 v d ps) :
    ∃ x l, VR (G.of W) (.t x) v ∧ X.BytesT x l := by
  obtain ⟨fuel, hf⟩ := hd
  obtain ⟨xs, h1, _, h3⟩ := trod_T 2 22 (by kernel_rfl) fuel _ _ hf
  have key : ∀ x, xs = [x] → VR (G.of W) (.t x) v := by
    rintro x rfl
    simp only [TRs] at h1
    obtain ⟨c, r, hc, h4, rfl⟩ := h1
    have hv : v = c := by
      cases v <;> first | (simp [Value.cells] at hc; done) | (simpa [Value.cells] using hc) | (simp [Value.okWide, Tryz.underlying22, Cell.okWide, Cell.ok] at hval)
    subst hv
    exact h4
  rcases Shp_ints (e := 5) (k := .u8) Tryz.underlying22 Tryz.underlying5 h3 with rfl | ⟨l, rfl, _⟩
  · exact ⟨_, [], key _ rfl, .inl ⟨rfl, rfl⟩⟩
  · exact ⟨_, l, key _ rfl, .inr rfl⟩

theorem fnRuns_lifted (os : Os) (started : os.Started) (H : Type) (enc : TypeId × Value → H) :
    ReturnsInHanded {} Tryz.checked os 3 .any (fun w args => (Rows.fnRunsSpec.pre enc Tryz.prog Tryz.f3 [] false w args ∧ laidMetH Tryz.prog Rows.fnRunsRow.laid w) ∧ sizedMet enc Tryz.prog Tryz.f3 (OpenSpec.ofChange Rows.fnRunsSpec) false w args)
      (Rows.fnRunsSpec.post enc Tryz.prog Tryz.f3 false true false false) := by
  refine returnsInHanded_of_change_and (C := Tryz.checked) (X := fun w _ => laidMetH Tryz.prog Rows.fnRunsRow.laid w) (fun _ _ _ hh h => h.of_heap hh) own started (by kernel_rfl) Tryz.func3
    (ChangeSpec.witness_shaped (enc := enc) (C := Tryz.checked) (os := os) (X := fun w _ => laidMetH Tryz.prog Rows.fnRunsRow.laid w) false (World.doorLaid Tryz.prog 24 os) #[.slice none 0 0] 8 rfl (World.shaped_of_RefB (by kernel_rfl) (by kernel_rfl)) (by kernel_rfl) (by kernel_rfl) (by kernel_rfl) (door_met os _)) ?_
  intro W base args ds gs before hval0 hW _ _ _ _
  have hval : ∀ (j : Nat) t v, Tryz.f3.params[j]? = some t → args[j]? = some v → Value.okWide Tryz.prog W .any base t v := hval0
  have hW' := hW
  obtain ⟨p, q, hA0, hV, rfl, hfz, hnd⟩ := hW
  have hA : DataW.TrodAll enc Tryz.prog W 0 (fun _ => true) true Tryz.f3.params.toList args.toList ds p := hA0
  rw [Tryz.params3] at hA hval
  obtain ⟨rfl, rfl⟩ := trodVars_none hV
  obtain ⟨v0, d0, rfl, rfl, h0⟩ := trodAll_one hA
  obtain ⟨x, l, hx, hb⟩ := qzk (hval 0 22 v0 rfl rfl) h0
  obtain ⟨σ', h⟩ := X.given_lv hb
  refine (q3n X.sysOk h ⟨_, _, rfl, hx, rfl⟩).mono fun e W' ⟨he, hg⟩ => ?_
  subst he
  exact ⟨_, rfl, post_law laidOut rfl (by rw [Tryz.params3]; decide +kernel) 4 (by kernel_rfl) Tryz.underlying4 hW' rfl hg⟩

theorem fnRuns_holds : Rows.FnRunsSaid :=
  OpenClaim.holds_of_wide 3 Tryz.f3 rfl rfl rfl rfl rfl rfl rfl ⟨rfl, rfl, rfl, rfl, rfl⟩ rfl rfl rfl rfl rfl (by kernel_rfl) Tryz.func3 facts
    (of_decide_eq_true (by kernel_rfl)) (by unfold Func.isWrapper; first | (rw [if_pos (by decide +kernel)]; kernel_rfl) | (rw [if_neg (by decide +kernel)]; exact ⟨rfl, rfl⟩))
    (fun os started H enc _ => fnRuns_lifted os started H enc)

theorem fnRuns_card_holds : Rows.FnRunsCardSaid :=
  Claim7.holds_tied_plain_at .later [] [.data, .data, .data] true (true, "b2c1205fe6f8ae1d6669c46681d7ecde488c8242ec0bfb2b769ce5b06e40df8e") false
    fnRuns_holds (fun _ h => by cases h) cardWf (fun _ h => by cases h) fnRuns_row_tie rfl ⟨rfl, rfl⟩ cardMain rfl
    (fun f fn hf hfn => by
      obtain rfl : f = 3 := Option.some.inj (cardName.symm.trans hf) |>.symm
      obtain rfl : fn = Tryz.f3 := (Option.some.inj (Tryz.func3.symm.trans hfn)).symm
      exact ⟨q2j, fun j t ht => by
        rw [Tryz.params3] at ht
        have hm : t ∈ [22] := by simpa using Array.mem_of_getElem? ht
        exact (show Tryz.prog.wantsStandIn t = false by simpa using List.all_eq_true.1 q3l t hm)⟩)
    cardGoes
end Go.Proofs.YtbdadoeankjnkaaGreatDoor
