import Derived.Test.YtbdadoeankjnkaaGreatDoorRows
import Derived.ProofKit
import Derived.JoinedOf
import Derived.KernelRfl
/- The closed facts that the form asks of the row of FnRuns, each by the kernel. No statement of the claim is in it. -/
namespace Go.Proofs.YtbdadoeankjnkaaGreatDoor
open Go
set_option maxRecDepth 100000
theorem q0y (P : Program) (f : FuncId) (fn : Func) (s : ChangeSpec) (c : OpenClaim)
  (h0 : (c.wf (OpenSpec.ofChange s)) = true)
  (h1 : (laidOutB P && mapsRowed P) = true)
  (h2 : (fn.params.all (P.readableRec ·) && namedTie P c.named s.vars) = true)
  (h3 : ((c.stops == []) && (P.stops == []) && (c.knobs == []) && (P.stopKnobs == [])) = true)
  (h4 : ((c.inPlace == P.inPlace f)) = true)
  (h5 : ((c.unfollowed == P.unfollowed f)) = true)
  (h6 : ((c.recurses == P.recurses f)) = true)
  (h7 : ((c.named == P.varsNamed f)) = true)
  (h8 : ((c.maps == (fn.params.toList ++ s.plain.varTypes P).any (P.mapsRec ·)) && (c.ifaces == (fn.params.toList ++ s.plain.varTypes P).any (P.ifacesRec ·)) && (c.mapsOut == P.mapsAmong fn.resultTypes.toList)) = true)
  (h9 : ((c.loops == (fn.params.toList ++ s.plain.varTypes P).any (P.loopsFrom ·)) && (c.wideKeys == (fn.params.toList ++ s.plain.varTypes P ++ fn.resultTypes.toList).any (P.wideKeysFrom ·))) = true)
  (h10 : (s.vars.all (P.varReadable ·) && fn.resultTypes.all (fun t => P.readableRec t && decide (t < P.types.size)) && (c.ifacesOut == fn.resultTypes.toList.any (P.ifacesRec ·)) && (c.loopsOut == fn.resultTypes.toList.any (P.loopsFrom ·))) = true)
  (h11 : ((c.plainKeys == P.plainKeys)) = true)
  (h12 : (c.shortTexts.isNone && P.stopsHeard && P.mayEnter) = true)
  (h13 : ((c.lifted == P.liftsFinal) && (P.make == some c.make)) = true)
  (h14 : ((c.kinds == (if c.domain.isEmpty then [] else fn.params.toList.map fun t => match P.underlying t with | some (.int k) => some k | _ => none)) && (c.pinned == c.pinnedBy)) = true)
  (h15 : ((c.veiled == (fn.params.toList ++ s.plain.varTypes P ++ fn.resultTypes.toList).any (P.veiledRec ·)) && c.veiledFits P fn.params.toList (fn.params.toList ++ s.plain.varTypes P ++ fn.resultTypes.toList)) = true)
  : joinedFacts P f fn s c = true := by
 simp only [Bool.and_eq_true] at h0 h1 h2 h3 h4 h5 h6 h7 h8 h9 h10 h11 h12 h13 h14 h15
 simp only [joinedFacts, Bool.and_eq_true]
 refine ⟨⟨⟨⟨?_, h14.1⟩, h14.2⟩, h15.1⟩, h15.2⟩
 simp only [h0, h1, h2, h3, h4, h5, h6, h7, h8, h9, h10, h11, h12, h13, and_self]
theorem fact0 : (Rows.fnRunsRow.wf (OpenSpec.ofChange Rows.fnRunsSpec)) = true := by kernel_rfl
theorem fact1 : (laidOutB Tryz.checked.prog && mapsRowed Tryz.checked.prog) = true := by kernel_rfl
theorem fact2 : (Tryz.f3.params.all (Tryz.checked.prog.readableRec ·) && namedTie Tryz.checked.prog Rows.fnRunsRow.named Rows.fnRunsSpec.vars) = true := by kernel_rfl
theorem fact3 : ((Rows.fnRunsRow.stops == []) && (Tryz.checked.prog.stops == []) && (Rows.fnRunsRow.knobs == []) && (Tryz.checked.prog.stopKnobs == [])) = true := by kernel_rfl
theorem fact4 : ((Rows.fnRunsRow.inPlace == Tryz.checked.prog.inPlace 3)) = true := by kernel_rfl
theorem fact5 : ((Rows.fnRunsRow.unfollowed == Tryz.checked.prog.unfollowed 3)) = true := by kernel_rfl
theorem fact6 : ((Rows.fnRunsRow.recurses == Tryz.checked.prog.recurses 3)) = true := by kernel_rfl
theorem fact7 : ((Rows.fnRunsRow.named == Tryz.checked.prog.varsNamed 3)) = true := by kernel_rfl
theorem fact8 : ((Rows.fnRunsRow.maps == (Tryz.f3.params.toList ++ Rows.fnRunsSpec.plain.varTypes Tryz.checked.prog).any (Tryz.checked.prog.mapsRec ·)) && (Rows.fnRunsRow.ifaces == (Tryz.f3.params.toList ++ Rows.fnRunsSpec.plain.varTypes Tryz.checked.prog).any (Tryz.checked.prog.ifacesRec ·)) && (Rows.fnRunsRow.mapsOut == Tryz.checked.prog.mapsAmong Tryz.f3.resultTypes.toList)) = true := by kernel_rfl
theorem fact9 : ((Rows.fnRunsRow.loops == (Tryz.f3.params.toList ++ Rows.fnRunsSpec.plain.varTypes Tryz.checked.prog).any (Tryz.checked.prog.loopsFrom ·)) && (Rows.fnRunsRow.wideKeys == (Tryz.f3.params.toList ++ Rows.fnRunsSpec.plain.varTypes Tryz.checked.prog ++ Tryz.f3.resultTypes.toList).any (Tryz.checked.prog.wideKeysFrom ·))) = true := by kernel_rfl
theorem fact10 : (Rows.fnRunsSpec.vars.all (Tryz.checked.prog.varReadable ·) && Tryz.f3.resultTypes.all (fun t => Tryz.checked.prog.readableRec t && decide (t < Tryz.checked.prog.types.size)) && (Rows.fnRunsRow.ifacesOut == Tryz.f3.resultTypes.toList.any (Tryz.checked.prog.ifacesRec ·)) && (Rows.fnRunsRow.loopsOut == Tryz.f3.resultTypes.toList.any (Tryz.checked.prog.loopsFrom ·))) = true := by kernel_rfl
theorem fact11 : ((Rows.fnRunsRow.plainKeys == Tryz.checked.prog.plainKeys)) = true := by kernel_rfl
theorem fact12 : (Rows.fnRunsRow.shortTexts.isNone && Tryz.checked.prog.stopsHeard && Tryz.checked.prog.mayEnter) = true := by kernel_rfl
theorem fact13 : ((Rows.fnRunsRow.lifted == Tryz.checked.prog.liftsFinal) && (Tryz.checked.prog.make == some Rows.fnRunsRow.make)) = true := by kernel_rfl
theorem fact14 : ((Rows.fnRunsRow.kinds == (if Rows.fnRunsRow.domain.isEmpty then [] else Tryz.f3.params.toList.map fun t => match Tryz.checked.prog.underlying t with | some (.int k) => some k | _ => none)) && (Rows.fnRunsRow.pinned == Rows.fnRunsRow.pinnedBy)) = true := by kernel_rfl
theorem fact15 : ((Rows.fnRunsRow.veiled == (Tryz.f3.params.toList ++ Rows.fnRunsSpec.plain.varTypes Tryz.checked.prog ++ Tryz.f3.resultTypes.toList).any (Tryz.checked.prog.veiledRec ·)) && Rows.fnRunsRow.veiledFits Tryz.checked.prog Tryz.f3.params.toList (Tryz.f3.params.toList ++ Rows.fnRunsSpec.plain.varTypes Tryz.checked.prog ++ Tryz.f3.resultTypes.toList)) = true := by kernel_rfl
theorem facts : joinedFacts Tryz.checked.prog 3 Tryz.f3 Rows.fnRunsSpec Rows.fnRunsRow = true := q0y _ _ _ _ _ fact0 fact1 fact2 fact3 fact4 fact5 fact6 fact7 fact8 fact9 fact10 fact11 fact12 fact13 fact14 fact15
end Go.Proofs.YtbdadoeankjnkaaGreatDoor
