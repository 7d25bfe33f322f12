/-
  DERIVED. GIVEN WITH THE SEED: THE CARDS: each row of YthfjcnjdcljhmaaGreatDoorRows.lean that lists a variable, with what it lists TIED to the program's text (the seventh form; the later family's looks); each row that meets fmt, with fmt's text TOLD by the authors' own Lean function (tested against real Go, not proved from fmt's source: count such statements apart). THE CARD IS WHAT COUNTS. Prove the row's statement (the work); the ties are given (YthfjcnjdcljhmaaGreatDoorTie.lean); close each card by the builder's one call (the guide's Derived/Test/ToyasCard.lean, 'card_holds'). Laid BY PROGRAM, IN A SANDBOX (cutbox-door.mjs). By AI agents, Wed Nov 11 2026. No macro, syntax, notation, axiom, sorry.
-/
import Derived.Test.YthfjcnjdcljhmaaGreatDoorRows
import GoSem.ClaimSeven
namespace Go.Proofs.YthfjcnjdcljhmaaGreatDoor
namespace Rows

/-- THE TIED CARD OF 'laws.FnGroups'. -/
def fnGroupsCard : Claim7 := { stood := { row := fnGroupsRow, standIns := [], harness := (true, "15bfd0509b554fe199753be216872978a68918e8d5323865b366ab2cf4e13584"), looks := false }, kinds := [], alts := [], laidByText := true, laidKinds := [.data, .data, .data], laidTests := true, laidLooks := .later }
def FnGroupsCardSaid : Prop := Claim7.holds Tryz.pinned (.plain (OpenSpec.ofChange fnGroupsSpec)) fnGroupsCard

/-- THE TIED CARD OF 'laws.FnEqualMany'. -/
def fnEqualManyCard : Claim7 := { stood := { row := fnEqualManyRow, standIns := [], harness := (true, "15bfd0509b554fe199753be216872978a68918e8d5323865b366ab2cf4e13584"), looks := false }, kinds := [], alts := [], laidByText := true, laidKinds := [.data, .data, .data], laidTests := true, laidLooks := .later }
def FnEqualManyCardSaid : Prop := Claim7.holds Tryz.pinned (.plain (OpenSpec.ofChange fnEqualManySpec)) fnEqualManyCard

/-- THE TIED CARD OF 'laws.FnHere'. -/
def fnHereCard : Claim7 := { stood := { row := fnHereRow, standIns := [], harness := (true, "15bfd0509b554fe199753be216872978a68918e8d5323865b366ab2cf4e13584"), looks := false }, kinds := [], alts := [], laidByText := true, laidKinds := [.data, .data, .data], laidTests := true, laidLooks := .later }
def FnHereCardSaid : Prop := Claim7.holds Tryz.pinned (.plain (OpenSpec.ofChange fnHereSpec)) fnHereCard

/-- THE TIED CARD OF 'laws.FnTwoNumbers'. -/
def fnTwoNumbersCard : Claim7 := { stood := { row := fnTwoNumbersRow, standIns := [], harness := (true, "15bfd0509b554fe199753be216872978a68918e8d5323865b366ab2cf4e13584"), looks := false }, kinds := [], alts := [], laidByText := true, laidKinds := [.data, .data, .data], laidTests := true, laidLooks := .later }
def FnTwoNumbersCardSaid : Prop := Claim7.holds Tryz.pinned (.plain (OpenSpec.ofChange fnTwoNumbersSpec)) fnTwoNumbersCard

/-- THE TIED CARD OF 'laws.FnLeft'. -/
def fnLeftCard : Claim7 := { stood := { row := fnLeftRow, standIns := [], harness := (true, "15bfd0509b554fe199753be216872978a68918e8d5323865b366ab2cf4e13584"), looks := false }, kinds := [], alts := [], laidByText := true, laidKinds := [.data, .data, .data], laidTests := true, laidLooks := .later }
def FnLeftCardSaid : Prop := Claim7.holds Tryz.pinned (.plain (OpenSpec.ofChange fnLeftSpec)) fnLeftCard

/-- THE TIED CARD OF 'laws.FnLongest'. -/
def fnLongestCard : Claim7 := { stood := { row := fnLongestRow, standIns := [], harness := (true, "15bfd0509b554fe199753be216872978a68918e8d5323865b366ab2cf4e13584"), looks := false }, kinds := [], alts := [], laidByText := true, laidKinds := [.data, .data, .data], laidTests := true, laidLooks := .later }
def FnLongestCardSaid : Prop := Claim7.holds Tryz.pinned (.plain (OpenSpec.ofChange fnLongestSpec)) fnLongestCard

/-- THE TIED CARD OF 'laws.FnNested'. -/
def fnNestedCard : Claim7 := { stood := { row := fnNestedRow, standIns := [], harness := (true, "15bfd0509b554fe199753be216872978a68918e8d5323865b366ab2cf4e13584"), looks := false }, kinds := [], alts := [], laidByText := true, laidKinds := [.data, .data, .data], laidTests := true, laidLooks := .later }
def FnNestedCardSaid : Prop := Claim7.holds Tryz.pinned (.plain (OpenSpec.ofChange fnNestedSpec)) fnNestedCard

/-- THE TIED CARD OF 'laws.FnTwoTrees'. -/
def fnTwoTreesCard : Claim7 := { stood := { row := fnTwoTreesRow, standIns := [], harness := (true, "15bfd0509b554fe199753be216872978a68918e8d5323865b366ab2cf4e13584"), looks := false }, kinds := [], alts := [], laidByText := true, laidKinds := [.data, .data, .data], laidTests := true, laidLooks := .later }
def FnTwoTreesCardSaid : Prop := Claim7.holds Tryz.pinned (.plain (OpenSpec.ofChange fnTwoTreesSpec)) fnTwoTreesCard

/-- THE TIED CARD OF 'laws.FnTwoEach'. -/
def fnTwoEachCard : Claim7 := { stood := { row := fnTwoEachRow, standIns := [], harness := (true, "15bfd0509b554fe199753be216872978a68918e8d5323865b366ab2cf4e13584"), looks := false }, kinds := [], alts := [], laidByText := true, laidKinds := [.data, .data, .data], laidTests := true, laidLooks := .later }
def FnTwoEachCardSaid : Prop := Claim7.holds Tryz.pinned (.plain (OpenSpec.ofChange fnTwoEachSpec)) fnTwoEachCard

/-- THE TIED CARD OF 'laws.FnLengths'. -/
def fnLengthsCard : Claim7 := { stood := { row := fnLengthsRow, standIns := [], harness := (true, "15bfd0509b554fe199753be216872978a68918e8d5323865b366ab2cf4e13584"), looks := false }, kinds := [], alts := [], laidByText := true, laidKinds := [.data, .data, .data], laidTests := true, laidLooks := .later }
def FnLengthsCardSaid : Prop := Claim7.holds Tryz.pinned (.plain (OpenSpec.ofChange fnLengthsSpec)) fnLengthsCard

/-- THE TIED CARD OF 'laws.FnEither'. -/
def fnEitherCard : Claim7 := { stood := { row := fnEitherRow, standIns := [], harness := (true, "15bfd0509b554fe199753be216872978a68918e8d5323865b366ab2cf4e13584"), looks := false }, kinds := [], alts := [], laidByText := true, laidKinds := [.data, .data, .data], laidTests := true, laidLooks := .later }
def FnEitherCardSaid : Prop := Claim7.holds Tryz.pinned (.plain (OpenSpec.ofChange fnEitherSpec)) fnEitherCard

/-- THE TIED CARD OF 'laws.FnStars'. -/
def fnStarsCard : Claim7 := { stood := { row := fnStarsRow, standIns := [], harness := (true, "15bfd0509b554fe199753be216872978a68918e8d5323865b366ab2cf4e13584"), looks := false }, kinds := [], alts := [], laidByText := true, laidKinds := [.data, .data, .data], laidTests := true, laidLooks := .later }
def FnStarsCardSaid : Prop := Claim7.holds Tryz.pinned (.plain (OpenSpec.ofChange fnStarsSpec)) fnStarsCard

/-- THE SECOND FORM's CARD OF 'laws.FnGroups'. -/
def fnGroupsUptoCard : Claim7 := { stood := { row := fnGroupsUptoRow, standIns := [], harness := (true, "15bfd0509b554fe199753be216872978a68918e8d5323865b366ab2cf4e13584"), looks := false }, kinds := [], alts := [], laidByText := true, laidKinds := [.data, .data, .data], laidTests := true, laidLooks := .later }
def FnGroupsUptoCardSaid : Prop := Claim7.holds Tryz.pinned (.plain (OpenSpec.upto fnGroupsSpec)) fnGroupsUptoCard

/-- THE SECOND FORM's CARD OF 'laws.FnEqualMany'. -/
def fnEqualManyUptoCard : Claim7 := { stood := { row := fnEqualManyUptoRow, standIns := [], harness := (true, "15bfd0509b554fe199753be216872978a68918e8d5323865b366ab2cf4e13584"), looks := false }, kinds := [], alts := [], laidByText := true, laidKinds := [.data, .data, .data], laidTests := true, laidLooks := .later }
def FnEqualManyUptoCardSaid : Prop := Claim7.holds Tryz.pinned (.plain (OpenSpec.upto fnEqualManySpec)) fnEqualManyUptoCard

/-- THE SECOND FORM's CARD OF 'laws.FnHere'. -/
def fnHereUptoCard : Claim7 := { stood := { row := fnHereUptoRow, standIns := [], harness := (true, "15bfd0509b554fe199753be216872978a68918e8d5323865b366ab2cf4e13584"), looks := false }, kinds := [], alts := [], laidByText := true, laidKinds := [.data, .data, .data], laidTests := true, laidLooks := .later }
def FnHereUptoCardSaid : Prop := Claim7.holds Tryz.pinned (.plain (OpenSpec.upto fnHereSpec)) fnHereUptoCard

/-- THE SECOND FORM's CARD OF 'laws.FnTwoNumbers'. -/
def fnTwoNumbersUptoCard : Claim7 := { stood := { row := fnTwoNumbersUptoRow, standIns := [], harness := (true, "15bfd0509b554fe199753be216872978a68918e8d5323865b366ab2cf4e13584"), looks := false }, kinds := [], alts := [], laidByText := true, laidKinds := [.data, .data, .data], laidTests := true, laidLooks := .later }
def FnTwoNumbersUptoCardSaid : Prop := Claim7.holds Tryz.pinned (.plain (OpenSpec.upto fnTwoNumbersSpec)) fnTwoNumbersUptoCard

/-- THE SECOND FORM's CARD OF 'laws.FnLeft'. -/
def fnLeftUptoCard : Claim7 := { stood := { row := fnLeftUptoRow, standIns := [], harness := (true, "15bfd0509b554fe199753be216872978a68918e8d5323865b366ab2cf4e13584"), looks := false }, kinds := [], alts := [], laidByText := true, laidKinds := [.data, .data, .data], laidTests := true, laidLooks := .later }
def FnLeftUptoCardSaid : Prop := Claim7.holds Tryz.pinned (.plain (OpenSpec.upto fnLeftSpec)) fnLeftUptoCard

/-- THE SECOND FORM's CARD OF 'laws.FnLongest'. -/
def fnLongestUptoCard : Claim7 := { stood := { row := fnLongestUptoRow, standIns := [], harness := (true, "15bfd0509b554fe199753be216872978a68918e8d5323865b366ab2cf4e13584"), looks := false }, kinds := [], alts := [], laidByText := true, laidKinds := [.data, .data, .data], laidTests := true, laidLooks := .later }
def FnLongestUptoCardSaid : Prop := Claim7.holds Tryz.pinned (.plain (OpenSpec.upto fnLongestSpec)) fnLongestUptoCard

/-- THE SECOND FORM's CARD OF 'laws.FnNested'. -/
def fnNestedUptoCard : Claim7 := { stood := { row := fnNestedUptoRow, standIns := [], harness := (true, "15bfd0509b554fe199753be216872978a68918e8d5323865b366ab2cf4e13584"), looks := false }, kinds := [], alts := [], laidByText := true, laidKinds := [.data, .data, .data], laidTests := true, laidLooks := .later }
def FnNestedUptoCardSaid : Prop := Claim7.holds Tryz.pinned (.plain (OpenSpec.upto fnNestedSpec)) fnNestedUptoCard

/-- THE SECOND FORM's CARD OF 'laws.FnTwoTrees'. -/
def fnTwoTreesUptoCard : Claim7 := { stood := { row := fnTwoTreesUptoRow, standIns := [], harness := (true, "15bfd0509b554fe199753be216872978a68918e8d5323865b366ab2cf4e13584"), looks := false }, kinds := [], alts := [], laidByText := true, laidKinds := [.data, .data, .data], laidTests := true, laidLooks := .later }
def FnTwoTreesUptoCardSaid : Prop := Claim7.holds Tryz.pinned (.plain (OpenSpec.upto fnTwoTreesSpec)) fnTwoTreesUptoCard

/-- THE SECOND FORM's CARD OF 'laws.FnTwoEach'. -/
def fnTwoEachUptoCard : Claim7 := { stood := { row := fnTwoEachUptoRow, standIns := [], harness := (true, "15bfd0509b554fe199753be216872978a68918e8d5323865b366ab2cf4e13584"), looks := false }, kinds := [], alts := [], laidByText := true, laidKinds := [.data, .data, .data], laidTests := true, laidLooks := .later }
def FnTwoEachUptoCardSaid : Prop := Claim7.holds Tryz.pinned (.plain (OpenSpec.upto fnTwoEachSpec)) fnTwoEachUptoCard

/-- THE SECOND FORM's CARD OF 'laws.FnLengths'. -/
def fnLengthsUptoCard : Claim7 := { stood := { row := fnLengthsUptoRow, standIns := [], harness := (true, "15bfd0509b554fe199753be216872978a68918e8d5323865b366ab2cf4e13584"), looks := false }, kinds := [], alts := [], laidByText := true, laidKinds := [.data, .data, .data], laidTests := true, laidLooks := .later }
def FnLengthsUptoCardSaid : Prop := Claim7.holds Tryz.pinned (.plain (OpenSpec.upto fnLengthsSpec)) fnLengthsUptoCard

/-- THE SECOND FORM's CARD OF 'laws.FnEither'. -/
def fnEitherUptoCard : Claim7 := { stood := { row := fnEitherUptoRow, standIns := [], harness := (true, "15bfd0509b554fe199753be216872978a68918e8d5323865b366ab2cf4e13584"), looks := false }, kinds := [], alts := [], laidByText := true, laidKinds := [.data, .data, .data], laidTests := true, laidLooks := .later }
def FnEitherUptoCardSaid : Prop := Claim7.holds Tryz.pinned (.plain (OpenSpec.upto fnEitherSpec)) fnEitherUptoCard

/-- THE SECOND FORM's CARD OF 'laws.FnStars'. -/
def fnStarsUptoCard : Claim7 := { stood := { row := fnStarsUptoRow, standIns := [], harness := (true, "15bfd0509b554fe199753be216872978a68918e8d5323865b366ab2cf4e13584"), looks := false }, kinds := [], alts := [], laidByText := true, laidKinds := [.data, .data, .data], laidTests := true, laidLooks := .later }
def FnStarsUptoCardSaid : Prop := Claim7.holds Tryz.pinned (.plain (OpenSpec.upto fnStarsSpec)) fnStarsUptoCard
end Rows
end Go.Proofs.YthfjcnjdcljhmaaGreatDoor
