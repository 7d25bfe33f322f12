/-
  DERIVED. GIVEN WITH THE SEED: THE CARDS: each row of YtognnaobhjaoeaaGreatDoorRows.lean that lists a variable, with what it lists TIED to the program's text (the seventh form; the later family's looks); each row that meets fmt, with fmt's text TOLD by the authors' own Lean function (tested against real Go, not proved from fmt's source: count such statements apart). THE CARD IS WHAT COUNTS. Prove the row's statement (the work); the ties are given (YtognnaobhjaoeaaGreatDoorTie.lean); close each card by the builder's one call (the guide's Derived/Test/ToyasCard.lean, 'card_holds'). Laid BY PROGRAM, IN A SANDBOX (cutbox-door.mjs). By AI agents, Wed Nov 11 2026. No macro, syntax, notation, axiom, sorry.
-/
import Derived.Test.YtognnaobhjaoeaaGreatDoorRows
import GoSem.ClaimSeven
namespace Go.Proofs.YtognnaobhjaoeaaGreatDoor
namespace Rows

/-- THE TIED CARD OF 'laws.FnEither'. -/
def fnEitherCard : Claim7 := { stood := { row := fnEitherRow, standIns := [], harness := (true, "a26a14eda782613efd71f8c23d4fd45ed492d03b1bf9e76f955828e73ae9cb6b"), looks := false }, kinds := [], alts := [], laidByText := true, laidKinds := [.data, .data, .data], laidTests := true, laidLooks := .later }
def FnEitherCardSaid : Prop := Claim7.holds Tryz.pinned (.plain (OpenSpec.ofChange fnEitherSpec)) fnEitherCard

/-- THE TIED CARD OF 'laws.FnBalanced'. -/
def fnBalancedCard : Claim7 := { stood := { row := fnBalancedRow, standIns := [], harness := (true, "a26a14eda782613efd71f8c23d4fd45ed492d03b1bf9e76f955828e73ae9cb6b"), looks := false }, kinds := [], alts := [], laidByText := true, laidKinds := [.data, .data, .data], laidTests := true, laidLooks := .later }
def FnBalancedCardSaid : Prop := Claim7.holds Tryz.pinned (.plain (OpenSpec.ofChange fnBalancedSpec)) fnBalancedCard

/-- THE TIED CARD OF 'laws.FnStars'. -/
def fnStarsCard : Claim7 := { stood := { row := fnStarsRow, standIns := [], harness := (true, "a26a14eda782613efd71f8c23d4fd45ed492d03b1bf9e76f955828e73ae9cb6b"), looks := false }, kinds := [], alts := [], laidByText := true, laidKinds := [.data, .data, .data], laidTests := true, laidLooks := .later }
def FnStarsCardSaid : Prop := Claim7.holds Tryz.pinned (.plain (OpenSpec.ofChange fnStarsSpec)) fnStarsCard

/-- THE SECOND FORM's CARD OF 'laws.FnEither'. -/
def fnEitherUptoCard : Claim7 := { stood := { row := fnEitherUptoRow, standIns := [], harness := (true, "a26a14eda782613efd71f8c23d4fd45ed492d03b1bf9e76f955828e73ae9cb6b"), looks := false }, kinds := [], alts := [], laidByText := true, laidKinds := [.data, .data, .data], laidTests := true, laidLooks := .later }
def FnEitherUptoCardSaid : Prop := Claim7.holds Tryz.pinned (.plain (OpenSpec.upto fnEitherSpec)) fnEitherUptoCard

/-- THE SECOND FORM's CARD OF 'laws.FnBalanced'. -/
def fnBalancedUptoCard : Claim7 := { stood := { row := fnBalancedUptoRow, standIns := [], harness := (true, "a26a14eda782613efd71f8c23d4fd45ed492d03b1bf9e76f955828e73ae9cb6b"), looks := false }, kinds := [], alts := [], laidByText := true, laidKinds := [.data, .data, .data], laidTests := true, laidLooks := .later }
def FnBalancedUptoCardSaid : Prop := Claim7.holds Tryz.pinned (.plain (OpenSpec.upto fnBalancedSpec)) fnBalancedUptoCard

/-- THE SECOND FORM's CARD OF 'laws.FnStars'. -/
def fnStarsUptoCard : Claim7 := { stood := { row := fnStarsUptoRow, standIns := [], harness := (true, "a26a14eda782613efd71f8c23d4fd45ed492d03b1bf9e76f955828e73ae9cb6b"), looks := false }, kinds := [], alts := [], laidByText := true, laidKinds := [.data, .data, .data], laidTests := true, laidLooks := .later }
def FnStarsUptoCardSaid : Prop := Claim7.holds Tryz.pinned (.plain (OpenSpec.upto fnStarsSpec)) fnStarsUptoCard
end Rows
end Go.Proofs.YtognnaobhjaoeaaGreatDoor
