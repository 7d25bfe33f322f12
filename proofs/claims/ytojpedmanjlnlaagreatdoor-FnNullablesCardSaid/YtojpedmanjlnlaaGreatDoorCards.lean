/-
  DERIVED. GIVEN WITH THE SEED: THE CARDS: each row of YtojpedmanjlnlaaGreatDoorRows.lean that lists a variable, with what it lists TIED to the program's text (the seventh form; the later family's looks); each row that meets fmt, with fmt's text TOLD by the authors' own Lean function (tested against real Go, not proved from fmt's source: count such statements apart). THE CARD IS WHAT COUNTS. Prove the row's statement (the work); the ties are given (YtojpedmanjlnlaaGreatDoorTie.lean); close each card by the builder's one call (the guide's Derived/Test/ToyasCard.lean, 'card_holds'). Laid BY PROGRAM, IN A SANDBOX (cutbox-door.mjs). By AI agents, Wed Nov 11 2026. No macro, syntax, notation, axiom, sorry.
-/
import Derived.Test.YtojpedmanjlnlaaGreatDoorRows
import GoSem.ClaimSeven
namespace Go.Proofs.YtojpedmanjlnlaaGreatDoor
namespace Rows

/-- THE TIED CARD OF 'laws.FnNullables'. -/
def fnNullablesCard : Claim7 := { stood := { row := fnNullablesRow, standIns := [], harness := (true, "de45f99c41ea43e33ee22c89b099b6fdf93b7c2326c8fc6a677a8a23e4f5e47e"), looks := false }, kinds := [], alts := [], laidByText := true, laidKinds := [.data, .data, .data], laidTests := true, laidLooks := .later }
def FnNullablesCardSaid : Prop := Claim7.holds Tryz.pinned (.plain (OpenSpec.ofChange fnNullablesSpec)) fnNullablesCard

/-- THE SECOND FORM's CARD OF 'laws.FnNullables'. -/
def fnNullablesUptoCard : Claim7 := { stood := { row := fnNullablesUptoRow, standIns := [], harness := (true, "de45f99c41ea43e33ee22c89b099b6fdf93b7c2326c8fc6a677a8a23e4f5e47e"), looks := false }, kinds := [], alts := [], laidByText := true, laidKinds := [.data, .data, .data], laidTests := true, laidLooks := .later }
def FnNullablesUptoCardSaid : Prop := Claim7.holds Tryz.pinned (.plain (OpenSpec.upto fnNullablesSpec)) fnNullablesUptoCard
end Rows
end Go.Proofs.YtojpedmanjlnlaaGreatDoor
