/-
  No cell of these rows narrows 'for every input' (looked for: loops, veiled, ifaces, maps, wideKeys, modest, calm, conditions, laid).
  DERIVED. THE GIVEN ROWS OF THIS SEAT. 3 by the template 'for every input the law returns true; each argument reads behind the call as it read before'; 0 by the template 'total and deterministic' (their statements: YthpjheboegobkaaTotals.lean).
  GIVEN WITH THE SEED: the statements are not yours to turn. If you find one false, say at which input.
  Laid BY PROGRAM, IN A SANDBOX (cutbox-rows.mjs): the forced cells as the released guide's own fill.sh prints them over the translation 179a39efdd49bb40… (all of the seat's roots in one cut). By AI agents, Wed Nov 11 2026. No macro, syntax, notation, axiom, sorry.
-/
import Derived.Test.YthpjheboegobkaaChecked
import GoSem.Claim
import GoSem.ClaimJoined
import GoSem.ClaimMapViews
import Derived.JoinedTies
import Derived.KernelRfl
namespace Go.Proofs.Ythpjheboegobkaa
/- THE CELL 'sum', in the pinned program and in every row, IS THE sha256 OF THE DUMP (.gsa) THAT YthpjheboegobkaaProg.lean LOADS. Nothing in Lean hashes anything: it is a label: what it is worth is what the hold of that sum in a sandbox is worth. -/
noncomputable def Try.pinned : Pinned := { name := "ythpjheboegobkaa", sum := "179a39efdd49bb40d61bea0694d504c6ef8577b424ee16ef67411cbef6f4d493", checked := Try.checked }
namespace Rows
def none {H : Type} : Left H := { results := [], args := [] }

/-- 'laws.FnExactReplaced': WHATEVER THE INPUT: true; the input reads as it did. -/
def fnExactReplacedSpec : ChangeSpec := { name := "fnExactReplaced", fn := fun _ => fun
  | [d1, d2, d3] => { results := [.lit (.bool true)], args := [d1, d2, d3] }
  | _ => none }
def fnExactReplacedRow : OpenClaim := { program := "ythpjheboegobkaa", sum := "179a39efdd49bb40d61bea0694d504c6ef8577b424ee16ef67411cbef6f4d493", func := "loop.example/g00243/laws.FnExactReplaced", spec := "fnExactReplaced", apart := false }
def FnExactReplacedSaid : Prop := fnExactReplacedRow.holds Try.pinned (OpenSpec.ofChange fnExactReplacedSpec)

/-- ITS FALSE NEIGHBOUR: 'it returns false'. Refute it at one input. -/
def fnExactReplacedWrong : ChangeSpec := { name := "fnExactReplaced", fn := fun _ => fun
  | [d1, d2, d3] => { results := [.lit (.bool false)], args := [d1, d2, d3] }
  | _ => none }
def FnExactReplacedWrongFalsely : Prop := fnExactReplacedRow.holds Try.pinned (OpenSpec.ofChange fnExactReplacedWrong)

/-- 'laws.FnExactSubTree': WHATEVER THE INPUT: true; the input reads as it did. -/
def fnExactSubTreeSpec : ChangeSpec := { name := "fnExactSubTree", fn := fun _ => fun
  | [d1, d2] => { results := [.lit (.bool true)], args := [d1, d2] }
  | _ => none }
def fnExactSubTreeRow : OpenClaim := { program := "ythpjheboegobkaa", sum := "179a39efdd49bb40d61bea0694d504c6ef8577b424ee16ef67411cbef6f4d493", func := "loop.example/g00243/laws.FnExactSubTree", spec := "fnExactSubTree", recurses := true, apart := false }
def FnExactSubTreeSaid : Prop := fnExactSubTreeRow.holds Try.pinned (OpenSpec.ofChange fnExactSubTreeSpec)

/-- ITS FALSE NEIGHBOUR: 'it returns false'. Refute it at one input. -/
def fnExactSubTreeWrong : ChangeSpec := { name := "fnExactSubTree", fn := fun _ => fun
  | [d1, d2] => { results := [.lit (.bool false)], args := [d1, d2] }
  | _ => none }
def FnExactSubTreeWrongFalsely : Prop := fnExactSubTreeRow.holds Try.pinned (OpenSpec.ofChange fnExactSubTreeWrong)

/-- 'laws.FnExactSwapped': WHATEVER THE INPUT: true; the input reads as it did. -/
def fnExactSwappedSpec : ChangeSpec := { name := "fnExactSwapped", fn := fun _ => fun
  | [d1, d2, d3] => { results := [.lit (.bool true)], args := [d1, d2, d3] }
  | _ => none }
def fnExactSwappedRow : OpenClaim := { program := "ythpjheboegobkaa", sum := "179a39efdd49bb40d61bea0694d504c6ef8577b424ee16ef67411cbef6f4d493", func := "loop.example/g00243/laws.FnExactSwapped", spec := "fnExactSwapped", recurses := true, apart := false }
def FnExactSwappedSaid : Prop := fnExactSwappedRow.holds Try.pinned (OpenSpec.ofChange fnExactSwappedSpec)

/-- ITS FALSE NEIGHBOUR: 'it returns false'. Refute it at one input. -/
def fnExactSwappedWrong : ChangeSpec := { name := "fnExactSwapped", fn := fun _ => fun
  | [d1, d2, d3] => { results := [.lit (.bool false)], args := [d1, d2, d3] }
  | _ => none }
def FnExactSwappedWrongFalsely : Prop := fnExactSwappedRow.holds Try.pinned (OpenSpec.ofChange fnExactSwappedWrong)

/- THE SECOND FORM. 'bulk': how many values and letters a reading holds, each counted each time it is reached (what is shared counts as often as it is met; a slice's spare places count too). A statement '..UptoSaid' is the law's where the arguments, and the package variables that the reading takes, are together of bulk at most 1048576: NARROWER than '..Said'. Prove '..Said' where nothing that the law and all that it calls make is longer than what came in: it says more and counts as full. Else prove '..UptoSaid'. A law counts once. -/
mutual
def uptoBulk {H : Type} : DataW H → Nat
  | .lit (.string bytes) => bytes.length + 1
  | .lit _ => 1
  | .nil => 1
  | .ptr d => uptoBulk d + 1
  | .slice elems spare => uptoBulkAll elems + uptoBulkAll spare + 1
  | .agg parts => uptoBulkAll parts + 1
  | .iface _ d => uptoBulk d + 1
  | .map entries => uptoBulkEntries entries + 1
  | .held _ => 1
def uptoBulkAll {H : Type} : List (DataW H) → Nat
  | [] => 0
  | d :: r => uptoBulk d + uptoBulkAll r
def uptoBulkEntries {H : Type} : List (Lit × DataW H) → Nat
  | [] => 0
  | x :: r => uptoBulkEntry x + uptoBulkEntries r
def uptoBulkEntry {H : Type} : Lit × DataW H → Nat
  | (.string bytes, d) => bytes.length + uptoBulk d + 1
  | (_, d) => uptoBulk d + 1
 end
def uptoSmall : (H : Type) → List (DataW H) → Bool := fun _ ds => decide (uptoBulkAll ds ≤ 1048576)
def OpenSpec.upto (s : _root_.Go.ChangeSpec) : _root_.Go.OpenSpec := { _root_.Go.OpenSpec.ofChange s with cond := some uptoSmall }

/-- 'laws.FnExactReplaced', WHERE WHAT IT READS IS OF BULK AT MOST 1048576: true; the input reads as it did. -/
def fnExactReplacedUptoRow : OpenClaim := { program := "ythpjheboegobkaa", sum := "179a39efdd49bb40d61bea0694d504c6ef8577b424ee16ef67411cbef6f4d493", func := "loop.example/g00243/laws.FnExactReplaced", spec := "fnExactReplaced", apart := false, narrowed := true }
def FnExactReplacedUptoSaid : Prop := fnExactReplacedUptoRow.holds Try.pinned (OpenSpec.upto fnExactReplacedSpec)

/-- 'laws.FnExactSubTree', WHERE WHAT IT READS IS OF BULK AT MOST 1048576: true; the input reads as it did. -/
def fnExactSubTreeUptoRow : OpenClaim := { program := "ythpjheboegobkaa", sum := "179a39efdd49bb40d61bea0694d504c6ef8577b424ee16ef67411cbef6f4d493", func := "loop.example/g00243/laws.FnExactSubTree", spec := "fnExactSubTree", recurses := true, apart := false, narrowed := true }
def FnExactSubTreeUptoSaid : Prop := fnExactSubTreeUptoRow.holds Try.pinned (OpenSpec.upto fnExactSubTreeSpec)

/-- 'laws.FnExactSwapped', WHERE WHAT IT READS IS OF BULK AT MOST 1048576: true; the input reads as it did. -/
def fnExactSwappedUptoRow : OpenClaim := { program := "ythpjheboegobkaa", sum := "179a39efdd49bb40d61bea0694d504c6ef8577b424ee16ef67411cbef6f4d493", func := "loop.example/g00243/laws.FnExactSwapped", spec := "fnExactSwapped", recurses := true, apart := false, narrowed := true }
def FnExactSwappedUptoSaid : Prop := fnExactSwappedUptoRow.holds Try.pinned (OpenSpec.upto fnExactSwappedSpec)

end Rows
end Go.Proofs.Ythpjheboegobkaa
