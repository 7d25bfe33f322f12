/- A part of the proof. No statement of the claim is in it. -/
import Derived.Test.YthfjcnjdcljhmaaGreatDoorTzLaw
open Go Go.V Go.Proofs
namespace X
set_option maxRecDepth 100000
set_option maxHeartbeats 4000000
set_option linter.unusedSimpArgs false
set_option linter.unusedVariables false
def dropTo (id : Nat) : Code → Code
  | .seq (.region i ops d) b => match Nat.beq i id with
    | true => .seq (.region i ops d) b
    | false => dropTo id b
  | .seq _ b => dropTo id b
  | c => c
/-- The rest of FnLeft's body, from the grammars on. -/
noncomputable def leftC : Code := dropTo 4 (Tryz.f7.body.getD .skip)
abbrev leftEnv (a b c d e f g : V) (n : Int) : List (Nat × V) := [(0, a), (2, .t (B false)), (3, .t (I n)), (9, b), (10, c), (11, d), (12, e), (13, f), (14, g), (15, .t (I n))]
end X
