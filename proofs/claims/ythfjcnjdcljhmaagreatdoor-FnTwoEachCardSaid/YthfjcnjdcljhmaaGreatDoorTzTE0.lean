/- A part of the proof. No statement of the claim is in it. -/
import Derived.Test.YthfjcnjdcljhmaaGreatDoorTzLaw
open Go Go.V Go.Proofs
namespace X
set_option maxRecDepth 100000
set_option maxHeartbeats 4000000
set_option linter.unusedSimpArgs false
set_option linter.unusedVariables false
namespace TzTE
def dropTo (id : Nat) : Code → Code
  | .seq (.region i ops d) b => match Nat.beq i id with
    | true => .seq (.region i ops d) b
    | false => dropTo id b
  | .seq _ b => dropTo id b
  | c => c
noncomputable def restC : Code := dropTo 4 (Tryz.f11.body.getD .skip)
abbrev env (a b c d e f g : V) (n : Int) : List (Nat × V) := [(0, a), (2, .t (B false)), (3, .t (I n)), (10, b), (11, c), (12, d), (13, e), (14, f), (15, g), (16, .t (I n))]
end TzTE
end X
