/- A part of the proof. No statement of the claim is in it. -/
import Derived.Test.YthfjcnjdcljhmaaGreatDoorTzLaw
open Go Go.V Go.Proofs
namespace X
set_option maxRecDepth 100000
set_option maxHeartbeats 4000000
set_option linter.unusedSimpArgs false
set_option linter.unusedVariables false
namespace TzTT
def dropTo (id : Nat) : Code → Code
  | .seq (.region i ops d) b => match Nat.beq i id with
    | true => .seq (.region i ops d) b
    | false => dropTo id b
  | .seq _ b => dropTo id b
  | c => c
noncomputable def restC : Code := dropTo 4 (Tryz.f10.body.getD .skip)
abbrev env (a b c d e f g : V) (n m : Int) : List (Nat × V) := [(0, a), (2, .t (B false)), (3, .t (I m)), (7, b), (8, c), (9, d), (10, e), (11, f), (12, g), (13, .t (I n)), (14, .t (I m))]
end TzTT
end X
