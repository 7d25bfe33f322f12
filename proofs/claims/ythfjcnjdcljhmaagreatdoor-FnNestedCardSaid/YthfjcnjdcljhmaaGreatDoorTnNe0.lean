/- A part of the proof. No statement of the claim is in it. -/
import Derived.Test.YthfjcnjdcljhmaaGreatDoorTnLaw
open Go Go.V Go.Proofs
namespace X
set_option maxRecDepth 100000
set_option maxHeartbeats 4000000
set_option linter.unusedSimpArgs false
set_option linter.unusedVariables false
namespace TzNe
def dropTo (id : Nat) : Code → Code
  | .seq (.region i ops d) b => match Nat.beq i id with
    | true => .seq (.region i ops d) b
    | false => dropTo id b
  | .seq _ b => dropTo id b
  | c => c
noncomputable def restC : Code := dropTo 4 (Tryz.f9.body.getD .skip)
abbrev env (a b c d e f g : V) (n : Int) : List (Nat × V) := [(0, a), (2, .t (B false)), (3, .t (I n)), (15, b), (16, c), (17, d), (18, e), (19, f), (20, g), (21, .t (I n))]
end TzNe
end X
