/- Runs of the engine at the grammars of a law. By a printer of this session's. No statement of the claim is in it. -/
import Derived.Test.YtognnaobhjaoeaaGreatDoorVEg19
open Go Go.V Go.Proofs
namespace X
set_option maxRecDepth 100000
set_option linter.unusedVariables false
def sy (k : Nat) (s : List Nat) : T := .agg [.int .i64 (.ofNat k), .str s, .list [], .str []]
def accX (i : Nat) (t : List Nat) : Bool := match i with
 | 0 => match t with
  | 97 :: r => r.all (Nat.beq 98)
  | _ => false
 | 1 => !t.isEmpty
 | 2 => eqL t [97, 98] || eqL t [98, 97]
 | _ => Nat.beq t.length 1
end X
