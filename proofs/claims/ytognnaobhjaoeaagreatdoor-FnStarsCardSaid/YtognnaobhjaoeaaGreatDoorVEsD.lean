/- Runs of the engine at the grammars of a law. By a printer of this session's. No statement of the claim is in it. -/
import Derived.Test.YtognnaobhjaoeaaGreatDoorVEg19
open Go Go.V Go.Proofs
namespace X
set_option maxRecDepth 100000
set_option linter.unusedVariables false
def sy (k : Nat) (s : List Nat) : T := .agg [.int .i64 (.ofNat k), .str s, .list [], .str []]
noncomputable def lawB (l1 l2 l3 l4 l5 : Option (List Nat)) (n : Nat) : Bool := match l1, l2, l3, l4, l5 with
 | some a, some b, some c, some d, some e => (match Nat.ble (a.length + b.length + c.length + d.length + e.length) 1000 with
  | true => (List.range (n + 1)).all fun i => (Bool.rec (Bool.rec true false (i == 0 || b.contains i)) (i == 0 || b.contains i) (a.contains i)) && (Bool.rec (Bool.rec true false (i == 0 || d.contains i)) (i == 0 || d.contains i) (c.contains i)) && (Bool.rec (Bool.rec true false (e.contains i)) (e.contains i) (b.contains i))
  | false => false)
 | _, _, _, _, _ => false
end X
