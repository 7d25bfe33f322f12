/- FnHere's grammars. By a printer of this session's. -/
import Derived.Test.YthfjcnjdcljhmaaGreatDoorTzLaw
open Go Go.V Go.Proofs
namespace X
set_option maxRecDepth 100000
set_option maxHeartbeats 4000000
set_option linter.unusedSimpArgs false
set_option linter.unusedVariables false
namespace TzHe
def gH (k : Nat) : T := (.list [(.agg [(.str [83]), (.list []), (.list [(.agg [(.list [(.agg [(.int .i64 (.ofNat 3)), (.str [120, 48]), (.list []), (.str [])]), (.agg [(.int .i64 (.ofNat 4)), (.str []), (.list [(.agg [(.list [(.agg [(.int .i64 (.ofNat 3)), (.int .i64 (.ofNat 0)), (.str []), (.list [])]), (.agg [(.int .i64 (.ofNat 1)), (.int .i64 (.ofNat k)), (.str []), (.list [])]), (.agg [(.int .i64 (.ofNat 9)), (.int .i64 (.ofNat 0)), (.str []), (.list [(.agg [(.int .i64 (.ofNat 0))]), (.agg [(.int .i64 (.ofNat 1))])])])])])]), (.str [])]), (.agg [(.int .i64 (.ofNat 3)), (.str [120, 49]), (.list []), (.str [])])])])])]), (.agg [(.str [120, 48]), (.list []), (.list [(.agg [.nils]), (.agg [(.list [(.agg [(.int .i64 (.ofNat 1)), (.str [97]), (.list []), (.str [])]), (.agg [(.int .i64 (.ofNat 3)), (.str [120, 48]), (.list []), (.str [])])])])])]), (.agg [(.str [120, 49]), (.list []), (.list [(.agg [.nils]), (.agg [(.list [(.agg [(.int .i64 (.ofNat 1)), (.str [98]), (.list []), (.str [])]), (.agg [(.int .i64 (.ofNat 3)), (.str [120, 49]), (.list []), (.str [])])])])])])])
end TzHe
end X
