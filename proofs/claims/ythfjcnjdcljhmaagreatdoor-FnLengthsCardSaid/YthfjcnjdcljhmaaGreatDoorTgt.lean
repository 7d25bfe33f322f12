/- The seat's system: the types it asks of, how each function is called. By a printer of this session's. No statement of the claim is in it. -/
import Derived.Test.YthfjcnjdcljhmaaGreatDoorProg
import Derived.Test.YthfjcnjdcljhmaaGreatDoorVd
import Derived.KernelRfl
open Go Go.V Go.Proofs
namespace X
set_option maxRecDepth 100000
set_option maxHeartbeats 4000000
set_option linter.unusedSimpArgs false
set_option linter.unusedVariables false
def tyL : List (Nat × TI) := [(2, { agg := false, size := 1, bytes := 8, zero := (some (.int .i64 (.ofNat 0))), shape := (.int .i64), eqs := false }),
  (3, { agg := false, size := 1, bytes := 8, zero := (some (.int .i64 (.ofNat 0))), shape := (.int .i64), eqs := false }),
  (4, { agg := false, size := 1, bytes := 1, zero := (some (.bool false)), shape := .bool, eqs := false }),
  (5, { agg := false, size := 1, bytes := 1, zero := (some (.int .u8 (.ofNat 0))), shape := (.int .u8), eqs := false }),
  (9, { agg := false, size := 1, bytes := 16, zero := (some (.str [])), shape := .str, eqs := false }),
  (22, { agg := false, size := 1, bytes := 24, zero := (some .nils), shape := (.slice 5), eqs := false }),
  (24, { agg := false, size := 1, bytes := 24, zero := (some .nils), shape := (.slice 3), eqs := false }),
  (26, { agg := false, size := 1, bytes := 24, zero := (some .nils), shape := (.slice 71), eqs := false }),
  (28, { agg := true, size := 1, bytes := 24, zero := (some (.agg [.nils])), shape := (.struct [(0, 26)]), eqs := false }),
  (30, { agg := false, size := 1, bytes := 24, zero := (some .nils), shape := (.slice 9), eqs := false }),
  (45, { agg := false, size := 1, bytes := 24, zero := (some .nils), shape := (.slice 154), eqs := false }),
  (46, { agg := false, size := 1, bytes := 24, zero := (some .nils), shape := (.slice 96), eqs := false }),
  (48, { agg := true, size := 2, bytes := 48, zero := (some (.agg [.nils, .nils])), shape := (.struct [(0, 45), (1, 46)]), eqs := false }),
  (69, { agg := false, size := 1, bytes := 24, zero := (some .nils), shape := (.slice 133), eqs := false }),
  (71, { agg := true, size := 3, bytes := 64, zero := (some (.agg [(.str []), .nils, .nils])), shape := (.struct [(0, 9), (1, 30), (2, 69)]), eqs := false }),
  (77, { agg := false, size := 1, bytes := 24, zero := (some .nils), shape := (.slice 83), eqs := false }),
  (79, { agg := true, size := 1, bytes := 24, zero := (some (.agg [.nils])), shape := (.struct [(0, 77)]), eqs := false }),
  (83, { agg := true, size := 5, bytes := 88, zero := (some (.agg [(.int .i64 (.ofNat 0)), .nils, (.int .i64 (.ofNat 0)), .nils, .nils])), shape := (.struct [(0, 3), (1, 24), (2, 3), (3, 24), (4, 24)]), eqs := false }),
  (84, { agg := false, size := 1, bytes := 24, zero := (some .nils), shape := (.slice 98), eqs := false }),
  (93, { agg := true, size := 5, bytes := 72, zero := (some (.agg [.nils, (.int .i64 (.ofNat 0)), (.int .i64 (.ofNat 0)), (.bool false), .nils])), shape := (.struct [(0, 84), (1, 3), (2, 3), (3, 4), (4, 45)]), eqs := false }),
  (96, { agg := true, size := 3, bytes := 48, zero := (some (.agg [(.str []), .nils, (.int .i64 (.ofNat 0))])), shape := (.struct [(0, 9), (1, 30), (2, 3)]), eqs := false }),
  (98, { agg := true, size := 2, bytes := 24, zero := (some (.agg [(.int .i64 (.ofNat 0)), (.str [])])), shape := (.struct [(0, 3), (1, 9)]), eqs := true }),
  (104, { agg := false, size := 1, bytes := 8, zero := (some .nilm), shape := (.map 9 3), eqs := false }),
  (131, { agg := false, size := 1, bytes := 24, zero := (some .nils), shape := (.slice 141), eqs := false }),
  (133, { agg := true, size := 1, bytes := 24, zero := (some (.agg [.nils])), shape := (.struct [(0, 131)]), eqs := false }),
  (136, { agg := true, size := 3, bytes := 40, zero := (some (.agg [.nils, (.int .i64 (.ofNat 0)), (.int .i64 (.ofNat 0))])), shape := (.struct [(0, 22), (1, 3), (2, 3)]), eqs := false }),
  (137, { agg := false, size := 1, bytes := 8, zero := (some (.int .u64 (.ofNat 0))), shape := (.int .u64), eqs := false }),
  (139, { agg := false, size := 1, bytes := 24, zero := (some .nils), shape := (.slice 236), eqs := false }),
  (141, { agg := true, size := 4, bytes := 64, zero := (some (.agg [(.int .i64 (.ofNat 0)), (.str []), .nils, (.str [])])), shape := (.struct [(0, 3), (1, 9), (2, 139), (3, 9)]), eqs := false }),
  (147, { agg := true, size := 7, bytes := 112, zero := (some (.agg [.nils, (.str []), .nils, (.int .i64 (.ofNat 0)), (.bool false), .nils, .nilm])), shape := (.struct [(0, 28), (1, 9), (2, 79), (3, 3), (4, 4), (5, 24), (6, 104)]), eqs := false }),
  (154, { agg := true, size := 5, bytes := 88, zero := (some (.agg [(.int .i64 (.ofNat 0)), (.str []), .nils, (.str []), .nils])), shape := (.struct [(0, 3), (1, 9), (2, 139), (3, 9), (4, 24)]), eqs := false }),
  (158, { agg := false, size := 1, bytes := 24, zero := (some .nils), shape := (.slice 213), eqs := false }),
  (169, { agg := true, size := 6, bytes := 80, zero := (some (.agg [.nils, (.str []), .nils, (.int .i64 (.ofNat 0)), (.bool false), (.bool false)])), shape := (.struct [(0, 28), (1, 9), (2, 77), (3, 3), (4, 4), (5, 4)]), eqs := false }),
  (174, { agg := true, size := 2, bytes := 32, zero := (some (.agg [(.int .i64 (.ofNat 0)), .nils])), shape := (.struct [(0, 3), (1, 158)]), eqs := false }),
  (182, { agg := false, size := 1, bytes := 24, zero := (some .nils), shape := (.slice 188), eqs := false }),
  (184, { agg := true, size := 5, bytes := 104, zero := (some (.agg [.nils, .nils, .nils, .nils, (.int .i64 (.ofNat 0))])), shape := (.struct [(0, 48), (2, 28), (3, 182), (4, 3)]), eqs := false }),
  (188, { agg := true, size := 3, bytes := 40, zero := (some (.agg [(.int .i64 (.ofNat 0)), (.int .i64 (.ofNat 0)), .nils])), shape := (.struct [(0, 3), (1, 3), (2, 30)]), eqs := false }),
  (213, { agg := true, size := 2, bytes := 24, zero := (some (.agg [(.str []), (.int .i64 (.ofNat 0))])), shape := (.struct [(0, 9), (1, 3)]), eqs := true }),
  (217, { agg := false, size := 1, bytes := 24, zero := (some .nils), shape := (.slice 4), eqs := false }),
  (218, { agg := false, size := 1, bytes := 24, zero := (some .nils), shape := (.slice 174), eqs := false }),
  (234, { agg := false, size := 1, bytes := 24, zero := (some .nils), shape := (.slice 268), eqs := false }),
  (236, { agg := true, size := 1, bytes := 24, zero := (some (.agg [.nils])), shape := (.struct [(0, 234)]), eqs := false }),
  (268, { agg := true, size := 4, bytes := 56, zero := (some (.agg [(.int .i64 (.ofNat 0)), (.int .i64 (.ofNat 0)), (.str []), .nils])), shape := (.struct [(0, 3), (1, 3), (2, 9), (3, 24)]), eqs := false }),
  (271, { agg := false, size := 1, bytes := 8, zero := (some (.int .i64 (.ofNat 0))), shape := (.int .i64), eqs := false }),
  (279, { agg := false, size := 1, bytes := 4, zero := (some (.int .u32 (.ofNat 0))), shape := (.int .u32), eqs := false }),
  (281, { agg := false, size := 1, bytes := 8, zero := (some (.int .u64 (.ofNat 0))), shape := (.int .u64), eqs := false }),
  (326, { agg := false, size := 1, bytes := 24, zero := (some .nils), shape := (.slice 158), eqs := false }),
  (343, { agg := true, size := 24, bytes := 24, zero := (some (.agg [(.int .u8 (.ofNat 0)), (.int .u8 (.ofNat 0)), (.int .u8 (.ofNat 0)), (.int .u8 (.ofNat 0)), (.int .u8 (.ofNat 0)), (.int .u8 (.ofNat 0)), (.int .u8 (.ofNat 0)), (.int .u8 (.ofNat 0)), (.int .u8 (.ofNat 0)), (.int .u8 (.ofNat 0)), (.int .u8 (.ofNat 0)), (.int .u8 (.ofNat 0)), (.int .u8 (.ofNat 0)), (.int .u8 (.ofNat 0)), (.int .u8 (.ofNat 0)), (.int .u8 (.ofNat 0)), (.int .u8 (.ofNat 0)), (.int .u8 (.ofNat 0)), (.int .u8 (.ofNat 0)), (.int .u8 (.ofNat 0)), (.int .u8 (.ofNat 0)), (.int .u8 (.ofNat 0)), (.int .u8 (.ofNat 0)), (.int .u8 (.ofNat 0))])), shape := (.array 24 5), eqs := false })]
/-- loop.example/g00243/laws.plain -/
def A17 : Ann := { vars := List.range 18, kills := [], owned := [], isPure := true, dyn := [], bad := [], pend := [] }
/-- loop.example/g00243/impl.Accepts -/
def A18 : Ann := { vars := List.range 20, kills := [], owned := [], isPure := true, dyn := [], bad := [], pend := [] }
/-- loop.example/g00243/laws.row -/
def A19 : Ann := { vars := List.range 16, kills := [], owned := [], isPure := true, dyn := [], bad := [], pend := [] }
/-- loop.example/g00243/spec.Decimal -/
def A20 : Ann := { vars := List.range 30, kills := [], owned := [(9, 2)], isPure := true, dyn := [], bad := [], pend := [] }
/-- loop.example/g00243/spec.GrammarOk -/
def A21 : Ann := { vars := List.range 45, kills := [], owned := [], isPure := true, dyn := [], bad := [], pend := [] }
/-- loop.example/g00243/impl.BindNum -/
def A22 : Ann := { vars := List.range 36, kills := [], owned := [], isPure := true, dyn := [], bad := [], pend := [] }
/-- loop.example/g00243/impl.EndsOf -/
def A23 : Ann := { vars := List.range 29, kills := [], owned := [], isPure := true, dyn := [], bad := [], pend := [] }
/-- loop.example/g00243/laws.sameInts -/
def A24 : Ann := { vars := List.range 26, kills := [], owned := [], isPure := true, dyn := [], bad := [], pend := [] }
/-- loop.example/g00243/spec.ReadSurface -/
def A29 : Ann := { vars := List.range 127, kills := [], owned := [], isPure := true, dyn := [], bad := [], pend := [] }
/-- loop.example/g00243/spec.EndsOf -/
def A36 : Ann := { vars := List.range 30, kills := [], owned := [], isPure := true, dyn := [], bad := [], pend := [] }
/-- loop.example/g00243/impl.GrammarOk -/
def A38 : Ann := { vars := List.range 69, kills := [], owned := [], isPure := true, dyn := [], bad := [], pend := [] }
/-- loop.example/g00243/spec.Flatten -/
def A42 : Ann := { vars := List.range 12, kills := [], owned := [], isPure := true, dyn := [], bad := [], pend := [] }
/-- slices.Contains[[]int,int] -/
def A43 : Ann := { vars := List.range 9, kills := [], owned := [], isPure := false, dyn := [], bad := [], pend := [] }
/-- loop.example/g00243/spec.l01Figure -/
def A44 : Ann := { vars := List.range 12, kills := [], owned := [], isPure := true, dyn := [], bad := [], pend := [] }
/-- loop.example/g00243/spec.l01In -/
def A45 : Ann := { vars := List.range 15, kills := [], owned := [], isPure := true, dyn := [], bad := [], pend := [] }
/-- loop.example/g00243/spec.RuleAt -/
def A46 : Ann := { vars := List.range 22, kills := [], owned := [], isPure := true, dyn := [], bad := [], pend := [] }
/-- loop.example/g00243/spec.l06Rule -/
def A47 : Ann := { vars := List.range 92, kills := [], owned := [], isPure := false, dyn := [], bad := [], pend := [] }
/-- loop.example/g00243/impl.within -/
def A48 : Ann := { vars := List.range 15, kills := [], owned := [], isPure := true, dyn := [], bad := [], pend := [] }
/-- loop.example/g00243/impl.isFigure -/
def A49 : Ann := { vars := List.range 6, kills := [], owned := [], isPure := true, dyn := [], bad := [], pend := [] }
/-- loop.example/g00243/impl.RunGoal -/
def A50 : Ann := { vars := List.range 96, kills := [], owned := [], isPure := false, dyn := [], bad := [], pend := [] }
/-- loop.example/g00243/spec.Tokens -/
def A54 : Ann := { vars := List.range 67, kills := [], owned := [], isPure := false, dyn := [], bad := [], pend := [] }
/-- (*loop.example/g00243/spec.l11Read).kind -/
def A55 : Ann := { vars := List.range 57, kills := [], owned := [], isPure := false, dyn := [], bad := [], pend := [] }
/-- (*loop.example/g00243/spec.l11Read).sign -/
def A56 : Ann := { vars := List.range 16, kills := [], owned := [], isPure := false, dyn := [], bad := [], pend := [] }
/-- (*loop.example/g00243/spec.l11Read).want -/
def A57 : Ann := { vars := List.range 11, kills := [], owned := [], isPure := false, dyn := [], bad := [], pend := [] }
/-- (*loop.example/g00243/spec.l11Read).alts -/
def A58 : Ann := { vars := List.range 22, kills := [], owned := [(2, 2)], isPure := false, dyn := [], bad := [], pend := [] }
/-- loop.example/g00243/spec.SurfaceOk -/
def A59 : Ann := { vars := List.range 14, kills := [], owned := [], isPure := true, dyn := [], bad := [], pend := [] }
/-- loop.example/g00243/spec.RunGoal -/
def A64 : Ann := { vars := List.range 118, kills := [], owned := [], isPure := false, dyn := [], bad := [], pend := [] }
/-- loop.example/g00243/impl.RuleName -/
def A71 : Ann := { vars := List.range 29, kills := [], owned := [], isPure := true, dyn := [], bad := [], pend := [] }
/-- loop.example/g00243/impl.RuleAt -/
def A72 : Ann := { vars := List.range 9, kills := [], owned := [], isPure := true, dyn := [], bad := [], pend := [] }
/-- loop.example/g00243/impl.paramsOk -/
def A73 : Ann := { vars := List.range 32, kills := [], owned := [], isPure := false, dyn := [], bad := [], pend := [] }
/-- loop.example/g00243/impl.altOk -/
def A74 : Ann := { vars := List.range 39, kills := [], owned := [], isPure := false, dyn := [], bad := [], pend := [] }
/-- loop.example/g00243/spec.l11Form -/
def A75 : Ann := { vars := List.range 166, kills := [], owned := [], isPure := false, dyn := [], bad := [], pend := [] }
/-- loop.example/g00243/spec.l12Flat -/
def A76 : Ann := { vars := List.range 142, kills := [], owned := [(8, 16), (17, 14)], isPure := false, dyn := [8], bad := [], pend := [] }
/-- slices.Index[[]int,int] -/
def A77 : Ann := { vars := List.range 19, kills := [], owned := [], isPure := false, dyn := [], bad := [], pend := [] }
/-- loop.example/g00243/spec.RuleName -/
def A78 : Ann := { vars := List.range 54, kills := [], owned := [], isPure := true, dyn := [], bad := [], pend := [] }
/-- loop.example/g00243/spec.l06Params -/
def A79 : Ann := { vars := List.range 35, kills := [], owned := [], isPure := false, dyn := [], bad := [], pend := [] }
/-- loop.example/g00243/spec.l06Sym -/
def A80 : Ann := { vars := List.range 108, kills := [], owned := [], isPure := false, dyn := [], bad := [], pend := [] }
/-- loop.example/g00243/impl.numbersIn -/
def A81 : Ann := { vars := List.range 15, kills := [], owned := [], isPure := false, dyn := [], bad := [], pend := [] }
/-- (*loop.example/g00243/impl.runner).goal -/
def A82 : Ann := { vars := List.range 46, kills := [], owned := [(4, 11)], isPure := false, dyn := [4], bad := [], pend := [] }
/-- (*loop.example/g00243/impl.runner).look -/
def A83 : Ann := { vars := List.range 71, kills := [], owned := [], isPure := false, dyn := [7], bad := [], pend := [] }
/-- loop.example/g00243/spec.l10One -/
def A92 : Ann := { vars := List.range 213, kills := [], owned := [], isPure := false, dyn := [], bad := [], pend := [] }
/-- (*loop.example/g00243/spec.l11Read).is -/
def A93 : Ann := { vars := List.range 51, kills := [], owned := [], isPure := false, dyn := [], bad := [], pend := [] }
/-- (*loop.example/g00243/spec.l11Read).down -/
def A94 : Ann := { vars := List.range 18, kills := [], owned := [], isPure := false, dyn := [], bad := [], pend := [] }
/-- (*loop.example/g00243/spec.l11Read).row -/
def A95 : Ann := { vars := List.range 27, kills := [], owned := [], isPure := false, dyn := [], bad := [], pend := [] }
/-- (*loop.example/g00243/spec.l11Read).up -/
def A96 : Ann := { vars := List.range 10, kills := [], owned := [], isPure := false, dyn := [], bad := [], pend := [] }
/-- (*loop.example/g00243/spec.l11Read).put -/
def A97 : Ann := { vars := List.range 30, kills := [], owned := [(1, 6)], isPure := false, dyn := [], bad := [], pend := [] }
/-- loop.example/g00243/impl.envOf -/
def A100 : Ann := { vars := List.range 28, kills := [], owned := [], isPure := false, dyn := [], bad := [], pend := [] }
/-- loop.example/g00243/impl.copyInts -/
def A101 : Ann := { vars := List.range 6, kills := [], owned := [], isPure := false, dyn := [], bad := [], pend := [] }
/-- loop.example/g00243/spec.l07In -/
def A104 : Ann := { vars := List.range 18, kills := [], owned := [], isPure := false, dyn := [], bad := [], pend := [] }
/-- (*loop.example/g00243/spec.l07Run).goal -/
def A105 : Ann := { vars := List.range 52, kills := [], owned := [], isPure := false, dyn := [], bad := [], pend := [] }
/-- (*loop.example/g00243/spec.l07Run).look -/
def A106 : Ann := { vars := List.range 92, kills := [], owned := [(6, 15)], isPure := false, dyn := [6], bad := [], pend := [] }
/-- loop.example/g00243/spec.l07SameInts -/
def A107 : Ann := { vars := List.range 26, kills := [], owned := [], isPure := false, dyn := [], bad := [], pend := [] }
/-- loop.example/g00243/spec.l07Env -/
def A109 : Ann := { vars := List.range 34, kills := [], owned := [], isPure := false, dyn := [], bad := [], pend := [] }
/-- loop.example/g00243/impl.isLetter -/
def A110 : Ann := { vars := List.range 10, kills := [], owned := [], isPure := true, dyn := [], bad := [], pend := [] }
/-- slices.IndexFunc[[]loop.example/g00243/impl.Rule,loop.example/g00243/impl.Rule] -/
def A111 : Ann := { vars := List.range 19, kills := [], owned := [], isPure := false, dyn := [], bad := [], pend := [] }
/-- loop.example/g00243/impl.RuleAt$1 -/
def A112 : Ann := { vars := List.range 8, kills := [], owned := [], isPure := false, dyn := [], bad := [], pend := [] }
/-- loop.example/g00243/impl.VarName -/
def A113 : Ann := { vars := List.range 18, kills := [], owned := [], isPure := true, dyn := [], bad := [], pend := [] }
/-- loop.example/g00243/impl.copyTexts -/
def A114 : Ann := { vars := List.range 6, kills := [], owned := [], isPure := false, dyn := [], bad := [], pend := [] }
/-- loop.example/g00243/impl.altOk$1 -/
def A115 : Ann := { vars := List.range 17, kills := [], owned := [], isPure := false, dyn := [], bad := [], pend := [] }
/-- loop.example/g00243/impl.symOk -/
def A116 : Ann := { vars := List.range 79, kills := [], owned := [], isPure := false, dyn := [8], bad := [], pend := [] }
/-- loop.example/g00243/spec.l11Shape -/
def A117 : Ann := { vars := List.range 124, kills := [], owned := [], isPure := false, dyn := [], bad := [], pend := [] }
/-- loop.example/g00243/spec.l11Alt -/
def A118 : Ann := { vars := List.range 32, kills := [], owned := [], isPure := false, dyn := [], bad := [], pend := [] }
/-- loop.example/g00243/spec.l10Figure -/
def A119 : Ann := { vars := List.range 9, kills := [], owned := [], isPure := true, dyn := [], bad := [], pend := [] }
/-- (*loop.example/g00243/spec.l12Make).row -/
def A120 : Ann := { vars := List.range 122, kills := [], owned := [(15, 11), (16, 19)], isPure := false, dyn := [15], bad := [], pend := [] }
/-- loop.example/g00243/spec.VarName -/
def A122 : Ann := { vars := List.range 23, kills := [], owned := [], isPure := true, dyn := [], bad := [], pend := [] }
/-- loop.example/g00243/spec.l06Text -/
def A123 : Ann := { vars := List.range 38, kills := [], owned := [], isPure := true, dyn := [], bad := [], pend := [] }
/-- loop.example/g00243/spec.SetOk -/
def A124 : Ann := { vars := List.range 11, kills := [], owned := [], isPure := true, dyn := [], bad := [], pend := [] }
/-- loop.example/g00243/spec.l06Args -/
def A125 : Ann := { vars := List.range 19, kills := [], owned := [], isPure := false, dyn := [], bad := [], pend := [] }
/-- loop.example/g00243/spec.l03Put -/
def A126 : Ann := { vars := List.range 52, kills := [], owned := [], isPure := false, dyn := [], bad := [], pend := [] }
/-- loop.example/g00243/spec.l03In -/
def A127 : Ann := { vars := List.range 18, kills := [], owned := [], isPure := false, dyn := [], bad := [], pend := [] }
/-- loop.example/g00243/impl.goalAt -/
def A128 : Ann := { vars := List.range 13, kills := [], owned := [], isPure := false, dyn := [], bad := [], pend := [] }
/-- (*loop.example/g00243/impl.runner).alt -/
def A129 : Ann := { vars := List.range 132, kills := [], owned := [], isPure := false, dyn := [], bad := [], pend := [] }
/-- slices.Sort[[]int,int] -/
def A130 : Ann := { vars := List.range 11, kills := [], owned := [], isPure := false, dyn := [], bad := [], pend := [] }
/-- (*loop.example/g00243/impl.runner).end -/
def A131 : Ann := { vars := List.range 61, kills := [], owned := [(3, 7)], isPure := false, dyn := [], bad := [], pend := [] }
/-- strings.IndexByte -/
def A132 : Ann := { vars := List.range 8, kills := [], owned := [], isPure := true, dyn := [], bad := [], pend := [] }
/-- strings.HasPrefix -/
def A136 : Ann := { vars := List.range 8, kills := [], owned := [], isPure := true, dyn := [], bad := [], pend := [] }
/-- loop.example/g00243/spec.l10Letter -/
def A145 : Ann := { vars := List.range 17, kills := [], owned := [], isPure := true, dyn := [], bad := [], pend := [] }
/-- (*loop.example/g00243/spec.l11Read).thing -/
def A146 : Ann := { vars := List.range 85, kills := [], owned := [(16, 2), (21, 0), (26, 4)], isPure := false, dyn := [], bad := [], pend := [] }
/-- loop.example/g00243/impl.EnvText -/
def A147 : Ann := { vars := List.range 36, kills := [], owned := [], isPure := false, dyn := [], bad := [], pend := [] }
/-- loop.example/g00243/impl.Decimal -/
def A148 : Ann := { vars := List.range 5, kills := [], owned := [], isPure := true, dyn := [], bad := [], pend := [] }
/-- loop.example/g00243/impl.flag -/
def A149 : Ann := { vars := List.range 4, kills := [], owned := [], isPure := true, dyn := [], bad := [], pend := [] }
/-- loop.example/g00243/impl.passes -/
def A150 : Ann := { vars := List.range 59, kills := [], owned := [], isPure := false, dyn := [], bad := [], pend := [] }
/-- loop.example/g00243/impl.bound -/
def A152 : Ann := { vars := List.range 23, kills := [], owned := [], isPure := false, dyn := [], bad := [], pend := [] }
/-- loop.example/g00243/spec.l07Find -/
def A154 : Ann := { vars := List.range 42, kills := [], owned := [], isPure := false, dyn := [], bad := [], pend := [] }
/-- (*loop.example/g00243/spec.l07Run).alt -/
def A155 : Ann := { vars := List.range 140, kills := [], owned := [], isPure := false, dyn := [], bad := [], pend := [] }
/-- (*loop.example/g00243/spec.l07Run).add -/
def A156 : Ann := { vars := List.range 118, kills := [], owned := [], isPure := false, dyn := [], bad := [], pend := [] }
/-- loop.example/g00243/spec.l07Plain -/
def A157 : Ann := { vars := List.range 80, kills := [], owned := [], isPure := false, dyn := [], bad := [], pend := [] }
/-- loop.example/g00243/spec.l07Args -/
def A158 : Ann := { vars := List.range 42, kills := [], owned := [], isPure := false, dyn := [], bad := [], pend := [] }
/-- loop.example/g00243/spec.l07Bind -/
def A159 : Ann := { vars := List.range 21, kills := [], owned := [], isPure := false, dyn := [], bad := [], pend := [] }
/-- loop.example/g00243/spec.EnvSet -/
def A160 : Ann := { vars := List.range 65, kills := [], owned := [], isPure := false, dyn := [], bad := [], pend := [] }
/-- loop.example/g00243/impl.isSmall -/
def A161 : Ann := { vars := List.range 6, kills := [], owned := [], isPure := true, dyn := [], bad := [], pend := [] }
/-- loop.example/g00243/impl.textOk -/
def A162 : Ann := { vars := List.range 25, kills := [], owned := [], isPure := true, dyn := [], bad := [], pend := [] }
/-- loop.example/g00243/impl.SetOk -/
def A163 : Ann := { vars := List.range 11, kills := [], owned := [], isPure := true, dyn := [], bad := [], pend := [] }
/-- loop.example/g00243/impl.argsKnown -/
def A164 : Ann := { vars := List.range 31, kills := [], owned := [], isPure := false, dyn := [], bad := [], pend := [] }
/-- loop.example/g00243/impl.bindOk -/
def A165 : Ann := { vars := List.range 22, kills := [], owned := [], isPure := false, dyn := [], bad := [], pend := [] }
/-- loop.example/g00243/spec.l11InRow -/
def A166 : Ann := { vars := List.range 5, kills := [], owned := [], isPure := true, dyn := [], bad := [], pend := [] }
/-- loop.example/g00243/spec.l11Row -/
def A167 : Ann := { vars := List.range 61, kills := [], owned := [], isPure := false, dyn := [7, 11], bad := [], pend := [] }
/-- loop.example/g00243/spec.l11Leaf -/
def A168 : Ann := { vars := List.range 12, kills := [], owned := [], isPure := false, dyn := [], bad := [], pend := [] }
/-- loop.example/g00243/spec.l04Copies -/
def A169 : Ann := { vars := List.range 50, kills := [], owned := [], isPure := false, dyn := [], bad := [], pend := [] }
/-- loop.example/g00243/spec.l05Byte -/
def A173 : Ann := { vars := List.range 17, kills := [], owned := [], isPure := true, dyn := [], bad := [], pend := [] }
/-- loop.example/g00243/spec.l05Rows -/
def A174 : Ann := { vars := List.range 72, kills := [], owned := [(13, 5)], isPure := true, dyn := [], bad := [], pend := [] }
/-- loop.example/g00243/spec.l06Known -/
def A175 : Ann := { vars := List.range 24, kills := [], owned := [], isPure := false, dyn := [], bad := [], pend := [] }
/-- slices.IndexFunc[[]loop.example/g00243/impl.Goal,loop.example/g00243/impl.Goal] -/
def A176 : Ann := { vars := List.range 19, kills := [], owned := [], isPure := false, dyn := [], bad := [], pend := [] }
/-- loop.example/g00243/impl.goalAt$1 -/
def A177 : Ann := { vars := List.range 11, kills := [], owned := [], isPure := false, dyn := [], bad := [], pend := [] }
/-- loop.example/g00243/impl.isGoal -/
def A178 : Ann := { vars := List.range 25, kills := [], owned := [], isPure := false, dyn := [], bad := [], pend := [] }
/-- (*loop.example/g00243/impl.runner).isNew -/
def A179 : Ann := { vars := List.range 38, kills := [], owned := [], isPure := false, dyn := [], bad := [], pend := [] }
/-- loop.example/g00243/impl.argsOf -/
def A180 : Ann := { vars := List.range 41, kills := [], owned := [], isPure := false, dyn := [], bad := [], pend := [] }
/-- slices.pdqsortOrdered[int] -/
def A181 : Ann := { vars := List.range 134, kills := [], owned := [], isPure := false, dyn := [], bad := [], pend := [] }
/-- math/bits.Len -/
def A182 : Ann := { vars := List.range 8, kills := [], owned := [], isPure := true, dyn := [], bad := [], pend := [] }
/-- slices.BinarySearch[[]int,int] -/
def A183 : Ann := { vars := List.range 54, kills := [], owned := [], isPure := false, dyn := [], bad := [], pend := [] }
/-- slices.Insert[[]int,int] -/
def A184 : Ann := { vars := List.range 95, kills := [], owned := [], isPure := false, dyn := [], bad := [], pend := [] }
/-- internal/stringslite.HasPrefix -/
def A187 : Ann := { vars := List.range 18, kills := [], owned := [], isPure := true, dyn := [], bad := [], pend := [] }
/-- (*loop.example/g00243/spec.l11Read).call -/
def A196 : Ann := { vars := List.range 61, kills := [], owned := [(11, 4), (13, 4)], isPure := false, dyn := [11, 13], bad := [], pend := [] }
/-- (*loop.example/g00243/spec.l11Read).whole -/
def A197 : Ann := { vars := List.range 9, kills := [], owned := [], isPure := false, dyn := [], bad := [], pend := [] }
/-- strconv.Itoa -/
def A199 : Ann := { vars := List.range 5, kills := [], owned := [], isPure := true, dyn := [], bad := [], pend := [] }
/-- loop.example/g00243/impl.InSet -/
def A200 : Ann := { vars := List.range 10, kills := [], owned := [], isPure := true, dyn := [], bad := [], pend := [] }
/-- loop.example/g00243/impl.EvalExpr -/
def A201 : Ann := { vars := List.range 60, kills := [], owned := [], isPure := false, dyn := [], bad := [], pend := [] }
/-- loop.example/g00243/impl.EnvSet -/
def A202 : Ann := { vars := List.range 52, kills := [], owned := [(10, 4), (10, 6)], isPure := false, dyn := [], bad := [], pend := [] }
/-- loop.example/g00243/spec.l07Put -/
def A204 : Ann := { vars := List.range 35, kills := [], owned := [], isPure := false, dyn := [], bad := [], pend := [] }
/-- loop.example/g00243/spec.InSet -/
def A205 : Ann := { vars := List.range 36, kills := [], owned := [], isPure := true, dyn := [], bad := [], pend := [] }
/-- loop.example/g00243/spec.EvalExpr -/
def A206 : Ann := { vars := List.range 106, kills := [], owned := [], isPure := false, dyn := [], bad := [], pend := [] }
/-- loop.example/g00243/spec.EnvOk -/
def A208 : Ann := { vars := List.range 47, kills := [], owned := [], isPure := false, dyn := [], bad := [], pend := [] }
/-- loop.example/g00243/impl.isSetByte -/
def A209 : Ann := { vars := List.range 9, kills := [], owned := [], isPure := true, dyn := [], bad := [], pend := [] }
/-- loop.example/g00243/impl.readSet -/
def A210 : Ann := { vars := List.range 83, kills := [], owned := [], isPure := false, dyn := [], bad := [], pend := [] }
/-- loop.example/g00243/impl.FreeOf -/
def A211 : Ann := { vars := List.range 31, kills := [], owned := [], isPure := false, dyn := [], bad := [], pend := [] }
/-- slices.Contains[[]string,string] -/
def A212 : Ann := { vars := List.range 9, kills := [], owned := [], isPure := false, dyn := [], bad := [], pend := [] }
/-- loop.example/g00243/impl.ExprOk -/
def A213 : Ann := { vars := List.range 22, kills := [], owned := [], isPure := false, dyn := [], bad := [], pend := [] }
/-- loop.example/g00243/spec.l11Params -/
def A214 : Ann := { vars := List.range 28, kills := [], owned := [], isPure := false, dyn := [], bad := [], pend := [] }
/-- loop.example/g00243/spec.FreeOf -/
def A216 : Ann := { vars := List.range 33, kills := [], owned := [], isPure := false, dyn := [], bad := [], pend := [] }
/-- loop.example/g00243/spec.ExprOk -/
def A217 : Ann := { vars := List.range 91, kills := [], owned := [], isPure := false, dyn := [], bad := [], pend := [] }
/-- slices.Equal[[]int,int] -/
def A218 : Ann := { vars := List.range 26, kills := [], owned := [], isPure := false, dyn := [], bad := [], pend := [] }
/-- slices.insertionSortOrdered[int] -/
def A219 : Ann := { vars := List.range 49, kills := [], owned := [], isPure := false, dyn := [], bad := [], pend := [] }
/-- cmp.Less[int] -/
def A225 : Ann := { vars := List.range 17, kills := [], owned := [], isPure := true, dyn := [], bad := [], pend := [] }
/-- math/bits.Len64 -/
def A229 : Ann := { vars := List.range 25, kills := [], owned := [], isPure := true, dyn := [], bad := [], pend := [] }
/-- loop.example/g00243/impl.kidsAhead -/
def A238 : Ann := { vars := List.range 19, kills := [], owned := [], isPure := false, dyn := [], bad := [], pend := [] }
/-- slices.Sort[[]string,string] -/
def A245 : Ann := { vars := List.range 11, kills := [], owned := [], isPure := false, dyn := [], bad := [], pend := [] }
/-- (*loop.example/g00243/spec.l11Read).expr -/
def A247 : Ann := { vars := List.range 30, kills := [], owned := [], isPure := false, dyn := [], bad := [], pend := [] }
/-- internal/strconv.Itoa -/
def A251 : Ann := { vars := List.range 5, kills := [], owned := [], isPure := true, dyn := [], bad := [], pend := [] }
/-- loop.example/g00243/impl.SetBytes -/
def A252 : Ann := { vars := List.range 14, kills := [], owned := [], isPure := true, dyn := [], bad := [], pend := [] }
/-- loop.example/g00243/impl.reachedNodes -/
def A253 : Ann := { vars := List.range 51, kills := [], owned := [], isPure := false, dyn := [], bad := [], pend := [] }
/-- loop.example/g00243/impl.evalNode -/
def A254 : Ann := { vars := List.range 50, kills := [], owned := [], isPure := false, dyn := [], bad := [], pend := [] }
/-- loop.example/g00243/impl.isNum -/
def A255 : Ann := { vars := List.range 5, kills := [], owned := [], isPure := true, dyn := [], bad := [], pend := [] }
/-- slices.Concat[[]loop.example/g00243/impl.Var,loop.example/g00243/impl.Var] -/
def A256 : Ann := { vars := List.range 36, kills := [], owned := [], isPure := false, dyn := [], bad := [], pend := [] }
/-- loop.example/g00243/impl.EnvOk -/
def A257 : Ann := { vars := List.range 41, kills := [], owned := [], isPure := false, dyn := [], bad := [], pend := [] }
/-- loop.example/g00243/spec.l04Marks -/
def A260 : Ann := { vars := List.range 51, kills := [], owned := [], isPure := false, dyn := [], bad := [], pend := [] }
/-- loop.example/g00243/spec.EnvGet -/
def A261 : Ann := { vars := List.range 25, kills := [], owned := [], isPure := false, dyn := [], bad := [], pend := [] }
/-- loop.example/g00243/spec.l04Flag -/
def A262 : Ann := { vars := List.range 4, kills := [], owned := [], isPure := true, dyn := [], bad := [], pend := [] }
/-- loop.example/g00243/spec.l04Two -/
def A263 : Ann := { vars := List.range 50, kills := [], owned := [], isPure := true, dyn := [], bad := [], pend := [] }
/-- slices.Sort[[]byte,byte] -/
def A264 : Ann := { vars := List.range 11, kills := [], owned := [], isPure := false, dyn := [], bad := [], pend := [] }
/-- slices.Compact[[]byte,byte] -/
def A265 : Ann := { vars := List.range 61, kills := [], owned := [], isPure := false, dyn := [], bad := [], pend := [] }
/-- slices.Compact[[]string,string] -/
def A266 : Ann := { vars := List.range 61, kills := [], owned := [], isPure := false, dyn := [], bad := [], pend := [] }
/-- slices.Index[[]string,string] -/
def A267 : Ann := { vars := List.range 19, kills := [], owned := [], isPure := false, dyn := [], bad := [], pend := [] }
/-- loop.example/g00243/impl.exNodeOk -/
def A268 : Ann := { vars := List.range 56, kills := [], owned := [], isPure := false, dyn := [], bad := [], pend := [] }
/-- loop.example/g00243/spec.l04Kids -/
def A270 : Ann := { vars := List.range 10, kills := [], owned := [], isPure := true, dyn := [], bad := [], pend := [] }
/-- cmp.isNaN[int] -/
def A276 : Ann := { vars := List.range 6, kills := [], owned := [], isPure := true, dyn := [], bad := [], pend := [] }
/-- slices.pdqsortOrdered[string] -/
def A282 : Ann := { vars := List.range 134, kills := [], owned := [], isPure := false, dyn := [], bad := [], pend := [] }
/-- (*loop.example/g00243/spec.l11Read).compare -/
def A283 : Ann := { vars := List.range 28, kills := [], owned := [], isPure := false, dyn := [], bad := [], pend := [] }
/-- (*loop.example/g00243/spec.l11Read).two -/
def A284 : Ann := { vars := List.range 18, kills := [], owned := [(1, 4)], isPure := false, dyn := [], bad := [], pend := [] }
/-- internal/strconv.FormatInt -/
def A287 : Ann := { vars := List.range 54, kills := [], owned := [], isPure := true, dyn := [], bad := [], pend := [] }
/-- loop.example/g00243/impl.EnvGet -/
def A288 : Ann := { vars := List.range 21, kills := [], owned := [], isPure := false, dyn := [], bad := [], pend := [] }
/-- loop.example/g00243/impl.reckon -/
def A289 : Ann := { vars := List.range 55, kills := [], owned := [], isPure := true, dyn := [], bad := [], pend := [] }
/-- slices.Grow[[]loop.example/g00243/impl.Var,loop.example/g00243/impl.Var] -/
def A290 : Ann := { vars := List.range 27, kills := [], owned := [], isPure := false, dyn := [], bad := [], pend := [] }
/-- slices.pdqsortOrdered[byte] -/
def A291 : Ann := { vars := List.range 134, kills := [], owned := [], isPure := false, dyn := [], bad := [], pend := [] }
/-- loop.example/g00243/impl.kidCount -/
def A292 : Ann := { vars := List.range 12, kills := [], owned := [], isPure := true, dyn := [], bad := [], pend := [] }
/-- slices.insertionSortOrdered[string] -/
def A301 : Ann := { vars := List.range 49, kills := [], owned := [], isPure := false, dyn := [], bad := [], pend := [] }
/-- (*loop.example/g00243/spec.l11Read).sum -/
def A310 : Ann := { vars := List.range 34, kills := [], owned := [], isPure := false, dyn := [], bad := [], pend := [] }
/-- loop.example/g00243/spec.l11Put -/
def A311 : Ann := { vars := List.range 18, kills := [], owned := [(1, 5)], isPure := false, dyn := [], bad := [], pend := [] }
/-- internal/strconv.small -/
def A314 : Ann := { vars := List.range 15, kills := [], owned := [], isPure := true, dyn := [], bad := [], pend := [] }
/-- slices.insertionSortOrdered[byte] -/
def A318 : Ann := { vars := List.range 49, kills := [], owned := [], isPure := false, dyn := [], bad := [], pend := [] }
/-- cmp.Less[byte] -/
def A324 : Ann := { vars := List.range 17, kills := [], owned := [], isPure := true, dyn := [], bad := [], pend := [] }
/-- (*loop.example/g00243/spec.l11Read).product -/
def A333 : Ann := { vars := List.range 34, kills := [], owned := [], isPure := false, dyn := [], bad := [], pend := [] }
/-- cmp.isNaN[byte] -/
def A341 : Ann := { vars := List.range 6, kills := [], owned := [], isPure := true, dyn := [], bad := [], pend := [] }
/-- (*loop.example/g00243/spec.l11Read).simple -/
def A344 : Ann := { vars := List.range 14, kills := [], owned := [], isPure := false, dyn := [], bad := [], pend := [] }
/-- (*loop.example/g00243/spec.l11Read).simpleOne -/
def A349 : Ann := { vars := List.range 74, kills := [], owned := [(3, 2)], isPure := false, dyn := [], bad := [], pend := [] }
/-- loop.example/g00243/laws.FnLengths, walked by its words -/
abbrev A12 : Ann := { vars := [0, 2, 3, 4, 5, 6, 7], kills := [], owned := [], isPure := true, dyn := [], bad := [], pend := [] }
/-- loop.example/g00243/laws.big, walked by its words -/
abbrev A15 : Ann := { vars := [0, 2], kills := [], owned := [], isPure := true, dyn := [], bad := [], pend := [] }
/-- loop.example/g00243/spec.DrawPlaces, walked by its words -/
abbrev A16 : Ann := { vars := [0, 2, 3, 4, 5], kills := [], owned := [], isPure := true, dyn := [], bad := [], pend := [] }
/-- loop.example/g00243/spec.l01New, walked by its words -/
abbrev A39 : Ann := { vars := [0, 2, 3, 4], kills := [], owned := [], isPure := false, dyn := [], bad := [], pend := [] }
/-- loop.example/g00243/spec.l01Byte, walked by its words -/
abbrev A40 : Ann := { vars := [0, 2, 3], kills := [], owned := [], isPure := false, dyn := [], bad := [], pend := [] }
/-- loop.example/g00243/spec.l01Below, walked by its words -/
abbrev A41 : Ann := { vars := [0, 1, 4, 5, 6, 7, 8], kills := [], owned := [], isPure := false, dyn := [], bad := [], pend := [] }
def annL : List (Nat × Ann) := [(17, A17), (18, A18), (19, A19), (20, A20), (21, A21), (22, A22), (23, A23), (24, A24), (29, A29), (36, A36), (38, A38), (42, A42), (43, A43), (44, A44), (45, A45), (46, A46), (47, A47), (48, A48), (49, A49), (50, A50), (54, A54), (55, A55), (56, A56), (57, A57), (58, A58), (59, A59), (64, A64), (71, A71), (72, A72), (73, A73), (74, A74), (75, A75), (76, A76), (77, A77), (78, A78), (79, A79), (80, A80), (81, A81), (82, A82), (83, A83), (92, A92), (93, A93), (94, A94), (95, A95), (96, A96), (97, A97), (100, A100), (101, A101), (104, A104), (105, A105), (106, A106), (107, A107), (109, A109), (110, A110), (111, A111), (112, A112), (113, A113), (114, A114), (115, A115), (116, A116), (117, A117), (118, A118), (119, A119), (120, A120), (122, A122), (123, A123), (124, A124), (125, A125), (126, A126), (127, A127), (128, A128), (129, A129), (130, A130), (131, A131), (132, A132), (136, A136), (145, A145), (146, A146), (147, A147), (148, A148), (149, A149), (150, A150), (152, A152), (154, A154), (155, A155), (156, A156), (157, A157), (158, A158), (159, A159), (160, A160), (161, A161), (162, A162), (163, A163), (164, A164), (165, A165), (166, A166), (167, A167), (168, A168), (169, A169), (173, A173), (174, A174), (175, A175), (176, A176), (177, A177), (178, A178), (179, A179), (180, A180), (181, A181), (182, A182), (183, A183), (184, A184), (187, A187), (196, A196), (197, A197), (199, A199), (200, A200), (201, A201), (202, A202), (204, A204), (205, A205), (206, A206), (208, A208), (209, A209), (210, A210), (211, A211), (212, A212), (213, A213), (214, A214), (216, A216), (217, A217), (218, A218), (219, A219), (225, A225), (229, A229), (238, A238), (245, A245), (247, A247), (251, A251), (252, A252), (253, A253), (254, A254), (255, A255), (256, A256), (257, A257), (260, A260), (261, A261), (262, A262), (263, A263), (264, A264), (265, A265), (266, A266), (267, A267), (268, A268), (270, A270), (276, A276), (282, A282), (283, A283), (284, A284), (287, A287), (288, A288), (289, A289), (290, A290), (291, A291), (292, A292), (301, A301), (310, A310), (311, A311), (314, A314), (318, A318), (324, A324), (333, A333), (341, A341), (344, A344), (349, A349), (12, A12), (15, A15), (16, A16), (39, A39), (40, A40), (41, A41)]

def tyF (l : List (Nat × TI)) (t : TypeId) : Option TI := match l with
  | [] => none
  | (g, A) :: r => match Nat.beq g t with
    | true => some A
    | false => tyF r t
def annF (l : List (Nat × Ann)) (f : FuncId) : Option Ann := match l with
  | [] => none
  | (g, A) :: r => match Nat.beq g f with
    | true => some A
    | false => annF r f
def extG (f : FuncId) : Option (List T → Option T) := match Nat.beq f 185 with | true => some idxG | false => match Nat.beq f 198 with | true => some joinG | false => none
def extP (f : FuncId) : Bool := (extG f).isSome
def extF : CallF := fun f args σ => match extG f with
  | some g => gExt g args σ
  | none => none
noncomputable def S : Sy := { P := Tryz.prog, ty := tyF tyL, ann := annF annL, ext := extF, extPure := extP }
def ixL : List Nat := [17, 18, 19, 20, 21, 22, 23, 24, 29, 36, 38, 42, 43, 44, 45, 46, 47, 48, 49, 50, 54, 55, 56, 57, 58, 59, 64, 71, 72, 73, 74, 75, 76, 77, 78, 79, 80, 81, 82, 83, 92, 93, 94, 95, 96, 97, 100, 101, 104, 105, 106, 107, 109, 110, 111, 112, 113, 114, 115, 116, 117, 118, 119, 120, 122, 123, 124, 125, 126, 127, 128, 129, 130, 131, 132, 136, 145, 146, 147, 148, 149, 150, 152, 154, 155, 156, 157, 158, 159, 160, 161, 162, 163, 164, 165, 166, 167, 168, 169, 173, 174, 175, 176, 177, 178, 179, 180, 181, 182, 183, 184, 185, 187, 196, 197, 198, 199, 200, 201, 202, 204, 205, 206, 208, 209, 210, 211, 212, 213, 214, 216, 217, 218, 219, 225, 229, 238, 245, 247, 251, 252, 253, 254, 255, 256, 257, 260, 261, 262, 263, 264, 265, 266, 267, 268, 270, 276, 282, 283, 284, 287, 288, 289, 290, 291, 292, 301, 310, 311, 314, 318, 324, 333, 341, 344, 349]

def ixG : List Nat → Nat → Nat → Ix
  | [], _, _ => none
  | g :: r, i, h => match Nat.beq g h with
    | true => match ixI (i / 16), ixI (i % 16) with
      | some a, some b => some (a, b)
      | _, _ => none
    | false => ixG r (i + 1) h
def ixf (h : FuncId) : Ix := ixG ixL 0 h
end X
