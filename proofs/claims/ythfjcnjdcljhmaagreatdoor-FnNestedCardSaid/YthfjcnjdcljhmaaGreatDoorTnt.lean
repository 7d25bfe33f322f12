/- The seat's system: the types it asks of, how each function is called. By a printer of this session's. No statement of the claim is in it. -/
import Derived.Test.YthfjcnjdcljhmaaGreatDoorProg
import Derived.Test.YthfjcnjdcljhmaaGreatDoorVd
import Derived.KernelRfl
open Go Go.V Go.Proofs
namespace X
set_option maxRecDepth 100000
set_option maxHeartbeats 4000000
set_option linter.unusedSimpArgs false
set_option linter.unusedVariables false
def tyL : List (Nat × TI) := [(2, { agg := false, size := 1, bytes := 8, zero := (some (.int .i64 (.ofNat 0))), shape := (.int .i64), eqs := false }),
  (3, { agg := false, size := 1, bytes := 8, zero := (some (.int .i64 (.ofNat 0))), shape := (.int .i64), eqs := false }),
  (4, { agg := false, size := 1, bytes := 1, zero := (some (.bool false)), shape := .bool, eqs := false }),
  (5, { agg := false, size := 1, bytes := 1, zero := (some (.int .u8 (.ofNat 0))), shape := (.int .u8), eqs := false }),
  (9, { agg := false, size := 1, bytes := 16, zero := (some (.str [])), shape := .str, eqs := false }),
  (22, { agg := false, size := 1, bytes := 24, zero := (some .nils), shape := (.slice 5), eqs := false }),
  (24, { agg := false, size := 1, bytes := 24, zero := (some .nils), shape := (.slice 3), eqs := false }),
  (26, { agg := false, size := 1, bytes := 24, zero := (some .nils), shape := (.slice 71), eqs := false }),
  (28, { agg := true, size := 1, bytes := 24, zero := (some (.agg [.nils])), shape := (.struct [(0, 26)]), eqs := false }),
  (30, { agg := false, size := 1, bytes := 24, zero := (some .nils), shape := (.slice 9), eqs := false }),
  (45, { agg := false, size := 1, bytes := 24, zero := (some .nils), shape := (.slice 154), eqs := false }),
  (46, { agg := false, size := 1, bytes := 24, zero := (some .nils), shape := (.slice 96), eqs := false }),
  (48, { agg := true, size := 2, bytes := 48, zero := (some (.agg [.nils, .nils])), shape := (.struct [(0, 45), (1, 46)]), eqs := false }),
  (69, { agg := false, size := 1, bytes := 24, zero := (some .nils), shape := (.slice 133), eqs := false }),
  (71, { agg := true, size := 3, bytes := 64, zero := (some (.agg [(.str []), .nils, .nils])), shape := (.struct [(0, 9), (1, 30), (2, 69)]), eqs := false }),
  (84, { agg := false, size := 1, bytes := 24, zero := (some .nils), shape := (.slice 98), eqs := false }),
  (89, { agg := true, size := 4, bytes := 80, zero := (some (.agg [.nils, .nils, .nils, (.bool false)])), shape := (.struct [(0, 84), (1, 48), (3, 4)]), eqs := false }),
  (93, { agg := true, size := 5, bytes := 72, zero := (some (.agg [.nils, (.int .i64 (.ofNat 0)), (.int .i64 (.ofNat 0)), (.bool false), .nils])), shape := (.struct [(0, 84), (1, 3), (2, 3), (3, 4), (4, 45)]), eqs := false }),
  (96, { agg := true, size := 3, bytes := 48, zero := (some (.agg [(.str []), .nils, (.int .i64 (.ofNat 0))])), shape := (.struct [(0, 9), (1, 30), (2, 3)]), eqs := false }),
  (98, { agg := true, size := 2, bytes := 24, zero := (some (.agg [(.int .i64 (.ofNat 0)), (.str [])])), shape := (.struct [(0, 3), (1, 9)]), eqs := true }),
  (131, { agg := false, size := 1, bytes := 24, zero := (some .nils), shape := (.slice 141), eqs := false }),
  (133, { agg := true, size := 1, bytes := 24, zero := (some (.agg [.nils])), shape := (.struct [(0, 131)]), eqs := false }),
  (136, { agg := true, size := 3, bytes := 40, zero := (some (.agg [.nils, (.int .i64 (.ofNat 0)), (.int .i64 (.ofNat 0))])), shape := (.struct [(0, 22), (1, 3), (2, 3)]), eqs := false }),
  (137, { agg := false, size := 1, bytes := 8, zero := (some (.int .u64 (.ofNat 0))), shape := (.int .u64), eqs := false }),
  (139, { agg := false, size := 1, bytes := 24, zero := (some .nils), shape := (.slice 236), eqs := false }),
  (141, { agg := true, size := 4, bytes := 64, zero := (some (.agg [(.int .i64 (.ofNat 0)), (.str []), .nils, (.str [])])), shape := (.struct [(0, 3), (1, 9), (2, 139), (3, 9)]), eqs := false }),
  (154, { agg := true, size := 5, bytes := 88, zero := (some (.agg [(.int .i64 (.ofNat 0)), (.str []), .nils, (.str []), .nils])), shape := (.struct [(0, 3), (1, 9), (2, 139), (3, 9), (4, 24)]), eqs := false }),
  (182, { agg := false, size := 1, bytes := 24, zero := (some .nils), shape := (.slice 188), eqs := false }),
  (184, { agg := true, size := 5, bytes := 104, zero := (some (.agg [.nils, .nils, .nils, .nils, (.int .i64 (.ofNat 0))])), shape := (.struct [(0, 48), (2, 28), (3, 182), (4, 3)]), eqs := false }),
  (188, { agg := true, size := 3, bytes := 40, zero := (some (.agg [(.int .i64 (.ofNat 0)), (.int .i64 (.ofNat 0)), .nils])), shape := (.struct [(0, 3), (1, 3), (2, 30)]), eqs := false }),
  (202, { agg := false, size := 1, bytes := 24, zero := (some .nils), shape := (.slice 250), eqs := false }),
  (204, { agg := true, size := 4, bytes := 80, zero := (some (.agg [.nils, .nils, .nils, (.bool false)])), shape := (.struct [(0, 48), (2, 202), (3, 4)]), eqs := false }),
  (234, { agg := false, size := 1, bytes := 24, zero := (some .nils), shape := (.slice 268), eqs := false }),
  (236, { agg := true, size := 1, bytes := 24, zero := (some (.agg [.nils])), shape := (.struct [(0, 234)]), eqs := false }),
  (250, { agg := true, size := 2, bytes := 32, zero := (some (.agg [(.int .i64 (.ofNat 0)), .nils])), shape := (.struct [(0, 3), (1, 30)]), eqs := false }),
  (268, { agg := true, size := 4, bytes := 56, zero := (some (.agg [(.int .i64 (.ofNat 0)), (.int .i64 (.ofNat 0)), (.str []), .nils])), shape := (.struct [(0, 3), (1, 3), (2, 9), (3, 24)]), eqs := false }),
  (271, { agg := false, size := 1, bytes := 8, zero := (some (.int .i64 (.ofNat 0))), shape := (.int .i64), eqs := false }),
  (279, { agg := false, size := 1, bytes := 4, zero := (some (.int .u32 (.ofNat 0))), shape := (.int .u32), eqs := false }),
  (281, { agg := false, size := 1, bytes := 8, zero := (some (.int .u64 (.ofNat 0))), shape := (.int .u64), eqs := false }),
  (343, { agg := true, size := 24, bytes := 24, zero := (some (.agg [(.int .u8 (.ofNat 0)), (.int .u8 (.ofNat 0)), (.int .u8 (.ofNat 0)), (.int .u8 (.ofNat 0)), (.int .u8 (.ofNat 0)), (.int .u8 (.ofNat 0)), (.int .u8 (.ofNat 0)), (.int .u8 (.ofNat 0)), (.int .u8 (.ofNat 0)), (.int .u8 (.ofNat 0)), (.int .u8 (.ofNat 0)), (.int .u8 (.ofNat 0)), (.int .u8 (.ofNat 0)), (.int .u8 (.ofNat 0)), (.int .u8 (.ofNat 0)), (.int .u8 (.ofNat 0)), (.int .u8 (.ofNat 0)), (.int .u8 (.ofNat 0)), (.int .u8 (.ofNat 0)), (.int .u8 (.ofNat 0)), (.int .u8 (.ofNat 0)), (.int .u8 (.ofNat 0)), (.int .u8 (.ofNat 0)), (.int .u8 (.ofNat 0))])), shape := (.array 24 5), eqs := false })]
/-- loop.example/g00243/laws.row -/
def A19 : Ann := { vars := List.range 16, kills := [], owned := [], isPure := true, dyn := [], bad := [], pend := [] }
/-- loop.example/g00243/spec.Decimal -/
def A20 : Ann := { vars := List.range 30, kills := [], owned := [(9, 2)], isPure := true, dyn := [], bad := [], pend := [] }
/-- loop.example/g00243/spec.GrammarOk -/
def A21 : Ann := { vars := List.range 45, kills := [], owned := [], isPure := true, dyn := [], bad := [], pend := [] }
/-- loop.example/g00243/impl.BindNum -/
def A22 : Ann := { vars := List.range 36, kills := [], owned := [], isPure := true, dyn := [], bad := [], pend := [] }
/-- loop.example/g00243/impl.ReadSurface -/
def A28 : Ann := { vars := List.range 49, kills := [], owned := [], isPure := true, dyn := [], bad := [], pend := [] }
/-- loop.example/g00243/spec.ReadSurface -/
def A29 : Ann := { vars := List.range 127, kills := [], owned := [], isPure := true, dyn := [], bad := [], pend := [] }
/-- loop.example/g00243/impl.GrammarOk -/
def A38 : Ann := { vars := List.range 69, kills := [], owned := [], isPure := true, dyn := [], bad := [], pend := [] }
/-- loop.example/g00243/spec.l01Figure -/
def A44 : Ann := { vars := List.range 12, kills := [], owned := [], isPure := true, dyn := [], bad := [], pend := [] }
/-- loop.example/g00243/spec.l01In -/
def A45 : Ann := { vars := List.range 15, kills := [], owned := [], isPure := true, dyn := [], bad := [], pend := [] }
/-- loop.example/g00243/spec.RuleAt -/
def A46 : Ann := { vars := List.range 22, kills := [], owned := [], isPure := true, dyn := [], bad := [], pend := [] }
/-- loop.example/g00243/spec.l06Rule -/
def A47 : Ann := { vars := List.range 92, kills := [], owned := [], isPure := false, dyn := [], bad := [], pend := [] }
/-- loop.example/g00243/impl.within -/
def A48 : Ann := { vars := List.range 15, kills := [], owned := [], isPure := true, dyn := [], bad := [], pend := [] }
/-- loop.example/g00243/impl.isFigure -/
def A49 : Ann := { vars := List.range 6, kills := [], owned := [], isPure := true, dyn := [], bad := [], pend := [] }
/-- loop.example/g00243/impl.Tokens -/
def A51 : Ann := { vars := List.range 44, kills := [], owned := [], isPure := false, dyn := [], bad := [], pend := [] }
/-- (*loop.example/g00243/impl.surfaceReader).rule -/
def A52 : Ann := { vars := List.range 54, kills := [], owned := [(13, 7)], isPure := false, dyn := [], bad := [], pend := [] }
/-- loop.example/g00243/impl.SurfaceOk -/
def A53 : Ann := { vars := List.range 11, kills := [], owned := [], isPure := false, dyn := [], bad := [], pend := [] }
/-- loop.example/g00243/spec.Tokens -/
def A54 : Ann := { vars := List.range 67, kills := [], owned := [], isPure := false, dyn := [], bad := [], pend := [] }
/-- (*loop.example/g00243/spec.l11Read).kind -/
def A55 : Ann := { vars := List.range 57, kills := [], owned := [], isPure := false, dyn := [], bad := [], pend := [] }
/-- (*loop.example/g00243/spec.l11Read).sign -/
def A56 : Ann := { vars := List.range 16, kills := [], owned := [], isPure := false, dyn := [], bad := [], pend := [] }
/-- (*loop.example/g00243/spec.l11Read).want -/
def A57 : Ann := { vars := List.range 11, kills := [], owned := [], isPure := false, dyn := [], bad := [], pend := [] }
/-- (*loop.example/g00243/spec.l11Read).alts -/
def A58 : Ann := { vars := List.range 22, kills := [], owned := [(2, 2)], isPure := false, dyn := [], bad := [], pend := [] }
/-- loop.example/g00243/spec.SurfaceOk -/
def A59 : Ann := { vars := List.range 14, kills := [], owned := [], isPure := true, dyn := [], bad := [], pend := [] }
/-- loop.example/g00243/impl.RuleName -/
def A71 : Ann := { vars := List.range 29, kills := [], owned := [], isPure := true, dyn := [], bad := [], pend := [] }
/-- loop.example/g00243/impl.RuleAt -/
def A72 : Ann := { vars := List.range 9, kills := [], owned := [], isPure := true, dyn := [], bad := [], pend := [] }
/-- loop.example/g00243/impl.paramsOk -/
def A73 : Ann := { vars := List.range 32, kills := [], owned := [], isPure := false, dyn := [], bad := [], pend := [] }
/-- loop.example/g00243/impl.altOk -/
def A74 : Ann := { vars := List.range 39, kills := [], owned := [], isPure := false, dyn := [], bad := [], pend := [] }
/-- loop.example/g00243/spec.l11Form -/
def A75 : Ann := { vars := List.range 166, kills := [], owned := [], isPure := false, dyn := [], bad := [], pend := [] }
/-- loop.example/g00243/spec.l12Flat -/
def A76 : Ann := { vars := List.range 142, kills := [], owned := [(8, 16), (17, 14)], isPure := false, dyn := [8], bad := [], pend := [] }
/-- loop.example/g00243/spec.RuleName -/
def A78 : Ann := { vars := List.range 54, kills := [], owned := [], isPure := true, dyn := [], bad := [], pend := [] }
/-- loop.example/g00243/spec.l06Params -/
def A79 : Ann := { vars := List.range 35, kills := [], owned := [], isPure := false, dyn := [], bad := [], pend := [] }
/-- loop.example/g00243/spec.l06Sym -/
def A80 : Ann := { vars := List.range 108, kills := [], owned := [], isPure := false, dyn := [], bad := [], pend := [] }
/-- loop.example/g00243/impl.skipped -/
def A84 : Ann := { vars := List.range 33, kills := [], owned := [], isPure := true, dyn := [], bad := [], pend := [] }
/-- loop.example/g00243/impl.tokenAt -/
def A85 : Ann := { vars := List.range 100, kills := [], owned := [], isPure := false, dyn := [], bad := [], pend := [] }
/-- (*loop.example/g00243/impl.surfaceReader).kind -/
def A86 : Ann := { vars := List.range 22, kills := [], owned := [], isPure := false, dyn := [], bad := [], pend := [] }
/-- (*loop.example/g00243/impl.surfaceReader).next -/
def A87 : Ann := { vars := List.range 29, kills := [], owned := [], isPure := false, dyn := [], bad := [], pend := [] }
/-- (*loop.example/g00243/impl.surfaceReader).take -/
def A88 : Ann := { vars := List.range 19, kills := [], owned := [], isPure := false, dyn := [], bad := [], pend := [] }
/-- (*loop.example/g00243/impl.surfaceReader).want -/
def A89 : Ann := { vars := List.range 11, kills := [], owned := [], isPure := false, dyn := [], bad := [], pend := [] }
/-- (*loop.example/g00243/impl.surfaceReader).alternatives -/
def A90 : Ann := { vars := List.range 35, kills := [], owned := [], isPure := false, dyn := [], bad := [], pend := [] }
/-- loop.example/g00243/impl.Flatten -/
def A91 : Ann := { vars := List.range 84, kills := [], owned := [(11, 9)], isPure := false, dyn := [11], bad := [], pend := [] }
/-- loop.example/g00243/spec.l10One -/
def A92 : Ann := { vars := List.range 213, kills := [], owned := [], isPure := false, dyn := [], bad := [], pend := [] }
/-- (*loop.example/g00243/spec.l11Read).is -/
def A93 : Ann := { vars := List.range 51, kills := [], owned := [], isPure := false, dyn := [], bad := [], pend := [] }
/-- (*loop.example/g00243/spec.l11Read).down -/
def A94 : Ann := { vars := List.range 18, kills := [], owned := [], isPure := false, dyn := [], bad := [], pend := [] }
/-- (*loop.example/g00243/spec.l11Read).row -/
def A95 : Ann := { vars := List.range 27, kills := [], owned := [], isPure := false, dyn := [], bad := [], pend := [] }
/-- (*loop.example/g00243/spec.l11Read).up -/
def A96 : Ann := { vars := List.range 10, kills := [], owned := [], isPure := false, dyn := [], bad := [], pend := [] }
/-- (*loop.example/g00243/spec.l11Read).put -/
def A97 : Ann := { vars := List.range 30, kills := [], owned := [(1, 6)], isPure := false, dyn := [], bad := [], pend := [] }
/-- loop.example/g00243/impl.copyInts -/
def A101 : Ann := { vars := List.range 6, kills := [], owned := [], isPure := false, dyn := [], bad := [], pend := [] }
/-- loop.example/g00243/impl.isLetter -/
def A110 : Ann := { vars := List.range 10, kills := [], owned := [], isPure := true, dyn := [], bad := [], pend := [] }
/-- slices.IndexFunc[[]loop.example/g00243/impl.Rule,loop.example/g00243/impl.Rule] -/
def A111 : Ann := { vars := List.range 19, kills := [], owned := [], isPure := false, dyn := [], bad := [], pend := [] }
/-- loop.example/g00243/impl.RuleAt$1 -/
def A112 : Ann := { vars := List.range 8, kills := [], owned := [], isPure := false, dyn := [], bad := [], pend := [] }
/-- loop.example/g00243/impl.VarName -/
def A113 : Ann := { vars := List.range 18, kills := [], owned := [], isPure := true, dyn := [], bad := [], pend := [] }
/-- loop.example/g00243/impl.copyTexts -/
def A114 : Ann := { vars := List.range 6, kills := [], owned := [], isPure := false, dyn := [], bad := [], pend := [] }
/-- loop.example/g00243/impl.altOk$1 -/
def A115 : Ann := { vars := List.range 17, kills := [], owned := [], isPure := false, dyn := [], bad := [], pend := [] }
/-- loop.example/g00243/impl.symOk -/
def A116 : Ann := { vars := List.range 79, kills := [], owned := [], isPure := false, dyn := [8], bad := [], pend := [] }
/-- loop.example/g00243/spec.l11Shape -/
def A117 : Ann := { vars := List.range 124, kills := [], owned := [], isPure := false, dyn := [], bad := [], pend := [] }
/-- loop.example/g00243/spec.l11Alt -/
def A118 : Ann := { vars := List.range 32, kills := [], owned := [], isPure := false, dyn := [], bad := [], pend := [] }
/-- loop.example/g00243/spec.l10Figure -/
def A119 : Ann := { vars := List.range 9, kills := [], owned := [], isPure := true, dyn := [], bad := [], pend := [] }
/-- (*loop.example/g00243/spec.l12Make).row -/
def A120 : Ann := { vars := List.range 122, kills := [], owned := [(15, 11), (16, 19)], isPure := false, dyn := [15], bad := [], pend := [] }
/-- (*loop.example/g00243/spec.l12Make).group -/
def A121 : Ann := { vars := List.range 124, kills := [], owned := [(12, 2), (12, 4), (18, 1)], isPure := false, dyn := [11], bad := [], pend := [11] }
/-- loop.example/g00243/spec.l06Text -/
def A123 : Ann := { vars := List.range 38, kills := [], owned := [], isPure := true, dyn := [], bad := [], pend := [] }
/-- loop.example/g00243/spec.l06Args -/
def A125 : Ann := { vars := List.range 19, kills := [], owned := [], isPure := false, dyn := [], bad := [], pend := [] }
/-- strings.IndexByte -/
def A132 : Ann := { vars := List.range 8, kills := [], owned := [], isPure := true, dyn := [], bad := [], pend := [] }
/-- loop.example/g00243/impl.runOf -/
def A133 : Ann := { vars := List.range 41, kills := [], owned := [], isPure := true, dyn := [], bad := [], pend := [] }
/-- loop.example/g00243/impl.quoted -/
def A134 : Ann := { vars := List.range 38, kills := [], owned := [], isPure := false, dyn := [], bad := [], pend := [] }
/-- loop.example/g00243/impl.setToken -/
def A135 : Ann := { vars := List.range 35, kills := [], owned := [], isPure := false, dyn := [], bad := [], pend := [] }
/-- strings.HasPrefix -/
def A136 : Ann := { vars := List.range 8, kills := [], owned := [], isPure := true, dyn := [], bad := [], pend := [] }
/-- (*loop.example/g00243/impl.surfaceReader).is -/
def A137 : Ann := { vars := List.range 22, kills := [], owned := [], isPure := false, dyn := [], bad := [], pend := [] }
/-- (*loop.example/g00243/impl.surfaceReader).deeper -/
def A138 : Ann := { vars := List.range 15, kills := [], owned := [], isPure := false, dyn := [], bad := [], pend := [] }
/-- (*loop.example/g00243/impl.surfaceReader).row -/
def A139 : Ann := { vars := List.range 40, kills := [], owned := [], isPure := false, dyn := [], bad := [], pend := [] }
/-- (*loop.example/g00243/impl.surfaceReader).put -/
def A140 : Ann := { vars := List.range 24, kills := [], owned := [(1, 7)], isPure := false, dyn := [], bad := [], pend := [] }
/-- (*loop.example/g00243/impl.Surface).formed -/
def A141 : Ann := { vars := List.range 25, kills := [], owned := [], isPure := false, dyn := [], bad := [], pend := [] }
/-- loop.example/g00243/impl.isMade -/
def A142 : Ann := { vars := List.range 16, kills := [], owned := [], isPure := true, dyn := [], bad := [], pend := [] }
/-- (*loop.example/g00243/impl.flattener).alts -/
def A143 : Ann := { vars := List.range 59, kills := [], owned := [], isPure := false, dyn := [], bad := [], pend := [] }
/-- (*loop.example/g00243/impl.flattener).rule -/
def A144 : Ann := { vars := List.range 103, kills := [], owned := [(17, 1)], isPure := false, dyn := [3], bad := [], pend := [3] }
/-- loop.example/g00243/spec.l10Letter -/
def A145 : Ann := { vars := List.range 17, kills := [], owned := [], isPure := true, dyn := [], bad := [], pend := [] }
/-- (*loop.example/g00243/spec.l11Read).thing -/
def A146 : Ann := { vars := List.range 85, kills := [], owned := [(16, 2), (21, 0), (26, 4)], isPure := false, dyn := [], bad := [], pend := [] }
/-- loop.example/g00243/impl.Decimal -/
def A148 : Ann := { vars := List.range 5, kills := [], owned := [], isPure := true, dyn := [], bad := [], pend := [] }
/-- loop.example/g00243/impl.isSmall -/
def A161 : Ann := { vars := List.range 6, kills := [], owned := [], isPure := true, dyn := [], bad := [], pend := [] }
/-- loop.example/g00243/impl.textOk -/
def A162 : Ann := { vars := List.range 25, kills := [], owned := [], isPure := true, dyn := [], bad := [], pend := [] }
/-- loop.example/g00243/impl.SetOk -/
def A163 : Ann := { vars := List.range 11, kills := [], owned := [], isPure := true, dyn := [], bad := [], pend := [] }
/-- loop.example/g00243/impl.argsKnown -/
def A164 : Ann := { vars := List.range 31, kills := [], owned := [], isPure := false, dyn := [], bad := [], pend := [] }
/-- loop.example/g00243/impl.bindOk -/
def A165 : Ann := { vars := List.range 22, kills := [], owned := [], isPure := false, dyn := [], bad := [], pend := [] }
/-- loop.example/g00243/spec.l11InRow -/
def A166 : Ann := { vars := List.range 5, kills := [], owned := [], isPure := true, dyn := [], bad := [], pend := [] }
/-- loop.example/g00243/spec.l11Row -/
def A167 : Ann := { vars := List.range 61, kills := [], owned := [], isPure := false, dyn := [7, 11], bad := [], pend := [] }
/-- loop.example/g00243/spec.l11Leaf -/
def A168 : Ann := { vars := List.range 12, kills := [], owned := [], isPure := false, dyn := [], bad := [], pend := [] }
/-- loop.example/g00243/spec.l04Copies -/
def A169 : Ann := { vars := List.range 50, kills := [], owned := [], isPure := false, dyn := [], bad := [], pend := [] }
/-- loop.example/g00243/spec.l12Vars -/
def A170 : Ann := { vars := List.range 21, kills := [], owned := [], isPure := false, dyn := [], bad := [], pend := [] }
/-- loop.example/g00243/spec.l11Group -/
def A171 : Ann := { vars := List.range 21, kills := [], owned := [], isPure := false, dyn := [], bad := [], pend := [] }
/-- loop.example/g00243/spec.l06Copy -/
def A172 : Ann := { vars := List.range 96, kills := [], owned := [], isPure := false, dyn := [5], bad := [], pend := [5] }
/-- loop.example/g00243/spec.l05Byte -/
def A173 : Ann := { vars := List.range 17, kills := [], owned := [], isPure := true, dyn := [], bad := [], pend := [] }
/-- math/bits.Len -/
def A182 : Ann := { vars := List.range 8, kills := [], owned := [], isPure := true, dyn := [], bad := [], pend := [] }
/-- strings.Contains -/
def A186 : Ann := { vars := List.range 9, kills := [], owned := [], isPure := true, dyn := [], bad := [], pend := [] }
/-- internal/stringslite.HasPrefix -/
def A187 : Ann := { vars := List.range 18, kills := [], owned := [], isPure := true, dyn := [], bad := [], pend := [] }
/-- (*loop.example/g00243/impl.surfaceReader).thing -/
def A188 : Ann := { vars := List.range 51, kills := [], owned := [(10, 2)], isPure := false, dyn := [], bad := [], pend := [] }
/-- (*loop.example/g00243/impl.Surface).shaped -/
def A189 : Ann := { vars := List.range 165, kills := [], owned := [], isPure := false, dyn := [], bad := [], pend := [] }
/-- (*loop.example/g00243/impl.Surface).altKnown -/
def A190 : Ann := { vars := List.range 86, kills := [], owned := [], isPure := false, dyn := [], bad := [], pend := [] }
/-- (*loop.example/g00243/impl.Surface).kindAt -/
def A191 : Ann := { vars := List.range 22, kills := [], owned := [], isPure := false, dyn := [], bad := [], pend := [] }
/-- (*loop.example/g00243/impl.flattener).row -/
def A192 : Ann := { vars := List.range 128, kills := [], owned := [], isPure := false, dyn := [], bad := [], pend := [] }
/-- loop.example/g00243/impl.callOf -/
def A193 : Ann := { vars := List.range 29, kills := [], owned := [(5, 4)], isPure := false, dyn := [], bad := [], pend := [] }
/-- loop.example/g00243/impl.isSigned -/
def A194 : Ann := { vars := List.range 5, kills := [], owned := [], isPure := true, dyn := [], bad := [], pend := [] }
/-- strconv.Itoa -/
def A199 : Ann := { vars := List.range 5, kills := [], owned := [], isPure := true, dyn := [], bad := [], pend := [] }
/-- loop.example/g00243/impl.isSetByte -/
def A209 : Ann := { vars := List.range 9, kills := [], owned := [], isPure := true, dyn := [], bad := [], pend := [] }
/-- loop.example/g00243/impl.readSet -/
def A210 : Ann := { vars := List.range 83, kills := [], owned := [], isPure := false, dyn := [], bad := [], pend := [] }
/-- loop.example/g00243/impl.FreeOf -/
def A211 : Ann := { vars := List.range 31, kills := [], owned := [], isPure := false, dyn := [], bad := [], pend := [] }
/-- slices.Contains[[]string,string] -/
def A212 : Ann := { vars := List.range 9, kills := [], owned := [], isPure := false, dyn := [], bad := [], pend := [] }
/-- loop.example/g00243/impl.ExprOk -/
def A213 : Ann := { vars := List.range 22, kills := [], owned := [], isPure := false, dyn := [], bad := [], pend := [] }
/-- loop.example/g00243/spec.l11Params -/
def A214 : Ann := { vars := List.range 28, kills := [], owned := [], isPure := false, dyn := [], bad := [], pend := [] }
/-- math/bits.Len64 -/
def A229 : Ann := { vars := List.range 25, kills := [], owned := [], isPure := true, dyn := [], bad := [], pend := [] }
/-- strings.Index -/
def A234 : Ann := { vars := List.range 8, kills := [], owned := [], isPure := true, dyn := [], bad := [], pend := [] }
/-- (*loop.example/g00243/impl.surfaceReader).whole -/
def A235 : Ann := { vars := List.range 11, kills := [], owned := [], isPure := false, dyn := [], bad := [], pend := [] }
/-- (*loop.example/g00243/impl.surfaceReader).group -/
def A236 : Ann := { vars := List.range 35, kills := [], owned := [(3, 0), (8, 4)], isPure := false, dyn := [], bad := [], pend := [] }
/-- (*loop.example/g00243/impl.surfaceReader).call -/
def A237 : Ann := { vars := List.range 62, kills := [], owned := [], isPure := false, dyn := [], bad := [], pend := [] }
/-- loop.example/g00243/impl.kidsAhead -/
def A238 : Ann := { vars := List.range 19, kills := [], owned := [], isPure := false, dyn := [], bad := [], pend := [] }
/-- (*loop.example/g00243/impl.Surface).kidsFit -/
def A239 : Ann := { vars := List.range 63, kills := [], owned := [], isPure := false, dyn := [], bad := [], pend := [] }
/-- loop.example/g00243/impl.isThing -/
def A240 : Ann := { vars := List.range 5, kills := [], owned := [], isPure := true, dyn := [], bad := [], pend := [] }
/-- slices.ContainsFunc[[]loop.example/g00243/impl.SRule,loop.example/g00243/impl.SRule] -/
def A241 : Ann := { vars := List.range 9, kills := [], owned := [], isPure := false, dyn := [], bad := [], pend := [] }
/-- (*loop.example/g00243/impl.Surface).shaped$1 -/
def A242 : Ann := { vars := List.range 16, kills := [], owned := [], isPure := false, dyn := [], bad := [], pend := [] }
/-- loop.example/g00243/impl.symOf -/
def A243 : Ann := { vars := List.range 13, kills := [], owned := [], isPure := false, dyn := [1], bad := [], pend := [] }
/-- (*loop.example/g00243/impl.Surface).paramCount -/
def A244 : Ann := { vars := List.range 24, kills := [], owned := [], isPure := false, dyn := [], bad := [], pend := [] }
/-- slices.Sort[[]string,string] -/
def A245 : Ann := { vars := List.range 11, kills := [], owned := [], isPure := false, dyn := [], bad := [], pend := [] }
/-- internal/strconv.Itoa -/
def A251 : Ann := { vars := List.range 5, kills := [], owned := [], isPure := true, dyn := [], bad := [], pend := [] }
/-- slices.Sort[[]byte,byte] -/
def A264 : Ann := { vars := List.range 11, kills := [], owned := [], isPure := false, dyn := [], bad := [], pend := [] }
/-- slices.Compact[[]byte,byte] -/
def A265 : Ann := { vars := List.range 61, kills := [], owned := [], isPure := false, dyn := [], bad := [], pend := [] }
/-- slices.Compact[[]string,string] -/
def A266 : Ann := { vars := List.range 61, kills := [], owned := [], isPure := false, dyn := [], bad := [], pend := [] }
/-- slices.Index[[]string,string] -/
def A267 : Ann := { vars := List.range 19, kills := [], owned := [], isPure := false, dyn := [], bad := [], pend := [] }
/-- loop.example/g00243/impl.exNodeOk -/
def A268 : Ann := { vars := List.range 56, kills := [], owned := [], isPure := false, dyn := [], bad := [], pend := [] }
/-- internal/stringslite.Index -/
def A278 : Ann := { vars := List.range 143, kills := [], owned := [], isPure := true, dyn := [], bad := [], pend := [] }
/-- (*loop.example/g00243/impl.surfaceReader).expr -/
def A279 : Ann := { vars := List.range 30, kills := [], owned := [(6, 3)], isPure := false, dyn := [], bad := [], pend := [] }
/-- slices.IndexFunc[[]loop.example/g00243/impl.SRule,loop.example/g00243/impl.SRule] -/
def A280 : Ann := { vars := List.range 19, kills := [], owned := [], isPure := false, dyn := [], bad := [], pend := [] }
/-- loop.example/g00243/impl.copyExprs -/
def A281 : Ann := { vars := List.range 20, kills := [], owned := [], isPure := false, dyn := [], bad := [], pend := [] }
/-- slices.pdqsortOrdered[string] -/
def A282 : Ann := { vars := List.range 134, kills := [], owned := [], isPure := false, dyn := [], bad := [], pend := [] }
/-- internal/strconv.FormatInt -/
def A287 : Ann := { vars := List.range 54, kills := [], owned := [], isPure := true, dyn := [], bad := [], pend := [] }
/-- slices.pdqsortOrdered[byte] -/
def A291 : Ann := { vars := List.range 134, kills := [], owned := [], isPure := false, dyn := [], bad := [], pend := [] }
/-- loop.example/g00243/impl.kidCount -/
def A292 : Ann := { vars := List.range 12, kills := [], owned := [], isPure := true, dyn := [], bad := [], pend := [] }
/-- (*loop.example/g00243/impl.surfaceReader).comparing -/
def A298 : Ann := { vars := List.range 35, kills := [], owned := [(8, 4)], isPure := false, dyn := [], bad := [], pend := [] }
/-- (*loop.example/g00243/impl.Expr).add -/
def A299 : Ann := { vars := List.range 21, kills := [], owned := [(1, 6)], isPure := false, dyn := [], bad := [], pend := [] }
/-- loop.example/g00243/impl.copyExpr -/
def A300 : Ann := { vars := List.range 26, kills := [], owned := [], isPure := false, dyn := [], bad := [], pend := [] }
/-- slices.insertionSortOrdered[string] -/
def A301 : Ann := { vars := List.range 49, kills := [], owned := [], isPure := false, dyn := [], bad := [], pend := [] }
/-- internal/strconv.small -/
def A314 : Ann := { vars := List.range 15, kills := [], owned := [], isPure := true, dyn := [], bad := [], pend := [] }
/-- slices.insertionSortOrdered[byte] -/
def A318 : Ann := { vars := List.range 49, kills := [], owned := [], isPure := false, dyn := [], bad := [], pend := [] }
/-- cmp.Less[byte] -/
def A324 : Ann := { vars := List.range 17, kills := [], owned := [], isPure := true, dyn := [], bad := [], pend := [] }
/-- (*loop.example/g00243/impl.surfaceReader).sum -/
def A328 : Ann := { vars := List.range 38, kills := [], owned := [(9, 4)], isPure := false, dyn := [], bad := [], pend := [] }
/-- cmp.isNaN[byte] -/
def A341 : Ann := { vars := List.range 6, kills := [], owned := [], isPure := true, dyn := [], bad := [], pend := [] }
/-- (*loop.example/g00243/impl.surfaceReader).product -/
def A342 : Ann := { vars := List.range 40, kills := [], owned := [(9, 4)], isPure := false, dyn := [], bad := [], pend := [] }
/-- (*loop.example/g00243/impl.surfaceReader).simple -/
def A348 : Ann := { vars := List.range 62, kills := [], owned := [(5, 2)], isPure := false, dyn := [], bad := [], pend := [] }
/-- loop.example/g00243/laws.FnNested, walked by its words -/
abbrev A9 : Ann := { vars := List.range 81, kills := [], owned := [], isPure := true, dyn := [], bad := [], pend := [] }
/-- loop.example/g00243/laws.big, walked by its words -/
abbrev A15 : Ann := { vars := [0, 2], kills := [], owned := [], isPure := true, dyn := [], bad := [], pend := [] }
/-- loop.example/g00243/spec.DrawPlaces, walked by its words -/
abbrev A16 : Ann := { vars := [0, 2, 3, 4, 5], kills := [], owned := [], isPure := true, dyn := [], bad := [], pend := [] }
/-- loop.example/g00243/spec.l01New, walked by its words -/
abbrev A39 : Ann := { vars := [0, 2, 3, 4], kills := [], owned := [], isPure := false, dyn := [], bad := [], pend := [] }
/-- loop.example/g00243/spec.l01Byte, walked by its words -/
abbrev A40 : Ann := { vars := [0, 2, 3], kills := [], owned := [], isPure := false, dyn := [], bad := [], pend := [] }
/-- loop.example/g00243/spec.l01Below, walked by its words -/
abbrev A41 : Ann := { vars := [0, 1, 4, 5, 6, 7, 8], kills := [], owned := [], isPure := false, dyn := [], bad := [], pend := [] }
def annL : List (Nat × Ann) := [(19, A19), (20, A20), (21, A21), (22, A22), (28, A28), (29, A29), (38, A38), (44, A44), (45, A45), (46, A46), (47, A47), (48, A48), (49, A49), (51, A51), (52, A52), (53, A53), (54, A54), (55, A55), (56, A56), (57, A57), (58, A58), (59, A59), (71, A71), (72, A72), (73, A73), (74, A74), (75, A75), (76, A76), (78, A78), (79, A79), (80, A80), (84, A84), (85, A85), (86, A86), (87, A87), (88, A88), (89, A89), (90, A90), (91, A91), (92, A92), (93, A93), (94, A94), (95, A95), (96, A96), (97, A97), (101, A101), (110, A110), (111, A111), (112, A112), (113, A113), (114, A114), (115, A115), (116, A116), (117, A117), (118, A118), (119, A119), (120, A120), (121, A121), (123, A123), (125, A125), (132, A132), (133, A133), (134, A134), (135, A135), (136, A136), (137, A137), (138, A138), (139, A139), (140, A140), (141, A141), (142, A142), (143, A143), (144, A144), (145, A145), (146, A146), (148, A148), (161, A161), (162, A162), (163, A163), (164, A164), (165, A165), (166, A166), (167, A167), (168, A168), (169, A169), (170, A170), (171, A171), (172, A172), (173, A173), (182, A182), (186, A186), (187, A187), (188, A188), (189, A189), (190, A190), (191, A191), (192, A192), (193, A193), (194, A194), (199, A199), (209, A209), (210, A210), (211, A211), (212, A212), (213, A213), (214, A214), (229, A229), (234, A234), (235, A235), (236, A236), (237, A237), (238, A238), (239, A239), (240, A240), (241, A241), (242, A242), (243, A243), (244, A244), (245, A245), (251, A251), (264, A264), (265, A265), (266, A266), (267, A267), (268, A268), (278, A278), (279, A279), (280, A280), (281, A281), (282, A282), (287, A287), (291, A291), (292, A292), (298, A298), (299, A299), (300, A300), (301, A301), (314, A314), (318, A318), (324, A324), (328, A328), (341, A341), (342, A342), (348, A348), (9, A9), (15, A15), (16, A16), (39, A39), (40, A40), (41, A41)]

def tyF (l : List (Nat × TI)) (t : TypeId) : Option TI := match l with
  | [] => none
  | (g, A) :: r => match Nat.beq g t with
    | true => some A
    | false => tyF r t
def annF (l : List (Nat × Ann)) (f : FuncId) : Option Ann := match l with
  | [] => none
  | (g, A) :: r => match Nat.beq g f with
    | true => some A
    | false => annF r f
def extP (f : FuncId) : Bool := Nat.beq f 185
def extF : CallF := fun f args σ => match extP f with
  | true => (idxExt args).map fun v => (v, σ)
  | false => none
noncomputable def S : Sy := { P := Tryz.prog, ty := tyF tyL, ann := annF annL, ext := extF, extPure := extP }
def ixL : List Nat := [19, 20, 21, 22, 28, 29, 38, 44, 45, 46, 47, 48, 49, 51, 52, 53, 54, 55, 56, 57, 58, 59, 71, 72, 73, 74, 75, 76, 78, 79, 80, 84, 85, 86, 87, 88, 89, 90, 91, 92, 93, 94, 95, 96, 97, 101, 110, 111, 112, 113, 114, 115, 116, 117, 118, 119, 120, 121, 123, 125, 132, 133, 134, 135, 136, 137, 138, 139, 140, 141, 142, 143, 144, 145, 146, 148, 161, 162, 163, 164, 165, 166, 167, 168, 169, 170, 171, 172, 173, 182, 185, 186, 187, 188, 189, 190, 191, 192, 193, 194, 199, 209, 210, 211, 212, 213, 214, 229, 234, 235, 236, 237, 238, 239, 240, 241, 242, 243, 244, 245, 251, 264, 265, 266, 267, 268, 278, 279, 280, 281, 282, 287, 291, 292, 298, 299, 300, 301, 314, 318, 324, 328, 341, 342, 348]

def ixG : List Nat → Nat → Nat → Ix
  | [], _, _ => none
  | g :: r, i, h => match Nat.beq g h with
    | true => match ixI (i / 16), ixI (i % 16) with
      | some a, some b => some (a, b)
      | _, _ => none
    | false => ixG r (i + 1) h
def ixf (h : FuncId) : Ix := ixG ixL 0 h
end X
