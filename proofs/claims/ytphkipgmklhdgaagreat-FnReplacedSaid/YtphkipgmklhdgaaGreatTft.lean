/- The seat's system: the types it asks of, how each function is called. By a printer of this session's. No statement of the claim is in it. -/
import Derived.Test.YtphkipgmklhdgaaGreatProg
import Derived.Test.YtphkipgmklhdgaaGreatVd
import Derived.KernelRfl
open Go Go.V Go.Proofs
namespace X
set_option maxRecDepth 100000
set_option maxHeartbeats 4000000
set_option linter.unusedSimpArgs false
set_option linter.unusedVariables false
def tyL : List (Nat × TI) := [(3, { agg := false, size := 1, bytes := 8, zero := (some (.int .i64 (.ofNat 0))), shape := (.int .i64), eqs := false }),
  (4, { agg := false, size := 1, bytes := 1, zero := (some (.bool false)), shape := .bool, eqs := false }),
  (5, { agg := false, size := 1, bytes := 1, zero := (some (.int .u8 (.ofNat 0))), shape := (.int .u8), eqs := false }),
  (9, { agg := false, size := 1, bytes := 16, zero := (some (.str [])), shape := .str, eqs := false }),
  (22, { agg := false, size := 1, bytes := 24, zero := (some .nils), shape := (.slice 5), eqs := false }),
  (24, { agg := false, size := 1, bytes := 24, zero := (some .nils), shape := (.slice 66), eqs := false }),
  (26, { agg := true, size := 1, bytes := 24, zero := (some (.agg [.nils])), shape := (.struct [(0, 24)]), eqs := false }),
  (29, { agg := false, size := 1, bytes := 24, zero := (some .nils), shape := (.slice 34), eqs := false }),
  (34, { agg := true, size := 2, bytes := 16, zero := (some (.agg [(.int .i64 (.ofNat 0)), (.int .i64 (.ofNat 0))])), shape := (.struct [(0, 3), (1, 3)]), eqs := true }),
  (45, { agg := false, size := 1, bytes := 24, zero := (some .nils), shape := (.slice 9), eqs := false }),
  (49, { agg := false, size := 1, bytes := 24, zero := (some .nils), shape := (.slice 3), eqs := false }),
  (51, { agg := true, size := 3, bytes := 40, zero := (some (.agg [.nils, (.int .i64 (.ofNat 0)), (.int .i64 (.ofNat 0))])), shape := (.struct [(0, 22), (1, 3), (2, 3)]), eqs := false }),
  (55, { agg := false, size := 1, bytes := 24, zero := (some .nils), shape := (.slice 96), eqs := false }),
  (56, { agg := false, size := 1, bytes := 24, zero := (some .nils), shape := (.slice 77), eqs := false }),
  (58, { agg := true, size := 2, bytes := 48, zero := (some (.agg [.nils, .nils])), shape := (.struct [(0, 55), (1, 56)]), eqs := false }),
  (64, { agg := false, size := 1, bytes := 24, zero := (some .nils), shape := (.slice 108), eqs := false }),
  (66, { agg := true, size := 3, bytes := 64, zero := (some (.agg [(.str []), .nils, .nils])), shape := (.struct [(0, 9), (1, 45), (2, 64)]), eqs := false }),
  (69, { agg := false, size := 1, bytes := 24, zero := (some .nils), shape := (.slice 79), eqs := false }),
  (74, { agg := true, size := 5, bytes := 72, zero := (some (.agg [.nils, (.int .i64 (.ofNat 0)), (.int .i64 (.ofNat 0)), (.bool false), .nils])), shape := (.struct [(0, 69), (1, 3), (2, 3), (3, 4), (4, 55)]), eqs := false }),
  (77, { agg := true, size := 3, bytes := 48, zero := (some (.agg [(.str []), .nils, (.int .i64 (.ofNat 0))])), shape := (.struct [(0, 9), (1, 45), (2, 3)]), eqs := false }),
  (79, { agg := true, size := 2, bytes := 24, zero := (some (.agg [(.int .i64 (.ofNat 0)), (.str [])])), shape := (.struct [(0, 3), (1, 9)]), eqs := true }),
  (84, { agg := false, size := 1, bytes := 24, zero := (some .nils), shape := (.slice 90), eqs := false }),
  (86, { agg := true, size := 1, bytes := 24, zero := (some (.agg [.nils])), shape := (.struct [(0, 84)]), eqs := false }),
  (90, { agg := true, size := 5, bytes := 88, zero := (some (.agg [(.int .i64 (.ofNat 0)), .nils, (.int .i64 (.ofNat 0)), .nils, .nils])), shape := (.struct [(0, 3), (1, 49), (2, 3), (3, 49), (4, 49)]), eqs := false }),
  (94, { agg := false, size := 1, bytes := 24, zero := (some .nils), shape := (.slice 146), eqs := false }),
  (96, { agg := true, size := 5, bytes := 88, zero := (some (.agg [(.int .i64 (.ofNat 0)), (.str []), .nils, (.str []), .nils])), shape := (.struct [(0, 3), (1, 9), (2, 94), (3, 9), (4, 49)]), eqs := false }),
  (101, { agg := false, size := 1, bytes := 24, zero := (some .nils), shape := (.slice 111), eqs := false }),
  (103, { agg := true, size := 5, bytes := 104, zero := (some (.agg [.nils, .nils, .nils, .nils, (.int .i64 (.ofNat 0))])), shape := (.struct [(0, 58), (2, 26), (3, 101), (4, 3)]), eqs := false }),
  (105, { agg := false, size := 1, bytes := 24, zero := (some .nils), shape := (.slice 123), eqs := false }),
  (108, { agg := true, size := 1, bytes := 24, zero := (some (.agg [.nils])), shape := (.struct [(0, 105)]), eqs := false }),
  (111, { agg := true, size := 3, bytes := 40, zero := (some (.agg [(.int .i64 (.ofNat 0)), (.int .i64 (.ofNat 0)), .nils])), shape := (.struct [(0, 3), (1, 3), (2, 45)]), eqs := false }),
  (116, { agg := true, size := 6, bytes := 80, zero := (some (.agg [.nils, (.str []), .nils, (.int .i64 (.ofNat 0)), (.bool false), (.bool false)])), shape := (.struct [(0, 26), (1, 9), (2, 84), (3, 3), (4, 4), (5, 4)]), eqs := false }),
  (123, { agg := true, size := 4, bytes := 64, zero := (some (.agg [(.int .i64 (.ofNat 0)), (.str []), .nils, (.str [])])), shape := (.struct [(0, 3), (1, 9), (2, 94), (3, 9)]), eqs := false }),
  (133, { agg := false, size := 1, bytes := 24, zero := (some .nils), shape := (.slice 4), eqs := false }),
  (134, { agg := false, size := 1, bytes := 24, zero := (some .nils), shape := (.slice 139), eqs := false }),
  (136, { agg := false, size := 1, bytes := 24, zero := (some .nils), shape := (.slice 173), eqs := false }),
  (139, { agg := true, size := 2, bytes := 32, zero := (some (.agg [(.int .i64 (.ofNat 0)), .nils])), shape := (.struct [(0, 3), (1, 136)]), eqs := false }),
  (144, { agg := false, size := 1, bytes := 24, zero := (some .nils), shape := (.slice 152), eqs := false }),
  (146, { agg := true, size := 1, bytes := 24, zero := (some (.agg [.nils])), shape := (.struct [(0, 144)]), eqs := false }),
  (152, { agg := true, size := 4, bytes := 56, zero := (some (.agg [(.int .i64 (.ofNat 0)), (.int .i64 (.ofNat 0)), (.str []), .nils])), shape := (.struct [(0, 3), (1, 3), (2, 9), (3, 49)]), eqs := false }),
  (173, { agg := true, size := 2, bytes := 24, zero := (some (.agg [(.str []), (.int .i64 (.ofNat 0))])), shape := (.struct [(0, 9), (1, 3)]), eqs := true })]
/-- loop.example/g00243/spec.l01Long -/
def A13 : Ann := { vars := List.range 20, kills := [], owned := [], isPure := true, dyn := [], bad := [], pend := [] }
/-- loop.example/g00243/spec.l11Split -/
def A21 : Ann := { vars := List.range 34, kills := [], owned := [], isPure := true, dyn := [], bad := [], pend := [] }
/-- loop.example/g00243/spec.ReadSurface -/
def A22 : Ann := { vars := List.range 127, kills := [], owned := [], isPure := true, dyn := [], bad := [], pend := [] }
/-- loop.example/g00243/spec.Flatten -/
def A23 : Ann := { vars := List.range 12, kills := [], owned := [], isPure := true, dyn := [], bad := [], pend := [] }
/-- loop.example/g00243/spec.l11List -/
def A25 : Ann := { vars := List.range 2, kills := [], owned := [(1, 0)], isPure := true, dyn := [], bad := [], pend := [] }
/-- loop.example/g00243/spec.Tokens -/
def A26 : Ann := { vars := List.range 67, kills := [], owned := [(1, 0), (13, 0)], isPure := false, dyn := [], bad := [], pend := [] }
/-- (*loop.example/g00243/spec.l11Read).kind -/
def A27 : Ann := { vars := List.range 57, kills := [], owned := [], isPure := false, dyn := [], bad := [], pend := [] }
/-- (*loop.example/g00243/spec.l11Read).sign -/
def A28 : Ann := { vars := List.range 16, kills := [], owned := [], isPure := false, dyn := [], bad := [], pend := [] }
/-- (*loop.example/g00243/spec.l11Read).want -/
def A29 : Ann := { vars := List.range 11, kills := [], owned := [], isPure := false, dyn := [], bad := [], pend := [] }
/-- (*loop.example/g00243/spec.l11Read).alts -/
def A30 : Ann := { vars := List.range 22, kills := [], owned := [(2, 2)], isPure := false, dyn := [], bad := [], pend := [] }
/-- loop.example/g00243/spec.SurfaceOk -/
def A31 : Ann := { vars := List.range 14, kills := [], owned := [], isPure := true, dyn := [], bad := [], pend := [] }
/-- loop.example/g00243/spec.l11Form -/
def A32 : Ann := { vars := List.range 166, kills := [], owned := [], isPure := false, dyn := [], bad := [], pend := [] }
/-- loop.example/g00243/spec.l12Flat -/
def A33 : Ann := { vars := List.range 142, kills := [], owned := [(8, 7), (8, 16), (13, 0), (17, 14)], isPure := false, dyn := [8], bad := [], pend := [] }
/-- loop.example/g00243/spec.l10One -/
def A35 : Ann := { vars := List.range 213, kills := [], owned := [], isPure := false, dyn := [], bad := [], pend := [] }
/-- (*loop.example/g00243/spec.l11Read).is -/
def A36 : Ann := { vars := List.range 51, kills := [], owned := [], isPure := false, dyn := [], bad := [], pend := [] }
/-- (*loop.example/g00243/spec.l11Read).down -/
def A37 : Ann := { vars := List.range 18, kills := [], owned := [], isPure := false, dyn := [], bad := [], pend := [] }
/-- (*loop.example/g00243/spec.l11Read).row -/
def A38 : Ann := { vars := List.range 27, kills := [], owned := [(1, 0)], isPure := false, dyn := [], bad := [], pend := [] }
/-- (*loop.example/g00243/spec.l11Read).up -/
def A39 : Ann := { vars := List.range 10, kills := [], owned := [], isPure := false, dyn := [], bad := [], pend := [] }
/-- (*loop.example/g00243/spec.l11Read).put -/
def A40 : Ann := { vars := List.range 30, kills := [], owned := [(1, 6)], isPure := false, dyn := [], bad := [], pend := [] }
/-- loop.example/g00243/spec.l01In -/
def A41 : Ann := { vars := List.range 15, kills := [], owned := [], isPure := true, dyn := [], bad := [], pend := [] }
/-- loop.example/g00243/spec.l11Shape -/
def A42 : Ann := { vars := List.range 124, kills := [], owned := [], isPure := false, dyn := [], bad := [], pend := [] }
/-- loop.example/g00243/spec.RuleName -/
def A43 : Ann := { vars := List.range 54, kills := [], owned := [], isPure := true, dyn := [], bad := [], pend := [] }
/-- loop.example/g00243/spec.l06Params -/
def A44 : Ann := { vars := List.range 35, kills := [], owned := [], isPure := false, dyn := [], bad := [], pend := [] }
/-- loop.example/g00243/spec.l11Alt -/
def A45 : Ann := { vars := List.range 32, kills := [], owned := [], isPure := false, dyn := [], bad := [], pend := [] }
/-- loop.example/g00243/spec.l10Figure -/
def A46 : Ann := { vars := List.range 9, kills := [], owned := [], isPure := true, dyn := [], bad := [], pend := [] }
/-- (*loop.example/g00243/spec.l12Make).row -/
def A47 : Ann := { vars := List.range 122, kills := [], owned := [(1, 0), (15, 7), (15, 11), (16, 19)], isPure := false, dyn := [15], bad := [], pend := [] }
/-- (*loop.example/g00243/spec.l12Make).group -/
def A48 : Ann := { vars := List.range 124, kills := [], owned := [(4, 0), (5, 0), (12, 2), (12, 4), (18, 1)], isPure := false, dyn := [11], bad := [], pend := [11] }
/-- loop.example/g00243/spec.GrammarOk -/
def A49 : Ann := { vars := List.range 45, kills := [], owned := [], isPure := true, dyn := [], bad := [], pend := [] }
/-- loop.example/g00243/spec.RuleAt -/
def A50 : Ann := { vars := List.range 22, kills := [], owned := [], isPure := true, dyn := [], bad := [], pend := [] }
/-- loop.example/g00243/spec.l10Letter -/
def A53 : Ann := { vars := List.range 17, kills := [], owned := [], isPure := true, dyn := [], bad := [], pend := [] }
/-- loop.example/g00243/spec.SetOk -/
def A54 : Ann := { vars := List.range 11, kills := [], owned := [], isPure := true, dyn := [], bad := [], pend := [] }
/-- (*loop.example/g00243/spec.l11Read).thing -/
def A55 : Ann := { vars := List.range 85, kills := [], owned := [(16, 2), (21, 0), (26, 4)], isPure := false, dyn := [], bad := [], pend := [] }
/-- loop.example/g00243/spec.l11InRow -/
def A56 : Ann := { vars := List.range 5, kills := [], owned := [], isPure := true, dyn := [], bad := [], pend := [] }
/-- loop.example/g00243/spec.VarName -/
def A57 : Ann := { vars := List.range 23, kills := [], owned := [], isPure := true, dyn := [], bad := [], pend := [] }
/-- loop.example/g00243/spec.l11Row -/
def A58 : Ann := { vars := List.range 61, kills := [], owned := [], isPure := false, dyn := [7, 11], bad := [], pend := [] }
/-- loop.example/g00243/spec.l11Leaf -/
def A59 : Ann := { vars := List.range 12, kills := [], owned := [], isPure := false, dyn := [], bad := [], pend := [] }
/-- loop.example/g00243/spec.l04Copies -/
def A60 : Ann := { vars := List.range 50, kills := [], owned := [(1, 0), (10, 0)], isPure := false, dyn := [], bad := [], pend := [] }
/-- loop.example/g00243/spec.l03Put -/
def A61 : Ann := { vars := List.range 52, kills := [], owned := [(1, 0)], isPure := false, dyn := [], bad := [], pend := [] }
/-- loop.example/g00243/spec.Decimal -/
def A62 : Ann := { vars := List.range 30, kills := [], owned := [(9, 2)], isPure := true, dyn := [], bad := [], pend := [] }
/-- loop.example/g00243/spec.l12Vars -/
def A63 : Ann := { vars := List.range 21, kills := [], owned := [(1, 0)], isPure := false, dyn := [], bad := [], pend := [] }
/-- loop.example/g00243/spec.l11Group -/
def A64 : Ann := { vars := List.range 21, kills := [], owned := [], isPure := false, dyn := [], bad := [], pend := [] }
/-- loop.example/g00243/spec.l06Copy -/
def A65 : Ann := { vars := List.range 96, kills := [], owned := [(5, 6)], isPure := false, dyn := [5], bad := [], pend := [5] }
/-- loop.example/g00243/spec.l06Rule -/
def A66 : Ann := { vars := List.range 92, kills := [], owned := [(6, 0)], isPure := false, dyn := [], bad := [], pend := [] }
/-- loop.example/g00243/spec.l05Rows -/
def A72 : Ann := { vars := List.range 72, kills := [], owned := [(13, 5)], isPure := true, dyn := [], bad := [], pend := [] }
/-- (*loop.example/g00243/spec.l11Read).call -/
def A73 : Ann := { vars := List.range 61, kills := [], owned := [(11, 4), (13, 4)], isPure := false, dyn := [11, 13], bad := [], pend := [] }
/-- (*loop.example/g00243/spec.l11Read).whole -/
def A74 : Ann := { vars := List.range 9, kills := [], owned := [(1, 0)], isPure := false, dyn := [], bad := [], pend := [] }
/-- loop.example/g00243/spec.l06Sym -/
def A75 : Ann := { vars := List.range 108, kills := [], owned := [], isPure := false, dyn := [], bad := [], pend := [] }
/-- loop.example/g00243/spec.l11Params -/
def A76 : Ann := { vars := List.range 28, kills := [], owned := [], isPure := false, dyn := [], bad := [], pend := [] }
/-- loop.example/g00243/spec.l01Figure -/
def A77 : Ann := { vars := List.range 12, kills := [], owned := [], isPure := true, dyn := [], bad := [], pend := [] }
/-- loop.example/g00243/spec.l04Var -/
def A78 : Ann := { vars := List.range 7, kills := [], owned := [(1, 2)], isPure := false, dyn := [], bad := [], pend := [] }
/-- loop.example/g00243/spec.l05Byte -/
def A85 : Ann := { vars := List.range 17, kills := [], owned := [], isPure := true, dyn := [], bad := [], pend := [] }
/-- (*loop.example/g00243/spec.l11Read).expr -/
def A86 : Ann := { vars := List.range 30, kills := [], owned := [], isPure := false, dyn := [], bad := [], pend := [] }
/-- loop.example/g00243/spec.l06Text -/
def A87 : Ann := { vars := List.range 38, kills := [], owned := [], isPure := true, dyn := [], bad := [], pend := [] }
/-- loop.example/g00243/spec.l06Args -/
def A88 : Ann := { vars := List.range 19, kills := [], owned := [], isPure := false, dyn := [], bad := [], pend := [] }
/-- loop.example/g00243/spec.l03In -/
def A89 : Ann := { vars := List.range 18, kills := [], owned := [], isPure := true, dyn := [], bad := [], pend := [] }
/-- loop.example/g00243/spec.l04Of -/
def A90 : Ann := { vars := List.range 5, kills := [], owned := [], isPure := false, dyn := [], bad := [], pend := [] }
/-- (*loop.example/g00243/spec.l11Read).compare -/
def A96 : Ann := { vars := List.range 28, kills := [], owned := [], isPure := false, dyn := [], bad := [], pend := [] }
/-- (*loop.example/g00243/spec.l11Read).two -/
def A97 : Ann := { vars := List.range 18, kills := [], owned := [(1, 4)], isPure := false, dyn := [], bad := [], pend := [] }
/-- loop.example/g00243/spec.l06Known -/
def A98 : Ann := { vars := List.range 24, kills := [], owned := [], isPure := false, dyn := [], bad := [], pend := [] }
/-- loop.example/g00243/spec.ExprOk -/
def A99 : Ann := { vars := List.range 91, kills := [], owned := [], isPure := true, dyn := [], bad := [], pend := [] }
/-- loop.example/g00243/spec.l04Marks -/
def A100 : Ann := { vars := List.range 51, kills := [], owned := [], isPure := true, dyn := [], bad := [], pend := [] }
/-- (*loop.example/g00243/spec.l11Read).sum -/
def A104 : Ann := { vars := List.range 34, kills := [], owned := [], isPure := false, dyn := [], bad := [], pend := [] }
/-- loop.example/g00243/spec.l11Put -/
def A105 : Ann := { vars := List.range 18, kills := [], owned := [(1, 5)], isPure := false, dyn := [], bad := [], pend := [] }
/-- loop.example/g00243/spec.FreeOf -/
def A106 : Ann := { vars := List.range 33, kills := [], owned := [(1, 0)], isPure := true, dyn := [], bad := [], pend := [] }
/-- loop.example/g00243/spec.l04Kids -/
def A107 : Ann := { vars := List.range 10, kills := [], owned := [], isPure := true, dyn := [], bad := [], pend := [] }
/-- (*loop.example/g00243/spec.l11Read).product -/
def A108 : Ann := { vars := List.range 34, kills := [], owned := [], isPure := false, dyn := [], bad := [], pend := [] }
/-- (*loop.example/g00243/spec.l11Read).simple -/
def A109 : Ann := { vars := List.range 14, kills := [], owned := [], isPure := false, dyn := [], bad := [], pend := [] }
/-- (*loop.example/g00243/spec.l11Read).simpleOne -/
def A110 : Ann := { vars := List.range 74, kills := [], owned := [(3, 2)], isPure := false, dyn := [], bad := [], pend := [] }
/-- loop.example/g00243/laws.FnReplaced, walked by its words -/
abbrev A3 : Ann := { vars := [0, 2, 3, 4, 5, 6, 7, 8, 9, 10, 11, 12, 13, 14, 15, 16, 17, 18], kills := [(0, [9, 10, 11]), (1, [10, 11])], owned := [], isPure := true, dyn := [], bad := [], pend := [] }
/-- loop.example/g00243/laws.big, walked by its words -/
abbrev A4 : Ann := { vars := [0, 2], kills := [], owned := [], isPure := true, dyn := [], bad := [], pend := [] }
/-- loop.example/g00243/spec.DrawSpans, walked by its words -/
abbrev A5 : Ann := { vars := [0, 2, 3, 4, 5, 6, 7], kills := [], owned := [], isPure := true, dyn := [], bad := [], pend := [] }
/-- loop.example/g00243/spec.Spans, walked by its words -/
abbrev A6 : Ann := { vars := [0, 1, 2, 4, 5, 6, 7], kills := [(0, [6, 7]), (1, [7])], owned := [(1, 0)], isPure := true, dyn := [], bad := [], pend := [] }
/-- loop.example/g00243/impl.Replaced, walked by its words -/
abbrev A7 : Ann := { vars := [0, 1, 2, 6, 7, 8, 9, 11, 12, 13, 14], kills := [(0, [11, 14]), (1, [11])], owned := [], isPure := true, dyn := [], bad := [], pend := [] }
/-- loop.example/g00243/spec.DrawReplaced, walked by its words -/
abbrev A8 : Ann := { vars := [0, 2, 3, 4, 5, 6, 7, 8, 9, 10, 11, 12], kills := [(0, [9, 10, 11, 12]), (1, [11, 12])], owned := [(4, 0)], isPure := true, dyn := [], bad := [], pend := [] }
/-- loop.example/g00243/spec.Replaced, walked by its words -/
abbrev A9 : Ann := { vars := [0, 1, 2, 6, 7, 8, 9, 10], kills := [(0, [10])], owned := [], isPure := true, dyn := [], bad := [], pend := [] }
/-- loop.example/g00243/spec.l01New, walked by its words -/
abbrev A10 : Ann := { vars := [0, 2, 3, 4], kills := [(0, [4])], owned := [], isPure := false, dyn := [], bad := [], pend := [] }
/-- loop.example/g00243/spec.l01Below, walked by its words -/
abbrev A11 : Ann := { vars := [0, 1, 4, 5, 6, 7, 8], kills := [], owned := [], isPure := false, dyn := [], bad := [], pend := [] }
/-- loop.example/g00243/spec.l11Pair, walked by its words -/
abbrev A12 : Ann := { vars := [0, 2, 3, 4, 5, 6, 7, 8, 9, 11], kills := [(0, [7, 8]), (1, [8])], owned := [], isPure := false, dyn := [], bad := [], pend := [] }
/-- loop.example/g00243/spec.LongestAt, walked by its words -/
abbrev A14 : Ann := { vars := [0, 1, 2, 3, 6, 7], kills := [], owned := [], isPure := true, dyn := [], bad := [], pend := [] }
/-- loop.example/g00243/impl.within, walked by its words -/
abbrev A15 : Ann := { vars := [0, 1, 2, 6], kills := [], owned := [], isPure := true, dyn := [], bad := [], pend := [] }
/-- loop.example/g00243/spec.l01Pick, walked by its words -/
abbrev A16 : Ann := { vars := [0, 1, 4], kills := [], owned := [], isPure := false, dyn := [], bad := [], pend := [] }
/-- loop.example/g00243/spec.l07Text, walked by its words -/
abbrev A17 : Ann := { vars := [0, 2, 3, 4], kills := [(0, [4])], owned := [], isPure := false, dyn := [], bad := [], pend := [] }
/-- loop.example/g00243/spec.l01Once, walked by its words -/
abbrev A18 : Ann := { vars := [0, 1, 4], kills := [], owned := [], isPure := false, dyn := [], bad := [], pend := [] }
/-- loop.example/g00243/spec.l01PickInt, walked by its words -/
abbrev A19 : Ann := { vars := [0, 1, 4], kills := [], owned := [], isPure := false, dyn := [], bad := [], pend := [] }
/-- loop.example/g00243/spec.l01Byte, walked by its words -/
abbrev A20 : Ann := { vars := [0, 2, 3], kills := [], owned := [], isPure := false, dyn := [], bad := [], pend := [] }
/-- loop.example/g00243/spec.EndsOf, walked by its words -/
abbrev A24 : Ann := { vars := [0, 1, 2, 3, 4, 5, 10, 11, 12], kills := [], owned := [(3, 0)], isPure := true, dyn := [], bad := [], pend := [] }
/-- loop.example/g00243/spec.RunGoal, walked by its words -/
abbrev A34 : Ann := { vars := [0, 1, 2, 3, 4, 5, 10, 11, 12, 13, 14, 15], kills := [(0, [13]), (2, [15]), (3, [15]), (4, [15])], owned := [(10, 2)], isPure := true, dyn := [], bad := [], pend := [] }
/-- (*loop.example/g00243/spec.l07Run).goal, walked by its words -/
abbrev A51 : Ann := { vars := [0, 1, 2, 3, 8, 9], kills := [], owned := [], isPure := false, dyn := [], bad := [], pend := [] }
/-- (*loop.example/g00243/spec.l07Run).look, walked by its words -/
abbrev A52 : Ann := { vars := [0, 1, 4, 5, 6, 7, 8, 9, 10], kills := [(0, [7, 8, 9]), (1, [8, 9]), (2, [9]), (4, [10])], owned := [(6, 15)], isPure := false, dyn := [6], bad := [], pend := [] }
/-- loop.example/g00243/spec.l07Find, walked by its words -/
abbrev A67 : Ann := { vars := [0, 1, 2, 3, 8, 9], kills := [(0, [9])], owned := [], isPure := true, dyn := [], bad := [], pend := [] }
/-- (*loop.example/g00243/spec.l07Run).alt, walked by its words -/
abbrev A68 : Ann := { vars := [0, 1, 2, 6, 7, 8, 9, 10, 11, 12, 13, 14, 15, 16, 17], kills := [(0, [7, 8, 9, 10, 11, 12, 13, 14, 15, 16, 17]), (1, [8, 9, 10, 11, 12, 13, 14, 15, 16, 17]), (2, [9, 10, 11, 12, 13, 14, 15, 16, 17]), (3, [10, 11, 12, 13, 14, 15, 16, 17]), (4, [16, 17]), (5, [17])], owned := [(4, 0), (17, 0)], isPure := false, dyn := [], bad := [], pend := [] }
/-- loop.example/g00243/spec.l07Env, walked by its words -/
abbrev A69 : Ann := { vars := [0, 1, 4, 5, 6], kills := [(0, [6])], owned := [], isPure := false, dyn := [], bad := [], pend := [] }
/-- loop.example/g00243/spec.l07In, walked by its words -/
abbrev A70 : Ann := { vars := [0, 1, 4, 5], kills := [(0, [5])], owned := [], isPure := true, dyn := [], bad := [], pend := [] }
/-- (*loop.example/g00243/spec.l07Run).add, walked by its words -/
abbrev A71 : Ann := { vars := [0, 1, 2, 6, 7, 8, 9, 10], kills := [(0, [9]), (2, [10])], owned := [(1, 0), (2, 0)], isPure := false, dyn := [], bad := [], pend := [] }
/-- loop.example/g00243/spec.l07SameInts, walked by its words -/
abbrev A79 : Ann := { vars := [0, 1, 4, 5], kills := [(0, [5])], owned := [], isPure := true, dyn := [], bad := [], pend := [] }
/-- loop.example/g00243/spec.l07Plain, walked by its words -/
abbrev A80 : Ann := { vars := [0, 1, 2, 3, 5, 6, 7, 8, 9, 10, 12], kills := [(0, [8])], owned := [], isPure := true, dyn := [], bad := [], pend := [] }
/-- loop.example/g00243/spec.l07Put, walked by its words -/
abbrev A81 : Ann := { vars := [0, 1, 3, 4, 5], kills := [(0, [5])], owned := [], isPure := false, dyn := [], bad := [], pend := [] }
/-- loop.example/g00243/spec.l07Args, walked by its words -/
abbrev A82 : Ann := { vars := [0, 1, 2, 6, 7, 8, 9, 10, 11], kills := [(0, [9, 10, 11]), (1, [10, 11])], owned := [(1, 0)], isPure := true, dyn := [], bad := [], pend := [] }
/-- loop.example/g00243/spec.l07Bind, walked by its words -/
abbrev A83 : Ann := { vars := [0, 1, 2, 6, 7], kills := [], owned := [], isPure := true, dyn := [], bad := [], pend := [] }
/-- loop.example/g00243/spec.EnvSet, walked by its words -/
abbrev A84 : Ann := { vars := [0, 1, 2, 6, 7, 8, 9, 10], kills := [(0, [9]), (2, [10])], owned := [(1, 0), (14, 0)], isPure := true, dyn := [], bad := [], pend := [] }
/-- loop.example/g00243/spec.InSet, walked by its words -/
abbrev A91 : Ann := { vars := [0, 1, 4, 5, 6, 7], kills := [(0, [7])], owned := [], isPure := true, dyn := [], bad := [], pend := [] }
/-- loop.example/g00243/spec.EvalExpr, walked by its words -/
abbrev A92 : Ann := { vars := [0, 1, 2, 3, 6, 7, 8, 9, 10, 11, 12, 13, 41], kills := [(0, [10, 11, 12, 13, 41]), (1, [11, 12, 13, 41])], owned := [], isPure := true, dyn := [], bad := [], pend := [] }
/-- loop.example/g00243/spec.l07SameEnv, walked by its words -/
abbrev A93 : Ann := { vars := [0, 1, 4, 5], kills := [(0, [5])], owned := [], isPure := true, dyn := [], bad := [], pend := [] }
/-- loop.example/g00243/spec.BindNum, walked by its words -/
abbrev A94 : Ann := { vars := [0, 2, 3, 4, 5], kills := [(0, [5])], owned := [], isPure := true, dyn := [], bad := [], pend := [] }
/-- loop.example/g00243/spec.EnvOk, walked by its words -/
abbrev A95 : Ann := { vars := [0, 2, 3], kills := [(0, [3])], owned := [], isPure := true, dyn := [], bad := [], pend := [] }
/-- loop.example/g00243/spec.EnvGet, walked by its words -/
abbrev A101 : Ann := { vars := [0, 1, 4, 5, 6], kills := [(0, [6])], owned := [], isPure := true, dyn := [], bad := [], pend := [] }
/-- loop.example/g00243/spec.l04Flag, walked by its words -/
abbrev A102 : Ann := { vars := [0, 2], kills := [], owned := [], isPure := true, dyn := [], bad := [], pend := [] }
/-- loop.example/g00243/spec.l04Two, walked by its words -/
abbrev A103 : Ann := { vars := [0, 1, 2, 6, 7, 8], kills := [], owned := [], isPure := true, dyn := [], bad := [], pend := [] }
def annL : List (Nat × Ann) := [(13, A13), (21, A21), (22, A22), (23, A23), (25, A25), (26, A26), (27, A27), (28, A28), (29, A29), (30, A30), (31, A31), (32, A32), (33, A33), (35, A35), (36, A36), (37, A37), (38, A38), (39, A39), (40, A40), (41, A41), (42, A42), (43, A43), (44, A44), (45, A45), (46, A46), (47, A47), (48, A48), (49, A49), (50, A50), (53, A53), (54, A54), (55, A55), (56, A56), (57, A57), (58, A58), (59, A59), (60, A60), (61, A61), (62, A62), (63, A63), (64, A64), (65, A65), (66, A66), (72, A72), (73, A73), (74, A74), (75, A75), (76, A76), (77, A77), (78, A78), (85, A85), (86, A86), (87, A87), (88, A88), (89, A89), (90, A90), (96, A96), (97, A97), (98, A98), (99, A99), (100, A100), (104, A104), (105, A105), (106, A106), (107, A107), (108, A108), (109, A109), (110, A110), (3, A3), (4, A4), (5, A5), (6, A6), (7, A7), (8, A8), (9, A9), (10, A10), (11, A11), (12, A12), (14, A14), (15, A15), (16, A16), (17, A17), (18, A18), (19, A19), (20, A20), (24, A24), (34, A34), (51, A51), (52, A52), (67, A67), (68, A68), (69, A69), (70, A70), (71, A71), (79, A79), (80, A80), (81, A81), (82, A82), (83, A83), (84, A84), (91, A91), (92, A92), (93, A93), (94, A94), (95, A95), (101, A101), (102, A102), (103, A103)]

def tyF (l : List (Nat × TI)) (t : TypeId) : Option TI := match l with
  | [] => none
  | (g, A) :: r => match Nat.beq g t with
    | true => some A
    | false => tyF r t
def annF (l : List (Nat × Ann)) (f : FuncId) : Option Ann := match l with
  | [] => none
  | (g, A) :: r => match Nat.beq g f with
    | true => some A
    | false => annF r f
def extG (f : FuncId) : Option (List T → Option T) := none
def extP (f : FuncId) : Bool := (extG f).isSome
def extF : CallF := fun f args σ => match extG f with
  | some g => gExt g args σ
  | none => none
noncomputable def S : Sy := { P := Tryz.prog, ty := tyF tyL, ann := annF annL, ext := extF, extPure := extP }
def ixL : List Nat := [13, 21, 22, 23, 25, 26, 27, 28, 29, 30, 31, 32, 33, 35, 36, 37, 38, 39, 40, 41, 42, 43, 44, 45, 46, 47, 48, 49, 50, 53, 54, 55, 56, 57, 58, 59, 60, 61, 62, 63, 64, 65, 66, 72, 73, 74, 75, 76, 77, 78, 85, 86, 87, 88, 89, 90, 96, 97, 98, 99, 100, 104, 105, 106, 107, 108, 109, 110]

def ixG : List Nat → Nat → Nat → Ix
  | [], _, _ => none
  | g :: r, i, h => match Nat.beq g h with
    | true => match ixI (i / 16), ixI (i % 16) with
      | some a, some b => some (a, b)
      | _, _ => none
    | false => ixG r (i + 1) h
def ixf (h : FuncId) : Ix := ixG ixL 0 h
noncomputable def rq0 : FX := R a0 a0
noncomputable def rq1 : FX := R a0 a1
noncomputable def rq2 : FX := R a0 a2
noncomputable def rq3 : FX := R a0 a3
noncomputable def rq4 : FX := R a0 a4
noncomputable def rq5 : FX := R a0 a5
noncomputable def rq6 : FX := R a0 a6
noncomputable def rq7 : FX := R a0 a7
noncomputable def rq8 : FX := R a0 a8
noncomputable def rq9 : FX := R a0 a9
noncomputable def rq10 : FX := R a0 a10
noncomputable def rq11 : FX := R a0 a11
noncomputable def rq12 : FX := R a0 a12
noncomputable def rq13 : FX := R a0 a13
noncomputable def rq14 : FX := R a0 a14
noncomputable def rq15 : FX := R a0 a15
noncomputable def rq16 : FX := R a1 a0
noncomputable def rq17 : FX := R a1 a1
noncomputable def rq18 : FX := R a1 a2
noncomputable def rq19 : FX := R a1 a3
noncomputable def rq20 : FX := R a1 a4
noncomputable def rq21 : FX := R a1 a5
noncomputable def rq22 : FX := R a1 a6
noncomputable def rq23 : FX := R a1 a7
noncomputable def rq24 : FX := R a1 a8
noncomputable def rq25 : FX := R a1 a9
noncomputable def rq26 : FX := R a1 a10
noncomputable def rq27 : FX := R a1 a11
noncomputable def rq28 : FX := R a1 a12
noncomputable def rq29 : FX := R a1 a13
noncomputable def rq30 : FX := R a1 a14
noncomputable def rq31 : FX := R a1 a15
noncomputable def rq32 : FX := R a2 a0
noncomputable def rq33 : FX := R a2 a1
noncomputable def rq34 : FX := R a2 a2
noncomputable def rq35 : FX := R a2 a3
noncomputable def rq36 : FX := R a2 a4
noncomputable def rq37 : FX := R a2 a5
noncomputable def rq38 : FX := R a2 a6
noncomputable def rq39 : FX := R a2 a7
noncomputable def rq40 : FX := R a2 a8
noncomputable def rq41 : FX := R a2 a9
noncomputable def rq42 : FX := R a2 a10
noncomputable def rq43 : FX := R a2 a11
noncomputable def rq44 : FX := R a2 a12
noncomputable def rq45 : FX := R a2 a13
noncomputable def rq46 : FX := R a2 a14
noncomputable def rq47 : FX := R a2 a15
noncomputable def rq48 : FX := R a3 a0
noncomputable def rq49 : FX := R a3 a1
noncomputable def rq50 : FX := R a3 a2
noncomputable def rq51 : FX := R a3 a3
noncomputable def rq52 : FX := R a3 a4
noncomputable def rq53 : FX := R a3 a5
noncomputable def rq54 : FX := R a3 a6
noncomputable def rq55 : FX := R a3 a7
noncomputable def rq56 : FX := R a3 a8
noncomputable def rq57 : FX := R a3 a9
noncomputable def rq58 : FX := R a3 a10
noncomputable def rq59 : FX := R a3 a11
noncomputable def rq60 : FX := R a3 a12
noncomputable def rq61 : FX := R a3 a13
noncomputable def rq62 : FX := R a3 a14
noncomputable def rq63 : FX := R a3 a15
noncomputable def rq64 : FX := R a4 a0
noncomputable def rq65 : FX := R a4 a1
noncomputable def rq66 : FX := R a4 a2
noncomputable def rq67 : FX := R a4 a3
noncomputable def rq68 : FX := R a4 a4
noncomputable def rq69 : FX := R a4 a5
noncomputable def rq70 : FX := R a4 a6
noncomputable def rq71 : FX := R a4 a7
noncomputable def rq72 : FX := R a4 a8
noncomputable def rq73 : FX := R a4 a9
noncomputable def rq74 : FX := R a4 a10
noncomputable def rq75 : FX := R a4 a11
noncomputable def rq76 : FX := R a4 a12
noncomputable def rq77 : FX := R a4 a13
noncomputable def rq78 : FX := R a4 a14
noncomputable def rq79 : FX := R a4 a15
noncomputable def rq80 : FX := R a5 a0
noncomputable def rq81 : FX := R a5 a1
noncomputable def rq82 : FX := R a5 a2
noncomputable def rq83 : FX := R a5 a3
noncomputable def rq84 : FX := R a5 a4
noncomputable def rq85 : FX := R a5 a5
noncomputable def rq86 : FX := R a5 a6
noncomputable def rq87 : FX := R a5 a7
noncomputable def rq88 : FX := R a5 a8
noncomputable def rq89 : FX := R a5 a9
noncomputable def rq90 : FX := R a5 a10
noncomputable def rq91 : FX := R a5 a11
noncomputable def rq92 : FX := R a5 a12
noncomputable def rq93 : FX := R a5 a13
noncomputable def rq94 : FX := R a5 a14
noncomputable def rq95 : FX := R a5 a15
noncomputable def rq96 : FX := R a6 a0
noncomputable def rq97 : FX := R a6 a1
noncomputable def rq98 : FX := R a6 a2
noncomputable def rq99 : FX := R a6 a3
noncomputable def rq100 : FX := R a6 a4
noncomputable def rq101 : FX := R a6 a5
noncomputable def rq102 : FX := R a6 a6
noncomputable def rq103 : FX := R a6 a7
noncomputable def rq104 : FX := R a6 a8
noncomputable def rq105 : FX := R a6 a9
noncomputable def rq106 : FX := R a6 a10
noncomputable def rq107 : FX := R a6 a11
noncomputable def rq108 : FX := R a6 a12
noncomputable def rq109 : FX := R a6 a13
noncomputable def rq110 : FX := R a6 a14
noncomputable def rq111 : FX := R a6 a15
noncomputable def rq112 : FX := R a7 a0
noncomputable def rq113 : FX := R a7 a1
noncomputable def rq114 : FX := R a7 a2
noncomputable def rq115 : FX := R a7 a3
noncomputable def rq116 : FX := R a7 a4
noncomputable def rq117 : FX := R a7 a5
noncomputable def rq118 : FX := R a7 a6
noncomputable def rq119 : FX := R a7 a7
noncomputable def rq120 : FX := R a7 a8
noncomputable def rq121 : FX := R a7 a9
noncomputable def rq122 : FX := R a7 a10
noncomputable def rq123 : FX := R a7 a11
noncomputable def rq124 : FX := R a7 a12
noncomputable def rq125 : FX := R a7 a13
noncomputable def rq126 : FX := R a7 a14
noncomputable def rq127 : FX := R a7 a15
noncomputable def rq128 : FX := R a8 a0
noncomputable def rq129 : FX := R a8 a1
noncomputable def rq130 : FX := R a8 a2
noncomputable def rq131 : FX := R a8 a3
noncomputable def rq132 : FX := R a8 a4
noncomputable def rq133 : FX := R a8 a5
noncomputable def rq134 : FX := R a8 a6
noncomputable def rq135 : FX := R a8 a7
noncomputable def rq136 : FX := R a8 a8
noncomputable def rq137 : FX := R a8 a9
noncomputable def rq138 : FX := R a8 a10
noncomputable def rq139 : FX := R a8 a11
noncomputable def rq140 : FX := R a8 a12
noncomputable def rq141 : FX := R a8 a13
noncomputable def rq142 : FX := R a8 a14
noncomputable def rq143 : FX := R a8 a15
noncomputable def rq144 : FX := R a9 a0
noncomputable def rq145 : FX := R a9 a1
noncomputable def rq146 : FX := R a9 a2
noncomputable def rq147 : FX := R a9 a3
noncomputable def rq148 : FX := R a9 a4
noncomputable def rq149 : FX := R a9 a5
noncomputable def rq150 : FX := R a9 a6
noncomputable def rq151 : FX := R a9 a7
noncomputable def rq152 : FX := R a9 a8
noncomputable def rq153 : FX := R a9 a9
noncomputable def rq154 : FX := R a9 a10
noncomputable def rq155 : FX := R a9 a11
noncomputable def rq156 : FX := R a9 a12
noncomputable def rq157 : FX := R a9 a13
noncomputable def rq158 : FX := R a9 a14
noncomputable def rq159 : FX := R a9 a15
noncomputable def rq160 : FX := R a10 a0
noncomputable def rq161 : FX := R a10 a1
noncomputable def rq162 : FX := R a10 a2
noncomputable def rq163 : FX := R a10 a3
noncomputable def rq164 : FX := R a10 a4
noncomputable def rq165 : FX := R a10 a5
noncomputable def rq166 : FX := R a10 a6
noncomputable def rq167 : FX := R a10 a7
noncomputable def rq168 : FX := R a10 a8
noncomputable def rq169 : FX := R a10 a9
noncomputable def rq170 : FX := R a10 a10
noncomputable def rq171 : FX := R a10 a11
noncomputable def rq172 : FX := R a10 a12
noncomputable def rq173 : FX := R a10 a13
noncomputable def rq174 : FX := R a10 a14
noncomputable def rq175 : FX := R a10 a15
noncomputable def rq176 : FX := R a11 a0
noncomputable def rq177 : FX := R a11 a1
noncomputable def rq178 : FX := R a11 a2
noncomputable def rq179 : FX := R a11 a3
noncomputable def rq180 : FX := R a11 a4
noncomputable def rq181 : FX := R a11 a5
noncomputable def rq182 : FX := R a11 a6
noncomputable def rq183 : FX := R a11 a7
noncomputable def rq184 : FX := R a11 a8
noncomputable def rq185 : FX := R a11 a9
noncomputable def rq186 : FX := R a11 a10
noncomputable def rq187 : FX := R a11 a11
noncomputable def rq188 : FX := R a11 a12
noncomputable def rq189 : FX := R a11 a13
noncomputable def rq190 : FX := R a11 a14
noncomputable def rq191 : FX := R a11 a15
noncomputable def rq192 : FX := R a12 a0
noncomputable def rq193 : FX := R a12 a1
noncomputable def rq194 : FX := R a12 a2
noncomputable def rq195 : FX := R a12 a3
noncomputable def rq196 : FX := R a12 a4
noncomputable def rq197 : FX := R a12 a5
noncomputable def rq198 : FX := R a12 a6
noncomputable def rq199 : FX := R a12 a7
noncomputable def rq200 : FX := R a12 a8
noncomputable def rq201 : FX := R a12 a9
noncomputable def rq202 : FX := R a12 a10
noncomputable def rq203 : FX := R a12 a11
noncomputable def rq204 : FX := R a12 a12
noncomputable def rq205 : FX := R a12 a13
noncomputable def rq206 : FX := R a12 a14
noncomputable def rq207 : FX := R a12 a15
noncomputable def rq208 : FX := R a13 a0
noncomputable def rq209 : FX := R a13 a1
noncomputable def rq210 : FX := R a13 a2
noncomputable def rq211 : FX := R a13 a3
noncomputable def rq212 : FX := R a13 a4
noncomputable def wq0 : WX := W' a0 p0 p0
noncomputable def wq1 : WX := W' a0 p1 p0
noncomputable def wq2 : WX := W' a0 p2 p0
noncomputable def wq3 : WX := W' a0 p3 p0
noncomputable def wq4 : WX := W' a0 p4 p0
noncomputable def wq5 : WX := W' a0 p5 p0
noncomputable def wq6 : WX := W' a0 p6 p0
noncomputable def wq7 : WX := W' a0 p7 p0
noncomputable def wq8 : WX := W' a0 p8 p0
noncomputable def wq9 : WX := W' a0 p9 p0
noncomputable def wq10 : WX := W' a0 p10 p0
noncomputable def wq11 : WX := W' a0 p11 p0
noncomputable def wq12 : WX := W' a0 p12 p0
noncomputable def wq13 : WX := W' a0 p13 p0
noncomputable def wq14 : WX := W' a0 p14 p0
noncomputable def wq15 : WX := W' a0 p15 p0
noncomputable def wq16 : WX := W' a1 p0 p1
noncomputable def wq17 : WX := W' a1 p1 p1
noncomputable def wq18 : WX := W' a1 p2 p1
noncomputable def wq19 : WX := W' a1 p3 p1
noncomputable def wq20 : WX := W' a1 p4 p1
noncomputable def wq21 : WX := W' a1 p5 p1
noncomputable def wq22 : WX := W' a1 p6 p1
noncomputable def wq23 : WX := W' a1 p7 p1
noncomputable def wq24 : WX := W' a1 p8 p1
noncomputable def wq25 : WX := W' a1 p9 p1
noncomputable def wq26 : WX := W' a1 p10 p1
noncomputable def wq27 : WX := W' a1 p11 p1
noncomputable def wq28 : WX := W' a1 p12 p1
noncomputable def wq29 : WX := W' a1 p13 p1
noncomputable def wq30 : WX := W' a1 p14 p1
noncomputable def wq31 : WX := W' a1 p15 p1
noncomputable def wq32 : WX := W' a2 p0 p2
noncomputable def wq33 : WX := W' a2 p1 p2
noncomputable def wq34 : WX := W' a2 p2 p2
noncomputable def wq35 : WX := W' a2 p3 p2
noncomputable def wq36 : WX := W' a2 p4 p2
noncomputable def wq37 : WX := W' a2 p5 p2
noncomputable def wq38 : WX := W' a2 p6 p2
noncomputable def wq39 : WX := W' a2 p7 p2
noncomputable def wq40 : WX := W' a2 p8 p2
noncomputable def wq41 : WX := W' a2 p9 p2
noncomputable def wq42 : WX := W' a2 p10 p2
noncomputable def wq43 : WX := W' a2 p11 p2
noncomputable def wq44 : WX := W' a2 p12 p2
noncomputable def wq45 : WX := W' a2 p13 p2
noncomputable def wq46 : WX := W' a2 p14 p2
noncomputable def wq47 : WX := W' a2 p15 p2
noncomputable def wq48 : WX := W' a3 p0 p3
noncomputable def wq49 : WX := W' a3 p1 p3
noncomputable def wq50 : WX := W' a3 p2 p3
noncomputable def wq51 : WX := W' a3 p3 p3
noncomputable def wq52 : WX := W' a3 p4 p3
noncomputable def wq53 : WX := W' a3 p5 p3
noncomputable def wq54 : WX := W' a3 p6 p3
noncomputable def wq55 : WX := W' a3 p7 p3
noncomputable def wq56 : WX := W' a3 p8 p3
noncomputable def wq57 : WX := W' a3 p9 p3
noncomputable def wq58 : WX := W' a3 p10 p3
noncomputable def wq59 : WX := W' a3 p11 p3
noncomputable def wq60 : WX := W' a3 p12 p3
noncomputable def wq61 : WX := W' a3 p13 p3
noncomputable def wq62 : WX := W' a3 p14 p3
noncomputable def wq63 : WX := W' a3 p15 p3
noncomputable def wq64 : WX := W' a4 p0 p4
noncomputable def wq65 : WX := W' a4 p1 p4
noncomputable def wq66 : WX := W' a4 p2 p4
noncomputable def wq67 : WX := W' a4 p3 p4
noncomputable def wq68 : WX := W' a4 p4 p4
noncomputable def wq69 : WX := W' a4 p5 p4
noncomputable def wq70 : WX := W' a4 p6 p4
noncomputable def wq71 : WX := W' a4 p7 p4
noncomputable def wq72 : WX := W' a4 p8 p4
noncomputable def wq73 : WX := W' a4 p9 p4
noncomputable def wq74 : WX := W' a4 p10 p4
noncomputable def wq75 : WX := W' a4 p11 p4
noncomputable def wq76 : WX := W' a4 p12 p4
noncomputable def wq77 : WX := W' a4 p13 p4
noncomputable def wq78 : WX := W' a4 p14 p4
noncomputable def wq79 : WX := W' a4 p15 p4
noncomputable def wq80 : WX := W' a5 p0 p5
noncomputable def wq81 : WX := W' a5 p1 p5
noncomputable def wq82 : WX := W' a5 p2 p5
noncomputable def wq83 : WX := W' a5 p3 p5
noncomputable def wq84 : WX := W' a5 p4 p5
noncomputable def wq85 : WX := W' a5 p5 p5
noncomputable def wq86 : WX := W' a5 p6 p5
noncomputable def wq87 : WX := W' a5 p7 p5
noncomputable def wq88 : WX := W' a5 p8 p5
noncomputable def wq89 : WX := W' a5 p9 p5
noncomputable def wq90 : WX := W' a5 p10 p5
noncomputable def wq91 : WX := W' a5 p11 p5
noncomputable def wq92 : WX := W' a5 p12 p5
noncomputable def wq93 : WX := W' a5 p13 p5
noncomputable def wq94 : WX := W' a5 p14 p5
noncomputable def wq95 : WX := W' a5 p15 p5
noncomputable def wq96 : WX := W' a6 p0 p6
noncomputable def wq97 : WX := W' a6 p1 p6
noncomputable def wq98 : WX := W' a6 p2 p6
noncomputable def wq99 : WX := W' a6 p3 p6
noncomputable def wq100 : WX := W' a6 p4 p6
noncomputable def wq101 : WX := W' a6 p5 p6
noncomputable def wq102 : WX := W' a6 p6 p6
noncomputable def wq103 : WX := W' a6 p7 p6
noncomputable def wq104 : WX := W' a6 p8 p6
noncomputable def wq105 : WX := W' a6 p9 p6
noncomputable def wq106 : WX := W' a6 p10 p6
noncomputable def wq107 : WX := W' a6 p11 p6
noncomputable def wq108 : WX := W' a6 p12 p6
noncomputable def wq109 : WX := W' a6 p13 p6
noncomputable def wq110 : WX := W' a6 p14 p6
noncomputable def wq111 : WX := W' a6 p15 p6
noncomputable def wq112 : WX := W' a7 p0 p7
noncomputable def wq113 : WX := W' a7 p1 p7
noncomputable def wq114 : WX := W' a7 p2 p7
noncomputable def wq115 : WX := W' a7 p3 p7
noncomputable def wq116 : WX := W' a7 p4 p7
noncomputable def wq117 : WX := W' a7 p5 p7
noncomputable def wq118 : WX := W' a7 p6 p7
noncomputable def wq119 : WX := W' a7 p7 p7
noncomputable def wq120 : WX := W' a7 p8 p7
noncomputable def wq121 : WX := W' a7 p9 p7
noncomputable def wq122 : WX := W' a7 p10 p7
noncomputable def wq123 : WX := W' a7 p11 p7
noncomputable def wq124 : WX := W' a7 p12 p7
noncomputable def wq125 : WX := W' a7 p13 p7
noncomputable def wq126 : WX := W' a7 p14 p7
noncomputable def wq127 : WX := W' a7 p15 p7
noncomputable def wq128 : WX := W' a8 p0 p8
noncomputable def wq129 : WX := W' a8 p1 p8
noncomputable def wq130 : WX := W' a8 p2 p8
noncomputable def wq131 : WX := W' a8 p3 p8
noncomputable def wq132 : WX := W' a8 p4 p8
noncomputable def wq133 : WX := W' a8 p5 p8
noncomputable def wq134 : WX := W' a8 p6 p8
noncomputable def wq135 : WX := W' a8 p7 p8
noncomputable def wq136 : WX := W' a8 p8 p8
noncomputable def wq137 : WX := W' a8 p9 p8
noncomputable def wq138 : WX := W' a8 p10 p8
noncomputable def wq139 : WX := W' a8 p11 p8
noncomputable def wq140 : WX := W' a8 p12 p8
noncomputable def wq141 : WX := W' a8 p13 p8
noncomputable def wq142 : WX := W' a8 p14 p8
noncomputable def wq143 : WX := W' a8 p15 p8
noncomputable def wq144 : WX := W' a9 p0 p9
noncomputable def wq145 : WX := W' a9 p1 p9
noncomputable def wq146 : WX := W' a9 p2 p9
noncomputable def wq147 : WX := W' a9 p3 p9
noncomputable def wq148 : WX := W' a9 p4 p9
noncomputable def wq149 : WX := W' a9 p5 p9
noncomputable def wq150 : WX := W' a9 p6 p9
noncomputable def wq151 : WX := W' a9 p7 p9
noncomputable def wq152 : WX := W' a9 p8 p9
noncomputable def wq153 : WX := W' a9 p9 p9
noncomputable def wq154 : WX := W' a9 p10 p9
noncomputable def wq155 : WX := W' a9 p11 p9
noncomputable def wq156 : WX := W' a9 p12 p9
noncomputable def wq157 : WX := W' a9 p13 p9
noncomputable def wq158 : WX := W' a9 p14 p9
noncomputable def wq159 : WX := W' a9 p15 p9
noncomputable def wq160 : WX := W' a10 p0 p10
noncomputable def wq161 : WX := W' a10 p1 p10
noncomputable def wq162 : WX := W' a10 p2 p10
noncomputable def wq163 : WX := W' a10 p3 p10
noncomputable def wq164 : WX := W' a10 p4 p10
noncomputable def wq165 : WX := W' a10 p5 p10
noncomputable def wq166 : WX := W' a10 p6 p10
noncomputable def wq167 : WX := W' a10 p7 p10
noncomputable def wq168 : WX := W' a10 p8 p10
noncomputable def wq169 : WX := W' a10 p9 p10
noncomputable def wq170 : WX := W' a10 p10 p10
noncomputable def wq171 : WX := W' a10 p11 p10
noncomputable def wq172 : WX := W' a10 p12 p10
noncomputable def wq173 : WX := W' a10 p13 p10
noncomputable def wq174 : WX := W' a10 p14 p10
noncomputable def wq175 : WX := W' a10 p15 p10
noncomputable def wq176 : WX := W' a11 p0 p11
noncomputable def wq177 : WX := W' a11 p1 p11
noncomputable def wq178 : WX := W' a11 p2 p11
noncomputable def wq179 : WX := W' a11 p3 p11
noncomputable def wq180 : WX := W' a11 p4 p11
noncomputable def wq181 : WX := W' a11 p5 p11
noncomputable def wq182 : WX := W' a11 p6 p11
noncomputable def wq183 : WX := W' a11 p7 p11
noncomputable def wq184 : WX := W' a11 p8 p11
noncomputable def wq185 : WX := W' a11 p9 p11
noncomputable def wq186 : WX := W' a11 p10 p11
noncomputable def wq187 : WX := W' a11 p11 p11
noncomputable def wq188 : WX := W' a11 p12 p11
noncomputable def wq189 : WX := W' a11 p13 p11
noncomputable def wq190 : WX := W' a11 p14 p11
noncomputable def wq191 : WX := W' a11 p15 p11
noncomputable def wq192 : WX := W' a12 p0 p12
noncomputable def wq193 : WX := W' a12 p1 p12
noncomputable def wq194 : WX := W' a12 p2 p12
noncomputable def wq195 : WX := W' a12 p3 p12
noncomputable def wq196 : WX := W' a12 p4 p12
noncomputable def wq197 : WX := W' a12 p5 p12
noncomputable def wq198 : WX := W' a12 p6 p12
noncomputable def wq199 : WX := W' a12 p7 p12
noncomputable def wq200 : WX := W' a12 p8 p12
noncomputable def wq201 : WX := W' a12 p9 p12
noncomputable def wq202 : WX := W' a12 p10 p12
noncomputable def wq203 : WX := W' a12 p11 p12
noncomputable def wq204 : WX := W' a12 p12 p12
noncomputable def wq205 : WX := W' a12 p13 p12
noncomputable def wq206 : WX := W' a12 p14 p12
noncomputable def wq207 : WX := W' a12 p15 p12
noncomputable def wq208 : WX := W' a13 p0 p13
noncomputable def wq209 : WX := W' a13 p1 p13
noncomputable def wq210 : WX := W' a13 p2 p13
noncomputable def wq211 : WX := W' a13 p3 p13
noncomputable def wq212 : WX := W' a13 p4 p13
def KF (f : FuncId) (A : Ann) : Prop := ∃ fn c, S.P.funcs[f]? = some fn ∧ fn.body = some c ∧ okCode S.ty S.pf A fn.ntmps c = true ∧ (fn.name == "runtime.NumGoroutine") = false
end X
