/- SubTree, Swapped: annotations, types, contracts of the helpers. -/
import Derived.Test.YthpjheboegobkaaProg
import Derived.Test.YthpjheboegobkaaVc
import Derived.KernelRfl
import Derived.IntWalk
open Go Go.V Go.Proofs
namespace X
set_option maxRecDepth 100000
set_option maxHeartbeats 4000000
set_option linter.unusedSimpArgs false
set_option linter.unusedVariables false
abbrev A4 : Ann := { vars := [0,1,2,4,5,6,7,8,9,10,11,12,13,14,15], kills := [], owned := [], isPure := false, dyn := [10] }
abbrev A5 : Ann := { vars := [0,1,2,3,5,6,7,8,9,10,11,12,13,14,15,16,17,18], kills := [], owned := [], isPure := false, dyn := [8,14,16,31], pend := [8,31] }
abbrev A11 : Ann := { vars := [0,1,2,4], kills := [], owned := [], isPure := true }
abbrev A12 : Ann := { vars := [0,1,2,4,5,6], kills := [], owned := [], isPure := false, isFresh := true }
abbrev A13 : Ann := { vars := [0,1,2,3], kills := [], owned := [], isPure := false }
abbrev A14 : Ann := { vars := [0,1,2,4,5,6], kills := [], owned := [], isPure := false, isFresh := true }
abbrev A15 : Ann := { vars := [0,1,2,3,4], kills := [], owned := [], isPure := false }
abbrev A16 : Ann := { vars := [0,1,2,4], kills := [], owned := [], isPure := false }
abbrev A17 : Ann := { vars := [0,1,2,4], kills := [], owned := [], isPure := true }
abbrev A18 : Ann := { vars := [0,1,2,3,5,6,7,8], kills := [], owned := [], isPure := false, isFresh := true }
abbrev A19 : Ann := { vars := [0,1,2,3,5,6,7,8], kills := [], owned := [], isPure := false, isFresh := true }
abbrev A21 : Ann := { vars := [0,1,2,6], kills := [], owned := [], isPure := true }
abbrev A23 : Ann := { vars := [0,1,4,5], kills := [], owned := [], isPure := true }
abbrev A24 : Ann := { vars := [0,1,2,3,4], kills := [(1,[4])], owned := [], isPure := true }
abbrev A25 : Ann := { vars := [0,1,2,6], kills := [], owned := [], isPure := true }
abbrev A26 : Ann := { vars := [0,1,2,3,4,6,9,10,11,12,13], kills := [], owned := [(13,5)], isPure := false }
abbrev A27 : Ann := { vars := [0,2,3,4], kills := [], owned := [], isPure := false }
abbrev A28 : Ann := { vars := [0,1,2,3,4,6,7,8], kills := [(1,[3,4])], owned := [], isPure := true }
abbrev A29 : Ann := { vars := [0,1,2,3,4,6,9,10,11,12,14,15,34,35,36], kills := [(1,[14,15])], owned := [(16,18)], isPure := false, dyn := [16] }
abbrev A30 : Ann := { vars := [0,1,4,5], kills := [], owned := [], isPure := true }
abbrev A31 : Ann := { vars := [0,1,4,5], kills := [], owned := [], isPure := false }
abbrev A32 : Ann := { vars := [0,1,4,5], kills := [], owned := [], isPure := true }
abbrev A33 : Ann := { vars := [0,1,2,4], kills := [], owned := [], isPure := true }
abbrev A34 : Ann := { vars := [0,1,2,3], kills := [], owned := [], isPure := false }
abbrev A35 : Ann := { vars := [0,1,4,6,7,8,9], kills := [(1,[6])], owned := [], isPure := true }
abbrev A36 : Ann := { vars := [0,2], kills := [], owned := [], isPure := false }
abbrev A37 : Ann := { vars := [0,1,2,3,4], kills := [], owned := [], isPure := true }
abbrev A38 : Ann := { vars := [0,1,4,5], kills := [], owned := [], isPure := false }
abbrev A39 : Ann := { vars := [0,1,4,5], kills := [], owned := [], isPure := true }
abbrev A40 : Ann := { vars := [0,1,4], kills := [], owned := [], isPure := true }
abbrev A41 : Ann := { vars := [0,2,3,4], kills := [], owned := [], isPure := false }
abbrev A42 : Ann := { vars := [0,1,4,5], kills := [], owned := [], isPure := true }
def annL : List (Nat × Ann) := [(4, A4), (5, A5), (11, A11), (12, A12), (13, A13), (14, A14), (15, A15), (16, A16), (17, A17), (18, A18), (19, A19), (21, A21), (23, A23), (24, A24), (25, A25), (26, A26), (27, A27), (28, A28), (29, A29), (30, A30), (31, A31), (32, A32), (33, A33), (34, A34), (35, A35), (36, A36), (37, A37), (38, A38), (39, A39), (40, A40), (41, A41), (42, A42)]

def annF (l : List (Nat × Ann)) (f : FuncId) : Option Ann := match l with
  | [] => none
  | (g, A) :: r => if g = f then some A else annF r f
noncomputable def S : Sy := { P := Try.prog, ty := tiOf Try.prog, ann := annF annL, ext := fun _ _ _ => none, extPure := fun _ => false }
@[simp] theorem ty3 : S.ty 3 = some { agg := false, size := 1, bytes := 8, zero := some (.int .i64 0), shape := .int .i64, eqs := false } := by kernel_rfl
@[simp] theorem ty4 : S.ty 4 = some { agg := false, size := 1, bytes := 1, zero := some (.bool false), shape := .bool, eqs := false } := by kernel_rfl
@[simp] theorem ty30 : S.ty 30 = some { agg := false, size := 1, bytes := 24, zero := some .nils, shape := .slice 65, eqs := false } := by kernel_rfl
@[simp] theorem ty34 : S.ty 34 = some { agg := false, size := 1, bytes := 24, zero := some .nils, shape := .slice 66, eqs := false } := by kernel_rfl
@[simp] theorem ty63 : S.ty 63 = some { agg := false, size := 1, bytes := 24, zero := some .nils, shape := .slice 3, eqs := false } := by kernel_rfl
@[simp] theorem ty32 : S.ty 32 = some { agg := true, size := 1, bytes := 24, zero := some (.agg [.nils]), shape := .struct [(0,30)], eqs := false } := by kernel_rfl
@[simp] theorem ty36 : S.ty 36 = some { agg := true, size := 1, bytes := 24, zero := some (.agg [.nils]), shape := .struct [(0,34)], eqs := false } := by kernel_rfl
@[simp] theorem ty65 : S.ty 65 = some { agg := true, size := 6, bytes := 80, zero := some (.agg [.int .i64 0, .int .i64 0, .nils, .int .i64 0, .int .i64 0, .nils]), shape := .struct [(0,3),(1,3),(2,63),(3,3),(4,3),(5,63)], eqs := false } := by kernel_rfl
@[simp] theorem ty66 : S.ty 66 = some { agg := true, size := 6, bytes := 80, zero := some (.agg [.int .i64 0, .int .i64 0, .nils, .int .i64 0, .int .i64 0, .nils]), shape := .struct [(0,3),(1,3),(2,63),(3,3),(4,3),(5,63)], eqs := false } := by kernel_rfl
@[simp] theorem ty58 : S.ty 58 = some { agg := true, size := 2, bytes := 32, zero := some (.agg [.nils, .bool false]), shape := .struct [(0,34),(1,4)], eqs := false } := by kernel_rfl
abbrev I (n : Int) : T := .int .i64 n
abbrev B (b : Bool) : T := .bool b
attribute [simp] cls Go.V.beq_self
@[simp] theorem bytes_nil : V.bytes { data := #[] } = [] := rfl
attribute [-simp] lenV idxV
@[simp] theorem lenV_str (σ : Store) (s : List Nat) : lenV σ .str (.t (.str s)) = some (s.length : Int) := rfl
@[simp] theorem lenV_list (σ : Store) (e : TypeId) (r : List T) : lenV σ (.slice e) (.t (.list r)) = some (r.length : Int) := rfl
@[simp] theorem lenV_nils (σ : Store) (e : TypeId) : lenV σ (.slice e) (.t .nils) = some 0 := rfl
@[simp] theorem lenV_sl (σ : Store) (e : TypeId) (a b c n d : Nat) : lenV σ (.slice e) (.sl a b c n d) = some (n : Int) := rfl
@[simp] theorem idxV_list (k : Nat) (rows : List T) (i : Int) : idxV k (.t (.list rows)) i = if 0 ≤ i then (match rows[i.toNat]? with
      | some (.agg cs) => if cs.length = k then some (.t (.snap cs)) else none
      | _ => none) else none := rfl
@[simp] theorem idxV_sl (k loc g off len k' : Nat) (i : Int) : idxV k (.sl loc g off len k') i = if 0 ≤ i ∧ i < len ∧ k' = k then some (.ptr loc g (off + i.toNat * k) k) else none := rfl
@[simp] theorem pf13 : S.pf 13 = false := by simp [Sy.pf, S, annF, annL]
@[simp] theorem pf15 : S.pf 15 = false := by simp [Sy.pf, S, annF, annL]
@[simp] theorem pf17 : S.pf 17 = true := by simp [Sy.pf, S, annF, annL]
@[simp] theorem pf26 : S.pf 26 = false := by simp [Sy.pf, S, annF, annL]
@[simp] theorem pf36 : S.pf 36 = false := by simp [Sy.pf, S, annF, annL]
@[simp] theorem pf37 : S.pf 37 = true := by simp [Sy.pf, S, annF, annL]
@[simp] theorem pf18 : S.pf 18 = false := by simp [Sy.pf, S, annF, annL]
@[simp] theorem pf19 : S.pf 19 = false := by simp [Sy.pf, S, annF, annL]
@[simp] theorem pf12 : S.pf 12 = false := by simp [Sy.pf, S, annF, annL]
@[simp] theorem pf14 : S.pf 14 = false := by simp [Sy.pf, S, annF, annL]
@[simp] theorem pf16 : S.pf 16 = false := by simp [Sy.pf, S, annF, annL]
