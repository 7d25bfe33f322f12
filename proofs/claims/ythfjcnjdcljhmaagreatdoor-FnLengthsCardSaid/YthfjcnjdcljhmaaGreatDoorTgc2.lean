/- The fast texts of functions, each held against the program's. By a printer of this session's. -/
import Derived.Test.YthfjcnjdcljhmaaGreatDoorTgt
open Go Go.V Go.Proofs
namespace X
set_option maxRecDepth 100000
set_option maxHeartbeats 4000000
set_option linter.unusedSimpArgs false
set_option linter.unusedVariables false
noncomputable def c314 : CO := (sq (rgn (thn (op (fMv (Cx (.t (.str [])))) (W' a0 p2 p0)) nop))
  (sq (sq (rgn (thn (op (fMv (R a0 a0)) (W' a0 p3 p0)) (thn (op (fIb .lss (R a0 a3) (Cx (.t (.int .i64 (.ofNat 10))))) (W' a0 p4 p0)) nop)))
  (cnd (R a0 a4) (sq (rgn (thn (op (fMv (R a0 a0)) (W' a0 p5 p0)) (thn (op (fMv (R a0 a0)) (W' a0 p6 p0)) (thn (op (fIb .add (R a0 a6) (Cx (.t (.int .i64 (.ofNat 1))))) (W' a0 p7 p0)) (thn (op (fSlS (Cx (.t (.str [48, 49, 50, 51, 52, 53, 54, 55, 56, 57, 97, 98, 99, 100, 101, 102, 103, 104, 105, 106, 107, 108, 109, 110, 111, 112, 113, 114, 115, 116, 117, 118, 119, 120, 121, 122]))) (oX (R a0 a5)) (oX (R a0 a7))) (W' a0 p8 p0)) (thn (op (fMv (R a0 a8)) (W' a0 p2 p0)) nop))))))
  rtn) skp))
  (sq (rgn (thn (op (fMv (R a0 a0)) (W' a0 p9 p0)) (thn (op (fIb .mul (R a0 a9) (Cx (.t (.int .i64 (.ofNat 2))))) (W' a0 p10 p0)) (thn (op (fMv (R a0 a0)) (W' a0 p11 p0)) (thn (op (fIb .mul (R a0 a11) (Cx (.t (.int .i64 (.ofNat 2))))) (W' a0 p12 p0)) (thn (op (fIb .add (R a0 a12) (Cx (.t (.int .i64 (.ofNat 2))))) (W' a0 p13 p0)) (thn (op (fSlS (Cx (.t (.str [48, 48, 48, 49, 48, 50, 48, 51, 48, 52, 48, 53, 48, 54, 48, 55, 48, 56, 48, 57, 49, 48, 49, 49, 49, 50, 49, 51, 49, 52, 49, 53, 49, 54, 49, 55, 49, 56, 49, 57, 50, 48, 50, 49, 50, 50, 50, 51, 50, 52, 50, 53, 50, 54, 50, 55, 50, 56, 50, 57, 51, 48, 51, 49, 51, 50, 51, 51, 51, 52, 51, 53, 51, 54, 51, 55, 51, 56, 51, 57, 52, 48, 52, 49, 52, 50, 52, 51, 52, 52, 52, 53, 52, 54, 52, 55, 52, 56, 52, 57, 53, 48, 53, 49, 53, 50, 53, 51, 53, 52, 53, 53, 53, 54, 53, 55, 53, 56, 53, 57, 54, 48, 54, 49, 54, 50, 54, 51, 54, 52, 54, 53, 54, 54, 54, 55, 54, 56, 54, 57, 55, 48, 55, 49, 55, 50, 55, 51, 55, 52, 55, 53, 55, 54, 55, 55, 55, 56, 55, 57, 56, 48, 56, 49, 56, 50, 56, 51, 56, 52, 56, 53, 56, 54, 56, 55, 56, 56, 56, 57, 57, 48, 57, 49, 57, 50, 57, 51, 57, 52, 57, 53, 57, 54, 57, 55, 57, 56, 57, 57]))) (oX (R a0 a10)) (oX (R a0 a13))) (W' a0 p14 p0)) (thn (op (fMv (R a0 a14)) (W' a0 p2 p0)) nop))))))))
  rtn)))
noncomputable def x314 : FFn := .code 314 .pure [(W' a0 p0 p0)] c314 (rT (R a0 a2) r0)
theorem e314 : Entry ixf S x314 := ⟨A314, _, _, rfl, Tryz.func314, rfl, rfl, by kernel_rfl, by kernel_rfl, by kernel_rfl, rfl⟩
noncomputable def c318 : CO := (sq (rgn (thn (op (fMv (R a0 a1)) (W' a0 p8 p0)) (thn (op (fIb .add (R a0 a8) (Cx (.t (.int .i64 (.ofNat 1))))) (W' a0 p9 p0)) (thn (op (fMv (R a0 a9)) (W' a0 p6 p0)) nop))))
  (blk 0 (lp (sq (sq (rgn (thn (op (fMv (R a0 a6)) (W' a0 p10 p0)) (thn (op (fMv (R a0 a2)) (W' a0 p11 p0)) (thn (op (fIb .lss (R a0 a10) (R a0 a11)) (W' a0 p12 p0)) nop))))
  (cnd (R a0 a12) skp (ext 0)))
  (sq (blk 1 (sq (rgn (thn (op (fMv (R a0 a6)) (W' a0 p15 p0)) (thn (op (fMv (R a0 a15)) (W' a0 p7 p0)) nop)))
  (blk 2 (lp (sq (sq (rgn (thn (opD (fMv (R a0 a7)) (W' a1 p0 p1)) (thn (opD (fMv (R a0 a1)) (W' a1 p1 p1)) (thn (opD (fIb .gtr (R a1 a0) (R a1 a1)) (W' a1 p2 p1)) (thn (opD (fMv (R a1 a2)) (W' a1 p3 p1)) (thn (gd (R a1 a3) true (W' a1 p4 p1) (opD (fMv (R a0 a0)) (W' a1 p4 p1))) (thn (gd (R a1 a3) true (W' a1 p5 p1) (opD (fMv (R a0 a7)) (W' a1 p5 p1))) (thn (gd (R a1 a3) true (W' a1 p6 p1) (opD (fIAddr 1 (R a1 a4) (R a1 a5)) (W' a1 p6 p1))) (thn (gd (R a1 a3) true (W' a1 p7 p1) (op (fLoad false 1 (R a1 a6)) (W' a1 p7 p1))) (thn (gd (R a1 a3) true (W' a1 p8 p1) (opD (fMv (R a0 a0)) (W' a1 p8 p1))) (thn (gd (R a1 a3) true (W' a1 p9 p1) (opD (fMv (R a0 a7)) (W' a1 p9 p1))) (thn (gd (R a1 a3) true (W' a1 p10 p1) (opD (fIb .sub (R a1 a9) (Cx (.t (.int .i64 (.ofNat 1))))) (W' a1 p10 p1))) (thn (gd (R a1 a3) true (W' a1 p11 p1) (opD (fIAddr 1 (R a1 a8) (R a1 a10)) (W' a1 p11 p1))) (thn (gd (R a1 a3) true (W' a1 p12 p1) (op (fLoad false 1 (R a1 a11)) (W' a1 p12 p1))) (thn (gd (R a1 a3) true (W' a1 p13 p1) (clf (some (.i10, .i11)) true 324 (cX (R a1 a7) (cX (R a1 a12) nX)) (W' a1 p13 p1))) (thn (opD (fPick (R a1 a3) (R a1 a13) (Cx (.t (.bool false)))) (W' a1 p14 p1)) nop))))))))))))))))
  (cnd (R a1 a14) skp (ext 2)))
  (sq (blk 3 (rgn (thn (opD (fMv (R a0 a0)) (W' a2 p1 p2)) (thn (opD (fMv (R a0 a7)) (W' a2 p2 p2)) (thn (opD (fMv (R a0 a0)) (W' a2 p3 p2)) (thn (opD (fMv (R a0 a7)) (W' a2 p4 p2)) (thn (opD (fIb .sub (R a2 a4) (Cx (.t (.int .i64 (.ofNat 1))))) (W' a2 p5 p2)) (thn (opD (fMv (R a0 a0)) (W' a2 p6 p2)) (thn (opD (fMv (R a0 a7)) (W' a2 p7 p2)) (thn (opD (fIb .sub (R a2 a7) (Cx (.t (.int .i64 (.ofNat 1))))) (W' a2 p8 p2)) (thn (opD (fIAddr 1 (R a2 a6) (R a2 a8)) (W' a2 p9 p2)) (thn (op (fLoad false 1 (R a2 a9)) (W' a2 p10 p2)) (thn (opD (fMv (R a0 a0)) (W' a2 p11 p2)) (thn (opD (fMv (R a0 a7)) (W' a2 p12 p2)) (thn (opD (fIAddr 1 (R a2 a11) (R a2 a12)) (W' a2 p13 p2)) (thn (op (fLoad false 1 (R a2 a13)) (W' a2 p14 p2)) (thn (opD (fIAddr 1 (R a2 a1) (R a2 a2)) (W' a2 p15 p2)) (thn (op (fStore 1 (R a2 a15) (R a2 a10)) W0) (thn (opD (fIAddr 1 (R a2 a3) (R a2 a5)) (W' a3 p0 p3)) (thn (op (fStore 1 (R a3 a0) (R a2 a14)) W0) nop))))))))))))))))))))
  (rgn (thn (op (fMv (R a0 a7)) (W' a1 p15 p1)) (thn (op (fIb .sub (R a1 a15) (Cx (.t (.int .i64 (.ofNat 1))))) (W' a2 p0 p2)) (thn (op (fMv (R a2 a0)) (W' a0 p7 p0)) nop))))))))))
  (rgn (thn (op (fMv (R a0 a6)) (W' a0 p13 p0)) (thn (op (fIb .add (R a0 a13) (Cx (.t (.int .i64 (.ofNat 1))))) (W' a0 p14 p0)) (thn (op (fMv (R a0 a14)) (W' a0 p6 p0)) nop)))))))))
noncomputable def x318 : FFn := .code 318 .inl [(W' a0 p0 p0), (W' a0 p1 p0), (W' a0 p2 p0)] c318 r0
theorem e318 : Entry ixf S x318 := ⟨A318, _, _, rfl, Tryz.func318, rfl, rfl, by kernel_rfl, by kernel_rfl, by kernel_rfl, ⟨rfl, rfl⟩⟩
noncomputable def c324 : CO := (sq (rgn (thn (op (fMv (Cx (.t (.bool false)))) (W' a0 p4 p0)) nop))
  (sq (rgn (thn (op (fMv (R a0 a0)) (W' a0 p5 p0)) (thn (clf (some (.i10, .i13)) false 341 (cX (R a0 a5) nX) (W' a0 p6 p0)) (thn (op (fMv (R a0 a6)) (W' a0 p7 p0)) (thn (gd (R a0 a7) true (W' a0 p8 p0) (op (fMv (R a0 a1)) (W' a0 p8 p0))) (thn (gd (R a0 a7) true (W' a0 p9 p0) (clf (some (.i10, .i13)) false 341 (cX (R a0 a8) nX) (W' a0 p9 p0))) (thn (gd (R a0 a7) true (W' a0 p10 p0) (op (fNot (R a0 a9)) (W' a0 p10 p0))) (thn (op (fPick (R a0 a7) (R a0 a10) (Cx (.t (.bool false)))) (W' a0 p11 p0)) (thn (op (fMv (R a0 a11)) (W' a0 p12 p0)) (thn (gd (R a0 a12) false (W' a0 p13 p0) (op (fMv (R a0 a0)) (W' a0 p13 p0))) (thn (gd (R a0 a12) false (W' a0 p14 p0) (op (fMv (R a0 a1)) (W' a0 p14 p0))) (thn (gd (R a0 a12) false (W' a0 p15 p0) (op (fIb .lss (R a0 a13) (R a0 a14)) (W' a0 p15 p0))) (thn (op (fPick (R a0 a12) (Cx (.t (.bool true))) (R a0 a15)) (W' a1 p0 p1)) (thn (op (fMv (R a1 a0)) (W' a0 p4 p0)) nop))))))))))))))
  rtn))
noncomputable def x324 : FFn := .code 324 .pure [(W' a0 p0 p0), (W' a0 p1 p0)] c324 (rT (R a0 a4) r0)
theorem e324 : Entry ixf S x324 := ⟨A324, _, _, rfl, Tryz.func324, rfl, rfl, by kernel_rfl, by kernel_rfl, by kernel_rfl, rfl⟩
noncomputable def c333 : CO := (sq (rgn (thn (op (fMv (Cx (.t (.int .i64 (.ofNat 0))))) (W' a0 p4 p0)) nop))
  (sq (rgn (thn (op (fMv (R a0 a0)) (W' a0 p6 p0)) (thn (op (fMv (R a0 a1)) (W' a0 p7 p0)) (thn (clf (some (.i10, .i14)) false 344 (cX (R a0 a6) (cX (R a0 a7) nX)) (W' a0 p8 p0)) (thn (op (fMv (R a0 a8)) (W' a0 p5 p0)) nop)))))
  (sq (blk 0 (lp (sq (sq (rgn (thn (op (fMv (R a0 a0)) (W' a0 p9 p0)) (thn (op (fNilCheck (R a0 a9)) (W' a0 p10 p0)) (thn (op (fFAddr 3 1 (R a0 a10)) (W' a0 p11 p0)) (thn (op (fLoad false 1 (R a0 a11)) (W' a0 p12 p0)) (thn (op (fNot (R a0 a12)) (W' a0 p13 p0)) nop))))))
  (cnd (R a0 a13) skp (ext 0)))
  (blk 1 (sq (rgn (thn (op (fMv (R a0 a0)) (W' a0 p14 p0)) (thn (clf (some (.i1, .i6)) false 56 (cX (R a0 a14) (cX (Cx (.t (.str [42]))) nX)) (W' a0 p15 p0)) nop)))
  (cnd (R a0 a15) (rgn (thn (op (fMv (R a0 a0)) (W' a1 p0 p1)) (thn (op (fMv (R a0 a1)) (W' a1 p1 p1)) (thn (op (fMv (R a0 a5)) (W' a1 p2 p1)) (thn (op (fMv (R a0 a0)) (W' a1 p3 p1)) (thn (op (fMv (R a0 a1)) (W' a1 p4 p1)) (thn (clf (some (.i10, .i14)) false 344 (cX (R a1 a3) (cX (R a1 a4) nX)) (W' a1 p5 p1)) (thn (clf (some (.i9, .i15)) false 284 (cX (R a1 a0) (cX (R a1 a1) (cX (Cx (.t (.int .i64 (.ofNat 6)))) (cX (R a1 a2) (cX (R a1 a5) nX))))) (W' a1 p6 p1)) (thn (op (fMv (R a1 a6)) (W' a0 p5 p0)) nop))))))))) (sq (rgn (thn (op (fMv (R a0 a0)) (W' a1 p7 p1)) (thn (clf (some (.i1, .i6)) false 56 (cX (R a1 a7) (cX (Cx (.t (.str [47]))) nX)) (W' a1 p8 p1)) nop)))
  (cnd (R a1 a8) (rgn (thn (op (fMv (R a0 a0)) (W' a1 p9 p1)) (thn (op (fMv (R a0 a1)) (W' a1 p10 p1)) (thn (op (fMv (R a0 a5)) (W' a1 p11 p1)) (thn (op (fMv (R a0 a0)) (W' a1 p12 p1)) (thn (op (fMv (R a0 a1)) (W' a1 p13 p1)) (thn (clf (some (.i10, .i14)) false 344 (cX (R a1 a12) (cX (R a1 a13) nX)) (W' a1 p14 p1)) (thn (clf (some (.i9, .i15)) false 284 (cX (R a1 a9) (cX (R a1 a10) (cX (Cx (.t (.int .i64 (.ofNat 7)))) (cX (R a1 a11) (cX (R a1 a14) nX))))) (W' a1 p15 p1)) (thn (op (fMv (R a1 a15)) (W' a0 p5 p0)) nop))))))))) (sq (rgn (thn (op (fMv (R a0 a5)) (W' a2 p0 p2)) (thn (op (fMv (R a2 a0)) (W' a0 p4 p0)) nop)))
  rtn)))))))))
  (sq (rgn (thn (op (fMv (R a0 a5)) (W' a2 p1 p2)) (thn (op (fMv (R a2 a1)) (W' a0 p4 p0)) nop)))
  rtn))))
noncomputable def x333 : FFn := .code 333 .inl [(W' a0 p0 p0), (W' a0 p1 p0)] c333 (rT (R a0 a4) r0)
theorem e333 : Entry ixf S x333 := ⟨A333, _, _, rfl, Tryz.func333, rfl, rfl, by kernel_rfl, by kernel_rfl, by kernel_rfl, ⟨rfl, rfl⟩⟩
noncomputable def c341 : CO := (sq (rgn (thn (op (fMv (Cx (.t (.bool false)))) (W' a0 p2 p0)) nop))
  (sq (rgn (thn (op (fMv (R a0 a0)) (W' a0 p3 p0)) (thn (op (fMv (R a0 a0)) (W' a0 p4 p0)) (thn (op (fIb .neq (R a0 a3) (R a0 a4)) (W' a0 p5 p0)) (thn (op (fMv (R a0 a5)) (W' a0 p2 p0)) nop)))))
  rtn))
noncomputable def x341 : FFn := .code 341 .pure [(W' a0 p0 p0)] c341 (rT (R a0 a2) r0)
theorem e341 : Entry ixf S x341 := ⟨A341, _, _, rfl, Tryz.func341, rfl, rfl, by kernel_rfl, by kernel_rfl, by kernel_rfl, rfl⟩
noncomputable def c344 : CO := (sq (rgn (thn (op (fMv (Cx (.t (.int .i64 (.ofNat 0))))) (W' a0 p4 p0)) nop))
  (sq (rgn (thn (op (fMv (R a0 a0)) (W' a0 p6 p0)) (thn (clf (some (.i2, .i10)) false 94 (cX (R a0 a6) nX) (W' a0 p7 p0)) nop)))
  (sq (rgn (thn (op (fMv (R a0 a0)) (W' a0 p8 p0)) (thn (op (fMv (R a0 a1)) (W' a0 p9 p0)) (thn (clf (some (.i10, .i15)) false 349 (cX (R a0 a8) (cX (R a0 a9) nX)) (W' a0 p10 p0)) (thn (op (fMv (R a0 a10)) (W' a0 p5 p0)) nop)))))
  (sq (rgn (thn (op (fMv (R a0 a0)) (W' a0 p11 p0)) (thn (clf (some (.i2, .i12)) false 96 (cX (R a0 a11) nX) (W' a0 p12 p0)) nop)))
  (sq (rgn (thn (op (fMv (R a0 a5)) (W' a0 p13 p0)) (thn (op (fMv (R a0 a13)) (W' a0 p4 p0)) nop)))
  rtn)))))
noncomputable def x344 : FFn := .code 344 .inl [(W' a0 p0 p0), (W' a0 p1 p0)] c344 (rT (R a0 a4) r0)
theorem e344 : Entry ixf S x344 := ⟨A344, _, _, rfl, Tryz.func344, rfl, rfl, by kernel_rfl, by kernel_rfl, by kernel_rfl, ⟨rfl, rfl⟩⟩
noncomputable def c349 : CO := (sq (rgn (thn (op (fMv (Cx (.t (.int .i64 (.ofNat 0))))) (W' a0 p4 p0)) nop))
  (sq (sq (rgn (thn (op (fMv (R a0 a0)) (W' a0 p13 p0)) (thn (clf (some (.i1, .i6)) false 56 (cX (R a0 a13) (cX (Cx (.t (.str [33]))) nX)) (W' a0 p14 p0)) nop)))
  (cnd (R a0 a14) (sq (rgn (thn (op (fMv (R a0 a0)) (W' a0 p15 p0)) (thn (op (fMv (R a0 a1)) (W' a1 p0 p1)) (thn (clf (some (.i10, .i14)) false 344 (cX (R a0 a15) (cX (R a1 a0) nX)) (W' a1 p1 p1)) (thn (op (fMv (R a1 a1)) (W' a0 p5 p0)) nop)))))
  (sq (rgn (thn (op (fMv (R a0 a1)) (W' a1 p2 p1)) (thn (op (fMv (R a0 a5)) (W' a1 p3 p1)) (thn (op (fLit true 1 1 [(0, 1)] [(.t (.int .i64 (.ofNat 0)))] (cP 0 (R a1 a3) nP)) (W' a1 p4 p1)) (thn (op (fBuild [(0, 1), (1, 1), (2, 1), (3, 1)] [(.t (.int .i64 (.ofNat 0))), (.t (.int .i64 (.ofNat 0))), (.t (.str [])), (.t .nils)] (cP 0 (Cx (.t (.int .i64 (.ofNat 11)))) (cP 3 (R a1 a4) nP))) (W' a1 p5 p1)) (thn (clf (some (.i10, .i8)) false 311 (cX (R a1 a2) (cX (R a1 a5) nX)) (W' a1 p6 p1)) (thn (op (fMv (R a1 a6)) (W' a0 p4 p0)) nop)))))))
  rtn)) skp))
  (sq (sq (rgn (thn (op (fMv (R a0 a0)) (W' a1 p7 p1)) (thn (clf (some (.i1, .i6)) false 56 (cX (R a1 a7) (cX (Cx (.t (.str [64]))) nX)) (W' a1 p8 p1)) nop)))
  (cnd (R a1 a8) (sq (rgn (thn (op (fMv (R a0 a1)) (W' a1 p9 p1)) (thn (op (fBuild [(0, 1), (1, 1), (2, 1), (3, 1)] [(.t (.int .i64 (.ofNat 0))), (.t (.int .i64 (.ofNat 0))), (.t (.str [])), (.t .nils)] (cP 0 (Cx (.t (.int .i64 (.ofNat 3)))) nP)) (W' a1 p10 p1)) (thn (clf (some (.i10, .i8)) false 311 (cX (R a1 a9) (cX (R a1 a10) nX)) (W' a1 p11 p1)) (thn (op (fMv (R a1 a11)) (W' a0 p4 p0)) nop)))))
  rtn) skp))
  (sq (sq (rgn (thn (op (fMv (R a0 a0)) (W' a1 p12 p1)) (thn (clf (some (.i1, .i6)) false 56 (cX (R a1 a12) (cX (Cx (.t (.str [40]))) nX)) (W' a1 p13 p1)) nop)))
  (cnd (R a1 a13) (sq (rgn (thn (op (fMv (R a0 a0)) (W' a1 p14 p1)) (thn (op (fMv (R a0 a1)) (W' a1 p15 p1)) (thn (clf (some (.i8, .i10)) false 247 (cX (R a1 a14) (cX (R a1 a15) nX)) (W' a2 p0 p2)) (thn (op (fMv (R a2 a0)) (W' a0 p6 p0)) nop)))))
  (sq (rgn (thn (op (fMv (R a0 a0)) (W' a2 p1 p2)) (thn (clf (some (.i1, .i7)) false 57 (cX (R a2 a1) (cX (Cx (.t (.str [41]))) nX)) (W' a2 p2 p2)) nop)))
  (sq (rgn (thn (op (fMv (R a0 a6)) (W' a2 p3 p2)) (thn (op (fMv (R a2 a3)) (W' a0 p4 p0)) nop)))
  rtn))) skp))
  (sq (rgn (thn (op (fMv (R a0 a0)) (W' a2 p5 p2)) (thn (clf (some (.i1, .i5)) false 55 (cX (R a2 a5) (cX (Cx (.t (.int .i64 (.ofNat 2)))) nX)) (W' a2 p6 p2)) (thn (op (fMv (R a2 a6)) (W' a2 p4 p2)) (thn (op (fExt (R a2 a4) 0) (W' a2 p7 p2)) (thn (op (fExt (R a2 a4) 1) (W' a2 p8 p2)) (thn (op (fMv (R a2 a7)) (W' a0 p7 p0)) (thn (op (fMv (R a2 a8)) (W' a0 p8 p0)) nop))))))))
  (sq (sq (rgn (thn (op (fMv (R a0 a8)) (W' a2 p9 p2)) nop))
  (cnd (R a2 a9) (sq (rgn (thn (op (fMv (Cx (.t (.int .i64 (.ofNat 0))))) (W' a0 p9 p0)) nop))
  (sq (sq (rgn (thn (op (fMv (Cx (.t (.int .i64 (.ofNat 0))))) (W' a0 p10 p0)) nop))
  (blk 0 (lp (sq (sq (rgn (thn (op (fMv (R a0 a10)) (W' a2 p10 p2)) (thn (op (fMv (R a0 a7)) (W' a2 p11 p2)) (thn (op (fLenS (R a2 a11)) (W' a2 p12 p2)) (thn (op (fIb .lss (R a2 a10) (R a2 a12)) (W' a2 p13 p2)) nop)))))
  (cnd (R a2 a13) skp (ext 0)))
  (sq (blk 1 (rgn (thn (op (fMv (R a0 a9)) (W' a3 p0 p3)) (thn (op (fIb .mul (Cx (.t (.int .i64 (.ofNat 10)))) (R a3 a0)) (W' a3 p1 p3)) (thn (op (fMv (R a0 a7)) (W' a3 p2 p3)) (thn (op (fMv (R a0 a10)) (W' a3 p3 p3)) (thn (op (fIdx (R a3 a2) (R a3 a3)) (W' a3 p4 p3)) (thn (op (fCInt .i64 (R a3 a4)) (W' a3 p5 p3)) (thn (op (fIb .add (R a3 a1) (R a3 a5)) (W' a3 p6 p3)) (thn (op (fIb .sub (R a3 a6) (Cx (.t (.int .i64 (.ofNat 48))))) (W' a3 p7 p3)) (thn (op (fMv (R a3 a7)) (W' a0 p9 p0)) nop)))))))))))
  (rgn (thn (op (fMv (R a0 a10)) (W' a2 p14 p2)) (thn (op (fIb .add (R a2 a14) (Cx (.t (.int .i64 (.ofNat 1))))) (W' a2 p15 p2)) (thn (op (fMv (R a2 a15)) (W' a0 p10 p0)) nop)))))))))
  (sq (rgn (thn (op (fMv (R a0 a1)) (W' a3 p8 p3)) (thn (op (fMv (R a0 a9)) (W' a3 p9 p3)) (thn (op (fBuild [(0, 1), (1, 1), (2, 1), (3, 1)] [(.t (.int .i64 (.ofNat 0))), (.t (.int .i64 (.ofNat 0))), (.t (.str [])), (.t .nils)] (cP 0 (Cx (.t (.int .i64 (.ofNat 1)))) (cP 1 (R a3 a9) nP))) (W' a3 p10 p3)) (thn (clf (some (.i10, .i8)) false 311 (cX (R a3 a8) (cX (R a3 a10) nX)) (W' a3 p11 p3)) (thn (op (fMv (R a3 a11)) (W' a0 p4 p0)) nop))))))
  rtn))) skp))
  (sq (rgn (thn (op (fMv (R a0 a0)) (W' a3 p13 p3)) (thn (clf (some (.i1, .i5)) false 55 (cX (R a3 a13) (cX (Cx (.t (.int .i64 (.ofNat 1)))) nX)) (W' a3 p14 p3)) (thn (op (fMv (R a3 a14)) (W' a3 p12 p3)) (thn (op (fExt (R a3 a12) 0) (W' a3 p15 p3)) (thn (op (fExt (R a3 a12) 1) (W' a4 p0 p4)) (thn (op (fMv (R a3 a15)) (W' a0 p11 p0)) (thn (op (fMv (R a4 a0)) (W' a0 p12 p0)) nop))))))))
  (sq (sq (rgn (thn (op (fMv (R a0 a12)) (W' a4 p1 p4)) (thn (op (fNot (R a4 a1)) (W' a4 p2 p4)) nop)))
  (cnd (R a4 a2) (rgn (thn (op (fMv (R a0 a0)) (W' a4 p3 p4)) (thn (op (fNilCheck (R a4 a3)) (W' a4 p4 p4)) (thn (op (fFAddr 3 1 (R a4 a4)) (W' a4 p5 p4)) (thn (op (fStore 1 (R a4 a5) (Cx (.t (.bool true)))) W0) nop))))) skp))
  (sq (rgn (thn (op (fMv (R a0 a1)) (W' a4 p6 p4)) (thn (op (fMv (R a0 a11)) (W' a4 p7 p4)) (thn (op (fBuild [(0, 1), (1, 1), (2, 1), (3, 1)] [(.t (.int .i64 (.ofNat 0))), (.t (.int .i64 (.ofNat 0))), (.t (.str [])), (.t .nils)] (cP 0 (Cx (.t (.int .i64 (.ofNat 2)))) (cP 2 (R a4 a7) nP))) (W' a4 p8 p4)) (thn (clf (some (.i10, .i8)) false 311 (cX (R a4 a6) (cX (R a4 a8) nX)) (W' a4 p9 p4)) (thn (op (fMv (R a4 a9)) (W' a0 p4 p0)) nop))))))
  rtn)))))))))
noncomputable def x349 : FFn := .code 349 .inl [(W' a0 p0 p0), (W' a0 p1 p0)] c349 (rT (R a0 a4) r0)
theorem e349 : Entry ixf S x349 := ⟨A349, _, _, rfl, Tryz.func349, rfl, rfl, by kernel_rfl, by kernel_rfl, by kernel_rfl, ⟨rfl, rfl⟩⟩
end X
