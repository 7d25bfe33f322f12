/- A part of the proof. No statement of the claim is in it. -/
import Derived.Test.YtbdadoeankjnkaaGreatDoorSc
set_option maxRecDepth 100000
set_option maxHeartbeats 4000000
set_option linter.all false
open Go Go.V Go.Proofs
/- The program's own functions of numbers, names and expressions are the reference's. -/
namespace G
open X
attribute [-simp] lenV idxV getElem?_pos
attribute [simp] List.getElem?_cons_zero List.getElem?_cons_succ
theorem within_ld (n low high : Int) (σ : Store) : LD S 25 [.t (I n), .t (I low), .t (I high)] σ = some (.t (B (inF n low high)), σ) := by
 suffices h : LV S 25 [.t (I n), .t (I low), .t (I high)] [] = some (.t (B (inF n low high)), []) from qaj (A := A25) (v := .t (B (inF n low high))) rfl rfl rfl h rfl σ
 refine qas (A := A25) rfl Tryz.func25 rfl ?_
 refine wR rfl (by simp [A25]; rfl) ?_
 by_cases h : low ≤ n
 ·refine wR rfl (by simp [h, A25]; rfl) ?_
  refine wX ?_
  try simp only [tq]
  simp [Tryz.f25, inF, h]
 ·refine wR rfl (by simp [h, A25]; rfl) ?_
  refine wX ?_
  try simp only [tq]
  simp [Tryz.f25, inF, h]
theorem qvi (n : Int) (σ : Store) : LD S 160 [.t (I n)] σ = some (.t (B (inF n (-9999) 9999)), σ) := by
 suffices h : LV S 160 [.t (I n)] [] = some (.t (B (inF n (-9999) 9999)), []) from qaj (A := A160) (v := .t (B (inF n (-9999) 9999))) rfl rfl rfl h rfl σ
 refine qas (A := A160) rfl Tryz.func160 rfl ?_
 refine wR rfl (by simp [A160]; rfl) ?_
 refine wR rfl (by simp [A160, within_ld]; rfl) ?_
 refine wX ?_
 try simp only [tq]
 simp [Tryz.f160]
theorem qgm (b : Bool) (σ : Store) : LD S 220 [.t (B b)] σ = some (.t (I (qfn b)), σ) := by
 suffices h : LV S 220 [.t (B b)] [] = some (.t (I (qfn b)), []) from qaj (A := A220) (v := .t (I (qfn b))) (σ0 := []) rfl rfl rfl h rfl σ
 refine qas (A := A220) rfl Tryz.func220 rfl ?_
 cases b with
 | true =>
  refine wR rfl (by simp; rfl) ?_
  refine wR rfl (by simp; rfl) ?_
  refine wT rfl (by simp) ?_
  refine wR rfl (by simp; rfl) ?_
  refine wX ?_
  try simp only [tq]
  simp [Tryz.f220, qfn]
 | false =>
  refine wR rfl (by simp; rfl) ?_
  refine wR rfl (by simp; rfl) ?_
  refine wF rfl (by simp) ?_
  refine wK ?_
  refine wR rfl (by simp; rfl) ?_
  refine wX ?_
  try simp only [tq]
  simp [Tryz.f220, qfn]
theorem qzr (op : Nat) (h4 : 4 ≤ op) (h11 : op ≤ 11) (a b : Int) (ha : Nb a) (hb : Nb b) : LV S 201 [.t (I op), .t (I a), .t (I b)] [] = some (.t (getT (if op = 11 then some (qfn (a == 0)) else twoF op a b)), []) := by
 have hm := mul_nb ha hb
 have hd := q0k (b := b) ha
 obtain ⟨a1, a2⟩ := ha
 obtain ⟨b1, b2⟩ := hb
 refine qas (A := A201) rfl Tryz.func201 rfl ?_
 refine wR rfl (by simp; rfl) ?_
 refine wR rfl (by simp; rfl) ?_
 refine wB rfl ?_
 refine wR rfl (by simp; rfl) ?_
 by_cases c4 : op = 4
 ·subst c4
  refine wT rfl (by simp) ?_
  refine wR rfl (by simp [IntWalk.i64_in (a + b) (by omega)]; rfl) ?_
  refine wX ?_
  try simp only [tq]
  simp [Tryz.f201, getT, twoF]
 ·refine wF rfl (by simp [show ¬ (op : Int) = 4 by omega]) ?_
  refine wR rfl (by simp; rfl) ?_
  by_cases c5 : op = 5
  ·subst c5
   refine wT rfl (by simp) ?_
   refine wR rfl (by simp [IntWalk.i64_in (a - b) (by omega)]; rfl) ?_
   refine wX ?_
   try simp only [tq]
   simp [Tryz.f201, getT, twoF]
  ·refine wF rfl (by simp [show ¬ (op : Int) = 5 by omega]) ?_
   refine wR rfl (by simp; rfl) ?_
   by_cases c6 : op = 6
   ·subst c6
    refine wT rfl (by simp) ?_
    refine wR rfl (by simp [IntWalk.i64_in (a * b) (by omega)]; rfl) ?_
    refine wX ?_
    try simp only [tq]
    simp [Tryz.f201, getT, twoF]
   ·refine wF rfl (by simp [show ¬ (op : Int) = 6 by omega]) ?_
    refine wR rfl (by simp; rfl) ?_
    by_cases c8 : op = 8
    ·subst c8
     refine wT rfl (by simp) ?_
     refine wR rfl (by simp [qgm]; rfl) ?_
     refine wX ?_
     try simp only [tq]
     simp [Tryz.f201, getT, twoF]
    ·refine wF rfl (by simp [show ¬ (op : Int) = 8 by omega]) ?_
     refine wR rfl (by simp; rfl) ?_
     by_cases c9 : op = 9
     ·subst c9
      refine wT rfl (by simp) ?_
      have hf := qgm (a == b)
      refine wR rfl (by simp [hf]; rfl) ?_
      refine wX ?_
      try simp only [tq]
      simp [Tryz.f201, getT, twoF]
     ·refine wF rfl (by simp [show ¬ (op : Int) = 9 by omega]) ?_
      refine wR rfl (by simp; rfl) ?_
      by_cases c10 : op = 10
      ·subst c10
       refine wT rfl (by simp) ?_
       by_cases ca : a = 0
       ·subst ca
        refine wR rfl (by simp [qgm]; rfl) ?_
        refine wX ?_
        try simp only [tq]
        simp [Tryz.f201, getT, twoF]
       ·have ca' : (a != 0) = true := by simp [ca]
        by_cases cb : b = 0
        ·subst cb
         refine wR rfl (by simp [qgm, ca']; rfl) ?_
         refine wX ?_
         try simp only [tq]
         simp [Tryz.f201, getT, twoF, ca]
        ·have cb' : (b != 0) = true := by simp [cb]
         refine wR rfl (by simp [qgm, ca', cb']; rfl) ?_
         refine wX ?_
         try simp only [tq]
         simp [Tryz.f201, getT, twoF, ca, cb]
      ·refine wF rfl (by simp [show ¬ (op : Int) = 10 by omega]) ?_
       refine wR rfl (by simp; rfl) ?_
       by_cases c11 : op = 11
       ·subst c11
        refine wT rfl (by simp) ?_
        have hf := qgm (a == 0)
        refine wR rfl (by simp [hf]; rfl) ?_
        refine wX ?_
        try simp only [tq]
        simp [Tryz.f201, getT]
       ·refine wF rfl (by simp [show ¬ (op : Int) = 11 by omega]) ?_
        refine wK ?_
        have c7 : op = 7 := by omega
        subst c7
        refine wR rfl (by simp; rfl) ?_
        by_cases cb : b = 0
        ·subst cb
         refine wT rfl (by simp) ?_
         refine wR rfl (by simp; rfl) ?_
         refine wX ?_
         try simp only [tq]
         simp [Tryz.f201, getT, twoF]
        ·refine wF rfl (by simp [cb]) ?_
         refine wK ?_
         refine wR rfl (by simp [cb, IntWalk.i64_in (a.tdiv b) (by omega)]; rfl) ?_
         refine wX ?_
         try simp only [tq]
         simp [Tryz.f201, getT, twoF, cb]
theorem qqz (op : Nat) (h4 : 4 ≤ op) (h11 : op ≤ 11) (a b : Int) (ha : Nb a) (hb : Nb b) (σ : Store) : LD S 201 [.t (I op), .t (I a), .t (I b)] σ = some (.t (getT (if op = 11 then some (qfn (a == 0)) else twoF op a b)), σ) :=
 qaj (A := A201) (v := .t (getT (if op = 11 then some (qfn (a == 0)) else twoF op a b))) (σ0 := []) rfl rfl rfl (qzr op h4 h11 a b ha hb) rfl σ
theorem qyw (e : X.Env) (nm : List Nat) (hl : e.length ≤ 1048576) : ∃ σ', LV S 200 [.t (envT e), .t (.str nm)] [] = some (.t (getT (getE e nm)), σ') := by
 refine qbm (A := A200) rfl Tryz.func200 rfl ?_
 refine wR rfl (by simp; rfl) ?_
 refine wR rfl (by simp [envT]; rfl) ?_
 refine wB rfl ?_
 try simp only [tq]
 refine qat (I := fun m st τ => ∃ k bx, m = e.length - k ∧ k ≤ e.length ∧ getE e nm = getE (e.drop k) nm ∧ st.vars = [(0, .t (envT e)), (1, .t (.str nm)), (4, .t (I 0)), (5, .t (B false)), (8, .t (envT e)), (9, .t (I e.length)), (10, .t (I k))] ∧ τ = bx) ?_ e.length _ _ ⟨0, _, rfl, Nat.zero_le _, rfl, by simp [envT], rfl⟩
 rintro m ⟨vars, scr⟩ τ ⟨k, bx, rfl, hk, he, hv, rfl⟩
 simp only at hv
 subst hv
 refine wR rfl (by simp [envT]; rfl) ?_
 by_cases c1 : k < e.length
 ·refine wT rfl (by simp [c1]) ?_
  refine wK ?_
  refine wB rfl ?_
  obtain ⟨p, hp⟩ := get_of_lt c1
  rw [qak hp] at he
  simp only [getE] at he
  refine wR rfl (by simp [envT, hp, rowE, getA, setA, qao, qac]; rfl) ?_
  refine wR rfl (by simp [getA, X.eqL_eq]; rfl) ?_
  by_cases c2 : p.1 = nm
  ·rw [if_pos c2] at he
   refine wT rfl (by simp [c2]) ?_
   refine wR rfl (by simp [getA]; rfl) ?_
   refine wX ?_
   try simp only [tq]
   simp [Tryz.f200, he, getT]
  ·rw [if_neg c2] at he
   refine wF rfl (by simp [c2]) ?_
   refine wK ?_
   refine wR rfl (by simp [IntWalk.i64_in ((k : Int) + 1) (by omega)]; rfl) ?_
   try simp only [tq]
   exact ⟨e.length - (k + 1), by omega, k + 1, _, rfl, c1, he, by simp [envT], rfl⟩
 ·refine wF rfl (by simp [c1]) ?_
  repeat apply qaw
  refine qal ?_
  try simp only [tq, if_true]
  have : k = e.length := by omega
  subst this
  rw [List.drop_length] at he
  simp only [getE] at he
  refine wR rfl (by simp; rfl) ?_
  refine wX ?_
  try simp only [tq]
  simp [Tryz.f200, he, getT]
theorem qzi (e : X.Env) (nm : List Nat) (hl : e.length ≤ 1048576) (σ : Store) : LD S 200 [.t (envT e), .t (.str nm)] σ = some (.t (getT (getE e nm)), σ) := by
 obtain ⟨σ', h⟩ := qyw e nm hl
 exact qaj (A := A200) (v := .t (getT (getE e nm))) rfl rfl rfl h rfl σ
def qpe (l : List Int) : List T := l.map fun n => .agg [I n]
@[simp] theorem rowsZ_len (l : List Int) : (qpe l).length = l.length := by simp [qpe]
@[simp] theorem rowsZ_get (l : List Int) (i : Nat) : (qpe l)[i]? = (l[i]?).map fun n => T.agg [I n] := by simp [qpe]
theorem frz_Z (d : Nat) (σ : Store) : ∀ (l : List Int), ∃ ts, frzs (frz (d + 1) σ) (qgv l) = some ts ∧ chunk 1 l.length ts = qpe l
 | [] => ⟨[], rfl, rfl⟩
 | n :: r => by
  obtain ⟨ts, h1, h2⟩ := frz_Z d σ r
  refine ⟨I n :: ts, ?_, ?_⟩
  ·have t1 : ∀ z : T, frz (d + 1) σ (.t z) = some z := fun z => rfl
   simp only [qgv, List.map_cons, frzs, t1] at h1 ⊢
   rw [h1]
  ·simp only [List.length_cons, chunk, List.take_succ_cons, List.take_zero, List.drop_succ_cons, List.drop_zero, h2, qpe, List.map_cons]
theorem frz_slZ (n : Nat) {σ : Store} {d g w : Nat} {l : List Int} (hd : σ[d]? = some (.cells (qgv l) g w)) (hw : w ≤ g) : frz (n + 2) σ (.sl d g 0 l.length 1) = some (.list (qpe l)) := by
 obtain ⟨ts, z1, z2⟩ := frz_Z n σ l
 have := qkg (d := n + 1) (k := 1) (off := 0) (len := l.length) hd hw (Nat.le_refl _) (by omega) (by simp) (ts := ts) (by rw [List.drop_zero, List.take_of_length_le (by simp)]; exact z1)
 rw [z2] at this
 exact this
/-- nodes as the program's reckoning wants them -/
def opB (op : Nat) (kids : List Nat) : Bool := decide (1 ≤ op) && (decide (op ≤ 11) && (decide (op < 4) || (if op = 11 then decide (kids.length = 1) else decide (kids.length = 2))))
theorem node_lv {op : Nat} {num : Int} {nm : List Nat} {kz : T} {kids : List Nat} {nums : List Int} {env : X.Env} {here : Nat} {v : Option Int} (hk : qus kz = some kids) (h : qpr nums env here op num nm kids = some v) (ho : opB op kids = true) (hnb : ∀ a ∈ nums, Nb a) (hl : env.length ≤ 1048576) :
  ∃ σ', LV S 159 [.t (.agg [I op, I num, .str nm, kz]), .t (.list (qpe nums)), .t (envT env), .t (I here)] [] = some (.t (getT v), σ') := by
 have hks := qvn hk
 simp only [opB, Bool.and_eq_true, Bool.or_eq_true, decide_eq_true_eq] at ho
 obtain ⟨o1, o2, o3⟩ := ho
 unfold qpr at h
 refine qbm (A := A159) rfl Tryz.func159 rfl ?_
 refine wR rfl (by simp; rfl) ?_
 refine wR rfl (by simp; rfl) ?_
 refine wB rfl ?_
 refine wR rfl (by simp; rfl) ?_
 by_cases d1 : op = 1
 ·rw [if_pos d1] at h
  cases h
  subst d1
  refine wT rfl (by simp) ?_
  refine wR rfl (by simp; rfl) ?_
  refine wX ?_
  try simp only [tq]
  simp [Tryz.f159, getT]
 ·rw [if_neg d1] at h
  refine wF rfl (by simp [show ¬ (op : Int) = 1 by omega]) ?_
  refine wR rfl (by simp; rfl) ?_
  by_cases d2 : op = 2
  ·rw [if_pos d2] at h
   cases h
   subst d2
   refine wT rfl (by simp) ?_
   have hg := qzi env nm hl
   cases hge : getE env nm with
   | none =>
    rw [hge] at hg
    refine wR rfl (by simp [hg, getT]; rfl) ?_
    refine wX ?_
    try simp only [tq]
    simp [Tryz.f159, getT]
   | some k =>
    rw [hge] at hg
    refine wR rfl (by simp [hg, getT]; rfl) ?_
    refine wX ?_
    try simp only [tq]
    simp [Tryz.f159, getT]
  ·rw [if_neg d2] at h
   refine wF rfl (by simp [show ¬ (op : Int) = 2 by omega]) ?_
   refine wR rfl (by simp; rfl) ?_
   by_cases d3 : op = 3
   ·rw [if_pos d3] at h
    cases h
    subst d3
    refine wT rfl (by simp) ?_
    refine wR rfl (by simp; rfl) ?_
    refine wX ?_
    try simp only [tq]
    simp [Tryz.f159, getT]
   ·rw [if_neg d3] at h
    refine wF rfl (by simp [show ¬ (op : Int) = 3 by omega]) ?_
    refine wK ?_
    try simp only [tq]
    have o4 : 4 ≤ op := by omega
    rcases o3 with o3 | o3
    ·omega
    by_cases d4 : op = 11
    ·subst d4
     simp only [if_true, decide_eq_true_eq] at o3 h
     split at h
     rotate_left
     ·cases h
     rename_i k0 hk0
     split at h
     rotate_left
     ·cases h
     rename_i a ha
     cases h
     have hr := qqz 11 (by omega) (by omega) a a (hnb a (List.mem_of_getElem? ha)) (hnb a (List.mem_of_getElem? ha))
     simp only [if_true, getT] at hr
     rw [show ((11 : Nat) : Int) = 11 from rfl] at hr
     have i0 := hks.idx hk0
     rw [show ((0 : Nat) : Int) = 0 from rfl] at i0
     refine wR rfl (by simp [i0, ha, hks.len, o3, hr, IntWalk.i64_in (0 : Int) (by omega)]; rfl) ?_
     refine wX ?_
     try simp only [tq]
     simp [Tryz.f159, getT]
    ·rw [if_neg d4] at h o3
     simp only [decide_eq_true_eq] at o3
     split at h
     rotate_left
     ·cases h
     rename_i k0 k1 hk0 hk1
     split at h
     rotate_left
     ·cases h
     rename_i a b ha hb
     cases h
     have hr := qqz op o4 o2 a b (hnb a (List.mem_of_getElem? ha)) (hnb b (List.mem_of_getElem? hb))
     rw [if_neg d4] at hr
     have i0 := hks.idx hk0
     rw [show ((0 : Nat) : Int) = 0 from rfl] at i0
     have i1 := hks.idx hk1
     rw [show ((1 : Nat) : Int) = 1 from rfl] at i1
     cases hv : twoF op a b with
     | none =>
      rw [hv] at hr
      simp only [getT] at hr
      refine wR rfl (by simp [i0, i1, ha, hb, hks.len, o3, hr, IntWalk.i64_in (1 : Int) (by omega)]; rfl) ?_
      refine wX ?_
      try simp only [tq]
      simp [Tryz.f159, getT]
     | some z =>
      rw [hv] at hr
      simp only [getT] at hr
      refine wR rfl (by simp [i0, i1, ha, hb, hks.len, o3, hr, IntWalk.i64_in (1 : Int) (by omega)]; rfl) ?_
      refine wX ?_
      try simp only [tq]
      simp [Tryz.f159, getT]
end G
namespace G
open X
attribute [-simp] lenV idxV getElem?_pos
attribute [simp] List.getElem?_cons_zero List.getElem?_cons_succ
/-! ### EvalExpr, argsOf, numbersIn -/
def opsB (x : T) : Bool := match x with
 | .agg [.list nodes] => nodes.all fun y => match q3v y with
  | some (op, _, _, kz) => match qus kz with
   | some kids => opB op kids
   | none => false
  | none => false
 | _ => false
structure MkI (MK : T → Option (List Bool)) : Prop where
 ok : ∀ x ms, MK x = some ms → ∀ σ, LD S 153 [.t x] σ = some (.t (B true), σ)
 marks : ∀ x ms, MK x = some ms → ∀ σ, LD S 158 [.t x] σ = some (.t (.list (qix ms)), σ)
 ops : ∀ x ms, MK x = some ms → opsB x = true
theorem node_ld {op : Nat} {num : Int} {nm : List Nat} {kz : T} {kids : List Nat} {nums : List Int} {env : X.Env} {here : Nat} {v : Option Int} (hk : qus kz = some kids) (h : qpr nums env here op num nm kids = some v) (ho : opB op kids = true) (hnb : ∀ a ∈ nums, Nb a) (hl : env.length ≤ 1048576) {σ : Store} {d g w : Nat} (hd : σ[d]? = some (.cells (qgv nums) g w)) (hw : w ≤ g) :
  LD S 159 [.t (.agg [I op, I num, .str nm, kz]), .sl d g 0 nums.length 1, .t (envT env), .t (I here)] σ = some (.t (getT v), σ) := by
 obtain ⟨σ', h1⟩ := node_lv hk h ho hnb hl
 refine qck (A := A159) rfl rfl (ts := [.agg [I op, I num, .str nm, kz], .list (qpe nums), envT env, I here]) ?_ h1 (by cases v <;> rfl)
 have t1 : ∀ z : T, frz 40 σ (.t z) = some z := fun z => rfl
 have t2 := frz_slZ 38 hd hw
 simp only [frzs, t1, t2]
theorem eval2_lv {MK : T → Option (List Bool)} (hM : MkI MK) {x : T} {env : X.Env} {here : Nat} {o : Option Int} (h : qnm MK x env here = some o) :
  ∃ σ', LV S 109 [.t x, .t (envT env), .t (I here)] [] = some (.t (getT o), σ') := by
 unfold qnm at h
 split at h
 rotate_left
 ·cases h
 rename_i nodes
 split at h
 ·cases h
 rename_i ms hms
 split at h
 rotate_left
 ·cases h
 rename_i hb
 obtain ⟨b1, b2, b3, b4⟩ := hb
 have k1 := hM.ok _ _ hms
 have k2 := hM.marks _ _ hms
 have k3 := hM.ops _ _ hms
 simp only [opsB] at k3
 refine qbm (A := A109) rfl Tryz.func109 rfl ?_
 refine wR rfl (by simp; rfl) ?_
 refine wR rfl (by simp [k1]; rfl) ?_
 refine wF rfl (by simp) ?_
 refine wK ?_
 have hrp := qll nodes.length
 have hnb : (nodes.length : Int) * 8 ≤ 140737488355328 := by omega
 refine wR rfl (by simp [hrp, hnb]; rfl) ?_
 refine wR rfl (by simp [k2, b1]; rfl) ?_
 refine wB rfl ?_
 try simp only [tq]
 obtain ⟨w, hw⟩ : ∃ w, qho env here nodes ms 0 (List.replicate nodes.length 0) = some w := by
  cases hq : qho env here nodes ms 0 (List.replicate nodes.length 0) with
  | none => rw [hq] at h; cases h
  | some w => exact ⟨w, rfl⟩
 rw [hw] at h
 refine qat (I := fun m st τ => ∃ i nums, m = nodes.length - i ∧ i ≤ nodes.length ∧ nums.length = nodes.length ∧ (∀ a ∈ nums, Nb a) ∧ qho env here (nodes.drop i) (ms.drop i) i nums = some w ∧ st.vars = [(0, .t (.agg [.list nodes])), (1, .t (envT env)), (2, .t (I here)), (3, .ptr 0 0 0 1), (6, .t (I 0)), (7, .t (B false)), (8, .sl 1 0 0 nodes.length 1), (21, .t (.list (qix ms))), (22, .t (I nodes.length)), (23, .t (I i))] ∧ τ = [.cells [.t (.list nodes)] 0 0, .cells (qgv nums) 0 0]) ?_ nodes.length _ _ ⟨0, _, rfl, Nat.zero_le _, by simp, by simp [Nb], hw, by simp, rfl⟩
 clear hw
 rintro m ⟨vars, scr⟩ τ ⟨i, nums, rfl, hi, hnl, hnb2, hw, hv, rfl⟩
 simp only at hv
 subst hv
 refine wR rfl (by simp; rfl) ?_
 by_cases c1 : i < nodes.length
 ·refine wT rfl (by simp [c1]) ?_
  refine wK ?_
  refine wB rfl ?_
  try simp only [tq]
  obtain ⟨x, hx⟩ := get_of_lt c1
  obtain ⟨mk, hmk⟩ := get_of_lt (show i < ms.length by omega)
  have hox := List.all_eq_true.1 k3 x (List.mem_of_getElem? hx)
  rw [qak hx, qak hmk] at hw
  simp only [qho] at hw
  split at hw
  ·cases hw
  rename_i op num nm kz hnp
  rw [hnp] at hox
  have := qwn hnp
  subst this
  clear hnp
  split at hox
  rotate_left
  ·cases hox
  rename_i p op' num' nm' kz' heq
  cases heq
  split at hox
  rotate_left
  ·cases hox
  rename_i kids hkids
  refine wR rfl (by simp [hmk]; rfl) ?_
  refine wR rfl (by simp; rfl) ?_
  cases mk with
  | false =>
   simp only [Bool.false_eq_true, if_false] at hw
   refine wT rfl (by simp) ?_
   repeat apply qaw
   refine qal ?_
   try simp only [tq, if_true]
   refine wR rfl (by simp [IntWalk.i64_in ((i : Int) + 1) (by omega)]; rfl) ?_
   try simp only [tq]
   exact ⟨nodes.length - (i + 1), by omega, i + 1, nums, rfl, c1, hnl, hnb2, hw, by simp, rfl⟩
  | true =>
   simp only [if_true] at hw
   refine wF rfl (by simp) ?_
   refine wK ?_
   have hvn : ∃ v, qpr nums env here op num nm kids = some v := by
    cases hq : qpr nums env here op num nm kids with
    | none => simp only [qsj, hkids, hq] at hw; cases hw
    | some v => exact ⟨v, rfl⟩
   obtain ⟨v, hvn⟩ := hvn
   simp only [qsj, hkids, hvn] at hw
   have hn := node_ld hkids hvn hox hnb2 (by omega) (σ := [.cells [.t (.list nodes)] 0 0, .cells (qgv nums) 0 0]) (d := 1) (g := 0) (w := 0) rfl (by omega)
   rw [hnl] at hn
   cases v with
   | none =>
    simp only at hw
    cases hw
    cases h
    simp only [getT] at hn
    refine wR rfl (by simp [hx, hn]; rfl) ?_
    refine wR rfl (by simp; rfl) ?_
    refine wT rfl (by simp) ?_
    refine wR rfl (by simp; rfl) ?_
    refine wX ?_
    try simp only [tq]
    simp [Tryz.f109, getT]
   | some n =>
    simp only at hw
    simp only [getT] at hn
    have hin := qvi n
    by_cases c2 : -9999 ≤ n ∧ n ≤ 9999
    ·rw [if_pos c2] at hw
     have ei : inF n (-9999) 9999 = true := by simp only [inF, Bool.and_eq_true, decide_eq_true_eq]; exact c2
     rw [ei] at hin
     refine wR rfl (by simp [hx, hn]; rfl) ?_
     refine wR rfl (by simp [hin]; rfl) ?_
     refine wF rfl (by simp) ?_
     refine wK ?_
     refine wR rfl (by simp [hnl, show i + 1 ≤ nodes.length from c1, c1, qac]; rfl) ?_
     refine wR rfl (by simp [IntWalk.i64_in ((i : Int) + 1) (by omega)]; rfl) ?_
     try simp only [tq]
     refine ⟨nodes.length - (i + 1), by omega, i + 1, nums.set i n, rfl, c1, by simpa using hnl, ?_, hw, by simp, ?_⟩
     ·intro a ha
      rcases List.mem_or_eq_of_mem_set ha with ha | rfl
      ·exact hnb2 a ha
      ·exact c2
     ·simp [qth]
    ·rw [if_neg c2] at hw
     cases hw
     cases h
     have ei : inF n (-9999) 9999 = false := by
      cases hq : inF n (-9999) 9999 with
      | false => rfl
      | true => exact absurd (by simpa [inF] using hq) c2
     rw [ei] at hin
     refine wR rfl (by simp [hx, hn]; rfl) ?_
     refine wR rfl (by simp [hin]; rfl) ?_
     refine wT rfl (by simp) ?_
     refine wR rfl (by simp; rfl) ?_
     refine wX ?_
     try simp only [tq]
     simp [Tryz.f109, getT]
 ·refine wF rfl (by simp [c1]) ?_
  repeat apply qaw
  refine qal ?_
  try simp only [tq, if_true]
  have : i = nodes.length := by omega
  subst this
  rw [List.drop_length] at hw
  simp only [qho, Option.some.injEq] at hw
  subst hw
  simp only at h
  split at h
  rotate_left
  ·cases h
  rename_i n hn
  cases h
  have e1 : ((nodes.length : Int) - 1) = ((nodes.length - 1 : Nat) : Int) := by omega
  refine wR rfl (by simp [e1, IntWalk.i64_in ((nodes.length - 1 : Nat) : Int) (by omega), hn, hnl, show nodes.length - 1 < nodes.length by omega, show nodes.length - 1 + 1 ≤ nodes.length by omega]; rfl) ?_
  refine wX ?_
  try simp only [tq]
  simp [Tryz.f109, getT]
theorem eval2_ld {MK : T → Option (List Bool)} (hM : MkI MK) {x : T} {env : X.Env} {here : Nat} {o : Option Int} (h : qnm MK x env here = some o) (σ : Store) : LD S 109 [.t x, .t (envT env), .t (I here)] σ = some (.t (getT o), σ) := by
 obtain ⟨σ', h1⟩ := eval2_lv hM h
 exact qaj (A := A109) (v := .t (getT o)) rfl rfl rfl h1 rfl σ
/-- what argsOf hands back -/
def argsT (o : Option (List Nat)) : T := match o with
 | some l => .tup [.list (qax l), B true]
 | none => .tup [.nils, B false]
theorem args2_lv {MK : T → Option (List Bool)} (hM : MkI MK) {kz tz bz ax : T} {l : List T} (hx : Syms ax l) (hl : l.length ≤ 1000) {env : X.Env} {here : Nat} {o : Option (List Nat)} (h : qhr MK env here l [] = some o) (hsz : ∀ x ∈ l, ∃ c, x = .agg [c]) :
  ∃ v σ', LV S 73 [.t (.agg [kz, tz, ax, bz]), .t (envT env), .t (I here)] [] = some (v, σ') ∧ frz 40 σ' v = some (argsT o) := by
 refine qaq (A := A73) rfl Tryz.func73 rfl ?_
 refine wR rfl (by simp; rfl) ?_
 refine wR rfl (by simp [qaa, qab, chunk, qao]; rfl) ?_
 refine wR rfl (by simp [hx.len]; rfl) ?_
 refine wB rfl ?_
 try simp only [tq]
 refine qat (I := fun m st τ => ∃ k acc g w bx, m = l.length - k ∧ k ≤ l.length ∧ acc.length ≤ k ∧ qhr MK env here (l.drop k) acc = some o ∧ w ≤ g ∧ st.vars = [(0, .t (.agg [kz, tz, ax, bz])), (1, .t (envT env)), (2, .t (I here)), (3, .ptr 0 0 0 4), (6, .t .nils), (7, .t (B false)), (8, .sl 1 g 0 acc.length 1), (15, .t ax), (16, .t (I l.length)), (17, .t (I k))] ∧ τ = [.cells [.t kz, .t tz, .t ax, .t bz] 0 0, .cells (ints acc) g w] ++ bx) ?_ l.length _ _ ⟨0, [], 0, 0, [], rfl, Nat.zero_le _, by simp, h, by omega, by simp, rfl⟩
 clear h
 rintro m ⟨vars, scr⟩ τ ⟨k, acc, g, w, bx, rfl, hk, hak, h, hw, hvs, rfl⟩
 simp only at hvs
 subst hvs
 have fin : ∀ τ : Store, τ[1]? = some (.cells (ints acc) g w) → frz 40 τ (.tup [.sl 1 g 0 acc.length 1, .t (B true)]) = some (.tup [.list (qax acc), B true]) := fun τ hτ => by
  have := qhe (σ := τ) (d := 1) (g := g) (w := w) (l := acc) 37 hτ hw
  rw [frz, frzs, this]
  rfl
 refine wR rfl (by simp; rfl) ?_
 by_cases c1 : k < l.length
 ·refine wT rfl (by simp [c1]) ?_
  refine wK ?_
  refine wB rfl ?_
  obtain ⟨x, hxk⟩ := get_of_lt c1
  obtain ⟨c, rfl⟩ := hsz x (List.mem_of_getElem? hxk)
  rw [qak hxk] at h
  simp only [qhr] at h
  have hix := hx.idxk hxk (n := 1) rfl
  have hbn : (acc.length + 1) * 8 ≤ 140737488355328 := by omega
  refine wR rfl (by simp [hix, qao, qac, getA, setA]; rfl) ?_
  split at h
  ·cases h
  ·rename_i hev
   cases h
   have he := eval2_ld hM hev
   refine wR rfl (by simp [getA, he, getT]; rfl) ?_
   refine wR rfl (by simp; rfl) ?_
   refine wT rfl (by simp) ?_
   refine wR rfl (by simp; rfl) ?_
   try simp only [tq]
   refine wX ?_
   try simp only [tq]
   exact ⟨trivial, .t (.tup [.nils, B false]), (by simp [Tryz.f73]), rfl⟩
  ·rename_i n hev
   cases h
   have he := eval2_ld hM hev
   have hin := within_ld (Int.negSucc n) 0 99
   have ei : inF (Int.negSucc n) 0 99 = false := by
    simp only [inF, Bool.and_eq_false_iff, decide_eq_false_iff_not]
    omega
   rw [ei] at hin
   refine wR rfl (by simp [getA, he, getT]; rfl) ?_
   refine wR rfl (by simp [hin]; rfl) ?_
   refine wT rfl (by simp) ?_
   refine wR rfl (by simp; rfl) ?_
   try simp only [tq]
   refine wX ?_
   try simp only [tq]
   exact ⟨trivial, .t (.tup [.nils, B false]), (by simp [Tryz.f73]), rfl⟩
  ·rename_i n hev
   have he := eval2_ld hM hev
   simp only [Int.ofNat_eq_natCast] at he
   have hin := within_ld (n : Int) 0 99
   by_cases c2 : n ≤ 99
   ·rw [if_pos c2] at h
    have ei : inF (n : Int) 0 99 = true := by simp [inF]; omega
    rw [ei] at hin
    refine wR rfl (by simp [getA, he, getT]; rfl) ?_
    refine wR rfl (by simp [hin]; rfl) ?_
    refine wF rfl (by simp) ?_
    refine wK ?_
    refine wR rfl (by simp [qaa, qab, chunk, qao, qap, qaf, qag, hbn, hw]; rfl) ?_
    refine wR rfl (by simp [IntWalk.i64_in ((k : Int) + 1) (by omega)]; rfl) ?_
    try simp only [tq]
    exact ⟨l.length - (k + 1), by omega, k + 1, acc ++ [n], g + 1, w, _, rfl, c1, by simp; omega, h, by omega, by simp [envT], by rw [← qqb]; rfl⟩
   ·rw [if_neg c2] at h
    cases h
    have ei : inF (n : Int) 0 99 = false := by
     simp only [inF, Bool.and_eq_false_iff, decide_eq_false_iff_not]
     omega
    rw [ei] at hin
    refine wR rfl (by simp [getA, he, getT]; rfl) ?_
    refine wR rfl (by simp [hin]; rfl) ?_
    refine wT rfl (by simp) ?_
    refine wR rfl (by simp; rfl) ?_
    try simp only [tq]
    refine wX ?_
    try simp only [tq]
    exact ⟨trivial, .t (.tup [.nils, B false]), (by simp [Tryz.f73]), rfl⟩
 ·refine wF rfl (by simp [c1]) ?_
  repeat apply qaw
  refine qal ?_
  try simp only [tq, if_true]
  have : k = l.length := by omega
  subst this
  rw [List.drop_length] at h
  simp only [qhr, Option.some.injEq] at h
  subst h
  refine wR rfl (by simp; rfl) ?_
  try simp only [tq]
  refine wX ?_
  try simp only [tq]
  exact ⟨trivial, .tup [.sl 1 g 0 acc.length 1, .t (B true)], (by simp [Tryz.f73]), fin _ rfl⟩
theorem args2_ld {MK : T → Option (List Bool)} (hM : MkI MK) {kz tz bz ax : T} {env : X.Env} {here : Nat} {o : Option (List Nat)} (h : qiz MK ax env here = some o) (σ : Store) :
  LD S 73 [.t (.agg [kz, tz, ax, bz]), .t (envT env), .t (I here)] σ = some (.t (argsT o), σ) := by
 unfold qiz at h
 split at h
 rotate_left
 ·cases h
 rename_i l hl
 split at h
 rotate_left
 ·cases h
 rename_i hb
 obtain ⟨v, σ', h1, h2⟩ := args2_lv hM (kz := kz) (tz := tz) (bz := bz) (qdt hl) hb.1 h (qtn hb.2)
 exact qaj (A := A73) rfl rfl rfl h1 h2 σ
theorem numbersIn_ld {y : T} {l : List Nat} (hy : Is y l) (h : ∀ n ∈ l, n ≤ 99) (hl : l.length ≤ 1000) (σ : Store) : LD S 24 [.t y] σ = some (.t (B true), σ) := by
 suffices hh : LV S 24 [.t y] [] = some (.t (B true), []) from qaj (A := A24) (v := .t (B true)) (σ0 := []) rfl rfl rfl hh rfl σ
 refine qas (A := A24) rfl Tryz.func24 rfl ?_
 refine wR rfl (by simp; rfl) ?_
 refine wR rfl (by simp [hy.len]; rfl) ?_
 refine wB rfl ?_
 try simp only [tq]
 refine qat (I := fun m st τ => ∃ k, m = l.length - k ∧ k ≤ l.length ∧ st.vars = [(0, .t y), (2, .t (B false)), (5, .t y), (6, .t (I l.length)), (7, .t (I k))] ∧ τ = []) ?_ l.length _ _ ⟨0, rfl, Nat.zero_le _, by simp, rfl⟩
 rintro m ⟨vars, scr⟩ τ ⟨k, rfl, hk, hv, rfl⟩
 simp only at hv
 subst hv
 refine wR rfl (by simp; rfl) ?_
 by_cases c1 : k < l.length
 ·refine wT rfl (by simp [c1]) ?_
  refine wK ?_
  refine wB rfl ?_
  obtain ⟨n, hn⟩ := get_of_lt c1
  have h99 := h n (List.mem_of_getElem? hn)
  have hin := within_ld (n : Int) 0 99
  have ei : inF (n : Int) 0 99 = true := by simp [inF]; omega
  rw [ei] at hin
  refine wR rfl (by simp [hy.idx hn]; rfl) ?_
  refine wR rfl (by simp [hin]; rfl) ?_
  refine wF rfl (by simp) ?_
  refine wK ?_
  refine wR rfl (by simp [IntWalk.i64_in ((k : Int) + 1) (by omega)]; rfl) ?_
  try simp only [tq]
  exact ⟨l.length - (k + 1), by omega, k + 1, rfl, c1, by simp, by simp⟩
 ·refine wF rfl (by simp [c1]) ?_
  repeat apply qaw
  refine qal ?_
  try simp only [tq, if_true]
  refine wR rfl (by simp; rfl) ?_
  refine wX ?_
  try simp only [tq]
  simp [Tryz.f24]
end G
namespace G
open X
attribute [-simp] lenV idxV getElem?_pos
attribute [simp] List.getElem?_cons_zero List.getElem?_cons_succ
/-! ### EnvOk, EnvSet -/
def NmI (VN : List Nat → Bool) : Prop := ∀ s, VN s = true → ∀ σ, LD S 63 [.t (.str s)] σ = some (.t (B true), σ)
theorem q1z {VN : List Nat → Bool} (hV : NmI VN) {e : X.Env} (ha : qgw VN e = true) (hl : e.length ≤ 1048576) : ∃ σ', LV S 162 [.t (envT e)] [] = some (.t (B (qgf e)), σ') := by
 refine qbm (A := A162) rfl Tryz.func162 rfl ?_
 refine wR rfl (by simp; rfl) ?_
 refine wR rfl (by simp [envT]; rfl) ?_
 refine wB rfl ?_
 try simp only [tq]
 refine qat (I := fun m st τ => ∃ k bx, m = e.length - k ∧ k ≤ e.length ∧ (∃ pv, ((k = 0 ∧ pv = none) ∨ ∃ j q, k = j + 1 ∧ e[j]? = some q ∧ pv = some q.1) ∧ qgf e = (qeh pv (e.drop k) && decide (e.length ≤ 6))) ∧ st.vars = [(0, .t (envT e)), (2, .t (B false)), (5, .t (envT e)), (6, .t (I e.length)), (7, .t (I k))] ∧ τ = bx) ?_ e.length _ _ ⟨0, _, rfl, Nat.zero_le _, ⟨none, .inl ⟨rfl, rfl⟩, rfl⟩, by simp [envT], rfl⟩
 rintro m ⟨vars, scr⟩ τ ⟨k, bx, rfl, hk, ⟨pv, hpv, he⟩, hv, rfl⟩
 simp only at hv
 subst hv
 refine wR rfl (by simp [envT]; rfl) ?_
 by_cases c1 : k < e.length
 ·refine wT rfl (by simp [c1]) ?_
  refine wK ?_
  refine wB rfl ?_
  obtain ⟨p, hp⟩ := get_of_lt c1
  rw [qak hp] at he
  simp only [qeh] at he
  have hvn := hV p.1 (by have := List.all_eq_true.1 ha p (List.mem_of_getElem? hp); exact this)
  have hin := qvi p.2
  refine wR rfl (by simp [envT, hp, rowE, getA, setA, qao, qac]; rfl) ?_
  cases hi : inF p.2 (-9999) 9999 with
  | false =>
   rw [hi] at hin he
   refine wR rfl (by simp [getA, hvn, hin]; rfl) ?_
   refine wT rfl (by simp) ?_
   refine wR rfl (by simp; rfl) ?_
   refine wX ?_
   try simp only [tq]
   simp [Tryz.f162, he]
  | true =>
   rw [hi] at hin he
   rcases hpv with ⟨rfl, rfl⟩ | ⟨j, q, rfl, hq, rfl⟩
   ·refine wR rfl (by simp [getA, hvn, hin]; rfl) ?_
    refine wF rfl (by simp) ?_
    refine wK ?_
    refine wR rfl (by simp [IntWalk.i64_in ((0 : Int) + 1) (by omega)]; rfl) ?_
    try simp only [tq]
    exact ⟨e.length - 1, by omega, 1, _, rfl, c1, ⟨_, .inr ⟨0, p, rfl, hp, rfl⟩, by simpa using he⟩, by simp [envT, IntWalk.i64_in (1 : Int) (by omega)], rfl⟩
   ·have e1 : ((j : Int) + 1 - 1) = j := by omega
    have e2 : (0 : Int) < (j : Int) + 1 := by omega
    have e3 : ((j : Int) + 1).toNat = j + 1 := by omega
    have e4 : (0 : Int) ≤ (j : Int) + 1 := by omega
    cases hlt : qdn q.1 p.1 with
    | true =>
     simp only [hlt] at he
     refine wR rfl (by simp [getA, envT, hp, hq, rowE, hvn, hin, e1, e2, e3, e4, hlt, IntWalk.i64_in (j : Int) (by omega)]; rfl) ?_
     refine wF rfl (by simp) ?_
     refine wK ?_
     refine wR rfl (by simp [IntWalk.i64_in ((j : Int) + 1 + 1) (by omega)]; rfl) ?_
     try simp only [tq]
     exact ⟨e.length - (j + 1 + 1), by omega, j + 1 + 1, _, rfl, c1, ⟨_, .inr ⟨j + 1, p, rfl, hp, rfl⟩, by simpa using he⟩, by simp [envT], rfl⟩
    | false =>
     simp only [hlt] at he
     refine wR rfl (by simp [getA, envT, hp, hq, rowE, hvn, hin, e1, e2, e3, e4, hlt, IntWalk.i64_in (j : Int) (by omega)]; rfl) ?_
     refine wT rfl (by simp) ?_
     refine wR rfl (by simp; rfl) ?_
     refine wX ?_
     try simp only [tq]
     simp [Tryz.f162, he]
 ·refine wF rfl (by simp [c1]) ?_
  repeat apply qaw
  refine qal ?_
  try simp only [tq, if_true]
  have : k = e.length := by omega
  subst this
  rw [List.drop_length] at he
  simp only [qeh, Bool.true_and] at he
  rw [he]
  by_cases c2 : e.length ≤ 6
  ·have c2' : (e.length : Int) ≤ 6 := by omega
   refine wR rfl (by simp [envT, c2']; rfl) ?_
   refine wX ?_
   try simp only [tq]
   simp [Tryz.f162, c2]
  ·have c2' : ¬ (e.length : Int) ≤ 6 := by omega
   refine wR rfl (by simp [envT, c2']; rfl) ?_
   refine wX ?_
   try simp only [tq]
   simp [Tryz.f162, c2]
theorem q4d {VN : List Nat → Bool} (hV : NmI VN) {e : X.Env} (ha : qgw VN e = true) (hl : e.length ≤ 1048576) {d g : Nat} {σ : Store} (hf : frz 40 σ (.sl d g 0 e.length 2) = some (envT e)) : LD S 162 [.sl d g 0 e.length 2] σ = some (.t (B (qgf e)), σ) := by
 obtain ⟨σ', h⟩ := q1z hV ha hl
 exact qck (A := A162) rfl rfl (ts := [envT e]) (by simp only [frzs, hf]) h rfl
/-- a slice of names in memory -/
def RdE (σ : Store) (v : V) (e : X.Env) : Prop := ∃ d g w, v = .sl d g 0 e.length 2 ∧ σ[d]? = some (.cells (cellsE e) g w) ∧ w ≤ g
theorem RdE.len {σ : Store} {v : V} {e : X.Env} (h : RdE σ v e) (t : TypeId) : lenV σ (.slice t) v = some (e.length : Int) := by
 obtain ⟨d, g, w, rfl, _, _⟩ := h
 simp
theorem RdE.src {σ : Store} {v : V} {e : X.Env} (h : RdE σ v e) : qaf σ 2 v = some (e.length, cellsE e) := by
 obtain ⟨d, g, w, rfl, h1, h2⟩ := h
 have := qch e
 simp only [qaf, h1]
 rw [if_pos ⟨h2, Nat.le_refl _, trivial, by omega⟩, List.drop_zero, List.take_of_length_le (by omega)]
theorem RdE.keep {σ σ' : Store} {v : V} {e : X.Env} {d : Nat} (h : RdE σ v e) (hd : d = σ.length) (hk : ∀ j, j ≠ d → σ'[j]? = (σ ++ [.cells [] 0 0])[j]?) : RdE σ' v e := by
 obtain ⟨a, g, w, rfl, h1, h2⟩ := h
 have := lt_of_get h1
 exact ⟨a, g, w, rfl, by rw [hk a (by omega), List.getElem?_append_left (by omega)]; exact h1, h2⟩
/-- what Concat has put so far -/
def Put (acc : X.Env) (old : List V) : Prop := old = cellsE acc ∨ (acc = [] ∧ 0 < old.length)
theorem qqa {σ : Store} {d g w : Nat} {old : List V} {acc e : X.Env} {v : V} (hd : σ[d]? = some (.cells old g w)) (hw : w ≤ g) (hp : Put acc old) (hv : qaf σ 2 v = some (e.length, cellsE e)) (hl : acc.length + e.length ≤ 1000000) :
  ∃ g' w' old', qap S.ty σ [86, 86] (.sl d g 0 acc.length 2) v = some (.sl d g' 0 (acc ++ e).length 2, σ.set d (.cells old' g' w')) ∧ w' ≤ g' ∧ Put (acc ++ e) old' ∧ (e ≠ [] ∨ old = cellsE acc → old' = cellsE (acc ++ e)) := by
 have hset : σ.set d (.cells old g w) = σ := by
  apply List.ext_getElem?
  intro i
  by_cases h : d = i
  ·subst h; rw [List.getElem?_set_self (lt_of_get hd), hd]
  ·rw [List.getElem?_set_ne h]
 cases e with
 | nil =>
  refine ⟨g, w, old, ?_, hw, by simpa using hp, fun h => ?_⟩
  ·rw [hset]
   simp only [List.length_nil, cellsE] at hv
   simp [qap, hv]
  ·rcases h with h | h
   ·exact absurd rfl h
   ·simpa using h
 | cons p r =>
  have hb : (acc.length + (r.length + 1)) * 24 ≤ 140737488355328 := by simp at hl; omega
  have hc := qch acc
  rcases hp with rfl | ⟨rfl, h0⟩
  ·refine ⟨g + 1, w, cellsE (acc ++ p :: r), ?_, by omega, .inl rfl, fun _ => rfl⟩
   simp only [List.length_cons] at hv
   simp [qap, hv, hd, hc, hb, qcn]
  ·refine ⟨g + 1, g + 1, cellsE (p :: r), ?_, by omega, .inl rfl, fun _ => rfl⟩
   simp only [List.length_cons] at hv
   simp only [List.length_nil, Nat.zero_add] at hb
   have h1 : ¬ 0 = old.length := by omega
   simp [qap, hv, hd, hb, h0, h1]
theorem q0h (z : List V) : ∀ n, (qab z n).length = n * z.length
 | 0 => by simp [qab]
 | n + 1 => by simp only [qab, List.length_append, q0h z n, Nat.succ_mul]; omega
theorem grow_lv (n : Nat) (hn : 0 < n) (hl : n ≤ 1000000) (σ : Store) : LV S 202 [.t .nils, .t (I n)] σ = some (.sl σ.length 0 0 0 2, σ ++ [.cells (qab [.t (.str []), .t (I 0)] n) 0 0]) := by
 suffices h : ∃ v σ', LV S 202 [.t .nils, .t (I n)] σ = some (v, σ') ∧ v = .sl σ.length 0 0 0 2 ∧ σ' = σ ++ [.cells (qab [.t (.str []), .t (I 0)] n) 0 0] by
  obtain ⟨v, σ', h, rfl, rfl⟩ := h
  exact h
 have hb : n * 24 ≤ 140737488355328 := by omega
 have hnn : (0 : Int) < n := by omega
 refine qaq (A := A202) rfl Tryz.func202 rfl ?_
 refine wR rfl (by simp; rfl) ?_
 refine wR rfl (by simp; rfl) ?_
 refine wF rfl (by simp) ?_
 refine wK ?_
 refine wR rfl (by simp [IntWalk.i64_in (n : Int) (by omega), IntWalk.i64_in (0 : Int) (by omega)]; rfl) ?_
 refine wR rfl (by simp [hnn]; rfl) ?_
 refine wT rfl (by simp [hn]) ?_
 refine wR rfl (by simp [qap, qez, hn, hb, bound, qvc, zeroCells]; rfl) ?_
 refine wR rfl (by simp; rfl) ?_
 try simp only [tq]
 refine wX ?_
 try simp only [tq]
 exact ⟨trivial, .sl σ.length 0 0 0 2, (by simp [Tryz.f202]), by simp⟩
end G
namespace G
open X
attribute [-simp] lenV idxV getElem?_pos
attribute [simp] List.getElem?_cons_zero List.getElem?_cons_succ
theorem hIgrow (args : List V) (σ : Store) : LD S 202 args σ = LV S 202 args σ := qbt (A := A202) rfl rfl rfl args σ
theorem q3b {σ : Store} {d : Nat} {v0 v1 v2 : V} {e0 e1 e2 : X.Env} (hd : σ[d]? = some (.cells [v0, v1, v2] 0 0)) (h0 : RdE σ v0 e0) (h1 : RdE σ v1 e1) (h2 : RdE σ v2 e2) (hne : e1 ≠ []) (hl : e0.length + e1.length + e2.length ≤ 1000000) :
  ∃ v σ', LV S 161 [.sl d 0 0 3 1] σ = some (v, σ') ∧ ∃ g w, v = .sl σ.length g 0 (e0 ++ e1 ++ e2).length 2 ∧ w ≤ g ∧ σ' = σ ++ [.cells (cellsE (e0 ++ e1 ++ e2)) g w] := by
 have ld := lt_of_get hd
 have hpos : 0 < e1.length := by
  cases e1 with
  | nil => exact absurd rfl hne
  | cons a r => simp
 have W1 : IntKind.i64.wrap (1 : Int) = 1 := IntWalk.i64_in _ (by omega)
 have W2 : IntKind.i64.wrap (2 : Int) = 2 := IntWalk.i64_in _ (by omega)
 have W3 : IntKind.i64.wrap (3 : Int) = 3 := IntWalk.i64_in _ (by omega)
 have Wa : IntKind.i64.wrap (e0.length : Int) = e0.length := IntWalk.i64_in _ (by omega)
 have Wb : IntKind.i64.wrap ((e0.length : Int) + (e1.length : Int)) = (e0.length : Int) + (e1.length : Int) := IntWalk.i64_in _ (by omega)
 have Wc : IntKind.i64.wrap ((e0.length : Int) + (e1.length : Int) + (e2.length : Int)) = (e0.length : Int) + (e1.length : Int) + (e2.length : Int) := IntWalk.i64_in _ (by omega)
 refine qaq (A := A161) rfl Tryz.func161 rfl ?_
 refine wR rfl (by simp [W1, W2, W3, Wa, Wb, Wc]; rfl) ?_
 refine wR rfl (by simp [W1, W2, W3, Wa, Wb, Wc]; rfl) ?_
 refine wR rfl (by simp [W1, W2, W3, Wa, Wb, Wc]; rfl) ?_
 refine wB rfl ?_
 try simp only [tq]
 refine qay ?_
 refine wR rfl (by simp [W1, W2, W3, Wa, Wb, Wc]; rfl) ?_
 refine wT rfl (by simp [W1, W2, W3, Wa, Wb, Wc]) ?_
 refine wK ?_
 refine wB rfl ?_
 refine wR rfl (by simp [hd, W1, W2, W3, Wa, Wb, Wc]; rfl) ?_
 refine wR rfl (by simp [h0.len, W1, W2, W3, Wa, Wb, Wc]; rfl) ?_
 refine wR rfl (by simp [W1, W2, W3, Wa, Wb, Wc]; rfl) ?_
 refine wF rfl (by simp [show ¬ (e0.length : Int) < 0 by omega, W1, W2, W3, Wa, Wb, Wc]) ?_
 refine wK ?_
 refine wR rfl (by simp [W1, W2, W3, Wa, Wb, Wc]; rfl) ?_
 try simp only [tq]
 refine qay ?_
 refine wR rfl (by simp [W1, W2, W3, Wa, Wb, Wc]; rfl) ?_
 refine wT rfl (by simp [W1, W2, W3, Wa, Wb, Wc]) ?_
 refine wK ?_
 refine wB rfl ?_
 refine wR rfl (by simp [hd, W1, W2, W3, Wa, Wb, Wc]; rfl) ?_
 refine wR rfl (by simp [h1.len, W1, W2, W3, Wa, Wb, Wc]; rfl) ?_
 refine wR rfl (by simp [W1, W2, W3, Wa, Wb, Wc]; rfl) ?_
 refine wF rfl (by simp [show ¬ (e0.length : Int) + (e1.length : Int) < 0 by omega, W1, W2, W3, Wa, Wb, Wc]) ?_
 refine wK ?_
 refine wR rfl (by simp [W1, W2, W3, Wa, Wb, Wc]; rfl) ?_
 try simp only [tq]
 refine qay ?_
 refine wR rfl (by simp [W1, W2, W3, Wa, Wb, Wc]; rfl) ?_
 refine wT rfl (by simp [W1, W2, W3, Wa, Wb, Wc]) ?_
 refine wK ?_
 refine wB rfl ?_
 refine wR rfl (by simp [hd, W1, W2, W3, Wa, Wb, Wc]; rfl) ?_
 refine wR rfl (by simp [h2.len, W1, W2, W3, Wa, Wb, Wc]; rfl) ?_
 refine wR rfl (by simp [W1, W2, W3, Wa, Wb, Wc]; rfl) ?_
 refine wF rfl (by simp [show ¬ (e0.length : Int) + (e1.length : Int) + (e2.length : Int) < 0 by omega, W1, W2, W3, Wa, Wb, Wc]) ?_
 refine wK ?_
 refine wR rfl (by simp [W1, W2, W3, Wa, Wb, Wc]; rfl) ?_
 try simp only [tq]
 refine qay ?_
 refine wR rfl (by simp [W1, W2, W3, Wa, Wb, Wc]; rfl) ?_
 refine wF rfl (by simp [W1, W2, W3, Wa, Wb, Wc]) ?_
 repeat apply qaw
 refine qal ?_
 try simp only [tq, if_true]
 have hg := grow_lv (e0.length + e1.length + e2.length) (by omega) hl σ
 rw [← hIgrow] at hg
 rw [show (((e0.length + e1.length + e2.length : Nat)) : Int) = (e0.length : Int) + (e1.length : Int) + (e2.length : Int) by omega] at hg
 refine wR rfl (by simp [hg, W1, W2, W3, Wa, Wb, Wc]; rfl) ?_
 have lapp : ∀ o : V.Obj, (σ ++ [o])[σ.length]? = some o := fun o => by rw [getA]; rfl
 have sapp : ∀ o o2 : V.Obj, (σ ++ [o]).set σ.length o2 = σ ++ [o2] := fun o o2 => by rw [setA]; rfl
 have dapp : ∀ o : V.Obj, (σ ++ [o])[d]? = some (.cells [v0, v1, v2] 0 0) := fun o => by rw [List.getElem?_append_left ld]; exact hd
 have kapp : ∀ {v : V} {e : X.Env} (o : V.Obj), RdE σ v e → qaf (σ ++ [o]) 2 v = some (e.length, cellsE e) := fun o h => by
  obtain ⟨a, g, w, rfl, k1, k2⟩ := h
  exact RdE.src ⟨a, g, w, rfl, by rw [List.getElem?_append_left (lt_of_get k1)]; exact k1, k2⟩
 obtain ⟨ga, wa, oa, p1, p2, p3, _⟩ := qqa (acc := []) (e := e0) (lapp (.cells (qab [.t (.str []), .t (I 0)] (e0.length + e1.length + e2.length)) 0 0)) (Nat.le_refl _) (.inr ⟨rfl, by rw [q0h]; simp; omega⟩) (kapp _ h0) (by simp; omega)
 rw [sapp] at p1
 simp only [List.nil_append, List.length_nil] at p1 p3
 obtain ⟨gb, wb, ob, q1, q2, q3, q4⟩ := qqa (acc := e0) (e := e1) (lapp (.cells oa ga wa)) p2 p3 (kapp _ h1) (by omega)
 rw [sapp] at q1
 have q5 := q4 (.inl hne)
 subst q5
 obtain ⟨gc, wc, oc, r1, r2, r3, r4⟩ := qqa (acc := e0 ++ e1) (e := e2) (lapp (.cells (cellsE (e0 ++ e1)) gb wb)) q2 q3 (kapp _ h2) (by simp; omega)
 rw [sapp] at r1
 simp only [List.length_append] at r1
 have r5 := r4 (.inr rfl)
 subst r5
 refine wR rfl (by simp [W1, W2, W3, Wa, Wb, Wc]; rfl) ?_
 refine wB rfl ?_
 try simp only [tq]
 refine qay ?_
 refine wR rfl (by simp [W1, W2, W3, Wa, Wb, Wc]; rfl) ?_
 refine wT rfl (by simp [W1, W2, W3, Wa, Wb, Wc]) ?_
 refine wK ?_
 refine wB rfl ?_
 refine wR rfl (by simp [dapp, W1, W2, W3, Wa, Wb, Wc]; rfl) ?_
 refine wR rfl (by simp [p1, W1, W2, W3, Wa, Wb, Wc]; rfl) ?_
 refine wR rfl (by simp [W1, W2, W3, Wa, Wb, Wc]; rfl) ?_
 try simp only [tq]
 refine qay ?_
 refine wR rfl (by simp [W1, W2, W3, Wa, Wb, Wc]; rfl) ?_
 refine wT rfl (by simp [W1, W2, W3, Wa, Wb, Wc]) ?_
 refine wK ?_
 refine wB rfl ?_
 refine wR rfl (by simp [dapp, W1, W2, W3, Wa, Wb, Wc]; rfl) ?_
 refine wR rfl (by simp [q1, W1, W2, W3, Wa, Wb, Wc]; rfl) ?_
 refine wR rfl (by simp [W1, W2, W3, Wa, Wb, Wc]; rfl) ?_
 try simp only [tq]
 refine qay ?_
 refine wR rfl (by simp [W1, W2, W3, Wa, Wb, Wc]; rfl) ?_
 refine wT rfl (by simp [W1, W2, W3, Wa, Wb, Wc]) ?_
 refine wK ?_
 refine wB rfl ?_
 refine wR rfl (by simp [dapp, W1, W2, W3, Wa, Wb, Wc]; rfl) ?_
 refine wR rfl (by simp [r1, W1, W2, W3, Wa, Wb, Wc]; rfl) ?_
 refine wR rfl (by simp [W1, W2, W3, Wa, Wb, Wc]; rfl) ?_
 try simp only [tq]
 refine qay ?_
 refine wR rfl (by simp [W1, W2, W3, Wa, Wb, Wc]; rfl) ?_
 refine wF rfl (by simp [W1, W2, W3, Wa, Wb, Wc]) ?_
 repeat apply qaw
 refine qal ?_
 try simp only [tq, if_true]
 refine wR rfl (by simp [W1, W2, W3, Wa, Wb, Wc]; rfl) ?_
 try simp only [tq]
 refine wX ?_
 try simp only [tq]
 exact ⟨trivial, .sl σ.length gc 0 (e0 ++ e1 ++ e2).length 2, (by simp [Tryz.f161, Nat.add_assoc]), gc, wc, rfl, r2, by simp⟩
theorem hIcat (args : List V) (σ : Store) : LD S 161 args σ = LV S 161 args σ := qbt (A := A161) rfl rfl rfl args σ
theorem qxx (e : X.Env) (hl : e.length ≤ 1000) (σ : Store) : LD S 163 [.t (envT e)] σ = some (.t (envT e), σ) := by
 suffices h : ∃ v σ', LV S 163 [.t (envT e)] [] = some (v, σ') ∧ frz 40 σ' v = some (envT e) by
  obtain ⟨v, σ', h1, h2⟩ := h
  exact qaj (A := A163) rfl rfl rfl h1 h2 σ
 refine qaq (A := A163) rfl Tryz.func163 rfl ?_
 refine wR rfl (by simp; rfl) ?_
 have hs : qaf [.cells [] 0 0] 2 (.t (envT e)) = some (e.length, cellsE e) := by simp [qaf, envT, qmu]
 obtain ⟨g', w', old, a1, a2, a3, a4⟩ := qqa (acc := []) (e := e) (σ := [.cells [] 0 0]) (d := 0) (g := 0) (w := 0) (old := []) rfl (Nat.le_refl _) (.inl rfl) hs (by simp; omega)
 have a5 := a4 (.inr rfl)
 subst a5
 simp only [List.nil_append, List.length_nil, List.set_cons_zero] at a1
 refine wR rfl (by simp [qaa, qab, chunk, qao, a1]; rfl) ?_
 try simp only [tq]
 refine wX ?_
 try simp only [tq]
 exact ⟨trivial, .sl 0 g' 0 e.length 2, (by simp [Tryz.f163]), qhi (σ := [.cells (cellsE e) g' w']) 38 rfl a2⟩
end G
namespace G
open X
attribute [-simp] lenV idxV getElem?_pos
attribute [simp] List.getElem?_cons_zero List.getElem?_cons_succ
theorem qxs {VN : List Nat → Bool} (hV : NmI VN) {e : X.Env} (ha : qgw VN e = true) (hl : e.length ≤ 1000) {nm : List Nat} (hn : VN nm = true) (n : Int) :
  ∃ v σ', LV S 110 [.t (envT e), .t (.str nm), .t (I n)] [] = some (v, σ') ∧ frz 40 σ' v = some (.tup [envT (setN e nm n), B (qgf (outN e nm n))]) := by
 refine qaq (A := A110) rfl Tryz.func110 rfl ?_
 refine wR rfl (by simp; rfl) ?_
 refine wR rfl (by simp [qaa, qab, chunk, qao]; rfl) ?_
 refine wR rfl (by simp [envT]; rfl) ?_
 refine wB rfl ?_
 try simp only [tq]
 refine qat (I := fun m st τ => ∃ k lo hi g0 w0 g1 w1 bx, m = e.length - k ∧ k ≤ e.length ∧ lo.length ≤ k ∧ hi.length ≤ k ∧ lo ++ lowN nm (e.drop k) = lowN nm e ∧ hi ++ hiN nm (e.drop k) = hiN nm e ∧ w0 ≤ g0 ∧ w1 ≤ g1 ∧ st.vars = [(0, .t (envT e)), (1, .t (.str nm)), (2, .t (I n)), (6, .t .nils), (7, .t (B false)), (8, .sl 0 g0 0 lo.length 2), (9, .sl 1 g1 0 hi.length 2), (15, .t (envT e)), (16, .t (I e.length)), (17, .t (I k))] ∧ τ = [.cells (cellsE lo) g0 w0, .cells (cellsE hi) g1 w1] ++ bx) ?_ e.length _ _ ⟨0, [], [], 0, 0, 0, 0, [], rfl, Nat.zero_le _, by simp, by simp, rfl, rfl, by omega, by omega, by simp [envT], rfl⟩
 rintro m ⟨vars, scr⟩ τ ⟨k, lo, hi, g0, w0, g1, w1, bx, rfl, hk, hlo, hhi, elo, ehi, hw0, hw1, hvs, rfl⟩
 simp only at hvs
 subst hvs
 have hc0 := qch lo
 have hc1 := qch hi
 have hb0 : (lo.length + 1) * 24 ≤ 140737488355328 := by omega
 have hb1 : (hi.length + 1) * 24 ≤ 140737488355328 := by omega
 refine wR rfl (by simp [envT]; rfl) ?_
 by_cases c1 : k < e.length
 ·refine wT rfl (by simp [c1]) ?_
  refine wK ?_
  refine wB rfl ?_
  obtain ⟨p, hp⟩ := get_of_lt c1
  rw [qak hp] at elo ehi
  simp only [lowN, List.filter_cons] at elo
  simp only [hiN, List.filter_cons] at ehi
  refine wR rfl (by simp [envT, hp, rowE, getA, setA, qao, qac]; rfl) ?_
  refine wR rfl (by simp [getA]; rfl) ?_
  cases c2 : qdn p.1 nm with
  | true =>
   rw [c2] at elo ehi
   simp only [if_true] at elo
   simp only [Bool.true_or, Bool.not_true, Bool.false_eq_true, if_false] at ehi
   refine wT rfl (by simp [c2]) ?_
   refine wR rfl (by simp [getA, setA, qaa, qab, chunk, qao, qac, qap, qaf, qag, hc0, hb0, hw0]; rfl) ?_
   refine wR rfl (by simp [getA, c2]; rfl) ?_
   refine wF rfl (by simp) ?_
   refine wK ?_
   refine wR rfl (by simp [IntWalk.i64_in ((k : Int) + 1) (by omega)]; rfl) ?_
   try simp only [tq]
   refine ⟨e.length - (k + 1), by omega, k + 1, lo ++ [p], hi, g0 + 1, w0, g1, w1, bx ++ [.cells [.t (.str p.1), .t (I p.2)] 0 0], rfl, c1, by simp; omega, by omega, by simpa [lowN] using elo, by simpa [hiN] using ehi, by omega, hw1, by simp [envT], ?_⟩
   rw [qcn]; rfl
  | false =>
   rw [c2] at elo ehi
   simp only [Bool.false_eq_true, if_false] at elo
   simp only [Bool.false_or] at ehi
   refine wF rfl (by simp [c2]) ?_
   refine wK ?_
   refine wR rfl (by simp [getA, c2, X.eqL_eq]; rfl) ?_
   by_cases c3 : p.1 = nm
   ·simp only [c3, decide_true, Bool.not_true, Bool.false_eq_true, if_false] at ehi
    refine wF rfl (by simp [c3]) ?_
    refine wK ?_
    refine wR rfl (by simp [IntWalk.i64_in ((k : Int) + 1) (by omega)]; rfl) ?_
    try simp only [tq]
    exact ⟨e.length - (k + 1), by omega, k + 1, lo, hi, g0, w0, g1, w1, bx ++ [.cells [.t (.str p.1), .t (I p.2)] 0 0], rfl, c1, by omega, by omega, by simpa [lowN] using elo, by simpa [hiN] using ehi, hw0, hw1, by simp [envT], rfl⟩
   ·simp only [c3, decide_false, Bool.not_false, if_true] at ehi
    refine wT rfl (by simp [c3]) ?_
    refine wR rfl (by simp [getA, setA, qaa, qab, chunk, qao, qac, qap, qaf, qag, hc1, hb1, hw1]; rfl) ?_
    refine wR rfl (by simp [IntWalk.i64_in ((k : Int) + 1) (by omega)]; rfl) ?_
    try simp only [tq]
    refine ⟨e.length - (k + 1), by omega, k + 1, lo, hi ++ [p], g0, w0, g1 + 1, w1, bx ++ [.cells [.t (.str p.1), .t (I p.2)] 0 0], rfl, c1, by omega, by simp; omega, by simpa [lowN] using elo, by simpa [hiN] using ehi, hw0, by omega, by simp [envT], ?_⟩
    rw [qcn]; rfl
 ·refine wF rfl (by simp [c1]) ?_
  repeat apply qaw
  refine qal ?_
  try simp only [tq, if_true]
  have : k = e.length := by omega
  subst this
  rw [List.drop_length] at elo ehi
  simp only [lowN, List.filter_nil, List.append_nil] at elo
  simp only [hiN, List.filter_nil, List.append_nil] at ehi
  have q0 : ∀ (r : Store), (.cells (cellsE lo) g0 w0 :: .cells (cellsE hi) g1 w1 :: (bx ++ r))[bx.length + 1 + 1 + 1]? = r[1]? := fun r => by
   simp only [List.getElem?_cons_succ]
   rw [X.getB]
  obtain ⟨v, σ', z1, g, w, rfl, z2, rfl⟩ := q3b (σ := .cells (cellsE lo) g0 w0 :: .cells (cellsE hi) g1 w1 :: (bx ++ [.cells [.t (.str nm), .t (I n)] 0 0, .cells [.sl 0 g0 0 lo.length 2, .sl (bx.length + 1 + 1) 0 0 1 2, .sl 1 g1 0 hi.length 2] 0 0])) (d := bx.length + 1 + 1 + 1) (v0 := .sl 0 g0 0 lo.length 2) (v1 := .sl (bx.length + 1 + 1) 0 0 1 2) (v2 := .sl 1 g1 0 hi.length 2) (e0 := lo) (e1 := [(nm, n)]) (e2 := hi) (by rw [q0]; rfl) ⟨0, g0, w0, rfl, rfl, hw0⟩ ⟨bx.length + 1 + 1, 0, 0, rfl, by simp only [List.getElem?_cons_succ]; rw [getA]; rfl, Nat.le_refl _⟩ ⟨1, g1, w1, rfl, rfl, hw1⟩ (by simp) (by simp; omega)
  rw [← hIcat] at z1
  have eout : lo ++ [(nm, n)] ++ hi = outN e nm n := by rw [elo, ehi]; rfl
  rw [eout] at z1
  refine wR rfl (by simp [qbz, qar, qao, qac, qab, qaa, chunk, qcc, allT, show (List.range 3)[0]? = some 0 from rfl, show (List.range 3)[1]? = some 1 from rfl, show (List.range 3)[2]? = some 2 from rfl, z1]; rfl) ?_
  have hN : ∀ o : V.Obj, (.cells (cellsE lo) g0 w0 :: .cells (cellsE hi) g1 w1 :: (bx ++ [.cells [.t (.str nm), .t (I n)] 0 0, .cells [.sl 0 g0 0 lo.length 2, .sl (bx.length + 1 + 1) 0 0 1 2, .sl 1 g1 0 hi.length 2] 0 0]) ++ [o])[bx.length + 1 + 1 + 1 + 1]? = some o := fun o => by
   simp only [List.cons_append, List.getElem?_cons_succ, List.append_assoc, List.singleton_append, List.nil_append]
   rw [X.getC]; rfl
  have hok := q4d hV (qmj ha hn n) (by have := congrArg List.length eout; simp at this; omega) (g := g) (qhi 38 (hN (.cells (cellsE (outN e nm n)) g w)) z2)
  simp only [List.cons_append, List.append_assoc, List.nil_append] at hok
  cases hE : qgf (outN e nm n) with
  | true =>
   rw [hE] at hok
   refine wR rfl (by simp [hok]; rfl) ?_
   refine wF rfl (by simp) ?_
   refine wK ?_
   refine wR rfl (by simp; rfl) ?_
   try simp only [tq]
   refine wX ?_
   try simp only [tq]
   refine ⟨trivial, .tup [.sl (bx.length + 1 + 1 + 1 + 1) g 0 (outN e nm n).length 2, .t (B true)], (by simp [Tryz.f110]), ?_⟩
   have := qhi 37 (hN (.cells (cellsE (outN e nm n)) g w)) z2
   simp only [setN, hE, if_true]
   simp only [List.cons_append, List.append_assoc, List.nil_append] at this
   rw [frz, frzs, this]
   rfl
  | false =>
   rw [hE] at hok
   refine wR rfl (by simp [hok]; rfl) ?_
   refine wT rfl (by simp) ?_
   have hce := qxx e hl
   simp only [envT] at hce
   refine wR rfl (by simp [hce]; rfl) ?_
   try simp only [tq]
   refine wX ?_
   try simp only [tq]
   refine ⟨trivial, .t (.tup [envT e, B false]), (by simp [Tryz.f110, envT]), ?_⟩
   simp only [setN, hE, Bool.false_eq_true, if_false]
   rfl
theorem qyd {VN : List Nat → Bool} (hV : NmI VN) {e : X.Env} (ha : qgw VN e = true) (hl : e.length ≤ 1000) {nm : List Nat} (hn : VN nm = true) (n : Int) (σ : Store) :
  LD S 110 [.t (envT e), .t (.str nm), .t (I n)] σ = some (.t (.tup [envT (setN e nm n), B (qgf (outN e nm n))]), σ) := by
 obtain ⟨v, σ', h1, h2⟩ := qxs hV ha hl hn n
 exact qaj (A := A110) (args := [.t (envT e), .t (.str nm), .t (I n)]) rfl rfl rfl h1 h2 σ
end G
namespace G
open X
attribute [-simp] lenV idxV getElem?_pos
attribute [simp] List.getElem?_cons_zero List.getElem?_cons_succ
/-! ### BindNum, InSet, envOf, bound -/
theorem qux (c : Nat) (hc : c < 256) (σ : Store) : LD S 62 [.t (.int .u8 c)] σ = some (.t (B (decide (48 ≤ c) && decide (c ≤ 57))), σ) := by
 have e : inF (c : Int) 48 57 = (decide (48 ≤ c) && decide (c ≤ 57)) := by
  unfold inF
  rw [show decide ((48 : Int) ≤ (c : Int)) = decide (48 ≤ c) by simp only [decide_eq_decide]; omega, show decide ((c : Int) ≤ 57) = decide (c ≤ 57) by simp only [decide_eq_decide]; omega]
 have hw := within_ld (c : Int) 48 57
 rw [e] at hw
 suffices h : LV S 62 [.t (.int .u8 c)] [] = some (.t (B (decide (48 ≤ c) && decide (c ≤ 57))), []) from qaj (A := A62) (v := .t (B (decide (48 ≤ c) && decide (c ≤ 57)))) rfl rfl rfl h rfl σ
 refine qas (A := A62) rfl Tryz.func62 rfl ?_
 refine wR rfl (by simp [A62]; rfl) ?_
 refine wR rfl (by simp [A62, qkl, hw, IntWalk.i64_in (c : Int) (by omega)]; rfl) ?_
 refine wX ?_
 try simp only [tq]
 simp [Tryz.f62]
theorem tm_b (x : Int) : -999999999 ≤ x.tmod 1000000000 ∧ x.tmod 1000000000 ≤ 999999999 := by
 have h := Int.natAbs_tmod x 1000000000
 have := Nat.mod_lt x.natAbs (show 0 < (1000000000 : Int).natAbs by decide)
 have e : (1000000000 : Int).natAbs = 1000000000 := rfl
 omega
theorem tm_e {x : Int} (h1 : -999999999 ≤ x) (h2 : x ≤ 999999999) : x.tmod 1000000000 = x := by
 rcases Int.le_total 0 x with h | h
 ·exact Int.tmod_eq_of_lt h (by omega)
 ·have := Int.tmod_eq_of_lt (a := -x) (b := 1000000000) (by omega) (by omega)
  rw [Int.neg_tmod] at this
  omega
theorem quf (s : List Nat) (hb : Bs s) (hl : s.length ≤ 1048576) : LV S 111 [.t (.str s)] [] = some (.t (I (qee s)), []) := by
 have hin := within_ld (s.length : Int) 1 2
 refine qas (A := A111) rfl Tryz.func111 rfl ?_
 refine wR rfl (by simp; rfl) ?_
 refine wR rfl (by simp [hin]; rfl) ?_
 refine wR rfl (by simp; rfl) ?_
 refine wR rfl (by simp; rfl) ?_
 refine wB rfl ?_
 try simp only [tq]
 refine qat (I := fun m st τ => ∃ (k : Nat) (n : Int) (f : Bool), m = s.length - k ∧ k ≤ s.length ∧ (-999999999 ≤ n ∧ n ≤ 999999999) ∧ ((1 ≤ s.length ∧ s.length ≤ 2) → ((k = 0 ∧ n = 0) ∨ (k = 1 ∧ -48 ≤ n ∧ n ≤ 207) ∨ (k = 2 ∧ -600 ≤ n ∧ n ≤ 3000)) ∧ bnL (s.drop k) n f = bnL s 0 true) ∧ (¬ (1 ≤ s.length ∧ s.length ≤ 2) → f = false) ∧ st.vars = [(0, .t (.str s)), (2, .t (I 0)), (3, .t (B f)), (4, .t (I n)), (10, .t (I s.length)), (11, .t (I k))] ∧ τ = []) ?_ s.length _ _ ⟨0, 0, inF (s.length : Int) 1 2, rfl, Nat.zero_le _, ⟨by omega, by omega⟩, fun h => ⟨.inl ⟨rfl, rfl⟩, by
  rw [show inF (s.length : Int) 1 2 = true by simp [inF]; omega]; rfl⟩, fun h => by
   cases hq : inF (s.length : Int) 1 2 with
   | false => rfl
   | true => exact absurd (by simp only [inF, Bool.and_eq_true, decide_eq_true_eq] at hq; omega) h, by simp, rfl⟩
 rintro m ⟨vars, scr⟩ τ ⟨k, n, f, rfl, hk, hn, he, hf, hv, rfl⟩
 simp only at hv
 subst hv
 refine wR rfl (by simp; rfl) ?_
 by_cases c2 : k < s.length
 ·refine wT rfl (by simp [c2]) ?_
  refine wK ?_
  refine wB rfl ?_
  obtain ⟨c, hc⟩ := get_of_lt c2
  have hcb : c < 256 := hb c (List.mem_of_getElem? hc)
  rw [qak hc] at he
  simp only [bnL] at he
  have hfg := qux c hcb
  have w1 := IntWalk.i64_in (10 * n) (by omega)
  have w2 := IntWalk.i64_in (10 * n + c) (by omega)
  have w3 := IntWalk.i64_in (10 * n + c - 48) (by omega)
  have w4 := IntWalk.i64_in (c : Int) (by omega)
  have tb := tm_b (10 * n + c - 48)
  have w5 := IntWalk.i64_in ((10 * n + c - 48).tmod 1000000000) (by omega)
  refine wR rfl (by simp; rfl) ?_
  have next : ∀ f' : Bool, f' = (f && (decide (48 ≤ c) && decide (c ≤ 57))) → ((1 ≤ s.length ∧ s.length ≤ 2) → ((k + 1 = 0 ∧ (10 * n + c - 48).tmod 1000000000 = 0) ∨ (k + 1 = 1 ∧ -48 ≤ (10 * n + c - 48).tmod 1000000000 ∧ (10 * n + c - 48).tmod 1000000000 ≤ 207) ∨ (k + 1 = 2 ∧ -600 ≤ (10 * n + c - 48).tmod 1000000000 ∧ (10 * n + c - 48).tmod 1000000000 ≤ 3000)) ∧ bnL (s.drop (k + 1)) ((10 * n + c - 48).tmod 1000000000) f' = bnL s 0 true) ∧ (¬ (1 ≤ s.length ∧ s.length ≤ 2) → f' = false) := by
   intro f' hf'
   subst hf'
   refine ⟨fun h => ?_, fun h => by rw [hf h]; rfl⟩
   obtain ⟨h1, h2⟩ := he h
   rw [tm_e (x := 10 * n + c - 48) (by omega) (by omega)]
   exact ⟨by omega, h2⟩
  cases f with
  | false =>
   refine wR rfl (by simp [hc, c2]; rfl) ?_
   refine wR rfl (by simp [hc, c2, w1, w2, w3, w4, w5]; rfl) ?_
   refine wR rfl (by simp [IntWalk.i64_in ((k : Int) + 1) (by omega)]; rfl) ?_
   try simp only [tq]
   obtain ⟨n1, n2⟩ := next false rfl
   exact ⟨s.length - (k + 1), by omega, k + 1, _, false, rfl, c2, tb, n1, n2, by simp [w1, w2, w3, w4, w5], trivial⟩
  | true =>
   refine wR rfl (by simp [hc, c2, hfg]; rfl) ?_
   refine wR rfl (by simp [hc, c2, w1, w2, w3, w4, w5]; rfl) ?_
   refine wR rfl (by simp [IntWalk.i64_in ((k : Int) + 1) (by omega)]; rfl) ?_
   try simp only [tq]
   obtain ⟨n1, n2⟩ := next _ rfl
   exact ⟨s.length - (k + 1), by omega, k + 1, _, _, rfl, c2, tb, n1, n2, by simp [w1, w2, w3, w4, w5], trivial⟩
 ·refine wF rfl (by simp [c2]) ?_
  repeat apply qaw
  refine qal ?_
  try simp only [tq, if_true]
  have : k = s.length := by omega
  subst this
  rw [List.drop_length] at he
  simp only [bnL] at he
  refine wR rfl (by simp; rfl) ?_
  cases f with
  | true =>
   by_cases c1 : 1 ≤ s.length ∧ s.length ≤ 2
   ·have hbn : qee s = n := by simp only [qee, c1, ← (he c1).2, and_self, if_true]
    refine wT rfl (by simp) ?_
    refine wR rfl (by simp; rfl) ?_
    refine wX ?_
    try simp only [tq]
    simp [Tryz.f111, hbn]
   ·cases hf c1
  | false =>
   have hbn : qee s = if 99 < s.length then 99 else (s.length : Int) := by
    unfold qee
    by_cases c1 : 1 ≤ s.length ∧ s.length ≤ 2
    ·rw [← (he c1).2]; simp
    ·rw [if_neg (fun h => c1 h.1)]
   refine wF rfl (by simp) ?_
   refine wK ?_
   by_cases c3 : 99 < s.length
   ·rw [if_pos c3] at hbn
    refine wR rfl (by simp [minV, show (99 : Int) < s.length by omega]; rfl) ?_
    refine wX ?_
    try simp only [tq]
    simp [Tryz.f111, hbn]
   ·rw [if_neg c3] at hbn
    refine wR rfl (by simp [minV, show ¬ (99 : Int) < s.length by omega]; rfl) ?_
    refine wX ?_
    try simp only [tq]
    simp [Tryz.f111, hbn]
theorem quz (s : List Nat) (hb : Bs s) (hl : s.length ≤ 1048576) (σ : Store) : LD S 111 [.t (.str s)] σ = some (.t (I (qee s)), σ) :=
 qaj (A := A111) (v := .t (I (qee s))) (σ0 := []) rfl rfl rfl (quf s hb hl) rfl σ
/-! ### Sets -/
theorem qvj (c : Nat) : ∀ (s : List Nat) (k : Nat), decide (0 ≤ idxB s c k) = s.contains c
 | [], k => by simp [idxB]
 | x :: r, k => by
  have ih := qvj c r (k + 1)
  unfold idxB
  cases h : Nat.beq x c with
  | true =>
   have := Nat.eq_of_beq_eq_true h
   simp [this]
  | false =>
   have : ¬ c = x := fun e => by rw [e, Nat.beq_refl] at h; cases h
   simp only [ih]
   simp [this]
def SetsI (SR : List Nat → Option (List Nat)) : Prop := ∀ s rows, SR s = some rows → ∃ bytes, (∀ σ, LD S 157 [.t (.str s)] σ = some (.t (.str bytes), σ)) ∧ ∀ b, b < 256 → bytes.contains b = setR rows b rows.length 0
theorem idx_ld (s : List Nat) (b : Nat) (hb : b < 256) (σ : Store) : LD S 189 [.t (.str s), .t (.int .u8 b)] σ = some (.t (.int .i64 (idxB s b 0)), σ) := by
 have h : LD S 189 [.t (.str s), .t (.int .u8 b)] σ = gExt idxG [.t (.str s), .t (.int .u8 b)] σ := by
  unfold LD qbj
  rfl
 rw [h]
 have hb' : Nat.ble b 255 = true := Nat.ble_eq_true_of_le (by omega)
 simp only [gExt, frzs, frz]
 show Option.map _ (idxG [.str s, .int .u8 (.ofNat b)]) = _
 simp only [idxG, hb']
 rfl
theorem sIdx_ld (s : List Nat) (b : Nat) (hb : b < 256) (σ : Store) : LD S 149 [.t (.str s), .t (.int .u8 b)] σ = some (.t (.int .i64 (idxB s b 0)), σ) := by
 suffices h : LV S 149 [.t (.str s), .t (.int .u8 b)] [] = some (.t (.int .i64 (idxB s b 0)), []) from qaj (A := A149) (v := .t (.int .i64 (idxB s b 0))) rfl rfl rfl h rfl σ
 refine qas (A := A149) rfl Tryz.func149 rfl ?_
 refine wR rfl (by simp [A149]; rfl) ?_
 refine wR rfl (by simp [A149, idx_ld s b hb]; rfl) ?_
 refine wX ?_
 try simp only [tq]
 simp [Tryz.f149]
theorem inSet2_ld {SR : List Nat → Option (List Nat)} (hS : SetsI SR) {s rows : List Nat} (h : SR s = some rows) {b : Nat} (hb : b < 256) (σ : Store) : LD S 108 [.t (.str s), .t (.int .u8 b)] σ = some (.t (B (setR rows b rows.length 0)), σ) := by
 obtain ⟨bytes, h1, h2⟩ := hS _ _ h
 have h3 := qvj b bytes 0
 rw [h2 b hb] at h3
 suffices hh : LV S 108 [.t (.str s), .t (.int .u8 b)] [] = some (.t (B (setR rows b rows.length 0)), []) from qaj (A := A108) (v := .t (B (setR rows b rows.length 0))) rfl rfl rfl hh rfl σ
 refine qas (A := A108) rfl Tryz.func108 rfl ?_
 refine wR rfl (by simp; rfl) ?_
 refine wR rfl (by simp [h1, sIdx_ld bytes b hb, h3]; rfl) ?_
 refine wX ?_
 try simp only [tq]
 simp [Tryz.f108]
end G
namespace G
open X
attribute [-simp] lenV idxV getElem?_pos
attribute [simp] List.getElem?_cons_zero List.getElem?_cons_succ
/-! ### envOf, bound, EnvText -/
def zipE (l : List (List Nat)) (al : List Nat) : X.Env := (l.zip al).map fun p => (p.1, (p.2 : Int))
theorem q0l {l : List (List Nat)} {al : List Nat} {k : Nat} {p : List Nat} {a : Nat} (h1 : l[k]? = some p) (h2 : al[k]? = some a) : zipE (l.take (k + 1)) (al.take (k + 1)) = zipE (l.take k) (al.take k) ++ [(p, (a : Int))] := by
 have l1 := lt_of_get h1
 have l2 := lt_of_get h2
 rw [List.take_add_one, List.take_add_one, h1, h2]
 unfold zipE
 rw [List.zip_append (by simp; omega)]
 simp
theorem qvx (l : List (List Nat)) (al : List Nat) (h : al.length = l.length) (k : Nat) (hk : k ≤ l.length) : (zipE (l.take k) (al.take k)).length = k := by
 simp only [zipE, List.length_map, List.length_zip, List.length_take]
 omega
theorem envOf_lv {nm : T} {ps az : T} {l : List (List Nat)} (hs : Strs ps l) {al : List Nat} (hal : al.length = l.length) (hl : l.length ≤ 1000) :
  ∃ v σ', LV S 45 [.t (.agg [nm, ps, az]), .t (.list (qax al))] [] = some (v, σ') ∧ frz 40 σ' v = some (envT (zipE l al)) := by
 refine qaq (A := A45) rfl Tryz.func45 rfl ?_
 refine wR rfl (by simp; rfl) ?_
 refine wR rfl (by simp [qaa, qab, chunk, qao]; rfl) ?_
 refine wR rfl (by simp [hs.len]; rfl) ?_
 refine wB rfl ?_
 try simp only [tq]
 refine qat (I := fun m st τ => ∃ k g w, m = l.length - k ∧ k ≤ l.length ∧ w ≤ g ∧ st.vars = [(0, .t (.agg [nm, ps, az])), (1, .t (.list (qax al))), (2, .ptr 0 0 0 3), (4, .t .nils), (5, .sl 1 g 0 k 2), (10, .t ps), (11, .t (I l.length)), (12, .t (I k))] ∧ τ = [.cells [.t nm, .t ps, .t az] 0 0, .cells (cellsE (zipE (l.take k) (al.take k))) g w]) ?_ l.length _ _ ⟨0, 0, 0, rfl, Nat.zero_le _, by omega, by simp, rfl⟩
 rintro m ⟨vars, scr⟩ τ ⟨k, g, w, rfl, hk, hw, hvs, rfl⟩
 simp only at hvs
 subst hvs
 refine wR rfl (by simp; rfl) ?_
 by_cases c1 : k < l.length
 ·refine wT rfl (by simp [c1]) ?_
  refine wK ?_
  refine wB rfl ?_
  obtain ⟨p, hp⟩ := get_of_lt c1
  obtain ⟨a, ha⟩ := get_of_lt (show k < al.length by omega)
  have hcl := qch (zipE (l.take k) (al.take k))
  rw [qvx l al hal k hk] at hcl
  have hb : (k + 1) * 24 ≤ 140737488355328 := by omega
  refine wR rfl (by simp [hs.idx hp]; rfl) ?_
  refine wR rfl (by simp [ha, qbz, qar, qaa, qab, chunk, qao, qac, qcc, allT, qap, qaf, qag, hcl, hb, hw]; rfl) ?_
  refine wR rfl (by simp [IntWalk.i64_in ((k : Int) + 1) (by omega)]; rfl) ?_
  try simp only [tq]
  refine ⟨l.length - (k + 1), by omega, k + 1, g + 1, w, rfl, c1, by omega, by simp, ?_⟩
  rw [q0l hp ha, qcn]
  rfl
 ·refine wF rfl (by simp [c1]) ?_
  repeat apply qaw
  refine qal ?_
  try simp only [tq, if_true]
  have : k = l.length := by omega
  subst this
  refine wR rfl (by simp; rfl) ?_
  try simp only [tq]
  refine wX ?_
  try simp only [tq]
  refine ⟨trivial, .sl 1 g 0 l.length 2, (by simp [Tryz.f45]), ?_⟩
  have hz : zipE (l.take l.length) (al.take l.length) = zipE l al := by rw [List.take_of_length_le (Nat.le_refl _), List.take_of_length_le (by omega)]
  have hzl : (zipE l al).length = l.length := by rw [← hz]; exact qvx l al hal _ (Nat.le_refl _)
  have := qhi (σ := [.cells [.t nm, .t ps, .t az] 0 0, .cells (cellsE (zipE l al)) g w]) (d := 1) (g := g) (w := w) (e := zipE l al) 38 rfl hw
  rw [hzl] at this
  have hz2 : List.take l.length al = al := List.take_of_length_le (by omega)
  simp only [List.take_length, hz2]
  exact this
theorem envOf_ld {nm : T} {ps az : T} {l : List (List Nat)} (hs : Strs ps l) {al : List Nat} (hal : al.length = l.length) (hl : l.length ≤ 1000) (σ : Store) :
  LD S 45 [.t (.agg [nm, ps, az]), .t (.list (qax al))] σ = some (.t (envT (zipE l al)), σ) := by
 obtain ⟨v, σ', h1, h2⟩ := envOf_lv (nm := nm) (az := az) hs hal hl
 exact qaj (A := A45) rfl rfl rfl h1 h2 σ
theorem bound_ld {VN : List Nat → Bool} (hV : NmI VN) {kz tz az : T} {e e' : X.Env} {bs t : List Nat} (h : qkt VN e bs t = some e') (σ : Store) : LD S 74 [.t (.agg [kz, tz, az, .str bs]), .t (envT e), .t (.str t)] σ = some (.t (envT e'), σ) := by
 unfold qkt at h
 split at h
 rotate_left
 ·cases h
 rename_i hb
 obtain ⟨b1, b2, b3, b4⟩ := hb
 suffices hh : ∃ σ', LV S 74 [.t (.agg [kz, tz, az, .str bs]), .t (envT e), .t (.str t)] [] = some (.t (envT e'), σ') by
  obtain ⟨σ', hh⟩ := hh
  exact qaj (A := A74) (v := .t (envT e')) rfl rfl rfl hh rfl σ
 refine qbm (A := A74) rfl Tryz.func74 rfl ?_
 split at h
 ·rename_i hbs
  subst hbs
  cases h
  refine wR rfl (by simp; rfl) ?_
  refine wR rfl (by simp [X.eqL_eq]; rfl) ?_
  refine wT rfl (by simp) ?_
  refine wR rfl (by simp; rfl) ?_
  refine wX ?_
  try simp only [tq]
  simp [Tryz.f74]
 ·rename_i hbs
  split at h
  rotate_left
  ·cases h
  rename_i hn
  cases h
  have hbn := quz t (q0v b4) (by omega)
  have hes := qyd hV b1 b2 hn (qee t)
  refine wR rfl (by simp; rfl) ?_
  refine wR rfl (by simp [X.eqL_eq, hbs]; rfl) ?_
  refine wF rfl (by simp) ?_
  refine wK ?_
  refine wR rfl (by simp [hbn, hes]; rfl) ?_
  refine wR rfl (by simp; rfl) ?_
  refine wX ?_
  try simp only [tq]
  simp [Tryz.f74]
/-- numbers as they are told -/
def decS (n : Nat) : List Nat := if n < 10 then [48 + n] else [48 + n / 10, 48 + n % 10]
def DecOk : Prop := ∀ n : Nat, n ≤ 99 → ∀ σ, LD S 104 [.t (I n)] σ = some (.t (.str (decS n)), σ)
def itm (p : List Nat × Int) : List Nat := p.1 ++ 61 :: decS p.2.toNat
def envS (e : X.Env) : List Nat := joinL [44] (e.map itm)
def EnB (e : X.Env) : Prop := (∀ p ∈ e, p.1.length ≤ 100 ∧ 0 ≤ p.2 ∧ p.2 ≤ 99) ∧ e.length ≤ 1000
def qkn (l : List (List Nat)) : List V := l.map fun s => V.t (.str s)
@[simp] theorem strsV_len (l : List (List Nat)) : (qkn l).length = l.length := by simp [qkn]
theorem q3g (l r : List (List Nat)) : qkn (l ++ r) = qkn l ++ qkn r := by simp [qkn]
theorem qrj (d : Nat) (σ : Store) : ∀ (l : List (List Nat)), ∃ ts, frzs (frz (d + 1) σ) (qkn l) = some ts ∧ qhl (chunk 1 l.length ts) = some l
 | [] => ⟨[], rfl, rfl⟩
 | s :: r => by
  obtain ⟨ts, h1, h2⟩ := qrj d σ r
  refine ⟨.str s :: ts, ?_, ?_⟩
  ·have t1 : ∀ z : T, frz (d + 1) σ (.t z) = some z := fun z => rfl
   simp only [qkn, List.map_cons, frzs, t1] at h1 ⊢
   rw [h1]
  ·simp only [List.length_cons, chunk, List.take_succ_cons, List.take_zero, List.drop_succ_cons, List.drop_zero, qhl, h2]
theorem decS_len (n : Nat) : (decS n).length ≤ 2 := by unfold decS; split <;> simp
theorem join_le (sep : List Nat) : ∀ (l : List (List Nat)) (b : Nat), (∀ s ∈ l, s.length ≤ b) → (qqf sep l).length ≤ l.length * (sep.length + b) ∧ (joinL sep l).length ≤ l.length * (sep.length + b)
 | [], b, h => by simp [qqf, joinL]
 | s :: r, b, h => by
  obtain ⟨h1, h2⟩ := join_le sep r b fun x hx => h x (List.mem_cons_of_mem _ hx)
  have h3 := h s (by simp)
  simp only [qqf, joinL, List.length_append, List.length_cons, Nat.succ_mul]
  omega
theorem joinX_ld {σ : Store} {d g w : Nat} {l : List (List Nat)} (hd : σ[d]? = some (.cells (qkn l) g w)) (hw : w ≤ g) (hb : ∀ s ∈ l, s.length ≤ 2000) (hl : l.length ≤ 1000) : LD S 155 [.sl d g 0 l.length 1, .t (.str [44])] σ = some (.t (.str (joinL [44] l)), σ) := by
 have h : ∀ args σ, LD S 155 args σ = gExt qty args σ := fun args σ => by
  unfold LD qbj
  rfl
 obtain ⟨ts, z1, z2⟩ := qrj 38 σ l
 have hf := qkg (d := 39) (k := 1) (off := 0) (len := l.length) hd hw (Nat.le_refl _) (by omega) (by simp) (ts := ts) (by rw [List.drop_zero, List.take_of_length_le (by simp)]; exact z1)
 have t1 : ∀ z : T, frz 40 σ (.t z) = some z := fun z => rfl
 have hj := (join_le [44] l 2000 hb).2
 have b1 : Nat.ble l.length 140737488355328 = true := Nat.ble_eq_true_of_le (by omega)
 have b2 : Nat.ble (joinL [44] l).length 140737488355328 = true := Nat.ble_eq_true_of_le (by
  have : l.length * ([44].length + 2000) ≤ 1000 * 2001 := Nat.mul_le_mul hl (by simp)
  omega)
 rw [h]
 simp only [gExt, frzs, hf, t1, qty, strsOf, z2, b1, b2, Bool.and_self]
 rfl
theorem qzq (hD : DecOk) {e : X.Env} (he : EnB e) : ∃ σ', LV S 105 [.t (envT e)] [] = some (.t (.str (envS e)), σ') := by
 refine qbm (A := A105) rfl Tryz.func105 rfl ?_
 refine wR rfl (by simp; rfl) ?_
 refine wR rfl (by simp [qaa, qab, chunk, qao]; rfl) ?_
 refine wR rfl (by simp [envT]; rfl) ?_
 refine wB rfl ?_
 try simp only [tq]
 refine qat (I := fun m st τ => ∃ k g w bx, m = e.length - k ∧ k ≤ e.length ∧ w ≤ g ∧ st.vars = [(0, .t (envT e)), (2, .t (.str [])), (3, .sl 0 g 0 k 1), (8, .t (envT e)), (9, .t (I e.length)), (10, .t (I k))] ∧ τ = .cells (qkn ((e.take k).map itm)) g w :: bx) ?_ e.length _ _ ⟨0, 0, 0, [], rfl, Nat.zero_le _, by omega, by simp [envT], rfl⟩
 rintro m ⟨vars, scr⟩ τ ⟨k, g, w, bx, rfl, hk, hw, hvs, rfl⟩
 simp only at hvs
 subst hvs
 have hke : ((e.take k).map itm).length = k := by simp; omega
 have hle := he.2
 refine wR rfl (by simp [envT]; rfl) ?_
 by_cases c1 : k < e.length
 ·refine wT rfl (by simp [c1]) ?_
  refine wK ?_
  refine wB rfl ?_
  obtain ⟨p, hp⟩ := get_of_lt c1
  obtain ⟨b1, b2, b3⟩ := he.1 p (List.mem_of_getElem? hp)
  have hd := hD p.2.toNat (by omega)
  rw [show ((p.2.toNat : Nat) : Int) = p.2 by omega] at hd
  have hdl := decS_len p.2.toNat
  have hb : (k + 1) * 16 ≤ 140737488355328 := by omega
  have l1 : p.1.length + 1 ≤ 9223372036854775807 := by omega
  have l2 : p.1.length + 1 + (decS p.2.toNat).length ≤ 9223372036854775807 := by omega
  have l3 : p.1.length + ((decS p.2.toNat).length + 1) ≤ 9223372036854775807 := by omega
  refine wR rfl (by simp [envT, hp, rowE, getA, setA, qao, qac]; rfl) ?_
  refine wR rfl (by simp [getA, hd]; rfl) ?_
  refine wR rfl (by simp [getA]; rfl) ?_
  refine wF rfl (by simp [show ¬ p.2 < 0 by omega]) ?_
  refine wK ?_
  refine wR rfl (by simp [getA, l1, l2, l3, qaa, qab, chunk, qao, qac, qap, qaf, qag, hke, hb, hw, Nat.min_eq_left hk]; rfl) ?_
  refine wR rfl (by simp [IntWalk.i64_in ((k : Int) + 1) (by omega)]; rfl) ?_
  try simp only [tq]
  refine ⟨e.length - (k + 1), by omega, k + 1, g + 1, w, bx ++ [.cells [.t (.str p.1), .t (I p.2)] 0 0], rfl, c1, by omega, by simp [envT], ?_⟩
  rw [List.take_add_one, hp, List.map_append, q3g]
  simp [qkn, itm]
 ·refine wF rfl (by simp [c1]) ?_
  repeat apply qaw
  refine qal ?_
  try simp only [tq, if_true]
  have : k = e.length := by omega
  subst this
  have hz : List.take e.length (List.map itm e) = List.map itm e := List.take_of_length_le (by simp)
  rw [List.take_of_length_le (Nat.le_refl _)] at hke
  try simp only [hz, List.take_length]
  have hj := joinX_ld (σ := .cells (qkn (e.map itm)) g w :: bx) (d := 0) (g := g) (w := w) (l := e.map itm) rfl hw (fun s hs => by
   obtain ⟨p, hp, rfl⟩ := List.mem_map.1 hs
   have := he.1 p hp
   have := decS_len p.2.toNat
   simp only [itm, List.length_append, List.length_cons]
   omega) (by simp; omega)
  rw [hke] at hj
  refine wR rfl (by simp [hj]; rfl) ?_
  refine wX ?_
  try simp only [tq]
  simp [Tryz.f105, envS]
theorem envText_ld (hD : DecOk) {e : X.Env} (he : EnB e) (σ : Store) : LD S 105 [.t (envT e)] σ = some (.t (.str (envS e)), σ) := by
 obtain ⟨σ', h⟩ := qzq hD he
 exact qaj (A := A105) (v := .t (.str (envS e))) rfl rfl rfl h rfl σ
end G
