/- A part of the proof. No statement of the claim is in it. -/
import Derived.Test.YtbdadoeankjnkaaGreatDoorL
import Derived.Test.YtbdadoeankjnkaaGreatDoorTrs
import Derived.Test.YtbdadoeankjnkaaGreatDoorVd
import Derived.Test.YtbdadoeankjnkaaGreatDoorM
set_option maxRecDepth 100000
set_option maxHeartbeats 4000000
set_option linter.all false
open Go Go.V Go.Proofs
/- What a right grammar asks, by one closed run of the kernel: chkG; the pairs of l11Split. -/
open Go Go.V Go.Proofs X E
namespace C
/-! ### Values made plain -/
noncomputable def nzN (n : Nat) (k : Nat → O) : O := Nat.rec (k 0) (fun m _ => k (Nat.succ m)) n
theorem q4e (n : Nat) (k : Nat → O) : nzN n k = k n := by cases n <;> rfl
noncomputable def nzI (i : Int) (k : Int → O) : O := Int.rec (fun n => nzN n fun n => k (.ofNat n)) (fun n => nzN n fun n => k (.negSucc n)) i
theorem nzI_eq (i : Int) (k : Int → O) : nzI i k = k i := by
 cases i with
 | ofNat n => exact q4e n fun n => k (.ofNat n)
 | negSucc n => exact q4e n fun n => k (.negSucc n)
noncomputable def nzB (b : Bool) (k : Bool → O) : O := Bool.rec (k false) (k true) b
theorem nzB_eq (b : Bool) (k : Bool → O) : nzB b k = k b := by cases b <;> rfl
noncomputable def nzS : List Nat → (List Nat → O) → O := List.rec (fun k => k []) fun a _ ih k => nzN a fun a => ih fun r => k (a :: r)
theorem qmb : ∀ (s : List Nat) (k : List Nat → O), nzS s k = k s
 | [], k => rfl
 | a :: r, k => (q4e a fun a => nzS r fun r => k (a :: r)).trans (qmb r fun r => k (a :: r))
noncomputable def nzT : T → (T → O) → O := T.rec (motive_1 := fun _ => (T → O) → O) (motive_2 := fun _ => (List T → O) → O) (fun k => k .undef) (fun b k => nzB b fun b => k (.bool b)) (fun j n k => nzI n fun n => k (.int j n)) (fun s k => nzS s fun s => k (.str s)) (fun k => k .nilp) (fun k => k .nils) (fun k => k .nilm) (fun k => k .nilf)
 (fun _ ih k => ih fun l => k (.agg l)) (fun _ ih k => ih fun l => k (.tup l)) (fun _ ih k => ih fun l => k (.list l)) (fun _ ih k => ih fun l => k (.snap l)) (fun k => k []) (fun _ _ i1 i2 k => i1 fun x => i2 fun l => k (x :: l))
noncomputable def nzL : List T → (List T → O) → O := List.rec (fun k => k []) fun x _ ih k => nzT x fun x => ih fun r => k (x :: r)
theorem qte (x : T) : ∀ k, nzT x k = k x :=
 T.rec (motive_1 := fun x => ∀ k, nzT x k = k x) (motive_2 := fun l => ∀ k : List T → O, T.rec_1 (motive_1 := fun _ => (T → O) → O) (motive_2 := fun _ => (List T → O) → O) (fun k => k .undef) (fun b k => nzB b fun b => k (.bool b)) (fun j n k => nzI n fun n => k (.int j n)) (fun s k => nzS s fun s => k (.str s)) (fun k => k .nilp) (fun k => k .nils) (fun k => k .nilm) (fun k => k .nilf)
  (fun _ ih k => ih fun l => k (.agg l)) (fun _ ih k => ih fun l => k (.tup l)) (fun _ ih k => ih fun l => k (.list l)) (fun _ ih k => ih fun l => k (.snap l)) (fun k => k []) (fun _ _ i1 i2 k => i1 fun x => i2 fun l => k (x :: l)) l k = k l)
  (fun k => rfl) (fun b k => nzB_eq b fun b => k (.bool b)) (fun j n k => nzI_eq n fun n => k (.int j n)) (fun s k => qmb s fun s => k (.str s)) (fun k => rfl) (fun k => rfl) (fun k => rfl) (fun k => rfl) (fun _ ih k => ih fun l => k (.agg l)) (fun _ ih k => ih fun l => k (.tup l)) (fun _ ih k => ih fun l => k (.list l)) (fun _ ih k => ih fun l => k (.snap l)) (fun k => rfl) (fun _ l i1 i2 k => (i1 _).trans (i2 fun l => k (_ :: l))) x
theorem nzL_eq : ∀ (l : List T) (k : List T → O), nzL l k = k l
 | [], k => rfl
 | x :: r, k => (qte x fun x => nzL r fun r => k (x :: r)).trans (nzL_eq r fun r => k (x :: r))
noncomputable def nzSs : List (List Nat) → (List (List Nat) → O) → O := List.rec (fun k => k []) fun x _ ih k => nzS x fun x => ih fun r => k (x :: r)
theorem qtw : ∀ (l : List (List Nat)) (k : List (List Nat) → O), nzSs l k = k l
 | [], k => rfl
 | x :: r, k => (qmb x fun x => nzSs r fun r => k (x :: r)).trans (qtw r fun r => k (x :: r))
/-! ### Closed runs -/
noncomputable def run (x : FFn) (ts : List T) (k : T → O) : O := frunC tab 100000 x (ts.map V.t) k
theorem qfk {x : FFn} (hx : Entry ixf S x) {f : FuncId} (hf : x.tag = some f) {A : Ann} (hA : S.ann f = some A) (hp : A.isPure = true) {ts : List T} {k : T → O} {r : T} (h : run x ts k = some r) : ∃ t, (∀ σ, LD S f (ts.map V.t) σ = some (.t t, σ)) ∧ k t = some r := frunC_ld tab_ok hx hf hA hp h
noncomputable def runB (x : FFn) (ts : List T) (y : T) (k : O) : O := run x ts fun a => ifB (beqT a y) k none
theorem qbu {x : FFn} (hx : Entry ixf S x) {f : FuncId} (hf : x.tag = some f) {A : Ann} (hA : S.ann f = some A) (hp : A.isPure = true) {ts : List T} {y : T} {k : O} {r : T} (h : runB x ts y k = some r) : (∀ σ, LD S f (ts.map V.t) σ = some (.t y, σ)) ∧ k = some r := by
 obtain ⟨a, h1, h2⟩ := qfk hx hf hA hp h
 obtain ⟨e, h3⟩ := qad h2
 rw [qqg e] at h1
 exact ⟨h1, h3⟩
/-! ### Tables -/
noncomputable def q2y : List (T × List Bool) → T → Option (List Bool)
 | [], _ => none
 | p :: r, x => match beqT x p.1 with
  | true => some p.2
  | false => q2y r x
theorem qdz {x : T} : ∀ {l : List (T × List Bool)} {ms : List Bool}, q2y l x = some ms → (x, ms) ∈ l
 | [], ms, h => by cases h
 | p :: r, ms, h => by
  simp only [q2y] at h
  split at h
  ·rename_i e
   cases h
   have := qqg e
   subst this
   exact List.mem_cons_self ..
  ·exact List.mem_cons_of_mem _ (qdz h)
def qko {α : Type} : List (List Nat × α) → List Nat → Option α
 | [], _ => none
 | p :: r, x => match eqL x p.1 with
  | true => some p.2
  | false => qko r x
theorem qdx {α : Type} {x : List Nat} : ∀ {l : List (List Nat × α)} {y : α}, qko l x = some y → (x, y) ∈ l
 | [], y, h => by cases h
 | p :: r, y, h => by
  simp only [qko] at h
  split at h
  ·rename_i e
   cases h
   have := qgr e
   subst this
   exact List.mem_cons_self ..
  ·exact List.mem_cons_of_mem _ (qdx h)
def memB : List (List Nat) → List Nat → Bool
 | [], _ => false
 | a :: r, x => match eqL x a with
  | true => true
  | false => memB r x
theorem qkw {x : List Nat} : ∀ {l : List (List Nat)}, memB l x = true → x ∈ l
 | [], h => by cases h
 | a :: r, h => by
  simp only [memB] at h
  split at h
  ·rename_i e
   rw [qgr e]
   exact List.mem_cons_self ..
  ·exact List.mem_cons_of_mem _ (qkw h)
/-! ### Expressions -/
def qsq : List T → Option (List Bool)
 | [] => some []
 | .agg [.bool b] :: r => (qsq r).map (b :: ·)
 | _ => none
def q1s : T → Option (List Bool)
 | .list rows => qsq rows
 | _ => none
theorem qra : ∀ {l : List T} {ms : List Bool}, qsq l = some ms → l = qix ms
 | [], ms, h => by cases h; rfl
 | x :: r, ms, h => by
  unfold qsq at h
  split at h
  ·rename_i e; cases e
  ·rename_i b r' e
   cases e
   cases hr : qsq r with
   | none => rw [hr] at h; cases h
   | some l => rw [hr] at h; cases h; rw [qra hr]; rfl
  ·cases h
theorem q0n {x : T} {ms : List Bool} (h : q1s x = some ms) : x = .list (qix ms) := by
 unfold q1s at h
 split at h
 ·rw [qra h]
 ·cases h
structure ExF (e : T) (ms : List Bool) : Prop where
 okS : ∀ σ, LD S 174 [.t e] σ = some (.t (B true), σ)
 okI : ∀ σ, LD S 153 [.t e] σ = some (.t (B true), σ)
 mkS : ∀ σ, LD S 175 [.t e] σ = some (.t (.list (qix ms)), σ)
 mkI : ∀ σ, LD S 158 [.t e] σ = some (.t (.list (qix ms)), σ)
 ops : G.opsB e = true
noncomputable def exC : List T → (List (T × List Bool) → O) → O := List.rec (fun k => k []) fun e _ ih k => runB x174 [e] (.bool true) (runB x153 [e] (.bool true) (run x175 [e] fun m => nzT m fun m => onO (q1s m) fun ms => runB x158 [e] m (ifB (G.opsB e) (ih fun l => k ((e, ms) :: l)) none)))
theorem qxm : ∀ {l : List T} {k : List (T × List Bool) → O} {r : T}, exC l k = some r → ∃ tb, k tb = some r ∧ ∀ p ∈ tb, ExF p.1 p.2
 | [], k, r, h => ⟨[], h, fun p hp => by cases hp⟩
 | e :: l, k, r, h => by
  obtain ⟨a1, h⟩ := qbu e174 rfl (A := A174) rfl rfl (show runB x174 [e] (.bool true) _ = some r from h)
  obtain ⟨a2, h⟩ := qbu e153 rfl (A := A153) rfl rfl h
  obtain ⟨m, a3, h⟩ := qfk e175 rfl (A := A175) rfl rfl h
  rw [qte] at h
  obtain ⟨ms, e1, h⟩ := qau h
  obtain ⟨a4, h⟩ := qbu e158 rfl (A := A158) rfl rfl h
  obtain ⟨e2, h⟩ := qad h
  obtain ⟨tb, h1, h2⟩ := qxm h
  rw [q0n e1] at a3 a4
  exact ⟨(e, ms) :: tb, h1, fun p hp => by
   rcases List.mem_cons.1 hp with rfl | hp
   ·exact ⟨a1, a2, a3, a4, e2⟩
   ·exact h2 p hp⟩
/-! ### Sets -/
def q3z : T → Option (List Nat)
 | .tup [.str rows, .bool true] => some rows
 | _ => none
def strT : T → Option (List Nat)
 | .str s => some s
 | _ => none
theorem q3a {x : T} {l : List Nat} (h : q3z x = some l) : x = .tup [.str l, B true] := by
 unfold q3z at h
 split at h
 ·cases h; rfl
 ·cases h
theorem strT_eq {x : T} {l : List Nat} (h : strT x = some l) : x = .str l := by
 unfold strT at h
 split at h
 ·cases h; rfl
 ·cases h
def hasN (c : Nat) : List Nat → Bool
 | [] => false
 | a :: r => Nat.beq a c || hasN c r
theorem qtl (c : Nat) : ∀ l : List Nat, hasN c l = l.contains c
 | [] => rfl
 | a :: r => by
  simp only [hasN, List.contains_cons, qtl c r]
  congr 1
  by_cases h : a = c
  ·subst h; simp
  ·rw [Bool.eq_iff_iff]; simp [h, Ne.symm h]
def setB (rows bytes : List Nat) : Nat → Bool
 | 0 => true
 | n + 1 => beqB (hasN n bytes) (setR rows n rows.length 0) && setB rows bytes n
theorem beqB_eq2 {a b : Bool} (h : beqB a b = true) : a = b := by cases a <;> cases b <;> first | rfl | cases h
theorem q3f {rows bytes : List Nat} : ∀ {n : Nat}, setB rows bytes n = true → ∀ b, b < n → bytes.contains b = setR rows b rows.length 0
 | 0, _, b, hb => by omega
 | n + 1, h, b, hb => by
  simp only [setB, Bool.and_eq_true] at h
  by_cases e : b = n
  ·subst e
   rw [← qtl]
   exact beqB_eq2 h.1
  ·exact q3f h.2 b (by omega)
structure StF (s rows : List Nat) : Prop where
 len : rows.length ≤ 1000
 rowS : ∀ σ, LD S 172 [.t (.str s)] σ = some (.t (.tup [.str rows, B true]), σ)
 bytI : ∃ bytes, (∀ σ, LD S 157 [.t (.str s)] σ = some (.t (.str bytes), σ)) ∧ ∀ b, b < 256 → bytes.contains b = setR rows b rows.length 0
noncomputable def stC : List (List Nat) → (List (List Nat × List Nat) → O) → O := List.rec (fun k => k []) fun s _ ih k => run x172 [.str s] fun a => onO (q3z a) fun rows => nzS rows fun rows => run x157 [.str s] fun b => onO (strT b) fun bytes => nzS bytes fun bytes => ifB (Nat.ble rows.length 1000) (ifB (setB rows bytes 256) (ih fun l => k ((s, rows) :: l)) none) none
theorem qwj : ∀ {l : List (List Nat)} {k : List (List Nat × List Nat) → O} {r : T}, stC l k = some r → ∃ tb, k tb = some r ∧ ∀ p ∈ tb, StF p.1 p.2
 | [], k, r, h => ⟨[], h, fun p hp => by cases hp⟩
 | e :: l, k, r, h => by
  obtain ⟨a, a1, h⟩ := qfk e172 rfl (A := A172) rfl rfl (show run x172 [.str e] _ = some r from h)
  obtain ⟨rows, e1, h⟩ := qau h
  rw [qmb] at h
  obtain ⟨b, a2, h⟩ := qfk e157 rfl (A := A157) rfl rfl h
  obtain ⟨bytes, e2, h⟩ := qau h
  rw [qmb] at h
  obtain ⟨e3, h⟩ := qad h
  obtain ⟨e4, h⟩ := qad h
  obtain ⟨tb, h1, h2⟩ := qwj h
  rw [q3a e1] at a1
  rw [strT_eq e2] at a2
  exact ⟨(e, rows) :: tb, h1, fun p hp => by
   rcases List.mem_cons.1 hp with rfl | hp
   ·exact ⟨Nat.le_of_ble_eq_true e3, a1, bytes, a2, q3f e4⟩
   ·exact h2 p hp⟩
/-! ### Names, rules -/
def nmB (s : List Nat) : Bool := Nat.ble s.length 100 && (!hasN 61 s && !hasN 44 s)
structure NmF (s : List Nat) : Prop where
 vnS : ∀ σ, LD S 126 [.t (.str s)] σ = some (.t (B true), σ)
 vnI : ∀ σ, LD S 63 [.t (.str s)] σ = some (.t (B true), σ)
 nb : s.length ≤ 100 ∧ 61 ∉ s ∧ 44 ∉ s
theorem nmB_ok {s : List Nat} (h : nmB s = true) : s.length ≤ 100 ∧ 61 ∉ s ∧ 44 ∉ s := by
 simp only [nmB, Bool.and_eq_true, Bool.not_eq_true', qtl] at h
 exact ⟨Nat.le_of_ble_eq_true h.1, by simpa using h.2.1, by simpa using h.2.2⟩
noncomputable def nmC (k : O) : List (List Nat) → O := List.rec k fun s _ ih => runB x126 [.str s] (.bool true) (runB x63 [.str s] (.bool true) (ifB (nmB s) ih none))
theorem qvd {k : O} {r : T} : ∀ {l : List (List Nat)}, nmC k l = some r → k = some r ∧ ∀ s ∈ l, NmF s
 | [], h => ⟨h, fun p hp => by cases hp⟩
 | e :: l, h => by
  obtain ⟨a1, h⟩ := qbu e126 rfl (A := A126) rfl rfl (show runB x126 [.str e] _ _ = some r from h)
  obtain ⟨a2, h⟩ := qbu e63 rfl (A := A63) rfl rfl h
  obtain ⟨e1, h⟩ := qad h
  obtain ⟨h1, h2⟩ := qvd h
  exact ⟨h1, fun p hp => by
   rcases List.mem_cons.1 hp with rfl | hp
   ·exact ⟨a1, a2, nmB_ok e1⟩
   ·exact h2 p hp⟩
structure RaF (X : T) (s : List Nat) (i : Nat) : Prop where
 raS : ∀ σ, LD S 28 [.t X, .t (.str s)] σ = some (.t (I (i : Nat)), σ)
 raI : ∀ σ, LD S 22 [.t X, .t (.str s)] σ = some (.t (I (i : Nat)), σ)
noncomputable def raC (X : T) (k : O) : List (List Nat × Nat) → O := List.rec k fun p _ ih => runB x28 [X, .str p.1] (.int .i64 (.ofNat p.2)) (runB x22 [X, .str p.1] (.int .i64 (.ofNat p.2)) ih)
theorem qwb {X : T} {k : O} {r : T} : ∀ {l : List (List Nat × Nat)}, raC X k l = some r → k = some r ∧ ∀ p ∈ l, RaF X p.1 p.2
 | [], h => ⟨h, fun p hp => by cases hp⟩
 | e :: l, h => by
  obtain ⟨a1, h⟩ := qbu e28 rfl (A := A28) rfl rfl (show runB x28 [X, .str e.1] _ _ = some r from h)
  obtain ⟨a2, h⟩ := qbu e22 rfl (A := A22) rfl rfl h
  obtain ⟨h1, h2⟩ := qwb h
  exact ⟨h1, fun p hp => by
   rcases List.mem_cons.1 hp with rfl | hp
   ·exact ⟨a1, a2⟩
   ·exact h2 p hp⟩
/-! ### What stands in a grammar -/
def qvs : T → List T
 | .list l => l
 | _ => []
def symsA : T → List T
 | .agg [xs] => qvs xs
 | _ => []
def symsR : T → List T
 | .agg [_, _, az] => (qvs az).flatMap symsA
 | _ => []
def exprsY : T → List T
 | .agg [_, _, ax, _] => qvs ax
 | _ => []
def setsY : T → List (List Nat)
 | .agg [.int .i64 (.ofNat 2), .str s, _, _] => [s]
 | _ => []
def strA : T → List (List Nat)
 | .agg [.str s] => [s]
 | _ => []
def parsR : T → List (List Nat)
 | .agg [_, ps, _] => (qvs ps).flatMap strA
 | _ => []
def bindY : T → List (List Nat)
 | .agg [_, _, _, .str []] => []
 | .agg [_, _, _, .str s] => [s]
 | _ => []
def qnr : List T → Nat → List (List Nat × Nat)
 | .agg [.str n, _, _] :: r, i => (n, i) :: qnr r (i + 1)
 | _, _ => []
def firstB (ra : List (List Nat × Nat)) (n0 : List Nat) : Bool := match qko ra n0 with
 | some 0 => true
 | _ => false
def noneB (x : T) : Bool := match x with
 | .nils => true
 | .list [] => true
 | _ => false
theorem noneB_eq {x : T} (h : noneB x = true) : qce x = some [] := by
 unfold noneB at h
 split at h
 ·rfl
 ·rfl
 ·cases h
noncomputable def factsB (mk : List (T × List Bool)) (sr : List (List Nat × List Nat)) (vn : List (List Nat)) (ra : List (List Nat × Nat)) (n0 : List Nat) (ps0 : T) (rules : List T) : Bool :=
 grOk (qko sr) (q2y mk) (memB vn) (qko ra) rules && (arOk (qko ra) rules && (qtm rules && (E.gramC rules && (Nat.ble rules.length 1000 && (firstB ra n0 && noneB ps0)))))
noncomputable def chkR (n0 : List Nat) (ps0 : T) (rules : List T) (k : O) : O :=
 runB x29 [.agg [.list rules]] (.bool true) (runB x23 [.agg [.list rules]] (.bool true) (nzL ((rules.flatMap symsR).flatMap exprsY) fun es => nzSs ((rules.flatMap symsR).flatMap setsY) fun ss => nzSs (rules.flatMap parsR ++ (rules.flatMap symsR).flatMap bindY) fun vn =>
  exC es fun mk => stC ss fun sr => nmC (raC (.agg [.list rules]) (ifB (factsB mk sr vn (qnr rules 0) n0 ps0 rules) k none) (qnr rules 0)) vn))
noncomputable def chkG (X : T) (k : O) : O := match X with
 | .agg [.list (.agg [.str n0, ps0, az0] :: gr)] => chkR n0 ps0 (.agg [.str n0, ps0, az0] :: gr) k
 | _ => none
end C
open Go Go.V Go.Proofs X E
namespace C
/-! ### What holds of every grammar -/
noncomputable def decC : Nat → O := Nat.rec (some (.bool true)) fun n ih => runB x104 [.int .i64 (.ofNat n)] (.str (G.decS n)) ih
theorem qsw : ∀ {n : Nat}, decC n = some (.bool true) → ∀ i, i < n → ∀ σ, LD S 104 [.t (I i)] σ = some (.t (.str (G.decS i)), σ)
 | 0, h, i, hi => by omega
 | n + 1, h, i, hi => by
  obtain ⟨a1, h⟩ := qbu e104 rfl (A := A104) rfl rfl (show runB x104 [.int .i64 (.ofNat n)] _ _ = some _ from h)
  by_cases e : i = n
  ·subst e; exact a1
  ·exact qsw h i (by omega)
theorem dec_run : decC 100 = some (.bool true) := by kernel_rfl
theorem dec_ok : G.DecOk := fun n hn => qsw dec_run n (by omega)
def intK : T → Option Int
 | .int .i64 n => some n
 | _ => none
theorem chkR_ok {n0 : List Nat} {ps0 az0 : T} {gr : List T} {k : O} {r : T} (h : chkR n0 ps0 (.agg [.str n0, ps0, az0] :: gr) k = some r) : k = some r ∧ ∃ SR MK VN, GramOk SR MK VN (qko (qnr (.agg [.str n0, ps0, az0] :: gr) 0)) n0 ps0 az0 gr ∧ GramI SR MK VN (qko (qnr (.agg [.str n0, ps0, az0] :: gr) 0)) (.agg [.str n0, ps0, az0] :: gr) := by
 unfold chkR at h
 generalize hR : T.agg [.str n0, ps0, az0] :: gr = rules at *
 obtain ⟨a1, h⟩ := qbu e29 rfl (A := A29) rfl rfl h
 obtain ⟨a2, h⟩ := qbu e23 rfl (A := A23) rfl rfl h
 rw [nzL_eq, qtw, qtw] at h
 obtain ⟨mk, h, b1⟩ := qxm h
 obtain ⟨sr, h, b2⟩ := qwj h
 obtain ⟨h, b3⟩ := qvd h
 obtain ⟨h, b4⟩ := qwb h
 obtain ⟨e1, h⟩ := qad h
 simp only [factsB, Bool.and_eq_true] at e1
 obtain ⟨f1, f2, f3, f4, f5, f6, f7⟩ := e1
 refine ⟨h, qko sr, q2y mk, memB (rules.flatMap parsR ++ (rules.flatMap symsR).flatMap bindY), ?_, ?_⟩
 ·subst hR
  exact { sets := fun s rows hs => ⟨(b2 _ (qdx hs)).len, (b2 _ (qdx hs)).rowS⟩
          marks := ⟨fun x ms hs => (b1 _ (qdz hs)).okS, fun x ms hs => (b1 _ (qdz hs)).mkS⟩
          names := fun s hs => (b3 _ (qkw hs)).vnS
          rules := fun nm i hs => (b4 _ (qdx hs)).raS
          gok := a1
          right := f1
          ar := f2
          few := Nat.le_of_ble_eq_true f5
          first := by
           unfold firstB at f6
           split at f6
           ·assumption
           ·cases f6
          none_ := noneB_eq f7 }
 ·exact ⟨⟨fun s rows hs => (b2 _ (qdx hs)).bytI, ⟨fun x ms hs => (b1 _ (qdz hs)).okI, fun x ms hs => (b1 _ (qdz hs)).mkI, fun x ms hs => (b1 _ (qdz hs)).ops⟩, fun s hs => (b3 _ (qkw hs)).vnI, fun s hs => (b3 _ (qkw hs)).nb, fun nm i hs => (b4 _ (qdx hs)).raI, dec_ok⟩, f3, f4, a2⟩
/-! ### The pairs -/
def pairT : T → Option (List Nat × List Nat)
 | .tup [.str s, .str le] => some (s, le)
 | _ => none
def twoT : T → Option (T × T × T)
 | .tup [.agg [a, b], e] => some (a, b, e)
 | _ => none
def oneT : T → Option (T × T)
 | .tup [a, e] => some (a, e)
 | _ => none
theorem pairT_eq {x : T} {p : List Nat × List Nat} (h : pairT x = some p) : x = .tup [.str p.1, .str p.2] := by
 unfold pairT at h
 split at h
 ·cases h; rfl
 ·cases h
theorem twoT_eq {x : T} {p : T × T × T} (h : twoT x = some p) : x = .tup [.agg [p.1, p.2.1], p.2.2] := by
 unfold twoT at h
 split at h
 ·cases h; rfl
 ·cases h
theorem oneT_eq {x : T} {p : T × T} (h : oneT x = some p) : x = .tup [p.1, p.2] := by
 unfold oneT at h
 split at h
 ·cases h; rfl
 ·cases h
def leB (le : List Nat) : Bool := Nat.ble 1 le.length && (Nat.ble le.length 256 && bsB le)
/-- the pair of a number; what is made of its grammar is handed on -/
noncomputable def pairC (i : Nat) (k : T → O) : O := run x55 [.int .i64 (.ofNat i)] fun a => onO (pairT a) fun p => nzS p.1 fun s => nzS p.2 fun le => run x56 [.str s] fun b => onO (twoT b) fun q => nzT q.1 fun sa => nzT q.2.1 fun sb => run x57 [.agg [sa, sb]] fun c => onO (oneT c) fun g => nzT g.1 fun X => ifB (leB le) (k X) none
theorem qyr {i : Nat} {k : T → O} {r : T} (h : pairC i k = some r) (hk : ∀ X r, k X = some r → QS X) : ∃ s le sa sb e1 X e2, PairOk i s le sa sb e1 X e2 ∧ k X = some r := by
 obtain ⟨a, a1, h⟩ := qfk e55 rfl (A := A55) rfl rfl h
 obtain ⟨p, p1, h⟩ := qau h
 rw [qmb, qmb] at h
 obtain ⟨b, a2, h⟩ := qfk e56 rfl (A := A56) rfl rfl h
 obtain ⟨q, p2, h⟩ := qau h
 rw [qte, qte] at h
 obtain ⟨c, a3, h⟩ := qfk e57 rfl (A := A57) rfl rfl h
 obtain ⟨g, p3, h⟩ := qau h
 rw [qte] at h
 obtain ⟨e1, h⟩ := qad h
 simp only [leB, Bool.and_eq_true] at e1
 rw [pairT_eq p1] at a1
 rw [twoT_eq p2] at a2
 rw [oneT_eq p3] at a3
 obtain ⟨SR, MK, VN, RA, n0, ps0, az0, gr, hX, hg, -⟩ := hk _ _ h
 exact ⟨p.1, p.2, q.1, q.2.1, q.2.2, g.1, g.2, ⟨a1, a2, a3, ⟨SR, MK, VN, RA, n0, ps0, az0, gr, hX, hg⟩, Nat.le_of_ble_eq_true e1.1, Nat.le_of_ble_eq_true e1.2.1, e1.2.2⟩, h⟩
noncomputable def spanC (i : Nat) : O := pairC i fun X => chkG X (some (.bool true))
end C
open Go Go.V Go.Proofs X E
namespace C
/-! ### Names of rules; what is none -/
def namB (ra : List (List Nat × Nat)) : List T → Nat → Bool
 | [], _ => true
 | .agg [.str n, _, _] :: r, i => (match qko ra n with
  | some j => Nat.beq j i
  | none => false) && namB ra r (i + 1)
 | _, _ => false
theorem q4i {ra : List (List Nat × Nat)} : ∀ {l : List T} {k : Nat}, namB ra l k = true → ∀ i nm ps az, l[i]? = some (.agg [.str nm, ps, az]) → qko ra nm = some (k + i)
 | [], k, h, i, nm, ps, az, hi => by simp at hi
 | x :: l, k, h, i, nm, ps, az, hi => by
  unfold namB at h
  split at h
  ·rename_i e; cases e
  ·rename_i n p q r j e
   cases e
   simp only [Bool.and_eq_true] at h
   cases i with
   | zero =>
    simp only [List.getElem?_cons_zero, Option.some.injEq, T.agg.injEq, List.cons.injEq, T.str.injEq] at hi
    obtain ⟨rfl, _⟩ := hi
    have h1 := h.1
    split at h1
    ·rename_i j hj
     rw [hj, Nat.eq_of_beq_eq_true h1]
     rfl
    ·cases h1
   | succ i =>
    simp only [List.getElem?_cons_succ] at hi
    rw [q4i h.2 i nm ps az hi]
    congr 1
    omega
  ·cases h
noncomputable def chkN (X : T) (k : O) : O := match X with
 | .agg [.list (.agg [.str n0, ps0, az0] :: gr)] => chkR n0 ps0 (.agg [.str n0, ps0, az0] :: gr) (ifB (namB (qnr (.agg [.str n0, ps0, az0] :: gr) 0) (.agg [.str n0, ps0, az0] :: gr) 0) (runB x28 [X, .str qnn] (.int .i64 (.negSucc 0)) (runB x22 [X, .str qnn] (.int .i64 (.negSucc 0)) k)) none)
 | _ => none
theorem q2t {X : T} {k : O} {r : T} (h : chkN X k = some r) : k = some r ∧ QR X := by
 unfold chkN at h
 split at h
 rotate_left
 ·cases h
 obtain ⟨h, SR, MK, VN, h2, h3⟩ := chkR_ok h
 obtain ⟨e1, h⟩ := qad h
 obtain ⟨a1, h⟩ := qbu e28 rfl (A := A28) rfl rfl h
 obtain ⟨a2, h⟩ := qbu e22 rfl (A := A22) rfl rfl h
 refine ⟨h, SR, MK, VN, _, _, _, _, _, rfl, h2, h3, fun i nm ps az hi => ?_, a1, a2⟩
 rw [q4i e1 i nm ps az hi, Nat.zero_add]
noncomputable def runC (i : Nat) : O := pairC i fun X => chkN X (some (.bool true))
theorem qet {i : Nat} (h : runC i = some (.bool true)) : ∃ s le sa sb e1 X e2, PairOk i s le sa sb e1 X e2 ∧ QR X := by
 obtain ⟨s, le, sa, sb, e1, X, e2, h1, h2⟩ := qyr h (fun X r h => by
  obtain ⟨_, SR, MK, VN, RA, n0, ps0, az0, gr, e, h2, h3, _⟩ := q2t h
  exact ⟨SR, MK, VN, RA, n0, ps0, az0, gr, e, h2, h3⟩)
 exact ⟨s, le, sa, sb, e1, X, e2, h1, (q2t h2).2⟩
noncomputable def lngC : Nat → O := Nat.rec (some (.bool true)) fun n ih => runB x35 [.int .i64 (.ofNat n), .int .u8 (.ofNat 97)] (.str (List.replicate n 97)) ih
theorem lngC_some : ∀ {n : Nat}, lngC n = some (.bool true) → ∀ i : Nat, i < n → ∀ σ, LD S 35 [.t (I i), .t (.int .u8 97)] σ = some (.t (.str (List.replicate i 97)), σ)
 | 0, h, i, hi => by omega
 | n + 1, h, i, hi => by
  obtain ⟨a1, h⟩ := qbu e35 rfl (A := A35) rfl rfl (show runB x35 [.int .i64 (.ofNat n), .int .u8 (.ofNat 97)] _ _ = some _ from h)
  by_cases e : i = n
  ·subst e; exact a1
  ·exact lngC_some h i (by omega)
end C
