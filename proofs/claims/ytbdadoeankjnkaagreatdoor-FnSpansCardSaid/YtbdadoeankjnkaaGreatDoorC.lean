/- A part of the proof. No statement of the claim is in it. -/
import Derived.Test.YtbdadoeankjnkaaGreatDoorL
import Derived.Test.YtbdadoeankjnkaaGreatDoorTrs
import Derived.Test.YtbdadoeankjnkaaGreatDoorVd
set_option maxRecDepth 100000
set_option maxHeartbeats 4000000
set_option linter.all false
open Go Go.V Go.Proofs
/- What a right grammar asks, by one closed run of the kernel: chkG; the pairs of l11Split. -/
open Go Go.V Go.Proofs X E
namespace C
/-! ### Values made plain -/
noncomputable def nzN (n : Nat) (k : Nat → O) : O := Nat.rec (k 0) (fun m _ => k (Nat.succ m)) n
theorem nzN_eq (n : Nat) (k : Nat → O) : nzN n k = k n := by cases n <;> rfl
noncomputable def nzI (i : Int) (k : Int → O) : O := Int.rec (fun n => nzN n fun n => k (.ofNat n)) (fun n => nzN n fun n => k (.negSucc n)) i
theorem nzI_eq (i : Int) (k : Int → O) : nzI i k = k i := by
 cases i with
 | ofNat n => exact nzN_eq n fun n => k (.ofNat n)
 | negSucc n => exact nzN_eq n fun n => k (.negSucc n)
noncomputable def nzB (b : Bool) (k : Bool → O) : O := Bool.rec (k false) (k true) b
theorem nzB_eq (b : Bool) (k : Bool → O) : nzB b k = k b := by cases b <;> rfl
noncomputable def nzS : List Nat → (List Nat → O) → O := List.rec (fun k => k []) fun a _ ih k => nzN a fun a => ih fun r => k (a :: r)
theorem nzS_eq : ∀ (s : List Nat) (k : List Nat → O), nzS s k = k s
 | [], k => rfl
 | a :: r, k => (nzN_eq a fun a => nzS r fun r => k (a :: r)).trans (nzS_eq r fun r => k (a :: r))
noncomputable def nzT : T → (T → O) → O := T.rec (motive_1 := fun _ => (T → O) → O) (motive_2 := fun _ => (List T → O) → O) (fun k => k .undef) (fun b k => nzB b fun b => k (.bool b)) (fun j n k => nzI n fun n => k (.int j n)) (fun s k => nzS s fun s => k (.str s)) (fun k => k .nilp) (fun k => k .nils) (fun k => k .nilm) (fun k => k .nilf)
 (fun _ ih k => ih fun l => k (.agg l)) (fun _ ih k => ih fun l => k (.tup l)) (fun _ ih k => ih fun l => k (.list l)) (fun _ ih k => ih fun l => k (.snap l)) (fun k => k []) (fun _ _ i1 i2 k => i1 fun x => i2 fun l => k (x :: l))
noncomputable def nzL : List T → (List T → O) → O := List.rec (fun k => k []) fun x _ ih k => nzT x fun x => ih fun r => k (x :: r)
theorem nzT_eq (x : T) : ∀ k, nzT x k = k x :=
 T.rec (motive_1 := fun x => ∀ k, nzT x k = k x) (motive_2 := fun l => ∀ k : List T → O, T.rec_1 (motive_1 := fun _ => (T → O) → O) (motive_2 := fun _ => (List T → O) → O) (fun k => k .undef) (fun b k => nzB b fun b => k (.bool b)) (fun j n k => nzI n fun n => k (.int j n)) (fun s k => nzS s fun s => k (.str s)) (fun k => k .nilp) (fun k => k .nils) (fun k => k .nilm) (fun k => k .nilf)
  (fun _ ih k => ih fun l => k (.agg l)) (fun _ ih k => ih fun l => k (.tup l)) (fun _ ih k => ih fun l => k (.list l)) (fun _ ih k => ih fun l => k (.snap l)) (fun k => k []) (fun _ _ i1 i2 k => i1 fun x => i2 fun l => k (x :: l)) l k = k l)
  (fun k => rfl) (fun b k => nzB_eq b fun b => k (.bool b)) (fun j n k => nzI_eq n fun n => k (.int j n)) (fun s k => nzS_eq s fun s => k (.str s)) (fun k => rfl) (fun k => rfl) (fun k => rfl) (fun k => rfl) (fun _ ih k => ih fun l => k (.agg l)) (fun _ ih k => ih fun l => k (.tup l)) (fun _ ih k => ih fun l => k (.list l)) (fun _ ih k => ih fun l => k (.snap l)) (fun k => rfl) (fun _ l i1 i2 k => (i1 _).trans (i2 fun l => k (_ :: l))) x
theorem nzL_eq : ∀ (l : List T) (k : List T → O), nzL l k = k l
 | [], k => rfl
 | x :: r, k => (nzT_eq x fun x => nzL r fun r => k (x :: r)).trans (nzL_eq r fun r => k (x :: r))
noncomputable def nzSs : List (List Nat) → (List (List Nat) → O) → O := List.rec (fun k => k []) fun x _ ih k => nzS x fun x => ih fun r => k (x :: r)
theorem nzSs_eq : ∀ (l : List (List Nat)) (k : List (List Nat) → O), nzSs l k = k l
 | [], k => rfl
 | x :: r, k => (nzS_eq x fun x => nzSs r fun r => k (x :: r)).trans (nzSs_eq r fun r => k (x :: r))
/-! ### Closed runs -/
noncomputable def run (x : FFn) (ts : List T) (k : T → O) : O := frunC tab 100000 x (ts.map V.t) k
theorem run_some {x : FFn} (hx : Entry ixf S x) {f : FuncId} (hf : x.tag = some f) {A : Ann} (hA : S.ann f = some A) (hp : A.isPure = true) {ts : List T} {k : T → O} {r : T} (h : run x ts k = some r) : ∃ t, (∀ σ, LD S f (ts.map V.t) σ = some (.t t, σ)) ∧ k t = some r := frunC_ld tab_ok hx hf hA hp h
noncomputable def runB (x : FFn) (ts : List T) (y : T) (k : O) : O := run x ts fun a => ifB (beqT a y) k none
theorem runB_some {x : FFn} (hx : Entry ixf S x) {f : FuncId} (hf : x.tag = some f) {A : Ann} (hA : S.ann f = some A) (hp : A.isPure = true) {ts : List T} {y : T} {k : O} {r : T} (h : runB x ts y k = some r) : (∀ σ, LD S f (ts.map V.t) σ = some (.t y, σ)) ∧ k = some r := by
 obtain ⟨a, h1, h2⟩ := run_some hx hf hA hp h
 obtain ⟨e, h3⟩ := ifB_some h2
 rw [beqT_eq e] at h1
 exact ⟨h1, h3⟩
/-! ### Tables -/
noncomputable def lookM : List (T × List Bool) → T → Option (List Bool)
 | [], _ => none
 | p :: r, x => match beqT x p.1 with
  | true => some p.2
  | false => lookM r x
theorem lookM_some {x : T} : ∀ {l : List (T × List Bool)} {ms : List Bool}, lookM l x = some ms → (x, ms) ∈ l
 | [], ms, h => by cases h
 | p :: r, ms, h => by
  simp only [lookM] at h
  split at h
  ·rename_i e
   cases h
   have := beqT_eq e
   subst this
   exact List.mem_cons_self ..
  ·exact List.mem_cons_of_mem _ (lookM_some h)
def lookL {α : Type} : List (List Nat × α) → List Nat → Option α
 | [], _ => none
 | p :: r, x => match eqL x p.1 with
  | true => some p.2
  | false => lookL r x
theorem lookL_some {α : Type} {x : List Nat} : ∀ {l : List (List Nat × α)} {y : α}, lookL l x = some y → (x, y) ∈ l
 | [], y, h => by cases h
 | p :: r, y, h => by
  simp only [lookL] at h
  split at h
  ·rename_i e
   cases h
   have := eqL_same e
   subst this
   exact List.mem_cons_self ..
  ·exact List.mem_cons_of_mem _ (lookL_some h)
def memB : List (List Nat) → List Nat → Bool
 | [], _ => false
 | a :: r, x => match eqL x a with
  | true => true
  | false => memB r x
theorem memB_mem {x : List Nat} : ∀ {l : List (List Nat)}, memB l x = true → x ∈ l
 | [], h => by cases h
 | a :: r, h => by
  simp only [memB] at h
  split at h
  ·rename_i e
   rw [eqL_same e]
   exact List.mem_cons_self ..
  ·exact List.mem_cons_of_mem _ (memB_mem h)
/-! ### Expressions -/
def boolsG : List T → Option (List Bool)
 | [] => some []
 | .agg [.bool b] :: r => (boolsG r).map (b :: ·)
 | _ => none
def boolsT : T → Option (List Bool)
 | .list rows => boolsG rows
 | _ => none
theorem boolsG_eq : ∀ {l : List T} {ms : List Bool}, boolsG l = some ms → l = rowsB ms
 | [], ms, h => by cases h; rfl
 | x :: r, ms, h => by
  unfold boolsG at h
  split at h
  ·rename_i e; cases e
  ·rename_i b r' e
   cases e
   cases hr : boolsG r with
   | none => rw [hr] at h; cases h
   | some l => rw [hr] at h; cases h; rw [boolsG_eq hr]; rfl
  ·cases h
theorem boolsT_eq {x : T} {ms : List Bool} (h : boolsT x = some ms) : x = .list (rowsB ms) := by
 unfold boolsT at h
 split at h
 ·rw [boolsG_eq h]
 ·cases h
structure ExF (e : T) (ms : List Bool) : Prop where
 okS : ∀ σ, LD S 174 [.t e] σ = some (.t (B true), σ)
 okI : ∀ σ, LD S 153 [.t e] σ = some (.t (B true), σ)
 mkS : ∀ σ, LD S 175 [.t e] σ = some (.t (.list (rowsB ms)), σ)
 mkI : ∀ σ, LD S 158 [.t e] σ = some (.t (.list (rowsB ms)), σ)
 ops : G.opsB e = true
noncomputable def exC : List T → (List (T × List Bool) → O) → O := List.rec (fun k => k []) fun e _ ih k => runB x174 [e] (.bool true) (runB x153 [e] (.bool true) (run x175 [e] fun m => nzT m fun m => onO (boolsT m) fun ms => runB x158 [e] m (ifB (G.opsB e) (ih fun l => k ((e, ms) :: l)) none)))
theorem exC_some : ∀ {l : List T} {k : List (T × List Bool) → O} {r : T}, exC l k = some r → ∃ tb, k tb = some r ∧ ∀ p ∈ tb, ExF p.1 p.2
 | [], k, r, h => ⟨[], h, fun p hp => by cases hp⟩
 | e :: l, k, r, h => by
  obtain ⟨a1, h⟩ := runB_some e174 rfl (A := A174) rfl rfl (show runB x174 [e] (.bool true) _ = some r from h)
  obtain ⟨a2, h⟩ := runB_some e153 rfl (A := A153) rfl rfl h
  obtain ⟨m, a3, h⟩ := run_some e175 rfl (A := A175) rfl rfl h
  rw [nzT_eq] at h
  obtain ⟨ms, e1, h⟩ := onO_some h
  obtain ⟨a4, h⟩ := runB_some e158 rfl (A := A158) rfl rfl h
  obtain ⟨e2, h⟩ := ifB_some h
  obtain ⟨tb, h1, h2⟩ := exC_some h
  rw [boolsT_eq e1] at a3 a4
  exact ⟨(e, ms) :: tb, h1, fun p hp => by
   rcases List.mem_cons.1 hp with rfl | hp
   ·exact ⟨a1, a2, a3, a4, e2⟩
   ·exact h2 p hp⟩
/-! ### Sets -/
def rowsT2 : T → Option (List Nat)
 | .tup [.str rows, .bool true] => some rows
 | _ => none
def strT : T → Option (List Nat)
 | .str s => some s
 | _ => none
theorem rowsT2_eq {x : T} {l : List Nat} (h : rowsT2 x = some l) : x = .tup [.str l, B true] := by
 unfold rowsT2 at h
 split at h
 ·cases h; rfl
 ·cases h
theorem strT_eq {x : T} {l : List Nat} (h : strT x = some l) : x = .str l := by
 unfold strT at h
 split at h
 ·cases h; rfl
 ·cases h
def hasN (c : Nat) : List Nat → Bool
 | [] => false
 | a :: r => Nat.beq a c || hasN c r
theorem hasN_eq (c : Nat) : ∀ l : List Nat, hasN c l = l.contains c
 | [] => rfl
 | a :: r => by
  simp only [hasN, List.contains_cons, hasN_eq c r]
  congr 1
  by_cases h : a = c
  ·subst h; simp
  ·rw [Bool.eq_iff_iff]; simp [h, Ne.symm h]
def setB (rows bytes : List Nat) : Nat → Bool
 | 0 => true
 | n + 1 => beqB (hasN n bytes) (setR rows n rows.length 0) && setB rows bytes n
theorem beqB_eq2 {a b : Bool} (h : beqB a b = true) : a = b := by cases a <;> cases b <;> first | rfl | cases h
theorem setB_ok {rows bytes : List Nat} : ∀ {n : Nat}, setB rows bytes n = true → ∀ b, b < n → bytes.contains b = setR rows b rows.length 0
 | 0, _, b, hb => by omega
 | n + 1, h, b, hb => by
  simp only [setB, Bool.and_eq_true] at h
  by_cases e : b = n
  ·subst e
   rw [← hasN_eq]
   exact beqB_eq2 h.1
  ·exact setB_ok h.2 b (by omega)
structure StF (s rows : List Nat) : Prop where
 len : rows.length ≤ 1000
 rowS : ∀ σ, LD S 172 [.t (.str s)] σ = some (.t (.tup [.str rows, B true]), σ)
 bytI : ∃ bytes, (∀ σ, LD S 157 [.t (.str s)] σ = some (.t (.str bytes), σ)) ∧ ∀ b, b < 256 → bytes.contains b = setR rows b rows.length 0
noncomputable def stC : List (List Nat) → (List (List Nat × List Nat) → O) → O := List.rec (fun k => k []) fun s _ ih k => run x172 [.str s] fun a => onO (rowsT2 a) fun rows => nzS rows fun rows => run x157 [.str s] fun b => onO (strT b) fun bytes => nzS bytes fun bytes => ifB (Nat.ble rows.length 1000) (ifB (setB rows bytes 256) (ih fun l => k ((s, rows) :: l)) none) none
theorem stC_some : ∀ {l : List (List Nat)} {k : List (List Nat × List Nat) → O} {r : T}, stC l k = some r → ∃ tb, k tb = some r ∧ ∀ p ∈ tb, StF p.1 p.2
 | [], k, r, h => ⟨[], h, fun p hp => by cases hp⟩
 | e :: l, k, r, h => by
  obtain ⟨a, a1, h⟩ := run_some e172 rfl (A := A172) rfl rfl (show run x172 [.str e] _ = some r from h)
  obtain ⟨rows, e1, h⟩ := onO_some h
  rw [nzS_eq] at h
  obtain ⟨b, a2, h⟩ := run_some e157 rfl (A := A157) rfl rfl h
  obtain ⟨bytes, e2, h⟩ := onO_some h
  rw [nzS_eq] at h
  obtain ⟨e3, h⟩ := ifB_some h
  obtain ⟨e4, h⟩ := ifB_some h
  obtain ⟨tb, h1, h2⟩ := stC_some h
  rw [rowsT2_eq e1] at a1
  rw [strT_eq e2] at a2
  exact ⟨(e, rows) :: tb, h1, fun p hp => by
   rcases List.mem_cons.1 hp with rfl | hp
   ·exact ⟨Nat.le_of_ble_eq_true e3, a1, bytes, a2, setB_ok e4⟩
   ·exact h2 p hp⟩
/-! ### Names, rules -/
def nmB (s : List Nat) : Bool := Nat.ble s.length 100 && (!hasN 61 s && !hasN 44 s)
structure NmF (s : List Nat) : Prop where
 vnS : ∀ σ, LD S 126 [.t (.str s)] σ = some (.t (B true), σ)
 vnI : ∀ σ, LD S 63 [.t (.str s)] σ = some (.t (B true), σ)
 nb : s.length ≤ 100 ∧ 61 ∉ s ∧ 44 ∉ s
theorem nmB_ok {s : List Nat} (h : nmB s = true) : s.length ≤ 100 ∧ 61 ∉ s ∧ 44 ∉ s := by
 simp only [nmB, Bool.and_eq_true, Bool.not_eq_true', hasN_eq] at h
 exact ⟨Nat.le_of_ble_eq_true h.1, by simpa using h.2.1, by simpa using h.2.2⟩
noncomputable def nmC (k : O) : List (List Nat) → O := List.rec k fun s _ ih => runB x126 [.str s] (.bool true) (runB x63 [.str s] (.bool true) (ifB (nmB s) ih none))
theorem nmC_some {k : O} {r : T} : ∀ {l : List (List Nat)}, nmC k l = some r → k = some r ∧ ∀ s ∈ l, NmF s
 | [], h => ⟨h, fun p hp => by cases hp⟩
 | e :: l, h => by
  obtain ⟨a1, h⟩ := runB_some e126 rfl (A := A126) rfl rfl (show runB x126 [.str e] _ _ = some r from h)
  obtain ⟨a2, h⟩ := runB_some e63 rfl (A := A63) rfl rfl h
  obtain ⟨e1, h⟩ := ifB_some h
  obtain ⟨h1, h2⟩ := nmC_some h
  exact ⟨h1, fun p hp => by
   rcases List.mem_cons.1 hp with rfl | hp
   ·exact ⟨a1, a2, nmB_ok e1⟩
   ·exact h2 p hp⟩
structure RaF (X : T) (s : List Nat) (i : Nat) : Prop where
 raS : ∀ σ, LD S 28 [.t X, .t (.str s)] σ = some (.t (I (i : Nat)), σ)
 raI : ∀ σ, LD S 22 [.t X, .t (.str s)] σ = some (.t (I (i : Nat)), σ)
noncomputable def raC (X : T) (k : O) : List (List Nat × Nat) → O := List.rec k fun p _ ih => runB x28 [X, .str p.1] (.int .i64 (.ofNat p.2)) (runB x22 [X, .str p.1] (.int .i64 (.ofNat p.2)) ih)
theorem raC_some {X : T} {k : O} {r : T} : ∀ {l : List (List Nat × Nat)}, raC X k l = some r → k = some r ∧ ∀ p ∈ l, RaF X p.1 p.2
 | [], h => ⟨h, fun p hp => by cases hp⟩
 | e :: l, h => by
  obtain ⟨a1, h⟩ := runB_some e28 rfl (A := A28) rfl rfl (show runB x28 [X, .str e.1] _ _ = some r from h)
  obtain ⟨a2, h⟩ := runB_some e22 rfl (A := A22) rfl rfl h
  obtain ⟨h1, h2⟩ := raC_some h
  exact ⟨h1, fun p hp => by
   rcases List.mem_cons.1 hp with rfl | hp
   ·exact ⟨a1, a2⟩
   ·exact h2 p hp⟩
/-! ### What stands in a grammar -/
def itemsT : T → List T
 | .list l => l
 | _ => []
def symsA : T → List T
 | .agg [xs] => itemsT xs
 | _ => []
def symsR : T → List T
 | .agg [_, _, az] => (itemsT az).flatMap symsA
 | _ => []
def exprsY : T → List T
 | .agg [_, _, ax, _] => itemsT ax
 | _ => []
def setsY : T → List (List Nat)
 | .agg [.int .i64 (.ofNat 2), .str s, _, _] => [s]
 | _ => []
def strA : T → List (List Nat)
 | .agg [.str s] => [s]
 | _ => []
def parsR : T → List (List Nat)
 | .agg [_, ps, _] => (itemsT ps).flatMap strA
 | _ => []
def bindY : T → List (List Nat)
 | .agg [_, _, _, .str []] => []
 | .agg [_, _, _, .str s] => [s]
 | _ => []
def namesR : List T → Nat → List (List Nat × Nat)
 | .agg [.str n, _, _] :: r, i => (n, i) :: namesR r (i + 1)
 | _, _ => []
def firstB (ra : List (List Nat × Nat)) (n0 : List Nat) : Bool := match lookL ra n0 with
 | some 0 => true
 | _ => false
def noneB (x : T) : Bool := match x with
 | .nils => true
 | .list [] => true
 | _ => false
theorem noneB_eq {x : T} (h : noneB x = true) : symsL x = some [] := by
 unfold noneB at h
 split at h
 ·rfl
 ·rfl
 ·cases h
noncomputable def factsB (mk : List (T × List Bool)) (sr : List (List Nat × List Nat)) (vn : List (List Nat)) (ra : List (List Nat × Nat)) (n0 : List Nat) (ps0 : T) (rules : List T) : Bool :=
 grOk (lookL sr) (lookM mk) (memB vn) (lookL ra) rules && (arOk (lookL ra) rules && (gramB rules && (E.gramC rules && (Nat.ble rules.length 1000 && (firstB ra n0 && noneB ps0)))))
noncomputable def chkR (n0 : List Nat) (ps0 : T) (rules : List T) (k : O) : O :=
 runB x29 [.agg [.list rules]] (.bool true) (runB x23 [.agg [.list rules]] (.bool true) (nzL ((rules.flatMap symsR).flatMap exprsY) fun es => nzSs ((rules.flatMap symsR).flatMap setsY) fun ss => nzSs (rules.flatMap parsR ++ (rules.flatMap symsR).flatMap bindY) fun vn =>
  exC es fun mk => stC ss fun sr => nmC (raC (.agg [.list rules]) (ifB (factsB mk sr vn (namesR rules 0) n0 ps0 rules) k none) (namesR rules 0)) vn))
noncomputable def chkG (X : T) (k : O) : O := match X with
 | .agg [.list (.agg [.str n0, ps0, az0] :: gr)] => chkR n0 ps0 (.agg [.str n0, ps0, az0] :: gr) k
 | _ => none
end C
open Go Go.V Go.Proofs X E
namespace C
/-! ### What holds of every grammar -/
noncomputable def decC : Nat → O := Nat.rec (some (.bool true)) fun n ih => runB x104 [.int .i64 (.ofNat n)] (.str (G.decS n)) ih
theorem decC_some : ∀ {n : Nat}, decC n = some (.bool true) → ∀ i, i < n → ∀ σ, LD S 104 [.t (I i)] σ = some (.t (.str (G.decS i)), σ)
 | 0, h, i, hi => by omega
 | n + 1, h, i, hi => by
  obtain ⟨a1, h⟩ := runB_some e104 rfl (A := A104) rfl rfl (show runB x104 [.int .i64 (.ofNat n)] _ _ = some _ from h)
  by_cases e : i = n
  ·subst e; exact a1
  ·exact decC_some h i (by omega)
theorem dec_run : decC 100 = some (.bool true) := by kernel_rfl
theorem dec_ok : G.DecOk := fun n hn => decC_some dec_run n (by omega)
def intK : T → Option Int
 | .int .i64 n => some n
 | _ => none
theorem intK_eq {x : T} {n : Int} (h : intK x = some n) : x = I n := by
 unfold intK at h
 split at h
 ·cases h; rfl
 ·cases h
noncomputable def lenC : Nat → O := Nat.rec (some (.bool true)) fun n ih => run x76 [.int .u64 (.ofNat n)] fun a => onO (intK a) fun _ => ih
theorem lenC_some : ∀ {n : Nat}, lenC n = some (.bool true) → ∀ i, i < n → G.LenOk i
 | 0, h, i, hi => by omega
 | n + 1, h, i, hi => by
  obtain ⟨a, a1, h⟩ := run_some e76 rfl (A := A76) rfl rfl (show run x76 [.int .u64 (.ofNat n)] _ = some _ from h)
  obtain ⟨k, e1, h⟩ := onO_some h
  rw [intK_eq e1] at a1
  by_cases e : i = n
  ·subst e; exact ⟨k, a1⟩
  ·exact lenC_some h i (by omega)
theorem len_run : lenC 13 = some (.bool true) := by kernel_rfl
theorem len_ok : ∀ n, n ≤ 12 → G.LenOk n := fun n hn => lenC_some len_run n (by omega)
theorem chkR_ok {n0 : List Nat} {ps0 az0 : T} {gr : List T} {k : O} {r : T} (h : chkR n0 ps0 (.agg [.str n0, ps0, az0] :: gr) k = some r) : k = some r ∧ QS (.agg [.list (.agg [.str n0, ps0, az0] :: gr)]) := by
 unfold chkR at h
 generalize hR : T.agg [.str n0, ps0, az0] :: gr = rules at *
 obtain ⟨a1, h⟩ := runB_some e29 rfl (A := A29) rfl rfl h
 obtain ⟨a2, h⟩ := runB_some e23 rfl (A := A23) rfl rfl h
 rw [nzL_eq, nzSs_eq, nzSs_eq] at h
 obtain ⟨mk, h, b1⟩ := exC_some h
 obtain ⟨sr, h, b2⟩ := stC_some h
 obtain ⟨h, b3⟩ := nmC_some h
 obtain ⟨h, b4⟩ := raC_some h
 obtain ⟨e1, h⟩ := ifB_some h
 simp only [factsB, Bool.and_eq_true] at e1
 obtain ⟨f1, f2, f3, f4, f5, f6, f7⟩ := e1
 refine ⟨h, lookL sr, lookM mk, memB (rules.flatMap parsR ++ (rules.flatMap symsR).flatMap bindY), lookL (namesR rules 0), n0, ps0, az0, gr, by rw [hR], ?_, ?_⟩
 ·subst hR
  exact { sets := fun s rows hs => ⟨(b2 _ (lookL_some hs)).len, (b2 _ (lookL_some hs)).rowS⟩
          marks := ⟨fun x ms hs => (b1 _ (lookM_some hs)).okS, fun x ms hs => (b1 _ (lookM_some hs)).mkS⟩
          names := fun s hs => (b3 _ (memB_mem hs)).vnS
          rules := fun nm i hs => (b4 _ (lookL_some hs)).raS
          gok := a1
          right := f1
          ar := f2
          few := Nat.le_of_ble_eq_true f5
          first := by
           unfold firstB at f6
           split at f6
           ·assumption
           ·cases f6
          none_ := noneB_eq f7 }
 ·rw [hR]
  exact { fx := { sets := fun s rows hs => (b2 _ (lookL_some hs)).bytI
                  mks := ⟨fun x ms hs => (b1 _ (lookM_some hs)).okI, fun x ms hs => (b1 _ (lookM_some hs)).mkI, fun x ms hs => (b1 _ (lookM_some hs)).ops⟩
                  nm := fun s hs => (b3 _ (memB_mem hs)).vnI
                  nb := fun s hs => (b3 _ (memB_mem hs)).nb
                  ra := fun nm i hs => (b4 _ (lookL_some hs)).raI
                  dec := dec_ok }
          two := f3
          c := f4
          gok := a2
          len := len_ok }
theorem chkG_ok {X : T} {k : O} {r : T} (h : chkG X k = some r) : k = some r ∧ QS X := by
 unfold chkG at h
 split at h
 ·exact chkR_ok h
 ·cases h
/-! ### The pairs -/
def pairT : T → Option (List Nat × List Nat)
 | .tup [.str s, .str le] => some (s, le)
 | _ => none
def twoT : T → Option (T × T × T)
 | .tup [.agg [a, b], e] => some (a, b, e)
 | _ => none
def oneT : T → Option (T × T)
 | .tup [a, e] => some (a, e)
 | _ => none
theorem pairT_eq {x : T} {p : List Nat × List Nat} (h : pairT x = some p) : x = .tup [.str p.1, .str p.2] := by
 unfold pairT at h
 split at h
 ·cases h; rfl
 ·cases h
theorem twoT_eq {x : T} {p : T × T × T} (h : twoT x = some p) : x = .tup [.agg [p.1, p.2.1], p.2.2] := by
 unfold twoT at h
 split at h
 ·cases h; rfl
 ·cases h
theorem oneT_eq {x : T} {p : T × T} (h : oneT x = some p) : x = .tup [p.1, p.2] := by
 unfold oneT at h
 split at h
 ·cases h; rfl
 ·cases h
def leB (le : List Nat) : Bool := Nat.ble 1 le.length && (Nat.ble le.length 256 && bsB le)
/-- the pair of a number; what is made of its grammar is handed on -/
noncomputable def pairC (i : Nat) (k : T → O) : O := run x55 [.int .i64 (.ofNat i)] fun a => onO (pairT a) fun p => nzS p.1 fun s => nzS p.2 fun le => run x56 [.str s] fun b => onO (twoT b) fun q => nzT q.1 fun sa => nzT q.2.1 fun sb => run x57 [.agg [sa, sb]] fun c => onO (oneT c) fun g => nzT g.1 fun X => ifB (leB le) (k X) none
theorem pairC_some {i : Nat} {k : T → O} {r : T} (h : pairC i k = some r) (hk : ∀ X r, k X = some r → QS X) : ∃ s le sa sb e1 X e2, PairOk i s le sa sb e1 X e2 ∧ k X = some r := by
 obtain ⟨a, a1, h⟩ := run_some e55 rfl (A := A55) rfl rfl h
 obtain ⟨p, p1, h⟩ := onO_some h
 rw [nzS_eq, nzS_eq] at h
 obtain ⟨b, a2, h⟩ := run_some e56 rfl (A := A56) rfl rfl h
 obtain ⟨q, p2, h⟩ := onO_some h
 rw [nzT_eq, nzT_eq] at h
 obtain ⟨c, a3, h⟩ := run_some e57 rfl (A := A57) rfl rfl h
 obtain ⟨g, p3, h⟩ := onO_some h
 rw [nzT_eq] at h
 obtain ⟨e1, h⟩ := ifB_some h
 simp only [leB, Bool.and_eq_true] at e1
 rw [pairT_eq p1] at a1
 rw [twoT_eq p2] at a2
 rw [oneT_eq p3] at a3
 obtain ⟨SR, MK, VN, RA, n0, ps0, az0, gr, hX, hg, -⟩ := hk _ _ h
 exact ⟨p.1, p.2, q.1, q.2.1, q.2.2, g.1, g.2, ⟨a1, a2, a3, ⟨SR, MK, VN, RA, n0, ps0, az0, gr, hX, hg⟩, Nat.le_of_ble_eq_true e1.1, Nat.le_of_ble_eq_true e1.2.1, e1.2.2⟩, h⟩
noncomputable def spanC (i : Nat) : O := pairC i fun X => chkG X (some (.bool true))
theorem span_ok {i : Nat} (h : spanC i = some (.bool true)) : ∃ s le sa sb e1 X e2, PairOk i s le sa sb e1 X e2 ∧ QS X := by
 obtain ⟨s, le, sa, sb, e1, X, e2, h1, h2⟩ := pairC_some h (fun X r h => (chkG_ok h).2)
 exact ⟨s, le, sa, sb, e1, X, e2, h1, (chkG_ok h2).2⟩
end C
